/- Part 4 of the proof of TopAlerts: a small language for the program's functions, its soundness, and what the functions do. No conditions beyond the theorems' own. -/
import Derived.Test.YthhepmakjimhlabGreatCw3
import Derived.Shelf.GgSortFunc.SmallK
import Derived.Shelf.GgSortFunc.Tiny
import Derived.Shelf.SlSortFuncK.WholeK
import Derived.Shelf.Slices.In.SortNone2
import Derived.Shelf.Small.Bits
import Derived.Shelf.Sort.Plain
import Derived.Sort.WalkA14
set_option linter.unusedSimpArgs false
set_option linter.unusedVariables false
set_option maxRecDepth 20000
namespace Go.Cw
open Go Go.Sort Go.Proofs
def opnN (size next : Nat) (A : List Si) (k : Nat) : List Si := if next ≤ k then A.filter (fun s => decide (ep size s = k)) else []
structure PDq (g : Heap) (p size late now next : Nat) (A : List Si) (mw : Nat) (kv : List (Int × Value)) (bs : List Nat) (ck : Nat) : Prop where
  obj : objAt g ⟨p, 0, none⟩ [.int .i64 size, .int .i64 late, .int .i64 now, .int .i64 next, .map (some mw)]
  wm : MapB encKI id g mw kv bs ck
  pm : p ≠ mw
  no : ∀ k : Nat, look kv (k : Int) = none → opnN size next A k = []
  so : ∀ (n : Int) v, look kv n = some v → ∃ (k : Nat) (x : Nat), n = k ∧ blkOf v = some x ∧ x ≠ p ∧ x ≠ mw ∧ SlB Si.enc 4 g v (opnN size next A k)
  inj : ∀ n n' v v', look kv n = some v → look kv n' = some v' → blkOf v = blkOf v' → n = n'
theorem PDp.q {g : Heap} {p size late now : Nat} {A : List Si} {mw : Nat} {kv : List (Int × Value)} {bs : List Nat} {ck : Nat} (h : PDp g p size late now A mw kv bs ck) : PDq g p size late now (clos size late now) A mw kv bs ck := ⟨h.obj, h.wm, h.pm, h.no, h.so, h.inj⟩
theorem PDq.p {g : Heap} {p size late now : Nat} {A : List Si} {mw : Nat} {kv : List (Int × Value)} {bs : List Nat} {ck : Nat} (h : PDq g p size late now (clos size late now) A mw kv bs ck) : PDp g p size late now A mw kv bs ck := ⟨h.obj, h.wm, h.pm, h.no, h.so, h.inj⟩
theorem PDq.vsl {g : Heap} {p size late now next : Nat} {A : List Si} {mw : Nat} {kv : List (Int × Value)} {bs : List Nat} {ck : Nat} (hP : PDq g p size late now next A mw kv bs ck) (k : Nat) :
    SlB Si.enc 4 g (vof kv k) (opnN size next A k) ∧ blkOf (vof kv k) ≠ some p ∧ blkOf (vof kv k) ≠ some mw := by
  unfold vof
  cases hl : look kv (k : Int) with
  | none => rw [hP.no k hl]; exact ⟨SlB.nil, by simp [blkOf], by simp [blkOf]⟩
  | some v =>
    obtain ⟨k', x, e, h1, h2, h3, h4⟩ := hP.so _ _ hl
    obtain rfl : k = k' := oM
    exact ⟨h4, by simp [h1, h2], by simp [h1, h3]⟩
theorem PDq.setp {g : Heap} {p size late now next : Nat} {A : List Si} {mw : Nat} {kv : List (Int × Value)} {bs : List Nat} {ck : Nat} (hP : PDq g p size late now next A mw kv bs ck) {o : Obj} {now' next' : Nat} (ho : objAt (g.set p o) ⟨p, 0, none⟩ [.int .i64 size, .int .i64 late, .int .i64 now', .int .i64 next', .map (some mw)])
    (hn : ∀ k : Nat, look kv (k : Int) = none → opnN size next' A k = []) (hs : ∀ (n : Int) v, look kv n = some v → ∀ k : Nat, n = k → opnN size next' A k = opnN size next A k) : PDq (g.set p o) p size late now' next' A mw kv bs ck := by
  refine ⟨ho, ?_, hP.pm, hn, fun n v hv => ?_, hP.inj⟩
  · obtain ⟨es, q1, q2⟩ := hP.wm
    exact ⟨es, by rw [Heap.set_ne (Ne.symm hP.pm)]; exact q1, q2⟩
  · obtain ⟨k, x, e, h1, h2, h3, h4⟩ := hP.so n v hv
    refine ⟨k, x, e, h1, h2, h3, ?_⟩
    rw [hs n v hv k e]
    exact h4.same fun b hb => Heap.set_ne (by rintro rfl; rw [h1] at hb; exact h2 (by simpa using hb))
theorem Outs.step {Gf Gf' H H' : Heap} {v : Value} {L : List (Nat × List Si)} (a : Outs Gf H v L) (hk : ∀ b o, H b = some o → Gf b = none → H' b = some o) (hf : ∀ b, H b ≠ none → Gf b = none → Gf' b = none) : Outs Gf' H' v L := by
  obtain ⟨es, Z, h⟩ := a
  have hm : ∀ b, blkOf v = some b → H b ≠ none := fun b hb => h.sl.mem hb
  refine ⟨es, Z, h.sl.same fun b hb => ?_, fun b hb => ⟨hf b (hm b hb) (h.own b hb).1, (h.own b hb).2⟩, fun b o hb => hk b o (h.le b o hb) (h.fz b (by rw [hb]; simp)), fun b hb => hf b ?_ (h.fz b hb), h.len, h.el⟩
  · cases hh : H b with
    | none => exact absurd hh (hm b hb)
    | some o => exact hk b o hh (h.own b hb).1
  · cases hz : Z b with
    | none => exact absurd hz hb
    | some o => rw [h.le b o hz]; simp
def S34 (N : Num) : Spec := fun args h K => ∃ g p n, ∃ size late now : Nat, ∃ A, args = [.pointer (some ⟨p, 0, none⟩), .int .i64 n] ∧ PD g p size late now A ∧ Heap.le g h ∧ 0 < size ∧ size ≤ 1000 ∧ late ≤ 1000 ∧ now ≤ 1000 ∧ A.length ≤ 2000 ∧
  ((n < 0 ∨ 1000 - (now : Int) < n) → K (.tuple #[.slice none 0 0, errV N 1]) h) ∧
  (∀ m : Nat, n = m → now + m ≤ 1000 → ∀ g' h' v, Step g h g' h' → PD g' p size late (now + m) A → Outs (join (rest g h) g') h' v (closE size late now (now + m) A) → K (.tuple #[v, .nilIface]) h')
theorem F34_ok {N : Num} {Γ : Ctx} [GoodC Γ] (H62 : Sat S62 (Γ 62)) (H61 : Sat (S61 N Γ) (Γ 61)) : Sat (S34 N) (SF N Γ F34) := by
  rintro _ h K ⟨g, p, n, size, late, now, A, rfl, ⟨mw, kv, bs, ck, hP⟩, hg, hs1, hs2, hl, hn, hA, hK1, hK2⟩
  obtain ⟨c0, c1, c2, c3, c4⟩ := hP.read hg
  refine i_fun rfl ?_
  simp only [F34, Ze, Nat.reduceSub, Nat.reduceAdd]
  have hw0 : IntKind.i64.wrap (1000 - (now : Int)) = 1000 - (now : Int) := w64 oM oM
  refine sw2 @c2 @hw0 ?_
  refine i_cond (fun cc => ?_) (fun cc => ?_)
  · refine sw0 ?_
    exact hK1 oM
  obtain ⟨m, rfl⟩ : ∃ m : Nat, n = m := ⟨n.toNat, oM⟩
  have hm : now + m ≤ 1000 := oM
  have hK := hK2 m rfl hm
  clear hK1 hK2
  have hw1 : IntKind.i64.wrap ((now : Int) + m) = ((now + m : Nat) : Int) := by rw [w64 oM oM]; omega
  refine sw2 @c2 @hw1 ?_
  refine i_st (hP.obj.le hg) 2 1 rfl rfl oM (by simp) fun o hob _ => ?_
  have hgp : g p ≠ none := by obtain ⟨_, c, t, q, _⟩ := hP.obj; rw [q]; simp
  have ho1 : objAt (h.set p o) ⟨p, 0, none⟩ [.int .i64 size, .int .i64 late, .int .i64 (now + m : Nat), .int .i64 (clos size late now : Nat), .map (some mw)] := hob h rfl
  have ho1g : objAt (g.set p o) ⟨p, 0, none⟩ [.int .i64 size, .int .i64 late, .int .i64 (now + m : Nat), .int .i64 (clos size late now : Nat), .map (some mw)] := by
    refine objAt_kept ho1 fun o' ho' => ?_
    simp only [Heap.set, if_true] at ho' ⊢; exact ho'
  have hst := Step.set hg hgp o
  have hQ := hP.q.setp ho1g hP.q.no fun _ _ _ _ _ => rfl
  have hc01 : clos size late now ≤ clos size late (now + m) := Nat.div_le_div_right oM
  have hcl := clos_le (size := size) (late := late) (now := now + m)
  obtain ⟨e0, he0⟩ : ∃ c, c = clos size late now := ⟨_, rfl⟩
  obtain ⟨e1, he1⟩ : ∃ c, c = clos size late (now + m) := ⟨_, rfl⟩
  unfold closE at hK
  rw [← he0, ← he1] at hc01 hK
  rw [← he0] at hQ
  rw [← he1] at hcl
  clear hob ho1 ho1g c0 c1 c2 c3 c4
  generalize h.set p o = h1 at *
  generalize g.set p o = g1 at *
  refine sw0 ?_
  refine i_loop (fun x : Nat × Value => [some (.pointer (some ⟨p, 0, none⟩)), some (.int .i64 m), none, none, some x.2, none, none, none, none, none, none, none])
    (fun x H => e0 ≤ x.1 ∧ x.1 ≤ e1 ∧ ∃ g' kv bs ck, Step g h g' H ∧ PDq g' p size late (now + m) x.1 A mw kv bs ck ∧ Outs (join (rest g h) g') H x.2 ((List.range' e0 (x.1 - e0)).map fun k => (k, ofE size A k))) (fun x => e1 - x.1) (e0, .slice none 0 0) (by dsimp only; try simp only [Pf]) ⟨Nat.le_refl _, hc01, g1, kv, bs, ck, hst, hQ, by rw [Nat.sub_self]; exact Outs.nil⟩ ?_
  clear hQ hst
  rintro ⟨e, v⟩ H ⟨hee0, hee1, g2, kv, bs, ck, hSt, hQ, hO⟩
  dsimp only at hee0 hee1 hQ hO ⊢
  have hread := fun H (hl : Heap.le g2 H) => (hQ.obj.le hl).rules.1
  have d0 : H.cell ((⟨p, 0, none⟩ : Addr).add 0) = some (.int .i64 size) := hread H hSt.le 0 (by simp)
  have d1 : H.cell ((⟨p, 0, none⟩ : Addr).add 1) = some (.int .i64 late) := hread H hSt.le 1 (by simp)
  have d2 : H.cell ((⟨p, 0, none⟩ : Addr).add 2) = some (.int .i64 (now + m : Nat)) := hread H hSt.le 2 (by simp)
  have d3 : H.cell ((⟨p, 0, none⟩ : Addr).add 3) = some (.int .i64 (e : Nat)) := hread H hSt.le 3 (by simp)
  have d4 : H.cell ((⟨p, 0, none⟩ : Addr).add 4) = some (.map (some mw)) := hread H hSt.le 4 (by simp)
  have hwa : IntKind.i64.wrap ((e : Int) + 1) = ((e + 1 : Nat) : Int) := by rw [w64 oM oM]; omega
  have hbd : (e + 1) * size ≤ 1001 * 1000 := Nat.mul_le_mul oM hs2
  have hwb : IntKind.i64.wrap (((e + 1 : Nat) : Int) * (size : Int)) = (((e + 1) * size : Nat) : Int) := by rw [← Int.natCast_mul, w64 oM oM]
  have hwc : IntKind.i64.wrap ((((e + 1) * size : Nat) : Int) + late) = (((e + 1) * size + late : Nat) : Int) := by rw [w64 oM oM]; omega
  have hi := clos_iff (late := late) (now := now + m) (k := e) hs1
  refine sw7 @d0 @d1 @d2 @d3 @hwa @hwb @hwc ?_
  refine i_cond (fun c => ?_) (fun c => ?_)
  rotate_left
  · have h9 : ¬ e < clos size late (now + m) := fun h => c (by have := hi.2 h; omega)
    have : e = e1 := oM
    subst this
    refine sw0 ?_
    rw [he1] at hQ
    exact hK g2 H v hSt ⟨mw, kv, bs, ck, hQ.p⟩ hO
  have he2 : e < e1 := by have := hi.1 oM; omega
  have hlk := (hQ.wm.le hSt.le).lkpE (e : Int)
  obtain ⟨hvs, hvp, hvm⟩ := hQ.vsl e
  generalize hsv : vof kv (e : Int) = sv at *
  have OV := hvs.one
  refine sw3 @d3 @d4 @hlk ?_
  refine i_newO fun b5 H1 hle1 hb5 ho5 => ?_
  refine i_le (le_one hle1) ?_
  refine sw2 OV.1 OV.2 ?_
  have ho5' : objAt H1 ⟨b5, 0, none⟩ [.slice none 0 0] := ho5.le (fr_le _ _)
  refine i_st ho5' 0 1 (by rw [OV.2]; rfl) (by rw [OV.2]; simp [OV.1]) oM (by simp) fun o5 hob5 _ => ?_
  have q5 : objAt (H1.set b5 o5) ⟨b5, 0, none⟩ [sv] := by have := hob5 H1 rfl; simpa [OV.2] using this
  have hle2 : Heap.le H (H1.set b5 o5) := but.le (b := b5) hle1 hb5 fun x hx => Heap.set_ne hx
  generalize H1.set b5 o5 = H2 at *
  clear ho5 ho5' hob5
  have d32 : H2.cell ((⟨p, 0, none⟩ : Addr).add 3) = some (.int .i64 (e : Nat)) := cell_hmono hle2 d3
  have d42 : H2.cell ((⟨p, 0, none⟩ : Addr).add 4) = some (.map (some mw)) := cell_hmono hle2 d4
  refine sw2 @d32 @d42 ?_
  refine i_mdel (ek := encKI) (ev := (id : Value → Value)) hQ.wm (hSt.le.trans hle2) (e : Int) fun g3 H3 kv3 bs3 hm3 hle3 hlk3 hg3 hH3 => ?_
  have hgp2 : g2 p ≠ none := by obtain ⟨_, c, t, q, _⟩ := hQ.obj; rw [q]; simp
  have hgm2 : g2 mw ≠ none := by obtain ⟨es, q, _⟩ := hQ.wm; rw [q]; simp
  have hnn : ∀ b, g2 b ≠ none → H b ≠ none := fun b hb => by
    cases hh : g2 b with
    | none => exact absurd hh hb
    | some o => rw [hSt.le b o hh]; simp
  have hb5m : b5 ≠ mw := by rintro rfl; exact hnn _ hgm2 hb5
  have hb5v : blkOf sv ≠ some b5 := fun e' => hnn _ (hvs.mem e') hb5
  have q53 : objAt H3 ⟨b5, 0, none⟩ [sv] := objAt_kept q5 fun o ho => by rw [hH3 b5 hb5m]; exact ho
  have hvs3 : SlB Si.enc 4 H3 sv (opnN size e A e) := (hvs.le (hSt.le.trans hle2)).same fun b hb => hH3 b (by rintro rfl; exact hvm hb)
  have hQo3 : objAt H3 ⟨p, 0, none⟩ [.int .i64 size, .int .i64 late, .int .i64 (now + m : Nat), .int .i64 e, .map (some mw)] := objAt_kept (hQ.obj.le (hSt.le.trans hle2)) fun o ho => by rw [hH3 p hQ.pm]; exact ho
  obtain ⟨F, hF⟩ : ∃ F : Heap, F = fun b => if blkOf sv = some b then none else H3 b := ⟨_, rfl⟩
  have hFH : Heap.le F H3 := by
    intro b o hb; rw [hF] at hb; dsimp only at hb; split at hb
    · cases hb
    · exact hb
  have hRw : Rw F H3 sv (opnN size e A e).toArray := hvs3.own hFH fun b hb => by rw [hF]; simp [hb]
  have q5F : objAt F ⟨b5, 0, none⟩ [sv] := objAt_kept q53 fun o ho => by rw [hF]; simp [hb5v, ho]
  have hopl : (opnN size e A e).length ≤ 2000 := by
    unfold opnN; split
    · exact Nat.le_trans (List.length_filter_le _ _) hA
    · simp
  have hB53 : H3.cell ⟨b5, 0, none⟩ = some sv := q53.rules.2.1 (by simp)
  refine sw3 @hB53 OV.1 OV.2 ?_
  refine i_call H61 ⟨F, sv, N.fid 62, _, befS, (opnN size e A e).toArray, rfl, ?_, by simp; omega, befS_swo, hRw, fun H4 d' hR4 hpm hso hk4 => ?_⟩
  · intro G d i j K' hd hRG hi hj hK'
    have hcG : G.cell ⟨b5, 0, none⟩ = some sv := (q5F.le hRG.1).rules.2.1 (by simp)
    refine i_cal H62 ⟨b5, sv, d.toList, i, j, rfl, hcG, OwnS.sl Si.enc_len hRG, by simp; omega, by simp; omega, ?_⟩
    have e1 : ∀ i, i < d.size → d.toList.getD i default = d[i]! := fun i hi => by
      rw [getElem!_pos d i hi, List.getD_eq_getElem?_getD]; simp [hi]
    rw [e1 i oM, e1 j oM]
    exact hK' G (Heap.le.refl G)
  have hd' : d'.toList = ofE size A e := by
    have := sorted_ofL hpm hso
    rw [this]
    unfold opnN ofE
    rw [if_pos (Nat.le_refl e)]
  have hvs4 : SlB Si.enc 4 H4 sv (ofE size A e) := by rw [← hd']; exact (OwnS.slb hR4).1
  have hQo4 := objAt_kept hQo3 fun o ho => hk4 p o ho hvp
  have d34 : H4.cell ((⟨p, 0, none⟩ : Addr).add 3) = some (.int .i64 (e : Nat)) := hQo4.rules.1 3 (by simp)
  have hB54 : H4.cell ⟨b5, 0, none⟩ = some sv := (objAt_kept q53 fun o ho => hk4 b5 o ho hb5v).rules.2.1 (by simp)
  refine sw4 @d34 @hB54 OV.1 OV.2 ?_
  refine i_bslB encEp 2 encEp_len [(e, sv)] rfl rfl (by simp [maxLen]) fun x1 b1 H5 hle5 hb1 hx1 hS1 => ?_
  have O2 := hS1.one
  refine sw2 O2.1 O2.2 ?_
  obtain ⟨g4, hg4⟩ : ∃ g4 : Heap, g4 = fun b => if blkOf sv = some b then none else g3 b := ⟨_, rfl⟩
  obtain ⟨Z2, hZ2⟩ : ∃ Z2 : Heap, Z2 = fun b => if blkOf sv = some b then H5 b else none := ⟨_, rfl⟩
  have hsvg : ∀ b, blkOf sv = some b → g2 b ≠ none := fun b hb => hvs.mem hb
  have h35 : ∀ b o, H3 b = some o → blkOf sv ≠ some b → H5 b = some o := fun b o hb hne => hle5 b o (hk4 b o hb hne)
  have hH35 : ∀ b o, H b = some o → g2 b = none → H5 b = some o := fun b o hb hn => by
    refine h35 b o ?_ fun e' => hsvg b e' hn
    rw [hH3 b (by rintro rfl; exact hgm2 hn)]; exact hle2 b o hb
  have hg34 : ∀ b, g2 b = none → g4 b = none := fun b hn => by
    rw [hg4]; dsimp only; rw [if_neg fun e' => hsvg b e' hn, hg3 b (by rintro rfl; exact hgm2 hn)]; exact hn
  have hrf : ∀ b o, rest g h b = some o → g2 b = none ∧ H b = some o := fun b o hb => by
    unfold rest at hb
    split at hb
    · rename_i hgb
      exact ⟨hSt.fresh b (by rw [hb]; simp) hgb, hSt.frame b o hb hgb⟩
    · cases hb
  have hO5 : Outs (join (rest g h) g4) H5 v ((List.range' e0 (e - e0)).map fun k => (k, ofE size A k)) := by
    refine hO.step (fun b o hb hn => ?_) fun b hb hn => ?_
    · refine hH35 b o hb ?_
      simp only [join] at hn
      cases hr : rest g h b with
      | some o' => rw [hr] at hn; simp at hn
      | none => rw [hr] at hn; simpa using hn
    · simp only [join] at hn
      cases hr : rest g h b with
      | some o' => rw [hr] at hn; simp at hn
      | none => rw [hr] at hn; exact join_none hr (hg34 b (by simpa using hn))
  have hg45 : Heap.le g4 H5 := by
    intro b o hb; rw [hg4] at hb; dsimp only at hb; split at hb
    · cases hb
    · rename_i hne; exact h35 b o (hle3 b o hb) hne
  have hr5 : Heap.le (rest g h) H5 := fun b o hb => by obtain ⟨q1, q2⟩ := hrf b o hb; exact hH35 b o q2 q1
  have hvg : ∀ b, blkOf v = some b → g2 b = none := fun b hb => by
    obtain ⟨es, Z, hP⟩ := hO
    have hn := (hP.own b hb).1
    simp only [join] at hn
    cases hr : rest g h b with
    | some o' => rw [hr] at hn; simp at hn
    | none => rw [hr] at hn; simpa using hn
  refine i_push (Gf := join (rest g h) g4) (Z2 := Z2) (n := e) (sv := sv) (l := ofE size A e) hO5 (SlB.sl encEp_len (hS1.le (fr_le _ _))) (join_le hr5 hg45) ?_ (fun b hb => ?_) (fun b hb => ?_) ?_ OV.1 (by simp; omega) fun v' H6 hO6 hk6 => ?_
  · intro b o hb; rw [hZ2] at hb; dsimp only at hb; split at hb
    · exact hb
    · cases hb
  · rw [hZ2] at hb
    dsimp only at hb
    split at hb
    · rename_i hsb
      refine join_none ?_ (by rw [hg4]; dsimp only; rw [if_pos hsb])
      cases hr : rest g h b with
      | none => rfl
      | some o' => exact absurd (hrf b o' hr).1 (hsvg b hsb)
    · exact absurd rfl hb
  · rw [hZ2]; dsimp only; rw [if_neg fun e' => hsvg b e' (hvg b hb)]
  · exact SlB.sl Si.enc_len ((hvs4.le hle5).same fun b hb => by rw [hZ2]; simp [hb])
  have hvp6 : blkOf v ≠ some p := fun e' => hgp2 (hvg p e')
  have hQo6 := objAt_kept (hQo4.le hle5) fun o ho => hk6 p o ho hvp6
  have d36 : H6.cell ((⟨p, 0, none⟩ : Addr).add 3) = some (.int .i64 (e : Nat)) := hQo6.rules.1 3 (by simp)
  refine sw2 @d36 @hwa ?_
  refine i_st hQo6 3 1 rfl rfl oM (by simp) fun o7 hob7 _ => ?_
  have ho7 : objAt (H6.set p o7) ⟨p, 0, none⟩ [.int .i64 size, .int .i64 late, .int .i64 (now + m : Nat), .int .i64 (e + 1 : Nat), .map (some mw)] := hob7 H6 rfl
  have hg4p : g4 p ≠ none := by rw [hg4]; dsimp only; rw [if_neg hvp, hg3 p hQ.pm]; exact hgp2
  have hg46 : Heap.le g4 H6 := fun b o hb => hk6 b o (hg45 b o hb) fun e' => by rw [hg34 b (hvg b e')] at hb; cases hb
  refine sw0 ?_
  refine k_loop (e + 1, v') dM (by dsimp only; try simp only [Pf]) ⟨dM, dM, g4.set p o7, kv3, bs3, ck, ⟨?_, fun b o hb hn => ?_, fun b hb hn => ?_⟩, ⟨?_, ?_, hQ.pm, fun k hk => ?_, fun n u hu => ?_, fun n n' u u' hu hu' he => ?_⟩, ?_⟩
  · intro b o hb
    by_cases e' : b = p
    · subst e'; simp only [Heap.set, if_true] at hb ⊢; exact hb
    · rw [Heap.set_ne e'] at hb ⊢; exact hg46 b o hb
  · have h1 := hSt.fresh b (by rw [hb]; simp) hn
    have h2 := hSt.frame b o hb hn
    rw [Heap.set_ne (by rintro rfl; exact hgp2 h1)]
    refine hk6 b o (hH35 b o h2 h1) fun e' => ?_
    obtain ⟨es, Z, hP⟩ := hO
    have h3 := (hP.own b e').1
    have h4 : rest g h b = some o := by unfold rest; rw [if_pos hn]; exact hb
    simp [join, h4] at h3
  · have h1 := hSt.fresh b hb hn
    rw [Heap.set_ne (by rintro rfl; exact hgp2 h1)]; exact hg34 b h1
  · refine objAt_kept ho7 fun o' ho' => ?_
    simp only [Heap.set, if_true] at ho' ⊢; exact ho'
  · obtain ⟨es, q1, q2⟩ := hm3
    refine ⟨es, ?_, q2⟩
    rw [Heap.set_ne (Ne.symm hQ.pm), hg4]; dsimp only; rw [if_neg hvm]; exact q1
  · rw [hlk3] at hk
    unfold opnN
    by_cases hke : k = e
    · subst hke; rw [if_neg oM]
    · rw [if_neg oM] at hk
      have := hQ.no k hk
      unfold opnN at this
      by_cases hc : e + 1 ≤ k
      · rw [if_pos hc]; rw [if_pos oM] at this; exact this
      · rw [if_neg hc]
  · rw [hlk3] at hu
    split at hu
    · cases hu
    · rename_i hne
      obtain ⟨k, x, e', q1, q2, q3, q4⟩ := hQ.so n u hu
      refine ⟨k, x, e', q1, q2, q3, ?_⟩
      have hopk : opnN size (e + 1) A k = opnN size e A k := by
        unfold opnN
        by_cases hc : e + 1 ≤ k
        · rw [if_pos hc, if_pos oM]
        · rw [if_neg hc, if_neg oM]
      rw [hopk]
      refine q4.same fun b hb => ?_
      have hbx : b = x := by rw [q1] at hb; exact (Option.some.inj hb).symm
      subst hbx
      rw [Heap.set_ne q2, hg4]
      dsimp only
      rw [if_neg fun e'' => hne ?_, hg3 b q3]
      rw [← hsv] at e''
      unfold vof at e''
      cases hl : look kv (e : Int) with
      | none => rw [hl] at e''; simp [blkOf] at e''
      | some w => rw [hl] at e''; exact hQ.inj n e u w hu hl (by rw [q1]; exact e''.symm)
  · rw [hlk3] at hu hu'
    split at hu
    · cases hu
    · split at hu'
      · cases hu'
      · exact hQ.inj n n' u u' hu hu' he
  · dsimp only
    rw [show e + 1 - e0 = (e - e0) + 1 by omega, range'_snoc, List.map_append, show e0 + (e - e0) = e by omega]
    refine hO6.step (fun b o hb hn => ?_) fun b hb hn => ?_
    · rw [Heap.set_ne]
      · exact hb
      · rintro rfl
        simp only [join] at hn
        cases hr : rest g h b with
        | some o' => rw [hr] at hn; simp at hn
        | none => rw [hr] at hn; exact hg4p (by simpa using hn)
    · simp only [join] at hn
      cases hr : rest g h b with
      | some o' => rw [hr] at hn; simp at hn
      | none =>
        rw [hr] at hn
        have hn' : g4 b = none := by simpa using hn
        exact join_none hr (by rw [Heap.set_ne (by rintro rfl; exact hg4p hn')]; exact hn')
end Go.Cw
namespace Go.Cw
open Go Go.Sort Go.Proofs
def EpsR (h : Heap) (v : Value) (L : List (Nat × List Si)) : Prop := ∃ es : List (Nat × Value), Sl encEp h v es ∧ es.length = L.length ∧ ∀ i, i < L.length → (es.getD i default).1 = (L.getD i default).1 ∧ Sl Si.enc h (es.getD i default).2 (L.getD i default).2
theorem Outs.epsR {Gf H : Heap} {v : Value} {L : List (Nat × List Si)} (a : Outs Gf H v L) : EpsR H v L := by
  obtain ⟨es, Z, h⟩ := a
  exact ⟨es, SlB.sl encEp_len h.sl, h.len, fun i hi => ⟨(h.el i hi).1, (h.el i hi).2.1.le h.le⟩⟩
theorem EpsR.nil {h : Heap} : EpsR h (.slice none 0 0) [] := ⟨[], Sl.nil, rfl, fun i hi => by simp at hi⟩
end Go.Cw
namespace Go.Cw
open Go
structure K2 (h H gt gm F : Heap) : Prop where
  hF : Heap.le h F
  lF : Heap.le F H
  lt : Heap.le gt H
  lm : Heap.le gm H
  dtm : disj gt gm
  dtF : disj gt F
  dmF : disj gm F
theorem K2.le {h H gt gm F : Heap} (k : K2 h H gt gm F) : Heap.le h H := k.hF.trans k.lF
theorem K2.more {h H gt gm F H' : Heap} (k : K2 h H gt gm F) (hl : Heap.le H H') : K2 h H' gt gm F :=
  ⟨k.hF, k.lF.trans hl, k.lt.trans hl, k.lm.trans hl, k.dtm, k.dtF, k.dmF⟩
end Go.Cw
namespace Go.Cw
open Go Go.Sort Go.Proofs
theorem disj_frE {g h h' : Heap} (hg : Heap.le g h) : disj g (fr h h') := by
  intro b hb
  cases e : g b with
  | none => exact absurd e hb
  | some o => exact fr_none (hg b o e)
structure Ac where
  kind : List UInt8
  n : Int
  s : List UInt8
  x : Si
  deriving Inhabited
def Ac.enc (a : Ac) : List Value := [.string (str a.kind), .int .i64 a.n, .string (str a.s), .int .i64 a.x.place, .int .i64 a.x.strength, .int .i64 a.x.time, .string (str a.x.tag)]
theorem Ac.enc_len (a : Ac) : a.enc.length = 7 := rfl
theorem rest_disj {g h F : Heap} (hF : Heap.le F h) (hd : disj F g) : Heap.le F (rest g h) := by
  intro b o hb
  unfold rest
  rw [if_pos (hd b (by rw [hb]; simp))]; exact hF b o hb
end Go.Cw
namespace Go.Cw
open Go Go.Sort Go.Proofs
theorem flat4 : ∀ (l : List Si) (t : Nat), t < l.length * 4 → (l.flatMap Si.enc)[t]? = some ((Si.enc (l.getD (t / 4) default)).getD (t % 4) undef) := by
  intro l
  induction l with
  | nil => intro t h; simp at h
  | cons x l ih =>
    intro t h
    rw [List.flatMap_cons]
    by_cases ht : t < 4
    · rw [List.getElem?_append_left (by rw [Si.enc_len]; exact ht)]
      have h1 : t / 4 = 0 := oM
      have h2 : t % 4 = t := oM
      rw [h1, h2, List.getD_cons_zero, List.getElem?_eq_getElem (by rw [Si.enc_len]; exact ht), List.getD_eq_getElem?_getD, List.getElem?_eq_getElem (by rw [Si.enc_len]; exact ht)]
      rfl
    · rw [List.getElem?_append_right (by rw [Si.enc_len]; omega), Si.enc_len, ih (t - 4) (by simp only [List.length_cons] at h; omega)]
      have h1 : t / 4 = (t - 4) / 4 + 1 := oM
      have h2 : t % 4 = (t - 4) % 4 := oM
      rw [h1, h2, List.getD_cons_succ]
theorem getBang (l : List Value) (i : Nat) (h : i < l.length) : l[i]! = l.getD i undef := by
  rw [List.getElem!_eq_getElem?_getD, List.getD_eq_getElem?_getD, List.getElem?_eq_getElem h]; rfl
theorem flatK_at (d : Array Si) (t : Nat) (h : t < d.size * 4) : (flatK Si.enc 4 d)[t]! = (Si.enc (d.toList.getD (t / 4) default)).getD (t % 4) undef := by
  rw [get_flatK _ _ _ _ h]
  have h1 : t / 4 < d.size := oM
  have h2 : d[t / 4]! = d.toList.getD (t / 4) default := by
    rw [getElem!_pos d _ h1, List.getD_eq_getElem?_getD]
    simp [h1]
  rw [h2]
  have h3 : t % 4 < (Si.enc (d.toList.getD (t / 4) default)).length := by rw [Si.enc_len]; omega
  exact getBang _ _ h3
theorem Rw.blk {F h : Heap} {v : Value} {d : Array Si} (a : Rw F h v d) (hn : d.size ≠ 0) : ∃ b c t cap, v = .slice (some ⟨b, 0, none⟩) d.size cap ∧ h b = some (.cells c t (0, 0)) ∧ d.size * 4 ≤ c.size ∧ (∀ i, i < d.size * 4 → c[i]? = some ((flatK Si.enc 4 d)[i]!)) ∧ c.size = cap * 4 ∧ cap ≤ maxLen ∧ d.size ≤ cap ∧ F b = none := by
  obtain ⟨a0, ad, cap, rfl, h1, h2, h3⟩ := a
  simp only [Array.length_toList] at h1
  rcases h3 with ⟨_, e, _⟩ | ⟨b, c, t, rfl, hF, hb, hcs, hc⟩
  · exact absurd (by simpa using e) hn
  · refine ⟨b, c, t, cap, by simp, hb, oM, fun i hi => ?_, hcs, h2, h1, hF⟩
    have hl : (d.toList.flatMap Si.enc).length = d.size * 4 := by rw [flat_len Si.enc_len]; simp
    rw [hc i (by rw [hl]; exact hi), flat4 _ _ (by simpa using hi), flatK_at _ _ hi]
theorem Rw.holds {h : Heap} {w : World} {d : Array Si} {b : Nat} {c : Array Value} {t : TypeId} (hs : h.sub w) (hb : h b = some (.cells c t (0, 0))) (hc : ∀ i, i < d.size * 4 → c[i]? = some ((flatK Si.enc 4 d)[i]!)) : HoldsK Si.enc 4 w b 0 d := by
  intro j hj
  rw [size_flatK] at hj
  have hwb := hs b _ hb
  constructor
  · simp only [World.cell?, hwb, Nat.zero_add]
    rw [hc j hj]; rfl
  · simp [World.frozen?, hwb]
theorem Rw.lay {F h : Heap} {w : World} {v : Value} {d d' : Array Si} {b cap : Nat} {c : Array Value} {t : TypeId} (a : Rw F h v d) (hv : v = .slice (some ⟨b, 0, none⟩) d.size cap) (hs : h.sub w) (hb : h b = some (.cells c t (0, 0))) (hcs : c.size = cap * 4) (hcap : cap ≤ maxLen) (hdc : d.size ≤ cap) (hsz : d'.size = d.size) (hF : F b = none) :
    ∃ h', Rw F h' v d' ∧ kv v h h' ∧ WStep h h' w (putRowK Si.enc 4 w b 0 d') := by
  have hwb := hs b _ hb
  have hlt := (Array.getElem?_eq_some_iff.1 hwb).1
  refine ⟨h.set b (.cells (putCells id 0 (flatK Si.enc 4 d') c) t (0, 0)), ⟨?_, some ⟨b, 0, none⟩, cap, by rw [hv]; simp [hsz], by simp [hsz]; exact hdc, hcap, .inr ⟨b, putCells id 0 (flatK Si.enc 4 d') c, t, rfl, hF, by simp [Heap.set], by simp only [putCells, Array.size_mapIdx]; exact hcs, fun i hi => ?_⟩⟩, fun x o hx hne => ?_, ⟨fun x o hx => ?_, ?_, rfl, rfl, rfl, fun x hx hn => ⟨?_, ?_⟩⟩⟩
  · intro x o hx
    have : x ≠ b := by rintro rfl; rw [hF] at hx; cases hx
    rw [Heap.set_ne this]; exact a.1 x o hx
  · have hl : (d'.toList.flatMap Si.enc).length = d'.size * 4 := by rw [flat_len Si.enc_len]; simp
    rw [hl] at hi
    rw [flat4 _ _ (by simpa using hi)]
    have hic : i < c.size := oM
    simp only [putCells, Array.getElem?_mapIdx, Array.getElem?_eq_getElem hic, Option.map_some]
    rw [if_pos ⟨oM, by rw [size_flatK]; omega⟩, Nat.sub_zero, flatK_at _ _ hi]; rfl
  · have : x ≠ b := by rintro rfl; rw [hv] at hne; exact hne rfl
    rw [Heap.set_ne this]; exact hx
  · by_cases e : x = b
    · subst e
      simp only [Heap.set, if_true] at hx
      cases hx
      simp [putRowK, Go.Sort.putRow, mapBlock, Array.getElem?_modify, hwb, onCells]
    · rw [Heap.set_ne e] at hx
      have hwx := hs x o hx
      simp [putRowK, Go.Sort.putRow, mapBlock, Array.getElem?_modify, hwx, Ne.symm e]
  · simp [putRowK]
  · have : x ≠ b := by rintro rfl; rw [hn] at hb; cases hb
    rw [Heap.set_ne this]; exact hn
  · have e : x ≠ b := by rintro rfl; rw [hn] at hb; cases hb
    simp [putRowK, Go.Sort.putRow, mapBlock, Array.getElem?_modify, Ne.symm e]
theorem FC.fb {P : Program} {f : FuncId} {args : List Value} {h : Heap} {K : Value → Heap → Prop} {w : World} (hc : FC P f args h K) (hs : h.sub w) {fn : Func} (hn : P.funcs[f]? = some fn) (hb : (fn.body.isNone || fn.name == "runtime.NumGoroutine") = false) :
    Calls P f args.toArray w fun e w' => ∃ v h', e = .returned v ∧ K v h' ∧ WStep h h' w w' := by
  simp only [Bool.or_eq_false_iff] at hb
  rcases hc with hc | hc
  · exact hc.2 w hs
  · exfalso
    obtain ⟨v, h', w', h1, _⟩ := hc w hs
    have hn' : fn.name ≠ "runtime.NumGoroutine" := by simpa using hb.2
    obtain ⟨c, hc⟩ : ∃ c, fn.body = some c := by
      cases hh : fn.body with
      | none => rw [hh] at hb; simp at hb
      | some c => exact ⟨c, rfl⟩
    simp [callFunc, program, Sem.run, hn, hn', hc] at h1
theorem WStep.growW {h : Heap} {w : World} (hs : h.sub w) (os : Array Obj) : WStep h h w (grow w os) := by
  refine ⟨fun x o hx => ?_, by rw [size_grow]; omega, rfl, rfl, rfl, fun x hx hn => ⟨hn, heap_grow_old _ _ hx⟩⟩
  have := hs x o hx
  rw [heap_grow_old _ _ (Array.getElem?_eq_some_iff.1 this).1]; exact this
theorem swapperK_two (n : Nat) (ie : TypeInfo) (ke : Nat) (h : 2 ≤ n) : Go.Lib.swapperK n ie ke = Go.Lib.swapperK 2 ie ke := by
  unfold Go.Lib.swapperK
  have h0 : (n == 0) = false := by simp; omega
  have h1 : (n == 1) = false := by simp; omega
  rw [h0, h1]; rfl
theorem c61_of {P : Program} {N : Num} {ρ : Go.Shelf.Ren} (L : LaysGg.n6 P ρ) (e : TypeId) (i ie : TypeInfo) (hi : P.info? (N.tid 64) = some i) (hd : i.desc = .slice e) (hpk : P.packed (N.tid 64) = false) (hie : P.info? e = some ie) (ke : Nat) (hke : ∀ w, (Extern.Rtype.kind e).run P w = .ok ke w)
    (h77 : N.fid 77 = ρ.f 14) (c77 : ∀ n, Sat (S77 N (GF P N) n) (GF P N 77)) {fn : Func} (hfn : P.funcs[ρ.f 14]? = some fn) (hbody : (fn.body.isNone || fn.name == "runtime.NumGoroutine") = false)
    (f1 f2 k9 : Nat) (hf1 : P.funcs.findIdx? (·.name == "internal/reflectlite" ++ ".Swapper$" ++ toString (Go.Lib.swapperK 0 ie ke)) = some f1) (hf2 : P.funcs.findIdx? (·.name == "internal/reflectlite" ++ ".Swapper$" ++ toString (Go.Lib.swapperK 1 ie ke)) = some f2)
    (hf9 : P.funcs.findIdx? (·.name == "internal/reflectlite" ++ ".Swapper$" ++ toString (Go.Lib.swapperK 2 ie ke)) = some (N.fid k9))
    (hs1 : ie.size = 4) (hagg : ∀ w, (isAgg e).run P w = .ok true w) (gS : Bool) (hx : ∀ args W, (callFunc (N.fid k9) args).run P W = ((Extern.ReflectliteSwapper.swap gS args).run P W).andThen fun v w' => .ok (.value v) w') :
    ∀ args h K, S61 N (GF P N) args h K → ∀ w, h.sub w → Calls P (ρ.f 6) args.toArray w fun e w' => ∃ v h', e = .returned v ∧ K v h' ∧ WStep h h' w w' := by
  rintro _ h K ⟨F, v, fl, cl, lt, d, rfl, hless, hsz, hO, hR, hK⟩ w hs
  by_cases h2 : 2 ≤ d.size
  rotate_left
  · obtain ⟨_, a, cap, rfl, _⟩ := id hR
    have hn1 : d.toList.length ≤ 1 := by simp; omega
    obtain ⟨f, hf⟩ : ∃ f, P.funcs.findIdx? (·.name == "internal/reflectlite" ++ ".Swapper$" ++ toString (Go.Lib.swapperK d.toList.length ie ke)) = some f := by
      rcases Nat.le_one_iff_eq_zero_or_eq_one.1 hn1 with e | e <;> rw [e]
      · exact ⟨f1, hf1⟩
      · exact ⟨f2, hf2⟩
    refine (Any.sort_Slice_tiny L (N.tid 64) e i ie hi hd hpk hie ke hke a d.toList.length cap hn1 f hf (.func fl) #[] cl w).mono ?_
    rintro e' w' ⟨rfl, os, rfl⟩
    exact ⟨_, h, rfl, hK h d hR (permIn_refl d 0 d.size) (fun i j _ h1 h2' => by omega) kv.refl, WStep.growW hs os⟩
  obtain ⟨b, c, t, cap, hv, hb, hcs1, hc, hcs, hcap, hdc, hF⟩ := hR.blk oM
  have hf9' := hf9
  rw [← swapperK_two d.size ie ke h2] at hf9'
  rw [hv]
  have hB : sliceBound P e ie ke (some ⟨b, 0, none⟩) d.size cap = #[.slice (some ⟨b, 0, none⟩) d.size cap, typeHandle P e] := by
    unfold sliceBound; rw [if_neg (swapperK_gt _ _ _ h2)]
  have hW : sliceWorld P ρ (N.tid 64) (some ⟨b, 0, none⟩) d.size cap w = grow w #[.cells #[.slice (some ⟨b, 0, none⟩) d.size cap] (N.tid 64), .cells #[.pointer (some ⟨P.globals.size, N.tid 64, none⟩), .pointer (some ⟨w.heap.size, 0, none⟩), .int .u64 151] (ρ.t 35)] := by
    unfold sliceWorld; rw [alloc_eq_grow, alloc_eq_grow, grow_grow]; rfl
  have hp := Any.sort_Slice_of_pdq L (N.tid 64) e i ie hi hd hpk hie ke hke (some ⟨b, 0, none⟩) d.size cap oM (N.fid k9) hf9' (.func fl) #[] cl w (fun w' => ∃ h', K (.tuple #[]) h' ∧ WStep h h' w w') ?_
  · refine hp.mono ?_
    rintro e' w' ⟨rfl, h', h1, h2⟩
    exact ⟨_, h', rfl, h1, h2⟩
  rw [hB]
  generalize hos : sliceWorld P ρ (N.tid 64) (some ⟨b, 0, none⟩) d.size cap w = W at *
  have hstep : WStep h h w W := by rw [hW]; exact WStep.growW hs _
  have hSo : So N (GF P N) F v fl (N.fid k9) cl #[.slice (some ⟨b, 0, none⟩) d.size cap, typeHandle P e] lt d.size := by
    refine ⟨hless, fun H dk i' j' K' hdk hRk hi' hj' hK' => ?_, hsz⟩
    refine ⟨k9, rfl, rfl, .inr fun W2 hs2 => ?_⟩
    obtain ⟨b', c', t', cap', hv', hb', hcs1', hc', hcs', hcap', hdc', hF'⟩ := hRk.blk oM
    rw [hv] at hv'
    simp only [Value.slice.injEq, Option.some.injEq, Addr.mk.injEq, and_true] at hv'
    obtain ⟨rfl, _, rfl⟩ := hv'
    have hH := Rw.holds (d := dk) hs2 hb' hc'
    have hsw := swapSwapsK_of_literal gS (N.fid k9) hx e ie hie Si.enc 4 Si.enc_len hs1 hagg (fun x v hv => by simp [Si.enc] at hv; rcases hv with rfl | rfl | rfl | rfl <;> rfl) b 0 d.size cap W2 dk hH hdk i' j' hi' hj'
    have hswp := swap_worldK Si.enc 4 Si.enc_len W2 0 0 b 0 dk i' j' oM oM
    have hself := putRowK_self Si.enc 4 W2 b 0 dk hH
    obtain ⟨H', hR', hk', hst⟩ := Rw.lay (d' := swp dk i' j') hRk (by rw [hv, hdk]) hs2 hb' hcs' hcap' hdc' (size_swp _ _ _) hF'
    refine ⟨.tuple #[], H', putRowK Si.enc 4 W2 b 0 (swp dk i' j'), ?_, hK' H' hR' hk', hst⟩
    have e0 : (putRowK Si.enc 4 (Go.Sort.ahead W2 0) b 0 dk).drewN 0 = W2 := by rw [ahead_zero, hself]; rfl
    rw [e0] at hswp
    rw [hswp] at hsw
    exact hsw
  have hlim : Go.Lib.bitLen d.size ≤ 1000 := Nat.le_trans (Go.Lib.bitLen_le d.size 62 oM oM) oM
  have hfc := c77 d.size [.agg #[.func (.func fl) #[] cl, .func (.func (N.fid k9)) #[] #[.slice (some ⟨b, 0, none⟩) d.size cap, typeHandle P e]], .int .i64 (0 : Nat), .int .i64 d.size, .int .i64 (Go.Lib.bitLen d.size)] h (fun v' h' => v' = .tuple #[] ∧ K (.tuple #[]) h')
    ⟨F, v, fl, N.fid k9, cl, _, lt, d, 0, d.size, Go.Lib.bitLen d.size, rfl, hSo, hO, hR, Nat.zero_le _, Nat.le_refl _, oM, hlim, Or.inl rfl, fun h' hR' hkv => ⟨rfl, ?_⟩⟩
  · have hcl := FC.fb (w := W) hfc hstep.sub (by rw [h77]; exact hfn) hbody
    rw [h77] at hcl
    refine hcl.mono ?_
    rintro e' w' ⟨v', h', rfl, ⟨rfl, hk⟩, hst⟩
    exact ⟨rfl, h', hk, hstep.trans hst⟩
  · obtain ⟨p1, p2⟩ := pdq_sorts lt hO d 0 d.size (Go.Lib.bitLen d.size) true true (Nat.zero_le _) (Nat.le_refl _) (Or.inl rfl)
    exact hK h' _ hR' p1 p2 hkv
end Go.Cw
namespace Go.Cw
open Go
def acTy : Ty := .cons .str (.cons .int (.cons .str (.cons rdTy .nil)))
theorem mat_ac {w : World} (cs : List Value) (h : Mat w acTy cs) : ∃ x : Ac, True ∧ cs = x.enc := by
  obtain ⟨k, _, rfl, _, h1⟩ := mat_str h
  obtain ⟨n, _, rfl, h2⟩ := mat_int h1
  obtain ⟨s, _, rfl, _, h3⟩ := mat_str h2
  obtain ⟨x, y, rfl, h4, h5⟩ := h3
  obtain ⟨si, _, rfl⟩ := mat_si x h4
  cases h5
  exact ⟨⟨k, n, s, si⟩, trivial, by simp [Ac.enc, Si.enc]⟩
theorem mat_acs {w : World} {v : Value} (h : Mat w (.sl acTy) [v]) : ∃ L : List Ac, Sl Ac.enc (full w) v L := by
  obtain ⟨L, h1, _⟩ := mat_sl mat_ac h
  exact ⟨L, h1⟩
theorem c76_of {P : Program} {ρ : Go.Shelf.Ren} (Ly : Go.Proofs.Lays.n125 P ρ) : ∀ args h K, S76 args h K → ∀ w, h.sub w → Calls P (ρ.f 125) args.toArray w fun e w' => ∃ v h', e = .returned v ∧ K v h' ∧ WStep h h' w w' := by
  rintro _ h K ⟨n, rfl, hn, hK⟩ w hs
  refine (Go.Proofs.Any.bits_Len Ly n w oM oM).mono ?_
  rintro e w' ⟨rfl, rfl⟩
  refine ⟨_, h, rfl, ?_, WStep.refl hs⟩
  rw [Int.toNat_natCast, Go.Proofs.bitLen_eq n oM]
  exact hK
end Go.Cw
namespace Go.Cw
open Go
def Rd.bytes (r : Rd) : List UInt8 := [b8 r.ant, b8 r.str, b8 r.age] ++ r.tag
def Fr.body (f : Fr) : List UInt8 := if f.ty = 3 then [b8 f.warm] else f.reads.flatMap Rd.bytes
def Fr.front (f : Fr) : List UInt8 := [165, b8 f.body.length, b8 f.ty] ++ f.body
def bsumN (l : List UInt8) : Nat := (l.map (·.toNat)).sum
def Fr.bytes (f : Fr) : List UInt8 := f.front ++ [b8 (255 - (bsumN f.front : Int) % 256)]
theorem bytes_len : ∀ (l : List Rd), (∀ r ∈ l, r.tag.length = 8) → (l.flatMap Rd.bytes).length = l.length * 11 := by
  intro l
  induction l with
  | nil => intro _; rfl
  | cons r l ih =>
    intro h
    have h1 := h r (by simp)
    rw [List.flatMap_cons, List.length_append, ih fun r hr => h r (by simp [hr])]
    simp only [Rd.bytes, List.length_append, List.length_cons, List.length_nil, h1]
    omega
theorem bsum_eq (l : List UInt8) : bsum l = bsumN l % 256 := by
  have : ∀ (l : List UInt8) (a : Nat), l.foldl (fun a b => (a + b.toNat) % 256) (a % 256) = (a + bsumN l) % 256 := by
    intro l
    induction l with
    | nil => intro a; simp [bsumN]
    | cons x l ih =>
      intro a
      simp only [List.foldl_cons]
      have := ih (a % 256 + x.toNat)
      rw [this]
      simp only [bsumN, List.map_cons, List.sum_cons]
      omega
  have := this l 0
  simpa [bsum] using this
theorem Fr.fine {f : Fr} (hf : f.fault = 0) : 1 ≤ f.ty ∧ f.ty ≤ 3 ∧ f.reads.length ≤ 4 ∧ (∀ r ∈ f.reads, ¬ r.bad) ∧ 0 ≤ f.warm ∧ f.warm ≤ 255 ∧ (f.ty ≠ 1 → f.reads = []) ∧ (f.ty ≠ 3 → f.warm = 0) := by
  unfold Fr.fault at hf
  repeat' split at hf
  all_goals first | (simp at hf; done) | skip
  rename_i h1 h2 h3 h4 h5
  refine ⟨oM, oM, oM, fun r hr hb => h5 ⟨r, hr, hb⟩, oM, oM, fun h => ?_, oM⟩
  exact List.eq_nil_of_length_eq_zero oM
end Go.Cw
namespace Go.Cw
open Go
theorem FrV.le {h h' : Heap} (hl : Heap.le h h') {v : Value} {f : Fr} (hv : FrV h v f) : FrV h' v f := by
  obtain ⟨s, h1, h2⟩ := hv
  exact ⟨s, h1, h2.le hl⟩
end Go.Cw
namespace Go.Cw
open Go
theorem Rd.eqv (h : Heap) : (∀ a b : Rd, o2V h (.eqv (.flat [.int, .int, .int, .str]) true) (.v (.agg a.enc.toArray)) (.v (.agg b.enc.toArray)) = some (.v (.bool (decide (a ≠ b))))) ∧
    (∀ a b : Rd, o2V h (.eqv (.flat [.int, .int, .int, .str]) false) (.v (.agg a.enc.toArray)) (.v (.agg b.enc.toArray)) = some (.v (.bool (decide (a = b))))) := by
  have key : ∀ a b : Rd, cellsEq [.int, .int, .int, .str] a.enc b.enc = some (decide (a = b)) := by
    rintro ⟨a1, a2, a3, a4⟩ ⟨b1, b2, b3, b4⟩
    simp only [Rd.enc, cellsEq_int, cellsEq_str, cellsEq_nil, Rd.mk.injEq]
    by_cases e1 : a1 = b1 <;> by_cases e2 : a2 = b2 <;> by_cases e3 : a3 = b3 <;> by_cases e4 : a4 = b4 <;> simp [e1, e2, e3, e4]
  constructor <;> (intro a b; simp [o2V, eqV, key])
structure FrR where
  ty : Int
  sv : Value
  warm : Int
  deriving Inhabited
def FrR.enc (r : FrR) : List Value := [.int .i64 r.ty, r.sv, .int .i64 r.warm]
def FrR.ok (h : Heap) (r : FrR) (f : Fr) : Prop := r.ty = f.ty ∧ r.warm = f.warm ∧ Sl Rd.enc h r.sv f.reads
def FrsV (h : Heap) (v : Value) (fs : List Fr) : Prop := ∃ rs : List FrR, Sl FrR.enc h v rs ∧ rs.length = fs.length ∧ ∀ i, i < fs.length → FrR.ok h (rs.getD i default) (fs.getD i default)
theorem FrsV.le {h h' : Heap} (hl : Heap.le h h') {v : Value} {f : List Fr} (hv : FrsV h v f) : FrsV h' v f := by
  obtain ⟨rs, h1, h2, h3⟩ := hv
  exact ⟨rs, h1.le hl, h2, fun i hi => let ⟨a, b, c⟩ := h3 i hi; ⟨a, b, c.le hl⟩⟩
end Go.Cw
namespace Go.Cw
open Go
def rdOf (b : List UInt8) : Rd := ⟨(b.getD 0 0).toNat, (b.getD 1 0).toNat, (b.getD 2 0).toNat, (b.drop 3).take 8⟩
def rds : Nat → List UInt8 → List Rd
  | 0, _ => []
  | n + 1, b => rdOf b :: rds n (b.drop 11)
def Fr.zero : Fr := ⟨0, [], 0⟩
def decode (ty : Nat) (b : List UInt8) : Fr := ⟨ty, if ty = 1 then rds (b.length / 11) b else [], if ty = 3 ∧ b.length = 1 then (b.getD 0 0).toNat else 0⟩
def fAt (s : List UInt8) : Option (Fr × Nat) :=
  if s.length < 4 ∨ s.getD 0 0 ≠ 165 ∨ 44 < (s.getD 1 0).toNat ∨ s.length < 4 + (s.getD 1 0).toNat then none
  else
    let n := (s.getD 1 0).toNat
    let f := decode (s.getD 2 0).toNat ((s.drop 3).take n)
    if f.fault ≠ 0 ∨ f.bytes ≠ s.take (4 + n) then none else some (f, 4 + n)
def begins (s : List UInt8) : Prop := if s.length = 1 then s.getD 0 0 = 165 else s.getD 0 0 = 165 ∧ (s.getD 1 0).toNat ≤ 44 ∧ s.length < 4 + (s.getD 1 0).toNat
instance (s : List UInt8) : Decidable (begins s) := by unfold begins; infer_instance
def bodyOf (kind : Nat) (b : List UInt8) : Option Fr :=
  if kind = 1 ∧ b.length % 11 = 0 ∧ b.length ≤ 44 then
    if ∀ r ∈ rds (b.length / 11) b, r.ant < 4 then some ⟨1, rds (b.length / 11) b, 0⟩ else none
  else if kind = 2 ∧ b = [] then some ⟨2, [], 0⟩
  else if kind = 3 ∧ b.length = 1 then some ⟨3, [], (b.getD 0 0).toNat⟩
  else none
def first (s : List UInt8) : Option (Fr × Nat) × Bool :=
  if s.getD 0 0 ≠ 165 then (none, false)
  else if s.length < 2 then (none, true)
  else
    let n := 4 + (s.getD 1 0).toNat
    if 48 < n then (none, false)
    else if s.length < n then (none, true)
    else if 255 - bsum (s.take (n - 1)) ≠ (s.getD (n - 1) 0).toNat then (none, false)
    else ((bodyOf (s.getD 2 0).toNat ((s.take (n - 1)).drop 3)).map fun f => (f, n), false)
theorem rds_bytes : ∀ (n : Nat) (b : List UInt8), n * 11 ≤ b.length → (rds n b).flatMap Rd.bytes = b.take (n * 11) := by
  intro n
  induction n with
  | zero => intro b _; simp [rds]
  | succ n ih =>
    intro b hb
    have hl : 11 ≤ b.length := oM
    simp only [rds, List.flatMap_cons]
    rw [ih _ (by rw [List.length_drop]; omega)]
    have e : b.take ((n + 1) * 11) = b.take 11 ++ (b.drop 11).take (n * 11) := by
      rw [show (n + 1) * 11 = 11 + n * 11 by omega, List.take_add]
    rw [e]
    congr 1
    match b, hl with
    | b0 :: b1 :: b2 :: r, _ => simp [rdOf, Rd.bytes, b8_u]
theorem rds_length : ∀ (n : Nat) (b : List UInt8), (rds n b).length = n := by
  intro n
  induction n with
  | zero => intro b; rfl
  | succ n ih => intro b; simp [rds, ih]
theorem rds_fine : ∀ (n : Nat) (b : List UInt8), n * 11 ≤ b.length → ∀ r ∈ rds n b, 0 ≤ r.ant ∧ 0 ≤ r.str ∧ r.str ≤ 255 ∧ 0 ≤ r.age ∧ r.age ≤ 255 ∧ r.tag.length = 8 := by
  intro n
  induction n with
  | zero => intro b _ r hr; simp [rds] at hr
  | succ n ih =>
    intro b hb r hr
    simp only [rds, List.mem_cons] at hr
    rcases hr with rfl | hr
    · have h1 := (b.getD 1 0).toNat_lt
      have h2 := (b.getD 2 0).toNat_lt
      simp only [rdOf, List.length_take, List.length_drop]
      omega
    · exact ih _ (by rw [List.length_drop]; omega) r hr
theorem front_bytes (f : Fr) (n : Nat) (hn : n ≤ 44) (ty ck : UInt8) (B : List UInt8) (hB : B.length = n) (hty : f.ty = ty.toNat) :
    f.bytes = [165, UInt8.ofNat n, ty] ++ B ++ [ck] ↔ f.body = B ∧ ck.toNat = 255 - bsum ([165, UInt8.ofNat n, ty] ++ B) := by
  have hb : b8 f.ty = ty := by rw [hty, b8_u]
  have hn8 : b8 (n : Int) = UInt8.ofNat n := by
    apply UInt8.toNat_inj.1
    have := b8_val (n : Int)
    simp; omega
  have hs : ∀ m : Nat, b8 (255 - (m : Int) % 256) = ck ↔ ck.toNat = 255 - m % 256 := by
    intro m
    rw [← UInt8.toNat_inj]
    have := b8_val (255 - (m : Int) % 256)
    omega
  constructor
  · intro h
    have hl := congrArg List.length h
    simp only [Fr.bytes, Fr.front, List.length_append, List.length_cons, List.length_nil] at hl
    have hl2 : f.body.length = n := oM
    have hfr : f.front = [165, UInt8.ofNat n, ty] ++ f.body := by simp only [Fr.front, hl2, hb, hn8]
    simp only [Fr.bytes, hfr, List.cons_append, List.nil_append, List.cons.injEq, true_and] at h
    have h3 := List.append_inj h oM
    refine ⟨h3.1, ?_⟩
    rw [bsum_eq, ← h3.1]
    exact (hs _).1 (by simpa using h3.2)
  · rintro ⟨h1, h2⟩
    have hfr : f.front = [165, UInt8.ofNat n, ty] ++ B := by simp only [Fr.front, h1, hB, hb, hn8]
    simp only [Fr.bytes, hfr]
    rw [bsum_eq] at h2
    rw [(hs _).2 h2]
theorem Fr.fault_zero {f : Fr} : f.fault = 0 ↔ 1 ≤ f.ty ∧ f.ty ≤ 3 ∧ (f.ty ≠ 1 → f.reads = []) ∧ (f.ty ≠ 3 → f.warm = 0) ∧ 0 ≤ f.warm ∧ f.warm ≤ 255 ∧ f.reads.length ≤ 4 ∧ ∀ r ∈ f.reads, ¬ r.bad := by
  constructor
  · intro h
    obtain ⟨h1, h2, h3, h4, h5, h6, h7, h8⟩ := Fr.fine h
    exact ⟨h1, h2, h7, h8, h5, h6, h3, h4⟩
  · rintro ⟨h1, h2, h7, h8, h5, h6, h3, h4⟩
    unfold Fr.fault
    rw [if_neg oM, if_neg, if_neg oM, if_neg oM, if_neg]
    · rintro ⟨r, hr, hb⟩; exact h4 r hr hb
    · rintro (⟨a, b⟩ | ⟨a, b⟩)
      · rw [h7 a] at b; simp at b
      · exact b (h8 a)
theorem body_law (ty : UInt8) (B : List UInt8) (hn : B.length ≤ 44) : ((decode ty.toNat B).fault = 0 ∧ (decode ty.toNat B).body = B → bodyOf ty.toNat B = some (decode ty.toNat B)) ∧
    (¬ ((decode ty.toNat B).fault = 0 ∧ (decode ty.toNat B).body = B) → bodyOf ty.toNat B = none) := by
  by_cases t1 : ty.toNat = 1
  · have hd : decode ty.toNat B = ⟨1, rds (B.length / 11) B, 0⟩ := by simp [decode, t1]
    have hbody : (⟨1, rds (B.length / 11) B, 0⟩ : Fr).body = B.take (B.length / 11 * 11) := by
      simp only [Fr.body]
      rw [if_neg (by decide), rds_bytes _ _ (Nat.div_mul_le_self _ _)]
    have hfine := rds_fine (B.length / 11) B (Nat.div_mul_le_self _ _)
    have hb2 : B.take (B.length / 11 * 11) = B ↔ B.length % 11 = 0 := by
      constructor
      · intro h; have := congrArg List.length h; rw [List.length_take] at this; omega
      · intro h; exact List.take_of_length_le oM
    have hf : (⟨1, rds (B.length / 11) B, 0⟩ : Fr).fault = 0 ↔ ∀ r ∈ rds (B.length / 11) B, r.ant < 4 := by
      rw [Fr.fault_zero]
      simp only [rds_length]
      constructor
      · rintro ⟨_, _, _, _, _, _, _, h⟩ r hr
        have := h r hr; simp only [Rd.bad] at this; omega
      · intro h
        refine ⟨by decide, by decide, by intro h; exact absurd rfl h, by intro _; trivial, by decide, by decide, oM, ?_⟩
        intro r hr hb
        have h1 := hfine r hr; have h2 := h r hr
        simp only [Rd.bad] at hb; omega
    rw [hd, hbody, hb2, hf]
    simp only [bodyOf, t1, hn, true_and, and_true]
    constructor
    · rintro ⟨h1, h2⟩; rw [if_pos h2, if_pos h1]
    · intro h
      by_cases h2 : B.length % 11 = 0
      · rw [if_pos h2, if_neg (fun h1 => h ⟨h1, h2⟩)]
      · rw [if_neg h2]; simp
  · by_cases t2 : ty.toNat = 2
    · have hd : decode ty.toNat B = ⟨2, [], 0⟩ := by simp [decode, t2]
      have hbody : (⟨2, [], 0⟩ : Fr).body = [] := by simp [Fr.body]
      have hf : (⟨2, [], 0⟩ : Fr).fault = 0 := by decide
      rw [hd, hbody, hf]
      simp only [bodyOf, t2, true_and]
      constructor
      · intro h; rw [if_neg oM, if_pos h.symm]
      · intro h; rw [if_neg oM, if_neg (fun e => h e.symm), if_neg oM]
    · by_cases t3 : ty.toNat = 3
      · simp only [bodyOf, t3]
        by_cases hl : B.length = 1
        · have hd : decode 3 B = ⟨3, [], (B.getD 0 0).toNat⟩ := by simp [decode, hl]
          rw [hd]
          have h0 := (B.getD 0 0).toNat_lt
          have hbody : (⟨3, [], (B.getD 0 0).toNat⟩ : Fr).body = B := by
            match B, hl with
            | [x], _ => simp [Fr.body, b8_u]
          have hf : (⟨3, [], (B.getD 0 0).toNat⟩ : Fr).fault = 0 := by
            rw [Fr.fault_zero]; exact ⟨dM, dM, by intro _; rfl, by intro h; exact absurd rfl h, dM, dM, by simp, by intro r hr; simp at hr⟩
          rw [hbody, hf]
          simp [hl]
        · have hd : decode 3 B = ⟨3, [], 0⟩ := by simp [decode, hl]
          rw [hd]
          have : ¬ ((⟨3, [], 0⟩ : Fr).fault = 0 ∧ (⟨3, [], 0⟩ : Fr).body = B) := by
            rintro ⟨_, h⟩; rw [← h] at hl; simp [Fr.body] at hl
          simp [this, hl]
      · have : ¬ ((decode ty.toNat B).fault = 0 ∧ (decode ty.toNat B).body = B) := by
          rintro ⟨h, _⟩
          rw [Fr.fault_zero] at h
          simp only [decode] at h
          omega
        simp [this, bodyOf, t1, t2, t3]
theorem first_law (s : List UInt8) (hs : s ≠ []) : (first s).1 = fAt s ∧ (fAt s = none → ((first s).2 = true ↔ begins s)) ∧ (fAt s ≠ none → (first s).2 = false) := by
  have hl : 0 < s.length := List.length_pos_iff.2 hs
  by_cases h0 : s.getD 0 0 = 165
  rotate_left
  · have e1 : first s = (none, false) := by unfold first; rw [if_pos h0]
    have e2 : fAt s = none := by unfold fAt; rw [if_pos (.inr (.inl h0))]
    have e3 : ¬ begins s := by unfold begins; split; exact h0; intro h; exact h0 h.1
    rw [e1, e2]; simp [e3]
  by_cases h1 : s.length < 2
  · have e1 : first s = (none, true) := by unfold first; rw [if_neg (fun e => e h0), if_pos h1]
    have e2 : fAt s = none := by unfold fAt; rw [if_pos (.inl oM)]
    have e3 : begins s := by unfold begins; rw [if_pos oM]; exact h0
    rw [e1, e2]; simp [e3]
  by_cases h2 : 44 < (s.getD 1 0).toNat
  · have e1 : first s = (none, false) := by unfold first; rw [if_neg (fun e => e h0), if_neg h1]; simp only; rw [if_pos oM]
    have e2 : fAt s = none := by unfold fAt; rw [if_pos oM]
    have e3 : ¬ begins s := by unfold begins; rw [if_neg oM]; omega
    rw [e1, e2]; simp [e3]
  by_cases h3 : s.length < 4 + (s.getD 1 0).toNat
  · have e1 : first s = (none, true) := by unfold first; rw [if_neg (fun e => e h0), if_neg h1]; simp only; rw [if_neg oM, if_pos h3]
    have e2 : fAt s = none := by unfold fAt; rw [if_pos oM]
    have e3 : begins s := by unfold begins; rw [if_neg oM]; exact ⟨h0, oM, h3⟩
    rw [e1, e2]; simp [e3]
  have e3 : ¬ begins s := by unfold begins; rw [if_neg oM]; omega
  have hn : (s.getD 1 0).toNat ≤ 44 := oM
  generalize hnn : (s.getD 1 0).toNat = n at *
  have hB : ((s.drop 3).take n).length = n := by simp only [List.length_take, List.length_drop]; omega
  have hs1 : s.take (4 + n) = [165, UInt8.ofNat n, s.getD 2 0] ++ (s.drop 3).take n ++ [s.getD (3 + n) 0] := by
    have h4 : s.take (4 + n) = s.take (3 + n) ++ [s.getD (3 + n) 0] := by rw [show 4 + n = (3 + n) + 1 by omega, take_succ_d 0 oM]
    have h5 : s.take (3 + n) = s.take 3 ++ (s.drop 3).take n := by rw [List.take_add]
    have h6 : s.take 3 = [165, UInt8.ofNat n, s.getD 2 0] := by
      match s, h1, h3 with
      | [a, b], _, h3 => simp at h3; omega
      | a :: b :: c :: r, _, _ => simp at h0 hnn ⊢; exact ⟨h0, by rw [← hnn]; simp⟩
    rw [h4, h5, h6]
  have hs2 : s.take (4 + n - 1) = [165, UInt8.ofNat n, s.getD 2 0] ++ (s.drop 3).take n := by
    have : s.take (4 + n - 1) = (s.take (4 + n)).take (3 + n) := by rw [List.take_take, show min (3 + n) (4 + n) = 4 + n - 1 by omega]
    rw [this, hs1, List.take_left' (by simp only [List.length_append, List.length_cons, List.length_nil, hB] <;> omega)]
  have hs3 : (s.take (4 + n - 1)).drop 3 = (s.drop 3).take n := by rw [hs2]; rfl
  have law := body_law (s.getD 2 0) ((s.drop 3).take n) oM
  have fb := front_bytes (decode (s.getD 2 0).toNat ((s.drop 3).take n)) n hn (s.getD 2 0) (s.getD (3 + n) 0) _ hB rfl
  rw [← hs1] at fb
  have e1 : first s = if 255 - bsum (s.take (4 + n - 1)) ≠ (s.getD (4 + n - 1) 0).toNat then (none, false) else ((bodyOf (s.getD 2 0).toNat ((s.take (4 + n - 1)).drop 3)).map fun f => (f, 4 + n), false) := by
    unfold first; rw [if_neg (fun e => e h0), if_neg h1]; simp only [hnn]; rw [if_neg oM, if_neg oM]
  have e2 : fAt s = if (decode (s.getD 2 0).toNat ((s.drop 3).take n)).fault ≠ 0 ∨ (decode (s.getD 2 0).toNat ((s.drop 3).take n)).bytes ≠ s.take (4 + n) then none else some (decode (s.getD 2 0).toNat ((s.drop 3).take n), 4 + n) := by
    unfold fAt; rw [if_neg (by rw [hnn]; rintro (h | h | h | h); omega; exact h h0; omega; omega)]; simp only [hnn]
  rw [show 4 + n - 1 = 3 + n by omega] at e1 hs2 hs3
  rw [hs3, hs2] at e1
  rw [e1, e2]
  by_cases hc : (s.getD (3 + n) 0).toNat = 255 - bsum ([165, UInt8.ofNat n, s.getD 2 0] ++ (s.drop 3).take n)
  · rw [if_neg oM]
    by_cases hb : (decode (s.getD 2 0).toNat ((s.drop 3).take n)).fault = 0 ∧ (decode (s.getD 2 0).toNat ((s.drop 3).take n)).body = (s.drop 3).take n
    · rw [law.1 hb, if_neg]
      · simp
      · simp only [ne_eq, fb]; rw [hb.1, hb.2]; simp; exact hc
    · rw [law.2 hb, if_pos]
      · simp [e3]
      · simp only [ne_eq, fb]
        by_cases hf : (decode (s.getD 2 0).toNat ((s.drop 3).take n)).fault = 0
        · exact .inr fun h => hb ⟨hf, h.1⟩
        · exact .inl hf
  · rw [if_pos oM, if_pos]
    · simp [e3]
    · simp only [ne_eq, fb]; exact .inr fun h => hc h.2
end Go.Cw
namespace Go.Cw
open Go
theorem rds_get : ∀ (n : Nat) (b : List UInt8) (j : Nat), j < n → (rds n b).getD j default = rdOf (b.drop (j * 11)) := by
  intro n
  induction n with
  | zero => intro b j hj; omega
  | succ n ih =>
    intro b j hj
    cases j with
    | zero => simp [rds]
    | succ j =>
      have := ih (b.drop 11) j oM
      rw [List.drop_drop, show 11 + j * 11 = (j + 1) * 11 by omega] at this
      simpa [rds] using this
theorem rds_take (n : Nat) (b : List UInt8) (j : Nat) (hj : j < n) : (rds n b).take (j + 1) = (rds n b).take j ++ [rdOf (b.drop (j * 11))] := by
  rw [take_succ_d default (by rw [rds_length]; exact hj), rds_get n b j hj]
theorem u8_165 (b : UInt8) : b = 165 ↔ b.toNat = 165 := by rw [← UInt8.toNat_inj]; rfl
theorem zeroV (h : Heap) : FrV h (.agg #[.int .i64 0, .slice none 0 0, .int .i64 0]) Fr.zero := ⟨_, rfl, Sl.nil⟩
theorem Rd.enc_len (r : Rd) : r.enc.length = 4 := rfl
theorem Rd.enc_one (r : Rd) : r.enc.all one = true := rfl
theorem wrap_u8 (b : UInt8) : IntKind.i64.wrap (b.toNat : Int) = (b.toNat : Int) := by
  have := b.toNat_lt
  exact w64 oM oM
theorem OwnS.slf {α : Type} {enc : α → List Value} {sz : Nat} (he : ∀ x, (enc x).length = sz) {h0 h : Heap} {v : Value} {l : List α} (ho : OwnS enc sz h0 h v l) : Sl enc (fr h0 h) v l := by
  obtain ⟨_, a, cap, h1, h2, _, h3⟩ := ho
  refine ⟨a, cap, h1, h2, ?_⟩
  rcases h3 with ⟨_, h4, _⟩ | ⟨b, c, t, h4, h4', h5, h6, h7⟩
  · exact .inl h4
  · refine .inr ⟨_, h4, rfl, c, t, _, by simp only [fr, h4']; exact h5, ?_, ?_⟩
    · rw [flat_len he, h6]
      have := Nat.mul_le_mul_right sz h2
      simpa using this
    · intro i hi
      simpa using h7 i hi
def S72 : Spec := fun args h K => ∃ (k : Nat) (b : List UInt8), args = [.int .i64 k, .string (str b)] ∧ b.length < 2 ^ 62 ∧
  ∀ v h', Heap.le h h' → FrV (fr h h') v ((bodyOf k b).getD Fr.zero) → K (.tuple #[v, .bool (bodyOf k b).isSome]) h'
set_option maxRecDepth 4000 in
theorem F72_ok {N : Num} {Γ : Ctx} [GoodC Γ] : Sat S72 (SF N Γ F72) := by
  rintro _ h K ⟨k, b, rfl, hb, hK⟩
  refine i_fun rfl ?_
  simp only [F72, Ze, Nat.reduceSub, Nat.reduceAdd]
  refine sw0 ?_
  have em : Int.tmod (b.length : Int) 11 = ((b.length % 11 : Nat) : Int) := by rw [Int.tmod_eq_emod_of_nonneg oM]; omega
  rw [em]
  refine i_meet_cond_blk (fun env h' => ∃ f v, Heap.le h h' ∧ FrV (fr h h') v f ∧ bodyOf k b = some f ∧ env = [none, none, some (.agg #[.int .i64 0, .slice none 0 0, .int .i64 0]), none, some v, none, none, none, none, none, none, none, none, none]) ?_ ?_
  · rintro env h' ⟨f, v, hle, ⟨sv, rfl, hs⟩, hbo, rfl⟩
    refine sw1 @hs.one ?_
    rw [hbo] at hK
    exact hK _ h' hle ⟨sv, rfl, hs⟩
  · refine i_cond (fun c1 => ?_) (fun c1 => ?_)
    · have hk : k = 1 := oM
      have hm : b.length % 11 = 0 := oM
      have hl : b.length ≤ 44 := oM
      have hbo : bodyOf k b = if ∀ r ∈ rds (b.length / 11) b, r.ant < 4 then some (⟨1, rds (b.length / 11) b, 0⟩ : Fr) else none := by
        unfold bodyOf; rw [if_pos ⟨hk, hm, hl⟩]
      refine sw0 ?_
      refine i_loop (fun (s : Nat × Value) => [none, some (.string (str (b.drop (s.1 * 11)))), some (.agg #[.int .i64 0, .slice none 0 0, .int .i64 0]), none, some (.agg #[.int .i64 k, s.2, .int .i64 0]), none, none, none, none, none, none, none, none, none])
        (fun s h' => s.1 ≤ b.length / 11 ∧ OwnS Rd.enc 4 h h' s.2 ((rds (b.length / 11) b).take s.1) ∧ ∀ j, j < s.1 → ((rds (b.length / 11) b).getD j default).ant < 4) (fun s => b.length / 11 - s.1) (0, .slice none 0 0)
        (by try simp only [Pf]; rfl) ⟨dM, OwnS.nil (Heap.le.refl _), by intro j hj; dsimp only at hj; omega⟩ ?_
      rintro ⟨j, v⟩ h' ⟨hj, ho, hg⟩
      dsimp only at hj ho hg
      refine sw0 ?_
      refine i_cond (fun c2 => ?_) (fun c2 => ?_)
      · have hj2 : j < b.length / 11 := by
          have : (b.drop (j * 11)).length ≠ 0 := by intro h0; exact c2 (List.eq_nil_of_length_eq_zero h0)
          simp only [List.length_drop] at this
          omega
        have hdl : (b.drop (j * 11)).length = b.length - j * 11 := List.length_drop
        refine sw1 @wrap_u8 ?_
        refine i_cond (fun c3 => ?_) (fun c3 => ?_)
        · refine sw0 ?_
          have : bodyOf k b = none := by
            rw [hbo, if_neg]
            intro h4
            have h5 := h4 _ (getD_mem default (l := rds (b.length / 11) b) (i := j) (by rw [rds_length]; omega))
            rw [rds_get _ _ _ hj2] at h5
            simp only [rdOf] at h5
            omega
          rw [this] at hK
          exact hK _ h' ho.1 (zeroV _)
        · refine sw1 @wrap_u8 ?_
          refine i_bslS Rd.enc 4 Rd.enc_len [rdOf (b.drop (j * 11))] (by simp [Rd.enc, rdOf, List.take_drop]) rfl (by simp [maxLen]) fun v1 h1 hle1 ho1 => ?_
          refine sw0 ?_
          refine i_le (le_one hle1) ?_
          refine sw0 ?_
          have hlt := List.length_take_le j (rds (b.length / 11) b)
          refine i_app Rd.enc_len Rd.enc_one (ho.le hle1) (ho1.sl Rd.enc_len) (by simp only [List.length_cons, List.length_nil]; omega) fun v2 h2 ho2 => ?_
          refine sw1 @ho2.one ?_
          refine k_loop (j + 1, v2) dM ?_ ⟨dM, ?_, ?_⟩
          · try simp only [Pf]
            rw [List.take_of_length_le (by rw [hdl]; omega), List.drop_drop, show j * 11 + 11 = (j + 1) * 11 by omega]
          · dsimp only; rw [rds_take _ _ _ hj2]; exact ho2
          · intro i hi
            dsimp only at hi
            by_cases e : i = j
            · subst e; rw [rds_get _ _ _ hj2]; simp only [rdOf]; omega
            · exact hg i oM
      · refine sw0 ?_
        have hj2 : j = b.length / 11 := by
          have := congrArg List.length (show b.drop (j * 11) = [] by simpa using c2)
          simp only [List.length_drop, List.length_nil] at this
          omega
        subst hj2
        refine k_meet _ ?_ ⟨⟨1, rds (b.length / 11) b, 0⟩, .agg #[.int .i64 1, v, .int .i64 0], ho.1, ?_, ?_, rfl⟩
        rotate_left
        · refine ⟨v, rfl, ?_⟩
          have := ho.slf Rd.enc_len
          rwa [List.take_of_length_le (by rw [rds_length]; omega)] at this
        · rw [hbo, if_pos]
          intro r hr
          obtain ⟨i, hi, rfl⟩ := List.getElem_of_mem hr
          rw [rds_length] at hi
          have := hg i hi
          rwa [List.getD_eq_getElem?_getD, List.getElem?_eq_getElem (by rw [rds_length]; exact hi)] at this
        · try simp only [Pf]; rw [hk]; rfl
    · refine sw0 ?_
      refine i_cond (fun c2 => ?_) (fun c2 => ?_)
      · refine sw0 ?_
        refine k_meet _ ?_ ⟨⟨2, [], 0⟩, .agg #[.int .i64 2, .slice none 0 0, .int .i64 0], Heap.le.refl _, ⟨_, rfl, Sl.nil (a := none) (c := 0)⟩, ?_, rfl⟩
        · try simp only [Pf]; rw [show k = 2 by omega]; rfl
        · unfold bodyOf; rw [if_neg oM, if_pos ⟨oM, c2.2⟩]
      · refine sw0 ?_
        refine i_cond (fun c3 => ?_) (fun c3 => ?_)
        · refine sw1 @wrap_u8 ?_
          refine k_meet _ ?_ ⟨⟨3, [], (b.getD 0 0).toNat⟩, .agg #[.int .i64 3, .slice none 0 0, .int .i64 (b.getD 0 0).toNat], Heap.le.refl _, ⟨_, rfl, Sl.nil (a := none) (c := 0)⟩, ?_, rfl⟩
          · try simp only [Pf]; rw [show k = 3 by omega]; rfl
          · unfold bodyOf; rw [if_neg oM, if_neg (by rintro ⟨h1, h2⟩; omega), if_pos oM]
        · refine sw0 ?_
          have : bodyOf k b = none := by
            unfold bodyOf; rw [if_neg oM, if_neg (by rintro ⟨h1, h2⟩; exact c2 ⟨oM, h2⟩), if_neg oM]
          rw [this] at hK
          exact hK _ h (Heap.le.refl _) (zeroV _)
end Go.Cw
namespace Go.Cw
open Go
def S57 : Spec := fun args h K => ∃ (s : List UInt8), args = [.string (str s)] ∧ s ≠ [] ∧ s.length < 2 ^ 62 ∧
  ∀ v h', Heap.le h h' → FrV (fr h h') v (((first s).1.map (·.1)).getD Fr.zero) → K (.tuple #[v, .int .i64 (((first s).1.map (·.2)).getD 0 : Nat), .bool (first s).2]) h'
theorem F57_ok {N : Num} {Γ : Ctx} [GoodC Γ] (H56 : Sat S56 (Γ 56)) (H72 : Sat S72 (Γ 72)) : Sat S57 (SF N Γ F57) := by
  rintro _ h K ⟨s, rfl, hne, hb, hK⟩
  have hl : 0 < s.length := List.length_pos_iff.2 hne
  refine i_fun rfl ?_
  simp only [F57, Ze, Nat.reduceSub, Nat.reduceAdd]
  refine sw0 ?_
  refine i_cond (fun c1 => ?_) (fun c1 => ?_)
  · refine sw0 ?_
    have : first s = (none, false) := by unfold first; rw [if_pos (by rw [Ne, u8_165]; omega)]
    rw [this] at hK
    exact hK _ h (Heap.le.refl _) (zeroV _)
  have c1' : s.getD 0 0 = 165 := by rw [u8_165]; omega
  refine sw0 ?_
  refine i_cond (fun c2 => ?_) (fun c2 => ?_)
  · refine sw0 ?_
    have : first s = (none, true) := by unfold first; rw [if_neg (fun e => e c1'), if_pos oM]
    rw [this] at hK
    exact hK _ h (Heap.le.refl _) (zeroV _)
  have hn := (s.getD 1 0).toNat_lt
  have hf : first s = if 48 < 4 + (s.getD 1 0).toNat then (none, false) else if s.length < 4 + (s.getD 1 0).toNat then (none, true)
      else if 255 - bsum (s.take (4 + (s.getD 1 0).toNat - 1)) ≠ (s.getD (4 + (s.getD 1 0).toNat - 1) 0).toNat then (none, false)
      else ((bodyOf (s.getD 2 0).toNat ((s.take (4 + (s.getD 1 0).toNat - 1)).drop 3)).map fun f => (f, 4 + (s.getD 1 0).toNat), false) := by
    unfold first; rw [if_neg (fun e => e c1'), if_neg oM]
  generalize hnn : (s.getD 1 0).toNat = n at *
  have e1 : IntKind.i64.wrap (4 + IntKind.i64.wrap (n : Int)) = ((4 + n : Nat) : Int) := by rw [w64 (n := (n : Int)) oM oM, w64 oM oM]; omega
  refine sw2 @hnn @e1 ?_
  refine i_cond (fun c3 => ?_) (fun c3 => ?_)
  · refine sw0 ?_
    rw [if_pos oM] at hf
    rw [hf] at hK
    exact hK _ h (Heap.le.refl _) (zeroV _)
  rw [if_neg oM] at hf
  refine sw0 ?_
  refine i_cond (fun c4 => ?_) (fun c4 => ?_)
  · refine sw0 ?_
    rw [if_pos oM] at hf
    rw [hf] at hK
    exact hK _ h (Heap.le.refl _) (zeroV _)
  rw [if_neg oM] at hf
  have e2 : IntKind.i64.wrap (((4 + n : Nat) : Int) - 1) = ((4 + n - 1 : Nat) : Int) := by rw [w64 oM oM]; omega
  refine sw1 @e2 ?_
  refine i_call H56 ⟨s.take (4 + n - 1), rfl, by simp only [List.length_take]; omega, ?_⟩
  have hbs := bsum_lt (s.take (4 + n - 1))
  refine sw0 ?_
  refine i_cond (fun c5 => ?_) (fun c5 => ?_)
  · refine sw0 ?_
    rw [if_pos oM] at hf
    rw [hf] at hK
    exact hK _ h (Heap.le.refl _) (zeroV _)
  rw [if_neg oM] at hf
  refine sw2 @e2 @wrap_u8 ?_
  refine i_call H72 ⟨(s.getD 2 0).toNat, _, rfl, by simp only [List.length_drop, List.length_take]; omega, ?_⟩
  intro v h' hle hv
  have hK2 := hK
  rw [hf] at hK
  obtain ⟨sv, rfl, hsl⟩ := hv
  refine sw1 @hsl.one ?_
  cases hbo : bodyOf (s.getD 2 0).toNat ((s.take (4 + n - 1)).drop 3) with
  | none =>
    rw [hbo] at hK hsl
    refine sw1 @hsl.one ?_
    exact hK _ h' hle ⟨sv, rfl, hsl⟩
  | some f =>
    rw [hbo] at hK hsl
    refine sw1 @hsl.one ?_
    exact hK _ h' hle ⟨sv, rfl, hsl⟩
end Go.Cw
namespace Go.Cw
open Go
def feedN : Nat → List UInt8 → List Fr × List UInt8 × Nat
  | 0, s => ([], s, 0)
  | n + 1, s =>
    if s = [] then ([], [], 0) else
    match fAt s with
    | some (f, k) => (f :: (feedN n (s.drop k)).1, (feedN n (s.drop k)).2)
    | none => if begins s then ([], s, 0) else ((feedN n (s.drop 1)).1, (feedN n (s.drop 1)).2.1, (feedN n (s.drop 1)).2.2 + 1)
def feed (s : List UInt8) : List Fr × List UInt8 × Nat := feedN s.length s
theorem fAt_pos {s : List UInt8} {f : Fr} {k : Nat} (h : fAt s = some (f, k)) : 4 ≤ k ∧ k ≤ s.length ∧ k ≤ 48 ∧ f.fault = 0 ∧ f.bytes = s.take k := by
  unfold fAt at h
  split at h
  · cases h
  · rename_i h1
    simp only at h
    split at h
    · cases h
    · rename_i h2
      simp only [Option.some.injEq, Prod.mk.injEq] at h
      obtain ⟨rfl, rfl⟩ := h
      refine ⟨oM, oM, oM, ?_, ?_⟩
      · exact Classical.byContradiction fun e => h2 (.inl e)
      · exact Classical.byContradiction fun e => h2 (.inr e)
theorem feedN_eq : ∀ (n m : Nat) (s : List UInt8), s.length ≤ n → s.length ≤ m → feedN n s = feedN m s := by
  intro n
  induction n with
  | zero =>
    intro m s h1 h2
    have : s = [] := List.eq_nil_of_length_eq_zero oM
    subst this
    cases m <;> simp [feedN]
  | succ n ih =>
    intro m s h1 h2
    by_cases hs : s = []
    · subst hs; cases m <;> simp [feedN]
    · have hl : 0 < s.length := List.length_pos_iff.2 hs
      cases m with
      | zero => omega
      | succ m =>
        simp only [feedN, hs, if_false]
        cases hf : fAt s with
        | none =>
          simp only
          rw [ih m (s.drop 1) (by rw [List.length_drop]; omega) (by rw [List.length_drop]; omega)]
        | some p =>
          obtain ⟨f, k⟩ := p
          have := fAt_pos hf
          simp only
          rw [ih m (s.drop k) (by rw [List.length_drop]; omega) (by rw [List.length_drop]; omega)]
theorem feed_nil : feed [] = ([], [], 0) := rfl
theorem feed_cons {s : List UInt8} (hs : s ≠ []) : feed s = match fAt s with
    | some (f, k) => (f :: (feed (s.drop k)).1, (feed (s.drop k)).2)
    | none => if begins s then ([], s, 0) else ((feed (s.drop 1)).1, (feed (s.drop 1)).2.1, (feed (s.drop 1)).2.2 + 1) := by
  have hl : 0 < s.length := List.length_pos_iff.2 hs
  obtain ⟨n, hn⟩ : ∃ n, s.length = n + 1 := ⟨s.length - 1, oM⟩
  unfold feed
  conv => lhs; rw [hn]
  simp only [feedN, hs, if_false]
  cases hf : fAt s with
  | none => simp only; rw [feedN_eq n (s.drop 1).length (s.drop 1) (by rw [List.length_drop]; omega) (Nat.le_refl _)]
  | some p =>
    obtain ⟨f, k⟩ := p
    have := fAt_pos hf
    simp only; rw [feedN_eq n (s.drop k).length (s.drop k) (by rw [List.length_drop]; omega) (Nat.le_refl _)]
def lineC (rest : List UInt8) (lost : Nat) : List Value := [.string (str rest), .int .i64 lost]
def LineAt (h : Heap) (a : Addr) (rest : List UInt8) (lost : Nat) : Prop := objAt h a (lineC rest lost)
theorem LineAt.rules {h : Heap} {a : Addr} {rest : List UInt8} {lost : Nat} (ho : LineAt h a rest lost) : h.cell a = some (.string (str rest)) ∧ h.cell (a.add 0) = some (.string (str rest)) ∧ h.cell (a.add 1) = some (.int .i64 lost) ∧ h.row a 2 = some #[.string (str rest), .int .i64 lost] := by
  obtain ⟨h1, h2, h3⟩ := objAt.rules ho
  exact ⟨h2 (by simp [lineC]), h2 (by simp [lineC]), h1 1 (by simp [lineC]), h3⟩
def S24 : Spec := fun args h K => ∃ a rest lost s, args = [.pointer (some a), .string (str s)] ∧ LineAt h a rest lost ∧ rest.length + s.length ≤ 10000000 ∧ lost ≤ 2 ^ 60 ∧
  ∀ v h', keeps a 2 h h' → LineAt h' a (feed (rest ++ s)).2.1 (lost + (feed (rest ++ s)).2.2) → FrsV (fr h h') v (feed (rest ++ s)).1 → K v h'
def GFrs (g : Heap) (rs : List FrR) (fs : List Fr) : Prop := rs.length = fs.length ∧ ∀ i, i < fs.length → FrR.ok g (rs.getD i default) (fs.getD i default)
theorem GFrs.push {g g' : Heap} {rs : List FrR} {fs : List Fr} (hg : GFrs g rs fs) (hl : Heap.le g g') {r : FrR} {f : Fr} (hr : FrR.ok g' r f) : GFrs g' (rs ++ [r]) (fs ++ [f]) := by
  obtain ⟨h1, h2⟩ := hg
  refine ⟨by simp [h1], fun i hi => ?_⟩
  simp only [List.length_append, List.length_cons, List.length_nil] at hi
  by_cases e : i < fs.length
  · have := h2 i e
    simp only [List.getD_eq_getElem?_getD] at this ⊢
    rw [List.getElem?_append_left oM, List.getElem?_append_left e]
    exact ⟨this.1, this.2.1, this.2.2.le hl⟩
  · have e' : i = fs.length := oM
    subst e'
    simp only [List.getD_eq_getElem?_getD]
    rw [List.getElem?_append_right oM, List.getElem?_append_right (Nat.le_refl _)]
    simpa [h1] using hr
theorem GFrs.le {g g' : Heap} {rs : List FrR} {fs : List Fr} (hg : GFrs g rs fs) (hl : Heap.le g g') : GFrs g' rs fs :=
  ⟨hg.1, fun i hi => let ⟨a, b, c⟩ := hg.2 i hi; ⟨a, b, c.le hl⟩⟩
theorem FrR.enc_len (r : FrR) : r.enc.length = 3 := rfl
theorem keeps_dom {a : Addr} {n : Nat} {h0 g : Heap} (k : keeps a n h0 g) {o : Obj} (ha : g a.block = some o) : ∀ b, g b = none → h0 b = none := by
  intro b hb
  cases hh : h0 b with
  | none => rfl
  | some x =>
    by_cases e : b = a.block
    · subst e; rw [ha] at hb; cases hb
    · rw [k.1 b x e hh] at hb; cases hb
theorem fr_set {h0 g : Heap} {b : Nat} {o o' : Obj} (hb : h0 b = some o) : fr h0 (g.set b o') = fr h0 g := by
  funext x
  simp only [fr, Heap.set]
  split
  · rename_i hx
    split
    · rename_i e; subst e; rw [hb] at hx; cases hx
    · rfl
  · rfl
def FeedI (h0 : Heap) (a : Addr) (rest : List UInt8) (lost : Nat) (out : Value) (fs : List Fr) (h : Heap) : Prop :=
  ∃ g rs, OwnS FrR.enc 3 g h out rs ∧ LineAt g a rest lost ∧ keeps a 2 h0 g ∧ GFrs (fr h0 g) rs fs
theorem FeedI.line {h0 : Heap} {a : Addr} {rest : List UInt8} {lost : Nat} {out : Value} {fs : List Fr} {h : Heap} (hI : FeedI h0 a rest lost out fs h) : LineAt h a rest lost := by
  obtain ⟨g, rs, h1, h2, h3, h4⟩ := hI
  exact objAt.le h2 h1.1
theorem FeedI.grow {h0 : Heap} {a : Addr} {rest : List UInt8} {lost : Nat} {out : Value} {fs : List Fr} {h h1 : Heap} (hI : FeedI h0 a rest lost out fs h) (hl : Heap.le h h1) :
    ∃ g rs, OwnS FrR.enc 3 g h1 out rs ∧ LineAt g a rest lost ∧ keeps a 2 h0 g ∧ GFrs (fr h0 g) rs fs ∧ Heap.le (fr h h1) (fr h0 g) := by
  obtain ⟨g, rs, a1, a2, a3, a4⟩ := hI
  have jl := join_l g (fr h h1)
  refine ⟨join g (fr h h1), rs, a1.grow hl, objAt.le a2 jl, a3.trans (.of_le jl), a4.le (fr_mono jl), ?_⟩
  intro b o hb
  have hbn : h b = none := by
    cases hh : h b with
    | none => rfl
    | some x => simp [fr, hh] at hb
  obtain ⟨_, c, t, h5, _⟩ := a2
  have hgb : g b = none := le_none a1.1 b hbn
  have h0b : h0 b = none := keeps_dom a3 h5 b hgb
  have e : (join g (fr h h1)) b = some o := by simp only [join, hgb]; simpa using hb
  simp only [fr, h0b]; exact e
theorem FeedI.add {h0 : Heap} {a : Addr} {rest : List UInt8} {lost : Nat} {out : Value} {fs : List Fr} {h : Heap} {g : Heap} {rs : List FrR} {r : FrR} {f : Fr}
    (h4 : LineAt g a rest lost) (h5 : keeps a 2 h0 g) (h6 : GFrs (fr h0 g) rs fs) (hr : FrR.ok (fr h0 g) r f) (ho : OwnS FrR.enc 3 g h out (rs ++ [r])) : FeedI h0 a rest lost out (fs ++ [f]) h :=
  ⟨g, rs ++ [r], ho, h4, h5, h6.push (Heap.le.refl _) hr⟩
theorem FeedI.write {N : Num} {Γ : Ctx} {h0 : Heap} {a : Addr} {rest : List UInt8} {lost : Nat} {out : Value} {fs : List Fr} {h : Heap} (hI : FeedI h0 a rest lost out fs h) (h00 : ∃ o, h0 a.block = some o) (j : Nat) {x : Value} (rest' : List UInt8) (lost' : Nat)
    (hx : x.cells.size = 1) (h1 : x.cells.toList.all one = true) (hj : j + 1 ≤ 2) (he : (lineC rest lost).take j ++ x.cells.toList ++ (lineC rest lost).drop (j + 1) = lineC rest' lost') {K : Value → Heap → Prop}
    (hK : ∀ h', FeedI h0 a rest' lost' out fs h' → K undef h') : efW N Γ (.st 1) [.pointer (some (a.add j)), x] h K := by
  obtain ⟨g, rs, a1, a2, a3, a4⟩ := hI
  have a2' := objAt.le a2 a1.1
  obtain ⟨o0, ho0⟩ := h00
  have hg : ∃ o, g a.block = some o := by obtain ⟨_, c, t, h5, _⟩ := a2; exact ⟨_, h5⟩
  obtain ⟨og, hog⟩ := hg
  have hgh : g a.block = h a.block := by rw [hog, a1.1 _ _ hog]
  refine i_st a2' j 1 hx h1 oM hj fun o h2 h3 => hK _ ⟨g.set a.block o, rs, a1.set hog, ?_, a3.trans (h3 g hgh), ?_⟩
  · have := h2 g hgh; rw [he] at this; exact this
  · rw [fr_set ho0]; exact a4
theorem FeedI.done {h0 : Heap} {a : Addr} {rest : List UInt8} {lost : Nat} {out : Value} {fs : List Fr} {h : Heap} (hI : FeedI h0 a rest lost out fs h) (h00 : ∃ o, h0 a.block = some o) : keeps a 2 h0 h ∧ LineAt h a rest lost ∧ FrsV (fr h0 h) out fs := by
  obtain ⟨g, rs, a1, a2, a3, a4⟩ := hI
  refine ⟨a3.trans (.of_le a1.1), objAt.le a2 a1.1, rs, ?_, a4.1, fun i hi => ?_⟩
  · obtain ⟨_, c, t, h5, _⟩ := a2
    have := (a1.slf (sz := 3) FrR.enc_len).le (fr_anti (g := h0) (keeps_dom a3 h5))
    exact this
  · have := a4.2 i hi
    exact ⟨this.1, this.2.1, this.2.2.le (fr_mono a1.1)⟩
theorem F24_ok {N : Num} {Γ : Ctx} [GoodC Γ] (H57 : Sat S57 (Γ 57)) : Sat S24 (SF N Γ F24) := by
  rintro _ h K ⟨a, rest, lost, s, rfl, ho, hlen, hlost, hK⟩
  have h00 : ∃ o, h a.block = some o := by obtain ⟨_, c, t, h5, _⟩ := ho; exact ⟨_, h5⟩
  refine i_fun rfl ?_
  simp only [F24, Ze, Nat.reduceSub, Nat.reduceAdd]
  refine sw1 @ho.rules ?_
  refine i_meet_blk (fun env h' => ∃ s' out l fs, FeedI h a rest l out fs h' ∧ feed (rest ++ s) = (fs, s', l - lost) ∧ lost ≤ l ∧ l ≤ 2 ^ 61 ∧ env = [some (.pointer (some a)), some (.string (str s')), none, some out, none, none, none, none, none, none, none, none, none, none, none, none, none]) ?_ ?_
  · rintro env h' ⟨s', out, l, fs, hI, hf, hl, _, rfl⟩
    refine sw0 ?_
    refine hI.write h00 0 s' l rfl rfl oM rfl fun h2 hI2 => ?_
    refine sw0 ?_
    obtain ⟨k1, k2, k3⟩ := hI2.done h00
    rw [hf] at hK
    refine hK out h2 k1 ?_ k3
    dsimp only
    rw [show lost + (l - lost) = l by omega]; exact k2
  · refine i_loop (fun (p : List UInt8 × Value × Nat) => [some (.pointer (some a)), some (.string (str p.1)), none, some p.2.1, none, none, none, none, none, none, none, none, none, none, none, none, none])
      (fun p h' => ∃ fs, FeedI h a rest p.2.2 p.2.1 fs h' ∧ feed (rest ++ s) = (fs ++ (feed p.1).1, (feed p.1).2.1, p.2.2 - lost + (feed p.1).2.2) ∧ lost ≤ p.2.2 ∧ p.2.2 + p.1.length ≤ lost + 10000000 ∧ fs.length * 4 + p.1.length ≤ 10000000)
      (fun p => p.1.length) (rest ++ s, .slice none 0 0, lost) sE ⟨[], ⟨h, [], OwnS.nil (Heap.le.refl _), ho, keeps.refl _ _ _, by simp [GFrs]⟩, by simp, by simp, by simp; omega, by simp; omega⟩ ?_
    rintro ⟨s', out, l⟩ h' ⟨fs, hI, hf, hl, hb1, hb2⟩
    dsimp only at hI hf hl hb1 hb2
    refine sw0 ?_
    refine i_cond (fun c1 => ?_) (fun c1 => ?_)
    rotate_left
    · have : s' = [] := by simpa using c1
      subst this
      refine sw0 ?_
      refine k_meet _ ?_ ⟨[], out, l, fs, hI, ?_, hl, oM, rfl⟩
      · try simp only [Pf]
      · rw [hf, feed_nil]; simp
    have hlaw := first_law s' c1
    have hfc := feed_cons c1
    have hp : 0 < s'.length := List.length_pos_iff.2 c1
    refine sw0 ?_
    refine i_call H57 ⟨s', rfl, c1, oM, fun v h1 hle hv => ?_⟩
    obtain ⟨g, rs, a1, a2, a3, a4, a5⟩ := hI.grow hle
    have hI1 : FeedI h a rest l out fs h1 := ⟨g, rs, a1, a2, a3, a4⟩
    rw [hlaw.1] at hv ⊢
    obtain ⟨sv, rfl, hsv⟩ := hv
    refine sw1 @hsv.one ?_
    cases hfa : fAt s' with
    | none =>
      rw [hfa] at hfc hsv
      simp only at hfc
      have hb := hlaw.2.1 hfa
      by_cases hw : begins s'
      · have hw2 := hb.2 hw
        rw [if_pos hw] at hfc
        refine sw1 @hw2 ?_
        refine k_meet _ ?_ ⟨s', out, l, fs, hI1, ?_, hl, oM, rfl⟩
        · try simp only [Pf]
        · rw [hf, hfc]; simp
      · have hw2 : (first s').2 = false := by
          cases h2 : (first s').2 with
          | false => rfl
          | true => exact absurd (hb.1 h2) hw
        rw [if_neg hw] at hfc
        refine sw2 @hw2 @hI1.line.rules ?_
        refine hI1.write h00 1 rest (l + 1) rfl rfl oM rfl fun h2 hI2 => ?_
        refine sw0 ?_
        refine k_loop (s'.drop 1, out, l + 1) (by simp only [List.length_drop]; omega) ?_ ⟨fs, hI2, ?_, dM, by simp only [List.length_drop]; omega, by simp only [List.length_drop]; omega⟩
        · try simp only [Pf]; rw [List.take_of_length_le oM]
        · rw [hf, hfc]; dsimp only; congr 2; omega
    | some p =>
      obtain ⟨f, k⟩ := p
      have hk := fAt_pos hfa
      have hw2 := hlaw.2.2 (by rw [hfa]; simp)
      rw [hfa] at hfc hsv
      simp only at hfc
      refine sw1 @hw2 ?_
      refine i_cond_f oM ?_
      refine sw1 @hsv.one ?_
      refine i_bslS FrR.enc 3 FrR.enc_len [⟨f.ty, sv, f.warm⟩] (by simp [FrR.enc]) rfl (by simp [maxLen]) fun v1 h2 hle2 ho1 => ?_
      refine sw0 ?_
      refine i_app1 FrR.enc_len (by intro x hx; simp at hx; subst hx; simp [FrR.enc, P8, hsv.one]) (a1.le hle2) (ho1.sl FrR.enc_len) (by rw [a4.1]; simp only [List.length_cons, List.length_nil]; omega) fun v2 h3 ho2 => ?_
      have hI3 := FeedI.add a2 a3 a4 (r := ⟨f.ty, sv, f.warm⟩) (f := f) ⟨rfl, rfl, by simpa using hsv.le a5⟩ ho2
      refine sw0 ?_
      refine k_loop (s'.drop k, v2, l) (by simp only [List.length_drop]; omega) ?_ ⟨fs ++ [f], hI3, ?_, hl, by simp only [List.length_drop]; omega, by simp only [List.length_drop, List.length_append, List.length_cons, List.length_nil]; omega⟩
      · try simp only [Pf]; rw [List.take_of_length_le oM]
      · rw [hf, hfc]; simp
end Go.Cw
namespace Go.Cw
open Go
theorem OwnS.pre {α : Type} {enc : α → List Value} {sz : Nat} (he : ∀ x, (enc x).length = sz) {h0 h : Heap} {v : Value} {l l' : List α} (ho : OwnS enc sz h0 h v (l ++ l')) :
    ∃ v', (∀ m m', o3V (.lsl sz) (.v v) (.v (.int m 0)) (.v (.int m' l.length)) = some (.v v')) ∧ Sl enc h v' l := by
  obtain ⟨_, a, cap, rfl, hcap, _, h3⟩ := ho
  rw [List.length_append] at hcap
  refine ⟨.slice (if cap = 0 then a else a.map (·.add (0 * sz))) l.length cap, ?_, ?_⟩
  · intro m m'
    simp only [o3V]
    rw [if_pos ⟨oM, oM, oM⟩]
    simp
  · refine ⟨_, cap, rfl, oM, ?_⟩
    rcases h3 with ⟨_, h4, _⟩ | ⟨b, c, t, rfl, _, h5, h6, h7⟩
    · exact .inl (List.append_eq_nil_iff.1 h4).1
    · refine .inr ⟨⟨b, 0, none⟩, ?_, rfl, c, t, _, h5, ?_, ?_⟩
      · simp [Addr.add]
      · have := flat_len he l
        rw [this, h6]
        have := Nat.mul_le_mul_right sz (show l.length ≤ cap by omega)
        simpa using this
      · intro i hi
        have := h7 i (by rw [List.flatMap_append, List.length_append]; omega)
        rw [Nat.zero_add, this, List.flatMap_append, List.getElem?_append_left hi]
end Go.Cw
namespace Go.Cw
open Go Go.RowKit
theorem okWide_agg {P : Program} {w : World} {r : Reach} {b0 : Nat} {t : TypeId} {fs : Array Field} {v : Value} (ht : P.underlying t = some (.struct fs)) (h : Value.okWide P w r b0 t v) : ∃ cs, v = .agg cs := by
  unfold Value.okWide at h
  rw [ht] at h
  obtain ⟨cs, h1, _⟩ := h
  exact ⟨cs, h1⟩
end Go.Cw
namespace Go.Cw
open Go
def S106 : Spec := fun args h K => ∃ bn, ∃ n k : Nat, args = [.int .i64 k, .pointer (some ⟨bn, 0, none⟩)] ∧ objAt h ⟨bn, 0, none⟩ [.int .u64 n] ∧ n < 2 ^ 64 ∧ k ≤ 30 ∧ ∀ h', but bn h h' → objAt h' ⟨bn, 0, none⟩ [.int .u64 (n / 2 ^ k : Nat)] → K (.int .i64 (n % 2 ^ k : Nat)) h'
theorem F106_ok {N : Num} {Γ : Ctx} [GoodC Γ] : Sat S106 (SF N Γ F106) := by
  rintro _ h K ⟨bn, n, k, rfl, ho, hn, hk, hK⟩
  refine i_fun rfl ?_
  simp only [F106, Ze, Nat.reduceSub, Nat.reduceAdd]
  have hc : h.cell ⟨bn, 0, none⟩ = some (.int .u64 n) := ho.rules.2.1 (by simp)
  have h2k : 2 ^ k ≤ 2 ^ 30 := Nat.pow_le_pow_right oM hk
  have h2p : 0 < 2 ^ k := Nat.pow_pos oM
  have hsl : binV .shl (.int .u64 1) (.int .i64 (k : Int)) = some (.int .u64 ((2 ^ k : Nat) : Int)) := by
    have := shl_nat .i64 1 k oM oM
    rw [Nat.one_mul] at this; exact this
  have hsub : IntKind.u64.wrap (((2 ^ k : Nat) : Int) - 1) = ((2 ^ k - 1 : Nat) : Int) := by
    rw [show ((2 ^ k : Nat) : Int) - 1 = ((2 ^ k - 1 : Nat) : Int) by omega, wrap_u64 _ oM]
  have han := and_u64 n (2 ^ k - 1) hn oM
  rw [Nat.and_two_pow_sub_one_eq_mod] at han
  have hml : n % 2 ^ k < 2 ^ 30 := Nat.lt_of_lt_of_le (Nat.mod_lt _ h2p) h2k
  have hsr := shr_nat .u64 .i64 n k (by simp [IntKind.bits]; omega)
  refine sw5 @hc @hsl @hsub @han @hsr ?_
  refine i_st ho 0 1 rfl rfl oM (Nat.le_refl 1) fun o hob _ => ?_
  have hob2 : objAt (h.set bn o) ⟨bn, 0, none⟩ [.int .u64 (n / 2 ^ k : Nat)] := hob h rfl
  refine sw0 ?_
  exact hK _ (fun x hx => Heap.set_ne hx) hob2
def S81 (N : Num) : Spec := fun args h K => ∃ b, args = [.string (str b)] ∧ ∀ h', Heap.le h h' → K (.tuple #[tgV b, errV N (if (tagOf b).isSome then 0 else 3)]) h'
theorem num_take {b : List UInt8} {i : Nat} (hi : i < b.length) : num (b.take (i + 1)) = num (b.take i) * 256 + (b.getD i 0).toNat := by rw [take_succ_d 0 hi, num_snoc]
theorem F81_ok {N : Num} {Γ : Ctx} [GoodC Γ] (H106 : Sat S106 (Γ 106)) (H107 : Sat S107 (Γ 107)) (H108 : Sat (S108 N) (Γ 108)) : Sat (S81 N) (SF N Γ F81) := by
  rintro _ h K ⟨b, rfl, hK⟩
  refine i_fun rfl ?_
  simp only [F81, Ze, Nat.reduceSub, Nat.reduceAdd]
  unfold tgV tagOf at hK
  by_cases hlen : b.length = 8
  rotate_left
  · have hl : ((b.length : Int) ≠ 8) = True := by rw [eq_iff_iff]; simp; omega
    rw [if_pos hlen] at hK
    simp only [Option.getD, Option.isSome, Tg.zero, aggT, Bool.false_eq_true, if_false, errV_succ] at hK
    refine sw1 @hl ?_
    exact hK h (Heap.le.refl h)
  have hl : ((b.length : Int) ≠ 8) = False := by rw [eq_iff_iff]; simp; omega
  rw [if_neg oM] at hK
  refine sw1 @hl ?_
  refine i_newO fun b3 h1 hle1 hb3 ho3 => ?_
  refine sw0 ?_
  refine i_st (ho3.le (fr_le _ _)) 0 1 rfl rfl oM (Nat.le_refl 1) fun o hob _ => ?_
  have hob3 : objAt (h1.set b3 o) ⟨b3, 0, none⟩ [.int .u64 (num (b.take 0) : Nat)] := hob h1 rfl
  have hle2 : Heap.le h (h1.set b3 o) := but.le (b := b3) hle1 hb3 fun x hx => Heap.set_ne hx
  generalize h1.set b3 o = h2 at *
  refine sw0 ?_
  refine i_meet_blk (fun env H => Heap.le h H ∧ objAt H ⟨b3, 0, none⟩ [.int .u64 (num b : Nat)] ∧ env = [some (.string (str b)), some (.agg #[.int .i64 0, .int .i64 0, .int .i64 0, .int .i64 0, .int .i64 0, .int .i64 0]), some .nilIface, some (.pointer (some ⟨b3, 0, none⟩)), none, none, none, none, none, none, none, none, none, none, none, none, none, none, none, none, none, none, none, none, none, none, none, none, none, none, none, none, none, none, none]) ?_ ?_
  rotate_left
  · refine i_loop (fun i : Nat => [some (.string (str b)), some (.agg #[.int .i64 0, .int .i64 0, .int .i64 0, .int .i64 0, .int .i64 0, .int .i64 0]), some .nilIface, some (.pointer (some ⟨b3, 0, none⟩)), none, none, none, none, none, none, none, some (.int .i64 b.length), some (.int .i64 i), none, none, none, none, none, none, none, none, none, none, none, none, none, none, none, none, none, none, none, none, none, none])
      (fun i H => i ≤ 8 ∧ Heap.le h H ∧ objAt H ⟨b3, 0, none⟩ [.int .u64 (num (b.take i) : Nat)]) (fun i => 8 - i) 0 (by try simp only [Pf]; rfl) ⟨oM, hle2, hob3⟩ ?_
    rintro i H ⟨hi, hle, ho⟩
    have hc : H.cell ⟨b3, 0, none⟩ = some (.int .u64 (num (b.take i) : Nat)) := ho.rules.2.1 (by simp)
    refine sw0 ?_
    refine i_cond (fun c1 => ?_) (fun c1 => ?_)
    rotate_left
    · have : i = b.length := oM
      subst this
      rw [List.take_length] at ho
      refine sw0 ?_
      exact k_meet _ sE ⟨hle, ho, rfl⟩
    have hi2 : i < b.length := oM
    have hnl := num_lt (b.take i)
    have hnl2 : num (b.take i) < 256 ^ 7 := Nat.lt_of_lt_of_le hnl (Nat.pow_le_pow_right oM (by rw [List.length_take]; omega))
    have hbyte := (b.getD i 0).toNat_lt
    have hsl := shl_nat .u64 (num (b.take i)) 8 oM oM
    have hcv : IntKind.u64.wrap (((b.getD i 0).toNat : Nat) : Int) = (((b.getD i 0).toNat : Nat) : Int) := wrap_u64 _ oM
    have hor := or_u64 (num (b.take i) * 2 ^ 8) (b.getD i 0).toNat oM oM
    have hor2 : num (b.take i) * 2 ^ 8 ||| (b.getD i 0).toNat = num (b.take (i + 1)) := by
      rw [num_take hi2, Nat.mul_comm _ (2 ^ 8), ← Nat.two_pow_add_eq_or_of_lt oM]
    rw [hor2] at hor
    have hsl' : binV .shl (.int .u64 (num (b.take i) : Nat)) (.int .u64 8) = some (.int .u64 ((num (b.take i) * 2 ^ 8 : Nat) : Int)) := hsl
    refine sw4 @hc @hsl' @hcv @hor ?_
    refine i_st ho 0 1 rfl rfl oM (Nat.le_refl 1) fun o2 hob' _ => ?_
    have hob4 : objAt (H.set b3 o2) ⟨b3, 0, none⟩ [.int .u64 (num (b.take (i + 1)) : Nat)] := hob' H rfl
    refine sw0 ?_
    exact k_loop (i + 1) oM sE ⟨oM, but.le (b := b3) hle hb3 fun x hx => Heap.set_ne hx, hob4⟩
  rintro env H ⟨hle, ho, rfl⟩
  have hnlt := num_lt b
  rw [hlen] at hnlt
  generalize num b = n at *
  refine sw0 ?_
  refine i_newO fun b6 h3 hle3 hb6 ho6 => ?_
  have hne : b3 ≠ b6 := by rintro rfl; exact objAt.nn ho hb6
  have ho6' : objAt h3 ⟨b6, 0, none⟩ [.int .i64 0, .int .i64 0, .int .i64 0, .int .i64 0, .int .i64 0, .int .i64 0] := ho6.le (fr_le _ _)
  have hb6h : h b6 = none := le_none hle b6 hb6
  refine sw0 ?_
  refine i_cal H106 ⟨b3, n, 24, rfl, ho.le hle3, oM, oM, fun h4 hbut4 hob4 => ?_⟩
  have hle4 := hbut4.le (hle.trans hle3) hb3
  have ho64 := hbut4.obj (a := ⟨b6, 0, none⟩) (Ne.symm hne) ho6'
  refine sw0 ?_
  refine i_st ho64 5 1 rfl rfl oM (by simp) fun o5 hob5 _ => ?_
  have ho65 : objAt (h4.set b6 o5) ⟨b6, 0, none⟩ [.int .i64 0, .int .i64 0, .int .i64 0, .int .i64 0, .int .i64 0, .int .i64 (n % 2 ^ 24 : Nat)] := hob5 h4 rfl
  have ho35 : objAt (h4.set b6 o5) ⟨b3, 0, none⟩ [.int .u64 (n / 2 ^ 24 : Nat)] := but.obj (b := b6) (fun x hx => Heap.set_ne hx) hne hob4
  have hle5 : Heap.le h (h4.set b6 o5) := but.le (b := b6) hle4 hb6h fun x hx => Heap.set_ne hx
  generalize h4.set b6 o5 = h5 at *
  have hc3 : h5.cell ⟨b3, 0, none⟩ = some (.int .u64 (n / 2 ^ 24 : Nat)) := ho35.rules.2.1 (by simp)
  have hsr := shr_nat .u64 .u64 (n / 2 ^ 24) 26 (by simp [IntKind.bits])
  have e50 : n / 2 ^ 24 / 2 ^ 26 = n / 2 ^ 50 := by rw [Nat.div_div_eq_div_mul, ← Nat.pow_add]
  rw [e50] at hsr
  have hsr' : binV .shr (.int .u64 ((n / 2 ^ 24 : Nat) : Int)) (.int .u64 26) = some (.int .u64 ((n / 2 ^ 50 : Nat) : Int)) := hsr
  have han := and_u64 (n / 2 ^ 50) 7 oM oM
  rw [show (7 : Nat) = 2 ^ 3 - 1 from rfl, Nat.and_two_pow_sub_one_eq_mod] at han
  have han' : binV .and (.int .u64 ((n / 2 ^ 50 : Nat) : Int)) (.int .u64 7) = some (.int .u64 ((n / 2 ^ 50 % 8 : Nat) : Int)) := han
  have hw : IntKind.i64.wrap ((n / 2 ^ 50 % 8 : Nat) : Int) = ((n / 2 ^ 50 % 8 : Nat) : Int) := w64 oM oM
  refine sw4 @hc3 @hsr' @han' @hw ?_
  refine i_call H107 ⟨_, rfl, fun h6 hle6 => ?_⟩
  cases hp : partsOf ((n / 2 ^ 50 % 8 : Nat) : Int) with
  | none =>
    rw [hp] at hK
    simp only [Option.getD, Option.isSome, Tg.zero, aggT, Bool.false_eq_true, if_false, errV_succ] at hK
    simp only [paV, hp, Option.elim]
    refine sw0 ?_
    exact hK h6 (hle5.trans hle6)
  | some a =>
    rw [hp] at hK
    have hpa := partsOf_some hp
    simp only [paV, hp, Option.elim, Pa.enc]
    refine sw0 ?_
    have ho36 := ho35.le hle6
    have ho66 := ho65.le hle6
    have hle6' := hle5.trans hle6
    have hemp : ∀ H, Heap.le (fun _ => none) H := fun H x o hx => by cases hx
    refine i_cal H106 ⟨b3, n / 2 ^ 24, a.rb, rfl, ho36, oM, oM, fun h7 hbut7 hob7 => ?_⟩
    have hle7 := hbut7.le hle6' hb3
    have ho67 := hbut7.obj (a := ⟨b6, 0, none⟩) (Ne.symm hne) ho66
    refine i_lex (fun _ => none) (hemp _) ?_ (le_one (hemp _)) ?_
    · intro l' hl'
      simp only [List.mem_singleton] at hl'
      subst hl'
      exact ⟨true, rfl, fun _ => ⟨.v (.int .i64 a.cb), by try simp (disch := first | omega | (simp only [PL]; omega)) only [Zr, simprocAttr, -reduceIte]⟩⟩
    have en : n / 2 ^ 24 / 2 ^ a.rb = n / 2 ^ (24 + a.rb) := by rw [Nat.div_div_eq_div_mul, ← Nat.pow_add]
    rw [en] at hob7
    have hnl2 : n / 2 ^ (24 + a.rb) < 2 ^ 64 := Nat.lt_of_le_of_lt (Nat.div_le_self _ _) oM
    refine sw0 ?_
    refine i_cal H106 ⟨b3, n / 2 ^ (24 + a.rb), a.cb, rfl, hob7, hnl2, oM, fun h8 hbut8 hob8 => ?_⟩
    have hle8 := hbut8.le hle7 hb3
    have ho68 := hbut8.obj (a := ⟨b6, 0, none⟩) (Ne.symm hne) ho67
    have en2 : n / 2 ^ (24 + a.rb) / 2 ^ a.cb = n / 2 ^ 50 := by
      rw [Nat.div_div_eq_div_mul, ← Nat.pow_add]
      congr 2; omega
    rw [en2] at hob8
    refine sw0 ?_
    have hcl := Nat.mod_lt (n / 2 ^ (24 + a.rb)) (Nat.pow_pos (n := a.cb) (show 0 < 2 by omega))
    have hcl2 : 2 ^ a.cb ≤ 2 ^ 30 := Nat.pow_le_pow_right oM oM
    have hrl := Nat.mod_lt (n / 2 ^ 24) (Nat.pow_pos (n := a.rb) (show 0 < 2 by omega))
    have hrl2 : 2 ^ a.rb ≤ 2 ^ 30 := Nat.pow_le_pow_right oM oM
    refine i_cal H106 ⟨b3, n / 2 ^ 50, 3, rfl, hob8, oM, oM, fun h9 hbut9 hob9 => ?_⟩
    have hle9 := hbut9.le hle8 hb3
    have ho69 := hbut9.obj (a := ⟨b6, 0, none⟩) (Ne.symm hne) ho68
    have en3 : n / 2 ^ 50 / 2 ^ 3 = n / 2 ^ 53 := by rw [Nat.div_div_eq_div_mul, ← Nat.pow_add]
    rw [en3] at hob9
    refine sw0 ?_
    refine i_cal H106 ⟨b3, n / 2 ^ 53, 3, rfl, hob9, oM, oM, fun h10 hbut10 hob10 => ?_⟩
    have hle10 := hbut10.le hle9 hb3
    have ho610 := hbut10.obj (a := ⟨b6, 0, none⟩) (Ne.symm hne) ho69
    have en4 : n / 2 ^ 53 / 2 ^ 3 = n / 2 ^ 56 := by rw [Nat.div_div_eq_div_mul, ← Nat.pow_add]
    rw [en4] at hob10
    refine sw0 ?_
    refine i_cal H106 ⟨b3, n / 2 ^ 56, 8, rfl, hob10, oM, oM, fun h11 hbut11 hob11 => ?_⟩
    have hle11 := hbut11.le hle10 hb3
    have ho611 := hbut11.obj (a := ⟨b6, 0, none⟩) (Ne.symm hne) ho610
    have en5 : n / 2 ^ 56 % 2 ^ 8 = n / 2 ^ 56 := Nat.mod_eq_of_lt oM
    rw [en5]
    have hk47 : IntKind.i64.wrap (((n / 2 ^ 56 : Nat) : Int) - 47) = ((n / 2 ^ 56 : Nat) : Int) - 47 := by rw [w64 oM oM]
    refine sw1 @hk47 ?_
    refine i_st ho611 4 1 rfl rfl oM (by simp) fun o12 hob12 _ => ?_
    have hobA : objAt (h11.set b6 o12) ⟨b6, 0, none⟩ [.int .i64 0, .int .i64 0, .int .i64 0, .int .i64 0, .int .i64 (n / 2 ^ 24 % 2 ^ a.rb : Nat), .int .i64 (n % 2 ^ 24 : Nat)] := hob12 h11 rfl
    have hle12 : Heap.le h (h11.set b6 o12) := but.le (b := b6) hle11 hb6h fun x hx => Heap.set_ne hx
    generalize h11.set b6 o12 = h12 at *
    refine sw0 ?_
    refine i_st hobA 3 1 rfl rfl oM (by simp) fun o13 hob13 _ => ?_
    have hobB : objAt (h12.set b6 o13) ⟨b6, 0, none⟩ [.int .i64 0, .int .i64 0, .int .i64 0, .int .i64 (n / 2 ^ (24 + a.rb) % 2 ^ a.cb : Nat), .int .i64 (n / 2 ^ 24 % 2 ^ a.rb : Nat), .int .i64 (n % 2 ^ 24 : Nat)] := hob13 h12 rfl
    have hle13 : Heap.le h (h12.set b6 o13) := but.le (b := b6) hle12 hb6h fun x hx => Heap.set_ne hx
    generalize h12.set b6 o13 = h13 at *
    refine sw0 ?_
    refine i_st hobB 2 1 rfl rfl oM (by simp) fun o14 hob14 _ => ?_
    have hobC : objAt (h13.set b6 o14) ⟨b6, 0, none⟩ [.int .i64 0, .int .i64 0, .int .i64 (n / 2 ^ 50 % 2 ^ 3 : Nat), .int .i64 (n / 2 ^ (24 + a.rb) % 2 ^ a.cb : Nat), .int .i64 (n / 2 ^ 24 % 2 ^ a.rb : Nat), .int .i64 (n % 2 ^ 24 : Nat)] := hob14 h13 rfl
    have hle14 : Heap.le h (h13.set b6 o14) := but.le (b := b6) hle13 hb6h fun x hx => Heap.set_ne hx
    generalize h13.set b6 o14 = h14 at *
    refine sw0 ?_
    refine i_st hobC 1 1 rfl rfl oM (by simp) fun o15 hob15 _ => ?_
    have hobD : objAt (h14.set b6 o15) ⟨b6, 0, none⟩ [.int .i64 0, .int .i64 (n / 2 ^ 53 % 2 ^ 3 : Nat), .int .i64 (n / 2 ^ 50 % 2 ^ 3 : Nat), .int .i64 (n / 2 ^ (24 + a.rb) % 2 ^ a.cb : Nat), .int .i64 (n / 2 ^ 24 % 2 ^ a.rb : Nat), .int .i64 (n % 2 ^ 24 : Nat)] := hob15 h14 rfl
    have hle15 : Heap.le h (h14.set b6 o15) := but.le (b := b6) hle14 hb6h fun x hx => Heap.set_ne hx
    generalize h14.set b6 o15 = h15 at *
    refine sw0 ?_
    refine i_st hobD 0 1 rfl rfl oM (by simp) fun o16 hob16 _ => ?_
    have hobE : objAt (h15.set b6 o16) ⟨b6, 0, none⟩ [.int .i64 (((n / 2 ^ 56 : Nat) : Int) - 47), .int .i64 (n / 2 ^ 53 % 2 ^ 3 : Nat), .int .i64 (n / 2 ^ 50 % 2 ^ 3 : Nat), .int .i64 (n / 2 ^ (24 + a.rb) % 2 ^ a.cb : Nat), .int .i64 (n / 2 ^ 24 % 2 ^ a.rb : Nat), .int .i64 (n % 2 ^ 24 : Nat)] := hob16 h15 rfl
    have hle16 : Heap.le h (h15.set b6 o16) := but.le (b := b6) hle15 hb6h fun x hx => Heap.set_ne hx
    generalize h15.set b6 o16 = h16 at *
    have hrowG : ∀ H, Heap.le h16 H → H.row ⟨b6, 0, none⟩ 6 = some #[.int .i64 (((n / 2 ^ 56 : Nat) : Int) - 47), .int .i64 (n / 2 ^ 53 % 2 ^ 3 : Nat), .int .i64 (n / 2 ^ 50 % 2 ^ 3 : Nat), .int .i64 (n / 2 ^ (24 + a.rb) % 2 ^ a.cb : Nat), .int .i64 (n / 2 ^ 24 % 2 ^ a.rb : Nat), .int .i64 (n % 2 ^ 24 : Nat)] := fun H hl => (hobE.le hl).rules.2.2
    have hrow := hrowG h16 (Heap.le.refl h16)
    refine sw1 @hrow ?_
    refine i_call H108 ⟨tagAt n a, rfl, fun h17 hle17 => ?_⟩
    have hrow2 := hrowG h17 hle17
    dsimp only at hK
    by_cases hbad : (tagAt n a).bad
    · rw [fault_bad hbad]
      simp only [if_pos hbad, Option.getD, Option.isSome, Tg.zero, aggT, Bool.false_eq_true, if_false, errV_succ] at hK ⊢
      refine sw0 ?_
      exact hK h17 (hle16.trans hle17)
    · rw [fault_ok hbad]
      simp only [if_neg hbad] at hK
      simp only [Option.getD, Option.isSome, aggT, tagAt, if_true, errV_zero] at hK ⊢
      refine sw1 @hrow2 ?_
      exact hK h17 (hle16.trans hle17)
end Go.Cw
namespace Go.Cw
open Go
theorem kindOf_some (b : List UInt8) : kindOf b = ((tagOf b).getD Tg.zero).kind := by unfold kindOf; cases tagOf b <;> rfl
def S83 : Spec := fun args h K => ∃ b, args = [.string (str b)] ∧ ∀ h', Heap.le h h' → K (.int .i64 (kindOf b)) h'
def S66 : Spec := S83
theorem F66_ok {N : Num} {Γ : Ctx} [GoodC Γ] (H81 : Sat (S81 N) (Γ 81)) : Sat S66 (SF N Γ F66) := by
  rintro _ h K ⟨b, rfl, hK⟩
  refine i_fun rfl ?_
  simp only [F66, Ze, Nat.reduceSub, Nat.reduceAdd]
  refine sw0 ?_
  refine i_call H81 ⟨b, rfl, fun h1 hle1 => ?_⟩
  have := hK h1 hle1
  rw [kindOf_some] at this
  unfold tgV aggT
  cases ht : tagOf b with
  | none =>
    rw [ht] at this
    simp only [Option.getD, Option.isSome, Tg.zero, Bool.false_eq_true, if_false, errV_succ] at this ⊢
    refine sw0 ?_
    exact this
  | some t =>
    rw [ht] at this
    simp only [Option.getD, Option.isSome, if_true, errV_zero] at this ⊢
    refine sw0 ?_
    exact this
end Go.Cw
namespace Go.Cw
open Go
end Go.Cw
namespace Go.Cw
open Go
def isGood (l : List Si) : Prop := ∀ s ∈ l, ¬ s.bad
instance (l : List Si) : Decidable (isGood l) := by unfold isGood; infer_instance
end Go.Cw
namespace Go.Cw
open Go
def x1 : Si := ⟨3, 0, 0, [120]⟩
end Go.Cw
namespace Go.Cw
open Go
def rfA (N : Num) (Γ : Ctx) (body : St) (Q2 : SE → Env → Heap → Prop) : SE → Env → Heap → Prop := fun x env G => match x with
  | .normal => SW N Γ body Q2 env G
  | _ => False
def rfB (J : Heap → Prop) (Q : SE → Env → Heap → Prop) (env0 : Env) : SE → Env → Heap → Prop := fun y _ G => match y with
  | .normal => J G
  | y => Q y env0 G
@[congr] theorem rfA_congr {N : Num} {Γ : Ctx} {body : St} {Q2 : SE → Env → Heap → Prop} {x : SE} {env env' : Env} {G : Heap} (e : env = env') : rfA N Γ body Q2 x env G = rfA N Γ body Q2 x env' G := by rw [e]
@[congr] theorem rfB_congr {J : Heap → Prop} {Q : SE → Env → Heap → Prop} {env0 : Env} {x : SE} {env env' : Env} {G : Heap} (_e : env = env') : rfB J Q env0 x env G = rfB J Q env0 x env' G := by rw [_e]
theorem rf_rules : (∀ (N : Num) (Γ : Ctx) body Q2 env G, rfA N Γ body Q2 .normal env G = SW N Γ body Q2 env G) ∧ (∀ J Q env0 env G, rfB J Q env0 .normal env G = J G) ∧ (∀ J Q env0 env G, rfB J Q env0 .ret env G = Q .ret env0 G) ∧ (∀ J Q env0 i env G, rfB J Q env0 (.exit i) env G = Q (.exit i) env0 G) := ⟨fun _ _ _ _ _ _ => rfl, fun _ _ _ _ _ => rfl, fun _ _ _ _ _ => rfl, fun _ _ _ _ _ _ => rfl⟩
instance {N : Num} {Γ : Ctx} [GoodC Γ] {body : St} {Q2 : SE → Env → Heap → Prop} [MonoQ Q2] : MonoQ (rfA N Γ body Q2) where
  up := by
    intro e env env' h hl hx
    cases e with
    | normal => exact SW_mono GoodC.imp body (fun hl hx => MonoQ.up hl hx) hl hx
    | exit i => exact hx
    | ret => exact hx
instance {J : Heap → Prop} {Q : SE → Env → Heap → Prop} {env0 : Env} : MonoQ (rfB J Q env0) where
  up := by
    intro e env env' h hl hx
    cases e with
    | normal => exact hx
    | exit i => exact hx
    | ret => exact hx
section
variable {κ ν : Type}
theorem MapB.uniq {ek : κ → Value} {ev : ν → Value} {g g' : Heap} {m : Nat} {kv : List (κ × ν)} {bs : List Nat} {ck : Nat} (h : MapB ek ev g m kv bs ck) (h' : MapB ek ev g' m kv bs ck) : g m = g' m := by
  obtain ⟨es, h1, h2, _⟩ := h
  obtain ⟨es', h1', h2', _⟩ := h'
  have : es = es' := by apply Array.toList_inj.1; rw [h2, h2']
  rw [h1, h1', this]
theorem i_rfn {N : Num} {Γ : Ctx} [GoodC Γ] {k off i ip : Nat} {asg body : St} {ek : κ → Value} {ev : ν → Value} {env : Env} {H : Heap} {c a : Addr} {mp : Nat} {kv : List (κ × ν)} {bs : List Nat} {ck : Nat} {Q : SE → Env → Heap → Prop}
    (hf : env.get i = some (.func (.func (N.fid k)) #[] #[.pointer (some c)])) (hc : H.cell c = some (.pointer (some a))) (hm : H.cell (a.add off) = some (.map (some mp))) (J : List Nat → Heap → Prop) (h0 : J [] H) (hmap : ∀ dn G, J dn G → MapB ek ev G mp kv bs ck)
    (hend : ∀ dn G, J dn G → dn.Nodup → (∀ b ∈ dn, b ∈ bs) → (∀ b ∈ bs, b ∈ dn) → Q .normal env G)
    (hround : ∀ (dn : List Nat) (G : Heap) (j b : Nat) (key : κ) (val : ν), J dn G → dn.Nodup → (∀ b ∈ dn, b ∈ bs) → kv[j]? = some (key, val) → bs[j]? = some b → b ∉ dn → SW N Γ asg (rfA N Γ body (rfB (J (dn ++ [b])) Q env)) (env.put ip (ek key)) G) :
    SW N Γ (.rfn k off i ip asg body) Q env H := by
  obtain ⟨es, h1, h2, h3, h4, h5, h6⟩ := hmap [] H h0
  have hmem : ∀ e ∈ es.toList, ∃ (i : Nat) (k : κ) (v : ν) (b : Nat), kv[i]? = some (k, v) ∧ bs[i]? = some b ∧ e = mkE ek ev (k, v) b := by
    intro e he
    rw [h2] at he
    obtain ⟨i, hi, rfl⟩ := List.getElem_of_mem he
    simp only [List.length_zipWith] at hi
    have hi1 : i < kv.length := oM
    have hi2 : i < bs.length := oM
    exact ⟨i, kv[i].1, kv[i].2, bs[i], by simp [hi1], by simp [hi2], by simp⟩
  have hback : ∀ b ∈ bs, ∃ e ∈ es.toList, e.born = b := by
    intro b hb
    obtain ⟨i, hi, rfl⟩ := List.getElem_of_mem hb
    have hi1 : i < kv.length := oM
    refine ⟨mkE ek ev kv[i] bs[i], ?_, rfl⟩
    rw [h2]
    have hlen : i < (List.zipWith (mkE ek ev) kv bs).length := by simp; omega
    have e : (List.zipWith (mkE ek ev) kv bs)[i] = mkE ek ev kv[i] bs[i] := by simp
    rw [← e]; exact List.getElem_mem hlen
  refine ⟨c, a, mp, es, ck, hf, hc, hm, h1, fun e he => ?_, fun dn G => J dn G ∧ dn.Nodup ∧ ∀ b ∈ dn, b ∈ bs, ⟨h0, List.nodup_nil, by simp⟩, ?_⟩
  · obtain ⟨i, k, v, b, a1, a2, rfl⟩ := hmem e he
    exact h5 _ (List.mem_of_getElem? a2)
  · rintro dn G ⟨hj, hnd, hsub⟩
    refine ⟨(MapB.uniq (hmap dn G hj) (hmap [] H h0)).trans h1, fun hall => hend dn G hj hnd hsub fun b hb => ?_, fun e he hne => ?_⟩
    · obtain ⟨e, he, rfl⟩ := hback b hb
      exact hall e he
    · obtain ⟨i, key, v, b, a1, a2, rfl⟩ := hmem e he
      have hr := hround dn G i b key v hj hnd hsub a1 a2 hne
      have hJ : ∀ G', J (dn ++ [b]) G' → J (dn ++ [b]) G' ∧ (dn ++ [b]).Nodup ∧ ∀ x ∈ dn ++ [b], x ∈ bs := by
        intro G' hj'
        refine ⟨hj', List.nodup_append.2 ⟨hnd, by simp, fun x hx y hy e => ?_⟩, fun x hx => ?_⟩
        · simp at hy; subst hy; subst e; exact hne hx
        · rw [List.mem_append, List.mem_singleton] at hx
          rcases hx with hx | rfl
          · exact hsub x hx
          · exact List.mem_of_getElem? a2
      refine SW_mono GoodC.imp asg (fun {x e e' G1} hl hx => ?_) (ele_refl _) hr
      cases x with
      | normal =>
        refine SW_mono GoodC.imp body (fun {y f f' G2} hl hy => ?_) hl hx
        cases y with
        | normal => exact hJ _ hy
        | exit i => exact hy
        | ret => exact hy
      | exit i => exact hx
      | ret => exact hx
end
end Go.Cw
namespace Go.Cw
open Go
def S54 (N : Num) : Spec := fun args h K => ∃ a, args = [.pointer (some a)] ∧ ∀ b h', Heap.le h h' → objAt (fr h h') ⟨b, 0, none⟩ [.pointer (some a)] → K (.func (.func (N.fid 71)) #[] #[.pointer (some ⟨b, 0, none⟩)]) h'
theorem F54_ok {N : Num} {Γ : Ctx} [GoodC Γ] : Sat (S54 N) (SF N Γ F54) := by
  rintro _ h K ⟨a, rfl, hK⟩
  refine i_fun rfl ?_
  simp only [F54, Ze, Nat.reduceSub, Nat.reduceAdd]
  refine sw0 ?_
  refine i_newO fun b h1 hle1 hb ho => ?_
  refine sw0 ?_
  exact hK b h1 hle1 ho
theorem TrO.keys {g : Heap} {b window need : Nat} {E : List (List Si)} (hT : TrO g b window need E) : ∃ mw wkv bs ck, (∀ h, Heap.le g h → h.cell ((⟨b, 0, none⟩ : Addr).add 3) = some (.map (some mw))) ∧ MapB encKS id g mw wkv bs ck ∧
    (wkv.map (·.1)).Nodup ∧ ∀ tag, tag ∈ wkv.map (·.1) ↔ toldE E tag := by
  obtain ⟨W, ev, mw, wkv, bs, ck, gi, ems, hT, hW⟩ := hT
  refine ⟨mw, wkv, bs, ck, fun h hl => (objAt.le hT.obj hl).rules.1 3 (by simp), hT.wm, ?_, fun tag => ?_⟩
  · obtain ⟨_, _, _, _, _, _, h⟩ := hT.wm; exact h
  · have h1 := hW tag
    constructor
    · intro hm
      cases hl : look wkv tag with
      | none => exact absurd hm (look_none hl)
      | some v =>
        obtain ⟨l, x, q1, _⟩ := hT.wsome tag v hl (by simp)
        refine Classical.byContradiction fun h3 => ?_
        rw [if_neg h3, q1] at h1; cases h1
    · intro ht
      cases hl : look wkv tag with
      | none => rw [hT.wnone tag hl, if_pos ht] at h1; cases h1
      | some v => exact List.mem_map.2 ⟨_, look_mem hl, rfl⟩
end Go.Cw
namespace Go.Cw
open Go
end Go.Cw
namespace Go.Cw
open Go
section
variable (w n : Nat) (E : List (List Si))
def atF (e : Nat) (t : List UInt8) : Int := atE w n (E.take (e + 1)) t
def tog1 (a b : List UInt8) (e : Nat) : Nat := if 0 ≤ atF w n E e a ∧ atF w n E e a = atF w n E e b then 1 else 0
def togN (a b : List UInt8) (lo : Nat) : Nat → Nat
  | 0 => 0
  | m + 1 => togN a b lo m + if lo ≤ m then tog1 w n E a b m else 0
def togE (span : Nat) (a b : List UInt8) (e : Nat) : Nat := togN w n E a b (e + 1 - span) (e + 1)
def cand (s p : List UInt8) : Prop := 0 < kindOf s ∧ kindOf s < kindOf p
def IsPar (span score e : Nat) (s was r : List UInt8) : Prop :=
  (r = [] ∧ ∀ p, cand s p → togE w n E span s p e < score) ∨
  (∃ M, score ≤ M ∧ cand s r ∧ togE w n E span s r e = M ∧ (∀ p, cand s p → togE w n E span s p e ≤ M) ∧
    (r = was ∨ (¬ (cand s was ∧ togE w n E span s was e = M) ∧ ∀ p, cand s p → togE w n E span s p e = M → p = r ∨ Op.bytesLess r p = true)))
noncomputable def eps (P : List UInt8 → Prop) : List UInt8 := Classical.epsilon P
noncomputable def parE (span score : Nat) (s : List UInt8) : Nat → List UInt8
  | 0 => eps (IsPar w n E span score 0 s [])
  | e + 1 => eps (IsPar w n E span score (e + 1) s (parE span score s e))
noncomputable def wasE (span score : Nat) (s : List UInt8) : Nat → List UInt8
  | 0 => []
  | e + 1 => parE w n E span score s e
end
theorem parE_eq {w n : Nat} {E : List (List Si)} {span score : Nat} {s : List UInt8} (e : Nat) : parE w n E span score s e = eps (IsPar w n E span score e s (wasE w n E span score s e)) := by cases e <;> rfl
theorem IsPar.uniq {w n : Nat} {E : List (List Si)} {span score e : Nat} {s was r r' : List UInt8} (h : IsPar w n E span score e s was r) (h' : IsPar w n E span score e s was r') : r = r' := by
  rcases h with ⟨rfl, h⟩ | ⟨M, h1, h2, h3, h4, h5⟩
  · rcases h' with ⟨rfl, _⟩ | ⟨M, g1, g2, g3, g4, g5⟩
    · rfl
    · have := h _ g2; omega
  · rcases h' with ⟨rfl, h⟩ | ⟨M', g1, g2, g3, g4, g5⟩
    · have := h _ h2; omega
    · have hM : M = M' := by have := h4 _ g2; have := g4 _ h2; omega
      subst hM
      rcases h5 with rfl | ⟨h5, h6⟩
      · rcases g5 with e | ⟨g5, _⟩
        · exact e.symm
        · exact absurd ⟨h2, h3⟩ g5
      · rcases g5 with rfl | ⟨g5, g6⟩
        · exact absurd ⟨g2, g3⟩ h5
        · rcases h6 _ g2 g3 with e | h7
          · exact e.symm
          · rcases g6 _ h2 h3 with e | g7
            · exact e
            · rw [bless_asymm h7] at g7; cases g7
theorem par_of {w n : Nat} {E : List (List Si)} {span score e : Nat} {s r : List UInt8} (h : IsPar w n E span score e s (wasE w n E span score s e) r) : parE w n E span score s e = r := by
  rw [parE_eq]
  exact (Classical.epsilon_spec (p := IsPar w n E span score e s (wasE w n E span score s e)) ⟨r, h⟩ : IsPar _ _ _ _ _ _ _ _ _).uniq h
theorem atF_pre {w n : Nat} {E E' : List (List Si)} {e : Nat} {t : List UInt8} (he : e < E.length) : atF w n (E ++ E') e t = atF w n E e t := by
  unfold atF; rw [List.take_append_of_le_length oM]
theorem togN_pre {w n : Nat} {E E' : List (List Si)} {a b : List UInt8} {lo : Nat} : ∀ m, m ≤ E.length → togN w n (E ++ E') a b lo m = togN w n E a b lo m := by
  intro m
  induction m with
  | zero => intro _; rfl
  | succ m ih => intro h; simp only [togN, tog1]; rw [ih oM, atF_pre oM, atF_pre oM]
theorem togE_pre {w n : Nat} {E E' : List (List Si)} {span : Nat} {a b : List UInt8} {e : Nat} (he : e < E.length) : togE w n (E ++ E') span a b e = togE w n E span a b e := togN_pre _ oM
theorem IsPar_pre {w n : Nat} {E E' : List (List Si)} {span score e : Nat} {s was : List UInt8} (he : e < E.length) : IsPar w n (E ++ E') span score e s was = IsPar w n E span score e s was := by
  funext r
  unfold IsPar
  simp only [togE_pre he]
theorem parE_pre {w n : Nat} {E E' : List (List Si)} {span score : Nat} {s : List UInt8} : ∀ e, e < E.length → parE w n (E ++ E') span score s e = parE w n E span score s e := by
  intro e
  induction e with
  | zero => intro h; simp only [parE, IsPar_pre h]
  | succ e ih => intro h; simp only [parE, IsPar_pre h, ih oM]
theorem atF_told {w n : Nat} {E : List (List Si)} (hn : 1 ≤ n) {e : Nat} {t : List UInt8} (h : 0 ≤ atF w n E e t) : toldE (E.take (e + 1)) t := by
  refine Classical.byContradiction fun hc => ?_
  have : atF w n E e t = -1 := by
    unfold atF atE atW
    refine bestTo_none (fun p => ?_) 8
    unfold cntE
    rw [List.filter_eq_nil_iff.2, List.length_nil]
    · omega
    · intro l hl hs
      obtain ⟨s, h1, h2, _⟩ := of_decide_eq_true hs
      exact hc ⟨l, List.mem_of_mem_drop hl, s, h1, h2⟩
  omega
theorem tog1_told {w n : Nat} {E : List (List Si)} (hn : 1 ≤ n) {a b : List UInt8} {e : Nat} (h : 0 < tog1 w n E a b e) : toldE (E.take (e + 1)) a ∧ toldE (E.take (e + 1)) b := by
  unfold tog1 at h
  split at h
  · rename_i hc; exact ⟨atF_told hn hc.1, atF_told hn (by rw [← hc.2]; exact hc.1)⟩
  · omega
theorem toldE_take {E : List (List Si)} {t : List UInt8} {i j : Nat} (h : i ≤ j) (ht : toldE (E.take i) t) : toldE (E.take j) t := by
  obtain ⟨l, hl, hs⟩ := ht
  refine ⟨l, ?_, hs⟩
  rw [show E.take i = (E.take j).take i by rw [List.take_take, Nat.min_eq_left h]] at hl
  exact List.mem_of_mem_take hl
theorem togN_told {w n : Nat} {E : List (List Si)} (hn : 1 ≤ n) {a b : List UInt8} {lo : Nat} : ∀ m, 0 < togN w n E a b lo m → toldE (E.take m) a ∧ toldE (E.take m) b := by
  intro m
  induction m with
  | zero => intro h; simp [togN] at h
  | succ m ih =>
    intro h
    simp only [togN] at h
    by_cases h1 : 0 < togN w n E a b lo m
    · obtain ⟨q1, q2⟩ := ih h1
      exact ⟨toldE_take oM q1, toldE_take oM q2⟩
    · split at h
      · have h2 : 0 < tog1 w n E a b m := oM
        exact tog1_told hn h2
      · omega
theorem togE_told {w n : Nat} {E : List (List Si)} (hn : 1 ≤ n) {span : Nat} {a b : List UInt8} {e : Nat} (h : 0 < togE w n E span a b e) : toldE (E.take (e + 1)) a ∧ toldE (E.take (e + 1)) b := togN_told hn _ h
theorem tog1_le {w n : Nat} {E : List (List Si)} {a b : List UInt8} {e : Nat} : tog1 w n E a b e ≤ 1 := by unfold tog1; split <;> omega
theorem togN_le {w n : Nat} {E : List (List Si)} {a b : List UInt8} {lo : Nat} : ∀ m, togN w n E a b lo m ≤ m := by
  intro m
  induction m with
  | zero => simp [togN]
  | succ m ih => have h1 := tog1_le (w := w) (n := n) (E := E) (a := a) (b := b) (e := m); simp only [togN]; split <;> omega
theorem par_nil {w n : Nat} {E : List (List Si)} (hn : 1 ≤ n) {span score e : Nat} (hs : 1 ≤ score) {s : List UInt8} (h : kindOf s ≤ 0 ∨ ¬ toldE (E.take (e + 1)) s) : parE w n E span score s e = [] := by
  refine par_of (.inl ⟨rfl, fun p hp => ?_⟩)
  rcases h with h | h
  · have := hp.1; omega
  · refine Nat.lt_of_not_le fun hc => h (togE_told hn (show 0 < togE w n E span s p e by omega)).1
end Go.Cw
namespace Go.Cw
open Go
def FoldP (T : List UInt8 → Nat) (score : Nat) (s was : List UInt8) (pre : List (List UInt8)) (best : List UInt8) (most : Int) : Prop :=
  (best = [] ∧ most = (score : Int) - 1 ∧ ∀ p ∈ pre, cand s p → T p < score) ∨
  ((score : Int) ≤ most ∧ cand s best ∧ best ∈ pre ∧ (T best : Int) = most ∧ (∀ p ∈ pre, cand s p → (T p : Int) ≤ most) ∧
    (best = was ∨ (¬ (was ∈ pre ∧ cand s was ∧ (T was : Int) = most) ∧ ∀ p ∈ pre, cand s p → (T p : Int) = most → p = best ∨ Op.bytesLess best p = true)))
variable {T : List UInt8 → Nat} {score : Nat} {s was : List UInt8} {pre : List (List UInt8)} {best : List UInt8} {most : Int} {p : List UInt8}
theorem FoldP.nil : FoldP T score s was [] [] ((score : Int) - 1) := .inl ⟨rfl, rfl, by simp⟩
theorem FoldP.skip (h : FoldP T score s was pre best most) (hp : ¬ cand s p) : FoldP T score s was (pre ++ [p]) best most := by
  have hm : ∀ {q}, q ∈ pre ++ [p] → cand s q → q ∈ pre := by
    intro q hq hc
    rw [List.mem_append, List.mem_singleton] at hq
    rcases hq with hq | rfl
    · exact hq
    · exact absurd hc hp
  rcases h with ⟨h1, h2, h3⟩ | ⟨h1, h2, h3, h4, h5, h6⟩
  · exact .inl ⟨h1, h2, fun q hq hc => h3 q (hm hq hc) hc⟩
  · refine .inr ⟨h1, h2, by simp [h3], h4, fun q hq hc => h5 q (hm hq hc) hc, h6.imp id fun ⟨a, b⟩ => ⟨fun ⟨q1, q2, q3⟩ => a ⟨hm q1 q2, q2, q3⟩, fun q hq hc => b q (hm hq hc) hc⟩⟩
theorem FoldP.take (h : FoldP T score s was pre best most) (hp : cand s p) (hord : ∀ q ∈ pre, Op.bytesLess q p = true) (hs : 1 ≤ score)
    (hc : most < (T p : Int) ∨ ((T p : Int) = most ∧ (score : Int) ≤ T p ∧ p = was)) : FoldP T score s was (pre ++ [p]) p (T p) := by
  have hall : ∀ q ∈ pre, cand s q → (T q : Int) ≤ T p := by
    intro q hq hcq
    rcases h with ⟨h1, h2, h3⟩ | ⟨h1, h2, h3, h4, h5, h6⟩
    · have := h3 q hq hcq; omega
    · have := h5 q hq hcq; omega
  have hsc : (score : Int) ≤ T p := by
    rcases hc with hc | hc
    · rcases h with ⟨h1, h2, h3⟩ | ⟨h1, h2, h3, h4, h5, h6⟩ <;> omega
    · exact hc.2.1
  refine .inr ⟨hsc, hp, by simp, rfl, fun q hq hcq => ?_, ?_⟩
  · rw [List.mem_append, List.mem_singleton] at hq
    rcases hq with hq | rfl
    · exact hall q hq hcq
    · omega
  · by_cases hw : p = was
    · exact .inl hw
    · refine .inr ?_
      have hgt : most < (T p : Int) := by
        rcases hc with hc | hc
        · exact hc
        · exact absurd hc.2.2 hw
      have hlt : ∀ q ∈ pre, cand s q → (T q : Int) < T p := by
        intro q hq hcq
        rcases h with ⟨h1, h2, h3⟩ | ⟨h1, h2, h3, h4, h5, h6⟩
        · have := h3 q hq hcq; omega
        · have := h5 q hq hcq; omega
      refine ⟨fun ⟨q1, q2, q3⟩ => ?_, fun q hq hcq he => ?_⟩
      · rw [List.mem_append, List.mem_singleton] at q1
        rcases q1 with q1 | e
        · have := hlt _ q1 q2; omega
        · exact hw e.symm
      · rw [List.mem_append, List.mem_singleton] at hq
        rcases hq with hq | rfl
        · have := hlt _ hq hcq; omega
        · exact .inl rfl
theorem FoldP.leave (h : FoldP T score s was pre best most) (hp : cand s p) (hord : ∀ q ∈ pre, Op.bytesLess q p = true)
    (hc : ¬ (most < (T p : Int) ∨ ((T p : Int) = most ∧ (score : Int) ≤ T p ∧ p = was))) : FoldP T score s was (pre ++ [p]) best most := by
  rcases h with ⟨h1, h2, h3⟩ | ⟨h1, h2, h3, h4, h5, h6⟩
  · refine .inl ⟨h1, h2, fun q hq hcq => ?_⟩
    rw [List.mem_append, List.mem_singleton] at hq
    rcases hq with hq | rfl
    · exact h3 q hq hcq
    · omega
  · refine .inr ⟨h1, h2, by simp [h3], h4, fun q hq hcq => ?_, h6.imp id fun ⟨a, b⟩ => ⟨fun ⟨q1, q2, q3⟩ => ?_, fun q hq hcq he => ?_⟩⟩
    · rw [List.mem_append, List.mem_singleton] at hq
      rcases hq with hq | rfl
      · exact h5 q hq hcq
      · omega
    · rw [List.mem_append, List.mem_singleton] at q1
      rcases q1 with q1 | e
      · exact a ⟨q1, q2, q3⟩
      · subst e; exact hc (.inr ⟨q3, oM, rfl⟩)
    · rw [List.mem_append, List.mem_singleton] at hq
      rcases hq with hq | rfl
      · exact b q hq hcq he
      · exact .inr (hord _ h3)
def MaxP (T : List UInt8 → Nat) (s : List UInt8) (pre : List (List UInt8)) (best : Nat) : Prop :=
  (∀ p ∈ pre, cand s p → T p ≤ best) ∧ (best = 0 ∨ ∃ p ∈ pre, cand s p ∧ T p = best)
theorem MaxP.nil : MaxP T s [] 0 := ⟨by simp, .inl rfl⟩
theorem MaxP.skip {b : Nat} (h : MaxP T s pre b) (hp : ¬ cand s p) : MaxP T s (pre ++ [p]) b := by
  refine ⟨fun q hq hc => ?_, h.2.imp id fun ⟨q, q1, q2⟩ => ⟨q, by simp [q1], q2⟩⟩
  rw [List.mem_append, List.mem_singleton] at hq
  rcases hq with hq | rfl
  · exact h.1 q hq hc
  · exact absurd hc hp
theorem MaxP.more {b : Nat} (h : MaxP T s pre b) (hp : cand s p) : MaxP T s (pre ++ [p]) (max b (T p)) := by
  refine ⟨fun q hq hc => ?_, ?_⟩
  · rw [List.mem_append, List.mem_singleton] at hq
    rcases hq with hq | rfl
    · have := h.1 q hq hc; omega
    · omega
  · rcases Nat.le_total b (T p) with hb | hb
    · exact .inr ⟨p, by simp, hp, oM⟩
    · refine h.2.imp (fun e => by omega) fun ⟨q, q1, q2, q3⟩ => ⟨q, by simp [q1], q2, oM⟩
def FirstP (T : List UInt8 → Nat) (s was : List UInt8) (M : Nat) (pre : List (List UInt8)) (first : List UInt8) : Prop :=
  ¬ (was ∈ pre ∧ cand s was ∧ T was = M) ∧ ((first = [] ∧ ∀ p ∈ pre, cand s p → T p ≠ M) ∨ (first ∈ pre ∧ cand s first ∧ T first = M ∧ ∀ p ∈ pre, cand s p → T p = M → p = first ∨ Op.bytesLess first p = true))
theorem FirstP.nil {M : Nat} : FirstP T s was M [] [] := ⟨by simp, .inl ⟨rfl, by simp⟩⟩
theorem cand.ne {q : List UInt8} (h : cand s q) : q ≠ [] := by
  rintro rfl
  have h1 := h.1
  have h2 := h.2
  have : kindOf [] = 0 := by decide
  omega
theorem FirstP.skip {M : Nat} {first : List UInt8} (h : FirstP T s was M pre first) (hp : ¬ (cand s p ∧ T p = M)) : FirstP T s was M (pre ++ [p]) first := by
  have hm : ∀ {q}, q ∈ pre ++ [p] → cand s q → T q = M → q ∈ pre := by
    intro q hq hc ht
    rw [List.mem_append, List.mem_singleton] at hq
    rcases hq with hq | rfl
    · exact hq
    · exact absurd ⟨hc, ht⟩ hp
  refine ⟨fun ⟨q1, q2, q3⟩ => h.1 ⟨hm q1 q2 q3, q2, q3⟩, h.2.imp (fun ⟨a, b⟩ => ⟨a, fun q hq hc ht => b q (hm hq hc ht) hc ht⟩) fun ⟨a, b, c, d⟩ => ⟨by simp [a], b, c, fun q hq hc ht => d q (hm hq hc ht) hc ht⟩⟩
theorem FirstP.take {M : Nat} {first : List UInt8} (h : FirstP T s was M pre first) (hp : cand s p) (ht : T p = M) (hw : p ≠ was) (hord : ∀ q ∈ pre, Op.bytesLess q p = true) : FirstP T s was M (pre ++ [p]) (if first = [] then p else first) := by
  refine ⟨fun ⟨q1, q2, q3⟩ => ?_, .inr ?_⟩
  · rw [List.mem_append, List.mem_singleton] at q1
    rcases q1 with q1 | e
    · exact h.1 ⟨q1, q2, q3⟩
    · exact hw e.symm
  · rcases h.2 with ⟨rfl, hn⟩ | ⟨h1, h2, h3, h4⟩
    · rw [if_pos rfl]
      refine ⟨by simp, hp, ht, fun q hq hc he => ?_⟩
      rw [List.mem_append, List.mem_singleton] at hq
      rcases hq with hq | rfl
      · exact absurd he (hn q hq hc)
      · exact .inl rfl
    · rw [if_neg h2.ne]
      refine ⟨by simp [h1], h2, h3, fun q hq hc he => ?_⟩
      rw [List.mem_append, List.mem_singleton] at hq
      rcases hq with hq | rfl
      · exact h4 q hq hc he
      · exact .inr (hord _ h1)
section
variable {w n : Nat} {E : List (List Si)} {span e : Nat}
theorem FoldP.par {l : List (List UInt8)} (h : FoldP (fun p => togE w n E span s p e) score s was l best most) (hs : 1 ≤ score)
    (hl : ∀ p, cand s p → 0 < togE w n E span s p e → p ∈ l) : IsPar w n E span score e s was best := by
  unfold FoldP at h
  dsimp only at h
  rcases h with ⟨h1, h2, h3⟩ | ⟨h1, h2, h3, h4, h5, h6⟩
  · refine .inl ⟨h1, fun p hp => ?_⟩
    refine Nat.lt_of_not_le fun hc => ?_
    have := h3 p (hl p hp oM) hp
    omega
  · have hM : most = ((togE w n E span s best e : Nat) : Int) := h4.symm
    subst hM
    refine .inr ⟨_, oM, h2, rfl, fun p hp => ?_, ?_⟩
    · by_cases h0 : 0 < togE w n E span s p e
      · have := h5 p (hl p hp h0) hp; omega
      · omega
    · rcases h6 with h6 | ⟨h6, h7⟩
      · exact .inl h6
      · refine .inr ⟨fun ⟨q1, q2⟩ => h6 ⟨hl _ q1 oM, q1, by rw [q2]⟩, fun p hp he => h7 p (hl p hp oM) hp (by rw [he])⟩
end
end Go.Cw
namespace Go.Cw
open Go
theorem togN_lo {w n : Nat} {E : List (List Si)} {a b : List UInt8} {lo : Nat} : ∀ m, m ≤ lo → togN w n E a b lo m = 0 := by
  intro m
  induction m with
  | zero => intro _; rfl
  | succ m ih => intro h; simp only [togN]; rw [ih oM, if_neg oM]
theorem togN_succ {w n : Nat} {E : List (List Si)} {a b : List UInt8} {lo m : Nat} (h : lo ≤ m) : togN w n E a b lo (m + 1) = togN w n E a b lo m + tog1 w n E a b m := by simp only [togN]; rw [if_pos h]
def S68 : Spec := fun args h K => ∃ bx gt bt window need E a b, ∃ e span : Nat, args = [.pointer (some ⟨bx, 0, none⟩), .string (str a), .string (str b), .int .i64 e] ∧ TrO gt bt window need E ∧ Heap.le gt h ∧ h.cell ((⟨bx, 0, none⟩ : Addr).add 0) = some (.int .i64 span) ∧ h.cell ((⟨bx, 0, none⟩ : Addr).add 2) = some (.pointer (some ⟨bt, 0, none⟩)) ∧ 1 ≤ need ∧ E.length ≤ 1000 ∧ e < E.length ∧ 1 ≤ span ∧ span ≤ 8 ∧
  K (.int .i64 (togE window need E span a b e : Nat)) h
theorem whr_told {window need : Nat} {E : List (List Si)} {t : List UInt8} {m : Nat} (hn : 1 ≤ need) (hm : m < E.length) : (whr window need E t m = (atF window need E m t, 0) ∧ toldE E t) ∨ (whr window need E t m = (0, 5) ∧ atF window need E m t < 0) := by
  unfold whr
  rw [if_neg oM, Int.toNat_natCast]
  split
  · rename_i ht; exact .inl ⟨rfl, ht⟩
  · rename_i ht
    refine .inr ⟨rfl, Int.not_le.1 fun hc => ht ?_⟩
    have := atF_told hn hc
    obtain ⟨l, hl, hs⟩ := this
    exact ⟨l, List.mem_of_mem_take hl, hs⟩
theorem F68_ok {N : Num} {Γ : Ctx} [GoodC Γ] (H30 : Sat (S30 N) (Γ 30)) : Sat S68 (SF N Γ F68) := by
  rintro _ h K ⟨bx, gt, bt, window, need, E, a, b, e, span, rfl, hT, hg, hA0, hA2, hn, hel, he, hs1, hs2, hK⟩
  refine i_fun rfl ?_
  simp only [F68, Ze, Nat.reduceSub, Nat.reduceAdd]
  have hmax : max 0 (IntKind.i64.wrap (IntKind.i64.wrap ((e : Int) - span) + 1)) = ((e + 1 - span : Nat) : Int) := by rw [w64 (n := (e : Int) - span) oM oM, w64 oM oM]; omega
  refine sw2 @hA0 @hmax ?_
  refine i_loop (fun m : Nat => [some (.pointer (some ⟨bx, 0, none⟩)), some (.string (str a)), some (.string (str b)), some (.int .i64 e), none, some (.int .i64 (togN window need E a b (e + 1 - span) m : Nat)), some (.int .i64 m), none, none, none, none, none, none, none, none])
    (fun m H => e + 1 - span ≤ m ∧ m ≤ e + 1 ∧ H = h) (fun m => e + 1 - m) (e + 1 - span) (by rw [togN_lo _ (Nat.le_refl _)]; try simp only [Pf]; rfl) ⟨oM, oM, rfl⟩ ?_
  rintro m H ⟨hm1, hm2, rfl⟩
  have hle := togN_le (w := window) (n := need) (E := E) (a := a) (b := b) (lo := e + 1 - span) m
  refine sw0 ?_
  refine i_cond (fun c => ?_) (fun c => ?_)
  rotate_left
  · have : m = e + 1 := oM
    subst this
    refine sw0 ?_
    exact hK
  have hm3 : m ≤ e := oM
  have hw : IntKind.i64.wrap ((m : Int) + 1) = ((m + 1 : Nat) : Int) := by rw [w64 oM oM]; omega
  refine sw1 @hA2 ?_
  refine i_call H30 (S30_whr hT hg ?_)
  refine sw1 @hA2 ?_
  refine i_call H30 (S30_whr hT hg ?_)
  have hsame : ∀ hc : ¬ (0 ≤ atF window need E m a ∧ atF window need E m a = atF window need E m b), togN window need E a b (e + 1 - span) (m + 1) = togN window need E a b (e + 1 - span) m := fun hc => by
    rw [togN_succ hm1, tog1, if_neg hc]; rfl
  rcases whr_told (window := window) (t := a) hn (show m < E.length by omega) with ⟨ea, _⟩ | ⟨ea, la⟩
  · rcases whr_told (window := window) (t := b) hn (show m < E.length by omega) with ⟨eb, _⟩ | ⟨eb, lb⟩
    · rw [ea, eb]
      refine sw1 @errV_zero ?_
      refine i_cond (fun c2 => ?_) (fun c2 => ?_)
      · have hn : togN window need E a b (e + 1 - span) (m + 1) = togN window need E a b (e + 1 - span) m + 1 := by
          rw [togN_succ hm1, tog1, if_pos c2]
        have hw2 : IntKind.i64.wrap ((togN window need E a b (e + 1 - span) m : Int) + 1) = ((togN window need E a b (e + 1 - span) (m + 1) : Nat) : Int) := by rw [hn, w64 oM oM]; omega
        refine sw2 @hw @hw2 ?_
        exact k_loop (m + 1) oM sE ⟨oM, oM, rfl⟩
      · refine sw1 @hw ?_
        exact k_loop (m + 1) oM (by rw [hsame c2]; try simp only [Pf]) ⟨oM, oM, rfl⟩
    · rw [ea, eb]
      refine sw3 @errV_zero @errV_succ @hw ?_
      exact k_loop (m + 1) oM (by rw [hsame oM]; try simp only [Pf]) ⟨oM, oM, rfl⟩
  · rw [ea]
    generalize whr window need E b m = wb
    obtain ⟨q, f⟩ := wb
    refine sw2 @errV_succ @hw ?_
    exact k_loop (m + 1) oM (by rw [hsame oM]; try simp only [Pf]) ⟨oM, oM, rfl⟩
end Go.Cw
namespace Go.Cw
open Go
theorem ordT_take {l : List (List UInt8)} (h : ordT l) {i : Nat} (hi : i < l.length) : ∀ q ∈ l.take i, Op.bytesLess q (l.getD i default) = true := by
  intro q hq
  obtain ⟨j, hj, rfl⟩ := List.getElem_of_mem hq
  rw [List.length_take] at hj
  have := List.pairwise_iff_getElem.1 h j i oM hi oM
  rw [List.getElem_take]
  simpa [List.getD, hi] using this
end Go.Cw
namespace Go.Cw
open Go
theorem SlB.step {α : Type} {enc : α → List Value} {sz : Nat} {g h g' H : Heap} {v : Value} {l : List α} (hs : SlB enc sz h v l) (a : Step g h g' H) (hv : ∀ b, blkOf v = some b → g b = none) : SlB enc sz H v l := by
  refine hs.same fun b hb => ?_
  cases hh : h b with
  | none => exact absurd hh (hs.mem hb)
  | some o => exact a.frame b o hh (hv b hb)
section
variable (w n : Nat) (E : List (List Si)) (span score : Nat) (s : List UInt8)
end
end Go.Cw
namespace Go.Cw
open Go
def MapS (g : Heap) (m : Nat) (f : List UInt8 → List UInt8) : Prop := ∃ kv bs ck, MapB encKS encKS g m kv bs ck ∧ ∀ s, look kv s = if f s = [] then none else some (f s)
theorem MapS.le {g h : Heap} {m : Nat} {f : List UInt8 → List UInt8} (hm : MapS g m f) (hl : Heap.le g h) : MapS h m f := by
  obtain ⟨kv, bs, ck, h1, h2⟩ := hm; exact ⟨kv, bs, ck, h1.le hl, h2⟩
theorem MapS.lkp {h : Heap} {m : Nat} {f : List UInt8 → List UInt8} (hm : MapS h m f) (s : List UInt8) : o2V h (.lkp .str (.string (str []))) (.v (.map (some m))) (.v (.string (str s))) = some (.v (.string (str (f s)))) := by
  obtain ⟨kv, bs, ck, h1, h2⟩ := hm
  have := (h1.rules .str).1 (.string (str [])) s
  rw [show (Value.string (str s)) = encKS s from rfl, this, h2 s]
  by_cases h : f s = []
  · rw [if_pos h, h]
  · rw [if_neg h]; rfl
structure InP (g : Heap) (bx bt window need : Nat) (E : List (List Si)) (span score looked : Nat) (pv : Value) (ms : List Nat) (g0 : Heap) : Prop where
  obj : objAt g ⟨bx, 0, none⟩ [.int .i64 span, .int .i64 score, .pointer (some ⟨bt, 0, none⟩), pv]
  sl : SlB encM 1 g pv ms
  len : ms.length = looked
  le0 : Heap.le g0 g
  maps : ∀ i, i < looked → MapS g0 (ms.getD i 0) fun s => parE window need E span score s i
  nb : g0 bx = none
  ns : ∀ x, blkOf pv = some x → g0 x = none ∧ x ≠ bx
  lk : looked ≤ E.length
def InO (g : Heap) (bx bt window need : Nat) (E : List (List Si)) (span score looked : Nat) : Prop := ∃ pv ms g0, InP g bx bt window need E span score looked pv ms g0
theorem InO.more {g : Heap} {bx bt window need : Nat} {E E' : List (List Si)} {span score looked : Nat} (h : InO g bx bt window need E span score looked) : InO g bx bt window need (E ++ E') span score looked := by
  obtain ⟨pv, ms, g0, h⟩ := h
  refine ⟨pv, ms, g0, { h with maps := fun i hi => ?_, lk := by have := h.lk; simp; omega }⟩
  have := h.maps i hi
  have he : (fun s => parE window need (E ++ E') span score s i) = fun s => parE window need E span score s i := by
    funext s; exact parE_pre i (by have := h.lk; omega)
  rw [he]; exact this
def inBad (span score : Int) : Prop := span < 1 ∨ 8 < span ∨ score < 1 ∨ span < score
def S44 (N : Num) : Spec := fun args h K => ∃ bt window need span score, args = [.pointer (some ⟨bt, 0, none⟩), .int .i64 span, .int .i64 score] ∧
  (inBad span score → K (.tuple #[.pointer none, errV N 1]) h) ∧
  (¬ inBad span score → ∀ bx h', h bx = none → Heap.le h h' → (∀ E, InO (fr h h') bx bt window need E span.toNat score.toNat 0) → K (.tuple #[.pointer (some ⟨bx, 0, none⟩), .nilIface]) h')
theorem F44_ok {N : Num} {Γ : Ctx} [GoodC Γ] : Sat (S44 N) (SF N Γ F44) := by
  rintro _ h K ⟨bt, window, need, span, score, rfl, hK1, hK2⟩
  unfold inBad at hK1 hK2
  refine i_fun rfl ?_
  simp only [F44, Ze, Nat.reduceSub, Nat.reduceAdd]
  refine sw0 ?_
  refine i_cond (fun c => ?_) (fun c => ?_)
  · refine sw0 ?_
    exact hK1 oM
  · refine sw0 ?_
    refine i_newO fun bx h1 hle1 hb ho => ?_
    refine sw0 ?_
    refine hK2 oM bx h1 hb hle1 fun E => ⟨.slice none 0 0, [], fun _ => none, ⟨?_, SlB.nil, rfl, fun _ _ h => (by cases h), fun i hi => by omega, rfl, by simp [blkOf], oM⟩⟩
    have e1 : ((span.toNat : Nat) : Int) = span := oM
    have e2 : ((score.toNat : Nat) : Int) = score := oM
    rw [e1, e2]
    exact ho
theorem InP.read {g h : Heap} {bx bt window need : Nat} {E : List (List Si)} {span score looked : Nat} {pv : Value} {ms : List Nat} {g0 : Heap} (hT : InP g bx bt window need E span score looked pv ms g0) (hg : Heap.le g h) :
    h.cell ((⟨bx, 0, none⟩ : Addr).add 0) = some (.int .i64 span) ∧ h.cell ((⟨bx, 0, none⟩ : Addr).add 1) = some (.int .i64 score) ∧ h.cell ((⟨bx, 0, none⟩ : Addr).add 2) = some (.pointer (some ⟨bt, 0, none⟩)) ∧ h.cell ((⟨bx, 0, none⟩ : Addr).add 3) = some pv ∧ Sl encM h pv ms := by
  have ho := hT.obj.le hg
  exact ⟨ho.rules.1 0 (by simp), ho.rules.1 1 (by simp), ho.rules.1 2 (by simp), ho.rules.1 3 (by simp), SlB.sl (enc := encM) (sz := 1) (fun _ => rfl) (hT.sl.le hg)⟩
end Go.Cw
namespace Go.Cw
open Go
theorem bless_lt : ∀ (x y : List UInt8), Op.bytesLess x y = decide (x < y) := by
  intro x
  induction x with
  | nil =>
    intro y
    cases y with
    | nil => simp [Op.bytesLess]
    | cons b y => simp [Op.bytesLess]
  | cons a x ih =>
    intro y
    cases y with
    | nil => simp [Op.bytesLess]
    | cons b y =>
      rw [Bool.eq_iff_iff]
      simp [Op.bytesLess, ih, List.cons_lt_cons_iff]
abbrev srt (l : List (List UInt8)) : List (List UInt8) := l.mergeSort fun x y => decide (x ≤ y)
theorem leb_eq (x y : List UInt8) : decide (x ≤ y) = !Op.bytesLess y x := by
  rw [bless_lt, ← decide_not]
  exact decide_eq_decide.2 (by rw [List.not_lt])
theorem srt_ord {l : List (List UInt8)} (h : l.Nodup) : ordT (srt l) := by
  have hp : (srt l).Pairwise fun x y => decide (x ≤ y) = true := by
    refine List.pairwise_mergeSort (fun a b c h1 h2 => ?_) (fun a b => ?_) l
    · rw [leb_eq, Bool.not_eq_true'] at *
      cases h3 : Op.bytesLess c a with
      | false => rfl
      | true =>
        by_cases e : a = b
        · subst e; rw [h3] at h2; cases h2
        · rw [bless_trans h3 (bless_tot h1 (Ne.symm e))] at h2; cases h2
    · rw [leb_eq, leb_eq]
      cases h3 : Op.bytesLess b a with
      | false => rfl
      | true => rw [bless_asymm h3]; rfl
  have hn : (srt l).Nodup := (List.mergeSort_perm l _).nodup_iff.2 h
  refine List.Pairwise.imp₂ (fun {a b} h1 h2 => ?_) hp hn
  rw [leb_eq, Bool.not_eq_true'] at h1
  exact bless_tot h1 (Ne.symm h2)
theorem srt_mem {l : List (List UInt8)} {t : List UInt8} : t ∈ srt l ↔ t ∈ l := (List.mergeSort_perm l _).mem_iff
theorem srt_len {l : List (List UInt8)} : (srt l).length = l.length := (List.mergeSort_perm l _).length_eq
theorem nodup_le : ∀ {l m : List Nat}, l.Nodup → (∀ x ∈ l, x ∈ m) → l.length ≤ m.length := by
  intro l
  induction l with
  | nil => intro m _ _; simp
  | cons a l ih =>
    intro m hn hs
    have hn' := List.nodup_cons.1 hn
    have ha := hs a (by simp)
    have := ih (m := m.erase a) hn'.2 fun x hx => by
      have : x ≠ a := by rintro rfl; exact hn'.1 hx
      exact (List.mem_erase_of_ne this).2 (hs x (by simp [hx]))
    rw [List.length_erase_of_mem ha] at this
    have := List.length_pos_of_mem ha
    simp; omega
def S67 : Spec := fun args h K => ∃ v l, args = [v] ∧ SlB encT 1 h v l ∧ l.length ≤ 10000000 ∧ ∀ h', SlB encT 1 h' v (srt l) → (∀ b o, h b = some o → blkOf v ≠ some b → h' b = some o) → K (.tuple #[]) h'
theorem objAt.nset {h : Heap} {b m : Nat} {o : Obj} {cs : List Value} (ho : objAt h ⟨b, 0, none⟩ cs) (hm : b ≠ m) : objAt (h.set m o) ⟨b, 0, none⟩ cs := but.obj (b := m) (fun x hx => Heap.set_ne hx) hm ho
theorem objAt.kept {h h' : Heap} {b : Nat} {cs : List Value} (ho : objAt h ⟨b, 0, none⟩ cs) (hk : ∀ o, h b = some o → h' b = some o) : objAt h' ⟨b, 0, none⟩ cs := by
  obtain ⟨h1, c, t, h2, h3⟩ := ho
  exact ⟨h1, c, t, hk _ h2, h3⟩
theorem InO.next {h H3 gx : Heap} {bx bt window need : Nat} {E : List (List Si)} {span score looked : Nat} {pv pv' : Value} {ms : List Nat} {g0 : Heap} {m : Nat}
    (hT : InP gx bx bt window need E span score looked pv ms g0) (hg : Heap.le gx h) (hm : h m = none) (hlE : looked < E.length)
    (hl : ∀ b o, h b = some o → b ≠ bx → blkOf pv ≠ some b → H3 b = some o)
    (hobj : objAt H3 ⟨bx, 0, none⟩ [.int .i64 span, .int .i64 score, .pointer (some ⟨bt, 0, none⟩), pv'])
    (hsl : SlB encM 1 H3 pv' (ms ++ [m])) (hmap : MapS H3 m fun s => parE window need E span score s looked) (hpm : blkOf pv' ≠ some m)
    (hpv : ∀ b, blkOf pv' = some b → blkOf pv = some b ∨ h b = none) : ∃ gx', Step gx h gx' H3 ∧ InO gx' bx bt window need E span score (looked + 1) := by
  have hbx : gx bx ≠ none := by obtain ⟨_, c, t, q, _⟩ := hT.obj; rw [q]; simp
  have hbh : h bx ≠ none := by
    cases e : gx bx with
    | none => exact absurd e hbx
    | some o => rw [hg _ _ e]; simp
  have hmb : m ≠ bx := by rintro rfl; exact hbh hm
  have hpx : ∀ b, blkOf pv' = some b → g0 b = none ∧ b ≠ bx ∧ b ≠ m := by
    intro b hb
    refine ⟨?_, ?_, fun e => hpm (by rw [hb, e])⟩
    · rcases hpv b hb with h1 | h1
      · exact (hT.ns b h1).1
      · exact le_none (hT.le0.trans hg) b h1
    · rcases hpv b hb with h1 | h1
      · exact (hT.ns b h1).2
      · rintro rfl; exact hbh h1
  have hg0m : g0 m = none := le_none (hT.le0.trans hg) m hm
  have hg03 : Heap.le g0 H3 := by
    intro b o hb
    refine hl b o (hg b o (hT.le0 b o hb)) (fun e => ?_) fun e => ?_
    · subst e; rw [hT.nb] at hb; cases hb
    · rw [(hT.ns b e).1] at hb; cases hb
  obtain ⟨g1, hg1⟩ : ∃ g1 : Heap, g1 = fun b => if b = m then H3 b else g0 b := ⟨_, rfl⟩
  obtain ⟨g2, hg2⟩ : ∃ g2 : Heap, g2 = fun b => if b = bx ∨ blkOf pv' = some b then H3 b else g1 b := ⟨_, rfl⟩
  have hle1 : Heap.le g1 H3 := by
    intro b o hb; rw [hg1] at hb; dsimp only at hb; split at hb
    · exact hb
    · exact hg03 b o hb
  have hle2 : Heap.le g2 H3 := by
    intro b o hb; rw [hg2] at hb; dsimp only at hb; split at hb
    · exact hb
    · exact hle1 b o hb
  have hle12 : Heap.le g1 g2 := by
    intro b o hb
    rw [hg2]; dsimp only; split
    · exact hle1 b o hb
    · exact hb
  refine ⟨g2, ⟨hle2, fun b o hb hn => ?_, fun b hb hn => ?_⟩, pv', ms ++ [m], g1, ⟨?_, ?_, by rw [List.length_append, hT.len]; rfl, hle12, fun i hi => ?_, ?_, fun x hx => ?_, oM⟩⟩
  · refine hl b o hb (fun e => ?_) fun e => ?_
    · subst e; exact hbx hn
    · exact hT.sl.mem e hn
  · rw [hg2]; dsimp only
    have h1 : b ≠ bx := by rintro rfl; exact hbx hn
    have h2 : blkOf pv' ≠ some b := by
      intro e
      rcases hpv b e with h3 | h3
      · exact hT.sl.mem h3 hn
      · exact hb h3
    have h3 : b ≠ m := by rintro rfl; exact hb hm
    rw [if_neg (by simp [h1, h2]), hg1]
    dsimp only
    rw [if_neg h3]
    exact le_none hT.le0 b hn
  · exact hobj.kept fun o ho => by rw [hg2]; simp [ho]
  · exact hsl.same fun b hb => by rw [hg2]; simp [hb]
  · by_cases h1 : i < looked
    · have h2 := hT.maps i h1
      have h3 : Heap.le g0 g1 := by
        intro b o hb; rw [hg1]; dsimp only; rw [if_neg fun e => ?_]
        · exact hb
        · subst e; rw [hg0m] at hb; cases hb
      have h4 := h2.le h3
      have h5 : (ms ++ [m]).getD i 0 = ms.getD i 0 := by simp [List.getD, List.getElem?_append_left (show i < ms.length by rw [hT.len]; exact h1)]
      rw [h5]; exact h4
    · have h2 : i = looked := oM
      subst h2
      have h5 : (ms ++ [m]).getD i 0 = m := by rw [← hT.len]; simp [List.getD]
      rw [h5]
      obtain ⟨kv, bs, ck, ⟨es, q1, q2⟩, q3⟩ := hmap
      exact ⟨kv, bs, ck, ⟨es, by rw [hg1]; simpa using q1, q2⟩, q3⟩
  · rw [hg1]; dsimp only; rw [if_neg (Ne.symm hmb)]; exact hT.nb
  · obtain ⟨h1, h2, h3⟩ := hpx x hx
    refine ⟨?_, h2⟩
    rw [hg1]; dsimp only; rw [if_neg h3]; exact h1
end Go.Cw
namespace Go.Cw
open Go
theorem flatT_get (l : List (List UInt8)) (i : Nat) : (l.flatMap encT)[i]? = (l[i]?).map fun s => .string (str s) := by
  induction l generalizing i with
  | nil => simp
  | cons x l ih =>
    cases i with
    | zero => simp [encT]
    | succ i => simp only [List.flatMap_cons, encT, List.cons_append, List.nil_append, List.getElem?_cons_succ]; exact ih i
theorem Heap.set_self' {h : Heap} {b : Nat} {o : Obj} : (h.set b o) b = some o := by simp [Heap.set]
theorem c67_of {P : Program} {ρ : Go.Shelf.Ren} (Ly : Go.Proofs.Lays.n192 P ρ) : ∀ args h K, S67 args h K → ∀ w, h.sub w → Calls P (ρ.f 192) args.toArray w fun e w' => ∃ v h', e = .returned v ∧ K v h' ∧ WStep h h' w w' := by
  rintro _ h K ⟨v, l, rfl, ⟨a, cap, rfl, h1, h2, h3⟩, hl, hK⟩ w hs
  by_cases hn : l = []
  · subst hn
    refine (Go.Proofs.Any.sort_Strings_none Ly a cap w).mono ?_
    rintro e w' ⟨rfl, rfl⟩
    refine ⟨_, h, rfl, hK h ⟨a, cap, by simp [srt], by simp [srt], h2, ?_⟩ fun b o hb _ => hb, WStep.refl hs⟩
    rcases h3 with ⟨q1, _, q2⟩ | h3
    · exact .inl ⟨q1, by simp [srt], q2⟩
    · exact .inr (by simpa [srt] using h3)
  rcases h3 with ⟨_, e, _⟩ | ⟨b, c, t, rfl, hb, hcs, hc⟩
  · exact absurd e hn
  have hwb := hs b _ hb
  have hfl : (l.flatMap encT).length = l.length := by rw [flat_len (enc := encT) (sz := 1) (fun _ => rfl)]; omega
  have hH : Go.Sort.Holds Go.Proofs.encStr w b 0 l.toArray := by
    intro j hj
    have hj' : j < l.length := by simpa using hj
    constructor
    · have := hc j (by rw [hfl]; exact hj')
      rw [flatT_get, List.getElem?_eq_getElem hj'] at this
      simp only [World.cell?, hwb, Nat.zero_add]
      rw [this]
      simp [hj', Go.Proofs.encStr, str]
    · simp [World.frozen?, hwb]
  refine (Go.Proofs.Any.sort_Strings Ly b 0 cap l w hH (Array.getElem?_eq_some_iff.1 hwb).1 oM).mono ?_
  rintro e w' ⟨rfl, n, os, rfl⟩
  have hlen : (srt l).length = l.length := srt_len
  have hsz : (Go.Sort.putCells Go.Proofs.encStr 0 (srt l).toArray c).size = c.size := by simp [Go.Sort.putCells]
  refine ⟨_, h.set b (.cells (Go.Sort.putCells Go.Proofs.encStr 0 (srt l).toArray c) t (0, 0)), rfl, hK _ ⟨some ⟨b, 0, none⟩, cap, by rw [hlen], by rw [hlen]; exact h1, h2, .inr ⟨b, _, t, rfl, Heap.set_self', by rw [hsz]; exact hcs, fun i hi => ?_⟩⟩ fun x o hx hne => ?_, ⟨fun x o hx => ?_, ?_, rfl, rfl, rfl, fun x hx hn => ⟨?_, ?_⟩⟩⟩
  · have hi' : i < (srt l).length := by rwa [flat_len (enc := encT) (sz := 1) (fun _ => rfl), Nat.mul_one] at hi
    rw [flatT_get, List.getElem?_eq_getElem hi']
    have hic : i < c.size := oM
    simp only [Go.Sort.putCells, Array.getElem?_mapIdx, Array.getElem?_eq_getElem hic, Option.map_some]
    rw [if_pos ⟨oM, by simpa using hi'⟩]
    have hi2 : i < l.length := oM
    simp [hi', Go.Proofs.encStr, str, List.getElem?_eq_getElem hi']
  · have : x ≠ b := by rintro rfl; exact hne rfl
    rw [Heap.set_ne this]; exact hx
  · by_cases e : x = b
    · subst e
      rw [Heap.set_self'] at hx
      cases hx
      have hlt := (Array.getElem?_eq_some_iff.1 hwb).1
      rw [Go.Sort.heap_grow_old _ _ (by rw [Go.Sort.size_putRow]; exact hlt)]
      simp [Go.Sort.putRow, Go.Sort.mapBlock, Go.Sort.ahead, Array.getElem?_modify, hwb, Go.Sort.onCells]
    · rw [Heap.set_ne e] at hx
      have hwx := hs x o hx
      have hlt := (Array.getElem?_eq_some_iff.1 hwx).1
      rw [Go.Sort.heap_grow_old _ _ (by rw [Go.Sort.size_putRow]; exact hlt)]
      simp [Go.Sort.putRow, Go.Sort.mapBlock, Go.Sort.ahead, Array.getElem?_modify, hwx, Ne.symm e]
  · rw [Go.Sort.size_grow, Go.Sort.size_putRow]; simp
  · have : x ≠ b := by rintro rfl; rw [hn] at hb; cases hb
    rw [Heap.set_ne this]; exact hn
  · have e : x ≠ b := by rintro rfl; rw [hn] at hb; cases hb
    rw [Go.Sort.heap_grow_old _ _ (by rw [Go.Sort.size_putRow]; exact hx)]
    simp [Go.Sort.putRow, Go.Sort.mapBlock, Go.Sort.ahead, Array.getElem?_modify, Ne.symm e]
end Go.Cw
namespace Go.Cw
open Go
def Gath (wkv : List (List UInt8 × Value)) (bs dn : List Nat) (l : List (List UInt8)) : Prop :=
  l.Nodup ∧ l.length ≤ dn.length ∧ ∀ t, t ∈ l ↔ 0 < kindOf t ∧ ∃ (j b : Nat) (u : Value), wkv[j]? = some (t, u) ∧ bs[j]? = some b ∧ b ∈ dn
theorem Gath.skip {wkv : List (List UInt8 × Value)} {bs dn : List Nat} {l : List (List UInt8)} (h : Gath wkv bs dn l) {j b : Nat} {key : List UInt8} {u : Value} (hj : wkv[j]? = some (key, u)) (hb : bs[j]? = some b) (hbs : bs.Nodup) (hk : ¬ 0 < kindOf key) : Gath wkv bs (dn ++ [b]) l := by
  refine ⟨h.1, by have := h.2.1; simp; omega, fun t => (h.2.2 t).trans ⟨fun ⟨h1, j', b', u', h2, h3, h4⟩ => ⟨h1, j', b', u', h2, h3, by simp [h4]⟩, fun ⟨h1, j', b', u', h2, h3, h4⟩ => ⟨h1, j', b', u', h2, h3, ?_⟩⟩⟩
  rw [List.mem_append, List.mem_singleton] at h4
  rcases h4 with h4 | rfl
  · exact h4
  · have := nodup_idx hbs hb h3
    subst this
    rw [hj] at h2
    simp only [Option.some.injEq, Prod.mk.injEq] at h2
    rw [h2.1] at hk; exact absurd h1 hk
theorem Gath.take {wkv : List (List UInt8 × Value)} {bs dn : List Nat} {l : List (List UInt8)} (h : Gath wkv bs dn l) {j b : Nat} {key : List UInt8} {u : Value} (hj : wkv[j]? = some (key, u)) (hb : bs[j]? = some b) (hbs : bs.Nodup) (hnd : (wkv.map (·.1)).Nodup) (hn : b ∉ dn) (hk : 0 < kindOf key) : Gath wkv bs (dn ++ [b]) (l ++ [key]) := by
  refine ⟨List.nodup_append.2 ⟨h.1, by simp, fun x hx y hy e => ?_⟩, by have := h.2.1; simp; omega, fun t => ⟨fun ht => ?_, fun ⟨h1, j', b', u', h2, h3, h4⟩ => ?_⟩⟩
  · simp at hy; subst hy; subst e
    obtain ⟨_, j', b', u', h2, h3, h4⟩ := (h.2.2 x).1 hx
    have h5 : (wkv.map (·.1))[j']? = some x := by rw [List.getElem?_map, h2]; rfl
    have h6 : (wkv.map (·.1))[j]? = some x := by rw [List.getElem?_map, hj]; rfl
    have := nodup_idx hnd h5 h6
    subst this
    rw [hb] at h3; cases h3; exact hn h4
  · rw [List.mem_append, List.mem_singleton] at ht
    rcases ht with ht | rfl
    · obtain ⟨h1, j', b', u', h2, h3, h4⟩ := (h.2.2 t).1 ht
      exact ⟨h1, j', b', u', h2, h3, by simp [h4]⟩
    · exact ⟨hk, j, b, u, hj, hb, by simp⟩
  · rw [List.mem_append, List.mem_singleton] at h4 ⊢
    rcases h4 with h4 | rfl
    · exact .inl ((h.2.2 t).2 ⟨h1, j', b', u', h2, h3, h4⟩)
    · have := nodup_idx hbs hb h3
      subst this
      rw [hj] at h2
      simp only [Option.some.injEq, Prod.mk.injEq] at h2
      exact .inr h2.1.symm
def KidsOk (w n : Nat) (E : List (List Si)) (span score e : Nat) (pre : List (List UInt8)) (kv : List (List UInt8 × List UInt8)) : Prop :=
  ∀ s, look kv s = if s ∈ pre ∧ parE w n E span score s e ≠ [] then some (parE w n E span score s e) else none
def S46 : Spec := fun args h K => ∃ gx gt bx bt window need E span score looked, args = [.pointer (some ⟨bx, 0, none⟩)] ∧ InO gx bx bt window need E span score looked ∧ Heap.le gx h ∧ TrO gt bt window need E ∧ Heap.le gt h ∧ disj gt gx ∧ 1 ≤ need ∧ E.length ≤ 1000 ∧ (∀ l ∈ E, l.length ≤ 2000) ∧ 1 ≤ span ∧ span ≤ 8 ∧ 1 ≤ score ∧ score ≤ 8 ∧
  (looked = E.length → K (.bool false) h) ∧ (looked < E.length → ∀ gx' h', Step gx h gx' h' → InO gx' bx bt window need E span score (looked + 1) → K (.bool true) h')
theorem F46_ok {N : Num} {Γ : Ctx} [GoodC Γ] (H31 : Sat S31 (Γ 31)) (H54 : Sat (S54 N) (Γ 54)) (H66 : Sat S66 (Γ 66)) (H67 : Sat S67 (Γ 67)) (H68 : Sat S68 (Γ 68)) : Sat S46 (SF N Γ F46) := by
  rintro _ h K ⟨gx, gt, bx, bt, window, need, E, span, score, looked, rfl, ⟨pv, ms, g0, hI⟩, hgx, hT, hgt, hd, hn1, hEl, hEr, hs1, hs2, hc1, hc2, hK1, hK2⟩
  refine i_fun rfl ?_
  simp only [F46, Ze, Nat.reduceSub, Nat.reduceAdd]
  have hlk := hI.lk
  obtain ⟨A0, A1, A2, A3, hPS⟩ := hI.read hgx
  have R := hPS.rules1 mapV (fun _ => rfl) 0
  rw [hI.len] at R
  refine sw3 @A3 @R @A2 ?_
  refine i_call H31 ⟨gt, bt, window, need, E, rfl, hT, hgt, ?_⟩
  refine sw0 ?_
  refine i_cond (fun c1 => ?_) (fun c1 => ?_)
  · refine sw0 ?_
    exact hK1 oM
  have hlo : looked < E.length := oM
  have hK := hK2 hlo
  clear hK1 hK2
  refine sw0 ?_
  refine i_newO fun b3 h1 hle1 hb3 ho3 => ?_
  have ho3' : objAt h1 ⟨b3, 0, none⟩ [.slice none 0 0] := ho3.le (fr_le _ _)
  have hRd : ∀ H, Heap.le h H → H.cell ((⟨bx, 0, none⟩ : Addr).add 0) = some (.int .i64 span) ∧ H.cell ((⟨bx, 0, none⟩ : Addr).add 1) = some (.int .i64 score) ∧ H.cell ((⟨bx, 0, none⟩ : Addr).add 2) = some (.pointer (some ⟨bt, 0, none⟩)) ∧ H.cell ((⟨bx, 0, none⟩ : Addr).add 3) = some pv ∧ Sl encM H pv ms := fun H hl => hI.read (hgx.trans hl)
  have A21 := (hRd h1 hle1).2.2.1
  refine sw1 @A21 ?_
  refine i_call H54 ⟨_, rfl, fun b6 h2 hle2 ho6 => ?_⟩
  obtain ⟨mw, wkv, bs, ck, hmw, hMB, hnd, hkeys⟩ := hT.keys
  have hbsl : bs.length = wkv.length := by obtain ⟨_, _, _, h, _⟩ := hMB; exact h
  have hbsn : bs.Nodup := by obtain ⟨_, _, _, _, h, _⟩ := hMB; exact h
  have hwl : wkv.length = (tagsE E).length := by
    have e := nodup_len hnd (tagsE_nodup E) fun x => (hkeys x).trans (mem_tagsE E x).symm
    rwa [List.length_map] at e
  have hfl := flatT_len E hEr
  have htl2 : (tagsE E).length ≤ 2000000 := by have := tagsOfL_len (flatT E); unfold tagsE; omega
  have hle12 := hle1.trans hle2
  refine sw0 ?_
  refine i_rfn (ek := encKS) (ev := id) (c := ⟨b6, 0, none⟩) (a := ⟨bt, 0, none⟩) (kv := wkv) (bs := bs) (ck := ck) (mp := mw) rfl ((ho6.le (fr_le _ _)).rules.2.1 (by simp)) (hmw h2 (hgt.trans hle12))
    (fun dn G => Heap.le h G ∧ ∃ v l, objAt G ⟨b3, 0, none⟩ [v] ∧ SlB encT 1 G v l ∧ (∀ b, blkOf v = some b → h b = none ∧ b ≠ b3) ∧ Gath wkv bs dn l) ⟨hle12, .slice none 0 0, [], ho3'.le hle2, SlB.nil, by simp [blkOf], ⟨by simp, by simp, by simp⟩⟩ (fun dn G hJ => hMB.le (hgt.trans hJ.1)) ?_ ?_
  rotate_left
  · rintro dn G j b key val ⟨hG, v, l, hob, hSl, hvb, hga⟩ hdn hds hj hb hnb
    have hdl : dn.length ≤ bs.length := nodup_le hdn hds
    have hll := hga.2.1
    refine sw2 @rf_rules @encKS.eq_1 ?_
    refine i_call H66 ⟨key, rfl, fun G2 hle3 => ?_⟩
    refine sw0 ?_
    refine i_cond (fun c => ?_) (fun c => ?_)
    rotate_left
    · refine sw1 @rf_rules ?_
      exact ⟨hG.trans hle3, v, l, hob.le hle3, hSl.le hle3, hvb, hga.skip hj hb hbsn c⟩
    have B3 : G2.cell ⟨b3, 0, none⟩ = some v := (hob.le hle3).rules.2.1 (by simp)
    have O1 := hSl.one
    refine sw1 @B3 ?_
    refine i_bslB encT 1 (fun _ => rfl) [key] rfl rfl (by simp [maxLen]) fun x1 b1 G3 hle4 hb1 hx1 hS3 => ?_
    have O2 := hS3.one
    have hle34 := hle3.trans hle4
    refine sw2 O2.1 O2.2 ?_
    refine i_appB (enc := encT) (sz := 1) (g := G3) (l := l) (l' := [key]) (fun _ => rfl) (by simp [encT, one]) (hSl.le hle34) (Heap.le.refl G3) (SlB.sl (enc := encT) (fun _ => rfl) (hS3.le (fr_le _ _))) (by simp; omega) fun v4 h4 g4 hS4 St4 e1 e2 e3 => ?_
    have hob4 : objAt h4 ⟨b3, 0, none⟩ [v] := (hob.le hle34).kept fun o ho => e3 _ _ ho fun e => (hvb _ e).2 rfl
    have hb3G : G3 b3 ≠ none := by obtain ⟨_, cc, tt, q, _⟩ := hob.le hle34; rw [q]; simp
    have hvb4 : ∀ b, blkOf v4 = some b → h b = none ∧ b ≠ b3 := by
      intro b hb
      rcases e2 b hb with h5 | h5
      · exact hvb b h5
      · exact ⟨le_none (hG.trans hle34) b h5, fun e => hb3G (e ▸ h5)⟩
    have hG4 : Heap.le h h4 := fun b o hb => e3 b o (hle34 b o (hG b o hb)) fun e => by rw [(hvb b e).1] at hb; cases hb
    have O4 := hS4.one
    refine sw2 O4.1 O4.2 ?_
    refine i_st hob4 0 1 (by rw [O4.2]; rfl) (by rw [O4.2]; simp [O4.1]) oM (by simp) fun o7 hob8 _ => ?_
    have hob9 : objAt (h4.set b3 o7) ⟨b3, 0, none⟩ [v4] := by have := hob8 h4 rfl; simpa [O4.2] using this
    refine sw1 @rf_rules ?_
    have hb3h : h b3 = none := hb3
    refine ⟨but.le (b := b3) hG4 hb3h fun x hx => Heap.set_ne hx, v4, l ++ [key], hob9, (hS4.le St4.le).same fun b hb => Heap.set_ne (hvb4 b hb).2, hvb4, hga.take hj hb hbsn hnd hnb c⟩
  rintro dn G ⟨hG, v, l, hob, hSl, hvb, hga⟩ hdn hds hall
  have hdl : dn.length ≤ bs.length := nodup_le hdn hds
  have hll : l.length ≤ 2000000 := by have := hga.2.1; omega
  have hmem : ∀ t, t ∈ l ↔ 0 < kindOf t ∧ toldE E t := by
    intro t
    rw [hga.2.2 t, ← hkeys t]
    refine and_congr Iff.rfl ⟨fun ⟨j, b, u, q1, q2, q3⟩ => List.mem_map.2 ⟨_, List.mem_of_getElem? q1, rfl⟩, fun ht => ?_⟩
    obtain ⟨⟨k, u⟩, q1, rfl⟩ := List.mem_map.1 ht
    obtain ⟨j, hj, q2⟩ := List.getElem_of_mem q1
    have hj2 : j < bs.length := oM
    exact ⟨j, bs[j], u, by rw [List.getElem?_eq_getElem hj, q2], by rw [List.getElem?_eq_getElem hj2], hall _ (List.getElem_mem hj2)⟩
  have B3 : G.cell ⟨b3, 0, none⟩ = some v := hob.rules.2.1 (by simp)
  refine sw1 @B3 ?_
  refine i_call H67 ⟨v, l, rfl, hSl, oM, fun H1 hS1 hk1 => ?_⟩
  have hordL := srt_ord hga.1
  have hmemL : ∀ t, t ∈ srt l ↔ 0 < kindOf t ∧ toldE E t := fun t => srt_mem.trans (hmem t)
  have hLl : (srt l).length ≤ 2000000 := by rw [srt_len]; exact hll
  generalize srt l = L at *
  have hH1 : Heap.le h H1 := fun b o hb => hk1 b o (hG b o hb) fun e => by rw [(hvb b e).1] at hb; cases hb
  have hob1 : objAt H1 ⟨b3, 0, none⟩ [v] := hob.kept fun o ho => hk1 _ _ ho fun e => (hvb _ e).2 rfl
  clear hk1 hSl hob B3 hga
  refine sw0 ?_
  refine i_mnew (ek := encKS) (ev := encKS) fun m H2 hm0 hle2' hmE => ?_
  have hmE2 := hmE.le (fr_le _ _)
  have hob2 := hob1.le hle2'
  have hS2 := hS1.le hle2'
  have hH2 := hH1.trans hle2'
  have hmh : h m = none := le_none hH1 m hm0
  have hmb3 : b3 ≠ m := by
    rintro rfl
    obtain ⟨_, cc, tt, q, _⟩ := hob1
    rw [q] at hm0; cases hm0
  have hvm : blkOf v ≠ some m := fun e => hS1.mem e hm0
  have B32 : ∀ H, objAt H ⟨b3, 0, none⟩ [v] → H.cell ⟨b3, 0, none⟩ = some v := fun H ho => ho.rules.2.1 (by simp)
  have B3 := B32 _ hob2
  have RL0 := (SlB.sl (enc := encT) (sz := 1) (fun _ => rfl) hS2).rules1 (fun t => .string (str t)) (fun _ => rfl) default
  have hin : ∀ s p, cand s p → 0 < togE window need E span s p looked → p ∈ L := by
    intro s p hc h0
    have := (togE_told hn1 h0).2
    obtain ⟨l, hl, hs⟩ := this
    exact (hmemL p).2 ⟨by have := hc.1; have := hc.2; omega, l, List.mem_of_mem_take hl, hs⟩
  refine sw2 @B3 @RL0 ?_
  refine i_meet_blk (fun env H => Heap.le h H ∧ (∃ kv bs ck, MapB encKS encKS H m kv bs ck ∧ KidsOk window need E span score looked L kv) ∧ env = [some (.pointer (some ⟨bx, 0, none⟩)), none, some (.int .i64 (looked : Nat)), some (.pointer (some ⟨b3, 0, none⟩)), none, some (.map (some m)), none, none, none, none, none, none, none, none, none, none, none, none, none, none, none, none, none, none, none, none, none, none, none, none, none, none, none, none, none, none, none, none, none, none, none, none]) ?_ ?_
  rotate_left
  · refine i_loop (fun i : Nat => [some (.pointer (some ⟨bx, 0, none⟩)), none, some (.int .i64 (looked : Nat)), some (.pointer (some ⟨b3, 0, none⟩)), none, some (.map (some m)), none, none, none, none, none, none, none, none, none, none, none, none, none, none, none, none, none, some v, some (.int .i64 L.length), some (.int .i64 (i : Nat)), none, none, none, none, none, none, none, none, none, none, none, none, none, none, none, none])
      (fun i H => i ≤ L.length ∧ Heap.le h H ∧ objAt H ⟨b3, 0, none⟩ [v] ∧ SlB encT 1 H v L ∧ ∃ kv bs ck, MapB encKS encKS H m kv bs ck ∧ KidsOk window need E span score looked (L.take i) kv) (fun i => L.length - i) 0 (by try simp only [Pf]; rfl) ⟨oM, hH2, hob2, hS2, [], [], 0, hmE2, fun s => by simp [look_nil]⟩ ?_
    rintro i H ⟨hi, hH, hob, hS, kv, bs', ck', hmp, hkid⟩
    have RL := (SlB.sl (enc := encT) (sz := 1) (fun _ => rfl) hS).rules1 (fun t => .string (str t)) (fun _ => rfl) default
    have hw : IntKind.i64.wrap ((i : Int) + 1) = ((i + 1 : Nat) : Int) := by rw [w64 oM oM]; omega
    refine sw0 ?_
    refine i_cond (fun c => ?_) (fun c => ?_)
    rotate_left
    · have : i = L.length := oM
      subst this
      rw [List.take_length] at hkid
      refine sw0 ?_
      exact k_meet _ sE ⟨hH, ⟨kv, bs', ck', hmp, hkid⟩, rfl⟩
    have hi2 : i < L.length := oM
    have hcm := (hmemL _).1 (getD_mem default hi2)
    have hnx : L.take (i + 1) = L.take i ++ [L.getD i default] := take_succ_d default hi2
    refine sw1 @RL ?_
    generalize hch : L.getD i default = ch at *
    refine i_meet_cond (fun env H' => H' = H ∧ env = [some (.pointer (some ⟨bx, 0, none⟩)), none, some (.int .i64 (looked : Nat)), some (.pointer (some ⟨b3, 0, none⟩)), none, some (.map (some m)), some (.string (str ch)), some (.string (str (wasE window need E span score ch looked))), none, none, none, none, none, none, none, none, none, none, none, none, none, none, none, some v, some (.int .i64 L.length), some (.int .i64 (i : Nat)), none, none, none, none, none, none, none, none, none, none, none, none, none, none, none, none]) ?_ ?_
    rotate_left
    · obtain ⟨_, _, _, A3H, hPS⟩ := hRd H hH
      have RP := hPS.rules1 mapV (fun _ => rfl) 0
      rw [hI.len] at RP
      cases looked with
      | zero =>
        refine sw0 ?_
        exact k_meet _ (by try simp only [Pf]; rfl) ⟨rfl, rfl⟩
      | succ e1 =>
        have hm := ((hI.maps e1 oM).le (hI.le0.trans (hgx.trans hH))).lkp ch
        have he1 : IntKind.i64.wrap (((e1 + 1 : Nat) : Int) - 1) = ((e1 : Nat) : Int) := by rw [w64 oM oM]; omega
        have hp1 : ((0 : Int) < ((e1 + 1 : Nat) : Int)) = True := by rw [eq_iff_iff]; simp
        refine sw6 @hp1 @A3H @he1 @RP @mapV.eq_1 @hm ?_
        exact k_meet _ (by try simp only [Pf]; rfl) ⟨rfl, rfl⟩
    rintro env H' ⟨rfl, rfl⟩
    obtain ⟨_, A1H, _, _, _⟩ := hRd H' hH
    have B3H := B32 H' hob
    have hsc : IntKind.i64.wrap ((score : Int) - 1) = (score : Int) - 1 := by rw [w64 oM oM]
    generalize hwas : wasE window need E span score ch looked = was at *
    refine sw4 @A1H @hsc @B3H @RL ?_
    refine i_loop (fun x : Nat × List UInt8 × Int => [some (.pointer (some ⟨bx, 0, none⟩)), none, some (.int .i64 (looked : Nat)), some (.pointer (some ⟨b3, 0, none⟩)), none, some (.map (some m)), some (.string (str ch)), some (.string (str was)), some (.string (str x.2.1)), some (.int .i64 x.2.2), none, none, none, none, none, none, none, none, none, none, none, none, none, some v, some (.int .i64 L.length), some (.int .i64 (i : Nat)), none, none, some v, some (.int .i64 L.length), some (.int .i64 (x.1 : Nat)), none, none, none, none, none, none, none, none, none, none, none])
      (fun x G => x.1 ≤ L.length ∧ Heap.le H' G ∧ FoldP (fun p => togE window need E span ch p looked) score ch was (L.take x.1) x.2.1 x.2.2) (fun x => L.length - x.1) (0, [], (score : Int) - 1) (by try simp only [Pf]; rfl) ⟨dM, Heap.le.refl H', FoldP.nil⟩ ?_
    rintro ⟨k, best, most⟩ G1 ⟨hk, hHG, hF⟩
    dsimp only at hk hF ⊢
    have RLG := (SlB.sl (enc := encT) (sz := 1) (fun _ => rfl) (hS.le hHG)).rules1 (fun t => .string (str t)) (fun _ => rfl) default
    have hwk : IntKind.i64.wrap ((k : Int) + 1) = ((k + 1 : Nat) : Int) := by rw [w64 oM oM]; omega
    refine sw0 ?_
    refine i_cond (fun c2 => ?_) (fun c2 => ?_)
    rotate_left
    · have : k = L.length := oM
      subst this
      rw [List.take_length] at hF
      have hpar : parE window need E span score ch looked = best := par_of (by rw [hwas]; exact hF.par hc1 (hin ch))
      have hKid : ∀ kv', (∀ s, look kv' s = if s = ch ∧ best ≠ [] then some best else look kv s) → KidsOk window need E span score looked (L.take (i + 1)) kv' := by
        intro kv' h' s
        rw [h' s, hnx, hkid s]
        by_cases hs : s = ch
        · subst hs
          rw [hpar]
          by_cases hbn : best = []
          · simp [hbn]
          · simp [hbn]
        · simp [hs]
      refine sw0 ?_
      refine i_cond (fun c3 => ?_) (fun c3 => ?_)
      · refine sw0 ?_
        refine i_mupd (ek := encKS) (ev := encKS) (hmp.le hHG) (Heap.le.refl G1) ch best fun o bs'' ck'' hm' St' _ => ?_
        refine sw1 @hw ?_
        refine k_loop (i + 1) oM sE ⟨oM, but.le (b := m) (hH.trans hHG) hmh fun x hx => Heap.set_ne hx, (hob.le hHG).nset hmb3, (hS.le hHG).same fun b hb => Heap.set_ne fun e => hvm (e ▸ hb), _, _, _, hm', hKid _ fun s => ?_⟩
        rw [look_upd]
        by_cases hs : s = ch
        · rw [if_pos hs, if_pos ⟨hs, c3⟩]
        · rw [if_neg hs, if_neg fun h => hs h.1]
      · refine sw1 @hw ?_
        exact k_loop (i + 1) oM sE ⟨oM, hH.trans hHG, hob.le hHG, hS.le hHG, _, _, _, hmp.le hHG, hKid _ fun s => by rw [if_neg fun h => c3 h.2]⟩
    have hk2 : k < L.length := oM
    have hpm := (hmemL _).1 (getD_mem default hk2)
    have hnk : L.take (k + 1) = L.take k ++ [L.getD k default] := take_succ_d default hk2
    have hordk := ordT_take hordL hk2
    refine sw1 @RLG ?_
    generalize hp : L.getD k default = p at *
    refine i_call H66 ⟨p, rfl, fun G2 hle2' => ?_⟩
    refine sw0 ?_
    refine i_call H66 ⟨ch, rfl, fun G3 hle3' => ?_⟩
    have hHG3 := hHG.trans (hle2'.trans hle3')
    obtain ⟨A03, A13, A23, _, _⟩ := hRd G3 (hH.trans hHG3)
    refine sw0 ?_
    refine i_cond (fun c4 => ?_) (fun c4 => ?_)
    · refine sw1 @hwk ?_
      refine k_loop (k + 1, best, most) dM (by dsimp only; try simp only [Pf]) ⟨dM, hHG3, ?_⟩
      dsimp only
      rw [hnk]
      exact hF.skip fun hc => by have := hc.2; omega
    have hcd : cand ch p := ⟨hcm.1, oM⟩
    refine sw0 ?_
    refine i_call H68 ⟨bx, gt, bt, window, need, E, ch, p, looked, span, rfl, hT, hgt.trans (hH.trans hHG3), A03, A23, hn1, hEl, hlo, hs1, hs2, ?_⟩
    refine sw1 @A13 ?_
    refine i_cond (fun c5 => ?_) (fun c5 => ?_)
    · refine sw1 @hwk ?_
      refine k_loop (k + 1, p, (togE window need E span ch p looked : Nat)) dM (by dsimp only; try simp only [Pf]) ⟨dM, hHG3, ?_⟩
      dsimp only
      rw [hnk]
      exact hF.take hcd hordk hc1 (c5.imp id fun ⟨⟨a, b⟩, c⟩ => ⟨a, b, c⟩)
    · refine sw1 @hwk ?_
      refine k_loop (k + 1, best, most) dM (by dsimp only; try simp only [Pf]) ⟨dM, hHG3, ?_⟩
      dsimp only
      rw [hnk]
      exact hF.leave hcd hordk fun hx => c5 (hx.imp id fun ⟨a, b, c⟩ => ⟨⟨a, b⟩, c⟩)
  rintro env H ⟨hH, ⟨kv, bs', ck', hmp, hkid⟩, rfl⟩
  obtain ⟨_, _, _, A3H, hPSH⟩ := hRd H hH
  have hMapS : ∀ G, (∀ o, H m = some o → G m = some o) → MapS G m fun s => parE window need E span score s looked := by
    intro G hG
    obtain ⟨es, q1, q2⟩ := hmp
    refine ⟨kv, bs', ck', ⟨es, hG _ q1, q2⟩, fun s => ?_⟩
    rw [hkid s]
    by_cases hp : parE window need E span score s looked = []
    · rw [if_neg fun h => h.2 hp, if_pos hp]
    · have hsL : s ∈ L := by
        refine (hmemL s).2 (Classical.byContradiction fun hc => hp (par_nil hn1 hc1 ?_))
        by_cases hk : kindOf s ≤ 0
        · exact .inl hk
        · refine .inr fun ht => hc ⟨oM, ?_⟩
          obtain ⟨l, hl, hs⟩ := ht
          exact ⟨l, List.mem_of_mem_take hl, hs⟩
      rw [if_neg hp, if_pos ⟨hsL, hp⟩]
  have hHm : H m ≠ none := by obtain ⟨es, q1, q2⟩ := hmp; rw [q1]; simp
  have hpl : ms.length = looked := hI.len
  refine sw1 @A3H ?_
  refine i_bslB encM 1 (fun _ => rfl) [m] rfl rfl (by simp [maxLen]) fun x1 b1 H5 hle5 hb1 hx1 hS5 => ?_
  have O2 := hS5.one
  have OP := hI.sl.one
  refine sw4 O2.1 O2.2 OP.1 OP.2 ?_
  have hHH5 := hH.trans hle5
  refine i_appB (enc := encM) (sz := 1) (g := H5) (l := ms) (l' := [m]) (fun _ => rfl) (by simp [encM, mapV, one]) (hI.sl.le (hgx.trans hHH5)) (Heap.le.refl H5) (SlB.sl (enc := encM) (fun _ => rfl) (hS5.le (fr_le _ _))) (by simp; omega) fun pv' H6 g6 hS6 St6 e1 e2 e3 => ?_
  have O6 := hS6.one
  have hbxp : blkOf pv ≠ some bx := fun e => (hI.ns _ e).2 rfl
  have hob6 : objAt H6 ⟨bx, 0, none⟩ [.int .i64 span, .int .i64 score, .pointer (some ⟨bt, 0, none⟩), pv] := (hI.obj.le (hgx.trans hHH5)).kept fun o ho => e3 _ _ ho hbxp
  refine sw2 O6.1 O6.2 ?_
  refine i_st hob6 3 1 (by rw [O6.2]; rfl) (by rw [O6.2]; simp [O6.1]) oM (by simp) fun o7 hob8 _ => ?_
  have hob9 : objAt (H6.set bx o7) ⟨bx, 0, none⟩ [.int .i64 span, .int .i64 score, .pointer (some ⟨bt, 0, none⟩), pv'] := by have := hob8 H6 rfl; simpa [O6.2] using this
  have hbx5 : H5 bx ≠ none := by obtain ⟨_, cc, tt, q, _⟩ := hI.obj.le (hgx.trans hHH5); rw [q]; simp
  have hm5 : H5 m ≠ none := by
    cases e : H m with
    | none => exact absurd e hHm
    | some o => rw [hle5 _ _ e]; simp
  have hbxh : h bx ≠ none := by obtain ⟨_, cc, tt, q, _⟩ := hI.obj.le hgx; rw [q]; simp
  have hmx : m ≠ bx := by rintro rfl; exact hbxh hmh
  have hpvm : blkOf pv ≠ some m := fun e => (hI.sl.le hgx).mem e hmh
  have hpx : ∀ b, blkOf pv' = some b → b ≠ bx ∧ b ≠ m ∧ (blkOf pv = some b ∨ h b = none) := by
    intro b hb
    rcases e2 b hb with h5 | h5
    · exact ⟨(hI.ns b h5).2, fun e => hpvm (e ▸ h5), .inl h5⟩
    · exact ⟨fun e => hbx5 (e ▸ h5), fun e => hm5 (e ▸ h5), .inr (le_none hHH5 b h5)⟩
  obtain ⟨gx', hSt, hIn⟩ := InO.next (H3 := H6.set bx o7) (pv' := pv') hI hgx hmh hlo
    (fun b o hb h1 h2 => by rw [Heap.set_ne h1]; exact e3 b o (hHH5 b o hb) h2) hob9
    ((hS6.le St6.le).same fun b hb => Heap.set_ne (hpx b hb).1)
    (hMapS _ fun o ho => by rw [Heap.set_ne hmx]; exact e3 m o (hle5 m o ho) hpvm)
    (fun e => (hpx m e).2.1 rfl) fun b hb => (hpx b hb).2.2
  refine sw0 ?_
  exact hK gx' _ hSt hIn
end Go.Cw
namespace Go.Cw
open Go
def digs (s : List UInt8) : Prop := ∀ b ∈ s, 48 ≤ b.toNat ∧ b.toNat ≤ 57
instance (s : List UInt8) : Decidable (digs s) := by unfold digs; infer_instance
theorem Tg.good {t : Tg} (h : ¬ t.bad) : ∃ a, partsOf t.part = some a ∧ 1 ≤ t.kind ∧ t.kind ≤ 3 ∧ 0 ≤ t.filter ∧ t.filter ≤ 7 ∧ 0 ≤ t.serial ∧ t.serial ≤ 16777215 ∧ 0 ≤ t.company ∧ t.company < (10 ^ a.cd : Nat) ∧ 0 ≤ t.ref ∧ t.ref < (10 ^ a.rd : Nat) := by
  unfold Tg.bad at h
  split at h
  · exact absurd trivial h
  · rename_i a ha
    exact ⟨a, ha, oM⟩
end Go.Cw
namespace Go.Cw
open Go
structure Rl where
  name : List UInt8
  kind : Int
  first : Int
  thn : Int
  wout : Int
  wthn : Int
  deriving DecidableEq, Inhabited
def Rl.enc (r : Rl) : List Value := [.string (str r.name), .int .i64 r.kind, .int .i64 r.first, .int .i64 r.thn, .int .i64 r.wout, .int .i64 r.wthn]
theorem Rl.enc_len (r : Rl) : r.enc.length = 6 := rfl
def aggR (r : Rl) : Value := .agg #[.string (str r.name), .int .i64 r.kind, .int .i64 r.first, .int .i64 r.thn, .int .i64 r.wout, .int .i64 r.wthn]
def letters (s : List UInt8) : Prop := ∀ b ∈ s, 97 ≤ b.toNat ∧ b.toNat ≤ 122
instance (s : List UInt8) : Decidable (letters s) := by unfold letters; infer_instance
def nameOk (s : List UInt8) : Prop := s ≠ [] ∧ s.length ≤ 12 ∧ letters s
instance (s : List UInt8) : Decidable (nameOk s) := by unfold nameOk; infer_instance
def Rl.bound (r : Rl) : Prop := r.kind < 0 ∨ 3 < r.kind ∨ r.first < 0 ∨ 7 < r.first ∨ r.thn < 0 ∨ 7 < r.thn ∨ r.wout < -1 ∨ 7 < r.wout ∨ r.wthn < 1 ∨ 50 < r.wthn
def Rl.shape (r : Rl) : Prop := r.first = r.thn ∨ r.wout = r.first ∨ r.wout = r.thn
instance (r : Rl) : Decidable r.bound := by unfold Rl.bound; infer_instance
instance (r : Rl) : Decidable r.shape := by unfold Rl.shape; infer_instance
def ruleF (r : Rl) : Nat := if ¬ nameOk r.name then 4 else if r.bound then 1 else if r.shape then 3 else 0
theorem ruleF_zero {r : Rl} : ruleF r = 0 ↔ nameOk r.name ∧ ¬ r.bound ∧ ¬ r.shape := by
  unfold ruleF
  by_cases h1 : nameOk r.name
  · by_cases h2 : r.bound
    · simp [h1, h2]
    · by_cases h3 : r.shape <;> simp [h1, h2, h3]
  · simp [h1]
def kn (k : Int) : List UInt8 := if k = 1 then [105, 116, 101, 109] else if k = 2 then [99, 97, 115, 101] else if k = 3 then [112, 97, 108, 108, 101, 116] else [97, 110, 121]
end Go.Cw
namespace Go.Cw
open Go
def numOk (s : List UInt8) : Prop := s ≠ [] ∧ s.length ≤ 8 ∧ digs s
instance (s : List UInt8) : Decidable (numOk s) := by unfold numOk; infer_instance
def figOk (s : List UInt8) : Prop := s.length ≤ 9 ∧ digs s
instance (s : List UInt8) : Decidable (figOk s) := by unfold figOk; infer_instance
end Go.Cw
namespace Go.Cw
open Go
end Go.Cw
namespace Go.Cw
open Go
end Go.Cw
namespace Go.Cw
open Go
end Go.Cw
namespace Go.Cw
open Go
end Go.Cw
namespace Go.Cw
open Go
end Go.Cw
namespace Go.Cw
open Go
theorem letters_take {s : List UInt8} {i : Nat} (h : letters (s.take i)) (hi : i < s.length) (h1 : 97 ≤ (s.getD i 0).toNat) (h2 : (s.getD i 0).toNat ≤ 122) : letters (s.take (i + 1)) := by
  intro b hb
  rw [take_succ_d 0 hi, List.mem_append, List.mem_singleton] at hb
  rcases hb with hb | rfl
  · exact h b hb
  · exact ⟨h1, h2⟩
theorem letters_at {s : List UInt8} (h : letters s) {i : Nat} (hi : i < s.length) : 97 ≤ (s.getD i 0).toNat ∧ (s.getD i 0).toNat ≤ 122 := h _ (getD_mem 0 hi)
def S186 : Spec := fun args h K => ∃ s, args = [.string (str s)] ∧ s.length ≤ 10000000 ∧ K (.bool (decide (nameOk s))) h
theorem F186_ok {N : Num} {Γ : Ctx} [GoodC Γ] : Sat S186 (SF N Γ F186) := by
  rintro _ h K ⟨s, rfl, hsl, hK⟩
  refine i_fun rfl ?_
  simp only [F186, Ze, Nat.reduceSub, Nat.reduceAdd]
  refine sw0 ?_
  refine i_loop (fun i : Nat => [some (.string (str s)), none, none, some (.int .i64 (s.length : Nat)), some (.int .i64 (i : Nat)), none, none]) (fun i H => H = h ∧ i ≤ s.length ∧ letters (s.take i)) (fun i => s.length - i) 0 (by try simp only [Pf]; simp) ⟨rfl, oM, by intro b hb; simp at hb⟩ ?_
  rintro i H ⟨rfl, hi, hd⟩
  have hwi : IntKind.i64.wrap ((i : Int) + 1) = ((i + 1 : Nat) : Int) := by rw [w64 oM oM]; omega
  refine sw0 ?_
  refine i_cond (fun c2 => ?_) (fun c2 => ?_)
  rotate_left
  · have : i = s.length := oM
    subst this
    rw [List.take_length] at hd
    have e : decide (nameOk s) = decide (s ≠ [] ∧ (s.length : Int) ≤ 12) := decide_eq_decide.2 ⟨fun ⟨h1, h2, _⟩ => ⟨h1, oM⟩, fun ⟨h1, h2⟩ => ⟨h1, oM, hd⟩⟩
    rw [e] at hK
    refine sw0 ?_
    exact hK
  have hi2 : i < s.length := oM
  have hb := (s.getD i 0).toNat_lt
  refine sw0 ?_
  refine i_cond (fun c3 => ?_) (fun c3 => ?_)
  · have hn : ¬ nameOk s := fun hn => by
      have := letters_at hn.2.2 hi2
      omega
    rw [decide_eq_false hn] at hK
    refine sw0 ?_
    exact hK
  · refine sw1 @hwi ?_
    exact k_loop (i + 1) oM sE ⟨rfl, oM, letters_take hd hi2 oM oM⟩
def S170 (N : Num) : Spec := fun args h K => ∃ r, args = [aggR r] ∧ r.name.length ≤ 10000000 ∧ K (errV N (ruleF r)) h
theorem F170_ok {N : Num} {Γ : Ctx} [GoodC Γ] (H186 : Sat S186 (Γ 186)) : Sat (S170 N) (SF N Γ F170) := by
  rintro _ h K ⟨r, rfl, hl, hK⟩
  refine i_fun rfl ?_
  simp only [F170, Ze, Nat.reduceSub, Nat.reduceAdd, aggR]
  unfold ruleF at hK
  refine sw0 ?_
  refine i_call H186 ⟨r.name, rfl, hl, ?_⟩
  by_cases hn : nameOk r.name
  rotate_left
  · rw [decide_eq_false hn]
    rw [if_pos hn, errV_succ] at hK
    refine sw0 ?_
    exact hK
  rw [decide_eq_true hn]
  rw [if_neg (by simpa using hn)] at hK
  refine sw0 ?_
  refine i_cond (fun c => ?_) (fun c => ?_)
  · have hb : r.bound := by unfold Rl.bound; omega
    rw [if_pos hb, errV_succ] at hK
    refine sw0 ?_
    exact hK
  have hb : ¬ r.bound := by unfold Rl.bound; omega
  rw [if_neg hb] at hK
  refine sw0 ?_
  refine i_cond (fun c => ?_) (fun c => ?_)
  · have hs : r.shape := by unfold Rl.shape; omega
    rw [if_pos hs, errV_succ] at hK
    refine sw0 ?_
    exact hK
  have hs : ¬ r.shape := by unfold Rl.shape; omega
  rw [if_neg hs, errV_zero] at hK
  refine sw0 ?_
  exact hK
def S168 : Spec := fun args h K => ∃ r, args = [aggR r] ∧ K (.int .i64 (ruleF r : Nat)) h
theorem F168_ok {N : Num} {Γ : Ctx} [GoodC Γ] : Sat S168 (SF N Γ F168) := by
  rintro _ h K ⟨r, rfl, hK⟩
  refine i_fun rfl ?_
  simp only [F168, Ze, Nat.reduceSub, Nat.reduceAdd, aggR]
  unfold ruleF at hK
  refine sw0 ?_
  refine i_cond (fun c => ?_) (fun c => ?_)
  · have hn : ¬ nameOk r.name := fun hn => by
      have h1 := List.length_pos_iff.2 hn.1
      have h2 := hn.2.1
      omega
    rw [if_pos hn] at hK
    refine sw0 ?_
    exact hK
  refine sw0 ?_
  refine i_loop (fun i : Nat => [none, some (.agg #[.string (str r.name), .int .i64 r.kind, .int .i64 r.first, .int .i64 r.thn, .int .i64 r.wout, .int .i64 r.wthn]), none, some (.int .i64 (i : Nat)), none, none, none, none, none]) (fun i H => H = h ∧ i ≤ r.name.length ∧ letters (r.name.take i)) (fun i => r.name.length - i) 0 (by try simp only [Pf]; simp) ⟨rfl, oM, by intro b hb; simp at hb⟩ ?_
  rintro i H ⟨rfl, hi, hd⟩
  have hwi : IntKind.i64.wrap ((i : Int) + 1) = ((i + 1 : Nat) : Int) := by rw [w64 oM oM]; omega
  refine sw0 ?_
  refine i_cond (fun c2 => ?_) (fun c2 => ?_)
  · have hi2 : i < r.name.length := oM
    have hb := (r.name.getD i 0).toNat_lt
    refine sw0 ?_
    refine i_cond (fun c3 => ?_) (fun c3 => ?_)
    · have hn : ¬ nameOk r.name := fun hn => by
        have := letters_at hn.2.2 hi2
        omega
      rw [if_pos hn] at hK
      refine sw0 ?_
      exact hK
    · refine sw1 @hwi ?_
      exact k_loop (i + 1) oM sE ⟨rfl, oM, letters_take hd hi2 oM oM⟩
  have : i = r.name.length := oM
  subst this
  rw [List.take_length] at hd
  have hn : nameOk r.name := ⟨fun e => c (.inl (by rw [e]; decide)), oM, hd⟩
  rw [if_neg (by simpa using hn)] at hK
  refine sw0 ?_
  refine i_cond (fun c => ?_) (fun c => ?_)
  · have hb : r.bound := by unfold Rl.bound; omega
    rw [if_pos hb] at hK
    refine sw0 ?_
    exact hK
  have hb : ¬ r.bound := by unfold Rl.bound; omega
  rw [if_neg hb] at hK
  refine sw0 ?_
  refine i_cond (fun c => ?_) (fun c => ?_)
  · have hs : r.shape := by unfold Rl.shape; omega
    rw [if_pos hs] at hK
    refine sw0 ?_
    exact hK
  have hs : ¬ r.shape := by unfold Rl.shape; omega
  rw [if_neg hs] at hK
  refine sw0 ?_
  exact hK
end Go.Cw
namespace Go.Cw
open Go
end Go.Cw
namespace Go.Cw
open Go
end Go.Cw
namespace Go.Cw
open Go
structure PaS (N : Num) (T g H : Heap) (b6 b5 b3 : Nat) (v : Value) (w : List (List UInt8)) (k : Nat) : Prop where
  hg : Heap.le g H
  hgb : g b5 = none
  c6 : g.cell ⟨b6, 0, none⟩ = some (.func (.func (N.fid 188)) #[] #[.pointer (some ⟨b5, 0, none⟩), .pointer (some ⟨b3, 0, none⟩)])
  c3 : g.cell ⟨b3, 0, none⟩ = some v
  S : Sl encT g v w
  wl : w.length ≤ 10000000
  wx : ∀ x ∈ w, x.length ≤ 1000000
  o : objAt H ⟨b5, 0, none⟩ [.int .i64 (min k w.length : Nat)]
  hT : Heap.le T g
section
variable {N : Num} {Γ : Ctx} {T g H H' : Heap} {b6 b5 b3 : Nat} {v : Value} {w : List (List UInt8)} {k : Nat}
theorem PaS.more (p : PaS N T g H b6 b5 b3 v w k) (hl : Heap.le H H') : PaS N T g H' b6 b5 b3 v w k := { p with hg := p.hg.trans hl, o := p.o.le hl }
theorem PaS.f6 (p : PaS N T g H b6 b5 b3 v w k) : H.cell ⟨b6, 0, none⟩ = some (.func (.func (N.fid 188)) #[] #[.pointer (some ⟨b5, 0, none⟩), .pointer (some ⟨b3, 0, none⟩)]) := cell_hmono p.hg p.c6
end
end Go.Cw
namespace Go.Cw
open Go
end Go.Cw
namespace Go.Cw
open Go
def scanR (cm bad : Nat → Bool) (lo : Nat) : Nat → Bool
  | 0 => false
  | n + 1 => if n < lo then false else if cm n then true else if bad n then false else scanR cm bad lo n
theorem scanR_iff (cm bad : Nat → Bool) (lo : Nat) : ∀ n, scanR cm bad lo n = true ↔ ∃ e0, lo ≤ e0 ∧ e0 < n ∧ cm e0 = true ∧ ∀ x, e0 < x → x < n → bad x = false := by
  intro n
  induction n with
  | zero => simp [scanR]
  | succ n ih =>
    unfold scanR
    by_cases h1 : n < lo
    · rw [if_pos h1]
      constructor
      · intro h; cases h
      · rintro ⟨e0, h2, h3, _⟩; omega
    rw [if_neg h1]
    by_cases h2 : cm n = true
    · rw [if_pos h2]
      exact ⟨fun _ => ⟨n, oM, oM, h2, fun x h3 h4 => by omega⟩, fun _ => rfl⟩
    rw [if_neg h2]
    by_cases h3 : bad n = true
    · rw [if_pos h3]
      constructor
      · intro h; cases h
      · rintro ⟨e0, q1, q2, q3, q4⟩
        by_cases e : e0 = n
        · subst e; exact absurd q3 h2
        · have := q4 n oM oM
          rw [this] at h3; cases h3
    rw [if_neg h3, ih]
    constructor
    · rintro ⟨e0, q1, q2, q3, q4⟩
      refine ⟨e0, q1, oM, q3, fun x h5 h6 => ?_⟩
      by_cases e : x = n
      · subst e; simpa using h3
      · exact q4 x h5 oM
    · rintro ⟨e0, q1, q2, q3, q4⟩
      have : e0 ≠ n := by rintro rfl; exact h2 q3
      exact ⟨e0, q1, oM, q3, fun x h5 h6 => q4 x h5 oM⟩
def badR (window need : Nat) (E : List (List Si)) (r : Rl) (s : List UInt8) (x : Nat) : Bool := decide (0 ≤ r.wout ∧ atE window need (E.take (x + 1)) s = r.wout)
def holdR (window need : Nat) (E : List (List Si)) (r : Rl) (s : List UInt8) (e : Int) : Bool :=
  decide (ruleF r = 0) && decide (kindOf s ≠ 0) && decide (r.kind = 0 ∨ kindOf s = r.kind) && cms window need E s r.thn e && scanR (fun x => cms window need E s r.first (x : Nat)) (badR window need E r s) (e - r.wthn).toNat e.toNat
theorem kindOf_zero (b : List UInt8) : kindOf b = 0 ↔ tagOf b = none := by
  unfold kindOf
  cases h : tagOf b with
  | none => simp
  | some t =>
    have hk : 1 ≤ t.kind := by
      unfold tagOf at h
      split at h
      · cases h
      · split at h
        · cases h
        · split at h <;> cases h
          rename_i hb
          obtain ⟨_, _, k1, _⟩ := Tg.good hb
          exact k1
    simp; omega
theorem cms_some {window need : Nat} {E : List (List Si)} {s : List UInt8} {p e : Int} (h : cms window need E s p e = true) : 0 ≤ e ∧ e < E.length ∧ toldE E s := by
  unfold cms at h
  split at h
  · cases h
  · rename_i hc
    have h0 : (whr window need E s e).2 = 0 := by
      refine Classical.byContradiction fun hn => hc (.inl hn)
    unfold whr at h0
    split at h0
    · cases h0
    · split at h0
      · rename_i h1 h2; exact ⟨oM, oM, h2⟩
      · cases h0
def S174 (N : Num) : Spec := fun args h K => ∃ gt bt window need E r s e, args = [.pointer (some ⟨bt, 0, none⟩), aggR r, .string (str s), .int .i64 e] ∧ TrO gt bt window need E ∧ Heap.le gt h ∧ E.length ≤ 1000 ∧ r.name.length ≤ 10000000 ∧ (-1000000 ≤ e ∧ e ≤ 1000000) ∧
  ∀ h', Heap.le h h' → K (.bool (holdR window need E r s e)) h'
theorem F174_ok {N : Num} {Γ : Ctx} [GoodC Γ] (H170 : Sat (S170 N) (Γ 170)) (H50 : Sat S50 (Γ 50)) (H81 : Sat (S81 N) (Γ 81)) (H30 : Sat (S30 N) (Γ 30)) : Sat (S174 N) (SF N Γ F174) := by
  rintro _ h K ⟨gt, bt, window, need, E, r, s, e, rfl, hT, hgt, hEl, hnl, he, hK⟩
  refine i_fun rfl ?_
  simp only [F174, Ze, Nat.reduceSub, Nat.reduceAdd, aggR]
  unfold holdR at hK
  refine sw0 ?_
  refine i_call H170 ⟨r, rfl, hnl, ?_⟩
  by_cases hf : ruleF r = 0
  rotate_left
  · obtain ⟨f, hf'⟩ := Nat.exists_eq_succ_of_ne_zero hf
    rw [decide_eq_false hf] at hK
    simp only [Bool.false_and] at hK
    rw [hf']
    refine sw1 @errV_succ ?_
    exact hK h (Heap.le.refl h)
  rw [decide_eq_true hf] at hK
  rw [hf]
  have hb := (ruleF_zero.1 hf).2.1
  unfold Rl.bound at hb
  refine sw1 @errV_zero ?_
  refine i_call H50 ⟨gt, bt, window, need, E, s, r.thn, e, rfl, hT, hgt, oM, ?_⟩
  cases hc : cms window need E s r.thn e with
  | false =>
    rw [hc] at hK
    simp only [Bool.and_false, Bool.false_and] at hK
    refine sw0 ?_
    exact hK h (Heap.le.refl h)
  | true =>
  obtain ⟨he0, hel, htd⟩ := cms_some hc
  rw [hc] at hK
  refine sw0 ?_
  refine i_call H81 ⟨s, rfl, fun h1 hle1 => ?_⟩
  unfold tgV
  have hkz := kindOf_zero s
  have hks := kindOf_some s
  cases htg : tagOf s with
  | none =>
    have hk0 : ¬ (kindOf s ≠ 0) := by rw [hkz.2 htg]; simp
    rw [decide_eq_false hk0] at hK
    simp only [Bool.and_false, Bool.false_and, Bool.true_and] at hK
    simp only [aggT, Option.getD, Option.isSome, Bool.false_eq_true, if_false]
    refine sw1 @errV_succ ?_
    exact hK h1 hle1
  | some t =>
  have hk0 : kindOf s ≠ 0 := fun h => by rw [hkz.1 h] at htg; cases htg
  rw [htg] at hks
  simp only [Option.getD] at hks
  rw [decide_eq_true hk0] at hK
  simp only [aggT, Option.getD, Option.isSome, if_true, Bool.true_and, Bool.and_true] at hK ⊢
  have hwe : IntKind.i64.wrap (e - 1) = e - 1 := w64 oM oM
  have hww : IntKind.i64.wrap (e - r.wthn) = e - r.wthn := w64 oM oM
  refine sw1 @errV_zero ?_
  refine i_cond (fun c1 => ?_) (fun c1 => ?_)
  · have hn : ¬ (r.kind = 0 ∨ kindOf s = r.kind) := by rw [hks]; omega
    rw [decide_eq_false hn] at hK
    simp only [Bool.false_and] at hK
    refine sw0 ?_
    exact hK h1 hle1
  have hn : r.kind = 0 ∨ kindOf s = r.kind := by rw [hks]; omega
  rw [decide_eq_true hn] at hK
  simp only [Bool.true_and] at hK
  obtain ⟨en, rfl⟩ : ∃ n : Nat, e = n := ⟨e.toNat, oM⟩
  have hTl := hgt.trans hle1
  obtain ⟨lo, hlo⟩ : ∃ lo, lo = ((en : Int) - r.wthn).toNat := ⟨_, rfl⟩
  have hmx : max (0 : Int) ((en : Int) - r.wthn) = (lo : Nat) := oM
  rw [← hlo, Int.toNat_natCast] at hK
  refine sw1 @hwe ?_
  refine i_loop (fun n : Nat => [some (.pointer (some ⟨bt, 0, none⟩)), none, some (.string (str s)), some (.int .i64 (en : Nat)), some (.agg #[.string (str r.name), .int .i64 r.kind, .int .i64 r.first, .int .i64 r.thn, .int .i64 r.wout, .int .i64 r.wthn]), none, none, none, some (.int .i64 ((n : Nat) - 1)), none, none, none, none, none, none, none, none, none, none, none, none, none, none])
    (fun n H => H = h1 ∧ n ≤ en ∧ scanR (fun x => cms window need E s r.first (x : Nat)) (badR window need E r s) lo en = scanR (fun x => cms window need E s r.first (x : Nat)) (badR window need E r s) lo n) (fun n => n) en sE ⟨rfl, oM, rfl⟩ ?_
  rintro n H ⟨rfl, hnn, hsc⟩
  refine sw2 @hww @hmx ?_
  refine i_cond (fun c2 => ?_) (fun c2 => ?_)
  rotate_left
  · have : scanR (fun x => cms window need E s r.first (x : Nat)) (badR window need E r s) lo n = false := by
      cases n with
      | zero => rfl
      | succ n => unfold scanR; rw [if_pos oM]
    rw [hsc, this] at hK
    refine sw0 ?_
    exact hK H hle1
  obtain ⟨m, rfl⟩ : ∃ m, n = m + 1 := ⟨n - 1, oM⟩
  have hm1 : ((m + 1 : Nat) : Int) - 1 = (m : Nat) := oM
  have hm2 : IntKind.i64.wrap ((m : Int) - 1) = (m : Nat) - 1 := w64 oM oM
  rw [hm1]
  have hst : scanR (fun x => cms window need E s r.first (x : Nat)) (badR window need E r s) lo (m + 1) = if cms window need E s r.first (m : Nat) then true else if badR window need E r s m then false else scanR (fun x => cms window need E s r.first (x : Nat)) (badR window need E r s) lo m := by
    conv => lhs; unfold scanR
    rw [if_neg oM]
  refine sw0 ?_
  refine i_call H50 ⟨gt, bt, window, need, E, s, r.first, (m : Nat), rfl, hT, hTl, oM, ?_⟩
  cases hcm : cms window need E s r.first (m : Nat) with
  | true =>
    rw [hsc, hst, if_pos hcm] at hK
    refine sw0 ?_
    exact hK H hle1
  | false =>
  rw [hst, if_neg (by rw [hcm]; simp)] at hsc
  refine sw0 ?_
  refine i_call H30 (S30_whr hT hTl ?_)
  have hwr : whr window need E s (m : Nat) = (atE window need (E.take (m + 1)) s, 0) := by
    unfold whr
    rw [if_neg oM, if_pos htd, Int.toNat_natCast]
  rw [hwr]
  refine sw0 ?_
  refine i_cond (fun c3 => ?_) (fun c3 => ?_)
  · have hbd : badR window need E r s m = true := decide_eq_true c3
    rw [if_pos hbd] at hsc
    rw [hsc] at hK
    refine sw0 ?_
    exact hK H hle1
  · have hbd : ¬ badR window need E r s m = true := by unfold badR; rw [decide_eq_false c3]; simp
    rw [if_neg hbd] at hsc
    refine sw1 @hm2 ?_
    exact k_loop m oM sE ⟨rfl, oM, hsc⟩
end Go.Cw
namespace Go.Cw
open Go
def Ps (H : Heap) (gs : List Heap) : Prop := (∀ g ∈ gs, Heap.le g H) ∧ gs.Pairwise disj
theorem Ps.lt {H : Heap} {gs : List Heap} (h : Ps H gs) (i : Nat) {g : Heap} (hi : gs[i]? = some g) : Heap.le g H := h.1 g (List.mem_of_getElem? hi)
theorem Ps.dj {H : Heap} {gs : List Heap} (h : Ps H gs) (i j : Nat) {f g : Heap} (hi : gs[i]? = some f) (hj : gs[j]? = some g) (hn : i ≠ j) : disj f g := by
  obtain ⟨hi1, rfl⟩ := List.getElem?_eq_some_iff.1 hi
  obtain ⟨hj1, rfl⟩ := List.getElem?_eq_some_iff.1 hj
  rcases Nat.lt_or_gt_of_ne hn with e | e
  · exact List.pairwise_iff_getElem.1 h.2 i j hi1 hj1 e
  · exact (List.pairwise_iff_getElem.1 h.2 j i hj1 hi1 e).symm
theorem Ps.up {H H' : Heap} {gs : List Heap} (h : Ps H gs) (hl : Heap.le H H') : Ps H' gs := ⟨fun g hg => (h.1 g hg).trans hl, h.2⟩
theorem Ps.step {H H' : Heap} {gs : List Heap} (h : Ps H gs) (i : Nat) {g g' : Heap} (hi : gs[i]? = some g) (st : Step g H g' H') : Ps H' (gs.set i g') := by
  obtain ⟨hi1, hi2⟩ := List.getElem?_eq_some_iff.1 hi
  have key : ∀ j (hj : j < gs.length), j ≠ i → Heap.le gs[j] H' ∧ disj gs[j] g' := fun j hj hn =>
    st.keep (h.1 _ (List.getElem_mem hj)) (h.dj j i (List.getElem?_eq_getElem hj) hi hn)
  refine ⟨fun x hx => ?_, List.pairwise_iff_getElem.2 fun a b ha hb hab => ?_⟩
  · obtain ⟨j, hj, rfl⟩ := List.getElem_of_mem hx
    rw [List.length_set] at hj
    rw [List.getElem_set]
    split
    · exact st.le
    · rename_i e; exact (key j hj fun e' => e e'.symm).1
  · rw [List.length_set] at ha hb
    rw [List.getElem_set, List.getElem_set]
    split
    · rename_i e
      rw [if_neg oM]
      exact (key b hb oM).2.symm
    · rename_i e
      split
      · exact (key a ha fun e' => e e'.symm).2
      · exact List.pairwise_iff_getElem.1 h.2 a b ha hb hab
theorem Ps.new {H H' : Heap} {gs : List Heap} (h : Ps H gs) (hl : Heap.le H H') : Ps H' (gs ++ [fr H H']) := by
  refine ⟨fun g hg => ?_, List.pairwise_append.2 ⟨h.2, by simp, fun a ha b hb => ?_⟩⟩
  · rcases List.mem_append.1 hg with e | e
    · exact (h.1 g e).trans hl
    · rw [List.mem_singleton.1 e]; exact fr_le _ _
  · rw [List.mem_singleton.1 hb]; exact disj_frE (h.1 a ha)
theorem Ps.add {H f : Heap} {gs : List Heap} (h : Ps H gs) (hf : Heap.le f H) (hd : ∀ g ∈ gs, disj g f) : Ps H (gs ++ [f]) := by
  refine ⟨fun g hg => ?_, List.pairwise_append.2 ⟨h.2, by simp, fun a ha b hb => ?_⟩⟩
  · rcases List.mem_append.1 hg with e | e
    · exact h.1 g e
    · rw [List.mem_singleton.1 e]; exact hf
  · rw [List.mem_singleton.1 hb]; exact hd a ha
theorem Ps.drop {H : Heap} {gs : List Heap} (n : Nat) (h : Ps H gs) : Ps H (gs.drop n) := ⟨fun g hg => h.1 g (List.mem_of_mem_drop hg), h.2.sublist (List.drop_sublist n gs)⟩
theorem Ps.take {H : Heap} {gs : List Heap} (n : Nat) (h : Ps H gs) : Ps H (gs.take n) := ⟨fun g hg => h.1 g (List.mem_of_mem_take hg), h.2.sublist (List.take_sublist n gs)⟩
def joinL : List Heap → Heap
  | [] => fun _ => none
  | g :: l => join g (joinL l)
theorem joinL_none {b : Nat} : ∀ {gs : List Heap}, (∀ g ∈ gs, g b = none) → joinL gs b = none := by
  intro gs
  induction gs with
  | nil => intro _; rfl
  | cons g l ih => intro h; exact join_none (h g (by simp)) (ih fun x hx => h x (List.mem_cons_of_mem _ hx))
theorem joinL_mem {b : Nat} : ∀ {gs : List Heap}, joinL gs b ≠ none → ∃ g ∈ gs, g b ≠ none := by
  intro gs hb
  exact Classical.byContradiction fun h => hb (joinL_none fun g hg => Classical.byContradiction fun e => h ⟨g, hg, e⟩)
theorem joinL_le {H : Heap} : ∀ {gs : List Heap}, (∀ g ∈ gs, Heap.le g H) → Heap.le (joinL gs) H := by
  intro gs
  induction gs with
  | nil => intro _ b o hb; cases hb
  | cons g l ih => intro h; exact join_le (h g (by simp)) (ih fun x hx => h x (List.mem_cons_of_mem _ hx))
theorem joinL_ge {H : Heap} : ∀ {gs : List Heap}, (∀ g ∈ gs, Heap.le g H) → ∀ g ∈ gs, Heap.le g (joinL gs) := by
  intro gs
  induction gs with
  | nil => intro _ g hg; cases hg
  | cons g l ih =>
    intro h x hx
    rcases List.mem_cons.1 hx with rfl | hx
    · exact join_l _ _
    · exact (ih (fun y hy => h y (List.mem_cons_of_mem _ hy)) x hx).trans (join_r (h g (by simp)) (joinL_le fun y hy => h y (List.mem_cons_of_mem _ hy)))
theorem Ps.sub {H : Heap} {gs : List Heap} (h : Ps H gs) : Ps (joinL gs) gs := ⟨joinL_ge h.1, h.2⟩
theorem Ps.rest {g h : Heap} {gs : List Heap} (p : Ps g gs) (hg : Heap.le g h) : Ps h (rest g h :: gs) := by
  refine ⟨fun x hx => ?_, List.pairwise_cons.2 ⟨fun x hx b hb => ?_, p.2⟩⟩
  · rcases List.mem_cons.1 hx with rfl | hx
    · intro b o hb; unfold Cw.rest at hb; split at hb; exact hb; cases hb
    · exact (p.1 x hx).trans hg
  · refine le_none (p.1 x hx) b ?_
    unfold Cw.rest at hb
    split at hb
    · assumption
    · exact absurd rfl hb
theorem Ps.toStep {g h H' : Heap} {gs : List Heap} (hg : Heap.le g h) (p : Ps H' (Cw.rest g h :: gs)) : Step g h (joinL gs) H' := by
  have hd := (List.pairwise_cons.1 p.2).1
  refine ⟨joinL_le fun x hx => p.1 x (List.mem_cons_of_mem _ hx), fun b o h1 h2 => p.1 (Cw.rest g h) (by simp) b o (by unfold Cw.rest; rw [if_pos h2]; exact h1), fun b h1 h2 => joinL_none fun x hx => hd x hx b ?_⟩
  unfold Cw.rest; rw [if_pos h2]; exact h1
def objF (g : Heap) (p n : Nat) (F : Nat → Value) : Prop := objAt g ⟨p, 0, none⟩ ((List.range n).map F)
theorem objF.le {g h : Heap} {p n : Nat} {F : Nat → Value} (ho : objF g p n F) (hl : Heap.le g h) : objF h p n F := objAt.le ho hl
theorem objF.cell {h : Heap} {p n : Nat} {F : Nat → Value} (ho : objF h p n F) {j : Nat} (hj : j < n) : h.cell ((⟨p, 0, none⟩ : Addr).add j) = some (F j) := by
  rw [(objAt.rules ho).1 j (by simpa using hj)]; simp [hj]
def upF (F : Nat → Value) (j : Nat) (v : Value) : Nat → Value := fun i => if i = j then v else F i
theorem upF_eq {F : Nat → Value} {j : Nat} {v : Value} : upF F j v j = v := by simp [upF]
theorem upF_ne {F : Nat → Value} {i j : Nat} {v : Value} (h : i ≠ j) : upF F j v i = F i := by simp [upF, h]
theorem range_upF (F : Nat → Value) (n j : Nat) (v : Value) (hj : j < n) : ((List.range n).map F).take j ++ [v] ++ ((List.range n).map F).drop (j + 1) = (List.range n).map (upF F j v) := by
  apply List.ext_getElem?
  intro i
  simp only [List.append_assoc, List.getElem?_append, List.length_take, List.length_map, List.length_range, List.getElem?_take, List.getElem?_drop, List.getElem?_map, List.length_singleton]
  by_cases e : i < j
  · rw [if_pos oM, if_pos e, List.getElem?_range oM]; simp [upF_ne (show i ≠ j by omega)]
  · rw [if_neg oM]
    by_cases e2 : i = j
    · subst e2; rw [if_pos oM, List.getElem?_range hj]; simp [upF_eq, show i - min i n = 0 by omega]
    · rw [if_neg oM]
      have : j + 1 + (i - min j n - 1) = i := oM
      rw [this]
      by_cases e3 : i < n
      · rw [List.getElem?_range e3]; simp [upF_ne e2]
      · rw [List.getElem?_eq_none (by simp; omega)]; simp
theorem i_stF {N : Num} {Γ : Ctx} {g h : Heap} {p n : Nat} {F : Nat → Value} (ho : objF g p n F) (hg : Heap.le g h) (j : Nat) {x : Value} (hx : x.cells = #[x]) (h1 : one x = true) (hj : j < n) {K : Value → Heap → Prop}
    (hK : ∀ g' h', Step g h g' h' → objF g' p n (upF F j x) → K undef h') : efW N Γ (.st 1) [.pointer (some ((⟨p, 0, none⟩ : Addr).add j)), x] h K := by
  have hb : g p ≠ none := by obtain ⟨_, c, t, q, _⟩ := ho; rw [q]; simp
  have he : g p = h p := by
    cases e : g p with
    | none => exact absurd e hb
    | some o => exact (hg p o e).symm
  refine i_st (objAt.le ho hg) j 1 (by rw [hx]; rfl) (by rw [hx]; simp [h1]) oM (by simp; omega) fun o q1 _ => ?_
  refine hK (g.set p o) _ (Step.set hg hb o) ?_
  have := q1 g he
  rw [hx] at this
  unfold objF
  rw [← range_upF F n j x hj]
  simpa using this
theorem objF.part2 {h : Heap} {p n : Nat} {F : Nat → Value} (ho : objF h p n F) {j : Nat} (hj : j + 2 ≤ n) : objAt h ⟨p, j, none⟩ [F j, F (j + 1)] := by
  obtain ⟨_, c, t, q1, q2, q3⟩ := ho
  refine ⟨rfl, c, t, q1, ?_, fun i hi => ?_⟩
  · simp at q2; simp; omega
  · have := q3 (j + i) (by simp at hi; simp; omega)
    simp only [Nat.zero_add] at this
    rw [this]
    simp at hi
    rcases (by omega : i = 0 ∨ i = 1) with rfl | rfl
    · simp [show j < n by omega]
    · simp [show j + 1 < n by omega]
theorem objF.back2 {g h h' : Heap} {p n : Nat} {F : Nat → Value} (ho : objF g p n F) (hg : Heap.le g h) {j : Nat} (hj : j + 2 ≤ n) {x y : Value} (hk : keeps ⟨p, j, none⟩ 2 h h') (hn : objAt h' ⟨p, j, none⟩ [x, y]) :
    ∃ g', Step g h g' h' ∧ (∀ b, g' b ≠ none → g b ≠ none) ∧ objF g' p n (upF (upF F j x) (j + 1) y) := by
  obtain ⟨_, c, t, q1, q2, q3⟩ := ho
  obtain ⟨k1, k2⟩ := hk
  have hp := hg p _ q1
  obtain ⟨c', w1, w2, w3⟩ := k2 c t _ hp
  have w1' : h' p = some (.cells c' t (0, 0)) := w1
  obtain ⟨_, c2, t2, r1, r2, r3⟩ := hn
  have r1' : h' p = some (.cells c2 t2 (0, 0)) := r1
  rw [w1'] at r1'
  cases r1'
  simp only [List.length_map, List.length_range] at q2 q3
  have hgp : g p ≠ none := by rw [show g p = _ from q1]; simp
  refine ⟨g.set p (.cells c' t (0, 0)), ⟨fun b o hb => ?_, fun b o h1 h2 => ?_, fun b h1 h2 => ?_⟩, fun b hb => ?_, rfl, c', t, Heap.set_eq, by simp; omega, fun i hi => ?_⟩
  · by_cases e : b = p
    · subst e; rw [Heap.set_eq] at hb; cases hb; exact w1'
    · rw [Heap.set_ne e] at hb; exact k1 b o e (hg b o hb)
  · refine k1 b o (fun e => ?_) h1
    have e' : b = p := e
    subst e'
    exact hgp h2
  · have e : b ≠ p := fun e => by subst e; exact hgp h2
    rw [Heap.set_ne e]; exact h2
  · by_cases e : b = p
    · subst e; exact hgp
    · rw [Heap.set_ne e] at hb; exact hb
  · simp only [List.length_map, List.length_range] at hi
    simp only [Nat.zero_add]
    rw [List.getElem?_map, List.getElem?_range hi]
    by_cases e1 : i = j
    · subst e1
      have := r3 0 (by simp)
      simp only [Nat.add_zero] at this
      rw [this, Option.map_some, upF_ne oM, upF_eq]; rfl
    · by_cases e2 : i = j + 1
      · subst e2
        have := r3 1 (by simp)
        rw [this, Option.map_some, upF_eq]; rfl
      · have e3 := q3 i hi
        rw [Nat.zero_add, List.getElem?_map, List.getElem?_range hi] at e3
        rw [w3 i (by simp; omega), e3, Option.map_some, Option.map_some, upF_ne e2, upF_ne e1]
end Go.Cw
namespace Go.Cw
open Go
structure Al where
  rule : Int
  epoch : Int
  tag : List UInt8
  deriving DecidableEq, Inhabited
def encAl (a : Al) : List Value := [.int .i64 a.rule, .int .i64 a.epoch, .string (str a.tag)]
theorem encAl_len (a : Al) : (encAl a).length = 3 := rfl
def encBv (b : Bool) : Value := .bool b
structure Wa where
  c : Nat → Int
  rs : List Rl
  ln : Nat → List UInt8 × Nat
  wm : Nat → Int
  dr : Nat → Nat
  kn : List (List UInt8)
  now : Nat
  A : List Si
  E : List (List Si)
  al : List Al
def upN {α : Type} (f : Nat → α) (k : Nat) (v : α) : Nat → α := fun i => if i = k then v else f i
theorem upN_eq {α : Type} {f : Nat → α} {k : Nat} {v : α} : upN f k v k = v := by simp [upN]
theorem upN_ne {α : Type} {f : Nat → α} {i k : Nat} {v : α} (h : i ≠ k) : upN f k v i = f i := by simp [upN, h]
def cfgBad (c : Nat → Int) : Prop := c 0 < 1 ∨ 50 < c 0 ∨ c 1 < 0 ∨ 50 < c 1 ∨ c 2 < 1 ∨ 8 < c 2 ∨ c 3 < 1 ∨ c 2 < c 3 ∨ c 4 < 1 ∨ 8 < c 4 ∨ c 5 < 1 ∨ c 4 < c 5
structure Wa.Ok (w : Wa) (fed : Nat) : Prop where
  c0 : 1 ≤ w.c 0 ∧ w.c 0 ≤ 50
  c1 : 0 ≤ w.c 1 ∧ w.c 1 ≤ 50
  c2 : 1 ≤ w.c 2 ∧ w.c 2 ≤ 8
  c3 : 1 ≤ w.c 3 ∧ w.c 3 ≤ w.c 2
  c4 : 1 ≤ w.c 4 ∧ w.c 4 ≤ 8
  c5 : 1 ≤ w.c 5 ∧ w.c 5 ≤ w.c 4
  wh : ∀ k, k < 16 → -1 ≤ w.c (6 + k) ∧ w.c (6 + k) ≤ 7
  rl : w.rs.length ≤ 6
  rf : ∀ r ∈ w.rs, ruleF r = 0
  now : w.now ≤ 1000
  sum : 11 * (w.A.length + w.dr 1 + w.dr 2 + w.dr 3 + w.dr 4) + ((w.ln 0).1.length + (w.ln 0).2) + ((w.ln 1).1.length + (w.ln 1).2) + ((w.ln 2).1.length + (w.ln 2).2) + ((w.ln 3).1.length + (w.ln 3).2) ≤ fed
  d0 : w.dr 0 = 0
  kn : w.kn.length ≤ 12
  knn : w.kn.Nodup
  Ab : ∀ s ∈ w.A, ¬ adBad 1000 s ∧ s.tag ∈ w.kn ∧ kindOf s.tag ≠ 0
  El : w.E.length = clos (w.c 0).toNat (w.c 1).toNat w.now
  Eb : ∀ l ∈ w.E, l.length ≤ 2000 ∧ ∀ s ∈ l, ¬ adBad 1000 s ∧ s.tag ∈ w.kn ∧ kindOf s.tag ≠ 0
  al : w.al.length ≤ 100 * w.E.length
structure WF (F : Nat → Value) (w : Wa) (rv : Value) (pd pt px mk : Nat) (av : Value) : Prop where
  c : ∀ k, k < 22 → F k = .int .i64 (w.c k)
  r : F 22 = rv
  l1 : ∀ k, k < 4 → F (23 + 2 * k) = .string (str (w.ln k).1)
  l2 : ∀ k, k < 4 → F (24 + 2 * k) = .int .i64 ((w.ln k).2 : Nat)
  wm : ∀ k, k < 4 → F (31 + k) = .int .i64 (w.wm k)
  d : F 35 = .pointer (some ⟨pd, 0, none⟩)
  t : F 36 = .pointer (some ⟨pt, 0, none⟩)
  x : F 37 = .pointer (some ⟨px, 0, none⟩)
  k : F 38 = .map (some mk)
  dr : ∀ k, k < 5 → F (39 + k) = .int .i64 (w.dr k : Nat)
  a : F 44 = av
def KnM (kv : List (List UInt8 × Bool)) (kn : List (List UInt8)) : Prop := (∀ t, look kv t = if t ∈ kn then some true else none) ∧ kv.length = kn.length
theorem KnM.nil : KnM [] [] := ⟨fun t => by simp [look_nil], rfl⟩
theorem KnM.add {kv : List (List UInt8 × Bool)} {kn : List (List UInt8)} (h : KnM kv kn) (t : List UInt8) : KnM (upd kv t true) (if t ∈ kn then kn else kn ++ [t]) := by
  refine ⟨fun x => ?_, ?_⟩
  · rw [look_upd]
    by_cases e : x = t
    · subst e; rw [if_pos rfl]; split <;> simp_all
    · rw [if_neg e, h.1 x]
      by_cases e2 : t ∈ kn
      · simp [e2]
      · simp [e2, e]
  · have e : (upd kv t true).length = ((upd kv t true).map (·.1)).length := by simp
    have hm : t ∈ kv.map (·.1) ↔ t ∈ kn := by
      constructor
      · intro hm
        have := h.1 t
        split at this
        · assumption
        · exact absurd hm (look_none this)
      · intro hm
        have := h.1 t
        rw [if_pos hm] at this
        exact List.mem_map.2 ⟨_, look_mem this, rfl⟩
    rw [e, upd_keys]
    by_cases e2 : t ∈ kn
    · rw [if_pos (hm.2 e2), if_pos e2]; simpa using h.2
    · rw [if_neg (fun x => e2 (hm.1 x)), if_neg e2]; simp [h.2]
structure WP (p : Nat) (w : Wa) (F : Nat → Value) (rv av : Value) (pd pt px mk : Nat) (kv : List (List UInt8 × Bool)) (gw gr gd gt gx gk ga : Heap) : Prop where
  ob : objF gw p 45 F
  wf : WF F w rv pd pt px mk av
  rs : Sl Rl.enc gr rv w.rs
  dk : PD gd pd (w.c 0).toNat (w.c 1).toNat w.now w.A
  tr : TrO gt pt (w.c 2).toNat (w.c 3).toNat w.E
  ix : InO gx px pt (w.c 2).toNat (w.c 3).toNat w.E (w.c 4).toNat (w.c 5).toNat w.E.length
  km : ∃ bs ck, MapB encKS encBv gk mk kv bs ck
  kn : KnM kv w.kn
  al : SlB encAl 3 ga av w.al
def WO (g : Heap) (p : Nat) (w : Wa) : Prop := ∃ F rv av pd pt px mk kv gw gr gd gt gx gk ga, Ps g [gw, gr, gd, gt, gx, gk, ga] ∧ WP p w F rv av pd pt px mk kv gw gr gd gt gx gk ga
def Wa.read (w : Wa) (reader : Nat) (r : Rd) : Wa :=
  let pl := w.c (6 + (4 * reader + r.ant.toNat))
  let s : Si := ⟨pl, r.str, w.now - r.age, r.tag⟩
  if tagOf r.tag = none then { w with dr := upN w.dr 1 (w.dr 1 + 1) }
  else if pl < 0 then { w with dr := upN w.dr 2 (w.dr 2 + 1) }
  else if r.tag ∉ w.kn ∧ w.kn.length = 12 then { w with dr := upN w.dr 4 (w.dr 4 + 1) }
  else if adF (w.c 0).toNat (w.c 1).toNat w.now s ≠ 0 then { w with dr := upN w.dr 3 (w.dr 3 + 1) }
  else { w with A := w.A ++ [s], kn := if r.tag ∈ w.kn then w.kn else w.kn ++ [r.tag] }
theorem WF.drop {F : Nat → Value} {w : Wa} {rv : Value} {pd pt px mk : Nat} {av : Value} (h : WF F w rv pd pt px mk av) (k : Nat) (hk : k < 5) (n : Nat) : WF (upF F (39 + k) (.int .i64 (n : Nat))) { w with dr := upN w.dr k n } rv pd pt px mk av where
  c := fun j hj => by rw [upF_ne oM]; exact h.c j hj
  r := by rw [upF_ne oM]; exact h.r
  l1 := fun j hj => by rw [upF_ne oM]; exact h.l1 j hj
  l2 := fun j hj => by rw [upF_ne oM]; exact h.l2 j hj
  wm := fun j hj => by rw [upF_ne oM]; exact h.wm j hj
  d := by rw [upF_ne oM]; exact h.d
  t := by rw [upF_ne oM]; exact h.t
  x := by rw [upF_ne oM]; exact h.x
  k := by rw [upF_ne oM]; exact h.k
  dr := fun j hj => by
    by_cases e : j = k
    · subst e; rw [upF_eq]; simp only [upN_eq]
    · rw [upF_ne oM]; simp only [upN_ne e]; exact h.dr j hj
  a := by rw [upF_ne oM]; exact h.a
theorem WF.warm {F : Nat → Value} {w : Wa} {rv : Value} {pd pt px mk : Nat} {av : Value} (h : WF F w rv pd pt px mk av) (k : Nat) (hk : k < 4) (n : Int) : WF (upF F (31 + k) (.int .i64 n)) { w with wm := upN w.wm k n } rv pd pt px mk av where
  c := fun j hj => by rw [upF_ne oM]; exact h.c j hj
  r := by rw [upF_ne oM]; exact h.r
  l1 := fun j hj => by rw [upF_ne oM]; exact h.l1 j hj
  l2 := fun j hj => by rw [upF_ne oM]; exact h.l2 j hj
  wm := fun j hj => by
    by_cases e : j = k
    · subst e; rw [upF_eq]; simp only [upN_eq]
    · rw [upF_ne oM]; simp only [upN_ne e]; exact h.wm j hj
  d := by rw [upF_ne oM]; exact h.d
  t := by rw [upF_ne oM]; exact h.t
  x := by rw [upF_ne oM]; exact h.x
  k := by rw [upF_ne oM]; exact h.k
  dr := fun j hj => by rw [upF_ne oM]; exact h.dr j hj
  a := by rw [upF_ne oM]; exact h.a
theorem WF.line {F : Nat → Value} {w : Wa} {rv : Value} {pd pt px mk : Nat} {av : Value} (h : WF F w rv pd pt px mk av) (k : Nat) (hk : k < 4) (a : List UInt8) (n : Nat) : WF (upF (upF F (23 + 2 * k) (.string (str a))) (23 + 2 * k + 1) (.int .i64 (n : Nat))) { w with ln := upN w.ln k (a, n) } rv pd pt px mk av where
  c := fun j hj => by rw [upF_ne oM, upF_ne oM]; exact h.c j hj
  r := by rw [upF_ne oM, upF_ne oM]; exact h.r
  l1 := fun j hj => by
    rw [upF_ne oM]
    by_cases e : j = k
    · subst e; rw [upF_eq]; simp only [upN_eq]
    · rw [upF_ne oM]; simp only [upN_ne e]; exact h.l1 j hj
  l2 := fun j hj => by
    by_cases e : j = k
    · subst e; rw [show 24 + 2 * j = 23 + 2 * j + 1 by omega, upF_eq]; simp only [upN_eq]
    · rw [upF_ne oM, upF_ne oM]; simp only [upN_ne e]; exact h.l2 j hj
  wm := fun j hj => by rw [upF_ne oM, upF_ne oM]; exact h.wm j hj
  d := by rw [upF_ne oM, upF_ne oM]; exact h.d
  t := by rw [upF_ne oM, upF_ne oM]; exact h.t
  x := by rw [upF_ne oM, upF_ne oM]; exact h.x
  k := by rw [upF_ne oM, upF_ne oM]; exact h.k
  dr := fun j hj => by rw [upF_ne oM, upF_ne oM]; exact h.dr j hj
  a := by rw [upF_ne oM, upF_ne oM]; exact h.a
theorem WF.al {F : Nat → Value} {w : Wa} {rv : Value} {pd pt px mk : Nat} {av : Value} (h : WF F w rv pd pt px mk av) (l : List Al) (v : Value) : WF (upF F 44 v) { w with al := l } rv pd pt px mk v where
  c := fun j hj => by rw [upF_ne oM]; exact h.c j hj
  r := by rw [upF_ne oM]; exact h.r
  l1 := fun j hj => by rw [upF_ne oM]; exact h.l1 j hj
  l2 := fun j hj => by rw [upF_ne oM]; exact h.l2 j hj
  wm := fun j hj => by rw [upF_ne oM]; exact h.wm j hj
  d := by rw [upF_ne oM]; exact h.d
  t := by rw [upF_ne oM]; exact h.t
  x := by rw [upF_ne oM]; exact h.x
  k := by rw [upF_ne oM]; exact h.k
  dr := fun j hj => by rw [upF_ne oM]; exact h.dr j hj
  a := upF_eq
theorem WF.same {F : Nat → Value} {w w' : Wa} {rv : Value} {pd pt px mk : Nat} {av : Value} (h : WF F w rv pd pt px mk av) (e1 : w'.c = w.c) (e2 : w'.ln = w.ln) (e3 : w'.wm = w.wm) (e4 : w'.dr = w.dr) : WF F w' rv pd pt px mk av where
  c := fun j hj => by rw [e1]; exact h.c j hj
  r := h.r
  l1 := fun j hj => by rw [e2]; exact h.l1 j hj
  l2 := fun j hj => by rw [e2]; exact h.l2 j hj
  wm := fun j hj => by rw [e3]; exact h.wm j hj
  d := h.d
  t := h.t
  x := h.x
  k := h.k
  dr := fun j hj => by rw [e4]; exact h.dr j hj
  a := h.a
theorem WP.drop {p : Nat} {w : Wa} {F : Nat → Value} {rv av : Value} {pd pt px mk : Nat} {kv : List (List UInt8 × Bool)} {gw gr gd gt gx gk ga gw' : Heap} (h : WP p w F rv av pd pt px mk kv gw gr gd gt gx gk ga) (k : Nat) (hk : k < 5) (n : Nat) (ho : objF gw' p 45 (upF F (39 + k) (.int .i64 (n : Nat)))) :
    WP p { w with dr := upN w.dr k n } (upF F (39 + k) (.int .i64 (n : Nat))) rv av pd pt px mk kv gw' gr gd gt gx gk ga :=
  { h with ob := ho, wf := h.wf.drop k hk n }
theorem WO.of {g h H' : Heap} {p : Nat} {w : Wa} {F : Nat → Value} {rv av : Value} {pd pt px mk : Nat} {kv : List (List UInt8 × Bool)} {gw gr gd gt gx gk ga : Heap} (hg : Heap.le g h) (ps : Ps H' [rest g h, gw, gr, gd, gt, gx, gk, ga]) (wp : WP p w F rv av pd pt px mk kv gw gr gd gt gx gk ga) :
    ∃ g', Step g h g' H' ∧ WO g' p w := ⟨_, ps.toStep hg, F, rv, av, pd, pt, px, mk, kv, gw, gr, gd, gt, gx, gk, ga, (ps.drop 1).sub, wp⟩
end Go.Cw
namespace Go.Cw
open Go
def aggD (r : Rd) : Value := .agg #[.int .i64 r.ant, .int .i64 r.str, .int .i64 r.age, .string (str r.tag)]
def S278 : Spec := fun args h K => ∃ g p w fed rd, ∃ reader : Nat, args = [.pointer (some ⟨p, 0, none⟩), .int .i64 (reader : Nat), aggD rd] ∧ WO g p w ∧ Heap.le g h ∧ w.Ok fed ∧ fed ≤ 20000 ∧ reader < 4 ∧ ¬ rd.bad ∧
  ∀ g' h', Step g h g' h' → WO g' p (w.read reader rd) → K (.tuple #[]) h'
theorem add_add {p o : Nat} (i j : Nat) : ((⟨p, o, none⟩ : Addr).add i).add j = (⟨p, o, none⟩ : Addr).add (i + j) := by
  rw [addr_add' ⟨p, o, none⟩ rfl (i), addr_add' ⟨p, o, none⟩ rfl, addr_add' _ rfl, Nat.add_assoc]
section
variable {p : Nat} {w : Wa} {F : Nat → Value} {rv av : Value} {pd pt px mk : Nat} {kv : List (List UInt8 × Bool)} {gw gr gd gt gx gk ga : Heap}
theorem WP.c39 (h : WP p w F rv av pd pt px mk kv gw gr gd gt gx gk ga) {H : Heap} (hl : Heap.le gw H) {k : Nat} (hk : k < 5) : H.cell (((⟨p, 0, none⟩ : Addr).add 39).add k) = some (.int .i64 (w.dr k : Nat)) := by
  have := (h.ob.le hl).cell (j := 39 + k) oM
  rw [h.wf.dr k hk] at this
  rw [← this, add_add]
theorem WP.cWh (h : WP p w F rv av pd pt px mk kv gw gr gd gt gx gk ga) {H : Heap} (hl : Heap.le gw H) {r a : Nat} (hr : r < 4) (ha : a < 4) : H.cell (((((⟨p, 0, none⟩ : Addr).add 0).add 6).add (r * 4)).add a) = some (.int .i64 (w.c (6 + (4 * r + a)))) := by
  have := (h.ob.le hl).cell (j := 6 + (4 * r + a)) oM
  rw [h.wf.c _ oM] at this
  rw [← this, show (((⟨p, 0, none⟩ : Addr).add 0).add 6) = (⟨p, 0, none⟩ : Addr).add 6 from rfl, add_add, add_add, show 6 + r * 4 + a = 6 + (4 * r + a) by omega]
theorem WP.c35 (h : WP p w F rv av pd pt px mk kv gw gr gd gt gx gk ga) {H : Heap} (hl : Heap.le gw H) : H.cell ((⟨p, 0, none⟩ : Addr).add 35) = some (.pointer (some ⟨pd, 0, none⟩)) := by
  rw [(h.ob.le hl).cell oM, h.wf.d]
theorem WP.c36 (h : WP p w F rv av pd pt px mk kv gw gr gd gt gx gk ga) {H : Heap} (hl : Heap.le gw H) : H.cell ((⟨p, 0, none⟩ : Addr).add 36) = some (.pointer (some ⟨pt, 0, none⟩)) := by
  rw [(h.ob.le hl).cell oM, h.wf.t]
theorem WP.c37 (h : WP p w F rv av pd pt px mk kv gw gr gd gt gx gk ga) {H : Heap} (hl : Heap.le gw H) : H.cell ((⟨p, 0, none⟩ : Addr).add 37) = some (.pointer (some ⟨px, 0, none⟩)) := by
  rw [(h.ob.le hl).cell oM, h.wf.x]
theorem WP.c38 (h : WP p w F rv av pd pt px mk kv gw gr gd gt gx gk ga) {H : Heap} (hl : Heap.le gw H) : H.cell ((⟨p, 0, none⟩ : Addr).add 38) = some (.map (some mk)) := by
  rw [(h.ob.le hl).cell oM, h.wf.k]
theorem WP.c44 (h : WP p w F rv av pd pt px mk kv gw gr gd gt gx gk ga) {H : Heap} (hl : Heap.le gw H) : H.cell ((⟨p, 0, none⟩ : Addr).add 44) = some av := by
  rw [(h.ob.le hl).cell oM, h.wf.a]
theorem WP.c22 (h : WP p w F rv av pd pt px mk kv gw gr gd gt gx gk ga) {H : Heap} (hl : Heap.le gw H) : H.cell ((⟨p, 0, none⟩ : Addr).add 22) = some rv := by
  rw [(h.ob.le hl).cell oM, h.wf.r]
theorem KnM.lkp {H : Heap} {m : Nat} {kv : List (List UInt8 × Bool)} {kn : List (List UInt8)} {bs : List Nat} {ck : Nat} (hk : KnM kv kn) (hm : MapB encKS encBv H m kv bs ck) (t : List UInt8) : o2V H (.lkp .str (.bool false)) (.v (.map (some m))) (.v (.string (str t))) = some (.v (.bool (decide (t ∈ kn)))) := by
  have := (hm.rules .str).1 (.bool false) t
  rw [hk.1 t] at this
  rw [show (Value.string (str t)) = encKS t from rfl, this]
  by_cases e : t ∈ kn <;> simp [e, encBv]
theorem KnM.mlen {H : Heap} {m : Nat} {kv : List (List UInt8 × Bool)} {kn : List (List UInt8)} {bs : List Nat} {ck : Nat} (hk : KnM kv kn) (hm : MapB encKS encBv H m kv bs ck) (N : Num) (env : Env) : o1V N env H .mlen (.v (.map (some m))) = some (.v (.int .i64 kn.length)) := by
  rw [(hm.rules .str).2.2, hk.2]
theorem i_drop {N : Num} {Γ : Ctx} {g h H : Heap} (hg : Heap.le g h) (hps : Ps H [rest g h, gw, gr, gd, gt, gx, gk, ga]) (hw : WP p w F rv av pd pt px mk kv gw gr gd gt gx gk ga) (k : Nat) (hk : k < 5) (n : Nat) {K : Value → Heap → Prop}
    (hK : ∀ g' h', Step g h g' h' → WO g' p { w with dr := upN w.dr k n } → K undef h') : efW N Γ (.st 1) [.pointer (some (((⟨p, 0, none⟩ : Addr).add 39).add k)), .int .i64 (n : Nat)] H K := by
  rw [add_add]
  refine i_stF (x := .int .i64 (n : Nat)) hw.ob (hps.lt 1 rfl) (39 + k) rfl rfl oM fun g' h' st ho => ?_
  have ps := hps.step 1 rfl st
  obtain ⟨g2, q1, q2⟩ := WO.of hg ps (hw.drop k hk n ho)
  exact hK g2 h' q1 q2
end
theorem F278_ok {N : Num} {Γ : Ctx} [GoodC Γ] (H81 : Sat (S81 N) (Γ 81)) (H39 : Sat S39 (Γ 39)) (H37 : Sat (S37 N) (Γ 37)) : Sat S278 (SF N Γ F278) := by
  rintro _ h K ⟨g, p, w, fed, rd, reader, rfl, ⟨F, rv, av, pd, pt, px, mk, kv, gw, gr, gd, gt, gx, gk, ga, hps, hw⟩, hg, hok, hfed, hre, hrd, hK⟩
  have hp := hps.rest hg
  unfold Rd.bad at hrd
  obtain ⟨hA9, hd1, hd2, hd3, hd4⟩ : w.A.length ≤ 1818 ∧ w.dr 1 ≤ 1818 ∧ w.dr 2 ≤ 1818 ∧ w.dr 3 ≤ 1818 ∧ w.dr 4 ≤ 1818 := by have := hok.sum; omega
  refine i_fun rfl ?_
  simp only [F278, Ze, Nat.reduceSub, Nat.reduceAdd, aggD]
  refine sw0 ?_
  refine i_call H81 ⟨rd.tag, rfl, fun h1 hle1 => ?_⟩
  unfold tgV aggT
  cases htg : tagOf rd.tag with
  | none =>
    simp only [Option.getD, Option.isSome, errV_zero]
    have e1 : w.read reader rd = { w with dr := upN w.dr 1 (w.dr 1 + 1) } := by unfold Wa.read; rw [if_pos htg]
    rw [e1] at hK
    have Q1 := hp.up hle1
    have C1 := hw.c39 (Q1.lt 1 rfl) (k := 1) oM
    have wi : IntKind.i64.wrap ((w.dr 1 : Int) + 1) = ((w.dr 1 + 1 : Nat) : Int) := by rw [w64 oM oM]; omega
    refine sw3 @errV_succ @C1 @wi ?_
    refine i_drop hg Q1 hw 1 oM _ fun g' h' st hw' => ?_
    refine sw0 ?_
    exact hK g' h' st hw'
  | some t =>
    simp only [Option.getD, Option.isSome, if_true, errV_zero]
    have Q1 := hp.up hle1
    have hwh := hok.wh (4 * reader + rd.ant.toNat) oM
    have CW := hw.cWh (Q1.lt 1 rfl) (r := reader) (a := rd.ant.toNat) oM oM
    unfold Wa.read at hK
    rw [if_neg (by rw [htg]; simp)] at hK
    generalize hpl : w.c (6 + (4 * reader + rd.ant.toNat)) = pl at *
    refine sw1 @CW ?_
    refine i_cond (fun c1 => ?_) (fun c1 => ?_)
    · rw [if_pos c1] at hK
      have C1 := hw.c39 (Q1.lt 1 rfl) (k := 2) oM
      have wi : IntKind.i64.wrap ((w.dr 2 : Int) + 1) = ((w.dr 2 + 1 : Nat) : Int) := by rw [w64 oM oM]; omega
      refine sw2 @C1 @wi ?_
      refine i_drop hg Q1 hw 2 oM _ fun g' h' st hw' => ?_
      refine sw0 ?_
      exact hK g' h' st hw'
    rw [if_neg c1] at hK
    obtain ⟨bs, ck, hmb⟩ := hw.km
    have hml := hmb.le (Q1.lt 6 rfl)
    have L1 := hw.kn.lkp hml rd.tag
    have L2 := hw.kn.mlen hml
    have C38 := hw.c38 (Q1.lt 1 rfl)
    refine sw3 @C38 @L1 @L2 ?_
    refine i_cond (fun c2 => ?_) (fun c2 => ?_)
    · rw [if_pos (by exact ⟨c2.1, by have := c2.2; omega⟩)] at hK
      have C1 := hw.c39 (Q1.lt 1 rfl) (k := 4) oM
      have wi : IntKind.i64.wrap ((w.dr 4 : Int) + 1) = ((w.dr 4 + 1 : Nat) : Int) := by rw [w64 oM oM]; omega
      refine sw2 @C1 @wi ?_
      refine i_drop hg Q1 hw 4 oM _ fun g' h' st hw' => ?_
      refine sw0 ?_
      exact hK g' h' st hw'
    rw [if_neg (fun e => c2 ⟨e.1, by have := e.2; omega⟩)] at hK
    have C35 := hw.c35 (Q1.lt 1 rfl)
    refine sw1 @C35 ?_
    refine i_call H39 ⟨gd, pd, _, _, _, _, rfl, hw.dk, Q1.lt 3 rfl, ?_⟩
    have C35' := hw.c35 (Heap.le.refl gw)
    refine i_lex gw (Q1.lt 1 rfl) ?_ (le_one (Q1.lt 1 rfl)) ?_
    · intro l' hl'
      simp only [List.mem_cons, List.not_mem_nil, or_false] at hl'
      rcases hl' with rfl | rfl | rfl | rfl
      · exact ⟨true, rfl, fun _ => ⟨.v (.int .i64 rd.str), by try simp (disch := first | omega | (simp only [PL]; omega)) only [Zr, simprocAttr, -reduceIte]⟩⟩
      · exact ⟨true, rfl, fun _ => ⟨.v (.int .i64 rd.age), by try simp (disch := first | omega | (simp only [PL]; omega)) only [Zr, simprocAttr, -reduceIte]⟩⟩
      · exact ⟨true, rfl, fun _ => ⟨.v (.string (str rd.tag)), by try simp (disch := first | omega | (simp only [PL]; omega)) only [Zr, simprocAttr, -reduceIte]⟩⟩
      · exact ⟨true, rfl, fun _ => ⟨.v (.pointer (some ⟨pd, 0, none⟩)), by try simp (disch := first | omega | (simp only [PL]; omega)) only [Zr, simprocAttr, -reduceIte, C35']⟩⟩
    have wi : IntKind.i64.wrap ((w.now : Int) - rd.age) = (w.now : Int) - rd.age := by have := hok.now; rw [w64 oM oM]
    refine sw2 @C35 @wi ?_
    have hc0 := hok.c0
    have hc1 := hok.c1
    have hnow := hok.now
    refine i_call H37 ⟨gd, pd, _, _, _, _, ⟨pl, rd.str, w.now - rd.age, rd.tag⟩, rfl, hw.dk, Q1.lt 3 rfl, oM, oM, oM, oM, oM, fun hn => ?_, fun hn gd' h2 st2 hP2 => ?_⟩
    · rw [if_pos hn] at hK
      have C1 := hw.c39 (Q1.lt 1 rfl) (k := 3) oM
      have wi : IntKind.i64.wrap ((w.dr 3 : Int) + 1) = ((w.dr 3 + 1 : Nat) : Int) := by rw [w64 oM oM]; omega
      rw [errV_pos N hn]
      refine sw2 @C1 @wi ?_
      refine i_drop hg Q1 hw 3 oM _ fun g' h' st hw' => ?_
      refine sw0 ?_
      exact hK g' h' st hw'
    rw [if_neg (by simpa using hn)] at hK
    have Q2 := Q1.step 3 rfl st2
    have C38' := hw.c38 (Q2.lt 1 rfl)
    refine sw1 @C38' ?_
    refine i_mupd (kb := .str) (ek := encKS) (ev := encBv) hmb (Q2.lt 6 rfl) rd.tag true fun o bs' ck' hmb' st3 _ => ?_
    have Q3 := Q2.step 6 rfl st3
    refine sw0 ?_
    obtain ⟨g4, q1, q2⟩ := WO.of (w := { w with A := w.A ++ [⟨pl, rd.str, w.now - rd.age, rd.tag⟩], kn := if rd.tag ∈ w.kn then w.kn else w.kn ++ [rd.tag] }) hg Q3
      { ob := hw.ob, wf := hw.wf.same rfl rfl rfl rfl, rs := hw.rs, dk := hP2, tr := hw.tr, ix := hw.ix, km := ⟨bs', ck', hmb'⟩, kn := hw.kn.add rd.tag, al := hw.al }
    exact hK g4 _ q1 q2
theorem Wa.Ok.read {w : Wa} {fed reader : Nat} {rd : Rd} (h : w.Ok fed) : (w.read reader rd).Ok (fed + 11) := by
  obtain ⟨a0, a1, a2, a3, a4, a5, a6, a7, a8, a9, a10, a11, a12, a13, a14, a15, a16, a17⟩ := h
  unfold Wa.read
  dsimp only
  split
  · exact ⟨a0, a1, a2, a3, a4, a5, a6, a7, a8, a9, by simp only [upN]; simp; omega, by simp [upN, a11], a12, a13, a14, a15, a16, a17⟩
  rename_i ht
  split
  · exact ⟨a0, a1, a2, a3, a4, a5, a6, a7, a8, a9, by simp only [upN]; simp; omega, by simp [upN, a11], a12, a13, a14, a15, a16, a17⟩
  split
  · exact ⟨a0, a1, a2, a3, a4, a5, a6, a7, a8, a9, by simp only [upN]; simp; omega, by simp [upN, a11], a12, a13, a14, a15, a16, a17⟩
  rename_i hk
  split
  · exact ⟨a0, a1, a2, a3, a4, a5, a6, a7, a8, a9, by simp only [upN]; simp; omega, by simp [upN, a11], a12, a13, a14, a15, a16, a17⟩
  rename_i hf
  have hsub : ∀ t, t ∈ w.kn → t ∈ (if rd.tag ∈ w.kn then w.kn else w.kn ++ [rd.tag]) := by
    intro t ht; split; exact ht; exact List.mem_append_left _ ht
  refine ⟨a0, a1, a2, a3, a4, a5, a6, a7, a8, a9, by simp; omega, a11, ?_, ?_, ?_, a15, ?_, a17⟩
  · dsimp only
    split
    · exact a12
    · rename_i e
      have : w.kn.length ≠ 12 := fun e2 => hk ⟨e, e2⟩
      simp; omega
  · dsimp only
    split
    · exact a13
    · rename_i e
      exact List.nodup_append.2 ⟨a13, by simp, fun x hx y hy e3 => by simp at hy; subst hy; subst e3; exact e hx⟩
  · intro s hs
    rcases List.mem_append.1 hs with hs | hs
    · obtain ⟨b1, b2, b3⟩ := a14 s hs
      exact ⟨b1, hsub _ b2, b3⟩
    · rw [List.mem_singleton.1 hs]
      refine ⟨?_, ?_, ?_⟩
      · have hf' : adF (w.c 0).toNat (w.c 1).toNat w.now ⟨w.c (6 + (4 * reader + rd.ant.toNat)), rd.str, w.now - rd.age, rd.tag⟩ = 0 := by simpa using hf
        unfold adF at hf'
        split at hf'
        · cases hf'
        · rename_i e
          unfold adBad at e ⊢
          omega
      · dsimp only
        split
        · assumption
        · simp
      · rw [Ne, kindOf_zero]; exact ht
  · intro l hl
    obtain ⟨b1, b2⟩ := a16 l hl
    exact ⟨b1, fun s hs => ⟨(b2 s hs).1, hsub _ (b2 s hs).2.1, (b2 s hs).2.2⟩⟩
end Go.Cw
namespace Go.Cw
open Go
def Wa.frame (w : Wa) (reader : Nat) (f : Fr) : Wa :=
  let w1 := f.reads.foldl (fun w r => w.read reader r) w
  if f.ty = 3 then { w1 with wm := upN w1.wm reader f.warm } else w1
def Wa.line (w : Wa) (reader : Nat) (s : List UInt8) : Wa := { w with ln := upN w.ln reader ((feed ((w.ln reader).1 ++ s)).2.1, (w.ln reader).2 + (feed ((w.ln reader).1 ++ s)).2.2) }
def Wa.feed (w : Wa) (reader : Nat) (s : List UInt8) : Wa := (Cw.feed ((w.ln reader).1 ++ s)).1.foldl (fun w f => w.frame reader f) (w.line reader s)
def Wa.feedN (w : Wa) (reader : Nat) (s : List UInt8) : Nat := (Cw.feed ((w.ln reader).1 ++ s)).1.length
def feedF (reader : Int) (s : List UInt8) : Nat := if reader < 0 ∨ 3 < reader then 1 else if 2000 < s.length then 2 else 0
theorem WO.warm {N : Num} {Γ : Ctx} {g h : Heap} {p : Nat} {w : Wa} (hw : WO g p w) (hg : Heap.le g h) {k : Nat} (hk : k < 4) (n : Int) {K : Value → Heap → Prop}
    (hK : ∀ g' h', Step g h g' h' → WO g' p { w with wm := upN w.wm k n } → K undef h') : efW N Γ (.st 1) [.pointer (some (((⟨p, 0, none⟩ : Addr).add 31).add k)), .int .i64 n] h K := by
  obtain ⟨F, rv, av, pd, pt, px, mk, kv, gw, gr, gd, gt, gx, gk, ga, hps, hw⟩ := hw
  have Q := hps.rest hg
  rw [add_add]
  refine i_stF (x := .int .i64 n) hw.ob (Q.lt 1 rfl) (31 + k) rfl rfl oM fun g' h' st ho => ?_
  obtain ⟨g2, q1, q2⟩ := WO.of hg (Q.step 1 rfl st) { hw with ob := ho, wf := hw.wf.warm k hk n }
  exact hK g2 h' q1 q2
theorem WO.lineAt {g h : Heap} {p : Nat} {w : Wa} (hw : WO g p w) (hg : Heap.le g h) {k : Nat} (hk : k < 4) : LineAt h ⟨p, 23 + 2 * k, none⟩ (w.ln k).1 (w.ln k).2 := by
  obtain ⟨F, rv, av, pd, pt, px, mk, kv, gw, gr, gd, gt, gx, gk, ga, hps, hw⟩ := hw
  have := (hw.ob.le ((hps.lt 0 rfl).trans hg)).part2 (j := 23 + 2 * k) oM
  rw [hw.wf.l1 k hk, show 23 + 2 * k + 1 = 24 + 2 * k by omega, hw.wf.l2 k hk] at this
  exact this
theorem WO.line {g h h' : Heap} {p : Nat} {w : Wa} (hw : WO g p w) (hg : Heap.le g h) {k : Nat} (hk : k < 4) {a : List UInt8} {n : Nat} (hkp : keeps ⟨p, 23 + 2 * k, none⟩ 2 h h') (hl : LineAt h' ⟨p, 23 + 2 * k, none⟩ a n) :
    ∃ g', Step g h g' h' ∧ (∀ b, g' b ≠ none → g b ≠ none) ∧ WO g' p { w with ln := upN w.ln k (a, n) } := by
  obtain ⟨F, rv, av, pd, pt, px, mk, kv, gw, gr, gd, gt, gx, gk, ga, hps, hw⟩ := hw
  have Q := hps.rest hg
  obtain ⟨gw', st, hd, ho⟩ := hw.ob.back2 (Q.lt 1 rfl) oM hkp hl
  have Q2 := Q.step 1 rfl st
  refine ⟨_, Q2.toStep hg, fun b hb => ?_, upF (upF F (23 + 2 * k) (.string (str a))) (23 + 2 * k + 1) (.int .i64 (n : Nat)), rv, av, pd, pt, px, mk, kv, gw', gr, gd, gt, gx, gk, ga, (Q2.drop 1).sub, { hw with ob := ho, wf := hw.wf.line k hk a n }⟩
  obtain ⟨x, hx, hxb⟩ := joinL_mem hb
  have : ∀ y ∈ [gw, gr, gd, gt, gx, gk, ga], y b ≠ none → g b ≠ none := fun y hy e => by
    intro e2
    exact e (le_none (hps.1 y hy) b e2)
  simp only [List.set, List.mem_cons, List.not_mem_nil, or_false] at hx
  rcases hx with rfl | rfl | rfl | rfl | rfl | rfl | rfl
  · exact this gw (by simp) (hd b hxb)
  all_goals exact this _ (by simp) hxb
theorem feed_cnt : ∀ (n : Nat) (s : List UInt8), s.length ≤ n → 11 * ((feed s).1.map fun f => f.reads.length).sum + (feed s).2.1.length + (feed s).2.2 ≤ s.length ∧ ∀ f ∈ (feed s).1, f.fault = 0 := by
  intro n
  induction n with
  | zero =>
    intro s hs
    have : s = [] := List.eq_nil_of_length_eq_zero oM
    subst this
    rw [feed_nil]; simp
  | succ n ih =>
    intro s hs
    by_cases h0 : s = []
    · subst h0; rw [feed_nil]; simp
    have hl : 0 < s.length := List.length_pos_iff.2 h0
    rw [feed_cons h0]
    cases hf : fAt s with
    | some q =>
      obtain ⟨f, k⟩ := q
      obtain ⟨h1, h2, h3, h4, h5⟩ := fAt_pos hf
      obtain ⟨i1, i2⟩ := ih (s.drop k) (by rw [List.length_drop]; omega)
      rw [List.length_drop] at i1
      have hr : 11 * f.reads.length ≤ k := by
        have e := congrArg List.length h5
        rw [List.length_take] at e
        have e2 : 11 * f.reads.length ≤ f.bytes.length := by
          unfold Fr.fault at h4
          by_cases h31 : f.ty < 1 ∨ f.ty > 3
          · rw [if_pos h31] at h4; cases h4
          rw [if_neg h31] at h4
          by_cases h32 : f.ty ≠ 1 ∧ 0 < f.reads.length ∨ f.ty ≠ 3 ∧ f.warm ≠ 0
          · rw [if_pos h32] at h4; cases h4
          rw [if_neg h32] at h4
          by_cases h33 : f.warm < 0 ∨ f.warm > 255
          · rw [if_pos h33] at h4; cases h4
          rw [if_neg h33] at h4
          by_cases h34 : 4 < f.reads.length
          · rw [if_pos h34] at h4; cases h4
          rw [if_neg h34] at h4
          by_cases h35 : ∃ r ∈ f.reads, r.bad
          · rw [if_pos h35] at h4; cases h4
          by_cases h36 : f.ty = 3
          · omega
          · have := bytes_len f.reads fun r hr => Classical.byContradiction fun e => h35 ⟨r, hr, by unfold Rd.bad; omega⟩
            unfold Fr.bytes Fr.front Fr.body
            rw [if_neg h36]
            simp only [List.length_append, List.length_cons, List.length_nil, this]
            omega
        omega
      simp only [List.map_cons, List.sum_cons]
      refine ⟨oM, fun g hg => ?_⟩
      rcases List.mem_cons.1 hg with rfl | hg
      · exact h4
      · exact i2 g hg
    | none =>
      dsimp only
      split
      · simp
      · obtain ⟨i1, i2⟩ := ih (s.drop 1) (by rw [List.length_drop]; omega)
        rw [List.length_drop] at i1
        dsimp only
        exact ⟨oM, i2⟩
end Go.Cw
namespace Go.Cw
open Go
theorem fault_reads {f : Fr} (h4 : f.fault = 0) : (f.ty = 1 ∨ f.ty = 2 ∨ f.ty = 3) ∧ (∀ r ∈ f.reads, ¬ r.bad) ∧ (f.ty = 1 ∨ f.reads = []) ∧ f.reads.length ≤ 4 ∧ 0 ≤ f.warm ∧ f.warm ≤ 255 := by
  unfold Fr.fault at h4
  by_cases h31 : f.ty < 1 ∨ f.ty > 3
  · rw [if_pos h31] at h4; cases h4
  rw [if_neg h31] at h4
  by_cases h32 : f.ty ≠ 1 ∧ 0 < f.reads.length ∨ f.ty ≠ 3 ∧ f.warm ≠ 0
  · rw [if_pos h32] at h4; cases h4
  rw [if_neg h32] at h4
  by_cases h33 : f.warm < 0 ∨ f.warm > 255
  · rw [if_pos h33] at h4; cases h4
  rw [if_neg h33] at h4
  by_cases h34 : 4 < f.reads.length
  · rw [if_pos h34] at h4; cases h4
  rw [if_neg h34] at h4
  by_cases h35 : ∃ r ∈ f.reads, r.bad
  · rw [if_pos h35] at h4; cases h4
  refine ⟨oM, fun r hr e => h35 ⟨r, hr, e⟩, ?_, oM, oM, oM⟩
  by_cases e : f.ty = 1
  · exact .inl e
  · exact .inr (List.eq_nil_of_length_eq_zero oM)
theorem Wa.Ok.mono {w : Wa} {a b : Nat} (h : w.Ok a) (hl : a ≤ b) : w.Ok b := { h with sum := Nat.le_trans h.sum hl }
theorem Wa.Ok.reads {reader : Nat} (l : List Rd) : ∀ {w : Wa} {fed : Nat}, w.Ok fed → (l.foldl (fun w r => w.read reader r) w).Ok (fed + 11 * l.length) := by
  induction l with
  | nil => intro w fed h; exact h
  | cons r l ih => intro w fed h; exact (ih (h.read (rd := r))).mono (by simp; omega)
theorem Wa.Ok.frame {w : Wa} {fed reader : Nat} {f : Fr} (h : w.Ok fed) : (w.frame reader f).Ok (fed + 11 * f.reads.length) := by
  unfold Wa.frame
  have := h.reads (w := w) (reader := reader) (fed := fed) f.reads
  dsimp only
  split
  · exact { this with }
  · exact this
theorem Wa.Ok.frames {reader : Nat} (l : List Fr) : ∀ {w : Wa} {fed : Nat}, w.Ok fed → (l.foldl (fun w f => w.frame reader f) w).Ok (fed + 11 * (l.map fun f => f.reads.length).sum) := by
  induction l with
  | nil => intro w fed h; exact h
  | cons r l ih => intro w fed h; exact (ih (h.frame (f := r))).mono (by simp; omega)
theorem Wa.Ok.line {w : Wa} {fed reader : Nat} {s : List UInt8} (hr : reader < 4) (h : w.Ok fed) : ∃ k, (w.line reader s).Ok k ∧ k + 11 * ((Cw.feed ((w.ln reader).1 ++ s)).1.map fun f => f.reads.length).sum ≤ fed + s.length := by
  have hs := (feed_cnt _ ((w.ln reader).1 ++ s) (Nat.le_refl _)).1
  rw [List.length_append] at hs
  have h2 := h.sum
  refine ⟨fed + s.length - 11 * ((Cw.feed ((w.ln reader).1 ++ s)).1.map fun f => f.reads.length).sum, { h with sum := ?_ }, ?_⟩
  · unfold Wa.line
    rcases (by omega : reader = 0 ∨ reader = 1 ∨ reader = 2 ∨ reader = 3) with rfl | rfl | rfl | rfl <;> simp only [upN] <;> simp <;> omega
  · rcases (by omega : reader = 0 ∨ reader = 1 ∨ reader = 2 ∨ reader = 3) with rfl | rfl | rfl | rfl <;> omega
theorem Wa.Ok.feed {w : Wa} {fed reader : Nat} {s : List UInt8} (hr : reader < 4) (h : w.Ok fed) : (w.feed reader s).Ok (fed + s.length) := by
  obtain ⟨k, h1, h2⟩ := h.line (s := s) hr
  exact (h1.frames _).mono h2
theorem sum_take_le (l : List Nat) (n : Nat) : (l.take n).sum ≤ l.sum := by
  conv => rhs; rw [← List.take_append_drop n l]
  rw [List.sum_append]; omega
theorem Ps.step1 {g h g' H' : Heap} {gs : List Heap} (hg : Heap.le g h) (p : Ps H' (Cw.rest g h :: g' :: gs)) : Step g h g' H' := by
  have := (p.take 2).toStep hg
  have e : joinL ([g'] : List Heap) = g' := by funext b; simp only [joinL, join]; cases g' b <;> rfl
  simp only [List.take] at this
  rwa [e] at this
theorem feed_len : ∀ (n : Nat) (s : List UInt8), s.length ≤ n → (feed s).1.length ≤ s.length := by
  intro n
  induction n with
  | zero =>
    intro s hs
    have : s = [] := List.eq_nil_of_length_eq_zero oM
    subst this
    rw [feed_nil]; simp
  | succ n ih =>
    intro s hs
    by_cases h0 : s = []
    · subst h0; rw [feed_nil]; simp
    have hl : 0 < s.length := List.length_pos_iff.2 h0
    rw [feed_cons h0]
    cases hf : fAt s with
    | some q =>
      obtain ⟨f, k⟩ := q
      obtain ⟨h1, h2, h3, h4, h5⟩ := fAt_pos hf
      have i1 := ih (s.drop k) (by rw [List.length_drop]; omega)
      rw [List.length_drop] at i1
      simp; omega
    | none =>
      dsimp only
      split
      · simp
      · have i1 := ih (s.drop 1) (by rw [List.length_drop]; omega)
        rw [List.length_drop] at i1
        dsimp only; omega
theorem fr_le' {a : Addr} {n : Nat} {h h' : Heap} (hk : keeps a n h h') : Heap.le (fr h h') h' := fr_le _ _
def S271 (N : Num) : Spec := fun args h K => ∃ g p w fed, ∃ reader : Int, ∃ s, args = [.pointer (some ⟨p, 0, none⟩), .int .i64 reader, .string (str s)] ∧ WO g p w ∧ Heap.le g h ∧ w.Ok fed ∧ (feedF reader s = 0 → fed + s.length ≤ 20000) ∧
  (feedF reader s ≠ 0 → K (.tuple #[.int .i64 0, errV N (feedF reader s)]) h) ∧
  (feedF reader s = 0 → ∀ g' h', Step g h g' h' → WO g' p (w.feed reader.toNat s) → K (.tuple #[.int .i64 (w.feedN reader.toNat s : Nat), .nilIface]) h')
theorem F271_ok {N : Num} {Γ : Ctx} [GoodC Γ] (H24 : Sat S24 (Γ 24)) (H278 : Sat S278 (Γ 278)) : Sat (S271 N) (SF N Γ F271) := by
  rintro _ h K ⟨g, p, w, fed, reader, s, rfl, hw, hg, hok, hfed, hK1, hK2⟩
  refine i_fun rfl ?_
  simp only [F271, Ze, Nat.reduceSub, Nat.reduceAdd]
  unfold feedF at hK1 hK2 hfed
  refine sw0 ?_
  refine i_cond (fun c1 => ?_) (fun c1 => ?_)
  · rw [if_pos oM] at hK1
    refine sw0 ?_
    exact hK1 oM
  rw [if_neg oM] at hK1 hK2 hfed
  obtain ⟨rn, rfl⟩ : ∃ n : Nat, reader = n := ⟨reader.toNat, oM⟩
  rw [Int.toNat_natCast] at hK2
  have hr4 : rn < 4 := oM
  refine sw0 ?_
  refine i_cond (fun c2 => ?_) (fun c2 => ?_)
  · rw [if_pos oM] at hK1
    refine sw0 ?_
    exact hK1 oM
  rw [if_neg oM] at hK2 hfed
  have hfed := hfed rfl
  have hK := hK2 rfl
  clear hK1 hK2
  have hla := hw.lineAt hg hr4
  obtain ⟨hr1, hr2⟩ : (w.ln rn).1.length ≤ 20000 ∧ (w.ln rn).2 ≤ 20000 := by
    have := hok.sum
    rcases (by omega : rn = 0 ∨ rn = 1 ∨ rn = 2 ∨ rn = 3) with rfl | rfl | rfl | rfl <;> omega
  have hadr : ((⟨p, 0, none⟩ : Addr).add 23).add (rn * 2) = ⟨p, 23 + 2 * rn, none⟩ := by rw [add_add, addr_add' _ rfl, Nat.zero_add, Nat.mul_comm]
  refine sw1 @hadr ?_
  refine i_call H24 ⟨⟨p, 23 + 2 * rn, none⟩, _, _, s, rfl, hla, oM, oM, fun v h1 hkp hl1 hfv => ?_⟩
  obtain ⟨g1, st1, hdm, hw1⟩ := hw.line hg hr4 hkp hl1
  obtain ⟨k1, hok1, hk1⟩ := hok.line (s := s) hr4
  have hfl := (feed_cnt _ ((w.ln rn).1 ++ s) (Nat.le_refl _)).2
  have hfsl := feed_len _ ((w.ln rn).1 ++ s) (Nat.le_refl _)
  rw [List.length_append] at hfsl
  unfold Wa.feed Wa.feedN at hK
  unfold Wa.line at hK hok1
  generalize ({ w with ln := upN w.ln rn ((feed ((w.ln rn).1 ++ s)).2.1, (w.ln rn).2 + (feed ((w.ln rn).1 ++ s)).2.2) } : Wa) = w1 at *
  generalize (feed ((w.ln rn).1 ++ s)).1 = fs at *
  have hZ1 : Heap.le (fr h h1) h1 := fr_le' hkp
  have Q0 : Ps h1 [rest g h, g1, fr h h1] := by
    have q1 : Ps h [rest g h, g] := ⟨fun x hx => by simp at hx; rcases hx with rfl | rfl; exact rest_le _ _; exact hg, by simp; exact fun b hb => by unfold rest at hb; split at hb; assumption; exact absurd rfl hb⟩
    refine (q1.step 1 rfl st1).add hZ1 fun x hx b hb => ?_
    have hx' : x = rest g h ∨ x = g1 := by simpa [List.set] using hx
    have hhb : h b ≠ none := by
      rcases hx' with rfl | rfl
      · exact fun e => hb (le_none (rest_le _ _) b e)
      · exact fun e => hdm b hb (le_none hg b e)
    unfold fr
    cases e : h b with
    | none => exact absurd e hhb
    | some o => rfl
  obtain ⟨rs, hsl, hrl, hrk⟩ := hfv
  have hone := hsl.one
  have R := (hsl.le hZ1).rules 3 FrR.enc_len default
  rw [hrl] at R
  refine sw1 @R ?_
  refine i_loop (fun i : Nat => [some (.pointer (some ⟨p, 0, none⟩)), some (.int .i64 (rn : Nat)), none, none, none, some v, none, none, none, none, none, some v, some (.int .i64 fs.length), some (.int .i64 (i : Nat)), none, none, none, none, none, none, none, none])
    (fun i H => i ≤ fs.length ∧ ∃ gW, Ps H [rest g h, gW, fr h h1] ∧ WO gW p ((fs.take i).foldl (fun w f => w.frame rn f) w1)) (fun i => fs.length - i) 0 (by try simp only [Pf]; rfl) ⟨oM, g1, Q0, hw1⟩ ?_
  rintro i H ⟨hi, gW, Q, hW⟩
  have hi1 : IntKind.i64.wrap ((i : Int) + 1) = ((i + 1 : Nat) : Int) := by rw [w64 oM oM]; omega
  have R := (hsl.le (Q.lt 2 rfl)).rules 3 FrR.enc_len default
  rw [hrl] at R
  refine sw0 ?_
  refine i_cond (fun c3 => ?_) (fun c3 => ?_)
  rotate_left
  · have : i = fs.length := oM
    subst this
    rw [List.take_length] at hW
    refine sw1 @R ?_
    exact hK _ _ (Q.step1 hg) hW
  have hi2 : i < fs.length := oM
  obtain ⟨e1, e2, e3⟩ := hrk i hi2
  have hnx : fs.take (i + 1) = fs.take i ++ [fs.getD i default] := take_succ_d default hi2
  have hft := hfl _ (getD_mem default hi2)
  obtain ⟨t1, t2, t3, t4, t5, t6⟩ := fault_reads hft
  have hokw := hok1.frames (reader := rn) (fs.take i)
  have hsumi : ((fs.take i).map fun f => f.reads.length).sum + (fs.getD i default).reads.length ≤ (fs.map fun f => f.reads.length).sum := by
    have := sum_take_le (fs.map fun f => f.reads.length) (i + 1)
    rw [← List.map_take, hnx, List.map_append, List.sum_append] at this
    simpa using this
  generalize hfe : fs.getD i default = f at *
  generalize hre : rs.getD i default = r at *
  have RR := (e3.le (Q.lt 2 rfl)).rules 4 (fun _ => rfl) default
  have hro := e3.one
  refine sw6 @R @hre @FrR.enc.eq_1 @RR hro.1 hro.2 ?_
  generalize hw2 : (fs.take i).foldl (fun w f => w.frame rn f) w1 = w2 at *
  refine i_meet_blk (fun env H' => ∃ gW, Ps H' [rest g h, gW, fr h h1] ∧ WO gW p (f.reads.foldl (fun w r => w.read rn r) w2) ∧ env = [some (.pointer (some ⟨p, 0, none⟩)), some (.int .i64 (rn : Nat)), none, none, none, some v, some (.agg #[.int .i64 f.ty, r.sv, .int .i64 f.warm]), none, none, none, none, some v, some (.int .i64 fs.length), some (.int .i64 (i : Nat)), none, none, none, none, none, none, none, none]) ?_ ?_
  rotate_left
  · refine i_loop (fun k : Nat => [some (.pointer (some ⟨p, 0, none⟩)), some (.int .i64 (rn : Nat)), none, none, none, some v, some (.agg #[.int .i64 f.ty, r.sv, .int .i64 f.warm]), none, none, none, none, some v, some (.int .i64 fs.length), some (.int .i64 (i : Nat)), none, none, some r.sv, some (.int .i64 f.reads.length), some (.int .i64 (k : Nat)), none, none, none])
      (fun k H => k ≤ f.reads.length ∧ ∃ gW, Ps H [rest g h, gW, fr h h1] ∧ WO gW p ((f.reads.take k).foldl (fun w r => w.read rn r) w2)) (fun k => f.reads.length - k) 0 (by try simp only [Pf]; rw [e1, e2]; exact ⟨rfl, rfl⟩) ⟨oM, gW, Q, hW⟩ ?_
    clear hW Q gW
    rintro k H ⟨hk, gW, Q, hW⟩
    have hk1 : IntKind.i64.wrap ((k : Int) + 1) = ((k + 1 : Nat) : Int) := by rw [w64 oM oM]; omega
    have RR := (e3.le (Q.lt 2 rfl)).rules 4 (fun _ => rfl) default
    refine sw0 ?_
    refine i_cond (fun c4 => ?_) (fun c4 => ?_)
    rotate_left
    · have : k = f.reads.length := oM
      subst this
      rw [List.take_length] at hW
      refine sw0 ?_
      exact k_meet _ sE ⟨gW, Q, hW, rfl⟩
    have hk2 : k < f.reads.length := oM
    have hnr : f.reads.take (k + 1) = f.reads.take k ++ [f.reads.getD k default] := take_succ_d default hk2
    have hrb := t2 _ (getD_mem default hk2)
    generalize hde : f.reads.getD k default = rd at *
    refine sw3 @RR @hde @Rd.enc.eq_1 ?_
    have hok3 := hokw.reads (reader := rn) (f.reads.take k)
    refine i_call H278 ⟨gW, p, _, _, rd, rn, rfl, hW, Q.lt 1 rfl, hok3, by rw [List.length_take]; omega, hr4, hrb, fun g5 h5 st5 hW5 => ?_⟩
    have Q5 := Q.step 1 rfl st5
    refine sw1 @hk1 ?_
    exact k_loop (k + 1) oM sE ⟨oM, g5, Q5, by rw [hnr, List.foldl_append]; exact hW5⟩
  clear hW Q gW R RR hi1
  rintro env H' ⟨gW, Q, hW, rfl⟩
  have hi1 : IntKind.i64.wrap ((i : Int) + 1) = ((i + 1 : Nat) : Int) := by rw [w64 oM oM]; omega
  have hfr : (fs.take (i + 1)).foldl (fun w f => w.frame rn f) w1 = if f.ty = 3 then { (f.reads.foldl (fun w r => w.read rn r) w2) with wm := upN (f.reads.foldl (fun w r => w.read rn r) w2).wm rn f.warm } else f.reads.foldl (fun w r => w.read rn r) w2 := by rw [hnx, List.foldl_append, hw2]; rfl
  generalize f.reads.foldl (fun w r => w.read rn r) w2 = w3 at *
  refine sw0 ?_
  refine i_cond (fun c5 => ?_) (fun c5 => ?_)
  · rw [if_pos c5] at hfr
    refine sw0 ?_
    refine hW.warm (Q.lt 1 rfl) hr4 f.warm fun g6 h6 st6 hW6 => ?_
    have Q6 := Q.step 1 rfl st6
    refine sw1 @hi1 ?_
    exact k_loop (i + 1) oM sE ⟨oM, g6, Q6, by rw [hfr]; exact hW6⟩
  · rw [if_neg c5] at hfr
    refine sw1 @hi1 ?_
    exact k_loop (i + 1) oM sE ⟨oM, gW, Q, by rw [hfr]; exact hW⟩
end Go.Cw
