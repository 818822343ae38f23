/- Part 5 of the proof of TopOrder: a small language for the program's functions, its soundness, and what the functions do. No conditions beyond the theorems' own. -/
import Derived.Test.YthhepmakjimhlabGreatCw4
set_option linter.unusedSimpArgs false
set_option linter.unusedVariables false
set_option maxRecDepth 20000
namespace Go.Cw
open Go
theorem ordT_ext : ∀ {l m : List (List UInt8)}, ordT l → ordT m → (∀ t, t ∈ l ↔ t ∈ m) → l = m := by
  intro l
  induction l with
  | nil =>
    intro m _ _ h
    cases m with
    | nil => rfl
    | cons b m => exact absurd ((h b).2 (by simp)) (by simp)
  | cons a l ih =>
    intro m hl hm h
    cases m with
    | nil => exact absurd ((h a).1 (by simp)) (by simp)
    | cons b m =>
      obtain ⟨l1, l2⟩ := List.pairwise_cons.1 hl
      obtain ⟨m1, m2⟩ := List.pairwise_cons.1 hm
      have hab : a = b := by
        refine Classical.byContradiction fun e => ?_
        have h1 : a ∈ m := by
          rcases List.mem_cons.1 ((h a).1 (by simp)) with e2 | e2
          · exact absurd e2 e
          · exact e2
        have h2 : b ∈ l := by
          rcases List.mem_cons.1 ((h b).2 (by simp)) with e2 | e2
          · exact absurd e2.symm e
          · exact e2
        have := bless_asymm (l1 b h2)
        rw [m1 a h1] at this; cases this
      subst hab
      rw [ih l2 m2 fun t => ?_]
      constructor
      · intro ht
        rcases List.mem_cons.1 ((h t).1 (List.mem_cons_of_mem _ ht)) with e2 | e2
        · subst e2; have := l1 t ht; rw [bless_irr] at this; cases this
        · exact e2
      · intro ht
        rcases List.mem_cons.1 ((h t).2 (List.mem_cons_of_mem _ ht)) with e2 | e2
        · subst e2; have := m1 t ht; rw [bless_irr] at this; cases this
        · exact e2
def Wa.lookR (w : Wa) (n i : Nat) (ts : List (List UInt8)) : List Al := (ts.filter fun t => holdR (w.c 2).toNat (w.c 3).toNat w.E (w.rs.getD i default) t n).map fun t => ⟨i, n, t⟩
def Wa.lookN (w : Wa) (n i : Nat) : List Al := (List.range i).flatMap fun i => w.lookR n i (tagsE w.E)
def Wa.look (w : Wa) (n : Nat) : List Al := w.lookN n w.rs.length
theorem Wa.lookR_len (w : Wa) (n i : Nat) (ts : List (List UInt8)) : (w.lookR n i ts).length ≤ ts.length := by unfold Wa.lookR; rw [List.length_map]; exact List.length_filter_le _ _
theorem Wa.lookN_succ (w : Wa) (n i : Nat) : w.lookN n (i + 1) = w.lookN n i ++ w.lookR n i (tagsE w.E) := by simp [Wa.lookN, List.range_succ]
theorem Wa.lookN_len (w : Wa) (n i : Nat) : (w.lookN n i).length ≤ i * (tagsE w.E).length := by
  induction i with
  | zero => simp [Wa.lookN]
  | succ i ih => rw [Wa.lookN_succ, List.length_append]; have := w.lookR_len n i (tagsE w.E); rw [Nat.succ_mul]; omega
def GathA (wkv : List (List UInt8 × Value)) (bs dn : List Nat) (l : List (List UInt8)) : Prop :=
  l.Nodup ∧ l.length ≤ dn.length ∧ ∀ t, t ∈ l ↔ ∃ (j b : Nat) (u : Value), wkv[j]? = some (t, u) ∧ bs[j]? = some b ∧ b ∈ dn
theorem GathA.take {wkv : List (List UInt8 × Value)} {bs dn : List Nat} {l : List (List UInt8)} (h : GathA wkv bs dn l) {j b : Nat} {key : List UInt8} {u : Value} (hj : wkv[j]? = some (key, u)) (hb : bs[j]? = some b) (hbs : bs.Nodup) (hnd : (wkv.map (·.1)).Nodup) (hnb : b ∉ dn) : GathA wkv bs (dn ++ [b]) (l ++ [key]) := by
  obtain ⟨h1, h2, h3⟩ := h
  refine ⟨?_, by simp; omega, fun t => ?_⟩
  · refine List.nodup_append.2 ⟨h1, by simp, fun x hx y hy e => ?_⟩
    simp at hy; subst hy; subst e
    obtain ⟨j2, b2, u2, q1, q2, q3⟩ := (h3 _).1 hx
    have e1 : j2 = j := by
      obtain ⟨g1, g2⟩ := List.getElem?_eq_some_iff.1 q1
      obtain ⟨g3, g4⟩ := List.getElem?_eq_some_iff.1 hj
      have hx1 : (wkv.map (·.1))[j2]'(by simpa using g1) = (wkv.map (·.1))[j]'(by simpa using g3) := by simp [g2, g4]
      exact (List.getElem_inj hnd).1 hx1
    subst e1
    rw [hb] at q2; cases q2
    exact hnb q3
  · constructor
    · intro ht
      rcases List.mem_append.1 ht with ht | ht
      · obtain ⟨j2, b2, u2, q1, q2, q3⟩ := (h3 t).1 ht
        exact ⟨j2, b2, u2, q1, q2, List.mem_append_left _ q3⟩
      · rw [List.mem_singleton.1 ht]
        exact ⟨j, b, u, hj, hb, by simp⟩
    · rintro ⟨j2, b2, u2, q1, q2, q3⟩
      rcases List.mem_append.1 q3 with q3 | q3
      · exact List.mem_append_left _ ((h3 t).2 ⟨j2, b2, u2, q1, q2, q3⟩)
      · have e := List.mem_singleton.1 q3
        subst e
        have e1 : j2 = j := by
          obtain ⟨g1, g2⟩ := List.getElem?_eq_some_iff.1 q2
          obtain ⟨g3, g4⟩ := List.getElem?_eq_some_iff.1 hb
          exact (List.getElem_inj hbs).1 (by rw [g2, g4])
        subst e1
        rw [hj] at q1; cases q1
        simp
def S277 : Spec := fun args h K => ∃ g p w, ∃ n : Nat, args = [.pointer (some ⟨p, 0, none⟩), .int .i64 (n : Nat)] ∧ WO g p w ∧ Heap.le g h ∧ w.rs.length ≤ 6 ∧ (∀ r ∈ w.rs, r.name.length ≤ 1000) ∧ w.E.length ≤ 1000 ∧ (∀ l ∈ w.E, l.length ≤ 2000) ∧ (tagsE w.E).length ≤ 12 ∧ w.al.length ≤ 200000 ∧ n ≤ 1000 ∧
  ∀ g' h', Step g h g' h' → WO g' p { w with al := w.al ++ w.look n } → K (.tuple #[]) h'
theorem F277_ok {N : Num} {Γ : Ctx} [GoodC Γ] (H54 : Sat (S54 N) (Γ 54)) (H67 : Sat S67 (Γ 67)) (H174 : Sat (S174 N) (Γ 174)) : Sat S277 (SF N Γ F277) := by
  rintro _ h K ⟨g, p, w, n, rfl, hwo, hg, hrl, hrn, hEl, hEb, htl, hal, hn, hK⟩
  obtain ⟨F, rv, av, pd, pt, px, mk, kv, gw, gr, gd, gt, gx, gk, ga, hps, hw⟩ := hwo
  have Q0 := hps.rest hg
  refine i_fun rfl ?_
  simp only [F277, Ze, Nat.reduceSub, Nat.reduceAdd]
  refine sw0 ?_
  refine i_newO fun b3 h1 hle1 hb3 ho3 => ?_
  have ho3' : objAt h1 ⟨b3, 0, none⟩ [.slice none 0 0] := ho3.le (fr_le _ _)
  have C36 := hw.c36 ((Q0.up hle1).lt 1 rfl)
  refine sw1 @C36 ?_
  refine i_call H54 ⟨_, rfl, fun b6 h2 hle2 ho6 => ?_⟩
  obtain ⟨mw, wkv, bs, ck, hmw, hMB, hnd, hkeys⟩ := hw.tr.keys
  have hgt' := Q0.lt 4 rfl
  have hbsl : bs.length = wkv.length := by obtain ⟨_, _, _, h, _⟩ := hMB; exact h
  have hbsn : bs.Nodup := by obtain ⟨_, _, _, _, h, _⟩ := hMB; exact h
  have hwl : wkv.length = (tagsE w.E).length := by
    have e := nodup_len hnd (tagsE_nodup w.E) fun x => (hkeys x).trans (mem_tagsE w.E x).symm
    rwa [List.length_map] at e
  have hle12 := hle1.trans hle2
  refine sw0 ?_
  refine i_rfn (ek := encKS) (ev := id) (c := ⟨b6, 0, none⟩) (a := ⟨pt, 0, none⟩) (kv := wkv) (bs := bs) (ck := ck) (mp := mw) rfl ((ho6.le (fr_le _ _)).rules.2.1 (by simp)) (hmw h2 (hgt'.trans hle12))
    (fun dn G => Heap.le h G ∧ ∃ v l, objAt G ⟨b3, 0, none⟩ [v] ∧ SlB encT 1 G v l ∧ (∀ b, blkOf v = some b → h b = none ∧ b ≠ b3) ∧ GathA wkv bs dn l) ⟨hle12, .slice none 0 0, [], ho3'.le hle2, SlB.nil, by simp [blkOf], ⟨by simp, by simp, by simp⟩⟩ (fun dn G hJ => hMB.le (hgt'.trans hJ.1)) ?_ ?_
  rotate_left
  · rintro dn G j b key val ⟨hG, v, l, hob, hSl, hvb, hga⟩ hdn hds hj hb hnb
    have hdl : dn.length ≤ bs.length := nodup_le hdn hds
    have hll := hga.2.1
    have B3 : G.cell ⟨b3, 0, none⟩ = some v := hob.rules.2.1 (by simp)
    have O1 := hSl.one
    refine sw3 @rf_rules @encKS.eq_1 @B3 ?_
    refine i_bslB encT 1 (fun _ => rfl) [key] rfl rfl (by simp [maxLen]) fun x1 b1 G3 hle4 hb1 hx1 hS3 => ?_
    have O2 := hS3.one
    refine sw4 O2.1 O2.2 O1.1 O1.2 ?_
    refine i_appB (enc := encT) (sz := 1) (g := G3) (l := l) (l' := [key]) (fun _ => rfl) (by simp [encT, one]) (hSl.le hle4) (Heap.le.refl G3) (SlB.sl (enc := encT) (fun _ => rfl) (hS3.le (fr_le _ _))) (by simp; omega) fun v4 h4 g4 hS4 St4 e1 e2 e3 => ?_
    have hob4 : objAt h4 ⟨b3, 0, none⟩ [v] := (hob.le hle4).kept fun o ho => e3 _ _ ho fun e => (hvb _ e).2 rfl
    have hb3G : G3 b3 ≠ none := by obtain ⟨_, cc, tt, q, _⟩ := hob.le hle4; rw [q]; simp
    have hvb4 : ∀ b, blkOf v4 = some b → h b = none ∧ b ≠ b3 := by
      intro b hb
      rcases e2 b hb with h5 | h5
      · exact hvb b h5
      · exact ⟨le_none (hG.trans hle4) b h5, fun e => hb3G (e ▸ h5)⟩
    have hG4 : Heap.le h h4 := fun b o hb => e3 b o (hle4 b o (hG b o hb)) fun e => by rw [(hvb b e).1] at hb; cases hb
    have O4 := hS4.one
    refine sw2 O4.1 O4.2 ?_
    refine i_st hob4 0 1 (by rw [O4.2]; rfl) (by rw [O4.2]; simp [O4.1]) oM (by simp) fun o7 hob8 _ => ?_
    have hob9 : objAt (h4.set b3 o7) ⟨b3, 0, none⟩ [v4] := by have := hob8 h4 rfl; simpa [O4.2] using this
    refine sw1 @rf_rules ?_
    have hb3h : h b3 = none := hb3
    exact ⟨but.le (b := b3) hG4 hb3h fun x hx => Heap.set_ne hx, v4, l ++ [key], hob9, (hS4.le St4.le).same fun b hb => Heap.set_ne (hvb4 b hb).2, hvb4, hga.take hj hb hbsn hnd hnb⟩
  rintro dn G ⟨hG, v, l, hob, hSl, hvb, hga⟩ hdn hds hall
  have hdl : dn.length ≤ bs.length := nodup_le hdn hds
  have hll : l.length ≤ 12 := by have := hga.2.1; omega
  have hmem : ∀ t, t ∈ l ↔ toldE w.E t := by
    intro t
    rw [hga.2.2 t, ← hkeys t]
    refine ⟨fun ⟨j, b, u, q1, q2, q3⟩ => List.mem_map.2 ⟨_, List.mem_of_getElem? q1, rfl⟩, fun ht => ?_⟩
    obtain ⟨⟨k, u⟩, q1, rfl⟩ := List.mem_map.1 ht
    obtain ⟨j, hj, q2⟩ := List.getElem_of_mem q1
    have hj2 : j < bs.length := oM
    exact ⟨j, bs[j], u, by rw [List.getElem?_eq_getElem hj, q2], by rw [List.getElem?_eq_getElem hj2], hall _ (List.getElem_mem hj2)⟩
  have B3 : G.cell ⟨b3, 0, none⟩ = some v := hob.rules.2.1 (by simp)
  refine sw1 @B3 ?_
  refine i_call H67 ⟨v, l, rfl, hSl, oM, fun H1 hS1 hk1 => ?_⟩
  have hsrt : srt l = tagsE w.E := ordT_ext (srt_ord hga.1) (ordT_tagsOfL _) fun t => srt_mem.trans ((hmem t).trans (mem_tagsE w.E t).symm)
  rw [hsrt] at hS1
  have hH1 : Heap.le h H1 := fun b o hb => hk1 b o (hG b o hb) fun e => by rw [(hvb b e).1] at hb; cases hb
  have hob1 : objAt H1 ⟨b3, 0, none⟩ [v] := hob.kept fun o ho => hk1 _ _ ho fun e => (hvb _ e).2 rfl
  clear hk1 hSl hob B3 hga hmem hsrt
  have hobZ : objAt (fr h H1) ⟨b3, 0, none⟩ [v] := hob1.kept fun o hb => by simp only [fr, hb3]; exact hb
  have hSZ : SlB encT 1 (fr h H1) v (tagsE w.E) := hS1.same fun b hb => by simp [fr, (hvb b hb).1]
  have Q1' := (Q0.up hH1)
  have QZ : Ps H1 [rest g h, gw, gr, gd, gt, gx, gk, ga, fr h H1] := Q0.new hH1
  have hlk : (w.lookN n 0) = [] := rfl
  have RV := hw.rs.one
  have Rr := (hw.rs.le (QZ.lt 2 rfl)).rules 6 Rl.enc_len default
  have C22 := hw.c22 (QZ.lt 1 rfl)
  refine sw4 @C22 RV.1 RV.2 @Rr ?_
  refine i_loop (fun i : Nat => [some (.pointer (some ⟨p, 0, none⟩)), some (.int .i64 (n : Nat)), some (.pointer (some ⟨b3, 0, none⟩)), none, none, none, none, none, none, none, none, none, some rv, some (.int .i64 w.rs.length), some (.int .i64 (i : Nat)), none, none, none, none, none, none, none, none, none, none, none, none])
    (fun i H => i ≤ w.rs.length ∧ ∃ F av gw ga, Ps H [rest g h, gw, gr, gd, gt, gx, gk, ga, fr h H1] ∧ WP p { w with al := w.al ++ w.lookN n i } F rv av pd pt px mk kv gw gr gd gt gx gk ga) (fun i => w.rs.length - i) 0 (by try simp only [Pf]; rfl) ⟨oM, F, av, gw, ga, QZ, by rw [hlk, List.append_nil]; exact hw⟩ ?_
  clear Rr C22 QZ hlk Q1' Q0 hps
  have hrs := hw.rs
  clear hw
  rintro i H ⟨hi, F, av, gw, ga, Q, hw⟩
  have hi1 : IntKind.i64.wrap ((i : Int) + 1) = ((i + 1 : Nat) : Int) := by rw [w64 oM oM]; omega
  have Rr := (hrs.le (Q.lt 2 rfl)).rules 6 Rl.enc_len default
  refine sw0 ?_
  refine i_cond (fun c1 => ?_) (fun c1 => ?_)
  rotate_left
  · have : i = w.rs.length := oM
    subst this
    refine sw0 ?_
    obtain ⟨g4, q1, q2⟩ := WO.of hg (Q.take 8) hw
    exact hK g4 _ q1 q2
  have hi2 : i < w.rs.length := oM
  have hrnm := hrn _ (getD_mem default hi2)
  generalize hre : w.rs.getD i default = r at *
  refine sw3 @Rr @hre @Rl.enc.eq_1 ?_
  refine i_newO fun b5 h5 hle5 hb5 ho5 => ?_
  have hob5 := ho5.le (fr_le _ _)
  refine sw0 ?_
  refine i_st (cs := [.string (str []), .int .i64 0, .int .i64 0, .int .i64 0, .int .i64 0, .int .i64 0]) hob5 0 6 rfl rfl oM (by simp) fun o6 hob6 _ => ?_
  have hob6 : objAt (h5.set b5 o6) ⟨b5, 0, none⟩ (Rl.enc r) := hob6 h5 rfl
  have hle6 : Heap.le H (h5.set b5 o6) := but.le (b := b5) hle5 hb5 fun x hx => Heap.set_ne hx
  generalize h5.set b5 o6 = h6 at *
  have Q6 := Q.new hle6
  have hobY : objAt (fr H h6) ⟨b5, 0, none⟩ (Rl.enc r) := hob6.kept fun o hb => by simp only [fr, hb5]; exact hb
  generalize fr H h6 = Y at *
  clear ho5 hob5 hob6
  have B3 : ∀ H, Heap.le (fr h H1) H → H.cell ⟨b3, 0, none⟩ = some v := fun H hl => (hobZ.le hl).rules.2.1 (by simp)
  have RL : ∀ H, Heap.le (fr h H1) H → _ := fun H hl => (SlB.sl (enc := encT) (sz := 1) (fun _ => rfl) (hSZ.le hl)).rules1 (fun t => .string (str t)) (fun _ => rfl) default
  have B36 := B3 h6 (Q6.lt 8 rfl)
  have RL6 := RL h6 (Q6.lt 8 rfl)
  have hlr0 : w.lookR n i ((tagsE w.E).take 0) = [] := rfl
  have hlN := w.lookN_len n i
  have hlN6 : i * (tagsE w.E).length ≤ 6 * 12 := Nat.mul_le_mul oM htl
  refine sw2 @B36 @RL6 ?_
  refine i_loop (fun k : Nat => [some (.pointer (some ⟨p, 0, none⟩)), some (.int .i64 (n : Nat)), some (.pointer (some ⟨b3, 0, none⟩)), none, some (.int .i64 (i : Nat)), some (.pointer (some ⟨b5, 0, none⟩)), none, none, none, none, none, none, some rv, some (.int .i64 w.rs.length), some (.int .i64 (i : Nat)), none, none, none, some v, some (.int .i64 (tagsE w.E).length), some (.int .i64 (k : Nat)), none, none, none, none, none, none])
    (fun k H => k ≤ (tagsE w.E).length ∧ ∃ F av gw ga, Ps H [rest g h, gw, gr, gd, gt, gx, gk, ga, fr h H1, Y] ∧ WP p { w with al := w.al ++ w.lookN n i ++ w.lookR n i ((tagsE w.E).take k) } F rv av pd pt px mk kv gw gr gd gt gx gk ga) (fun k => (tagsE w.E).length - k) 0 (by try simp only [Pf]; rfl) ⟨oM, F, av, gw, ga, Q6, by rw [hlr0, List.append_nil]; exact hw⟩ ?_
  clear hw Q6 RL6 B36 Q Rr hlr0 hle5 hle6
  rintro k H' ⟨hk, F, av, gw, ga, Q, hw⟩
  have hk1 : IntKind.i64.wrap ((k : Int) + 1) = ((k + 1 : Nat) : Int) := by rw [w64 oM oM]; omega
  have RLk := RL H' (Q.lt 8 rfl)
  refine sw0 ?_
  refine i_cond (fun c2 => ?_) (fun c2 => ?_)
  rotate_left
  · have : k = (tagsE w.E).length := oM
    subst this
    rw [List.take_length, List.append_assoc, ← Wa.lookN_succ] at hw
    refine sw1 @hi1 ?_
    exact k_loop (i + 1) oM sE ⟨oM, F, av, gw, ga, Q.take 9, hw⟩
  have hk2 : k < (tagsE w.E).length := oM
  have hnr : (tagsE w.E).take (k + 1) = (tagsE w.E).take k ++ [(tagsE w.E).getD k default] := take_succ_d default hk2
  have hlR := w.lookR_len n i ((tagsE w.E).take k)
  rw [List.length_take] at hlR
  generalize hte : (tagsE w.E).getD k default = t at *
  have C36 := hw.c36 (Q.lt 1 rfl)
  have RW := (hobY.le (Q.lt 9 rfl)).rules.2.2
  simp only [Rl.enc, List.length_cons, List.length_nil, Nat.reduceAdd] at RW
  refine sw4 @RLk @hte @C36 @RW ?_
  refine i_call H174 ⟨gt, pt, _, _, w.E, r, t, n, rfl, hw.tr, Q.lt 4 rfl, hEl, oM, oM, fun h7 hle7 => ?_⟩
  have Q7 := Q.up hle7
  have hlq : w.lookR n i ((tagsE w.E).take (k + 1)) = w.lookR n i ((tagsE w.E).take k) ++ if holdR (w.c 2).toNat (w.c 3).toNat w.E r t n then [⟨i, n, t⟩] else [] := by
    unfold Wa.lookR
    rw [hnr, List.filter_append, List.map_append, hre]
    congr 1
    by_cases e : holdR (w.c 2).toNat (w.c 3).toNat w.E r t n <;> simp [e]
  refine sw0 ?_
  cases c3 : holdR (w.c 2).toNat (w.c 3).toNat w.E r t n
  · rw [c3, if_neg (by simp), List.append_nil] at hlq
    refine sw1 @hk1 ?_
    exact k_loop (k + 1) oM sE ⟨oM, F, av, gw, ga, Q7, by rw [hlq]; exact hw⟩
  rw [c3, if_pos rfl] at hlq
  have C44 := hw.c44 (Q7.lt 1 rfl)
  have OA := hw.al.one
  refine sw1 @C44 ?_
  refine i_bslB encAl 3 encAl_len [⟨i, n, t⟩] (by simp [encAl]) rfl (by simp [maxLen]) fun x1 b1 h8 hle8 hb1 hx1 hS3 => ?_
  have Q8 := Q7.up hle8
  have O2 := hS3.one
  refine sw4 O2.1 O2.2 OA.1 OA.2 ?_
  refine i_appB (enc := encAl) (sz := 3) (g := ga) (l' := [⟨i, n, t⟩]) encAl_len (by simp [encAl, one]) hw.al (Q8.lt 7 rfl) (SlB.sl encAl_len (hS3.le (fr_le _ _))) (by simp; omega) fun v9 h9 ga9 hS9 St9 e1 e2 e3 => ?_
  have Q9 := Q8.step 7 rfl St9
  have O9 := hS9.one
  refine sw2 O9.1 O9.2 ?_
  refine i_stF (x := v9) hw.ob (Q9.lt 1 rfl) 44 O9.2 O9.1 oM fun g10 h10 st10 ho10 => ?_
  have Q10 := Q9.step 1 rfl st10
  refine sw1 @hk1 ?_
  refine k_loop (k + 1) oM sE ⟨oM, upF F 44 v9, v9, g10, ga9, Q10, ?_⟩
  have := hw.wf.al (w.al ++ w.lookN n i ++ w.lookR n i ((tagsE w.E).take (k + 1))) v9
  rw [hlq, ← List.append_assoc] at this ⊢
  exact { hw with ob := ho10, wf := this, al := hS9 }
end Go.Cw
namespace Go.Cw
open Go
def Wa.tell (w : Wa) (x : Nat × List Si) : Wa :=
  let w1 : Wa := { w with E := w.E ++ [x.2] }
  { w1 with al := w1.al ++ w1.look x.1 }
def Wa.closed (w : Wa) (m : Nat) : List (Nat × List Si) := closE (w.c 0).toNat (w.c 1).toNat w.now (w.now + m) w.A
def Wa.tick (w : Wa) (m : Nat) : Wa := (w.closed m).foldl Wa.tell { w with now := w.now + m }
structure Wa.Mid (w : Wa) : Prop where
  rl : w.rs.length ≤ 6
  rf : ∀ r ∈ w.rs, ruleF r = 0
  kn : w.kn.length ≤ 12
  knn : w.kn.Nodup
  Eb : ∀ l ∈ w.E, l.length ≤ 2000 ∧ ∀ s ∈ l, ¬ adBad 1000 s ∧ s.tag ∈ w.kn ∧ kindOf s.tag ≠ 0
  al : w.al.length ≤ 100 * w.E.length
theorem Wa.Ok.mid {w : Wa} {fed : Nat} (h : w.Ok fed) (n : Nat) : ({ w with now := n } : Wa).Mid := ⟨h.rl, h.rf, h.kn, h.knn, h.Eb, h.al⟩
theorem nodup_leT {l m : List (List UInt8)} (h : l.Nodup) (hs : ∀ x ∈ l, x ∈ m) : l.length ≤ m.length := by
  induction l generalizing m with
  | nil => simp
  | cons a l ih =>
    obtain ⟨h1, h2⟩ := List.nodup_cons.1 h
    have hm := hs a (by simp)
    have := ih (m := m.erase a) h2 fun x hx => (List.mem_erase_of_ne (by rintro rfl; exact h1 hx)).2 (hs x (by simp [hx]))
    rw [List.length_erase_of_mem hm] at this
    have : 0 < m.length := List.length_pos_of_mem hm
    simp; omega
theorem Wa.Mid.tags {w : Wa} (h : w.Mid) : (tagsE w.E).length ≤ 12 := by
  refine Nat.le_trans (nodup_leT (tagsE_nodup w.E) fun t ht => ?_) h.kn
  obtain ⟨l, hl, s, hs, rfl⟩ := (mem_tagsE w.E t).1 ht
  exact ((h.Eb l hl).2 s hs).2.1
theorem Wa.Mid.add {w : Wa} (h : w.Mid) {l : List Si} (hl : l.length ≤ 2000 ∧ ∀ s ∈ l, ¬ adBad 1000 s ∧ s.tag ∈ w.kn ∧ kindOf s.tag ≠ 0) : ({ w with E := w.E ++ [l] } : Wa).Mid :=
  ⟨h.rl, h.rf, h.kn, h.knn, fun l' hl' => by
    rcases List.mem_append.1 hl' with e | e
    · exact h.Eb l' e
    · rw [List.mem_singleton.1 e]; exact hl, by have := h.al; simp; omega⟩
theorem Wa.look_len {w : Wa} (h : w.Mid) (n : Nat) : (w.look n).length ≤ 72 := by
  have h1 := w.lookN_len n w.rs.length
  have h2 : w.rs.length * (tagsE w.E).length ≤ 6 * 12 := Nat.mul_le_mul h.rl h.tags
  unfold Wa.look; omega
theorem Wa.Mid.tell {w : Wa} (h : w.Mid) {x : Nat × List Si} (hl : x.2.length ≤ 2000 ∧ ∀ s ∈ x.2, ¬ adBad 1000 s ∧ s.tag ∈ w.kn ∧ kindOf s.tag ≠ 0) : (w.tell x).Mid := by
  have h1 := h.add hl
  have h2 := Wa.look_len h1 x.1
  have h3 := h.al
  exact ⟨h1.rl, h1.rf, h1.kn, h1.knn, h1.Eb, by unfold Wa.tell; simp only [List.length_append, List.length_singleton]; omega⟩
theorem Wa.tells (L : List (Nat × List Si)) : ∀ (w : Wa), L.foldl Wa.tell w = { w with E := w.E ++ L.map (·.2), al := (L.foldl Wa.tell w).al } := by
  induction L with
  | nil => intro w; simp
  | cons x L ih => intro w; rw [List.foldl_cons, ih]; simp [Wa.tell]
theorem Wa.Mid.tells {L : List (Nat × List Si)} : ∀ {w : Wa}, w.Mid → (∀ x ∈ L, x.2.length ≤ 2000 ∧ ∀ s ∈ x.2, ¬ adBad 1000 s ∧ s.tag ∈ w.kn ∧ kindOf s.tag ≠ 0) → (L.foldl Wa.tell w).Mid := by
  induction L with
  | nil => intro w h _; exact h
  | cons x L ih => intro w h hL; exact ih (h.tell (hL x (by simp))) fun y hy => hL y (List.mem_cons_of_mem _ hy)
theorem mem_ofE {size : Nat} {A : List Si} {n : Nat} {s : Si} : s ∈ ofE size A n ↔ s ∈ A ∧ ep size s = n := by
  unfold ofE
  rw [(ofL_ord _).2.mem_iff]; simp
theorem Wa.Ok.closed {w : Wa} {fed : Nat} (h : w.Ok fed) (hf : fed ≤ 20000) {m : Nat} : ∀ x ∈ w.closed m, x.2.length ≤ 2000 ∧ ∀ s ∈ x.2, ¬ adBad 1000 s ∧ s.tag ∈ w.kn ∧ kindOf s.tag ≠ 0 := by
  intro x hx
  unfold Wa.closed closE at hx
  obtain ⟨k, hk, rfl⟩ := List.mem_map.1 hx
  refine ⟨?_, fun s hs => h.Ab s (mem_ofE.1 hs).1⟩
  unfold ofE
  rw [ofL_len]
  have h1 := List.length_filter_le (fun s => decide (ep (w.c 0).toNat s = k)) w.A
  have h2 := h.sum
  omega
theorem clos_mono {size late a b : Nat} (h : a ≤ b) : clos size late a ≤ clos size late b := Nat.div_le_div_right oM
theorem Wa.closed_len {w : Wa} {m : Nat} : (w.closed m).length = clos (w.c 0).toNat (w.c 1).toNat (w.now + m) - clos (w.c 0).toNat (w.c 1).toNat w.now := by simp [Wa.closed, closE]
theorem Wa.Ok.tick {w : Wa} {fed m : Nat} (h : w.Ok fed) (hf : fed ≤ 20000) (hm : w.now + m ≤ 1000) : (w.tick m).Ok fed := by
  have h1 := (h.mid (w.now + m)).tells (L := w.closed m) (h.closed hf)
  have h2 := Wa.tells (w.closed m) { w with now := w.now + m }
  unfold Wa.tick
  rw [h2] at h1 ⊢
  refine ⟨h.c0, h.c1, h.c2, h.c3, h.c4, h.c5, h.wh, h.rl, h.rf, hm, h.sum, h.d0, h.kn, h.knn, h.Ab, ?_, h1.Eb, h1.al⟩
  have h3 := clos_mono (size := (w.c 0).toNat) (late := (w.c 1).toNat) (show w.now ≤ w.now + m by omega)
  simp only [List.length_append, List.length_map, Wa.closed_len, h.El]
  omega
theorem clos_le1000 {size late now : Nat} (hn : now ≤ 1000) : clos size late now ≤ 1000 := Nat.le_trans (Nat.div_le_self _ _) oM
end Go.Cw
namespace Go.Cw
open Go
theorem rest_n {g h : Heap} {b : Nat} (e : g b = none) : rest g h b = h b := by unfold rest; rw [if_pos e]
theorem rest_s {g h : Heap} {b : Nat} (e : g b ≠ none) : rest g h b = none := by unfold rest; rw [if_neg e]
theorem Ps.pack {H F Y : Heap} {gs : List Heap} (h : Ps H (F :: (gs ++ [Y]))) : Ps H [F, joinL gs, Y] := by
  obtain ⟨h1, h2⟩ := h
  obtain ⟨h3, h4⟩ := List.pairwise_cons.1 h2
  obtain ⟨h5, h6, h7⟩ := List.pairwise_append.1 h4
  refine ⟨fun x hx => ?_, ?_⟩
  · simp only [List.mem_cons, List.not_mem_nil, or_false] at hx
    rcases hx with rfl | rfl | rfl
    · exact h1 _ (by simp)
    · exact joinL_le fun y hy => h1 y (by simp [hy])
    · exact h1 _ (by simp)
  · refine List.pairwise_cons.2 ⟨fun x hx => ?_, List.pairwise_cons.2 ⟨fun x hx => ?_, List.pairwise_singleton _ _⟩⟩
    · simp only [List.mem_cons, List.not_mem_nil, or_false] at hx
      rcases hx with rfl | rfl
      · exact fun b hb => joinL_none fun y hy => h3 y (by simp [hy]) b hb
      · exact h3 _ (by simp)
    · rw [List.mem_singleton] at hx; subst hx
      intro b hb
      obtain ⟨y, hy, hyb⟩ := joinL_mem hb
      exact h7 y hy _ (by simp) b hyb
def S269 (N : Num) : Spec := fun args h K => ∃ g p w fed, ∃ n : Int, args = [.pointer (some ⟨p, 0, none⟩), .int .i64 n] ∧ WO g p w ∧ Heap.le g h ∧ w.Ok fed ∧ fed ≤ 20000 ∧
  ((n < 0 ∨ 1000 - (w.now : Int) < n) → K (.tuple #[.int .i64 0, errV N 1]) h) ∧
  (∀ m : Nat, n = m → w.now + m ≤ 1000 → ∀ g' h', Step g h g' h' → WO g' p (w.tick m) → K (.tuple #[.int .i64 ((w.closed m).length : Nat), .nilIface]) h')
theorem bad_of {s : Si} (h : ¬ adBad 1000 s) : ¬ s.bad := by
  unfold adBad at h; unfold Si.bad; omega
theorem EpsR.len {h : Heap} {v : Value} {L : List (Nat × List Si)} (a : EpsR h v L) : ∃ es : List (Nat × Value), Sl encEp h v es ∧ es.length = L.length ∧ ∀ i, i < L.length → (es.getD i default).1 = (L.getD i default).1 ∧ Sl Si.enc h (es.getD i default).2 (L.getD i default).2 := a
theorem F269_ok {N : Num} {Γ : Ctx} [GoodC Γ] (H34 : Sat (S34 N) (Γ 34)) (H29 : Sat (S29 N) (Γ 29)) (H46 : Sat S46 (Γ 46)) (H277 : Sat S277 (Γ 277)) : Sat (S269 N) (SF N Γ F269) := by
  rintro _ h K ⟨g, p, w, fed, n, rfl, hwo, hg, hok, hfed, hK1, hK2⟩
  obtain ⟨F, rv, av, pd, pt, px, mk, kv, gw, gr, gd, gt, gx, gk, ga, hps, hw⟩ := hwo
  have Q0 := hps.rest hg
  have hc0 := hok.c0
  have hc1 := hok.c1
  have hc2 := hok.c2
  have hc3 := hok.c3
  have hc4 := hok.c4
  have hc5 := hok.c5
  have hnow := hok.now
  have hA9 : w.A.length ≤ 1818 := by have := hok.sum; omega
  refine i_fun rfl ?_
  simp only [F269, Ze, Nat.reduceSub, Nat.reduceAdd]
  have C35 := hw.c35 (Q0.lt 1 rfl)
  refine sw1 @C35 ?_
  refine i_call H34 ⟨gd, pd, n, _, _, _, _, rfl, hw.dk, Q0.lt 3 rfl, oM, oM, oM, oM, oM, fun hbad => ?_, fun m hm hmn gd' h1 v st1 hD1 hO1 => ?_⟩
  · have := hK1 hbad
    refine sw1 @errV_succ ?_
    exact this
  have hK := hK2 m hm hmn
  clear hK1 hK2
  have Q1 := Q0.step 3 rfl st1
  have hOY := (hO1.step (Gf' := fun _ => none) (H' := rest (join (rest gd h) gd') h1) (fun b o hb hn => by rw [rest_n hn]; exact hb) fun _ _ _ => rfl).epsR
  have hYd : ∀ x ∈ [rest g h, gw, gr, gd', gt, gx, gk, ga], disj x (rest (join (rest gd h) gd') h1) := by
    intro x hx b hb
    have : join (rest gd h) gd' b ≠ none := by
      by_cases e : x = gd'
      · subst e
        cases e2 : rest gd h b with
        | some o => simp [join, e2]
        | none => simp [join, e2]; simpa using hb
      · have hx2 : ∃ j, j ≠ 3 ∧ [rest g h, gw, gr, gd, gt, gx, gk, ga][j]? = some x := by
          simp only [List.mem_cons, List.not_mem_nil, or_false] at hx
          rcases hx with rfl | rfl | rfl | rfl | rfl | rfl | rfl | rfl
          · exact ⟨0, oM, rfl⟩
          · exact ⟨1, oM, rfl⟩
          · exact ⟨2, oM, rfl⟩
          · exact absurd rfl e
          · exact ⟨4, oM, rfl⟩
          · exact ⟨5, oM, rfl⟩
          · exact ⟨6, oM, rfl⟩
          · exact ⟨7, oM, rfl⟩
        obtain ⟨j, hj, hx3⟩ := hx2
        have h3 := Q0.dj j 3 hx3 rfl hj b hb
        have h4 : h b ≠ none := fun e => hb (le_none (Q0.lt j hx3) b e)
        cases e2 : h b with
        | none => exact absurd e2 h4
        | some o => simp [join, rest_n h3, e2]
    exact rest_s this
  have QY := Q1.add (rest_le _ _) hYd
  have hOY' : ∃ Y, Y = rest (join (rest gd h) gd') h1 := ⟨_, rfl⟩
  obtain ⟨Y, hY⟩ := hOY'
  simp only [List.set] at QY
  rw [← hY] at hOY QY
  obtain ⟨g1, st1', hwo1⟩ : ∃ g1, Ps h1 [rest g h, g1, Y] ∧ WO g1 p { w with now := w.now + m } := by
    refine ⟨joinL [gw, gr, gd', gt, gx, gk, ga], ?_, F, rv, av, pd, pt, px, mk, kv, gw, gr, gd', gt, gx, gk, ga, (Q1.drop 1).sub, { hw with wf := hw.wf.same rfl rfl rfl rfl, dk := hD1 }⟩
    have Q2 : Ps h1 [rest g h, gw, gr, gd', gt, gx, gk, ga, Y] := QY
    exact Q2.pack (gs := [gw, gr, gd', gt, gx, gk, ga])
  obtain ⟨es, hes, hel, hee⟩ := hOY
  have hcl := hok.closed hfed (m := m)
  have hcn := w.closed_len (m := m)
  have hcm := clos_mono (size := (w.c 0).toNat) (late := (w.c 1).toNat) (show w.now ≤ w.now + m by omega)
  have hc9 : clos (w.c 0).toNat (w.c 1).toNat (w.now + m) ≤ 1000 := clos_le1000 hmn
  have hEl := hok.El
  have hmid := hok.mid (w.now + m)
  change ∀ i, i < (w.closed m).length → (es.getD i default).1 = ((w.closed m).getD i default).1 ∧ Sl Si.enc Y (es.getD i default).2 ((w.closed m).getD i default).2 at hee
  change es.length = (w.closed m).length at hel
  unfold Wa.tick at hK
  have hcd : ∀ x ∈ w.closed m, x.1 ≤ 1000 := by
    intro x hx
    unfold Wa.closed closE at hx
    obtain ⟨k, hk, rfl⟩ := List.mem_map.1 hx
    rw [List.mem_range'_1] at hk
    dsimp only; omega
  generalize w.closed m = L at *
  have R := (hes.le (st1'.lt 2 rfl)).rules 2 encEp_len default
  have hvo := hes.one
  rw [hel] at R
  clear QY hYd Q1 Q0 hps hw
  refine sw1 @R ?_
  refine i_loop (fun i : Nat => [some (.pointer (some ⟨p, 0, none⟩)), none, none, none, some v, none, none, none, none, some v, some (.int .i64 L.length), some (.int .i64 (i : Nat)), none, none, none, none])
    (fun i H => i ≤ L.length ∧ ∃ gW, Ps H [rest g h, gW, Y] ∧ WO gW p ((L.take i).foldl Wa.tell { w with now := w.now + m })) (fun i => L.length - i) 0 (by try simp only [Pf]; rfl) ⟨oM, g1, st1', hwo1⟩ ?_
  clear hwo1 st1' R
  rintro i H ⟨hi, gW, Q, hW⟩
  have hi1 : IntKind.i64.wrap ((i : Int) + 1) = ((i + 1 : Nat) : Int) := by rw [w64 oM oM]; omega
  have R := (hes.le (Q.lt 2 rfl)).rules 2 encEp_len default
  rw [hel] at R
  refine sw0 ?_
  refine i_cond (fun c1 => ?_) (fun c1 => ?_)
  rotate_left
  · have : i = L.length := oM
    subst this
    rw [List.take_length] at hW
    refine sw1 @R ?_
    exact hK _ _ (Q.step1 hg) hW
  have hi2 : i < L.length := oM
  obtain ⟨e1, e2⟩ := hee i hi2
  have hnx : L.take (i + 1) = L.take i ++ [L.getD i default] := take_succ_d default hi2
  have hcx := hcl _ (getD_mem default hi2)
  have hcx2 := hcd _ (getD_mem default hi2)
  have hmi := hmid.tells (L := L.take i) fun x hx => hcl x (List.mem_of_mem_take hx)
  have htf := Wa.tells (L.take i) { w with now := w.now + m }
  generalize hfe : L.getD i default = x at *
  generalize hre : es.getD i default = y at *
  have hyo := e2.one
  generalize hw2 : (L.take i).foldl Wa.tell { w with now := w.now + m } = w2 at *
  have hE2 : w2.E = w.E ++ (L.take i).map (·.2) := by rw [htf]
  have hE2l : w2.E.length ≤ 999 := by rw [hE2, List.length_append, List.length_map, List.length_take]; omega
  have f0 : w2.c = w.c := by rw [htf]
  have f1 : w2.kn = w.kn := by rw [htf]
  clear htf
  obtain ⟨F, rv, av, pd, pt, px, mk, kv, gw, gr, gd, gt, gx, gk, ga, hps, hw⟩ := hW
  have V0 := hps.rest (Q.lt 1 rfl)
  have C36 := hw.c36 (V0.lt 1 rfl)
  have C37 := hw.c37 (V0.lt 1 rfl)
  refine sw6 @R @hre @encEp.eq_1 hyo.1 hyo.2 @C36 ?_
  refine i_call H29 ⟨pt, y.2, x.2, gt, _, _, w2.E, rfl, e2.le (Q.lt 2 rfl), hw.tr, V0.lt 4 rfl, ⟨by rw [f0]; omega, by rw [f0]; omega, oM, fun l hl => ⟨fun s hs => bad_of ((hmi.Eb l hl).2 s hs).1, by have := (hmi.Eb l hl).1; omega⟩⟩, oM, oM, fun hb => ?_, fun hb h3 gt3 st3 hT3 => ?_⟩
  · obtain ⟨s, hs, hsb⟩ := hb
    exact absurd hsb (bad_of (hcx.2 s hs).1)
  have V3 := V0.step 4 rfl st3
  have C37' := hw.c37 (V3.lt 1 rfl)
  refine sw1 @C37' ?_
  refine i_call H46 ⟨gx, gt3, px, pt, _, _, w2.E ++ [x.2], _, _, w2.E.length, rfl, hw.ix.more, V3.lt 5 rfl, hT3, V3.lt 4 rfl, V3.dj 4 5 rfl rfl oM, by rw [f0]; omega, by simp; omega, fun l hl => ?_, by rw [f0]; omega, by rw [f0]; omega, by rw [f0]; omega, by rw [f0]; omega, fun hn => by simp at hn, fun _ gx4 h4 st4 hX4 => ?_⟩
  · rcases List.mem_append.1 hl with e | e
    · exact (hmi.Eb l e).1
    · rw [List.mem_singleton.1 e]; exact hcx.1
  have V4 := V3.step 5 rfl st4
  obtain ⟨g5, st5, hW5⟩ := WO.of (w := { w2 with E := w2.E ++ [x.2] }) (Q.lt 1 rfl) V4 { ob := hw.ob, wf := hw.wf.same rfl rfl rfl rfl, rs := hw.rs, dk := hw.dk, tr := hT3, ix := by simpa using hX4, km := hw.km, kn := hw.kn, al := hw.al }
  have Q5 := Q.step 1 rfl st5
  have hm5 := hmi.add (l := x.2) (by rw [f1]; exact hcx)
  refine sw0 ?_
  rw [e1]
  refine i_call H277 ⟨g5, p, _, x.1, rfl, hW5, Q5.lt 1 rfl, hm5.rl, fun r hr => ?_, by simp; omega, fun l hl => (hm5.Eb l hl).1, hm5.tags, by have := hmi.al; simp; omega, hcx2, fun g6 h6 st6 hW6 => ?_⟩
  · have := ruleF_zero.1 (hm5.rf r hr)
    have := this.1.2.1
    omega
  have Q6 := Q5.step 1 rfl st6
  refine sw1 @hi1 ?_
  exact k_loop (i + 1) oM sE ⟨oM, g6, Q6, by rw [hnx, List.foldl_append, hw2]; exact hW6⟩
end Go.Cw
namespace Go.Cw
open Go
def aggC (c : Nat → Int) : Value := .agg #[.int .i64 (c 0), .int .i64 (c 1), .int .i64 (c 2), .int .i64 (c 3), .int .i64 (c 4), .int .i64 (c 5), .int .i64 (c 6), .int .i64 (c 7), .int .i64 (c 8), .int .i64 (c 9), .int .i64 (c 10), .int .i64 (c 11), .int .i64 (c 12), .int .i64 (c 13), .int .i64 (c 14), .int .i64 (c 15), .int .i64 (c 16), .int .i64 (c 17), .int .i64 (c 18), .int .i64 (c 19), .int .i64 (c 20), .int .i64 (c 21)]
instance (c : Nat → Int) : Decidable (cfgBad c) := by unfold cfgBad; infer_instance
def whBad (c : Nat → Int) : Bool := (List.range 16).any fun k => decide (c (6 + k) < -1 ∨ 7 < c (6 + k))
def rulesF (seen : List (List UInt8)) : List Rl → Nat
  | [] => 0
  | r :: l => if ruleF r ≠ 0 then ruleF r else if r.name ∈ seen then 7 else rulesF (seen ++ [r.name]) l
theorem rulesF_cons (seen : List (List UInt8)) (r : Rl) (l : List Rl) : rulesF seen (r :: l) = if ruleF r ≠ 0 then ruleF r else if r.name ∈ seen then 7 else rulesF (seen ++ [r.name]) l := rfl
def watchF (c : Nat → Int) (rs : List Rl) : Nat := if cfgBad c then 1 else if whBad c then 1 else if 6 < rs.length then 2 else rulesF [] rs
def newW (c : Nat → Int) (rs : List Rl) : Wa := ⟨c, rs, fun _ => ([], 0), fun _ => -1, fun _ => 0, [], 0, [], [], []⟩
def S266 (N : Num) : Spec := fun args h K => ∃ c rv rs, args = [aggC c, rv] ∧ Sl Rl.enc h rv rs ∧ rs.length ≤ 100000 ∧ (∀ r ∈ rs, r.name.length ≤ 10000000) ∧
  (watchF c rs ≠ 0 → ∀ h', Heap.le h h' → K (.tuple #[.pointer none, errV N (watchF c rs)]) h') ∧
  (watchF c rs = 0 → ∀ p g' h', Step (fun _ => none) h g' h' → WO g' p (newW c rs) → K (.tuple #[.pointer (some ⟨p, 0, none⟩), .nilIface]) h')
def newF (c : Nat → Int) (rv : Value) (mk : Nat) : Nat → Value := fun j => ([Value.int .i64 (c 0), .int .i64 (c 1), .int .i64 (c 2), .int .i64 (c 3), .int .i64 (c 4), .int .i64 (c 5), .int .i64 (c 6), .int .i64 (c 7), .int .i64 (c 8), .int .i64 (c 9), .int .i64 (c 10), .int .i64 (c 11), .int .i64 (c 12), .int .i64 (c 13), .int .i64 (c 14), .int .i64 (c 15), .int .i64 (c 16), .int .i64 (c 17), .int .i64 (c 18), .int .i64 (c 19), .int .i64 (c 20), .int .i64 (c 21), rv, .string (str []), .int .i64 0, .string (str []), .int .i64 0, .string (str []), .int .i64 0, .string (str []), .int .i64 0, .int .i64 (-1), .int .i64 (-1), .int .i64 (-1), .int .i64 (-1), .pointer none, .pointer none, .pointer none, .map (some mk), .int .i64 0, .int .i64 0, .int .i64 0, .int .i64 0, .int .i64 0, .slice none 0 0] : List Value).getD j default
theorem vidxn_c (c : Nat → Int) (H : Heap) {i : Nat} (hi : i < 4) : o2V H (.vidxn 4 4) (.v (.agg #[.int .i64 (c 6), .int .i64 (c 7), .int .i64 (c 8), .int .i64 (c 9), .int .i64 (c 10), .int .i64 (c 11), .int .i64 (c 12), .int .i64 (c 13), .int .i64 (c 14), .int .i64 (c 15), .int .i64 (c 16), .int .i64 (c 17), .int .i64 (c 18), .int .i64 (c 19), .int .i64 (c 20), .int .i64 (c 21)])) (.v (.int .i64 (i : Nat))) =
    some (.v (.agg #[.int .i64 (c (6 + 4 * i)), .int .i64 (c (6 + (4 * i + 1))), .int .i64 (c (6 + (4 * i + 2))), .int .i64 (c (6 + (4 * i + 3)))])) := by
  rcases (by omega : i = 0 ∨ i = 1 ∨ i = 2 ∨ i = 3) with rfl | rfl | rfl | rfl <;> rfl
theorem vidx_c (x0 x1 x2 x3 : Int) (f : Nat → Int) (h0 : f 0 = x0) (h1 : f 1 = x1) (h2 : f 2 = x2) (h3 : f 3 = x3) {j : Nat} (hj : j < 4) : (#[Value.int .i64 x0, .int .i64 x1, .int .i64 x2, .int .i64 x3] : Array Value)[j]? = some (.int .i64 (f j)) := by
  subst h0 h1 h2 h3
  rcases (by omega : j = 0 ∨ j = 1 ∨ j = 2 ∨ j = 3) with rfl | rfl | rfl | rfl <;> rfl
theorem WF.newW (c : Nat → Int) (rs : List Rl) (rv : Value) (mk pd pt px : Nat) : WF (upF (upF (upF (newF c rv mk) 35 (.pointer (some ⟨pd, 0, none⟩))) 36 (.pointer (some ⟨pt, 0, none⟩))) 37 (.pointer (some ⟨px, 0, none⟩))) (newW c rs) rv pd pt px mk (.slice none 0 0) where
  c := fun k hk => by
    rw [upF_ne oM, upF_ne oM, upF_ne oM]
    rcases (by omega : k = 0 ∨ k = 1 ∨ k = 2 ∨ k = 3 ∨ k = 4 ∨ k = 5 ∨ k = 6 ∨ k = 7 ∨ k = 8 ∨ k = 9 ∨ k = 10 ∨ k = 11 ∨ k = 12 ∨ k = 13 ∨ k = 14 ∨ k = 15 ∨ k = 16 ∨ k = 17 ∨ k = 18 ∨ k = 19 ∨ k = 20 ∨ k = 21) with rfl | rfl | rfl | rfl | rfl | rfl | rfl | rfl | rfl | rfl | rfl | rfl | rfl | rfl | rfl | rfl | rfl | rfl | rfl | rfl | rfl | rfl <;> rfl
  r := rfl
  l1 := fun k hk => by rcases (by omega : k = 0 ∨ k = 1 ∨ k = 2 ∨ k = 3) with rfl | rfl | rfl | rfl <;> rfl
  l2 := fun k hk => by rcases (by omega : k = 0 ∨ k = 1 ∨ k = 2 ∨ k = 3) with rfl | rfl | rfl | rfl <;> rfl
  wm := fun k hk => by rcases (by omega : k = 0 ∨ k = 1 ∨ k = 2 ∨ k = 3) with rfl | rfl | rfl | rfl <;> rfl
  d := rfl
  t := rfl
  x := rfl
  k := rfl
  dr := fun k hk => by rcases (by omega : k = 0 ∨ k = 1 ∨ k = 2 ∨ k = 3 ∨ k = 4) with rfl | rfl | rfl | rfl | rfl <;> rfl
  a := rfl
theorem Ps.one (h : Heap) : Ps h [h] := ⟨fun g hg => by rw [List.mem_singleton.1 hg]; exact Heap.le.refl h, List.pairwise_singleton _ _⟩
theorem Ps.perm {H : Heap} {gs gs' : List Heap} (h : Ps H gs) (hp : gs.Perm gs') : Ps H gs' :=
  ⟨fun g hg => h.1 g (hp.mem_iff.2 hg), (hp.pairwise_iff fun {x y} (a : disj x y) => a.symm).1 h.2⟩
theorem F266_ok {N : Num} {Γ : Ctx} [GoodC Γ] (H33 : Sat (S33 N) (Γ 33)) (H28 : Sat (S28 N) (Γ 28)) (H44 : Sat (S44 N) (Γ 44)) (H170 : Sat (S170 N) (Γ 170)) : Sat (S266 N) (SF N Γ F266) := by
  rintro _ h K ⟨c, rv, rs, rfl, hrs, hrl, hrn, hK1, hK2⟩
  refine i_fun rfl ?_
  simp only [F266, Ze, Nat.reduceSub, Nat.reduceAdd, aggC]
  refine sw0 ?_
  refine i_meet_alt (fun env H => ∃ p rv' mk gw gr gk, Ps H [h, gr, gk, gw] ∧ objF gw p 45 (newF c rv' mk) ∧ Sl Rl.enc gr rv' rs ∧ MapB encKS encBv gk mk [] [] 0 ∧
    env = [some (aggC c), some rv, some (aggC c), none, none, some (.pointer (some ⟨p, 0, none⟩)), none, none, none, none, none, none, none, none, none, none, none, none, none, none, none, none, none, none, none, none, none, none, none, none, none, none, none, none, none, none, none, none, none, none, none, none, none, none, none, none, none]) ?_ ?_
  rotate_left
  · refine i_alt ?_ ?_
    · refine sw0 ?_
      refine i_app Rl.enc_len (fun _ => rfl) (OwnS.nil (Heap.le.refl h)) hrs (by simp only [List.length_nil]; omega) fun v1 h1 ho1 => ?_
      refine sw0 ?_
      refine i_le (le_one ho1.1) ?_
      refine sw0 ?_
      refine i_mnew (ek := encKS) (ev := encBv) fun m h2 hm hle2 hmb => ?_
      refine sw0 ?_
      refine i_lew (le_one (ho1.1.trans hle2)) ?_
      have OV := ho1.one
      refine sw2 OV.1 OV.2 ?_
      refine i_newO fun p h3 hle3 hp hob => ?_
      refine sw0 ?_
      exact k_meet _ (by try simp only [Pf]; rfl) ⟨p, v1, m, _, _, _, (((Ps.one h).new ho1.1).new hle2).new hle3, hob, ho1.slf Rl.enc_len, hmb, rfl⟩
    · refine sw0 ?_
      refine i_mnew (ek := encKS) (ev := encBv) fun m h1 hm hle1 hmb => ?_
      refine sw0 ?_
      refine i_le (le_one hle1) ?_
      refine sw0 ?_
      refine i_app Rl.enc_len (fun _ => rfl) (OwnS.nil (Heap.le.refl h1)) (hrs.le hle1) (by simp only [List.length_nil]; omega) fun v1 h2 ho1 => ?_
      have OV := ho1.one
      refine sw0 ?_
      refine i_lew (le_one (hle1.trans ho1.1)) ?_
      refine sw2 OV.1 OV.2 ?_
      refine i_newO fun p h3 hle3 hp hob => ?_
      refine sw0 ?_
      exact k_meet _ (by try simp only [Pf]; rfl) ⟨p, v1, m, _, _, _, ((((Ps.one h).new hle1).new ho1.1).new hle3).perm (List.Perm.cons _ (List.Perm.swap _ _ _)), hob, ho1.slf Rl.enc_len, hmb, rfl⟩
  rintro env H0 ⟨p, rv', mk, gw, gr, gk, Q, hob, hr', hmb, rfl⟩
  unfold watchF at hK1 hK2
  refine sw1 @aggC.eq_1 ?_
  refine i_call H33 ⟨c 0, c 1, rfl, fun hb => ?_, fun hb pd h1 hpd hle1 hP => ?_⟩
  · unfold epBad at hb
    rw [if_pos (show cfgBad c by unfold cfgBad; omega)] at hK1
    refine sw0 ?_
    refine i_stF hob (Q.lt 3 rfl) 35 rfl rfl oM fun g2 h2 st2 ho2 => ?_
    refine sw1 @errV_succ ?_
    exact hK1 oM h2 ((Q.step 3 rfl st2).lt 0 rfl)
  unfold epBad at hb
  have Q1 := Q.new hle1
  refine sw0 ?_
  refine i_stF hob (Q1.lt 3 rfl) 35 rfl rfl oM fun g2 h2 st2 ho2 => ?_
  have Q2 := Q1.step 3 rfl st2
  refine sw0 ?_
  refine i_call H28 ⟨c 2, c 3, rfl, fun hb2 h3 hle3 => ?_, fun hb2 pt h3 hpt hle3 hT => ?_⟩
  · unfold newBad at hb2
    rw [if_pos (show cfgBad c by unfold cfgBad; omega)] at hK1
    refine sw0 ?_
    refine i_stF ho2 ((Q2.up hle3).lt 3 rfl) 36 rfl rfl oM fun g4 h4 st4 ho4 => ?_
    refine sw1 @errV_succ ?_
    exact hK1 oM h4 (((Q2.up hle3).step 3 rfl st4).lt 0 rfl)
  unfold newBad at hb2
  have Q3 := Q2.new hle3
  refine sw0 ?_
  refine i_stF ho2 (Q3.lt 3 rfl) 36 rfl rfl oM fun g4 h4 st4 ho4 => ?_
  have Q4 := Q3.step 3 rfl st4
  have C36 := (ho4.le (Q4.lt 3 rfl)).cell (j := 36) oM
  rw [upF_eq] at C36
  refine sw1 @C36 ?_
  refine i_call H44 ⟨pt, (c 2).toNat, (c 3).toNat, c 4, c 5, rfl, fun hb3 => ?_, fun hb3 px h5 hpx hle5 hX => ?_⟩
  · unfold inBad at hb3
    rw [if_pos (show cfgBad c by unfold cfgBad; omega)] at hK1
    refine sw0 ?_
    refine i_stF ho4 (Q4.lt 3 rfl) 37 rfl rfl oM fun g6 h6 st6 ho6 => ?_
    refine sw1 @errV_succ ?_
    exact hK1 oM h6 ((Q4.step 3 rfl st6).lt 0 rfl)
  unfold inBad at hb3
  rw [if_neg (show ¬ cfgBad c by unfold cfgBad; omega)] at hK1 hK2
  have Q5 := Q4.new hle5
  refine sw0 ?_
  refine i_stF ho4 (Q5.lt 3 rfl) 37 rfl rfl oM fun g6 h6 st6 ho6 => ?_
  have Q6 := Q5.step 3 rfl st6
  simp only [List.set, List.cons_append, List.nil_append] at Q6
  refine sw0 ?_
  clear Q5 Q4 Q3 Q2 Q1 Q
  refine i_loop (fun i : Nat => [none, some rv, none, none, none, some (.pointer (some ⟨p, 0, none⟩)), none, none, none, none, none, none, none, none, none, none, none, none, none, none, none, none, none, none, none, none, none, none, none, some (.agg #[.int .i64 (c 6), .int .i64 (c 7), .int .i64 (c 8), .int .i64 (c 9), .int .i64 (c 10), .int .i64 (c 11), .int .i64 (c 12), .int .i64 (c 13), .int .i64 (c 14), .int .i64 (c 15), .int .i64 (c 16), .int .i64 (c 17), .int .i64 (c 18), .int .i64 (c 19), .int .i64 (c 20), .int .i64 (c 21)]), some (.int .i64 (i : Nat)), none, none, none, none, none, none, none, none, none, none, none, none, none, none, none, none])
    (fun i H' => i ≤ 4 ∧ H' = h6 ∧ ∀ k, k < 4 * i → ¬ (c (6 + k) < -1 ∨ 7 < c (6 + k))) (fun i => 4 - i) 0 (by try simp only [Pf]; rfl) ⟨oM, rfl, fun k hk => by omega⟩ ?_
  rintro i H' ⟨hi, rfl, hwb⟩
  have hi1 : IntKind.i64.wrap ((i : Int) + 1) = ((i + 1 : Nat) : Int) := by rw [w64 oM oM]; omega
  refine sw0 ?_
  refine i_cond (fun c1 => ?_) (fun c1 => ?_)
  · have hv := vidxn_c c H' (i := i) oM
    refine sw1 @hv ?_
    refine i_loop (fun j : Nat => [none, some rv, none, none, none, some (.pointer (some ⟨p, 0, none⟩)), none, none, none, none, none, none, none, none, none, none, none, none, none, none, none, none, none, none, none, none, none, none, none, some (.agg #[.int .i64 (c 6), .int .i64 (c 7), .int .i64 (c 8), .int .i64 (c 9), .int .i64 (c 10), .int .i64 (c 11), .int .i64 (c 12), .int .i64 (c 13), .int .i64 (c 14), .int .i64 (c 15), .int .i64 (c 16), .int .i64 (c 17), .int .i64 (c 18), .int .i64 (c 19), .int .i64 (c 20), .int .i64 (c 21)]), some (.int .i64 (i : Nat)), none, none, some (.agg #[.int .i64 (c (6 + 4 * i)), .int .i64 (c (6 + (4 * i + 1))), .int .i64 (c (6 + (4 * i + 2))), .int .i64 (c (6 + (4 * i + 3)))]), some (.int .i64 (j : Nat)), none, none, none, none, none, none, none, none, none, none, none, none])
      (fun j H2 => j ≤ 4 ∧ H2 = H' ∧ ∀ k, k < 4 * i + j → ¬ (c (6 + k) < -1 ∨ 7 < c (6 + k))) (fun j => 4 - j) 0 (by try simp only [Pf]; rfl) ⟨oM, rfl, hwb⟩ ?_
    rintro j H2 ⟨hj, rfl, hwb2⟩
    have hj1 : IntKind.i64.wrap ((j : Int) + 1) = ((j + 1 : Nat) : Int) := by rw [w64 oM oM]; omega
    refine sw0 ?_
    refine i_cond (fun c2 => ?_) (fun c2 => ?_)
    · have hv2 : (#[Value.int .i64 (c (6 + 4 * i)), .int .i64 (c (6 + (4 * i + 1))), .int .i64 (c (6 + (4 * i + 2))), .int .i64 (c (6 + (4 * i + 3)))] : Array Value)[j]? = some (.int .i64 (c (6 + (4 * i + j)))) := vidx_c _ _ _ _ (fun j => c (6 + (4 * i + j))) rfl rfl rfl rfl (j := j) oM
      refine sw1 @hv2 ?_
      refine i_cond (fun c3 => ?_) (fun c3 => ?_)
      · have : whBad c = true := by
          unfold whBad
          rw [List.any_eq_true]
          exact ⟨4 * i + j, List.mem_range.2 oM, by rw [decide_eq_true_eq]; omega⟩
        rw [if_pos this] at hK1
        refine sw1 @errV_succ ?_
        exact hK1 oM H2 (Q6.lt 0 rfl)
      · refine sw1 @hj1 ?_
        refine k_loop (j + 1) oM sE ⟨oM, rfl, fun k hk => ?_⟩
        by_cases e : k < 4 * i + j
        · exact hwb2 k e
        · have : k = 4 * i + j := oM
          subst this; omega
    · have : j = 4 := oM
      subst this
      refine sw1 @hi1 ?_
      exact k_loop (i + 1) oM sE ⟨oM, rfl, fun k hk => hwb2 k oM⟩
  have hi4 : i = 4 := oM
  subst hi4
  have hwf : whBad c = false := by
    unfold whBad
    rw [List.any_eq_false]
    intro k hk
    have := hwb k (by have := List.mem_range.1 hk; omega)
    simpa using this
  rw [if_neg (by rw [hwf]; simp)] at hK1 hK2
  have Rr := (hrs.le (Q6.lt 0 rfl)).rules 6 Rl.enc_len default
  refine sw1 @Rr ?_
  refine i_cond (fun c4 => ?_) (fun c4 => ?_)
  · rw [if_pos oM] at hK1
    refine sw1 @errV_succ ?_
    exact hK1 oM H' (Q6.lt 0 rfl)
  rw [if_neg oM] at hK1 hK2
  refine sw0 ?_
  refine i_mnew (ek := encKS) (ev := encBv) fun m h7 hm7 hle7 hmb7 => ?_
  have Q7 := Q6.new hle7
  have Rr := (hrs.le (Q7.lt 0 rfl)).rules 6 Rl.enc_len default
  refine sw1 @Rr ?_
  refine i_loop (fun i : Nat => [none, some rv, none, none, none, some (.pointer (some ⟨p, 0, none⟩)), none, none, none, some (.map (some m)), none, none, none, none, none, none, none, none, none, none, none, none, none, none, none, none, none, none, none, none, none, none, none, none, none, none, none, none, none, some rv, some (.int .i64 rs.length), some (.int .i64 (i : Nat)), none, none, none, none, none])
    (fun i H => i ≤ rs.length ∧ rulesF [] rs = rulesF ((rs.take i).map (·.name)) (rs.drop i) ∧ ∃ gn kv bs ck, Ps H [h, gr, gk, g6, fr H0 h1, fr h2 h3, fr h4 h5, gn] ∧ MapB encKS encBv gn m kv bs ck ∧ KnM kv ((rs.take i).map (·.name))) (fun i => rs.length - i) 0 (by try simp only [Pf]; rfl) ⟨oM, rfl, _, [], [], 0, Q7, hmb7, KnM.nil⟩ ?_
  clear Rr Q7 Q6 hmb7
  rintro i H ⟨hi, hrf, gn, kv, bs, ck, Q, hmn, hkn⟩
  have hi1 : IntKind.i64.wrap ((i : Int) + 1) = ((i + 1 : Nat) : Int) := by rw [w64 oM oM]; omega
  have Rr := (hrs.le (Q.lt 0 rfl)).rules 6 Rl.enc_len default
  refine sw0 ?_
  refine i_cond (fun c5 => ?_) (fun c5 => ?_)
  rotate_left
  · have : i = rs.length := oM
    subst this
    rw [List.drop_length] at hrf
    refine sw0 ?_
    have Qf : Ps H [h, g6, gr, fr H0 h1, fr h2 h3, fr h4 h5, gk, fun _ => none] := by
      have q := (Q.take 7).perm (gs' := [h, g6, gr, fr H0 h1, fr h2 h3, fr h4 h5, gk]) ?_
      · exact q.add (fun b o hb => by cases hb) fun x hx b hb => rfl
      · refine List.Perm.cons _ ?_
        have e1 : [gr, gk, g6, fr H0 h1, fr h2 h3, fr h4 h5].Perm [gr, g6, gk, fr H0 h1, fr h2 h3, fr h4 h5] := List.Perm.cons _ (List.Perm.swap _ _ _)
        have e2 : [gr, g6, gk, fr H0 h1, fr h2 h3, fr h4 h5].Perm [g6, gr, gk, fr H0 h1, fr h2 h3, fr h4 h5] := List.Perm.swap _ _ _
        have e3 : [gk, fr H0 h1, fr h2 h3, fr h4 h5].Perm [fr H0 h1, fr h2 h3, fr h4 h5, gk] := List.perm_append_comm (l₁ := [gk]) (l₂ := [fr H0 h1, fr h2 h3, fr h4 h5])
        exact (e1.trans e2).trans ((List.Perm.cons _ (List.Perm.cons _ e3)))
    refine hK2 (by rw [hrf]; rfl) p _ H ?_ ⟨_, rv', .slice none 0 0, pd, pt, px, mk, [], g6, gr, fr H0 h1, fr h2 h3, fr h4 h5, gk, fun _ => none, (Qf.drop 1).sub, { ob := ho6, wf := WF.newW c rs rv' mk pd pt px, rs := hr', dk := hP, tr := hT, ix := hX [], km := ⟨[], 0, hmb⟩, kn := KnM.nil, al := SlB.nil }⟩
    refine ⟨joinL_le fun x hx => Qf.1 x (List.mem_cons_of_mem _ hx), fun b o h1 _ => Qf.lt 0 rfl b o h1, fun b h1 _ => joinL_none fun x hx => ?_⟩
    exact (List.pairwise_cons.1 Qf.2).1 x hx b h1
  have hi2 : i < rs.length := oM
  have hnx : rs.take (i + 1) = rs.take i ++ [rs.getD i default] := take_succ_d default hi2
  have hdr : rs.drop i = rs.getD i default :: rs.drop (i + 1) := by
    rw [List.drop_eq_getElem_cons hi2]; simp [List.getD, List.getElem?_eq_getElem hi2]
  have hrnm := hrn _ (getD_mem default hi2)
  generalize hre : rs.getD i default = r at *
  rw [hdr, rulesF_cons] at hrf
  refine sw3 @Rr @hre @Rl.enc.eq_1 ?_
  refine i_call H170 ⟨r, rfl, hrnm, ?_⟩
  by_cases hf : ruleF r = 0
  · rw [hf, errV_zero]
    rw [if_neg (by simpa using hf)] at hrf
    have L1 := hkn.lkp (hmn.le (Q.lt 7 rfl)) r.name
    refine sw1 @L1 ?_
    refine i_cond (fun c6 => ?_) (fun c6 => ?_)
    · rw [if_pos c6] at hrf
      rw [hrf] at hK1
      refine sw1 @errV_succ ?_
      exact hK1 oM H (Q.lt 0 rfl)
    · rw [if_neg c6] at hrf
      refine sw0 ?_
      refine i_mupd (kb := .str) (ek := encKS) (ev := encBv) hmn (Q.lt 7 rfl) r.name true fun o bs' ck' hmb' st8 _ => ?_
      have Q8 := Q.step 7 rfl st8
      refine sw1 @hi1 ?_
      refine k_loop (i + 1) oM sE ⟨oM, by rw [hnx, List.map_append]; exact hrf, _, _, bs', ck', Q8, hmb', ?_⟩
      have := hkn.add r.name
      rw [if_neg c6] at this
      rw [hnx, List.map_append]; exact this
  · rw [if_pos (by simpa using hf)] at hrf
    rw [hrf] at hK1
    rw [errV_pos N hf]
    have hK1' := hK1 hf
    rw [errV_pos N hf] at hK1'
    refine sw0 ?_
    exact hK1' H (Q.lt 0 rfl)
end Go.Cw
namespace Go.Cw
open Go
def Wa.whr (w : Wa) (s : List UInt8) (e : Int) : Int × Nat := Cw.whr (w.c 2).toNat (w.c 3).toNat w.E s e
noncomputable def Wa.par (w : Wa) (s : List UInt8) (e : Int) : List UInt8 × Nat := if (w.whr s e).2 ≠ 0 then ([], (w.whr s e).2) else (parE (w.c 2).toNat (w.c 3).toNat w.E (w.c 4).toNat (w.c 5).toNat s e.toNat, 0)
def Wa.bytes (w : Wa) : Nat := w.dr 0 + (w.ln 0).2 + (w.ln 1).2 + (w.ln 2).2 + (w.ln 3).2
def Wa.bytesTo (w : Wa) : Nat → Nat
  | 0 => w.dr 0
  | i + 1 => w.bytesTo i + (w.ln i).2
def S274 (N : Num) : Spec := fun args h K => ∃ g p w s e, args = [.pointer (some ⟨p, 0, none⟩), .string (str s), .int .i64 e] ∧ WO g p w ∧ Heap.le g h ∧ K (.tuple #[.int .i64 (w.whr s e).1, errV N (w.whr s e).2]) h
def S275 : Spec := fun args h K => ∃ g p w, args = [.pointer (some ⟨p, 0, none⟩)] ∧ WO g p w ∧ Heap.le g h ∧ K (.int .i64 (w.now : Nat)) h
def S276 : Spec := fun args h K => ∃ g p w, args = [.pointer (some ⟨p, 0, none⟩)] ∧ WO g p w ∧ Heap.le g h ∧ K (.int .i64 (w.E.length : Nat)) h
def aggDr (a b c d e : Nat) : Value := .agg #[.int .i64 (a : Nat), .int .i64 (b : Nat), .int .i64 (c : Nat), .int .i64 (d : Nat), .int .i64 (e : Nat)]
def S280 : Spec := fun args h K => ∃ g p w fed, args = [.pointer (some ⟨p, 0, none⟩)] ∧ WO g p w ∧ Heap.le g h ∧ w.Ok fed ∧ fed ≤ 100000 ∧ K (aggDr w.bytes (w.dr 1) (w.dr 2) (w.dr 3) (w.dr 4)) h
def S283 : Spec := fun args h K => ∃ g p w, args = [.pointer (some ⟨p, 0, none⟩)] ∧ WO g p w ∧ Heap.le g h ∧ w.al.length ≤ 200000 ∧ ∀ v h', Heap.le h h' → Sl encAl (fr h h') v w.al → K v h'
def S286 (N : Num) : Spec := fun args h K => ∃ g p w s e, args = [.pointer (some ⟨p, 0, none⟩), .string (str s), .int .i64 e] ∧ WO g p w ∧ Heap.le g h ∧ K (.tuple #[.string (str (w.par s e).1), errV N (w.par s e).2]) h
theorem WO.read {g h : Heap} {p : Nat} {w : Wa} (hw : WO g p w) (hg : Heap.le g h) : ∃ F rv av pd pt px mk kv gw gr gd gt gx gk ga, Ps h [gw, gr, gd, gt, gx, gk, ga] ∧ WP p w F rv av pd pt px mk kv gw gr gd gt gx gk ga := by
  obtain ⟨F, rv, av, pd, pt, px, mk, kv, gw, gr, gd, gt, gx, gk, ga, hps, hw⟩ := hw
  exact ⟨F, rv, av, pd, pt, px, mk, kv, gw, gr, gd, gt, gx, gk, ga, hps.up hg, hw⟩
theorem F275_ok {N : Num} {Γ : Ctx} [GoodC Γ] (H39 : Sat S39 (Γ 39)) : Sat S275 (SF N Γ F275) := by
  rintro _ h K ⟨g, p, w, rfl, hw, hg, hK⟩
  obtain ⟨F, rv, av, pd, pt, px, mk, kv, gw, gr, gd, gt, gx, gk, ga, Q, hw⟩ := hw.read hg
  refine i_fun rfl ?_
  simp only [F275, Ze, Nat.reduceSub, Nat.reduceAdd]
  have C35 := hw.c35 (Q.lt 0 rfl)
  refine sw1 @C35 ?_
  refine i_call H39 ⟨gd, pd, _, _, _, _, rfl, hw.dk, Q.lt 2 rfl, ?_⟩
  refine sw0 ?_
  exact hK
theorem F276_ok {N : Num} {Γ : Ctx} [GoodC Γ] (H31 : Sat S31 (Γ 31)) : Sat S276 (SF N Γ F276) := by
  rintro _ h K ⟨g, p, w, rfl, hw, hg, hK⟩
  obtain ⟨F, rv, av, pd, pt, px, mk, kv, gw, gr, gd, gt, gx, gk, ga, Q, hw⟩ := hw.read hg
  refine i_fun rfl ?_
  simp only [F276, Ze, Nat.reduceSub, Nat.reduceAdd]
  have C36 := hw.c36 (Q.lt 0 rfl)
  refine sw1 @C36 ?_
  refine i_call H31 ⟨gt, pt, _, _, _, rfl, hw.tr, Q.lt 3 rfl, ?_⟩
  refine sw0 ?_
  exact hK
theorem F274_ok {N : Num} {Γ : Ctx} [GoodC Γ] (H30 : Sat (S30 N) (Γ 30)) : Sat (S274 N) (SF N Γ F274) := by
  rintro _ h K ⟨g, p, w, s, e, rfl, hw, hg, hK⟩
  obtain ⟨F, rv, av, pd, pt, px, mk, kv, gw, gr, gd, gt, gx, gk, ga, Q, hw⟩ := hw.read hg
  refine i_fun rfl ?_
  simp only [F274, Ze, Nat.reduceSub, Nat.reduceAdd]
  have C36 := hw.c36 (Q.lt 0 rfl)
  unfold Wa.whr Cw.whr at hK
  refine sw1 @C36 ?_
  refine i_call H30 ⟨gt, pt, _, _, _, s, e, rfl, hw.tr, Q.lt 3 rfl, fun hb => ?_, fun h0 h1 h2 => ?_, fun h0 h1 h2 => ?_⟩
  · rw [if_pos hb] at hK
    refine sw0 ?_
    exact hK
  · rw [if_neg oM, if_neg h2] at hK
    refine sw0 ?_
    exact hK
  · rw [if_neg oM, if_pos h2] at hK
    refine sw0 ?_
    exact hK
theorem F286_ok {N : Num} {Γ : Ctx} [GoodC Γ] (H30 : Sat (S30 N) (Γ 30)) (H49 : Sat (S49 N) (Γ 49)) : Sat (S286 N) (SF N Γ F286) := by
  rintro _ h K ⟨g, p, w, s, e, rfl, hw, hg, hK⟩
  obtain ⟨F, rv, av, pd, pt, px, mk, kv, gw, gr, gd, gt, gx, gk, ga, Q, hw⟩ := hw.read hg
  refine i_fun rfl ?_
  simp only [F286, Ze, Nat.reduceSub, Nat.reduceAdd]
  have C36 := hw.c36 (Q.lt 0 rfl)
  have C37 := hw.c37 (Q.lt 0 rfl)
  refine sw1 @C36 ?_
  refine i_call H30 ⟨gt, pt, _, _, _, s, e, rfl, hw.tr, Q.lt 3 rfl, fun hb => ?_, fun h0 h1 h2 => ?_, fun h0 h1 h2 => ?_⟩
  · have e1 : w.whr s e = (0, 1) := by unfold Wa.whr Cw.whr; rw [if_pos hb]
    unfold Wa.par at hK
    rw [e1] at hK
    refine sw1 @errV_succ ?_
    exact hK
  · have e1 : w.whr s e = (0, 5) := by unfold Wa.whr Cw.whr; rw [if_neg oM, if_neg h2]
    unfold Wa.par at hK
    rw [e1] at hK
    refine sw1 @errV_succ ?_
    exact hK
  · have e1 : (w.whr s e).2 = 0 := by unfold Wa.whr Cw.whr; rw [if_neg oM, if_pos h2]
    unfold Wa.par at hK
    rw [if_neg oM] at hK
    obtain ⟨k, rfl⟩ : ∃ k : Nat, e = k := ⟨e.toNat, oM⟩
    refine sw1 @C37 ?_
    refine i_call H49 ⟨gx, px, pt, _, _, _, _, _, _, s, k, rfl, hw.ix, Q.lt 4 rfl, fun hb => by omega, fun i hi hl => ?_⟩
    obtain rfl : k = i := oM
    refine sw0 ?_
    exact hK
theorem F283_ok {N : Num} {Γ : Ctx} [GoodC Γ] : Sat S283 (SF N Γ F283) := by
  rintro _ h K ⟨g, p, w, rfl, hw, hg, hal, hK⟩
  obtain ⟨F, rv, av, pd, pt, px, mk, kv, gw, gr, gd, gt, gx, gk, ga, Q, hw⟩ := hw.read hg
  refine i_fun rfl ?_
  simp only [F283, Ze, Nat.reduceSub, Nat.reduceAdd]
  have C44 := hw.c44 (Q.lt 0 rfl)
  refine sw1 @C44 ?_
  refine i_app encAl_len (fun _ => rfl) (OwnS.nil (Heap.le.refl h)) (SlB.sl encAl_len (hw.al.le (Q.lt 6 rfl))) (by simp only [List.length_nil]; omega) fun v1 h1 ho1 => ?_
  have O1 := ho1.one
  refine sw0 ?_
  exact hK v1 h1 ho1.1 (ho1.slf encAl_len)
theorem F280_ok {N : Num} {Γ : Ctx} [GoodC Γ] (H26 : Sat S26 (Γ 26)) : Sat S280 (SF N Γ F280) := by
  rintro _ h K ⟨g, p, w, fed, rfl, hwo, hg, hok, hfed, hK⟩
  obtain ⟨F, rv, av, pd, pt, px, mk, kv, gw, gr, gd, gt, gx, gk, ga, Q, hw⟩ := hwo.read hg
  refine i_fun rfl ?_
  simp only [F280, Ze, Nat.reduceSub, Nat.reduceAdd]
  have hrow : h.row ((⟨p, 0, none⟩ : Addr).add 39) 5 = some #[.int .i64 (w.dr 0 : Nat), .int .i64 (w.dr 1 : Nat), .int .i64 (w.dr 2 : Nat), .int .i64 (w.dr 3 : Nat), .int .i64 (w.dr 4 : Nat)] := by
    have := ((objF.le hw.ob (Q.lt 0 rfl)).row).row (i := 39) (n := 5) (by simp)
    rw [this, ← hw.wf.dr 0 oM, ← hw.wf.dr 1 oM, ← hw.wf.dr 2 oM, ← hw.wf.dr 3 oM, ← hw.wf.dr 4 oM]
    rfl
  have hb1 : ∀ k, k < 4 → (w.ln k).2 ≤ 100000 := by
    intro k hk
    have := hok.sum
    rcases (by omega : k = 0 ∨ k = 1 ∨ k = 2 ∨ k = 3) with rfl | rfl | rfl | rfl <;> omega
  have hb2 : ∀ i, i ≤ 4 → w.bytesTo i ≤ 100000 * i := by
    intro i
    induction i with
    | zero => intro _; simp [Wa.bytesTo, hok.d0]
    | succ i ih => intro hi; have := ih oM; have := hb1 i oM; simp only [Wa.bytesTo]; omega
  refine sw1 @hrow ?_
  refine i_loop (fun i : Nat => [some (.pointer (some ⟨p, 0, none⟩)), some (.agg #[.int .i64 0, .int .i64 0, .int .i64 0, .int .i64 0, .int .i64 0]), some (aggDr (w.bytesTo i) (w.dr 1) (w.dr 2) (w.dr 3) (w.dr 4)), none, none, some (.int .i64 (i : Nat)), none, none, none])
    (fun i H => i ≤ 4 ∧ H = h) (fun i => 4 - i) 0 (by unfold aggDr; try simp only [Pf]; exact ⟨rfl, rfl⟩) ⟨oM, rfl⟩ ?_
  rintro i H ⟨hi, rfl⟩
  have hi1 : IntKind.i64.wrap ((i : Int) + 1) = ((i + 1 : Nat) : Int) := by rw [w64 oM oM]; omega
  refine sw1 @aggDr.eq_1 ?_
  refine i_cond (fun c1 => ?_) (fun c1 => ?_)
  rotate_left
  · have : i = 4 := oM
    subst this
    refine sw0 ?_
    exact hK
  have hi4 : i < 4 := oM
  have hla := hwo.lineAt hg hi4
  have hadr : ((⟨p, 0, none⟩ : Addr).add 23).add (i * 2) = ⟨p, 23 + 2 * i, none⟩ := by rw [add_add, addr_add' _ rfl, Nat.zero_add, Nat.mul_comm]
  have hs1 := hb1 i hi4
  have hs2 := hb2 i oM
  have wi : IntKind.i64.wrap ((w.bytesTo i : Int) + ((w.ln i).2 : Nat)) = ((w.bytesTo (i + 1) : Nat) : Int) := by rw [w64 oM oM]; simp only [Wa.bytesTo]; omega
  refine sw1 @hadr ?_
  refine i_call H26 ⟨_, _, _, rfl, hla, ?_⟩
  refine sw0 ?_
  refine i_le (le_one (Heap.le.refl H)) ?_
  refine sw2 @wi @hi1 ?_
  exact k_loop (i + 1) oM sE ⟨oM, rfl⟩
end Go.Cw
namespace Go.Cw
open Go
def lightA (L : List Ac) (most : Int) : Prop := (L.length : Int) ≤ most ∧ (∀ a ∈ L, ¬ ((400 < a.s.length ∧ a.s.length ≤ 2000) ∨ 3000 < a.s.length)) ∧ (L.map fun a => min a.s.length 500).sum < 6000
def S264 : Spec := fun args h K => ∃ v L, ∃ most : Int, args = [v, .int .i64 most] ∧ Sl Ac.enc h v L ∧ most ≤ 1000 ∧ ∀ b, (b = true → lightA L most) → K (.bool b) h
theorem F264_ok {N : Num} {Γ : Ctx} [GoodC Γ] : Sat S264 (SF N Γ F264) := by
  rintro _ h K ⟨v, L, most, rfl, hL, hmost, hK⟩
  have R := hL.rules 7 Ac.enc_len default
  refine i_fun rfl ?_
  simp only [F264, Ze, Nat.reduceSub, Nat.reduceAdd]
  refine sw1 @R ?_
  refine i_cond (fun c1 => ?_) (fun c1 => ?_)
  · refine sw0 ?_
    exact hK false (by simp)
  refine sw0 ?_
  refine i_loop (fun i : Nat => [some v, some (.int .i64 most), none, some (.int .i64 (((L.take i).map fun a => min a.s.length 500).sum : Nat)), some (.int .i64 (i : Nat)), none, none, none])
    (fun i H => i ≤ L.length ∧ H = h ∧ (∀ a ∈ L.take i, ¬ ((400 < a.s.length ∧ a.s.length ≤ 2000) ∨ 3000 < a.s.length)) ∧ ((L.take i).map fun a => min a.s.length 500).sum ≤ 500 * i) (fun i => L.length - i) 0 (by try simp only [Pf]; exact ⟨rfl, rfl⟩) ⟨oM, rfl, by simp, by simp⟩ ?_
  rintro i H ⟨hi, rfl, hsh, hsum⟩
  have hi1 : IntKind.i64.wrap ((i : Int) + 1) = ((i + 1 : Nat) : Int) := by rw [w64 oM oM]; omega
  refine sw1 @R ?_
  refine i_cond (fun c2 => ?_) (fun c2 => ?_)
  rotate_left
  · have : i = L.length := oM
    subst this
    rw [List.take_length] at hsh hsum ⊢
    refine sw0 ?_
    exact hK _ fun hb => ⟨oM, hsh, by have := of_decide_eq_true hb; omega⟩
  have hi2 : i < L.length := oM
  have hnx : L.take (i + 1) = L.take i ++ [L.getD i default] := take_succ_d default hi2
  have hsx : ((L.take (i + 1)).map fun a => min a.s.length 500).sum = ((L.take i).map fun a => min a.s.length 500).sum + min (L.getD i default).s.length 500 := by rw [hnx, List.map_append, List.sum_append]; simp
  generalize hae : L.getD i default = a at *
  refine sw3 @R @hae @Ac.enc.eq_1 ?_
  refine i_cond (fun c3 => ?_) (fun c3 => ?_)
  · refine sw0 ?_
    exact hK false (by simp)
  have hw1 : IntKind.i64.wrap ((((L.take i).map fun a => min a.s.length 500).sum : Nat) + min (a.s.length : Int) 500) = ((((L.take (i + 1)).map fun a => min a.s.length 500).sum : Nat) : Int) := by
    rw [hsx]
    rw [w64 oM oM]; omega
  refine sw5 @R @hae @Ac.enc.eq_1 @hw1 @hi1 ?_
  refine k_loop (i + 1) oM sE ⟨oM, rfl, fun x hx => ?_, by rw [hsx]; omega⟩
  rw [hnx] at hx
  rcases List.mem_append.1 hx with hx | hx
  · exact hsh x hx
  · rw [List.mem_singleton.1 hx]; omega
def lightR (rs : List Rl) : Prop := rs.length ≤ 9 ∧ ∀ r ∈ rs, r.name.length ≤ 50
instance (rs : List Rl) : Decidable (lightR rs) := by unfold lightR; infer_instance
def S265 : Spec := fun args h K => ∃ v rs, args = [v] ∧ Sl Rl.enc h v rs ∧ K (.bool (decide (lightR rs))) h
theorem F265_ok {N : Num} {Γ : Ctx} [GoodC Γ] : Sat S265 (SF N Γ F265) := by
  rintro _ h K ⟨v, rs, rfl, hL, hK⟩
  have R := hL.rules 6 Rl.enc_len default
  refine i_fun rfl ?_
  simp only [F265, Ze, Nat.reduceSub, Nat.reduceAdd]
  refine sw1 @R ?_
  refine i_cond (fun c1 => ?_) (fun c1 => ?_)
  · rw [decide_eq_false (fun e => by have := e.1; omega)] at hK
    refine sw0 ?_
    exact hK
  refine sw0 ?_
  refine i_loop (fun i : Nat => [some v, none, some (.int .i64 (i : Nat)), none, none, none])
    (fun i H => i ≤ rs.length ∧ H = h ∧ ∀ r ∈ rs.take i, r.name.length ≤ 50) (fun i => rs.length - i) 0 (by try simp only [Pf]; rfl) ⟨oM, rfl, by simp⟩ ?_
  rintro i H ⟨hi, rfl, hsh⟩
  have hi1 : IntKind.i64.wrap ((i : Int) + 1) = ((i + 1 : Nat) : Int) := by rw [w64 oM oM]; omega
  refine sw1 @R ?_
  refine i_cond (fun c2 => ?_) (fun c2 => ?_)
  rotate_left
  · have : i = rs.length := oM
    subst this
    rw [List.take_length] at hsh
    rw [decide_eq_true ⟨oM, hsh⟩] at hK
    refine sw0 ?_
    exact hK
  have hi2 : i < rs.length := oM
  have hnx : rs.take (i + 1) = rs.take i ++ [rs.getD i default] := take_succ_d default hi2
  have hmem := getD_mem default hi2
  generalize hae : rs.getD i default = a at *
  refine sw3 @R @hae @Rl.enc.eq_1 ?_
  refine i_cond (fun c3 => ?_) (fun c3 => ?_)
  · rw [decide_eq_false (fun e => by have := e.2 a hmem; omega)] at hK
    refine sw0 ?_
    exact hK
  refine sw1 @hi1 ?_
  refine k_loop (i + 1) oM sE ⟨oM, rfl, fun x hx => ?_⟩
  rw [hnx] at hx
  rcases List.mem_append.1 hx with hx | hx
  · exact hsh x hx
  · rw [List.mem_singleton.1 hx]; omega
end Go.Cw
namespace Go.Cw
open Go
def S267 : Spec := fun args h K => ∃ c rv rs, args = [aggC c, rv] ∧ Sl Rl.enc h rv rs ∧ ∀ h', Heap.le h h' → K (.int .i64 (watchF c rs : Nat)) h'
def newC (c : Nat → Int) : Nat → Value := fun k => .int .i64 (c k)
theorem F267_ok {N : Num} {Γ : Ctx} [GoodC Γ] (H168 : Sat S168 (Γ 168)) : Sat S267 (SF N Γ F267) := by
  rintro _ h K ⟨c, rv, rs, rfl, hrs, hK⟩
  refine i_fun rfl ?_
  simp only [F267, Ze, Nat.reduceSub, Nat.reduceAdd, aggC]
  refine sw0 ?_
  refine i_newO fun p h1 hle1 hp hob => ?_
  have hob1 : objF h1 p 22 (newC c) := hob.le (fr_le _ _)
  have hC : ∀ k, k < 22 → h1.cell ((⟨p, 0, none⟩ : Addr).add k) = some (.int .i64 (c k)) := fun k hk => hob1.cell hk
  have hC0 := hC 0 oM
  have hC1 := hC 1 oM
  have hC2 := hC 2 oM
  have hC3 := hC 3 oM
  have hC4 := hC 4 oM
  have hC5 := hC 5 oM
  have hK := hK h1 hle1
  unfold watchF at hK
  refine sw6 @hC0 @hC1 @hC2 @hC3 @hC4 @hC5 ?_
  refine i_cond (fun c1 => ?_) (fun c1 => ?_)
  · rw [if_pos (show cfgBad c by unfold cfgBad; omega)] at hK
    refine sw0 ?_
    exact hK
  rw [if_neg (show ¬ cfgBad c by unfold cfgBad; omega)] at hK
  refine sw0 ?_
  refine i_loop (fun i : Nat => [none, some rv, some (.pointer (some ⟨p, 0, none⟩)), none, some (.int .i64 (i : Nat)), none, none, none, none, none, none, none, none, none, none, none, none])
    (fun i H => i ≤ 16 ∧ H = h1 ∧ ∀ k, k < i → ¬ (c (6 + k) < -1 ∨ 7 < c (6 + k))) (fun i => 16 - i) 0 (by try simp only [Pf]; rfl) ⟨oM, rfl, fun k hk => by omega⟩ ?_
  rintro i H ⟨hi, rfl, hwb⟩
  have hi1 : IntKind.i64.wrap ((i : Int) + 1) = ((i + 1 : Nat) : Int) := by rw [w64 oM oM]; omega
  refine sw0 ?_
  refine i_cond (fun c2 => ?_) (fun c2 => ?_)
  · have hq : Int.tdiv (i : Int) 4 = ((i / 4 : Nat) : Int) := rfl
    have hr : Int.tmod (i : Int) 4 = ((i % 4 : Nat) : Int) := rfl
    have hwq : IntKind.i64.wrap ((i / 4 : Nat) : Int) = ((i / 4 : Nat) : Int) := w64 oM oM
    have hwr : IntKind.i64.wrap ((i % 4 : Nat) : Int) = ((i % 4 : Nat) : Int) := w64 oM oM
    have hCi : H.cell (((((⟨p, 0, none⟩ : Addr).add 6).add (i / 4 * 4))).add (i % 4)) = some (.int .i64 (c (6 + i))) := by
      rw [add_add, add_add, show 6 + i / 4 * 4 + i % 4 = 6 + i by omega]
      exact hC (6 + i) oM
    refine sw5 @hq @hr @hwq @hwr @hCi ?_
    refine i_cond (fun c3 => ?_) (fun c3 => ?_)
    · have : whBad c = true := by
        unfold whBad
        rw [List.any_eq_true]
        exact ⟨i, List.mem_range.2 oM, by rw [decide_eq_true_eq]; omega⟩
      rw [if_pos this] at hK
      refine sw0 ?_
      exact hK
    · refine sw1 @hi1 ?_
      refine k_loop (i + 1) oM sE ⟨oM, rfl, fun k hk => ?_⟩
      by_cases e : k < i
      · exact hwb k e
      · have : k = i := oM
        subst this; omega
  have hi4 : i = 16 := oM
  subst hi4
  have hwf : whBad c = false := by
    unfold whBad
    rw [List.any_eq_false]
    intro k hk
    have := hwb k (by have := List.mem_range.1 hk; omega)
    simpa using this
  rw [if_neg (by rw [hwf]; simp)] at hK
  have Rr := (hrs.le hle1).rules 6 Rl.enc_len default
  refine sw1 @Rr ?_
  refine i_cond (fun c4 => ?_) (fun c4 => ?_)
  · rw [if_pos oM] at hK
    refine sw0 ?_
    exact hK
  rw [if_neg oM] at hK
  refine sw0 ?_
  refine i_loop (fun i : Nat => [none, some rv, none, none, none, some (.int .i64 (i : Nat)), none, none, none, none, none, none, none, none, none, none, none])
    (fun i H' => i ≤ rs.length ∧ H' = H ∧ rulesF [] rs = rulesF ((rs.take i).map (·.name)) (rs.drop i)) (fun i => rs.length - i) 0 (by try simp only [Pf]; rfl) ⟨oM, rfl, rfl⟩ ?_
  rintro i H' ⟨hi, rfl, hrf⟩
  have hi1 : IntKind.i64.wrap ((i : Int) + 1) = ((i + 1 : Nat) : Int) := by rw [w64 oM oM]; omega
  refine sw1 @Rr ?_
  refine i_cond (fun c5 => ?_) (fun c5 => ?_)
  rotate_left
  · have : i = rs.length := oM
    subst this
    rw [List.drop_length] at hrf
    rw [hrf] at hK
    refine sw0 ?_
    exact hK
  have hi2 : i < rs.length := oM
  have hnx : rs.take (i + 1) = rs.take i ++ [rs.getD i default] := take_succ_d default hi2
  have hdr : rs.drop i = rs.getD i default :: rs.drop (i + 1) := by
    rw [List.drop_eq_getElem_cons hi2]; simp [List.getD, List.getElem?_eq_getElem hi2]
  generalize hre : rs.getD i default = r at *
  rw [hdr, rulesF_cons] at hrf
  refine sw3 @Rr @hre @Rl.enc.eq_1 ?_
  refine i_call H168 ⟨r, rfl, ?_⟩
  by_cases hf : ruleF r = 0
  rotate_left
  · rw [if_pos (by simpa using hf)] at hrf
    rw [hrf] at hK
    have h0 : (0 : Int) < (ruleF r : Nat) := oM
    refine sw1 @h0 ?_
    exact hK
  rw [if_neg (by simpa using hf)] at hrf
  rw [hf]
  refine sw0 ?_
  refine i_loop (fun k : Nat => [none, some rv, none, none, none, some (.int .i64 (i : Nat)), none, some (.int .i64 (k : Nat)), none, none, none, none, none, none, none, none, none])
    (fun k H2 => k ≤ i ∧ H2 = H' ∧ r.name ∉ (rs.take k).map (·.name)) (fun k => i - k) 0 (by try simp only [Pf]; rfl) ⟨oM, rfl, by simp⟩ ?_
  rintro k H2 ⟨hk, rfl, hkn⟩
  have hk1 : IntKind.i64.wrap ((k : Int) + 1) = ((k + 1 : Nat) : Int) := by rw [w64 oM oM]; omega
  refine sw0 ?_
  refine i_cond (fun c6 => ?_) (fun c6 => ?_)
  rotate_left
  · have : k = i := oM
    subst this
    rw [if_neg hkn] at hrf
    refine sw1 @hi1 ?_
    exact k_loop (k + 1) oM sE ⟨oM, rfl, by rw [hnx, List.map_append]; exact hrf⟩
  have hk2 : k < rs.length := oM
  have hnk : rs.take (k + 1) = rs.take k ++ [rs.getD k default] := take_succ_d default hk2
  have hks : (rs.getD k default).name ∈ (rs.take i).map (·.name) := by
    refine List.mem_map.2 ⟨_, ?_, rfl⟩
    rw [List.getD_eq_getElem?_getD, List.getElem?_eq_getElem hk2]
    exact List.mem_take_iff_getElem.2 ⟨k, oM, rfl⟩
  generalize hqe : rs.getD k default = q at *
  refine sw4 @Rr @hre @hqe @Rl.enc.eq_1 ?_
  refine i_cond (fun c7 => ?_) (fun c7 => ?_)
  · rw [if_pos (by rw [← c7]; exact hks)] at hrf
    rw [hrf] at hK
    refine sw0 ?_
    exact hK
  · refine sw1 @hk1 ?_
    refine k_loop (k + 1) oM sE ⟨oM, rfl, ?_⟩
    rw [hnk, List.map_append, List.mem_append, List.map_cons, List.map_nil, List.mem_singleton]
    rintro (e | e)
    · exact hkn e
    · exact c7 e.symm
theorem watchF_new {c : Nat → Int} {rs : List Rl} (h : watchF c rs = 0) : (newW c rs).Ok 0 := by
  unfold watchF at h
  split at h
  · cases h
  rename_i h1
  split at h
  · cases h
  rename_i h2
  split at h
  · cases h
  rename_i h3
  unfold cfgBad at h1
  have hrf : ∀ (l : List Rl) seen, rulesF seen l = 0 → ∀ r ∈ l, ruleF r = 0 := by
    intro l
    induction l with
    | nil => intro _ _ r hr; cases hr
    | cons a l ih =>
      intro seen h r hr
      rw [rulesF_cons] at h
      split at h
      · rename_i e; exact absurd h e
      · rename_i e
        split at h
        · cases h
        · rcases List.mem_cons.1 hr with rfl | hr
          · simpa using e
          · exact ih _ h r hr
  refine ⟨by simp only [newW]; omega, by simp only [newW]; omega, by simp only [newW]; omega, by simp only [newW]; omega, by simp only [newW]; omega, by simp only [newW]; omega, fun k hk => ?_, by simp only [newW]; omega, hrf _ _ h, by simp [newW], by simp [newW], rfl, by simp [newW], List.Pairwise.nil, by simp [newW], by simp [newW, clos], by simp [newW], by simp [newW]⟩
  have : ¬ (c (6 + k) < -1 ∨ 7 < c (6 + k)) := by
    intro e
    apply h2
    unfold whBad
    rw [List.any_eq_true]
    exact ⟨k, List.mem_range.2 hk, by rw [decide_eq_true_eq]; exact e⟩
  simp only [newW]; omega
def S294 : Spec := fun args h K => ∃ c rv rs, args = [aggC c, rv] ∧ Sl Rl.enc h rv rs ∧
  (¬ (lightR rs ∧ watchF c rs = 0) → ∀ h', Heap.le h h' → K (.tuple #[.pointer none, .bool false]) h') ∧
  (lightR rs ∧ watchF c rs = 0 → ∀ p g' h', Step (fun _ => none) h g' h' → WO g' p (newW c rs) → K (.tuple #[.pointer (some ⟨p, 0, none⟩), .bool true]) h')
theorem F294_ok {N : Num} {Γ : Ctx} [GoodC Γ] (H265 : Sat S265 (Γ 265)) (H266 : Sat (S266 N) (Γ 266)) : Sat S294 (SF N Γ F294) := by
  rintro _ h K ⟨c, rv, rs, rfl, hrs, hK1, hK2⟩
  refine i_fun rfl ?_
  simp only [F294, Ze, Nat.reduceSub, Nat.reduceAdd]
  refine sw1 @aggC.eq_1 ?_
  refine i_call H265 ⟨rv, rs, rfl, hrs, ?_⟩
  by_cases hl : lightR rs
  rotate_left
  · rw [decide_eq_false hl]
    refine sw0 ?_
    exact hK1 (fun e => hl e.1) h (Heap.le.refl h)
  rw [decide_eq_true hl]
  refine sw0 ?_
  refine i_call H266 ⟨c, rv, rs, rfl, hrs, by have := hl.1; omega, fun r hr => by have := hl.2 r hr; omega, fun hf h1 hle1 => ?_, fun hf p g1 h1 st1 hW => ?_⟩
  · rw [errV_pos N hf]
    refine sw0 ?_
    exact hK1 (fun e => hf e.2) h1 hle1
  · refine sw0 ?_
    exact hK2 ⟨hl, hf⟩ p g1 h1 st1 hW
end Go.Cw
namespace Go.Cw
open Go
theorem al_eq (h : Heap) (a b : Al) (n : Bool) : o2V h (.eqv (.flat [.int, .int, .str]) n) (.v (.agg #[.int .i64 a.rule, .int .i64 a.epoch, .string (str a.tag)])) (.v (.agg #[.int .i64 b.rule, .int .i64 b.epoch, .string (str b.tag)])) = some (.v (.bool (if n then decide (a ≠ b) else decide (a = b)))) := by
  have key : cellsEq [.int, .int, .str] [.int .i64 a.rule, .int .i64 a.epoch, .string (str a.tag)] [.int .i64 b.rule, .int .i64 b.epoch, .string (str b.tag)] = some (decide (a = b)) := by
    simp only [cellsEq_int, cellsEq_str, cellsEq_nil]
    obtain ⟨a1, a2, a3⟩ := a
    obtain ⟨b1, b2, b3⟩ := b
    simp only [Al.mk.injEq]
    by_cases e1 : a1 = b1 <;> by_cases e2 : a2 = b2 <;> by_cases e3 : a3 = b3 <;> simp [e1, e2, e3]
  simp only [o2V, eqV]
  rw [key]
  cases n <;> simp
theorem five_same (h : Heap) (a b c d e : Int) : o2V h (.eqv (.flat [.int, .int, .int, .int, .int]) true) (.v (.agg #[.int .i64 a, .int .i64 b, .int .i64 c, .int .i64 d, .int .i64 e])) (.v (.agg #[.int .i64 a, .int .i64 b, .int .i64 c, .int .i64 d, .int .i64 e])) = some (.v (.bool false)) := by
  have key : cellsEq [.int, .int, .int, .int, .int] [.int .i64 a, .int .i64 b, .int .i64 c, .int .i64 d, .int .i64 e] [.int .i64 a, .int .i64 b, .int .i64 c, .int .i64 d, .int .i64 e] = some true := by
    simp only [cellsEq_int, cellsEq_nil, if_true]
  simp only [o2V, eqV]
  rw [key]; rfl
def S282 : Spec := fun args h K => ∃ v w l, args = [v, w] ∧ Sl encAl h v l ∧ Sl encAl h w l ∧ l.length ≤ 1000000 ∧ K (.bool true) h
theorem F282_ok {N : Num} {Γ : Ctx} [GoodC Γ] : Sat S282 (SF N Γ F282) := by
  rintro _ h K ⟨v, w, l, rfl, hv, hw, hl, hK⟩
  have RV := hv.rules 3 encAl_len default
  have RW := hw.rules 3 encAl_len default
  refine i_fun rfl ?_
  simp only [F282, Ze, Nat.reduceSub, Nat.reduceAdd]
  refine sw2 @RV @RW ?_
  refine i_loop (fun i : Nat => [some v, some w, none, some (.int .i64 (i : Nat)), none, none, none])
    (fun i H => i ≤ l.length ∧ H = h) (fun i => l.length - i) 0 (by try simp only [Pf]; rfl) ⟨oM, rfl⟩ ?_
  rintro i H ⟨hi, rfl⟩
  have hi1 : IntKind.i64.wrap ((i : Int) + 1) = ((i + 1 : Nat) : Int) := by rw [w64 oM oM]; omega
  refine sw1 @RV ?_
  refine i_cond (fun c1 => ?_) (fun c1 => ?_)
  rotate_left
  · refine sw0 ?_
    exact hK
  have hi2 : i < l.length := oM
  generalize hae : l.getD i default = a at *
  have hsm := al_eq H a a true
  simp only [ne_eq, not_true_eq_false, decide_false, if_true] at hsm
  refine sw6 @RV @RW @hae @encAl.eq_1 @hsm @hi1 ?_
  exact k_loop (i + 1) oM sE ⟨oM, rfl⟩
structure Wa.Like (a b : Wa) : Prop where
  c : a.c = b.c
  E : a.E = b.E
  now : a.now = b.now
  al : a.al = b.al
  by_ : a.bytes = b.bytes
  dr : ∀ k, 1 ≤ k → k < 5 → a.dr k = b.dr k
def S298 : Spec := fun args h K => ∃ ga gb pa pb wa wb fa fb v l, args = [.pointer (some ⟨pa, 0, none⟩), .pointer (some ⟨pb, 0, none⟩), v] ∧ WO ga pa wa ∧ WO gb pb wb ∧ Heap.le ga h ∧ Heap.le gb h ∧ Sl encT h v l ∧ l.length ≤ 1000 ∧ wa.Like wb ∧ wa.Ok fa ∧ wb.Ok fb ∧ fa ≤ 20000 ∧ fb ≤ 20000 ∧ ∀ h', Heap.le h h' → K (.bool true) h'
theorem F298_ok {N : Num} {Γ : Ctx} [GoodC Γ] (H274 : Sat (S274 N) (Γ 274)) (H275 : Sat S275 (Γ 275)) (H276 : Sat S276 (Γ 276)) (H280 : Sat S280 (Γ 280)) (H283 : Sat S283 (Γ 283)) (H282 : Sat S282 (Γ 282)) (H286 : Sat (S286 N) (Γ 286)) : Sat S298 (SF N Γ F298) := by
  rintro _ h K ⟨ga, gb, pa, pb, wa, wb, fa, fb, v, l, rfl, hwa, hwb, hga, hgb, hl, hll, hlk, hoka, hokb, hfa, hfb, hK⟩
  refine i_fun rfl ?_
  simp only [F298, Ze, Nat.reduceSub, Nat.reduceAdd]
  refine sw0 ?_
  refine i_call H276 ⟨ga, pa, wa, rfl, hwa, hga, ?_⟩
  refine sw0 ?_
  refine i_call H276 ⟨gb, pb, wb, rfl, hwb, hgb, ?_⟩
  rw [← hlk.E]
  refine sw0 ?_
  refine i_call H275 ⟨ga, pa, wa, rfl, hwa, hga, ?_⟩
  refine sw0 ?_
  refine i_call H275 ⟨gb, pb, wb, rfl, hwb, hgb, ?_⟩
  rw [← hlk.now]
  refine sw0 ?_
  refine i_call H280 ⟨ga, pa, wa, fa, rfl, hwa, hga, hoka, oM, ?_⟩
  refine sw0 ?_
  refine i_call H280 ⟨gb, pb, wb, fb, rfl, hwb, hgb, hokb, oM, ?_⟩
  rw [← hlk.by_, ← hlk.dr 1 oM oM, ← hlk.dr 2 oM oM, ← hlk.dr 3 oM oM, ← hlk.dr 4 oM oM]
  unfold aggDr
  have hfs := five_same h wa.bytes (wa.dr 1 : Nat) (wa.dr 2 : Nat) (wa.dr 3 : Nat) (wa.dr 4 : Nat)
  have hala : wa.al.length ≤ 200000 := by
    have h1 := hoka.al
    have h2 := hoka.El
    have h3 := clos_le1000 (size := (wa.c 0).toNat) (late := (wa.c 1).toNat) hoka.now
    omega
  refine sw1 @hfs ?_
  refine i_call H283 ⟨ga, pa, wa, rfl, hwa, hga, hala, fun v1 h1 hle1 hs1 => ?_⟩
  refine sw0 ?_
  refine i_call H283 ⟨gb, pb, wb, rfl, hwb, hgb.trans hle1, by rw [← hlk.al]; exact hala, fun v2 h2 hle2 hs2 => ?_⟩
  refine sw0 ?_
  rw [← hlk.al] at hs2
  refine i_call H282 ⟨v1, v2, wa.al, rfl, hs1.le ((fr_le _ _).trans hle2), hs2.le (fr_le _ _), oM, ?_⟩
  have hle12 := hle1.trans hle2
  have RL := (hl.le hle12).rules1 (fun t => .string (str t)) (fun _ => rfl) default
  refine sw2 @hfs @RL ?_
  have hEl : wa.E.length ≤ 1000 := by
    have h2 := hoka.El
    have h3 := clos_le1000 (size := (wa.c 0).toNat) (late := (wa.c 1).toNat) hoka.now
    omega
  have hwp : ∀ s e, wb.whr s e = wa.whr s e ∧ wb.par s e = wa.par s e := by
    intro s e
    have : wb.whr s e = wa.whr s e := by unfold Wa.whr; rw [hlk.c, hlk.E]
    refine ⟨this, ?_⟩
    unfold Wa.par; rw [this, hlk.c, hlk.E]
  refine i_loop (fun i : Nat => [some (.pointer (some ⟨pa, 0, none⟩)), some (.pointer (some ⟨pb, 0, none⟩)), some v, none, some (.int .i64 (i : Nat)), none, none, none, none, none, none, none, none, none, none, none, none, none, none, none, none, none, none, none, none, none, none, none, none, none, none, none, none, none, none, none])
    (fun i H => i ≤ l.length ∧ H = h2) (fun i => l.length - i) 0 (by try simp only [Pf]; rfl) ⟨oM, rfl⟩ ?_
  rintro i H ⟨hi, rfl⟩
  have hi1 : IntKind.i64.wrap ((i : Int) + 1) = ((i + 1 : Nat) : Int) := by rw [w64 oM oM]; omega
  refine sw1 @RL ?_
  refine i_cond (fun c1 => ?_) (fun c1 => ?_)
  rotate_left
  · refine sw0 ?_
    exact hK H hle12
  have hi2 : i < l.length := oM
  generalize hte : l.getD i default = t at *
  refine sw0 ?_
  refine i_loop (fun e : Nat => [some (.pointer (some ⟨pa, 0, none⟩)), some (.pointer (some ⟨pb, 0, none⟩)), some v, none, some (.int .i64 (i : Nat)), some (.int .i64 (e : Nat)), none, none, none, none, none, none, none, none, none, none, none, none, none, none, none, none, none, none, none, none, none, none, none, none, none, none, none, none, none, none])
    (fun e H2 => e ≤ wa.E.length ∧ H2 = H) (fun e => wa.E.length - e) 0 (by try simp only [Pf]; rfl) ⟨oM, rfl⟩ ?_
  rintro e H2 ⟨he, rfl⟩
  have he1 : IntKind.i64.wrap ((e : Int) + 1) = ((e + 1 : Nat) : Int) := by rw [w64 oM oM]; omega
  refine sw0 ?_
  refine i_call H276 ⟨ga, pa, wa, rfl, hwa, hga.trans hle12, ?_⟩
  refine sw0 ?_
  refine i_cond (fun c2 => ?_) (fun c2 => ?_)
  rotate_left
  · refine sw1 @hi1 ?_
    exact k_loop (i + 1) oM sE ⟨oM, rfl⟩
  have he2 : e < wa.E.length := oM
  refine sw2 @RL @hte ?_
  refine i_call H274 ⟨ga, pa, wa, t, e, rfl, hwa, hga.trans hle12, ?_⟩
  refine sw2 @RL @hte ?_
  refine i_call H274 ⟨gb, pb, wb, t, e, rfl, hwb, hgb.trans hle12, ?_⟩
  rw [(hwp t e).1]
  refine sw2 @RL @hte ?_
  refine i_call H286 ⟨ga, pa, wa, t, e, rfl, hwa, hga.trans hle12, ?_⟩
  refine sw2 @RL @hte ?_
  refine i_call H286 ⟨gb, pb, wb, t, e, rfl, hwb, hgb.trans hle12, ?_⟩
  rw [(hwp t e).2]
  have E1 := errV_eq N
  refine sw2 @E1 @he1 ?_
  exact k_loop (e + 1) oM sE ⟨oM, rfl⟩
end Go.Cw
namespace Go.Cw
open Go
def tickS : List UInt8 := [116, 105, 99, 107]
def Wa.act (w : Wa) (a : Ac) : Wa :=
  if a.kind ≠ tickS then (if feedF a.n a.s = 0 then w.feed a.n.toNat a.s else w)
  else if a.n < 0 ∨ 1000 - (w.now : Int) < a.n then w else w.tick a.n.toNat
def Wa.plays (w : Wa) (L : List Ac) : Wa := L.foldl Wa.act w
def acLen (a : Ac) : Nat := if feedF a.n a.s = 0 then a.s.length else 0
def acSum (L : List Ac) : Nat := (L.map acLen).sum
theorem feedF_r {n : Int} {s : List UInt8} (h : feedF n s = 0) : 0 ≤ n ∧ n ≤ 3 ∧ s.length ≤ 2000 := by
  unfold feedF at h
  split at h
  · cases h
  · split at h
    · cases h
    · omega
theorem Wa.Ok.act {w : Wa} {fed : Nat} {a : Ac} (h : w.Ok fed) (hf : fed + acLen a ≤ 20000) : (w.act a).Ok (fed + acLen a) := by
  unfold Wa.act
  split
  · split
    · rename_i e1 e2
      obtain ⟨r1, r2, r3⟩ := feedF_r e2
      have := h.feed (reader := a.n.toNat) (s := a.s) oM
      unfold acLen; rw [if_pos e2]; exact this
    · exact h.mono oM
  · split
    · exact h.mono oM
    · exact (h.tick oM oM).mono oM
theorem acSum_cons (a : Ac) (L : List Ac) : acSum (a :: L) = acLen a + acSum L := by simp [acSum]
theorem acSum_app (L M : List Ac) : acSum (L ++ M) = acSum L + acSum M := by simp [acSum]
theorem Wa.Ok.plays {L : List Ac} : ∀ {w : Wa} {fed : Nat}, w.Ok fed → fed + acSum L ≤ 20000 → (w.plays L).Ok (fed + acSum L) := by
  induction L with
  | nil => intro w fed h _; exact h
  | cons a L ih =>
    intro w fed h hf
    rw [acSum_cons] at hf ⊢
    have := ih (h.act (a := a) oM) oM
    rw [← Nat.add_assoc]; exact this
theorem lightA_sum {L : List Ac} {most : Int} (h : lightA L most) : acSum L < 6000 := by
  obtain ⟨_, h2, h3⟩ := h
  have : ∀ M : List Ac, (∀ a ∈ M, ¬ ((400 < a.s.length ∧ a.s.length ≤ 2000) ∨ 3000 < a.s.length)) → acSum M ≤ (M.map fun a => min a.s.length 500).sum := by
    intro M
    induction M with
    | nil => intro _; simp [acSum]
    | cons a M ih =>
      intro hM
      have h4 := ih fun x hx => hM x (List.mem_cons_of_mem _ hx)
      have h5 := hM a (by simp)
      rw [acSum_cons, List.map_cons, List.sum_cons]
      have : acLen a ≤ min a.s.length 500 := by
        unfold acLen
        split
        · rename_i e
          have := (feedF_r e).2.2
          omega
        · omega
      omega
  exact Nat.lt_of_le_of_lt (this L h2) h3
theorem acSum_take (L : List Ac) (i : Nat) : acSum (L.take i) ≤ acSum L := by
  conv => rhs; rw [← List.take_append_drop i L]
  rw [acSum_app]; omega
theorem Sl.mono {α : Type} {enc : α → List Value} {h h' : Heap} {v : Value} {l : List α} (a : Sl enc h v l) (hl : Heap.le h h') : Sl enc h' v l := a.le hl
def S295 : Spec := fun args h K => ∃ g f p w fed v L, args = [.pointer (some ⟨p, 0, none⟩), v] ∧ WO g p w ∧ Heap.le g h ∧ Sl Ac.enc f v L ∧ Heap.le f h ∧ disj f g ∧ w.Ok fed ∧ fed + acSum L ≤ 20000 ∧ L.length ≤ 1000 ∧
  (∀ h', Heap.le f h' → K (.bool false) h') ∧ (∀ g' h', Step g h g' h' → WO g' p (w.plays L) → K (.bool true) h')
theorem F295_ok {N : Num} {Γ : Ctx} [GoodC Γ] (H271 : Sat (S271 N) (Γ 271)) (H269 : Sat (S269 N) (Γ 269)) (H276 : Sat S276 (Γ 276)) : Sat S295 (SF N Γ F295) := by
  rintro _ h K ⟨g, f, p, w, fed, v, L, rfl, hw, hg, hL, hfh, hdis, hok, hfed, hll, hK1, hK2⟩
  have hfr : Heap.le f (rest g h) := rest_disj hfh hdis
  have Q0 : Ps h [rest g h, g] := by
    refine ⟨fun x hx => ?_, ?_⟩
    · simp only [List.mem_cons, List.not_mem_nil, or_false] at hx
      rcases hx with rfl | rfl
      · exact rest_le _ _
      · exact hg
    · refine List.pairwise_cons.2 ⟨fun x hx b hb => ?_, List.pairwise_singleton _ _⟩
      rw [List.mem_singleton.1 hx]
      exact Classical.byContradiction fun e => hb (rest_s e)
  refine i_fun rfl ?_
  simp only [F295, Ze, Nat.reduceSub, Nat.reduceAdd]
  refine sw0 ?_
  refine i_loop (fun i : Nat => [some (.pointer (some ⟨p, 0, none⟩)), some v, none, some (.int .i64 (i : Nat)), none, none, none, none, none, none, none, none, none, none])
    (fun i H => i ≤ L.length ∧ ∃ gW, Ps H [rest g h, gW] ∧ WO gW p (w.plays (L.take i))) (fun i => L.length - i) 0 (by try simp only [Pf]; rfl) ⟨oM, g, Q0, hw⟩ ?_
  clear hw Q0
  rintro i H ⟨hi, gW, Q, hW⟩
  have hi1 : IntKind.i64.wrap ((i : Int) + 1) = ((i + 1 : Nat) : Int) := by rw [w64 oM oM]; omega
  have R := (hL.le (hfr.trans (Q.lt 0 rfl))).rules 7 Ac.enc_len default
  refine sw1 @R ?_
  refine i_cond (fun c1 => ?_) (fun c1 => ?_)
  rotate_left
  · have : i = L.length := oM
    subst this
    rw [List.take_length] at hW
    refine sw0 ?_
    exact hK2 _ _ (Q.step1 hg) hW
  have hi2 : i < L.length := oM
  have hnx : L.take (i + 1) = L.take i ++ [L.getD i default] := take_succ_d default hi2
  have hoki := hok.plays (L := L.take i) (by have := acSum_take L i; omega)
  have hsum := acSum_take L (i + 1)
  rw [hnx, acSum_app] at hsum
  generalize hae : L.getD i default = a at *
  have hnw : w.plays (L.take (i + 1)) = (w.plays (L.take i)).act a := by rw [hnx]; unfold Wa.plays; rw [List.foldl_append]; rfl
  have hacl : acSum [a] = acLen a := by simp [acSum]
  rw [hacl] at hsum
  generalize w.plays (L.take i) = wi at *
  unfold Wa.act at hnw
  refine sw3 @R @hae @Ac.enc.eq_1 ?_
  refine i_cond (fun c2 => ?_) (fun c2 => ?_)
  · rw [if_pos (by simpa [tickS] using c2)] at hnw
    refine sw3 @R @hae @Ac.enc.eq_1 ?_
    by_cases hff : feedF a.n a.s = 0
    · rw [if_pos hff] at hnw
      have hla : acLen a = a.s.length := by unfold acLen; rw [if_pos hff]
      refine i_call H271 ⟨gW, p, wi, _, a.n, a.s, rfl, hW, Q.lt 1 rfl, hoki, fun _ => by omega, fun hn => absurd hff hn, fun _ g2 h2 st2 hW2 => ?_⟩
      have Q2 := Q.step 1 rfl st2
      refine sw1 @hi1 ?_
      exact k_loop (i + 1) oM sE ⟨oM, g2, Q2, by rw [hnw]; exact hW2⟩
    · rw [if_neg hff] at hnw
      refine i_call H271 ⟨gW, p, wi, _, a.n, a.s, rfl, hW, Q.lt 1 rfl, hoki, fun e => absurd e hff, fun hn => ?_, fun e => absurd e hff⟩
      refine sw1 @hi1 ?_
      exact k_loop (i + 1) oM sE ⟨oM, gW, Q, by rw [hnw]; exact hW⟩
  rw [if_neg (by simpa [tickS] using c2)] at hnw
  have hn0 := hoki.now
  refine sw3 @R @hae @Ac.enc.eq_1 ?_
  refine i_call H269 ⟨gW, p, wi, _, a.n, rfl, hW, Q.lt 1 rfl, hoki, oM, fun hb => ?_, fun m hm hmn g2 h2 st2 hW2 => ?_⟩
  · rw [if_pos hb] at hnw
    refine sw0 ?_
    refine i_call H276 ⟨gW, p, wi, rfl, hW, Q.lt 1 rfl, ?_⟩
    refine sw0 ?_
    refine i_cond (fun c3 => ?_) (fun c3 => ?_)
    · refine sw0 ?_
      exact hK1 H (hfr.trans (Q.lt 0 rfl))
    · refine sw1 @hi1 ?_
      exact k_loop (i + 1) oM sE ⟨oM, gW, Q, by rw [hnw]; exact hW⟩
  · rw [if_neg oM] at hnw
    have hmt : a.n.toNat = m := oM
    rw [hmt] at hnw
    have Q2 := Q.step 1 rfl st2
    refine sw0 ?_
    refine i_call H276 ⟨g2, p, _, rfl, hW2, Q2.lt 1 rfl, ?_⟩
    refine sw0 ?_
    refine i_cond (fun c3 => ?_) (fun c3 => ?_)
    · refine sw0 ?_
      exact hK1 h2 (hfr.trans (Q2.lt 0 rfl))
    · refine sw1 @hi1 ?_
      exact k_loop (i + 1) oM sE ⟨oM, g2, Q2, by rw [hnw]; exact hW2⟩
end Go.Cw
namespace Go.Cw
open Go
def actOk (a : Ac) : Prop := a.kind ≠ tickS ∧ feedF a.n a.s = 0
instance (a : Ac) : Decidable (actOk a) := by unfold actOk; infer_instance
def lnA (ln : Nat → List UInt8 × Nat) (a : Ac) : Nat → List UInt8 × Nat :=
  if actOk a then upN ln a.n.toNat ((feed ((ln a.n.toNat).1 ++ a.s)).2.1, (ln a.n.toNat).2 + (feed ((ln a.n.toNat).1 ++ a.s)).2.2) else ln
def tagsF (fs : List Fr) : List (List UInt8) := fs.flatMap fun f => f.reads.map (·.tag)
def rdA (ln : Nat → List UInt8 × Nat) (a : Ac) : List (List UInt8) := if actOk a then tagsF (feed ((ln a.n.toNat).1 ++ a.s)).1 else []
def readsA (ln : Nat → List UInt8 × Nat) : List Ac → List (List UInt8)
  | [] => []
  | a :: L => rdA ln a ++ readsA (lnA ln a) L
def lnsA (ln : Nat → List UInt8 × Nat) (L : List Ac) : Nat → List UInt8 × Nat := L.foldl lnA ln
theorem readsA_snoc : ∀ (L : List Ac) (ln : Nat → List UInt8 × Nat) (a : Ac), readsA ln (L ++ [a]) = readsA ln L ++ rdA (lnsA ln L) a := by
  intro L
  induction L with
  | nil => intro ln a; simp [readsA, lnsA]
  | cons b L ih => intro ln a; simp only [List.cons_append, readsA, ih, List.append_assoc]; rfl
def ln0 : Nat → List UInt8 × Nat := fun _ => ([], 0)
structure TP (l D : List (List UInt8)) : Prop where
  nd : l.Nodup
  le : l.length ≤ 40
  sub : ∀ t ∈ l, t ∈ D
  all : l.length < 40 → ∀ t ∈ D, t ∈ l
theorem TP.nil : TP [] [] := ⟨List.Pairwise.nil, by simp, fun t h => h, fun _ t h => h⟩
theorem TP.full {l D D' : List (List UInt8)} (h : TP l D) (hl : l.length = 40) : TP l (D ++ D') := ⟨h.nd, h.le, fun t ht => List.mem_append_left _ (h.sub t ht), fun e => by omega⟩
theorem TP.old {l D : List (List UInt8)} {t : List UInt8} (h : TP l D) (ht : t ∈ l) : TP l (D ++ [t]) := ⟨h.nd, h.le, fun x hx => List.mem_append_left _ (h.sub x hx), fun e x hx => by
  rcases List.mem_append.1 hx with hx | hx
  · exact h.all e x hx
  · rw [List.mem_singleton.1 hx]; exact ht⟩
theorem TP.new {l D : List (List UInt8)} {t : List UInt8} (h : TP l D) (ht : t ∉ l) (hl : l.length < 40) : TP (l ++ [t]) (D ++ [t]) := ⟨List.nodup_append.2 ⟨h.nd, by simp, fun x hx y hy e => by simp at hy; subst hy; subst e; exact ht hx⟩, by simp; omega, fun x hx => by
  rcases List.mem_append.1 hx with hx | hx
  · exact List.mem_append_left _ (h.sub x hx)
  · exact List.mem_append_right _ hx, fun _ x hx => by
  rcases List.mem_append.1 hx with hx | hx
  · exact List.mem_append_left _ (h.all hl x hx)
  · exact List.mem_append_right _ hx⟩
structure LF (F : Nat → Value) (ln : Nat → List UInt8 × Nat) : Prop where
  l1 : ∀ k, k < 4 → F (2 * k) = .string (str (ln k).1)
  l2 : ∀ k, k < 4 → F (2 * k + 1) = .int .i64 ((ln k).2 : Nat)
theorem LF.line {F : Nat → Value} {ln : Nat → List UInt8 × Nat} (h : LF F ln) (k : Nat) (hk : k < 4) (a : List UInt8) (n : Nat) : LF (upF (upF F (2 * k) (.string (str a))) (2 * k + 1) (.int .i64 (n : Nat))) (upN ln k (a, n)) where
  l1 := fun j hj => by
    rw [upF_ne oM]
    by_cases e : j = k
    · subst e; rw [upF_eq, upN_eq]
    · rw [upF_ne oM, upN_ne e]; exact h.l1 j hj
  l2 := fun j hj => by
    by_cases e : j = k
    · subst e; rw [upF_eq, upN_eq]
    · rw [upF_ne oM, upF_ne oM, upN_ne e]; exact h.l2 j hj
def lnTot (ln : Nat → List UInt8 × Nat) : Nat := ((ln 0).1.length + (ln 0).2) + ((ln 1).1.length + (ln 1).2) + ((ln 2).1.length + (ln 2).2) + ((ln 3).1.length + (ln 3).2)
theorem lnTot_one (ln : Nat → List UInt8 × Nat) {k : Nat} (hk : k < 4) : (ln k).1.length + (ln k).2 ≤ lnTot ln := by
  unfold lnTot
  rcases (by omega : k = 0 ∨ k = 1 ∨ k = 2 ∨ k = 3) with rfl | rfl | rfl | rfl <;> omega
theorem lnTot_act (ln : Nat → List UInt8 × Nat) (a : Ac) : lnTot (lnA ln a) ≤ lnTot ln + acLen a := by
  unfold lnA
  split
  · rename_i e
    obtain ⟨r1, r2, r3⟩ := feedF_r e.2
    have h1 := (feed_cnt _ ((ln a.n.toNat).1 ++ a.s) (Nat.le_refl _)).1
    rw [List.length_append] at h1
    have h2 : acLen a = a.s.length := by unfold acLen; rw [if_pos e.2]
    unfold lnTot
    rcases (by omega : a.n.toNat = 0 ∨ a.n.toNat = 1 ∨ a.n.toNat = 2 ∨ a.n.toNat = 3) with e | e | e | e <;> rw [e] at h1 ⊢ <;> simp only [upN] <;> simp <;> omega
  · omega
theorem lnTot_acts (L : List Ac) : ∀ ln, lnTot (lnsA ln L) ≤ lnTot ln + acSum L := by
  induction L with
  | nil => intro ln; simp [lnsA]
  | cons a L ih =>
    intro ln
    have h1 := ih (lnA ln a)
    have h2 := lnTot_act ln a
    rw [acSum_cons]
    have : lnsA ln (a :: L) = lnsA (lnA ln a) L := rfl
    rw [this]; omega
def S296 : Spec := fun args h K => ∃ v L, args = [v] ∧ Sl Ac.enc h v L ∧ L.length ≤ 1000 ∧ acSum L ≤ 10000 ∧ ∀ v' h' l, Heap.le h h' → Sl encT (fr h h') v' l → TP l (readsA ln0 L) → K v' h'
theorem F296_ok {N : Num} {Γ : Ctx} [GoodC Γ] (H24 : Sat S24 (Γ 24)) : Sat S296 (SF N Γ F296) := by
  rintro _ h K ⟨v, L, rfl, hL, hll, hsum, hK⟩
  refine i_fun rfl ?_
  simp only [F296, Ze, Nat.reduceSub, Nat.reduceAdd]
  refine sw0 ?_
  refine i_newO fun p h1 hle1 hp hob => ?_
  have hob1 : objF (fr h h1) p 8 (fun j => ([Value.string (str []), .int .i64 0, .string (str []), .int .i64 0, .string (str []), .int .i64 0, .string (str []), .int .i64 0] : List Value).getD j default) := hob
  have hlf : LF (fun j => ([Value.string (str []), .int .i64 0, .string (str []), .int .i64 0, .string (str []), .int .i64 0, .string (str []), .int .i64 0] : List Value).getD j default) ln0 := ⟨fun k hk => by rcases (by omega : k = 0 ∨ k = 1 ∨ k = 2 ∨ k = 3) with rfl | rfl | rfl | rfl <;> rfl, fun k hk => by rcases (by omega : k = 0 ∨ k = 1 ∨ k = 2 ∨ k = 3) with rfl | rfl | rfl | rfl <;> rfl⟩
  have Q1 : Ps h1 [h, fr h h1, fun _ => none] := ((Ps.one h).new hle1).add (fun b o hb => by cases hb) fun x hx b hb => rfl
  clear hob
  refine sw0 ?_
  refine i_loop (fun s : Nat × Value => [some v, none, some s.2, some (.pointer (some ⟨p, 0, none⟩)), some (.int .i64 (s.1 : Nat)), none, none, none, none, none, none, none, none, none, none, none, none, none, none, none])
    (fun s H => s.1 ≤ L.length ∧ ∃ F gL gO l, Ps H [h, gL, gO] ∧ objF gL p 8 F ∧ LF F (lnsA ln0 (L.take s.1)) ∧ SlB encT 1 gO s.2 l ∧ TP l (readsA ln0 (L.take s.1))) (fun s => L.length - s.1) (0, .slice none 0 0) (by try simp only [Pf]; rfl) ⟨by simp, _, _, _, [], Q1, hob1, hlf, SlB.nil, TP.nil⟩ ?_
  clear hlf hob1 Q1
  rintro ⟨i, v2⟩ H ⟨hi, F, gL, gO, l, Q, hob, hlf, hsl, htp⟩
  dsimp only at hi hlf hsl htp ⊢
  have hi1 : IntKind.i64.wrap ((i : Int) + 1) = ((i + 1 : Nat) : Int) := by rw [w64 oM oM]; omega
  have R := (hL.le (Q.lt 0 rfl)).rules 7 Ac.enc_len default
  refine sw1 @R ?_
  refine i_cond (fun c1 => ?_) (fun c1 => ?_)
  rotate_left
  · have : i = L.length := oM
    subst this
    rw [List.take_length] at htp
    refine sw0 ?_
    refine hK v2 H l (Q.lt 0 rfl) ?_ htp
    have h1 := SlB.sl (enc := encT) (sz := 1) (fun _ => rfl) hsl
    refine h1.le fun b o hb => ?_
    have h2 := Q.dj 2 0 rfl rfl oM b (by rw [hb]; simp)
    simp only [fr, h2]
    exact Q.lt 2 rfl b o hb
  have hi2 : i < L.length := oM
  have hnx : L.take (i + 1) = L.take i ++ [L.getD i default] := take_succ_d default hi2
  have hrs := readsA_snoc (L.take i) ln0 (L.getD i default)
  rw [← hnx] at hrs
  have hls : lnsA ln0 (L.take (i + 1)) = lnA (lnsA ln0 (L.take i)) (L.getD i default) := by rw [hnx]; unfold lnsA; rw [List.foldl_append]; rfl
  have htot := lnTot_acts (L.take i) ln0
  have hsi := acSum_take L i
  have ht0 : lnTot ln0 = 0 := rfl
  generalize hae : L.getD i default = a at *
  generalize lnsA ln0 (L.take i) = ln at *
  generalize readsA ln0 (L.take i) = D at *
  refine sw3 @R @hae @Ac.enc.eq_1 ?_
  refine i_cond (fun c2 => ?_) (fun c2 => ?_)
  · have hna : ¬ actOk a := by
      intro e
      have := feedF_r e.2
      have h2 := e.1
      unfold tickS at h2
      simp only [h2, false_or] at c2
      omega
    unfold rdA at hrs
    unfold lnA at hls
    rw [if_neg hna] at hrs hls
    rw [List.append_nil] at hrs
    refine sw1 @hi1 ?_
    exact k_loop (i + 1, v2) dM sE ⟨dM, F, gL, gO, l, Q, hob, by dsimp only; rw [hls]; exact hlf, hsl, by dsimp only; rw [hrs]; exact htp⟩
  have hya : actOk a := by
    refine ⟨fun e => c2 (.inl (.inl (.inl e))), ?_⟩
    unfold feedF
    rw [if_neg oM, if_neg oM]
  obtain ⟨ya1, ya2, ya3⟩ := feedF_r hya.2
  obtain ⟨r, hr⟩ : ∃ r : Nat, a.n = r := ⟨a.n.toNat, oM⟩
  have hr4 : r < 4 := oM
  unfold rdA at hrs
  unfold lnA at hls
  rw [if_pos hya] at hrs hls
  rw [hr, Int.toNat_natCast] at hrs hls
  have hlk := lnTot_one ln hr4
  have hla : LineAt H ⟨p, 2 * r, none⟩ (ln r).1 (ln r).2 := by
    have := (hob.le (Q.lt 1 rfl)).part2 (j := 2 * r) oM
    rw [hlf.l1 r hr4, hlf.l2 r hr4] at this
    exact this
  have hadr : (⟨p, 0, none⟩ : Addr).add (r * 2) = ⟨p, 2 * r, none⟩ := by rw [addr_add' _ rfl, Nat.zero_add, Nat.mul_comm]
  refine sw5 @R @hae @Ac.enc.eq_1 @hr @hadr ?_
  refine i_call H24 ⟨⟨p, 2 * r, none⟩, _, _, a.s, rfl, hla, oM, oM, fun vf h2 hkp hl2 hfv => ?_⟩
  obtain ⟨gL2, st2, hdm, hob2⟩ := hob.back2 (Q.lt 1 rfl) oM hkp hl2
  have hlf2 := hlf.line r hr4 (feed ((ln r).1 ++ a.s)).2.1 ((ln r).2 + (feed ((ln r).1 ++ a.s)).2.2)
  rw [← hls] at hlf2
  have hfl := (feed_cnt _ ((ln r).1 ++ a.s) (Nat.le_refl _)).2
  have hfsl := feed_len _ ((ln r).1 ++ a.s) (Nat.le_refl _)
  rw [List.length_append] at hfsl
  generalize (feed ((ln r).1 ++ a.s)).1 = fs at *
  have hZ1 : Heap.le (fr H h2) h2 := fr_le' hkp
  have Q2 : Ps h2 [h, gL2, gO, fr H h2] := by
    refine (Q.step 1 rfl st2).add hZ1 fun x hx b hb => ?_
    have hx' : x = h ∨ x = gL2 ∨ x = gO := by simpa [List.set] using hx
    have hhb : H b ≠ none := by
      rcases hx' with rfl | rfl | rfl
      · exact fun e => hb (le_none (Q.lt 0 rfl) b e)
      · exact fun e => hdm b hb (le_none (Q.lt 1 rfl) b e)
      · exact fun e => hb (le_none (Q.lt 2 rfl) b e)
    unfold fr
    cases e : H b with
    | none => exact absurd e hhb
    | some o => rfl
  obtain ⟨rs, hsf, hrl, hrk⟩ := hfv
  generalize fr H h2 = Z at *
  clear hob hlf Q st2 hdm hkp hl2 hla
  have hft : ∀ n, (fs.take n).length ≤ fs.length := fun n => by rw [List.length_take]; omega
  refine sw0 ?_
  refine i_loop (fun s : Nat × Value => [some v, none, some s.2, some (.pointer (some ⟨p, 0, none⟩)), some (.int .i64 (i : Nat)), some vf, some (.int .i64 (s.1 : Nat)), none, none, none, none, none, none, none, none, none, none, none, none, none])
    (fun s H => s.1 ≤ fs.length ∧ ∃ gO l, Ps H [h, gL2, gO, Z] ∧ SlB encT 1 gO s.2 l ∧ TP l (D ++ tagsF (fs.take s.1))) (fun s => fs.length - s.1) (0, v2) (by try simp only [Pf]; rfl) ⟨by simp, gO, l, Q2, hsl, by simpa [tagsF] using htp⟩ ?_
  clear Q2 hsl htp R
  rintro ⟨k, v3⟩ H3 ⟨hk, gO, l, Q, hsl, htp⟩
  dsimp only at hk hsl htp ⊢
  have hk1 : IntKind.i64.wrap ((k : Int) + 1) = ((k + 1 : Nat) : Int) := by rw [w64 oM oM]; omega
  have RF := (hsf.le (Q.lt 3 rfl)).rules 3 FrR.enc_len default
  rw [hrl] at RF
  refine sw1 @RF ?_
  refine i_cond (fun c3 => ?_) (fun c3 => ?_)
  rotate_left
  · have : k = fs.length := oM
    subst this
    rw [List.take_length] at htp
    refine sw1 @hi1 ?_
    exact k_loop (i + 1, v3) dM sE ⟨dM, _, gL2, gO, l, Q.take 3, hob2, hlf2, hsl, by dsimp only; rw [hrs]; exact htp⟩
  have hk2 : k < fs.length := oM
  obtain ⟨e1, e2, e3⟩ := hrk k hk2
  have hnf : fs.take (k + 1) = fs.take k ++ [fs.getD k default] := take_succ_d default hk2
  have hff := hfl _ (getD_mem default hk2)
  obtain ⟨t1, t2, t3, t4, t5, t6⟩ := fault_reads hff
  generalize hfe : fs.getD k default = f at *
  generalize hre : rs.getD k default = q at *
  have hro := e3.one
  have htk : tagsF (fs.take (k + 1)) = tagsF (fs.take k) ++ f.reads.map (·.tag) := by rw [hnf]; unfold tagsF; rw [List.flatMap_append]; simp
  refine sw0 ?_
  refine i_loop (fun s : Nat × Value => [some v, none, some s.2, some (.pointer (some ⟨p, 0, none⟩)), some (.int .i64 (i : Nat)), some vf, some (.int .i64 (k : Nat)), some (.int .i64 (s.1 : Nat)), none, none, none, none, none, none, none, none, none, none, none, none])
    (fun s H => s.1 ≤ f.reads.length ∧ ∃ gO l, Ps H [h, gL2, gO, Z] ∧ SlB encT 1 gO s.2 l ∧ TP l (D ++ tagsF (fs.take k) ++ (f.reads.take s.1).map (·.tag))) (fun s => f.reads.length - s.1) (0, v3) (by try simp only [Pf]; rfl) ⟨by simp, gO, l, Q, hsl, by simpa using htp⟩ ?_
  clear Q hsl htp RF
  rintro ⟨j, v4⟩ H4 ⟨hj, gO, l, Q, hsl, htp⟩
  dsimp only at hj hsl htp ⊢
  have hj1 : IntKind.i64.wrap ((j : Int) + 1) = ((j + 1 : Nat) : Int) := by rw [w64 oM oM]; omega
  have RF := (hsf.le (Q.lt 3 rfl)).rules 3 FrR.enc_len default
  rw [hrl] at RF
  have RR := (e3.le (Q.lt 3 rfl)).rules 4 (fun _ => rfl) default
  have RO := (SlB.sl (enc := encT) (sz := 1) (fun _ => rfl) (hsl.le (Q.lt 2 rfl))).rules1 (fun t => .string (str t)) (fun _ => rfl) default
  have hl40 := htp.le
  refine sw7 @RF @hre @FrR.enc.eq_1 hro.1 hro.2 @RR @RO ?_
  refine i_cond (fun c4 => ?_) (fun c4 => ?_)
  rotate_left
  · have htp2 : TP l (D ++ tagsF (fs.take (k + 1))) := by
      rw [htk, ← List.append_assoc]
      by_cases e : j < f.reads.length
      · have h40 : l.length = 40 := oM
        have := htp.full (D' := (f.reads.drop j).map (·.tag)) h40
        rwa [List.append_assoc, ← List.map_append, List.take_append_drop] at this
      · have : j = f.reads.length := oM
        subst this
        rwa [List.take_length] at htp
    refine sw1 @hk1 ?_
    exact k_loop (k + 1, v4) dM sE ⟨dM, gO, l, Q, hsl, htp2⟩
  have hj2 : j < f.reads.length := oM
  have hnr : f.reads.take (j + 1) = f.reads.take j ++ [f.reads.getD j default] := take_succ_d default hj2
  generalize hde : f.reads.getD j default = rd at *
  refine sw0 ?_
  refine i_loop (fun x : Nat => [some v, none, some v4, some (.pointer (some ⟨p, 0, none⟩)), some (.int .i64 (i : Nat)), some vf, some (.int .i64 (k : Nat)), some (.int .i64 (j : Nat)), some (.bool (decide (rd.tag ∉ l.take x))), some (.int .i64 (x : Nat)), none, none, none, none, none, none, none, none, none, none])
    (fun x H => x ≤ l.length ∧ H = H4) (fun x => l.length - x) 0 (by try simp only [Pf]; exact ⟨rfl, rfl⟩) ⟨by simp, rfl⟩ ?_
  rintro x H5 ⟨hx, rfl⟩
  have hx1 : IntKind.i64.wrap ((x : Int) + 1) = ((x + 1 : Nat) : Int) := by rw [w64 oM oM]; omega
  refine sw1 @RO ?_
  refine i_cond (fun c5 => ?_) (fun c5 => ?_)
  · have hx2 : x < l.length := oM
    have hnl : l.take (x + 1) = l.take x ++ [l.getD x default] := take_succ_d default hx2
    generalize hte : l.getD x default = t at *
    have hfx : (¬ rd.tag ∈ l.take x ∧ t ≠ rd.tag) = (¬ rd.tag ∈ l.take (x + 1)) := by
      rw [hnl]
      by_cases e : rd.tag ∈ l.take x
      · simp [e]
      · by_cases e2 : t = rd.tag
        · simp [e, e2]
        · have e3 : ¬ rd.tag = t := fun e => e2 e.symm
          simp [e, e2, e3]
    refine sw10 @RF @hre @FrR.enc.eq_1 @RR @hde @Rd.enc.eq_1 @RO @hte @hx1 @hfx ?_
    exact k_loop (x + 1) oM sE ⟨oM, rfl⟩
  have hxl : x = l.length := oM
  subst hxl
  rw [List.take_length]
  have hjt : (f.reads.take (j + 1)).map (·.tag) = (f.reads.take j).map (·.tag) ++ [rd.tag] := by rw [hnr, List.map_append]; rfl
  refine sw0 ?_
  refine i_cond (fun c6 => ?_) (fun c6 => ?_)
  rotate_left
  · refine sw1 @hj1 ?_
    exact k_loop (j + 1, v4) dM sE ⟨dM, gO, l, Q, hsl, by dsimp only; rw [hjt, ← List.append_assoc]; exact htp.old (Classical.not_not.1 c6)⟩
  have O4 := hsl.one
  refine sw6 @RF @hre @FrR.enc.eq_1 @RR @hde @Rd.enc.eq_1 ?_
  refine i_bslB encT 1 (fun _ => rfl) [rd.tag] rfl rfl (by simp [maxLen]) fun x1 b1 h6 hle6 hb1 hx1 hS3 => ?_
  have Q6 := Q.up hle6
  have O2 := hS3.one
  refine sw4 O2.1 O2.2 O4.1 O4.2 ?_
  refine i_appB (enc := encT) (sz := 1) (g := gO) (l := l) (l' := [rd.tag]) (fun _ => rfl) (by simp [encT, one]) hsl (Q6.lt 2 rfl) (SlB.sl (enc := encT) (fun _ => rfl) (hS3.le (fr_le _ _))) (by simp; omega) fun v7 h7 g7 hS7 St7 e1 e2 e3 => ?_
  have Q7 := Q6.step 2 rfl St7
  have O7 := hS7.one
  refine sw3 O7.1 O7.2 @hj1 ?_
  exact k_loop (j + 1, v7) dM sE ⟨dM, g7, _, Q7, hS7, by dsimp only; rw [hjt, ← List.append_assoc]; exact htp.new c6 oM⟩
end Go.Cw
namespace Go.Cw
open Go
end Go.Cw
namespace Go.Cw
open Go
theorem keeps.obj {a : Addr} {n : Nat} {h h' : Heap} (k : keeps a n h h') {b : Addr} {cs : List Value} (ho : objAt h b cs) (hn : b.block ≠ a.block) : objAt h' b cs := by
  obtain ⟨h1, c, t, h2, h3, h4⟩ := ho
  exact ⟨h1, c, t, k.1 _ _ hn h2, h3, h4⟩
end Go.Cw
namespace Go.Cw
open Go
end Go.Cw
namespace Go.Cw
open Go
theorem Wa.read_ln (w : Wa) (r : Nat) (d : Rd) (X : Nat → List UInt8 × Nat) : ({ w with ln := X } : Wa).read r d = { w.read r d with ln := X } := by
  unfold Wa.read
  dsimp only
  split
  · rfl
  split
  · rfl
  split
  · rfl
  split <;> rfl
theorem Wa.reads_ln (l : List Rd) : ∀ (w : Wa) (r : Nat) (X : Nat → List UInt8 × Nat), l.foldl (fun w d => w.read r d) { w with ln := X } = { l.foldl (fun w d => w.read r d) w with ln := X } := by
  induction l with
  | nil => intro w r X; rfl
  | cons d l ih => intro w r X; rw [List.foldl_cons, List.foldl_cons, Wa.read_ln, ih]
theorem Wa.frame_ln (w : Wa) (r : Nat) (f : Fr) (X : Nat → List UInt8 × Nat) : ({ w with ln := X } : Wa).frame r f = { w.frame r f with ln := X } := by
  unfold Wa.frame
  rw [Wa.reads_ln]
  dsimp only
  split <;> rfl
theorem Wa.frames_ln (l : List Fr) : ∀ (w : Wa) (r : Nat) (X : Nat → List UInt8 × Nat), l.foldl (fun w f => w.frame r f) { w with ln := X } = { l.foldl (fun w f => w.frame r f) w with ln := X } := by
  induction l with
  | nil => intro w r X; rfl
  | cons d l ih => intro w r X; rw [List.foldl_cons, List.foldl_cons, Wa.frame_ln, ih]
theorem Wa.feed_eq (w : Wa) (r : Nat) (s : List UInt8) : w.feed r s = { (Cw.feed ((w.ln r).1 ++ s)).1.foldl (fun w f => w.frame r f) w with ln := upN w.ln r ((Cw.feed ((w.ln r).1 ++ s)).2.1, (w.ln r).2 + (Cw.feed ((w.ln r).1 ++ s)).2.2) } := by
  unfold Wa.feed Wa.line
  rw [Wa.frames_ln]
end Go.Cw
namespace Go.Cw
open Go
theorem disj_new {g h h' g' : Heap} (st : Step (fun _ => none) h g' h') (hg : Heap.le g h) : disj g g' := by
  intro b hb
  exact st.fresh b (fun e => hb (le_none hg b e)) rfl
theorem Step.le0 {h g' h' : Heap} (st : Step (fun _ => none) h g' h') : Heap.le h h' := fun b o hb => st.frame b o hb rfl
end Go.Cw
namespace Go.Cw
open Go
def ruTy2 : Ty := .cons .str (.cons .int (.cons .int (.cons .int (.cons .int (.cons .int .nil)))))
theorem mat_rl {w : World} (cs : List Value) (h : Mat w ruTy2 cs) : ∃ x : Rl, True ∧ cs = x.enc := by
  obtain ⟨k, r0, e0, _, h⟩ := mat_str h
  obtain ⟨a, r1, e1, h⟩ := mat_int h
  obtain ⟨b, r2, e2, h⟩ := mat_int h
  obtain ⟨c, r3, e3, h⟩ := mat_int h
  obtain ⟨d, r4, e4, h⟩ := mat_int h
  obtain ⟨e, r5, e5, h⟩ := mat_int h
  cases h
  exact ⟨⟨k, a, b, c, d, e⟩, trivial, by rw [e0, e1, e2, e3, e4, e5]; rfl⟩
theorem mat_rls {w : World} {v : Value} (h : Mat w (.sl ruTy2) [v]) : ∃ L : List Rl, Sl Rl.enc (full w) v L := by
  obtain ⟨L, h1, _⟩ := mat_sl mat_rl h
  exact ⟨L, h1⟩
def row4 (t : Ty) : Ty := .cons t (.cons t (.cons t (.cons t .nil)))
def cfgTy : Ty := .cons .int (.cons .int (.cons .int (.cons .int (.cons .int (.cons .int (.cons (row4 (row4 .int)) .nil))))))
theorem mat_row {w : World} {cs : List Value} (h : Mat w (row4 .int) cs) : ∃ a b c d, cs = [.int .i64 a, .int .i64 b, .int .i64 c, .int .i64 d] := by
  obtain ⟨a, r1, e1, h⟩ := mat_int h
  obtain ⟨b, r2, e2, h⟩ := mat_int h
  obtain ⟨c, r3, e3, h⟩ := mat_int h
  obtain ⟨d, r4, e4, h⟩ := mat_int h
  cases h
  exact ⟨a, b, c, d, by rw [e1, e2, e3, e4]⟩
theorem mat_cfg {w : World} {cs : Array Value} (h : Mat w cfgTy cs.toList) : ∃ c : Nat → Int, .agg cs = aggC c := by
  obtain ⟨a0, r0, q0, h⟩ := mat_int h
  obtain ⟨a1, r1, q1, h⟩ := mat_int h
  obtain ⟨a2, r2, q2, h⟩ := mat_int h
  obtain ⟨a3, r3, q3, h⟩ := mat_int h
  obtain ⟨a4, r4, q4, h⟩ := mat_int h
  obtain ⟨a5, r5, q5, h⟩ := mat_int h
  obtain ⟨x, y, q6, h, hn⟩ := h
  cases hn
  obtain ⟨x0, y0, z0, h0, h⟩ := h
  obtain ⟨x1, y1, z1, h1, h⟩ := h
  obtain ⟨x2, y2, z2, h2, h⟩ := h
  obtain ⟨x3, y3, z3, h3, h⟩ := h
  cases h
  obtain ⟨b0, b1, b2, b3, w0⟩ := mat_row h0
  obtain ⟨c0, c1, c2, c3, w1⟩ := mat_row h1
  obtain ⟨d0, d1, d2, d3, w2⟩ := mat_row h2
  obtain ⟨g0, g1, g2, g3, w3⟩ := mat_row h3
  refine ⟨fun k => ([a0, a1, a2, a3, a4, a5, b0, b1, b2, b3, c0, c1, c2, c3, d0, d1, d2, d3, g0, g1, g2, g3] : List Int).getD k 0, ?_⟩
  have : cs = cs.toList.toArray := rfl
  rw [this, q0, q1, q2, q3, q4, q5, q6, z0, z1, z2, z3, w0, w1, w2, w3]
  rfl
end Go.Cw
namespace Go.Cw
open Go
structure K3 (h H gt gm gx F : Heap) : Prop where
  k : K2 h H gt gm F
  lx : Heap.le gx H
  dxt : disj gx gt
  dxm : disj gx gm
  dxF : disj gx F
section
variable {h H gt gm gx F H' g' : Heap}
theorem K3.more (k : K3 h H gt gm gx F) (hl : Heap.le H H') : K3 h H' gt gm gx F := ⟨k.k.more hl, k.lx.trans hl, k.dxt, k.dxm, k.dxF⟩
end
end Go.Cw
namespace Go.Cw
open Go Go.Sort Go.Proofs
theorem ofL_perm {l m : List Si} (h : l.Perm m) : ofL l = ofL m := by
  obtain ⟨h1, h2⟩ := ofL_ord l
  obtain ⟨h3, h4⟩ := ofL_ord m
  exact ordS_uniq h1 h3 (h2.trans (h.trans h4.symm))
theorem closE_perm {size late a b : Nat} {A B : List Si} (h : A.Perm B) : closE size late a b A = closE size late a b B := by
  unfold closE ofE
  congr 1; funext k; rw [ofL_perm (h.filter _)]
theorem Sl.sub {α : Type} {enc : α → List Value} {sz : Nat} (he : ∀ x, (enc x).length = sz) (d : α) {h : Heap} {v : Value} {A : List α} (hs : Sl enc h v A) {i j n : Nat} (hi : i < A.length) (hj : j + n ≤ sz) : h.row ((elt v (i * sz)).add j) n = some (((enc (A.getD i d)).drop j).take n).toArray := by
  have R := hs.rules sz he d
  have h5 := R.2.2.1 i hi
  obtain ⟨a, cap, rfl, _, hr⟩ := hs
  rcases hr with e | ⟨g, rfl, hrow⟩
  · rw [e] at hi; cases hi
  have hl : (A.flatMap enc).length = A.length * sz := flat_len he A
  have hm : (i + 1) * sz ≤ A.length * sz := Nat.mul_le_mul_right _ hi
  have hm2 : (i + 1) * sz = i * sz + sz := by rw [Nat.add_mul]; omega
  have e1 : elt (.slice (some g) A.length cap) (i * sz) = g.add (i * sz) := rfl
  rw [e1] at h5 ⊢
  rw [hrow.row (i := i * sz) (n := sz) oM] at h5
  have h6 : ((A.flatMap enc).drop (i * sz)).take sz = enc (A.getD i d) := by
    have := congrArg Array.toList (Option.some.inj h5); simpa using this
  have e2 : (g.add (i * sz)).add j = g.add (i * sz + j) := by
    rw [addr_add' g hrow.1, addr_add' _ rfl, addr_add' g hrow.1, Nat.add_assoc]
  rw [e2, hrow.row oM, ← h6, List.drop_take, List.drop_drop, List.take_take]
  congr 4
  omega
end Go.Cw
namespace Go.Cw
open Go
inductive Op where
  | ln (r : Nat) (v : List UInt8 × Nat)
  | wm (r : Nat) (n : Int)
  | rd (r : Nat) (d : Rd)
def Op.r : Op → Nat
  | .ln r _ => r
  | .wm r _ => r
  | .rd r _ => r
def Wa.plA (w : Wa) (r : Nat) (d : Rd) : Int := w.c (6 + (4 * r + d.ant.toNat))
def Wa.siA (w : Wa) (r : Nat) (d : Rd) : Si := ⟨w.plA r d, d.str, w.now - d.age, d.tag⟩
def Wa.cls (w : Wa) (r : Nat) (d : Rd) : Option Nat :=
  if tagOf d.tag = none then some 1 else if w.plA r d < 0 then some 2 else if adF (w.c 0).toNat (w.c 1).toNat w.now (w.siA r d) ≠ 0 then some 3 else none
def Wa.drp (w : Wa) (k : Nat) : Wa := { w with dr := upN w.dr k (w.dr k + 1) }
def Wa.acc (w : Wa) (s : Si) : Wa := { w with A := w.A ++ [s], kn := if s.tag ∈ w.kn then w.kn else w.kn ++ [s.tag] }
def Wa.readX (w : Wa) (r : Nat) (d : Rd) : Wa := match w.cls r d with
  | some k => w.drp k
  | none => w.acc (w.siA r d)
def Wa.op (w : Wa) : Op → Wa
  | .ln r v => { w with ln := upN w.ln r v }
  | .wm r n => { w with wm := upN w.wm r n }
  | .rd r d => w.readX r d
structure Wa.In (T : List (List UInt8)) (w : Wa) : Prop where
  nd : w.kn.Nodup
  sub : ∀ t ∈ w.kn, t ∈ T
theorem Wa.In.acc {T : List (List UInt8)} {w : Wa} (h : w.In T) {s : Si} (ht : s.tag ∈ T) : (w.acc s).In T := by
  refine ⟨?_, ?_⟩
  · unfold Wa.acc
    dsimp only
    split
    · exact h.nd
    · rename_i e
      exact List.nodup_append.2 ⟨h.nd, by simp, fun x hx y hy e2 => by simp at hy; subst hy; subst e2; exact e hx⟩
  · intro t
    unfold Wa.acc
    dsimp only
    split
    · exact h.sub t
    · intro hx
      rcases List.mem_append.1 hx with hx | hx
      · exact h.sub t hx
      · rw [List.mem_singleton.1 hx]; exact ht
theorem Wa.In.readX {T : List (List UInt8)} {w : Wa} (h : w.In T) {r : Nat} {d : Rd} (ht : d.tag ∈ T) : (w.readX r d).In T := by
  unfold Wa.readX
  split
  · exact ⟨h.nd, h.sub⟩
  · exact h.acc ht
theorem Wa.read_X {T : List (List UInt8)} {w : Wa} (h : w.In T) (hT : T.length ≤ 12) {r : Nat} {d : Rd} (ht : d.tag ∈ T) : w.read r d = w.readX r d := by
  have hn : ¬ (d.tag ∉ w.kn ∧ w.kn.length = 12) := by
    rintro ⟨e1, e2⟩
    have := nodup_leT (l := w.kn ++ [d.tag]) (m := T) (List.nodup_append.2 ⟨h.nd, by simp, fun x hx y hy e2 => by simp at hy; subst hy; subst e2; exact e1 hx⟩) (fun x hx => by
      rcases List.mem_append.1 hx with hx | hx
      · exact h.sub x hx
      · rw [List.mem_singleton.1 hx]; exact ht)
    rw [List.length_append] at this
    simp at this; omega
  unfold Wa.read Wa.readX Wa.cls Wa.siA Wa.plA
  dsimp only
  rw [if_neg hn]
  by_cases e1 : tagOf d.tag = none
  · rw [if_pos e1, if_pos e1]; rfl
  rw [if_neg e1, if_neg e1]
  by_cases e2 : w.c (6 + (4 * r + d.ant.toNat)) < 0
  · rw [if_pos e2, if_pos e2]; rfl
  rw [if_neg e2, if_neg e2]
  by_cases e3 : adF (w.c 0).toNat (w.c 1).toNat w.now ⟨w.c (6 + (4 * r + d.ant.toNat)), d.str, w.now - d.age, d.tag⟩ ≠ 0
  · rw [if_pos e3, if_pos e3]; rfl
  rw [if_neg e3, if_neg e3]; rfl
structure Wa.Sim (a b : Wa) : Prop where
  c : a.c = b.c
  rs : a.rs = b.rs
  ln : a.ln = b.ln
  wm : a.wm = b.wm
  dr : a.dr = b.dr
  now : a.now = b.now
  E : a.E = b.E
  al : a.al = b.al
  A : a.A.Perm b.A
  kn : a.kn.Perm b.kn
theorem Wa.Sim.refl (a : Wa) : a.Sim a := ⟨rfl, rfl, rfl, rfl, rfl, rfl, rfl, rfl, List.Perm.refl _, List.Perm.refl _⟩
theorem Wa.Sim.trans {a b c : Wa} (h : a.Sim b) (k : b.Sim c) : a.Sim c := ⟨h.c.trans k.c, h.rs.trans k.rs, h.ln.trans k.ln, h.wm.trans k.wm, h.dr.trans k.dr, h.now.trans k.now, h.E.trans k.E, h.al.trans k.al, h.A.trans k.A, h.kn.trans k.kn⟩
theorem Wa.Sim.cls {a b : Wa} (h : a.Sim b) (r : Nat) (d : Rd) : a.cls r d = b.cls r d ∧ a.siA r d = b.siA r d := by
  unfold Wa.cls Wa.siA Wa.plA
  rw [h.c, h.now]; exact ⟨rfl, rfl⟩
theorem Wa.Sim.acc {a b : Wa} (h : a.Sim b) (s : Si) : (a.acc s).Sim (b.acc s) := by
  refine ⟨h.c, h.rs, h.ln, h.wm, h.dr, h.now, h.E, h.al, h.A.append_right _, ?_⟩
  unfold Wa.acc
  dsimp only
  by_cases e : s.tag ∈ a.kn
  · rw [if_pos e, if_pos (h.kn.mem_iff.1 e)]; exact h.kn
  · rw [if_neg e, if_neg fun e2 => e (h.kn.mem_iff.2 e2)]; exact h.kn.append_right _
theorem Wa.Sim.op {a b : Wa} (h : a.Sim b) (o : Op) : (a.op o).Sim (b.op o) := by
  cases o with
  | ln r v => exact ⟨h.c, h.rs, by unfold Wa.op; dsimp only; rw [h.ln], h.wm, h.dr, h.now, h.E, h.al, h.A, h.kn⟩
  | wm r n => exact ⟨h.c, h.rs, h.ln, by unfold Wa.op; dsimp only; rw [h.wm], h.dr, h.now, h.E, h.al, h.A, h.kn⟩
  | rd r d =>
    obtain ⟨e1, e2⟩ := h.cls r d
    unfold Wa.op Wa.readX
    dsimp only
    rw [← e1, ← e2]
    split
    · rename_i k _
      exact ⟨h.c, h.rs, h.ln, h.wm, by unfold Wa.drp; dsimp only; rw [h.dr], h.now, h.E, h.al, h.A, h.kn⟩
    · exact h.acc _
theorem Wa.Sim.ops (L : List Op) : ∀ {a b : Wa}, a.Sim b → (L.foldl Wa.op a).Sim (L.foldl Wa.op b) := by
  induction L with
  | nil => intro a b h; exact h
  | cons o L ih => intro a b h; exact ih (h.op o)
theorem upN_comm {α : Type} (f : Nat → α) {i j : Nat} (h : i ≠ j) (x y : α) : upN (upN f i x) j y = upN (upN f j y) i x := by
  funext k; unfold upN
  by_cases e1 : k = j
  · rw [if_pos e1, if_neg oM, if_pos e1]
  · rw [if_neg e1]
    by_cases e2 : k = i
    · rw [if_pos e2, if_pos e2]
    · rw [if_neg e2, if_neg e2, if_neg e1]
theorem drp_comm (w : Wa) (i j : Nat) : (w.drp i).drp j = (w.drp j).drp i := by
  unfold Wa.drp
  dsimp only
  by_cases e : i = j
  · subst e; rfl
  · rw [upN_ne (fun e2 => e e2.symm), upN_ne e, upN_comm _ e]
theorem acc_comm (w : Wa) (s t : Si) : ((w.acc s).acc t).Sim ((w.acc t).acc s) := by
  refine ⟨rfl, rfl, rfl, rfl, rfl, rfl, rfl, rfl, ?_, ?_⟩
  · unfold Wa.acc
    dsimp only
    rw [List.append_assoc, List.append_assoc]
    exact (List.Perm.refl _).append (List.Perm.swap _ _ _)
  · unfold Wa.acc
    dsimp only
    by_cases e1 : s.tag ∈ w.kn <;> by_cases e2 : t.tag ∈ w.kn
    · simp [e1, e2]
    · simp [e1, e2]
    · simp [e1, e2]
    · by_cases e3 : s.tag = t.tag
      · simp [e1, e2, e3]
      · simp [e1, e2, e3, Ne.symm e3]
        exact (List.Perm.refl _).append (List.Perm.swap _ _ _)
theorem op_comm (w : Wa) {o p : Op} (h : o.r ≠ p.r) : ((w.op o).op p).Sim ((w.op p).op o) := by
  cases o with
  | ln r v =>
    cases p with
    | ln r' v' =>
      refine ⟨rfl, rfl, ?_, rfl, rfl, rfl, rfl, rfl, List.Perm.refl _, List.Perm.refl _⟩
      exact upN_comm _ h _ _
    | wm r' n' => exact Wa.Sim.refl _
    | rd r' d' =>
      have e : (w.op (.ln r v)).op (.rd r' d') = (w.op (.rd r' d')).op (.ln r v) := by
        show Wa.readX _ _ _ = _
        unfold Wa.readX Wa.op
        have : ({ w with ln := upN w.ln r v } : Wa).cls r' d' = w.cls r' d' := rfl
        rw [this]
        unfold Wa.readX
        dsimp only
        cases w.cls r' d' <;> rfl
      rw [e]; exact Wa.Sim.refl _
  | wm r n =>
    cases p with
    | ln r' v' => exact Wa.Sim.refl _
    | wm r' n' =>
      refine ⟨rfl, rfl, rfl, ?_, rfl, rfl, rfl, rfl, List.Perm.refl _, List.Perm.refl _⟩
      exact upN_comm _ h _ _
    | rd r' d' =>
      have e : (w.op (.wm r n)).op (.rd r' d') = (w.op (.rd r' d')).op (.wm r n) := by
        show Wa.readX _ _ _ = _
        unfold Wa.readX Wa.op
        have : ({ w with wm := upN w.wm r n } : Wa).cls r' d' = w.cls r' d' := rfl
        rw [this]
        unfold Wa.readX
        dsimp only
        cases w.cls r' d' <;> rfl
      rw [e]; exact Wa.Sim.refl _
  | rd r d =>
    cases p with
    | ln r' v' =>
      have e : (w.op (.ln r' v')).op (.rd r d) = (w.op (.rd r d)).op (.ln r' v') := by
        show Wa.readX _ _ _ = _
        unfold Wa.readX Wa.op
        have : ({ w with ln := upN w.ln r' v' } : Wa).cls r d = w.cls r d := rfl
        rw [this]
        unfold Wa.readX
        dsimp only
        cases w.cls r d <;> rfl
      rw [e]; exact Wa.Sim.refl _
    | wm r' n' =>
      have e : (w.op (.wm r' n')).op (.rd r d) = (w.op (.rd r d)).op (.wm r' n') := by
        show Wa.readX _ _ _ = _
        unfold Wa.readX Wa.op
        have : ({ w with wm := upN w.wm r' n' } : Wa).cls r d = w.cls r d := rfl
        rw [this]
        unfold Wa.readX
        dsimp only
        cases w.cls r d <;> rfl
      rw [e]; exact Wa.Sim.refl _
    | rd r' d' =>
      show ((w.readX r d).readX r' d').Sim ((w.readX r' d').readX r d)
      have k1 : (w.readX r d).cls r' d' = w.cls r' d' ∧ (w.readX r d).siA r' d' = w.siA r' d' := by
        unfold Wa.readX; split <;> exact ⟨rfl, rfl⟩
      have k2 : (w.readX r' d').cls r d = w.cls r d ∧ (w.readX r' d').siA r d = w.siA r d := by
        unfold Wa.readX; split <;> exact ⟨rfl, rfl⟩
      have m1 : (w.readX r d).readX r' d' = match w.cls r' d' with | some k => (w.readX r d).drp k | none => (w.readX r d).acc (w.siA r' d') := by
        rw [← k1.1, ← k1.2]; rfl
      have m2 : (w.readX r' d').readX r d = match w.cls r d with | some k => (w.readX r' d').drp k | none => (w.readX r' d').acc (w.siA r d) := by
        rw [← k2.1, ← k2.2]; rfl
      rw [m1, m2]
      unfold Wa.readX
      cases w.cls r d with
      | some k =>
        cases w.cls r' d' with
        | some k' => dsimp only; rw [drp_comm]; exact Wa.Sim.refl _
        | none => exact Wa.Sim.refl _
      | none =>
        cases w.cls r' d' with
        | some k' => exact Wa.Sim.refl _
        | none => exact acc_comm _ _ _
theorem ops_one (P : List Op) (q : Op) (hc : ∀ p ∈ P, p.r ≠ q.r) : ∀ w : Wa, ((P.foldl Wa.op w).op q).Sim (P.foldl Wa.op (w.op q)) := by
  induction P with
  | nil => intro w; exact Wa.Sim.refl _
  | cons p P ih =>
    intro w
    exact (ih (fun x hx => hc x (by simp [hx])) (w.op p)).trans ((op_comm w (hc p (by simp))).ops P)
theorem ops_comm (P : List Op) : ∀ (Q : List Op), (∀ p ∈ P, ∀ q ∈ Q, p.r ≠ q.r) → ∀ w : Wa, ((P ++ Q).foldl Wa.op w).Sim ((Q ++ P).foldl Wa.op w) := by
  intro Q
  induction Q with
  | nil => intro _ w; simp; exact Wa.Sim.refl _
  | cons q Q ih =>
    intro hc w
    rw [List.foldl_append]
    have h1 := (ops_one P q (fun p hp => hc p hp q (by simp)) w).ops Q
    have h2 := ih (fun p hp x hx => hc p hp x (by simp [hx])) (w.op q)
    rw [List.foldl_append] at h2
    exact h1.trans h2
theorem ops_split (r : Nat) (L : List Op) : ∀ w : Wa, (L.foldl Wa.op w).Sim ((L.filter (fun o => decide (o.r = r)) ++ L.filter (fun o => !decide (o.r = r))).foldl Wa.op w) := by
  induction L with
  | nil => intro w; exact Wa.Sim.refl _
  | cons o L ih =>
    intro w
    by_cases e : o.r = r
    · rw [List.filter_cons_of_pos (by simp [e]), List.filter_cons_of_neg (by simp [e])]
      exact ih (w.op o)
    · rw [List.filter_cons_of_neg (by simp [e]), List.filter_cons_of_pos (by simp [e])]
      have h1 := ih (w.op o)
      refine h1.trans ?_
      have h2 := ops_comm [o] (L.filter (fun o => decide (o.r = r))) (fun p hp q hq => by
        rw [List.mem_singleton.1 hp]
        have := List.mem_filter.1 hq
        have e2 : q.r = r := by simpa using this.2
        omega) w
      have h3 := h2.ops (L.filter (fun o => !decide (o.r = r)))
      rw [← List.foldl_append, ← List.foldl_append] at h3
      simpa using h3
def sortO (L : List Op) : List Op := L.filter (fun o => decide (o.r = 3)) ++ (L.filter (fun o => decide (o.r = 2)) ++ (L.filter (fun o => decide (o.r = 1)) ++ L.filter (fun o => decide (o.r = 0))))
theorem Wa.Sim.app {w : Wa} {P Q : List Op} (R : List Op) (h : ∀ w : Wa, (P.foldl Wa.op w).Sim (Q.foldl Wa.op w)) : ((R ++ P).foldl Wa.op w).Sim ((R ++ Q).foldl Wa.op w) := by
  rw [List.foldl_append, List.foldl_append]; exact h _
theorem ops_sort (L : List Op) (h4 : ∀ o ∈ L, o.r < 4) (w : Wa) : (L.foldl Wa.op w).Sim ((sortO L).foldl Wa.op w) := by
  unfold sortO
  refine (ops_split 3 L w).trans (Wa.Sim.app _ fun w => ?_)
  refine (ops_split 2 _ w).trans ?_
  have e2 : (L.filter (fun o => !decide (o.r = 3))).filter (fun o => decide (o.r = 2)) = L.filter (fun o => decide (o.r = 2)) := by
    rw [List.filter_filter]
    exact List.filter_congr fun o _ => by by_cases e : o.r = 2 <;> simp [e]
  rw [e2]
  refine Wa.Sim.app _ fun w => ?_
  refine (ops_split 1 _ w).trans ?_
  have e1 : ((L.filter (fun o => !decide (o.r = 3))).filter (fun o => !decide (o.r = 2))).filter (fun o => decide (o.r = 1)) = L.filter (fun o => decide (o.r = 1)) := by
    rw [List.filter_filter, List.filter_filter]
    exact List.filter_congr fun o _ => by by_cases e : o.r = 1 <;> simp [e]
  rw [e1]
  refine Wa.Sim.app _ fun w => ?_
  have e0 : ((L.filter (fun o => !decide (o.r = 3))).filter (fun o => !decide (o.r = 2))).filter (fun o => !decide (o.r = 1)) = L.filter (fun o => decide (o.r = 0)) := by
    rw [List.filter_filter, List.filter_filter]
    refine List.filter_congr fun o ho => ?_
    have := h4 o ho
    by_cases e : o.r = 0
    · simp [e]
    · have : o.r = 1 ∨ o.r = 2 ∨ o.r = 3 := oM
      rcases this with e | e | e <;> simp [e]
  rw [e0]; exact Wa.Sim.refl _
def frameOps (r : Nat) (f : Fr) : List Op := f.reads.map (.rd r) ++ (if f.ty = 3 then [.wm r f.warm] else [])
def feedOps (ln : Nat → List UInt8 × Nat) (r : Nat) (s : List UInt8) : List Op := .ln r ((feed ((ln r).1 ++ s)).2.1, (ln r).2 + (feed ((ln r).1 ++ s)).2.2) :: (feed ((ln r).1 ++ s)).1.flatMap (frameOps r)
def actOps (ln : Nat → List UInt8 × Nat) (a : Ac) : List Op := if actOk a then feedOps ln a.n.toNat a.s else []
def opsA (ln : Nat → List UInt8 × Nat) : List Ac → List Op
  | [] => []
  | a :: L => actOps ln a ++ opsA (lnA ln a) L
theorem frameOps_r {r : Nat} {f : Fr} {o : Op} (h : o ∈ frameOps r f) : o.r = r := by
  unfold frameOps at h
  rcases List.mem_append.1 h with h | h
  · obtain ⟨d, _, rfl⟩ := List.mem_map.1 h; rfl
  · split at h
    · rw [List.mem_singleton.1 h]; rfl
    · simp at h
theorem feedOps_r {ln : Nat → List UInt8 × Nat} {r : Nat} {s : List UInt8} {o : Op} (h : o ∈ feedOps ln r s) : o.r = r := by
  unfold feedOps at h
  rcases List.mem_cons.1 h with h | h
  · rw [h]; rfl
  · obtain ⟨f, _, hf⟩ := List.mem_flatMap.1 h
    exact frameOps_r hf
theorem actOps_r {ln : Nat → List UInt8 × Nat} {a : Ac} {o : Op} (h : o ∈ actOps ln a) : o.r = a.n.toNat ∧ 0 ≤ a.n ∧ a.n ≤ 3 := by
  unfold actOps at h
  split at h
  · rename_i e
    have := feedF_r e.2
    exact ⟨feedOps_r h, this.1, this.2.1⟩
  · simp at h
theorem opsA_r : ∀ {L : List Ac} {ln : Nat → List UInt8 × Nat} {o : Op}, o ∈ opsA ln L → o.r < 4 := by
  intro L
  induction L with
  | nil => intro ln o h; simp [opsA] at h
  | cons a L ih =>
    intro ln o h
    rcases List.mem_append.1 h with h | h
    · have := actOps_r h; omega
    · exact ih h
theorem actOps_tag {ln : Nat → List UInt8 × Nat} {a : Ac} {r : Nat} {d : Rd} (h : Op.rd r d ∈ actOps ln a) : d.tag ∈ rdA ln a := by
  unfold actOps at h
  unfold rdA
  split at h
  · rename_i e
    rw [if_pos e]
    unfold feedOps at h
    rcases List.mem_cons.1 h with h | h
    · cases h
    · obtain ⟨f, hf1, hf⟩ := List.mem_flatMap.1 h
      unfold frameOps at hf
      rcases List.mem_append.1 hf with hf | hf
      · obtain ⟨d', hd, e⟩ := List.mem_map.1 hf
        cases e
        exact List.mem_flatMap.2 ⟨f, hf1, List.mem_map.2 ⟨d, hd, rfl⟩⟩
      · split at hf
        · have := List.mem_singleton.1 hf; cases this
        · simp at hf
  · simp at h
theorem opsA_tag : ∀ {L : List Ac} {ln : Nat → List UInt8 × Nat} {r : Nat} {d : Rd}, Op.rd r d ∈ opsA ln L → d.tag ∈ readsA ln L := by
  intro L
  induction L with
  | nil => intro ln r d h; simp [opsA] at h
  | cons a L ih =>
    intro ln r d h
    unfold readsA
    rcases List.mem_append.1 h with h | h
    · exact List.mem_append_left _ (actOps_tag h)
    · exact List.mem_append_right _ (ih h)
theorem lnA_ne {ln : Nat → List UInt8 × Nat} {a : Ac} {r : Nat} (h : a.n ≠ r) : lnA ln a r = ln r := by
  unfold lnA
  split
  · rename_i e
    have := feedF_r e.2
    exact upN_ne oM
  · rfl
theorem opsA_dep {r : Nat} : ∀ {M : List Ac} {ln ln' : Nat → List UInt8 × Nat}, (∀ a ∈ M, a.n = r) → ln r = ln' r → opsA ln M = opsA ln' M := by
  intro M
  induction M with
  | nil => intro ln ln' _ _; rfl
  | cons a M ih =>
    intro ln ln' hM he
    have hr : a.n.toNat = r := by have := hM a (by simp); omega
    have e1 : actOps ln a = actOps ln' a := by unfold actOps feedOps; rw [hr, he]
    have e2 : lnA ln a r = lnA ln' a r := by unfold lnA; split <;> simp [hr, he, upN]
    unfold opsA
    rw [e1, ih (fun x hx => hM x (by simp [hx])) e2]
theorem opsA_filter (r : Nat) : ∀ (M : List Ac) (ln : Nat → List UInt8 × Nat), (opsA ln M).filter (fun o => decide (o.r = r)) = opsA ln (M.filter fun a => decide (a.n = r)) := by
  intro M
  induction M with
  | nil => intro ln; rfl
  | cons a M ih =>
    intro ln
    by_cases e : a.n = r
    · rw [List.filter_cons_of_pos (by simp [e])]
      unfold opsA
      rw [List.filter_append, ih, List.filter_eq_self.2 fun o ho => by have := actOps_r ho; simp; omega]
    · rw [List.filter_cons_of_neg (by simp [e])]
      conv => lhs; unfold opsA
      rw [List.filter_append, ih, List.filter_eq_nil_iff.2 fun o ho => by have := actOps_r ho; simp; omega, List.nil_append]
      exact opsA_dep (fun x hx => by simpa using (List.mem_filter.1 hx).2) (lnA_ne e)
theorem opsA_app : ∀ (M N : List Ac) (ln : Nat → List UInt8 × Nat), opsA ln (M ++ N) = opsA ln M ++ opsA (lnsA ln M) N := by
  intro M
  induction M with
  | nil => intro N ln; rfl
  | cons a M ih => intro N ln; show actOps ln a ++ opsA (lnA ln a) (M ++ N) = (actOps ln a ++ opsA (lnA ln a) M) ++ _; rw [ih, List.append_assoc]; rfl
theorem lnsA_ne {r : Nat} : ∀ {M : List Ac} {ln : Nat → List UInt8 × Nat}, (∀ a ∈ M, a.n ≠ r) → lnsA ln M r = ln r := by
  intro M
  induction M with
  | nil => intro ln _; rfl
  | cons a M ih => intro ln h; show lnsA (lnA ln a) M r = _; rw [ih fun x hx => h x (by simp [hx]), lnA_ne (h a (by simp))]
def partA (r : Nat) (M : List Ac) : List Ac := M.filter fun a => decide (a.n = r)
def sortA (M : List Ac) : List Ac := partA 3 M ++ (partA 2 M ++ (partA 1 M ++ partA 0 M))
theorem partA_n {r : Nat} {M : List Ac} {a : Ac} (h : a ∈ partA r M) : a ∈ M ∧ a.n = r := by
  have := List.mem_filter.1 h
  exact ⟨this.1, by simpa using this.2⟩
theorem opsA_sort (M : List Ac) (ln : Nat → List UInt8 × Nat) : opsA ln (sortA M) = sortO (opsA ln M) := by
  unfold sortA sortO
  rw [opsA_app, opsA_app, opsA_app, opsA_filter, opsA_filter, opsA_filter, opsA_filter]
  show opsA ln (partA 3 M) ++ _ = opsA ln (partA 3 M) ++ (opsA ln (partA 2 M) ++ (opsA ln (partA 1 M) ++ opsA ln (partA 0 M)))
  rw [opsA_dep (r := 2) (M := partA 2 M) (ln' := ln) (fun x hx => (partA_n hx).2) (lnsA_ne fun x hx => by have := (partA_n hx).2; omega)]
  rw [opsA_dep (r := 1) (M := partA 1 M) (ln' := ln) (fun x hx => (partA_n hx).2) (by
    rw [lnsA_ne fun x hx => by have := (partA_n hx).2; omega]
    exact lnsA_ne fun x hx => by have := (partA_n hx).2; omega)]
  rw [opsA_dep (r := 0) (M := partA 0 M) (ln' := ln) (fun x hx => (partA_n hx).2) (by
    rw [lnsA_ne fun x hx => by have := (partA_n hx).2; omega]
    rw [lnsA_ne fun x hx => by have := (partA_n hx).2; omega]
    exact lnsA_ne fun x hx => by have := (partA_n hx).2; omega)]
end Go.Cw
namespace Go.Cw
open Go
theorem reads_ops {T : List (List UInt8)} (hT : T.length ≤ 12) (r : Nat) (l : List Rd) : ∀ {w : Wa}, w.In T → (∀ d ∈ l, d.tag ∈ T) → l.foldl (fun w d => w.read r d) w = (l.map (Op.rd r)).foldl Wa.op w ∧ ((l.map (Op.rd r)).foldl Wa.op w).In T := by
  induction l with
  | nil => intro w h _; exact ⟨rfl, h⟩
  | cons d l ih =>
    intro w h ht
    have e := Wa.read_X h hT (r := r) (ht d (by simp))
    obtain ⟨h1, h2⟩ := ih (h.readX (r := r) (ht d (by simp))) (fun x hx => ht x (by simp [hx]))
    refine ⟨?_, h2⟩
    rw [List.foldl_cons, e]; exact h1
theorem frame_ops {T : List (List UInt8)} (hT : T.length ≤ 12) (r : Nat) (f : Fr) {w : Wa} (h : w.In T) (ht : ∀ d ∈ f.reads, d.tag ∈ T) : w.frame r f = (frameOps r f).foldl Wa.op w ∧ ((frameOps r f).foldl Wa.op w).In T := by
  obtain ⟨h1, h2⟩ := reads_ops hT r f.reads h ht
  unfold Wa.frame frameOps
  dsimp only
  rw [List.foldl_append, h1]
  by_cases e : f.ty = 3
  · rw [if_pos e, if_pos e]; exact ⟨rfl, h2.nd, h2.sub⟩
  · rw [if_neg e, if_neg e]; exact ⟨rfl, h2⟩
theorem frames_ops {T : List (List UInt8)} (hT : T.length ≤ 12) (r : Nat) (l : List Fr) : ∀ {w : Wa}, w.In T → (∀ f ∈ l, ∀ d ∈ f.reads, d.tag ∈ T) → l.foldl (fun w f => w.frame r f) w = (l.flatMap (frameOps r)).foldl Wa.op w ∧ ((l.flatMap (frameOps r)).foldl Wa.op w).In T := by
  induction l with
  | nil => intro w h _; exact ⟨rfl, h⟩
  | cons f l ih =>
    intro w h ht
    obtain ⟨h1, h2⟩ := frame_ops hT r f h (ht f (by simp))
    obtain ⟨h3, h4⟩ := ih h2 (fun x hx => ht x (by simp [hx]))
    rw [List.flatMap_cons, List.foldl_append, List.foldl_cons, h1]
    exact ⟨h3, h4⟩
theorem act_ops {T : List (List UInt8)} (hT : T.length ≤ 12) {a : Ac} (hk : a.kind ≠ tickS) {w : Wa} (h : w.In T) (ht : ∀ r d, Op.rd r d ∈ actOps w.ln a → d.tag ∈ T) : w.act a = (actOps w.ln a).foldl Wa.op w ∧ ((actOps w.ln a).foldl Wa.op w).In T ∧ (w.act a).ln = lnA w.ln a := by
  unfold Wa.act
  rw [if_pos hk]
  by_cases e : feedF a.n a.s = 0
  · have e2 : actOk a := ⟨hk, e⟩
    unfold actOps at ht ⊢
    rw [if_pos e2] at ht ⊢
    rw [if_pos e]
    have h0 : (w.op (.ln a.n.toNat ((feed ((w.ln a.n.toNat).1 ++ a.s)).2.1, (w.ln a.n.toNat).2 + (feed ((w.ln a.n.toNat).1 ++ a.s)).2.2))).In T := ⟨h.nd, h.sub⟩
    obtain ⟨h1, h2⟩ := frames_ops hT a.n.toNat (feed ((w.ln a.n.toNat).1 ++ a.s)).1 h0 (fun f hf d hd => ht a.n.toNat d (by
      unfold feedOps
      refine List.mem_cons_of_mem _ (List.mem_flatMap.2 ⟨f, hf, ?_⟩)
      unfold frameOps
      exact List.mem_append_left _ (List.mem_map.2 ⟨d, hd, rfl⟩)))
    refine ⟨h1, h2, ?_⟩
    rw [Wa.feed_eq]
    unfold lnA
    rw [if_pos e2]
  · have e2 : ¬ actOk a := fun x => e x.2
    unfold actOps lnA
    rw [if_neg e2, if_neg e, if_neg e2]
    exact ⟨rfl, h, rfl⟩
theorem acts_ops {T : List (List UInt8)} (hT : T.length ≤ 12) (M : List Ac) : ∀ {w : Wa}, (∀ a ∈ M, a.kind ≠ tickS) → w.In T → (∀ r d, Op.rd r d ∈ opsA w.ln M → d.tag ∈ T) → M.foldl Wa.act w = (opsA w.ln M).foldl Wa.op w ∧ (M.foldl Wa.act w).In T ∧ (M.foldl Wa.act w).ln = lnsA w.ln M := by
  induction M with
  | nil => intro w _ h _; exact ⟨rfl, h, rfl⟩
  | cons a M ih =>
    intro w hk h ht
    obtain ⟨h1, h2, h3⟩ := act_ops hT (hk a (by simp)) h (fun r d hd => ht r d (List.mem_append_left _ hd))
    have h4 : (w.act a).In T := by rw [h1]; exact h2
    obtain ⟨i1, i2, i3⟩ := ih (w := w.act a) (fun x hx => hk x (by simp [hx])) h4 (fun r d hd => ht r d (by
      unfold opsA
      rw [h3] at hd
      exact List.mem_append_right _ hd))
    rw [List.foldl_cons]
    refine ⟨?_, i2, by rw [i3, h3]; rfl⟩
    rw [i1, h3, h1, ← List.foldl_append]; rfl
def Wa.rev (w : Wa) (M : List Ac) : Wa := (sortA M).foldl Wa.act w
theorem rev_sim {T : List (List UInt8)} (hT : T.length ≤ 12) {M : List Ac} (hk : ∀ a ∈ M, a.kind ≠ tickS) {wa wb : Wa} (hs : wa.Sim wb) (ha : wa.In T) (ht : ∀ r d, Op.rd r d ∈ opsA wa.ln M → d.tag ∈ T) : (M.foldl Wa.act wa).Sim (wb.rev M) ∧ (M.foldl Wa.act wa).In T ∧ (M.foldl Wa.act wa).ln = lnsA wa.ln M := by
  obtain ⟨h1, h2, h3⟩ := acts_ops hT M hk ha ht
  have hb : wb.In T := ⟨hs.kn.nodup_iff.1 ha.nd, fun t h => ha.sub t (hs.kn.mem_iff.2 h)⟩
  have hk2 : ∀ a ∈ sortA M, a.kind ≠ tickS := by
    intro a hm
    unfold sortA at hm
    simp only [List.mem_append] at hm
    rcases hm with hm | hm | hm | hm <;> exact hk a (partA_n hm).1
  have hso : ∀ o, o ∈ sortO (opsA wa.ln M) → o ∈ opsA wa.ln M := by
    intro o ho
    unfold sortO at ho
    simp only [List.mem_append] at ho
    rcases ho with ho | ho | ho | ho <;> exact (List.mem_filter.1 ho).1
  obtain ⟨k1, k2, k3⟩ := acts_ops hT (sortA M) hk2 hb (fun r d hd => by
    rw [← hs.ln, opsA_sort] at hd
    exact ht r d (hso _ hd))
  refine ⟨?_, h2, h3⟩
  unfold Wa.rev
  rw [k1, ← hs.ln, opsA_sort, h1]
  exact (ops_sort _ (fun o ho => opsA_r ho) wa).trans (hs.ops _)
theorem Wa.Sim.tell {a b : Wa} (h : a.Sim b) (x : Nat × List Si) : (a.tell x).Sim (b.tell x) := by
  refine ⟨h.c, h.rs, h.ln, h.wm, h.dr, h.now, ?_, ?_, h.A, h.kn⟩
  · show a.E ++ _ = b.E ++ _; rw [h.E]
  · show a.al ++ _ = b.al ++ _
    rw [h.al]
    unfold Wa.look Wa.lookN Wa.lookR
    dsimp only
    rw [h.E, h.c, h.rs]
theorem Wa.Sim.tells (L : List (Nat × List Si)) : ∀ {a b : Wa}, a.Sim b → (L.foldl Wa.tell a).Sim (L.foldl Wa.tell b) := by
  induction L with
  | nil => intro a b h; exact h
  | cons o L ih => intro a b h; exact ih (h.tell o)
theorem Wa.Sim.tick {a b : Wa} (h : a.Sim b) (m : Nat) : (a.tick m).Sim (b.tick m) := by
  unfold Wa.tick
  have e : a.closed m = b.closed m := by unfold Wa.closed; rw [h.c, h.now]; exact closE_perm h.A
  rw [e]
  refine Wa.Sim.tells _ ⟨h.c, h.rs, h.ln, h.wm, h.dr, ?_, h.E, h.al, h.A, h.kn⟩
  show a.now + m = b.now + m
  rw [h.now]
theorem tells_keep (L : List (Nat × List Si)) : ∀ (w : Wa), (L.foldl Wa.tell w).kn = w.kn ∧ (L.foldl Wa.tell w).ln = w.ln := by
  induction L with
  | nil => intro w; exact ⟨rfl, rfl⟩
  | cons o L ih => intro w; obtain ⟨h1, h2⟩ := ih (w.tell o); exact ⟨h1, h2⟩
theorem act_tick {a : Ac} (hk : a.kind = tickS) {w w' : Wa} (h : w.Sim w') : (w.act a).Sim (w'.act a) ∧ (w.act a).kn = w.kn ∧ (w.act a).ln = w.ln := by
  unfold Wa.act
  have n0 : ¬ a.kind ≠ tickS := fun x => x hk
  rw [if_neg n0, if_neg n0, h.now]
  by_cases e : a.n < 0 ∨ 1000 - (w'.now : Int) < a.n
  · rw [if_pos e, if_pos e]; exact ⟨h, rfl, rfl⟩
  · rw [if_neg e, if_neg e]; exact ⟨h.tick _, tells_keep _ _⟩
def Wa.ordS (w : Wa) (M : List Ac) : List Ac → Wa
  | [] => w.rev M
  | a :: L => if a.kind ≠ tickS then w.ordS (M ++ [a]) L else ((w.rev M).act a).ordS [] L
theorem ordS_sim {T : List (List UInt8)} (hT : T.length ≤ 12) : ∀ (L M : List Ac) {wa wb : Wa}, (∀ a ∈ M, a.kind ≠ tickS) → wa.Sim wb → wa.In T → (∀ r d, Op.rd r d ∈ opsA wa.ln (M ++ L) → d.tag ∈ T) → ((M ++ L).foldl Wa.act wa).Sim (wb.ordS M L) := by
  intro L
  induction L with
  | nil =>
    intro M wa wb hk hs ha ht
    rw [List.append_nil] at ht ⊢
    exact (rev_sim hT hk hs ha ht).1
  | cons a L ih =>
    intro M wa wb hk hs ha ht
    unfold Wa.ordS
    by_cases e : a.kind ≠ tickS
    · rw [if_pos e]
      have e2 : M ++ a :: L = (M ++ [a]) ++ L := by simp
      rw [e2] at ht ⊢
      refine ih (M ++ [a]) (fun x hx => ?_) hs ha ht
      rcases List.mem_append.1 hx with hx | hx
      · exact hk x hx
      · rw [List.mem_singleton.1 hx]; exact e
    · rw [if_neg e]
      have e' : a.kind = tickS := Classical.not_not.1 e
      obtain ⟨h1, h2, h3⟩ := rev_sim hT hk hs ha (fun r d hd => ht r d (by rw [opsA_app]; exact List.mem_append_left _ hd))
      obtain ⟨k1, k2, k3⟩ := act_tick e' h1
      rw [List.foldl_append, List.foldl_cons]
      refine ih [] (by simp) k1 ⟨by rw [k2]; exact h2.nd, by rw [k2]; exact h2.sub⟩ (fun r d hd => ht r d ?_)
      rw [k3, h3, List.nil_append] at hd
      rw [opsA_app]
      refine List.mem_append_right _ ?_
      unfold opsA
      refine List.mem_append_right _ ?_
      have : lnA (lnsA wa.ln M) a = lnsA wa.ln M := by unfold lnA; rw [if_neg fun x => x.1 e']
      rw [this]; exact hd
theorem Wa.Sim.like {a b : Wa} (h : a.Sim b) : a.Like b := ⟨h.c, h.E, h.now, h.al, by unfold Wa.bytes; rw [h.dr, h.ln], fun k _ _ => by rw [h.dr]⟩
theorem order_like {l : List (List UInt8)} {c : Nat → Int} {rs : List Rl} {L : List Ac} (h : TP l (readsA ln0 L)) (hl : l.length ≤ 12) : ((newW c rs).plays L).Like ((newW c rs).ordS [] L) := by
  have := ordS_sim hl L [] (wa := newW c rs) (wb := newW c rs) (by simp) (Wa.Sim.refl _) ⟨List.Pairwise.nil, by simp [newW]⟩ (fun r d hd => h.all oM _ (opsA_tag hd))
  exact this.like
def restA (M : List Ac) : Nat → List Ac
  | 0 => []
  | q + 1 => partA q M ++ restA M q
theorem restA_4 (M : List Ac) : restA M 4 = sortA M := by simp [restA, sortA]
theorem partA_cons (r : Nat) (a : Ac) (M : List Ac) : partA r (a :: M) = if a.n = r then a :: partA r M else partA r M := by
  unfold partA
  by_cases e : a.n = r
  · rw [List.filter_cons_of_pos (by simp [e]), if_pos e]
  · rw [List.filter_cons_of_neg (by simp [e]), if_neg e]
theorem acSum_sort (M : List Ac) : acSum (sortA M) ≤ acSum M := by
  unfold sortA
  rw [acSum_app, acSum_app, acSum_app]
  induction M with
  | nil => simp [acSum, partA]
  | cons a M ih =>
    rw [partA_cons, partA_cons, partA_cons, partA_cons, acSum_cons]
    by_cases e3 : a.n = (3 : Nat)
    · rw [if_pos e3, if_neg oM, if_neg oM, if_neg oM, acSum_cons]; omega
    rw [if_neg e3]
    by_cases e2 : a.n = (2 : Nat)
    · rw [if_pos e2, if_neg oM, if_neg oM, acSum_cons]; omega
    rw [if_neg e2]
    by_cases e1 : a.n = (1 : Nat)
    · rw [if_pos e1, if_neg oM, acSum_cons]; omega
    rw [if_neg e1]
    by_cases e0 : a.n = (0 : Nat)
    · rw [if_pos e0, acSum_cons]; omega
    rw [if_neg e0]; omega
end Go.Cw
namespace Go.Cw
open Go
theorem take_drop_snoc {L : List Ac} {f i : Nat} (hf : f ≤ i) (hi : i < L.length) : (L.take (i + 1)).drop f = (L.take i).drop f ++ [L.getD i default] := by
  rw [take_succ_d default hi, List.drop_append_of_le_length (by rw [List.length_take]; omega)]
theorem drop_take_cons {L : List Ac} {k i : Nat} (hk : k < i) (hi : i ≤ L.length) : (L.take i).drop k = L.getD k default :: (L.take i).drop (k + 1) := by
  have h : k < (L.take i).length := by rw [List.length_take]; omega
  rw [List.drop_eq_getElem_cons h, List.getElem_take]
  congr 1
  rw [List.getD_eq_getElem?_getD, List.getElem?_eq_getElem oM]; rfl
theorem acSum_drop_le (L : List Ac) (f : Nat) : acSum (L.drop f) ≤ acSum L := by
  conv => rhs; rw [← List.take_append_drop f L]
  rw [acSum_app]; omega
theorem acSum_seg {L : List Ac} {f i : Nat} (hf : f ≤ i) : acSum (L.drop f) = acSum ((L.take i).drop f) + acSum (L.drop i) := by
  rw [← acSum_app]
  congr 1
  conv => lhs; rw [← List.take_append_drop i L]
  by_cases h : i ≤ L.length
  · rw [List.drop_append_of_le_length (by rw [List.length_take]; omega)]
  · have e : L.drop i = [] := List.drop_eq_nil_of_le oM
    rw [e, List.append_nil, List.append_nil]
theorem drop_consD {L : List Ac} {i : Nat} (h : i < L.length) : L.drop i = L.getD i default :: L.drop (i + 1) := by
  rw [List.drop_eq_getElem_cons h]; simp [List.getD, h]
def S293 : Spec := fun args h K => ∃ c rv rs v L, args = [aggC c, rv, v] ∧ Sl Rl.enc h rv rs ∧ Sl Ac.enc h v L ∧ ∀ h', Heap.le h h' → K (.bool true) h'
theorem F293_ok {N : Num} {Γ : Ctx} [GoodC Γ] (H264 : Sat S264 (Γ 264)) (H294 : Sat S294 (Γ 294)) (H267 : Sat S267 (Γ 267)) (H265 : Sat S265 (Γ 265)) (H296 : Sat S296 (Γ 296)) (H295 : Sat S295 (Γ 295)) (H271 : Sat (S271 N) (Γ 271)) (H269 : Sat (S269 N) (Γ 269)) (H298 : Sat S298 (Γ 298)) : Sat S293 (SF N Γ F293) := by
  rintro _ h K ⟨c, rv, rs, v, L, rfl, hrs, hL, hK⟩
  refine i_fun rfl ?_
  simp only [F293, Ze, Nat.reduceSub, Nat.reduceAdd]
  refine sw1 @aggC.eq_1 ?_
  refine i_call H264 ⟨v, L, 50, rfl, hL, oM, fun b hb => ?_⟩
  cases b with
  | false =>
    refine sw0 ?_
    exact hK h (Heap.le.refl h)
  | true =>
  have hla := hb rfl
  have hsum := lightA_sum hla
  have hll := hla.1
  refine sw0 ?_
  by_cases hcond : lightR rs ∧ watchF c rs = 0
  rotate_left
  · refine i_call H294 ⟨c, rv, rs, rfl, hrs, fun _ h1 hle1 => ?_, fun e => absurd e hcond⟩
    refine sw0 ?_
    refine i_call H294 ⟨c, rv, rs, rfl, hrs.le hle1, fun _ h2 hle2 => ?_, fun e => absurd e hcond⟩
    refine sw0 ?_
    refine i_call H267 ⟨c, rv, rs, rfl, hrs.le (hle1.trans hle2), fun h3 hle3 => ?_⟩
    have hle13 := (hle1.trans hle2).trans hle3
    by_cases hf : watchF c rs = 0
    · rw [hf]
      refine sw0 ?_
      refine i_call H265 ⟨rv, rs, rfl, hrs.le hle13, ?_⟩
      rw [decide_eq_false fun e => hcond ⟨e, hf⟩]
      refine sw0 ?_
      exact hK h3 hle13
    · have h0 : (0 : Int) < (watchF c rs : Nat) := oM
      refine sw1 @h0 ?_
      exact hK h3 hle13
  refine i_call H294 ⟨c, rv, rs, rfl, hrs, fun e => absurd hcond e, fun _ p1 g1 h1 st1 hW1 => ?_⟩
  refine sw0 ?_
  refine i_call H294 ⟨c, rv, rs, rfl, hrs.le st1.le0, fun e => absurd hcond e, fun _ p2 g2 h2 st2 hW2 => ?_⟩
  have hok0 := watchF_new hcond.2
  have Q2 : Ps h2 [h, g1, g2] := by
    have q : Ps h1 [h, g1] := (((Ps.one h).up st1.le0).add st1.le fun x hx => by rw [List.mem_singleton.1 hx]; exact disj_new st1 (Heap.le.refl h))
    exact (q.up st2.le0).add st2.le fun x hx => disj_new st2 (q.1 x hx)
  refine sw0 ?_
  refine i_call H296 ⟨v, L, rfl, hL.le (Q2.lt 0 rfl), oM, oM, fun v4 h4 l4 hle4 hs4 htp => ?_⟩
  have Q4 := Q2.new hle4
  refine sw0 ?_
  refine i_call H295 ⟨g1, h, p1, _, 0, v, L, rfl, hW1, Q4.lt 1 rfl, hL, Q4.lt 0 rfl, Q4.dj 0 1 rfl rfl oM, hok0, oM, oM, fun h3 hle3 => ?_, fun g3 h3 st3 hW3 => ?_⟩
  · refine sw0 ?_
    exact hK h3 hle3
  have Q3 := Q4.step 1 rfl st3
  have hokA := hok0.plays (L := L) oM
  have hs3 := hs4.le (Q3.lt 3 rfl)
  have Rt := hs3.rules1 (fun s => .string (str s)) (fun _ => rfl) []
  refine sw1 @Rt ?_
  refine i_cond (fun c1 => ?_) (fun c1 => ?_)
  · refine sw0 ?_
    exact hK h3 (Q3.lt 0 rfl)
  have hlk := order_like (c := c) (rs := rs) htp oM
  generalize htg : (newW c rs).ordS [] L = tg at hlk
  have hsumd := acSum_drop_le L 0
  rw [List.drop_zero] at hsumd
  refine sw0 ?_
  refine i_loop (fun s : Nat × Nat => [none, none, some v, none, none, some (.pointer (some ⟨p1, 0, none⟩)), none, some (.pointer (some ⟨p2, 0, none⟩)), none, some v4, none, some (.int .i64 (s.1 : Nat)), some (.int .i64 (s.2 : Nat)), none, none, none, none, none, none, none, none, none, none, none, none, none, none, none, none, none, none, none, none, none, none, none, none, none, none, none, none])
    (fun s H => s.2 ≤ L.length + 1 ∧ s.1 ≤ s.2 ∧ ∃ gb wb fed, Ps H [h, g3, gb, fr h2 h4] ∧ WO gb p2 wb ∧ wb.Ok fed ∧ fed + acSum (L.drop s.1) ≤ 10000 ∧
      ((s.2 ≤ L.length ∧ wb.ordS ((L.take s.2).drop s.1) (L.drop s.2) = tg ∧ ∀ a ∈ (L.take s.2).drop s.1, a.kind ≠ tickS) ∨ (s.2 = L.length + 1 ∧ wb = tg))) (fun s => L.length + 1 - s.2) (0, 0) (by try simp only [Pf]; first | rfl | exact ⟨rfl, rfl⟩) ⟨by simp, by simp, g2, _, 0, Q3, hW2, hok0, by rw [List.drop_zero]; omega, .inl ⟨by simp, by simpa using htg, by simp⟩⟩ ?_
  clear Q2 Q3 Q4 hW2 st3 st2 Rt
  rintro ⟨f, i⟩ H ⟨hi, hf, gb, wb, fed, Q, hW, hok, hfed, hor⟩
  dsimp only at hi hf hfed hor ⊢
  have hi1 : IntKind.i64.wrap ((i : Int) + 1) = ((i + 1 : Nat) : Int) := by rw [w64 oM oM]; omega
  have R := (hL.le (Q.lt 0 rfl)).rules 7 Ac.enc_len default
  refine sw1 @R ?_
  refine i_cond (fun c2 => ?_) (fun c2 => ?_)
  rotate_left
  · have hw : wb = tg := by
      rcases hor with ⟨e, _⟩ | ⟨_, e⟩
      · omega
      · exact e
    subst hw
    refine sw0 ?_
    refine i_call H298 ⟨g3, gb, p1, p2, _, _, _, _, v4, l4, rfl, hW3, hW, Q.lt 1 rfl, Q.lt 2 rfl, hs4.le (Q.lt 3 rfl), by have := htp.le; omega, hlk, hokA, hok, oM, oM, fun h5 hle5 => ?_⟩
    refine sw0 ?_
    exact hK h5 ((Q.lt 0 rfl).trans hle5)
  obtain ⟨hi2, htar, hnt⟩ : i ≤ L.length ∧ wb.ordS ((L.take i).drop f) (L.drop i) = tg ∧ ∀ a ∈ (L.take i).drop f, a.kind ≠ tickS := by
    rcases hor with e | ⟨e, _⟩
    · exact e
    · omega
  clear hor
  by_cases hm : i < L.length ∧ (L.getD i default).kind ≠ tickS
  · have hm1 : ((i : Int) < (L.length : Int)) = True := eq_true oM
    have hdc := drop_consD hm.1
    rw [hdc] at htar
    unfold Wa.ordS at htar
    rw [if_pos hm.2, ← take_drop_snoc hf hm.1] at htar
    have hnt2 : ∀ a ∈ (L.take (i + 1)).drop f, a.kind ≠ tickS := by
      rw [take_drop_snoc hf hm.1]
      intro a ha
      rcases List.mem_append.1 ha with ha | ha
      · exact hnt a ha
      · rw [List.mem_singleton.1 ha]; exact hm.2
    generalize hae : L.getD i default = a at *
    refine sw4 @R @hae @Ac.enc.eq_1 @hm1 ?_
    refine i_cond_t (by simpa [tickS] using hm.2) ?_
    refine sw1 @hi1 ?_
    exact k_loop (f, i + 1) dM sE ⟨dM, dM, gb, wb, fed, Q, hW, hok, hfed, .inl ⟨dM, htar, hnt2⟩⟩
  have hsg := acSum_seg (L := L) hf
  have hso := acSum_sort ((L.take i).drop f)
  generalize hM : (L.take i).drop f = M at *
  have hend : ∀ wr : Wa, wr = wb.rev M → (i < L.length → (L.getD i default).kind = tickS) → (if h : i < L.length then (wr.act (L.getD i default)).ordS [] (L.drop (i + 1)) else wr) = tg := by
    intro wr hwr hk
    subst hwr
    by_cases hlt : i < L.length
    · rw [dif_pos hlt]
      have hdc := drop_consD hlt
      rw [hdc] at htar
      unfold Wa.ordS at htar
      rw [if_neg fun x => x (hk hlt)] at htar
      exact htar
    · rw [dif_neg hlt]
      have : L.drop i = [] := List.drop_eq_nil_of_le oM
      rw [this] at htar
      exact htar
  have hkt : i < L.length → (L.getD i default).kind = tickS := fun e => Classical.not_not.1 fun e2 => hm ⟨e, e2⟩
  rcases Nat.lt_or_ge i L.length with hlt | hlt
  case' inl =>
    have hm1 : ((i : Int) < (L.length : Int)) = True := eq_true oM
    have hkt2 := hkt hlt
    refine sw3 @R @Ac.enc.eq_1 @hm1 ?_
    refine i_cond_f (by simpa [tickS] using hkt2) ?_
    try simp (disch := first | omega | (simp only [PL]; omega)) only [Zr, simprocAttr, -reduceIte]
  case' inr =>
    have hm1 : ((i : Int) < (L.length : Int)) = False := eq_false oM
    try simp (disch := first | omega | (simp only [PL]; omega)) only [Zr, simprocAttr, -reduceIte, R, hm1]
  all_goals
    refine i_loop (fun q : Nat => [none, none, some v, none, none, some (.pointer (some ⟨p1, 0, none⟩)), none, some (.pointer (some ⟨p2, 0, none⟩)), none, some v4, none, some (.int .i64 (f : Nat)), some (.int .i64 (i : Nat)), some (.int .i64 ((q : Int) - 1)), none, none, none, none, none, none, none, none, none, none, none, none, none, none, none, none, none, none, none, none, none, none, none, none, none, none, none])
      (fun q H => q ≤ 4 ∧ ∃ gb wr fd, Ps H [h, g3, gb, fr h2 h4] ∧ WO gb p2 wr ∧ wr.Ok fd ∧ fd + acSum (restA M q) + acSum (L.drop i) ≤ 10000 ∧ (restA M q).foldl Wa.act wr = wb.rev M) (fun q => q) 4 (by try simp only [Pf]; rfl) ⟨oM, gb, wb, fed, Q, hW, hok, by rw [restA_4]; omega, by rw [restA_4]; rfl⟩ ?_
    clear Q hW hok R
    rintro q H ⟨hq, gb, wr, fd, Q, hW, hok, hfd, hre⟩
    have R := (hL.le (Q.lt 0 rfl)).rules 7 Ac.enc_len default
    refine sw0 ?_
    refine i_cond (fun c3 => ?_) (fun c3 => ?_)
    rotate_left
    · have hq0 : q = 0 := oM
      subst hq0
      have hdrop := acSum_seg (L := L) (f := i) (i := i + 1) oM
      have he := hend wr hre hkt
      by_cases hlt2 : i < L.length
      · rw [dif_pos hlt2] at he
        have hm2 : ((i : Int) < (L.length : Int)) = True := eq_true oM
        have hn0 := hok.now
        have hkk := hkt hlt2
        unfold Wa.act at he
        rw [if_neg fun x => x hkk] at he
        refine sw3 @R @Ac.enc.eq_1 @hm2 ?_
        refine i_call H269 ⟨gb, p2, wr, _, (L.getD i default).n, rfl, hW, Q.lt 2 rfl, hok, oM, fun hb => ?_, fun m hm hmn g5 h5 st5 hW5 => ?_⟩
        · rw [if_pos hb] at he
          refine sw1 @hi1 ?_
          exact k_loop (i + 1, i + 1) dM sE ⟨dM, dM, gb, wr, fd, Q, hW, hok, dM, .inl ⟨dM, by rw [← he]; simp, by simp⟩⟩
        · rw [if_neg oM] at he
          have hmt : (L.getD i default).n.toNat = m := oM
          rw [hmt] at he
          have Q5 := Q.step 2 rfl st5
          refine sw1 @hi1 ?_
          exact k_loop (i + 1, i + 1) dM sE ⟨dM, dM, g5, _, fd, Q5, hW5, hok.tick oM hmn, dM, .inl ⟨dM, by rw [← he]; simp, by simp⟩⟩
      · rw [dif_neg hlt2] at he
        have hm2 : ((i : Int) < (L.length : Int)) = False := eq_false oM
        refine sw3 @R @hm2 @hi1 ?_
        exact k_loop (i + 1, i + 1) dM sE ⟨dM, dM, gb, wr, fd, Q, hW, hok, dM, .inr ⟨dM, he⟩⟩
    obtain ⟨r, rfl⟩ : ∃ r, q = r + 1 := ⟨q - 1, oM⟩
    have hr1 : IntKind.i64.wrap (((r + 1 : Nat) : Int) - 1 - 1) = (r : Int) - 1 := by rw [w64 oM oM]; omega
    unfold restA at hfd hre
    rw [acSum_app] at hfd
    refine sw0 ?_
    refine i_loop (fun k : Nat => [none, none, some v, none, none, some (.pointer (some ⟨p1, 0, none⟩)), none, some (.pointer (some ⟨p2, 0, none⟩)), none, some v4, none, some (.int .i64 (f : Nat)), some (.int .i64 (i : Nat)), some (.int .i64 (((r + 1 : Nat) : Int) - 1)), some (.int .i64 (k : Nat)), none, none, none, none, none, none, none, none, none, none, none, none, none, none, none, none, none, none, none, none, none, none, none, none, none, none])
      (fun k H => f ≤ k ∧ k ≤ i ∧ ∃ gb wr fd, Ps H [h, g3, gb, fr h2 h4] ∧ WO gb p2 wr ∧ wr.Ok fd ∧ fd + acSum (partA r ((L.take i).drop k)) + acSum (restA M r) + acSum (L.drop i) ≤ 10000 ∧ (partA r ((L.take i).drop k) ++ restA M r).foldl Wa.act wr = wb.rev M) (fun k => i - k) f sE ⟨oM, oM, gb, wr, fd, Q, hW, hok, by rw [hM]; omega, by rw [hM]; exact hre⟩ ?_
    clear Q hW hok R hre hfd
    rintro k H ⟨hk1, hk2, gb, wr, fd, Q, hW, hok, hfd, hre⟩
    have R := (hL.le (Q.lt 0 rfl)).rules 7 Ac.enc_len default
    have hk3 : IntKind.i64.wrap ((k : Int) + 1) = ((k + 1 : Nat) : Int) := by rw [w64 oM oM]; omega
    refine sw0 ?_
    refine i_cond (fun c4 => ?_) (fun c4 => ?_)
    rotate_left
    · have : k = i := oM
      subst this
      have e0 : (L.take k).drop k = [] := List.drop_eq_nil_of_le (by rw [List.length_take]; omega)
      rw [e0] at hfd hre
      refine sw1 @hr1 ?_
      exact k_loop r oM sE ⟨oM, gb, wr, fd, Q, hW, hok, by simpa [partA, acSum] using hfd, by simpa [partA] using hre⟩
    have hkl : k < L.length := oM
    rw [drop_take_cons oM hi2, partA_cons] at hfd hre
    have hnk : (L.getD k default).kind ≠ tickS := by
      refine hnt _ ?_
      rw [← hM]
      have e1 : (L.take i).drop k = ((L.take i).drop f).drop (k - f) := by rw [List.drop_drop]; congr 1; omega
      refine List.mem_of_mem_drop (i := k - f) ?_
      rw [← e1, drop_take_cons oM hi2]
      exact List.mem_cons_self
    refine sw2 @R @Ac.enc.eq_1 ?_
    refine i_cond (fun c5 => ?_) (fun c5 => ?_)
    rotate_left
    · rw [if_neg oM] at hfd hre
      refine sw1 @hk3 ?_
      exact k_loop (k + 1) oM sE ⟨oM, oM, gb, wr, fd, Q, hW, hok, hfd, hre⟩
    rw [if_pos oM] at hfd hre
    rw [acSum_cons] at hfd
    rw [List.cons_append, List.foldl_cons] at hre
    generalize hae : L.getD k default = a at *
    have hnr : a.n = (r : Int) := oM
    unfold Wa.act at hre
    rw [if_pos hnk] at hre
    refine sw3 @R @hae @Ac.enc.eq_1 ?_
    by_cases hff : feedF a.n a.s = 0
    · have hla1 : acLen a = a.s.length := by unfold acLen; rw [if_pos hff]
      have e7 : (((r + 1 : Nat) : Int) - 1) = a.n := oM
      have hff2 : feedF (((r + 1 : Nat) : Int) - 1) a.s = 0 := by rw [e7]; exact hff
      rw [if_pos hff] at hre
      refine i_call H271 ⟨gb, p2, wr, fd, (((r + 1 : Nat) : Int) - 1), a.s, rfl, hW, Q.lt 2 rfl, hok, fun _ => by omega, fun e => absurd hff2 e, fun _ g5 h5 st5 hW5 => ?_⟩
      rw [e7] at hW5
      have Q5 := Q.step 2 rfl st5
      have hok5 := hok.feed (reader := a.n.toNat) (s := a.s) (by have := feedF_r hff; omega)
      refine sw1 @hk3 ?_
      exact k_loop (k + 1) oM sE ⟨oM, oM, g5, _, _, Q5, hW5, hok5, oM, hre⟩
    · have e7 : (((r + 1 : Nat) : Int) - 1) = a.n := oM
      have hff2 : feedF (((r + 1 : Nat) : Int) - 1) a.s ≠ 0 := by rw [e7]; exact hff
      rw [if_neg hff] at hre
      refine i_call H271 ⟨gb, p2, wr, fd, (((r + 1 : Nat) : Int) - 1), a.s, rfl, hW, Q.lt 2 rfl, hok, fun e => absurd e hff2, fun _ => ?_, fun e => absurd e hff2⟩
      refine sw1 @hk3 ?_
      exact k_loop (k + 1) oM sE ⟨oM, oM, gb, wr, fd, Q, hW, hok, oM, hre⟩
end Go.Cw
