/- Part 5 of the proof of TopAlerts: a small language for the program's functions, its soundness, and what the functions do. No conditions beyond the theorems' own. -/
import Derived.Test.YthhepmakjimhlabGreatCw4
set_option linter.unusedSimpArgs false
set_option linter.unusedVariables false
set_option maxRecDepth 20000
namespace Go.Cw
open Go
theorem ordT_ext : ∀ {l m : List (List UInt8)}, ordT l → ordT m → (∀ t, t ∈ l ↔ t ∈ m) → l = m := by
  intro l
  induction l with
  | nil =>
    intro m _ _ h
    cases m with
    | nil => rfl
    | cons b m => exact absurd ((h b).2 (by simp)) (by simp)
  | cons a l ih =>
    intro m hl hm h
    cases m with
    | nil => exact absurd ((h a).1 (by simp)) (by simp)
    | cons b m =>
      obtain ⟨l1, l2⟩ := List.pairwise_cons.1 hl
      obtain ⟨m1, m2⟩ := List.pairwise_cons.1 hm
      have hab : a = b := by
        refine Classical.byContradiction fun e => ?_
        have h1 : a ∈ m := by
          rcases List.mem_cons.1 ((h a).1 (by simp)) with e2 | e2
          · exact absurd e2 e
          · exact e2
        have h2 : b ∈ l := by
          rcases List.mem_cons.1 ((h b).2 (by simp)) with e2 | e2
          · exact absurd e2.symm e
          · exact e2
        have := bless_asymm (l1 b h2)
        rw [m1 a h1] at this; cases this
      subst hab
      rw [ih l2 m2 fun t => ?_]
      constructor
      · intro ht
        rcases List.mem_cons.1 ((h t).1 (List.mem_cons_of_mem _ ht)) with e2 | e2
        · subst e2; have := l1 t ht; rw [bless_irr] at this; cases this
        · exact e2
      · intro ht
        rcases List.mem_cons.1 ((h t).2 (List.mem_cons_of_mem _ ht)) with e2 | e2
        · subst e2; have := m1 t ht; rw [bless_irr] at this; cases this
        · exact e2
def Wa.lookR (w : Wa) (n i : Nat) (ts : List (List UInt8)) : List Al := (ts.filter fun t => holdR (w.c 2).toNat (w.c 3).toNat w.E (w.rs.getD i default) t n).map fun t => ⟨i, n, t⟩
def Wa.lookN (w : Wa) (n i : Nat) : List Al := (List.range i).flatMap fun i => w.lookR n i (tagsE w.E)
def Wa.look (w : Wa) (n : Nat) : List Al := w.lookN n w.rs.length
theorem Wa.lookR_len (w : Wa) (n i : Nat) (ts : List (List UInt8)) : (w.lookR n i ts).length ≤ ts.length := by unfold Wa.lookR; rw [List.length_map]; exact List.length_filter_le _ _
theorem Wa.lookN_succ (w : Wa) (n i : Nat) : w.lookN n (i + 1) = w.lookN n i ++ w.lookR n i (tagsE w.E) := by simp [Wa.lookN, List.range_succ]
theorem Wa.lookN_len (w : Wa) (n i : Nat) : (w.lookN n i).length ≤ i * (tagsE w.E).length := by
  induction i with
  | zero => simp [Wa.lookN]
  | succ i ih => rw [Wa.lookN_succ, List.length_append]; have := w.lookR_len n i (tagsE w.E); rw [Nat.succ_mul]; omega
def GathA (wkv : List (List UInt8 × Value)) (bs dn : List Nat) (l : List (List UInt8)) : Prop :=
  l.Nodup ∧ l.length ≤ dn.length ∧ ∀ t, t ∈ l ↔ ∃ (j b : Nat) (u : Value), wkv[j]? = some (t, u) ∧ bs[j]? = some b ∧ b ∈ dn
theorem GathA.take {wkv : List (List UInt8 × Value)} {bs dn : List Nat} {l : List (List UInt8)} (h : GathA wkv bs dn l) {j b : Nat} {key : List UInt8} {u : Value} (hj : wkv[j]? = some (key, u)) (hb : bs[j]? = some b) (hbs : bs.Nodup) (hnd : (wkv.map (·.1)).Nodup) (hnb : b ∉ dn) : GathA wkv bs (dn ++ [b]) (l ++ [key]) := by
  obtain ⟨h1, h2, h3⟩ := h
  refine ⟨?_, by simp; omega, fun t => ?_⟩
  · refine List.nodup_append.2 ⟨h1, by simp, fun x hx y hy e => ?_⟩
    simp at hy; subst hy; subst e
    obtain ⟨j2, b2, u2, q1, q2, q3⟩ := (h3 _).1 hx
    have e1 : j2 = j := by
      obtain ⟨g1, g2⟩ := List.getElem?_eq_some_iff.1 q1
      obtain ⟨g3, g4⟩ := List.getElem?_eq_some_iff.1 hj
      have hx1 : (wkv.map (·.1))[j2]'(by simpa using g1) = (wkv.map (·.1))[j]'(by simpa using g3) := by simp [g2, g4]
      exact (List.getElem_inj hnd).1 hx1
    subst e1
    rw [hb] at q2; cases q2
    exact hnb q3
  · constructor
    · intro ht
      rcases List.mem_append.1 ht with ht | ht
      · obtain ⟨j2, b2, u2, q1, q2, q3⟩ := (h3 t).1 ht
        exact ⟨j2, b2, u2, q1, q2, List.mem_append_left _ q3⟩
      · rw [List.mem_singleton.1 ht]
        exact ⟨j, b, u, hj, hb, by simp⟩
    · rintro ⟨j2, b2, u2, q1, q2, q3⟩
      rcases List.mem_append.1 q3 with q3 | q3
      · exact List.mem_append_left _ ((h3 t).2 ⟨j2, b2, u2, q1, q2, q3⟩)
      · have e := List.mem_singleton.1 q3
        subst e
        have e1 : j2 = j := by
          obtain ⟨g1, g2⟩ := List.getElem?_eq_some_iff.1 q2
          obtain ⟨g3, g4⟩ := List.getElem?_eq_some_iff.1 hb
          exact (List.getElem_inj hbs).1 (by rw [g2, g4])
        subst e1
        rw [hj] at q1; cases q1
        simp
def S277 : Spec := fun args h K => ∃ g p w, ∃ n : Nat, args = [.pointer (some ⟨p, 0, none⟩), .int .i64 (n : Nat)] ∧ WO g p w ∧ Heap.le g h ∧ w.rs.length ≤ 6 ∧ (∀ r ∈ w.rs, r.name.length ≤ 1000) ∧ w.E.length ≤ 1000 ∧ (∀ l ∈ w.E, l.length ≤ 2000) ∧ (tagsE w.E).length ≤ 12 ∧ w.al.length ≤ 200000 ∧ n ≤ 1000 ∧
  ∀ g' h', Step g h g' h' → WO g' p { w with al := w.al ++ w.look n } → K (.tuple #[]) h'
theorem F277_ok {N : Num} {Γ : Ctx} [GoodC Γ] (H54 : Sat (S54 N) (Γ 54)) (H67 : Sat S67 (Γ 67)) (H174 : Sat (S174 N) (Γ 174)) : Sat S277 (SF N Γ F277) := by
  rintro _ h K ⟨g, p, w, n, rfl, hwo, hg, hrl, hrn, hEl, hEb, htl, hal, hn, hK⟩
  obtain ⟨F, rv, av, pd, pt, px, mk, kv, gw, gr, gd, gt, gx, gk, ga, hps, hw⟩ := hwo
  have Q0 := hps.rest hg
  refine i_fun rfl ?_
  simp only [F277, Ze, Nat.reduceSub, Nat.reduceAdd]
  refine sw0 ?_
  refine i_newO fun b3 h1 hle1 hb3 ho3 => ?_
  have ho3' : objAt h1 ⟨b3, 0, none⟩ [.slice none 0 0] := ho3.le (fr_le _ _)
  have C36 := hw.c36 ((Q0.up hle1).lt 1 rfl)
  refine sw1 @C36 ?_
  refine i_call H54 ⟨_, rfl, fun b6 h2 hle2 ho6 => ?_⟩
  obtain ⟨mw, wkv, bs, ck, hmw, hMB, hnd, hkeys⟩ := hw.tr.keys
  have hgt' := Q0.lt 4 rfl
  have hbsl : bs.length = wkv.length := by obtain ⟨_, _, _, h, _⟩ := hMB; exact h
  have hbsn : bs.Nodup := by obtain ⟨_, _, _, _, h, _⟩ := hMB; exact h
  have hwl : wkv.length = (tagsE w.E).length := by
    have e := nodup_len hnd (tagsE_nodup w.E) fun x => (hkeys x).trans (mem_tagsE w.E x).symm
    rwa [List.length_map] at e
  have hle12 := hle1.trans hle2
  refine sw0 ?_
  refine i_rfn (ek := encKS) (ev := id) (c := ⟨b6, 0, none⟩) (a := ⟨pt, 0, none⟩) (kv := wkv) (bs := bs) (ck := ck) (mp := mw) rfl ((ho6.le (fr_le _ _)).rules.2.1 (by simp)) (hmw h2 (hgt'.trans hle12))
    (fun dn G => Heap.le h G ∧ ∃ v l, objAt G ⟨b3, 0, none⟩ [v] ∧ SlB encT 1 G v l ∧ (∀ b, blkOf v = some b → h b = none ∧ b ≠ b3) ∧ GathA wkv bs dn l) ⟨hle12, .slice none 0 0, [], ho3'.le hle2, SlB.nil, by simp [blkOf], ⟨by simp, by simp, by simp⟩⟩ (fun dn G hJ => hMB.le (hgt'.trans hJ.1)) ?_ ?_
  rotate_left
  · rintro dn G j b key val ⟨hG, v, l, hob, hSl, hvb, hga⟩ hdn hds hj hb hnb
    have hdl : dn.length ≤ bs.length := nodup_le hdn hds
    have hll := hga.2.1
    have B3 : G.cell ⟨b3, 0, none⟩ = some v := hob.rules.2.1 (by simp)
    have O1 := hSl.one
    refine sw3 @rf_rules @encKS.eq_1 @B3 ?_
    refine i_bslB encT 1 (fun _ => rfl) [key] rfl rfl (by simp [maxLen]) fun x1 b1 G3 hle4 hb1 hx1 hS3 => ?_
    have O2 := hS3.one
    refine sw4 O2.1 O2.2 O1.1 O1.2 ?_
    refine i_appB (enc := encT) (sz := 1) (g := G3) (l := l) (l' := [key]) (fun _ => rfl) (by simp [encT, one]) (hSl.le hle4) (Heap.le.refl G3) (SlB.sl (enc := encT) (fun _ => rfl) (hS3.le (fr_le _ _))) (by simp; omega) fun v4 h4 g4 hS4 St4 e1 e2 e3 => ?_
    have hob4 : objAt h4 ⟨b3, 0, none⟩ [v] := (hob.le hle4).kept fun o ho => e3 _ _ ho fun e => (hvb _ e).2 rfl
    have hb3G : G3 b3 ≠ none := by obtain ⟨_, cc, tt, q, _⟩ := hob.le hle4; rw [q]; simp
    have hvb4 : ∀ b, blkOf v4 = some b → h b = none ∧ b ≠ b3 := by
      intro b hb
      rcases e2 b hb with h5 | h5
      · exact hvb b h5
      · exact ⟨le_none (hG.trans hle4) b h5, fun e => hb3G (e ▸ h5)⟩
    have hG4 : Heap.le h h4 := fun b o hb => e3 b o (hle4 b o (hG b o hb)) fun e => by rw [(hvb b e).1] at hb; cases hb
    have O4 := hS4.one
    refine sw2 O4.1 O4.2 ?_
    refine i_st hob4 0 1 (by rw [O4.2]; rfl) (by rw [O4.2]; simp [O4.1]) oM (by simp) fun o7 hob8 _ => ?_
    have hob9 : objAt (h4.set b3 o7) ⟨b3, 0, none⟩ [v4] := by have := hob8 h4 rfl; simpa [O4.2] using this
    refine sw1 @rf_rules ?_
    have hb3h : h b3 = none := hb3
    exact ⟨but.le (b := b3) hG4 hb3h fun x hx => Heap.set_ne hx, v4, l ++ [key], hob9, (hS4.le St4.le).same fun b hb => Heap.set_ne (hvb4 b hb).2, hvb4, hga.take hj hb hbsn hnd hnb⟩
  rintro dn G ⟨hG, v, l, hob, hSl, hvb, hga⟩ hdn hds hall
  have hdl : dn.length ≤ bs.length := nodup_le hdn hds
  have hll : l.length ≤ 12 := by have := hga.2.1; omega
  have hmem : ∀ t, t ∈ l ↔ toldE w.E t := by
    intro t
    rw [hga.2.2 t, ← hkeys t]
    refine ⟨fun ⟨j, b, u, q1, q2, q3⟩ => List.mem_map.2 ⟨_, List.mem_of_getElem? q1, rfl⟩, fun ht => ?_⟩
    obtain ⟨⟨k, u⟩, q1, rfl⟩ := List.mem_map.1 ht
    obtain ⟨j, hj, q2⟩ := List.getElem_of_mem q1
    have hj2 : j < bs.length := oM
    exact ⟨j, bs[j], u, by rw [List.getElem?_eq_getElem hj, q2], by rw [List.getElem?_eq_getElem hj2], hall _ (List.getElem_mem hj2)⟩
  have B3 : G.cell ⟨b3, 0, none⟩ = some v := hob.rules.2.1 (by simp)
  refine sw1 @B3 ?_
  refine i_call H67 ⟨v, l, rfl, hSl, oM, fun H1 hS1 hk1 => ?_⟩
  have hsrt : srt l = tagsE w.E := ordT_ext (srt_ord hga.1) (ordT_tagsOfL _) fun t => srt_mem.trans ((hmem t).trans (mem_tagsE w.E t).symm)
  rw [hsrt] at hS1
  have hH1 : Heap.le h H1 := fun b o hb => hk1 b o (hG b o hb) fun e => by rw [(hvb b e).1] at hb; cases hb
  have hob1 : objAt H1 ⟨b3, 0, none⟩ [v] := hob.kept fun o ho => hk1 _ _ ho fun e => (hvb _ e).2 rfl
  clear hk1 hSl hob B3 hga hmem hsrt
  have hobZ : objAt (fr h H1) ⟨b3, 0, none⟩ [v] := hob1.kept fun o hb => by simp only [fr, hb3]; exact hb
  have hSZ : SlB encT 1 (fr h H1) v (tagsE w.E) := hS1.same fun b hb => by simp [fr, (hvb b hb).1]
  have Q1' := (Q0.up hH1)
  have QZ : Ps H1 [rest g h, gw, gr, gd, gt, gx, gk, ga, fr h H1] := Q0.new hH1
  have hlk : (w.lookN n 0) = [] := rfl
  have RV := hw.rs.one
  have Rr := (hw.rs.le (QZ.lt 2 rfl)).rules 6 Rl.enc_len default
  have C22 := hw.c22 (QZ.lt 1 rfl)
  refine sw4 @C22 RV.1 RV.2 @Rr ?_
  refine i_loop (fun i : Nat => [some (.pointer (some ⟨p, 0, none⟩)), some (.int .i64 (n : Nat)), some (.pointer (some ⟨b3, 0, none⟩)), none, none, none, none, none, none, none, none, none, some rv, some (.int .i64 w.rs.length), some (.int .i64 (i : Nat)), none, none, none, none, none, none, none, none, none, none, none, none])
    (fun i H => i ≤ w.rs.length ∧ ∃ F av gw ga, Ps H [rest g h, gw, gr, gd, gt, gx, gk, ga, fr h H1] ∧ WP p { w with al := w.al ++ w.lookN n i } F rv av pd pt px mk kv gw gr gd gt gx gk ga) (fun i => w.rs.length - i) 0 (by try simp only [Pf]; rfl) ⟨oM, F, av, gw, ga, QZ, by rw [hlk, List.append_nil]; exact hw⟩ ?_
  clear Rr C22 QZ hlk Q1' Q0 hps
  have hrs := hw.rs
  clear hw
  rintro i H ⟨hi, F, av, gw, ga, Q, hw⟩
  have hi1 : IntKind.i64.wrap ((i : Int) + 1) = ((i + 1 : Nat) : Int) := by rw [w64 oM oM]; omega
  have Rr := (hrs.le (Q.lt 2 rfl)).rules 6 Rl.enc_len default
  refine sw0 ?_
  refine i_cond (fun c1 => ?_) (fun c1 => ?_)
  rotate_left
  · have : i = w.rs.length := oM
    subst this
    refine sw0 ?_
    obtain ⟨g4, q1, q2⟩ := WO.of hg (Q.take 8) hw
    exact hK g4 _ q1 q2
  have hi2 : i < w.rs.length := oM
  have hrnm := hrn _ (getD_mem default hi2)
  generalize hre : w.rs.getD i default = r at *
  refine sw3 @Rr @hre @Rl.enc.eq_1 ?_
  refine i_newO fun b5 h5 hle5 hb5 ho5 => ?_
  have hob5 := ho5.le (fr_le _ _)
  refine sw0 ?_
  refine i_st (cs := [.string (str []), .int .i64 0, .int .i64 0, .int .i64 0, .int .i64 0, .int .i64 0]) hob5 0 6 rfl rfl oM (by simp) fun o6 hob6 _ => ?_
  have hob6 : objAt (h5.set b5 o6) ⟨b5, 0, none⟩ (Rl.enc r) := hob6 h5 rfl
  have hle6 : Heap.le H (h5.set b5 o6) := but.le (b := b5) hle5 hb5 fun x hx => Heap.set_ne hx
  generalize h5.set b5 o6 = h6 at *
  have Q6 := Q.new hle6
  have hobY : objAt (fr H h6) ⟨b5, 0, none⟩ (Rl.enc r) := hob6.kept fun o hb => by simp only [fr, hb5]; exact hb
  generalize fr H h6 = Y at *
  clear ho5 hob5 hob6
  have B3 : ∀ H, Heap.le (fr h H1) H → H.cell ⟨b3, 0, none⟩ = some v := fun H hl => (hobZ.le hl).rules.2.1 (by simp)
  have RL : ∀ H, Heap.le (fr h H1) H → _ := fun H hl => (SlB.sl (enc := encT) (sz := 1) (fun _ => rfl) (hSZ.le hl)).rules1 (fun t => .string (str t)) (fun _ => rfl) default
  have B36 := B3 h6 (Q6.lt 8 rfl)
  have RL6 := RL h6 (Q6.lt 8 rfl)
  have hlr0 : w.lookR n i ((tagsE w.E).take 0) = [] := rfl
  have hlN := w.lookN_len n i
  have hlN6 : i * (tagsE w.E).length ≤ 6 * 12 := Nat.mul_le_mul oM htl
  refine sw2 @B36 @RL6 ?_
  refine i_loop (fun k : Nat => [some (.pointer (some ⟨p, 0, none⟩)), some (.int .i64 (n : Nat)), some (.pointer (some ⟨b3, 0, none⟩)), none, some (.int .i64 (i : Nat)), some (.pointer (some ⟨b5, 0, none⟩)), none, none, none, none, none, none, some rv, some (.int .i64 w.rs.length), some (.int .i64 (i : Nat)), none, none, none, some v, some (.int .i64 (tagsE w.E).length), some (.int .i64 (k : Nat)), none, none, none, none, none, none])
    (fun k H => k ≤ (tagsE w.E).length ∧ ∃ F av gw ga, Ps H [rest g h, gw, gr, gd, gt, gx, gk, ga, fr h H1, Y] ∧ WP p { w with al := w.al ++ w.lookN n i ++ w.lookR n i ((tagsE w.E).take k) } F rv av pd pt px mk kv gw gr gd gt gx gk ga) (fun k => (tagsE w.E).length - k) 0 (by try simp only [Pf]; rfl) ⟨oM, F, av, gw, ga, Q6, by rw [hlr0, List.append_nil]; exact hw⟩ ?_
  clear hw Q6 RL6 B36 Q Rr hlr0 hle5 hle6
  rintro k H' ⟨hk, F, av, gw, ga, Q, hw⟩
  have hk1 : IntKind.i64.wrap ((k : Int) + 1) = ((k + 1 : Nat) : Int) := by rw [w64 oM oM]; omega
  have RLk := RL H' (Q.lt 8 rfl)
  refine sw0 ?_
  refine i_cond (fun c2 => ?_) (fun c2 => ?_)
  rotate_left
  · have : k = (tagsE w.E).length := oM
    subst this
    rw [List.take_length, List.append_assoc, ← Wa.lookN_succ] at hw
    refine sw1 @hi1 ?_
    exact k_loop (i + 1) oM sE ⟨oM, F, av, gw, ga, Q.take 9, hw⟩
  have hk2 : k < (tagsE w.E).length := oM
  have hnr : (tagsE w.E).take (k + 1) = (tagsE w.E).take k ++ [(tagsE w.E).getD k default] := take_succ_d default hk2
  have hlR := w.lookR_len n i ((tagsE w.E).take k)
  rw [List.length_take] at hlR
  generalize hte : (tagsE w.E).getD k default = t at *
  have C36 := hw.c36 (Q.lt 1 rfl)
  have RW := (hobY.le (Q.lt 9 rfl)).rules.2.2
  simp only [Rl.enc, List.length_cons, List.length_nil, Nat.reduceAdd] at RW
  refine sw4 @RLk @hte @C36 @RW ?_
  refine i_call H174 ⟨gt, pt, _, _, w.E, r, t, n, rfl, hw.tr, Q.lt 4 rfl, hEl, oM, oM, fun h7 hle7 => ?_⟩
  have Q7 := Q.up hle7
  have hlq : w.lookR n i ((tagsE w.E).take (k + 1)) = w.lookR n i ((tagsE w.E).take k) ++ if holdR (w.c 2).toNat (w.c 3).toNat w.E r t n then [⟨i, n, t⟩] else [] := by
    unfold Wa.lookR
    rw [hnr, List.filter_append, List.map_append, hre]
    congr 1
    by_cases e : holdR (w.c 2).toNat (w.c 3).toNat w.E r t n <;> simp [e]
  refine sw0 ?_
  cases c3 : holdR (w.c 2).toNat (w.c 3).toNat w.E r t n
  · rw [c3, if_neg (by simp), List.append_nil] at hlq
    refine sw1 @hk1 ?_
    exact k_loop (k + 1) oM sE ⟨oM, F, av, gw, ga, Q7, by rw [hlq]; exact hw⟩
  rw [c3, if_pos rfl] at hlq
  have C44 := hw.c44 (Q7.lt 1 rfl)
  have OA := hw.al.one
  refine sw1 @C44 ?_
  refine i_bslB encAl 3 encAl_len [⟨i, n, t⟩] (by simp [encAl]) rfl (by simp [maxLen]) fun x1 b1 h8 hle8 hb1 hx1 hS3 => ?_
  have Q8 := Q7.up hle8
  have O2 := hS3.one
  refine sw4 O2.1 O2.2 OA.1 OA.2 ?_
  refine i_appB (enc := encAl) (sz := 3) (g := ga) (l' := [⟨i, n, t⟩]) encAl_len (by simp [encAl, one]) hw.al (Q8.lt 7 rfl) (SlB.sl encAl_len (hS3.le (fr_le _ _))) (by simp; omega) fun v9 h9 ga9 hS9 St9 e1 e2 e3 => ?_
  have Q9 := Q8.step 7 rfl St9
  have O9 := hS9.one
  refine sw2 O9.1 O9.2 ?_
  refine i_stF (x := v9) hw.ob (Q9.lt 1 rfl) 44 O9.2 O9.1 oM fun g10 h10 st10 ho10 => ?_
  have Q10 := Q9.step 1 rfl st10
  refine sw1 @hk1 ?_
  refine k_loop (k + 1) oM sE ⟨oM, upF F 44 v9, v9, g10, ga9, Q10, ?_⟩
  have := hw.wf.al (w.al ++ w.lookN n i ++ w.lookR n i ((tagsE w.E).take (k + 1))) v9
  rw [hlq, ← List.append_assoc] at this ⊢
  exact { hw with ob := ho10, wf := this, al := hS9 }
end Go.Cw
namespace Go.Cw
open Go
def Wa.tell (w : Wa) (x : Nat × List Si) : Wa :=
  let w1 : Wa := { w with E := w.E ++ [x.2] }
  { w1 with al := w1.al ++ w1.look x.1 }
def Wa.closed (w : Wa) (m : Nat) : List (Nat × List Si) := closE (w.c 0).toNat (w.c 1).toNat w.now (w.now + m) w.A
def Wa.tick (w : Wa) (m : Nat) : Wa := (w.closed m).foldl Wa.tell { w with now := w.now + m }
structure Wa.Mid (w : Wa) : Prop where
  rl : w.rs.length ≤ 6
  rf : ∀ r ∈ w.rs, ruleF r = 0
  kn : w.kn.length ≤ 12
  knn : w.kn.Nodup
  Eb : ∀ l ∈ w.E, l.length ≤ 2000 ∧ ∀ s ∈ l, ¬ adBad 1000 s ∧ s.tag ∈ w.kn ∧ kindOf s.tag ≠ 0
  al : w.al.length ≤ 100 * w.E.length
theorem Wa.Ok.mid {w : Wa} {fed : Nat} (h : w.Ok fed) (n : Nat) : ({ w with now := n } : Wa).Mid := ⟨h.rl, h.rf, h.kn, h.knn, h.Eb, h.al⟩
theorem nodup_leT {l m : List (List UInt8)} (h : l.Nodup) (hs : ∀ x ∈ l, x ∈ m) : l.length ≤ m.length := by
  induction l generalizing m with
  | nil => simp
  | cons a l ih =>
    obtain ⟨h1, h2⟩ := List.nodup_cons.1 h
    have hm := hs a (by simp)
    have := ih (m := m.erase a) h2 fun x hx => (List.mem_erase_of_ne (by rintro rfl; exact h1 hx)).2 (hs x (by simp [hx]))
    rw [List.length_erase_of_mem hm] at this
    have : 0 < m.length := List.length_pos_of_mem hm
    simp; omega
theorem Wa.Mid.tags {w : Wa} (h : w.Mid) : (tagsE w.E).length ≤ 12 := by
  refine Nat.le_trans (nodup_leT (tagsE_nodup w.E) fun t ht => ?_) h.kn
  obtain ⟨l, hl, s, hs, rfl⟩ := (mem_tagsE w.E t).1 ht
  exact ((h.Eb l hl).2 s hs).2.1
theorem Wa.Mid.add {w : Wa} (h : w.Mid) {l : List Si} (hl : l.length ≤ 2000 ∧ ∀ s ∈ l, ¬ adBad 1000 s ∧ s.tag ∈ w.kn ∧ kindOf s.tag ≠ 0) : ({ w with E := w.E ++ [l] } : Wa).Mid :=
  ⟨h.rl, h.rf, h.kn, h.knn, fun l' hl' => by
    rcases List.mem_append.1 hl' with e | e
    · exact h.Eb l' e
    · rw [List.mem_singleton.1 e]; exact hl, by have := h.al; simp; omega⟩
theorem Wa.look_len {w : Wa} (h : w.Mid) (n : Nat) : (w.look n).length ≤ 72 := by
  have h1 := w.lookN_len n w.rs.length
  have h2 : w.rs.length * (tagsE w.E).length ≤ 6 * 12 := Nat.mul_le_mul h.rl h.tags
  unfold Wa.look; omega
theorem Wa.Mid.tell {w : Wa} (h : w.Mid) {x : Nat × List Si} (hl : x.2.length ≤ 2000 ∧ ∀ s ∈ x.2, ¬ adBad 1000 s ∧ s.tag ∈ w.kn ∧ kindOf s.tag ≠ 0) : (w.tell x).Mid := by
  have h1 := h.add hl
  have h2 := Wa.look_len h1 x.1
  have h3 := h.al
  exact ⟨h1.rl, h1.rf, h1.kn, h1.knn, h1.Eb, by unfold Wa.tell; simp only [List.length_append, List.length_singleton]; omega⟩
theorem Wa.tells (L : List (Nat × List Si)) : ∀ (w : Wa), L.foldl Wa.tell w = { w with E := w.E ++ L.map (·.2), al := (L.foldl Wa.tell w).al } := by
  induction L with
  | nil => intro w; simp
  | cons x L ih => intro w; rw [List.foldl_cons, ih]; simp [Wa.tell]
theorem Wa.Mid.tells {L : List (Nat × List Si)} : ∀ {w : Wa}, w.Mid → (∀ x ∈ L, x.2.length ≤ 2000 ∧ ∀ s ∈ x.2, ¬ adBad 1000 s ∧ s.tag ∈ w.kn ∧ kindOf s.tag ≠ 0) → (L.foldl Wa.tell w).Mid := by
  induction L with
  | nil => intro w h _; exact h
  | cons x L ih => intro w h hL; exact ih (h.tell (hL x (by simp))) fun y hy => hL y (List.mem_cons_of_mem _ hy)
theorem mem_ofE {size : Nat} {A : List Si} {n : Nat} {s : Si} : s ∈ ofE size A n ↔ s ∈ A ∧ ep size s = n := by
  unfold ofE
  rw [(ofL_ord _).2.mem_iff]; simp
theorem Wa.Ok.closed {w : Wa} {fed : Nat} (h : w.Ok fed) (hf : fed ≤ 20000) {m : Nat} : ∀ x ∈ w.closed m, x.2.length ≤ 2000 ∧ ∀ s ∈ x.2, ¬ adBad 1000 s ∧ s.tag ∈ w.kn ∧ kindOf s.tag ≠ 0 := by
  intro x hx
  unfold Wa.closed closE at hx
  obtain ⟨k, hk, rfl⟩ := List.mem_map.1 hx
  refine ⟨?_, fun s hs => h.Ab s (mem_ofE.1 hs).1⟩
  unfold ofE
  rw [ofL_len]
  have h1 := List.length_filter_le (fun s => decide (ep (w.c 0).toNat s = k)) w.A
  have h2 := h.sum
  omega
theorem clos_mono {size late a b : Nat} (h : a ≤ b) : clos size late a ≤ clos size late b := Nat.div_le_div_right oM
theorem Wa.closed_len {w : Wa} {m : Nat} : (w.closed m).length = clos (w.c 0).toNat (w.c 1).toNat (w.now + m) - clos (w.c 0).toNat (w.c 1).toNat w.now := by simp [Wa.closed, closE]
theorem Wa.Ok.tick {w : Wa} {fed m : Nat} (h : w.Ok fed) (hf : fed ≤ 20000) (hm : w.now + m ≤ 1000) : (w.tick m).Ok fed := by
  have h1 := (h.mid (w.now + m)).tells (L := w.closed m) (h.closed hf)
  have h2 := Wa.tells (w.closed m) { w with now := w.now + m }
  unfold Wa.tick
  rw [h2] at h1 ⊢
  refine ⟨h.c0, h.c1, h.c2, h.c3, h.c4, h.c5, h.wh, h.rl, h.rf, hm, h.sum, h.d0, h.kn, h.knn, h.Ab, ?_, h1.Eb, h1.al⟩
  have h3 := clos_mono (size := (w.c 0).toNat) (late := (w.c 1).toNat) (show w.now ≤ w.now + m by omega)
  simp only [List.length_append, List.length_map, Wa.closed_len, h.El]
  omega
theorem clos_le1000 {size late now : Nat} (hn : now ≤ 1000) : clos size late now ≤ 1000 := Nat.le_trans (Nat.div_le_self _ _) oM
end Go.Cw
namespace Go.Cw
open Go
theorem rest_n {g h : Heap} {b : Nat} (e : g b = none) : rest g h b = h b := by unfold rest; rw [if_pos e]
theorem rest_s {g h : Heap} {b : Nat} (e : g b ≠ none) : rest g h b = none := by unfold rest; rw [if_neg e]
theorem Ps.pack {H F Y : Heap} {gs : List Heap} (h : Ps H (F :: (gs ++ [Y]))) : Ps H [F, joinL gs, Y] := by
  obtain ⟨h1, h2⟩ := h
  obtain ⟨h3, h4⟩ := List.pairwise_cons.1 h2
  obtain ⟨h5, h6, h7⟩ := List.pairwise_append.1 h4
  refine ⟨fun x hx => ?_, ?_⟩
  · simp only [List.mem_cons, List.not_mem_nil, or_false] at hx
    rcases hx with rfl | rfl | rfl
    · exact h1 _ (by simp)
    · exact joinL_le fun y hy => h1 y (by simp [hy])
    · exact h1 _ (by simp)
  · refine List.pairwise_cons.2 ⟨fun x hx => ?_, List.pairwise_cons.2 ⟨fun x hx => ?_, List.pairwise_singleton _ _⟩⟩
    · simp only [List.mem_cons, List.not_mem_nil, or_false] at hx
      rcases hx with rfl | rfl
      · exact fun b hb => joinL_none fun y hy => h3 y (by simp [hy]) b hb
      · exact h3 _ (by simp)
    · rw [List.mem_singleton] at hx; subst hx
      intro b hb
      obtain ⟨y, hy, hyb⟩ := joinL_mem hb
      exact h7 y hy _ (by simp) b hyb
def S269 (N : Num) : Spec := fun args h K => ∃ g p w fed, ∃ n : Int, args = [.pointer (some ⟨p, 0, none⟩), .int .i64 n] ∧ WO g p w ∧ Heap.le g h ∧ w.Ok fed ∧ fed ≤ 20000 ∧
  ((n < 0 ∨ 1000 - (w.now : Int) < n) → K (.tuple #[.int .i64 0, errV N 1]) h) ∧
  (∀ m : Nat, n = m → w.now + m ≤ 1000 → ∀ g' h', Step g h g' h' → WO g' p (w.tick m) → K (.tuple #[.int .i64 ((w.closed m).length : Nat), .nilIface]) h')
theorem bad_of {s : Si} (h : ¬ adBad 1000 s) : ¬ s.bad := by
  unfold adBad at h; unfold Si.bad; omega
theorem EpsR.len {h : Heap} {v : Value} {L : List (Nat × List Si)} (a : EpsR h v L) : ∃ es : List (Nat × Value), Sl encEp h v es ∧ es.length = L.length ∧ ∀ i, i < L.length → (es.getD i default).1 = (L.getD i default).1 ∧ Sl Si.enc h (es.getD i default).2 (L.getD i default).2 := a
theorem F269_ok {N : Num} {Γ : Ctx} [GoodC Γ] (H34 : Sat (S34 N) (Γ 34)) (H29 : Sat (S29 N) (Γ 29)) (H46 : Sat S46 (Γ 46)) (H277 : Sat S277 (Γ 277)) : Sat (S269 N) (SF N Γ F269) := by
  rintro _ h K ⟨g, p, w, fed, n, rfl, hwo, hg, hok, hfed, hK1, hK2⟩
  obtain ⟨F, rv, av, pd, pt, px, mk, kv, gw, gr, gd, gt, gx, gk, ga, hps, hw⟩ := hwo
  have Q0 := hps.rest hg
  have hc0 := hok.c0
  have hc1 := hok.c1
  have hc2 := hok.c2
  have hc3 := hok.c3
  have hc4 := hok.c4
  have hc5 := hok.c5
  have hnow := hok.now
  have hA9 : w.A.length ≤ 1818 := by have := hok.sum; omega
  refine i_fun rfl ?_
  simp only [F269, Ze, Nat.reduceSub, Nat.reduceAdd]
  have C35 := hw.c35 (Q0.lt 1 rfl)
  refine sw1 @C35 ?_
  refine i_call H34 ⟨gd, pd, n, _, _, _, _, rfl, hw.dk, Q0.lt 3 rfl, oM, oM, oM, oM, oM, fun hbad => ?_, fun m hm hmn gd' h1 v st1 hD1 hO1 => ?_⟩
  · have := hK1 hbad
    refine sw1 @errV_succ ?_
    exact this
  have hK := hK2 m hm hmn
  clear hK1 hK2
  have Q1 := Q0.step 3 rfl st1
  have hOY := (hO1.step (Gf' := fun _ => none) (H' := rest (join (rest gd h) gd') h1) (fun b o hb hn => by rw [rest_n hn]; exact hb) fun _ _ _ => rfl).epsR
  have hYd : ∀ x ∈ [rest g h, gw, gr, gd', gt, gx, gk, ga], disj x (rest (join (rest gd h) gd') h1) := by
    intro x hx b hb
    have : join (rest gd h) gd' b ≠ none := by
      by_cases e : x = gd'
      · subst e
        cases e2 : rest gd h b with
        | some o => simp [join, e2]
        | none => simp [join, e2]; simpa using hb
      · have hx2 : ∃ j, j ≠ 3 ∧ [rest g h, gw, gr, gd, gt, gx, gk, ga][j]? = some x := by
          simp only [List.mem_cons, List.not_mem_nil, or_false] at hx
          rcases hx with rfl | rfl | rfl | rfl | rfl | rfl | rfl | rfl
          · exact ⟨0, oM, rfl⟩
          · exact ⟨1, oM, rfl⟩
          · exact ⟨2, oM, rfl⟩
          · exact absurd rfl e
          · exact ⟨4, oM, rfl⟩
          · exact ⟨5, oM, rfl⟩
          · exact ⟨6, oM, rfl⟩
          · exact ⟨7, oM, rfl⟩
        obtain ⟨j, hj, hx3⟩ := hx2
        have h3 := Q0.dj j 3 hx3 rfl hj b hb
        have h4 : h b ≠ none := fun e => hb (le_none (Q0.lt j hx3) b e)
        cases e2 : h b with
        | none => exact absurd e2 h4
        | some o => simp [join, rest_n h3, e2]
    exact rest_s this
  have QY := Q1.add (rest_le _ _) hYd
  have hOY' : ∃ Y, Y = rest (join (rest gd h) gd') h1 := ⟨_, rfl⟩
  obtain ⟨Y, hY⟩ := hOY'
  simp only [List.set] at QY
  rw [← hY] at hOY QY
  obtain ⟨g1, st1', hwo1⟩ : ∃ g1, Ps h1 [rest g h, g1, Y] ∧ WO g1 p { w with now := w.now + m } := by
    refine ⟨joinL [gw, gr, gd', gt, gx, gk, ga], ?_, F, rv, av, pd, pt, px, mk, kv, gw, gr, gd', gt, gx, gk, ga, (Q1.drop 1).sub, { hw with wf := hw.wf.same rfl rfl rfl rfl, dk := hD1 }⟩
    have Q2 : Ps h1 [rest g h, gw, gr, gd', gt, gx, gk, ga, Y] := QY
    exact Q2.pack (gs := [gw, gr, gd', gt, gx, gk, ga])
  obtain ⟨es, hes, hel, hee⟩ := hOY
  have hcl := hok.closed hfed (m := m)
  have hcn := w.closed_len (m := m)
  have hcm := clos_mono (size := (w.c 0).toNat) (late := (w.c 1).toNat) (show w.now ≤ w.now + m by omega)
  have hc9 : clos (w.c 0).toNat (w.c 1).toNat (w.now + m) ≤ 1000 := clos_le1000 hmn
  have hEl := hok.El
  have hmid := hok.mid (w.now + m)
  change ∀ i, i < (w.closed m).length → (es.getD i default).1 = ((w.closed m).getD i default).1 ∧ Sl Si.enc Y (es.getD i default).2 ((w.closed m).getD i default).2 at hee
  change es.length = (w.closed m).length at hel
  unfold Wa.tick at hK
  have hcd : ∀ x ∈ w.closed m, x.1 ≤ 1000 := by
    intro x hx
    unfold Wa.closed closE at hx
    obtain ⟨k, hk, rfl⟩ := List.mem_map.1 hx
    rw [List.mem_range'_1] at hk
    dsimp only; omega
  generalize w.closed m = L at *
  have R := (hes.le (st1'.lt 2 rfl)).rules 2 encEp_len default
  have hvo := hes.one
  rw [hel] at R
  clear QY hYd Q1 Q0 hps hw
  refine sw1 @R ?_
  refine i_loop (fun i : Nat => [some (.pointer (some ⟨p, 0, none⟩)), none, none, none, some v, none, none, none, none, some v, some (.int .i64 L.length), some (.int .i64 (i : Nat)), none, none, none, none])
    (fun i H => i ≤ L.length ∧ ∃ gW, Ps H [rest g h, gW, Y] ∧ WO gW p ((L.take i).foldl Wa.tell { w with now := w.now + m })) (fun i => L.length - i) 0 (by try simp only [Pf]; rfl) ⟨oM, g1, st1', hwo1⟩ ?_
  clear hwo1 st1' R
  rintro i H ⟨hi, gW, Q, hW⟩
  have hi1 : IntKind.i64.wrap ((i : Int) + 1) = ((i + 1 : Nat) : Int) := by rw [w64 oM oM]; omega
  have R := (hes.le (Q.lt 2 rfl)).rules 2 encEp_len default
  rw [hel] at R
  refine sw0 ?_
  refine i_cond (fun c1 => ?_) (fun c1 => ?_)
  rotate_left
  · have : i = L.length := oM
    subst this
    rw [List.take_length] at hW
    refine sw1 @R ?_
    exact hK _ _ (Q.step1 hg) hW
  have hi2 : i < L.length := oM
  obtain ⟨e1, e2⟩ := hee i hi2
  have hnx : L.take (i + 1) = L.take i ++ [L.getD i default] := take_succ_d default hi2
  have hcx := hcl _ (getD_mem default hi2)
  have hcx2 := hcd _ (getD_mem default hi2)
  have hmi := hmid.tells (L := L.take i) fun x hx => hcl x (List.mem_of_mem_take hx)
  have htf := Wa.tells (L.take i) { w with now := w.now + m }
  generalize hfe : L.getD i default = x at *
  generalize hre : es.getD i default = y at *
  have hyo := e2.one
  generalize hw2 : (L.take i).foldl Wa.tell { w with now := w.now + m } = w2 at *
  have hE2 : w2.E = w.E ++ (L.take i).map (·.2) := by rw [htf]
  have hE2l : w2.E.length ≤ 999 := by rw [hE2, List.length_append, List.length_map, List.length_take]; omega
  have f0 : w2.c = w.c := by rw [htf]
  have f1 : w2.kn = w.kn := by rw [htf]
  clear htf
  obtain ⟨F, rv, av, pd, pt, px, mk, kv, gw, gr, gd, gt, gx, gk, ga, hps, hw⟩ := hW
  have V0 := hps.rest (Q.lt 1 rfl)
  have C36 := hw.c36 (V0.lt 1 rfl)
  have C37 := hw.c37 (V0.lt 1 rfl)
  refine sw6 @R @hre @encEp.eq_1 hyo.1 hyo.2 @C36 ?_
  refine i_call H29 ⟨pt, y.2, x.2, gt, _, _, w2.E, rfl, e2.le (Q.lt 2 rfl), hw.tr, V0.lt 4 rfl, ⟨by rw [f0]; omega, by rw [f0]; omega, oM, fun l hl => ⟨fun s hs => bad_of ((hmi.Eb l hl).2 s hs).1, by have := (hmi.Eb l hl).1; omega⟩⟩, oM, oM, fun hb => ?_, fun hb h3 gt3 st3 hT3 => ?_⟩
  · obtain ⟨s, hs, hsb⟩ := hb
    exact absurd hsb (bad_of (hcx.2 s hs).1)
  have V3 := V0.step 4 rfl st3
  have C37' := hw.c37 (V3.lt 1 rfl)
  refine sw1 @C37' ?_
  refine i_call H46 ⟨gx, gt3, px, pt, _, _, w2.E ++ [x.2], _, _, w2.E.length, rfl, hw.ix.more, V3.lt 5 rfl, hT3, V3.lt 4 rfl, V3.dj 4 5 rfl rfl oM, by rw [f0]; omega, by simp; omega, fun l hl => ?_, by rw [f0]; omega, by rw [f0]; omega, by rw [f0]; omega, by rw [f0]; omega, fun hn => by simp at hn, fun _ gx4 h4 st4 hX4 => ?_⟩
  · rcases List.mem_append.1 hl with e | e
    · exact (hmi.Eb l e).1
    · rw [List.mem_singleton.1 e]; exact hcx.1
  have V4 := V3.step 5 rfl st4
  obtain ⟨g5, st5, hW5⟩ := WO.of (w := { w2 with E := w2.E ++ [x.2] }) (Q.lt 1 rfl) V4 { ob := hw.ob, wf := hw.wf.same rfl rfl rfl rfl, rs := hw.rs, dk := hw.dk, tr := hT3, ix := by simpa using hX4, km := hw.km, kn := hw.kn, al := hw.al }
  have Q5 := Q.step 1 rfl st5
  have hm5 := hmi.add (l := x.2) (by rw [f1]; exact hcx)
  refine sw0 ?_
  rw [e1]
  refine i_call H277 ⟨g5, p, _, x.1, rfl, hW5, Q5.lt 1 rfl, hm5.rl, fun r hr => ?_, by simp; omega, fun l hl => (hm5.Eb l hl).1, hm5.tags, by have := hmi.al; simp; omega, hcx2, fun g6 h6 st6 hW6 => ?_⟩
  · have := ruleF_zero.1 (hm5.rf r hr)
    have := this.1.2.1
    omega
  have Q6 := Q5.step 1 rfl st6
  refine sw1 @hi1 ?_
  exact k_loop (i + 1) oM sE ⟨oM, g6, Q6, by rw [hnx, List.foldl_append, hw2]; exact hW6⟩
end Go.Cw
namespace Go.Cw
open Go
def aggC (c : Nat → Int) : Value := .agg #[.int .i64 (c 0), .int .i64 (c 1), .int .i64 (c 2), .int .i64 (c 3), .int .i64 (c 4), .int .i64 (c 5), .int .i64 (c 6), .int .i64 (c 7), .int .i64 (c 8), .int .i64 (c 9), .int .i64 (c 10), .int .i64 (c 11), .int .i64 (c 12), .int .i64 (c 13), .int .i64 (c 14), .int .i64 (c 15), .int .i64 (c 16), .int .i64 (c 17), .int .i64 (c 18), .int .i64 (c 19), .int .i64 (c 20), .int .i64 (c 21)]
instance (c : Nat → Int) : Decidable (cfgBad c) := by unfold cfgBad; infer_instance
def whBad (c : Nat → Int) : Bool := (List.range 16).any fun k => decide (c (6 + k) < -1 ∨ 7 < c (6 + k))
def rulesF (seen : List (List UInt8)) : List Rl → Nat
  | [] => 0
  | r :: l => if ruleF r ≠ 0 then ruleF r else if r.name ∈ seen then 7 else rulesF (seen ++ [r.name]) l
theorem rulesF_cons (seen : List (List UInt8)) (r : Rl) (l : List Rl) : rulesF seen (r :: l) = if ruleF r ≠ 0 then ruleF r else if r.name ∈ seen then 7 else rulesF (seen ++ [r.name]) l := rfl
def watchF (c : Nat → Int) (rs : List Rl) : Nat := if cfgBad c then 1 else if whBad c then 1 else if 6 < rs.length then 2 else rulesF [] rs
def newW (c : Nat → Int) (rs : List Rl) : Wa := ⟨c, rs, fun _ => ([], 0), fun _ => -1, fun _ => 0, [], 0, [], [], []⟩
def S266 (N : Num) : Spec := fun args h K => ∃ c rv rs, args = [aggC c, rv] ∧ Sl Rl.enc h rv rs ∧ rs.length ≤ 100000 ∧ (∀ r ∈ rs, r.name.length ≤ 10000000) ∧
  (watchF c rs ≠ 0 → ∀ h', Heap.le h h' → K (.tuple #[.pointer none, errV N (watchF c rs)]) h') ∧
  (watchF c rs = 0 → ∀ p g' h', Step (fun _ => none) h g' h' → WO g' p (newW c rs) → K (.tuple #[.pointer (some ⟨p, 0, none⟩), .nilIface]) h')
def newF (c : Nat → Int) (rv : Value) (mk : Nat) : Nat → Value := fun j => ([Value.int .i64 (c 0), .int .i64 (c 1), .int .i64 (c 2), .int .i64 (c 3), .int .i64 (c 4), .int .i64 (c 5), .int .i64 (c 6), .int .i64 (c 7), .int .i64 (c 8), .int .i64 (c 9), .int .i64 (c 10), .int .i64 (c 11), .int .i64 (c 12), .int .i64 (c 13), .int .i64 (c 14), .int .i64 (c 15), .int .i64 (c 16), .int .i64 (c 17), .int .i64 (c 18), .int .i64 (c 19), .int .i64 (c 20), .int .i64 (c 21), rv, .string (str []), .int .i64 0, .string (str []), .int .i64 0, .string (str []), .int .i64 0, .string (str []), .int .i64 0, .int .i64 (-1), .int .i64 (-1), .int .i64 (-1), .int .i64 (-1), .pointer none, .pointer none, .pointer none, .map (some mk), .int .i64 0, .int .i64 0, .int .i64 0, .int .i64 0, .int .i64 0, .slice none 0 0] : List Value).getD j default
theorem vidxn_c (c : Nat → Int) (H : Heap) {i : Nat} (hi : i < 4) : o2V H (.vidxn 4 4) (.v (.agg #[.int .i64 (c 6), .int .i64 (c 7), .int .i64 (c 8), .int .i64 (c 9), .int .i64 (c 10), .int .i64 (c 11), .int .i64 (c 12), .int .i64 (c 13), .int .i64 (c 14), .int .i64 (c 15), .int .i64 (c 16), .int .i64 (c 17), .int .i64 (c 18), .int .i64 (c 19), .int .i64 (c 20), .int .i64 (c 21)])) (.v (.int .i64 (i : Nat))) =
    some (.v (.agg #[.int .i64 (c (6 + 4 * i)), .int .i64 (c (6 + (4 * i + 1))), .int .i64 (c (6 + (4 * i + 2))), .int .i64 (c (6 + (4 * i + 3)))])) := by
  rcases (by omega : i = 0 ∨ i = 1 ∨ i = 2 ∨ i = 3) with rfl | rfl | rfl | rfl <;> rfl
theorem vidx_c (x0 x1 x2 x3 : Int) (f : Nat → Int) (h0 : f 0 = x0) (h1 : f 1 = x1) (h2 : f 2 = x2) (h3 : f 3 = x3) {j : Nat} (hj : j < 4) : (#[Value.int .i64 x0, .int .i64 x1, .int .i64 x2, .int .i64 x3] : Array Value)[j]? = some (.int .i64 (f j)) := by
  subst h0 h1 h2 h3
  rcases (by omega : j = 0 ∨ j = 1 ∨ j = 2 ∨ j = 3) with rfl | rfl | rfl | rfl <;> rfl
theorem WF.newW (c : Nat → Int) (rs : List Rl) (rv : Value) (mk pd pt px : Nat) : WF (upF (upF (upF (newF c rv mk) 35 (.pointer (some ⟨pd, 0, none⟩))) 36 (.pointer (some ⟨pt, 0, none⟩))) 37 (.pointer (some ⟨px, 0, none⟩))) (newW c rs) rv pd pt px mk (.slice none 0 0) where
  c := fun k hk => by
    rw [upF_ne oM, upF_ne oM, upF_ne oM]
    rcases (by omega : k = 0 ∨ k = 1 ∨ k = 2 ∨ k = 3 ∨ k = 4 ∨ k = 5 ∨ k = 6 ∨ k = 7 ∨ k = 8 ∨ k = 9 ∨ k = 10 ∨ k = 11 ∨ k = 12 ∨ k = 13 ∨ k = 14 ∨ k = 15 ∨ k = 16 ∨ k = 17 ∨ k = 18 ∨ k = 19 ∨ k = 20 ∨ k = 21) with rfl | rfl | rfl | rfl | rfl | rfl | rfl | rfl | rfl | rfl | rfl | rfl | rfl | rfl | rfl | rfl | rfl | rfl | rfl | rfl | rfl | rfl <;> rfl
  r := rfl
  l1 := fun k hk => by rcases (by omega : k = 0 ∨ k = 1 ∨ k = 2 ∨ k = 3) with rfl | rfl | rfl | rfl <;> rfl
  l2 := fun k hk => by rcases (by omega : k = 0 ∨ k = 1 ∨ k = 2 ∨ k = 3) with rfl | rfl | rfl | rfl <;> rfl
  wm := fun k hk => by rcases (by omega : k = 0 ∨ k = 1 ∨ k = 2 ∨ k = 3) with rfl | rfl | rfl | rfl <;> rfl
  d := rfl
  t := rfl
  x := rfl
  k := rfl
  dr := fun k hk => by rcases (by omega : k = 0 ∨ k = 1 ∨ k = 2 ∨ k = 3 ∨ k = 4) with rfl | rfl | rfl | rfl | rfl <;> rfl
  a := rfl
theorem Ps.one (h : Heap) : Ps h [h] := ⟨fun g hg => by rw [List.mem_singleton.1 hg]; exact Heap.le.refl h, List.pairwise_singleton _ _⟩
theorem Ps.perm {H : Heap} {gs gs' : List Heap} (h : Ps H gs) (hp : gs.Perm gs') : Ps H gs' :=
  ⟨fun g hg => h.1 g (hp.mem_iff.2 hg), (hp.pairwise_iff fun {x y} (a : disj x y) => a.symm).1 h.2⟩
theorem F266_ok {N : Num} {Γ : Ctx} [GoodC Γ] (H33 : Sat (S33 N) (Γ 33)) (H28 : Sat (S28 N) (Γ 28)) (H44 : Sat (S44 N) (Γ 44)) (H170 : Sat (S170 N) (Γ 170)) : Sat (S266 N) (SF N Γ F266) := by
  rintro _ h K ⟨c, rv, rs, rfl, hrs, hrl, hrn, hK1, hK2⟩
  refine i_fun rfl ?_
  simp only [F266, Ze, Nat.reduceSub, Nat.reduceAdd, aggC]
  refine sw0 ?_
  refine i_meet_alt (fun env H => ∃ p rv' mk gw gr gk, Ps H [h, gr, gk, gw] ∧ objF gw p 45 (newF c rv' mk) ∧ Sl Rl.enc gr rv' rs ∧ MapB encKS encBv gk mk [] [] 0 ∧
    env = [some (aggC c), some rv, some (aggC c), none, none, some (.pointer (some ⟨p, 0, none⟩)), none, none, none, none, none, none, none, none, none, none, none, none, none, none, none, none, none, none, none, none, none, none, none, none, none, none, none, none, none, none, none, none, none, none, none, none, none, none, none, none, none]) ?_ ?_
  rotate_left
  · refine i_alt ?_ ?_
    · refine sw0 ?_
      refine i_app Rl.enc_len (fun _ => rfl) (OwnS.nil (Heap.le.refl h)) hrs (by simp only [List.length_nil]; omega) fun v1 h1 ho1 => ?_
      refine sw0 ?_
      refine i_le (le_one ho1.1) ?_
      refine sw0 ?_
      refine i_mnew (ek := encKS) (ev := encBv) fun m h2 hm hle2 hmb => ?_
      refine sw0 ?_
      refine i_lew (le_one (ho1.1.trans hle2)) ?_
      have OV := ho1.one
      refine sw2 OV.1 OV.2 ?_
      refine i_newO fun p h3 hle3 hp hob => ?_
      refine sw0 ?_
      exact k_meet _ (by try simp only [Pf]; rfl) ⟨p, v1, m, _, _, _, (((Ps.one h).new ho1.1).new hle2).new hle3, hob, ho1.slf Rl.enc_len, hmb, rfl⟩
    · refine sw0 ?_
      refine i_mnew (ek := encKS) (ev := encBv) fun m h1 hm hle1 hmb => ?_
      refine sw0 ?_
      refine i_le (le_one hle1) ?_
      refine sw0 ?_
      refine i_app Rl.enc_len (fun _ => rfl) (OwnS.nil (Heap.le.refl h1)) (hrs.le hle1) (by simp only [List.length_nil]; omega) fun v1 h2 ho1 => ?_
      have OV := ho1.one
      refine sw0 ?_
      refine i_lew (le_one (hle1.trans ho1.1)) ?_
      refine sw2 OV.1 OV.2 ?_
      refine i_newO fun p h3 hle3 hp hob => ?_
      refine sw0 ?_
      exact k_meet _ (by try simp only [Pf]; rfl) ⟨p, v1, m, _, _, _, ((((Ps.one h).new hle1).new ho1.1).new hle3).perm (List.Perm.cons _ (List.Perm.swap _ _ _)), hob, ho1.slf Rl.enc_len, hmb, rfl⟩
  rintro env H0 ⟨p, rv', mk, gw, gr, gk, Q, hob, hr', hmb, rfl⟩
  unfold watchF at hK1 hK2
  refine sw1 @aggC.eq_1 ?_
  refine i_call H33 ⟨c 0, c 1, rfl, fun hb => ?_, fun hb pd h1 hpd hle1 hP => ?_⟩
  · unfold epBad at hb
    rw [if_pos (show cfgBad c by unfold cfgBad; omega)] at hK1
    refine sw0 ?_
    refine i_stF hob (Q.lt 3 rfl) 35 rfl rfl oM fun g2 h2 st2 ho2 => ?_
    refine sw1 @errV_succ ?_
    exact hK1 oM h2 ((Q.step 3 rfl st2).lt 0 rfl)
  unfold epBad at hb
  have Q1 := Q.new hle1
  refine sw0 ?_
  refine i_stF hob (Q1.lt 3 rfl) 35 rfl rfl oM fun g2 h2 st2 ho2 => ?_
  have Q2 := Q1.step 3 rfl st2
  refine sw0 ?_
  refine i_call H28 ⟨c 2, c 3, rfl, fun hb2 h3 hle3 => ?_, fun hb2 pt h3 hpt hle3 hT => ?_⟩
  · unfold newBad at hb2
    rw [if_pos (show cfgBad c by unfold cfgBad; omega)] at hK1
    refine sw0 ?_
    refine i_stF ho2 ((Q2.up hle3).lt 3 rfl) 36 rfl rfl oM fun g4 h4 st4 ho4 => ?_
    refine sw1 @errV_succ ?_
    exact hK1 oM h4 (((Q2.up hle3).step 3 rfl st4).lt 0 rfl)
  unfold newBad at hb2
  have Q3 := Q2.new hle3
  refine sw0 ?_
  refine i_stF ho2 (Q3.lt 3 rfl) 36 rfl rfl oM fun g4 h4 st4 ho4 => ?_
  have Q4 := Q3.step 3 rfl st4
  have C36 := (ho4.le (Q4.lt 3 rfl)).cell (j := 36) oM
  rw [upF_eq] at C36
  refine sw1 @C36 ?_
  refine i_call H44 ⟨pt, (c 2).toNat, (c 3).toNat, c 4, c 5, rfl, fun hb3 => ?_, fun hb3 px h5 hpx hle5 hX => ?_⟩
  · unfold inBad at hb3
    rw [if_pos (show cfgBad c by unfold cfgBad; omega)] at hK1
    refine sw0 ?_
    refine i_stF ho4 (Q4.lt 3 rfl) 37 rfl rfl oM fun g6 h6 st6 ho6 => ?_
    refine sw1 @errV_succ ?_
    exact hK1 oM h6 ((Q4.step 3 rfl st6).lt 0 rfl)
  unfold inBad at hb3
  rw [if_neg (show ¬ cfgBad c by unfold cfgBad; omega)] at hK1 hK2
  have Q5 := Q4.new hle5
  refine sw0 ?_
  refine i_stF ho4 (Q5.lt 3 rfl) 37 rfl rfl oM fun g6 h6 st6 ho6 => ?_
  have Q6 := Q5.step 3 rfl st6
  simp only [List.set, List.cons_append, List.nil_append] at Q6
  refine sw0 ?_
  clear Q5 Q4 Q3 Q2 Q1 Q
  refine i_loop (fun i : Nat => [none, some rv, none, none, none, some (.pointer (some ⟨p, 0, none⟩)), none, none, none, none, none, none, none, none, none, none, none, none, none, none, none, none, none, none, none, none, none, none, none, some (.agg #[.int .i64 (c 6), .int .i64 (c 7), .int .i64 (c 8), .int .i64 (c 9), .int .i64 (c 10), .int .i64 (c 11), .int .i64 (c 12), .int .i64 (c 13), .int .i64 (c 14), .int .i64 (c 15), .int .i64 (c 16), .int .i64 (c 17), .int .i64 (c 18), .int .i64 (c 19), .int .i64 (c 20), .int .i64 (c 21)]), some (.int .i64 (i : Nat)), none, none, none, none, none, none, none, none, none, none, none, none, none, none, none, none])
    (fun i H' => i ≤ 4 ∧ H' = h6 ∧ ∀ k, k < 4 * i → ¬ (c (6 + k) < -1 ∨ 7 < c (6 + k))) (fun i => 4 - i) 0 (by try simp only [Pf]; rfl) ⟨oM, rfl, fun k hk => by omega⟩ ?_
  rintro i H' ⟨hi, rfl, hwb⟩
  have hi1 : IntKind.i64.wrap ((i : Int) + 1) = ((i + 1 : Nat) : Int) := by rw [w64 oM oM]; omega
  refine sw0 ?_
  refine i_cond (fun c1 => ?_) (fun c1 => ?_)
  · have hv := vidxn_c c H' (i := i) oM
    refine sw1 @hv ?_
    refine i_loop (fun j : Nat => [none, some rv, none, none, none, some (.pointer (some ⟨p, 0, none⟩)), none, none, none, none, none, none, none, none, none, none, none, none, none, none, none, none, none, none, none, none, none, none, none, some (.agg #[.int .i64 (c 6), .int .i64 (c 7), .int .i64 (c 8), .int .i64 (c 9), .int .i64 (c 10), .int .i64 (c 11), .int .i64 (c 12), .int .i64 (c 13), .int .i64 (c 14), .int .i64 (c 15), .int .i64 (c 16), .int .i64 (c 17), .int .i64 (c 18), .int .i64 (c 19), .int .i64 (c 20), .int .i64 (c 21)]), some (.int .i64 (i : Nat)), none, none, some (.agg #[.int .i64 (c (6 + 4 * i)), .int .i64 (c (6 + (4 * i + 1))), .int .i64 (c (6 + (4 * i + 2))), .int .i64 (c (6 + (4 * i + 3)))]), some (.int .i64 (j : Nat)), none, none, none, none, none, none, none, none, none, none, none, none])
      (fun j H2 => j ≤ 4 ∧ H2 = H' ∧ ∀ k, k < 4 * i + j → ¬ (c (6 + k) < -1 ∨ 7 < c (6 + k))) (fun j => 4 - j) 0 (by try simp only [Pf]; rfl) ⟨oM, rfl, hwb⟩ ?_
    rintro j H2 ⟨hj, rfl, hwb2⟩
    have hj1 : IntKind.i64.wrap ((j : Int) + 1) = ((j + 1 : Nat) : Int) := by rw [w64 oM oM]; omega
    refine sw0 ?_
    refine i_cond (fun c2 => ?_) (fun c2 => ?_)
    · have hv2 : (#[Value.int .i64 (c (6 + 4 * i)), .int .i64 (c (6 + (4 * i + 1))), .int .i64 (c (6 + (4 * i + 2))), .int .i64 (c (6 + (4 * i + 3)))] : Array Value)[j]? = some (.int .i64 (c (6 + (4 * i + j)))) := vidx_c _ _ _ _ (fun j => c (6 + (4 * i + j))) rfl rfl rfl rfl (j := j) oM
      refine sw1 @hv2 ?_
      refine i_cond (fun c3 => ?_) (fun c3 => ?_)
      · have : whBad c = true := by
          unfold whBad
          rw [List.any_eq_true]
          exact ⟨4 * i + j, List.mem_range.2 oM, by rw [decide_eq_true_eq]; omega⟩
        rw [if_pos this] at hK1
        refine sw1 @errV_succ ?_
        exact hK1 oM H2 (Q6.lt 0 rfl)
      · refine sw1 @hj1 ?_
        refine k_loop (j + 1) oM sE ⟨oM, rfl, fun k hk => ?_⟩
        by_cases e : k < 4 * i + j
        · exact hwb2 k e
        · have : k = 4 * i + j := oM
          subst this; omega
    · have : j = 4 := oM
      subst this
      refine sw1 @hi1 ?_
      exact k_loop (i + 1) oM sE ⟨oM, rfl, fun k hk => hwb2 k oM⟩
  have hi4 : i = 4 := oM
  subst hi4
  have hwf : whBad c = false := by
    unfold whBad
    rw [List.any_eq_false]
    intro k hk
    have := hwb k (by have := List.mem_range.1 hk; omega)
    simpa using this
  rw [if_neg (by rw [hwf]; simp)] at hK1 hK2
  have Rr := (hrs.le (Q6.lt 0 rfl)).rules 6 Rl.enc_len default
  refine sw1 @Rr ?_
  refine i_cond (fun c4 => ?_) (fun c4 => ?_)
  · rw [if_pos oM] at hK1
    refine sw1 @errV_succ ?_
    exact hK1 oM H' (Q6.lt 0 rfl)
  rw [if_neg oM] at hK1 hK2
  refine sw0 ?_
  refine i_mnew (ek := encKS) (ev := encBv) fun m h7 hm7 hle7 hmb7 => ?_
  have Q7 := Q6.new hle7
  have Rr := (hrs.le (Q7.lt 0 rfl)).rules 6 Rl.enc_len default
  refine sw1 @Rr ?_
  refine i_loop (fun i : Nat => [none, some rv, none, none, none, some (.pointer (some ⟨p, 0, none⟩)), none, none, none, some (.map (some m)), none, none, none, none, none, none, none, none, none, none, none, none, none, none, none, none, none, none, none, none, none, none, none, none, none, none, none, none, none, some rv, some (.int .i64 rs.length), some (.int .i64 (i : Nat)), none, none, none, none, none])
    (fun i H => i ≤ rs.length ∧ rulesF [] rs = rulesF ((rs.take i).map (·.name)) (rs.drop i) ∧ ∃ gn kv bs ck, Ps H [h, gr, gk, g6, fr H0 h1, fr h2 h3, fr h4 h5, gn] ∧ MapB encKS encBv gn m kv bs ck ∧ KnM kv ((rs.take i).map (·.name))) (fun i => rs.length - i) 0 (by try simp only [Pf]; rfl) ⟨oM, rfl, _, [], [], 0, Q7, hmb7, KnM.nil⟩ ?_
  clear Rr Q7 Q6 hmb7
  rintro i H ⟨hi, hrf, gn, kv, bs, ck, Q, hmn, hkn⟩
  have hi1 : IntKind.i64.wrap ((i : Int) + 1) = ((i + 1 : Nat) : Int) := by rw [w64 oM oM]; omega
  have Rr := (hrs.le (Q.lt 0 rfl)).rules 6 Rl.enc_len default
  refine sw0 ?_
  refine i_cond (fun c5 => ?_) (fun c5 => ?_)
  rotate_left
  · have : i = rs.length := oM
    subst this
    rw [List.drop_length] at hrf
    refine sw0 ?_
    have Qf : Ps H [h, g6, gr, fr H0 h1, fr h2 h3, fr h4 h5, gk, fun _ => none] := by
      have q := (Q.take 7).perm (gs' := [h, g6, gr, fr H0 h1, fr h2 h3, fr h4 h5, gk]) ?_
      · exact q.add (fun b o hb => by cases hb) fun x hx b hb => rfl
      · refine List.Perm.cons _ ?_
        have e1 : [gr, gk, g6, fr H0 h1, fr h2 h3, fr h4 h5].Perm [gr, g6, gk, fr H0 h1, fr h2 h3, fr h4 h5] := List.Perm.cons _ (List.Perm.swap _ _ _)
        have e2 : [gr, g6, gk, fr H0 h1, fr h2 h3, fr h4 h5].Perm [g6, gr, gk, fr H0 h1, fr h2 h3, fr h4 h5] := List.Perm.swap _ _ _
        have e3 : [gk, fr H0 h1, fr h2 h3, fr h4 h5].Perm [fr H0 h1, fr h2 h3, fr h4 h5, gk] := List.perm_append_comm (l₁ := [gk]) (l₂ := [fr H0 h1, fr h2 h3, fr h4 h5])
        exact (e1.trans e2).trans ((List.Perm.cons _ (List.Perm.cons _ e3)))
    refine hK2 (by rw [hrf]; rfl) p _ H ?_ ⟨_, rv', .slice none 0 0, pd, pt, px, mk, [], g6, gr, fr H0 h1, fr h2 h3, fr h4 h5, gk, fun _ => none, (Qf.drop 1).sub, { ob := ho6, wf := WF.newW c rs rv' mk pd pt px, rs := hr', dk := hP, tr := hT, ix := hX [], km := ⟨[], 0, hmb⟩, kn := KnM.nil, al := SlB.nil }⟩
    refine ⟨joinL_le fun x hx => Qf.1 x (List.mem_cons_of_mem _ hx), fun b o h1 _ => Qf.lt 0 rfl b o h1, fun b h1 _ => joinL_none fun x hx => ?_⟩
    exact (List.pairwise_cons.1 Qf.2).1 x hx b h1
  have hi2 : i < rs.length := oM
  have hnx : rs.take (i + 1) = rs.take i ++ [rs.getD i default] := take_succ_d default hi2
  have hdr : rs.drop i = rs.getD i default :: rs.drop (i + 1) := by
    rw [List.drop_eq_getElem_cons hi2]; simp [List.getD, List.getElem?_eq_getElem hi2]
  have hrnm := hrn _ (getD_mem default hi2)
  generalize hre : rs.getD i default = r at *
  rw [hdr, rulesF_cons] at hrf
  refine sw3 @Rr @hre @Rl.enc.eq_1 ?_
  refine i_call H170 ⟨r, rfl, hrnm, ?_⟩
  by_cases hf : ruleF r = 0
  · rw [hf, errV_zero]
    rw [if_neg (by simpa using hf)] at hrf
    have L1 := hkn.lkp (hmn.le (Q.lt 7 rfl)) r.name
    refine sw1 @L1 ?_
    refine i_cond (fun c6 => ?_) (fun c6 => ?_)
    · rw [if_pos c6] at hrf
      rw [hrf] at hK1
      refine sw1 @errV_succ ?_
      exact hK1 oM H (Q.lt 0 rfl)
    · rw [if_neg c6] at hrf
      refine sw0 ?_
      refine i_mupd (kb := .str) (ek := encKS) (ev := encBv) hmn (Q.lt 7 rfl) r.name true fun o bs' ck' hmb' st8 _ => ?_
      have Q8 := Q.step 7 rfl st8
      refine sw1 @hi1 ?_
      refine k_loop (i + 1) oM sE ⟨oM, by rw [hnx, List.map_append]; exact hrf, _, _, bs', ck', Q8, hmb', ?_⟩
      have := hkn.add r.name
      rw [if_neg c6] at this
      rw [hnx, List.map_append]; exact this
  · rw [if_pos (by simpa using hf)] at hrf
    rw [hrf] at hK1
    rw [errV_pos N hf]
    have hK1' := hK1 hf
    rw [errV_pos N hf] at hK1'
    refine sw0 ?_
    exact hK1' H (Q.lt 0 rfl)
end Go.Cw
namespace Go.Cw
open Go
def Wa.whr (w : Wa) (s : List UInt8) (e : Int) : Int × Nat := Cw.whr (w.c 2).toNat (w.c 3).toNat w.E s e
noncomputable def Wa.par (w : Wa) (s : List UInt8) (e : Int) : List UInt8 × Nat := if (w.whr s e).2 ≠ 0 then ([], (w.whr s e).2) else (parE (w.c 2).toNat (w.c 3).toNat w.E (w.c 4).toNat (w.c 5).toNat s e.toNat, 0)
def Wa.bytes (w : Wa) : Nat := w.dr 0 + (w.ln 0).2 + (w.ln 1).2 + (w.ln 2).2 + (w.ln 3).2
def S274 (N : Num) : Spec := fun args h K => ∃ g p w s e, args = [.pointer (some ⟨p, 0, none⟩), .string (str s), .int .i64 e] ∧ WO g p w ∧ Heap.le g h ∧ K (.tuple #[.int .i64 (w.whr s e).1, errV N (w.whr s e).2]) h
def S276 : Spec := fun args h K => ∃ g p w, args = [.pointer (some ⟨p, 0, none⟩)] ∧ WO g p w ∧ Heap.le g h ∧ K (.int .i64 (w.E.length : Nat)) h
def S283 : Spec := fun args h K => ∃ g p w, args = [.pointer (some ⟨p, 0, none⟩)] ∧ WO g p w ∧ Heap.le g h ∧ w.al.length ≤ 200000 ∧ ∀ v h', Heap.le h h' → Sl encAl (fr h h') v w.al → K v h'
theorem WO.read {g h : Heap} {p : Nat} {w : Wa} (hw : WO g p w) (hg : Heap.le g h) : ∃ F rv av pd pt px mk kv gw gr gd gt gx gk ga, Ps h [gw, gr, gd, gt, gx, gk, ga] ∧ WP p w F rv av pd pt px mk kv gw gr gd gt gx gk ga := by
  obtain ⟨F, rv, av, pd, pt, px, mk, kv, gw, gr, gd, gt, gx, gk, ga, hps, hw⟩ := hw
  exact ⟨F, rv, av, pd, pt, px, mk, kv, gw, gr, gd, gt, gx, gk, ga, hps.up hg, hw⟩
theorem F276_ok {N : Num} {Γ : Ctx} [GoodC Γ] (H31 : Sat S31 (Γ 31)) : Sat S276 (SF N Γ F276) := by
  rintro _ h K ⟨g, p, w, rfl, hw, hg, hK⟩
  obtain ⟨F, rv, av, pd, pt, px, mk, kv, gw, gr, gd, gt, gx, gk, ga, Q, hw⟩ := hw.read hg
  refine i_fun rfl ?_
  simp only [F276, Ze, Nat.reduceSub, Nat.reduceAdd]
  have C36 := hw.c36 (Q.lt 0 rfl)
  refine sw1 @C36 ?_
  refine i_call H31 ⟨gt, pt, _, _, _, rfl, hw.tr, Q.lt 3 rfl, ?_⟩
  refine sw0 ?_
  exact hK
theorem F274_ok {N : Num} {Γ : Ctx} [GoodC Γ] (H30 : Sat (S30 N) (Γ 30)) : Sat (S274 N) (SF N Γ F274) := by
  rintro _ h K ⟨g, p, w, s, e, rfl, hw, hg, hK⟩
  obtain ⟨F, rv, av, pd, pt, px, mk, kv, gw, gr, gd, gt, gx, gk, ga, Q, hw⟩ := hw.read hg
  refine i_fun rfl ?_
  simp only [F274, Ze, Nat.reduceSub, Nat.reduceAdd]
  have C36 := hw.c36 (Q.lt 0 rfl)
  unfold Wa.whr Cw.whr at hK
  refine sw1 @C36 ?_
  refine i_call H30 ⟨gt, pt, _, _, _, s, e, rfl, hw.tr, Q.lt 3 rfl, fun hb => ?_, fun h0 h1 h2 => ?_, fun h0 h1 h2 => ?_⟩
  · rw [if_pos hb] at hK
    refine sw0 ?_
    exact hK
  · rw [if_neg oM, if_neg h2] at hK
    refine sw0 ?_
    exact hK
  · rw [if_neg oM, if_pos h2] at hK
    refine sw0 ?_
    exact hK
theorem F283_ok {N : Num} {Γ : Ctx} [GoodC Γ] : Sat S283 (SF N Γ F283) := by
  rintro _ h K ⟨g, p, w, rfl, hw, hg, hal, hK⟩
  obtain ⟨F, rv, av, pd, pt, px, mk, kv, gw, gr, gd, gt, gx, gk, ga, Q, hw⟩ := hw.read hg
  refine i_fun rfl ?_
  simp only [F283, Ze, Nat.reduceSub, Nat.reduceAdd]
  have C44 := hw.c44 (Q.lt 0 rfl)
  refine sw1 @C44 ?_
  refine i_app encAl_len (fun _ => rfl) (OwnS.nil (Heap.le.refl h)) (SlB.sl encAl_len (hw.al.le (Q.lt 6 rfl))) (by simp only [List.length_nil]; omega) fun v1 h1 ho1 => ?_
  have O1 := ho1.one
  refine sw0 ?_
  exact hK v1 h1 ho1.1 (ho1.slf encAl_len)
end Go.Cw
namespace Go.Cw
open Go
def lightA (L : List Ac) (most : Int) : Prop := (L.length : Int) ≤ most ∧ (∀ a ∈ L, ¬ ((400 < a.s.length ∧ a.s.length ≤ 2000) ∨ 3000 < a.s.length)) ∧ (L.map fun a => min a.s.length 500).sum < 6000
def S264 : Spec := fun args h K => ∃ v L, ∃ most : Int, args = [v, .int .i64 most] ∧ Sl Ac.enc h v L ∧ most ≤ 1000 ∧ ∀ b, (b = true → lightA L most) → K (.bool b) h
theorem F264_ok {N : Num} {Γ : Ctx} [GoodC Γ] : Sat S264 (SF N Γ F264) := by
  rintro _ h K ⟨v, L, most, rfl, hL, hmost, hK⟩
  have R := hL.rules 7 Ac.enc_len default
  refine i_fun rfl ?_
  simp only [F264, Ze, Nat.reduceSub, Nat.reduceAdd]
  refine sw1 @R ?_
  refine i_cond (fun c1 => ?_) (fun c1 => ?_)
  · refine sw0 ?_
    exact hK false (by simp)
  refine sw0 ?_
  refine i_loop (fun i : Nat => [some v, some (.int .i64 most), none, some (.int .i64 (((L.take i).map fun a => min a.s.length 500).sum : Nat)), some (.int .i64 (i : Nat)), none, none, none])
    (fun i H => i ≤ L.length ∧ H = h ∧ (∀ a ∈ L.take i, ¬ ((400 < a.s.length ∧ a.s.length ≤ 2000) ∨ 3000 < a.s.length)) ∧ ((L.take i).map fun a => min a.s.length 500).sum ≤ 500 * i) (fun i => L.length - i) 0 (by try simp only [Pf]; exact ⟨rfl, rfl⟩) ⟨oM, rfl, by simp, by simp⟩ ?_
  rintro i H ⟨hi, rfl, hsh, hsum⟩
  have hi1 : IntKind.i64.wrap ((i : Int) + 1) = ((i + 1 : Nat) : Int) := by rw [w64 oM oM]; omega
  refine sw1 @R ?_
  refine i_cond (fun c2 => ?_) (fun c2 => ?_)
  rotate_left
  · have : i = L.length := oM
    subst this
    rw [List.take_length] at hsh hsum ⊢
    refine sw0 ?_
    exact hK _ fun hb => ⟨oM, hsh, by have := of_decide_eq_true hb; omega⟩
  have hi2 : i < L.length := oM
  have hnx : L.take (i + 1) = L.take i ++ [L.getD i default] := take_succ_d default hi2
  have hsx : ((L.take (i + 1)).map fun a => min a.s.length 500).sum = ((L.take i).map fun a => min a.s.length 500).sum + min (L.getD i default).s.length 500 := by rw [hnx, List.map_append, List.sum_append]; simp
  generalize hae : L.getD i default = a at *
  refine sw3 @R @hae @Ac.enc.eq_1 ?_
  refine i_cond (fun c3 => ?_) (fun c3 => ?_)
  · refine sw0 ?_
    exact hK false (by simp)
  have hw1 : IntKind.i64.wrap ((((L.take i).map fun a => min a.s.length 500).sum : Nat) + min (a.s.length : Int) 500) = ((((L.take (i + 1)).map fun a => min a.s.length 500).sum : Nat) : Int) := by
    rw [hsx]
    rw [w64 oM oM]; omega
  refine sw5 @R @hae @Ac.enc.eq_1 @hw1 @hi1 ?_
  refine k_loop (i + 1) oM sE ⟨oM, rfl, fun x hx => ?_, by rw [hsx]; omega⟩
  rw [hnx] at hx
  rcases List.mem_append.1 hx with hx | hx
  · exact hsh x hx
  · rw [List.mem_singleton.1 hx]; omega
def lightR (rs : List Rl) : Prop := rs.length ≤ 9 ∧ ∀ r ∈ rs, r.name.length ≤ 50
instance (rs : List Rl) : Decidable (lightR rs) := by unfold lightR; infer_instance
def S265 : Spec := fun args h K => ∃ v rs, args = [v] ∧ Sl Rl.enc h v rs ∧ K (.bool (decide (lightR rs))) h
theorem F265_ok {N : Num} {Γ : Ctx} [GoodC Γ] : Sat S265 (SF N Γ F265) := by
  rintro _ h K ⟨v, rs, rfl, hL, hK⟩
  have R := hL.rules 6 Rl.enc_len default
  refine i_fun rfl ?_
  simp only [F265, Ze, Nat.reduceSub, Nat.reduceAdd]
  refine sw1 @R ?_
  refine i_cond (fun c1 => ?_) (fun c1 => ?_)
  · rw [decide_eq_false (fun e => by have := e.1; omega)] at hK
    refine sw0 ?_
    exact hK
  refine sw0 ?_
  refine i_loop (fun i : Nat => [some v, none, some (.int .i64 (i : Nat)), none, none, none])
    (fun i H => i ≤ rs.length ∧ H = h ∧ ∀ r ∈ rs.take i, r.name.length ≤ 50) (fun i => rs.length - i) 0 (by try simp only [Pf]; rfl) ⟨oM, rfl, by simp⟩ ?_
  rintro i H ⟨hi, rfl, hsh⟩
  have hi1 : IntKind.i64.wrap ((i : Int) + 1) = ((i + 1 : Nat) : Int) := by rw [w64 oM oM]; omega
  refine sw1 @R ?_
  refine i_cond (fun c2 => ?_) (fun c2 => ?_)
  rotate_left
  · have : i = rs.length := oM
    subst this
    rw [List.take_length] at hsh
    rw [decide_eq_true ⟨oM, hsh⟩] at hK
    refine sw0 ?_
    exact hK
  have hi2 : i < rs.length := oM
  have hnx : rs.take (i + 1) = rs.take i ++ [rs.getD i default] := take_succ_d default hi2
  have hmem := getD_mem default hi2
  generalize hae : rs.getD i default = a at *
  refine sw3 @R @hae @Rl.enc.eq_1 ?_
  refine i_cond (fun c3 => ?_) (fun c3 => ?_)
  · rw [decide_eq_false (fun e => by have := e.2 a hmem; omega)] at hK
    refine sw0 ?_
    exact hK
  refine sw1 @hi1 ?_
  refine k_loop (i + 1) oM sE ⟨oM, rfl, fun x hx => ?_⟩
  rw [hnx] at hx
  rcases List.mem_append.1 hx with hx | hx
  · exact hsh x hx
  · rw [List.mem_singleton.1 hx]; omega
end Go.Cw
namespace Go.Cw
open Go
def S267 : Spec := fun args h K => ∃ c rv rs, args = [aggC c, rv] ∧ Sl Rl.enc h rv rs ∧ ∀ h', Heap.le h h' → K (.int .i64 (watchF c rs : Nat)) h'
def newC (c : Nat → Int) : Nat → Value := fun k => .int .i64 (c k)
theorem F267_ok {N : Num} {Γ : Ctx} [GoodC Γ] (H168 : Sat S168 (Γ 168)) : Sat S267 (SF N Γ F267) := by
  rintro _ h K ⟨c, rv, rs, rfl, hrs, hK⟩
  refine i_fun rfl ?_
  simp only [F267, Ze, Nat.reduceSub, Nat.reduceAdd, aggC]
  refine sw0 ?_
  refine i_newO fun p h1 hle1 hp hob => ?_
  have hob1 : objF h1 p 22 (newC c) := hob.le (fr_le _ _)
  have hC : ∀ k, k < 22 → h1.cell ((⟨p, 0, none⟩ : Addr).add k) = some (.int .i64 (c k)) := fun k hk => hob1.cell hk
  have hC0 := hC 0 oM
  have hC1 := hC 1 oM
  have hC2 := hC 2 oM
  have hC3 := hC 3 oM
  have hC4 := hC 4 oM
  have hC5 := hC 5 oM
  have hK := hK h1 hle1
  unfold watchF at hK
  refine sw6 @hC0 @hC1 @hC2 @hC3 @hC4 @hC5 ?_
  refine i_cond (fun c1 => ?_) (fun c1 => ?_)
  · rw [if_pos (show cfgBad c by unfold cfgBad; omega)] at hK
    refine sw0 ?_
    exact hK
  rw [if_neg (show ¬ cfgBad c by unfold cfgBad; omega)] at hK
  refine sw0 ?_
  refine i_loop (fun i : Nat => [none, some rv, some (.pointer (some ⟨p, 0, none⟩)), none, some (.int .i64 (i : Nat)), none, none, none, none, none, none, none, none, none, none, none, none])
    (fun i H => i ≤ 16 ∧ H = h1 ∧ ∀ k, k < i → ¬ (c (6 + k) < -1 ∨ 7 < c (6 + k))) (fun i => 16 - i) 0 (by try simp only [Pf]; rfl) ⟨oM, rfl, fun k hk => by omega⟩ ?_
  rintro i H ⟨hi, rfl, hwb⟩
  have hi1 : IntKind.i64.wrap ((i : Int) + 1) = ((i + 1 : Nat) : Int) := by rw [w64 oM oM]; omega
  refine sw0 ?_
  refine i_cond (fun c2 => ?_) (fun c2 => ?_)
  · have hq : Int.tdiv (i : Int) 4 = ((i / 4 : Nat) : Int) := rfl
    have hr : Int.tmod (i : Int) 4 = ((i % 4 : Nat) : Int) := rfl
    have hwq : IntKind.i64.wrap ((i / 4 : Nat) : Int) = ((i / 4 : Nat) : Int) := w64 oM oM
    have hwr : IntKind.i64.wrap ((i % 4 : Nat) : Int) = ((i % 4 : Nat) : Int) := w64 oM oM
    have hCi : H.cell (((((⟨p, 0, none⟩ : Addr).add 6).add (i / 4 * 4))).add (i % 4)) = some (.int .i64 (c (6 + i))) := by
      rw [add_add, add_add, show 6 + i / 4 * 4 + i % 4 = 6 + i by omega]
      exact hC (6 + i) oM
    refine sw5 @hq @hr @hwq @hwr @hCi ?_
    refine i_cond (fun c3 => ?_) (fun c3 => ?_)
    · have : whBad c = true := by
        unfold whBad
        rw [List.any_eq_true]
        exact ⟨i, List.mem_range.2 oM, by rw [decide_eq_true_eq]; omega⟩
      rw [if_pos this] at hK
      refine sw0 ?_
      exact hK
    · refine sw1 @hi1 ?_
      refine k_loop (i + 1) oM sE ⟨oM, rfl, fun k hk => ?_⟩
      by_cases e : k < i
      · exact hwb k e
      · have : k = i := oM
        subst this; omega
  have hi4 : i = 16 := oM
  subst hi4
  have hwf : whBad c = false := by
    unfold whBad
    rw [List.any_eq_false]
    intro k hk
    have := hwb k (by have := List.mem_range.1 hk; omega)
    simpa using this
  rw [if_neg (by rw [hwf]; simp)] at hK
  have Rr := (hrs.le hle1).rules 6 Rl.enc_len default
  refine sw1 @Rr ?_
  refine i_cond (fun c4 => ?_) (fun c4 => ?_)
  · rw [if_pos oM] at hK
    refine sw0 ?_
    exact hK
  rw [if_neg oM] at hK
  refine sw0 ?_
  refine i_loop (fun i : Nat => [none, some rv, none, none, none, some (.int .i64 (i : Nat)), none, none, none, none, none, none, none, none, none, none, none])
    (fun i H' => i ≤ rs.length ∧ H' = H ∧ rulesF [] rs = rulesF ((rs.take i).map (·.name)) (rs.drop i)) (fun i => rs.length - i) 0 (by try simp only [Pf]; rfl) ⟨oM, rfl, rfl⟩ ?_
  rintro i H' ⟨hi, rfl, hrf⟩
  have hi1 : IntKind.i64.wrap ((i : Int) + 1) = ((i + 1 : Nat) : Int) := by rw [w64 oM oM]; omega
  refine sw1 @Rr ?_
  refine i_cond (fun c5 => ?_) (fun c5 => ?_)
  rotate_left
  · have : i = rs.length := oM
    subst this
    rw [List.drop_length] at hrf
    rw [hrf] at hK
    refine sw0 ?_
    exact hK
  have hi2 : i < rs.length := oM
  have hnx : rs.take (i + 1) = rs.take i ++ [rs.getD i default] := take_succ_d default hi2
  have hdr : rs.drop i = rs.getD i default :: rs.drop (i + 1) := by
    rw [List.drop_eq_getElem_cons hi2]; simp [List.getD, List.getElem?_eq_getElem hi2]
  generalize hre : rs.getD i default = r at *
  rw [hdr, rulesF_cons] at hrf
  refine sw3 @Rr @hre @Rl.enc.eq_1 ?_
  refine i_call H168 ⟨r, rfl, ?_⟩
  by_cases hf : ruleF r = 0
  rotate_left
  · rw [if_pos (by simpa using hf)] at hrf
    rw [hrf] at hK
    have h0 : (0 : Int) < (ruleF r : Nat) := oM
    refine sw1 @h0 ?_
    exact hK
  rw [if_neg (by simpa using hf)] at hrf
  rw [hf]
  refine sw0 ?_
  refine i_loop (fun k : Nat => [none, some rv, none, none, none, some (.int .i64 (i : Nat)), none, some (.int .i64 (k : Nat)), none, none, none, none, none, none, none, none, none])
    (fun k H2 => k ≤ i ∧ H2 = H' ∧ r.name ∉ (rs.take k).map (·.name)) (fun k => i - k) 0 (by try simp only [Pf]; rfl) ⟨oM, rfl, by simp⟩ ?_
  rintro k H2 ⟨hk, rfl, hkn⟩
  have hk1 : IntKind.i64.wrap ((k : Int) + 1) = ((k + 1 : Nat) : Int) := by rw [w64 oM oM]; omega
  refine sw0 ?_
  refine i_cond (fun c6 => ?_) (fun c6 => ?_)
  rotate_left
  · have : k = i := oM
    subst this
    rw [if_neg hkn] at hrf
    refine sw1 @hi1 ?_
    exact k_loop (k + 1) oM sE ⟨oM, rfl, by rw [hnx, List.map_append]; exact hrf⟩
  have hk2 : k < rs.length := oM
  have hnk : rs.take (k + 1) = rs.take k ++ [rs.getD k default] := take_succ_d default hk2
  have hks : (rs.getD k default).name ∈ (rs.take i).map (·.name) := by
    refine List.mem_map.2 ⟨_, ?_, rfl⟩
    rw [List.getD_eq_getElem?_getD, List.getElem?_eq_getElem hk2]
    exact List.mem_take_iff_getElem.2 ⟨k, oM, rfl⟩
  generalize hqe : rs.getD k default = q at *
  refine sw4 @Rr @hre @hqe @Rl.enc.eq_1 ?_
  refine i_cond (fun c7 => ?_) (fun c7 => ?_)
  · rw [if_pos (by rw [← c7]; exact hks)] at hrf
    rw [hrf] at hK
    refine sw0 ?_
    exact hK
  · refine sw1 @hk1 ?_
    refine k_loop (k + 1) oM sE ⟨oM, rfl, ?_⟩
    rw [hnk, List.map_append, List.mem_append, List.map_cons, List.map_nil, List.mem_singleton]
    rintro (e | e)
    · exact hkn e
    · exact c7 e.symm
theorem watchF_new {c : Nat → Int} {rs : List Rl} (h : watchF c rs = 0) : (newW c rs).Ok 0 := by
  unfold watchF at h
  split at h
  · cases h
  rename_i h1
  split at h
  · cases h
  rename_i h2
  split at h
  · cases h
  rename_i h3
  unfold cfgBad at h1
  have hrf : ∀ (l : List Rl) seen, rulesF seen l = 0 → ∀ r ∈ l, ruleF r = 0 := by
    intro l
    induction l with
    | nil => intro _ _ r hr; cases hr
    | cons a l ih =>
      intro seen h r hr
      rw [rulesF_cons] at h
      split at h
      · rename_i e; exact absurd h e
      · rename_i e
        split at h
        · cases h
        · rcases List.mem_cons.1 hr with rfl | hr
          · simpa using e
          · exact ih _ h r hr
  refine ⟨by simp only [newW]; omega, by simp only [newW]; omega, by simp only [newW]; omega, by simp only [newW]; omega, by simp only [newW]; omega, by simp only [newW]; omega, fun k hk => ?_, by simp only [newW]; omega, hrf _ _ h, by simp [newW], by simp [newW], rfl, by simp [newW], List.Pairwise.nil, by simp [newW], by simp [newW, clos], by simp [newW], by simp [newW]⟩
  have : ¬ (c (6 + k) < -1 ∨ 7 < c (6 + k)) := by
    intro e
    apply h2
    unfold whBad
    rw [List.any_eq_true]
    exact ⟨k, List.mem_range.2 hk, by rw [decide_eq_true_eq]; exact e⟩
  simp only [newW]; omega
def S294 : Spec := fun args h K => ∃ c rv rs, args = [aggC c, rv] ∧ Sl Rl.enc h rv rs ∧
  (¬ (lightR rs ∧ watchF c rs = 0) → ∀ h', Heap.le h h' → K (.tuple #[.pointer none, .bool false]) h') ∧
  (lightR rs ∧ watchF c rs = 0 → ∀ p g' h', Step (fun _ => none) h g' h' → WO g' p (newW c rs) → K (.tuple #[.pointer (some ⟨p, 0, none⟩), .bool true]) h')
theorem F294_ok {N : Num} {Γ : Ctx} [GoodC Γ] (H265 : Sat S265 (Γ 265)) (H266 : Sat (S266 N) (Γ 266)) : Sat S294 (SF N Γ F294) := by
  rintro _ h K ⟨c, rv, rs, rfl, hrs, hK1, hK2⟩
  refine i_fun rfl ?_
  simp only [F294, Ze, Nat.reduceSub, Nat.reduceAdd]
  refine sw1 @aggC.eq_1 ?_
  refine i_call H265 ⟨rv, rs, rfl, hrs, ?_⟩
  by_cases hl : lightR rs
  rotate_left
  · rw [decide_eq_false hl]
    refine sw0 ?_
    exact hK1 (fun e => hl e.1) h (Heap.le.refl h)
  rw [decide_eq_true hl]
  refine sw0 ?_
  refine i_call H266 ⟨c, rv, rs, rfl, hrs, by have := hl.1; omega, fun r hr => by have := hl.2 r hr; omega, fun hf h1 hle1 => ?_, fun hf p g1 h1 st1 hW => ?_⟩
  · rw [errV_pos N hf]
    refine sw0 ?_
    exact hK1 (fun e => hf e.2) h1 hle1
  · refine sw0 ?_
    exact hK2 ⟨hl, hf⟩ p g1 h1 st1 hW
end Go.Cw
namespace Go.Cw
open Go
theorem al_eq (h : Heap) (a b : Al) (n : Bool) : o2V h (.eqv (.flat [.int, .int, .str]) n) (.v (.agg #[.int .i64 a.rule, .int .i64 a.epoch, .string (str a.tag)])) (.v (.agg #[.int .i64 b.rule, .int .i64 b.epoch, .string (str b.tag)])) = some (.v (.bool (if n then decide (a ≠ b) else decide (a = b)))) := by
  have key : cellsEq [.int, .int, .str] [.int .i64 a.rule, .int .i64 a.epoch, .string (str a.tag)] [.int .i64 b.rule, .int .i64 b.epoch, .string (str b.tag)] = some (decide (a = b)) := by
    simp only [cellsEq_int, cellsEq_str, cellsEq_nil]
    obtain ⟨a1, a2, a3⟩ := a
    obtain ⟨b1, b2, b3⟩ := b
    simp only [Al.mk.injEq]
    by_cases e1 : a1 = b1 <;> by_cases e2 : a2 = b2 <;> by_cases e3 : a3 = b3 <;> simp [e1, e2, e3]
  simp only [o2V, eqV]
  rw [key]
  cases n <;> simp
end Go.Cw
namespace Go.Cw
open Go
def tickS : List UInt8 := [116, 105, 99, 107]
def Wa.act (w : Wa) (a : Ac) : Wa :=
  if a.kind ≠ tickS then (if feedF a.n a.s = 0 then w.feed a.n.toNat a.s else w)
  else if a.n < 0 ∨ 1000 - (w.now : Int) < a.n then w else w.tick a.n.toNat
def Wa.plays (w : Wa) (L : List Ac) : Wa := L.foldl Wa.act w
def acLen (a : Ac) : Nat := if feedF a.n a.s = 0 then a.s.length else 0
def acSum (L : List Ac) : Nat := (L.map acLen).sum
theorem feedF_r {n : Int} {s : List UInt8} (h : feedF n s = 0) : 0 ≤ n ∧ n ≤ 3 ∧ s.length ≤ 2000 := by
  unfold feedF at h
  split at h
  · cases h
  · split at h
    · cases h
    · omega
theorem Wa.Ok.act {w : Wa} {fed : Nat} {a : Ac} (h : w.Ok fed) (hf : fed + acLen a ≤ 20000) : (w.act a).Ok (fed + acLen a) := by
  unfold Wa.act
  split
  · split
    · rename_i e1 e2
      obtain ⟨r1, r2, r3⟩ := feedF_r e2
      have := h.feed (reader := a.n.toNat) (s := a.s) oM
      unfold acLen; rw [if_pos e2]; exact this
    · exact h.mono oM
  · split
    · exact h.mono oM
    · exact (h.tick oM oM).mono oM
theorem acSum_cons (a : Ac) (L : List Ac) : acSum (a :: L) = acLen a + acSum L := by simp [acSum]
theorem acSum_app (L M : List Ac) : acSum (L ++ M) = acSum L + acSum M := by simp [acSum]
theorem Wa.Ok.plays {L : List Ac} : ∀ {w : Wa} {fed : Nat}, w.Ok fed → fed + acSum L ≤ 20000 → (w.plays L).Ok (fed + acSum L) := by
  induction L with
  | nil => intro w fed h _; exact h
  | cons a L ih =>
    intro w fed h hf
    rw [acSum_cons] at hf ⊢
    have := ih (h.act (a := a) oM) oM
    rw [← Nat.add_assoc]; exact this
theorem lightA_sum {L : List Ac} {most : Int} (h : lightA L most) : acSum L < 6000 := by
  obtain ⟨_, h2, h3⟩ := h
  have : ∀ M : List Ac, (∀ a ∈ M, ¬ ((400 < a.s.length ∧ a.s.length ≤ 2000) ∨ 3000 < a.s.length)) → acSum M ≤ (M.map fun a => min a.s.length 500).sum := by
    intro M
    induction M with
    | nil => intro _; simp [acSum]
    | cons a M ih =>
      intro hM
      have h4 := ih fun x hx => hM x (List.mem_cons_of_mem _ hx)
      have h5 := hM a (by simp)
      rw [acSum_cons, List.map_cons, List.sum_cons]
      have : acLen a ≤ min a.s.length 500 := by
        unfold acLen
        split
        · rename_i e
          have := (feedF_r e).2.2
          omega
        · omega
      omega
  exact Nat.lt_of_le_of_lt (this L h2) h3
theorem acSum_take (L : List Ac) (i : Nat) : acSum (L.take i) ≤ acSum L := by
  conv => rhs; rw [← List.take_append_drop i L]
  rw [acSum_app]; omega
theorem Sl.mono {α : Type} {enc : α → List Value} {h h' : Heap} {v : Value} {l : List α} (a : Sl enc h v l) (hl : Heap.le h h') : Sl enc h' v l := a.le hl
def S295 : Spec := fun args h K => ∃ g f p w fed v L, args = [.pointer (some ⟨p, 0, none⟩), v] ∧ WO g p w ∧ Heap.le g h ∧ Sl Ac.enc f v L ∧ Heap.le f h ∧ disj f g ∧ w.Ok fed ∧ fed + acSum L ≤ 20000 ∧ L.length ≤ 1000 ∧
  (∀ h', Heap.le f h' → K (.bool false) h') ∧ (∀ g' h', Step g h g' h' → WO g' p (w.plays L) → K (.bool true) h')
theorem F295_ok {N : Num} {Γ : Ctx} [GoodC Γ] (H271 : Sat (S271 N) (Γ 271)) (H269 : Sat (S269 N) (Γ 269)) (H276 : Sat S276 (Γ 276)) : Sat S295 (SF N Γ F295) := by
  rintro _ h K ⟨g, f, p, w, fed, v, L, rfl, hw, hg, hL, hfh, hdis, hok, hfed, hll, hK1, hK2⟩
  have hfr : Heap.le f (rest g h) := rest_disj hfh hdis
  have Q0 : Ps h [rest g h, g] := by
    refine ⟨fun x hx => ?_, ?_⟩
    · simp only [List.mem_cons, List.not_mem_nil, or_false] at hx
      rcases hx with rfl | rfl
      · exact rest_le _ _
      · exact hg
    · refine List.pairwise_cons.2 ⟨fun x hx b hb => ?_, List.pairwise_singleton _ _⟩
      rw [List.mem_singleton.1 hx]
      exact Classical.byContradiction fun e => hb (rest_s e)
  refine i_fun rfl ?_
  simp only [F295, Ze, Nat.reduceSub, Nat.reduceAdd]
  refine sw0 ?_
  refine i_loop (fun i : Nat => [some (.pointer (some ⟨p, 0, none⟩)), some v, none, some (.int .i64 (i : Nat)), none, none, none, none, none, none, none, none, none, none])
    (fun i H => i ≤ L.length ∧ ∃ gW, Ps H [rest g h, gW] ∧ WO gW p (w.plays (L.take i))) (fun i => L.length - i) 0 (by try simp only [Pf]; rfl) ⟨oM, g, Q0, hw⟩ ?_
  clear hw Q0
  rintro i H ⟨hi, gW, Q, hW⟩
  have hi1 : IntKind.i64.wrap ((i : Int) + 1) = ((i + 1 : Nat) : Int) := by rw [w64 oM oM]; omega
  have R := (hL.le (hfr.trans (Q.lt 0 rfl))).rules 7 Ac.enc_len default
  refine sw1 @R ?_
  refine i_cond (fun c1 => ?_) (fun c1 => ?_)
  rotate_left
  · have : i = L.length := oM
    subst this
    rw [List.take_length] at hW
    refine sw0 ?_
    exact hK2 _ _ (Q.step1 hg) hW
  have hi2 : i < L.length := oM
  have hnx : L.take (i + 1) = L.take i ++ [L.getD i default] := take_succ_d default hi2
  have hoki := hok.plays (L := L.take i) (by have := acSum_take L i; omega)
  have hsum := acSum_take L (i + 1)
  rw [hnx, acSum_app] at hsum
  generalize hae : L.getD i default = a at *
  have hnw : w.plays (L.take (i + 1)) = (w.plays (L.take i)).act a := by rw [hnx]; unfold Wa.plays; rw [List.foldl_append]; rfl
  have hacl : acSum [a] = acLen a := by simp [acSum]
  rw [hacl] at hsum
  generalize w.plays (L.take i) = wi at *
  unfold Wa.act at hnw
  refine sw3 @R @hae @Ac.enc.eq_1 ?_
  refine i_cond (fun c2 => ?_) (fun c2 => ?_)
  · rw [if_pos (by simpa [tickS] using c2)] at hnw
    refine sw3 @R @hae @Ac.enc.eq_1 ?_
    by_cases hff : feedF a.n a.s = 0
    · rw [if_pos hff] at hnw
      have hla : acLen a = a.s.length := by unfold acLen; rw [if_pos hff]
      refine i_call H271 ⟨gW, p, wi, _, a.n, a.s, rfl, hW, Q.lt 1 rfl, hoki, fun _ => by omega, fun hn => absurd hff hn, fun _ g2 h2 st2 hW2 => ?_⟩
      have Q2 := Q.step 1 rfl st2
      refine sw1 @hi1 ?_
      exact k_loop (i + 1) oM sE ⟨oM, g2, Q2, by rw [hnw]; exact hW2⟩
    · rw [if_neg hff] at hnw
      refine i_call H271 ⟨gW, p, wi, _, a.n, a.s, rfl, hW, Q.lt 1 rfl, hoki, fun e => absurd e hff, fun hn => ?_, fun e => absurd e hff⟩
      refine sw1 @hi1 ?_
      exact k_loop (i + 1) oM sE ⟨oM, gW, Q, by rw [hnw]; exact hW⟩
  rw [if_neg (by simpa [tickS] using c2)] at hnw
  have hn0 := hoki.now
  refine sw3 @R @hae @Ac.enc.eq_1 ?_
  refine i_call H269 ⟨gW, p, wi, _, a.n, rfl, hW, Q.lt 1 rfl, hoki, oM, fun hb => ?_, fun m hm hmn g2 h2 st2 hW2 => ?_⟩
  · rw [if_pos hb] at hnw
    refine sw0 ?_
    refine i_call H276 ⟨gW, p, wi, rfl, hW, Q.lt 1 rfl, ?_⟩
    refine sw0 ?_
    refine i_cond (fun c3 => ?_) (fun c3 => ?_)
    · refine sw0 ?_
      exact hK1 H (hfr.trans (Q.lt 0 rfl))
    · refine sw1 @hi1 ?_
      exact k_loop (i + 1) oM sE ⟨oM, gW, Q, by rw [hnw]; exact hW⟩
  · rw [if_neg oM] at hnw
    have hmt : a.n.toNat = m := oM
    rw [hmt] at hnw
    have Q2 := Q.step 1 rfl st2
    refine sw0 ?_
    refine i_call H276 ⟨g2, p, _, rfl, hW2, Q2.lt 1 rfl, ?_⟩
    refine sw0 ?_
    refine i_cond (fun c3 => ?_) (fun c3 => ?_)
    · refine sw0 ?_
      exact hK1 h2 (hfr.trans (Q2.lt 0 rfl))
    · refine sw1 @hi1 ?_
      exact k_loop (i + 1) oM sE ⟨oM, g2, Q2, by rw [hnw]; exact hW2⟩
end Go.Cw
namespace Go.Cw
open Go
def actOk (a : Ac) : Prop := a.kind ≠ tickS ∧ feedF a.n a.s = 0
instance (a : Ac) : Decidable (actOk a) := by unfold actOk; infer_instance
def lnA (ln : Nat → List UInt8 × Nat) (a : Ac) : Nat → List UInt8 × Nat :=
  if actOk a then upN ln a.n.toNat ((feed ((ln a.n.toNat).1 ++ a.s)).2.1, (ln a.n.toNat).2 + (feed ((ln a.n.toNat).1 ++ a.s)).2.2) else ln
def tagsF (fs : List Fr) : List (List UInt8) := fs.flatMap fun f => f.reads.map (·.tag)
def rdA (ln : Nat → List UInt8 × Nat) (a : Ac) : List (List UInt8) := if actOk a then tagsF (feed ((ln a.n.toNat).1 ++ a.s)).1 else []
def readsA (ln : Nat → List UInt8 × Nat) : List Ac → List (List UInt8)
  | [] => []
  | a :: L => rdA ln a ++ readsA (lnA ln a) L
def lnsA (ln : Nat → List UInt8 × Nat) (L : List Ac) : Nat → List UInt8 × Nat := L.foldl lnA ln
theorem readsA_snoc : ∀ (L : List Ac) (ln : Nat → List UInt8 × Nat) (a : Ac), readsA ln (L ++ [a]) = readsA ln L ++ rdA (lnsA ln L) a := by
  intro L
  induction L with
  | nil => intro ln a; simp [readsA, lnsA]
  | cons b L ih => intro ln a; simp only [List.cons_append, readsA, ih, List.append_assoc]; rfl
def ln0 : Nat → List UInt8 × Nat := fun _ => ([], 0)
structure TP (l D : List (List UInt8)) : Prop where
  nd : l.Nodup
  le : l.length ≤ 40
  sub : ∀ t ∈ l, t ∈ D
  all : l.length < 40 → ∀ t ∈ D, t ∈ l
theorem TP.nil : TP [] [] := ⟨List.Pairwise.nil, by simp, fun t h => h, fun _ t h => h⟩
theorem TP.full {l D D' : List (List UInt8)} (h : TP l D) (hl : l.length = 40) : TP l (D ++ D') := ⟨h.nd, h.le, fun t ht => List.mem_append_left _ (h.sub t ht), fun e => by omega⟩
theorem TP.old {l D : List (List UInt8)} {t : List UInt8} (h : TP l D) (ht : t ∈ l) : TP l (D ++ [t]) := ⟨h.nd, h.le, fun x hx => List.mem_append_left _ (h.sub x hx), fun e x hx => by
  rcases List.mem_append.1 hx with hx | hx
  · exact h.all e x hx
  · rw [List.mem_singleton.1 hx]; exact ht⟩
theorem TP.new {l D : List (List UInt8)} {t : List UInt8} (h : TP l D) (ht : t ∉ l) (hl : l.length < 40) : TP (l ++ [t]) (D ++ [t]) := ⟨List.nodup_append.2 ⟨h.nd, by simp, fun x hx y hy e => by simp at hy; subst hy; subst e; exact ht hx⟩, by simp; omega, fun x hx => by
  rcases List.mem_append.1 hx with hx | hx
  · exact List.mem_append_left _ (h.sub x hx)
  · exact List.mem_append_right _ hx, fun _ x hx => by
  rcases List.mem_append.1 hx with hx | hx
  · exact List.mem_append_left _ (h.all hl x hx)
  · exact List.mem_append_right _ hx⟩
structure LF (F : Nat → Value) (ln : Nat → List UInt8 × Nat) : Prop where
  l1 : ∀ k, k < 4 → F (2 * k) = .string (str (ln k).1)
  l2 : ∀ k, k < 4 → F (2 * k + 1) = .int .i64 ((ln k).2 : Nat)
theorem LF.line {F : Nat → Value} {ln : Nat → List UInt8 × Nat} (h : LF F ln) (k : Nat) (hk : k < 4) (a : List UInt8) (n : Nat) : LF (upF (upF F (2 * k) (.string (str a))) (2 * k + 1) (.int .i64 (n : Nat))) (upN ln k (a, n)) where
  l1 := fun j hj => by
    rw [upF_ne oM]
    by_cases e : j = k
    · subst e; rw [upF_eq, upN_eq]
    · rw [upF_ne oM, upN_ne e]; exact h.l1 j hj
  l2 := fun j hj => by
    by_cases e : j = k
    · subst e; rw [upF_eq, upN_eq]
    · rw [upF_ne oM, upF_ne oM, upN_ne e]; exact h.l2 j hj
def lnTot (ln : Nat → List UInt8 × Nat) : Nat := ((ln 0).1.length + (ln 0).2) + ((ln 1).1.length + (ln 1).2) + ((ln 2).1.length + (ln 2).2) + ((ln 3).1.length + (ln 3).2)
theorem lnTot_one (ln : Nat → List UInt8 × Nat) {k : Nat} (hk : k < 4) : (ln k).1.length + (ln k).2 ≤ lnTot ln := by
  unfold lnTot
  rcases (by omega : k = 0 ∨ k = 1 ∨ k = 2 ∨ k = 3) with rfl | rfl | rfl | rfl <;> omega
theorem lnTot_act (ln : Nat → List UInt8 × Nat) (a : Ac) : lnTot (lnA ln a) ≤ lnTot ln + acLen a := by
  unfold lnA
  split
  · rename_i e
    obtain ⟨r1, r2, r3⟩ := feedF_r e.2
    have h1 := (feed_cnt _ ((ln a.n.toNat).1 ++ a.s) (Nat.le_refl _)).1
    rw [List.length_append] at h1
    have h2 : acLen a = a.s.length := by unfold acLen; rw [if_pos e.2]
    unfold lnTot
    rcases (by omega : a.n.toNat = 0 ∨ a.n.toNat = 1 ∨ a.n.toNat = 2 ∨ a.n.toNat = 3) with e | e | e | e <;> rw [e] at h1 ⊢ <;> simp only [upN] <;> simp <;> omega
  · omega
theorem lnTot_acts (L : List Ac) : ∀ ln, lnTot (lnsA ln L) ≤ lnTot ln + acSum L := by
  induction L with
  | nil => intro ln; simp [lnsA]
  | cons a L ih =>
    intro ln
    have h1 := ih (lnA ln a)
    have h2 := lnTot_act ln a
    rw [acSum_cons]
    have : lnsA ln (a :: L) = lnsA (lnA ln a) L := rfl
    rw [this]; omega
def S296 : Spec := fun args h K => ∃ v L, args = [v] ∧ Sl Ac.enc h v L ∧ L.length ≤ 1000 ∧ acSum L ≤ 10000 ∧ ∀ v' h' l, Heap.le h h' → Sl encT (fr h h') v' l → TP l (readsA ln0 L) → K v' h'
theorem F296_ok {N : Num} {Γ : Ctx} [GoodC Γ] (H24 : Sat S24 (Γ 24)) : Sat S296 (SF N Γ F296) := by
  rintro _ h K ⟨v, L, rfl, hL, hll, hsum, hK⟩
  refine i_fun rfl ?_
  simp only [F296, Ze, Nat.reduceSub, Nat.reduceAdd]
  refine sw0 ?_
  refine i_newO fun p h1 hle1 hp hob => ?_
  have hob1 : objF (fr h h1) p 8 (fun j => ([Value.string (str []), .int .i64 0, .string (str []), .int .i64 0, .string (str []), .int .i64 0, .string (str []), .int .i64 0] : List Value).getD j default) := hob
  have hlf : LF (fun j => ([Value.string (str []), .int .i64 0, .string (str []), .int .i64 0, .string (str []), .int .i64 0, .string (str []), .int .i64 0] : List Value).getD j default) ln0 := ⟨fun k hk => by rcases (by omega : k = 0 ∨ k = 1 ∨ k = 2 ∨ k = 3) with rfl | rfl | rfl | rfl <;> rfl, fun k hk => by rcases (by omega : k = 0 ∨ k = 1 ∨ k = 2 ∨ k = 3) with rfl | rfl | rfl | rfl <;> rfl⟩
  have Q1 : Ps h1 [h, fr h h1, fun _ => none] := ((Ps.one h).new hle1).add (fun b o hb => by cases hb) fun x hx b hb => rfl
  clear hob
  refine sw0 ?_
  refine i_loop (fun s : Nat × Value => [some v, none, some s.2, some (.pointer (some ⟨p, 0, none⟩)), some (.int .i64 (s.1 : Nat)), none, none, none, none, none, none, none, none, none, none, none, none, none, none, none])
    (fun s H => s.1 ≤ L.length ∧ ∃ F gL gO l, Ps H [h, gL, gO] ∧ objF gL p 8 F ∧ LF F (lnsA ln0 (L.take s.1)) ∧ SlB encT 1 gO s.2 l ∧ TP l (readsA ln0 (L.take s.1))) (fun s => L.length - s.1) (0, .slice none 0 0) (by try simp only [Pf]; rfl) ⟨by simp, _, _, _, [], Q1, hob1, hlf, SlB.nil, TP.nil⟩ ?_
  clear hlf hob1 Q1
  rintro ⟨i, v2⟩ H ⟨hi, F, gL, gO, l, Q, hob, hlf, hsl, htp⟩
  dsimp only at hi hlf hsl htp ⊢
  have hi1 : IntKind.i64.wrap ((i : Int) + 1) = ((i + 1 : Nat) : Int) := by rw [w64 oM oM]; omega
  have R := (hL.le (Q.lt 0 rfl)).rules 7 Ac.enc_len default
  refine sw1 @R ?_
  refine i_cond (fun c1 => ?_) (fun c1 => ?_)
  rotate_left
  · have : i = L.length := oM
    subst this
    rw [List.take_length] at htp
    refine sw0 ?_
    refine hK v2 H l (Q.lt 0 rfl) ?_ htp
    have h1 := SlB.sl (enc := encT) (sz := 1) (fun _ => rfl) hsl
    refine h1.le fun b o hb => ?_
    have h2 := Q.dj 2 0 rfl rfl oM b (by rw [hb]; simp)
    simp only [fr, h2]
    exact Q.lt 2 rfl b o hb
  have hi2 : i < L.length := oM
  have hnx : L.take (i + 1) = L.take i ++ [L.getD i default] := take_succ_d default hi2
  have hrs := readsA_snoc (L.take i) ln0 (L.getD i default)
  rw [← hnx] at hrs
  have hls : lnsA ln0 (L.take (i + 1)) = lnA (lnsA ln0 (L.take i)) (L.getD i default) := by rw [hnx]; unfold lnsA; rw [List.foldl_append]; rfl
  have htot := lnTot_acts (L.take i) ln0
  have hsi := acSum_take L i
  have ht0 : lnTot ln0 = 0 := rfl
  generalize hae : L.getD i default = a at *
  generalize lnsA ln0 (L.take i) = ln at *
  generalize readsA ln0 (L.take i) = D at *
  refine sw3 @R @hae @Ac.enc.eq_1 ?_
  refine i_cond (fun c2 => ?_) (fun c2 => ?_)
  · have hna : ¬ actOk a := by
      intro e
      have := feedF_r e.2
      have h2 := e.1
      unfold tickS at h2
      simp only [h2, false_or] at c2
      omega
    unfold rdA at hrs
    unfold lnA at hls
    rw [if_neg hna] at hrs hls
    rw [List.append_nil] at hrs
    refine sw1 @hi1 ?_
    exact k_loop (i + 1, v2) dM sE ⟨dM, F, gL, gO, l, Q, hob, by dsimp only; rw [hls]; exact hlf, hsl, by dsimp only; rw [hrs]; exact htp⟩
  have hya : actOk a := by
    refine ⟨fun e => c2 (.inl (.inl (.inl e))), ?_⟩
    unfold feedF
    rw [if_neg oM, if_neg oM]
  obtain ⟨ya1, ya2, ya3⟩ := feedF_r hya.2
  obtain ⟨r, hr⟩ : ∃ r : Nat, a.n = r := ⟨a.n.toNat, oM⟩
  have hr4 : r < 4 := oM
  unfold rdA at hrs
  unfold lnA at hls
  rw [if_pos hya] at hrs hls
  rw [hr, Int.toNat_natCast] at hrs hls
  have hlk := lnTot_one ln hr4
  have hla : LineAt H ⟨p, 2 * r, none⟩ (ln r).1 (ln r).2 := by
    have := (hob.le (Q.lt 1 rfl)).part2 (j := 2 * r) oM
    rw [hlf.l1 r hr4, hlf.l2 r hr4] at this
    exact this
  have hadr : (⟨p, 0, none⟩ : Addr).add (r * 2) = ⟨p, 2 * r, none⟩ := by rw [addr_add' _ rfl, Nat.zero_add, Nat.mul_comm]
  refine sw5 @R @hae @Ac.enc.eq_1 @hr @hadr ?_
  refine i_call H24 ⟨⟨p, 2 * r, none⟩, _, _, a.s, rfl, hla, oM, oM, fun vf h2 hkp hl2 hfv => ?_⟩
  obtain ⟨gL2, st2, hdm, hob2⟩ := hob.back2 (Q.lt 1 rfl) oM hkp hl2
  have hlf2 := hlf.line r hr4 (feed ((ln r).1 ++ a.s)).2.1 ((ln r).2 + (feed ((ln r).1 ++ a.s)).2.2)
  rw [← hls] at hlf2
  have hfl := (feed_cnt _ ((ln r).1 ++ a.s) (Nat.le_refl _)).2
  have hfsl := feed_len _ ((ln r).1 ++ a.s) (Nat.le_refl _)
  rw [List.length_append] at hfsl
  generalize (feed ((ln r).1 ++ a.s)).1 = fs at *
  have hZ1 : Heap.le (fr H h2) h2 := fr_le' hkp
  have Q2 : Ps h2 [h, gL2, gO, fr H h2] := by
    refine (Q.step 1 rfl st2).add hZ1 fun x hx b hb => ?_
    have hx' : x = h ∨ x = gL2 ∨ x = gO := by simpa [List.set] using hx
    have hhb : H b ≠ none := by
      rcases hx' with rfl | rfl | rfl
      · exact fun e => hb (le_none (Q.lt 0 rfl) b e)
      · exact fun e => hdm b hb (le_none (Q.lt 1 rfl) b e)
      · exact fun e => hb (le_none (Q.lt 2 rfl) b e)
    unfold fr
    cases e : H b with
    | none => exact absurd e hhb
    | some o => rfl
  obtain ⟨rs, hsf, hrl, hrk⟩ := hfv
  generalize fr H h2 = Z at *
  clear hob hlf Q st2 hdm hkp hl2 hla
  have hft : ∀ n, (fs.take n).length ≤ fs.length := fun n => by rw [List.length_take]; omega
  refine sw0 ?_
  refine i_loop (fun s : Nat × Value => [some v, none, some s.2, some (.pointer (some ⟨p, 0, none⟩)), some (.int .i64 (i : Nat)), some vf, some (.int .i64 (s.1 : Nat)), none, none, none, none, none, none, none, none, none, none, none, none, none])
    (fun s H => s.1 ≤ fs.length ∧ ∃ gO l, Ps H [h, gL2, gO, Z] ∧ SlB encT 1 gO s.2 l ∧ TP l (D ++ tagsF (fs.take s.1))) (fun s => fs.length - s.1) (0, v2) (by try simp only [Pf]; rfl) ⟨by simp, gO, l, Q2, hsl, by simpa [tagsF] using htp⟩ ?_
  clear Q2 hsl htp R
  rintro ⟨k, v3⟩ H3 ⟨hk, gO, l, Q, hsl, htp⟩
  dsimp only at hk hsl htp ⊢
  have hk1 : IntKind.i64.wrap ((k : Int) + 1) = ((k + 1 : Nat) : Int) := by rw [w64 oM oM]; omega
  have RF := (hsf.le (Q.lt 3 rfl)).rules 3 FrR.enc_len default
  rw [hrl] at RF
  refine sw1 @RF ?_
  refine i_cond (fun c3 => ?_) (fun c3 => ?_)
  rotate_left
  · have : k = fs.length := oM
    subst this
    rw [List.take_length] at htp
    refine sw1 @hi1 ?_
    exact k_loop (i + 1, v3) dM sE ⟨dM, _, gL2, gO, l, Q.take 3, hob2, hlf2, hsl, by dsimp only; rw [hrs]; exact htp⟩
  have hk2 : k < fs.length := oM
  obtain ⟨e1, e2, e3⟩ := hrk k hk2
  have hnf : fs.take (k + 1) = fs.take k ++ [fs.getD k default] := take_succ_d default hk2
  have hff := hfl _ (getD_mem default hk2)
  obtain ⟨t1, t2, t3, t4, t5, t6⟩ := fault_reads hff
  generalize hfe : fs.getD k default = f at *
  generalize hre : rs.getD k default = q at *
  have hro := e3.one
  have htk : tagsF (fs.take (k + 1)) = tagsF (fs.take k) ++ f.reads.map (·.tag) := by rw [hnf]; unfold tagsF; rw [List.flatMap_append]; simp
  refine sw0 ?_
  refine i_loop (fun s : Nat × Value => [some v, none, some s.2, some (.pointer (some ⟨p, 0, none⟩)), some (.int .i64 (i : Nat)), some vf, some (.int .i64 (k : Nat)), some (.int .i64 (s.1 : Nat)), none, none, none, none, none, none, none, none, none, none, none, none])
    (fun s H => s.1 ≤ f.reads.length ∧ ∃ gO l, Ps H [h, gL2, gO, Z] ∧ SlB encT 1 gO s.2 l ∧ TP l (D ++ tagsF (fs.take k) ++ (f.reads.take s.1).map (·.tag))) (fun s => f.reads.length - s.1) (0, v3) (by try simp only [Pf]; rfl) ⟨by simp, gO, l, Q, hsl, by simpa using htp⟩ ?_
  clear Q hsl htp RF
  rintro ⟨j, v4⟩ H4 ⟨hj, gO, l, Q, hsl, htp⟩
  dsimp only at hj hsl htp ⊢
  have hj1 : IntKind.i64.wrap ((j : Int) + 1) = ((j + 1 : Nat) : Int) := by rw [w64 oM oM]; omega
  have RF := (hsf.le (Q.lt 3 rfl)).rules 3 FrR.enc_len default
  rw [hrl] at RF
  have RR := (e3.le (Q.lt 3 rfl)).rules 4 (fun _ => rfl) default
  have RO := (SlB.sl (enc := encT) (sz := 1) (fun _ => rfl) (hsl.le (Q.lt 2 rfl))).rules1 (fun t => .string (str t)) (fun _ => rfl) default
  have hl40 := htp.le
  refine sw7 @RF @hre @FrR.enc.eq_1 hro.1 hro.2 @RR @RO ?_
  refine i_cond (fun c4 => ?_) (fun c4 => ?_)
  rotate_left
  · have htp2 : TP l (D ++ tagsF (fs.take (k + 1))) := by
      rw [htk, ← List.append_assoc]
      by_cases e : j < f.reads.length
      · have h40 : l.length = 40 := oM
        have := htp.full (D' := (f.reads.drop j).map (·.tag)) h40
        rwa [List.append_assoc, ← List.map_append, List.take_append_drop] at this
      · have : j = f.reads.length := oM
        subst this
        rwa [List.take_length] at htp
    refine sw1 @hk1 ?_
    exact k_loop (k + 1, v4) dM sE ⟨dM, gO, l, Q, hsl, htp2⟩
  have hj2 : j < f.reads.length := oM
  have hnr : f.reads.take (j + 1) = f.reads.take j ++ [f.reads.getD j default] := take_succ_d default hj2
  generalize hde : f.reads.getD j default = rd at *
  refine sw0 ?_
  refine i_loop (fun x : Nat => [some v, none, some v4, some (.pointer (some ⟨p, 0, none⟩)), some (.int .i64 (i : Nat)), some vf, some (.int .i64 (k : Nat)), some (.int .i64 (j : Nat)), some (.bool (decide (rd.tag ∉ l.take x))), some (.int .i64 (x : Nat)), none, none, none, none, none, none, none, none, none, none])
    (fun x H => x ≤ l.length ∧ H = H4) (fun x => l.length - x) 0 (by try simp only [Pf]; exact ⟨rfl, rfl⟩) ⟨by simp, rfl⟩ ?_
  rintro x H5 ⟨hx, rfl⟩
  have hx1 : IntKind.i64.wrap ((x : Int) + 1) = ((x + 1 : Nat) : Int) := by rw [w64 oM oM]; omega
  refine sw1 @RO ?_
  refine i_cond (fun c5 => ?_) (fun c5 => ?_)
  · have hx2 : x < l.length := oM
    have hnl : l.take (x + 1) = l.take x ++ [l.getD x default] := take_succ_d default hx2
    generalize hte : l.getD x default = t at *
    have hfx : (¬ rd.tag ∈ l.take x ∧ t ≠ rd.tag) = (¬ rd.tag ∈ l.take (x + 1)) := by
      rw [hnl]
      by_cases e : rd.tag ∈ l.take x
      · simp [e]
      · by_cases e2 : t = rd.tag
        · simp [e, e2]
        · have e3 : ¬ rd.tag = t := fun e => e2 e.symm
          simp [e, e2, e3]
    refine sw10 @RF @hre @FrR.enc.eq_1 @RR @hde @Rd.enc.eq_1 @RO @hte @hx1 @hfx ?_
    exact k_loop (x + 1) oM sE ⟨oM, rfl⟩
  have hxl : x = l.length := oM
  subst hxl
  rw [List.take_length]
  have hjt : (f.reads.take (j + 1)).map (·.tag) = (f.reads.take j).map (·.tag) ++ [rd.tag] := by rw [hnr, List.map_append]; rfl
  refine sw0 ?_
  refine i_cond (fun c6 => ?_) (fun c6 => ?_)
  rotate_left
  · refine sw1 @hj1 ?_
    exact k_loop (j + 1, v4) dM sE ⟨dM, gO, l, Q, hsl, by dsimp only; rw [hjt, ← List.append_assoc]; exact htp.old (Classical.not_not.1 c6)⟩
  have O4 := hsl.one
  refine sw6 @RF @hre @FrR.enc.eq_1 @RR @hde @Rd.enc.eq_1 ?_
  refine i_bslB encT 1 (fun _ => rfl) [rd.tag] rfl rfl (by simp [maxLen]) fun x1 b1 h6 hle6 hb1 hx1 hS3 => ?_
  have Q6 := Q.up hle6
  have O2 := hS3.one
  refine sw4 O2.1 O2.2 O4.1 O4.2 ?_
  refine i_appB (enc := encT) (sz := 1) (g := gO) (l := l) (l' := [rd.tag]) (fun _ => rfl) (by simp [encT, one]) hsl (Q6.lt 2 rfl) (SlB.sl (enc := encT) (fun _ => rfl) (hS3.le (fr_le _ _))) (by simp; omega) fun v7 h7 g7 hS7 St7 e1 e2 e3 => ?_
  have Q7 := Q6.step 2 rfl St7
  have O7 := hS7.one
  refine sw3 O7.1 O7.2 @hj1 ?_
  exact k_loop (j + 1, v7) dM sE ⟨dM, g7, _, Q7, hS7, by dsimp only; rw [hjt, ← List.append_assoc]; exact htp.new c6 oM⟩
end Go.Cw
namespace Go.Cw
open Go
end Go.Cw
namespace Go.Cw
open Go
theorem keeps.obj {a : Addr} {n : Nat} {h h' : Heap} (k : keeps a n h h') {b : Addr} {cs : List Value} (ho : objAt h b cs) (hn : b.block ≠ a.block) : objAt h' b cs := by
  obtain ⟨h1, c, t, h2, h3, h4⟩ := ho
  exact ⟨h1, c, t, k.1 _ _ hn h2, h3, h4⟩
end Go.Cw
namespace Go.Cw
open Go
end Go.Cw
namespace Go.Cw
open Go
theorem Wa.read_ln (w : Wa) (r : Nat) (d : Rd) (X : Nat → List UInt8 × Nat) : ({ w with ln := X } : Wa).read r d = { w.read r d with ln := X } := by
  unfold Wa.read
  dsimp only
  split
  · rfl
  split
  · rfl
  split
  · rfl
  split <;> rfl
theorem Wa.reads_ln (l : List Rd) : ∀ (w : Wa) (r : Nat) (X : Nat → List UInt8 × Nat), l.foldl (fun w d => w.read r d) { w with ln := X } = { l.foldl (fun w d => w.read r d) w with ln := X } := by
  induction l with
  | nil => intro w r X; rfl
  | cons d l ih => intro w r X; rw [List.foldl_cons, List.foldl_cons, Wa.read_ln, ih]
theorem Wa.frame_ln (w : Wa) (r : Nat) (f : Fr) (X : Nat → List UInt8 × Nat) : ({ w with ln := X } : Wa).frame r f = { w.frame r f with ln := X } := by
  unfold Wa.frame
  rw [Wa.reads_ln]
  dsimp only
  split <;> rfl
theorem Wa.frames_ln (l : List Fr) : ∀ (w : Wa) (r : Nat) (X : Nat → List UInt8 × Nat), l.foldl (fun w f => w.frame r f) { w with ln := X } = { l.foldl (fun w f => w.frame r f) w with ln := X } := by
  induction l with
  | nil => intro w r X; rfl
  | cons d l ih => intro w r X; rw [List.foldl_cons, List.foldl_cons, Wa.frame_ln, ih]
theorem Wa.feed_eq (w : Wa) (r : Nat) (s : List UInt8) : w.feed r s = { (Cw.feed ((w.ln r).1 ++ s)).1.foldl (fun w f => w.frame r f) w with ln := upN w.ln r ((Cw.feed ((w.ln r).1 ++ s)).2.1, (w.ln r).2 + (Cw.feed ((w.ln r).1 ++ s)).2.2) } := by
  unfold Wa.feed Wa.line
  rw [Wa.frames_ln]
end Go.Cw
namespace Go.Cw
open Go
theorem disj_new {g h h' g' : Heap} (st : Step (fun _ => none) h g' h') (hg : Heap.le g h) : disj g g' := by
  intro b hb
  exact st.fresh b (fun e => hb (le_none hg b e)) rfl
theorem Step.le0 {h g' h' : Heap} (st : Step (fun _ => none) h g' h') : Heap.le h h' := fun b o hb => st.frame b o hb rfl
end Go.Cw
namespace Go.Cw
open Go
def ruTy2 : Ty := .cons .str (.cons .int (.cons .int (.cons .int (.cons .int (.cons .int .nil)))))
theorem mat_rl {w : World} (cs : List Value) (h : Mat w ruTy2 cs) : ∃ x : Rl, True ∧ cs = x.enc := by
  obtain ⟨k, r0, e0, _, h⟩ := mat_str h
  obtain ⟨a, r1, e1, h⟩ := mat_int h
  obtain ⟨b, r2, e2, h⟩ := mat_int h
  obtain ⟨c, r3, e3, h⟩ := mat_int h
  obtain ⟨d, r4, e4, h⟩ := mat_int h
  obtain ⟨e, r5, e5, h⟩ := mat_int h
  cases h
  exact ⟨⟨k, a, b, c, d, e⟩, trivial, by rw [e0, e1, e2, e3, e4, e5]; rfl⟩
theorem mat_rls {w : World} {v : Value} (h : Mat w (.sl ruTy2) [v]) : ∃ L : List Rl, Sl Rl.enc (full w) v L := by
  obtain ⟨L, h1, _⟩ := mat_sl mat_rl h
  exact ⟨L, h1⟩
def row4 (t : Ty) : Ty := .cons t (.cons t (.cons t (.cons t .nil)))
def cfgTy : Ty := .cons .int (.cons .int (.cons .int (.cons .int (.cons .int (.cons .int (.cons (row4 (row4 .int)) .nil))))))
theorem mat_row {w : World} {cs : List Value} (h : Mat w (row4 .int) cs) : ∃ a b c d, cs = [.int .i64 a, .int .i64 b, .int .i64 c, .int .i64 d] := by
  obtain ⟨a, r1, e1, h⟩ := mat_int h
  obtain ⟨b, r2, e2, h⟩ := mat_int h
  obtain ⟨c, r3, e3, h⟩ := mat_int h
  obtain ⟨d, r4, e4, h⟩ := mat_int h
  cases h
  exact ⟨a, b, c, d, by rw [e1, e2, e3, e4]⟩
theorem mat_cfg {w : World} {cs : Array Value} (h : Mat w cfgTy cs.toList) : ∃ c : Nat → Int, .agg cs = aggC c := by
  obtain ⟨a0, r0, q0, h⟩ := mat_int h
  obtain ⟨a1, r1, q1, h⟩ := mat_int h
  obtain ⟨a2, r2, q2, h⟩ := mat_int h
  obtain ⟨a3, r3, q3, h⟩ := mat_int h
  obtain ⟨a4, r4, q4, h⟩ := mat_int h
  obtain ⟨a5, r5, q5, h⟩ := mat_int h
  obtain ⟨x, y, q6, h, hn⟩ := h
  cases hn
  obtain ⟨x0, y0, z0, h0, h⟩ := h
  obtain ⟨x1, y1, z1, h1, h⟩ := h
  obtain ⟨x2, y2, z2, h2, h⟩ := h
  obtain ⟨x3, y3, z3, h3, h⟩ := h
  cases h
  obtain ⟨b0, b1, b2, b3, w0⟩ := mat_row h0
  obtain ⟨c0, c1, c2, c3, w1⟩ := mat_row h1
  obtain ⟨d0, d1, d2, d3, w2⟩ := mat_row h2
  obtain ⟨g0, g1, g2, g3, w3⟩ := mat_row h3
  refine ⟨fun k => ([a0, a1, a2, a3, a4, a5, b0, b1, b2, b3, c0, c1, c2, c3, d0, d1, d2, d3, g0, g1, g2, g3] : List Int).getD k 0, ?_⟩
  have : cs = cs.toList.toArray := rfl
  rw [this, q0, q1, q2, q3, q4, q5, q6, z0, z1, z2, z3, w0, w1, w2, w3]
  rfl
end Go.Cw
namespace Go.Cw
open Go
structure K3 (h H gt gm gx F : Heap) : Prop where
  k : K2 h H gt gm F
  lx : Heap.le gx H
  dxt : disj gx gt
  dxm : disj gx gm
  dxF : disj gx F
section
variable {h H gt gm gx F H' g' : Heap}
theorem K3.more (k : K3 h H gt gm gx F) (hl : Heap.le H H') : K3 h H' gt gm gx F := ⟨k.k.more hl, k.lx.trans hl, k.dxt, k.dxm, k.dxF⟩
end
end Go.Cw
namespace Go.Cw
open Go Go.Sort Go.Proofs
theorem ofL_perm {l m : List Si} (h : l.Perm m) : ofL l = ofL m := by
  obtain ⟨h1, h2⟩ := ofL_ord l
  obtain ⟨h3, h4⟩ := ofL_ord m
  exact ordS_uniq h1 h3 (h2.trans (h.trans h4.symm))
theorem closE_perm {size late a b : Nat} {A B : List Si} (h : A.Perm B) : closE size late a b A = closE size late a b B := by
  unfold closE ofE
  congr 1; funext k; rw [ofL_perm (h.filter _)]
theorem Sl.sub {α : Type} {enc : α → List Value} {sz : Nat} (he : ∀ x, (enc x).length = sz) (d : α) {h : Heap} {v : Value} {A : List α} (hs : Sl enc h v A) {i j n : Nat} (hi : i < A.length) (hj : j + n ≤ sz) : h.row ((elt v (i * sz)).add j) n = some (((enc (A.getD i d)).drop j).take n).toArray := by
  have R := hs.rules sz he d
  have h5 := R.2.2.1 i hi
  obtain ⟨a, cap, rfl, _, hr⟩ := hs
  rcases hr with e | ⟨g, rfl, hrow⟩
  · rw [e] at hi; cases hi
  have hl : (A.flatMap enc).length = A.length * sz := flat_len he A
  have hm : (i + 1) * sz ≤ A.length * sz := Nat.mul_le_mul_right _ hi
  have hm2 : (i + 1) * sz = i * sz + sz := by rw [Nat.add_mul]; omega
  have e1 : elt (.slice (some g) A.length cap) (i * sz) = g.add (i * sz) := rfl
  rw [e1] at h5 ⊢
  rw [hrow.row (i := i * sz) (n := sz) oM] at h5
  have h6 : ((A.flatMap enc).drop (i * sz)).take sz = enc (A.getD i d) := by
    have := congrArg Array.toList (Option.some.inj h5); simpa using this
  have e2 : (g.add (i * sz)).add j = g.add (i * sz + j) := by
    rw [addr_add' g hrow.1, addr_add' _ rfl, addr_add' g hrow.1, Nat.add_assoc]
  rw [e2, hrow.row oM, ← h6, List.drop_take, List.drop_drop, List.take_take]
  congr 4
  omega
end Go.Cw
namespace Go.Cw
open Go
inductive Op where
  | ln (r : Nat) (v : List UInt8 × Nat)
  | wm (r : Nat) (n : Int)
  | rd (r : Nat) (d : Rd)
def Op.r : Op → Nat
  | .ln r _ => r
  | .wm r _ => r
  | .rd r _ => r
def Wa.plA (w : Wa) (r : Nat) (d : Rd) : Int := w.c (6 + (4 * r + d.ant.toNat))
def Wa.siA (w : Wa) (r : Nat) (d : Rd) : Si := ⟨w.plA r d, d.str, w.now - d.age, d.tag⟩
def Wa.cls (w : Wa) (r : Nat) (d : Rd) : Option Nat :=
  if tagOf d.tag = none then some 1 else if w.plA r d < 0 then some 2 else if adF (w.c 0).toNat (w.c 1).toNat w.now (w.siA r d) ≠ 0 then some 3 else none
def Wa.drp (w : Wa) (k : Nat) : Wa := { w with dr := upN w.dr k (w.dr k + 1) }
def Wa.acc (w : Wa) (s : Si) : Wa := { w with A := w.A ++ [s], kn := if s.tag ∈ w.kn then w.kn else w.kn ++ [s.tag] }
def Wa.readX (w : Wa) (r : Nat) (d : Rd) : Wa := match w.cls r d with
  | some k => w.drp k
  | none => w.acc (w.siA r d)
def Wa.op (w : Wa) : Op → Wa
  | .ln r v => { w with ln := upN w.ln r v }
  | .wm r n => { w with wm := upN w.wm r n }
  | .rd r d => w.readX r d
structure Wa.In (T : List (List UInt8)) (w : Wa) : Prop where
  nd : w.kn.Nodup
  sub : ∀ t ∈ w.kn, t ∈ T
theorem Wa.In.acc {T : List (List UInt8)} {w : Wa} (h : w.In T) {s : Si} (ht : s.tag ∈ T) : (w.acc s).In T := by
  refine ⟨?_, ?_⟩
  · unfold Wa.acc
    dsimp only
    split
    · exact h.nd
    · rename_i e
      exact List.nodup_append.2 ⟨h.nd, by simp, fun x hx y hy e2 => by simp at hy; subst hy; subst e2; exact e hx⟩
  · intro t
    unfold Wa.acc
    dsimp only
    split
    · exact h.sub t
    · intro hx
      rcases List.mem_append.1 hx with hx | hx
      · exact h.sub t hx
      · rw [List.mem_singleton.1 hx]; exact ht
theorem Wa.In.readX {T : List (List UInt8)} {w : Wa} (h : w.In T) {r : Nat} {d : Rd} (ht : d.tag ∈ T) : (w.readX r d).In T := by
  unfold Wa.readX
  split
  · exact ⟨h.nd, h.sub⟩
  · exact h.acc ht
structure Wa.Sim (a b : Wa) : Prop where
  c : a.c = b.c
  rs : a.rs = b.rs
  ln : a.ln = b.ln
  wm : a.wm = b.wm
  dr : a.dr = b.dr
  now : a.now = b.now
  E : a.E = b.E
  al : a.al = b.al
  A : a.A.Perm b.A
  kn : a.kn.Perm b.kn
theorem Wa.Sim.refl (a : Wa) : a.Sim a := ⟨rfl, rfl, rfl, rfl, rfl, rfl, rfl, rfl, List.Perm.refl _, List.Perm.refl _⟩
theorem Wa.Sim.trans {a b c : Wa} (h : a.Sim b) (k : b.Sim c) : a.Sim c := ⟨h.c.trans k.c, h.rs.trans k.rs, h.ln.trans k.ln, h.wm.trans k.wm, h.dr.trans k.dr, h.now.trans k.now, h.E.trans k.E, h.al.trans k.al, h.A.trans k.A, h.kn.trans k.kn⟩
theorem Wa.Sim.cls {a b : Wa} (h : a.Sim b) (r : Nat) (d : Rd) : a.cls r d = b.cls r d ∧ a.siA r d = b.siA r d := by
  unfold Wa.cls Wa.siA Wa.plA
  rw [h.c, h.now]; exact ⟨rfl, rfl⟩
theorem Wa.Sim.acc {a b : Wa} (h : a.Sim b) (s : Si) : (a.acc s).Sim (b.acc s) := by
  refine ⟨h.c, h.rs, h.ln, h.wm, h.dr, h.now, h.E, h.al, h.A.append_right _, ?_⟩
  unfold Wa.acc
  dsimp only
  by_cases e : s.tag ∈ a.kn
  · rw [if_pos e, if_pos (h.kn.mem_iff.1 e)]; exact h.kn
  · rw [if_neg e, if_neg fun e2 => e (h.kn.mem_iff.2 e2)]; exact h.kn.append_right _
theorem Wa.Sim.op {a b : Wa} (h : a.Sim b) (o : Op) : (a.op o).Sim (b.op o) := by
  cases o with
  | ln r v => exact ⟨h.c, h.rs, by unfold Wa.op; dsimp only; rw [h.ln], h.wm, h.dr, h.now, h.E, h.al, h.A, h.kn⟩
  | wm r n => exact ⟨h.c, h.rs, h.ln, by unfold Wa.op; dsimp only; rw [h.wm], h.dr, h.now, h.E, h.al, h.A, h.kn⟩
  | rd r d =>
    obtain ⟨e1, e2⟩ := h.cls r d
    unfold Wa.op Wa.readX
    dsimp only
    rw [← e1, ← e2]
    split
    · rename_i k _
      exact ⟨h.c, h.rs, h.ln, h.wm, by unfold Wa.drp; dsimp only; rw [h.dr], h.now, h.E, h.al, h.A, h.kn⟩
    · exact h.acc _
theorem Wa.Sim.ops (L : List Op) : ∀ {a b : Wa}, a.Sim b → (L.foldl Wa.op a).Sim (L.foldl Wa.op b) := by
  induction L with
  | nil => intro a b h; exact h
  | cons o L ih => intro a b h; exact ih (h.op o)
theorem Wa.Sim.app {w : Wa} {P Q : List Op} (R : List Op) (h : ∀ w : Wa, (P.foldl Wa.op w).Sim (Q.foldl Wa.op w)) : ((R ++ P).foldl Wa.op w).Sim ((R ++ Q).foldl Wa.op w) := by
  rw [List.foldl_append, List.foldl_append]; exact h _
def partA (r : Nat) (M : List Ac) : List Ac := M.filter fun a => decide (a.n = r)
def sortA (M : List Ac) : List Ac := partA 3 M ++ (partA 2 M ++ (partA 1 M ++ partA 0 M))
end Go.Cw
namespace Go.Cw
open Go
def Wa.rev (w : Wa) (M : List Ac) : Wa := (sortA M).foldl Wa.act w
theorem Wa.Sim.tell {a b : Wa} (h : a.Sim b) (x : Nat × List Si) : (a.tell x).Sim (b.tell x) := by
  refine ⟨h.c, h.rs, h.ln, h.wm, h.dr, h.now, ?_, ?_, h.A, h.kn⟩
  · show a.E ++ _ = b.E ++ _; rw [h.E]
  · show a.al ++ _ = b.al ++ _
    rw [h.al]
    unfold Wa.look Wa.lookN Wa.lookR
    dsimp only
    rw [h.E, h.c, h.rs]
theorem Wa.Sim.tells (L : List (Nat × List Si)) : ∀ {a b : Wa}, a.Sim b → (L.foldl Wa.tell a).Sim (L.foldl Wa.tell b) := by
  induction L with
  | nil => intro a b h; exact h
  | cons o L ih => intro a b h; exact ih (h.tell o)
theorem Wa.Sim.tick {a b : Wa} (h : a.Sim b) (m : Nat) : (a.tick m).Sim (b.tick m) := by
  unfold Wa.tick
  have e : a.closed m = b.closed m := by unfold Wa.closed; rw [h.c, h.now]; exact closE_perm h.A
  rw [e]
  refine Wa.Sim.tells _ ⟨h.c, h.rs, h.ln, h.wm, h.dr, ?_, h.E, h.al, h.A, h.kn⟩
  show a.now + m = b.now + m
  rw [h.now]
theorem tells_keep (L : List (Nat × List Si)) : ∀ (w : Wa), (L.foldl Wa.tell w).kn = w.kn ∧ (L.foldl Wa.tell w).ln = w.ln := by
  induction L with
  | nil => intro w; exact ⟨rfl, rfl⟩
  | cons o L ih => intro w; obtain ⟨h1, h2⟩ := ih (w.tell o); exact ⟨h1, h2⟩
def Wa.ordS (w : Wa) (M : List Ac) : List Ac → Wa
  | [] => w.rev M
  | a :: L => if a.kind ≠ tickS then w.ordS (M ++ [a]) L else ((w.rev M).act a).ordS [] L
end Go.Cw
namespace Go.Cw
open Go
def comB (w : Wa) (s : List UInt8) (p e : Int) : Bool :=
  if (w.whr s e).2 ≠ 0 ∨ (w.whr s e).1 ≠ p then false else if e = 0 then true else decide ((w.whr s (e - 1)).1 ≠ p)
def S299 : Spec := fun args h K => ∃ g p w s, ∃ q e : Int, args = [.pointer (some ⟨p, 0, none⟩), .string (str s), .int .i64 q, .int .i64 e] ∧ WO g p w ∧ Heap.le g h ∧ (-1000000 ≤ e ∧ e ≤ 1000000) ∧ K (.bool (comB w s q e)) h
theorem F299_ok {N : Num} {Γ : Ctx} [GoodC Γ] (H274 : Sat (S274 N) (Γ 274)) : Sat S299 (SF N Γ F299) := by
  rintro _ h K ⟨g, p, w, s, q, e, rfl, hw, hg, he, hK⟩
  refine i_fun rfl ?_
  simp only [F299, Ze, Nat.reduceSub, Nat.reduceAdd]
  have he1 : IntKind.i64.wrap (e - 1) = e - 1 := w64 oM oM
  unfold comB at hK
  refine sw0 ?_
  refine i_call H274 ⟨g, p, w, s, e, rfl, hw, hg, ?_⟩
  rcases hwe : w.whr s e with ⟨a, f⟩
  rw [hwe] at hK
  dsimp only at hK
  cases f with
  | succ f =>
    rw [if_pos oM] at hK
    refine sw1 @errV_succ ?_
    exact hK
  | zero =>
  refine sw1 @errV_zero ?_
  refine i_cond (fun c1 => ?_) (fun c1 => ?_)
  · rw [if_pos oM] at hK
    refine sw0 ?_
    exact hK
  rw [if_neg oM] at hK
  refine sw0 ?_
  refine i_cond (fun c2 => ?_) (fun c2 => ?_)
  · rw [if_pos c2] at hK
    refine sw0 ?_
    exact hK
  rw [if_neg c2] at hK
  refine sw1 @he1 ?_
  refine i_call H274 ⟨g, p, w, s, e - 1, rfl, hw, hg, ?_⟩
  refine sw0 ?_
  exact hK
def Fol (w : Wa) (r : Rl) (s : List UInt8) (e : Nat) : Prop :=
  comB w s r.thn e = true ∧ ∃ k : Nat, ((e : Int) - r.wthn).toNat ≤ k ∧ k < e ∧ comB w s r.first k = true ∧ ∀ x : Nat, k < x → x < e → (r.wout < 0 ∨ (w.whr s (x : Nat)).1 ≠ r.wout)
def S297 : Spec := fun args h K => ∃ g p w r s, ∃ e : Nat, args = [.pointer (some ⟨p, 0, none⟩), aggR r, .string (str s), .int .i64 (e : Nat)] ∧ WO g p w ∧ Heap.le g h ∧ e ≤ 1000 ∧ (1 ≤ r.wthn ∧ r.wthn ≤ 50) ∧ ∀ b h', Heap.le h h' → (b = true ↔ Fol w r s e) → K (.bool b) h'
theorem F297_ok {N : Num} {Γ : Ctx} [GoodC Γ] (H274 : Sat (S274 N) (Γ 274)) (H299 : Sat S299 (Γ 299)) : Sat S297 (SF N Γ F297) := by
  rintro _ h K ⟨g, p, w, r, s, e, rfl, hw, hg, he, hwt, hK⟩
  refine i_fun rfl ?_
  simp only [F297, Ze, Nat.reduceSub, Nat.reduceAdd, aggR]
  refine sw0 ?_
  refine i_call H299 ⟨g, p, w, s, r.thn, (e : Nat), rfl, hw, hg, oM, ?_⟩
  cases hc : comB w s r.thn (e : Nat) with
  | false =>
    refine sw0 ?_
    exact hK false h (Heap.le.refl h) ⟨(fun x => by cases x), (fun x => by have := x.1; rw [hc] at this; cases this)⟩
  | true =>
  obtain ⟨lo, hlo⟩ : ∃ lo, lo = ((e : Int) - r.wthn).toNat := ⟨_, rfl⟩
  have hmx : max (0 : Int) ((e : Int) - r.wthn) = (lo : Nat) := oM
  have hww : IntKind.i64.wrap ((e : Int) - r.wthn) = e - r.wthn := w64 oM oM
  have hloe : lo ≤ e := oM
  refine sw2 @hww @hmx ?_
  refine i_loop (fun k : Nat => [some (.pointer (some ⟨p, 0, none⟩)), none, some (.string (str s)), some (.int .i64 (e : Nat)), some (.agg #[.string (str r.name), .int .i64 r.kind, .int .i64 r.first, .int .i64 r.thn, .int .i64 r.wout, .int .i64 r.wthn]), none, none, some (.int .i64 (k : Nat)), none, none, none, none, none, none, none, none, none, none, none])
    (fun k H => H = h ∧ lo ≤ k ∧ k ≤ e ∧ ∀ j : Nat, lo ≤ j → j < k → ¬ (comB w s r.first j = true ∧ ∀ x : Nat, j < x → x < e → (r.wout < 0 ∨ (w.whr s (x : Nat)).1 ≠ r.wout))) (fun k => e - k) lo sE ⟨rfl, oM, oM, fun j h1 h2 => by omega⟩ ?_
  rintro k H ⟨rfl, hk1, hk2, hno⟩
  have hi1 : IntKind.i64.wrap ((k : Int) + 1) = ((k + 1 : Nat) : Int) := by rw [w64 oM oM]; omega
  refine sw0 ?_
  refine i_cond (fun c1 => ?_) (fun c1 => ?_)
  rotate_left
  · refine sw0 ?_
    refine hK false H (Heap.le.refl H) ⟨(fun x => by cases x), fun x => ?_⟩
    obtain ⟨_, k', q1, q2, q3, q4⟩ := x
    exact absurd ⟨q3, q4⟩ (hno k' oM oM)
  refine sw0 ?_
  refine i_call H299 ⟨g, p, w, s, r.first, (k : Nat), rfl, hw, hg, oM, ?_⟩
  refine sw1 @hi1 ?_
  refine i_loop (fun t : Nat × Bool => [some (.pointer (some ⟨p, 0, none⟩)), none, some (.string (str s)), some (.int .i64 (e : Nat)), some (.agg #[.string (str r.name), .int .i64 r.kind, .int .i64 r.first, .int .i64 r.thn, .int .i64 r.wout, .int .i64 r.wthn]), none, none, some (.int .i64 (k : Nat)), some (.bool t.2), some (.int .i64 (t.1 : Nat)), none, none, none, none, none, none, none, none, none])
    (fun t H' => H' = H ∧ k < t.1 ∧ t.1 ≤ e ∧ (t.2 = true ↔ comB w s r.first k = true ∧ ∀ x : Nat, k < x → x < t.1 → (r.wout < 0 ∨ (w.whr s (x : Nat)).1 ≠ r.wout))) (fun t => e - t.1) (k + 1, comB w s r.first k) sE ⟨rfl, dM, dM, by dsimp only; exact ⟨fun x => ⟨x, fun y h1 h2 => by omega⟩, fun x => x.1⟩⟩ ?_
  rintro ⟨x, b⟩ H' ⟨rfl, hx1, hx2, hb⟩
  dsimp only at hx1 hx2 hb ⊢
  have hxi : IntKind.i64.wrap ((x : Int) + 1) = ((x + 1 : Nat) : Int) := by rw [w64 oM oM]; omega
  cases b with
  | false =>
    have hno2 : ¬ (comB w s r.first k = true ∧ ∀ y : Nat, k < y → y < e → (r.wout < 0 ∨ (w.whr s (y : Nat)).1 ≠ r.wout)) := fun q => by
      have := hb.2 ⟨q.1, fun y h1 h2 => q.2 y h1 oM⟩
      cases this
    refine sw0 ?_
    exact k_loop (k + 1) oM sE ⟨rfl, oM, oM, fun j h1 h2 => by
      by_cases e2 : j = k
      · subst e2; exact hno2
      · exact hno j h1 oM⟩
  | true =>
  have hb1 := hb.1 rfl
  refine sw0 ?_
  refine i_cond (fun c2 => ?_) (fun c2 => ?_)
  rotate_left
  · have : x = e := oM
    subst this
    refine sw0 ?_
    exact hK true H' (Heap.le.refl H') ⟨fun _ => ⟨hc, k, oM, oM, hb1.1, hb1.2⟩, fun _ => rfl⟩
  refine sw0 ?_
  refine i_call H274 ⟨g, p, w, s, (x : Nat), rfl, hw, hg, ?_⟩
  refine sw1 @hxi ?_
  exact k_loop (x + 1, decide (r.wout < 0 ∨ (w.whr s (x : Nat)).1 ≠ r.wout)) dM sE ⟨rfl, dM, dM, by
    dsimp only
    rw [decide_eq_true_iff]
    refine ⟨fun q => ⟨hb1.1, fun y h1 h2 => ?_⟩, fun q => q.2 x oM oM⟩
    by_cases e2 : y = x
    · subst e2; exact q
    · exact hb1.2 y h1 oM⟩
end Go.Cw
namespace Go.Cw
open Go
theorem Wa.read_kn (w : Wa) (r : Nat) (d : Rd) : ∀ t ∈ (w.read r d).kn, t ∈ w.kn ∨ t = d.tag := by
  intro t ht
  unfold Wa.read at ht
  dsimp only at ht
  split at ht
  · exact .inl ht
  split at ht
  · exact .inl ht
  split at ht
  · exact .inl ht
  split at ht
  · exact .inl ht
  dsimp only at ht
  split at ht
  · exact .inl ht
  · rcases List.mem_append.1 ht with h | h
    · exact .inl h
    · exact .inr (List.mem_singleton.1 h)
structure Wa.Keep (a b : Wa) : Prop where
  c : a.c = b.c
  rs : a.rs = b.rs
  E : a.E = b.E
  al : a.al = b.al
theorem Wa.Keep.trans {a b c : Wa} (h : a.Keep b) (k : b.Keep c) : a.Keep c := ⟨h.c.trans k.c, h.rs.trans k.rs, h.E.trans k.E, h.al.trans k.al⟩
theorem Wa.read_keep (w : Wa) (r : Nat) (d : Rd) : (w.read r d).Keep w := by
  unfold Wa.read
  dsimp only
  split
  · exact ⟨rfl, rfl, rfl, rfl⟩
  split
  · exact ⟨rfl, rfl, rfl, rfl⟩
  split
  · exact ⟨rfl, rfl, rfl, rfl⟩
  split <;> exact ⟨rfl, rfl, rfl, rfl⟩
theorem Wa.reads_kn (r : Nat) (l : List Rd) : ∀ w : Wa, (l.foldl (fun w d => w.read r d) w).Keep w ∧ ∀ t ∈ (l.foldl (fun w d => w.read r d) w).kn, t ∈ w.kn ∨ t ∈ l.map (·.tag) := by
  induction l with
  | nil => intro w; exact ⟨⟨rfl, rfl, rfl, rfl⟩, fun t h => .inl h⟩
  | cons d l ih =>
    intro w
    obtain ⟨h1, h2⟩ := ih (w.read r d)
    refine ⟨h1.trans (w.read_keep r d), fun t ht => ?_⟩
    rcases h2 t ht with h | h
    · rcases w.read_kn r d t h with h | h
      · exact .inl h
      · exact .inr (by simp [h])
    · exact .inr (List.mem_cons_of_mem _ h)
theorem Wa.frame_kn (r : Nat) (f : Fr) (w : Wa) : (w.frame r f).Keep w ∧ ∀ t ∈ (w.frame r f).kn, t ∈ w.kn ∨ t ∈ f.reads.map (·.tag) := by
  obtain ⟨h1, h2⟩ := Wa.reads_kn r f.reads w
  unfold Wa.frame
  dsimp only
  split
  · exact ⟨⟨h1.c, h1.rs, h1.E, h1.al⟩, h2⟩
  · exact ⟨h1, h2⟩
theorem Wa.frames_kn (r : Nat) (l : List Fr) : ∀ w : Wa, (l.foldl (fun w f => w.frame r f) w).Keep w ∧ ∀ t ∈ (l.foldl (fun w f => w.frame r f) w).kn, t ∈ w.kn ∨ t ∈ tagsF l := by
  induction l with
  | nil => intro w; exact ⟨⟨rfl, rfl, rfl, rfl⟩, fun t h => .inl h⟩
  | cons f l ih =>
    intro w
    obtain ⟨h1, h2⟩ := ih (w.frame r f)
    obtain ⟨k1, k2⟩ := Wa.frame_kn r f w
    refine ⟨h1.trans k1, fun t ht => ?_⟩
    unfold tagsF
    rw [List.flatMap_cons, List.mem_append]
    rcases h2 t ht with h | h
    · rcases k2 t h with h | h
      · exact .inl h
      · exact .inr (.inl h)
    · exact .inr (.inr h)
theorem Wa.tells_c (L : List (Nat × List Si)) : ∀ (w : Wa), (L.foldl Wa.tell w).c = w.c ∧ (L.foldl Wa.tell w).rs = w.rs := by
  induction L with
  | nil => intro w; exact ⟨rfl, rfl⟩
  | cons o L ih => intro w; obtain ⟨h1, h2⟩ := ih (w.tell o); exact ⟨h1, h2⟩
theorem Wa.act_c (w : Wa) (a : Ac) : (w.act a).c = w.c ∧ (w.act a).rs = w.rs := by
  unfold Wa.act
  split
  · split
    · rw [Wa.feed_eq]
      obtain ⟨h1, _⟩ := Wa.frames_kn a.n.toNat (Cw.feed ((w.ln a.n.toNat).1 ++ a.s)).1 w
      exact ⟨h1.c, h1.rs⟩
    · exact ⟨rfl, rfl⟩
  · split
    · exact ⟨rfl, rfl⟩
    · exact Wa.tells_c _ _
theorem Wa.act_kn (w : Wa) (a : Ac) : (w.act a).ln = lnA w.ln a ∧ ∀ t ∈ (w.act a).kn, t ∈ w.kn ∨ t ∈ rdA w.ln a := by
  unfold Wa.act
  by_cases hk : a.kind ≠ tickS
  · rw [if_pos hk]
    by_cases e : feedF a.n a.s = 0
    · have e2 : actOk a := ⟨hk, e⟩
      rw [if_pos e, Wa.feed_eq]
      unfold lnA rdA
      rw [if_pos e2, if_pos e2]
      exact ⟨rfl, (Wa.frames_kn _ _ w).2⟩
    · have e2 : ¬ actOk a := fun x => e x.2
      rw [if_neg e]
      unfold lnA rdA
      rw [if_neg e2, if_neg e2]
      exact ⟨rfl, fun t h => .inl h⟩
  · rw [if_neg hk]
    have e2 : ¬ actOk a := fun x => hk x.1
    unfold lnA rdA
    rw [if_neg e2, if_neg e2]
    split
    · exact ⟨rfl, fun t h => .inl h⟩
    · obtain ⟨h1, h2⟩ := tells_keep (w.closed a.n.toNat) { w with now := w.now + a.n.toNat }
      unfold Wa.tick
      exact ⟨h2, fun t h => .inl (by rw [h1] at h; exact h)⟩
theorem plays_kn (L : List Ac) : ∀ w : Wa, (w.plays L).c = w.c ∧ (w.plays L).rs = w.rs ∧ ∀ t ∈ (w.plays L).kn, t ∈ w.kn ∨ t ∈ readsA w.ln L := by
  induction L with
  | nil => intro w; exact ⟨rfl, rfl, fun t h => .inl h⟩
  | cons a L ih =>
    intro w
    obtain ⟨h1, h2, h3⟩ := ih (w.act a)
    obtain ⟨k1, k2⟩ := w.act_c a
    obtain ⟨k3, k4⟩ := w.act_kn a
    refine ⟨h1.trans k1, h2.trans k2, fun t ht => ?_⟩
    unfold readsA
    rw [List.mem_append]
    rcases h3 t ht with h | h
    · rcases k4 t h with h | h
      · exact .inl h
      · exact .inr (.inl h)
    · rw [k3] at h; exact .inr (.inr h)
theorem cms_at {window need : Nat} {E : List (List Si)} {s : List UInt8} {p : Int} {m : Nat} (hn : 1 ≤ need) (hm : m < E.length) :
    cms window need E s p m = true ↔ 0 ≤ p ∧ atF window need E m s = p ∧ (m = 0 ∨ atF window need E (m - 1) s ≠ p) := by
  unfold cms
  have e1 : ((m : Int) - 1).toNat = m - 1 := oM
  rcases whr_told (window := window) (t := s) hn hm with ⟨ea, _⟩ | ⟨ea, la⟩
  · rw [ea, e1]
    by_cases h : (atF window need E m s, (0 : Nat)).2 ≠ 0 ∨ p < 0 ∨ (atF window need E m s, (0 : Nat)).1 ≠ p
    · rw [if_pos h]
      refine ⟨(fun x => by cases x), fun x => ?_⟩
      rcases h with h | h | h
      · exact absurd rfl h
      · omega
      · exact absurd x.2.1 h
    · rw [if_neg h, decide_eq_true_iff]
      have h2 : 0 ≤ p := by refine Int.not_lt.1 fun x => h (.inr (.inl x))
      have h3 : atF window need E m s = p := by refine Classical.byContradiction fun x => h (.inr (.inr x))
      unfold atF at h3 ⊢
      refine ⟨fun x => ⟨h2, h3, ?_⟩, fun x => ?_⟩
      · rcases x with x | x
        · exact .inl oM
        · exact .inr x
      · rcases x.2.2 with x | x
        · exact .inl oM
        · exact .inr x
  · rw [ea, if_pos (.inl (by simp))]
    refine ⟨fun x => (by cases x), fun x => ?_⟩
    have := x.2.1
    omega
theorem atF_add {window need : Nat} {E : List (List Si)} {l : List Si} {s : List UInt8} {m : Nat} (hm : m < E.length) : atF window need (E ++ [l]) m s = atF window need E m s := by
  unfold atF
  rw [List.take_append_of_le_length oM]
def HoldAt (window need : Nat) (E : List (List Si)) (r : Rl) (s : List UInt8) (e : Nat) : Prop :=
  (ruleF r = 0 ∧ kindOf s ≠ 0 ∧ (r.kind = 0 ∨ kindOf s = r.kind)) ∧ (atF window need E e s = r.thn ∧ (e = 0 ∨ atF window need E (e - 1) s ≠ r.thn)) ∧
    ∃ k : Nat, ((e : Int) - r.wthn).toNat ≤ k ∧ k < e ∧ (atF window need E k s = r.first ∧ (k = 0 ∨ atF window need E (k - 1) s ≠ r.first)) ∧ ∀ x : Nat, k < x → x < e → ¬ (0 ≤ r.wout ∧ atF window need E x s = r.wout)
theorem holdR_at {window need : Nat} {E : List (List Si)} {r : Rl} {s : List UInt8} {e : Nat} (hn : 1 ≤ need) (he : e < E.length) : holdR window need E r s e = true ↔ HoldAt window need E r s e := by
  unfold holdR HoldAt
  rw [Bool.and_eq_true, Bool.and_eq_true, Bool.and_eq_true, Bool.and_eq_true, decide_eq_true_iff, decide_eq_true_iff, decide_eq_true_iff, scanR_iff, cms_at hn he, Int.toNat_natCast]
  constructor
  · rintro ⟨⟨⟨⟨h1, h2⟩, h3⟩, h4⟩, k, h5, h6, h7, h8⟩
    refine ⟨⟨h1, h2, h3⟩, h4.2, k, h5, h6, ((cms_at hn oM).1 h7).2, fun x hx1 hx2 hc => ?_⟩
    have := h8 x hx1 hx2
    unfold badR at this
    exact of_decide_eq_false this hc
  · rintro ⟨⟨h1, h2, h3⟩, h4, k, h5, h6, h7, h8⟩
    have hb := (ruleF_zero.1 h1).2.1
    unfold Rl.bound at hb
    refine ⟨⟨⟨⟨h1, h2⟩, h3⟩, oM, h4⟩, k, h5, h6, (cms_at hn oM).2 ⟨oM, h7⟩, fun x hx1 hx2 => ?_⟩
    unfold badR
    exact decide_eq_false (h8 x hx1 hx2)
theorem HoldAt.add {window need : Nat} {E : List (List Si)} {l : List Si} {r : Rl} {s : List UInt8} {e : Nat} (he : e < E.length) : HoldAt window need (E ++ [l]) r s e ↔ HoldAt window need E r s e := by
  unfold HoldAt
  rw [atF_add he, atF_add (m := e - 1) oM]
  constructor
  · rintro ⟨h0, h1, k, h5, h6, h7, h8⟩
    rw [atF_add oM, atF_add (m := k - 1) oM] at h7
    exact ⟨h0, h1, k, h5, h6, h7, fun x hx1 hx2 hc => h8 x hx1 hx2 (by rw [atF_add oM]; exact hc)⟩
  · rintro ⟨h0, h1, k, h5, h6, h7, h8⟩
    refine ⟨h0, h1, k, h5, h6, ?_, fun x hx1 hx2 hc => h8 x hx1 hx2 (by rw [atF_add oM] at hc; exact hc)⟩
    rw [atF_add oM, atF_add (m := k - 1) oM]
    exact h7
theorem HoldAt.told {window need : Nat} {E : List (List Si)} {r : Rl} {s : List UInt8} {e : Nat} (hn : 1 ≤ need) (h : HoldAt window need E r s e) : toldE (E.take (e + 1)) s := by
  have hb := (ruleF_zero.1 h.1.1).2.1
  unfold Rl.bound at hb
  have h9 := h.2.1.1
  have h8 : 0 ≤ atF window need E e s := oM
  exact atF_told hn h8
structure AlI (w : Wa) : Prop where
  n : 1 ≤ (w.c 3).toNat
  mem : ∀ (k e : Nat) (s : List UInt8), (⟨k, e, s⟩ : Al) ∈ w.al ↔ k < w.rs.length ∧ e < w.E.length ∧ HoldAt (w.c 2).toNat (w.c 3).toNat w.E (w.rs.getD k default) s e
  fm : ∀ x ∈ w.al, ∃ (k e : Nat) (s : List UInt8), x = ⟨k, e, s⟩
  nd : w.al.Nodup
theorem AlI.tell {w : Wa} (h : AlI w) (l : List Si) : AlI (w.tell (w.E.length, l)) := by
  have hlk : ∀ (k e : Nat) (s : List UInt8), (⟨k, e, s⟩ : Al) ∈ ({ w with E := w.E ++ [l] } : Wa).look w.E.length ↔ k < w.rs.length ∧ e = w.E.length ∧ HoldAt (w.c 2).toNat (w.c 3).toNat (w.E ++ [l]) (w.rs.getD k default) s e := by
    intro k e s
    unfold Wa.look Wa.lookN Wa.lookR
    dsimp only
    simp only [List.mem_flatMap, List.mem_range, List.mem_map, List.mem_filter, Al.mk.injEq]
    constructor
    · rintro ⟨i, hi, t, ⟨ht, hh⟩, e1, e2, e3⟩
      have e1' : i = k := oM
      have e2' : w.E.length = e := oM
      subst e1'; subst e2'; subst e3
      exact ⟨hi, rfl, (holdR_at h.n (by simp)).1 hh⟩
    · rintro ⟨h1, h2, h3⟩
      subst h2
      refine ⟨k, h1, s, ⟨?_, (holdR_at h.n (by simp)).2 h3⟩, rfl, rfl, rfl⟩
      have := h3.told h.n
      rw [List.take_of_length_le (by simp)] at this
      exact (mem_tagsE _ _).2 this
  refine ⟨h.n, fun k e s => ?_, fun x hx => ?_, ?_⟩
  · show _ ∈ w.al ++ _ ↔ k < w.rs.length ∧ e < (w.E ++ [l]).length ∧ HoldAt (w.c 2).toNat (w.c 3).toNat (w.E ++ [l]) (w.rs.getD k default) s e
    rw [List.mem_append, h.mem, hlk, List.length_append, List.length_singleton]
    constructor
    · rintro (⟨h1, h2, h3⟩ | ⟨h1, h2, h3⟩)
      · exact ⟨h1, oM, (HoldAt.add h2).2 h3⟩
      · exact ⟨h1, oM, h3⟩
    · rintro ⟨h1, h2, h3⟩
      by_cases e2 : e = w.E.length
      · exact .inr ⟨h1, e2, h3⟩
      · exact .inl ⟨h1, oM, (HoldAt.add oM).1 h3⟩
  · rcases List.mem_append.1 (show x ∈ w.al ++ _ from hx) with hx | hx
    · exact h.fm x hx
    · unfold Wa.look Wa.lookN Wa.lookR at hx
      simp only [List.mem_flatMap, List.mem_range, List.mem_map, List.mem_filter] at hx
      obtain ⟨i, _, t, _, rfl⟩ := hx
      exact ⟨i, w.E.length, t, rfl⟩
  · show (w.al ++ _).Nodup
    refine List.nodup_append.2 ⟨h.nd, ?_, ?_⟩
    · unfold Wa.look Wa.lookN Wa.lookR
      refine List.pairwise_flatMap.2 ⟨fun i _ => ?_, ?_⟩
      · refine List.pairwise_map.2 (List.Pairwise.imp ?_ (List.Pairwise.sublist List.filter_sublist (tagsE_nodup _)))
        intro a b hab e
        simp only [Al.mk.injEq] at e
        exact hab e.2.2
      · refine List.Pairwise.imp ?_ (List.nodup_range (n := _))
        intro i j hij x hx y hy e
        subst e
        rw [List.mem_map] at hx hy
        obtain ⟨_, _, rfl⟩ := hx
        obtain ⟨_, _, h9⟩ := hy
        simp only [Al.mk.injEq] at h9
        omega
    · intro x hx y hy hxy
      subst hxy
      unfold Wa.look Wa.lookN Wa.lookR at hy
      dsimp only at hy
      simp only [List.mem_flatMap, List.mem_range, List.mem_map, List.mem_filter] at hy
      obtain ⟨i, _, t, _, rfl⟩ := hy
      have := ((h.mem _ _ _).1 hx).2.1
      omega
theorem AlI.tells {f : Nat → List Si} : ∀ (n : Nat) {w : Wa}, AlI w → AlI (((List.range' w.E.length n).map fun k => (k, f k)).foldl Wa.tell w) := by
  intro n
  induction n with
  | zero => intro w h; exact h
  | succ n ih =>
    intro w h
    rw [List.range'_succ, List.map_cons, List.foldl_cons]
    have := ih (h.tell (f w.E.length))
    have e : (w.tell (w.E.length, f w.E.length)).E.length = w.E.length + 1 := by simp [Wa.tell]
    rw [e] at this
    exact this
theorem AlI.keep {a b : Wa} (h : AlI b) (k : a.Keep b) : AlI a := by
  refine ⟨by rw [k.c]; exact h.n, fun x y z => ?_, by rw [k.al]; exact h.fm, by rw [k.al]; exact h.nd⟩
  rw [k.al, k.c, k.rs, k.E]; exact h.mem x y z
theorem AlI.act {w : Wa} {fed : Nat} (h : AlI w) (hok : w.Ok fed) (a : Ac) : AlI (w.act a) := by
  unfold Wa.act
  split
  · split
    · rw [Wa.feed_eq]
      have h1 := (Wa.frames_kn a.n.toNat (Cw.feed ((w.ln a.n.toNat).1 ++ a.s)).1 w).1
      exact h.keep ⟨h1.c, h1.rs, h1.E, h1.al⟩
    · exact h
  · split
    · exact h
    · unfold Wa.tick Wa.closed closE
      rw [← hok.El]
      have hk : AlI ({ w with now := w.now + a.n.toNat } : Wa) := h.keep ⟨rfl, rfl, rfl, rfl⟩
      exact hk.tells (f := fun k => ofE (w.c 0).toNat w.A k) _
theorem AlI.plays (L : List Ac) : ∀ {w : Wa} {fed : Nat}, AlI w → w.Ok fed → fed + acSum L ≤ 20000 → AlI (w.plays L) := by
  induction L with
  | nil => intro w fed h _ _; exact h
  | cons a L ih =>
    intro w fed h hok hf
    rw [acSum_cons] at hf
    exact ih (h.act hok a) (hok.act (a := a) oM) oM
theorem AlI.new {c : Nat → Int} {rs : List Rl} (h : watchF c rs = 0) : AlI (newW c rs) := by
  have hok := watchF_new h
  have h3 := hok.c3
  refine ⟨?_, fun k e s => ?_, fun x hx => (by cases hx), List.Pairwise.nil⟩
  · have := h3.1; omega
  · refine ⟨fun x => (by cases x), fun x => ?_⟩
    have := x.2.1
    exact absurd this (Nat.not_lt_zero _)
theorem comB_at {w : Wa} {s : List UInt8} {p : Int} {m : Nat} (hn : 1 ≤ (w.c 3).toNat) (hp : 0 ≤ p) (hm : m < w.E.length) : comB w s p m = true ↔ atF (w.c 2).toNat (w.c 3).toNat w.E m s = p ∧ (m = 0 ∨ atF (w.c 2).toNat (w.c 3).toNat w.E (m - 1) s ≠ p) := by
  unfold comB Wa.whr
  rcases whr_told (window := (w.c 2).toNat) (t := s) hn hm with ⟨ea, ta⟩ | ⟨ea, la⟩
  · rw [ea]
    by_cases h : atF (w.c 2).toNat (w.c 3).toNat w.E m s = p
    · rw [if_neg (by simp [h])]
      by_cases h0 : m = 0
      · subst h0; simp [h]
      · have e1 : ((m : Int) - 1) = ((m - 1 : Nat) : Int) := oM
        rw [if_neg oM, e1]
        rcases whr_told (window := (w.c 2).toNat) (t := s) hn (show m - 1 < w.E.length by omega) with ⟨eb, _⟩ | ⟨eb, lb⟩
        · rw [eb]; simp [h, h0]
        · unfold Cw.whr at ea eb
          rw [if_neg oM, if_pos ta] at eb
          have := congrArg Prod.snd eb
          dsimp only at this
          omega
    · rw [if_pos (.inr h)]
      exact ⟨fun x => (by cases x), fun x => absurd x.1 h⟩
  · rw [ea, if_pos (.inl (by simp))]
    refine ⟨fun x => (by cases x), fun x => ?_⟩
    have := x.1
    omega
theorem hold_fol {w : Wa} {r : Rl} {s : List UInt8} {e : Nat} (hn : 1 ≤ (w.c 3).toNat) (hr : ruleF r = 0) (hs : kindOf s ≠ 0) (he : e < w.E.length) : HoldAt (w.c 2).toNat (w.c 3).toNat w.E r s e ↔ ((r.kind = 0 ∨ kindOf s = r.kind) ∧ Fol w r s e) := by
  have hb := (ruleF_zero.1 hr).2.1
  unfold Rl.bound at hb
  unfold HoldAt Fol
  rw [comB_at hn oM he]
  have key : atF (w.c 2).toNat (w.c 3).toNat w.E e s = r.thn → ∀ x : Nat, x < e → (w.whr s (x : Nat)).1 = atF (w.c 2).toNat (w.c 3).toNat w.E x s := by
    intro ht x hx
    have hts : toldE w.E s := by
      obtain ⟨l, hl, q⟩ := atF_told (w := (w.c 2).toNat) (E := w.E) (e := e) (t := s) hn oM
      exact ⟨l, List.mem_of_mem_take hl, q⟩
    unfold Wa.whr Cw.whr atF
    rw [if_neg oM, if_pos hts, Int.toNat_natCast]
  constructor
  · rintro ⟨h0, h1, k, h5, h6, h7, h8⟩
    refine ⟨h0.2.2, h1, k, h5, h6, (comB_at hn oM oM).2 h7, fun x hx1 hx2 => ?_⟩
    rw [key h1.1 x hx2]
    have := h8 x hx1 hx2
    by_cases hw : r.wout < 0
    · exact .inl hw
    · exact .inr fun e => this ⟨oM, e⟩
  · rintro ⟨h0, h1, k, h5, h6, h7, h8⟩
    refine ⟨⟨hr, hs, h0⟩, h1, k, h5, h6, (comB_at hn oM oM).1 h7, fun x hx1 hx2 hc => ?_⟩
    have := h8 x hx1 hx2
    rw [key h1.1 x hx2] at this
    rcases this with h | h
    · omega
    · exact h hc.2
theorem filter_add {α : Type} [DecidableEq α] {l : List α} (hn : l.Nodup) {p q : α → Bool} {x : α} (hpq : ∀ a ∈ l, p a = true ↔ (q a = true ∨ a = x)) (hq : q x = false) : (l.filter p).length = (l.filter q).length + (if x ∈ l then 1 else 0) := by
  induction l with
  | nil => simp
  | cons a l ih =>
    obtain ⟨h1, h2⟩ := List.nodup_cons.1 hn
    have i := ih h2 fun b hb => hpq b (List.mem_cons_of_mem _ hb)
    have ha := hpq a (by simp)
    by_cases e : a = x
    · subst e
      rw [List.filter_cons_of_pos (ha.2 (.inr rfl)), List.filter_cons_of_neg (by simp [hq]), if_pos (by simp), List.length_cons, i, if_neg h1]
    · have hx : (x ∈ a :: l) ↔ x ∈ l := by
        rw [List.mem_cons]
        exact ⟨fun h => h.resolve_left fun e2 => e e2.symm, .inr⟩
      simp only [hx]
      by_cases hp : p a = true
      · have hqa : q a = true := (ha.1 hp).resolve_right e
        rw [List.filter_cons_of_pos hp, List.filter_cons_of_pos hqa, List.length_cons, List.length_cons, i]; omega
      · have hqa : ¬ q a = true := fun h => hp (ha.2 (.inl h))
        rw [List.filter_cons_of_neg hp, List.filter_cons_of_neg hqa, i]
end Go.Cw
namespace Go.Cw
open Go
def visA (tg : List (List UInt8)) (i k e : Nat) (a : Al) : Bool :=
  decide (a.tag ∈ tg.take i ∨ (i < tg.length ∧ a.tag = tg.getD i default ∧ (a.rule < k ∨ (a.rule = k ∧ a.epoch < e))))
def cntA (al : List Al) (tg : List (List UInt8)) (i k e : Nat) : Nat := (al.filter (visA tg i k e)).length
theorem cntA_le (al : List Al) (tg : List (List UInt8)) (i k e : Nat) : cntA al tg i k e ≤ al.length := List.length_filter_le _ _
def AlB (al : List Al) (nR nE : Nat) : Prop := ∀ a ∈ al, 0 ≤ a.rule ∧ a.rule < nR ∧ 0 ≤ a.epoch ∧ a.epoch < nE
theorem visA_iff {tg : List (List UInt8)} {i k e : Nat} {a : Al} : visA tg i k e a = true ↔ (a.tag ∈ tg.take i ∨ (i < tg.length ∧ a.tag = tg.getD i default ∧ (a.rule < k ∨ (a.rule = k ∧ a.epoch < e)))) := by
  unfold visA; rw [decide_eq_true_iff]
theorem bool_ext {a b : Bool} (h : a = true ↔ b = true) : a = b := by cases a <;> cases b <;> simp_all
theorem cntA_zero (al : List Al) (tg : List (List UInt8)) {nR nE : Nat} (hb : AlB al nR nE) : cntA al tg 0 0 0 = 0 := by
  unfold cntA
  rw [List.filter_eq_nil_iff.2, List.length_nil]
  intro a ha hv
  rw [visA_iff] at hv
  have := hb a ha
  rcases hv with h | ⟨_, _, h⟩
  · simp at h
  · omega
theorem nodup_take_ne {tg : List (List UInt8)} (hn : tg.Nodup) {i : Nat} (hi : i < tg.length) : tg.getD i default ∉ tg.take i := by
  intro h
  have e := take_succ_d default hi
  have : (tg.take (i + 1)).Nodup := hn.sublist (List.take_sublist _ _)
  rw [e] at this
  exact (List.nodup_append.1 this).2.2 _ h _ (List.mem_singleton.2 rfl) rfl
theorem cntA_e {al : List Al} (hal : al.Nodup) {tg : List (List UInt8)} (hn : tg.Nodup) {i k e : Nat} (hi : i < tg.length) : cntA al tg i k (e + 1) = cntA al tg i k e + if (⟨k, e, tg.getD i default⟩ : Al) ∈ al then 1 else 0 := by
  unfold cntA
  refine filter_add hal (fun a _ => ?_) ?_
  · rw [visA_iff, visA_iff]
    obtain ⟨ar, ae, at_⟩ := a
    simp only [Al.mk.injEq]
    constructor
    · rintro (h | ⟨h1, h2, h3⟩)
      · exact .inl (.inl h)
      · by_cases e2 : ar = k ∧ ae = e
        · exact .inr ⟨e2.1, e2.2, h2⟩
        · exact .inl (.inr ⟨h1, h2, oM⟩)
    · rintro ((h | ⟨h1, h2, h3⟩) | ⟨h1, h2, h3⟩)
      · exact .inl h
      · exact .inr ⟨h1, h2, oM⟩
      · exact .inr ⟨hi, h3, oM⟩
  · refine Bool.eq_false_iff.2 fun h => ?_
    rw [visA_iff] at h
    rcases h with h | ⟨_, _, h⟩
    · exact nodup_take_ne hn hi h
    · dsimp only at h; omega
theorem cntA_k {al : List Al} {tg : List (List UInt8)} {nR nE : Nat} (hb : AlB al nR nE) (i k : Nat) : cntA al tg i (k + 1) 0 = cntA al tg i k nE := by
  unfold cntA
  congr 1
  refine List.filter_congr fun a ha => bool_ext ?_
  have := hb a ha
  rw [visA_iff, visA_iff]
  constructor
  · rintro (h | ⟨h1, h2, h3⟩)
    · exact .inl h
    · exact .inr ⟨h1, h2, oM⟩
  · rintro (h | ⟨h1, h2, h3⟩)
    · exact .inl h
    · exact .inr ⟨h1, h2, oM⟩
theorem cntA_i {al : List Al} {tg : List (List UInt8)} {nR nE : Nat} (hb : AlB al nR nE) {i : Nat} (hi : i < tg.length) : cntA al tg (i + 1) 0 0 = cntA al tg i nR 0 := by
  unfold cntA
  congr 1
  refine List.filter_congr fun a ha => bool_ext ?_
  have := hb a ha
  rw [visA_iff, visA_iff, take_succ_d default hi, List.mem_append, List.mem_singleton]
  constructor
  · rintro ((h | h) | ⟨h1, h2, h3⟩)
    · exact .inl h
    · exact .inr ⟨hi, h, oM⟩
    · omega
  · rintro (h | ⟨h1, h2, h3⟩)
    · exact .inl (.inl h)
    · exact .inl (.inr h2)
theorem cntA_skip {al : List Al} {tg : List (List UInt8)} {nR nE : Nat} (hb : AlB al nR nE) {i : Nat} (hi : i < tg.length) (hs : ∀ a ∈ al, a.tag ≠ tg.getD i default) : cntA al tg (i + 1) 0 0 = cntA al tg i 0 0 := by
  unfold cntA
  congr 1
  refine List.filter_congr fun a ha => bool_ext ?_
  have := hb a ha
  have h9 := hs a ha
  rw [visA_iff, visA_iff, take_succ_d default hi, List.mem_append, List.mem_singleton]
  constructor
  · rintro ((h | h) | ⟨h1, h2, h3⟩)
    · exact .inl h
    · exact absurd h h9
    · omega
  · rintro (h | ⟨h1, h2, h3⟩)
    · exact .inl (.inl h)
    · omega
theorem cntA_all {al : List Al} {tg : List (List UInt8)} (h : ∀ a ∈ al, a.tag ∈ tg) : cntA al tg tg.length 0 0 = al.length := by
  unfold cntA
  rw [List.filter_eq_self.2]
  intro a ha
  rw [visA_iff, List.take_length]
  exact .inl (h a ha)
structure AlP (w : Wa) (tg : List (List UInt8)) : Prop where
  n3 : 1 ≤ (w.c 3).toNat
  b : AlB w.al w.rs.length w.E.length
  nd : w.al.Nodup
  mem : ∀ (k e : Nat) (s : List UInt8), k < w.rs.length → e < w.E.length → kindOf s ≠ 0 → ((⟨k, e, s⟩ : Al) ∈ w.al ↔ ((w.rs.getD k default).kind = 0 ∨ kindOf s = (w.rs.getD k default).kind) ∧ Fol w (w.rs.getD k default) s e)
  kd : ∀ a ∈ w.al, kindOf a.tag ≠ 0
  sub : tg.length < 40 → ∀ a ∈ w.al, a.tag ∈ tg
theorem AlP.of {c : Nat → Int} {rs : List Rl} {L : List Ac} {tg : List (List UInt8)} (hw : watchF c rs = 0) (hs : acSum L ≤ 10000) (ht : TP tg (readsA ln0 L)) : AlP ((newW c rs).plays L) tg := by
  have hok0 := watchF_new hw
  have hok := hok0.plays (L := L) oM
  have hA := (AlI.new hw).plays L hok0 oM
  have hkn := (plays_kn L (newW c rs)).2.2
  generalize (newW c rs).plays L = w at *
  have hrf : ∀ k, k < w.rs.length → ruleF (w.rs.getD k default) = 0 := fun k hk => hok.rf _ (by
    rw [List.getD_eq_getElem?_getD, List.getElem?_eq_getElem hk]; exact List.getElem_mem hk)
  have htold : ∀ a ∈ w.al, a.tag ∈ w.kn := fun a ha => by
    obtain ⟨k, e, s, rfl⟩ := hA.fm a ha
    obtain ⟨h1, h2, h3⟩ := (hA.mem k e s).1 ha
    obtain ⟨l, hl, q, hq, hqs⟩ := h3.told hA.n
    have := ((hok.Eb l (List.mem_of_mem_take hl)).2 q hq).2.1
    rw [hqs] at this; exact this
  refine ⟨hA.n, fun a ha => ?_, hA.nd, fun k e s hk he hs => ?_, fun a ha => ?_, fun hl a ha => ?_⟩
  · obtain ⟨k, e, s, rfl⟩ := hA.fm a ha
    obtain ⟨h1, h2, _⟩ := (hA.mem k e s).1 ha
    dsimp only; omega
  · rw [hA.mem, hold_fol hA.n (hrf k hk) hs he]
    exact ⟨fun x => x.2.2, fun x => ⟨hk, he, x⟩⟩
  · obtain ⟨k, e, s, rfl⟩ := hA.fm a ha
    exact ((hA.mem k e s).1 ha).2.2.1.2.1
  · refine ht.all hl _ ?_
    rcases hkn _ (htold a ha) with h | h
    · exact absurd h (by simp [newW])
    · exact h
def S291 : Spec := fun args h K => ∃ c rv rs v L, args = [aggC c, rv, v] ∧ Sl Rl.enc h rv rs ∧ Sl Ac.enc h v L ∧ ∀ h', Heap.le h h' → K (.bool true) h'
theorem F291_ok {N : Num} {Γ : Ctx} [GoodC Γ] (H264 : Sat S264 (Γ 264)) (H294 : Sat S294 (Γ 294)) (H267 : Sat S267 (Γ 267)) (H265 : Sat S265 (Γ 265)) (H295 : Sat S295 (Γ 295)) (H296 : Sat S296 (Γ 296)) (H283 : Sat S283 (Γ 283)) (H81 : Sat (S81 N) (Γ 81)) (H276 : Sat S276 (Γ 276)) (H297 : Sat S297 (Γ 297)) : Sat S291 (SF N Γ F291) := by
  rintro _ h K ⟨c, rv, rs, v, L, rfl, hrs, hL, hK⟩
  refine i_fun rfl ?_
  simp only [F291, Ze, Nat.reduceSub, Nat.reduceAdd]
  refine sw1 @aggC.eq_1 ?_
  refine i_call H264 ⟨v, L, 50, rfl, hL, oM, fun b hb => ?_⟩
  cases b with
  | false =>
    refine sw0 ?_
    exact hK h (Heap.le.refl h)
  | true =>
  have hla := hb rfl
  have hsum := lightA_sum hla
  have hll := hla.1
  refine sw0 ?_
  by_cases hcond : lightR rs ∧ watchF c rs = 0
  rotate_left
  · refine i_call H294 ⟨c, rv, rs, rfl, hrs, fun _ h1 hle1 => ?_, fun e => absurd e hcond⟩
    refine sw0 ?_
    refine i_call H267 ⟨c, rv, rs, rfl, hrs.le hle1, fun h3 hle3 => ?_⟩
    have hle13 := hle1.trans hle3
    by_cases hf : watchF c rs = 0
    · rw [hf]
      refine sw0 ?_
      refine i_call H265 ⟨rv, rs, rfl, hrs.le hle13, ?_⟩
      rw [decide_eq_false fun e => hcond ⟨e, hf⟩]
      refine sw0 ?_
      exact hK h3 hle13
    · have h0 : (0 : Int) < (watchF c rs : Nat) := oM
      refine sw1 @h0 ?_
      exact hK h3 hle13
  refine i_call H294 ⟨c, rv, rs, rfl, hrs, fun e => absurd hcond e, fun _ p1 g1 h1 st1 hW1 => ?_⟩
  have hok0 := watchF_new hcond.2
  have Q1 : Ps h1 [h, g1] := ((Ps.one h).up st1.le0).add st1.le fun x hx => by rw [List.mem_singleton.1 hx]; exact disj_new st1 (Heap.le.refl h)
  refine sw0 ?_
  refine i_call H295 ⟨g1, h, p1, _, 0, v, L, rfl, hW1, Q1.lt 1 rfl, hL, Q1.lt 0 rfl, Q1.dj 0 1 rfl rfl oM, hok0, oM, oM, fun h3 hle3 => ?_, fun g3 h3 st3 hW3 => ?_⟩
  · refine sw0 ?_
    exact hK h3 hle3
  have Q3 := Q1.step 1 rfl st3
  have hlh3 := Q3.lt 0 rfl
  have hlg3 := Q3.lt 1 rfl
  have hokw := hok0.plays (L := L) oM
  have hwc := plays_kn L (newW c rs)
  have hP0 := fun (tg : List (List UInt8)) (ht : TP tg (readsA ln0 L)) => AlP.of (tg := tg) hcond.2 (L := L) oM ht
  have hwrs : ((newW c rs).plays L).rs = rs := hwc.2.1
  generalize (newW c rs).plays L = w at hW3 hokw hP0 hwrs
  subst hwrs
  clear hwc Q1 st1 hW1
  refine sw0 ?_
  refine i_call H296 ⟨v, L, rfl, hL.le hlh3, oM, oM, fun v4 h4 tg hle4 hs4 htp => ?_⟩
  refine sw0 ?_
  have hal := hokw.al
  have hnw := hokw.now
  have hE1 : w.E.length ≤ 1000 := by rw [hokw.El]; exact clos_le1000 hnw
  refine i_call H283 ⟨g3, p1, w, rfl, hW3, hlg3.trans hle4, oM, fun va h5 hle5 hs5 => ?_⟩
  have hP := hP0 tg htp
  clear hP0
  have hn8 := htp.le
  have hnd := htp.nd
  have hle35 := hle4.trans hle5
  have hg5 := hlg3.trans hle35
  have hr5 := hrs.le (hlh3.trans hle35)
  have ht5 := hs4.le ((fr_le h3 h4).trans hle5)
  have ha5 := hs5.le (fr_le h4 h5)
  have hh5 := hlh3.trans hle35
  clear hrs hs4 hs5 hlh3 hlg3 hle35 st3 Q3
  refine sw0 ?_
  have z0 := cntA_zero w.al tg hP.b
  refine i_loop (fun i : Nat => [none, some rv, none, none, none, some (.pointer (some ⟨p1, 0, none⟩)), none, none, some v4, some va, some (.int .i64 (cntA w.al tg i 0 0 : Nat)), some (.int .i64 (i : Nat)), none, none, none, none, none, none, none, none, none, none, none, none, none, none, none, none, none, none, none, none, none, none, none, none, none, none, none, none, none, none, none, none])
    (fun i H => i ≤ tg.length ∧ Heap.le h5 H) (fun i => tg.length - i) 0 (by rw [z0]; try simp only [Pf]; rfl) ⟨oM, Heap.le.refl h5⟩ ?_
  rintro i H ⟨hi, hH⟩
  have hi1 : IntKind.i64.wrap ((i : Int) + 1) = ((i + 1 : Nat) : Int) := by rw [w64 oM oM]; omega
  have Rt := (ht5.le hH).rules1 (fun s => .string (str s)) (fun _ => rfl) []
  have Ra := (ha5.le hH).rules 3 encAl_len default
  refine sw1 @Rt ?_
  refine i_cond (fun c1 => ?_) (fun c1 => ?_)
  rotate_left
  · have hie : i = tg.length := oM
    by_cases h40 : tg.length = 40
    · refine sw3 @Rt @Ra @h40 ?_
      exact hK H (hh5.trans hH)
    · have hca := cntA_all (al := w.al) (tg := tg) (hP.sub oM)
      rw [hie, hca]
      refine sw2 @Rt @Ra ?_
      exact hK H (hh5.trans hH)
  have hil : i < tg.length := oM
  obtain ⟨s, hs⟩ : ∃ s, s = tg.getD i default := ⟨_, rfl⟩
  have hs2 : tg.getD i [] = s := hs.symm
  refine sw2 @Rt @hs2 ?_
  refine i_call H81 ⟨s, rfl, fun H2 hl2 => ?_⟩
  cases hto : tagOf s with
  | none =>
    have hko := (kindOf_zero s).2 hto
    have hsk := cntA_skip hP.b hil (fun a ha e => hP.kd a ha (by rw [e, ← hs]; exact hko))
    unfold tgV
    rw [hto]
    refine sw3 @aggT.eq_1 @hi1 @errV_succ ?_
    exact k_loop (i + 1) oM (by rw [hsk]; try simp only [Pf]) ⟨oM, hH.trans hl2⟩
  | some tt =>
  have hko : kindOf s ≠ 0 := fun e => by rw [(kindOf_zero s).1 e] at hto; cases hto
  have hkt : kindOf s = tt.kind := by unfold kindOf; rw [hto]
  unfold tgV
  rw [hto]
  refine sw2 @aggT.eq_1 @errV_zero ?_
  generalize hfi : (.int .i64 tt.filter : Value) = v1
  generalize hpa : (.int .i64 tt.part : Value) = v2
  generalize hco : (.int .i64 tt.company : Value) = v3
  generalize hre : (.int .i64 tt.ref : Value) = v5
  generalize hse : (.int .i64 tt.serial : Value) = v6
  clear hfi hpa hco hre hse
  have hH2 := hH.trans hl2
  refine i_loop (fun k : Nat => [none, some rv, none, none, none, some (.pointer (some ⟨p1, 0, none⟩)), none, none, some v4, some va, some (.int .i64 (cntA w.al tg i k 0 : Nat)), some (.int .i64 (i : Nat)), some (.agg #[.int .i64 tt.kind, v1, v2, v3, v5, v6]), none, some (.int .i64 (k : Nat)), none, none, none, none, none, none, none, none, none, none, none, none, none, none, none, none, none, none, none, none, none, none, none, none, none, none, none, none, none])
    (fun k H => k ≤ w.rs.length ∧ Heap.le h5 H) (fun k => w.rs.length - k) 0 (by try simp only [Pf]; rfl) ⟨oM, hH2⟩ ?_
  clear hH hH2 hl2 Rt Ra
  rintro k H ⟨hk, hH⟩
  have hrl := hokw.rl
  have hk1 : IntKind.i64.wrap ((k : Int) + 1) = ((k + 1 : Nat) : Int) := by rw [w64 oM oM]; omega
  have Rr := (hr5.le hH).rules 6 Rl.enc_len default
  refine sw1 @Rr ?_
  refine i_cond (fun c2 => ?_) (fun c2 => ?_)
  rotate_left
  · have hke : k = w.rs.length := oM
    have hci := cntA_i hP.b hil
    rw [hke, ← hci]
    refine sw1 @hi1 ?_
    exact k_loop (i + 1) oM sE ⟨oM, hH⟩
  have hkl : k < w.rs.length := oM
  refine sw0 ?_
  refine i_loop (fun e : Nat => [none, some rv, none, none, none, some (.pointer (some ⟨p1, 0, none⟩)), none, none, some v4, some va, some (.int .i64 (cntA w.al tg i k e : Nat)), some (.int .i64 (i : Nat)), some (.agg #[.int .i64 tt.kind, v1, v2, v3, v5, v6]), none, some (.int .i64 (k : Nat)), some (.int .i64 (e : Nat)), none, none, none, none, none, none, none, none, none, none, none, none, none, none, none, none, none, none, none, none, none, none, none, none, none, none, none, none])
    (fun e H => e ≤ w.E.length ∧ Heap.le h5 H) (fun e => w.E.length - e) 0 (by try simp only [Pf]; rfl) ⟨oM, hH⟩ ?_
  clear hH Rr
  rintro e H ⟨he, hH⟩
  have he1 : IntKind.i64.wrap ((e : Int) + 1) = ((e + 1 : Nat) : Int) := by rw [w64 oM oM]; omega
  have Rr := (hr5.le hH).rules 6 Rl.enc_len default
  have Rt := (ht5.le hH).rules1 (fun s => .string (str s)) (fun _ => rfl) []
  refine sw0 ?_
  refine i_call H276 ⟨g3, p1, w, rfl, hW3, hg5.trans hH, ?_⟩
  refine sw0 ?_
  refine i_cond (fun c3 => ?_) (fun c3 => ?_)
  rotate_left
  · have hee : e = w.E.length := oM
    have hck := cntA_k hP.b i k (tg := tg)
    rw [hee, ← hck]
    refine sw1 @hk1 ?_
    exact k_loop (k + 1) oM sE ⟨oM, hH⟩
  have hel : e < w.E.length := oM
  have hce := cntA_e hP.nd hnd hil (k := k) (e := e)
  rw [← hs] at hce
  have hmem := hP.mem k e s hkl hel hko
  have hrf : ruleF (w.rs.getD k default) = 0 := hokw.rf _ (by
    rw [List.getD_eq_getElem?_getD, List.getElem?_eq_getElem hkl]; exact List.getElem_mem hkl)
  have hrb := (ruleF_zero.1 hrf).2.1
  unfold Rl.bound at hrb
  have hcle := cntA_le w.al tg i k e
  generalize hre : w.rs.getD k default = r at *
  rw [hkt] at hmem
  by_cases cK : r.kind = 0 ∨ r.kind = tt.kind
  case' pos =>
    have hT : (r.kind = 0 ∨ r.kind = tt.kind) = True := eq_true cK
    refine sw6 @Rr @hre @Rl.enc.eq_1 @Rt @hs2 @hT ?_
    refine i_call H297 ⟨g3, p1, w, r, s, e, rfl, hW3, hg5.trans hH, oM, oM, fun bw H2 hl2 hbw => ?_⟩
    have hHb := hH.trans hl2
    have hbm : bw = true ↔ (⟨k, e, s⟩ : Al) ∈ w.al := by
      rw [hmem, hbw]
      exact ⟨fun q => ⟨by rcases cK with q2 | q2
                          · exact .inl q2
                          · exact .inr q2.symm, q⟩, fun q => q.2⟩
    have hb0 : bw = bw := rfl
    try simp (disch := first | omega | (simp only [PL]; omega)) only [Zr, simprocAttr, -reduceIte, hT]
  case' neg =>
    have hT : (r.kind = 0 ∨ r.kind = tt.kind) = False := eq_false cK
    obtain ⟨bw, hb0⟩ : ∃ bw, bw = false := ⟨_, rfl⟩
    have hHb := hH
    have hbm : bw = true ↔ (⟨k, e, s⟩ : Al) ∈ w.al := by
      rw [hmem, hb0]
      refine ⟨fun q => (by cases q), fun q => absurd ?_ cK⟩
      rcases q.1 with q2 | q2
      · exact .inl q2
      · exact .inr q2.symm
    try simp (disch := first | omega | (simp only [PL]; omega)) only [Zr, simprocAttr, -reduceIte, Rr, hre, Rl.enc, Rt, hs2, hT]
  all_goals
    obtain ⟨x, hx⟩ : ∃ x : Al, x = ⟨k, e, s⟩ := ⟨_, rfl⟩
    rw [← hx] at hbm hce
    refine i_loop (fun j : Nat => [none, some rv, none, none, none, some (.pointer (some ⟨p1, 0, none⟩)), none, none, some v4, some va, some (.int .i64 (cntA w.al tg i k e : Nat)), some (.int .i64 (i : Nat)), some (.agg #[.int .i64 tt.kind, v1, v2, v3, v5, v6]), none, some (.int .i64 (k : Nat)), some (.int .i64 (e : Nat)), some (.bool bw), some (.bool (decide (x ∈ w.al.take j))), some (.int .i64 (j : Nat)), none, none, none, none, none, none, none, none, none, none, none, none, none, none, none, none, none, none, none, none, none, none, none, none, none])
      (fun j H => j ≤ w.al.length ∧ Heap.le h5 H) (fun j => w.al.length - j) 0 (by try simp only [Pf]; first | (simp; done) | (simp [hb0]; done)) ⟨oM, hHb⟩ ?_
    clear hHb hH Rr Rt
    rintro j H ⟨hj, hH⟩
    have hj1 : IntKind.i64.wrap ((j : Int) + 1) = ((j + 1 : Nat) : Int) := by rw [w64 oM oM]; omega
    have Rt := (ht5.le hH).rules1 (fun s => .string (str s)) (fun _ => rfl) []
    have Ra := (ha5.le hH).rules 3 encAl_len default
    refine sw1 @Ra ?_
    refine i_cond (fun c4 => ?_) (fun c4 => ?_)
    rotate_left
    · have hje : j = w.al.length := oM
      rw [hje, List.take_length]
      have hdx : decide (x ∈ w.al) = bw := bool_ext (by rw [decide_eq_true_iff]; exact hbm.symm)
      rw [hdx]
      refine sw0 ?_
      cases bw with
      | true =>
        rw [if_pos (hbm.1 rfl)] at hce
        have hw1 : IntKind.i64.wrap ((cntA w.al tg i k e : Int) + 1) = ((cntA w.al tg i k (e + 1) : Nat) : Int) := by rw [hce, w64 oM oM]; omega
        refine sw2 @hw1 @he1 ?_
        exact k_loop (e + 1) oM sE ⟨oM, hH⟩
      | false =>
        rw [if_neg fun q => (by have := hbm.2 q; cases this), Nat.add_zero] at hce
        refine sw1 @he1 ?_
        exact k_loop (e + 1) oM (by rw [hce]; try simp only [Pf]; rfl) ⟨oM, hH⟩
    have hjl : j < w.al.length := oM
    have hq := fun h' n => al_eq h' (w.al.getD j default) x n
    have htk := take_succ_d default hjl
    generalize hae : w.al.getD j default = a at *
    have hqx := hq
    rw [hx] at hq
    refine sw7 @Ra @Rt @hs2 @hae @encAl.eq_1 @hj1 @hq ?_
    have hv : decide (x ∈ w.al.take (j + 1)) = decide (x ∈ w.al.take j ∨ a = ⟨k, e, s⟩) := by
      refine bool_ext ?_
      rw [decide_eq_true_iff, decide_eq_true_iff, htk, List.mem_append, List.mem_singleton, hx]
      exact ⟨fun q => q.imp id Eq.symm, fun q => q.imp id Eq.symm⟩
    exact k_loop (j + 1) oM (by rw [hv]; try simp only [Pf]) ⟨oM, hH⟩
end Go.Cw
