/- Part 6 of the proof of WatchSays: a small language for the program's functions, its soundness, and what the functions do. No conditions beyond the theorems' own. -/
import Derived.Test.YthhepmakjimhlaaGreatCw5
set_option linter.unusedSimpArgs false
set_option linter.unusedVariables false
set_option maxRecDepth 20000
namespace Go.Cw
open Go
def S279 : Spec := fun args h K => ∃ g p w fed rd, ∃ reader : Nat, args = [.pointer (some ⟨p, 0, none⟩), .int .i64 (reader : Nat), aggD rd] ∧ MO g p w ∧ Heap.le g h ∧ w.Ok fed ∧ fed ≤ 20000 ∧ reader < 4 ∧ ¬ rd.bad ∧
 ∀ g' h', Step g h g' h' → MO g' p (w.read reader rd) → K (.tuple #[]) h'
theorem F279_ok {N : Num} {Γ : Ctx} [GoodC Γ] (H83 : Sat S83 (Γ 83)) (H38 : Sat S38m (Γ 38)) : Sat S279 (SF N Γ F279) := by
 rintro _ h K ⟨g, p, w, fed, rd, reader, rfl, ⟨F, rv, av, kv, bm, gw, gr, ga, gt, gk, hps, hw⟩, hg, hok, hfed, hre, hrd, hK⟩
 have hp := hps.rest hg
 unfold Rd.bad at hrd
 obtain ⟨hA9, hd1, hd2, hd3, hd4⟩ : w.A.length ≤ 1818 ∧ w.dr 1 ≤ 1818 ∧ w.dr 2 ≤ 1818 ∧ w.dr 3 ≤ 1818 ∧ w.dr 4 ≤ 1818 := by have := hok.sum; omega
 have hkn := hok.kn
 refine i_fun rfl ?_
 simp only [F279, Ze, Nat.reduceSub, Nat.reduceAdd, aggD]
 have C40 := hw.c40 (hp.lt 1 rfl)
 have hks : Sl encT h kv w.kn := SlB.sl (enc := encT) (sz := 1) (fun _ => rfl) (hw.kn.le (hp.lt 5 rfl))
 have RK := hks.rules1 (fun s => .string (str s)) (fun _ => rfl) []
 refine sw0 ?_
 refine i_loop (fun i : Nat => [some (.pointer (some ⟨p, 0, none⟩)), some (.int .i64 (reader : Nat)), none, some (.agg #[.int .i64 rd.ant, .int .i64 rd.str, .int .i64 rd.age, .string (str rd.tag)]), some (.bool (decide (rd.tag ∈ w.kn.take i))), some (.int .i64 (i : Nat)), none, none, none, none, none, none, none, none, none, none, none, none, none])
  (fun i H => H = h ∧ i ≤ w.kn.length) (fun i => w.kn.length - i) 0 (by try simp only [Pf]; simp) ⟨rfl, oM⟩ ?_
 rintro i H ⟨rfl, hi⟩
 have hi1 : IntKind.i64.wrap ((i : Int) + 1) = ((i + 1 : Nat) : Int) := by rw [w64 oM oM]; omega
 refine sw2 @C40 @RK ?_
 refine i_cond (fun c0 => ?_) (fun c0 => ?_)
 ·have hv : decide (rd.tag ∈ w.kn.take (i + 1)) = decide (rd.tag ∈ w.kn.take i ∨ w.kn.getD i [] = rd.tag) := by
   rw [take_succ_d [] oM, decide_eq_decide, List.mem_append, List.mem_singleton]
   exact ⟨fun q => q.imp id Eq.symm, fun q => q.imp id Eq.symm⟩
  refine sw3 @C40 @RK @hi1 ?_
  exact k_loop (i + 1) oM (by rw [hv]; try simp only [Pf]) ⟨rfl, oM⟩
 have hie : i = w.kn.length := oM
 subst hie
 rw [List.take_length]
 have hwh := hok.wh (4 * reader + rd.ant.toNat) oM
 have CW := hw.cWh (hp.lt 1 rfl) (r := reader) (a := rd.ant.toNat) oM oM
 unfold Wa.read at hK
 generalize hpl : w.c (6 + (4 * reader + rd.ant.toNat)) = pl at *
 refine sw1 @CW ?_
 refine i_call H83 ⟨rd.tag, rfl, fun h1 hle1 => ?_⟩
 have Q1 := hp.up hle1
 have C40 := hw.c40 (Q1.lt 1 rfl)
 clear RK
 have hks1 := hks.le hle1
 have RK := hks1.rules1 (fun s => .string (str s)) (fun _ => rfl) []
 refine sw0 ?_
 refine i_cond (fun c1 => ?_) (fun c1 => ?_)
 ·rw [if_pos ((kindOf_zero rd.tag).1 c1)] at hK
  have C1 := hw.c41 (Q1.lt 1 rfl) (k := 1) oM
  have wi : IntKind.i64.wrap ((w.dr 1 : Int) + 1) = ((w.dr 1 + 1 : Nat) : Int) := by rw [w64 oM oM]; omega
  refine sw2 @C1 @wi ?_
  refine i_mdrop hg Q1 hw 1 oM _ fun g' h' st hw' => ?_
  refine sw0 ?_
  exact hK g' h' st hw'
 rw [if_neg (fun e => c1 ((kindOf_zero rd.tag).2 e))] at hK
 refine sw0 ?_
 refine i_cond (fun c2 => ?_) (fun c2 => ?_)
 ·rw [if_pos c2] at hK
  have C1 := hw.c41 (Q1.lt 1 rfl) (k := 2) oM
  have wi : IntKind.i64.wrap ((w.dr 2 : Int) + 1) = ((w.dr 2 + 1 : Nat) : Int) := by rw [w64 oM oM]; omega
  refine sw2 @C1 @wi ?_
  refine i_mdrop hg Q1 hw 2 oM _ fun g' h' st hw' => ?_
  refine sw0 ?_
  exact hK g' h' st hw'
 rw [if_neg c2] at hK
 refine sw2 @C40 @RK ?_
 refine i_cond (fun c3 => ?_) (fun c3 => ?_)
 ·rw [if_pos (by exact ⟨c3.1, by have := c3.2; omega⟩)] at hK
  have C1 := hw.c41 (Q1.lt 1 rfl) (k := 4) oM
  have wi : IntKind.i64.wrap ((w.dr 4 : Int) + 1) = ((w.dr 4 + 1 : Nat) : Int) := by rw [w64 oM oM]; omega
  refine sw2 @C1 @wi ?_
  refine i_mdrop hg Q1 hw 4 oM _ fun g' h' st hw' => ?_
  refine sw0 ?_
  exact hK g' h' st hw'
 rw [if_neg (fun e => c3 ⟨e.1, by have := e.2; omega⟩)] at hK
 have hc0 := hok.c0
 have hc1 := hok.c1
 have hnow := hok.now
 have C37 : h1.cell (((⟨p, 0, none⟩ : Addr).add 35).add 2) = some (.int .i64 (w.now : Nat)) := by rw [add_add', (hw.ob.le (Q1.lt 1 rfl)).cell oM, hw.mf.nw]
 have wi : IntKind.i64.wrap ((w.now : Int) - rd.age) = (w.now : Int) - rd.age := by rw [w64 oM oM]
 refine sw2 @C37 @wi ?_
 have hD : MD F (w.c 0).toNat (w.c 1).toNat w.now av := ⟨by rw [hw.mf.sz]; congr 1; omega, by rw [hw.mf.la]; congr 1; omega, hw.mf.nw, hw.mf.al⟩
 have Q1p : Ps h1 (gw :: ga :: [rest g H, gr, gt, gk]) := Q1.perm (by
  refine (List.Perm.swap _ _ _).trans (List.Perm.cons _ ?_)
  refine (List.Perm.cons _ (List.Perm.swap _ _ _)).trans (List.Perm.swap _ _ _))
 refine i_call H38 ⟨gw, ga, _, p, F, _, _, _, w.A, ⟨pl, rd.str, w.now - rd.age, rd.tag⟩, av, rfl, Q1p, hw.ob, hD, hw.all, oM, oM, oM, oM, oM, fun hn => ?_, fun hn gw' ga' h2 v2 Q2p ho2 ha2 => ?_⟩
 ·rw [if_pos hn] at hK
  have C1 := hw.c41 (Q1.lt 1 rfl) (k := 3) oM
  have wi : IntKind.i64.wrap ((w.dr 3 : Int) + 1) = ((w.dr 3 + 1 : Nat) : Int) := by rw [w64 oM oM]; omega
  have hn0 : (0 : Int) < (adF (w.c 0).toNat (w.c 1).toNat w.now ⟨pl, rd.str, w.now - rd.age, rd.tag⟩ : Nat) := oM
  refine sw3 @C1 @wi @hn0 ?_
  refine i_mdrop hg Q1 hw 3 oM _ fun g' h' st hw' => ?_
  refine sw0 ?_
  exact hK g' h' st hw'
 rw [if_neg (by simpa using hn)] at hK
 have Q2 : Ps h2 [rest g H, gw', gr, ga', gt, gk] := Q2p.perm (by
  refine List.Perm.symm ((List.Perm.swap _ _ _).trans (List.Perm.cons _ ?_))
  refine (List.Perm.cons _ (List.Perm.swap _ _ _)).trans (List.Perm.swap _ _ _))
 have hw2 : MP p { w with A := w.A ++ [⟨pl, rd.str, w.now - rd.age, rd.tag⟩] } (upF F 38 v2) rv v2 kv bm gw' gr ga' gt gk := ⟨ho2, hw.mf.all _ v2, hw.rs, ha2, hw.tr, hw.kn⟩
 refine sw0 ?_
 by_cases hin : rd.tag ∈ w.kn
 ·rw [if_pos hin] at hK
  have hT : (¬ rd.tag ∈ w.kn) = False := eq_false (fun q => q hin)
  refine sw1 @hT ?_
  obtain ⟨g4, q1, q2⟩ := MO.of hg Q2 hw2
  exact hK g4 _ q1 q2
 rw [if_neg hin] at hK
 have hT : (¬ rd.tag ∈ w.kn) = True := eq_true hin
 have C40 := hw2.c40 (Q2.lt 1 rfl)
 refine sw2 @hT @C40 ?_
 refine i_bslB encT 1 (fun _ => rfl) [rd.tag] rfl rfl (by simp [maxLen]) fun x1 b1 h3 hle3 hb1 hx1 hS1 => ?_
 have O2 := hS1.one
 have OK := hw.kn.one
 have Q3 := Q2.up hle3
 refine i_le (le_one hle3) ?_
 refine sw4 O2.1 O2.2 OK.1 OK.2 ?_
 refine i_appB (enc := encT) (sz := 1) (g := gk) (l := w.kn) (l' := [rd.tag]) (fun _ => rfl) (by simp [encT, one]) hw.kn (Q3.lt 5 rfl) (SlB.sl (enc := encT) (sz := 1) (fun _ => rfl) (hS1.le (fr_le _ _))) (by simp; omega) fun v4 h4 gk' hS4 St4 e1 e2 e3 => ?_
 have Q4 := Q3.step 5 rfl St4
 have O3 := hS4.one
 refine sw2 O3.1 O3.2 ?_
 refine i_stF hw2.ob (Q4.lt 1 rfl) 40 O3.2 O3.1 oM fun gw2 h5 st5 ho5 => ?_
 have Q5 := Q4.step 1 rfl st5
 refine sw0 ?_
 obtain ⟨g4, q1, q2⟩ := MO.of (w := { w with A := w.A ++ [⟨pl, rd.str, w.now - rd.age, rd.tag⟩], kn := w.kn ++ [rd.tag] }) hg Q5
  { ob := ho5, mf := hw2.mf.known _ v4, rs := hw.rs, all := ha2, tr := hw.tr, kn := hS4 }
 exact hK g4 _ q1 q2
theorem MO.warm {N : Num} {Γ : Ctx} {g h : Heap} {p : Nat} {w : Wa} (hw : MO g p w) (hg : Heap.le g h) {k : Nat} (hk : k < 4) (n : Int) {K : Value → Heap → Prop}
  (hK : ∀ g' h', Step g h g' h' → MO g' p { w with wm := upN w.wm k n } → K undef h') : efW N Γ (.st 1) [.pointer (some (((⟨p, 0, none⟩ : Addr).add 31).add k)), .int .i64 n] h K := by
 obtain ⟨F, rv, av, kv, bm, gw, gr, ga, gt, gk, hps, hw⟩ := hw
 have Q := hps.rest hg
 rw [add_add]
 refine i_stF (x := .int .i64 n) hw.ob (Q.lt 1 rfl) (31 + k) rfl rfl oM fun g' h' st ho => ?_
 obtain ⟨g2, q1, q2⟩ := MO.of hg (Q.step 1 rfl st) { hw with ob := ho, mf := hw.mf.warm k hk n }
 exact hK g2 h' q1 q2
theorem MO.lineAt {g h : Heap} {p : Nat} {w : Wa} (hw : MO g p w) (hg : Heap.le g h) {k : Nat} (hk : k < 4) : LineAt h ⟨p, 23 + 2 * k, none⟩ (w.ln k).1 (w.ln k).2 := by
 obtain ⟨F, rv, av, kv, bm, gw, gr, ga, gt, gk, hps, hw⟩ := hw
 have := (hw.ob.le ((hps.lt 0 rfl).trans hg)).part2 (j := 23 + 2 * k) oM
 rw [hw.mf.l1 k hk, show 23 + 2 * k + 1 = 24 + 2 * k by omega, hw.mf.l2 k hk] at this
 exact this
theorem MO.line {g h h' : Heap} {p : Nat} {w : Wa} (hw : MO g p w) (hg : Heap.le g h) {k : Nat} (hk : k < 4) {a : List UInt8} {n : Nat} (hkp : keeps ⟨p, 23 + 2 * k, none⟩ 2 h h') (hl : LineAt h' ⟨p, 23 + 2 * k, none⟩ a n) :
  ∃ g', Step g h g' h' ∧ (∀ b, g' b ≠ none → g b ≠ none) ∧ MO g' p { w with ln := upN w.ln k (a, n) } := by
 obtain ⟨F, rv, av, kv, bm, gw, gr, ga, gt, gk, hps, hw⟩ := hw
 have Q := hps.rest hg
 obtain ⟨gw', st, hd, ho⟩ := hw.ob.back2 (Q.lt 1 rfl) oM hkp hl
 have Q2 := Q.step 1 rfl st
 refine ⟨_, Q2.toStep hg, fun b hb => ?_, upF (upF F (23 + 2 * k) (.string (str a))) (23 + 2 * k + 1) (.int .i64 (n : Nat)), rv, av, kv, bm, gw', gr, ga, gt, gk, (Q2.drop 1).sub, { hw with ob := ho, mf := hw.mf.line k hk a n }⟩
 obtain ⟨x, hx, hxb⟩ := joinL_mem hb
 have : ∀ y ∈ [gw, gr, ga, gt, gk], y b ≠ none → g b ≠ none := fun y hy e => by
  intro e2
  exact e (le_none (hps.1 y hy) b e2)
 simp only [List.set, List.mem_cons, List.not_mem_nil, or_false] at hx
 rcases hx with rfl | rfl | rfl | rfl | rfl
 ·exact this gw (by simp) (hd b hxb)
 all_goals exact this _ (by simp) hxb
def S272 : Spec := fun args h K => ∃ g p w fed, ∃ reader : Int, ∃ s, args = [.pointer (some ⟨p, 0, none⟩), .int .i64 reader, .string (str s)] ∧ MO g p w ∧ Heap.le g h ∧ w.Ok fed ∧ (feedF reader s = 0 → fed + s.length ≤ 20000) ∧
 (feedF reader s ≠ 0 → K (.tuple #[.int .i64 0, .int .i64 (feedF reader s : Nat)]) h) ∧
 (feedF reader s = 0 → ∀ g' h', Step g h g' h' → MO g' p (w.feed reader.toNat s) → K (.tuple #[.int .i64 (w.feedN reader.toNat s : Nat), .int .i64 0]) h')
theorem F272_ok {N : Num} {Γ : Ctx} [GoodC Γ] (H25 : Sat S24 (Γ 25)) (H279 : Sat S279 (Γ 279)) : Sat S272 (SF N Γ F272) := by
 rintro _ h K ⟨g, p, w, fed, reader, s, rfl, hw, hg, hok, hfed, hK1, hK2⟩
 refine i_fun rfl ?_
 simp only [F272, Ze, Nat.reduceSub, Nat.reduceAdd]
 unfold feedF at hK1 hK2 hfed
 refine sw0 ?_
 refine i_cond (fun c1 => ?_) (fun c1 => ?_)
 ·rw [if_pos oM] at hK1
  refine sw0 ?_
  exact hK1 oM
 rw [if_neg oM] at hK1 hK2 hfed
 obtain ⟨rn, rfl⟩ : ∃ n : Nat, reader = n := ⟨reader.toNat, oM⟩
 rw [Int.toNat_natCast] at hK2
 have hr4 : rn < 4 := oM
 refine sw0 ?_
 refine i_cond (fun c2 => ?_) (fun c2 => ?_)
 ·rw [if_pos oM] at hK1
  refine sw0 ?_
  exact hK1 oM
 rw [if_neg oM] at hK2 hfed
 have hfed := hfed rfl
 have hK := hK2 rfl
 clear hK1 hK2
 have hla := hw.lineAt hg hr4
 obtain ⟨hr1, hr2⟩ : (w.ln rn).1.length ≤ 20000 ∧ (w.ln rn).2 ≤ 20000 := by
  have := hok.sum
  rcases (by omega : rn = 0 ∨ rn = 1 ∨ rn = 2 ∨ rn = 3) with rfl | rfl | rfl | rfl <;> omega
 have hadr : ((⟨p, 0, none⟩ : Addr).add 23).add (rn * 2) = ⟨p, 23 + 2 * rn, none⟩ := by rw [add_add, addr_add' _ rfl, Nat.zero_add, Nat.mul_comm]
 refine sw1 @hadr ?_
 refine i_call H25 ⟨⟨p, 23 + 2 * rn, none⟩, _, _, s, rfl, hla, oM, oM, fun v h1 hkp hl1 hfv => ?_⟩
 obtain ⟨g1, st1, hdm, hw1⟩ := hw.line hg hr4 hkp hl1
 obtain ⟨k1, hok1, hk1⟩ := hok.line (s := s) hr4
 have hfl := (feed_cnt _ ((w.ln rn).1 ++ s) (Nat.le_refl _)).2
 have hfsl := feed_len _ ((w.ln rn).1 ++ s) (Nat.le_refl _)
 rw [List.length_append] at hfsl
 unfold Wa.feed Wa.feedN at hK
 unfold Wa.line at hK hok1
 generalize ({ w with ln := upN w.ln rn ((feed ((w.ln rn).1 ++ s)).2.1, (w.ln rn).2 + (feed ((w.ln rn).1 ++ s)).2.2) } : Wa) = w1 at *
 generalize (feed ((w.ln rn).1 ++ s)).1 = fs at *
 have hZ1 : Heap.le (fr h h1) h1 := fr_le' hkp
 have Q0 : Ps h1 [rest g h, g1, fr h h1] := by
  have q1 : Ps h [rest g h, g] := ⟨fun x hx => by simp at hx; rcases hx with rfl | rfl; exact rest_le _ _; exact hg, by simp; exact fun b hb => by unfold rest at hb; split at hb; assumption; exact absurd rfl hb⟩
  refine (q1.step 1 rfl st1).add hZ1 fun x hx b hb => ?_
  have hx' : x = rest g h ∨ x = g1 := by simpa [List.set] using hx
  have hhb : h b ≠ none := by
   rcases hx' with rfl | rfl
   ·exact fun e => hb (le_none (rest_le _ _) b e)
   ·exact fun e => hdm b hb (le_none hg b e)
  unfold fr
  cases e : h b with
  | none => exact absurd e hhb
  | some o => rfl
 obtain ⟨rs, hsl, hrl, hrk⟩ := hfv
 have hone := hsl.one
 have R := (hsl.le hZ1).rules 3 FrR.enc_len default
 rw [hrl] at R
 refine sw1 @R ?_
 refine i_loop (fun i : Nat => [some (.pointer (some ⟨p, 0, none⟩)), some (.int .i64 (rn : Nat)), none, none, none, some v, some (.int .i64 (i : Nat)), none, none, none, none, none, none, none])
  (fun i H => i ≤ fs.length ∧ ∃ gW, Ps H [rest g h, gW, fr h h1] ∧ MO gW p ((fs.take i).foldl (fun w f => w.frame rn f) w1)) (fun i => fs.length - i) 0 (by try simp only [Pf]; rfl) ⟨oM, g1, Q0, hw1⟩ ?_
 rintro i H ⟨hi, gW, Q, hW⟩
 have hi1 : IntKind.i64.wrap ((i : Int) + 1) = ((i + 1 : Nat) : Int) := by rw [w64 oM oM]; omega
 have R := (hsl.le (Q.lt 2 rfl)).rules 3 FrR.enc_len default
 rw [hrl] at R
 refine sw1 @R ?_
 refine i_cond (fun c3 => ?_) (fun c3 => ?_)
 rotate_left
 ·have : i = fs.length := oM
  subst this
  rw [List.take_length] at hW
  refine sw1 @R ?_
  exact hK _ _ (Q.step1 hg) hW
 have hi2 : i < fs.length := oM
 obtain ⟨e1, e2, e3⟩ := hrk i hi2
 have hnx : fs.take (i + 1) = fs.take i ++ [fs.getD i default] := take_succ_d default hi2
 have hft := hfl _ (getD_mem default hi2)
 obtain ⟨t1, t2, t3, t4, t5, t6⟩ := fault_reads hft
 have hokw := hok1.frames (reader := rn) (fs.take i)
 have hsumi : ((fs.take i).map fun f => f.reads.length).sum + (fs.getD i default).reads.length ≤ (fs.map fun f => f.reads.length).sum := by
  have := sum_take_le (fs.map fun f => f.reads.length) (i + 1)
  rw [← List.map_take, hnx, List.map_append, List.sum_append] at this
  simpa using this
 generalize hfe : fs.getD i default = f at *
 generalize hre : rs.getD i default = r at *
 have RR := (e3.le (Q.lt 2 rfl)).rules 4 (fun _ => rfl) default
 have hro := e3.one
 generalize hw2 : (fs.take i).foldl (fun w f => w.frame rn f) w1 = w2 at *
 have hfr : (fs.take (i + 1)).foldl (fun w f => w.frame rn f) w1 = w2.frame rn f := by rw [hnx, List.foldl_append, hw2]; rfl
 refine sw7 @R @hre @FrR.enc.eq_1 @RR hro.1 hro.2 @e1 ?_
 refine i_cond (fun c5 => ?pos) (fun c5 => ?neg)
 case' pos =>
  have hre0 : f.reads = [] := t3.resolve_left oM
  obtain ⟨w3, hw3⟩ : ∃ w3 : Wa, w3 = { w2 with wm := upN w2.wm rn f.warm } := ⟨_, rfl⟩
  have hok3 : w3.Ok (k1 + 11 * ((fs.take i).map fun f => f.reads.length).sum) := by rw [hw3]; exact ⟨hokw.c0, hokw.c1, hokw.c2, hokw.c3, hokw.c4, hokw.c5, hokw.wh, hokw.rl, hokw.rf, hokw.now, hokw.sum, hokw.d0, hokw.kn, hokw.knn, hokw.Ab, hokw.El, hokw.Eb, hokw.al⟩
  have hfw : w2.frame rn f = f.reads.foldl (fun w r => w.read rn r) w3 := by
   unfold Wa.frame
   rw [hw3, hre0]
   dsimp only [List.foldl_nil]
   rw [if_pos c5]
  refine sw4 @R @hre @FrR.enc.eq_1 @e2 ?_
  refine hW.warm (Q.lt 1 rfl) hr4 f.warm fun g6 h6 st6 hW6 => ?_
  rw [← hw3] at hW6
  replace Q := Q.step 1 rfl st6
  replace hW := hW6
  clear hW6 st6 hre0
  try simp (disch := first | omega | (simp only [PL]; omega)) only [Zr, simprocAttr, -reduceIte]
 case' neg =>
  obtain ⟨w3, hw3⟩ : ∃ w3 : Wa, w3 = w2 := ⟨_, rfl⟩
  have hok3 := hokw
  rw [← hw3] at hW hok3
  have hfw : w2.frame rn f = f.reads.foldl (fun w r => w.read rn r) w3 := by
   unfold Wa.frame
   dsimp only
   rw [if_neg c5, hw3]
  try simp (disch := first | omega | (simp only [PL]; omega)) only [Zr, simprocAttr, -reduceIte]
 all_goals
  clear R RR hokw
  refine i_loop (fun k : Nat => [some (.pointer (some ⟨p, 0, none⟩)), some (.int .i64 (rn : Nat)), none, none, none, some v, some (.int .i64 (i : Nat)), some (.int .i64 (k : Nat)), none, none, none, none, none, none])
   (fun k H => k ≤ f.reads.length ∧ ∃ gW, Ps H [rest g h, gW, fr h h1] ∧ MO gW p ((f.reads.take k).foldl (fun w r => w.read rn r) w3)) (fun k => f.reads.length - k) 0 (by try simp only [Pf]; rfl) ⟨oM, _, Q, hW⟩ ?_
  clear hW Q
  rintro k H ⟨hk, gW, Q, hW⟩
  have hk1 : IntKind.i64.wrap ((k : Int) + 1) = ((k + 1 : Nat) : Int) := by rw [w64 oM oM]; omega
  have R := (hsl.le (Q.lt 2 rfl)).rules 3 FrR.enc_len default
  rw [hrl] at R
  have RR := (e3.le (Q.lt 2 rfl)).rules 4 (fun _ => rfl) default
  refine sw4 @R @hre @FrR.enc.eq_1 @RR ?_
  refine i_cond (fun c4 => ?_) (fun c4 => ?_)
  rotate_left
  ·have : k = f.reads.length := oM
   subst this
   rw [List.take_length, ← hfw, ← hfr] at hW
   refine sw1 @hi1 ?_
   exact k_loop (i + 1) oM sE ⟨oM, gW, Q, hW⟩
  have hk2 : k < f.reads.length := oM
  have hnr : f.reads.take (k + 1) = f.reads.take k ++ [f.reads.getD k default] := take_succ_d default hk2
  have hrb := t2 _ (getD_mem default hk2)
  generalize hde : f.reads.getD k default = rd at *
  refine sw6 @R @hre @FrR.enc.eq_1 @RR @hde @Rd.enc.eq_1 ?_
  have hok3 := hok3.reads (reader := rn) (f.reads.take k)
  refine i_call H279 ⟨gW, p, _, _, rd, rn, rfl, hW, Q.lt 1 rfl, hok3, by rw [List.length_take]; omega, hr4, hrb, fun g5 h5 st5 hW5 => ?_⟩
  have Q5 := Q.step 1 rfl st5
  refine sw1 @hk1 ?_
  exact k_loop (k + 1) oM sE ⟨oM, g5, Q5, by rw [hnr, List.foldl_append]; exact hW5⟩
def S270 : Spec := fun args h K => ∃ g p w fed, ∃ n : Int, args = [.pointer (some ⟨p, 0, none⟩), .int .i64 n] ∧ MO g p w ∧ Heap.le g h ∧ w.Ok fed ∧ fed ≤ 20000 ∧
 ((n < 0 ∨ 1000 - (w.now : Int) < n) → K (.tuple #[.int .i64 0, .int .i64 1]) h) ∧
 (∀ m : Nat, n = m → w.now + m ≤ 1000 → ∀ g' h', Step g h g' h' → MO g' p (w.tick m) → K (.tuple #[.int .i64 ((w.closed m).length : Nat), .int .i64 0]) h')
theorem MP.al {p : Nat} {w : Wa} {F : Nat → Value} {rv av kv : Value} {bm : Nat} {gw gr ga gt gk : Heap} (h : MP p w F rv av kv bm gw gr ga gt gk) (l : List Al) : MP p { w with al := l } F rv av kv bm gw gr ga gt gk :=
 { h with mf := h.mf.same rfl rfl rfl rfl rfl }
theorem F270_ok {N : Num} {Γ : Ctx} [GoodC Γ] (H35 : Sat S35m (Γ 35)) (H45 : Sat S45 (Γ 45)) : Sat S270 (SF N Γ F270) := by
 rintro _ h K ⟨g, p, w, fed, n, rfl, ⟨F, rv, av, kv, bm, gw, gr, ga, gt, gk, hps, hw⟩, hg, hok, hfed, hK1, hK2⟩
 have Q0 := hps.rest hg
 have hc0 := hok.c0
 have hc1 := hok.c1
 have hnow := hok.now
 have hA9 : w.A.length ≤ 1818 := by have := hok.sum; omega
 refine i_fun rfl ?_
 simp only [F270, Ze, Nat.reduceSub, Nat.reduceAdd]
 have hD : MD F (w.c 0).toNat (w.c 1).toNat w.now av := ⟨by rw [hw.mf.sz]; congr 1; omega, by rw [hw.mf.la]; congr 1; omega, hw.mf.nw, hw.mf.al⟩
 have Q0p : Ps h (gw :: ga :: [rest g h, gr, gt, gk]) := Q0.perm (by
  refine (List.Perm.swap _ _ _).trans (List.Perm.cons _ ?_)
  refine (List.Perm.cons _ (List.Perm.swap _ _ _)).trans (List.Perm.swap _ _ _))
 refine sw0 ?_
 refine i_call H35 ⟨gw, ga, _, p, F, n, _, _, _, w.A, av, rfl, Q0p, hw.ob, hD, hw.all, oM, oM, oM, oM, oM, fun hbad => ?_, fun m hm hmn gw' h1 v Y Q1p ho1 hE => ?_⟩
 ·have := hK1 hbad
  refine sw0 ?_
  refine i_loop (fun i : Nat => [some (.pointer (some ⟨p, 0, none⟩)), none, none, none, some (.slice none 0 0), some (.int .i64 1), some (.int .i64 0), none, none]) (fun i H => H = h) (fun i => i) 0 sE rfl ?_
  rintro i H rfl
  refine sw0 ?_
  exact this
 have hK := hK2 m hm hmn
 clear hK1 hK2
 have Q1 : Ps h1 [rest g h, gw', gr, ga, gt, gk, Y] := Q1p.perm (by
  refine List.Perm.symm ((List.Perm.swap _ _ _).trans (List.Perm.cons _ ?_))
  refine (List.Perm.cons _ (List.Perm.swap _ _ _)).trans (List.Perm.swap _ _ _))
 have hcl := hok.closed hfed (m := m)
 have hlen := w.closed_len (m := m)
 have hle := clos_le1000 (size := (w.c 0).toNat) (late := (w.c 1).toNat) (now := w.now + m) hmn
 have hEl := hok.El
 have hcm := clos_mono (size := (w.c 0).toNat) (late := (w.c 1).toNat) (a := w.now) (b := w.now + m) oM
 have hti := Wa.tells (w.closed m) { w with now := w.now + m }
 change Wa.tick w m = _ at hti
 have hE2 : EpsR Y v (w.closed m) := hE
 generalize hL : w.closed m = L at *
 obtain ⟨es, hes, hel, hek⟩ := hE2
 have hw1 : MP p { w with now := w.now + m } (upF F 37 (.int .i64 ((w.now + m : Nat) : Int))) rv av kv bm gw' gr ga gt gk := ⟨ho1, hw.mf.now _, hw.rs, hw.all, hw.tr, hw.kn⟩
 have hv1 := hes.one
 refine sw0 ?_
 refine i_loop (fun i : Nat => [some (.pointer (some ⟨p, 0, none⟩)), none, none, none, some v, some (.int .i64 0), some (.int .i64 (i : Nat)), none, none])
  (fun i H => i ≤ L.length ∧ ∃ gx, Ps H [rest g h, gw', gr, ga, gx, gk, Y] ∧ RT gx bm (w.c 2).toNat (w.c 3).toNat (w.E ++ (L.take i).map (·.2))) (fun i => L.length - i) 0 (by try simp only [Pf]; rfl) ⟨oM, gt, Q1, by simpa using hw.tr⟩ ?_
 clear Q1 Q1p Q0p Q0
 rintro i H ⟨hi, gx, Q, hT⟩
 have hi1 : IntKind.i64.wrap ((i : Int) + 1) = ((i + 1 : Nat) : Int) := by rw [w64 oM oM]; omega
 have R := (hes.le (Q.lt 6 rfl)).rules 2 encEp_len default
 rw [hel] at R
 refine sw1 @R ?_
 refine i_cond (fun c1 => ?_) (fun c1 => ?_)
 rotate_left
 ·have : i = L.length := oM
  subst this
  rw [List.take_length] at hT
  refine sw1 @R ?_
  obtain ⟨g4, q1, q2⟩ := MO.of (w := w.tick m) hg (Q.take 6) (by rw [hti]; exact { hw1 with tr := hT, mf := hw1.mf.same rfl rfl rfl rfl rfl })
  exact hK g4 _ q1 q2
 have hi2 : i < L.length := oM
 obtain ⟨k1, k2⟩ := hek i hi2
 obtain ⟨m1, m2⟩ := hcl _ (getD_mem default hi2)
 have hnx : (L.take (i + 1)).map (·.2) = (L.take i).map (·.2) ++ [(L.getD i default).2] := by rw [take_succ_d default hi2, List.map_append]; rfl
 have C39 := hw1.c39 (Q.lt 1 rfl)
 generalize hle : L.getD i default = le at *
 generalize hee : es.getD i default = ee at *
 have ho2 := k2.one
 refine sw6 @R @hee @encEp.eq_1 @C39 ho2.1 ho2.2 ?_
 refine i_call H45 ⟨gx, bm, ee.2, _, _, _, le.2, rfl, k2.le (Q.lt 6 rfl), hT, Q.lt 4 rfl, by simp; omega, m1, fun hb => ?_, fun _ gx' h2 st2 hT2 => ?_⟩
 ·obtain ⟨s, hs1, hs2⟩ := hb
  exact absurd hs2 (bad_of (m2 s hs1).1)
 have Q2 := Q.step 4 rfl st2
 rw [List.append_assoc, ← hnx] at hT2
 refine sw1 @hi1 ?_
 exact k_loop (i + 1) oM sE ⟨oM, gx', Q2, hT2⟩
theorem range_upF4 (F : Nat → Value) (n j : Nat) (x0 x1 x2 x3 : Value) (hj : j + 4 ≤ n) : ((List.range n).map F).take j ++ [x0, x1, x2, x3] ++ ((List.range n).map F).drop (j + 4) = (List.range n).map (upF (upF (upF (upF F j x0) (j + 1) x1) (j + 2) x2) (j + 3) x3) := by
 apply List.ext_getElem?
 intro i
 simp only [List.append_assoc, List.getElem?_append, List.length_take, List.length_map, List.length_range, List.getElem?_take, List.getElem?_drop, List.getElem?_map, List.length_cons, List.length_nil]
 have hmin : min j n = j := oM
 rw [hmin]
 by_cases e : i < j
 ·rw [if_pos e, if_pos e, List.getElem?_range oM]
  simp only [Option.map_some]
  rw [upF_ne oM, upF_ne oM, upF_ne oM, upF_ne oM]
 ·rw [if_neg e]
  by_cases e2 : i < j + 4
  ·rw [if_pos oM, List.getElem?_range oM]
   simp only [Option.map_some]
   rcases (by omega : i = j ∨ i = j + 1 ∨ i = j + 2 ∨ i = j + 3) with rfl | rfl | rfl | rfl
   ·rw [upF_ne oM, upF_ne oM, upF_ne oM, upF_eq, Nat.sub_self]; rfl
   ·rw [upF_ne oM, upF_ne oM, upF_eq, show j + 1 - j = 1 by omega]; rfl
   ·rw [upF_ne oM, upF_eq, show j + 2 - j = 2 by omega]; rfl
   ·rw [upF_eq, show j + 3 - j = 3 by omega]; rfl
  ·rw [if_neg oM, show j + 4 + (i - j - (0 + 1 + 1 + 1 + 1)) = i by omega]
   by_cases e3 : i < n
   ·rw [List.getElem?_range e3]
    simp only [Option.map_some]
    rw [upF_ne oM, upF_ne oM, upF_ne oM, upF_ne oM]
   ·rw [List.getElem?_eq_none (by simp; omega)]; rfl
theorem i_stF4 {N : Num} {Γ : Ctx} {g h : Heap} {p n : Nat} {F : Nat → Value} (ho : objF g p n F) (hg : Heap.le g h) (j : Nat) {x0 x1 x2 x3 : Value} (h1 : [x0, x1, x2, x3].all one = true) (hj : j + 4 ≤ n) {K : Value → Heap → Prop}
  (hK : ∀ g' h', Step g h g' h' → objF g' p n (upF (upF (upF (upF F j x0) (j + 1) x1) (j + 2) x2) (j + 3) x3) → K undef h') : efW N Γ (.st 4) [.pointer (some ((⟨p, 0, none⟩ : Addr).add j)), .agg #[x0, x1, x2, x3]] h K := by
 have hb : g p ≠ none := by obtain ⟨_, c, t, q, _⟩ := ho; rw [q]; simp
 have he : g p = h p := by
  cases e : g p with
  | none => exact absurd e hb
  | some o => exact (hg p o e).symm
 refine i_st (x := .agg #[x0, x1, x2, x3]) (objAt.le ho hg) j 4 rfl h1 oM (by simp; omega) fun o q1 _ => ?_
 refine hK (g.set p o) _ (Step.set hg hb o) ?_
 have := q1 g he
 unfold objF
 rw [← range_upF4 F n j x0 x1 x2 x3 hj]
 exact this
def newM (c : Nat → Int) : Nat → Value := fun j => ([Value.int .i64 (c 0), .int .i64 (c 1), .int .i64 (c 2), .int .i64 (c 3), .int .i64 (c 4), .int .i64 (c 5), .int .i64 (c 6), .int .i64 (c 7), .int .i64 (c 8), .int .i64 (c 9), .int .i64 (c 10), .int .i64 (c 11), .int .i64 (c 12), .int .i64 (c 13), .int .i64 (c 14), .int .i64 (c 15), .int .i64 (c 16), .int .i64 (c 17), .int .i64 (c 18), .int .i64 (c 19), .int .i64 (c 20), .int .i64 (c 21), .slice none 0 0, .string (str []), .int .i64 0, .string (str []), .int .i64 0, .string (str []), .int .i64 0, .string (str []), .int .i64 0, .int .i64 (-1), .int .i64 (-1), .int .i64 (-1), .int .i64 (-1), .int .i64 0, .int .i64 0, .int .i64 0, .slice none 0 0, .pointer none, .slice none 0 0, .int .i64 0, .int .i64 0, .int .i64 0, .int .i64 0, .int .i64 0] : List Value).getD j default
def S268 : Spec := fun args h K => ∃ c rv rs, args = [aggC c, rv] ∧ Sl Rl.enc h rv rs ∧ rs.length ≤ 100000 ∧ watchF c rs = 0 ∧
 ∀ p g' h', Step (fun _ => none) h g' h' → MO g' p (newW c rs) → K (.pointer (some ⟨p, 0, none⟩)) h'
theorem F268_ok {N : Num} {Γ : Ctx} [GoodC Γ] (H51 : Sat S51 (Γ 51)) : Sat S268 (SF N Γ F268) := by
 rintro _ h K ⟨c, rv, rs, rfl, hrs, hrl, hwf, hK⟩
 have hok := watchF_new hwf
 have hc0 : 1 ≤ c 0 ∧ c 0 ≤ 50 := hok.c0
 have hc1 : 0 ≤ c 1 ∧ c 1 ≤ 50 := hok.c1
 have hc2 : 1 ≤ c 2 ∧ c 2 ≤ 8 := hok.c2
 have hc3 : 1 ≤ c 3 ∧ c 3 ≤ c 2 := hok.c3
 refine i_fun rfl ?_
 simp only [F268, Ze, Nat.reduceSub, Nat.reduceAdd, aggC]
 refine sw0 ?_
 refine i_newO fun p h1 hle1 hp hob => ?_
 have ho1 : objF (fr h h1) p 46 (newM c) := hob
 have Q1 : Ps h1 [h, fr h h1] := (Ps.one h).new hle1
 have C22 : h1.cell ((⟨p, 0, none⟩ : Addr).add 22) = some (.slice none 0 0) := (ho1.le (Q1.lt 1 rfl)).cell (j := 22) oM
 refine sw1 @C22 ?_
 refine i_app Rl.enc_len (fun _ => rfl) (OwnS.nil (Heap.le.refl h1)) (hrs.le hle1) (by simp only [List.length_nil]; omega) fun v1 h2 hv1 => ?_
 have OV := hv1.one
 have Q2 : Ps h2 [h, fr h h1, fr h1 h2] := Q1.new hv1.1
 refine sw2 OV.1 OV.2 ?_
 refine i_stF ho1 (Q2.lt 1 rfl) 22 OV.2 OV.1 oM fun gw3 h3 st3 ho3 => ?_
 have Q3 := Q2.step 1 rfl st3
 refine sw0 ?_
 refine i_stF4 ho3 (Q3.lt 1 rfl) 35 rfl oM fun gw4 h4 st4 ho4 => ?_
 have Q4 := Q3.step 1 rfl st4
 refine sw0 ?_
 refine i_call H51 ⟨(c 2).toNat, (c 3).toNat, by rw [Int.toNat_of_nonneg oM, Int.toNat_of_nonneg oM], fun bm h5 hbn hle5 hT => ?_⟩
 have Q5 := Q4.new hle5
 refine sw0 ?_
 refine i_stF (x := .pointer (some ⟨bm, 0, none⟩)) ho4 (Q5.lt 1 rfl) 39 rfl rfl oM fun gw6 h6 st6 ho6 => ?_
 have Q6 := Q5.step 1 rfl st6
 refine sw0 ?_
 have hmf : MF (upF (upF (upF (upF (upF (upF (newM c) 22 v1) 35 (.int .i64 (c 0))) 36 (.int .i64 (c 1))) 37 (.int .i64 0)) 38 (.slice none 0 0)) 39 (.pointer (some ⟨bm, 0, none⟩))) (newW c rs) v1 (.slice none 0 0) (.slice none 0 0) bm := by
  refine ⟨fun k hk => ?_, rfl, fun k hk => ?_, fun k hk => ?_, fun k hk => ?_, rfl, rfl, rfl, rfl, rfl, rfl, fun k hk => ?_⟩
  ·rw [upF_ne oM, upF_ne oM, upF_ne oM, upF_ne oM, upF_ne oM, upF_ne oM]
   have : ∀ k, k < 22 → newM c k = .int .i64 (c k) := fun k hk => by
    rcases (by omega : k = 0 ∨ k = 1 ∨ k = 2 ∨ k = 3 ∨ k = 4 ∨ k = 5 ∨ k = 6 ∨ k = 7 ∨ k = 8 ∨ k = 9 ∨ k = 10 ∨ k = 11 ∨ k = 12 ∨ k = 13 ∨ k = 14 ∨ k = 15 ∨ k = 16 ∨ k = 17 ∨ k = 18 ∨ k = 19 ∨ k = 20 ∨ k = 21) with rfl | rfl | rfl | rfl | rfl | rfl | rfl | rfl | rfl | rfl | rfl | rfl | rfl | rfl | rfl | rfl | rfl | rfl | rfl | rfl | rfl | rfl <;> rfl
   exact this k hk
  all_goals rcases (by omega : k = 0 ∨ k = 1 ∨ k = 2 ∨ k = 3 ∨ k = 4) with rfl | rfl | rfl | rfl | rfl <;> first | rfl | omega
 have hg0 : Heap.le (fun _ => none) h := fun b o hb => by cases hb
 have hr0 : rest (fun _ => none) h = h := by funext b; unfold rest; rw [if_pos rfl]
 have Qf : Ps h6 [rest (fun _ => none) h, gw6, fr h1 h2, fun _ => none, fr h4 h5, fun _ => none] := by
  rw [hr0]
  have q := (Q6.add (f := fun _ => none) (fun b o hb => by cases hb) (fun x _ b _ => rfl)).add (f := fun _ => none) (fun b o hb => by cases hb) (fun x _ b _ => rfl)
  refine q.perm ?_
  refine List.Perm.cons _ (List.Perm.cons _ (List.Perm.cons _ (List.Perm.swap _ _ _)))
 obtain ⟨g7, q1, q2⟩ := MO.of (w := newW c rs) hg0 Qf { ob := ho6, mf := hmf, rs := hv1.slf Rl.enc_len, all := SlB.nil, tr := hT, kn := SlB.nil }
 exact hK p g7 h6 q1 q2
structure K3 (h H gt gm gx F : Heap) : Prop where
 k : K2 h H gt gm F
 lx : Heap.le gx H
 dxt : disj gx gt
 dxm : disj gx gm
 dxF : disj gx F
section
variable {h H gt gm gx F H' g' : Heap}
theorem K3.more (k : K3 h H gt gm gx F) (hl : Heap.le H H') : K3 h H' gt gm gx F := ⟨k.k.more hl, k.lx.trans hl, k.dxt, k.dxm, k.dxF⟩
end
end Go.Cw
namespace Go.Cw
open Go Go.Sort Go.Proofs
theorem ofL_perm {l m : List Si} (h : l.Perm m) : ofL l = ofL m := by
 obtain ⟨h1, h2⟩ := ofL_ord l
 obtain ⟨h3, h4⟩ := ofL_ord m
 exact ordS_uniq h1 h3 (h2.trans (h.trans h4.symm))
theorem closE_perm {size late a b : Nat} {A B : List Si} (h : A.Perm B) : closE size late a b A = closE size late a b B := by
 unfold closE ofE
 congr 1; funext k; rw [ofL_perm (h.filter _)]
theorem Sl.sub {α : Type} {enc : α → List Value} {sz : Nat} (he : ∀ x, (enc x).length = sz) (d : α) {h : Heap} {v : Value} {A : List α} (hs : Sl enc h v A) {i j n : Nat} (hi : i < A.length) (hj : j + n ≤ sz) : h.row ((elt v (i * sz)).add j) n = some (((enc (A.getD i d)).drop j).take n).toArray := by
 have R := hs.rules sz he d
 have h5 := R.2.2.1 i hi
 obtain ⟨a, cap, rfl, _, hr⟩ := hs
 rcases hr with e | ⟨g, rfl, hrow⟩
 ·rw [e] at hi; cases hi
 have hl : (A.flatMap enc).length = A.length * sz := flat_len he A
 have hm : (i + 1) * sz ≤ A.length * sz := Nat.mul_le_mul_right _ hi
 have hm2 : (i + 1) * sz = i * sz + sz := by rw [Nat.add_mul]; omega
 have e1 : elt (.slice (some g) A.length cap) (i * sz) = g.add (i * sz) := rfl
 rw [e1] at h5 ⊢
 rw [hrow.row (i := i * sz) (n := sz) oM] at h5
 have h6 : ((A.flatMap enc).drop (i * sz)).take sz = enc (A.getD i d) := by
  have := congrArg Array.toList (Option.some.inj h5); simpa using this
 have e2 : (g.add (i * sz)).add j = g.add (i * sz + j) := by
  rw [addr_add' g hrow.1, addr_add' _ rfl, addr_add' g hrow.1, Nat.add_assoc]
 rw [e2, hrow.row oM, ← h6, List.drop_take, List.drop_drop, List.take_take]
 congr 4
 omega
end Go.Cw
namespace Go.Cw
open Go
inductive Op where
 | ln (r : Nat) (v : List UInt8 × Nat)
 | wm (r : Nat) (n : Int)
 | rd (r : Nat) (d : Rd)
def Op.r : Op → Nat
 | .ln r _ => r
 | .wm r _ => r
 | .rd r _ => r
def Wa.plA (w : Wa) (r : Nat) (d : Rd) : Int := w.c (6 + (4 * r + d.ant.toNat))
def Wa.siA (w : Wa) (r : Nat) (d : Rd) : Si := ⟨w.plA r d, d.str, w.now - d.age, d.tag⟩
def Wa.cls (w : Wa) (r : Nat) (d : Rd) : Option Nat :=
 if tagOf d.tag = none then some 1 else if w.plA r d < 0 then some 2 else if adF (w.c 0).toNat (w.c 1).toNat w.now (w.siA r d) ≠ 0 then some 3 else none
def Wa.drp (w : Wa) (k : Nat) : Wa := { w with dr := upN w.dr k (w.dr k + 1) }
def Wa.acc (w : Wa) (s : Si) : Wa := { w with A := w.A ++ [s], kn := if s.tag ∈ w.kn then w.kn else w.kn ++ [s.tag] }
def Wa.readX (w : Wa) (r : Nat) (d : Rd) : Wa := match w.cls r d with
 | some k => w.drp k
 | none => w.acc (w.siA r d)
def Wa.op (w : Wa) : Op → Wa
 | .ln r v => { w with ln := upN w.ln r v }
 | .wm r n => { w with wm := upN w.wm r n }
 | .rd r d => w.readX r d
structure Wa.In (T : List (List UInt8)) (w : Wa) : Prop where
 nd : w.kn.Nodup
 sub : ∀ t ∈ w.kn, t ∈ T
theorem Wa.In.acc {T : List (List UInt8)} {w : Wa} (h : w.In T) {s : Si} (ht : s.tag ∈ T) : (w.acc s).In T := by
 refine ⟨?_, ?_⟩
 ·unfold Wa.acc
  dsimp only
  split
  ·exact h.nd
  ·rename_i e
   exact List.nodup_append.2 ⟨h.nd, by simp, fun x hx y hy e2 => by simp at hy; subst hy; subst e2; exact e hx⟩
 ·intro t
  unfold Wa.acc
  dsimp only
  split
  ·exact h.sub t
  ·intro hx
   rcases List.mem_append.1 hx with hx | hx
   ·exact h.sub t hx
   ·rw [List.mem_singleton.1 hx]; exact ht
theorem Wa.In.readX {T : List (List UInt8)} {w : Wa} (h : w.In T) {r : Nat} {d : Rd} (ht : d.tag ∈ T) : (w.readX r d).In T := by
 unfold Wa.readX
 split
 ·exact ⟨h.nd, h.sub⟩
 ·exact h.acc ht
structure Wa.Sim (a b : Wa) : Prop where
 c : a.c = b.c
 rs : a.rs = b.rs
 ln : a.ln = b.ln
 wm : a.wm = b.wm
 dr : a.dr = b.dr
 now : a.now = b.now
 E : a.E = b.E
 al : a.al = b.al
 A : a.A.Perm b.A
 kn : a.kn.Perm b.kn
theorem Wa.Sim.refl (a : Wa) : a.Sim a := ⟨rfl, rfl, rfl, rfl, rfl, rfl, rfl, rfl, List.Perm.refl _, List.Perm.refl _⟩
theorem Wa.Sim.trans {a b c : Wa} (h : a.Sim b) (k : b.Sim c) : a.Sim c := ⟨h.c.trans k.c, h.rs.trans k.rs, h.ln.trans k.ln, h.wm.trans k.wm, h.dr.trans k.dr, h.now.trans k.now, h.E.trans k.E, h.al.trans k.al, h.A.trans k.A, h.kn.trans k.kn⟩
theorem Wa.Sim.cls {a b : Wa} (h : a.Sim b) (r : Nat) (d : Rd) : a.cls r d = b.cls r d ∧ a.siA r d = b.siA r d := by
 unfold Wa.cls Wa.siA Wa.plA
 rw [h.c, h.now]; exact ⟨rfl, rfl⟩
theorem Wa.Sim.acc {a b : Wa} (h : a.Sim b) (s : Si) : (a.acc s).Sim (b.acc s) := by
 refine ⟨h.c, h.rs, h.ln, h.wm, h.dr, h.now, h.E, h.al, h.A.append_right _, ?_⟩
 unfold Wa.acc
 dsimp only
 by_cases e : s.tag ∈ a.kn
 ·rw [if_pos e, if_pos (h.kn.mem_iff.1 e)]; exact h.kn
 ·rw [if_neg e, if_neg fun e2 => e (h.kn.mem_iff.2 e2)]; exact h.kn.append_right _
theorem Wa.Sim.op {a b : Wa} (h : a.Sim b) (o : Op) : (a.op o).Sim (b.op o) := by
 cases o with
 | ln r v => exact ⟨h.c, h.rs, by unfold Wa.op; dsimp only; rw [h.ln], h.wm, h.dr, h.now, h.E, h.al, h.A, h.kn⟩
 | wm r n => exact ⟨h.c, h.rs, h.ln, by unfold Wa.op; dsimp only; rw [h.wm], h.dr, h.now, h.E, h.al, h.A, h.kn⟩
 | rd r d =>
  obtain ⟨e1, e2⟩ := h.cls r d
  unfold Wa.op Wa.readX
  dsimp only
  rw [← e1, ← e2]
  split
  ·rename_i k _
   exact ⟨h.c, h.rs, h.ln, h.wm, by unfold Wa.drp; dsimp only; rw [h.dr], h.now, h.E, h.al, h.A, h.kn⟩
  ·exact h.acc _
theorem Wa.Sim.ops (L : List Op) : ∀ {a b : Wa}, a.Sim b → (L.foldl Wa.op a).Sim (L.foldl Wa.op b) := by
 induction L with
 | nil => intro a b h; exact h
 | cons o L ih => intro a b h; exact ih (h.op o)
theorem Wa.Sim.app {w : Wa} {P Q : List Op} (R : List Op) (h : ∀ w : Wa, (P.foldl Wa.op w).Sim (Q.foldl Wa.op w)) : ((R ++ P).foldl Wa.op w).Sim ((R ++ Q).foldl Wa.op w) := by
 rw [List.foldl_append, List.foldl_append]; exact h _
def partA (r : Nat) (M : List Ac) : List Ac := M.filter fun a => decide (a.n = r)
def sortA (M : List Ac) : List Ac := partA 3 M ++ (partA 2 M ++ (partA 1 M ++ partA 0 M))
def Wa.rev (w : Wa) (M : List Ac) : Wa := (sortA M).foldl Wa.act w
theorem Wa.Sim.tell {a b : Wa} (h : a.Sim b) (x : Nat × List Si) : (a.tell x).Sim (b.tell x) := by
 refine ⟨h.c, h.rs, h.ln, h.wm, h.dr, h.now, ?_, ?_, h.A, h.kn⟩
 ·show a.E ++ _ = b.E ++ _; rw [h.E]
 ·show a.al ++ _ = b.al ++ _
  rw [h.al]
  unfold Wa.look Wa.lookN Wa.lookR
  dsimp only
  rw [h.E, h.c, h.rs]
theorem Wa.Sim.tells (L : List (Nat × List Si)) : ∀ {a b : Wa}, a.Sim b → (L.foldl Wa.tell a).Sim (L.foldl Wa.tell b) := by
 induction L with
 | nil => intro a b h; exact h
 | cons o L ih => intro a b h; exact ih (h.tell o)
theorem Wa.Sim.tick {a b : Wa} (h : a.Sim b) (m : Nat) : (a.tick m).Sim (b.tick m) := by
 unfold Wa.tick
 have e : a.closed m = b.closed m := by unfold Wa.closed; rw [h.c, h.now]; exact closE_perm h.A
 rw [e]
 refine Wa.Sim.tells _ ⟨h.c, h.rs, h.ln, h.wm, h.dr, ?_, h.E, h.al, h.A, h.kn⟩
 show a.now + m = b.now + m
 rw [h.now]
theorem tells_keep (L : List (Nat × List Si)) : ∀ (w : Wa), (L.foldl Wa.tell w).kn = w.kn ∧ (L.foldl Wa.tell w).ln = w.ln := by
 induction L with
 | nil => intro w; exact ⟨rfl, rfl⟩
 | cons o L ih => intro w; obtain ⟨h1, h2⟩ := ih (w.tell o); exact ⟨h1, h2⟩
def Wa.ordS (w : Wa) (M : List Ac) : List Ac → Wa
 | [] => w.rev M
 | a :: L => if a.kind ≠ tickS then w.ordS (M ++ [a]) L else ((w.rev M).act a).ordS [] L
theorem Wa.read_kn (w : Wa) (r : Nat) (d : Rd) : ∀ t ∈ (w.read r d).kn, t ∈ w.kn ∨ t = d.tag := by
 intro t ht
 unfold Wa.read at ht
 dsimp only at ht
 split at ht
 ·exact .inl ht
 split at ht
 ·exact .inl ht
 split at ht
 ·exact .inl ht
 split at ht
 ·exact .inl ht
 dsimp only at ht
 split at ht
 ·exact .inl ht
 ·rcases List.mem_append.1 ht with h | h
  ·exact .inl h
  ·exact .inr (List.mem_singleton.1 h)
structure Wa.Keep (a b : Wa) : Prop where
 c : a.c = b.c
 rs : a.rs = b.rs
 E : a.E = b.E
 al : a.al = b.al
theorem Wa.Keep.trans {a b c : Wa} (h : a.Keep b) (k : b.Keep c) : a.Keep c := ⟨h.c.trans k.c, h.rs.trans k.rs, h.E.trans k.E, h.al.trans k.al⟩
theorem Wa.read_keep (w : Wa) (r : Nat) (d : Rd) : (w.read r d).Keep w := by
 unfold Wa.read
 dsimp only
 split
 ·exact ⟨rfl, rfl, rfl, rfl⟩
 split
 ·exact ⟨rfl, rfl, rfl, rfl⟩
 split
 ·exact ⟨rfl, rfl, rfl, rfl⟩
 split <;> exact ⟨rfl, rfl, rfl, rfl⟩
theorem Wa.reads_kn (r : Nat) (l : List Rd) : ∀ w : Wa, (l.foldl (fun w d => w.read r d) w).Keep w ∧ ∀ t ∈ (l.foldl (fun w d => w.read r d) w).kn, t ∈ w.kn ∨ t ∈ l.map (·.tag) := by
 induction l with
 | nil => intro w; exact ⟨⟨rfl, rfl, rfl, rfl⟩, fun t h => .inl h⟩
 | cons d l ih =>
  intro w
  obtain ⟨h1, h2⟩ := ih (w.read r d)
  refine ⟨h1.trans (w.read_keep r d), fun t ht => ?_⟩
  rcases h2 t ht with h | h
  ·rcases w.read_kn r d t h with h | h
   ·exact .inl h
   ·exact .inr (by simp [h])
  ·exact .inr (List.mem_cons_of_mem _ h)
theorem Wa.frame_kn (r : Nat) (f : Fr) (w : Wa) : (w.frame r f).Keep w ∧ ∀ t ∈ (w.frame r f).kn, t ∈ w.kn ∨ t ∈ f.reads.map (·.tag) := by
 obtain ⟨h1, h2⟩ := Wa.reads_kn r f.reads w
 unfold Wa.frame
 dsimp only
 split
 ·exact ⟨⟨h1.c, h1.rs, h1.E, h1.al⟩, h2⟩
 ·exact ⟨h1, h2⟩
theorem Wa.frames_kn (r : Nat) (l : List Fr) : ∀ w : Wa, (l.foldl (fun w f => w.frame r f) w).Keep w ∧ ∀ t ∈ (l.foldl (fun w f => w.frame r f) w).kn, t ∈ w.kn ∨ t ∈ tagsF l := by
 induction l with
 | nil => intro w; exact ⟨⟨rfl, rfl, rfl, rfl⟩, fun t h => .inl h⟩
 | cons f l ih =>
  intro w
  obtain ⟨h1, h2⟩ := ih (w.frame r f)
  obtain ⟨k1, k2⟩ := Wa.frame_kn r f w
  refine ⟨h1.trans k1, fun t ht => ?_⟩
  unfold tagsF
  rw [List.flatMap_cons, List.mem_append]
  rcases h2 t ht with h | h
  ·rcases k2 t h with h | h
   ·exact .inl h
   ·exact .inr (.inl h)
  ·exact .inr (.inr h)
theorem cms_at {window need : Nat} {E : List (List Si)} {s : List UInt8} {p : Int} {m : Nat} (hn : 1 ≤ need) (hm : m < E.length) :
  cms window need E s p m = true ↔ 0 ≤ p ∧ atF window need E m s = p ∧ (m = 0 ∨ atF window need E (m - 1) s ≠ p) := by
 unfold cms
 have e1 : ((m : Int) - 1).toNat = m - 1 := oM
 rcases whr_told (window := window) (t := s) hn hm with ⟨ea, _⟩ | ⟨ea, la⟩
 ·rw [ea, e1]
  by_cases h : (atF window need E m s, (0 : Nat)).2 ≠ 0 ∨ p < 0 ∨ (atF window need E m s, (0 : Nat)).1 ≠ p
  ·rw [if_pos h]
   refine ⟨(fun x => by cases x), fun x => ?_⟩
   rcases h with h | h | h
   ·exact absurd rfl h
   ·omega
   ·exact absurd x.2.1 h
  ·rw [if_neg h, decide_eq_true_iff]
   have h2 : 0 ≤ p := by refine Int.not_lt.1 fun x => h (.inr (.inl x))
   have h3 : atF window need E m s = p := by refine Classical.byContradiction fun x => h (.inr (.inr x))
   unfold atF at h3 ⊢
   refine ⟨fun x => ⟨h2, h3, ?_⟩, fun x => ?_⟩
   ·rcases x with x | x
    ·exact .inl oM
    ·exact .inr x
   ·rcases x.2.2 with x | x
    ·exact .inl oM
    ·exact .inr x
 ·rw [ea, if_pos (.inl (by simp))]
  refine ⟨fun x => (by cases x), fun x => ?_⟩
  have := x.2.1
  omega
theorem atF_add {window need : Nat} {E : List (List Si)} {l : List Si} {s : List UInt8} {m : Nat} (hm : m < E.length) : atF window need (E ++ [l]) m s = atF window need E m s := by
 unfold atF
 rw [List.take_append_of_le_length oM]
def HoldAt (window need : Nat) (E : List (List Si)) (r : Rl) (s : List UInt8) (e : Nat) : Prop :=
 (ruleF r = 0 ∧ kindOf s ≠ 0 ∧ (r.kind = 0 ∨ kindOf s = r.kind)) ∧ (atF window need E e s = r.thn ∧ (e = 0 ∨ atF window need E (e - 1) s ≠ r.thn)) ∧
  ∃ k : Nat, ((e : Int) - r.wthn).toNat ≤ k ∧ k < e ∧ (atF window need E k s = r.first ∧ (k = 0 ∨ atF window need E (k - 1) s ≠ r.first)) ∧ ∀ x : Nat, k < x → x < e → ¬ (0 ≤ r.wout ∧ atF window need E x s = r.wout)
theorem holdR_at {window need : Nat} {E : List (List Si)} {r : Rl} {s : List UInt8} {e : Nat} (hn : 1 ≤ need) (he : e < E.length) : holdR window need E r s e = true ↔ HoldAt window need E r s e := by
 unfold holdR HoldAt
 rw [Bool.and_eq_true, Bool.and_eq_true, Bool.and_eq_true, Bool.and_eq_true, decide_eq_true_iff, decide_eq_true_iff, decide_eq_true_iff, scanR_iff, cms_at hn he, Int.toNat_natCast]
 constructor
 ·rintro ⟨⟨⟨⟨h1, h2⟩, h3⟩, h4⟩, k, h5, h6, h7, h8⟩
  refine ⟨⟨h1, h2, h3⟩, h4.2, k, h5, h6, ((cms_at hn oM).1 h7).2, fun x hx1 hx2 hc => ?_⟩
  have := h8 x hx1 hx2
  unfold badR at this
  exact of_decide_eq_false this hc
 ·rintro ⟨⟨h1, h2, h3⟩, h4, k, h5, h6, h7, h8⟩
  have hb := (ruleF_zero.1 h1).2.1
  unfold Rl.bound at hb
  refine ⟨⟨⟨⟨h1, h2⟩, h3⟩, oM, h4⟩, k, h5, h6, (cms_at hn oM).2 ⟨oM, h7⟩, fun x hx1 hx2 => ?_⟩
  unfold badR
  exact decide_eq_false (h8 x hx1 hx2)
theorem HoldAt.add {window need : Nat} {E : List (List Si)} {l : List Si} {r : Rl} {s : List UInt8} {e : Nat} (he : e < E.length) : HoldAt window need (E ++ [l]) r s e ↔ HoldAt window need E r s e := by
 unfold HoldAt
 rw [atF_add he, atF_add (m := e - 1) oM]
 constructor
 ·rintro ⟨h0, h1, k, h5, h6, h7, h8⟩
  rw [atF_add oM, atF_add (m := k - 1) oM] at h7
  exact ⟨h0, h1, k, h5, h6, h7, fun x hx1 hx2 hc => h8 x hx1 hx2 (by rw [atF_add oM]; exact hc)⟩
 ·rintro ⟨h0, h1, k, h5, h6, h7, h8⟩
  refine ⟨h0, h1, k, h5, h6, ?_, fun x hx1 hx2 hc => h8 x hx1 hx2 (by rw [atF_add oM] at hc; exact hc)⟩
  rw [atF_add oM, atF_add (m := k - 1) oM]
  exact h7
theorem HoldAt.told {window need : Nat} {E : List (List Si)} {r : Rl} {s : List UInt8} {e : Nat} (hn : 1 ≤ need) (h : HoldAt window need E r s e) : toldE (E.take (e + 1)) s := by
 have hb := (ruleF_zero.1 h.1.1).2.1
 unfold Rl.bound at hb
 have h9 := h.2.1.1
 have h8 : 0 ≤ atF window need E e s := oM
 exact atF_told hn h8
structure AlI (w : Wa) : Prop where
 n : 1 ≤ (w.c 3).toNat
 mem : ∀ (k e : Nat) (s : List UInt8), (⟨k, e, s⟩ : Al) ∈ w.al ↔ k < w.rs.length ∧ e < w.E.length ∧ HoldAt (w.c 2).toNat (w.c 3).toNat w.E (w.rs.getD k default) s e
 fm : ∀ x ∈ w.al, ∃ (k e : Nat) (s : List UInt8), x = ⟨k, e, s⟩
 nd : w.al.Nodup
theorem AlI.tell {w : Wa} (h : AlI w) (l : List Si) : AlI (w.tell (w.E.length, l)) := by
 have hlk : ∀ (k e : Nat) (s : List UInt8), (⟨k, e, s⟩ : Al) ∈ ({ w with E := w.E ++ [l] } : Wa).look w.E.length ↔ k < w.rs.length ∧ e = w.E.length ∧ HoldAt (w.c 2).toNat (w.c 3).toNat (w.E ++ [l]) (w.rs.getD k default) s e := by
  intro k e s
  unfold Wa.look Wa.lookN Wa.lookR
  dsimp only
  simp only [List.mem_flatMap, List.mem_range, List.mem_map, List.mem_filter, Al.mk.injEq]
  constructor
  ·rintro ⟨i, hi, t, ⟨ht, hh⟩, e1, e2, e3⟩
   have e1' : i = k := oM
   have e2' : w.E.length = e := oM
   subst e1'; subst e2'; subst e3
   exact ⟨hi, rfl, (holdR_at h.n (by simp)).1 hh⟩
  ·rintro ⟨h1, h2, h3⟩
   subst h2
   refine ⟨k, h1, s, ⟨?_, (holdR_at h.n (by simp)).2 h3⟩, rfl, rfl, rfl⟩
   have := h3.told h.n
   rw [List.take_of_length_le (by simp)] at this
   exact (mem_tagsE _ _).2 this
 refine ⟨h.n, fun k e s => ?_, fun x hx => ?_, ?_⟩
 ·show _ ∈ w.al ++ _ ↔ k < w.rs.length ∧ e < (w.E ++ [l]).length ∧ HoldAt (w.c 2).toNat (w.c 3).toNat (w.E ++ [l]) (w.rs.getD k default) s e
  rw [List.mem_append, h.mem, hlk, List.length_append, List.length_singleton]
  constructor
  ·rintro (⟨h1, h2, h3⟩ | ⟨h1, h2, h3⟩)
   ·exact ⟨h1, oM, (HoldAt.add h2).2 h3⟩
   ·exact ⟨h1, oM, h3⟩
  ·rintro ⟨h1, h2, h3⟩
   by_cases e2 : e = w.E.length
   ·exact .inr ⟨h1, e2, h3⟩
   ·exact .inl ⟨h1, oM, (HoldAt.add oM).1 h3⟩
 ·rcases List.mem_append.1 (show x ∈ w.al ++ _ from hx) with hx | hx
  ·exact h.fm x hx
  ·unfold Wa.look Wa.lookN Wa.lookR at hx
   simp only [List.mem_flatMap, List.mem_range, List.mem_map, List.mem_filter] at hx
   obtain ⟨i, _, t, _, rfl⟩ := hx
   exact ⟨i, w.E.length, t, rfl⟩
 ·show (w.al ++ _).Nodup
  refine List.nodup_append.2 ⟨h.nd, ?_, ?_⟩
  ·unfold Wa.look Wa.lookN Wa.lookR
   refine List.pairwise_flatMap.2 ⟨fun i _ => ?_, ?_⟩
   ·refine List.pairwise_map.2 (List.Pairwise.imp ?_ (List.Pairwise.sublist List.filter_sublist (tagsE_nodup _)))
    intro a b hab e
    simp only [Al.mk.injEq] at e
    exact hab e.2.2
   ·refine List.Pairwise.imp ?_ (List.nodup_range (n := _))
    intro i j hij x hx y hy e
    subst e
    rw [List.mem_map] at hx hy
    obtain ⟨_, _, rfl⟩ := hx
    obtain ⟨_, _, h9⟩ := hy
    simp only [Al.mk.injEq] at h9
    omega
  ·intro x hx y hy hxy
   subst hxy
   unfold Wa.look Wa.lookN Wa.lookR at hy
   dsimp only at hy
   simp only [List.mem_flatMap, List.mem_range, List.mem_map, List.mem_filter] at hy
   obtain ⟨i, _, t, _, rfl⟩ := hy
   have := ((h.mem _ _ _).1 hx).2.1
   omega
theorem AlI.tells {f : Nat → List Si} : ∀ (n : Nat) {w : Wa}, AlI w → AlI (((List.range' w.E.length n).map fun k => (k, f k)).foldl Wa.tell w) := by
 intro n
 induction n with
 | zero => intro w h; exact h
 | succ n ih =>
  intro w h
  rw [List.range'_succ, List.map_cons, List.foldl_cons]
  have := ih (h.tell (f w.E.length))
  have e : (w.tell (w.E.length, f w.E.length)).E.length = w.E.length + 1 := by simp [Wa.tell]
  rw [e] at this
  exact this
theorem AlI.keep {a b : Wa} (h : AlI b) (k : a.Keep b) : AlI a := by
 refine ⟨by rw [k.c]; exact h.n, fun x y z => ?_, by rw [k.al]; exact h.fm, by rw [k.al]; exact h.nd⟩
 rw [k.al, k.c, k.rs, k.E]; exact h.mem x y z
theorem AlI.act {w : Wa} {fed : Nat} (h : AlI w) (hok : w.Ok fed) (a : Ac) : AlI (w.act a) := by
 unfold Wa.act
 split
 ·split
  ·rw [Wa.feed_eq]
   have h1 := (Wa.frames_kn a.n.toNat (Cw.feed ((w.ln a.n.toNat).1 ++ a.s)).1 w).1
   exact h.keep ⟨h1.c, h1.rs, h1.E, h1.al⟩
  ·exact h
 ·split
  ·exact h
  ·unfold Wa.tick Wa.closed closE
   rw [← hok.El]
   have hk : AlI ({ w with now := w.now + a.n.toNat } : Wa) := h.keep ⟨rfl, rfl, rfl, rfl⟩
   exact hk.tells (f := fun k => ofE (w.c 0).toNat w.A k) _
theorem AlI.plays (L : List Ac) : ∀ {w : Wa} {fed : Nat}, AlI w → w.Ok fed → fed + acSum L ≤ 20000 → AlI (w.plays L) := by
 induction L with
 | nil => intro w fed h _ _; exact h
 | cons a L ih =>
  intro w fed h hok hf
  rw [acSum_cons] at hf
  exact ih (h.act hok a) (hok.act (a := a) oM) oM
theorem AlI.new {c : Nat → Int} {rs : List Rl} (h : watchF c rs = 0) : AlI (newW c rs) := by
 have hok := watchF_new h
 have h3 := hok.c3
 refine ⟨?_, fun k e s => ?_, fun x hx => (by cases hx), List.Pairwise.nil⟩
 ·have := h3.1; omega
 ·refine ⟨fun x => (by cases x), fun x => ?_⟩
  have := x.2.1
  exact absurd this (Nat.not_lt_zero _)
theorem Wa.Ok.mokE {w : Wa} {fed : Nat} (h : w.Ok fed) : MOkE (w.c 2).toNat (w.c 3).toNat w.E :=
 ⟨by have := h.c2; omega, by have := h.c2; omega, by have := h.c3; omega, fun l hl s hs => bad_of ((h.Eb l hl).2 s hs).1⟩
theorem Wa.Ok.tagLen {w : Wa} {fed : Nat} (h : w.Ok fed) {t : List UInt8} (ht : toldE w.E t) : t.length = 8 := by
 obtain ⟨l, hl, s, hs, rfl⟩ := ht
 have := ((h.Eb l hl).2 s hs).1
 unfold adBad at this; omega
def Wa.alE (w : Wa) (e : Nat) : List Al := (List.range w.rs.length).flatMap fun i => w.lookR e i (tagsE (w.E.take (e + 1)))
def Wa.alN (w : Wa) (n : Nat) : List Al := (List.range n).flatMap w.alE
def Wa.AlJ (w : Wa) : Prop := w.al = w.alN w.E.length
theorem holdR_add {window need : Nat} {E : List (List Si)} {l : List Si} {r : Rl} {s : List UInt8} {e : Nat} (hn : 1 ≤ need) (he : e < E.length) : holdR window need (E ++ [l]) r s e = holdR window need E r s e := by
 rw [Bool.eq_iff_iff, holdR_at hn (by simp; omega), holdR_at hn he, HoldAt.add he]
theorem Wa.alE_add {w : Wa} (hn : 1 ≤ (w.c 3).toNat) (l : List Si) {e : Nat} (he : e < w.E.length) (al : List Al) : ({ w with E := w.E ++ [l], al := al } : Wa).alE e = w.alE e := by
 unfold Wa.alE Wa.lookR
 dsimp only
 rw [List.take_append_of_le_length oM]
 refine congrArg (fun f => List.flatMap f (List.range w.rs.length)) (funext fun i => ?_)
 congr 1
 exact List.filter_congr fun t _ => holdR_add hn he
theorem Wa.alN_add {w : Wa} (hn : 1 ≤ (w.c 3).toNat) (l : List Si) (al : List Al) : ∀ n, n ≤ w.E.length → ({ w with E := w.E ++ [l], al := al } : Wa).alN n = w.alN n := by
 intro n
 induction n with
 | zero => intro _; rfl
 | succ n ih =>
  intro h
  have := ih oM
  unfold Wa.alN at this ⊢
  rw [List.range_succ, List.flatMap_append, List.flatMap_append, this, List.flatMap_singleton, List.flatMap_singleton, Wa.alE_add hn l oM]
theorem Wa.AlJ.tell {w : Wa} (h : w.AlJ) (hn : 1 ≤ (w.c 3).toNat) (l : List Si) : (w.tell (w.E.length, l)).AlJ := by
 unfold Wa.AlJ Wa.tell
 dsimp only
 rw [List.length_append, List.length_singleton]
 unfold Wa.AlJ at h
 have h1 := Wa.alN_add hn l (w.al ++ ({ w with E := w.E ++ [l] } : Wa).look w.E.length) w.E.length (Nat.le_refl _)
 rw [show ∀ x : Wa, x.alN (w.E.length + 1) = x.alN w.E.length ++ x.alE w.E.length from fun x => by unfold Wa.alN; rw [List.range_succ, List.flatMap_append, List.flatMap_singleton], h1, ← h]
 congr 1
 unfold Wa.look Wa.lookN Wa.alE Wa.lookR
 dsimp only
 rw [List.take_of_length_le (by simp)]
theorem Wa.AlJ.tells {f : Nat → List Si} : ∀ (n : Nat) {w : Wa}, w.AlJ → 1 ≤ (w.c 3).toNat → (((List.range' w.E.length n).map fun k => (k, f k)).foldl Wa.tell w).AlJ := by
 intro n
 induction n with
 | zero => intro w h _; exact h
 | succ n ih =>
  intro w h hn
  rw [List.range'_succ, List.map_cons, List.foldl_cons]
  have := ih (h.tell hn (f w.E.length)) hn
  have e : (w.tell (w.E.length, f w.E.length)).E.length = w.E.length + 1 := by simp [Wa.tell]
  rw [e] at this
  exact this
theorem Wa.AlJ.keep {a b : Wa} (h : b.AlJ) (k : a.Keep b) : a.AlJ := by
 have e : a.alE = b.alE := by funext e; unfold Wa.alE Wa.lookR; rw [k.c, k.rs, k.E]
 unfold Wa.AlJ Wa.alN at *
 rw [k.al, k.E, e]; exact h
theorem Wa.AlJ.act {w : Wa} {fed : Nat} (h : w.AlJ) (hok : w.Ok fed) (a : Ac) : (w.act a).AlJ := by
 unfold Wa.act
 split
 ·split
  ·rw [Wa.feed_eq]
   have h1 := (Wa.frames_kn a.n.toNat (Cw.feed ((w.ln a.n.toNat).1 ++ a.s)).1 w).1
   exact h.keep ⟨h1.c, h1.rs, h1.E, h1.al⟩
  ·exact h
 ·split
  ·exact h
  ·unfold Wa.tick Wa.closed closE
   rw [← hok.El]
   have hk : ({ w with now := w.now + a.n.toNat } : Wa).AlJ := h.keep ⟨rfl, rfl, rfl, rfl⟩
   exact hk.tells (f := fun k => ofE (w.c 0).toNat w.A k) _ (by have := hok.c3; show 1 ≤ (w.c 3).toNat; omega)
theorem Wa.AlJ.new {c : Nat → Int} {rs : List Rl} : (newW c rs).AlJ := rfl
section
variable {p : Nat} {w : Wa} {F : Nat → Value} {rv av kv : Value} {bm : Nat} {gw gr ga gt gk : Heap}
theorem MP.cLost (h : MP p w F rv av kv bm gw gr ga gt gk) {H : Heap} (hl : Heap.le gw H) {k : Nat} (hk : k < 4) : H.cell ((((⟨p, 0, none⟩ : Addr).add 23).add (k * 2)).add 1) = some (.int .i64 ((w.ln k).2 : Nat)) := by
 have := h.cell hl (j := 24 + 2 * k) oM
 rw [h.mf.l2 k hk] at this
 rw [← this, add_add', add_add', show 23 + k * 2 + 1 = 24 + 2 * k by omega]
theorem MP.cWarm (h : MP p w F rv av kv bm gw gr ga gt gk) {H : Heap} (hl : Heap.le gw H) {k : Nat} (hk : k < 4) : H.cell (((⟨p, 0, none⟩ : Addr).add 31).add k) = some (.int .i64 (w.wm k)) := by
 have := h.cell hl (j := 31 + k) oM
 rw [h.mf.wm k hk] at this
 rw [← this, add_add']
end
def S281 : Spec := fun args h K => ∃ g p w fed, args = [.pointer (some ⟨p, 0, none⟩)] ∧ MO g p w ∧ Heap.le g h ∧ w.Ok fed ∧ fed ≤ 100000 ∧ K (aggDr w.bytes (w.dr 1) (w.dr 2) (w.dr 3) (w.dr 4)) h
theorem F281_ok {N : Num} {Γ : Ctx} [GoodC Γ] : Sat S281 (SF N Γ F281) := by
 rintro _ h K ⟨g, p, w, fed, rfl, hwo, hg, hok, hfed, hK⟩
 obtain ⟨F, rv, av, kv, bm, gw, gr, ga, gt, gk, Q, hw⟩ := hwo.read hg
 refine i_fun rfl ?_
 simp only [F281, Ze, Nat.reduceSub, Nat.reduceAdd]
 have hrow : h.row ((⟨p, 0, none⟩ : Addr).add 41) 5 = some #[.int .i64 (w.dr 0 : Nat), .int .i64 (w.dr 1 : Nat), .int .i64 (w.dr 2 : Nat), .int .i64 (w.dr 3 : Nat), .int .i64 (w.dr 4 : Nat)] := by
  have := ((objF.le hw.ob (Q.lt 0 rfl)).row).row (i := 41) (n := 5) (by simp)
  rw [this, ← hw.mf.dr 0 oM, ← hw.mf.dr 1 oM, ← hw.mf.dr 2 oM, ← hw.mf.dr 3 oM, ← hw.mf.dr 4 oM]
  rfl
 have hb1 : ∀ k, k < 4 → (w.ln k).2 ≤ 100000 := by
  intro k hk
  have := hok.sum
  rcases (by omega : k = 0 ∨ k = 1 ∨ k = 2 ∨ k = 3) with rfl | rfl | rfl | rfl <;> omega
 have hb2 : ∀ i, i ≤ 4 → w.bytesTo i ≤ 100000 * i := by
  intro i
  induction i with
  | zero => intro _; simp [Wa.bytesTo, hok.d0]
  | succ i ih => intro hi; have := ih oM; have := hb1 i oM; simp only [Wa.bytesTo]; omega
 refine sw1 @hrow ?_
 refine i_loop (fun i : Nat => [some (.pointer (some ⟨p, 0, none⟩)), some (.agg #[.int .i64 0, .int .i64 0, .int .i64 0, .int .i64 0, .int .i64 0]), some (aggDr (w.bytesTo i) (w.dr 1) (w.dr 2) (w.dr 3) (w.dr 4)), some (.int .i64 (i : Nat)), none, none])
  (fun i H => i ≤ 4 ∧ H = h) (fun i => 4 - i) 0 (by unfold aggDr; try simp only [Pf]; exact ⟨rfl, rfl⟩) ⟨oM, rfl⟩ ?_
 rintro i H ⟨hi, rfl⟩
 have hi1 : IntKind.i64.wrap ((i : Int) + 1) = ((i + 1 : Nat) : Int) := by rw [w64 oM oM]; omega
 refine sw1 @aggDr.eq_1 ?_
 refine i_cond (fun c1 => ?_) (fun c1 => ?_)
 rotate_left
 ·have : i = 4 := oM
  subst this
  refine sw0 ?_
  exact hK
 have hi4 : i < 4 := oM
 have CL := hw.cLost (Q.lt 0 rfl) hi4
 have hs1 := hb1 i hi4
 have hs2 := hb2 i oM
 have wi : IntKind.i64.wrap ((w.bytesTo i : Int) + ((w.ln i).2 : Nat)) = ((w.bytesTo (i + 1) : Nat) : Int) := by rw [w64 oM oM]; simp only [Wa.bytesTo]; omega
 refine sw3 @CL @wi @hi1 ?_
 exact k_loop (i + 1) oM sE ⟨oM, rfl⟩
def S287 : Spec := fun args h K => ∃ g p w fed s e, args = [.pointer (some ⟨p, 0, none⟩), .string (str s), .int .i64 e] ∧ MO g p w ∧ Heap.le g h ∧ w.Ok fed ∧ s.length ≤ 1000000 ∧
 ∀ g' h', Step g h g' h' → MO g' p w → K (.tuple #[.string (str (w.par s e).1), .int .i64 ((w.par s e).2 : Nat)]) h'
theorem F287_ok {N : Num} {Γ : Ctx} [GoodC Γ] (H52 : Sat S52 (Γ 52)) (H48 : Sat S48 (Γ 48)) : Sat S287 (SF N Γ F287) := by
 rintro _ h K ⟨g, p, w, fed, s, e, rfl, hwo, hg, hok, hsl, hK⟩
 obtain ⟨F, rv, av, kv, bm, gw, gr, ga, gt, gk, hps, hw⟩ := hwo
 have Q := hps.rest hg
 refine i_fun rfl ?_
 simp only [F287, Ze, Nat.reduceSub, Nat.reduceAdd]
 have C39 := hw.c39 (Q.lt 1 rfl)
 refine sw1 @C39 ?_
 refine i_call H52 ⟨gt, bm, _, _, _, s, e, rfl, hw.tr, Q.lt 4 rfl, hok.mokE, hsl, fun gt1 h1 st1 hT1 => ?_⟩
 have Q1 := Q.step 4 rfl st1
 have hw1 : MP p w F rv av kv bm gw gr ga gt1 gk := { hw with tr := hT1 }
 obtain ⟨g1, s1, hM1⟩ := MO.of hg Q1 hw1
 have hd : Cw.whr (w.c 2).toNat (w.c 3).toNat w.E s e = w.whr s e := rfl
 rw [hd]
 unfold Wa.par at hK
 refine sw0 ?_
 refine i_cond (fun c1 => ?_) (fun c1 => ?_)
 ·rw [if_pos oM] at hK
  refine sw0 ?_
  exact hK g1 h1 s1 hM1
 rw [if_neg oM] at hK
 have he : 0 ≤ e ∧ e < (w.E.length : Int) := by
  unfold Wa.whr Cw.whr at c1
  by_cases hb : e < 0 ∨ (w.E.length : Int) ≤ e
  ·rw [if_pos hb] at c1; dsimp only at c1; omega
  ·omega
 obtain ⟨n, rfl⟩ : ∃ n : Nat, e = n := ⟨e.toNat, oM⟩
 rw [Int.toNat_natCast] at hK
 have hEl : w.E.length ≤ 1000 := (hT1.read (Q1.lt 4 rfl)).choose_spec.choose_spec.2.2.1
 have wi : IntKind.i64.wrap ((n : Int) + 1) = ((n + 1 : Nat) : Int) := by rw [w64 oM oM]; omega
 have hc4 := hok.c4
 have hc5 := hok.c5
 have C39 := hw1.c39 (Q1.lt 1 rfl)
 have C4 : h1.cell ((((⟨p, 0, none⟩ : Addr).add 0)).add 4) = some (.int .i64 (w.c 4)) := by
  have := hw1.cell (Q1.lt 1 rfl) (j := 4) oM
  rw [hw1.mf.c 4 oM] at this; exact this
 have C5 : h1.cell ((((⟨p, 0, none⟩ : Addr).add 0)).add 5) = some (.int .i64 (w.c 5)) := by
  have := hw1.cell (Q1.lt 1 rfl) (j := 5) oM
  rw [hw1.mf.c 5 oM] at this; exact this
 refine sw4 @C39 @C4 @C5 @wi ?_
 refine i_call H48 ⟨gt1, bm, _, _, w.E, s, n + 1, (w.c 4).toNat, (w.c 5).toNat, by rw [Int.toNat_of_nonneg oM, Int.toNat_of_nonneg oM], hT1, Q1.lt 4 rfl, hok.mokE, hsl, fun t ht => by rw [hok.tagLen ht]; omega, oM, oM, oM, oM, oM, fun gt2 h2 v2 st2 hT2 hS2 hb2 => ?_⟩
 have Q2 := Q1.step 4 rfl st2
 have hw2 : MP p w F rv av kv bm gw gr ga gt2 gk := { hw with tr := hT2 }
 obtain ⟨g2, s2, hM2⟩ := MO.of hg Q2 hw2
 have RK := (SlB.sl (enc := encT) (sz := 1) (fun _ => rfl) hS2).rules1 (fun s => .string (str s)) (fun _ => rfl) default
 rw [parL_len] at RK
 have hgt := parL_get (w := (w.c 2).toNat) (n := (w.c 3).toNat) (E := w.E) (span := (w.c 4).toNat) (score := (w.c 5).toNat) (s := s) (k := n + 1) (i := n) oM
 refine sw2 @RK @hgt ?_
 exact hK g2 h2 s2 hM2
end Go.Cw
namespace Go.Cw
open Go
def Wa.alM (w : Wa) (e i : Nat) : List Al := (List.range i).flatMap fun i => w.lookR e i (tagsE (w.E.take (e + 1)))
theorem Wa.alM_succ (w : Wa) (e i : Nat) : w.alM e (i + 1) = w.alM e i ++ w.lookR e i (tagsE (w.E.take (e + 1))) := by simp [Wa.alM, List.range_succ]
theorem Wa.alN_succ (w : Wa) (n : Nat) : w.alN (n + 1) = w.alN n ++ w.alM n w.rs.length := by simp [Wa.alN, List.range_succ, Wa.alE, Wa.alM]
theorem Wa.Ok.tags {w : Wa} {fed : Nat} (h : w.Ok fed) (n : Nat) : (tagsE (w.E.take n)).length ≤ 12 := by
 refine Nat.le_trans (nodup_leT (tagsE_nodup _) fun t ht => ?_) h.kn
 obtain ⟨l, hl, s, hs, rfl⟩ := (mem_tagsE _ t).1 ht
 exact ((h.Eb l (List.mem_of_mem_take hl)).2 s hs).2.1
theorem Wa.Ok.alM {w : Wa} {fed : Nat} (h : w.Ok fed) (e : Nat) : ∀ i, (w.alM e i).length ≤ 12 * i := by
 intro i
 induction i with
 | zero => simp [Wa.alM]
 | succ i ih => rw [Wa.alM_succ, List.length_append]; have := w.lookR_len e i (tagsE (w.E.take (e + 1))); have := h.tags (e + 1); omega
theorem Wa.Ok.alN {w : Wa} {fed : Nat} (h : w.Ok fed) : ∀ n, (w.alN n).length ≤ 72 * n := by
 intro n
 induction n with
 | zero => simp [Wa.alN]
 | succ n ih => rw [Wa.alN_succ, List.length_append]; have := h.alM n w.rs.length; have := h.rl; omega
theorem Wa.Ok.Elen {w : Wa} {fed : Nat} (h : w.Ok fed) : w.E.length ≤ 1000 := by
 rw [h.El]; exact clos_le1000 h.now
def S284 : Spec := fun args h K => ∃ g p w fed, args = [.pointer (some ⟨p, 0, none⟩)] ∧ MO g p w ∧ Heap.le g h ∧ w.Ok fed ∧
 ∀ g' h' v, Step g h g' h' → MO g' p w → Sl encAl h' v (w.alN w.E.length) → K v h'
theorem F284_ok {N : Num} {Γ : Ctx} [GoodC Γ] (H14 : Sat S14 (Γ 14)) (H175 : Sat S175 (Γ 175)) : Sat S284 (SF N Γ F284) := by
 rintro _ h K ⟨g, p, w, fed, rfl, ⟨F, rv, av, kv, bm, gw, gr, ga, gt, gk, hps, hw⟩, hg, hok, hK⟩
 have Q0 := hps.rest hg
 have hEl := hok.Elen
 have hrl := hok.rl
 refine i_fun rfl ?_
 simp only [F284, Ze, Nat.reduceSub, Nat.reduceAdd]
 refine sw0 ?_
 refine i_loop (fun x : Nat × Value => [some (.pointer (some ⟨p, 0, none⟩)), none, some x.2, some (.int .i64 (x.1 : Nat)), none, none, none, none, none, none, none, none, none, none, none, none, none])
  (fun x H => x.1 ≤ w.E.length ∧ ∃ gt gA, Ps H [rest g h, gw, gr, ga, gt, gk, gA] ∧ RT gt bm (w.c 2).toNat (w.c 3).toNat w.E ∧ SlB encAl 3 gA x.2 (w.alN x.1)) (fun x => w.E.length - x.1) (0, .slice none 0 0) (by dsimp only; try simp only [Pf]; rfl)
  ⟨dM, gt, fun _ => none, Q0.add (f := fun _ => none) (fun b o hb => by cases hb) (fun x _ b _ => rfl), hw.tr, SlB.nil⟩ ?_
 clear Q0 hps
 have hw0 := hw
 obtain ⟨hob, hmf, hrs, hall, htr, hkn⟩ := hw
 clear htr
 rintro ⟨e, v⟩ H ⟨he, gt, gA, Q, hT, hA⟩
 dsimp only at he hA ⊢
 have he1 : IntKind.i64.wrap ((e : Int) + 1) = ((e + 1 : Nat) : Int) := by rw [w64 oM oM]; omega
 have C39 := hw0.c39 (Q.lt 1 rfl)
 have hR := hT.read (Q.lt 4 rfl)
 obtain ⟨ev, fv, hoa, ⟨vs, hv, hvl, hr⟩, _, _⟩ := hT.read (Q.lt 4 rfl)
 have A2 : H.cell ((⟨bm, 0, none⟩ : Addr).add 2) = some ev := hoa.rules.1 2 (by simp)
 have R := hv.rules1 id (fun _ => rfl) undef
 rw [hvl] at R
 refine sw3 @C39 @A2 @R ?_
 refine i_cond (fun c1 => ?_) (fun c1 => ?_)
 rotate_left
 ·have : e = w.E.length := oM
  subst this
  refine sw0 ?_
  obtain ⟨g4, q1, q2⟩ := MO.of (w := w) hg (Q.take 6) { hw0 with tr := hT }
  exact hK g4 H v q1 q2 (SlB.sl encAl_len (hA.le (Q.lt 6 rfl)))
 have he2 : e < w.E.length := oM
 clear R A2 hr hv hvl hoa
 refine sw1 @C39 ?_
 refine i_call H14 ⟨⟨bm, 0, none⟩, _, _, _, (e : Int), rfl, hR, fun v1 h1 ho1 => ?_⟩
 have e1 : ((e : Int) + 1).toNat = e + 1 := oM
 rw [e1] at ho1
 have Q1 := Q.new ho1.1
 have hS1 : Sl encT (fr H h1) v1 (tagsE (w.E.take (e + 1))) := ho1.slf (enc := encT) (sz := 1) (fun _ => rfl)
 have hTl := hok.tags (e + 1)
 have hTm : ∀ t ∈ tagsE (w.E.take (e + 1)), t.length = 8 := fun t ht => by
  obtain ⟨l, hl, q⟩ := (mem_tagsE _ t).1 ht
  exact hok.tagLen ⟨l, List.mem_of_mem_take hl, q⟩
 generalize hTT : tagsE (w.E.take (e + 1)) = T at *
 have OV := ho1.one
 generalize fr H h1 = Z at *
 clear ho1 hR
 have hlenN := hok.alN e
 have hm0 : w.alM e 0 = [] := rfl
 refine sw0 ?_
 refine i_loop (fun x : Nat × Value => [some (.pointer (some ⟨p, 0, none⟩)), none, some x.2, some (.int .i64 (e : Nat)), some v1, some (.int .i64 (x.1 : Nat)), none, none, none, none, none, none, none, none, none, none, none])
  (fun x H => x.1 ≤ w.rs.length ∧ ∃ gt gA, Ps H [rest g h, gw, gr, ga, gt, gk, gA, Z] ∧ RT gt bm (w.c 2).toNat (w.c 3).toNat w.E ∧ SlB encAl 3 gA x.2 (w.alN e ++ w.alM e x.1)) (fun x => w.rs.length - x.1) (0, v) (by dsimp only; try simp only [Pf]; rfl)
  ⟨dM, gt, gA, Q1, hT, by dsimp only; rw [hm0, List.append_nil]; exact hA⟩ ?_
 clear Q1 Q hT hA C39
 rintro ⟨i, v⟩ H2 ⟨hi, gt, gA, Q, hT, hA⟩
 dsimp only at hi hA ⊢
 have hi1 : IntKind.i64.wrap ((i : Int) + 1) = ((i + 1 : Nat) : Int) := by rw [w64 oM oM]; omega
 have C22 := hw0.c22 (Q.lt 1 rfl)
 have Rr := (hrs.le (Q.lt 2 rfl)).rules 6 Rl.enc_len default
 refine sw2 @C22 @Rr ?_
 refine i_cond (fun c2 => ?_) (fun c2 => ?_)
 rotate_left
 ·have : i = w.rs.length := oM
  subst this
  rw [← Wa.alN_succ] at hA
  refine sw1 @he1 ?_
  exact k_loop (e + 1, v) dM (by dsimp only; try simp only [Pf]) ⟨dM, gt, gA, Q.take 7, hT, hA⟩
 have hi2 : i < w.rs.length := oM
 have hlenM := hok.alM e i
 have hrn : (w.rs.getD i default).name.length ≤ 12 := by
  exact (ruleF_zero.1 (hok.rf _ (getD_mem default hi2))).1.2.1
 have hz0 : w.lookR e i (T.take 0) = [] := rfl
 have hsucc := w.alM_succ e i
 rw [hTT] at hsucc
 refine sw0 ?_
 refine i_loop (fun x : Nat × Value => [some (.pointer (some ⟨p, 0, none⟩)), none, some x.2, some (.int .i64 (e : Nat)), some v1, some (.int .i64 (i : Nat)), some (.int .i64 (x.1 : Nat)), none, none, none, none, none, none, none, none, none, none])
  (fun x H => x.1 ≤ T.length ∧ ∃ gt gA, Ps H [rest g h, gw, gr, ga, gt, gk, gA, Z] ∧ RT gt bm (w.c 2).toNat (w.c 3).toNat w.E ∧ SlB encAl 3 gA x.2 (w.alN e ++ w.alM e i ++ w.lookR e i (T.take x.1))) (fun x => T.length - x.1) (0, v) (by dsimp only; try simp only [Pf]; rfl)
  ⟨dM, gt, gA, Q, hT, by dsimp only; rw [hz0, List.append_nil]; exact hA⟩ ?_
 clear Q hT hA C22 Rr
 rintro ⟨k, v⟩ H3 ⟨hk, gt, gA, Q, hT, hA⟩
 dsimp only at hk hA ⊢
 have hk1 : IntKind.i64.wrap ((k : Int) + 1) = ((k + 1 : Nat) : Int) := by rw [w64 oM oM]; omega
 have RT1 := (hS1.le (Q.lt 7 rfl)).rules1 (fun s => .string (str s)) (fun _ => rfl) default
 refine sw1 @RT1 ?_
 refine i_cond (fun c3 => ?_) (fun c3 => ?_)
 rotate_left
 ·have : k = T.length := oM
  subst this
  rw [List.take_length, List.append_assoc, ← hsucc] at hA
  refine sw1 @hi1 ?_
  exact k_loop (i + 1, v) dM (by dsimp only; try simp only [Pf]) ⟨dM, gt, gA, Q, hT, hA⟩
 have hk2 : k < T.length := oM
 have hnr : T.take (k + 1) = T.take k ++ [T.getD k default] := take_succ_d default hk2
 have hlR := w.lookR_len e i (T.take k)
 rw [List.length_take] at hlR
 have ht8 := hTm _ (getD_mem default hk2)
 generalize hte : T.getD k default = t at *
 have C22 := hw0.c22 (Q.lt 1 rfl)
 have C39 := hw0.c39 (Q.lt 1 rfl)
 have Rr := (hrs.le (Q.lt 2 rfl)).rules 6 Rl.enc_len default
 generalize hre : w.rs.getD i default = r at *
 refine sw7 @C22 @C39 @Rr @RT1 @hre @hte @Rl.enc.eq_1 ?_
 refine i_call H175 ⟨gt, bm, _, _, w.E, r, t, e, rfl, hT, Q.lt 4 rfl, hok.mokE, oM, hEl, oM, oM, fun gt4 h4 st4 hT4 => ?_⟩
 have Q4 := Q.step 4 rfl st4
 have hlq : w.lookR e i (T.take (k + 1)) = w.lookR e i (T.take k) ++ if holdR (w.c 2).toNat (w.c 3).toNat w.E r t e then [⟨i, e, t⟩] else [] := by
  unfold Wa.lookR
  rw [hnr, List.filter_append, List.map_append, hre]
  congr 1
  by_cases q : holdR (w.c 2).toNat (w.c 3).toNat w.E r t e <;> simp [q]
 refine sw0 ?_
 cases c4 : holdR (w.c 2).toNat (w.c 3).toNat w.E r t e
 ·rw [c4, if_neg (by simp), List.append_nil] at hlq
  refine sw1 @hk1 ?_
  exact k_loop (k + 1, v) dM (by dsimp only; try simp only [Pf]) ⟨dM, gt4, gA, Q4, hT4, by dsimp only; rw [hlq]; exact hA⟩
 rw [c4, if_pos rfl] at hlq
 have RT4 := (hS1.le (Q4.lt 7 rfl)).rules1 (fun s => .string (str s)) (fun _ => rfl) default
 have OA := hA.one
 refine sw2 @RT4 @hte ?_
 refine i_bslB encAl 3 encAl_len [⟨i, e, t⟩] (by simp [encAl]) rfl (by simp [maxLen]) fun x1 b1 h8 hle8 hb1 hx1 hS3 => ?_
 have Q8 := Q4.up hle8
 have O2 := hS3.one
 refine sw4 O2.1 O2.2 OA.1 OA.2 ?_
 refine i_appB (enc := encAl) (sz := 3) (g := gA) (l' := [⟨i, e, t⟩]) encAl_len (by simp [encAl, one]) hA (Q8.lt 6 rfl) (SlB.sl encAl_len (hS3.le (fr_le _ _))) (by simp; omega) fun v9 h9 ga9 hS9 St9 e1 e2 e3 => ?_
 have Q9 := Q8.step 6 rfl St9
 have O9 := hS9.one
 refine sw3 O9.1 O9.2 @hk1 ?_
 refine k_loop (k + 1, v9) dM (by dsimp only; try simp only [Pf]) ⟨dM, gt4, ga9, Q9, hT4, ?_⟩
 dsimp only
 rw [hlq, ← List.append_assoc]
 exact hS9
def Wa.KnL (w : Wa) : Prop := ∀ t ∈ w.kn, t.length = 8
theorem tagOf_len {t : List UInt8} (h : tagOf t ≠ none) : t.length = 8 := by
 refine Classical.byContradiction fun e => h ?_
 unfold tagOf
 rw [if_pos e]
theorem Wa.KnL.read {w : Wa} (h : w.KnL) (r : Nat) (d : Rd) : (w.read r d).KnL := by
 unfold Wa.read
 dsimp only
 split
 ·exact h
 split
 ·exact h
 split
 ·exact h
 split
 ·exact h
 intro t ht
 dsimp only at ht
 split at ht
 ·exact h t ht
 ·rcases List.mem_append.1 ht with q | q
  ·exact h t q
  ·rw [List.mem_singleton.1 q]
   rename_i h0 _ _ _ _
   exact tagOf_len h0
theorem Wa.KnL.reads (r : Nat) (l : List Rd) : ∀ {w : Wa}, w.KnL → (l.foldl (fun w d => w.read r d) w).KnL := by
 induction l with
 | nil => intro w h; exact h
 | cons d l ih => intro w h; exact ih (h.read r d)
theorem Wa.KnL.frame {w : Wa} (h : w.KnL) (r : Nat) (f : Fr) : (w.frame r f).KnL := by
 have := h.reads r f.reads
 unfold Wa.frame
 dsimp only
 split <;> exact this
theorem Wa.KnL.frames (r : Nat) (l : List Fr) : ∀ {w : Wa}, w.KnL → (l.foldl (fun w f => w.frame r f) w).KnL := by
 induction l with
 | nil => intro w h; exact h
 | cons d l ih => intro w h; exact ih (h.frame r d)
theorem Wa.KnL.act {w : Wa} (h : w.KnL) (a : Ac) : (w.act a).KnL := by
 unfold Wa.act
 split
 ·split
  ·rw [Wa.feed_eq]
   exact h.frames a.n.toNat (Cw.feed ((w.ln a.n.toNat).1 ++ a.s)).1
  ·exact h
 ·split
  ·exact h
  ·obtain ⟨h1, _⟩ := tells_keep (w.closed a.n.toNat) { w with now := w.now + a.n.toNat }
   unfold Wa.tick Wa.KnL
   rw [h1]; exact h
theorem Wa.KnL.new {c : Nat → Int} {rs : List Rl} : (newW c rs).KnL := fun t ht => by cases ht
def S273 (N : Num) : Spec := fun args h K => ∃ g gm p q w fed, args = [.pointer (some ⟨p, 0, none⟩), .pointer (some ⟨q, 0, none⟩)] ∧ WO g p w ∧ MO gm q w ∧ Heap.le g h ∧ Heap.le gm h ∧ disj g gm ∧ w.Ok fed ∧ fed ≤ 20000 ∧ w.AlJ ∧ w.KnL ∧ ∀ gm' h', Step gm h gm' h' → K (.bool true) h'
theorem F273_ok {N : Num} {Γ : Ctx} [GoodC Γ] (H275 : Sat S275 (Γ 275)) (H276 : Sat S276 (Γ 276)) (H280 : Sat S280 (Γ 280)) (H281 : Sat S281 (Γ 281)) (H283 : Sat S283 (Γ 283)) (H284 : Sat S284 (Γ 284)) (H282 : Sat S282 (Γ 282)) (H285 : Sat (S285 N) (Γ 285)) (H19 : Sat (S19 N) (Γ 19))
  (H274 : Sat (S274 N) (Γ 274)) (H52 : Sat S52 (Γ 52)) (H286 : Sat (S286 N) (Γ 286)) (H287 : Sat S287 (Γ 287)) : Sat (S273 N) (SF N Γ F273) := by
 rintro _ h K ⟨g, gm, p, q, w, fed, rfl, hW, hM, hg, hgm, hdis, hok, hfed, hAl, hKn, hK⟩
 have hgr : Heap.le g (rest gm h) := rest_disj hg hdis
 have hEl := hok.Elen
 have hkl := hok.kn
 refine i_fun rfl ?_
 simp only [F273, Ze, Nat.reduceSub, Nat.reduceAdd]
 obtain ⟨F, rv, av, kv, bm, gw, gr, ga, gt, gk, Q, hw⟩ := hM.read hgm
 have C37 : h.cell (((⟨q, 0, none⟩ : Addr).add 35).add 2) = some (.int .i64 (w.now : Nat)) := by rw [add_add', (hw.ob.le (Q.lt 0 rfl)).cell oM, hw.mf.nw]
 have C39 := hw.c39 (Q.lt 0 rfl)
 obtain ⟨ev, fv, hoa, ⟨vs, hv, hvl, hr⟩, _, _⟩ := hw.tr.read (Q.lt 3 rfl)
 have A2 : h.cell ((⟨bm, 0, none⟩ : Addr).add 2) = some ev := hoa.rules.1 2 (by simp)
 have R := hv.rules1 id (fun _ => rfl) undef
 rw [hvl] at R
 have hala : w.al.length ≤ 200000 := by have h1 := hok.al; omega
 have hfs := five_same h w.bytes (w.dr 1 : Nat) (w.dr 2 : Nat) (w.dr 3 : Nat) (w.dr 4 : Nat)
 refine sw1 @C37 ?_
 refine i_call H275 ⟨g, p, w, rfl, hW, hg, ?_⟩
 refine sw4 @C37 @C39 @A2 @R ?_
 refine i_le (le_one (Heap.le.refl h)) ?_
 refine sw4 @C37 @C39 @A2 @R ?_
 refine i_call H276 ⟨g, p, w, rfl, hW, hg, ?_⟩
 refine sw4 @C37 @C39 @A2 @R ?_
 refine i_le (le_two (Heap.le.refl h) (Heap.le.refl h)) ?_
 refine sw4 @C37 @C39 @A2 @R ?_
 refine i_call H280 ⟨g, p, w, fed, rfl, hW, hg, hok, oM, ?_⟩
 refine sw0 ?_
 refine i_call H281 ⟨gm, q, w, fed, rfl, hM, hgm, hok, oM, ?_⟩
 unfold aggDr
 refine sw1 @hfs ?_
 refine i_call H283 ⟨g, p, w, rfl, hW, hg, hala, fun v1 h1 hle1 hs1 => ?_⟩
 have Q1 : Ps h1 [rest gm h, gm, fr h h1] := by
  have q0 : Ps h [rest gm h, gm] := ⟨fun x hx => by simp at hx; rcases hx with rfl | rfl; exact rest_le _ _; exact hgm, by simp; exact fun b hb => by unfold rest at hb; split at hb; assumption; exact absurd rfl hb⟩
  exact q0.new hle1
 refine sw0 ?_
 refine i_call H284 ⟨gm, q, w, fed, rfl, hM, Q1.lt 1 rfl, hok, fun gm2 h2 v2 st2 hM2 hs2 => ?_⟩
 have Q2 := Q1.step 1 rfl st2
 have hAl2 : w.alN w.E.length = w.al := hAl.symm
 rw [hAl2] at hs2
 refine sw0 ?_
 refine i_call H282 ⟨v1, v2, w.al, rfl, hs1.le (Q2.lt 2 rfl), hs2, oM, ?_⟩
 replace Q2 := Q2.take 2
 refine sw1 @hfs ?_
 clear hs1 hs2 Q1 st2 hM C37 C39 A2 R hr hv hvl hoa hw Q
 refine i_loop (fun k : Nat => [some (.pointer (some ⟨p, 0, none⟩)), some (.pointer (some ⟨q, 0, none⟩)), none, some (.int .i64 ((k : Int) - 1)), none, none, none, none, none, none, none, none, none, none, none, none, none, none, none, none, none, none, none, none, none, none, none, none, none, none, none, none, none, none, none, none, none, none, none, none, none, none, none, none, none, none, none, none, none, none, none, none])
  (fun k H => k ≤ 6 ∧ H = h2) (fun k => 6 - k) 0 (by try simp only [Pf]; rfl) ⟨oM, rfl⟩ ?_
 rintro k H ⟨hk, rfl⟩
 have hk1 : IntKind.i64.wrap ((k : Int) - 1 + 1) = ((k + 1 : Nat) : Int) - 1 := by rw [w64 oM oM]; omega
 obtain ⟨F, rv, av, kv, bm, gw, gr, ga, gt, gk, Q, hw⟩ := hM2.read (Q2.lt 1 rfl)
 have hgH : Heap.le g H := hgr.trans (Q2.lt 0 rfl)
 refine sw0 ?_
 refine i_cond (fun c1 => ?_) (fun c1 => ?_)
 ·refine sw0 ?_
  refine i_call H285 ⟨g, p, w, _, rfl, hW, hgH, fun hb => ?_, fun j hj hj4 => ?_⟩
  ·have hT : ((k : Int) - 1 < 0 ∨ 3 < (k : Int) - 1) = True := eq_true hb
   refine sw1 @hT ?_
   refine i_call H19 ⟨1, 1, rfl, ?_⟩
   refine sw1 @hk1 ?_
   exact k_loop (k + 1) oM sE ⟨oM, rfl⟩
  ·have hT : ((k : Int) - 1 < 0 ∨ 3 < (k : Int) - 1) = False := eq_false oM
   have CW := hw.cWarm (Q.lt 0 rfl) hj4
   rw [hj]
   rw [hj] at hT hk1
   refine sw3 @hT @CW @hk1 ?_
   exact k_loop (k + 1) oM sE ⟨oM, rfl⟩
 have C40 := hw.c40 (Q.lt 0 rfl)
 have hks : Sl encT H kv w.kn := SlB.sl (enc := encT) (sz := 1) (fun _ => rfl) (hw.kn.le (Q.lt 4 rfl))
 refine sw1 @C40 ?_
 refine i_app (enc := encT) (sz := 1) (fun _ => rfl) (fun _ => rfl) (OwnS.nil (Heap.le.refl H)) hks (by simp only [List.length_nil]; omega) fun v3 h3 ho3 => ?_
 have O3 := ho3.one
 refine sw2 O3.1 O3.2 ?_
 refine i_bslB encT 1 (fun _ => rfl) [[120]] rfl rfl (by simp [maxLen]) fun x4 b4 h4 hle4 hb4 hx4 hS4 => ?_
 have O4 := hS4.one
 refine sw2 O4.1 O4.2 ?_
 refine i_app (enc := encT) (sz := 1) (fun _ => rfl) (fun _ => rfl) (ho3.le hle4) (SlB.sl (enc := encT) (sz := 1) (fun _ => rfl) (hS4.le (fr_le _ _))) (by simp; omega) fun v5 h5 ho5 => ?_
 have Q5 := Q2.new ho5.1
 have hS5 : Sl encT (fr H h5) v5 (w.kn ++ [[120]]) := ho5.slf (enc := encT) (sz := 1) (fun _ => rfl)
 generalize fr H h5 = Z at *
 obtain ⟨T, hT⟩ : ∃ T, T = w.kn ++ [[120]] := ⟨_, rfl⟩
 have hTl : T.length ≤ 13 := by rw [hT]; simp; omega
 have hT8 : ∀ t ∈ T, t.length ≤ 8 := fun t ht => by
  rw [hT] at ht
  rcases List.mem_append.1 ht with e | e
  ·rw [hKn t e]; omega
  ·rw [List.mem_singleton.1 e]; simp
 have O5 := ho5.one
 rw [← hT] at hS5
 clear ho5 ho3 hS4 hks C40 hw Q hT
 refine sw0 ?_
 refine i_loop (fun i : Nat => [some (.pointer (some ⟨p, 0, none⟩)), some (.pointer (some ⟨q, 0, none⟩)), none, none, none, none, some v5, some (.int .i64 (i : Nat)), none, none, none, none, none, none, none, none, none, none, none, none, none, none, none, none, none, none, none, none, none, none, none, none, none, none, none, none, none, none, none, none, none, none, none, none, none, none, none, none, none, none, none, none])
  (fun i H => i ≤ T.length ∧ ∃ gM, Ps H [rest gm h, gM, Z] ∧ MO gM q w) (fun i => T.length - i) 0 (by try simp only [Pf]; rfl) ⟨oM, gm2, Q5, hM2⟩ ?_
 clear Q5 Q2 hM2
 rintro i H6 ⟨hi, gM, Q6, hM6⟩
 have hi1 : IntKind.i64.wrap ((i : Int) + 1) = ((i + 1 : Nat) : Int) := by rw [w64 oM oM]; omega
 have RT1 := (hS5.le (Q6.lt 2 rfl)).rules1 (fun s => .string (str s)) (fun _ => rfl) default
 refine sw1 @RT1 ?_
 refine i_cond (fun c2 => ?_) (fun c2 => ?_)
 rotate_left
 ·refine sw0 ?_
  exact hK _ _ (Q6.step1 hgm)
 have hi2 : i < T.length := oM
 have ht8 := hT8 _ (getD_mem default hi2)
 generalize hte : T.getD i default = t at *
 obtain ⟨F, rv, av, kv, bm, gw, gr, ga, gt, gk, Q, hw⟩ := hM6.read (Q6.lt 1 rfl)
 have C39 := hw.c39 (Q.lt 0 rfl)
 obtain ⟨ev, fv, hoa, ⟨vs, hv, hvl, hr⟩, _, _⟩ := hw.tr.read (Q.lt 3 rfl)
 have A2 : H6.cell ((⟨bm, 0, none⟩ : Addr).add 2) = some ev := hoa.rules.1 2 (by simp)
 have R := hv.rules1 id (fun _ => rfl) undef
 rw [hvl] at R
 have wl : IntKind.i64.wrap ((w.E.length : Int) - 3) = (w.E.length : Int) - 3 := by rw [w64 oM oM]
 obtain ⟨e0, he0⟩ : ∃ e0 : Int, e0 = max (-1) ((w.E.length : Int) - 3) := ⟨_, rfl⟩
 refine sw4 @C39 @A2 @R @wl ?_
 rw [← he0]
 refine i_loop (fun k : Nat => [some (.pointer (some ⟨p, 0, none⟩)), some (.pointer (some ⟨q, 0, none⟩)), none, none, none, none, some v5, some (.int .i64 (i : Nat)), some (.int .i64 (e0 + (k : Nat))), none, none, none, none, none, none, none, none, none, none, none, none, none, none, none, none, none, none, none, none, none, none, none, none, none, none, none, none, none, none, none, none, none, none, none, none, none, none, none, none, none, none, none])
  (fun k H => e0 + (k : Int) ≤ w.E.length + 1 ∧ ∃ gM, Ps H [rest gm h, gM, Z] ∧ MO gM q w) (fun k => ((w.E.length : Int) + 1 - e0).toNat - k) 0 (by rw [show e0 + ((0 : Nat) : Int) = e0 by omega]; try simp only [Pf]) ⟨oM, gM, Q6, hM6⟩ ?_
 clear Q6 hM6 Q hw C39 A2 R hr hv hvl hoa RT1
 rintro k H7 ⟨hk, gM, Q7, hM7⟩
 have hk1 : IntKind.i64.wrap (e0 + (k : Int) + 1) = e0 + ((k + 1 : Nat) : Int) := by rw [w64 oM oM]; omega
 have hgH7 : Heap.le g H7 := hgr.trans (Q7.lt 0 rfl)
 obtain ⟨F, rv, av, kv, bm, gw, gr, ga, gt, gk, Q, hw⟩ := hM7.read (Q7.lt 1 rfl)
 have C39 := hw.c39 (Q.lt 0 rfl)
 obtain ⟨ev, fv, hoa, ⟨vs, hv, hvl, hr⟩, _, _⟩ := hw.tr.read (Q.lt 3 rfl)
 have A2 : H7.cell ((⟨bm, 0, none⟩ : Addr).add 2) = some ev := hoa.rules.1 2 (by simp)
 have R := hv.rules1 id (fun _ => rfl) undef
 rw [hvl] at R
 have RT1 := (hS5.le (Q7.lt 2 rfl)).rules1 (fun s => .string (str s)) (fun _ => rfl) default
 refine sw3 @C39 @A2 @R ?_
 refine i_cond (fun c3 => ?_) (fun c3 => ?_)
 rotate_left
 ·refine sw1 @hi1 ?_
  exact k_loop (i + 1) oM sE ⟨oM, gM, Q7, hM7⟩
 clear Q hw A2 R hr hv hvl hoa C39
 generalize hee : e0 + (k : Int) = e at *
 refine sw2 @RT1 @hte ?_
 refine i_call H274 ⟨g, p, w, t, e, rfl, hW, hgH7, ?_⟩
 obtain ⟨F, rv, av, kv, bm, gw, gr, ga, gt, gk, hps, hw⟩ := hM7
 have Qm := hps.up (Q7.lt 1 rfl)
 have C39 := hw.c39 (Qm.lt 0 rfl)
 refine sw3 @RT1 @hte @C39 ?_
 refine i_call H52 ⟨gt, bm, _, _, _, t, e, rfl, hw.tr, Qm.lt 3 rfl, hok.mokE, oM, fun gt1 h1 st1 hT1 => ?_⟩
 have Qf : Ps H7 [rest gM H7, gw, gr, ga, gt, gk] := hps.rest (Q7.lt 1 rfl)
 have Qf1 := Qf.step 4 rfl st1
 obtain ⟨gM1, sM1, hM1⟩ := MO.of (w := w) (Q7.lt 1 rfl) Qf1 { hw with tr := hT1 }
 have Q8 := Q7.step 1 rfl sM1
 clear Qf Qf1 Qm C39 hw hps sM1 st1 Q7 hgH7
 have hgH8 : Heap.le g h1 := hgr.trans (Q8.lt 0 rfl)
 have RT8 := (hS5.le (Q8.lt 2 rfl)).rules1 (fun s => .string (str s)) (fun _ => rfl) default
 refine sw2 @RT8 @hte ?_
 refine i_call H286 ⟨g, p, w, t, e, rfl, hW, hgH8, ?_⟩
 refine sw2 @RT8 @hte ?_
 refine i_call H287 ⟨gM1, q, w, fed, t, e, rfl, hM1, Q8.lt 1 rfl, hok, oM, fun gM2 h2' st2 hM2 => ?_⟩
 have Q9 := Q8.step 1 rfl st2
 have hwd : Cw.whr (w.c 2).toNat (w.c 3).toNat w.E t e = w.whr t e := rfl
 rw [hwd]
 refine sw0 ?_
 refine i_call H19 ⟨(w.whr t e).2, (w.whr t e).2, rfl, ?_⟩
 refine sw0 ?_
 refine i_call H19 ⟨(w.par t e).2, (w.par t e).2, rfl, ?_⟩
 refine sw1 @hk1 ?_
 exact k_loop (k + 1) oM sE ⟨oM, gM2, Q9, hM2⟩
def tagA : List UInt8 := bytesOf ⟨1, 0, 0, 0, 0, 0⟩
def cfg1 : Nat → Int := fun k => ([1, 0, 1, 1, 1, 1] : List Int).getD k 0
def frA : Fr := ⟨1, [⟨0, 0, 0, tagA⟩], 0⟩
def wat0 : Wa := newW cfg1 []
def wat1 : Wa := wat0.feed 0 frA.bytes
def wat2 : Wa := wat1.tick 1
theorem wat_0 : watchF cfg1 [] = 0 := by decide +kernel
theorem wat_f : frA.fault = 0 := by decide +kernel
theorem wat_len : frA.bytes.length = 15 := by decide +kernel
theorem wat_n : wat0.feedN 0 frA.bytes = 1 := by decide +kernel
theorem wat_now : wat1.now = 0 := by decide +kernel
theorem wat_c : (wat1.closed 1).length = 1 := by decide +kernel
theorem wat_w : wat2.whr tagA 0 = (0, 0) := by decide +kernel
theorem wat_now2 : wat2.now = 1 := by decide +kernel
theorem wat_E : wat2.E.length = 1 := by decide +kernel
def S263 : Spec := fun args h K => args = [] ∧ ∀ h', Heap.le h h' → K (.bool true) h'
theorem F263_ok {N : Num} {Γ : Ctx} [GoodC Γ] (H266 : Sat (S266 N) (Γ 266)) (H65 : Sat S65 (Γ 65)) (H22 : Sat S22 (Γ 22)) (H271 : Sat (S271 N) (Γ 271)) (H269 : Sat (S269 N) (Γ 269)) (H274 : Sat (S274 N) (Γ 274)) (H19 : Sat (S19 N) (Γ 19)) (H275 : Sat S275 (Γ 275)) (H276 : Sat S276 (Γ 276)) : Sat S263 (SF N Γ F263) := by
 rintro _ h K ⟨rfl, hK⟩
 refine i_fun rfl ?_
 simp only [F263, Ze, Nat.reduceSub, Nat.reduceAdd]
 refine sw0 ?_
 refine i_call H266 ⟨cfg1, .slice none 0 0, [], rfl, SlB.sl Rl.enc_len SlB.nil, by simp, by simp, fun e => absurd wat_0 e, fun _ p g1 h1 st1 hW1 => ?_⟩
 have hl1 := st1.le0
 have hok0 := watchF_new wat_0
 rw [show newW cfg1 [] = wat0 from rfl] at hW1 hok0
 refine sw0 ?_
 refine i_call H65 ⟨⟨1, 0, 0, 0, 0, 0⟩, ⟨20, 6, 6, 1⟩, rfl, rfl, dM, dM, dM, dM, dM, dM, dM, dM, dM, dM, fun h2 hle2 => ?_⟩
 rw [show bytesOf ⟨1, 0, 0, 0, 0, 0⟩ = tagA from rfl]
 refine sw0 ?_
 refine i_bslB Rd.enc 4 (fun _ => rfl) [⟨0, 0, 0, tagA⟩] rfl rfl (by simp [maxLen]) fun x3 b3 h3 hle3 hb3 hx3 hS3 => ?_
 have O3 := hS3.one
 refine sw2 O3.1 O3.2 ?_
 refine i_call H22 ⟨_, frA, rfl, ⟨_, rfl, SlB.sl (fun _ => rfl) (hS3.le (fr_le _ _))⟩, wat_f, fun h4 hle4 => ?_⟩
 have hl4 := hle2.trans (hle3.trans hle4)
 refine sw0 ?_
 refine i_call H271 ⟨g1, p, wat0, 0, 0, frA.bytes, rfl, hW1, st1.le.trans hl4, hok0, fun _ => by rw [wat_len]; omega, fun e => absurd (by unfold feedF; rw [wat_len]; rfl) e, fun _ g5 h5 st5 hW5 => ?_⟩
 rw [show Int.toNat 0 = 0 from rfl, wat_n]
 rw [show Int.toNat 0 = 0 from rfl, show wat0.feed 0 frA.bytes = wat1 from rfl] at hW5
 have hok1 : wat1.Ok 15 := by
  have := hok0.feed (reader := 0) (s := frA.bytes) oM
  rw [wat_len] at this; exact this
 have Q1 : Ps h1 [h, g1] := ((Ps.one h).up hl1).add st1.le fun x hx => by rw [List.mem_singleton.1 hx]; exact disj_new st1 (Heap.le.refl h)
 have Q5 := (Q1.up hl4).step 1 rfl st5
 refine sw0 ?_
 refine i_call H269 ⟨g5, p, wat1, 15, 1, rfl, hW5, Q5.lt 1 rfl, hok1, oM, fun e => by rw [wat_now] at e; omega, fun m hm hm2 g6 h6 st6 hW6 => ?_⟩
 obtain rfl : m = 1 := oM
 rw [wat_c]
 rw [show wat1.tick 1 = wat2 from rfl] at hW6
 have Q6 := Q5.step 1 rfl st6
 refine sw0 ?_
 refine i_call H274 ⟨g6, p, wat2, tagA, 0, rfl, hW6, Q6.lt 1 rfl, ?_⟩
 rw [wat_w]
 refine sw0 ?_
 refine i_call H19 ⟨0, 0, rfl, ?_⟩
 refine sw0 ?_
 refine i_call H19 ⟨0, 0, rfl, ?_⟩
 refine sw0 ?_
 refine i_call H19 ⟨0, 0, rfl, ?_⟩
 refine sw0 ?_
 refine i_call H275 ⟨g6, p, wat2, rfl, hW6, Q6.lt 1 rfl, ?_⟩
 rw [wat_now2]
 refine sw0 ?_
 refine i_call H276 ⟨g6, p, wat2, rfl, hW6, Q6.lt 1 rfl, ?_⟩
 rw [wat_E]
 refine sw0 ?_
 exact hK h6 (Q6.lt 0 rfl)
theorem KnL_plays (L : List Ac) : ∀ {w : Wa}, w.KnL → (w.plays L).KnL := by
 induction L with
 | nil => intro w h; exact h
 | cons a L ih => intro w h; exact ih (h.act a)
theorem AlJ_plays (L : List Ac) : ∀ {w : Wa} {fed : Nat}, w.AlJ → w.Ok fed → fed + acSum L ≤ 20000 → (w.plays L).AlJ := by
 induction L with
 | nil => intro w fed h _ _; exact h
 | cons a L ih =>
  intro w fed h hok hf
  rw [acSum_cons] at hf
  exact ih (h.act hok a) (hok.act (a := a) oM) oM
def S262 : Spec := fun args h K => ∃ c rv rs v L, args = [aggC c, rv, v] ∧ Sl Rl.enc h rv rs ∧ Sl Ac.enc h v L ∧ ∀ h', Heap.le h h' → K (.bool true) h'
theorem F262_ok {N : Num} {Γ : Ctx} [GoodC Γ] (H263 : Sat S263 (Γ 263)) (H264 : Sat S264 (Γ 264)) (H265 : Sat S265 (Γ 265)) (H266 : Sat (S266 N) (Γ 266)) (H267 : Sat S267 (Γ 267)) (H268 : Sat S268 (Γ 268)) (H269 : Sat (S269 N) (Γ 269)) (H270 : Sat S270 (Γ 270)) (H271 : Sat (S271 N) (Γ 271)) (H272 : Sat S272 (Γ 272)) (H19 : Sat (S19 N) (Γ 19)) (H273 : Sat (S273 N) (Γ 273)) : Sat S262 (SF N Γ F262) := by
 rintro _ h K ⟨c, rv, rs, v, L, rfl, hrs, hL, hK⟩
 refine i_fun rfl ?_
 simp only [F262, Ze, Nat.reduceSub, Nat.reduceAdd]
 refine sw1 @aggC.eq_1 ?_
 refine i_call H263 ⟨rfl, fun h1 hle1 => ?_⟩
 have hrs1 := hrs.le hle1
 have hL1 := hL.le hle1
 refine sw0 ?_
 refine i_call H264 ⟨v, L, 60, rfl, hL1, oM, fun b hb => ?_⟩
 cases b with
 | false =>
  refine sw0 ?_
  exact hK h1 hle1
 | true =>
 have hla := hb rfl
 have hsum := lightA_sum hla
 have hll := hla.1
 refine sw0 ?_
 refine i_call H265 ⟨rv, rs, rfl, hrs1, ?_⟩
 by_cases hlr : lightR rs
 rotate_left
 ·rw [decide_eq_false hlr]
  refine sw0 ?_
  exact hK h1 hle1
 rw [decide_eq_true hlr]
 obtain ⟨hr9, hr50⟩ := hlr
 have Rr := hrs1.rules 6 Rl.enc_len default
 refine sw1 @Rr ?_
 refine i_app Rl.enc_len (fun _ => rfl) (OwnS.nil (Heap.le.refl h1)) hrs1 (by simp only [List.length_nil]; omega) fun v2 h2 ho2 => ?_
 rw [List.nil_append] at ho2
 have O2 := ho2.one
 refine sw2 O2.1 O2.2 ?_
 refine i_bslB Rl.enc 6 Rl.enc_len [⟨[], 77, 0, 0, 0, 0⟩] rfl rfl (by simp [maxLen]) fun x3 b3 h3 hle3 hb3 hx3 hS3 => ?_
 have O3 := hS3.one
 refine sw2 O3.1 O3.2 ?_
 refine i_app1 Rl.enc_len (fun x _ => rfl) (ho2.le hle3) (SlB.sl Rl.enc_len (hS3.le (fr_le _ _))) (by simp only [List.length_singleton]; omega) fun v4 h4 ho4 => ?_
 have Rr4 := (hrs1.le ho4.1).rules 6 Rl.enc_len default
 obtain ⟨v9, q1, q2, q3⟩ := ho4.lsl0 Rl.enc_len
 refine sw2 @Rr4 @q1 ?_
 have h9 := q3 _ _ rs rfl ho4
 have O9 := h9.one
 have hcomm : ∀ h5, Heap.le h4 h5 → Heap.le h h5 := fun h5 hl => hle1.trans (ho4.1.trans hl)
 by_cases hwf : watchF c rs = 0
 rotate_left
 ·refine i_call H266 ⟨c, v9, rs, rfl, h9, oM, fun r hr => by have := hr50 r hr; omega, fun _ h5 hle5 => ?_, fun e => absurd e hwf⟩
  have hE := fun (h' : Heap) => errV_succ
  refine sw0 ?_
  refine i_call H267 ⟨c, rv, rs, rfl, hrs1.le (ho4.1.trans hle5), fun h6 hle6 => ?_⟩
  have hpos : (0 : Int) < (watchF c rs : Nat) := oM
  refine sw1 @hpos ?_
  refine i_call H19 ⟨watchF c rs, watchF c rs, rfl, ?_⟩
  refine sw0 ?_
  exact hK h6 (hcomm h6 (hle5.trans hle6))
 refine i_call H266 ⟨c, v9, rs, rfl, h9, oM, fun r hr => by have := hr50 r hr; omega, fun e => absurd hwf e, fun _ p g5 h5 st5 hW5 => ?_⟩
 have hok0 := watchF_new hwf
 have Q5 : Ps h5 [h1, g5] := by
  have := ((Ps.one h4).up st5.le0).add st5.le fun x hx => by rw [List.mem_singleton.1 hx]; exact disj_new st5 (Heap.le.refl h4)
  refine ⟨fun x hx => ?_, ?_⟩
  ·simp only [List.mem_cons, List.not_mem_nil, or_false] at hx
   rcases hx with rfl | rfl
   ·exact ho4.1.trans st5.le0
   ·exact st5.le
  ·refine List.pairwise_cons.2 ⟨fun x hx => ?_, List.pairwise_singleton _ _⟩
   rw [List.mem_singleton.1 hx]
   exact disj_new st5 ho4.1
 have hB5 : SlB Rl.enc 6 h5 v4 (rs ++ [⟨[], 77, 0, 0, 0, 0⟩]) := ho4.slb.1.le st5.le0
 have hbJ : ∀ b, blkOf v4 = some b → joinL [h1, g5] b = none := fun b hb => joinL_none fun x hx => by
  simp only [List.mem_cons, List.not_mem_nil, or_false] at hx
  rcases hx with rfl | rfl
  ·exact ho4.slb.2 b hb
  ·exact st5.fresh b (ho4.slb.1.mem hb) rfl
 have ho5 : OwnS Rl.enc 6 (joinL [h1, g5]) h5 v4 (rs ++ [⟨[], 77, 0, 0, 0, 0⟩]) := hB5.own (joinL_le Q5.1) hbJ
 refine sw0 ?_
 refine i_call H267 ⟨c, rv, rs, rfl, hrs1.le (Q5.lt 0 rfl), fun h6 hle6 => ?_⟩
 rw [hwf]
 have hz : ((0 : Int) < ((0 : Nat) : Int)) = False := by simp
 have hlen0 : rs.length + 0 = rs.length := rfl
 refine sw1 @hz ?_
 have ho6 := ho5.le hle6
 have R9 := (q3 _ _ rs rfl ho6).rules 6 Rl.enc_len default
 refine i_loop (fun i : Nat => [none, some rv, some v, some (aggC c), none, some (.bool true), some v9, some (.pointer (some ⟨p, 0, none⟩)), none, none, some (.int .i64 (i : Nat)), none, none, none, none, none, none, none, none, none, none, none, none, none, none, none, none, none, none, none, none, none, none, none, none, none, none, none, none, none, none, none, none, none, none, none, none])
  (fun i H => i ≤ rs.length ∧ ∃ rs', rs'.length = rs.length ∧ OwnS Rl.enc 6 (joinL [h1, g5]) H v4 (rs' ++ [⟨[], 77, 0, 0, 0, 0⟩])) (fun i => rs.length - i) 0 (by unfold aggC; try simp only [Pf]; first | rfl | exact ⟨rfl, rfl⟩) ⟨oM, rs, rfl, ho6⟩ ?_
 clear ho6 R9 hB5 ho5
 rintro i H ⟨hi, rs', hrl, ho⟩
 have hi1 : IntKind.i64.wrap ((i : Int) + 1) = ((i + 1 : Nat) : Int) := by rw [w64 oM oM]; omega
 have R9 := (q3 _ _ rs' hrl ho).rules 6 Rl.enc_len default
 rw [hrl] at R9
 refine sw1 @R9 ?_
 refine i_cond (fun c1 => ?_) (fun c1 => ?_)
 ·have hel := q2 (i * 6)
  refine sw2 @R9 @hel ?_
  refine i_stS (enc := Rl.enc) Rl.enc_len ⟨[], 0, 0, 0, 0, 0⟩ rfl ho (j := i) (by simp; omega) rfl fun H2 ho2 => ?_
  rw [List.set_append_left _ _ oM] at ho2
  refine sw1 @hi1 ?_
  exact k_loop (i + 1) oM sE ⟨oM, _, by simp [hrl], ho2⟩
 have hJ := ho.1
 have hge := joinL_ge Q5.1
 have Q : Ps H [h1, g5] := ⟨fun x hx => (hge x hx).trans hJ, Q5.2⟩
 clear hge hJ ho R9 Q5
 unfold aggC
 refine sw0 ?_
 refine i_call H268 ⟨c, rv, rs, rfl, hrs1.le (Q.lt 0 rfl), oM, hwf, fun q gm H2 st2 hM2 => ?_⟩
 have Q2 : Ps H2 [h1, g5, gm] := (Q.up st2.le0).add st2.le fun x hx => disj_new st2 (Q.1 x hx)
 clear Q st2
 have n60 : ((60 : Nat) : Int) = 60 := rfl
 refine sw0 ?_
 refine i_loop (fun i : Nat => [none, some rv, some v, none, none, none, none, some (.pointer (some ⟨p, 0, none⟩)), none, none, none, some (.pointer (some ⟨q, 0, none⟩)), some (.int .i64 (i : Nat)), none, none, none, none, none, none, none, none, none, none, none, none, none, none, none, none, none, none, none, none, none, none, none, none, none, none, none, none, none, none, none, none, none, none])
  (fun i H => i ≤ L.length ∧ ∃ gW gM, Ps H [h1, gW, gM] ∧ WO gW p ((newW c rs).plays (L.take i)) ∧ MO gM q ((newW c rs).plays (L.take i))) (fun i => L.length - i) 0 (by try simp only [Pf]; rfl) ⟨oM, g5, gm, Q2, hW5, hM2⟩ ?_
 clear Q2 hW5 hM2
 rintro i H ⟨hi, gW, gM, Q, hW, hM⟩
 have hi1 : IntKind.i64.wrap ((i : Int) + 1) = ((i + 1 : Nat) : Int) := by rw [w64 oM oM]; omega
 have R := (hL1.le (Q.lt 0 rfl)).rules 7 Ac.enc_len default
 refine sw1 @R ?_
 refine i_cond (fun c1 => ?_) (fun c1 => ?_)
 rotate_left
 ·have : i = L.length := oM
  subst this
  rw [List.take_length] at hW hM
  refine sw0 ?_
  refine i_call H273 ⟨gW, gM, p, q, _, _, rfl, hW, hM, Q.lt 1 rfl, Q.lt 2 rfl, Q.dj 1 2 rfl rfl oM, hok0.plays (L := L) oM, oM, AlJ_plays L Wa.AlJ.new hok0 oM, KnL_plays L Wa.KnL.new, fun gm2 h9 st9 => ?_⟩
  refine sw0 ?_
  exact hK h9 (hle1.trans ((Q.step 2 rfl st9).lt 0 rfl))
 have hi2 : i < L.length := oM
 have hnx : L.take (i + 1) = L.take i ++ [L.getD i default] := take_succ_d default hi2
 have hoki := hok0.plays (L := L.take i) (by have := acSum_take L i; omega)
 have hokn := hok0.plays (L := L.take (i + 1)) (by have := acSum_take L (i + 1); omega)
 have hsum := acSum_take L (i + 1)
 rw [hnx, acSum_app] at hsum
 generalize hae : L.getD i default = a at *
 have hnw : (newW c rs).plays (L.take (i + 1)) = ((newW c rs).plays (L.take i)).act a := by rw [hnx]; unfold Wa.plays; rw [List.foldl_append]; rfl
 have hacl : acSum [a] = acLen a := by simp [acSum]
 rw [hacl] at hsum
 generalize (newW c rs).plays (L.take i) = wi at *
 generalize hwn : (newW c rs).plays (L.take (i + 1)) = wn at *
 unfold Wa.act at hnw
 have hn0 := hoki.now
 refine sw3 @R @hae @Ac.enc.eq_1 ?_
 refine i_cond (fun c0 => ?_) (fun c0 => ?_)
 ·refine sw0 ?_
  exact hK H (hle1.trans (Q.lt 0 rfl))
 clear c0
 refine sw0 ?_
 refine i_meet_cond (fun env H' => ∃ gW gM n f, Ps H' [h1, gW, gM] ∧ WO gW p wn ∧ MO gM q wn ∧ env = [none, some rv, some v, none, none, none, none, some (.pointer (some ⟨p, 0, none⟩)), none, none, none, some (.pointer (some ⟨q, 0, none⟩)), some (.int .i64 (i : Nat)), none, some (.int .i64 n), some (.int .i64 (f : Nat)), some (.int .i64 n), some (errV N f), none, none, none, none, none, none, none, none, none, none, none, none, none, none, none, none, none, none, none, none, none, none, none, none, none, none, none, none, none]) ?_ ?_
 ·rintro env H' ⟨gW, gM, n, f, Q, hW, hM, rfl⟩
  have hEl := hokn.Elen
  obtain ⟨F, rv', av, kv, bm, gw, gr, ga, gt, gk, Qm, hw⟩ := hM.read (Q.lt 2 rfl)
  have C39 := hw.c39 (Qm.lt 0 rfl)
  obtain ⟨ev, fv, hoa, ⟨vs, hv, hvl, hr⟩, _, _⟩ := hw.tr.read (Qm.lt 3 rfl)
  have A2 : H'.cell ((⟨bm, 0, none⟩ : Addr).add 2) = some ev := hoa.rules.1 2 (by simp)
  have R2 := hv.rules1 id (fun _ => rfl) undef
  rw [hvl] at R2
  refine sw0 ?_
  refine i_call H19 ⟨f, f, rfl, ?_⟩
  refine sw3 @C39 @A2 @R2 ?_
  refine i_cond (fun c3 => ?_) (fun c3 => ?_)
  ·refine sw0 ?_
   exact hK H' (hle1.trans (Q.lt 0 rfl))
  ·refine sw1 @hi1 ?_
   exact k_loop (i + 1) oM sE ⟨oM, gW, gM, Q, by rw [hwn]; exact hW, by rw [hwn]; exact hM⟩
 refine i_cond (fun c2 => ?_) (fun c2 => ?_)
 ·rw [if_neg (by simpa [tickS] using c2)] at hnw
  refine sw0 ?_
  refine i_call H269 ⟨gW, p, wi, _, a.n, rfl, hW, Q.lt 1 rfl, hoki, oM, fun hb => ?_, fun m hm hmn g2 h2 st2 hW2 => ?_⟩
  ·rw [if_pos hb] at hnw
   refine sw0 ?_
   refine i_call H270 ⟨gM, q, wi, _, a.n, rfl, hM, Q.lt 2 rfl, hoki, oM, fun _ => ?_, fun m hm hmn => by omega⟩
   refine sw0 ?_
   exact k_meet _ (by try simp only [Pf]; rfl) ⟨gW, gM, 0, 1, Q, by rw [hnw]; exact hW, by rw [hnw]; exact hM, rfl⟩
  ·rw [if_neg oM] at hnw
   have hmt : a.n.toNat = m := oM
   rw [hmt] at hnw
   have Q2 := Q.step 1 rfl st2
   refine sw0 ?_
   refine i_call H270 ⟨gM, q, wi, _, a.n, rfl, hM, Q2.lt 2 rfl, hoki, oM, fun hb => by omega, fun m' hm' hmn' g3 h3 st3 hM3 => ?_⟩
   obtain rfl : m' = m := oM
   have Q3 := Q2.step 2 rfl st3
   refine sw0 ?_
   exact k_meet _ (by try simp only [Pf]; exact ⟨rfl, rfl, rfl, rfl⟩) ⟨g2, g3, _, 0, Q3, by rw [hnw]; exact hW2, by rw [hnw]; exact hM3, rfl⟩
 ·rw [if_pos (by simpa [tickS] using c2)] at hnw
  refine sw0 ?_
  by_cases hff : feedF a.n a.s = 0
  ·rw [if_pos hff] at hnw
   have hla' : acLen a = a.s.length := by unfold acLen; rw [if_pos hff]
   refine i_call H271 ⟨gW, p, wi, _, a.n, a.s, rfl, hW, Q.lt 1 rfl, hoki, fun _ => by omega, fun hn => absurd hff hn, fun _ g2 h2 st2 hW2 => ?_⟩
   have Q2 := Q.step 1 rfl st2
   refine sw0 ?_
   refine i_call H272 ⟨gM, q, wi, _, a.n, a.s, rfl, hM, Q2.lt 2 rfl, hoki, fun _ => by omega, fun hn => absurd hff hn, fun _ g3 h3 st3 hM3 => ?_⟩
   have Q3 := Q2.step 2 rfl st3
   refine sw0 ?_
   exact k_meet _ (by try simp only [Pf]; exact ⟨rfl, rfl, rfl, rfl⟩) ⟨g2, g3, _, 0, Q3, by rw [hnw]; exact hW2, by rw [hnw]; exact hM3, rfl⟩
  ·rw [if_neg hff] at hnw
   refine i_call H271 ⟨gW, p, wi, _, a.n, a.s, rfl, hW, Q.lt 1 rfl, hoki, fun e => absurd e hff, fun hn => ?_, fun e => absurd e hff⟩
   refine sw0 ?_
   refine i_call H272 ⟨gM, q, wi, _, a.n, a.s, rfl, hM, Q.lt 2 rfl, hoki, fun e => absurd e hff, fun hn => ?_, fun e => absurd e hff⟩
   refine sw0 ?_
   exact k_meet _ sE ⟨gW, gM, 0, feedF a.n a.s, Q, by rw [hnw]; exact hW, by rw [hnw]; exact hM, rfl⟩
end Go.Cw
