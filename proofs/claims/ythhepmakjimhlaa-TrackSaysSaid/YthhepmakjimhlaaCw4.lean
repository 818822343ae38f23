/- Part 4 of the proof of TrackSays: a small language for the program's functions, its soundness, and what the functions do. No conditions beyond the theorems' own. -/
import Derived.Test.YthhepmakjimhlaaCw3
import Derived.Below
import Derived.Carry
import Derived.Deep.Slices
import Derived.OpenShut
import Derived.ProofKit
import Derived.ShutString
import Derived.WalkKit
import GoSem.ClaimJoined
set_option linter.unusedSimpArgs false
set_option linter.unusedVariables false
namespace Go.Cw
open Go

def S54 (N : Num) : Spec := fun args h K => ∃ a, args = [.pointer (some a)] ∧ ∀ b h', Heap.le h h' → objAt (fr h h') ⟨b, 0, none⟩ [.pointer (some a)] → K (.func (.func (N.fid 71)) #[] #[.pointer (some ⟨b, 0, none⟩)]) h'
theorem F54_ok {N : Num} {Γ : Ctx} [GoodC Γ] : Sat (S54 N) (SF N Γ F54) := by
  rintro _ h K ⟨a, rfl, hK⟩
  refine i_fun rfl ?_
  simp only [F54, env0, List.map, List.length, List.replicate, List.cons_append, List.nil_append, Nat.reduceSub, Nat.reduceAdd]
  try simp (disch := first | omega | (simp only [PL]; omega)) only [PS, P1, P2, P3, P4, P5, P6, P7, P8, PA, PB, PC, Nat.reduceAdd, Nat.reduceSub, Nat.reduceMul, Nat.reduceLeDiff, Nat.reduceEqDiff, Nat.succ_ne_self, reduceCtorEq, Int.reduceToNat, Int.cast_ofNat_Int, Int.reduceEq, Int.reduceNe, Int.reduceLT, Int.reduceLE]
  refine i_newO fun b h1 hle1 hb ho => ?_
  try simp (disch := first | omega | (simp only [PL]; omega)) only [PS, P1, P2, P3, P4, P5, P6, P7, P8, PA, PB, PC, Nat.reduceAdd, Nat.reduceSub, Nat.reduceMul, Nat.reduceLeDiff, Nat.reduceEqDiff, Nat.succ_ne_self, reduceCtorEq, Int.reduceToNat, Int.cast_ofNat_Int, Int.reduceEq, Int.reduceNe, Int.reduceLT, Int.reduceLE]
  exact hK b h1 hle1 ho

theorem TrO.keys {g : Heap} {b window need : Nat} {E : List (List Si)} (hT : TrO g b window need E) : ∃ mw wkv bs ck, (∀ h, Heap.le g h → h.cell ((⟨b, 0, none⟩ : Addr).add 3) = some (.map (some mw))) ∧ MapB encKS id g mw wkv bs ck ∧
    (wkv.map (·.1)).Nodup ∧ ∀ tag, tag ∈ wkv.map (·.1) ↔ toldE E tag := by
  obtain ⟨W, ev, mw, wkv, bs, ck, gi, ems, hT, hW⟩ := hT
  refine ⟨mw, wkv, bs, ck, fun h hl => (objAt.le hT.obj hl).rules.1 3 (by simp), hT.wm, ?_, fun tag => ?_⟩
  · obtain ⟨_, _, _, _, _, _, h⟩ := hT.wm; exact h
  · have h1 := hW tag
    constructor
    · intro hm
      cases hl : look wkv tag with
      | none => exact absurd hm (look_none hl)
      | some v =>
        obtain ⟨l, x, q1, _⟩ := hT.wsome tag v hl (by simp)
        refine Classical.byContradiction fun h3 => ?_
        rw [if_neg h3, q1] at h1; cases h1
    · intro ht
      cases hl : look wkv tag with
      | none => rw [hT.wnone tag hl, if_pos ht] at h1; cases h1
      | some v => exact List.mem_map.2 ⟨_, look_mem hl, rfl⟩

def S15 : Spec := fun args h K => ∃ h0 gt gm F bt bm window need E vt tags, args = [.pointer (some ⟨bt, 0, none⟩), .pointer (some ⟨bm, 0, none⟩), vt] ∧ K2 h0 h gt gm F ∧ TrO gt bt window need E ∧ RT gm bm window need E ∧ Sl encT F vt tags ∧
  MOkE window need E ∧ (∀ t ∈ tags, t.length ≤ 1000000) ∧ tags.length ≤ 1000000 ∧ ∀ h', Heap.le h0 h' → K (.bool true) h'
theorem F15_ok {N : Num} {Γ : Ctx} [GoodC Γ] (H30 : Sat (S30 N) (Γ 30)) (H52 : Sat S52 (Γ 52)) (H19 : Sat (S19 N) (Γ 19)) (H50 : Sat S50 (Γ 50)) (H53 : Sat S53 (Γ 53)) (H54 : Sat (S54 N) (Γ 54)) (H55 : Sat S55 (Γ 55)) (H14 : Sat S14 (Γ 14)) : Sat S15 (SF N Γ F15) := by
  rintro _ h K ⟨h0, gt, gm, F, bt, bm, window, need, E, vt, tags, rfl, hk, hT, hM, hv, hm, htl, htn, hK⟩
  have hEl : E.length ≤ 1000 := (hM.read hk.lm).choose_spec.choose_spec.2.2.1
  refine i_fun rfl ?_
  simp only [F15, env0, List.map, List.length, List.replicate, List.cons_append, List.nil_append, Nat.reduceSub, Nat.reduceAdd]
  try simp (disch := first | omega | (simp only [PL]; omega)) only [PS, P1, P2, P3, P4, P5, P6, P7, P8, PA, PB, PC, Nat.reduceAdd, Nat.reduceSub, Nat.reduceMul, Nat.reduceLeDiff, Nat.reduceEqDiff, Nat.succ_ne_self, reduceCtorEq, Int.reduceToNat, Int.cast_ofNat_Int, Int.reduceEq, Int.reduceNe, Int.reduceLT, Int.reduceLE]
  refine i_newO fun b3 h1 hle1 hb3 ho3 => ?_
  have hk1 := hk.freeze hle1
  try simp (disch := first | omega | (simp only [PL]; omega)) only [PS, P1, P2, P3, P4, P5, P6, P7, P8, PA, PB, PC, Nat.reduceAdd, Nat.reduceSub, Nat.reduceMul, Nat.reduceLeDiff, Nat.reduceEqDiff, Nat.succ_ne_self, reduceCtorEq, Int.reduceToNat, Int.cast_ofNat_Int, Int.reduceEq, Int.reduceNe, Int.reduceLT, Int.reduceLE]
  refine i_newO fun b4 h2 hle2 hb4 ho4 => ?_
  have hk2 := hk1.freeze hle2
  have hv1 : Sl encT (join F (fr h h1)) vt tags := hv.le (join_l _ _)
  have ho3' : objAt (join F (fr h h1)) ⟨b3, 0, none⟩ [.pointer (some ⟨bm, 0, none⟩)] := ho3.le (join_r (hk.lF.trans hle1) (fr_le _ _))
  obtain ⟨F1, hF1⟩ : ∃ F1, F1 = join F (fr h h1) := ⟨_, rfl⟩
  rw [← hF1] at hv1 ho3' hk1 hk2
  have hkA : K2 h0 h2 gt gm F1 := hk1.more hle2
  have ho4' : objAt (fr h1 h2) ⟨b4, 0, none⟩ [.bool false] := ho4
  try simp (disch := first | omega | (simp only [PL]; omega)) only [PS, P1, P2, P3, P4, P5, P6, P7, P8, PA, PB, PC, Nat.reduceAdd, Nat.reduceSub, Nat.reduceMul, Nat.reduceLeDiff, Nat.reduceEqDiff, Nat.succ_ne_self, reduceCtorEq, Int.reduceToNat, Int.cast_ofNat_Int, Int.reduceEq, Int.reduceNe, Int.reduceLT, Int.reduceLE]
  -- the first part: whatever the model looks up
  refine i_meet_blk (fun env H => ∃ gm' F2, K2 h0 H gt gm' F2 ∧ RT gm' bm window need E ∧ Heap.le F1 F2 ∧ objAt F2 ⟨b4, 0, none⟩ [.bool false] ∧
    env = [some (.pointer (some ⟨bt, 0, none⟩)), some (.pointer (some ⟨bm, 0, none⟩)), some vt, some (.pointer (some ⟨b3, 0, none⟩)), some (.pointer (some ⟨b4, 0, none⟩)), none, none, none, none, none, none, none, none, none, none, none, none, none, none, none, none, none, none, none, none, none, none, none, none, none, none, none, none, none, none, none]) ?_ ?_
  rotate_left
  · have hF2 : Heap.le F1 (join F1 (fr h1 h2)) := join_l _ _
    have ho42 : objAt (join F1 (fr h1 h2)) ⟨b4, 0, none⟩ [.bool false] := ho4'.le (join_r (hk1.lF.trans hle2) (fr_le _ _))
    generalize join F1 (fr h1 h2) = F2 at *
    have hv2 := hv1.le hF2
    have ho32 := ho3'.le hF2
    have RV := fun H (hl : Heap.le F2 H) => (hv2.le hl).rules1 (fun s => .string (str s)) (fun _ => rfl) default
    have A3 := fun H (hl : Heap.le F2 H) => ((ho32.le hl).rules.2.1 (by simp) : H.cell ⟨b3, 0, none⟩ = some (.pointer (some ⟨bm, 0, none⟩)))
    refine i_loop (fun i : Nat => [some (.pointer (some ⟨bt, 0, none⟩)), some (.pointer (some ⟨bm, 0, none⟩)), some vt, some (.pointer (some ⟨b3, 0, none⟩)), some (.pointer (some ⟨b4, 0, none⟩)), some (.int .i64 i), none, none, none, none, none, none, none, none, none, none, none, none, none, none, none, none, none, none, none, none, none, none, none, none, none, none, none, none, none, none]) (fun i H => i ≤ tags.length ∧ ∃ gm', K2 h0 H gt gm' F2 ∧ RT gm' bm window need E) (fun i => tags.length - i) 0 (by try simp only [Pe, and_true, true_and, and_self]; rfl) ⟨by omega, gm, hk2, hM⟩ ?_
    rintro i H ⟨hi, gm1, kH, hM1⟩
    have RVH := RV H kH.lF
    try simp (disch := first | omega | (simp only [PL]; omega)) only [PS, P1, P2, P3, P4, P5, P6, P7, P8, PA, PB, PC, Nat.reduceAdd, Nat.reduceSub, Nat.reduceMul, Nat.reduceLeDiff, Nat.reduceEqDiff, Nat.succ_ne_self, reduceCtorEq, Int.reduceToNat, Int.cast_ofNat_Int, Int.reduceEq, Int.reduceNe, Int.reduceLT, Int.reduceLE, RVH]
    refine i_cond (fun c1 => ?_) (fun c1 => ?_)
    rotate_left
    · try simp (disch := first | omega | (simp only [PL]; omega)) only [PS, P1, P2, P3, P4, P5, P6, P7, P8, PA, PB, PC, Nat.reduceAdd, Nat.reduceSub, Nat.reduceMul, Nat.reduceLeDiff, Nat.reduceEqDiff, Nat.succ_ne_self, reduceCtorEq, Int.reduceToNat, Int.cast_ofNat_Int, Int.reduceEq, Int.reduceNe, Int.reduceLT, Int.reduceLE]
      exact k_meet _ (by try simp only [Pe, and_true, true_and, and_self]) ⟨gm1, F2, kH, hM1, hF2, ho42, rfl⟩
    have hi2 : i < tags.length := by omega
    have htg := htl _ (getD_mem default hi2)
    try simp (disch := first | omega | (simp only [PL]; omega)) only [PS, P1, P2, P3, P4, P5, P6, P7, P8, PA, PB, PC, Nat.reduceAdd, Nat.reduceSub, Nat.reduceMul, Nat.reduceLeDiff, Nat.reduceEqDiff, Nat.succ_ne_self, reduceCtorEq, Int.reduceToNat, Int.cast_ofNat_Int, Int.reduceEq, Int.reduceNe, Int.reduceLT, Int.reduceLE]
    refine i_loop (fun e : Nat => [some (.pointer (some ⟨bt, 0, none⟩)), some (.pointer (some ⟨bm, 0, none⟩)), some vt, some (.pointer (some ⟨b3, 0, none⟩)), some (.pointer (some ⟨b4, 0, none⟩)), some (.int .i64 i), some (.int .i64 ((e : Int) - 1)), none, none, none, none, none, none, none, none, none, none, none, none, none, none, none, none, none, none, none, none, none, none, none, none, none, none, none, none, none]) (fun e H => e ≤ E.length + 2 ∧ ∃ gm', K2 h0 H gt gm' F2 ∧ RT gm' bm window need E) (fun e => E.length + 2 - e) 0 (by try simp only [Pe, and_true, true_and, and_self]; rfl) ⟨by omega, gm1, kH, hM1⟩ ?_
    clear RVH kH hM1
    rintro e H1 ⟨he, gm2, kH, hM2⟩
    have RVH := RV H1 kH.lF
    have A3H := A3 H1 kH.lF
    obtain ⟨evm, fvm, hom, ⟨vsm, hvm, hvml, _⟩, _⟩ := hM2.read kH.lm
    have Am : H1.cell ((⟨bm, 0, none⟩ : Addr).add 2) = some evm := hom.rules.1 2 (by simp)
    have Rm := hvm.rules1 id (fun _ => rfl) undef
    rw [hvml] at Rm
    try simp (disch := first | omega | (simp only [PL]; omega)) only [PS, P1, P2, P3, P4, P5, P6, P7, P8, PA, PB, PC, Nat.reduceAdd, Nat.reduceSub, Nat.reduceMul, Nat.reduceLeDiff, Nat.reduceEqDiff, Nat.succ_ne_self, reduceCtorEq, Int.reduceToNat, Int.cast_ofNat_Int, Int.reduceEq, Int.reduceNe, Int.reduceLT, Int.reduceLE, A3H, Am, Rm]
    refine i_cond (fun c2 => ?_) (fun c2 => ?_)
    rotate_left
    · try simp (disch := first | omega | (simp only [PL]; omega)) only [PS, P1, P2, P3, P4, P5, P6, P7, P8, PA, PB, PC, Nat.reduceAdd, Nat.reduceSub, Nat.reduceMul, Nat.reduceLeDiff, Nat.reduceEqDiff, Nat.succ_ne_self, reduceCtorEq, Int.reduceToNat, Int.cast_ofNat_Int, Int.reduceEq, Int.reduceNe, Int.reduceLT, Int.reduceLE]
      exact k_loop (i + 1) (by omega) (by try simp only [Pe, and_true, true_and, and_self]) ⟨by omega, gm2, kH, hM2⟩
    have hei : IntKind.i64.wrap ((e : Int) - 1 + 1) = ((e + 1 : Nat) : Int) - 1 := by rw [w64 (by omega) (by omega)]; omega
    try simp (disch := first | omega | (simp only [PL]; omega)) only [PS, P1, P2, P3, P4, P5, P6, P7, P8, PA, PB, PC, Nat.reduceAdd, Nat.reduceSub, Nat.reduceMul, Nat.reduceLeDiff, Nat.reduceEqDiff, Nat.succ_ne_self, reduceCtorEq, Int.reduceToNat, Int.cast_ofNat_Int, Int.reduceEq, Int.reduceNe, Int.reduceLT, Int.reduceLE, RVH, A3H]
    refine i_call H30 (S30_whr hT kH.lt ?_)
    try simp (disch := first | omega | (simp only [PL]; omega)) only [PS, P1, P2, P3, P4, P5, P6, P7, P8, PA, PB, PC, Nat.reduceAdd, Nat.reduceSub, Nat.reduceMul, Nat.reduceLeDiff, Nat.reduceEqDiff, Nat.succ_ne_self, reduceCtorEq, Int.reduceToNat, Int.cast_ofNat_Int, Int.reduceEq, Int.reduceNe, Int.reduceLT, Int.reduceLE, RVH, A3H]
    refine i_call H52 ⟨gm2, bm, window, need, E, _, _, rfl, hM2, kH.lm, hm, htg, fun gm3 H3 hS3 hM3 => ?_⟩
    have kH3 := kH.stepM hS3
    have RV3 := RV H3 kH3.lF
    have A33 := A3 H3 kH3.lF
    try simp (disch := first | omega | (simp only [PL]; omega)) only [PS, P1, P2, P3, P4, P5, P6, P7, P8, PA, PB, PC, Nat.reduceAdd, Nat.reduceSub, Nat.reduceMul, Nat.reduceLeDiff, Nat.reduceEqDiff, Nat.succ_ne_self, reduceCtorEq, Int.reduceToNat, Int.cast_ofNat_Int, Int.reduceEq, Int.reduceNe, Int.reduceLT, Int.reduceLE]
    refine i_call H19 ⟨_, _, rfl, ?_⟩
    rw [decide_eq_true rfl]
    try simp (disch := first | omega | (simp only [PL]; omega)) only [PS, P1, P2, P3, P4, P5, P6, P7, P8, PA, PB, PC, Nat.reduceAdd, Nat.reduceSub, Nat.reduceMul, Nat.reduceLeDiff, Nat.reduceEqDiff, Nat.succ_ne_self, reduceCtorEq, Int.reduceToNat, Int.cast_ofNat_Int, Int.reduceEq, Int.reduceNe, Int.reduceLT, Int.reduceLE]
    refine i_loop (fun x : Nat => [some (.pointer (some ⟨bt, 0, none⟩)), some (.pointer (some ⟨bm, 0, none⟩)), some vt, some (.pointer (some ⟨b3, 0, none⟩)), some (.pointer (some ⟨b4, 0, none⟩)), some (.int .i64 i), some (.int .i64 ((e : Int) - 1)), none, none, none, none, some (.int .i64 ((x : Int) - 1)), none, none, none, none, none, none, none, none, none, none, none, none, none, none, none, none, none, none, none, none, none, none, none, none]) (fun x H => x ≤ 9 ∧ ∃ gm', K2 h0 H gt gm' F2 ∧ RT gm' bm window need E) (fun x => 9 - x) 0 (by try simp only [Pe, and_true, true_and, and_self]; rfl) ⟨by omega, gm3, kH3, hM3⟩ ?_
    clear RVH A3H hvm hom Am Rm kH hM2 hS3 hM3 kH3 RV3 A33
    rintro x H4 ⟨hx, gm4, kH4, hM4⟩
    have RVH := RV H4 kH4.lF
    have A3H := A3 H4 kH4.lF
    have hxi : IntKind.i64.wrap ((x : Int) - 1 + 1) = ((x + 1 : Nat) : Int) - 1 := by rw [w64 (by omega) (by omega)]; omega
    try simp (disch := first | omega | (simp only [PL]; omega)) only [PS, P1, P2, P3, P4, P5, P6, P7, P8, PA, PB, PC, Nat.reduceAdd, Nat.reduceSub, Nat.reduceMul, Nat.reduceLeDiff, Nat.reduceEqDiff, Nat.succ_ne_self, reduceCtorEq, Int.reduceToNat, Int.cast_ofNat_Int, Int.reduceEq, Int.reduceNe, Int.reduceLT, Int.reduceLE]
    refine i_cond (fun c3 => ?_) (fun c3 => ?_)
    rotate_left
    · try simp (disch := first | omega | (simp only [PL]; omega)) only [PS, P1, P2, P3, P4, P5, P6, P7, P8, PA, PB, PC, Nat.reduceAdd, Nat.reduceSub, Nat.reduceMul, Nat.reduceLeDiff, Nat.reduceEqDiff, Nat.succ_ne_self, reduceCtorEq, Int.reduceToNat, Int.cast_ofNat_Int, Int.reduceEq, Int.reduceNe, Int.reduceLT, Int.reduceLE, hei]
      exact k_loop (e + 1) (by omega) (by try simp only [Pe, and_true, true_and, and_self]) ⟨by omega, gm4, kH4, hM4⟩
    try simp (disch := first | omega | (simp only [PL]; omega)) only [PS, P1, P2, P3, P4, P5, P6, P7, P8, PA, PB, PC, Nat.reduceAdd, Nat.reduceSub, Nat.reduceMul, Nat.reduceLeDiff, Nat.reduceEqDiff, Nat.succ_ne_self, reduceCtorEq, Int.reduceToNat, Int.cast_ofNat_Int, Int.reduceEq, Int.reduceNe, Int.reduceLT, Int.reduceLE, RVH, A3H]
    refine i_call H50 ⟨gt, bt, window, need, E, _, _, _, rfl, hT, kH4.lt, by omega, ?_⟩
    refine i_le (le_one (Heap.le.refl _)) ?_
    try simp (disch := first | omega | (simp only [PL]; omega)) only [PS, P1, P2, P3, P4, P5, P6, P7, P8, PA, PB, PC, Nat.reduceAdd, Nat.reduceSub, Nat.reduceMul, Nat.reduceLeDiff, Nat.reduceEqDiff, Nat.succ_ne_self, reduceCtorEq, Int.reduceToNat, Int.cast_ofNat_Int, Int.reduceEq, Int.reduceNe, Int.reduceLT, Int.reduceLE]
    refine i_call H53 ⟨gm4, bm, window, need, E, _, _, _, rfl, hM4, kH4.lm, hm, htg, fun gm5 H5 hS5 hM5 => ?_⟩
    have kH5 := kH4.stepM hS5
    try simp (disch := first | omega | (simp only [PL]; omega)) only [PS, P1, P2, P3, P4, P5, P6, P7, P8, PA, PB, PC, Nat.reduceAdd, Nat.reduceSub, Nat.reduceMul, Nat.reduceLeDiff, Nat.reduceEqDiff, Nat.succ_ne_self, reduceCtorEq, Int.reduceToNat, Int.cast_ofNat_Int, Int.reduceEq, Int.reduceNe, Int.reduceLT, Int.reduceLE, hxi]
    exact k_loop (x + 1) (by omega) (by try simp only [Pe, and_true, true_and, and_self]) ⟨by omega, gm5, kH5, hM5⟩
  rintro env H ⟨gm1, F2, kH, hM1, hF2, ho42, rfl⟩
  have ho32 := ho3'.le hF2
  try simp (disch := first | omega | (simp only [PL]; omega)) only [PS, P1, P2, P3, P4, P5, P6, P7, P8, PA, PB, PC, Nat.reduceAdd, Nat.reduceSub, Nat.reduceMul, Nat.reduceLeDiff, Nat.reduceEqDiff, Nat.succ_ne_self, reduceCtorEq, Int.reduceToNat, Int.cast_ofNat_Int, Int.reduceEq, Int.reduceNe, Int.reduceLT, Int.reduceLE]
  refine i_newO fun b5 H1 hle5 hb5 ho5 => ?_
  try simp (disch := first | omega | (simp only [PL]; omega)) only [PS, P1, P2, P3, P4, P5, P6, P7, P8, PA, PB, PC, Nat.reduceAdd, Nat.reduceSub, Nat.reduceMul, Nat.reduceLeDiff, Nat.reduceEqDiff, Nat.succ_ne_self, reduceCtorEq, Int.reduceToNat, Int.cast_ofNat_Int, Int.reduceEq, Int.reduceNe, Int.reduceLT, Int.reduceLE]
  have hob5 : objAt H1 ⟨b5, 0, none⟩ [.int .i64 0] := ho5.le (fr_le _ _)
  refine i_st (hob5) 0 1 rfl rfl (by omega) (by simp) fun o5 hob6 _ => ?_
  try simp (disch := first | omega | (simp only [PL]; omega)) only [PS, P1, P2, P3, P4, P5, P6, P7, P8, PA, PB, PC, Nat.reduceAdd, Nat.reduceSub, Nat.reduceMul, Nat.reduceLeDiff, Nat.reduceEqDiff, Nat.succ_ne_self, reduceCtorEq, Int.reduceToNat, Int.cast_ofNat_Int, Int.reduceEq, Int.reduceNe, Int.reduceLT, Int.reduceLE]
  have hF2b5 : F2 b5 = none := le_none kH.lF b5 hb5
  have hle6 : Heap.le H (H1.set b5 o5) := by
    intro x o hx
    have : x ≠ b5 := by intro e; subst e; rw [hb5] at hx; cases hx
    rw [Heap.set_ne this]; exact hle5 x o hx
  have kH2 := kH.more hle6
  have hob7 : objAt (H1.set b5 o5) ⟨b5, 0, none⟩ [.int .i64 0] := hob6 H1 rfl
  generalize H1.set b5 o5 = H2 at *
  have A3 := fun H (hl : Heap.le F2 H) => ((ho32.le hl).rules.2.1 (by simp) : H.cell ⟨b3, 0, none⟩ = some (.pointer (some ⟨bm, 0, none⟩)))
  refine i_call H54 ⟨_, rfl, fun b6 H3 hle7 ho6 => ?_⟩
  have kH3 := kH2.more hle7
  obtain ⟨mw, wkv, bs, ck, hmw, hMB, hnd, hkeys⟩ := hT.keys
  have hbsl : bs.length = wkv.length := by obtain ⟨_, _, _, h, _⟩ := hMB; exact h
  have hbsn : bs.Nodup := by obtain ⟨_, _, _, _, h, _⟩ := hMB; exact h
  have hwl : wkv.length = (tagsE E).length := by
    rw [← List.length_map (f := (·.1)) (as := wkv)]
    exact nodup_len hnd (tagsE_nodup E) fun x => (hkeys x).trans (mem_tagsE E x).symm
  have hfl := flatT_len E fun l hl => (hM1.read kH.lm).choose_spec.choose_spec.2.2.2 l hl
  have htl2 : (tagsE E).length ≤ 1000000 := by have := tagsOfL_len (flatT E); unfold tagsE; omega
  try simp (disch := first | omega | (simp only [PL]; omega)) only [PS, P1, P2, P3, P4, P5, P6, P7, P8, PA, PB, PC, Nat.reduceAdd, Nat.reduceSub, Nat.reduceMul, Nat.reduceLeDiff, Nat.reduceEqDiff, Nat.succ_ne_self, reduceCtorEq, Int.reduceToNat, Int.cast_ofNat_Int, Int.reduceEq, Int.reduceNe, Int.reduceLT, Int.reduceLE]
  refine i_rfn (ek := encKS) (ev := id) (c := ⟨b6, 0, none⟩) (a := ⟨bt, 0, none⟩) (kv := wkv) (bs := bs) (ck := ck) (mp := mw) rfl ((ho6.le (fr_le _ _)).rules.2.1 (by simp)) (hmw H3 kH3.lt)
    (fun dn G => Heap.le F2 G ∧ Heap.le gt G ∧ Heap.le gm1 G ∧ objAt G ⟨b5, 0, none⟩ [.int .i64 (dn.length : Nat)]) ⟨kH3.lF, kH3.lt, kH3.lm, hob7.le hle7⟩ (fun dn G hJ => hMB.le hJ.2.1) ?_ ?_
  · rintro dn G ⟨gF, gT, gM, gN⟩ hdn hds hall
    have hlen : dn.length = bs.length := nodup_len hdn hbsn fun x => ⟨hds x, hall x⟩
    have hR := hM1.read gM
    obtain ⟨evm, fvm, hom, ⟨vsm, hvm, hvml, _⟩, _⟩ := id hR
    have Am : G.cell ((⟨bm, 0, none⟩ : Addr).add 2) = some evm := hom.rules.1 2 (by simp)
    have Rm := hvm.rules1 id (fun _ => rfl) undef
    rw [hvml] at Rm
    have A3G := A3 G gF
    have A5 : G.cell ⟨b5, 0, none⟩ = some (.int .i64 (dn.length : Nat)) := gN.rules.2.1 (by simp)
    try simp (disch := first | omega | (simp only [PL]; omega)) only [PS, P1, P2, P3, P4, P5, P6, P7, P8, PA, PB, PC, Nat.reduceAdd, Nat.reduceSub, Nat.reduceMul, Nat.reduceLeDiff, Nat.reduceEqDiff, Nat.succ_ne_self, reduceCtorEq, Int.reduceToNat, Int.cast_ofNat_Int, Int.reduceEq, Int.reduceNe, Int.reduceLT, Int.reduceLE, A5, A3G, Am, Rm]
    refine i_call H14 ⟨⟨bm, 0, none⟩, window, need, E, E.length, rfl, hR, fun v14 G2 ho14 => ?_⟩
    rw [List.take_of_length_le (by omega)] at ho14
    have R14 := (ho14.sl (enc := encT) (fun _ => rfl)).rules1 (fun s => .string (str s)) (fun _ => rfl) default
    refine i_le (le_one ho14.1) ?_
    try simp (disch := first | omega | (simp only [PL]; omega)) only [PS, P1, P2, P3, P4, P5, P6, P7, P8, PA, PB, PC, Nat.reduceAdd, Nat.reduceSub, Nat.reduceMul, Nat.reduceLeDiff, Nat.reduceEqDiff, Nat.succ_ne_self, reduceCtorEq, Int.reduceToNat, Int.cast_ofNat_Int, Int.reduceEq, Int.reduceNe, Int.reduceLT, Int.reduceLE, R14]
    have hob4 : objAt G2 ⟨b4, 0, none⟩ [.bool false] := ho42.le (gF.trans ho14.1)
    refine i_st hob4 0 1 rfl rfl (by omega) (by simp) fun o4 hob8 _ => ?_
    have hdec : decide (((dn.length : Nat) : Int) = ((tagsE E).length : Int)) = true := by rw [decide_eq_true_eq]; omega
    have hob9 : objAt (G2.set b4 o4) ⟨b4, 0, none⟩ [.bool true] := by rw [← hdec]; exact hob8 G2 rfl
    have A4 : (G2.set b4 o4).cell ⟨b4, 0, none⟩ = some (.bool true) := hob9.rules.2.1 (by simp)
    try simp (disch := first | omega | (simp only [PL]; omega)) only [PS, P1, P2, P3, P4, P5, P6, P7, P8, PA, PB, PC, Nat.reduceAdd, Nat.reduceSub, Nat.reduceMul, Nat.reduceLeDiff, Nat.reduceEqDiff, Nat.succ_ne_self, reduceCtorEq, Int.reduceToNat, Int.cast_ofNat_Int, Int.reduceEq, Int.reduceNe, Int.reduceLT, Int.reduceLE, A4]
    refine hK _ ?_
    have h0b4 : h0 b4 = none := le_none (hk.le.trans hle1) b4 hb4
    intro x o hx
    have : x ≠ b4 := by intro e; subst e; rw [h0b4] at hx; cases hx
    rw [Heap.set_ne this]
    exact ho14.1 x o (gF x o (kH.hF x o hx))
  · rintro dn G j b key val ⟨gF, gT, gM, gN⟩ hdn hds hj hb hnb
    have htk : toldE E key := (hkeys key).1 (List.mem_map.2 ⟨_, List.mem_of_getElem? hj, rfl⟩)
    have hR := hM1.read gM
    obtain ⟨evm, fvm, hom, ⟨vsm, hvm, hvml, _⟩, _⟩ := id hR
    have Am : G.cell ((⟨bm, 0, none⟩ : Addr).add 2) = some evm := hom.rules.1 2 (by simp)
    have Rm := hvm.rules1 id (fun _ => rfl) undef
    rw [hvml] at Rm
    have A3G := A3 G gF
    have A5 : G.cell ⟨b5, 0, none⟩ = some (.int .i64 (dn.length : Nat)) := gN.rules.2.1 (by simp)
    have hdl : dn.length ≤ 1000000 := by
      have : dn.length ≤ bs.length := by
        have h1 : ∀ {l m : List Nat}, l.Nodup → (∀ x ∈ l, x ∈ m) → l.length ≤ m.length := by
          intro l
          induction l with
          | nil => intro m _ _; simp
          | cons a l ih =>
            intro m hn hs
            have hn' := List.nodup_cons.1 hn
            have ha := hs a (by simp)
            have := ih (m := m.erase a) hn'.2 fun x hx => by
              have : x ≠ a := by rintro rfl; exact hn'.1 hx
              exact (List.mem_erase_of_ne this).2 (hs x (by simp [hx]))
            rw [List.length_erase_of_mem ha] at this
            have := List.length_pos_of_mem ha
            simp; omega
        exact h1 hdn hds
      omega
    try simp (disch := first | omega | (simp only [PL]; omega)) only [PS, P1, P2, P3, P4, P5, P6, P7, P8, PA, PB, PC, Nat.reduceAdd, Nat.reduceSub, Nat.reduceMul, Nat.reduceLeDiff, Nat.reduceEqDiff, Nat.succ_ne_self, reduceCtorEq, Int.reduceToNat, Int.cast_ofNat_Int, Int.reduceEq, Int.reduceNe, Int.reduceLT, Int.reduceLE, rf_rules, encKS, A3G, Am, Rm]
    refine i_call H55 ⟨⟨bm, 0, none⟩, key, window, need, E, E.length, rfl, hR, ?_⟩
    rw [List.take_of_length_le (by omega), decide_eq_true htk]
    try simp (disch := first | omega | (simp only [PL]; omega)) only [PS, P1, P2, P3, P4, P5, P6, P7, P8, PA, PB, PC, Nat.reduceAdd, Nat.reduceSub, Nat.reduceMul, Nat.reduceLeDiff, Nat.reduceEqDiff, Nat.succ_ne_self, reduceCtorEq, Int.reduceToNat, Int.cast_ofNat_Int, Int.reduceEq, Int.reduceNe, Int.reduceLT, Int.reduceLE, rf_rules, A5]
    refine i_st gN 0 1 rfl rfl (by omega) (by simp) fun o7 hob8 _ => ?_
    have hob9 := hob8 G rfl
    try simp (disch := first | omega | (simp only [PL]; omega)) only [PS, P1, P2, P3, P4, P5, P6, P7, P8, PA, PB, PC, Nat.reduceAdd, Nat.reduceSub, Nat.reduceMul, Nat.reduceLeDiff, Nat.reduceEqDiff, Nat.succ_ne_self, reduceCtorEq, Int.reduceToNat, Int.cast_ofNat_Int, Int.reduceEq, Int.reduceNe, Int.reduceLT, Int.reduceLE, rf_rules]
    have hset : ∀ X : Heap, Heap.le X G → X b5 = none → Heap.le X (G.set b5 o7) := by
      intro X hX hn x o hx
      have : x ≠ b5 := by intro e; subst e; rw [hn] at hx; cases hx
      rw [Heap.set_ne this]; exact hX x o hx
    refine ⟨hset F2 gF hF2b5, hset gt gT (le_none kH.lt b5 hb5), hset gm1 gM (le_none kH.lm b5 hb5), ?_⟩
    rw [List.length_append]
    exact hob9
end Go.Cw
namespace Go.Cw
open Go

def S3 : Spec := fun args h K => ∃ w n v L other, args = [.int .i64 w, .int .i64 n, v, .string (str other)] ∧ SS h v L ∧ ∀ h', Heap.le h h' → K (.bool true) h'
theorem F3_ok {N : Num} {Γ : Ctx} [GoodC Γ] (H11 : Sat S11 (Γ 11)) (H12 : Sat S12t (Γ 12)) (H13 : Sat (S13 N) (Γ 13)) (H14 : Sat S14 (Γ 14)) (H15 : Sat S15 (Γ 15)) : Sat S3 (SF N Γ F3) := by
  rintro _ h K ⟨w, n, v, L, other, rfl, hL, hK⟩
  refine i_fun rfl ?_
  simp only [F3, env0, List.map, List.length, List.replicate, List.cons_append, List.nil_append, Nat.reduceSub, Nat.reduceAdd]
  try simp (disch := first | omega | (simp only [PL]; omega)) only [PS, P1, P2, P3, P4, P5, P6, P7, P8, PA, PB, PC, Nat.reduceAdd, Nat.reduceSub, Nat.reduceMul, Nat.reduceLeDiff, Nat.reduceEqDiff, Nat.succ_ne_self, reduceCtorEq, Int.reduceToNat, Int.cast_ofNat_Int, Int.reduceEq, Int.reduceNe, Int.reduceLT, Int.reduceLE]
  refine i_call H11 ⟨rfl, fun h1 hle1 => ?_⟩
  try simp (disch := first | omega | (simp only [PL]; omega)) only [PS, P1, P2, P3, P4, P5, P6, P7, P8, PA, PB, PC, Nat.reduceAdd, Nat.reduceSub, Nat.reduceMul, Nat.reduceLeDiff, Nat.reduceEqDiff, Nat.succ_ne_self, reduceCtorEq, Int.reduceToNat, Int.cast_ofNat_Int, Int.reduceEq, Int.reduceNe, Int.reduceLT, Int.reduceLE]
  refine i_call H12 ⟨v, L, rfl, hL.le hle1, fun bb hbb => ?_⟩
  cases bb with
  | false =>
    try simp (disch := first | omega | (simp only [PL]; omega)) only [PS, P1, P2, P3, P4, P5, P6, P7, P8, PA, PB, PC, Nat.reduceAdd, Nat.reduceSub, Nat.reduceMul, Nat.reduceLeDiff, Nat.reduceEqDiff, Nat.succ_ne_self, reduceCtorEq, Int.reduceToNat, Int.cast_ofNat_Int, Int.reduceEq, Int.reduceNe, Int.reduceLT, Int.reduceLE]
    exact hK h1 hle1
  | true =>
  have hli := hbb rfl
  try simp (disch := first | omega | (simp only [PL]; omega)) only [PS, P1, P2, P3, P4, P5, P6, P7, P8, PA, PB, PC, Nat.reduceAdd, Nat.reduceSub, Nat.reduceMul, Nat.reduceLeDiff, Nat.reduceEqDiff, Nat.succ_ne_self, reduceCtorEq, Int.reduceToNat, Int.cast_ofNat_Int, Int.reduceEq, Int.reduceNe, Int.reduceLT, Int.reduceLE]
  refine i_cond (fun c1 => ?_) (fun c1 => ?_)
  · try simp (disch := first | omega | (simp only [PL]; omega)) only [PS, P1, P2, P3, P4, P5, P6, P7, P8, PA, PB, PC, Nat.reduceAdd, Nat.reduceSub, Nat.reduceMul, Nat.reduceLeDiff, Nat.reduceEqDiff, Nat.succ_ne_self, reduceCtorEq, Int.reduceToNat, Int.cast_ofNat_Int, Int.reduceEq, Int.reduceNe, Int.reduceLT, Int.reduceLE]
    exact hK h1 hle1
  try simp (disch := first | omega | (simp only [PL]; omega)) only [PS, P1, P2, P3, P4, P5, P6, P7, P8, PA, PB, PC, Nat.reduceAdd, Nat.reduceSub, Nat.reduceMul, Nat.reduceLeDiff, Nat.reduceEqDiff, Nat.succ_ne_self, reduceCtorEq, Int.reduceToNat, Int.cast_ofNat_Int, Int.reduceEq, Int.reduceNe, Int.reduceLT, Int.reduceLE]
  refine i_call H13 ⟨w, n, v, L, rfl, hL.le hle1, hli, fun hb h2 hle2 => ?_, fun hb bt bm H gt gm F hk hT hM => ?_⟩
  · try simp (disch := first | omega | (simp only [PL]; omega)) only [PS, P1, P2, P3, P4, P5, P6, P7, P8, PA, PB, PC, Nat.reduceAdd, Nat.reduceSub, Nat.reduceMul, Nat.reduceLeDiff, Nat.reduceEqDiff, Nat.succ_ne_self, reduceCtorEq, Int.reduceToNat, Int.cast_ofNat_Int, Int.reduceEq, Int.reduceNe, Int.reduceLT, Int.reduceLE]
    exact hK h2 (hle1.trans hle2)
  simp only [newBad] at hb
  have hR := hM.read hk.lm
  have hgE : ∀ l ∈ goodE L, isGood l ∧ l ∈ L := by
    intro l hl
    unfold goodE at hl
    obtain ⟨k1, k2⟩ := List.mem_filter.1 hl
    exact ⟨of_decide_eq_true k2, k1⟩
  have hEl : (goodE L).length ≤ 25 := by
    have := List.length_filter_le (fun l => decide (∀ s ∈ l, ¬ s.bad)) L
    have := hli.1.1
    unfold goodE; omega
  have hfl := flatT_len (goodE L) fun l hl => by have := hli.1.2 l (hgE l hl).2; omega
  have htl2 : (tagsE (goodE L)).length ≤ 500000 := by have := tagsOfL_len (flatT (goodE L)); unfold tagsE; omega
  have htag : ∀ t ∈ tagsE (goodE L), t.length ≤ 20 := by
    intro t ht
    obtain ⟨l, hl, s, hs, rfl⟩ := (mem_tagsE _ t).1 ht
    exact hli.2 l (hgE l hl).2 s hs
  obtain ⟨evm, fvm, hom, ⟨vsm, hvm, hvml, _⟩, _⟩ := id hR
  have Am : H.cell ((⟨bm, 0, none⟩ : Addr).add 2) = some evm := hom.rules.1 2 (by simp)
  have Rm := hvm.rules1 id (fun _ => rfl) undef
  rw [hvml] at Rm
  try simp (disch := first | omega | (simp only [PL]; omega)) only [PS, P1, P2, P3, P4, P5, P6, P7, P8, PA, PB, PC, Nat.reduceAdd, Nat.reduceSub, Nat.reduceMul, Nat.reduceLeDiff, Nat.reduceEqDiff, Nat.succ_ne_self, reduceCtorEq, Int.reduceToNat, Int.cast_ofNat_Int, Int.reduceEq, Int.reduceNe, Int.reduceLT, Int.reduceLE, Am, Rm]
  refine i_call H14 ⟨⟨bm, 0, none⟩, _, _, goodE L, (goodE L).length, rfl, hR, fun v14 H2 ho14 => ?_⟩
  rw [List.take_of_length_le (by omega)] at ho14
  try simp (disch := first | omega | (simp only [PL]; omega)) only [PS, P1, P2, P3, P4, P5, P6, P7, P8, PA, PB, PC, Nat.reduceAdd, Nat.reduceSub, Nat.reduceMul, Nat.reduceLeDiff, Nat.reduceEqDiff, Nat.succ_ne_self, reduceCtorEq, Int.reduceToNat, Int.cast_ofNat_Int, Int.reduceEq, Int.reduceNe, Int.reduceLT, Int.reduceLE]
  refine i_bslB encT 1 (fun _ => rfl) [other] rfl rfl (by simp [maxLen]) fun x1 b1 H3 hle3 hb1 hx1 hS1 => ?_
  have O2 := hS1.one
  try simp (disch := first | omega | (simp only [PL]; omega)) only [PS, P1, P2, P3, P4, P5, P6, P7, P8, PA, PB, PC, Nat.reduceAdd, Nat.reduceSub, Nat.reduceMul, Nat.reduceLeDiff, Nat.reduceEqDiff, Nat.succ_ne_self, reduceCtorEq, Int.reduceToNat, Int.cast_ofNat_Int, Int.reduceEq, Int.reduceNe, Int.reduceLT, Int.reduceLE]
  refine i_app1 (enc := encT) (fun _ => rfl) (l' := [other]) (by simp [encT, one]) (ho14.le hle3) (SlB.sl (enc := encT) (fun _ => rfl) (hS1.le (fr_le _ _))) (by simp; omega) fun v5 H4 ho5 => ?_
  try simp (disch := first | omega | (simp only [PL]; omega)) only [PS, P1, P2, P3, P4, P5, P6, P7, P8, PA, PB, PC, Nat.reduceAdd, Nat.reduceSub, Nat.reduceMul, Nat.reduceLeDiff, Nat.reduceEqDiff, Nat.succ_ne_self, reduceCtorEq, Int.reduceToNat, Int.cast_ofNat_Int, Int.reduceEq, Int.reduceNe, Int.reduceLT, Int.reduceLE]
  have hkF := hk.freeze ho5.1
  refine i_call H15 ⟨h1, gt, gm, _, bt, bm, _, _, goodE L, v5, tagsE (goodE L) ++ [other], rfl, hkF, hT, hM, (OwnS.slf2 (enc := encT) (fun _ => rfl) ho5).le (join_r (hk.lF.trans ho5.1) (fr_le _ _)), ⟨by omega, by omega, by omega, fun l hl => (hgE l hl).1⟩, fun t ht => ?_, by rw [List.length_append, List.length_singleton]; omega, fun H5 hle5 => ?_⟩
  · rw [List.mem_append, List.mem_singleton] at ht
    rcases ht with ht | rfl
    · have := htag t ht; omega
    · omega
  · try simp (disch := first | omega | (simp only [PL]; omega)) only [PS, P1, P2, P3, P4, P5, P6, P7, P8, PA, PB, PC, Nat.reduceAdd, Nat.reduceSub, Nat.reduceMul, Nat.reduceLeDiff, Nat.reduceEqDiff, Nat.succ_ne_self, reduceCtorEq, Int.reduceToNat, Int.cast_ofNat_Int, Int.reduceEq, Int.reduceNe, Int.reduceLT, Int.reduceLE]
    exact hK H5 (hle1.trans hle5)
end Go.Cw
/- From a row's data to what lies in memory. -/
namespace Go.Cw
open Go

inductive Ty where
  | int | str | bool | nil
  | cons (a b : Ty)
  | sl (e : Ty)
  deriving DecidableEq
def Ty.size : Ty → Nat
  | .int | .str | .bool | .sl _ => 1
  | .nil => 0
  | .cons a b => a.size + b.size

/-- all that lies in memory -/
def full (w : World) : Heap := fun b => w.heap[b]?
theorem full_sub (w : World) : (full w).sub w := fun _ _ h => h

def Mat (w : World) : Ty → List Value → Prop
  | .int, cs => ∃ n, cs = [.int .i64 n] ∧ (Lit.int .i64 n).wf = true
  | .str, cs => ∃ s, cs = [.string s] ∧ s.size ≤ maxLen
  | .bool, cs => ∃ b, cs = [.bool b]
  | .nil, cs => cs = []
  | .cons a b, cs => ∃ x y, cs = x ++ y ∧ Mat w a x ∧ Mat w b y
  | .sl e, cs => ∃ a n cap, cs = [.slice a n cap] ∧ n ≤ cap ∧ cap ≤ maxLen ∧ (n = 0 ∨ ∃ g, a = some g ∧ ∃ rows : List (List Value), rows.length = n ∧ rowAt (full w) g rows.flatten ∧ ∀ r ∈ rows, Mat w e r)

def chkFs (P : Program) (chk : TypeId → Ty → Bool) : List Field → Nat → Ty → Bool
  | [], _, .nil => true
  | f :: r, off, .cons a b => f.offset == off && P.cellsOf f.type == a.size && chk f.type a && chkFs P chk r (off + a.size) b
  | _, _, _ => false
def chkAr (P : Program) (chk : TypeId → Ty → Bool) (e : TypeId) : Nat → Ty → Bool
  | 0, .nil => true
  | n + 1, .cons a b => P.cellsOf e == a.size && chk e a && chkAr P chk e n b
  | _, _ => false
/-- is a type laid so? -/
def chk (P : Program) : Nat → TypeId → Ty → Bool
  | 0, _, _ => false
  | n + 1, t, ty =>
    match P.underlying t with
    | some (.int .i64) => ty == .int
    | some .string => ty == .str
    | some .bool => ty == .bool
    | some (.slice e) =>
      match ty with
      | .sl x => P.cellsOf e == x.size && decide (0 < x.size) && chk P n e x
      | _ => false
    | some (.struct fs) => P.cellsOf t == ty.size && chkFs P (chk P n) fs.toList 0 ty
    | some (.array k e) => P.cellsOf t == ty.size && chkAr P (chk P n) e k ty
    | _ => false

theorem mapM_some {α β : Type} {f : α → Option β} : ∀ {l : List α} {r : List β}, l.mapM f = some r → r.length = l.length ∧ ∀ i (h : i < l.length) (h' : i < r.length), f l[i] = some r[i] := by
  intro l
  induction l with
  | nil => intro r h; simp at h; subst h; simp
  | cons a l ih =>
    intro r h
    simp only [List.mapM_cons, Option.bind_eq_bind, Option.bind_eq_some_iff, Option.pure_def, Option.some.injEq] at h
    obtain ⟨y, h1, ys, h2, rfl⟩ := h
    obtain ⟨h3, h4⟩ := ih h2
    refine ⟨by simp [h3], fun i hi hi' => ?_⟩
    cases i with
    | zero => simpa using h1
    | succ i => simpa using h4 i (by simpa using hi) (by simpa using hi')

theorem cells_row {w : World} {a : Addr} {n : Nat} {cs : List Value} (h : w.cells? 0 a n = some cs) (hn : 0 < n) : cs.length = n ∧ a.spot = none ∧ ∀ i (hi : i < cs.length), w.cell? (a.add i) = some cs[i] := by
  simp only [World.cells?, Nat.zero_le, if_true] at h
  obtain ⟨h1, h2⟩ := mapM_some h
  have hl : cs.length = n := by simpa using h1
  refine ⟨hl, ?_, fun i hi => ?_⟩
  · have h3 := h2 0 (by simpa using hn) (by omega)
    simp only [List.getElem_range, addr_zero] at h3
    exact World.cell?_spot h3
  · have := h2 i (by simpa using by omega) hi
    simpa using this

theorem row_of_cells {w : World} {a : Addr} {cs : List Value} (hs : a.spot = none) (h : ∀ i (hi : i < cs.length), w.cell? (a.add i) = some cs[i]) (hne : cs ≠ []) : rowAt (full w) a cs := by
  have hb : ∀ i (hi : i < cs.length), ∃ c t fz, w.heap[a.block]? = some (.cells c t fz) ∧ c[a.off + i]? = some cs[i] := by
    intro i hi
    have h1 := h i hi
    rw [addr_add' a hs] at h1
    simp only [World.cell?] at h1
    split at h1
    · rename_i c t fz hh; exact ⟨c, t, fz, hh, by simpa using h1⟩
    · cases h1
  have hl : 0 < cs.length := List.length_pos_iff.2 hne
  obtain ⟨c, t, fz, h1, _⟩ := hb 0 hl
  refine ⟨hs, c, t, fz, h1, ?_, ?_⟩
  · obtain ⟨c', t', fz', h2, h3⟩ := hb (cs.length - 1) (by omega)
    rw [h1] at h2; cases h2
    have := (Array.getElem?_eq_some_iff.1 h3).1
    omega
  · intro i hi
    obtain ⟨c', t', fz', h2, h3⟩ := hb i hi
    rw [h1] at h2; cases h2
    rw [h3, List.getElem?_eq_getElem hi]

variable {H : Type} {enc : TypeId × Value → H} {P : Program} {w : World}

theorem mat_size : ∀ (ty : Ty) (cs : List Value), Mat w ty cs → cs.length = ty.size := by
  intro ty
  induction ty with
  | int => rintro _ ⟨n, rfl, _⟩; rfl
  | str => rintro _ ⟨n, rfl, _⟩; rfl
  | bool => rintro _ ⟨n, rfl⟩; rfl
  | nil => rintro _ rfl; rfl
  | cons a b iha ihb => rintro _ ⟨x, y, rfl, h1, h2⟩; simp [iha _ h1, ihb _ h2, Ty.size]
  | sl e _ => rintro _ ⟨a, n, cap, rfl, _⟩; rfl

theorem mat_fs {n : Nat} (ih : ∀ (t : TypeId) (ty : Ty) (fuel : Nat) (cs : List Value) (x : DataW H × List MemPlace), chk P n t ty = true → DataW.trod enc P w 0 (fun _ => true) true fuel t cs = some x → Mat w ty cs) (fuel : Nat) (cs : List Value) :
    ∀ (fs : List Field) (off : Nat) (ty : Ty), chkFs P (chk P n) fs off ty = true → cs.length = off + ty.size →
      (∀ f ∈ fs, ∃ x, DataW.trod enc P w 0 (fun _ => true) true fuel f.type ((cs.drop f.offset).take (P.cellsOf f.type)) = some x) → Mat w ty (cs.drop off) := by
  intro fs
  induction fs with
  | nil =>
    intro off ty h1 h2 _
    cases ty <;> simp [chkFs] at h1
    simp only [Ty.size] at h2
    show cs.drop off = []
    exact List.drop_eq_nil_of_le (by omega)
  | cons f r ihr =>
    intro off ty h1 h2 h3
    cases ty with
    | cons a b =>
      simp only [chkFs, Bool.and_eq_true, beq_iff_eq] at h1
      obtain ⟨⟨⟨e1, e2⟩, e3⟩, e4⟩ := h1
      obtain ⟨y, h5⟩ := h3 f (by simp)
      simp only [Ty.size] at h2
      refine ⟨(cs.drop off).take a.size, cs.drop (off + a.size), ?_, ?_, ?_⟩
      · rw [← List.drop_drop, List.take_append_drop]
      · rw [e1, e2] at h5; exact ih _ _ _ _ _ e3 h5
      · exact ihr _ _ e4 (by omega) fun g hg => h3 g (by simp [hg])
    | _ => simp [chkFs] at h1

theorem mat_ar {n : Nat} (ih : ∀ (t : TypeId) (ty : Ty) (fuel : Nat) (cs : List Value) (x : DataW H × List MemPlace), chk P n t ty = true → DataW.trod enc P w 0 (fun _ => true) true fuel t cs = some x → Mat w ty cs) (fuel : Nat) (cs : List Value) (e : TypeId) :
    ∀ (k i : Nat) (ty : Ty), chkAr P (chk P n) e k ty = true → cs.length = i * P.cellsOf e + ty.size →
      (∀ j, j < k → ∃ x, DataW.trod enc P w 0 (fun _ => true) true fuel e ((cs.drop ((i + j) * P.cellsOf e)).take (P.cellsOf e)) = some x) → Mat w ty (cs.drop (i * P.cellsOf e)) := by
  intro k
  induction k with
  | zero =>
    intro i ty h1 h2 _
    cases ty <;> simp [chkAr] at h1
    simp only [Ty.size] at h2
    show cs.drop _ = []
    exact List.drop_eq_nil_of_le (by omega)
  | succ k ihk =>
    intro i ty h1 h2 h3
    cases ty with
    | cons a b =>
      simp only [chkAr, Bool.and_eq_true, beq_iff_eq] at h1
      obtain ⟨⟨e2, e3⟩, e4⟩ := h1
      simp only [Ty.size] at h2
      obtain ⟨x, h5⟩ := h3 0 (by omega)
      have e6 : i * P.cellsOf e + a.size = (i + 1) * P.cellsOf e := by rw [Nat.add_mul, e2]; omega
      refine ⟨(cs.drop (i * P.cellsOf e)).take a.size, cs.drop ((i + 1) * P.cellsOf e), ?_, ?_, ?_⟩
      · rw [← e6, ← List.drop_drop, List.take_append_drop]
      · rw [Nat.add_zero] at h5; rw [← e2]; exact ih _ _ _ _ _ e3 h5
      · refine ihk (i + 1) b e4 (by omega) fun j hj => ?_
        have := h3 (j + 1) (by omega)
        rwa [show i + (j + 1) = i + 1 + j by omega] at this
    | _ => simp [chkAr] at h1

theorem mat_of_trod : ∀ (n : Nat) (t : TypeId) (ty : Ty) (fuel : Nat) (cs : List Value) (x : DataW H × List MemPlace), chk P n t ty = true → DataW.trod enc P w 0 (fun _ => true) true fuel t cs = some x → Mat w ty cs := by
  intro n
  induction n with
  | zero => intro t ty fuel cs x h; simp [chk] at h
  | succ n ih =>
    intro t ty fuel cs x hc h
    cases fuel with
    | zero => simp [DataW.trod] at h
    | succ fuel =>
      simp only [chk] at hc
      split at hc
      · rename_i hu
        simp only [beq_iff_eq] at hc; subst hc
        obtain ⟨m, rfl, _, h1⟩ := DataW.trod_int hu h
        exact ⟨m, rfl, h1⟩
      · rename_i hu
        simp only [beq_iff_eq] at hc; subst hc
        obtain ⟨m, rfl, _, h1⟩ := DataW.trod_string hu h
        exact ⟨m, rfl, h1⟩
      · rename_i hu
        simp only [beq_iff_eq] at hc; subst hc
        obtain ⟨m, rfl, _⟩ := DataW.trod_bool hu h
        exact ⟨m, rfl⟩
      · rename_i e hu
        split at hc
        · rename_i y
          simp only [Bool.and_eq_true, beq_iff_eq, decide_eq_true_eq] at hc
          obtain ⟨⟨e1, e2⟩, e3⟩ := hc
          rcases DataW.trod_slice hu h with ⟨rfl, _⟩ | ⟨a, len, cap, elems, rest, m, _, rfl, _, _, hl, hm, hlen, hel, _⟩
          · exact ⟨none, 0, 0, rfl, Nat.le_refl _, Nat.zero_le _, .inl rfl⟩
          · refine ⟨some a, len, cap, rfl, hl, hm, ?_⟩
            by_cases h0 : len = 0
            · exact .inl h0
            · have key : ∀ i, i < len → ∃ r, w.cells? 0 (a.add (i * P.cellsOf e)) (P.cellsOf e) = some r ∧ Mat w y r := by
                intro i hi
                have h5 := hel i hi
                rw [List.getElem?_eq_getElem (by omega), Option.bind_eq_some_iff] at h5
                obtain ⟨r, h6, h7⟩ := h5
                exact ⟨r, h6, ih _ _ _ _ _ e3 h7⟩
              have h9' : a.spot = none := by
                obtain ⟨r, h6, h7⟩ := key 0 (by omega)
                obtain ⟨_, h9, _⟩ := cells_row h6 (by omega)
                rw [Nat.zero_mul, addr_zero] at h9
                exact h9
              have hrows : ∀ k, k ≤ len → ∃ rows : List (List Value), rows.length = k ∧ (∀ r ∈ rows, Mat w y r) ∧ rows.flatten.length = k * y.size ∧ ∀ i (hi : i < rows.flatten.length), w.cell? (a.add i) = some rows.flatten[i] := by
                intro k
                induction k with
                | zero => intro _; exact ⟨[], rfl, by simp, by simp, by simp⟩
                | succ k ihk =>
                  intro hk
                  obtain ⟨rows, r1, r2, r3, r4⟩ := ihk (by omega)
                  obtain ⟨r, h6, h7⟩ := key k (by omega)
                  obtain ⟨h8, h9, h10⟩ := cells_row h6 (by omega)
                  refine ⟨rows ++ [r], by simp [r1], ?_, ?_, ?_⟩
                  · intro x hx; simp at hx; rcases hx with hx | rfl
                    · exact r2 x hx
                    · exact h7
                  · simp [List.flatten_append, r3, h8, e1, Nat.add_mul]
                  · intro i hi
                    have e5 : (rows ++ [r]).flatten = rows.flatten ++ r := by simp
                    simp only [e5] at hi ⊢
                    by_cases hlt : i < rows.flatten.length
                    · rw [List.getElem_append_left hlt]; exact r4 i hlt
                    · rw [List.getElem_append_right (by omega)]
                      simp only [List.length_append] at hi
                      have := h10 (i - rows.flatten.length) (by omega)
                      rw [← this, addr_add' a h9', addr_add' a h9', addr_add' _ rfl]
                      congr 2
                      simp only
                      rw [r3, e1]; omega
              obtain ⟨rows, r1, r2, r3, r4⟩ := hrows len (Nat.le_refl _)
              have hne : rows.flatten ≠ [] := by
                intro h; rw [h] at r3
                have : 0 < len * y.size := Nat.mul_pos (by omega) e2
                simp at r3; omega
              exact .inr ⟨a, rfl, rows, r1, row_of_cells h9' r4 hne, r2⟩
        · cases hc
      · rename_i fs hu
        simp only [Bool.and_eq_true, beq_iff_eq] at hc
        obtain ⟨xs, m, h0, _, h1, h2, h3⟩ := DataW.trod_struct hu h
        have := mat_fs (enc := enc) ih m cs fs.toList 0 ty hc.2 (by omega) (by
          intro f hf
          obtain ⟨i, hi, rfl⟩ := List.getElem_of_mem hf
          have hi' : i < fs.size := by simpa using hi
          have h4 := h3 i fs[i] (by simp [hi'])
          rw [List.getElem?_eq_getElem (by omega)] at h4
          exact ⟨_, by simpa using h4⟩)
        simpa using this
      · rename_i k e hu
        simp only [Bool.and_eq_true, beq_iff_eq] at hc
        obtain ⟨xs, m, h0, _, h1, h2, h3⟩ := DataW.trod_array hu h
        have := mat_ar (enc := enc) ih m cs e k 0 ty hc.2 (by omega) (by
          intro j hj
          have h4 := h3 j hj
          rw [List.getElem?_eq_getElem (by omega)] at h4
          exact ⟨_, by simpa using h4⟩)
        simpa using this
      · cases hc
end Go.Cw
namespace Go.Cw
open Go Go.RowKit

/-- a slice of things that are laid so -/
theorem mat_sl {w : World} {α : Type} {enc : α → List Value} {ty : Ty} {Good : α → Prop} (hc : ∀ cs, Mat w ty cs → ∃ x, Good x ∧ cs = enc x) {v : Value} (hm : Mat w (.sl ty) [v]) :
    ∃ l : List α, Sl enc (full w) v l ∧ (∀ x ∈ l, Good x) ∧ l.length ≤ maxLen := by
  obtain ⟨a, n, cap, e, h1, h2, h3⟩ := hm
  simp only [List.cons.injEq, and_true] at e
  subst e
  rcases h3 with rfl | ⟨g, rfl, rows, h4, h5, h6⟩
  · exact ⟨[], ⟨a, cap, rfl, by simp, .inl rfl⟩, by simp, by simp⟩
  · have key : ∀ rows : List (List Value), (∀ r ∈ rows, Mat w ty r) → ∃ l : List α, rows.flatten = l.flatMap enc ∧ l.length = rows.length ∧ ∀ x ∈ l, Good x := by
      intro rows
      induction rows with
      | nil => intro _; exact ⟨[], rfl, rfl, by simp⟩
      | cons r rows ih =>
        intro hr
        obtain ⟨l, a1, a2, a3⟩ := ih fun r hr' => hr r (by simp [hr'])
        obtain ⟨x, b1, b2⟩ := hc r (hr r (by simp))
        exact ⟨x :: l, by simp [a1, b2], by simp [a2], by simp; exact ⟨b1, a3⟩⟩
    obtain ⟨l, a1, a2, a3⟩ := key rows h6
    refine ⟨l, ⟨some g, cap, by rw [a2, h4], by rw [a2, h4]; exact h1, .inr ⟨g, rfl, by rw [← a1]; exact h5⟩⟩, a3, by rw [a2, h4]; omega⟩

theorem mat_int {w : World} {b : Ty} {cs : List Value} (h : Mat w (.cons .int b) cs) : ∃ n r, cs = .int .i64 n :: r ∧ Mat w b r := by
  obtain ⟨x, y, rfl, ⟨n, rfl, _⟩, h2⟩ := h
  exact ⟨n, y, rfl, h2⟩
theorem mat_str {w : World} {b : Ty} {cs : List Value} (h : Mat w (.cons .str b) cs) : ∃ (s : List UInt8) (r : List Value), cs = .string (str s) :: r ∧ s.length ≤ maxLen ∧ Mat w b r := by
  obtain ⟨x, y, rfl, ⟨n, rfl, h1⟩, h2⟩ := h
  exact ⟨n.data.toList, y, by rw [str_of]; rfl, by simpa using h1, h2⟩
theorem mat_one {w : World} {a b : Ty} {cs : List Value} (h : Mat w (.cons (.sl a) b) cs) : ∃ v r, cs = v :: r ∧ Mat w (.sl a) [v] ∧ Mat w b r := by
  obtain ⟨x, y, rfl, h1, h2⟩ := h
  have h1' := h1
  obtain ⟨a', n, cap, rfl, _⟩ := h1
  exact ⟨_, y, rfl, h1', h2⟩

def rdTy : Ty := .cons .int (.cons .int (.cons .int (.cons .str .nil)))
/-- a value of one cell -/
theorem mat_cell {w : World} {v : Value} {a : Option Addr} {n c : Nat} {ty : Ty} (he : v = .slice a n c) (h : Mat w ty v.cells.toList) : Mat w ty [v] := by subst he; simpa [Value.cells] using h
/-- what is proved of a law, as the row wants it -/
theorem law_calls {P : Program} {N : Num} {k : Nat} {f : FuncId} {args : List Value} {w : World} (hf : N.fid k = f) (h : GF P N k args (full w) fun v h' => v = .bool true ∧ Heap.le (full w) h') :
    Calls P f args.toArray w fun e w' => e = .returned (.bool true) ∧ Below w.heap.size w w' := by
  subst hf
  refine (h.2 w (full_sub w)).mono ?_
  rintro e w' ⟨v, h', rfl, ⟨rfl, hle⟩, hs⟩
  refine ⟨rfl, hs.os, hs.tape, hs.output, hs.size, fun b hb => ?_⟩
  have h1 : full w b = some w.heap[b] := by simp [full, hb]
  rw [hs.sub b _ (hle b _ h1)]
  simp [hb]
end Go.Cw
namespace Go.Cw
open Go
theorem mat_si {w : World} (cs : List Value) (h : Mat w rdTy cs) : ∃ x : Si, True ∧ cs = x.enc := by
  obtain ⟨a, _, rfl, h1⟩ := mat_int h
  obtain ⟨b, _, rfl, h2⟩ := mat_int h1
  obtain ⟨c, _, rfl, h3⟩ := mat_int h2
  obtain ⟨s, _, rfl, _, h4⟩ := mat_str h3
  cases h4
  exact ⟨⟨a, b, c, s⟩, trivial, rfl⟩
theorem mat_ss {w : World} {v : Value} (h : Mat w (.sl (.sl rdTy)) [v]) : ∃ L, SS (full w) v L := by
  obtain ⟨l, hl, hg, _⟩ := mat_sl (enc := encV) (Good := fun x => ∃ r : List Si, Sl Si.enc (full w) x r) (by
    intro cs h
    have h' := h
    obtain ⟨a, n, cap, rfl, _⟩ := h
    obtain ⟨r, hr, _⟩ := mat_sl mat_si h'
    exact ⟨_, ⟨r, hr⟩, rfl⟩) h
  have : ∀ l : List Value, (∀ x ∈ l, ∃ r : List Si, Sl Si.enc (full w) x r) → ∃ L : List (List Si), l.length = L.length ∧ ∀ i, i < L.length → Sl Si.enc (full w) (l.getD i undef) (L.getD i []) := by
    intro l
    induction l with
    | nil => intro _; exact ⟨[], rfl, by simp⟩
    | cons r l ih =>
      intro h
      obtain ⟨L, h1, h2⟩ := ih fun r hr => h r (by simp [hr])
      obtain ⟨f, hf⟩ := h r (by simp)
      refine ⟨f :: L, by simp [h1], fun i hi => ?_⟩
      cases i with
      | zero => simpa using hf
      | succ i => simpa using h2 i (by simpa using hi)
  obtain ⟨L, h1, h2⟩ := this l hg
  exact ⟨L, l, hl, h1, h2⟩
end Go.Cw
