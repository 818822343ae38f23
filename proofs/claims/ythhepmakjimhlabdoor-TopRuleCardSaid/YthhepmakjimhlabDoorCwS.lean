/- The seat's own part: the functions that TopRule reaches, read into the language (closed facts). -/
import Derived.Test.YthhepmakjimhlabDoorRows
import Derived.Test.YthhepmakjimhlabDoorCw2
namespace Go.Proofs.YthhepmakjimhlabDoor.CwTopRule
open Go Go.Cw Go.Proofs
set_option maxRecDepth 100000
set_option linter.unusedVariables false
def fks : List Nat := [0, 1, 2, 100000, 100000, 100000, 100000, 100000, 100000, 100000, 100000, 100000, 100000, 100000, 100000, 100000, 100000, 100000, 100000, 100000, 100000, 100000, 100000, 100000, 100000, 100000, 100000, 100000, 100000, 100000, 100000, 100000, 100000, 100000, 100000, 100000, 100000, 100000, 100000, 100000, 100000, 100000, 100000, 100000, 100000, 100000, 100000, 100000, 100000, 100000, 100000, 100000, 100000, 100000, 100000, 100000, 100000, 100000, 100000, 100000, 100000, 100000, 100000, 100000, 100000, 100000, 100000, 100000, 100000, 100000, 100000, 100000, 100000, 100000, 100000, 100000, 100000, 100000, 100000, 100000, 100000, 7, 100000, 100000, 100000, 100000, 100000, 100000, 100000, 100000, 100000, 100000, 100000, 100000, 100000, 100000, 100000, 72, 100000, 100000, 100000, 100000, 100000, 100000, 100000, 100000, 17, 13, 8, 100000, 100000, 100000, 100000, 100000, 100000, 100000, 100000, 18, 100000, 100000, 100000, 100000, 100000, 100000, 100000, 100000, 100000, 100000, 100000, 100000, 100000, 100000, 100000, 100000, 100000, 100000, 100000, 85, 86, 87, 88, 89, 90, 91, 92, 93, 94, 95, 96, 97, 98, 99, 100, 100000, 100000, 100000, 105, 100000, 100000, 100000, 100000, 100000, 5, 6, 100000, 9, 100000, 100000, 100000, 11, 12, 100000, 10, 100000, 100000, 100000, 15, 14, 16, 100000, 19, 20, 21, 100000, 100000, 26, 27, 100000, 22, 23, 24, 25, 28, 29, 30, 31, 32, 33, 34, 35, 36, 37, 38, 39, 40, 41, 42, 43, 44, 45, 46, 47, 48, 49, 50, 51, 52, 53, 54, 55, 56, 57, 58, 59, 60, 61, 62, 63, 64, 65, 66, 67, 68, 69, 70, 71, 73, 74, 75, 76, 77, 78, 79, 80, 81, 82, 83, 84, 101, 102, 103, 104, 106, 107, 108, 109, 110, 111, 112, 113, 114, 115, 100000, 100000, 100000, 100000, 100000, 100000, 100000, 100000, 100000, 100000, 100000, 100000, 100000, 100000, 100000, 100000, 100000, 100000, 100000, 100000, 100000, 100000, 100000, 100000, 100000, 100000, 100000, 3, 4, 100000, 100000, 100000, 100000, 100000, 100000, 100000, 100000, 100000, 100000, 100000, 100000, 100000, 100000, 100000, 100000, 100000, 100000, 100000, 100000, 100000, 100000, 100000, 100000, 100000, 100000, 100000, 100000, 100000, 100000, 100000, 100000, 100000, 100000, 100000, 100000]
def tks : List Nat := [0, 1, 2, 3, 4, 5, 6, 7, 8, 9, 10, 11, 12, 13, 14, 15, 16, 17, 18, 19, 20, 21, 100000, 100000, 100000, 100000, 100000, 100000, 100000, 54, 100000, 100000, 100000, 100000, 100000, 100000, 100000, 100000, 100000, 100000, 100000, 100000, 24, 25, 26, 100000, 100000, 100000, 100000, 100000, 100000, 100000, 100000, 100000, 100000, 100000, 100000, 100000, 100000, 100000, 62, 100000, 100000, 100000, 100000, 100000, 100000, 100000, 60, 100000, 100000, 100000, 100000, 100000, 100000, 100000, 100000, 100000, 100000, 100000, 100000, 100000, 100000, 100000, 100000, 100000, 100000, 100000, 100000, 100000, 100000, 100000, 100000, 100000, 100000, 100000, 100000, 100000, 100000, 100000, 100000, 100000, 100000, 100000, 100000, 100000, 100000, 100000, 100000, 46, 100000, 49, 100000, 100000, 100000, 100000, 100000, 66, 100000, 100000, 100000, 100000, 100000, 100000, 100000, 100, 100000, 100000, 100000, 100000, 100000, 100000, 100000, 100000, 100000, 100000, 100000, 22, 23, 100000, 100000, 100000, 100000, 100000, 100000, 100000, 100000, 100000, 100000, 100000, 114, 100000, 100000, 100000, 100000, 100000, 100000, 113, 50, 100000, 100000, 100000, 56, 100000, 100000, 100000, 100000, 28, 29, 100000, 47, 57, 100000, 100000, 100000, 122, 93, 89, 43, 100000, 100000, 100000, 100000, 100000, 100000, 100000, 51, 39, 40, 41, 42, 30, 100000, 100000, 100000, 100000, 100000, 100000, 100000, 100000, 100000, 100000, 67, 100000, 100000, 100000, 100000, 100000, 75, 100000, 100000, 100000, 100000, 100000, 100000, 100000, 100000, 100000, 100000, 59, 129, 130, 131, 132, 133, 134, 135, 136, 98, 137, 138, 139, 140, 100000, 100000, 100000, 100000, 27, 100000, 32, 33, 100000, 36, 37, 100000, 34, 35, 100000, 100000, 100000, 100000, 100000, 44, 45, 48, 52, 53, 55, 58, 100000, 64, 65, 61, 63, 68, 69, 70, 71, 72, 73, 74, 76, 77, 78, 79, 80, 81, 82, 83, 84, 85, 86, 87, 88, 90, 91, 92, 94, 95, 96, 97, 99, 101, 102, 103, 104, 105, 106, 107, 108, 109, 110, 111, 112, 115, 116, 117, 118, 119, 120, 121, 123, 124, 125, 126, 127, 128, 100000, 100000, 100000, 100000, 100000, 100000, 100000, 100000, 100000, 100000, 100000, 100000, 100000, 100000, 100000, 100000, 100000, 100000, 100000, 100000, 100000, 100000, 100000, 100000, 100000, 100000, 100000, 100000, 100000, 100000, 100000, 100000, 100000, 100000, 100000, 100000, 100000, 31, 38, 100000, 100000, 100000, 100000, 100000, 100000, 100000, 100000, 100000, 100000, 100000, 100000, 100000, 100000, 100000, 100000, 100000, 100000, 100000, 100000, 100000, 100000, 100000, 100000, 100000, 100000, 100000, 100000, 100000, 100000, 100000, 100000]
def pos : List Nat → Nat → Nat → Option Nat
  | [], _, _ => none
  | y :: r, x, i => if x = y then some i else pos r x (i + 1)
theorem pos_spec : ∀ (l : List Nat) (x i k : Nat), pos l x i = some k → i ≤ k ∧ l.getD (k - i) 0 = x := by
  intro l
  induction l with
  | nil => intro x i k h; simp [pos] at h
  | cons y r ih =>
    intro x i k h
    simp only [pos] at h
    split at h
    · rename_i e; cases h; exact ⟨Nat.le_refl _, by simp [e]⟩
    · obtain ⟨h1, h2⟩ := ih _ _ _ h
      refine ⟨by omega, ?_⟩
      have : k - i = (k - (i + 1)) + 1 := by omega
      rw [this, List.getD_cons_succ]; exact h2
def fk (f : Nat) : Option Nat := pos fks f 0
def tk (f : Nat) : Option Nat := pos tks f 0
def N : Num := ⟨fun k => fks.getD k 0, fun k => tks.getD k 0⟩
theorem htk : ∀ t k, tk t = some k → N.tid k = t := fun _ _ h => (pos_spec _ _ _ _ h).2
theorem hfk : ∀ f k, fk f = some k → N.fid k = f := fun _ _ h => (pos_spec _ _ _ _ h).2
theorem good : Go.Cw.Good Tryd.prog N (GF Tryd.prog N) := fun _ _ _ _ h => h
theorem hmix : Tryd.prog.follows .mixedOrders = true := by kernel_rfl
-- cratewatch/cratewatchtop.TopRule
theorem ok290 : compF Tryd.prog tk fk 2 [(0, false), (1, false), (2, true), (4, false), (5, true), (6, false), (7, false), (8, false), (9, true), (10, false), (11, true), (12, false), (13, false), (22, false), (24, false), (25, false), (26, false), (33, false), (36, false), (40, false), (43, false), (44, false), (45, false), (52, false), (55, false), (56, false), (57, false), (59, false), (62, false), (72, false), (74, false)] Tryd.f4 = some F290 := by kernel_rfl
theorem has290 : Has Tryd.prog N 290 F290 := fun _ _ _ hK => compF_sound htk hfk good hmix Tryd.func4 ok290 hK
-- cratewatch/rule.Text
theorem ok169 : compF Tryd.prog tk fk 1 [(0, false), (1, true), (2, false), (3, false), (4, false), (5, false), (7, false), (9, false), (13, false), (14, false), (16, false), (19, false), (21, false), (22, false), (24, false), (26, false), (27, false), (31, false), (32, false), (35, false), (39, false), (42, false)] Tryd.f11 = some F169 := by kernel_rfl
theorem has169 : Has Tryd.prog N 169 F169 := fun _ _ _ hK => compF_sound htk hfk good hmix Tryd.func11 ok169 hK
-- cratewatch/rule.Check
theorem ok170 : compF Tryd.prog tk fk 1 [(0, false), (1, true), (2, false), (5, false), (6, false), (55, false), (75, false)] Tryd.f12 = some F170 := by kernel_rfl
theorem has170 : Has Tryd.prog N 170 F170 := fun _ _ _ hK => compF_sound htk hfk good hmix Tryd.func12 ok170 hK
-- cratewatch/rule.Parse
theorem ok172 : compF Tryd.prog tk fk 1 [(0, false), (2, true), (3, false), (4, false), (5, true), (6, false), (7, false), (8, false), (9, false), (10, false), (11, false), (12, false), (13, false), (15, false), (16, false), (17, false), (20, false), (21, false), (24, false), (25, false), (26, false), (27, false), (32, false), (37, false), (42, false), (45, false), (46, false), (48, false), (53, false), (57, false), (66, false), (68, false)] Tryd.f10 = some F172 := by kernel_rfl
theorem has172 : Has Tryd.prog N 172 F172 := fun _ _ _ hK => compF_sound htk hfk good hmix Tryd.func10 ok172 hK
-- cratewatch/rule.kinds
theorem ok185 : compF Tryd.prog tk fk 0 [(0, true)] Tryd.f26 = some F185 := by kernel_rfl
theorem has185 : Has Tryd.prog N 185 F185 := fun _ _ _ hK => compF_sound htk hfk good hmix Tryd.func26 ok185 hK
-- cratewatch/rule.name
theorem ok186 : compF Tryd.prog tk fk 1 [(0, false), (2, false), (3, false), (5, false), (6, false), (7, false), (18, false)] Tryd.f27 = some F186 := by kernel_rfl
theorem has186 : Has Tryd.prog N 186 F186 := fun _ _ _ hK => compF_sound htk hfk good hmix Tryd.func27 ok186 hK
-- cratewatch/rule.Parse$1
theorem ok188 : compF Tryd.prog tk fk 2 [(0, false), (1, false), (2, false), (6, false)] Tryd.f22 = some F188 := by kernel_rfl
theorem has188 : Has Tryd.prog N 188 F188 := fun _ _ _ hK => compF_sound htk hfk good hmix Tryd.func22 ok188 hK
-- cratewatch/rule.Parse$2
theorem ok189 : compF Tryd.prog tk fk 1 [(0, false), (1, false), (2, false), (3, false), (6, false), (7, false), (11, false)] Tryd.f23 = some F189 := by kernel_rfl
theorem has189 : Has Tryd.prog N 189 F189 := fun _ _ _ hK => compF_sound htk hfk good hmix Tryd.func23 ok189 hK
end Go.Proofs.YthhepmakjimhlabDoor.CwTopRule
