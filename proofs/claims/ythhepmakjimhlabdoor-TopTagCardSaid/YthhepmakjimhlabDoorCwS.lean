/- The seat's own part: the functions that TopTag reaches, read into the language (closed facts). -/
import Derived.Test.YthhepmakjimhlabDoorRows
import Derived.Test.YthhepmakjimhlabDoorCw5
namespace Go.Proofs.YthhepmakjimhlabDoor.CwTopTag
open Go Go.Cw Go.Proofs
set_option maxRecDepth 100000
set_option linter.unusedVariables false
def fks : List Nat := [0, 1, 2, 100000, 100000, 100000, 100000, 100000, 100000, 100000, 100000, 100000, 100000, 100000, 100000, 100000, 100000, 100000, 100000, 100000, 100000, 100000, 100000, 100000, 100000, 100000, 100000, 100000, 100000, 100000, 100000, 100000, 100000, 100000, 100000, 100000, 100000, 100000, 100000, 100000, 100000, 100000, 100000, 100000, 100000, 100000, 100000, 100000, 100000, 100000, 100000, 100000, 100000, 100000, 100000, 100000, 100000, 100000, 100000, 100000, 100000, 100000, 100000, 100000, 100000, 100000, 100000, 100000, 100000, 100000, 100000, 100000, 100000, 100000, 100000, 100000, 100000, 100000, 100000, 100000, 100000, 7, 100000, 100000, 100000, 100000, 100000, 100000, 100000, 100000, 100000, 100000, 100000, 100000, 100000, 100000, 100000, 72, 100000, 100000, 100000, 100000, 100000, 100000, 100000, 100000, 17, 13, 8, 100000, 100000, 100000, 100000, 100000, 100000, 100000, 100000, 18, 100000, 100000, 100000, 100000, 100000, 100000, 100000, 100000, 100000, 100000, 100000, 100000, 100000, 100000, 100000, 100000, 100000, 100000, 100000, 85, 86, 87, 88, 89, 90, 91, 92, 93, 94, 95, 96, 97, 98, 99, 100, 100000, 100000, 100000, 105, 100000, 100000, 100000, 100000, 100000, 5, 6, 100000, 9, 100000, 100000, 100000, 11, 12, 100000, 10, 100000, 100000, 100000, 15, 14, 16, 100000, 19, 20, 21, 100000, 100000, 26, 27, 100000, 22, 23, 24, 25, 28, 29, 30, 31, 32, 33, 34, 35, 36, 37, 38, 39, 40, 41, 42, 43, 44, 45, 46, 47, 48, 49, 50, 51, 52, 53, 54, 55, 56, 57, 58, 59, 60, 61, 62, 63, 64, 65, 66, 67, 68, 69, 70, 71, 73, 74, 75, 76, 77, 78, 79, 80, 81, 82, 83, 84, 101, 102, 103, 104, 106, 107, 108, 109, 110, 111, 112, 113, 114, 115, 100000, 100000, 100000, 100000, 100000, 100000, 100000, 100000, 100000, 100000, 100000, 100000, 100000, 100000, 100000, 100000, 100000, 100000, 100000, 100000, 100000, 100000, 100000, 100000, 100000, 100000, 100000, 3, 4, 100000, 100000, 100000, 100000, 100000, 100000, 100000, 100000, 100000, 100000, 100000, 100000, 100000, 100000, 100000, 100000, 100000, 100000, 100000, 100000, 100000, 100000, 100000, 100000, 100000, 100000, 100000, 100000, 100000, 100000, 100000, 100000, 100000, 100000, 100000, 100000]
def tks : List Nat := [0, 1, 2, 3, 4, 5, 6, 7, 8, 9, 10, 11, 12, 13, 14, 15, 16, 17, 18, 19, 20, 21, 100000, 100000, 100000, 100000, 100000, 100000, 100000, 54, 100000, 100000, 100000, 100000, 100000, 100000, 100000, 100000, 100000, 100000, 100000, 100000, 24, 25, 26, 100000, 100000, 100000, 100000, 100000, 100000, 100000, 100000, 100000, 100000, 100000, 100000, 100000, 100000, 100000, 62, 100000, 100000, 100000, 100000, 100000, 100000, 100000, 60, 100000, 100000, 100000, 100000, 100000, 100000, 100000, 100000, 100000, 100000, 100000, 100000, 100000, 100000, 100000, 100000, 100000, 100000, 100000, 100000, 100000, 100000, 100000, 100000, 100000, 100000, 100000, 100000, 100000, 100000, 100000, 100000, 100000, 100000, 100000, 100000, 100000, 100000, 100000, 100000, 46, 100000, 49, 100000, 100000, 100000, 100000, 100000, 66, 100000, 100000, 100000, 100000, 100000, 100000, 100000, 100, 100000, 100000, 100000, 100000, 100000, 100000, 100000, 100000, 100000, 100000, 100000, 22, 23, 100000, 100000, 100000, 100000, 100000, 100000, 100000, 100000, 100000, 100000, 100000, 114, 100000, 100000, 100000, 100000, 100000, 100000, 113, 50, 100000, 100000, 100000, 56, 100000, 100000, 100000, 100000, 28, 29, 100000, 47, 57, 100000, 100000, 100000, 122, 93, 89, 43, 100000, 100000, 100000, 100000, 100000, 100000, 100000, 51, 39, 40, 41, 42, 30, 100000, 100000, 100000, 100000, 100000, 100000, 100000, 100000, 100000, 100000, 67, 100000, 100000, 100000, 100000, 100000, 75, 100000, 100000, 100000, 100000, 100000, 100000, 100000, 100000, 100000, 100000, 59, 129, 130, 131, 132, 133, 134, 135, 136, 98, 137, 138, 139, 140, 100000, 100000, 100000, 100000, 27, 100000, 32, 33, 100000, 36, 37, 100000, 34, 35, 100000, 100000, 100000, 100000, 100000, 44, 45, 48, 52, 53, 55, 58, 100000, 64, 65, 61, 63, 68, 69, 70, 71, 72, 73, 74, 76, 77, 78, 79, 80, 81, 82, 83, 84, 85, 86, 87, 88, 90, 91, 92, 94, 95, 96, 97, 99, 101, 102, 103, 104, 105, 106, 107, 108, 109, 110, 111, 112, 115, 116, 117, 118, 119, 120, 121, 123, 124, 125, 126, 127, 128, 100000, 100000, 100000, 100000, 100000, 100000, 100000, 100000, 100000, 100000, 100000, 100000, 100000, 100000, 100000, 100000, 100000, 100000, 100000, 100000, 100000, 100000, 100000, 100000, 100000, 100000, 100000, 100000, 100000, 100000, 100000, 100000, 100000, 100000, 100000, 100000, 100000, 31, 38, 100000, 100000, 100000, 100000, 100000, 100000, 100000, 100000, 100000, 100000, 100000, 100000, 100000, 100000, 100000, 100000, 100000, 100000, 100000, 100000, 100000, 100000, 100000, 100000, 100000, 100000, 100000, 100000, 100000, 100000, 100000, 100000]
def pos : List Nat → Nat → Nat → Option Nat
  | [], _, _ => none
  | y :: r, x, i => if x = y then some i else pos r x (i + 1)
theorem pos_spec : ∀ (l : List Nat) (x i k : Nat), pos l x i = some k → i ≤ k ∧ l.getD (k - i) 0 = x := by
  intro l
  induction l with
  | nil => intro x i k h; simp [pos] at h
  | cons y r ih =>
    intro x i k h
    simp only [pos] at h
    split at h
    · rename_i e; cases h; exact ⟨Nat.le_refl _, by simp [e]⟩
    · obtain ⟨h1, h2⟩ := ih _ _ _ h
      refine ⟨by omega, ?_⟩
      have : k - i = (k - (i + 1)) + 1 := by omega
      rw [this, List.getD_cons_succ]; exact h2
def fk (f : Nat) : Option Nat := pos fks f 0
def tk (f : Nat) : Option Nat := pos tks f 0
def N : Num := ⟨fun k => fks.getD k 0, fun k => tks.getD k 0⟩
theorem htk : ∀ t k, tk t = some k → N.tid k = t := fun _ _ h => (pos_spec _ _ _ _ h).2
theorem hfk : ∀ f k, fk f = some k → N.fid k = f := fun _ _ h => (pos_spec _ _ _ _ h).2
theorem good : Go.Cw.Good Tryd.prog N (GF Tryd.prog N) := fun _ _ _ _ h => h
theorem hmix : Tryd.prog.follows .mixedOrders = true := by kernel_rfl
-- cratewatch/cratewatchtop.TopTag
theorem ok289 : compF Tryd.prog tk fk 4 [(0, false), (1, false), (2, false), (3, false), (4, true), (5, true), (8, false), (9, false), (10, false), (11, false), (12, false), (13, true), (14, false), (15, true), (16, false), (17, true), (18, false), (19, false), (20, false), (21, false), (22, false), (23, true), (24, false), (25, true), (26, false), (27, false), (28, false), (29, false), (30, false), (33, false), (38, false), (42, false), (43, false), (44, false), (51, false), (57, false), (59, false), (61, false), (64, false), (66, false), (69, false), (70, false), (71, false), (74, false), (75, false), (76, false), (92, false), (95, false), (100, false), (134, false), (142, false), (145, false), (146, false), (147, false), (150, false), (151, false), (152, false), (154, false), (157, false), (166, false), (168, false), (171, false), (180, false)] Tryd.f3 = some F289 := by kernel_rfl
theorem has289 : Has Tryd.prog N 289 F289 := fun _ _ _ hK => compF_sound htk hfk good hmix Tryd.func3 ok289 hK
-- cratewatch/tag.Bytes
theorem ok162 : compF Tryd.prog tk fk 1 [(0, false), (1, true), (2, false), (3, false), (4, false), (5, true), (7, false), (9, false), (10, false), (11, false), (13, false), (15, false), (20, false), (21, false), (22, false), (46, false), (47, false), (48, false), (49, false), (51, false), (62, false), (65, false), (70, false), (71, false)] Tryd.f5 = some F162 := by kernel_rfl
theorem has162 : Has Tryd.prog N 162 F162 := fun _ _ _ hK => compF_sound htk hfk good hmix Tryd.func5 ok162 hK
-- cratewatch/tag.Text
theorem ok163 : compF Tryd.prog tk fk 1 [(0, false), (1, true), (2, false), (3, false), (4, false), (5, true), (8, false), (10, false), (15, false), (16, false), (17, false), (20, false), (21, false), (23, false), (24, false), (26, false), (28, false), (30, false), (31, false), (33, false), (35, false), (37, false), (38, false), (40, false), (42, false), (43, false)] Tryd.f6 = some F163 := by kernel_rfl
theorem has163 : Has Tryd.prog N 163 F163 := fun _ _ _ hK => compF_sound htk hfk good hmix Tryd.func6 ok163 hK
-- cratewatch/tag.Of
theorem ok165 : compF Tryd.prog tk fk 1 [(0, false), (2, true), (3, false), (4, false), (5, false), (7, false), (8, false), (9, false), (10, false), (11, false), (12, false), (13, false), (14, false), (15, false), (16, false), (19, false), (24, false), (27, false), (29, false), (30, false), (31, false), (32, false), (33, false), (39, false), (43, false), (45, false), (63, false), (65, false), (69, false), (71, false), (76, false), (85, false), (87, false), (22, false)] Tryd.f9 = some F165 := by kernel_rfl
theorem has165 : Has Tryd.prog N 165 F165 := fun _ _ _ hK => compF_sound htk hfk good hmix Tryd.func9 ok165 hK
-- cratewatch/tag.name
theorem ok177 : compF Tryd.prog tk fk 1 [(0, false), (2, false)] Tryd.f14 = some F177 := by kernel_rfl
theorem has177 : Has Tryd.prog N 177 F177 := fun _ _ _ hK => compF_sound htk hfk good hmix Tryd.func14 ok177 hK
-- cratewatch/tag.padded
theorem ok178 : compF Tryd.prog tk fk 2 [(0, false), (1, false), (4, false), (5, false), (7, false), (13, false)] Tryd.f16 = some F178 := by kernel_rfl
theorem has178 : Has Tryd.prog N 178 F178 := fun _ _ _ hK => compF_sound htk hfk good hmix Tryd.func16 ok178 hK
-- cratewatch/tag.number
theorem ok182 : compF Tryd.prog tk fk 1 [(0, false), (2, false), (3, false), (4, false), (5, false), (12, false), (14, false), (15, false), (16, false), (27, false)] Tryd.f21 = some F182 := by kernel_rfl
theorem has182 : Has Tryd.prog N 182 F182 := fun _ _ _ hK => compF_sound htk hfk good hmix Tryd.func21 ok182 hK
-- cratewatch/tag.Parse
theorem ok81 : compF Tryd.prog tk fk 1 [(0, false), (2, true), (3, false), (4, false), (5, false), (6, false), (7, false), (8, true), (9, false), (12, false), (14, false), (16, false), (17, false), (18, false), (30, false), (37, false), (38, false), (39, false), (41, false), (43, false), (47, false), (48, false), (50, false), (51, false), (52, false), (53, false), (54, false), (55, false), (56, false), (57, false), (58, false), (59, false), (65, false), (66, false), (68, false)] Tryd.f7 = some F81 := by kernel_rfl
theorem has81 : Has Tryd.prog N 81 F81 := fun _ _ _ hK => compF_sound htk hfk good hmix Tryd.func7 ok81 hK
-- cratewatch/tag.Parse$1
theorem ok106 : compF Tryd.prog tk fk 2 [(0, false), (1, false), (3, false), (4, false)] Tryd.f17 = some F106 := by kernel_rfl
theorem has106 : Has Tryd.prog N 106 F106 := fun _ _ _ hK => compF_sound htk hfk good hmix Tryd.func17 ok106 hK
-- cratewatch/tag.parts
theorem ok107 : compF Tryd.prog tk fk 1 [(0, false), (2, true), (3, false), (4, false), (11, false), (17, false)] Tryd.f13 = some F107 := by kernel_rfl
theorem has107 : Has Tryd.prog N 107 F107 := fun _ _ _ hK => compF_sound htk hfk good hmix Tryd.func13 ok107 hK
-- cratewatch/tag.Check
theorem ok108 : compF Tryd.prog tk fk 1 [(0, false), (1, true), (2, false), (3, true), (4, false), (22, false), (27, false), (28, false), (29, false), (37, false), (39, false), (42, false), (50, false), (52, false), (55, false), (67, false)] Tryd.f8 = some F108 := by kernel_rfl
theorem has108 : Has Tryd.prog N 108 F108 := fun _ _ _ hK => compF_sound htk hfk good hmix Tryd.func8 ok108 hK
-- cratewatch/tag.ten
theorem ok117 : compF Tryd.prog tk fk 1 [(0, false), (2, false), (3, false), (4, false), (5, false), (6, false)] Tryd.f18 = some F117 := by kernel_rfl
theorem has117 : Has Tryd.prog N 117 F117 := fun _ _ _ hK => compF_sound htk hfk good hmix Tryd.func18 ok117 hK
end Go.Proofs.YthhepmakjimhlabDoor.CwTopTag
