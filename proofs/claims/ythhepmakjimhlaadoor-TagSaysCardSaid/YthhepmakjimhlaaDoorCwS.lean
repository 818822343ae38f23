/- The seat's own part: the functions that TagSays reaches, read into the language (closed facts). -/
import Derived.Test.YthhepmakjimhlaaDoorRows
import Derived.Test.YthhepmakjimhlaaDoorCw4
namespace Go.Proofs.YthhepmakjimhlaaDoor.CwTagSays
open Go Go.Cw Go.Proofs
set_option maxRecDepth 100000
set_option linter.unusedVariables false
def fks : List Nat := [0, 1, 2, 100000, 100000, 100000, 100000, 100000, 100000, 100000, 100000, 100000, 21, 28, 29, 100000, 100000, 100000, 100000, 6, 100000, 100000, 100000, 100000, 100000, 100000, 100000, 100000, 55, 58, 61, 59, 100000, 100000, 100000, 100000, 100000, 100000, 100000, 100000, 100000, 100000, 100000, 100000, 100000, 57, 100000, 100000, 100000, 100000, 60, 56, 73, 63, 100000, 92, 100000, 100000, 100000, 100000, 72, 100000, 100000, 100000, 100000, 14, 100000, 100000, 100000, 100000, 64, 100000, 100000, 100000, 100000, 100000, 100000, 100000, 100000, 33, 39, 16, 100000, 62, 100000, 34, 74, 100000, 100000, 100000, 100000, 100000, 100000, 100000, 100000, 100000, 100000, 114, 100000, 100000, 100000, 100000, 100000, 100000, 100000, 100000, 41, 35, 13, 100000, 17, 93, 100000, 100000, 100000, 100000, 100000, 38, 100000, 100000, 100000, 100000, 100000, 100000, 100000, 100000, 100000, 42, 10, 100000, 100000, 100000, 100000, 100000, 100000, 100000, 100000, 127, 128, 129, 130, 131, 132, 133, 134, 135, 136, 137, 138, 139, 140, 141, 8, 100000, 100000, 100000, 146, 3, 4, 5, 7, 9, 11, 12, 15, 18, 19, 20, 22, 23, 24, 25, 26, 27, 30, 31, 32, 36, 37, 40, 43, 44, 45, 46, 47, 48, 49, 50, 51, 52, 53, 54, 65, 66, 67, 68, 69, 70, 71, 75, 76, 77, 78, 79, 80, 81, 82, 83, 84, 85, 86, 87, 88, 89, 90, 91, 94, 95, 96, 97, 98, 99, 100, 101, 102, 103, 104, 105, 106, 107, 108, 109, 110, 111, 112, 113, 115, 116, 117, 118, 119, 120, 121, 122, 123, 124, 125, 126, 142, 143, 144, 145, 147, 148, 149, 150, 151, 152, 153, 154, 155, 156, 100000, 100000, 100000, 100000, 100000, 100000, 100000, 100000, 100000, 100000, 100000, 100000, 100000, 100000, 100000, 100000, 100000, 100000, 100000, 100000, 100000, 100000, 100000, 100000, 100000, 100000, 100000, 100000, 100000, 100000, 100000, 100000, 100000, 100000, 100000, 100000, 100000, 100000, 100000, 100000, 100000, 100000, 100000, 100000, 100000, 100000, 100000, 100000, 100000, 100000, 100000, 100000, 100000, 100000, 100000, 100000, 100000, 100000, 100000, 100000, 100000, 100000, 100000, 100000, 100000]
def tks : List Nat := [0, 1, 2, 3, 4, 5, 6, 7, 8, 9, 10, 11, 12, 13, 14, 15, 16, 17, 18, 19, 20, 21, 45, 30, 46, 55, 56, 57, 58, 59, 60, 61, 62, 63, 100000, 100000, 100000, 100000, 100000, 100000, 100000, 100000, 26, 27, 34, 100000, 25, 100000, 100000, 100000, 100000, 100000, 100000, 100000, 100000, 100000, 100000, 100000, 100000, 100000, 99, 100000, 101, 102, 91, 92, 93, 105, 97, 107, 100000, 100000, 100000, 100000, 100000, 100000, 100000, 100000, 100000, 100000, 100000, 100000, 100000, 100000, 100000, 100000, 100000, 100000, 100000, 100000, 22, 100000, 100000, 100000, 100000, 100000, 104, 100000, 100000, 100000, 100000, 100000, 106, 103, 123, 124, 100000, 100000, 142, 79, 100000, 23, 67, 100000, 100000, 100000, 100000, 96, 115, 116, 117, 118, 119, 120, 121, 108, 122, 100000, 100000, 100000, 100000, 100000, 100000, 100000, 100000, 100000, 37, 31, 32, 100000, 100000, 100000, 100000, 100000, 100000, 100000, 109, 100000, 100000, 141, 169, 100000, 100000, 100000, 100000, 100000, 100000, 168, 84, 100000, 100000, 100000, 69, 70, 71, 82, 83, 38, 39, 100000, 68, 88, 100000, 100000, 100000, 177, 149, 145, 76, 100000, 100000, 100000, 100000, 100000, 100000, 100000, 81, 72, 73, 74, 75, 36, 100000, 40, 41, 143, 100000, 100000, 100000, 100000, 100000, 100000, 110, 100000, 100000, 100000, 100000, 100000, 128, 100000, 100000, 33, 100000, 100000, 100000, 100000, 100000, 100000, 100000, 29, 184, 185, 186, 187, 188, 189, 190, 191, 154, 192, 193, 194, 195, 100000, 100000, 24, 28, 35, 42, 43, 44, 47, 48, 49, 50, 51, 52, 53, 54, 64, 65, 66, 77, 78, 80, 85, 86, 87, 89, 90, 94, 95, 98, 100, 111, 112, 113, 114, 125, 126, 127, 129, 130, 131, 132, 133, 134, 135, 136, 137, 138, 139, 140, 144, 146, 147, 148, 150, 151, 152, 153, 155, 156, 157, 158, 159, 160, 161, 162, 163, 164, 165, 166, 167, 170, 171, 172, 173, 174, 175, 176, 178, 179, 180, 181, 182, 183, 100000, 100000, 100000, 100000, 100000, 100000, 100000, 100000, 100000, 100000, 100000, 100000, 100000, 100000, 100000, 100000, 100000, 100000, 100000, 100000, 100000, 100000, 100000, 100000, 100000, 100000, 100000, 100000, 100000, 100000, 100000, 100000, 100000, 100000, 100000, 100000, 100000, 100000, 100000, 100000, 100000, 100000, 100000, 100000, 100000, 100000, 100000, 100000, 100000, 100000, 100000, 100000, 100000, 100000, 100000, 100000, 100000, 100000, 100000, 100000, 100000, 100000, 100000, 100000, 100000, 100000, 100000, 100000, 100000, 100000, 100000]
def pos : List Nat → Nat → Nat → Option Nat
  | [], _, _ => none
  | y :: r, x, i => if x = y then some i else pos r x (i + 1)
theorem pos_spec : ∀ (l : List Nat) (x i k : Nat), pos l x i = some k → i ≤ k ∧ l.getD (k - i) 0 = x := by
  intro l
  induction l with
  | nil => intro x i k h; simp [pos] at h
  | cons y r ih =>
    intro x i k h
    simp only [pos] at h
    split at h
    · rename_i e; cases h; exact ⟨Nat.le_refl _, by simp [e]⟩
    · obtain ⟨h1, h2⟩ := ih _ _ _ h
      refine ⟨by omega, ?_⟩
      have : k - i = (k - (i + 1)) + 1 := by omega
      rw [this, List.getD_cons_succ]; exact h2
def fk (f : Nat) : Option Nat := pos fks f 0
def tk (f : Nat) : Option Nat := pos tks f 0
def N : Num := ⟨fun k => fks.getD k 0, fun k => tks.getD k 0⟩
theorem htk : ∀ t k, tk t = some k → N.tid k = t := fun _ _ h => (pos_spec _ _ _ _ h).2
theorem hfk : ∀ f k, fk f = some k → N.fid k = f := fun _ _ h => (pos_spec _ _ _ _ h).2
theorem good : Go.Cw.Good Tryd.prog N (GF Tryd.prog N) := fun _ _ _ _ h => h
theorem hmix : Tryd.prog.follows .mixedOrders = true := by kernel_rfl
-- cratewatch/cratewatchlaw.same
theorem ok19 : compF Tryd.prog tk fk 2 [(0, false), (1, false), (4, false), (5, false), (6, false), (8, false)] Tryd.f6 = some F19 := by kernel_rfl
theorem has19 : Has Tryd.prog N 19 F19 := fun _ _ _ hK => compF_sound htk hfk good hmix Tryd.func6 ok19 hK
-- cratewatch/cratewatchref.TagBytes
theorem ok65 : compF Tryd.prog tk fk 1 [(0, false), (1, true), (2, false), (3, false), (5, false), (6, false), (7, false), (8, false), (9, false), (13, false), (14, false), (15, false), (19, false), (23, false), (27, false), (33, false), (39, false), (43, false), (45, false), (49, false), (60, false), (63, false), (66, false), (67, false)] Tryd.f14 = some F65 := by kernel_rfl
theorem has65 : Has Tryd.prog N 65 F65 := fun _ _ _ hK => compF_sound htk hfk good hmix Tryd.func14 ok65 hK
-- cratewatch/cratewatchref.Parts
theorem ok79 : compF Tryd.prog tk fk 1 [(0, false), (2, true), (3, false), (4, false), (5, false), (8, false), (11, false), (14, false), (17, false), (20, false)] Tryd.f33 = some F79 := by kernel_rfl
theorem has79 : Has Tryd.prog N 79 F79 := fun _ _ _ hK => compF_sound htk hfk good hmix Tryd.func33 ok79 hK
-- cratewatch/cratewatchref.bits
theorem ok80 : compF Tryd.prog tk fk 3 [(0, false), (1, false), (2, false), (6, false), (7, false), (11, false), (14, false), (20, false), (21, false)] Tryd.f39 = some F80 := by kernel_rfl
theorem has80 : Has Tryd.prog N 80 F80 := fun _ _ _ hK => compF_sound htk hfk good hmix Tryd.func39 ok80 hK
-- cratewatch/tag.Parse
theorem ok81 : compF Tryd.prog tk fk 1 [(0, false), (2, true), (3, false), (4, false), (5, false), (6, false), (7, false), (8, true), (9, false), (12, false), (14, false), (16, false), (17, false), (18, false), (30, false), (37, false), (38, false), (39, false), (41, false), (43, false), (47, false), (48, false), (50, false), (51, false), (52, false), (53, false), (54, false), (55, false), (56, false), (57, false), (58, false), (59, false), (65, false), (66, false), (68, false)] Tryd.f16 = some F81 := by kernel_rfl
theorem has81 : Has Tryd.prog N 81 F81 := fun _ _ _ hK => compF_sound htk hfk good hmix Tryd.func16 ok81 hK
-- cratewatch/cratewatchref.Decimal
theorem ok85 : compF Tryd.prog tk fk 1 [(0, false), (2, false), (3, false), (4, false), (5, false), (7, false), (11, false), (17, false), (24, false)] Tryd.f34 = some F85 := by kernel_rfl
theorem has85 : Has Tryd.prog N 85 F85 := fun _ _ _ hK => compF_sound htk hfk good hmix Tryd.func34 ok85 hK
-- cratewatch/tag.Parse$1
theorem ok106 : compF Tryd.prog tk fk 2 [(0, false), (1, false), (3, false), (4, false)] Tryd.f41 = some F106 := by kernel_rfl
theorem has106 : Has Tryd.prog N 106 F106 := fun _ _ _ hK => compF_sound htk hfk good hmix Tryd.func41 ok106 hK
-- cratewatch/tag.parts
theorem ok107 : compF Tryd.prog tk fk 1 [(0, false), (2, true), (3, false), (4, false), (11, false), (17, false)] Tryd.f35 = some F107 := by kernel_rfl
theorem has107 : Has Tryd.prog N 107 F107 := fun _ _ _ hK => compF_sound htk hfk good hmix Tryd.func35 ok107 hK
-- cratewatch/tag.Check
theorem ok108 : compF Tryd.prog tk fk 1 [(0, false), (1, true), (2, false), (3, true), (4, false), (22, false), (27, false), (28, false), (29, false), (37, false), (39, false), (42, false), (50, false), (52, false), (55, false), (67, false)] Tryd.f13 = some F108 := by kernel_rfl
theorem has108 : Has Tryd.prog N 108 F108 := fun _ _ _ hK => compF_sound htk hfk good hmix Tryd.func13 ok108 hK
-- cratewatch/cratewatchref.TagOf
theorem ok110 : compF Tryd.prog tk fk 1 [(0, false), (1, false), (2, true), (3, false), (4, false), (5, false), (6, true), (7, false), (8, false), (11, false), (15, false), (17, false), (19, false), (22, false), (27, false), (28, false), (29, false), (31, false), (36, false), (41, false), (44, false), (47, false), (48, false)] Tryd.f17 = some F110 := by kernel_rfl
theorem has110 : Has Tryd.prog N 110 F110 := fun _ _ _ hK => compF_sound htk hfk good hmix Tryd.func17 ok110 hK
-- cratewatch/tag.ten
theorem ok117 : compF Tryd.prog tk fk 1 [(0, false), (2, false), (3, false), (4, false), (5, false), (6, false)] Tryd.f38 = some F117 := by kernel_rfl
theorem has117 : Has Tryd.prog N 117 F117 := fun _ _ _ hK => compF_sound htk hfk good hmix Tryd.func38 ok117 hK
-- cratewatch/cratewatchref.TagOf$1
theorem ok127 : compF Tryd.prog tk fk 3 [(0, false), (1, false), (2, false), (4, false), (5, false), (6, false), (9, false)] Tryd.f42 = some F127 := by kernel_rfl
theorem has127 : Has Tryd.prog N 127 F127 := fun _ _ _ hK => compF_sound htk hfk good hmix Tryd.func42 ok127 hK
-- cratewatch/cratewatchref.TagFault
theorem ok128 : compF Tryd.prog tk fk 1 [(0, false), (1, true), (2, false), (3, false), (4, false), (8, false), (9, false), (10, false), (42, false), (46, false), (49, false), (52, false), (60, false), (63, false), (66, false), (68, false)] Tryd.f10 = some F128 := by kernel_rfl
theorem has128 : Has Tryd.prog N 128 F128 := fun _ _ _ hK => compF_sound htk hfk good hmix Tryd.func10 ok128 hK
-- cratewatch/cratewatchlaw.TagSays
theorem ok158 : compF Tryd.prog tk fk 3 [(0, false), (1, false), (2, false), (3, true), (6, false), (7, false), (8, false), (9, false), (10, false), (11, false), (12, false), (13, true), (14, false), (15, true), (16, false), (17, true), (18, false), (19, true), (20, false), (21, false), (33, false), (36, false), (39, false), (44, false), (48, false), (50, false), (52, false), (55, false), (58, false), (61, false), (74, false), (77, false), (78, false), (80, false), (82, false), (83, false), (85, false), (89, false), (92, false), (93, false), (94, false), (97, false), (98, false), (99, false), (103, false), (104, false), (106, false), (109, false), (112, false), (114, false), (117, false), (120, false), (121, false), (122, false), (125, false), (126, false), (127, false), (131, false), (132, false), (134, false), (137, false), (139, false), (141, false), (87, false), (115, false), (86, false)] Tryd.f4 = some F158 := by kernel_rfl
theorem has158 : Has Tryd.prog N 158 F158 := fun _ _ _ hK => compF_sound htk hfk good hmix Tryd.func4 ok158 hK
-- cratewatch/cratewatchlaw.tags
theorem ok161 : compF Tryd.prog tk fk 0 [(0, false), (1, false), (2, false), (5, false), (9, false)] Tryd.f9 = some F161 := by kernel_rfl
theorem has161 : Has Tryd.prog N 161 F161 := fun _ _ _ hK => compF_sound htk hfk good hmix Tryd.func9 ok161 hK
-- cratewatch/tag.Bytes
theorem ok162 : compF Tryd.prog tk fk 1 [(0, false), (1, true), (2, false), (3, false), (4, false), (5, true), (7, false), (9, false), (10, false), (11, false), (13, false), (15, false), (20, false), (21, false), (22, false), (46, false), (47, false), (48, false), (49, false), (51, false), (62, false), (65, false), (70, false), (71, false)] Tryd.f11 = some F162 := by kernel_rfl
theorem has162 : Has Tryd.prog N 162 F162 := fun _ _ _ hK => compF_sound htk hfk good hmix Tryd.func11 ok162 hK
-- cratewatch/tag.Text
theorem ok163 : compF Tryd.prog tk fk 1 [(0, false), (1, true), (2, false), (3, false), (4, false), (5, true), (8, false), (10, false), (15, false), (16, false), (17, false), (20, false), (21, false), (23, false), (24, false), (26, false), (28, false), (30, false), (31, false), (33, false), (35, false), (37, false), (38, false), (40, false), (42, false), (43, false)] Tryd.f12 = some F163 := by kernel_rfl
theorem has163 : Has Tryd.prog N 163 F163 := fun _ _ _ hK => compF_sound htk hfk good hmix Tryd.func12 ok163 hK
-- cratewatch/cratewatchref.TagText
theorem ok164 : compF Tryd.prog tk fk 1 [(0, false), (1, true), (2, false), (3, false), (5, false), (9, false), (10, false), (11, false), (14, false), (17, false), (19, false), (22, false), (24, false), (26, false), (28, false), (29, false), (31, false), (33, false), (35, false), (36, false), (38, false), (40, false), (41, false)] Tryd.f15 = some F164 := by kernel_rfl
theorem has164 : Has Tryd.prog N 164 F164 := fun _ _ _ hK => compF_sound htk hfk good hmix Tryd.func15 ok164 hK
-- cratewatch/tag.Of
theorem ok165 : compF Tryd.prog tk fk 1 [(0, false), (2, true), (3, false), (4, false), (5, false), (7, false), (8, false), (9, false), (10, false), (11, false), (12, false), (13, false), (14, false), (15, false), (16, false), (19, false), (24, false), (27, false), (29, false), (30, false), (31, false), (32, false), (33, false), (39, false), (43, false), (45, false), (63, false), (65, false), (69, false), (71, false), (76, false), (85, false), (87, false), (22, false)] Tryd.f18 = some F165 := by kernel_rfl
theorem has165 : Has Tryd.prog N 165 F165 := fun _ _ _ hK => compF_sound htk hfk good hmix Tryd.func18 ok165 hK
-- cratewatch/cratewatchref.TagRead
theorem ok166 : compF Tryd.prog tk fk 1 [(0, false), (2, true), (3, false), (4, false), (5, false), (6, false), (7, false), (8, false), (9, false), (10, false), (11, false), (12, true), (14, false), (17, false), (22, false), (25, false), (28, false), (36, false), (40, false), (46, false), (50, false), (63, false), (65, false), (67, false), (69, false), (72, false)] Tryd.f19 = some F166 := by kernel_rfl
theorem has166 : Has Tryd.prog N 166 F166 := fun _ _ _ hK => compF_sound htk hfk good hmix Tryd.func19 ok166 hK
-- cratewatch/tag.name
theorem ok177 : compF Tryd.prog tk fk 1 [(0, false), (2, false)] Tryd.f36 = some F177 := by kernel_rfl
theorem has177 : Has Tryd.prog N 177 F177 := fun _ _ _ hK => compF_sound htk hfk good hmix Tryd.func36 ok177 hK
-- cratewatch/tag.padded
theorem ok178 : compF Tryd.prog tk fk 2 [(0, false), (1, false), (4, false), (5, false), (7, false), (13, false)] Tryd.f37 = some F178 := by kernel_rfl
theorem has178 : Has Tryd.prog N 178 F178 := fun _ _ _ hK => compF_sound htk hfk good hmix Tryd.func37 ok178 hK
-- cratewatch/cratewatchref.wide
theorem ok179 : compF Tryd.prog tk fk 2 [(0, false), (1, false), (4, false), (5, false), (7, false), (11, false)] Tryd.f40 = some F179 := by kernel_rfl
theorem has179 : Has Tryd.prog N 179 F179 := fun _ _ _ hK => compF_sound htk hfk good hmix Tryd.func40 ok179 hK
-- cratewatch/tag.number
theorem ok182 : compF Tryd.prog tk fk 1 [(0, false), (2, false), (3, false), (4, false), (5, false), (12, false), (14, false), (15, false), (16, false), (27, false)] Tryd.f45 = some F182 := by kernel_rfl
theorem has182 : Has Tryd.prog N 182 F182 := fun _ _ _ hK => compF_sound htk hfk good hmix Tryd.func45 ok182 hK
-- cratewatch/cratewatchref.cut
theorem ok183 : compF Tryd.prog tk fk 2 [(0, false), (1, false), (4, false), (5, false), (6, false), (7, false), (11, false), (24, false), (25, false), (30, false), (31, false)] Tryd.f46 = some F183 := by kernel_rfl
theorem has183 : Has Tryd.prog N 183 F183 := fun _ _ _ hK => compF_sound htk hfk good hmix Tryd.func46 ok183 hK
-- cratewatch/cratewatchref.figures
theorem ok184 : compF Tryd.prog tk fk 1 [(0, false), (2, false), (3, false), (4, false), (5, false), (9, false), (25, false)] Tryd.f47 = some F184 := by kernel_rfl
theorem has184 : Has Tryd.prog N 184 F184 := fun _ _ _ hK => compF_sound htk hfk good hmix Tryd.func47 ok184 hK
end Go.Proofs.YthhepmakjimhlaaDoor.CwTagSays
