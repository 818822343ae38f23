/- The seat's own part: the functions that RuleSays reaches, read into the language (closed facts). -/
import Derived.Test.YthhepmakjimhlaaDoorRows
import Derived.Test.YthhepmakjimhlaaDoorCw5
namespace Go.Proofs.YthhepmakjimhlaaDoor.CwRuleSays
open Go Go.Cw Go.Proofs
set_option maxRecDepth 100000
set_option linter.unusedVariables false
def fks : List Nat := [0, 1, 2, 100000, 100000, 100000, 100000, 100000, 100000, 100000, 100000, 100000, 21, 28, 29, 100000, 100000, 100000, 100000, 6, 100000, 100000, 100000, 100000, 100000, 100000, 100000, 100000, 55, 58, 61, 59, 100000, 100000, 100000, 100000, 100000, 100000, 100000, 100000, 100000, 100000, 100000, 100000, 100000, 57, 100000, 100000, 100000, 100000, 60, 56, 73, 63, 100000, 92, 100000, 100000, 100000, 100000, 72, 100000, 100000, 100000, 100000, 14, 100000, 100000, 100000, 100000, 64, 100000, 100000, 100000, 100000, 100000, 100000, 100000, 100000, 33, 39, 16, 100000, 62, 100000, 34, 74, 100000, 100000, 100000, 100000, 100000, 100000, 100000, 100000, 100000, 100000, 114, 100000, 100000, 100000, 100000, 100000, 100000, 100000, 100000, 41, 35, 13, 100000, 17, 93, 100000, 100000, 100000, 100000, 100000, 38, 100000, 100000, 100000, 100000, 100000, 100000, 100000, 100000, 100000, 42, 10, 100000, 100000, 100000, 100000, 100000, 100000, 100000, 100000, 127, 128, 129, 130, 131, 132, 133, 134, 135, 136, 137, 138, 139, 140, 141, 8, 100000, 100000, 100000, 146, 3, 4, 5, 7, 9, 11, 12, 15, 18, 19, 20, 22, 23, 24, 25, 26, 27, 30, 31, 32, 36, 37, 40, 43, 44, 45, 46, 47, 48, 49, 50, 51, 52, 53, 54, 65, 66, 67, 68, 69, 70, 71, 75, 76, 77, 78, 79, 80, 81, 82, 83, 84, 85, 86, 87, 88, 89, 90, 91, 94, 95, 96, 97, 98, 99, 100, 101, 102, 103, 104, 105, 106, 107, 108, 109, 110, 111, 112, 113, 115, 116, 117, 118, 119, 120, 121, 122, 123, 124, 125, 126, 142, 143, 144, 145, 147, 148, 149, 150, 151, 152, 153, 154, 155, 156, 100000, 100000, 100000, 100000, 100000, 100000, 100000, 100000, 100000, 100000, 100000, 100000, 100000, 100000, 100000, 100000, 100000, 100000, 100000, 100000, 100000, 100000, 100000, 100000, 100000, 100000, 100000, 100000, 100000, 100000, 100000, 100000, 100000, 100000, 100000, 100000, 100000, 100000, 100000, 100000, 100000, 100000, 100000, 100000, 100000, 100000, 100000, 100000, 100000, 100000, 100000, 100000, 100000, 100000, 100000, 100000, 100000, 100000, 100000, 100000, 100000, 100000, 100000, 100000, 100000]
def tks : List Nat := [0, 1, 2, 3, 4, 5, 6, 7, 8, 9, 10, 11, 12, 13, 14, 15, 16, 17, 18, 19, 20, 21, 45, 30, 46, 55, 56, 57, 58, 59, 60, 61, 62, 63, 100000, 100000, 100000, 100000, 100000, 100000, 100000, 100000, 26, 27, 34, 100000, 25, 100000, 100000, 100000, 100000, 100000, 100000, 100000, 100000, 100000, 100000, 100000, 100000, 100000, 99, 100000, 101, 102, 91, 92, 93, 105, 97, 107, 100000, 100000, 100000, 100000, 100000, 100000, 100000, 100000, 100000, 100000, 100000, 100000, 100000, 100000, 100000, 100000, 100000, 100000, 100000, 100000, 22, 100000, 100000, 100000, 100000, 100000, 104, 100000, 100000, 100000, 100000, 100000, 106, 103, 123, 124, 100000, 100000, 142, 79, 100000, 23, 67, 100000, 100000, 100000, 100000, 96, 115, 116, 117, 118, 119, 120, 121, 108, 122, 100000, 100000, 100000, 100000, 100000, 100000, 100000, 100000, 100000, 37, 31, 32, 100000, 100000, 100000, 100000, 100000, 100000, 100000, 109, 100000, 100000, 141, 169, 100000, 100000, 100000, 100000, 100000, 100000, 168, 84, 100000, 100000, 100000, 69, 70, 71, 82, 83, 38, 39, 100000, 68, 88, 100000, 100000, 100000, 177, 149, 145, 76, 100000, 100000, 100000, 100000, 100000, 100000, 100000, 81, 72, 73, 74, 75, 36, 100000, 40, 41, 143, 100000, 100000, 100000, 100000, 100000, 100000, 110, 100000, 100000, 100000, 100000, 100000, 128, 100000, 100000, 33, 100000, 100000, 100000, 100000, 100000, 100000, 100000, 29, 184, 185, 186, 187, 188, 189, 190, 191, 154, 192, 193, 194, 195, 100000, 100000, 24, 28, 35, 42, 43, 44, 47, 48, 49, 50, 51, 52, 53, 54, 64, 65, 66, 77, 78, 80, 85, 86, 87, 89, 90, 94, 95, 98, 100, 111, 112, 113, 114, 125, 126, 127, 129, 130, 131, 132, 133, 134, 135, 136, 137, 138, 139, 140, 144, 146, 147, 148, 150, 151, 152, 153, 155, 156, 157, 158, 159, 160, 161, 162, 163, 164, 165, 166, 167, 170, 171, 172, 173, 174, 175, 176, 178, 179, 180, 181, 182, 183, 100000, 100000, 100000, 100000, 100000, 100000, 100000, 100000, 100000, 100000, 100000, 100000, 100000, 100000, 100000, 100000, 100000, 100000, 100000, 100000, 100000, 100000, 100000, 100000, 100000, 100000, 100000, 100000, 100000, 100000, 100000, 100000, 100000, 100000, 100000, 100000, 100000, 100000, 100000, 100000, 100000, 100000, 100000, 100000, 100000, 100000, 100000, 100000, 100000, 100000, 100000, 100000, 100000, 100000, 100000, 100000, 100000, 100000, 100000, 100000, 100000, 100000, 100000, 100000, 100000, 100000, 100000, 100000, 100000, 100000, 100000]
def pos : List Nat → Nat → Nat → Option Nat
  | [], _, _ => none
  | y :: r, x, i => if x = y then some i else pos r x (i + 1)
theorem pos_spec : ∀ (l : List Nat) (x i k : Nat), pos l x i = some k → i ≤ k ∧ l.getD (k - i) 0 = x := by
  intro l
  induction l with
  | nil => intro x i k h; simp [pos] at h
  | cons y r ih =>
    intro x i k h
    simp only [pos] at h
    split at h
    · rename_i e; cases h; exact ⟨Nat.le_refl _, by simp [e]⟩
    · obtain ⟨h1, h2⟩ := ih _ _ _ h
      refine ⟨by omega, ?_⟩
      have : k - i = (k - (i + 1)) + 1 := by omega
      rw [this, List.getD_cons_succ]; exact h2
def fk (f : Nat) : Option Nat := pos fks f 0
def tk (f : Nat) : Option Nat := pos tks f 0
def N : Num := ⟨fun k => fks.getD k 0, fun k => tks.getD k 0⟩
theorem htk : ∀ t k, tk t = some k → N.tid k = t := fun _ _ h => (pos_spec _ _ _ _ h).2
theorem hfk : ∀ f k, fk f = some k → N.fid k = f := fun _ _ h => (pos_spec _ _ _ _ h).2
theorem good : Go.Cw.Good Tryd.prog N (GF Tryd.prog N) := fun _ _ _ _ h => h
theorem hmix : Tryd.prog.follows .mixedOrders = true := by kernel_rfl
-- cratewatch/cratewatchlaw.LightEpochs
theorem ok12 : compF Tryd.prog tk fk 1 [(0, false), (2, false), (3, false), (4, false), (7, false), (11, false), (19, false), (26, false), (38, false)] Tryd.f21 = some F12 := by kernel_rfl
theorem has12 : Has Tryd.prog N 12 F12 := fun _ _ _ hK => compF_sound htk hfk good hmix Tryd.func21 ok12 hK
-- cratewatch/cratewatchlaw.tracked
theorem ok13 : compF Tryd.prog tk fk 3 [(0, false), (1, false), (2, false), (6, false), (7, false), (8, false), (9, false), (10, false), (11, false), (12, false), (13, false), (14, false), (18, false), (35, false), (37, false), (47, false), (50, false), (54, false), (60, false), (61, false), (62, false), (63, false), (64, false), (69, false), (76, false), (79, false), (80, false), (81, false), (83, false), (85, false), (90, false), (92, false), (96, false)] Tryd.f28 = some F13 := by kernel_rfl
theorem has13 : Has Tryd.prog N 13 F13 := fun _ _ _ hK => compF_sound htk hfk good hmix Tryd.func28 ok13 hK
-- (*cratewatch/cratewatchref.Track).Tags
theorem ok14 : compF Tryd.prog tk fk 2 [(0, false), (1, false), (4, false), (5, false), (6, false), (7, false), (8, false), (9, false), (21, false), (33, false), (58, false), (72, false), (73, false), (74, false), (75, false)] Tryd.f29 = some F14 := by kernel_rfl
theorem has14 : Has Tryd.prog N 14 F14 := fun _ _ _ hK => compF_sound htk hfk good hmix Tryd.func29 ok14 hK
-- cratewatch/cratewatchlaw.same
theorem ok19 : compF Tryd.prog tk fk 2 [(0, false), (1, false), (4, false), (5, false), (6, false), (8, false)] Tryd.f6 = some F19 := by kernel_rfl
theorem has19 : Has Tryd.prog N 19 F19 := fun _ _ _ hK => compF_sound htk hfk good hmix Tryd.func6 ok19 hK
-- cratewatch/track.New
theorem ok28 : compF Tryd.prog tk fk 2 [(0, false), (1, false), (4, false), (5, false), (20, false), (22, false), (23, false), (24, false), (26, false)] Tryd.f55 = some F28 := by kernel_rfl
theorem has28 : Has Tryd.prog N 28 F28 := fun _ _ _ hK => compF_sound htk hfk good hmix Tryd.func55 ok28 hK
-- (*cratewatch/track.Track).Tell
theorem ok29 : compF Tryd.prog tk fk 2 [(0, false), (1, false), (4, false), (5, false), (7, true), (8, false), (9, false), (10, false), (11, false), (12, false), (13, false), (14, false), (15, false), (17, false), (35, false), (41, false), (42, false), (44, false), (45, false), (57, false), (61, false), (63, false), (64, false), (68, false), (69, false), (70, false), (71, false), (79, false), (83, false), (84, false), (85, false), (90, false), (91, false), (92, false), (93, false), (104, false), (105, false), (106, false), (107, false), (111, false), (112, false), (113, false), (116, false), (117, false), (118, false)] Tryd.f58 = some F29 := by kernel_rfl
theorem has29 : Has Tryd.prog N 29 F29 := fun _ _ _ hK => compF_sound htk hfk good hmix Tryd.func58 ok29 hK
-- (*cratewatch/track.Track).Where
theorem ok30 : compF Tryd.prog tk fk 3 [(0, false), (1, false), (2, false), (6, false), (7, false), (8, false), (9, false), (20, false), (32, false)] Tryd.f61 = some F30 := by kernel_rfl
theorem has30 : Has Tryd.prog N 30 F30 := fun _ _ _ hK => compF_sound htk hfk good hmix Tryd.func61 ok30 hK
-- (*cratewatch/track.Track).Epochs
theorem ok31 : compF Tryd.prog tk fk 1 [(0, false), (2, false)] Tryd.f59 = some F31 := by kernel_rfl
theorem has31 : Has Tryd.prog N 31 F31 := fun _ _ _ hK => compF_sound htk hfk good hmix Tryd.func59 ok31 hK
-- (*cratewatch/cratewatchref.Track).Tell
theorem ok45 : compF Tryd.prog tk fk 2 [(0, false), (1, false), (4, false), (5, false), (9, false), (41, false), (42, false), (46, false), (48, false), (49, false), (50, false), (53, false), (54, false)] Tryd.f57 = some F45 := by kernel_rfl
theorem has45 : Has Tryd.prog N 45 F45 := fun _ _ _ hK => compF_sound htk hfk good hmix Tryd.func57 ok45 hK
-- (*cratewatch/track.Track).Comes
theorem ok50 : compF Tryd.prog tk fk 4 [(0, false), (1, false), (2, false), (3, false), (8, false), (9, false), (10, false), (11, false), (17, false), (30, false), (32, false), (38, false), (40, false)] Tryd.f60 = some F50 := by kernel_rfl
theorem has50 : Has Tryd.prog N 50 F50 := fun _ _ _ hK => compF_sound htk hfk good hmix Tryd.func60 ok50 hK
-- cratewatch/cratewatchref.NewTrack
theorem ok51 : compF Tryd.prog tk fk 2 [(0, false), (1, false), (4, false), (5, false), (6, false), (7, false), (9, false)] Tryd.f56 = some F51 := by kernel_rfl
theorem has51 : Has Tryd.prog N 51 F51 := fun _ _ _ hK => compF_sound htk hfk good hmix Tryd.func56 ok51 hK
-- (*cratewatch/cratewatchref.Track).Where
theorem ok52 : compF Tryd.prog tk fk 3 [(0, false), (1, false), (2, false), (6, false), (7, false), (8, false), (19, false), (27, false), (29, false), (33, false)] Tryd.f73 = some F52 := by kernel_rfl
theorem has52 : Has Tryd.prog N 52 F52 := fun _ _ _ hK => compF_sound htk hfk good hmix Tryd.func73 ok52 hK
-- (*cratewatch/cratewatchref.Track).Comes
theorem ok53 : compF Tryd.prog tk fk 4 [(0, false), (1, false), (2, false), (3, false), (8, false), (9, false), (10, false), (15, false), (28, false), (31, false), (36, false)] Tryd.f63 = some F53 := by kernel_rfl
theorem has53 : Has Tryd.prog N 53 F53 := fun _ _ _ hK => compF_sound htk hfk good hmix Tryd.func63 ok53 hK
-- (*cratewatch/cratewatchref.Track).Told
theorem ok55 : compF Tryd.prog tk fk 3 [(0, false), (1, false), (2, false), (6, false), (7, false), (8, false), (20, false), (32, false), (47, false)] Tryd.f92 = some F55 := by kernel_rfl
theorem has55 : Has Tryd.prog N 55 F55 := fun _ _ _ hK => compF_sound htk hfk good hmix Tryd.func92 ok55 hK
-- (*cratewatch/track.Track).place
theorem ok60 : compF Tryd.prog tk fk 2 [(0, false), (1, false), (4, false), (5, false), (6, false), (7, false), (9, false), (10, false), (11, false), (12, false), (13, false), (14, false), (31, false), (32, false), (33, false), (34, false), (40, false), (41, false), (42, false), (43, false), (58, false), (59, false), (60, false), (68, false), (93, false)] Tryd.f72 = some F60 := by kernel_rfl
theorem has60 : Has Tryd.prog N 60 F60 := fun _ _ _ hK => compF_sound htk hfk good hmix Tryd.func72 ok60 hK
-- (*cratewatch/cratewatchref.Track).At
theorem ok70 : compF Tryd.prog tk fk 3 [(0, false), (1, false), (2, false), (6, false), (7, false), (8, false), (9, false), (11, false), (13, false), (25, false), (29, false)] Tryd.f64 = some F70 := by kernel_rfl
theorem has70 : Has Tryd.prog N 70 F70 := fun _ _ _ hK => compF_sound htk hfk good hmix Tryd.func64 ok70 hK
-- cratewatch/cratewatchref.Parts
theorem ok79 : compF Tryd.prog tk fk 1 [(0, false), (2, true), (3, false), (4, false), (5, false), (8, false), (11, false), (14, false), (17, false), (20, false)] Tryd.f33 = some F79 := by kernel_rfl
theorem has79 : Has Tryd.prog N 79 F79 := fun _ _ _ hK => compF_sound htk hfk good hmix Tryd.func33 ok79 hK
-- cratewatch/tag.Parse
theorem ok81 : compF Tryd.prog tk fk 1 [(0, false), (2, true), (3, false), (4, false), (5, false), (6, false), (7, false), (8, true), (9, false), (12, false), (14, false), (16, false), (17, false), (18, false), (30, false), (37, false), (38, false), (39, false), (41, false), (43, false), (47, false), (48, false), (50, false), (51, false), (52, false), (53, false), (54, false), (55, false), (56, false), (57, false), (58, false), (59, false), (65, false), (66, false), (68, false)] Tryd.f16 = some F81 := by kernel_rfl
theorem has81 : Has Tryd.prog N 81 F81 := fun _ _ _ hK => compF_sound htk hfk good hmix Tryd.func16 ok81 hK
-- cratewatch/cratewatchref.kind
theorem ok83 : compF Tryd.prog tk fk 1 [(0, false), (2, false), (3, true), (4, false), (7, false), (8, false), (9, false), (11, false)] Tryd.f62 = some F83 := by kernel_rfl
theorem has83 : Has Tryd.prog N 83 F83 := fun _ _ _ hK => compF_sound htk hfk good hmix Tryd.func62 ok83 hK
-- cratewatch/cratewatchref.Decimal
theorem ok85 : compF Tryd.prog tk fk 1 [(0, false), (2, false), (3, false), (4, false), (5, false), (7, false), (11, false), (17, false), (24, false)] Tryd.f34 = some F85 := by kernel_rfl
theorem has85 : Has Tryd.prog N 85 F85 := fun _ _ _ hK => compF_sound htk hfk good hmix Tryd.func34 ok85 hK
-- (*cratewatch/cratewatchref.Track).at
theorem ok86 : compF Tryd.prog tk fk 3 [(0, false), (1, false), (2, false), (6, false), (7, false), (8, false), (9, false), (10, false), (11, false), (12, false), (14, false), (22, false), (30, false), (47, false)] Tryd.f74 = some F86 := by kernel_rfl
theorem has86 : Has Tryd.prog N 86 F86 := fun _ _ _ hK => compF_sound htk hfk good hmix Tryd.func74 ok86 hK
-- cratewatch/tag.Parse$1
theorem ok106 : compF Tryd.prog tk fk 2 [(0, false), (1, false), (3, false), (4, false)] Tryd.f41 = some F106 := by kernel_rfl
theorem has106 : Has Tryd.prog N 106 F106 := fun _ _ _ hK => compF_sound htk hfk good hmix Tryd.func41 ok106 hK
-- cratewatch/tag.parts
theorem ok107 : compF Tryd.prog tk fk 1 [(0, false), (2, true), (3, false), (4, false), (11, false), (17, false)] Tryd.f35 = some F107 := by kernel_rfl
theorem has107 : Has Tryd.prog N 107 F107 := fun _ _ _ hK => compF_sound htk hfk good hmix Tryd.func35 ok107 hK
-- cratewatch/tag.Check
theorem ok108 : compF Tryd.prog tk fk 1 [(0, false), (1, true), (2, false), (3, true), (4, false), (22, false), (27, false), (28, false), (29, false), (37, false), (39, false), (42, false), (50, false), (52, false), (55, false), (67, false)] Tryd.f13 = some F108 := by kernel_rfl
theorem has108 : Has Tryd.prog N 108 F108 := fun _ _ _ hK => compF_sound htk hfk good hmix Tryd.func13 ok108 hK
-- cratewatch/cratewatchref.TagOf
theorem ok110 : compF Tryd.prog tk fk 1 [(0, false), (1, false), (2, true), (3, false), (4, false), (5, false), (6, true), (7, false), (8, false), (11, false), (15, false), (17, false), (19, false), (22, false), (27, false), (28, false), (29, false), (31, false), (36, false), (41, false), (44, false), (47, false), (48, false)] Tryd.f17 = some F110 := by kernel_rfl
theorem has110 : Has Tryd.prog N 110 F110 := fun _ _ _ hK => compF_sound htk hfk good hmix Tryd.func17 ok110 hK
-- (*cratewatch/cratewatchref.Track).Counts
theorem ok111 : compF Tryd.prog tk fk 4 [(0, false), (1, false), (2, false), (3, false), (8, false), (9, false), (10, false), (11, false), (12, false), (13, false), (14, false), (15, true), (26, false), (38, false), (50, false), (60, false), (65, false)] Tryd.f93 = some F111 := by kernel_rfl
theorem has111 : Has Tryd.prog N 111 F111 := fun _ _ _ hK => compF_sound htk hfk good hmix Tryd.func93 ok111 hK
-- cratewatch/tag.ten
theorem ok117 : compF Tryd.prog tk fk 1 [(0, false), (2, false), (3, false), (4, false), (5, false), (6, false)] Tryd.f38 = some F117 := by kernel_rfl
theorem has117 : Has Tryd.prog N 117 F117 := fun _ _ _ hK => compF_sound htk hfk good hmix Tryd.func38 ok117 hK
-- cratewatch/cratewatchref.TagOf$1
theorem ok127 : compF Tryd.prog tk fk 3 [(0, false), (1, false), (2, false), (4, false), (5, false), (6, false), (9, false)] Tryd.f42 = some F127 := by kernel_rfl
theorem has127 : Has Tryd.prog N 127 F127 := fun _ _ _ hK => compF_sound htk hfk good hmix Tryd.func42 ok127 hK
-- cratewatch/cratewatchref.TagFault
theorem ok128 : compF Tryd.prog tk fk 1 [(0, false), (1, true), (2, false), (3, false), (4, false), (8, false), (9, false), (10, false), (42, false), (46, false), (49, false), (52, false), (60, false), (63, false), (66, false), (68, false)] Tryd.f10 = some F128 := by kernel_rfl
theorem has128 : Has Tryd.prog N 128 F128 := fun _ _ _ hK => compF_sound htk hfk good hmix Tryd.func10 ok128 hK
-- cratewatch/cratewatchlaw.RuleSays
theorem ok159 : compF Tryd.prog tk fk 5 [(0, false), (1, false), (2, false), (3, false), (4, false), (5, true), (10, false), (11, false), (12, false), (13, false), (14, false), (15, true), (16, true), (17, false), (18, false), (19, false), (20, false), (21, false), (22, false), (23, false), (24, false), (27, false), (29, false), (42, false), (45, false), (48, false), (52, false), (54, false), (56, false), (59, false), (70, false), (73, false), (74, false), (76, false), (79, false), (82, false), (83, false), (84, false), (87, false), (88, false), (89, false), (93, false), (94, false), (96, false), (99, false), (102, false), (104, false), (107, false), (112, false), (121, false), (129, false), (130, false), (131, false), (135, false), (144, false), (154, false), (155, false), (156, false), (160, false), (161, false), (162, false), (163, false), (77, false), (105, false)] Tryd.f5 = some F159 := by kernel_rfl
theorem has159 : Has Tryd.prog N 159 F159 := fun _ _ _ hK => compF_sound htk hfk good hmix Tryd.func5 ok159 hK
-- cratewatch/cratewatchlaw.ruled
theorem ok167 : compF Tryd.prog tk fk 0 [(0, false), (1, false), (2, false), (5, false), (9, false)] Tryd.f20 = some F167 := by kernel_rfl
theorem has167 : Has Tryd.prog N 167 F167 := fun _ _ _ hK => compF_sound htk hfk good hmix Tryd.func20 ok167 hK
-- cratewatch/cratewatchref.RuleFault
theorem ok168 : compF Tryd.prog tk fk 1 [(0, false), (1, true), (2, false), (3, false), (13, false), (18, false), (32, false), (80, false), (99, false)] Tryd.f22 = some F168 := by kernel_rfl
theorem has168 : Has Tryd.prog N 168 F168 := fun _ _ _ hK => compF_sound htk hfk good hmix Tryd.func22 ok168 hK
-- cratewatch/rule.Text
theorem ok169 : compF Tryd.prog tk fk 1 [(0, false), (1, true), (2, false), (3, false), (4, false), (5, false), (7, false), (9, false), (13, false), (14, false), (16, false), (19, false), (21, false), (22, false), (24, false), (26, false), (27, false), (31, false), (32, false), (35, false), (39, false), (42, false)] Tryd.f23 = some F169 := by kernel_rfl
theorem has169 : Has Tryd.prog N 169 F169 := fun _ _ _ hK => compF_sound htk hfk good hmix Tryd.func23 ok169 hK
-- cratewatch/rule.Check
theorem ok170 : compF Tryd.prog tk fk 1 [(0, false), (1, true), (2, false), (5, false), (6, false), (55, false), (75, false)] Tryd.f24 = some F170 := by kernel_rfl
theorem has170 : Has Tryd.prog N 170 F170 := fun _ _ _ hK => compF_sound htk hfk good hmix Tryd.func24 ok170 hK
-- cratewatch/cratewatchref.RuleText
theorem ok171 : compF Tryd.prog tk fk 1 [(0, false), (1, true), (2, false), (3, false), (6, false), (7, false), (9, false), (12, false), (14, false), (15, false), (17, false), (19, false), (20, false), (24, false), (26, false), (29, false), (32, false), (35, false)] Tryd.f25 = some F171 := by kernel_rfl
theorem has171 : Has Tryd.prog N 171 F171 := fun _ _ _ hK => compF_sound htk hfk good hmix Tryd.func25 ok171 hK
-- cratewatch/rule.Parse
theorem ok172 : compF Tryd.prog tk fk 1 [(0, false), (2, true), (3, false), (4, false), (5, true), (6, false), (7, false), (8, false), (9, false), (10, false), (11, false), (12, false), (13, false), (15, false), (16, false), (17, false), (20, false), (21, false), (24, false), (25, false), (26, false), (27, false), (32, false), (37, false), (42, false), (45, false), (46, false), (48, false), (53, false), (57, false), (66, false), (68, false)] Tryd.f26 = some F172 := by kernel_rfl
theorem has172 : Has Tryd.prog N 172 F172 := fun _ _ _ hK => compF_sound htk hfk good hmix Tryd.func26 ok172 hK
-- cratewatch/cratewatchref.RuleOf
theorem ok173 : compF Tryd.prog tk fk 1 [(0, false), (2, true), (3, false), (4, false), (5, false), (6, false), (7, false), (8, false), (9, false), (10, false), (11, false), (12, false), (13, false), (14, false), (16, false), (31, false), (42, false), (44, false), (47, false), (48, false), (52, false), (53, false), (60, false), (67, false), (77, false), (89, false), (99, false), (104, false), (108, false), (113, false), (115, false), (117, false), (120, false)] Tryd.f27 = some F173 := by kernel_rfl
theorem has173 : Has Tryd.prog N 173 F173 := fun _ _ _ hK => compF_sound htk hfk good hmix Tryd.func27 ok173 hK
-- cratewatch/rule.Holds
theorem ok174 : compF Tryd.prog tk fk 4 [(0, false), (1, false), (2, false), (3, false), (5, true), (8, false), (9, true), (10, false), (11, false), (12, false), (15, false), (17, false), (23, false), (25, false), (28, false), (29, false), (30, false), (44, false), (53, false), (61, false), (66, false), (77, false), (68, false)] Tryd.f30 = some F174 := by kernel_rfl
theorem has174 : Has Tryd.prog N 174 F174 := fun _ _ _ hK => compF_sound htk hfk good hmix Tryd.func30 ok174 hK
-- (*cratewatch/cratewatchref.Track).Holds
theorem ok175 : compF Tryd.prog tk fk 4 [(0, false), (1, false), (2, false), (3, false), (5, true), (8, false), (9, false), (10, false), (11, false), (12, false), (13, false), (15, false), (17, false), (33, false), (39, false), (41, false), (49, false), (57, false), (65, false), (71, false), (75, false), (77, false), (79, false), (80, false)] Tryd.f31 = some F175 := by kernel_rfl
theorem has175 : Has Tryd.prog N 175 F175 := fun _ _ _ hK => compF_sound htk hfk good hmix Tryd.func31 ok175 hK
-- cratewatch/cratewatchref.cut
theorem ok183 : compF Tryd.prog tk fk 2 [(0, false), (1, false), (4, false), (5, false), (6, false), (7, false), (11, false), (24, false), (25, false), (30, false), (31, false)] Tryd.f46 = some F183 := by kernel_rfl
theorem has183 : Has Tryd.prog N 183 F183 := fun _ _ _ hK => compF_sound htk hfk good hmix Tryd.func46 ok183 hK
-- cratewatch/cratewatchref.figures
theorem ok184 : compF Tryd.prog tk fk 1 [(0, false), (2, false), (3, false), (4, false), (5, false), (9, false), (25, false)] Tryd.f47 = some F184 := by kernel_rfl
theorem has184 : Has Tryd.prog N 184 F184 := fun _ _ _ hK => compF_sound htk hfk good hmix Tryd.func47 ok184 hK
-- cratewatch/rule.kinds
theorem ok185 : compF Tryd.prog tk fk 0 [(0, true)] Tryd.f48 = some F185 := by kernel_rfl
theorem has185 : Has Tryd.prog N 185 F185 := fun _ _ _ hK => compF_sound htk hfk good hmix Tryd.func48 ok185 hK
-- cratewatch/rule.name
theorem ok186 : compF Tryd.prog tk fk 1 [(0, false), (2, false), (3, false), (5, false), (6, false), (7, false), (18, false)] Tryd.f49 = some F186 := by kernel_rfl
theorem has186 : Has Tryd.prog N 186 F186 := fun _ _ _ hK => compF_sound htk hfk good hmix Tryd.func49 ok186 hK
-- cratewatch/cratewatchref.kindNames
theorem ok187 : compF Tryd.prog tk fk 0 [(0, true)] Tryd.f50 = some F187 := by kernel_rfl
theorem has187 : Has Tryd.prog N 187 F187 := fun _ _ _ hK => compF_sound htk hfk good hmix Tryd.func50 ok187 hK
-- cratewatch/rule.Parse$1
theorem ok188 : compF Tryd.prog tk fk 2 [(0, false), (1, false), (2, false), (6, false)] Tryd.f51 = some F188 := by kernel_rfl
theorem has188 : Has Tryd.prog N 188 F188 := fun _ _ _ hK => compF_sound htk hfk good hmix Tryd.func51 ok188 hK
-- cratewatch/rule.Parse$2
theorem ok189 : compF Tryd.prog tk fk 1 [(0, false), (1, false), (2, false), (3, false), (6, false), (7, false), (11, false)] Tryd.f52 = some F189 := by kernel_rfl
theorem has189 : Has Tryd.prog N 189 F189 := fun _ _ _ hK => compF_sound htk hfk good hmix Tryd.func52 ok189 hK
end Go.Proofs.YthhepmakjimhlaaDoor.CwRuleSays
