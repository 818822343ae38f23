/- The seat's own part: the functions that InsideSays reaches, read into the language (closed facts). -/
import Derived.Test.YthhepmakjimhlaaRows
import Derived.Test.YthhepmakjimhlaaCw5
namespace Go.Proofs.Ythhepmakjimhlaa.CwInsideSays
open Go Go.Cw Go.Proofs
set_option maxRecDepth 100000
set_option linter.unusedVariables false
def fks : List Nat := [0, 1, 2, 3, 4, 5, 6, 7, 8, 9, 10, 11, 12, 13, 14, 15, 16, 17, 18, 19, 20, 21, 22, 23, 24, 25, 26, 27, 28, 29, 30, 31, 32, 33, 34, 35, 36, 37, 38, 39, 40, 41, 42, 43, 44, 45, 46, 47, 48, 49, 50, 51, 52, 53, 54, 55, 56, 57, 58, 59, 60, 61, 62, 63, 64, 65, 66, 67, 68, 69, 70, 71, 72, 73, 74, 75, 76, 77, 78, 79, 80, 81, 82, 83, 84, 85, 86, 87, 88, 89, 90, 91, 92, 93, 94, 95, 96, 97, 98, 99, 100, 101, 102, 103, 104, 105, 106, 107, 108, 109, 110, 111, 112, 113, 114, 115, 116, 117, 118, 119, 120, 121, 122, 123, 124, 125, 126, 127, 128, 129, 130, 131, 132, 133, 134, 135, 136, 137, 138, 139, 140, 141, 142, 143, 144, 145, 146, 147, 148, 149, 150, 151, 152, 153, 154, 155, 156, 100000, 100000, 100000, 100000, 100000, 100000, 100000, 100000, 100000, 100000, 100000, 100000, 100000, 100000, 100000, 100000, 100000, 100000, 100000, 100000, 100000, 100000, 100000, 100000, 100000, 100000, 100000, 100000, 100000, 100000, 100000, 100000, 100000, 100000, 100000, 100000, 100000, 100000, 100000, 100000, 100000, 100000, 100000, 100000, 100000, 100000, 100000, 100000, 100000, 100000, 100000, 100000, 100000, 100000, 100000, 100000, 100000, 100000, 100000, 100000, 100000, 100000, 100000, 100000, 100000, 100000, 100000, 100000, 100000, 100000, 100000, 100000, 100000, 100000, 100000, 100000, 100000, 100000, 100000, 100000, 100000, 100000, 100000, 100000, 100000, 100000, 100000, 100000, 100000, 100000, 100000, 100000, 100000, 100000, 100000, 100000, 100000, 100000, 100000, 100000, 100000, 100000, 100000, 100000, 100000, 100000, 100000, 100000, 100000, 100000, 100000, 100000, 100000, 100000, 100000, 100000, 100000, 100000, 100000, 100000, 100000, 100000, 100000, 100000, 100000, 100000, 100000, 100000, 100000, 100000, 100000, 100000, 100000, 100000, 100000, 100000, 100000, 100000, 100000, 100000, 100000, 100000, 100000, 100000, 100000, 100000, 100000, 100000, 100000, 100000, 100000, 100000, 100000, 100000, 100000, 100000, 100000, 100000, 100000, 100000, 100000, 100000, 100000, 100000, 100000, 100000, 100000, 100000, 100000, 100000]
def tks : List Nat := [0, 1, 2, 3, 4, 5, 6, 7, 8, 9, 10, 11, 12, 13, 14, 15, 16, 17, 18, 19, 20, 21, 22, 23, 24, 25, 26, 27, 28, 29, 30, 31, 32, 33, 34, 35, 36, 37, 38, 39, 40, 41, 42, 43, 44, 45, 46, 47, 48, 49, 50, 51, 52, 53, 54, 55, 56, 57, 58, 59, 60, 61, 62, 63, 64, 65, 66, 67, 68, 69, 70, 71, 72, 73, 74, 75, 76, 77, 78, 79, 80, 81, 82, 83, 84, 85, 86, 87, 88, 89, 90, 91, 92, 93, 94, 95, 96, 97, 98, 99, 100, 101, 102, 103, 104, 105, 106, 107, 108, 109, 110, 111, 112, 113, 114, 115, 116, 117, 118, 119, 120, 121, 122, 123, 124, 125, 126, 127, 128, 129, 130, 131, 132, 133, 134, 135, 136, 137, 138, 139, 140, 141, 142, 143, 144, 145, 146, 147, 148, 149, 150, 151, 152, 153, 154, 155, 156, 157, 158, 159, 160, 161, 162, 163, 164, 165, 166, 167, 168, 169, 170, 171, 172, 173, 174, 175, 176, 177, 178, 179, 180, 181, 182, 183, 184, 185, 186, 187, 188, 189, 190, 191, 192, 193, 194, 195, 196, 197, 198, 199, 200, 201, 202, 203, 204, 205, 206, 207, 208, 209, 210, 211, 212, 213, 214, 215, 216, 217, 218, 219, 220, 221, 222, 223, 224, 225, 226, 227, 228, 229, 230, 231, 232, 233, 234, 100000, 100000, 100000, 100000, 100000, 100000, 100000, 100000, 100000, 100000, 100000, 100000, 100000, 100000, 100000, 100000, 100000, 100000, 100000, 100000, 100000, 100000, 100000, 100000, 100000, 100000, 100000, 100000, 100000, 100000, 100000, 100000, 100000, 100000, 100000, 100000, 100000, 100000, 100000, 100000, 100000, 100000, 100000, 100000, 100000, 100000, 100000, 100000, 100000, 100000, 100000, 100000, 100000, 100000, 100000, 100000, 100000, 100000, 100000, 100000, 100000, 100000, 100000, 100000, 100000, 100000, 100000, 100000, 100000, 100000, 100000, 100000, 100000, 100000, 100000, 100000, 100000, 100000, 100000, 100000, 100000, 100000, 100000, 100000, 100000, 100000, 100000, 100000, 100000, 100000, 100000, 100000, 100000, 100000, 100000, 100000, 100000, 100000, 100000, 100000, 100000, 100000, 100000, 100000, 100000, 100000, 100000, 100000, 100000, 100000, 100000, 100000, 100000, 100000, 100000, 100000, 100000, 100000, 100000, 100000, 100000, 100000, 100000, 100000, 100000, 100000, 100000, 100000, 100000, 100000, 100000, 100000, 100000, 100000, 100000, 100000, 100000, 100000, 100000, 100000, 100000, 100000, 100000, 100000, 100000, 100000, 100000, 100000, 100000, 100000, 100000, 100000, 100000]
def pos : List Nat → Nat → Nat → Option Nat
  | [], _, _ => none
  | y :: r, x, i => if x = y then some i else pos r x (i + 1)
theorem pos_spec : ∀ (l : List Nat) (x i k : Nat), pos l x i = some k → i ≤ k ∧ l.getD (k - i) 0 = x := by
  intro l
  induction l with
  | nil => intro x i k h; simp [pos] at h
  | cons y r ih =>
    intro x i k h
    simp only [pos] at h
    split at h
    · rename_i e; cases h; exact ⟨Nat.le_refl _, by simp [e]⟩
    · obtain ⟨h1, h2⟩ := ih _ _ _ h
      refine ⟨by omega, ?_⟩
      have : k - i = (k - (i + 1)) + 1 := by omega
      rw [this, List.getD_cons_succ]; exact h2
def fk (f : Nat) : Option Nat := pos fks f 0
def tk (f : Nat) : Option Nat := pos tks f 0
def N : Num := ⟨fun k => fks.getD k 0, fun k => tks.getD k 0⟩
theorem htk : ∀ t k, tk t = some k → N.tid k = t := fun _ _ h => (pos_spec _ _ _ _ h).2
theorem hfk : ∀ f k, fk f = some k → N.fid k = f := fun _ _ h => (pos_spec _ _ _ _ h).2
theorem good : Go.Cw.Good Try.prog N (GF Try.prog N) := fun _ _ _ _ h => h
theorem hmix : Try.prog.follows .mixedOrders = true := by kernel_rfl
-- cratewatch/cratewatchlaw.InsideSays
theorem ok9 : compF Try.prog tk fk 6 [(0, false), (1, false), (2, false), (3, false), (4, false), (5, false), (12, false), (13, false), (14, false), (15, false), (16, false), (17, false), (18, false), (19, false), (20, false), (21, false), (22, false), (23, false), (24, false), (25, false), (26, false), (27, false), (28, false), (29, false), (30, false), (33, false), (35, false), (43, false), (45, false), (52, false), (57, false), (66, false), (72, false), (89, false), (91, false), (101, false), (105, false), (113, false), (119, false), (121, false), (122, false), (126, false), (130, false), (139, false), (140, false), (144, false), (146, false), (153, false), (155, false), (156, false), (160, false), (171, false), (174, false), (184, false), (193, false), (195, false), (200, false), (210, false)] Try.f9 = some F9 := by kernel_rfl
theorem has9 : Has Try.prog N 9 F9 := fun _ _ _ hK => compF_sound htk hfk good hmix Try.func9 ok9 hK
-- cratewatch/cratewatchlaw.LightEpochs
theorem ok12 : compF Try.prog tk fk 1 [(0, false), (2, false), (3, false), (4, false), (7, false), (11, false), (19, false), (26, false), (38, false)] Try.f12 = some F12 := by kernel_rfl
theorem has12 : Has Try.prog N 12 F12 := fun _ _ _ hK => compF_sound htk hfk good hmix Try.func12 ok12 hK
-- cratewatch/cratewatchlaw.tracked
theorem ok13 : compF Try.prog tk fk 3 [(0, false), (1, false), (2, false), (6, false), (7, false), (8, false), (9, false), (10, false), (11, false), (12, false), (13, false), (14, false), (18, false), (35, false), (37, false), (47, false), (50, false), (54, false), (60, false), (61, false), (62, false), (63, false), (64, false), (69, false), (76, false), (79, false), (80, false), (81, false), (83, false), (85, false), (90, false), (92, false), (96, false)] Try.f13 = some F13 := by kernel_rfl
theorem has13 : Has Try.prog N 13 F13 := fun _ _ _ hK => compF_sound htk hfk good hmix Try.func13 ok13 hK
-- (*cratewatch/cratewatchref.Track).Tags
theorem ok14 : compF Try.prog tk fk 2 [(0, false), (1, false), (4, false), (5, false), (6, false), (7, false), (8, false), (9, false), (21, false), (33, false), (58, false), (72, false), (73, false), (74, false), (75, false)] Try.f14 = some F14 := by kernel_rfl
theorem has14 : Has Try.prog N 14 F14 := fun _ _ _ hK => compF_sound htk hfk good hmix Try.func14 ok14 hK
-- cratewatch/cratewatchlaw.same
theorem ok19 : compF Try.prog tk fk 2 [(0, false), (1, false), (4, false), (5, false), (6, false), (8, false)] Try.f19 = some F19 := by kernel_rfl
theorem has19 : Has Try.prog N 19 F19 := fun _ _ _ hK => compF_sound htk hfk good hmix Try.func19 ok19 hK
-- cratewatch/track.New
theorem ok28 : compF Try.prog tk fk 2 [(0, false), (1, false), (4, false), (5, false), (20, false), (22, false), (23, false), (24, false), (26, false)] Try.f28 = some F28 := by kernel_rfl
theorem has28 : Has Try.prog N 28 F28 := fun _ _ _ hK => compF_sound htk hfk good hmix Try.func28 ok28 hK
-- (*cratewatch/track.Track).Tell
theorem ok29 : compF Try.prog tk fk 2 [(0, false), (1, false), (4, false), (5, false), (7, true), (8, false), (9, false), (10, false), (11, false), (12, false), (13, false), (14, false), (15, false), (17, false), (35, false), (41, false), (42, false), (44, false), (45, false), (57, false), (61, false), (63, false), (64, false), (68, false), (69, false), (70, false), (71, false), (79, false), (83, false), (84, false), (85, false), (90, false), (91, false), (92, false), (93, false), (104, false), (105, false), (106, false), (107, false), (111, false), (112, false), (113, false), (116, false), (117, false), (118, false)] Try.f29 = some F29 := by kernel_rfl
theorem has29 : Has Try.prog N 29 F29 := fun _ _ _ hK => compF_sound htk hfk good hmix Try.func29 ok29 hK
-- (*cratewatch/track.Track).Where
theorem ok30 : compF Try.prog tk fk 3 [(0, false), (1, false), (2, false), (6, false), (7, false), (8, false), (9, false), (20, false), (32, false)] Try.f30 = some F30 := by kernel_rfl
theorem has30 : Has Try.prog N 30 F30 := fun _ _ _ hK => compF_sound htk hfk good hmix Try.func30 ok30 hK
-- (*cratewatch/track.Track).Epochs
theorem ok31 : compF Try.prog tk fk 1 [(0, false), (2, false)] Try.f31 = some F31 := by kernel_rfl
theorem has31 : Has Try.prog N 31 F31 := fun _ _ _ hK => compF_sound htk hfk good hmix Try.func31 ok31 hK
-- cratewatch/cratewatchlaw.insides
theorem ok42 : compF Try.prog tk fk 0 [(0, false), (1, false), (2, false), (3, false), (4, false), (5, false), (6, false), (7, false), (9, false), (17, false), (19, false), (21, false), (24, false), (33, false), (34, false), (39, false), (40, false), (43, false), (45, false), (48, false), (50, false), (51, false), (55, false), (59, false), (65, false), (67, false)] Try.f42 = some F42 := by kernel_rfl
theorem has42 : Has Try.prog N 42 F42 := fun _ _ _ hK => compF_sound htk hfk good hmix Try.func42 ok42 hK
-- cratewatch/cratewatchlaw.sights
theorem ok43 : compF Try.prog tk fk 1 [(0, false), (2, false), (3, false), (4, false), (8, false)] Try.f43 = some F43 := by kernel_rfl
theorem has43 : Has Try.prog N 43 F43 := fun _ _ _ hK => compF_sound htk hfk good hmix Try.func43 ok43 hK
-- cratewatch/inside.New
theorem ok44 : compF Try.prog tk fk 3 [(0, false), (1, false), (2, false), (6, false), (7, false), (26, false), (32, false)] Try.f44 = some F44 := by kernel_rfl
theorem has44 : Has Try.prog N 44 F44 := fun _ _ _ hK => compF_sound htk hfk good hmix Try.func44 ok44 hK
-- (*cratewatch/cratewatchref.Track).Tell
theorem ok45 : compF Try.prog tk fk 2 [(0, false), (1, false), (4, false), (5, false), (9, false), (41, false), (42, false), (46, false), (48, false), (49, false), (50, false), (53, false), (54, false)] Try.f45 = some F45 := by kernel_rfl
theorem has45 : Has Try.prog N 45 F45 := fun _ _ _ hK => compF_sound htk hfk good hmix Try.func45 ok45 hK
-- the iterator
theorem it71 : ItOk Try.prog (N.fid 71) 3 := itRead_ok htk hfk good Try.func71 (by kernel_rfl)
-- (*cratewatch/inside.Inside).Next
theorem ok46 : compFP Try.prog tk fk 71 3 1 [(0, false), (2, false), (3, false), (4, false), (5, false), (6, false), (8, false), (9, false), (10, false), (11, false), (13, false), (14, false), (20, false), (25, false), (26, false), (31, false), (32, false), (34, false), (35, false), (36, false), (38, false), (39, false), (42, false), (43, false), (44, false), (45, false), (46, false), (50, false), (66, false), (67, false), (68, false), (69, false), (73, false), (75, false), (76, false), (81, false), (102, false), (107, false), (112, false), (116, false), (118, false), (119, false)] Try.f46 = some F46 := by kernel_rfl
theorem has46 : Has Try.prog N 46 F46 := fun _ _ _ hK => compFP_sound htk hfk good hmix Try.func46 it71 ok46 hK
-- (*cratewatch/inside.Inside).Epochs
theorem ok47 : compF Try.prog tk fk 1 [(0, false), (2, false)] Try.f47 = some F47 := by kernel_rfl
theorem has47 : Has Try.prog N 47 F47 := fun _ _ _ hK => compF_sound htk hfk good hmix Try.func47 ok47 hK
-- (*cratewatch/cratewatchref.Track).Parents
theorem ok48 : compF Try.prog tk fk 5 [(0, false), (1, false), (2, false), (3, false), (4, false), (10, false), (11, false), (12, false), (13, false), (16, false), (25, false), (26, false), (28, false), (29, false)] Try.f48 = some F48 := by kernel_rfl
theorem has48 : Has Try.prog N 48 F48 := fun _ _ _ hK => compF_sound htk hfk good hmix Try.func48 ok48 hK
-- (*cratewatch/inside.Inside).Parent
theorem ok49 : compF Try.prog tk fk 3 [(0, false), (1, false), (2, false), (6, false), (7, false), (18, false)] Try.f49 = some F49 := by kernel_rfl
theorem has49 : Has Try.prog N 49 F49 := fun _ _ _ hK => compF_sound htk hfk good hmix Try.func49 ok49 hK
-- cratewatch/cratewatchref.NewTrack
theorem ok51 : compF Try.prog tk fk 2 [(0, false), (1, false), (4, false), (5, false), (6, false), (7, false), (9, false)] Try.f51 = some F51 := by kernel_rfl
theorem has51 : Has Try.prog N 51 F51 := fun _ _ _ hK => compF_sound htk hfk good hmix Try.func51 ok51 hK
-- (*cratewatch/track.Track).Tags
theorem ok54 : compF Try.prog tk fk 1 [(0, false), (1, false), (2, false)] Try.f54 = some F54 := by kernel_rfl
theorem has54 : Has Try.prog N 54 F54 := fun _ _ _ hK => compF_sound htk hfk good hmix Try.func54 ok54 hK
-- (*cratewatch/track.Track).place
theorem ok60 : compF Try.prog tk fk 2 [(0, false), (1, false), (4, false), (5, false), (6, false), (7, false), (9, false), (10, false), (11, false), (12, false), (13, false), (14, false), (31, false), (32, false), (33, false), (34, false), (40, false), (41, false), (42, false), (43, false), (58, false), (59, false), (60, false), (68, false), (93, false)] Try.f60 = some F60 := by kernel_rfl
theorem has60 : Has Try.prog N 60 F60 := fun _ _ _ hK => compF_sound htk hfk good hmix Try.func60 ok60 hK
-- cratewatch/cratewatchref.TagBytes
theorem ok65 : compF Try.prog tk fk 1 [(0, false), (1, true), (2, false), (3, false), (5, false), (6, false), (7, false), (8, false), (9, false), (13, false), (14, false), (15, false), (19, false), (23, false), (27, false), (33, false), (39, false), (43, false), (45, false), (49, false), (60, false), (63, false), (66, false), (67, false)] Try.f65 = some F65 := by kernel_rfl
theorem has65 : Has Try.prog N 65 F65 := fun _ _ _ hK => compF_sound htk hfk good hmix Try.func65 ok65 hK
-- cratewatch/inside.kind
theorem ok66 : compF Try.prog tk fk 1 [(0, false), (2, false), (3, true), (4, false), (7, false), (8, false), (9, false), (11, false)] Try.f66 = some F66 := by kernel_rfl
theorem has66 : Has Try.prog N 66 F66 := fun _ _ _ hK => compF_sound htk hfk good hmix Try.func66 ok66 hK
-- (*cratewatch/inside.Inside).together
theorem ok68 : compF Try.prog tk fk 4 [(0, false), (1, false), (2, false), (3, false), (8, false), (9, false), (10, false), (11, false), (12, false), (13, false), (14, false), (25, false), (35, false), (45, false), (62, false)] Try.f68 = some F68 := by kernel_rfl
theorem has68 : Has Try.prog N 68 F68 := fun _ _ _ hK => compF_sound htk hfk good hmix Try.func68 ok68 hK
-- (*cratewatch/cratewatchref.Track).Parent
theorem ok69 : compF Try.prog tk fk 6 [(0, false), (1, false), (2, false), (3, false), (4, false), (5, false), (12, false), (13, false), (14, false), (15, false), (16, false), (17, false), (24, false), (28, false), (32, false), (34, false), (39, false), (41, false), (43, false), (44, false), (53, false), (63, false), (70, false), (72, false), (74, false), (83, false), (86, false), (92, false), (95, false)] Try.f69 = some F69 := by kernel_rfl
theorem has69 : Has Try.prog N 69 F69 := fun _ _ _ hK => compF_sound htk hfk good hmix Try.func69 ok69 hK
-- (*cratewatch/cratewatchref.Track).At
theorem ok70 : compF Try.prog tk fk 3 [(0, false), (1, false), (2, false), (6, false), (7, false), (8, false), (9, false), (11, false), (13, false), (25, false), (29, false)] Try.f70 = some F70 := by kernel_rfl
theorem has70 : Has Try.prog N 70 F70 := fun _ _ _ hK => compF_sound htk hfk good hmix Try.func70 ok70 hK
-- cratewatch/cratewatchref.Parts
theorem ok79 : compF Try.prog tk fk 1 [(0, false), (2, true), (3, false), (4, false), (5, false), (8, false), (11, false), (14, false), (17, false), (20, false)] Try.f79 = some F79 := by kernel_rfl
theorem has79 : Has Try.prog N 79 F79 := fun _ _ _ hK => compF_sound htk hfk good hmix Try.func79 ok79 hK
-- cratewatch/cratewatchref.bits
theorem ok80 : compF Try.prog tk fk 3 [(0, false), (1, false), (2, false), (6, false), (7, false), (11, false), (14, false), (20, false), (21, false)] Try.f80 = some F80 := by kernel_rfl
theorem has80 : Has Try.prog N 80 F80 := fun _ _ _ hK => compF_sound htk hfk good hmix Try.func80 ok80 hK
-- cratewatch/tag.Parse
theorem ok81 : compF Try.prog tk fk 1 [(0, false), (2, true), (3, false), (4, false), (5, false), (6, false), (7, false), (8, true), (9, false), (12, false), (14, false), (16, false), (17, false), (18, false), (30, false), (37, false), (38, false), (39, false), (41, false), (43, false), (47, false), (48, false), (50, false), (51, false), (52, false), (53, false), (54, false), (55, false), (56, false), (57, false), (58, false), (59, false), (65, false), (66, false), (68, false)] Try.f81 = some F81 := by kernel_rfl
theorem has81 : Has Try.prog N 81 F81 := fun _ _ _ hK => compF_sound htk hfk good hmix Try.func81 ok81 hK
-- cratewatch/cratewatchref.kind
theorem ok83 : compF Try.prog tk fk 1 [(0, false), (2, false), (3, true), (4, false), (7, false), (8, false), (9, false), (11, false)] Try.f83 = some F83 := by kernel_rfl
theorem has83 : Has Try.prog N 83 F83 := fun _ _ _ hK => compF_sound htk hfk good hmix Try.func83 ok83 hK
-- (*cratewatch/cratewatchref.Track).Together
theorem ok84 : compF Try.prog tk fk 5 [(0, false), (1, false), (2, false), (3, false), (4, false), (10, false), (11, false), (12, false), (13, false), (21, false), (27, false), (30, false), (34, false), (37, false)] Try.f84 = some F84 := by kernel_rfl
theorem has84 : Has Try.prog N 84 F84 := fun _ _ _ hK => compF_sound htk hfk good hmix Try.func84 ok84 hK
-- cratewatch/cratewatchref.Decimal
theorem ok85 : compF Try.prog tk fk 1 [(0, false), (2, false), (3, false), (4, false), (5, false), (7, false), (11, false), (17, false), (24, false)] Try.f85 = some F85 := by kernel_rfl
theorem has85 : Has Try.prog N 85 F85 := fun _ _ _ hK => compF_sound htk hfk good hmix Try.func85 ok85 hK
-- (*cratewatch/cratewatchref.Track).at
theorem ok86 : compF Try.prog tk fk 3 [(0, false), (1, false), (2, false), (6, false), (7, false), (8, false), (9, false), (10, false), (11, false), (12, false), (14, false), (22, false), (30, false), (47, false)] Try.f86 = some F86 := by kernel_rfl
theorem has86 : Has Try.prog N 86 F86 := fun _ _ _ hK => compF_sound htk hfk good hmix Try.func86 ok86 hK
-- cratewatch/tag.Parse$1
theorem ok106 : compF Try.prog tk fk 2 [(0, false), (1, false), (3, false), (4, false)] Try.f106 = some F106 := by kernel_rfl
theorem has106 : Has Try.prog N 106 F106 := fun _ _ _ hK => compF_sound htk hfk good hmix Try.func106 ok106 hK
-- cratewatch/tag.parts
theorem ok107 : compF Try.prog tk fk 1 [(0, false), (2, true), (3, false), (4, false), (11, false), (17, false)] Try.f107 = some F107 := by kernel_rfl
theorem has107 : Has Try.prog N 107 F107 := fun _ _ _ hK => compF_sound htk hfk good hmix Try.func107 ok107 hK
-- cratewatch/tag.Check
theorem ok108 : compF Try.prog tk fk 1 [(0, false), (1, true), (2, false), (3, true), (4, false), (22, false), (27, false), (28, false), (29, false), (37, false), (39, false), (42, false), (50, false), (52, false), (55, false), (67, false)] Try.f108 = some F108 := by kernel_rfl
theorem has108 : Has Try.prog N 108 F108 := fun _ _ _ hK => compF_sound htk hfk good hmix Try.func108 ok108 hK
-- cratewatch/cratewatchref.TagOf
theorem ok110 : compF Try.prog tk fk 1 [(0, false), (1, false), (2, true), (3, false), (4, false), (5, false), (6, true), (7, false), (8, false), (11, false), (15, false), (17, false), (19, false), (22, false), (27, false), (28, false), (29, false), (31, false), (36, false), (41, false), (44, false), (47, false), (48, false)] Try.f110 = some F110 := by kernel_rfl
theorem has110 : Has Try.prog N 110 F110 := fun _ _ _ hK => compF_sound htk hfk good hmix Try.func110 ok110 hK
-- (*cratewatch/cratewatchref.Track).Counts
theorem ok111 : compF Try.prog tk fk 4 [(0, false), (1, false), (2, false), (3, false), (8, false), (9, false), (10, false), (11, false), (12, false), (13, false), (14, false), (15, true), (26, false), (38, false), (50, false), (60, false), (65, false)] Try.f111 = some F111 := by kernel_rfl
theorem has111 : Has Try.prog N 111 F111 := fun _ _ _ hK => compF_sound htk hfk good hmix Try.func111 ok111 hK
-- cratewatch/tag.ten
theorem ok117 : compF Try.prog tk fk 1 [(0, false), (2, false), (3, false), (4, false), (5, false), (6, false)] Try.f117 = some F117 := by kernel_rfl
theorem has117 : Has Try.prog N 117 F117 := fun _ _ _ hK => compF_sound htk hfk good hmix Try.func117 ok117 hK
-- cratewatch/cratewatchref.TagOf$1
theorem ok127 : compF Try.prog tk fk 3 [(0, false), (1, false), (2, false), (4, false), (5, false), (6, false), (9, false)] Try.f127 = some F127 := by kernel_rfl
theorem has127 : Has Try.prog N 127 F127 := fun _ _ _ hK => compF_sound htk hfk good hmix Try.func127 ok127 hK
-- cratewatch/cratewatchref.TagFault
theorem ok128 : compF Try.prog tk fk 1 [(0, false), (1, true), (2, false), (3, false), (4, false), (8, false), (9, false), (10, false), (42, false), (46, false), (49, false), (52, false), (60, false), (63, false), (66, false), (68, false)] Try.f128 = some F128 := by kernel_rfl
theorem has128 : Has Try.prog N 128 F128 := fun _ _ _ hK => compF_sound htk hfk good hmix Try.func128 ok128 hK
end Go.Proofs.Ythhepmakjimhlaa.CwInsideSays
