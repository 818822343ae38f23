/- The seat's own part: the functions that TopInside reaches, read into the language (closed facts). -/
import Derived.Test.YthhepmakjimhlabRows
import Derived.Test.YthhepmakjimhlabCw5
namespace Go.Proofs.Ythhepmakjimhlab.CwTopInside
open Go Go.Cw Go.Proofs
set_option maxRecDepth 100000
set_option linter.unusedVariables false
def fks : List Nat := [0, 1, 2, 100000, 100000, 100000, 100000, 100000, 100000, 100000, 100000, 100000, 4, 100000, 100000, 100000, 100000, 100000, 100000, 100000, 100000, 100000, 100000, 100000, 100000, 100000, 100000, 100000, 5, 7, 12, 15, 100000, 100000, 100000, 100000, 100000, 100000, 100000, 100000, 100000, 100000, 100000, 100000, 6, 100000, 8, 13, 100000, 10, 100000, 100000, 100000, 100000, 9, 100000, 100000, 100000, 100000, 100000, 14, 100000, 100000, 100000, 100000, 100000, 16, 17, 18, 100000, 100000, 19, 100000, 100000, 100000, 100000, 26, 100000, 100000, 100000, 100000, 11, 23, 100000, 100000, 100000, 100000, 100000, 100000, 100000, 100000, 100000, 100000, 100000, 100000, 100000, 36, 37, 100000, 100000, 100000, 100000, 100000, 100000, 100000, 100000, 20, 21, 22, 25, 100000, 100000, 100000, 100000, 100000, 100000, 100000, 24, 27, 28, 29, 30, 31, 32, 33, 34, 35, 100000, 100000, 100000, 38, 39, 40, 41, 42, 43, 44, 45, 46, 47, 48, 49, 50, 51, 52, 53, 54, 55, 56, 57, 58, 59, 60, 100000, 100000, 100000, 61, 100000, 100000, 100000, 100000, 100000, 100000, 100000, 100000, 100000, 100000, 100000, 100000, 100000, 100000, 100000, 100000, 100000, 100000, 100000, 100000, 100000, 100000, 100000, 100000, 100000, 100000, 100000, 100000, 100000, 100000, 100000, 100000, 100000, 100000, 100000, 100000, 100000, 100000, 100000, 100000, 100000, 100000, 100000, 100000, 100000, 100000, 100000, 100000, 100000, 100000, 100000, 100000, 100000, 100000, 100000, 100000, 100000, 100000, 100000, 100000, 100000, 100000, 100000, 100000, 100000, 100000, 100000, 100000, 100000, 100000, 100000, 100000, 100000, 100000, 100000, 100000, 100000, 100000, 100000, 100000, 100000, 100000, 100000, 100000, 100000, 100000, 100000, 100000, 100000, 100000, 100000, 100000, 100000, 100000, 100000, 100000, 100000, 100000, 100000, 100000, 100000, 100000, 100000, 100000, 100000, 100000, 100000, 100000, 100000, 100000, 100000, 100000, 100000, 100000, 100000, 100000, 100000, 100000, 100000, 100000, 100000, 100000, 100000, 100000, 100000, 100000, 100000, 100000, 100000, 100000, 100000, 3, 100000, 100000, 100000, 100000, 100000, 100000, 100000, 100000, 100000, 100000, 100000, 100000, 100000, 100000, 100000, 100000, 100000, 100000, 100000, 100000, 100000, 100000, 100000, 100000, 100000, 100000, 100000, 100000, 100000, 100000, 100000, 100000, 100000, 100000, 100000, 100000, 100000, 100000]
def tks : List Nat := [0, 1, 2, 3, 4, 5, 6, 7, 8, 9, 10, 11, 12, 13, 14, 15, 16, 17, 18, 19, 20, 21, 22, 34, 23, 24, 100000, 100000, 100000, 62, 100000, 100000, 100000, 100000, 100000, 100000, 100000, 100000, 100000, 100000, 100000, 100000, 25, 26, 37, 100000, 100000, 100000, 100000, 100000, 100000, 100000, 100000, 100000, 100000, 100000, 100000, 100000, 100000, 100000, 45, 100000, 27, 28, 33, 47, 48, 32, 43, 44, 100000, 100000, 100000, 100000, 100000, 100000, 100000, 100000, 100000, 100000, 100000, 100000, 100000, 100000, 100000, 100000, 100000, 100000, 100000, 100000, 60, 100000, 100000, 29, 30, 31, 100000, 100000, 38, 100000, 100000, 100000, 100000, 100000, 99, 100000, 35, 36, 100000, 100000, 100000, 49, 100000, 100000, 100000, 100000, 100000, 66, 50, 51, 52, 53, 57, 58, 59, 61, 75, 100000, 100000, 100000, 100000, 100000, 100000, 100000, 100000, 100000, 100000, 39, 40, 54, 55, 56, 63, 64, 65, 100000, 100000, 100000, 100000, 76, 115, 100000, 100000, 100000, 100000, 100000, 100000, 79, 68, 100000, 100000, 100000, 100000, 100000, 100000, 100000, 100000, 41, 42, 100000, 100000, 87, 100000, 100000, 100000, 89, 90, 91, 67, 100000, 100000, 100000, 100000, 100000, 100000, 100000, 69, 70, 71, 72, 73, 74, 78, 100000, 100000, 100000, 100000, 93, 94, 100000, 96, 100000, 77, 80, 81, 82, 83, 84, 85, 86, 88, 100000, 100000, 100000, 92, 95, 97, 98, 100, 101, 102, 103, 104, 105, 106, 107, 108, 109, 110, 111, 112, 113, 114, 100000, 100000, 100000, 100000, 100000, 100000, 100000, 100000, 100000, 100000, 100000, 100000, 100000, 100000, 100000, 100000, 100000, 100000, 100000, 100000, 100000, 100000, 100000, 100000, 100000, 100000, 100000, 100000, 100000, 100000, 100000, 100000, 100000, 100000, 100000, 100000, 100000, 100000, 100000, 100000, 100000, 100000, 100000, 100000, 100000, 100000, 100000, 100000, 100000, 100000, 100000, 100000, 100000, 100000, 100000, 100000, 100000, 100000, 100000, 100000, 100000, 100000, 100000, 100000, 100000, 100000, 100000, 100000, 100000, 100000, 100000, 100000, 100000, 100000, 100000, 100000, 100000, 100000, 100000, 100000, 100000, 100000, 100000, 100000, 100000, 100000, 100000, 100000, 100000, 100000, 100000, 100000, 100000, 100000, 100000, 100000, 100000, 100000, 100000, 100000, 100000, 100000, 100000, 100000, 100000, 100000, 100000, 100000, 100000, 100000, 100000, 100000, 100000, 100000, 100000, 100000, 100000, 100000, 100000, 100000, 46, 100000, 100000, 100000, 100000, 100000, 100000, 100000, 100000, 100000, 100000, 100000, 100000, 100000, 100000, 100000, 100000, 100000, 100000, 100000, 100000, 100000, 100000, 100000, 100000, 100000, 100000, 100000, 100000, 100000, 100000, 100000, 100000, 100000, 100000]
def pos : List Nat → Nat → Nat → Option Nat
  | [], _, _ => none
  | y :: r, x, i => if x = y then some i else pos r x (i + 1)
theorem pos_spec : ∀ (l : List Nat) (x i k : Nat), pos l x i = some k → i ≤ k ∧ l.getD (k - i) 0 = x := by
  intro l
  induction l with
  | nil => intro x i k h; simp [pos] at h
  | cons y r ih =>
    intro x i k h
    simp only [pos] at h
    split at h
    · rename_i e; cases h; exact ⟨Nat.le_refl _, by simp [e]⟩
    · obtain ⟨h1, h2⟩ := ih _ _ _ h
      refine ⟨by omega, ?_⟩
      have : k - i = (k - (i + 1)) + 1 := by omega
      rw [this, List.getD_cons_succ]; exact h2
def fk (f : Nat) : Option Nat := pos fks f 0
def tk (f : Nat) : Option Nat := pos tks f 0
def N : Num := ⟨fun k => fks.getD k 0, fun k => tks.getD k 0⟩
theorem htk : ∀ t k, tk t = some k → N.tid k = t := fun _ _ h => (pos_spec _ _ _ _ h).2
theorem hfk : ∀ f k, fk f = some k → N.fid k = f := fun _ _ h => (pos_spec _ _ _ _ h).2
theorem good : Go.Cw.Good Try.prog N (GF Try.prog N) := fun _ _ _ _ h => h
theorem hmix : Try.prog.follows .mixedOrders = true := by kernel_rfl
-- cratewatch/cratewatchlaw.LightEpochs
theorem ok12 : compF Try.prog tk fk 1 [(0, false), (2, false), (3, false), (4, false), (7, false), (11, false), (19, false), (26, false), (38, false)] Try.f4 = some F12 := by kernel_rfl
theorem has12 : Has Try.prog N 12 F12 := fun _ _ _ hK => compF_sound htk hfk good hmix Try.func4 ok12 hK
-- cratewatch/track.New
theorem ok28 : compF Try.prog tk fk 2 [(0, false), (1, false), (4, false), (5, false), (20, false), (22, false), (23, false), (24, false), (26, false)] Try.f5 = some F28 := by kernel_rfl
theorem has28 : Has Try.prog N 28 F28 := fun _ _ _ hK => compF_sound htk hfk good hmix Try.func5 ok28 hK
-- (*cratewatch/track.Track).Tell
theorem ok29 : compF Try.prog tk fk 2 [(0, false), (1, false), (4, false), (5, false), (7, true), (8, false), (9, false), (10, false), (11, false), (12, false), (13, false), (14, false), (15, false), (17, false), (35, false), (41, false), (42, false), (44, false), (45, false), (57, false), (61, false), (63, false), (64, false), (68, false), (69, false), (70, false), (71, false), (79, false), (83, false), (84, false), (85, false), (90, false), (91, false), (92, false), (93, false), (104, false), (105, false), (106, false), (107, false), (111, false), (112, false), (113, false), (116, false), (117, false), (118, false)] Try.f7 = some F29 := by kernel_rfl
theorem has29 : Has Try.prog N 29 F29 := fun _ _ _ hK => compF_sound htk hfk good hmix Try.func7 ok29 hK
-- (*cratewatch/track.Track).Where
theorem ok30 : compF Try.prog tk fk 3 [(0, false), (1, false), (2, false), (6, false), (7, false), (8, false), (9, false), (20, false), (32, false)] Try.f12 = some F30 := by kernel_rfl
theorem has30 : Has Try.prog N 30 F30 := fun _ _ _ hK => compF_sound htk hfk good hmix Try.func12 ok30 hK
-- (*cratewatch/track.Track).Epochs
theorem ok31 : compF Try.prog tk fk 1 [(0, false), (2, false)] Try.f15 = some F31 := by kernel_rfl
theorem has31 : Has Try.prog N 31 F31 := fun _ _ _ hK => compF_sound htk hfk good hmix Try.func15 ok31 hK
-- cratewatch/inside.New
theorem ok44 : compF Try.prog tk fk 3 [(0, false), (1, false), (2, false), (6, false), (7, false), (26, false), (32, false)] Try.f6 = some F44 := by kernel_rfl
theorem has44 : Has Try.prog N 44 F44 := fun _ _ _ hK => compF_sound htk hfk good hmix Try.func6 ok44 hK
-- the iterator
theorem it71 : ItOk Try.prog (N.fid 71) 3 := itRead_ok htk hfk good Try.func19 (by kernel_rfl)
-- (*cratewatch/inside.Inside).Next
theorem ok46 : compFP Try.prog tk fk 71 3 1 [(0, false), (2, false), (3, false), (4, false), (5, false), (6, false), (8, false), (9, false), (10, false), (11, false), (13, false), (14, false), (20, false), (25, false), (26, false), (31, false), (32, false), (34, false), (35, false), (36, false), (38, false), (39, false), (42, false), (43, false), (44, false), (45, false), (46, false), (50, false), (66, false), (67, false), (68, false), (69, false), (73, false), (75, false), (76, false), (81, false), (102, false), (107, false), (112, false), (116, false), (118, false), (119, false)] Try.f8 = some F46 := by kernel_rfl
theorem has46 : Has Try.prog N 46 F46 := fun _ _ _ hK => compFP_sound htk hfk good hmix Try.func8 it71 ok46 hK
-- (*cratewatch/inside.Inside).Epochs
theorem ok47 : compF Try.prog tk fk 1 [(0, false), (2, false)] Try.f13 = some F47 := by kernel_rfl
theorem has47 : Has Try.prog N 47 F47 := fun _ _ _ hK => compF_sound htk hfk good hmix Try.func13 ok47 hK
-- (*cratewatch/inside.Inside).Parent
theorem ok49 : compF Try.prog tk fk 3 [(0, false), (1, false), (2, false), (6, false), (7, false), (18, false)] Try.f10 = some F49 := by kernel_rfl
theorem has49 : Has Try.prog N 49 F49 := fun _ _ _ hK => compF_sound htk hfk good hmix Try.func10 ok49 hK
-- (*cratewatch/track.Track).Tags
theorem ok54 : compF Try.prog tk fk 1 [(0, false), (1, false), (2, false)] Try.f9 = some F54 := by kernel_rfl
theorem has54 : Has Try.prog N 54 F54 := fun _ _ _ hK => compF_sound htk hfk good hmix Try.func9 ok54 hK
-- (*cratewatch/track.Track).place
theorem ok60 : compF Try.prog tk fk 2 [(0, false), (1, false), (4, false), (5, false), (6, false), (7, false), (9, false), (10, false), (11, false), (12, false), (13, false), (14, false), (31, false), (32, false), (33, false), (34, false), (40, false), (41, false), (42, false), (43, false), (58, false), (59, false), (60, false), (68, false), (93, false)] Try.f14 = some F60 := by kernel_rfl
theorem has60 : Has Try.prog N 60 F60 := fun _ _ _ hK => compF_sound htk hfk good hmix Try.func14 ok60 hK
-- cratewatch/inside.kind
theorem ok66 : compF Try.prog tk fk 1 [(0, false), (2, false), (3, true), (4, false), (7, false), (8, false), (9, false), (11, false)] Try.f16 = some F66 := by kernel_rfl
theorem has66 : Has Try.prog N 66 F66 := fun _ _ _ hK => compF_sound htk hfk good hmix Try.func16 ok66 hK
-- (*cratewatch/inside.Inside).together
theorem ok68 : compF Try.prog tk fk 4 [(0, false), (1, false), (2, false), (3, false), (8, false), (9, false), (10, false), (11, false), (12, false), (13, false), (14, false), (25, false), (35, false), (45, false), (62, false)] Try.f18 = some F68 := by kernel_rfl
theorem has68 : Has Try.prog N 68 F68 := fun _ _ _ hK => compF_sound htk hfk good hmix Try.func18 ok68 hK
-- cratewatch/tag.Parse
theorem ok81 : compF Try.prog tk fk 1 [(0, false), (2, true), (3, false), (4, false), (5, false), (6, false), (7, false), (8, true), (9, false), (12, false), (14, false), (16, false), (17, false), (18, false), (30, false), (37, false), (38, false), (39, false), (41, false), (43, false), (47, false), (48, false), (50, false), (51, false), (52, false), (53, false), (54, false), (55, false), (56, false), (57, false), (58, false), (59, false), (65, false), (66, false), (68, false)] Try.f11 = some F81 := by kernel_rfl
theorem has81 : Has Try.prog N 81 F81 := fun _ _ _ hK => compF_sound htk hfk good hmix Try.func11 ok81 hK
-- cratewatch/tag.Parse$1
theorem ok106 : compF Try.prog tk fk 2 [(0, false), (1, false), (3, false), (4, false)] Try.f20 = some F106 := by kernel_rfl
theorem has106 : Has Try.prog N 106 F106 := fun _ _ _ hK => compF_sound htk hfk good hmix Try.func20 ok106 hK
-- cratewatch/tag.parts
theorem ok107 : compF Try.prog tk fk 1 [(0, false), (2, true), (3, false), (4, false), (11, false), (17, false)] Try.f21 = some F107 := by kernel_rfl
theorem has107 : Has Try.prog N 107 F107 := fun _ _ _ hK => compF_sound htk hfk good hmix Try.func21 ok107 hK
-- cratewatch/tag.Check
theorem ok108 : compF Try.prog tk fk 1 [(0, false), (1, true), (2, false), (3, true), (4, false), (22, false), (27, false), (28, false), (29, false), (37, false), (39, false), (42, false), (50, false), (52, false), (55, false), (67, false)] Try.f22 = some F108 := by kernel_rfl
theorem has108 : Has Try.prog N 108 F108 := fun _ _ _ hK => compF_sound htk hfk good hmix Try.func22 ok108 hK
-- cratewatch/tag.ten
theorem ok117 : compF Try.prog tk fk 1 [(0, false), (2, false), (3, false), (4, false), (5, false), (6, false)] Try.f24 = some F117 := by kernel_rfl
theorem has117 : Has Try.prog N 117 F117 := fun _ _ _ hK => compF_sound htk hfk good hmix Try.func24 ok117 hK
-- cratewatch/cratewatchtop.TopInside
theorem ok288 : compFP Try.prog tk fk 71 3 5 [(0, false), (1, false), (2, false), (3, false), (4, false), (7, false), (8, false), (9, false), (10, false), (11, false), (12, false), (13, false), (14, false), (15, false), (16, false), (17, false), (18, false), (19, false), (20, false), (21, false), (22, false), (23, false), (24, false), (25, false), (27, false), (30, false), (36, false), (40, false), (41, false), (42, false), (44, false), (64, false), (65, false), (66, false), (68, false), (89, false), (93, false), (101, false), (102, false), (104, false), (105, false), (107, false), (108, false), (112, false), (119, false), (123, false), (125, false), (128, false), (129, false), (130, false), (133, false), (134, false), (135, false), (148, false), (156, false), (163, false), (170, false), (179, false), (184, false), (186, false), (188, false), (165, false), (172, false)] Try.f3 = some F288 := by kernel_rfl
theorem has288 : Has Try.prog N 288 F288 := fun _ _ _ hK => compFP_sound htk hfk good hmix Try.func3 it71 ok288 hK
end Go.Proofs.Ythhepmakjimhlab.CwTopInside
