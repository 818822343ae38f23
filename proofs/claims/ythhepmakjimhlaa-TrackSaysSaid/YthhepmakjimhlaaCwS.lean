/- The seat's own part: the functions that TrackSays reaches, read into the language (closed facts). -/
import Derived.Test.YthhepmakjimhlaaRows
import Derived.Test.YthhepmakjimhlaaCw4
namespace Go.Proofs.Ythhepmakjimhlaa.CwTrackSays
open Go Go.Cw Go.Proofs
set_option maxRecDepth 100000
set_option linter.unusedVariables false
def fks : List Nat := [0, 1, 2, 3, 4, 5, 6, 7, 8, 9, 10, 11, 12, 13, 14, 15, 16, 17, 18, 19, 20, 21, 22, 23, 24, 25, 26, 27, 28, 29, 30, 31, 32, 33, 34, 35, 36, 37, 38, 39, 40, 41, 42, 43, 44, 45, 46, 47, 48, 49, 50, 51, 52, 53, 54, 55, 56, 57, 58, 59, 60, 61, 62, 63, 64, 65, 66, 67, 68, 69, 70, 71, 72, 73, 74, 75, 76, 77, 78, 79, 80, 81, 82, 83, 84, 85, 86, 87, 88, 89, 90, 91, 92, 93, 94, 95, 96, 97, 98, 99, 100, 101, 102, 103, 104, 105, 106, 107, 108, 109, 110, 111, 112, 113, 114, 115, 116, 117, 118, 119, 120, 121, 122, 123, 124, 125, 126, 127, 128, 129, 130, 131, 132, 133, 134, 135, 136, 137, 138, 139, 140, 141, 142, 143, 144, 145, 146, 147, 148, 149, 150, 151, 152, 153, 154, 155, 156, 100000, 100000, 100000, 100000, 100000, 100000, 100000, 100000, 100000, 100000, 100000, 100000, 100000, 100000, 100000, 100000, 100000, 100000, 100000, 100000, 100000, 100000, 100000, 100000, 100000, 100000, 100000, 100000, 100000, 100000, 100000, 100000, 100000, 100000, 100000, 100000, 100000, 100000, 100000, 100000, 100000, 100000, 100000, 100000, 100000, 100000, 100000, 100000, 100000, 100000, 100000, 100000, 100000, 100000, 100000, 100000, 100000, 100000, 100000, 100000, 100000, 100000, 100000, 100000, 100000, 100000, 100000, 100000, 100000, 100000, 100000, 100000, 100000, 100000, 100000, 100000, 100000, 100000, 100000, 100000, 100000, 100000, 100000, 100000, 100000, 100000, 100000, 100000, 100000, 100000, 100000, 100000, 100000, 100000, 100000, 100000, 100000, 100000, 100000, 100000, 100000, 100000, 100000, 100000, 100000, 100000, 100000, 100000, 100000, 100000, 100000, 100000, 100000, 100000, 100000, 100000, 100000, 100000, 100000, 100000, 100000, 100000, 100000, 100000, 100000, 100000, 100000, 100000, 100000, 100000, 100000, 100000, 100000, 100000, 100000, 100000, 100000, 100000, 100000, 100000, 100000, 100000, 100000, 100000, 100000, 100000, 100000, 100000, 100000, 100000, 100000, 100000, 100000, 100000, 100000, 100000, 100000, 100000, 100000, 100000, 100000, 100000, 100000, 100000, 100000, 100000, 100000, 100000, 100000, 100000]
def tks : List Nat := [0, 1, 2, 3, 4, 5, 6, 7, 8, 9, 10, 11, 12, 13, 14, 15, 16, 17, 18, 19, 20, 21, 22, 23, 24, 25, 26, 27, 28, 29, 30, 31, 32, 33, 34, 35, 36, 37, 38, 39, 40, 41, 42, 43, 44, 45, 46, 47, 48, 49, 50, 51, 52, 53, 54, 55, 56, 57, 58, 59, 60, 61, 62, 63, 64, 65, 66, 67, 68, 69, 70, 71, 72, 73, 74, 75, 76, 77, 78, 79, 80, 81, 82, 83, 84, 85, 86, 87, 88, 89, 90, 91, 92, 93, 94, 95, 96, 97, 98, 99, 100, 101, 102, 103, 104, 105, 106, 107, 108, 109, 110, 111, 112, 113, 114, 115, 116, 117, 118, 119, 120, 121, 122, 123, 124, 125, 126, 127, 128, 129, 130, 131, 132, 133, 134, 135, 136, 137, 138, 139, 140, 141, 142, 143, 144, 145, 146, 147, 148, 149, 150, 151, 152, 153, 154, 155, 156, 157, 158, 159, 160, 161, 162, 163, 164, 165, 166, 167, 168, 169, 170, 171, 172, 173, 174, 175, 176, 177, 178, 179, 180, 181, 182, 183, 184, 185, 186, 187, 188, 189, 190, 191, 192, 193, 194, 195, 196, 197, 198, 199, 200, 201, 202, 203, 204, 205, 206, 207, 208, 209, 210, 211, 212, 213, 214, 215, 216, 217, 218, 219, 220, 221, 222, 223, 224, 225, 226, 227, 228, 229, 230, 231, 232, 233, 234, 100000, 100000, 100000, 100000, 100000, 100000, 100000, 100000, 100000, 100000, 100000, 100000, 100000, 100000, 100000, 100000, 100000, 100000, 100000, 100000, 100000, 100000, 100000, 100000, 100000, 100000, 100000, 100000, 100000, 100000, 100000, 100000, 100000, 100000, 100000, 100000, 100000, 100000, 100000, 100000, 100000, 100000, 100000, 100000, 100000, 100000, 100000, 100000, 100000, 100000, 100000, 100000, 100000, 100000, 100000, 100000, 100000, 100000, 100000, 100000, 100000, 100000, 100000, 100000, 100000, 100000, 100000, 100000, 100000, 100000, 100000, 100000, 100000, 100000, 100000, 100000, 100000, 100000, 100000, 100000, 100000, 100000, 100000, 100000, 100000, 100000, 100000, 100000, 100000, 100000, 100000, 100000, 100000, 100000, 100000, 100000, 100000, 100000, 100000, 100000, 100000, 100000, 100000, 100000, 100000, 100000, 100000, 100000, 100000, 100000, 100000, 100000, 100000, 100000, 100000, 100000, 100000, 100000, 100000, 100000, 100000, 100000, 100000, 100000, 100000, 100000, 100000, 100000, 100000, 100000, 100000, 100000, 100000, 100000, 100000, 100000, 100000, 100000, 100000, 100000, 100000, 100000, 100000, 100000, 100000, 100000, 100000, 100000, 100000, 100000, 100000, 100000, 100000]
def pos : List Nat → Nat → Nat → Option Nat
  | [], _, _ => none
  | y :: r, x, i => if x = y then some i else pos r x (i + 1)
theorem pos_spec : ∀ (l : List Nat) (x i k : Nat), pos l x i = some k → i ≤ k ∧ l.getD (k - i) 0 = x := by
  intro l
  induction l with
  | nil => intro x i k h; simp [pos] at h
  | cons y r ih =>
    intro x i k h
    simp only [pos] at h
    split at h
    · rename_i e; cases h; exact ⟨Nat.le_refl _, by simp [e]⟩
    · obtain ⟨h1, h2⟩ := ih _ _ _ h
      refine ⟨by omega, ?_⟩
      have : k - i = (k - (i + 1)) + 1 := by omega
      rw [this, List.getD_cons_succ]; exact h2
def fk (f : Nat) : Option Nat := pos fks f 0
def tk (f : Nat) : Option Nat := pos tks f 0
def N : Num := ⟨fun k => fks.getD k 0, fun k => tks.getD k 0⟩
theorem htk : ∀ t k, tk t = some k → N.tid k = t := fun _ _ h => (pos_spec _ _ _ _ h).2
theorem hfk : ∀ f k, fk f = some k → N.fid k = f := fun _ _ h => (pos_spec _ _ _ _ h).2
theorem good : Go.Cw.Good Try.prog N (GF Try.prog N) := fun _ _ _ _ h => h
theorem hmix : Try.prog.follows .mixedOrders = true := by kernel_rfl
-- cratewatch/cratewatchlaw.TrackSays
theorem ok3 : compF Try.prog tk fk 4 [(0, false), (1, false), (2, false), (3, false), (8, false), (9, false), (10, false), (11, false), (12, false), (13, false), (14, false), (17, false), (19, false), (26, false), (32, false), (41, false), (49, false), (51, false), (52, false), (56, false)] Try.f3 = some F3 := by kernel_rfl
theorem has3 : Has Try.prog N 3 F3 := fun _ _ _ hK => compF_sound htk hfk good hmix Try.func3 ok3 hK
-- cratewatch/cratewatchlaw.tracks
theorem ok11 : compF Try.prog tk fk 0 [(0, false), (1, false), (2, false), (3, false), (4, false), (6, false), (15, false), (16, false), (18, false), (19, false), (21, false), (24, false), (28, false), (33, false), (35, false), (37, false), (39, false)] Try.f11 = some F11 := by kernel_rfl
theorem has11 : Has Try.prog N 11 F11 := fun _ _ _ hK => compF_sound htk hfk good hmix Try.func11 ok11 hK
-- cratewatch/cratewatchlaw.LightEpochs
theorem ok12 : compF Try.prog tk fk 1 [(0, false), (2, false), (3, false), (4, false), (7, false), (11, false), (19, false), (26, false), (38, false)] Try.f12 = some F12 := by kernel_rfl
theorem has12 : Has Try.prog N 12 F12 := fun _ _ _ hK => compF_sound htk hfk good hmix Try.func12 ok12 hK
-- cratewatch/cratewatchlaw.tracked
theorem ok13 : compF Try.prog tk fk 3 [(0, false), (1, false), (2, false), (6, false), (7, false), (8, false), (9, false), (10, false), (11, false), (12, false), (13, false), (14, false), (18, false), (35, false), (37, false), (47, false), (50, false), (54, false), (60, false), (61, false), (62, false), (63, false), (64, false), (69, false), (76, false), (79, false), (80, false), (81, false), (83, false), (85, false), (90, false), (92, false), (96, false)] Try.f13 = some F13 := by kernel_rfl
theorem has13 : Has Try.prog N 13 F13 := fun _ _ _ hK => compF_sound htk hfk good hmix Try.func13 ok13 hK
-- (*cratewatch/cratewatchref.Track).Tags
theorem ok14 : compF Try.prog tk fk 2 [(0, false), (1, false), (4, false), (5, false), (6, false), (7, false), (8, false), (9, false), (21, false), (33, false), (58, false), (72, false), (73, false), (74, false), (75, false)] Try.f14 = some F14 := by kernel_rfl
theorem has14 : Has Try.prog N 14 F14 := fun _ _ _ hK => compF_sound htk hfk good hmix Try.func14 ok14 hK
-- the iterator
theorem it71 : ItOk Try.prog (N.fid 71) 3 := itRead_ok htk hfk good Try.func71 (by kernel_rfl)
-- cratewatch/cratewatchlaw.asTrack
theorem ok15 : compFP Try.prog tk fk 71 3 3 [(0, false), (1, false), (2, false), (4, false), (6, false), (7, false), (8, false), (9, false), (10, false), (11, false), (12, false), (13, false), (14, false), (15, false), (16, false), (20, false), (29, false), (39, false), (49, false), (55, false), (58, false), (60, false), (62, false), (72, false), (73, false), (77, false), (78, false), (79, false), (80, false), (81, false), (83, false), (84, false), (92, false), (94, false), (97, false), (104, false)] Try.f15 = some F15 := by kernel_rfl
theorem has15 : Has Try.prog N 15 F15 := fun _ _ _ hK => compFP_sound htk hfk good hmix Try.func15 it71 ok15 hK
-- cratewatch/cratewatchlaw.same
theorem ok19 : compF Try.prog tk fk 2 [(0, false), (1, false), (4, false), (5, false), (6, false), (8, false)] Try.f19 = some F19 := by kernel_rfl
theorem has19 : Has Try.prog N 19 F19 := fun _ _ _ hK => compF_sound htk hfk good hmix Try.func19 ok19 hK
-- cratewatch/track.New
theorem ok28 : compF Try.prog tk fk 2 [(0, false), (1, false), (4, false), (5, false), (20, false), (22, false), (23, false), (24, false), (26, false)] Try.f28 = some F28 := by kernel_rfl
theorem has28 : Has Try.prog N 28 F28 := fun _ _ _ hK => compF_sound htk hfk good hmix Try.func28 ok28 hK
-- (*cratewatch/track.Track).Tell
theorem ok29 : compF Try.prog tk fk 2 [(0, false), (1, false), (4, false), (5, false), (7, true), (8, false), (9, false), (10, false), (11, false), (12, false), (13, false), (14, false), (15, false), (17, false), (35, false), (41, false), (42, false), (44, false), (45, false), (57, false), (61, false), (63, false), (64, false), (68, false), (69, false), (70, false), (71, false), (79, false), (83, false), (84, false), (85, false), (90, false), (91, false), (92, false), (93, false), (104, false), (105, false), (106, false), (107, false), (111, false), (112, false), (113, false), (116, false), (117, false), (118, false)] Try.f29 = some F29 := by kernel_rfl
theorem has29 : Has Try.prog N 29 F29 := fun _ _ _ hK => compF_sound htk hfk good hmix Try.func29 ok29 hK
-- (*cratewatch/track.Track).Where
theorem ok30 : compF Try.prog tk fk 3 [(0, false), (1, false), (2, false), (6, false), (7, false), (8, false), (9, false), (20, false), (32, false)] Try.f30 = some F30 := by kernel_rfl
theorem has30 : Has Try.prog N 30 F30 := fun _ _ _ hK => compF_sound htk hfk good hmix Try.func30 ok30 hK
-- (*cratewatch/track.Track).Epochs
theorem ok31 : compF Try.prog tk fk 1 [(0, false), (2, false)] Try.f31 = some F31 := by kernel_rfl
theorem has31 : Has Try.prog N 31 F31 := fun _ _ _ hK => compF_sound htk hfk good hmix Try.func31 ok31 hK
-- (*cratewatch/cratewatchref.Track).Tell
theorem ok45 : compF Try.prog tk fk 2 [(0, false), (1, false), (4, false), (5, false), (9, false), (41, false), (42, false), (46, false), (48, false), (49, false), (50, false), (53, false), (54, false)] Try.f45 = some F45 := by kernel_rfl
theorem has45 : Has Try.prog N 45 F45 := fun _ _ _ hK => compF_sound htk hfk good hmix Try.func45 ok45 hK
-- (*cratewatch/track.Track).Comes
theorem ok50 : compF Try.prog tk fk 4 [(0, false), (1, false), (2, false), (3, false), (8, false), (9, false), (10, false), (11, false), (17, false), (30, false), (32, false), (38, false), (40, false)] Try.f50 = some F50 := by kernel_rfl
theorem has50 : Has Try.prog N 50 F50 := fun _ _ _ hK => compF_sound htk hfk good hmix Try.func50 ok50 hK
-- cratewatch/cratewatchref.NewTrack
theorem ok51 : compF Try.prog tk fk 2 [(0, false), (1, false), (4, false), (5, false), (6, false), (7, false), (9, false)] Try.f51 = some F51 := by kernel_rfl
theorem has51 : Has Try.prog N 51 F51 := fun _ _ _ hK => compF_sound htk hfk good hmix Try.func51 ok51 hK
-- (*cratewatch/cratewatchref.Track).Where
theorem ok52 : compF Try.prog tk fk 3 [(0, false), (1, false), (2, false), (6, false), (7, false), (8, false), (19, false), (27, false), (29, false), (33, false)] Try.f52 = some F52 := by kernel_rfl
theorem has52 : Has Try.prog N 52 F52 := fun _ _ _ hK => compF_sound htk hfk good hmix Try.func52 ok52 hK
-- (*cratewatch/cratewatchref.Track).Comes
theorem ok53 : compF Try.prog tk fk 4 [(0, false), (1, false), (2, false), (3, false), (8, false), (9, false), (10, false), (15, false), (28, false), (31, false), (36, false)] Try.f53 = some F53 := by kernel_rfl
theorem has53 : Has Try.prog N 53 F53 := fun _ _ _ hK => compF_sound htk hfk good hmix Try.func53 ok53 hK
-- (*cratewatch/track.Track).Tags
theorem ok54 : compF Try.prog tk fk 1 [(0, false), (1, false), (2, false)] Try.f54 = some F54 := by kernel_rfl
theorem has54 : Has Try.prog N 54 F54 := fun _ _ _ hK => compF_sound htk hfk good hmix Try.func54 ok54 hK
-- (*cratewatch/cratewatchref.Track).Told
theorem ok55 : compF Try.prog tk fk 3 [(0, false), (1, false), (2, false), (6, false), (7, false), (8, false), (20, false), (32, false), (47, false)] Try.f55 = some F55 := by kernel_rfl
theorem has55 : Has Try.prog N 55 F55 := fun _ _ _ hK => compF_sound htk hfk good hmix Try.func55 ok55 hK
-- (*cratewatch/track.Track).place
theorem ok60 : compF Try.prog tk fk 2 [(0, false), (1, false), (4, false), (5, false), (6, false), (7, false), (9, false), (10, false), (11, false), (12, false), (13, false), (14, false), (31, false), (32, false), (33, false), (34, false), (40, false), (41, false), (42, false), (43, false), (58, false), (59, false), (60, false), (68, false), (93, false)] Try.f60 = some F60 := by kernel_rfl
theorem has60 : Has Try.prog N 60 F60 := fun _ _ _ hK => compF_sound htk hfk good hmix Try.func60 ok60 hK
-- (*cratewatch/cratewatchref.Track).At
theorem ok70 : compF Try.prog tk fk 3 [(0, false), (1, false), (2, false), (6, false), (7, false), (8, false), (9, false), (11, false), (13, false), (25, false), (29, false)] Try.f70 = some F70 := by kernel_rfl
theorem has70 : Has Try.prog N 70 F70 := fun _ _ _ hK => compF_sound htk hfk good hmix Try.func70 ok70 hK
-- cratewatch/cratewatchref.Decimal
theorem ok85 : compF Try.prog tk fk 1 [(0, false), (2, false), (3, false), (4, false), (5, false), (7, false), (11, false), (17, false), (24, false)] Try.f85 = some F85 := by kernel_rfl
theorem has85 : Has Try.prog N 85 F85 := fun _ _ _ hK => compF_sound htk hfk good hmix Try.func85 ok85 hK
-- (*cratewatch/cratewatchref.Track).at
theorem ok86 : compF Try.prog tk fk 3 [(0, false), (1, false), (2, false), (6, false), (7, false), (8, false), (9, false), (10, false), (11, false), (12, false), (14, false), (22, false), (30, false), (47, false)] Try.f86 = some F86 := by kernel_rfl
theorem has86 : Has Try.prog N 86 F86 := fun _ _ _ hK => compF_sound htk hfk good hmix Try.func86 ok86 hK
-- (*cratewatch/cratewatchref.Track).Counts
theorem ok111 : compF Try.prog tk fk 4 [(0, false), (1, false), (2, false), (3, false), (8, false), (9, false), (10, false), (11, false), (12, false), (13, false), (14, false), (15, true), (26, false), (38, false), (50, false), (60, false), (65, false)] Try.f111 = some F111 := by kernel_rfl
theorem has111 : Has Try.prog N 111 F111 := fun _ _ _ hK => compF_sound htk hfk good hmix Try.func111 ok111 hK
end Go.Proofs.Ythhepmakjimhlaa.CwTrackSays
