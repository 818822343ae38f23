/- The seat's own part: the functions that FeedSays reaches, read into the language (closed facts). -/
import Derived.Test.YthhepmakjimhlaaRows
import Derived.Test.YthhepmakjimhlaaCw2
namespace Go.Proofs.Ythhepmakjimhlaa.CwFeedSays
open Go Go.Cw Go.Proofs
set_option maxRecDepth 100000
set_option linter.unusedVariables false
def fks : List Nat := [0, 1, 2, 3, 4, 5, 6, 7, 8, 9, 10, 11, 12, 13, 14, 15, 16, 17, 18, 19, 20, 21, 22, 23, 24, 25, 26, 27, 28, 29, 30, 31, 32, 33, 34, 35, 36, 37, 38, 39, 40, 41, 42, 43, 44, 45, 46, 47, 48, 49, 50, 51, 52, 53, 54, 55, 56, 57, 58, 59, 60, 61, 62, 63, 64, 65, 66, 67, 68, 69, 70, 71, 72, 73, 74, 75, 76, 77, 78, 79, 80, 81, 82, 83, 84, 85, 86, 87, 88, 89, 90, 91, 92, 93, 94, 95, 96, 97, 98, 99, 100, 101, 102, 103, 104, 105, 106, 107, 108, 109, 110, 111, 112, 113, 114, 115, 116, 117, 118, 119, 120, 121, 122, 123, 124, 125, 126, 127, 128, 129, 130, 131, 132, 133, 134, 135, 136, 137, 138, 139, 140, 141, 142, 143, 144, 145, 146, 147, 148, 149, 150, 151, 152, 153, 154, 155, 156, 100000, 100000, 100000, 100000, 100000, 100000, 100000, 100000, 100000, 100000, 100000, 100000, 100000, 100000, 100000, 100000, 100000, 100000, 100000, 100000, 100000, 100000, 100000, 100000, 100000, 100000, 100000, 100000, 100000, 100000, 100000, 100000, 100000, 100000, 100000, 100000, 100000, 100000, 100000, 100000, 100000, 100000, 100000, 100000, 100000, 100000, 100000, 100000, 100000, 100000, 100000, 100000, 100000, 100000, 100000, 100000, 100000, 100000, 100000, 100000, 100000, 100000, 100000, 100000, 100000, 100000, 100000, 100000, 100000, 100000, 100000, 100000, 100000, 100000, 100000, 100000, 100000, 100000, 100000, 100000, 100000, 100000, 100000, 100000, 100000, 100000, 100000, 100000, 100000, 100000, 100000, 100000, 100000, 100000, 100000, 100000, 100000, 100000, 100000, 100000, 100000, 100000, 100000, 100000, 100000, 100000, 100000, 100000, 100000, 100000, 100000, 100000, 100000, 100000, 100000, 100000, 100000, 100000, 100000, 100000, 100000, 100000, 100000, 100000, 100000, 100000, 100000, 100000, 100000, 100000, 100000, 100000, 100000, 100000, 100000, 100000, 100000, 100000, 100000, 100000, 100000, 100000, 100000, 100000, 100000, 100000, 100000, 100000, 100000, 100000, 100000, 100000, 100000, 100000, 100000, 100000, 100000, 100000, 100000, 100000, 100000, 100000, 100000, 100000, 100000, 100000, 100000, 100000, 100000, 100000]
def tks : List Nat := [0, 1, 2, 3, 4, 5, 6, 7, 8, 9, 10, 11, 12, 13, 14, 15, 16, 17, 18, 19, 20, 21, 22, 23, 24, 25, 26, 27, 28, 29, 30, 31, 32, 33, 34, 35, 36, 37, 38, 39, 40, 41, 42, 43, 44, 45, 46, 47, 48, 49, 50, 51, 52, 53, 54, 55, 56, 57, 58, 59, 60, 61, 62, 63, 64, 65, 66, 67, 68, 69, 70, 71, 72, 73, 74, 75, 76, 77, 78, 79, 80, 81, 82, 83, 84, 85, 86, 87, 88, 89, 90, 91, 92, 93, 94, 95, 96, 97, 98, 99, 100, 101, 102, 103, 104, 105, 106, 107, 108, 109, 110, 111, 112, 113, 114, 115, 116, 117, 118, 119, 120, 121, 122, 123, 124, 125, 126, 127, 128, 129, 130, 131, 132, 133, 134, 135, 136, 137, 138, 139, 140, 141, 142, 143, 144, 145, 146, 147, 148, 149, 150, 151, 152, 153, 154, 155, 156, 157, 158, 159, 160, 161, 162, 163, 164, 165, 166, 167, 168, 169, 170, 171, 172, 173, 174, 175, 176, 177, 178, 179, 180, 181, 182, 183, 184, 185, 186, 187, 188, 189, 190, 191, 192, 193, 194, 195, 196, 197, 198, 199, 200, 201, 202, 203, 204, 205, 206, 207, 208, 209, 210, 211, 212, 213, 214, 215, 216, 217, 218, 219, 220, 221, 222, 223, 224, 225, 226, 227, 228, 229, 230, 231, 232, 233, 234, 100000, 100000, 100000, 100000, 100000, 100000, 100000, 100000, 100000, 100000, 100000, 100000, 100000, 100000, 100000, 100000, 100000, 100000, 100000, 100000, 100000, 100000, 100000, 100000, 100000, 100000, 100000, 100000, 100000, 100000, 100000, 100000, 100000, 100000, 100000, 100000, 100000, 100000, 100000, 100000, 100000, 100000, 100000, 100000, 100000, 100000, 100000, 100000, 100000, 100000, 100000, 100000, 100000, 100000, 100000, 100000, 100000, 100000, 100000, 100000, 100000, 100000, 100000, 100000, 100000, 100000, 100000, 100000, 100000, 100000, 100000, 100000, 100000, 100000, 100000, 100000, 100000, 100000, 100000, 100000, 100000, 100000, 100000, 100000, 100000, 100000, 100000, 100000, 100000, 100000, 100000, 100000, 100000, 100000, 100000, 100000, 100000, 100000, 100000, 100000, 100000, 100000, 100000, 100000, 100000, 100000, 100000, 100000, 100000, 100000, 100000, 100000, 100000, 100000, 100000, 100000, 100000, 100000, 100000, 100000, 100000, 100000, 100000, 100000, 100000, 100000, 100000, 100000, 100000, 100000, 100000, 100000, 100000, 100000, 100000, 100000, 100000, 100000, 100000, 100000, 100000, 100000, 100000, 100000, 100000, 100000, 100000, 100000, 100000, 100000, 100000, 100000, 100000]
def pos : List Nat → Nat → Nat → Option Nat
  | [], _, _ => none
  | y :: r, x, i => if x = y then some i else pos r x (i + 1)
theorem pos_spec : ∀ (l : List Nat) (x i k : Nat), pos l x i = some k → i ≤ k ∧ l.getD (k - i) 0 = x := by
  intro l
  induction l with
  | nil => intro x i k h; simp [pos] at h
  | cons y r ih =>
    intro x i k h
    simp only [pos] at h
    split at h
    · rename_i e; cases h; exact ⟨Nat.le_refl _, by simp [e]⟩
    · obtain ⟨h1, h2⟩ := ih _ _ _ h
      refine ⟨by omega, ?_⟩
      have : k - i = (k - (i + 1)) + 1 := by omega
      rw [this, List.getD_cons_succ]; exact h2
def fk (f : Nat) : Option Nat := pos fks f 0
def tk (f : Nat) : Option Nat := pos tks f 0
def N : Num := ⟨fun k => fks.getD k 0, fun k => tks.getD k 0⟩
theorem htk : ∀ t k, tk t = some k → N.tid k = t := fun _ _ h => (pos_spec _ _ _ _ h).2
theorem hfk : ∀ f k, fk f = some k → N.fid k = f := fun _ _ h => (pos_spec _ _ _ _ h).2
theorem good : Go.Cw.Good Try.prog N (GF Try.prog N) := fun _ _ _ _ h => h
theorem hmix : Try.prog.follows .mixedOrders = true := by kernel_rfl
-- cratewatch/cratewatchlaw.FeedSays
theorem ok5 : compF Try.prog tk fk 1 [(0, false), (2, false), (3, false), (4, false), (5, false), (6, false), (7, false), (8, false), (9, false), (10, false), (17, false), (20, false), (22, false), (26, false), (34, false), (37, false), (39, false), (41, false), (50, false), (56, false), (59, false), (61, false), (63, false), (67, false), (70, false), (72, false), (77, false), (79, false)] Try.f5 = some F5 := by kernel_rfl
theorem has5 : Has Try.prog N 5 F5 := fun _ _ _ hK => compF_sound htk hfk good hmix Try.func5 ok5 hK
-- cratewatch/cratewatchlaw.frames
theorem ok16 : compF Try.prog tk fk 0 [(0, false), (1, false), (2, false), (3, false), (4, false), (7, false), (11, false), (15, false), (17, false), (30, false), (32, false), (35, false), (37, false)] Try.f16 = some F16 := by kernel_rfl
theorem has16 : Has Try.prog N 16 F16 := fun _ _ _ hK => compF_sound htk hfk good hmix Try.func16 ok16 hK
-- cratewatch/cratewatchref.FrameFault
theorem ok17 : compF Try.prog tk fk 1 [(0, false), (1, true), (2, false), (3, false), (4, true), (12, false), (31, false), (39, false), (43, false), (48, false), (55, false), (89, false)] Try.f17 = some F17 := by kernel_rfl
theorem has17 : Has Try.prog N 17 F17 := fun _ _ _ hK => compF_sound htk hfk good hmix Try.func17 ok17 hK
-- cratewatch/frame.Bytes
theorem ok18 : compF Try.prog tk fk 1 [(0, false), (1, true), (2, false), (3, false), (4, false), (5, false), (7, true), (8, false), (10, false), (12, false), (15, false), (16, false), (19, false), (20, false), (21, false), (22, false), (24, false), (25, false), (35, false), (36, false), (40, false), (42, false), (44, false), (48, false), (49, false), (56, false), (61, false), (63, false), (64, false)] Try.f18 = some F18 := by kernel_rfl
theorem has18 : Has Try.prog N 18 F18 := fun _ _ _ hK => compF_sound htk hfk good hmix Try.func18 ok18 hK
-- cratewatch/cratewatchlaw.same
theorem ok19 : compF Try.prog tk fk 2 [(0, false), (1, false), (4, false), (5, false), (6, false), (8, false)] Try.f19 = some F19 := by kernel_rfl
theorem has19 : Has Try.prog N 19 F19 := fun _ _ _ hK => compF_sound htk hfk good hmix Try.func19 ok19 hK
-- cratewatch/frame.Check
theorem ok20 : compF Try.prog tk fk 1 [(0, false), (1, true), (2, false), (4, true), (12, false), (32, false), (41, false), (46, false), (49, false), (50, false), (51, false), (52, false), (54, false), (88, false)] Try.f20 = some F20 := by kernel_rfl
theorem has20 : Has Try.prog N 20 F20 := fun _ _ _ hK => compF_sound htk hfk good hmix Try.func20 ok20 hK
-- cratewatch/cratewatchref.SameFrames
theorem ok21 : compF Try.prog tk fk 2 [(0, false), (1, false), (4, false), (5, false), (6, false), (11, false), (15, false), (56, false), (64, false), (83, false)] Try.f21 = some F21 := by kernel_rfl
theorem has21 : Has Try.prog N 21 F21 := fun _ _ _ hK => compF_sound htk hfk good hmix Try.func21 ok21 hK
-- cratewatch/cratewatchref.FrameBytes
theorem ok22 : compF Try.prog tk fk 1 [(0, false), (1, true), (2, false), (3, false), (4, false), (5, true), (6, false), (7, false), (8, false), (13, false), (20, false), (21, false), (31, false), (39, false), (43, false), (51, false), (58, false), (67, false), (72, false)] Try.f22 = some F22 := by kernel_rfl
theorem has22 : Has Try.prog N 22 F22 := fun _ _ _ hK => compF_sound htk hfk good hmix Try.func22 ok22 hK
-- (*cratewatch/frame.Line).Copy
theorem ok23 : compF Try.prog tk fk 1 [(0, false), (2, false), (3, false), (6, false)] Try.f23 = some F23 := by kernel_rfl
theorem has23 : Has Try.prog N 23 F23 := fun _ _ _ hK => compF_sound htk hfk good hmix Try.func23 ok23 hK
-- (*cratewatch/frame.Line).Feed
theorem ok24 : compF Try.prog tk fk 2 [(0, false), (1, false), (4, false), (5, false), (6, true), (7, false), (8, false), (16, false), (19, false), (20, false), (21, false), (22, false), (23, false), (25, false), (35, false), (37, false), (38, false)] Try.f24 = some F24 := by kernel_rfl
theorem has24 : Has Try.prog N 24 F24 := fun _ _ _ hK => compF_sound htk hfk good hmix Try.func24 ok24 hK
-- (*cratewatch/cratewatchref.Line).Feed
theorem ok25 : compF Try.prog tk fk 2 [(0, false), (1, false), (4, false), (5, false), (6, true), (7, false), (8, false), (17, false), (20, false), (21, false), (22, false), (24, false), (25, false), (27, false), (28, false), (33, false), (34, false)] Try.f25 = some F25 := by kernel_rfl
theorem has25 : Has Try.prog N 25 F25 := fun _ _ _ hK => compF_sound htk hfk good hmix Try.func25 ok25 hK
-- (*cratewatch/frame.Line).Lost
theorem ok26 : compF Try.prog tk fk 1 [(0, false), (2, false)] Try.f26 = some F26 := by kernel_rfl
theorem has26 : Has Try.prog N 26 F26 := fun _ _ _ hK => compF_sound htk hfk good hmix Try.func26 ok26 hK
-- (*cratewatch/frame.Line).Waits
theorem ok27 : compF Try.prog tk fk 1 [(0, false), (2, false)] Try.f27 = some F27 := by kernel_rfl
theorem has27 : Has Try.prog N 27 F27 := fun _ _ _ hK => compF_sound htk hfk good hmix Try.func27 ok27 hK
-- cratewatch/frame.sum
theorem ok56 : compF Try.prog tk fk 1 [(0, false), (2, false), (3, false), (4, false), (6, false), (7, false), (8, false)] Try.f56 = some F56 := by kernel_rfl
theorem has56 : Has Try.prog N 56 F56 := fun _ _ _ hK => compF_sound htk hfk good hmix Try.func56 ok56 hK
-- cratewatch/frame.first
theorem ok57 : compF Try.prog tk fk 1 [(0, false), (2, true), (3, false), (4, false), (5, false), (8, false), (12, false), (19, false), (24, false), (30, false), (34, false), (35, false), (45, false), (47, false), (49, false), (51, false)] Try.f57 = some F57 := by kernel_rfl
theorem has57 : Has Try.prog N 57 F57 := fun _ _ _ hK => compF_sound htk hfk good hmix Try.func57 ok57 hK
-- cratewatch/cratewatchref.FrameAt
theorem ok58 : compF Try.prog tk fk 1 [(0, false), (2, true), (3, false), (4, false), (5, true), (6, false), (7, false), (29, false), (37, false), (44, false), (48, false), (52, false), (74, false), (75, false), (83, false), (89, false), (91, false), (93, false), (97, false), (99, false), (103, false)] Try.f58 = some F58 := by kernel_rfl
theorem has58 : Has Try.prog N 58 F58 := fun _ _ _ hK => compF_sound htk hfk good hmix Try.func58 ok58 hK
-- cratewatch/cratewatchref.Beginning
theorem ok59 : compF Try.prog tk fk 1 [(0, false), (2, false), (5, false)] Try.f59 = some F59 := by kernel_rfl
theorem has59 : Has Try.prog N 59 F59 := fun _ _ _ hK => compF_sound htk hfk good hmix Try.func59 ok59 hK
-- cratewatch/frame.body
theorem ok72 : compF Try.prog tk fk 2 [(0, false), (1, false), (4, true), (5, false), (6, true), (8, false), (10, false), (25, false), (30, false), (33, false), (46, false), (47, false), (49, false), (56, false)] Try.f72 = some F72 := by kernel_rfl
theorem has72 : Has Try.prog N 72 F72 := fun _ _ _ hK => compF_sound htk hfk good hmix Try.func72 ok72 hK
end Go.Proofs.Ythhepmakjimhlaa.CwFeedSays
