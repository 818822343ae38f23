/- The seat's own part: the functions that TopEpochs reaches, read into the language (closed facts). -/
import Derived.Test.YthhepmakjimhlaaRows
import Derived.Test.YthhepmakjimhlaaCw6
namespace Go.Proofs.Ythhepmakjimhlaa.CwTopEpochs
open Go Go.Cw Go.Proofs
set_option maxRecDepth 100000
set_option linter.unusedVariables false
def fks : List Nat := [0, 1, 2, 3, 4, 5, 6, 7, 8, 9, 10, 11, 12, 13, 14, 15, 16, 17, 18, 19, 20, 21, 22, 23, 24, 25, 26, 27, 28, 29, 30, 31, 32, 33, 34, 35, 36, 37, 38, 39, 40, 41, 42, 43, 44, 45, 46, 47, 48, 49, 50, 51, 52, 53, 54, 55, 56, 57, 58, 59, 60, 61, 62, 63, 64, 65, 66, 67, 68, 69, 70, 71, 72, 73, 74, 75, 76, 77, 78, 79, 80, 81, 82, 83, 84, 85, 86, 87, 88, 89, 90, 91, 92, 93, 94, 95, 96, 97, 98, 99, 100, 101, 102, 103, 104, 105, 106, 107, 108, 109, 110, 111, 112, 113, 114, 115, 116, 117, 118, 119, 120, 121, 122, 123, 124, 125, 126, 127, 128, 129, 130, 131, 132, 133, 134, 135, 136, 137, 138, 139, 140, 141, 142, 143, 144, 145, 146, 147, 148, 149, 150, 151, 152, 153, 154, 155, 156, 100000, 100000, 100000, 100000, 100000, 100000, 100000, 100000, 100000, 100000, 100000, 100000, 100000, 100000, 100000, 100000, 100000, 100000, 100000, 100000, 100000, 100000, 100000, 100000, 100000, 100000, 100000, 100000, 100000, 100000, 100000, 100000, 100000, 100000, 100000, 100000, 100000, 100000, 100000, 100000, 100000, 100000, 100000, 100000, 100000, 100000, 100000, 100000, 100000, 100000, 100000, 100000, 100000, 100000, 100000, 100000, 100000, 100000, 100000, 100000, 100000, 100000, 100000, 100000, 100000, 100000, 100000, 100000, 100000, 100000, 100000, 100000, 100000, 100000, 100000, 100000, 100000, 100000, 100000, 100000, 100000, 100000, 100000, 100000, 100000, 100000, 100000, 100000, 100000, 100000, 100000, 100000, 100000, 100000, 100000, 100000, 100000, 100000, 100000, 100000, 100000, 100000, 100000, 100000, 100000, 100000, 100000, 100000, 100000, 100000, 100000, 100000, 100000, 100000, 100000, 100000, 100000, 100000, 100000, 100000, 100000, 100000, 100000, 100000, 100000, 100000, 100000, 100000, 100000, 100000, 100000, 100000, 100000, 100000, 100000, 100000, 100000, 100000, 100000, 100000, 100000, 100000, 100000, 100000, 100000, 100000, 100000, 100000, 100000, 100000, 100000, 100000, 100000, 100000, 100000, 100000, 100000, 100000, 100000, 100000, 100000, 100000, 100000, 100000, 100000, 100000, 100000, 100000, 100000, 100000]
def tks : List Nat := [0, 1, 2, 3, 4, 5, 6, 7, 8, 9, 10, 11, 12, 13, 14, 15, 16, 17, 18, 19, 20, 21, 22, 23, 24, 25, 26, 27, 28, 29, 30, 31, 32, 33, 34, 35, 36, 37, 38, 39, 40, 41, 42, 43, 44, 45, 46, 47, 48, 49, 50, 51, 52, 53, 54, 55, 56, 57, 58, 59, 60, 61, 62, 63, 64, 65, 66, 67, 68, 69, 70, 71, 72, 73, 74, 75, 76, 77, 78, 79, 80, 81, 82, 83, 84, 85, 86, 87, 88, 89, 90, 91, 92, 93, 94, 95, 96, 97, 98, 99, 100, 101, 102, 103, 104, 105, 106, 107, 108, 109, 110, 111, 112, 113, 114, 115, 116, 117, 118, 119, 120, 121, 122, 123, 124, 125, 126, 127, 128, 129, 130, 131, 132, 133, 134, 135, 136, 137, 138, 139, 140, 141, 142, 143, 144, 145, 146, 147, 148, 149, 150, 151, 152, 153, 154, 155, 156, 157, 158, 159, 160, 161, 162, 163, 164, 165, 166, 167, 168, 169, 170, 171, 172, 173, 174, 175, 176, 177, 178, 179, 180, 181, 182, 183, 184, 185, 186, 187, 188, 189, 190, 191, 192, 193, 194, 195, 196, 197, 198, 199, 200, 201, 202, 203, 204, 205, 206, 207, 208, 209, 210, 211, 212, 213, 214, 215, 216, 217, 218, 219, 220, 221, 222, 223, 224, 225, 226, 227, 228, 229, 230, 231, 232, 233, 234, 100000, 100000, 100000, 100000, 100000, 100000, 100000, 100000, 100000, 100000, 100000, 100000, 100000, 100000, 100000, 100000, 100000, 100000, 100000, 100000, 100000, 100000, 100000, 100000, 100000, 100000, 100000, 100000, 100000, 100000, 100000, 100000, 100000, 100000, 100000, 100000, 100000, 100000, 100000, 100000, 100000, 100000, 100000, 100000, 100000, 100000, 100000, 100000, 100000, 100000, 100000, 100000, 100000, 100000, 100000, 100000, 100000, 100000, 100000, 100000, 100000, 100000, 100000, 100000, 100000, 100000, 100000, 100000, 100000, 100000, 100000, 100000, 100000, 100000, 100000, 100000, 100000, 100000, 100000, 100000, 100000, 100000, 100000, 100000, 100000, 100000, 100000, 100000, 100000, 100000, 100000, 100000, 100000, 100000, 100000, 100000, 100000, 100000, 100000, 100000, 100000, 100000, 100000, 100000, 100000, 100000, 100000, 100000, 100000, 100000, 100000, 100000, 100000, 100000, 100000, 100000, 100000, 100000, 100000, 100000, 100000, 100000, 100000, 100000, 100000, 100000, 100000, 100000, 100000, 100000, 100000, 100000, 100000, 100000, 100000, 100000, 100000, 100000, 100000, 100000, 100000, 100000, 100000, 100000, 100000, 100000, 100000, 100000, 100000, 100000, 100000, 100000, 100000]
def pos : List Nat → Nat → Nat → Option Nat
  | [], _, _ => none
  | y :: r, x, i => if x = y then some i else pos r x (i + 1)
theorem pos_spec : ∀ (l : List Nat) (x i k : Nat), pos l x i = some k → i ≤ k ∧ l.getD (k - i) 0 = x := by
  intro l
  induction l with
  | nil => intro x i k h; simp [pos] at h
  | cons y r ih =>
    intro x i k h
    simp only [pos] at h
    split at h
    · rename_i e; cases h; exact ⟨Nat.le_refl _, by simp [e]⟩
    · obtain ⟨h1, h2⟩ := ih _ _ _ h
      refine ⟨by omega, ?_⟩
      have : k - i = (k - (i + 1)) + 1 := by omega
      rw [this, List.getD_cons_succ]; exact h2
def fk (f : Nat) : Option Nat := pos fks f 0
def tk (f : Nat) : Option Nat := pos tks f 0
def N : Num := ⟨fun k => fks.getD k 0, fun k => tks.getD k 0⟩
theorem htk : ∀ t k, tk t = some k → N.tid k = t := fun _ _ h => (pos_spec _ _ _ _ h).2
theorem hfk : ∀ f k, fk f = some k → N.fid k = f := fun _ _ h => (pos_spec _ _ _ _ h).2
theorem good : Go.Cw.Good Try.prog N (GF Try.prog N) := fun _ _ _ _ h => h
theorem hmix : Try.prog.follows .mixedOrders = true := by kernel_rfl
-- cratewatch/cratewatchtop.TopEpochs
theorem ok10 : compF Try.prog tk fk 3 [(0, false), (1, false), (2, false), (6, false), (7, false), (8, false), (9, false), (10, false), (11, false), (12, false), (13, false), (14, false), (15, false), (16, false), (17, false), (18, false), (19, false), (20, false), (21, false), (22, false), (23, false), (27, false), (33, false), (46, false), (71, false), (75, false), (79, false), (84, false), (90, false), (97, false), (98, false), (101, false), (107, false), (108, false), (118, false), (126, false), (127, false), (131, false), (137, false), (145, false), (148, false), (150, false), (154, false), (163, false), (181, false), (200, false), (202, false)] Try.f10 = some F10 := by kernel_rfl
theorem has10 : Has Try.prog N 10 F10 := fun _ _ _ hK => compF_sound htk hfk good hmix Try.func10 ok10 hK
-- cratewatch/epoch.New
theorem ok33 : compF Try.prog tk fk 2 [(0, false), (1, false), (4, false), (5, false), (19, false), (21, false), (22, false), (23, false), (25, false)] Try.f33 = some F33 := by kernel_rfl
theorem has33 : Has Try.prog N 33 F33 := fun _ _ _ hK => compF_sound htk hfk good hmix Try.func33 ok33 hK
-- (*cratewatch/epoch.Desk).Tick
theorem ok34 : compF Try.prog tk fk 2 [(0, false), (1, false), (4, false), (5, false), (6, false), (7, false), (18, false), (47, false), (56, false), (69, false), (76, false), (77, false)] Try.f34 = some F34 := by kernel_rfl
theorem has34 : Has Try.prog N 34 F34 := fun _ _ _ hK => compF_sound htk hfk good hmix Try.func34 ok34 hK
-- cratewatch/cratewatchref.SameEpochs
theorem ok36 : compF Try.prog tk fk 2 [(0, false), (1, false), (4, false), (5, false), (6, false), (11, false), (15, false), (43, false), (51, false), (70, false)] Try.f36 = some F36 := by kernel_rfl
theorem has36 : Has Try.prog N 36 F36 := fun _ _ _ hK => compF_sound htk hfk good hmix Try.func36 ok36 hK
-- (*cratewatch/epoch.Desk).Add
theorem ok37 : compF Try.prog tk fk 2 [(0, false), (1, false), (3, true), (4, false), (5, false), (43, false), (57, false), (62, false), (63, false), (69, false), (71, false), (72, false)] Try.f37 = some F37 := by kernel_rfl
theorem has37 : Has Try.prog N 37 F37 := fun _ _ _ hK => compF_sound htk hfk good hmix Try.func37 ok37 hK
-- (*cratewatch/epoch.Desk).Now
theorem ok39 : compF Try.prog tk fk 1 [(0, false), (2, false)] Try.f39 = some F39 := by kernel_rfl
theorem has39 : Has Try.prog N 39 F39 := fun _ _ _ hK => compF_sound htk hfk good hmix Try.func39 ok39 hK
-- (*cratewatch/epoch.Desk).Closed
theorem ok40 : compF Try.prog tk fk 1 [(0, false), (2, false)] Try.f40 = some F40 := by kernel_rfl
theorem has40 : Has Try.prog N 40 F40 := fun _ _ _ hK => compF_sound htk hfk good hmix Try.func40 ok40 hK
-- (*cratewatch/epoch.Desk).Tick$1
theorem ok62 : compF Try.prog tk fk 3 [(0, false), (1, false), (2, false), (5, false), (14, false)] Try.f62 = some F62 := by kernel_rfl
theorem has62 : Has Try.prog N 62 F62 := fun _ _ _ hK => compF_sound htk hfk good hmix Try.func62 ok62 hK
-- cratewatch/epoch.before
theorem ok63 : compF Try.prog tk fk 2 [(0, false), (1, false), (2, true), (3, true), (4, false), (5, false), (16, false), (27, false)] Try.f63 = some F63 := by kernel_rfl
theorem has63 : Has Try.prog N 63 F63 := fun _ _ _ hK => compF_sound htk hfk good hmix Try.func63 ok63 hK
-- sort.pdqsort_func
theorem ok77 : compF Try.prog tk fk 4 [(0, false), (1, false), (2, false), (3, false), (4, true), (8, false), (9, false), (10, false), (11, false), (12, false), (13, false), (14, false), (15, false), (16, false), (17, false), (18, false), (23, false), (29, false), (35, false), (46, false), (50, false), (68, false), (72, false), (75, false), (81, false), (83, false), (88, false), (95, false), (109, false)] Try.f77 = some F77 := by kernel_rfl
theorem has77 : Has Try.prog N 77 F77 := fun _ _ _ hK => compF_sound htk hfk good hmix Try.func77 ok77 hK
-- sort.insertionSort_func
theorem ok98 : compF Try.prog tk fk 3 [(0, false), (1, false), (2, false), (3, true), (6, false), (7, false), (12, false), (19, false), (25, false), (26, false)] Try.f98 = some F98 := by kernel_rfl
theorem has98 : Has Try.prog N 98 F98 := fun _ _ _ hK => compF_sound htk hfk good hmix Try.func98 ok98 hK
-- sort.heapSort_func
theorem ok99 : compF Try.prog tk fk 3 [(0, false), (1, false), (2, false), (3, true), (6, false), (7, false), (8, false), (9, false), (10, false), (19, false), (30, false)] Try.f99 = some F99 := by kernel_rfl
theorem has99 : Has Try.prog N 99 F99 := fun _ _ _ hK => compF_sound htk hfk good hmix Try.func99 ok99 hK
-- sort.breakPatterns_func
theorem ok100 : compF Try.prog tk fk 3 [(0, false), (1, false), (2, false), (3, true), (6, false), (7, false), (8, false), (9, false), (10, false), (15, false), (17, false), (19, false), (33, false), (36, false), (43, false)] Try.f100 = some F100 := by kernel_rfl
theorem has100 : Has Try.prog N 100 F100 := fun _ _ _ hK => compF_sound htk hfk good hmix Try.func100 ok100 hK
-- sort.choosePivot_func
theorem ok101 : compF Try.prog tk fk 3 [(0, false), (1, false), (2, false), (3, true), (6, false), (7, false), (8, false), (9, false), (10, false), (11, false), (12, false), (32, false), (34, false), (37, false), (40, false), (43, false), (48, false), (49, false), (51, false), (54, false)] Try.f101 = some F101 := by kernel_rfl
theorem has101 : Has Try.prog N 101 F101 := fun _ _ _ hK => compF_sound htk hfk good hmix Try.func101 ok101 hK
-- sort.reverseRange_func
theorem ok102 : compF Try.prog tk fk 3 [(0, false), (1, false), (2, false), (3, true), (6, false), (7, false), (13, false)] Try.f102 = some F102 := by kernel_rfl
theorem has102 : Has Try.prog N 102 F102 := fun _ _ _ hK => compF_sound htk hfk good hmix Try.func102 ok102 hK
-- sort.partialInsertionSort_func
theorem ok103 : compF Try.prog tk fk 3 [(0, false), (1, false), (2, false), (3, true), (6, false), (7, false), (8, false), (9, false), (10, false), (14, false), (20, false), (26, false), (28, false), (33, false), (37, false), (47, false), (51, false), (59, false), (60, false), (70, false), (75, false), (83, false), (84, false)] Try.f103 = some F103 := by kernel_rfl
theorem has103 : Has Try.prog N 103 F103 := fun _ _ _ hK => compF_sound htk hfk good hmix Try.func103 ok103 hK
-- sort.partitionEqual_func
theorem ok104 : compF Try.prog tk fk 4 [(0, false), (1, false), (2, false), (3, false), (4, true), (8, false), (9, false), (10, false), (23, false), (28, false), (30, false), (36, false), (41, false), (42, false), (47, false)] Try.f104 = some F104 := by kernel_rfl
theorem has104 : Has Try.prog N 104 F104 := fun _ _ _ hK => compF_sound htk hfk good hmix Try.func104 ok104 hK
-- sort.partition_func
theorem ok105 : compF Try.prog tk fk 4 [(0, false), (1, false), (2, false), (3, false), (4, true), (8, false), (9, false), (10, false), (11, false), (24, false), (29, false), (30, false), (36, false), (41, false), (43, false), (48, false), (67, false), (72, false), (73, false), (79, false), (84, false), (86, false), (91, false)] Try.f105 = some F105 := by kernel_rfl
theorem has105 : Has Try.prog N 105 F105 := fun _ _ _ hK => compF_sound htk hfk good hmix Try.func105 ok105 hK
-- sort.siftDown_func
theorem ok112 : compF Try.prog tk fk 4 [(0, false), (1, false), (2, false), (3, false), (4, true), (8, false), (9, false), (16, false), (21, false), (31, false), (32, false), (43, false), (44, false)] Try.f112 = some F112 := by kernel_rfl
theorem has112 : Has Try.prog N 112 F112 := fun _ _ _ hK => compF_sound htk hfk good hmix Try.func112 ok112 hK
-- sort.nextPowerOfTwo
theorem ok113 : compF Try.prog tk fk 1 [(0, false), (2, false), (3, false), (6, false)] Try.f113 = some F113 := by kernel_rfl
theorem has113 : Has Try.prog N 113 F113 := fun _ _ _ hK => compF_sound htk hfk good hmix Try.func113 ok113 hK
-- (*sort.xorshift).Next
theorem ok114 : compF Try.prog tk fk 1 [(0, false), (2, false)] Try.f114 = some F114 := by kernel_rfl
theorem has114 : Has Try.prog N 114 F114 := fun _ _ _ hK => compF_sound htk hfk good hmix Try.func114 ok114 hK
-- sort.medianAdjacent_func
theorem ok115 : compF Try.prog tk fk 3 [(0, false), (1, false), (2, false), (3, true), (6, false), (14, false)] Try.f115 = some F115 := by kernel_rfl
theorem has115 : Has Try.prog N 115 F115 := fun _ _ _ hK => compF_sound htk hfk good hmix Try.func115 ok115 hK
-- sort.median_func
theorem ok116 : compF Try.prog tk fk 5 [(0, false), (1, false), (2, false), (3, false), (4, false), (5, true), (10, false), (16, false), (24, false), (32, false)] Try.f116 = some F116 := by kernel_rfl
theorem has116 : Has Try.prog N 116 F116 := fun _ _ _ hK => compF_sound htk hfk good hmix Try.func116 ok116 hK
-- sort.order2_func
theorem ok129 : compF Try.prog tk fk 4 [(0, false), (1, false), (2, false), (3, false), (4, true), (8, false), (9, false), (14, false)] Try.f129 = some F129 := by kernel_rfl
theorem has129 : Has Try.prog N 129 F129 := fun _ _ _ hK => compF_sound htk hfk good hmix Try.func129 ok129 hK
end Go.Proofs.Ythhepmakjimhlaa.CwTopEpochs
