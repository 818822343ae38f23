/- The seat's own part: the functions that WatchSays reaches, read into the language (closed facts). -/
import Derived.Test.YthhepmakjimhlaaGreatRows
import Derived.Test.YthhepmakjimhlaaGreatCw6
namespace Go.Proofs.YthhepmakjimhlaaGreat.CwWatchSays
open Go Go.Cw Go.Proofs
set_option maxRecDepth 100000
set_option linter.unusedVariables false
def fks : List Nat := [0, 1, 2, 100000, 100000, 100000, 100000, 100000, 100000, 100000, 100000, 100000, 100000, 100000, 71, 100000, 100000, 91, 100000, 9, 100000, 100000, 17, 100000, 33, 35, 70, 100000, 22, 28, 48, 50, 100000, 21, 27, 31, 100000, 65, 69, 49, 159, 61, 100000, 100000, 23, 32, 29, 160, 76, 75, 84, 26, 43, 93, 56, 73, 86, 63, 66, 67, 55, 52, 53, 54, 62, 16, 57, 58, 59, 96, 74, 82, 87, 77, 78, 79, 80, 81, 85, 46, 47, 64, 83, 68, 121, 94, 95, 97, 98, 99, 100, 101, 102, 103, 104, 105, 106, 107, 108, 109, 110, 111, 112, 113, 114, 115, 88, 89, 90, 116, 92, 120, 122, 123, 124, 125, 126, 117, 127, 128, 129, 130, 131, 132, 133, 134, 135, 118, 119, 136, 137, 138, 139, 140, 141, 142, 143, 144, 145, 146, 147, 148, 149, 150, 151, 152, 153, 154, 155, 156, 157, 158, 161, 162, 163, 164, 165, 100000, 100000, 100000, 100000, 100000, 100000, 100000, 100000, 100000, 100000, 100000, 25, 100000, 24, 100000, 100000, 100000, 60, 72, 100000, 100000, 100000, 100000, 100000, 100000, 100000, 100000, 100000, 100000, 51, 100000, 100000, 100000, 100000, 100000, 100000, 100000, 100000, 100000, 100000, 100000, 100000, 100000, 100000, 100000, 100000, 100000, 100000, 100000, 100000, 100000, 100000, 100000, 100000, 100000, 100000, 100000, 100000, 100000, 100000, 100000, 100000, 100000, 100000, 100000, 100000, 100000, 100000, 100000, 100000, 100000, 100000, 100000, 100000, 100000, 100000, 100000, 100000, 100000, 100000, 100000, 100000, 100000, 100000, 100000, 100000, 100000, 100000, 100000, 100000, 100000, 100000, 100000, 100000, 100000, 100000, 100000, 100000, 100000, 100000, 100000, 100000, 100000, 100000, 100000, 3, 4, 5, 6, 7, 8, 10, 11, 12, 13, 14, 15, 18, 19, 20, 30, 34, 36, 37, 38, 39, 40, 41, 42, 44, 45, 100000, 100000, 100000, 100000, 100000, 100000, 100000, 100000, 100000, 100000, 100000, 100000, 100000, 100000, 100000, 100000, 100000, 100000, 100000, 100000, 100000, 100000, 100000, 100000, 100000, 100000, 100000, 100000, 100000, 100000, 100000, 100000, 100000, 100000, 100000, 100000, 100000, 100000, 100000]
def tks : List Nat := [0, 1, 2, 3, 4, 5, 6, 7, 8, 9, 10, 11, 12, 13, 14, 15, 16, 17, 18, 19, 20, 21, 52, 28, 100000, 86, 62, 100000, 100000, 63, 168, 53, 54, 55, 100000, 100000, 76, 77, 78, 74, 75, 200, 34, 35, 120, 100000, 39, 100000, 100000, 113, 73, 100000, 158, 82, 83, 164, 56, 57, 100000, 114, 80, 100000, 93, 94, 105, 42, 43, 108, 46, 79, 100000, 27, 85, 91, 92, 156, 59, 60, 61, 44, 45, 102, 103, 104, 110, 111, 100000, 163, 167, 100000, 146, 100000, 100000, 87, 95, 96, 112, 172, 121, 100000, 106, 107, 187, 101, 48, 119, 148, 149, 170, 128, 190, 97, 100, 159, 160, 165, 166, 139, 132, 133, 134, 135, 143, 144, 145, 147, 173, 129, 130, 131, 140, 141, 142, 157, 188, 189, 70, 71, 72, 136, 137, 138, 150, 151, 152, 205, 171, 191, 192, 186, 174, 175, 176, 177, 178, 179, 180, 181, 182, 183, 184, 185, 22, 124, 125, 126, 127, 161, 162, 223, 203, 204, 206, 207, 208, 209, 210, 211, 193, 212, 213, 214, 215, 216, 217, 218, 194, 195, 196, 197, 198, 199, 219, 201, 202, 222, 224, 225, 226, 227, 228, 229, 220, 230, 231, 232, 233, 234, 235, 236, 237, 221, 238, 239, 240, 241, 242, 243, 244, 245, 246, 247, 248, 249, 250, 251, 252, 253, 254, 255, 256, 257, 258, 259, 260, 100000, 100000, 100000, 100000, 31, 32, 99, 100000, 98, 100000, 100000, 100000, 100000, 100000, 153, 169, 100000, 100000, 100000, 100000, 100000, 100000, 100000, 100000, 100000, 100000, 100000, 100000, 100000, 100000, 100000, 100000, 100000, 100000, 100000, 100000, 100000, 100000, 100000, 109, 100000, 100000, 100000, 100000, 100000, 100000, 100000, 100000, 100000, 100000, 100000, 100000, 100000, 100000, 100000, 100000, 100000, 100000, 100000, 100000, 100000, 100000, 100000, 100000, 100000, 100000, 100000, 100000, 100000, 100000, 100000, 100000, 100000, 100000, 100000, 100000, 100000, 100000, 100000, 100000, 100000, 100000, 23, 24, 25, 26, 29, 30, 33, 36, 37, 38, 40, 41, 47, 49, 50, 51, 58, 64, 65, 66, 67, 68, 69, 81, 84, 88, 89, 90, 115, 116, 117, 118, 122, 123, 154, 155, 100000, 100000, 100000, 100000, 100000, 100000, 100000, 100000, 100000, 100000, 100000, 100000, 100000, 100000, 100000, 100000, 100000, 100000, 100000, 100000, 100000, 100000, 100000, 100000, 100000, 100000, 100000, 100000, 100000, 100000, 100000, 100000, 100000, 100000, 100000]
def pos : List Nat → Nat → Nat → Option Nat
  | [], _, _ => none
  | y :: r, x, i => if x = y then some i else pos r x (i + 1)
theorem pos_spec : ∀ (l : List Nat) (x i k : Nat), pos l x i = some k → i ≤ k ∧ l.getD (k - i) 0 = x := by
  intro l
  induction l with
  | nil => intro x i k h; simp [pos] at h
  | cons y r ih =>
    intro x i k h
    simp only [pos] at h
    split at h
    · rename_i e; cases h; exact ⟨Nat.le_refl _, by simp [e]⟩
    · obtain ⟨h1, h2⟩ := ih _ _ _ h
      refine ⟨by omega, ?_⟩
      have : k - i = (k - (i + 1)) + 1 := by omega
      rw [this, List.getD_cons_succ]; exact h2
def fk (f : Nat) : Option Nat := pos fks f 0
def tk (f : Nat) : Option Nat := pos tks f 0
def N : Num := ⟨fun k => fks.getD k 0, fun k => tks.getD k 0⟩
theorem htk : ∀ t k, tk t = some k → N.tid k = t := fun _ _ h => (pos_spec _ _ _ _ h).2
theorem hfk : ∀ f k, fk f = some k → N.fid k = f := fun _ _ h => (pos_spec _ _ _ _ h).2
theorem good : Go.Cw.Good Tryz.prog N (GF Tryz.prog N) := fun _ _ _ _ h => h
theorem hmix : Tryz.prog.follows .mixedOrders = true := by kernel_rfl
def mk (l t : List Nat) : List (Nat × Bool) := l.map fun i => (i, t.contains i)
theorem hz {k i np : Nat} {m : List (Nat × Bool)} {F : SFun} {fn : Func} (hk : N.fid k = i) (hf : Tryz.prog.funcs[i]? = some fn) (h : compF Tryz.prog tk fk np m fn = some F) : Has Tryz.prog N k F := by
  subst hk
  exact fun _ _ _ hK => compF_sound htk hfk good hmix hf h hK
theorem hzp {k i np : Nat} {m : List (Nat × Bool)} {F : SFun} {fn : Func} (hk : N.fid k = i) (hf : Tryz.prog.funcs[i]? = some fn) (hi : ItOk Tryz.prog (N.fid 71) 3) (h : compFP Tryz.prog tk fk 71 3 np m fn = some F) : Has Tryz.prog N k F := by
  subst hk
  exact fun _ _ _ hK => compFP_sound htk hfk good hmix hf hi h hK
theorem has14 : Has Tryz.prog N 14 F14 := hz rfl Tryz.func71 (np := 2) (m := mk [0,1,4,5,6,7,8,9,21,33,58,72,73,74,75] []) (by kernel_rfl)
theorem has17 : Has Tryz.prog N 17 F17 := hz rfl Tryz.func91 (np := 1) (m := mk [0,1,2,3,4,12,31,39,43,48,55,89] [1,4]) (by kernel_rfl)
theorem has19 : Has Tryz.prog N 19 F19 := hz rfl Tryz.func9 (np := 2) (m := mk [0,1,4,5,6,8] []) (by kernel_rfl)
theorem has22 : Has Tryz.prog N 22 F22 := hz rfl Tryz.func17 (np := 1) (m := mk [0,1,2,3,4,5,6,7,8,13,20,21,31,39,43,51,58,67,72] [1,5]) (by kernel_rfl)
theorem has24 : Has Tryz.prog N 24 F24 := hz rfl Tryz.func33 (np := 2) (m := mk [0,1,4,5,6,7,8,16,19,20,21,22,23,25,35,37,38] [6]) (by kernel_rfl)
theorem has25 : Has Tryz.prog N 25 F25 := hz rfl Tryz.func35 (np := 2) (m := mk [0,1,4,5,6,7,8,17,20,21,22,24,25,27,28,33,34] [6]) (by kernel_rfl)
theorem has26 : Has Tryz.prog N 26 F26 := hz rfl Tryz.func70 (np := 1) (m := mk [0,2] []) (by kernel_rfl)
theorem has28 : Has Tryz.prog N 28 F28 := hz rfl Tryz.func22 (np := 2) (m := mk [0,1,4,5,20,22,23,24,26] []) (by kernel_rfl)
theorem has29 : Has Tryz.prog N 29 F29 := hz rfl Tryz.func28 (np := 2) (m := mk [0,1,4,5,7,8,9,10,11,12,13,14,15,17,35,41,42,44,45,57,61,63,64,68,69,70,71,79,83,84,85,90,91,92,93,104,105,106,107,111,112,113,116,117,118] [7]) (by kernel_rfl)
theorem has30 : Has Tryz.prog N 30 F30 := hz rfl Tryz.func48 (np := 3) (m := mk [0,1,2,6,7,8,9,20,32] []) (by kernel_rfl)
theorem has31 : Has Tryz.prog N 31 F31 := hz rfl Tryz.func50 (np := 1) (m := mk [0,2] []) (by kernel_rfl)
theorem has33 : Has Tryz.prog N 33 F33 := hz rfl Tryz.func21 (np := 2) (m := mk [0,1,4,5,19,21,22,23,25] []) (by kernel_rfl)
theorem has34 : Has Tryz.prog N 34 F34 := hz rfl Tryz.func27 (np := 2) (m := mk [0,1,4,5,6,7,18,47,56,69,76,77] []) (by kernel_rfl)
theorem has35 : Has Tryz.prog N 35 F35 := hz rfl Tryz.func31 (np := 2) (m := mk [0,1,4,5,6,7,8,19,21,32,34,35,38,39,42,44,45] []) (by kernel_rfl)
theorem has37 : Has Tryz.prog N 37 F37 := hz rfl Tryz.func65 (np := 2) (m := mk [0,1,3,4,5,43,57,62,63,69,71,72] [3]) (by kernel_rfl)
theorem has38 : Has Tryz.prog N 38 F38 := hz rfl Tryz.func69 (np := 2) (m := mk [0,1,3,4,42,49,51,52,53,57,67,68] [3]) (by kernel_rfl)
theorem has39 : Has Tryz.prog N 39 F39 := hz rfl Tryz.func49 (np := 1) (m := mk [0,2] []) (by kernel_rfl)
theorem has41 : Has Tryz.prog N 41 F41 := hz rfl Tryz.func61 (np := 1) (m := mk [0,2,3,20] []) (by kernel_rfl)
theorem has44 : Has Tryz.prog N 44 F44 := hz rfl Tryz.func23 (np := 3) (m := mk [0,1,2,6,7,26,32] []) (by kernel_rfl)
theorem has45 : Has Tryz.prog N 45 F45 := hz rfl Tryz.func32 (np := 2) (m := mk [0,1,4,5,9,41,42,46,48,49,50,53,54] []) (by kernel_rfl)
theorem it71 : ItOk Tryz.prog (N.fid 71) 3 := itRead_ok htk hfk good Tryz.func82 (by kernel_rfl)
theorem has46 : Has Tryz.prog N 46 F46 := hzp rfl Tryz.func29 it71 (np := 1) (m := mk [0,2,3,4,5,6,8,9,10,11,13,14,20,25,26,31,32,34,35,36,38,39,42,43,44,45,46,50,66,67,68,69,73,75,76,81,102,107,112,116,118,119] []) (by kernel_rfl)
theorem has48 : Has Tryz.prog N 48 F48 := hz rfl Tryz.func76 (np := 5) (m := mk [0,1,2,3,4,10,11,12,13,16,25,26,28,29] []) (by kernel_rfl)
theorem has49 : Has Tryz.prog N 49 F49 := hz rfl Tryz.func75 (np := 3) (m := mk [0,1,2,6,7,18] []) (by kernel_rfl)
theorem has50 : Has Tryz.prog N 50 F50 := hz rfl Tryz.func84 (np := 4) (m := mk [0,1,2,3,8,9,10,11,17,30,32,38,40] []) (by kernel_rfl)
theorem has51 : Has Tryz.prog N 51 F51 := hz rfl Tryz.func26 (np := 2) (m := mk [0,1,4,5,6,7,9] []) (by kernel_rfl)
theorem has52 : Has Tryz.prog N 52 F52 := hz rfl Tryz.func43 (np := 3) (m := mk [0,1,2,6,7,8,19,27,29,33] []) (by kernel_rfl)
theorem has53 : Has Tryz.prog N 53 F53 := hz rfl Tryz.func93 (np := 4) (m := mk [0,1,2,3,8,9,10,15,28,31,36] []) (by kernel_rfl)
theorem has54 : Has Tryz.prog N 54 F54 := hz rfl Tryz.func56 (np := 1) (m := mk [0,1,2] []) (by kernel_rfl)
theorem has55 : Has Tryz.prog N 55 F55 := hz rfl Tryz.func73 (np := 3) (m := mk [0,1,2,6,7,8,20,32,47] []) (by kernel_rfl)
theorem has56 : Has Tryz.prog N 56 F56 := hz rfl Tryz.func86 (np := 1) (m := mk [0,2,3,4,6,7,8] []) (by kernel_rfl)
theorem has57 : Has Tryz.prog N 57 F57 := hz rfl Tryz.func63 (np := 1) (m := mk [0,2,3,4,5,8,12,19,24,30,34,35,45,47,49,51] [2]) (by kernel_rfl)
theorem has58 : Has Tryz.prog N 58 F58 := hz rfl Tryz.func66 (np := 1) (m := mk [0,2,3,4,5,6,7,29,37,44,48,52,74,75,83,89,91,93,97,99,103] [2,5]) (by kernel_rfl)
theorem has59 : Has Tryz.prog N 59 F59 := hz rfl Tryz.func67 (np := 1) (m := mk [0,2,5] []) (by kernel_rfl)
theorem has60 : Has Tryz.prog N 60 F60 := hz rfl Tryz.func55 (np := 2) (m := mk [0,1,4,5,6,7,9,10,11,12,13,14,31,32,33,34,40,41,42,43,58,59,60,68,93] []) (by kernel_rfl)
theorem has62 : Has Tryz.prog N 62 F62 := hz rfl Tryz.func53 (np := 3) (m := mk [0,1,2,5,14] []) (by kernel_rfl)
theorem has63 : Has Tryz.prog N 63 F63 := hz rfl Tryz.func54 (np := 2) (m := mk [0,1,2,3,4,5,16,27] [2,3]) (by kernel_rfl)
theorem has64 : Has Tryz.prog N 64 F64 := hz rfl Tryz.func62 (np := 2) (m := mk [0,1,4,5,6,7,8,15,27,35,38,40,41,44,51,52] [7]) (by kernel_rfl)
theorem has65 : Has Tryz.prog N 65 F65 := hz rfl Tryz.func16 (np := 1) (m := mk [0,1,2,3,5,6,7,8,9,13,14,15,19,23,27,33,39,43,45,49,60,63,66,67] [1]) (by kernel_rfl)
theorem has66 : Has Tryz.prog N 66 F66 := hz rfl Tryz.func57 (np := 1) (m := mk [0,2,3,4,7,8,9,11] [3]) (by kernel_rfl)
theorem has68 : Has Tryz.prog N 68 F68 := hz rfl Tryz.func59 (np := 4) (m := mk [0,1,2,3,8,9,10,11,12,13,14,25,35,45,62] []) (by kernel_rfl)
theorem has69 : Has Tryz.prog N 69 F69 := hz rfl Tryz.func96 (np := 6) (m := mk [0,1,2,3,4,5,12,13,14,15,16,17,24,28,32,34,39,41,43,44,53,63,70,72,74,83,86,92,95] []) (by kernel_rfl)
theorem has70 : Has Tryz.prog N 70 F70 := hz rfl Tryz.func74 (np := 3) (m := mk [0,1,2,6,7,8,9,11,13,25,29] []) (by kernel_rfl)
theorem has72 : Has Tryz.prog N 72 F72 := hz rfl Tryz.func87 (np := 2) (m := mk [0,1,4,5,6,8,10,25,30,33,46,47,49,56] [4,6]) (by kernel_rfl)
theorem has77 : Has Tryz.prog N 77 F77 := hz rfl Tryz.func81 (np := 4) (m := mk [0,1,2,3,4,8,9,10,11,12,13,14,15,16,17,18,23,29,35,46,50,68,72,75,81,83,88,95,109] [4]) (by kernel_rfl)
theorem has78 : Has Tryz.prog N 78 F78 := hz rfl Tryz.func85 (np := 2) (m := mk [0,1,2,3,4,9,19,29] [2,3]) (by kernel_rfl)
theorem has79 : Has Tryz.prog N 79 F79 := hz rfl Tryz.func46 (np := 1) (m := mk [0,2,3,4,5,8,11,14,17,20] [2]) (by kernel_rfl)
theorem has80 : Has Tryz.prog N 80 F80 := hz rfl Tryz.func47 (np := 3) (m := mk [0,1,2,6,7,11,14,20,21] []) (by kernel_rfl)
theorem has81 : Has Tryz.prog N 81 F81 := hz rfl Tryz.func64 (np := 1) (m := mk [0,2,3,4,5,6,7,8,9,12,14,16,17,18,30,37,38,39,41,43,47,48,50,51,52,53,54,55,56,57,58,59,65,66,68] [2,8]) (by kernel_rfl)
theorem has83 : Has Tryz.prog N 83 F83 := hz rfl Tryz.func68 (np := 1) (m := mk [0,2,3,4,7,8,9,11] [3]) (by kernel_rfl)
theorem has84 : Has Tryz.prog N 84 F84 := hz rfl Tryz.func121 (np := 5) (m := mk [0,1,2,3,4,10,11,12,13,21,27,30,34,37] []) (by kernel_rfl)
theorem has85 : Has Tryz.prog N 85 F85 := hz rfl Tryz.func94 (np := 1) (m := mk [0,2,3,4,5,7,11,17,24] []) (by kernel_rfl)
theorem has86 : Has Tryz.prog N 86 F86 := hz rfl Tryz.func95 (np := 3) (m := mk [0,1,2,6,7,8,9,10,11,12,14,22,30,47] []) (by kernel_rfl)
theorem has98 : Has Tryz.prog N 98 F98 := hz rfl Tryz.func108 (np := 3) (m := mk [0,1,2,3,6,7,12,19,25,26] [3]) (by kernel_rfl)
theorem has99 : Has Tryz.prog N 99 F99 := hz rfl Tryz.func109 (np := 3) (m := mk [0,1,2,3,6,7,8,9,10,19,30] [3]) (by kernel_rfl)
theorem has100 : Has Tryz.prog N 100 F100 := hz rfl Tryz.func110 (np := 3) (m := mk [0,1,2,3,6,7,8,9,10,15,17,19,33,36,43] [3]) (by kernel_rfl)
theorem has101 : Has Tryz.prog N 101 F101 := hz rfl Tryz.func111 (np := 3) (m := mk [0,1,2,3,6,7,8,9,10,11,12,32,34,37,40,43,48,49,51,54] [3]) (by kernel_rfl)
theorem has102 : Has Tryz.prog N 102 F102 := hz rfl Tryz.func112 (np := 3) (m := mk [0,1,2,3,6,7,13] [3]) (by kernel_rfl)
theorem has103 : Has Tryz.prog N 103 F103 := hz rfl Tryz.func113 (np := 3) (m := mk [0,1,2,3,6,7,8,9,10,14,20,26,28,33,37,47,51,59,60,70,75,83,84] [3]) (by kernel_rfl)
theorem has104 : Has Tryz.prog N 104 F104 := hz rfl Tryz.func114 (np := 4) (m := mk [0,1,2,3,4,8,9,10,23,28,30,36,41,42,47] [4]) (by kernel_rfl)
theorem has105 : Has Tryz.prog N 105 F105 := hz rfl Tryz.func115 (np := 4) (m := mk [0,1,2,3,4,8,9,10,11,24,29,30,36,41,43,48,67,72,73,79,84,86,91] [4]) (by kernel_rfl)
theorem has106 : Has Tryz.prog N 106 F106 := hz rfl Tryz.func88 (np := 2) (m := mk [0,1,3,4] []) (by kernel_rfl)
theorem has107 : Has Tryz.prog N 107 F107 := hz rfl Tryz.func89 (np := 1) (m := mk [0,2,3,4,11,17] [2]) (by kernel_rfl)
theorem has108 : Has Tryz.prog N 108 F108 := hz rfl Tryz.func90 (np := 1) (m := mk [0,1,2,3,4,22,27,28,29,37,39,42,50,52,55,67] [1,3]) (by kernel_rfl)
theorem has110 : Has Tryz.prog N 110 F110 := hz rfl Tryz.func92 (np := 1) (m := mk [0,1,2,3,4,5,6,7,8,11,15,17,19,22,27,28,29,31,36,41,44,47,48] [2,6]) (by kernel_rfl)
theorem has111 : Has Tryz.prog N 111 F111 := hz rfl Tryz.func120 (np := 4) (m := mk [0,1,2,3,8,9,10,11,12,13,14,15,26,38,50,60,65] [15]) (by kernel_rfl)
theorem has112 : Has Tryz.prog N 112 F112 := hz rfl Tryz.func122 (np := 4) (m := mk [0,1,2,3,4,8,9,16,21,31,32,43,44] [4]) (by kernel_rfl)
theorem has113 : Has Tryz.prog N 113 F113 := hz rfl Tryz.func123 (np := 1) (m := mk [0,2,3,6] []) (by kernel_rfl)
theorem has114 : Has Tryz.prog N 114 F114 := hz rfl Tryz.func124 (np := 1) (m := mk [0,2] []) (by kernel_rfl)
theorem has115 : Has Tryz.prog N 115 F115 := hz rfl Tryz.func125 (np := 3) (m := mk [0,1,2,3,6,14] [3]) (by kernel_rfl)
theorem has116 : Has Tryz.prog N 116 F116 := hz rfl Tryz.func126 (np := 5) (m := mk [0,1,2,3,4,5,10,16,24,32] [5]) (by kernel_rfl)
theorem has117 : Has Tryz.prog N 117 F117 := hz rfl Tryz.func117 (np := 1) (m := mk [0,2,3,4,5,6] []) (by kernel_rfl)
theorem has127 : Has Tryz.prog N 127 F127 := hz rfl Tryz.func118 (np := 3) (m := mk [0,1,2,4,5,6,9] []) (by kernel_rfl)
theorem has128 : Has Tryz.prog N 128 F128 := hz rfl Tryz.func119 (np := 1) (m := mk [0,1,2,3,4,8,9,10,42,46,49,52,60,63,66,68] [1]) (by kernel_rfl)
theorem has129 : Has Tryz.prog N 129 F129 := hz rfl Tryz.func136 (np := 4) (m := mk [0,1,2,3,4,8,9,14] [4]) (by kernel_rfl)
theorem has168 : Has Tryz.prog N 168 F168 := hz rfl Tryz.func25 (np := 1) (m := mk [0,1,2,3,13,18,32,80,99] [1]) (by kernel_rfl)
theorem has170 : Has Tryz.prog N 170 F170 := hz rfl Tryz.func24 (np := 1) (m := mk [0,1,2,5,6,55,75] [1]) (by kernel_rfl)
theorem has174 : Has Tryz.prog N 174 F174 := hz rfl Tryz.func60 (np := 4) (m := mk [0,1,2,3,5,8,9,10,11,12,15,17,23,25,28,29,30,44,53,61,66,77,68] [5,9]) (by kernel_rfl)
theorem has175 : Has Tryz.prog N 175 F175 := hz rfl Tryz.func72 (np := 4) (m := mk [0,1,2,3,5,8,9,10,11,12,13,15,17,33,39,41,49,57,65,71,75,77,79,80] [5]) (by kernel_rfl)
theorem has186 : Has Tryz.prog N 186 F186 := hz rfl Tryz.func51 (np := 1) (m := mk [0,2,3,5,6,7,18] []) (by kernel_rfl)
theorem has262 : Has Tryz.prog N 262 F262 := hz rfl Tryz.func3 (np := 3) (m := mk [0,1,2,3,6,7,8,9,10,11,12,13,14,15,16,17,18,19,20,23,25,28,30,32,35,37,38,45,50,52,55,65,69,78,82,88,101,104,109,116,125,134,140,143,145,154,157] [3,15]) (by kernel_rfl)
theorem has263 : Has Tryz.prog N 263 F263 := hz rfl Tryz.func4 (np := 0) (m := mk [0,1,2,3,4,5,6,7,8,9,10,11,14,22,24,26,29,31,32,37,43,47,48,50,52,54,68,70,73,75] [1]) (by kernel_rfl)
theorem has264 : Has Tryz.prog N 264 F264 := hz rfl Tryz.func5 (np := 2) (m := mk [0,1,4,5,6,10,14,41] []) (by kernel_rfl)
theorem has265 : Has Tryz.prog N 265 F265 := hz rfl Tryz.func6 (np := 1) (m := mk [0,2,3,6,10,19] []) (by kernel_rfl)
theorem has266 : Has Tryz.prog N 266 F266 := hz rfl Tryz.func7 (np := 2) (m := mk [0,1,2,4,5,6,7,9,11,12,14,15,16,17,18,19,21,23,28,30,34,37,42,44,48,51,60,62,66,69,70,71,72,73,74,75,82,88,90,91,92,93,94,96,98,100,105] [2,9,14]) (by kernel_rfl)
theorem has267 : Has Tryz.prog N 267 F267 := hz rfl Tryz.func8 (np := 2) (m := mk [0,1,2,4,5,6,7,8,70,72,94,97,101,108,110,114,127] []) (by kernel_rfl)
theorem has268 : Has Tryz.prog N 268 F268 := hz rfl Tryz.func10 (np := 2) (m := mk [0,1,2,4,5,9,10,16,27,32] [2]) (by kernel_rfl)
theorem has269 : Has Tryz.prog N 269 F269 := hz rfl Tryz.func11 (np := 2) (m := mk [0,1,4,5,6,7,9,16,20,22,23,24,25,27,34,36] [9]) (by kernel_rfl)
theorem has270 : Has Tryz.prog N 270 F270 := hz rfl Tryz.func12 (np := 2) (m := mk [0,1,4,5,6,7,8,14,20] []) (by kernel_rfl)
theorem has271 : Has Tryz.prog N 271 F271 := hz rfl Tryz.func13 (np := 3) (m := mk [0,1,2,6,7,8,10,12,18,22,30,31,32,33,34,36,38,39,40,41,43,51] [10,12]) (by kernel_rfl)
theorem has272 : Has Tryz.prog N 272 F272 := hz rfl Tryz.func14 (np := 3) (m := mk [0,1,2,6,7,8,9,10,16,19,26,30,38,56] []) (by kernel_rfl)
theorem has273 : Has Tryz.prog N 273 F273 := hz rfl Tryz.func15 (np := 2) (m := mk [0,1,4,5,6,7,8,9,10,11,12,13,14,15,16,17,18,20,25,27,29,37,40,42,43,44,47,49,50,51,52,54,56,62,70,72,77,89,94,95,96,100,122,132,145,155,165,171,174,182,185,187] []) (by kernel_rfl)
theorem has274 : Has Tryz.prog N 274 F274 := hz rfl Tryz.func18 (np := 3) (m := mk [0,1,2,6,7,14] []) (by kernel_rfl)
theorem has275 : Has Tryz.prog N 275 F275 := hz rfl Tryz.func19 (np := 1) (m := mk [0,2,7] []) (by kernel_rfl)
theorem has276 : Has Tryz.prog N 276 F276 := hz rfl Tryz.func20 (np := 1) (m := mk [0,2,7] []) (by kernel_rfl)
theorem has277 : Has Tryz.prog N 277 F277 := hzp rfl Tryz.func30 it71 (np := 2) (m := mk [0,1,4,5,6,7,9,14,15,16,18,19,25,26,27,28,29,31,32,33,34,35,45,46,50,55,56] []) (by kernel_rfl)
theorem has278 : Has Tryz.prog N 278 F278 := hz rfl Tryz.func34 (np := 3) (m := mk [0,1,2,5,6,7,8,9,13,14,15,17,38,63,76,77,79,84,86,89,91,93] [5,6]) (by kernel_rfl)
theorem has279 : Has Tryz.prog N 279 F279 := hz rfl Tryz.func36 (np := 3) (m := mk [0,1,2,5,6,7,8,15,43,44,55,74,101,102,113,114,118,121,122] [5]) (by kernel_rfl)
theorem has280 : Has Tryz.prog N 280 F280 := hz rfl Tryz.func37 (np := 1) (m := mk [0,2,3,4,8,9,10,13,19] [2,3]) (by kernel_rfl)
theorem has281 : Has Tryz.prog N 281 F281 := hz rfl Tryz.func38 (np := 1) (m := mk [0,2,3,4,8,10] [2,3]) (by kernel_rfl)
theorem has282 : Has Tryz.prog N 282 F282 := hz rfl Tryz.func39 (np := 2) (m := mk [0,1,4,5,10,14,25] []) (by kernel_rfl)
theorem has283 : Has Tryz.prog N 283 F283 := hz rfl Tryz.func40 (np := 1) (m := mk [0,2,7] []) (by kernel_rfl)
theorem has284 : Has Tryz.prog N 284 F284 := hz rfl Tryz.func41 (np := 1) (m := mk [0,2,3,4,5,6,7,8,18,26,33,39,58,59,60,68,69] []) (by kernel_rfl)
theorem has285 : Has Tryz.prog N 285 F285 := hz rfl Tryz.func42 (np := 2) (m := mk [0,1,4,5,11] []) (by kernel_rfl)
theorem has286 : Has Tryz.prog N 286 F286 := hz rfl Tryz.func44 (np := 3) (m := mk [0,1,2,6,7,9,17,21,29,18] []) (by kernel_rfl)
theorem has287 : Has Tryz.prog N 287 F287 := hz rfl Tryz.func45 (np := 3) (m := mk [0,1,2,6,7,9,17,21,40,41,18] []) (by kernel_rfl)
end Go.Proofs.YthhepmakjimhlaaGreat.CwWatchSays
