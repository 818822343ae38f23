/- The seat's own part: the functions that TopAlerts reaches, read into the language (closed facts). -/
import Derived.Test.YthhepmakjimhlabGreatRows
import Derived.Test.YthhepmakjimhlabGreatCw5
namespace Go.Proofs.YthhepmakjimhlabGreat.CwTopAlerts
open Go Go.Cw Go.Proofs
set_option maxRecDepth 100000
set_option linter.unusedVariables false
def fks : List Nat := [0, 1, 2, 100000, 100000, 100000, 100000, 100000, 100000, 100000, 100000, 100000, 100000, 100000, 100000, 100000, 100000, 100000, 100000, 100000, 100000, 100000, 100000, 100000, 21, 100000, 55, 100000, 38, 29, 43, 25, 100000, 37, 28, 100000, 100000, 53, 100000, 54, 125, 100000, 100000, 100000, 39, 100000, 30, 126, 100000, 56, 67, 100000, 100000, 100000, 48, 100000, 58, 41, 100000, 100000, 47, 44, 45, 46, 100000, 100000, 49, 50, 51, 100000, 100000, 65, 59, 60, 61, 62, 63, 64, 100000, 100000, 100000, 13, 66, 100000, 100000, 100000, 100000, 68, 69, 70, 71, 72, 73, 74, 75, 76, 77, 78, 79, 80, 81, 82, 83, 84, 85, 86, 22, 23, 24, 87, 100000, 100000, 88, 89, 90, 91, 92, 42, 93, 94, 95, 96, 97, 98, 99, 100, 101, 100000, 100000, 102, 103, 104, 105, 106, 107, 108, 109, 110, 111, 112, 113, 114, 115, 116, 117, 118, 119, 120, 121, 122, 123, 124, 127, 128, 129, 130, 131, 100000, 100000, 100000, 100000, 100000, 100000, 100000, 100000, 100000, 100000, 100000, 20, 100000, 40, 100000, 100000, 100000, 52, 100000, 100000, 100000, 100000, 100000, 100000, 100000, 100000, 100000, 100000, 100000, 57, 100000, 100000, 100000, 100000, 100000, 100000, 100000, 100000, 100000, 100000, 100000, 100000, 100000, 100000, 100000, 100000, 100000, 100000, 100000, 100000, 100000, 100000, 100000, 100000, 100000, 100000, 100000, 100000, 100000, 100000, 100000, 100000, 100000, 100000, 100000, 100000, 100000, 100000, 100000, 100000, 100000, 100000, 100000, 100000, 100000, 100000, 100000, 100000, 100000, 100000, 100000, 100000, 100000, 100000, 100000, 100000, 100000, 100000, 100000, 100000, 100000, 100000, 100000, 100000, 100000, 100000, 100000, 100000, 100000, 100000, 100000, 100000, 100000, 100000, 100000, 100000, 100000, 6, 9, 19, 8, 100000, 16, 100000, 17, 100000, 100000, 27, 33, 14, 31, 32, 100000, 34, 100000, 35, 12, 100000, 100000, 36, 100000, 100000, 100000, 100000, 3, 4, 5, 7, 10, 11, 15, 18, 26, 100000, 100000, 100000, 100000, 100000, 100000, 100000, 100000, 100000, 100000, 100000, 100000, 100000, 100000, 100000, 100000, 100000, 100000, 100000, 100000, 100000, 100000, 100000, 100000, 100000, 100000, 100000]
def tks : List Nat := [0, 1, 2, 3, 4, 5, 6, 7, 8, 9, 10, 11, 12, 13, 14, 15, 16, 17, 18, 19, 20, 21, 100000, 101, 100000, 76, 100000, 100000, 100000, 35, 100000, 100000, 100000, 100000, 100000, 100000, 70, 71, 72, 73, 74, 100000, 41, 42, 106, 100000, 100000, 100000, 100000, 68, 100000, 100000, 115, 65, 66, 100000, 100000, 100000, 100000, 69, 45, 100000, 110, 111, 97, 53, 54, 100, 57, 93, 100000, 27, 75, 108, 109, 100000, 100000, 100000, 100000, 55, 56, 94, 95, 96, 100000, 100000, 100000, 142, 100000, 100000, 52, 100000, 100000, 77, 112, 113, 100000, 100000, 107, 100000, 98, 99, 160, 100000, 191, 100000, 136, 137, 100000, 100000, 144, 83, 100000, 116, 117, 100000, 100000, 143, 120, 119, 121, 122, 129, 130, 131, 132, 147, 123, 124, 125, 126, 127, 128, 100000, 100000, 100000, 100000, 39, 40, 133, 134, 135, 138, 139, 140, 100000, 100000, 145, 146, 159, 148, 149, 150, 151, 152, 153, 154, 155, 85, 156, 157, 158, 22, 100000, 100000, 100000, 100000, 43, 44, 100000, 100000, 173, 161, 162, 163, 164, 165, 166, 84, 167, 168, 169, 170, 171, 172, 174, 86, 87, 88, 89, 90, 91, 175, 100000, 100000, 100000, 176, 177, 178, 179, 180, 181, 118, 182, 183, 184, 185, 186, 187, 188, 189, 100000, 190, 192, 193, 194, 195, 196, 197, 198, 199, 200, 201, 202, 203, 204, 205, 206, 207, 208, 209, 210, 211, 212, 213, 100000, 100000, 100000, 100000, 46, 47, 64, 100000, 114, 100000, 100000, 100000, 100000, 100000, 141, 100000, 100000, 100000, 100000, 100000, 100000, 100000, 100000, 100000, 100000, 100000, 100000, 100000, 100000, 100000, 100000, 100000, 100000, 100000, 100000, 100000, 100000, 100000, 100000, 102, 100000, 100000, 100000, 100000, 100000, 100000, 100000, 100000, 100000, 100000, 100000, 100000, 100000, 100000, 100000, 100000, 100000, 100000, 100000, 100000, 100000, 100000, 100000, 100000, 100000, 100000, 100000, 100000, 100000, 100000, 100000, 100000, 100000, 100000, 100000, 100000, 100000, 100000, 100000, 100000, 100000, 100000, 23, 24, 25, 26, 28, 33, 29, 62, 63, 32, 100000, 100000, 58, 100000, 59, 100000, 100000, 79, 80, 100000, 100000, 100000, 51, 78, 67, 37, 81, 82, 103, 104, 105, 38, 100000, 100000, 49, 50, 100000, 100000, 100000, 30, 31, 34, 36, 48, 60, 61, 92, 100000, 100000, 100000, 100000, 100000, 100000, 100000, 100000, 100000, 100000, 100000, 100000, 100000, 100000, 100000, 100000, 100000, 100000, 100000, 100000, 100000, 100000, 100000, 100000]
def pos : List Nat → Nat → Nat → Option Nat
  | [], _, _ => none
  | y :: r, x, i => if x = y then some i else pos r x (i + 1)
theorem pos_spec : ∀ (l : List Nat) (x i k : Nat), pos l x i = some k → i ≤ k ∧ l.getD (k - i) 0 = x := by
  intro l
  induction l with
  | nil => intro x i k h; simp [pos] at h
  | cons y r ih =>
    intro x i k h
    simp only [pos] at h
    split at h
    · rename_i e; cases h; exact ⟨Nat.le_refl _, by simp [e]⟩
    · obtain ⟨h1, h2⟩ := ih _ _ _ h
      refine ⟨by omega, ?_⟩
      have : k - i = (k - (i + 1)) + 1 := by omega
      rw [this, List.getD_cons_succ]; exact h2
def fk (f : Nat) : Option Nat := pos fks f 0
def tk (f : Nat) : Option Nat := pos tks f 0
def N : Num := ⟨fun k => fks.getD k 0, fun k => tks.getD k 0⟩
theorem htk : ∀ t k, tk t = some k → N.tid k = t := fun _ _ h => (pos_spec _ _ _ _ h).2
theorem hfk : ∀ f k, fk f = some k → N.fid k = f := fun _ _ h => (pos_spec _ _ _ _ h).2
theorem good : Go.Cw.Good Tryz.prog N (GF Tryz.prog N) := fun _ _ _ _ h => h
theorem hmix : Tryz.prog.follows .mixedOrders = true := by kernel_rfl
def mk (l t : List Nat) : List (Nat × Bool) := l.map fun i => (i, t.contains i)
theorem hz {k i np : Nat} {m : List (Nat × Bool)} {F : SFun} {fn : Func} (hk : N.fid k = i) (hf : Tryz.prog.funcs[i]? = some fn) (h : compF Tryz.prog tk fk np m fn = some F) : Has Tryz.prog N k F := by
  subst hk
  exact fun _ _ _ hK => compF_sound htk hfk good hmix hf h hK
theorem hzp {k i np : Nat} {m : List (Nat × Bool)} {F : SFun} {fn : Func} (hk : N.fid k = i) (hf : Tryz.prog.funcs[i]? = some fn) (hi : ItOk Tryz.prog (N.fid 71) 3) (h : compFP Tryz.prog tk fk 71 3 np m fn = some F) : Has Tryz.prog N k F := by
  subst hk
  exact fun _ _ _ hK => compFP_sound htk hfk good hmix hf hi h hK
theorem has24 : Has Tryz.prog N 24 F24 := hz rfl Tryz.func21 (np := 2) (m := mk [0,1,4,5,6,7,8,16,19,20,21,22,23,25,35,37,38] [6]) (by kernel_rfl)
theorem has28 : Has Tryz.prog N 28 F28 := hz rfl Tryz.func38 (np := 2) (m := mk [0,1,4,5,20,22,23,24,26] []) (by kernel_rfl)
theorem has29 : Has Tryz.prog N 29 F29 := hz rfl Tryz.func29 (np := 2) (m := mk [0,1,4,5,7,8,9,10,11,12,13,14,15,17,35,41,42,44,45,57,61,63,64,68,69,70,71,79,83,84,85,90,91,92,93,104,105,106,107,111,112,113,116,117,118] [7]) (by kernel_rfl)
theorem has30 : Has Tryz.prog N 30 F30 := hz rfl Tryz.func43 (np := 3) (m := mk [0,1,2,6,7,8,9,20,32] []) (by kernel_rfl)
theorem has31 : Has Tryz.prog N 31 F31 := hz rfl Tryz.func25 (np := 1) (m := mk [0,2] []) (by kernel_rfl)
theorem has33 : Has Tryz.prog N 33 F33 := hz rfl Tryz.func37 (np := 2) (m := mk [0,1,4,5,19,21,22,23,25] []) (by kernel_rfl)
theorem has34 : Has Tryz.prog N 34 F34 := hz rfl Tryz.func28 (np := 2) (m := mk [0,1,4,5,6,7,18,47,56,69,76,77] []) (by kernel_rfl)
theorem has37 : Has Tryz.prog N 37 F37 := hz rfl Tryz.func53 (np := 2) (m := mk [0,1,3,4,5,43,57,62,63,69,71,72] [3]) (by kernel_rfl)
theorem has39 : Has Tryz.prog N 39 F39 := hz rfl Tryz.func54 (np := 1) (m := mk [0,2] []) (by kernel_rfl)
theorem has44 : Has Tryz.prog N 44 F44 := hz rfl Tryz.func39 (np := 3) (m := mk [0,1,2,6,7,26,32] []) (by kernel_rfl)
theorem it71 : ItOk Tryz.prog (N.fid 71) 3 := itRead_ok htk hfk good Tryz.func65 (by kernel_rfl)
theorem has46 : Has Tryz.prog N 46 F46 := hzp rfl Tryz.func30 it71 (np := 1) (m := mk [0,2,3,4,5,6,8,9,10,11,13,14,20,25,26,31,32,34,35,36,38,39,42,43,44,45,46,50,66,67,68,69,73,75,76,81,102,107,112,116,118,119] []) (by kernel_rfl)
theorem has50 : Has Tryz.prog N 50 F50 := hz rfl Tryz.func67 (np := 4) (m := mk [0,1,2,3,8,9,10,11,17,30,32,38,40] []) (by kernel_rfl)
theorem has54 : Has Tryz.prog N 54 F54 := hz rfl Tryz.func48 (np := 1) (m := mk [0,1,2] []) (by kernel_rfl)
theorem has56 : Has Tryz.prog N 56 F56 := hz rfl Tryz.func58 (np := 1) (m := mk [0,2,3,4,6,7,8] []) (by kernel_rfl)
theorem has57 : Has Tryz.prog N 57 F57 := hz rfl Tryz.func41 (np := 1) (m := mk [0,2,3,4,5,8,12,19,24,30,34,35,45,47,49,51] [2]) (by kernel_rfl)
theorem has60 : Has Tryz.prog N 60 F60 := hz rfl Tryz.func47 (np := 2) (m := mk [0,1,4,5,6,7,9,10,11,12,13,14,31,32,33,34,40,41,42,43,58,59,60,68,93] []) (by kernel_rfl)
theorem has62 : Has Tryz.prog N 62 F62 := hz rfl Tryz.func45 (np := 3) (m := mk [0,1,2,5,14] []) (by kernel_rfl)
theorem has63 : Has Tryz.prog N 63 F63 := hz rfl Tryz.func46 (np := 2) (m := mk [0,1,2,3,4,5,16,27] [2,3]) (by kernel_rfl)
theorem has66 : Has Tryz.prog N 66 F66 := hz rfl Tryz.func49 (np := 1) (m := mk [0,2,3,4,7,8,9,11] [3]) (by kernel_rfl)
theorem has68 : Has Tryz.prog N 68 F68 := hz rfl Tryz.func51 (np := 4) (m := mk [0,1,2,3,8,9,10,11,12,13,14,25,35,45,62] []) (by kernel_rfl)
theorem has72 : Has Tryz.prog N 72 F72 := hz rfl Tryz.func59 (np := 2) (m := mk [0,1,4,5,6,8,10,25,30,33,46,47,49,56] [4,6]) (by kernel_rfl)
theorem has77 : Has Tryz.prog N 77 F77 := hz rfl Tryz.func64 (np := 4) (m := mk [0,1,2,3,4,8,9,10,11,12,13,14,15,16,17,18,23,29,35,46,50,68,72,75,81,83,88,95,109] [4]) (by kernel_rfl)
theorem has81 : Has Tryz.prog N 81 F81 := hz rfl Tryz.func13 (np := 1) (m := mk [0,2,3,4,5,6,7,8,9,12,14,16,17,18,30,37,38,39,41,43,47,48,50,51,52,53,54,55,56,57,58,59,65,66,68] [2,8]) (by kernel_rfl)
theorem has98 : Has Tryz.prog N 98 F98 := hz rfl Tryz.func79 (np := 3) (m := mk [0,1,2,3,6,7,12,19,25,26] [3]) (by kernel_rfl)
theorem has99 : Has Tryz.prog N 99 F99 := hz rfl Tryz.func80 (np := 3) (m := mk [0,1,2,3,6,7,8,9,10,19,30] [3]) (by kernel_rfl)
theorem has100 : Has Tryz.prog N 100 F100 := hz rfl Tryz.func81 (np := 3) (m := mk [0,1,2,3,6,7,8,9,10,15,17,19,33,36,43] [3]) (by kernel_rfl)
theorem has101 : Has Tryz.prog N 101 F101 := hz rfl Tryz.func82 (np := 3) (m := mk [0,1,2,3,6,7,8,9,10,11,12,32,34,37,40,43,48,49,51,54] [3]) (by kernel_rfl)
theorem has102 : Has Tryz.prog N 102 F102 := hz rfl Tryz.func83 (np := 3) (m := mk [0,1,2,3,6,7,13] [3]) (by kernel_rfl)
theorem has103 : Has Tryz.prog N 103 F103 := hz rfl Tryz.func84 (np := 3) (m := mk [0,1,2,3,6,7,8,9,10,14,20,26,28,33,37,47,51,59,60,70,75,83,84] [3]) (by kernel_rfl)
theorem has104 : Has Tryz.prog N 104 F104 := hz rfl Tryz.func85 (np := 4) (m := mk [0,1,2,3,4,8,9,10,23,28,30,36,41,42,47] [4]) (by kernel_rfl)
theorem has105 : Has Tryz.prog N 105 F105 := hz rfl Tryz.func86 (np := 4) (m := mk [0,1,2,3,4,8,9,10,11,24,29,30,36,41,43,48,67,72,73,79,84,86,91] [4]) (by kernel_rfl)
theorem has106 : Has Tryz.prog N 106 F106 := hz rfl Tryz.func22 (np := 2) (m := mk [0,1,3,4] []) (by kernel_rfl)
theorem has107 : Has Tryz.prog N 107 F107 := hz rfl Tryz.func23 (np := 1) (m := mk [0,2,3,4,11,17] [2]) (by kernel_rfl)
theorem has108 : Has Tryz.prog N 108 F108 := hz rfl Tryz.func24 (np := 1) (m := mk [0,1,2,3,4,22,27,28,29,37,39,42,50,52,55,67] [1,3]) (by kernel_rfl)
theorem has112 : Has Tryz.prog N 112 F112 := hz rfl Tryz.func88 (np := 4) (m := mk [0,1,2,3,4,8,9,16,21,31,32,43,44] [4]) (by kernel_rfl)
theorem has113 : Has Tryz.prog N 113 F113 := hz rfl Tryz.func89 (np := 1) (m := mk [0,2,3,6] []) (by kernel_rfl)
theorem has114 : Has Tryz.prog N 114 F114 := hz rfl Tryz.func90 (np := 1) (m := mk [0,2] []) (by kernel_rfl)
theorem has115 : Has Tryz.prog N 115 F115 := hz rfl Tryz.func91 (np := 3) (m := mk [0,1,2,3,6,14] [3]) (by kernel_rfl)
theorem has116 : Has Tryz.prog N 116 F116 := hz rfl Tryz.func92 (np := 5) (m := mk [0,1,2,3,4,5,10,16,24,32] [5]) (by kernel_rfl)
theorem has117 : Has Tryz.prog N 117 F117 := hz rfl Tryz.func42 (np := 1) (m := mk [0,2,3,4,5,6] []) (by kernel_rfl)
theorem has129 : Has Tryz.prog N 129 F129 := hz rfl Tryz.func102 (np := 4) (m := mk [0,1,2,3,4,8,9,14] [4]) (by kernel_rfl)
theorem has168 : Has Tryz.prog N 168 F168 := hz rfl Tryz.func20 (np := 1) (m := mk [0,1,2,3,13,18,32,80,99] [1]) (by kernel_rfl)
theorem has170 : Has Tryz.prog N 170 F170 := hz rfl Tryz.func40 (np := 1) (m := mk [0,1,2,5,6,55,75] [1]) (by kernel_rfl)
theorem has174 : Has Tryz.prog N 174 F174 := hz rfl Tryz.func52 (np := 4) (m := mk [0,1,2,3,5,8,9,10,11,12,15,17,23,25,28,29,30,44,53,61,66,77,68] [5,9]) (by kernel_rfl)
theorem has186 : Has Tryz.prog N 186 F186 := hz rfl Tryz.func57 (np := 1) (m := mk [0,2,3,5,6,7,18] []) (by kernel_rfl)
theorem has264 : Has Tryz.prog N 264 F264 := hz rfl Tryz.func6 (np := 2) (m := mk [0,1,4,5,6,10,14,41] []) (by kernel_rfl)
theorem has265 : Has Tryz.prog N 265 F265 := hz rfl Tryz.func9 (np := 1) (m := mk [0,2,3,6,10,19] []) (by kernel_rfl)
theorem has266 : Has Tryz.prog N 266 F266 := hz rfl Tryz.func19 (np := 2) (m := mk [0,1,2,4,5,6,7,9,11,12,14,15,16,17,18,19,21,23,28,30,34,37,42,44,48,51,60,62,66,69,70,71,72,73,74,75,82,88,90,91,92,93,94,96,98,100,105] [2,9,14]) (by kernel_rfl)
theorem has267 : Has Tryz.prog N 267 F267 := hz rfl Tryz.func8 (np := 2) (m := mk [0,1,2,4,5,6,7,8,70,72,94,97,101,108,110,114,127] []) (by kernel_rfl)
theorem has269 : Has Tryz.prog N 269 F269 := hz rfl Tryz.func16 (np := 2) (m := mk [0,1,4,5,6,7,9,16,20,22,23,24,25,27,34,36] [9]) (by kernel_rfl)
theorem has271 : Has Tryz.prog N 271 F271 := hz rfl Tryz.func17 (np := 3) (m := mk [0,1,2,6,7,8,10,12,18,22,30,31,32,33,34,36,38,39,40,41,43,51] [10,12]) (by kernel_rfl)
theorem has274 : Has Tryz.prog N 274 F274 := hz rfl Tryz.func27 (np := 3) (m := mk [0,1,2,6,7,14] []) (by kernel_rfl)
theorem has276 : Has Tryz.prog N 276 F276 := hz rfl Tryz.func14 (np := 1) (m := mk [0,2,7] []) (by kernel_rfl)
theorem has277 : Has Tryz.prog N 277 F277 := hzp rfl Tryz.func31 it71 (np := 2) (m := mk [0,1,4,5,6,7,9,14,15,16,18,19,25,26,27,28,29,31,32,33,34,35,45,46,50,55,56] []) (by kernel_rfl)
theorem has278 : Has Tryz.prog N 278 F278 := hz rfl Tryz.func32 (np := 3) (m := mk [0,1,2,5,6,7,8,9,13,14,15,17,38,63,76,77,79,84,86,89,91,93] [5,6]) (by kernel_rfl)
theorem has283 : Has Tryz.prog N 283 F283 := hz rfl Tryz.func12 (np := 1) (m := mk [0,2,7] []) (by kernel_rfl)
theorem has291 : Has Tryz.prog N 291 F291 := hz rfl Tryz.func3 (np := 3) (m := mk [0,1,2,3,6,7,8,9,10,11,12,13,14,15,16,17,18,19,20,22,23,27,31,34,36,38,43,45,47,49,53,61,62,63,65,69,72,74,75,94,105,110,130,131] [3,14]) (by kernel_rfl)
theorem has294 : Has Tryz.prog N 294 F294 := hz rfl Tryz.func7 (np := 2) (m := mk [0,1,2,4,5,6,7,9,10,14] [2]) (by kernel_rfl)
theorem has295 : Has Tryz.prog N 295 F295 := hz rfl Tryz.func10 (np := 2) (m := mk [0,1,4,5,9,17,30,40,44,45,32,42,31,41] []) (by kernel_rfl)
theorem has296 : Has Tryz.prog N 296 F296 := hz rfl Tryz.func11 (np := 1) (m := mk [0,2,3,4,5,6,7,8,9,10,14,47,59,63,78,84,104,105,115,116] []) (by kernel_rfl)
theorem has297 : Has Tryz.prog N 297 F297 := hz rfl Tryz.func15 (np := 4) (m := mk [0,1,2,3,5,8,9,10,11,12,13,20,22,30,38,46,53,65,55] [5]) (by kernel_rfl)
theorem has299 : Has Tryz.prog N 299 F299 := hz rfl Tryz.func26 (np := 4) (m := mk [0,1,2,3,8,9,10,11,17,26,28,34,36] []) (by kernel_rfl)
end Go.Proofs.YthhepmakjimhlabGreat.CwTopAlerts
