/- The seat's own part: the functions that ConsoleSays reaches, read into the language (closed facts). -/
import Derived.Test.YthhepmakjimhlabGreatDoorRows
import Derived.Test.YthhepmakjimhlabGreatDoorCw5
namespace Go.Proofs.YthhepmakjimhlabGreatDoor.CwConsoleSays
open Go Go.Cw Go.Proofs
set_option maxRecDepth 100000
set_option linter.unusedVariables false
def fks:List Nat:=[0,1,2,100000,100000,100000,100000,100000,100000,100000,100000,100000,100000,100000,81,100000,100000,52,69,6,122,100000,53,100000,65,79,73,100000,148,61,128,105,100000,147,60,77,100000,114,135,115,262,130,100000,100000,149,78,62,263,90,129,157,41,54,136,106,88,123,112,132,133,104,101,102,103,131,51,107,108,109,138,89,155,159,150,151,152,153,154,170,84,87,113,156,134,172,36,137,184,185,186,187,188,189,190,191,192,193,194,195,196,197,198,199,200,201,202,160,121,120,203,47,171,215,216,217,218,219,163,220,221,222,223,224,225,226,227,228,83,85,235,236,237,238,239,240,241,244,245,246,247,248,249,250,251,252,253,254,255,256,257,258,259,260,265,268,269,271,100000,100000,100000,100000,100000,68,119,48,67,50,100000,39,96,142,40,57,13,110,82,34,118,162,86,116,22,117,14,38,95,179,37,91,92,93,94,74,204,161,58,139,140,141,127,229,20,124,125,230,126,146,97,98,99,173,174,175,176,177,178,166,167,168,169,242,243,56,164,165,111,181,182,183,143,144,145,211,212,213,207,208,209,210,205,206,158,214,180,233,234,231,232,264,266,267,270,272,273,274,275,276,277,278,279,280,281,100000,100000,100000,100000,100,17,18,27,43,29,45,100000,76,100000,261,63,66,80,33,49,100000,70,46,31,75,55,100000,100000,100000,100000,100000,100000,100000,100000,100000,100000,100000,100000,3,4,5,7,8,9,10,11,12,15,16,19,21,23,24,25,26,28,30,32,35,42,44,59,64,71,72]
def tks:List Nat:=[0,1,2,3,4,5,6,7,8,9,10,11,12,13,14,15,16,17,18,19,20,21,39,23,100000,132,49,100000,100000,22,161,40,41,42,100000,100000,115,116,117,113,114,118,24,25,151,153,28,217,100000,146,119,100000,204,128,129,225,43,44,100000,147,155,56,238,239,138,184,185,141,89,157,100000,100000,131,236,237,223,46,47,48,100000,100000,126,127,137,158,159,100000,207,229,100000,86,100000,100000,133,240,241,160,171,156,100000,139,140,230,100,72,120,198,199,169,143,218,57,65,205,206,226,227,228,191,190,192,193,187,188,189,194,264,179,180,181,182,183,186,224,265,266,112,106,107,195,196,197,200,201,202,231,170,254,255,253,242,243,244,245,246,247,248,249,145,250,251,252,31,164,165,167,168,149,150,268,66,75,275,276,277,278,279,260,215,280,281,282,283,284,285,286,163,211,212,213,214,210,287,108,109,267,306,307,308,309,310,311,257,312,313,314,315,316,80,317,318,166,325,326,327,328,329,335,336,93,337,338,339,340,341,342,343,344,258,345,346,347,348,349,350,100000,100000,152,100000,67,68,98,174,233,99,123,124,69,70,203,162,100000,82,216,101,208,209,81,76,71,96,97,172,173,256,288,125,232,222,319,320,219,220,221,142,176,175,269,270,271,272,273,274,259,261,262,263,304,330,331,332,144,234,235,295,296,54,297,298,299,291,292,293,294,289,290,305,321,322,323,324,300,301,302,303,333,334,32,33,34,35,100000,100000,59,177,178,77,36,78,90,102,91,103,45,50,51,52,53,100000,100000,134,130,104,135,136,148,94,100000,105,121,122,110,111,100000,100000,100000,100000,100000,100000,100000,100000,100000,100000,100000,26,27,29,30,37,38,55,58,60,61,62,63,64,73,74,79,83,84,85,87,88,92,95,154]
def pos:List Nat->Nat->Nat->Option Nat
  |[],_,_=>none
  |y::r,x,i=>if x=y then some i else pos r x (i+1)
theorem pos_spec:∀ (l:List Nat) (x i k:Nat),pos l x i=some k->i<=k/\l.getD (k-i) 0=x:=by
  intro l
  induction l with
  |nil=>intro x i k h;simp[pos]at h
  |cons y r ih=>
    intro x i k h
    simp only[pos]at h
    split at h
    · rename_i e;cases h;exact⟨Nat.le_refl _,by simp[e]⟩
    · obtain⟨h1,h2⟩:=ih _ _ _ h
      refine⟨by omega,?_⟩
      have:k-i=(k-(i+1))+1:=by omega
      rw[this,List.getD_cons_succ];exact h2
def fk (f:Nat):Option Nat:=pos fks f 0
def tk (f:Nat):Option Nat:=pos tks f 0
def N:Num:=⟨λk=>fks.getD k 0,λk=>tks.getD k 0⟩
theorem htk:∀ t k,tk t=some k->N.tid k=t:=λ_ _ h=>(pos_spec _ _ _ _ h).2
theorem hfk:∀ f k,fk f=some k->N.fid k=f:=λ_ _ h=>(pos_spec _ _ _ _ h).2
theorem good:Go.Cw.Good Tryz.prog N (GF Tryz.prog N):=λ_ _ _ _ h=>h
theorem hmix:Tryz.prog.follows .mixedOrders=true:=by kernel_rfl
def mk (l t:List Nat):List (Nat×Bool):=l.map λi=>(i,t.contains i)
theorem hz {k i np:Nat} {m:List (Nat×Bool)} {F:SFun} {fn:Func} (hk:N.fid k=i) (hf:Tryz.prog.funcs[i]?=some fn) (h:compF Tryz.prog tk fk np m fn=some F):Has Tryz.prog N k F:=by
  subst hk
  exact λ_ _ _ hK=>compF_sound htk hfk good hmix hf h hK
theorem hzp {k i np:Nat} {m:List (Nat×Bool)} {F:SFun} {fn:Func} (hk:N.fid k=i) (hf:Tryz.prog.funcs[i]?=some fn) (hi:ItOk Tryz.prog (N.fid 71) 3) (h:compFP Tryz.prog tk fk 71 3 np m fn=some F):Has Tryz.prog N k F:=by
  subst hk
  exact λ_ _ _ hK=>compFP_sound htk hfk good hmix hf hi h hK
theorem has14:Has Tryz.prog N 14 F14:=hz rfl Tryz.func81 (np:=2) (m:=mk [0,1,4,5,6,7,8,9,21,33,58,72,73,74,75] []) (by kernel_rfl)
theorem has17:Has Tryz.prog N 17 F17:=hz rfl Tryz.func52 (np:=1) (m:=mk [0,1,2,3,4,12,31,39,43,48,55,89] [1,4]) (by kernel_rfl)
theorem has18:Has Tryz.prog N 18 F18:=hz rfl Tryz.func69 (np:=1) (m:=mk [0,1,2,3,4,5,7,8,10,12,15,16,19,20,21,22,24,25,35,36,40,42,44,48,49,56,61,63,64] [1,7]) (by kernel_rfl)
theorem has19:Has Tryz.prog N 19 F19:=hz rfl Tryz.func6 (np:=2) (m:=mk [0,1,4,5,6,8] []) (by kernel_rfl)
theorem has20:Has Tryz.prog N 20 F20:=hz rfl Tryz.func122 (np:=1) (m:=mk [0,1,2,4,12,32,41,46,49,50,51,52,54,88] [1,4]) (by kernel_rfl)
theorem has22:Has Tryz.prog N 22 F22:=hz rfl Tryz.func53 (np:=1) (m:=mk [0,1,2,3,4,5,6,7,8,13,20,21,31,39,43,51,58,67,72] [1,5]) (by kernel_rfl)
theorem has24:Has Tryz.prog N 24 F24:=hz rfl Tryz.func65 (np:=2) (m:=mk [0,1,4,5,6,7,8,16,19,20,21,22,23,25,35,37,38] [6]) (by kernel_rfl)
theorem has25:Has Tryz.prog N 25 F25:=hz rfl Tryz.func79 (np:=2) (m:=mk [0,1,4,5,6,7,8,17,20,21,22,24,25,27,28,33,34] [6]) (by kernel_rfl)
theorem has26:Has Tryz.prog N 26 F26:=hz rfl Tryz.func73 (np:=1) (m:=mk [0,2] []) (by kernel_rfl)
theorem has28:Has Tryz.prog N 28 F28:=hz rfl Tryz.func148 (np:=2) (m:=mk [0,1,4,5,20,22,23,24,26] []) (by kernel_rfl)
theorem has29:Has Tryz.prog N 29 F29:=hz rfl Tryz.func61 (np:=2) (m:=mk [0,1,4,5,7,8,9,10,11,12,13,14,15,17,35,41,42,44,45,57,61,63,64,68,69,70,71,79,83,84,85,90,91,92,93,104,105,106,107,111,112,113,116,117,118] [7]) (by kernel_rfl)
theorem has30:Has Tryz.prog N 30 F30:=hz rfl Tryz.func128 (np:=3) (m:=mk [0,1,2,6,7,8,9,20,32] []) (by kernel_rfl)
theorem has31:Has Tryz.prog N 31 F31:=hz rfl Tryz.func105 (np:=1) (m:=mk [0,2] []) (by kernel_rfl)
theorem has33:Has Tryz.prog N 33 F33:=hz rfl Tryz.func147 (np:=2) (m:=mk [0,1,4,5,19,21,22,23,25] []) (by kernel_rfl)
theorem has34:Has Tryz.prog N 34 F34:=hz rfl Tryz.func60 (np:=2) (m:=mk [0,1,4,5,6,7,18,47,56,69,76,77] []) (by kernel_rfl)
theorem has35:Has Tryz.prog N 35 F35:=hz rfl Tryz.func77 (np:=2) (m:=mk [0,1,4,5,6,7,8,19,21,32,34,35,38,39,42,44,45] []) (by kernel_rfl)
theorem has37:Has Tryz.prog N 37 F37:=hz rfl Tryz.func114 (np:=2) (m:=mk [0,1,3,4,5,43,57,62,63,69,71,72] [3]) (by kernel_rfl)
theorem has38:Has Tryz.prog N 38 F38:=hz rfl Tryz.func135 (np:=2) (m:=mk [0,1,3,4,42,49,51,52,53,57,67,68] [3]) (by kernel_rfl)
theorem has39:Has Tryz.prog N 39 F39:=hz rfl Tryz.func115 (np:=1) (m:=mk [0,2] []) (by kernel_rfl)
theorem has41:Has Tryz.prog N 41 F41:=hz rfl Tryz.func130 (np:=1) (m:=mk [0,2,3,20] []) (by kernel_rfl)
theorem has44:Has Tryz.prog N 44 F44:=hz rfl Tryz.func149 (np:=3) (m:=mk [0,1,2,6,7,26,32] []) (by kernel_rfl)
theorem has45:Has Tryz.prog N 45 F45:=hz rfl Tryz.func78 (np:=2) (m:=mk [0,1,4,5,9,41,42,46,48,49,50,53,54] []) (by kernel_rfl)
theorem it71:ItOk Tryz.prog (N.fid 71) 3:=itRead_ok htk hfk good Tryz.func155 (by kernel_rfl)
theorem has46:Has Tryz.prog N 46 F46:=hzp rfl Tryz.func62 it71 (np:=1) (m:=mk [0,2,3,4,5,6,8,9,10,11,13,14,20,25,26,31,32,34,35,36,38,39,42,43,44,45,46,50,66,67,68,69,73,75,76,81,102,107,112,116,118,119] []) (by kernel_rfl)
theorem has48:Has Tryz.prog N 48 F48:=hz rfl Tryz.func90 (np:=5) (m:=mk [0,1,2,3,4,10,11,12,13,16,25,26,28,29] []) (by kernel_rfl)
theorem has49:Has Tryz.prog N 49 F49:=hz rfl Tryz.func129 (np:=3) (m:=mk [0,1,2,6,7,18] []) (by kernel_rfl)
theorem has50:Has Tryz.prog N 50 F50:=hz rfl Tryz.func157 (np:=4) (m:=mk [0,1,2,3,8,9,10,11,17,30,32,38,40] []) (by kernel_rfl)
theorem has51:Has Tryz.prog N 51 F51:=hz rfl Tryz.func41 (np:=2) (m:=mk [0,1,4,5,6,7,9] []) (by kernel_rfl)
theorem has52:Has Tryz.prog N 52 F52:=hz rfl Tryz.func54 (np:=3) (m:=mk [0,1,2,6,7,8,19,27,29,33] []) (by kernel_rfl)
theorem has53:Has Tryz.prog N 53 F53:=hz rfl Tryz.func136 (np:=4) (m:=mk [0,1,2,3,8,9,10,15,28,31,36] []) (by kernel_rfl)
theorem has54:Has Tryz.prog N 54 F54:=hz rfl Tryz.func106 (np:=1) (m:=mk [0,1,2] []) (by kernel_rfl)
theorem has55:Has Tryz.prog N 55 F55:=hz rfl Tryz.func88 (np:=3) (m:=mk [0,1,2,6,7,8,20,32,47] []) (by kernel_rfl)
theorem has56:Has Tryz.prog N 56 F56:=hz rfl Tryz.func123 (np:=1) (m:=mk [0,2,3,4,6,7,8] []) (by kernel_rfl)
theorem has57:Has Tryz.prog N 57 F57:=hz rfl Tryz.func112 (np:=1) (m:=mk [0,2,3,4,5,8,12,19,24,30,34,35,45,47,49,51] [2]) (by kernel_rfl)
theorem has58:Has Tryz.prog N 58 F58:=hz rfl Tryz.func132 (np:=1) (m:=mk [0,2,3,4,5,6,7,29,37,44,48,52,74,75,83,89,91,93,97,99,103] [2,5]) (by kernel_rfl)
theorem has59:Has Tryz.prog N 59 F59:=hz rfl Tryz.func133 (np:=1) (m:=mk [0,2,5] []) (by kernel_rfl)
theorem has60:Has Tryz.prog N 60 F60:=hz rfl Tryz.func104 (np:=2) (m:=mk [0,1,4,5,6,7,9,10,11,12,13,14,31,32,33,34,40,41,42,43,58,59,60,68,93] []) (by kernel_rfl)
theorem has62:Has Tryz.prog N 62 F62:=hz rfl Tryz.func102 (np:=3) (m:=mk [0,1,2,5,14] []) (by kernel_rfl)
theorem has63:Has Tryz.prog N 63 F63:=hz rfl Tryz.func103 (np:=2) (m:=mk [0,1,2,3,4,5,16,27] [2,3]) (by kernel_rfl)
theorem has64:Has Tryz.prog N 64 F64:=hz rfl Tryz.func131 (np:=2) (m:=mk [0,1,4,5,6,7,8,15,27,35,38,40,41,44,51,52] [7]) (by kernel_rfl)
theorem has65:Has Tryz.prog N 65 F65:=hz rfl Tryz.func51 (np:=1) (m:=mk [0,1,2,3,5,6,7,8,9,13,14,15,19,23,27,33,39,43,45,49,60,63,66,67] [1]) (by kernel_rfl)
theorem has66:Has Tryz.prog N 66 F66:=hz rfl Tryz.func107 (np:=1) (m:=mk [0,2,3,4,7,8,9,11] [3]) (by kernel_rfl)
theorem has68:Has Tryz.prog N 68 F68:=hz rfl Tryz.func109 (np:=4) (m:=mk [0,1,2,3,8,9,10,11,12,13,14,25,35,45,62] []) (by kernel_rfl)
theorem has69:Has Tryz.prog N 69 F69:=hz rfl Tryz.func138 (np:=6) (m:=mk [0,1,2,3,4,5,12,13,14,15,16,17,24,28,32,34,39,41,43,44,53,63,70,72,74,83,86,92,95] []) (by kernel_rfl)
theorem has70:Has Tryz.prog N 70 F70:=hz rfl Tryz.func89 (np:=3) (m:=mk [0,1,2,6,7,8,9,11,13,25,29] []) (by kernel_rfl)
theorem has72:Has Tryz.prog N 72 F72:=hz rfl Tryz.func159 (np:=2) (m:=mk [0,1,4,5,6,8,10,25,30,33,46,47,49,56] [4,6]) (by kernel_rfl)
theorem has77:Has Tryz.prog N 77 F77:=hz rfl Tryz.func154 (np:=4) (m:=mk [0,1,2,3,4,8,9,10,11,12,13,14,15,16,17,18,23,29,35,46,50,68,72,75,81,83,88,95,109] [4]) (by kernel_rfl)
theorem has78:Has Tryz.prog N 78 F78:=hz rfl Tryz.func170 (np:=2) (m:=mk [0,1,2,3,4,9,19,29] [2,3]) (by kernel_rfl)
theorem has79:Has Tryz.prog N 79 F79:=hz rfl Tryz.func84 (np:=1) (m:=mk [0,2,3,4,5,8,11,14,17,20] [2]) (by kernel_rfl)
theorem has80:Has Tryz.prog N 80 F80:=hz rfl Tryz.func87 (np:=3) (m:=mk [0,1,2,6,7,11,14,20,21] []) (by kernel_rfl)
theorem has81:Has Tryz.prog N 81 F81:=hz rfl Tryz.func113 (np:=1) (m:=mk [0,2,3,4,5,6,7,8,9,12,14,16,17,18,30,37,38,39,41,43,47,48,50,51,52,53,54,55,56,57,58,59,65,66,68] [2,8]) (by kernel_rfl)
theorem has83:Has Tryz.prog N 83 F83:=hz rfl Tryz.func134 (np:=1) (m:=mk [0,2,3,4,7,8,9,11] [3]) (by kernel_rfl)
theorem has84:Has Tryz.prog N 84 F84:=hz rfl Tryz.func172 (np:=5) (m:=mk [0,1,2,3,4,10,11,12,13,21,27,30,34,37] []) (by kernel_rfl)
theorem has85:Has Tryz.prog N 85 F85:=hz rfl Tryz.func36 (np:=1) (m:=mk [0,2,3,4,5,7,11,17,24] []) (by kernel_rfl)
theorem has86:Has Tryz.prog N 86 F86:=hz rfl Tryz.func137 (np:=3) (m:=mk [0,1,2,6,7,8,9,10,11,12,14,22,30,47] []) (by kernel_rfl)
theorem has98:Has Tryz.prog N 98 F98:=hz rfl Tryz.func195 (np:=3) (m:=mk [0,1,2,3,6,7,12,19,25,26] [3]) (by kernel_rfl)
theorem has99:Has Tryz.prog N 99 F99:=hz rfl Tryz.func196 (np:=3) (m:=mk [0,1,2,3,6,7,8,9,10,19,30] [3]) (by kernel_rfl)
theorem has100:Has Tryz.prog N 100 F100:=hz rfl Tryz.func197 (np:=3) (m:=mk [0,1,2,3,6,7,8,9,10,15,17,19,33,36,43] [3]) (by kernel_rfl)
theorem has101:Has Tryz.prog N 101 F101:=hz rfl Tryz.func198 (np:=3) (m:=mk [0,1,2,3,6,7,8,9,10,11,12,32,34,37,40,43,48,49,51,54] [3]) (by kernel_rfl)
theorem has102:Has Tryz.prog N 102 F102:=hz rfl Tryz.func199 (np:=3) (m:=mk [0,1,2,3,6,7,13] [3]) (by kernel_rfl)
theorem has103:Has Tryz.prog N 103 F103:=hz rfl Tryz.func200 (np:=3) (m:=mk [0,1,2,3,6,7,8,9,10,14,20,26,28,33,37,47,51,59,60,70,75,83,84] [3]) (by kernel_rfl)
theorem has104:Has Tryz.prog N 104 F104:=hz rfl Tryz.func201 (np:=4) (m:=mk [0,1,2,3,4,8,9,10,23,28,30,36,41,42,47] [4]) (by kernel_rfl)
theorem has105:Has Tryz.prog N 105 F105:=hz rfl Tryz.func202 (np:=4) (m:=mk [0,1,2,3,4,8,9,10,11,24,29,30,36,41,43,48,67,72,73,79,84,86,91] [4]) (by kernel_rfl)
theorem has106:Has Tryz.prog N 106 F106:=hz rfl Tryz.func160 (np:=2) (m:=mk [0,1,3,4] []) (by kernel_rfl)
theorem has107:Has Tryz.prog N 107 F107:=hz rfl Tryz.func121 (np:=1) (m:=mk [0,2,3,4,11,17] [2]) (by kernel_rfl)
theorem has108:Has Tryz.prog N 108 F108:=hz rfl Tryz.func120 (np:=1) (m:=mk [0,1,2,3,4,22,27,28,29,37,39,42,50,52,55,67] [1,3]) (by kernel_rfl)
theorem has110:Has Tryz.prog N 110 F110:=hz rfl Tryz.func47 (np:=1) (m:=mk [0,1,2,3,4,5,6,7,8,11,15,17,19,22,27,28,29,31,36,41,44,47,48] [2,6]) (by kernel_rfl)
theorem has111:Has Tryz.prog N 111 F111:=hz rfl Tryz.func171 (np:=4) (m:=mk [0,1,2,3,8,9,10,11,12,13,14,15,26,38,50,60,65] [15]) (by kernel_rfl)
theorem has112:Has Tryz.prog N 112 F112:=hz rfl Tryz.func215 (np:=4) (m:=mk [0,1,2,3,4,8,9,16,21,31,32,43,44] [4]) (by kernel_rfl)
theorem has113:Has Tryz.prog N 113 F113:=hz rfl Tryz.func216 (np:=1) (m:=mk [0,2,3,6] []) (by kernel_rfl)
theorem has114:Has Tryz.prog N 114 F114:=hz rfl Tryz.func217 (np:=1) (m:=mk [0,2] []) (by kernel_rfl)
theorem has115:Has Tryz.prog N 115 F115:=hz rfl Tryz.func218 (np:=3) (m:=mk [0,1,2,3,6,14] [3]) (by kernel_rfl)
theorem has116:Has Tryz.prog N 116 F116:=hz rfl Tryz.func219 (np:=5) (m:=mk [0,1,2,3,4,5,10,16,24,32] [5]) (by kernel_rfl)
theorem has117:Has Tryz.prog N 117 F117:=hz rfl Tryz.func163 (np:=1) (m:=mk [0,2,3,4,5,6] []) (by kernel_rfl)
theorem has127:Has Tryz.prog N 127 F127:=hz rfl Tryz.func83 (np:=3) (m:=mk [0,1,2,4,5,6,9] []) (by kernel_rfl)
theorem has128:Has Tryz.prog N 128 F128:=hz rfl Tryz.func85 (np:=1) (m:=mk [0,1,2,3,4,8,9,10,42,46,49,52,60,63,66,68] [1]) (by kernel_rfl)
theorem has129:Has Tryz.prog N 129 F129:=hz rfl Tryz.func235 (np:=4) (m:=mk [0,1,2,3,4,8,9,14] [4]) (by kernel_rfl)
theorem has162:Has Tryz.prog N 162 F162:=hz rfl Tryz.func68 (np:=1) (m:=mk [0,1,2,3,4,5,7,9,10,11,13,15,20,21,22,46,47,48,49,51,62,65,70,71] [1,5]) (by kernel_rfl)
theorem has163:Has Tryz.prog N 163 F163:=hz rfl Tryz.func119 (np:=1) (m:=mk [0,1,2,3,4,5,8,10,15,16,17,20,21,23,24,26,28,30,31,33,35,37,38,40,42,43] [1,5]) (by kernel_rfl)
theorem has164:Has Tryz.prog N 164 F164:=hz rfl Tryz.func48 (np:=1) (m:=mk [0,1,2,3,5,9,10,11,14,17,19,22,24,26,28,29,31,33,35,36,38,40,41] [1]) (by kernel_rfl)
theorem has165:Has Tryz.prog N 165 F165:=hz rfl Tryz.func67 (np:=1) (m:=mk [0,2,3,4,5,7,8,9,10,11,12,13,14,15,16,19,24,27,29,30,31,32,33,39,43,45,63,65,69,71,76,85,87,22] [2]) (by kernel_rfl)
theorem has166:Has Tryz.prog N 166 F166:=hz rfl Tryz.func50 (np:=1) (m:=mk [0,2,3,4,5,6,7,8,9,10,11,12,14,17,22,25,28,36,40,46,50,63,65,67,69,72] [2,12]) (by kernel_rfl)
theorem has168:Has Tryz.prog N 168 F168:=hz rfl Tryz.func39 (np:=1) (m:=mk [0,1,2,3,13,18,32,80,99] [1]) (by kernel_rfl)
theorem has169:Has Tryz.prog N 169 F169:=hz rfl Tryz.func96 (np:=1) (m:=mk [0,1,2,3,4,5,7,9,13,14,16,19,21,22,24,26,27,31,32,35,39,42] [1]) (by kernel_rfl)
theorem has170:Has Tryz.prog N 170 F170:=hz rfl Tryz.func142 (np:=1) (m:=mk [0,1,2,5,6,55,75] [1]) (by kernel_rfl)
theorem has171:Has Tryz.prog N 171 F171:=hz rfl Tryz.func40 (np:=1) (m:=mk [0,1,2,3,6,7,9,12,14,15,17,19,20,24,26,29,32,35] [1]) (by kernel_rfl)
theorem has172:Has Tryz.prog N 172 F172:=hz rfl Tryz.func57 (np:=1) (m:=mk [0,2,3,4,5,6,7,8,9,10,11,12,13,15,16,17,20,21,24,25,26,27,32,37,42,45,46,48,53,57,66,68] [2,5]) (by kernel_rfl)
theorem has173:Has Tryz.prog N 173 F173:=hz rfl Tryz.func13 (np:=1) (m:=mk [0,2,3,4,5,6,7,8,9,10,11,12,13,14,16,31,42,44,47,48,52,53,60,67,77,89,99,104,108,113,115,117,120] [2]) (by kernel_rfl)
theorem has174:Has Tryz.prog N 174 F174:=hz rfl Tryz.func110 (np:=4) (m:=mk [0,1,2,3,5,8,9,10,11,12,15,17,23,25,28,29,30,44,53,61,66,77,68] [5,9]) (by kernel_rfl)
theorem has175:Has Tryz.prog N 175 F175:=hz rfl Tryz.func82 (np:=4) (m:=mk [0,1,2,3,5,8,9,10,11,12,13,15,17,33,39,41,49,57,65,71,75,77,79,80] [5]) (by kernel_rfl)
theorem has177:Has Tryz.prog N 177 F177:=hz rfl Tryz.func118 (np:=1) (m:=mk [0,2] []) (by kernel_rfl)
theorem has178:Has Tryz.prog N 178 F178:=hz rfl Tryz.func162 (np:=2) (m:=mk [0,1,4,5,7,13] []) (by kernel_rfl)
theorem has179:Has Tryz.prog N 179 F179:=hz rfl Tryz.func86 (np:=2) (m:=mk [0,1,4,5,7,11] []) (by kernel_rfl)
theorem has182:Has Tryz.prog N 182 F182:=hz rfl Tryz.func117 (np:=1) (m:=mk [0,2,3,4,5,12,14,15,16,27] []) (by kernel_rfl)
theorem has183:Has Tryz.prog N 183 F183:=hz rfl Tryz.func14 (np:=2) (m:=mk [0,1,4,5,6,7,11,24,25,30,31] []) (by kernel_rfl)
theorem has184:Has Tryz.prog N 184 F184:=hz rfl Tryz.func38 (np:=1) (m:=mk [0,2,3,4,5,9,25] []) (by kernel_rfl)
theorem has185:Has Tryz.prog N 185 F185:=hz rfl Tryz.func95 (np:=0) (m:=mk [0] [0]) (by kernel_rfl)
theorem has186:Has Tryz.prog N 186 F186:=hz rfl Tryz.func179 (np:=1) (m:=mk [0,2,3,5,6,7,18] []) (by kernel_rfl)
theorem has187:Has Tryz.prog N 187 F187:=hz rfl Tryz.func37 (np:=0) (m:=mk [0] [0]) (by kernel_rfl)
theorem has188:Has Tryz.prog N 188 F188:=hz rfl Tryz.func91 (np:=2) (m:=mk [0,1,2,6] []) (by kernel_rfl)
theorem has189:Has Tryz.prog N 189 F189:=hz rfl Tryz.func92 (np:=1) (m:=mk [0,1,2,3,6,7,11] []) (by kernel_rfl)
theorem has266:Has Tryz.prog N 266 F266:=hz rfl Tryz.func100 (np:=2) (m:=mk [0,1,2,4,5,6,7,9,11,12,14,15,16,17,18,19,21,23,28,30,34,37,42,44,48,51,60,62,66,69,70,71,72,73,74,75,82,88,90,91,92,93,94,96,98,100,105] [2,9,14]) (by kernel_rfl)
theorem has267:Has Tryz.prog N 267 F267:=hz rfl Tryz.func17 (np:=2) (m:=mk [0,1,2,4,5,6,7,8,70,72,94,97,101,108,110,114,127] []) (by kernel_rfl)
theorem has268:Has Tryz.prog N 268 F268:=hz rfl Tryz.func18 (np:=2) (m:=mk [0,1,2,4,5,9,10,16,27,32] [2]) (by kernel_rfl)
theorem has269:Has Tryz.prog N 269 F269:=hz rfl Tryz.func27 (np:=2) (m:=mk [0,1,4,5,6,7,9,16,20,22,23,24,25,27,34,36] [9]) (by kernel_rfl)
theorem has270:Has Tryz.prog N 270 F270:=hz rfl Tryz.func43 (np:=2) (m:=mk [0,1,4,5,6,7,8,14,20] []) (by kernel_rfl)
theorem has271:Has Tryz.prog N 271 F271:=hz rfl Tryz.func29 (np:=3) (m:=mk [0,1,2,6,7,8,10,12,18,22,30,31,32,33,34,36,38,39,40,41,43,51] [10,12]) (by kernel_rfl)
theorem has272:Has Tryz.prog N 272 F272:=hz rfl Tryz.func45 (np:=3) (m:=mk [0,1,2,6,7,8,9,10,16,19,26,30,38,56] []) (by kernel_rfl)
theorem has274:Has Tryz.prog N 274 F274:=hz rfl Tryz.func76 (np:=3) (m:=mk [0,1,2,6,7,14] []) (by kernel_rfl)
theorem has277:Has Tryz.prog N 277 F277:=hzp rfl Tryz.func63 it71 (np:=2) (m:=mk [0,1,4,5,6,7,9,14,15,16,18,19,25,26,27,28,29,31,32,33,34,35,45,46,50,55,56] []) (by kernel_rfl)
theorem has278:Has Tryz.prog N 278 F278:=hz rfl Tryz.func66 (np:=3) (m:=mk [0,1,2,5,6,7,8,9,13,14,15,17,38,63,76,77,79,84,86,89,91,93] [5,6]) (by kernel_rfl)
theorem has279:Has Tryz.prog N 279 F279:=hz rfl Tryz.func80 (np:=3) (m:=mk [0,1,2,5,6,7,8,15,43,44,55,74,101,102,113,114,118,121,122] [5]) (by kernel_rfl)
theorem has280:Has Tryz.prog N 280 F280:=hz rfl Tryz.func33 (np:=1) (m:=mk [0,2,3,4,8,9,10,13,19] [2,3]) (by kernel_rfl)
theorem has281:Has Tryz.prog N 281 F281:=hz rfl Tryz.func49 (np:=1) (m:=mk [0,2,3,4,8,10] [2,3]) (by kernel_rfl)
theorem has283:Has Tryz.prog N 283 F283:=hz rfl Tryz.func70 (np:=1) (m:=mk [0,2,7] []) (by kernel_rfl)
theorem has284:Has Tryz.prog N 284 F284:=hz rfl Tryz.func46 (np:=1) (m:=mk [0,2,3,4,5,6,7,8,18,26,33,39,58,59,60,68,69] []) (by kernel_rfl)
theorem has285:Has Tryz.prog N 285 F285:=hz rfl Tryz.func31 (np:=2) (m:=mk [0,1,4,5,11] []) (by kernel_rfl)
theorem has286:Has Tryz.prog N 286 F286:=hz rfl Tryz.func75 (np:=3) (m:=mk [0,1,2,6,7,9,17,21,29,18] []) (by kernel_rfl)
theorem has287:Has Tryz.prog N 287 F287:=hz rfl Tryz.func55 (np:=3) (m:=mk [0,1,2,6,7,9,17,21,40,41,18] []) (by kernel_rfl)
theorem has300:Has Tryz.prog N 300 F300:=hz rfl Tryz.func3 (np:=1) (m:=mk [0,2,3,4,5,6,7,8,9,10,11,12,19,24,32,34,35,36,42,47,49,55,59,80,86,87,89,90,92,93,96,98,101] []) (by kernel_rfl)
theorem has301:Has Tryz.prog N 301 F301:=hz rfl Tryz.func4 (np:=0) (m:=mk [0,1,2,4,5,9,10,11,12,13] []) (by kernel_rfl)
theorem has302:Has Tryz.prog N 302 F302:=hz rfl Tryz.func5 (np:=1) (m:=mk [0,2,3,4,5,6,7,9,10,11,14,17,18,19,21,22,34,35,36,37,43,47,49,50,52,53] []) (by kernel_rfl)
theorem has303:Has Tryz.prog N 303 F303:=hz rfl Tryz.func7 (np:=0) (m:=mk [0,1,2,4,6] []) (by kernel_rfl)
theorem has304:Has Tryz.prog N 304 F304:=hz rfl Tryz.func8 (np:=2) (m:=mk [0,1,4,5,6,7,8,9,10,11,12,13,14,15,18,19,27,31,32,33,35,36,37,41,43,44,48,53,62,63,66,75,79,80,86,87,93,111,130,131,144,154,156,158,159,168,175,176,188] [5,14]) (by kernel_rfl)
theorem has305:Has Tryz.prog N 305 F305:=hz rfl Tryz.func9 (np:=2) (m:=mk [0,1,4,5,10,14,25] []) (by kernel_rfl)
theorem has306:Has Tryz.prog N 306 F306:=hz rfl Tryz.func10 (np:=2) (m:=mk [0,1,4,5,6,7,8,9,11,12,13,14,15,16,17,18,19,20,22,25,27,31,33,35,38,40,41,54,59,60,61,62,67,71,72,74,75,83,86,92,94,103,104,113,116,117,121,125,134,137,138,143,144,153,156,157,160,161,167,170,179,180,181,182,185,187,200] [19]) (by kernel_rfl)
theorem has307:Has Tryz.prog N 307 F307:=hz rfl Tryz.func11 (np:=1) (m:=mk [0,2,3,11,9] []) (by kernel_rfl)
theorem has308:Has Tryz.prog N 308 F308:=hz rfl Tryz.func12 (np:=1) (m:=mk [0,2,4] []) (by kernel_rfl)
theorem has309:Has Tryz.prog N 309 F309:=hz rfl Tryz.func15 (np:=1) (m:=mk [0,2,3,4,5,7,9,13,16,20] []) (by kernel_rfl)
theorem has310:Has Tryz.prog N 310 F310:=hz rfl Tryz.func16 (np:=1) (m:=mk [0,2,3,4,5,7,10,13,20,22] []) (by kernel_rfl)
theorem has311:Has Tryz.prog N 311 F311:=hz rfl Tryz.func19 (np:=4) (m:=mk [0,1,2,3,6,8,9,10,11,12,13,14,16,17,18,19,20,21,22,23,24,25,26,28,29,37,40,41,50,51,62,63,67,71,72,80,83,84,90,94,98,107,108,109,127,133,135,136,137,140,142,148,151,152,154,155,157,159,160,162,164,165,167,169,170,174,175,176,178,179,181,182,183,193,194,196,198,200,204,206,208,209,212,213,226,234,237,246,250,252,254,257,258,259,261] [14,16,17,20,26]) (by kernel_rfl)
theorem has312:Has Tryz.prog N 312 F312:=hz rfl Tryz.func21 (np:=2) (m:=mk [0,1,4,5,6,9,10,11,13,15,16,20,22,23] [5]) (by kernel_rfl)
theorem has313:Has Tryz.prog N 313 F313:=hz rfl Tryz.func23 (np:=0) (m:=mk [0,1] []) (by kernel_rfl)
theorem has314:Has Tryz.prog N 314 F314:=hz rfl Tryz.func24 (np:=1) (m:=mk [0,2,3,4,5,7,24,26,27,28,39] []) (by kernel_rfl)
theorem has315:Has Tryz.prog N 315 F315:=hz rfl Tryz.func25 (np:=3) (m:=mk [0,1,2,6,7,8,9,12,13,14,15,16,22,25,28,31,34,53,76,78,94,97] []) (by kernel_rfl)
theorem has316:Has Tryz.prog N 316 F316:=hz rfl Tryz.func26 (np:=2) (m:=mk [0,1,4,6,8,10] []) (by kernel_rfl)
theorem has317:Has Tryz.prog N 317 F317:=hz rfl Tryz.func28 (np:=1) (m:=mk [0,2,3,4,5,6,8,9,10,15,17,20,21,25,26] []) (by kernel_rfl)
theorem has318:Has Tryz.prog N 318 F318:=hz rfl Tryz.func30 (np:=3) (m:=mk [0,1,2,6,7,8,9,10,13,14,15,17,19,22,26,28,41,43,47,49,58,61] [7]) (by kernel_rfl)
theorem has319:Has Tryz.prog N 319 F319:=hz rfl Tryz.func32 (np:=1) (m:=mk [0,2,3,5,10,11,12,13,15,16,26,29,31,33,34,36,37,41,43] [5]) (by kernel_rfl)
theorem has320:Has Tryz.prog N 320 F320:=hz rfl Tryz.func35 (np:=4) (m:=mk [0,1,2,3,8,9,10,11,13,14,15,18,19,20,22,24,27,31,39,43,45,47,55,59,61,63,65,29] [9]) (by kernel_rfl)
theorem has321:Has Tryz.prog N 321 F321:=hz rfl Tryz.func42 (np:=2) (m:=mk [0,1,4,6,8,10] []) (by kernel_rfl)
theorem has322:Has Tryz.prog N 322 F322:=hz rfl Tryz.func44 (np:=1) (m:=mk [0,2,3,4,5,6,7,11,15,19,27,30,33,34,38,39] []) (by kernel_rfl)
theorem has323:Has Tryz.prog N 323 F323:=hz rfl Tryz.func59 (np:=1) (m:=mk [0,2,3,4,14,18,20] []) (by kernel_rfl)
theorem has325:Has Tryz.prog N 325 F325:=hz rfl Tryz.func71 (np:=1) (m:=mk [0,2,3,4,5,9,10,11,13,16,18] [3]) (by kernel_rfl)
end Go.Proofs.YthhepmakjimhlabGreatDoor.CwConsoleSays
