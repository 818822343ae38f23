/- ConsoleSays returns true whatever it is given, and all its arguments read as before. No condition on the input. -/
import Derived.Test.YthhepmakjimhlabGreatDoorCwS
import Derived.Shelf.Strings.Split
import Derived.Shelf.Strings.Prefix
import Derived.Shelf.Strings.Cut
import Derived.Shelf.Strings.Repeat
import Derived.Shelf.Strings.OnBuilder
import Derived.Shelf.Small.Strs
import Derived.Shelf.Strconv.AtoiAll
import Derived.Shelf.Strconv.Itoa3
import Derived.Shelf.LaysM
import Derived.Shelf.LaysC
import Derived.Ground.GgsProg
import Derived.Ground.NamesProg
import Derived.WalkKit
import Derived.ProofKit
import Derived.OpenShut
import Derived.ShutString
import Derived.ChangeOld
import Derived.ChangeSame
import Derived.ChangeVars
import Derived.JoinedOf
import Derived.RowKitTokens
import Derived.LaidLaws
import Derived.LaidMore
import Derived.Lay
import Derived.MakeChecks
import Derived.LaidHandle
import Derived.LaidSub
import Derived.HandedShaped
import Derived.Lib.LaidTab
import Derived.Below
import Derived.SevenTiedAt
import Derived.Test.YthhepmakjimhlabGreatDoorCards
import Derived.Test.YthhepmakjimhlabGreatDoorTie
namespace Go.Proofs
open Go.Shelf
def Tryz.lays171_ren : Shelf.Ren := ⟨λ|171=>34|243=>74|246=>127|283=>166|284=>167|285=>168|286=>169|129=>194|317=>207|318=>208|319=>209|320=>210|337=>231|338=>232|n=>n,λ|3=>3|9=>9|2=>2|4=>4|171=>259|0=>0|53=>215|37=>143|5=>5|173=>262|212=>292|51=>279|20=>20|213=>293|46=>145|232=>333|233=>334|n=>n,λ|17=>1|18=>6|19=>7|n=>n⟩
theorem Tryz.lays171 : LaysM.n171 Tryz.prog Tryz.lays171_ren:=by repeat'(first|(intros;kernel_rfl)|constructor)

def Tryz.lays145_ren : Shelf.Ren := ⟨λ|145=>116|220=>161|219=>146|217=>111|225=>181|224=>182|267=>183|266=>158|314=>214|n=>n,λ|9=>9|4=>4|59=>208|3=>3|5=>5|46=>145|146=>304|51=>279|n=>n,λ|1=>0|n=>n⟩
theorem Tryz.lays145 : LaysM.n145 Tryz.prog Tryz.lays145_ren:=by repeat'(first|(intros;kernel_rfl)|exact(fun w h => cell_of_shapedOpen_int (zero := #[.int .i64 0]) (t := 3) h (of_decide_eq_true (by kernel_rfl)) (by kernel_rfl) rfl (by kernel_rfl) (by kernel_rfl) Tryz.underlying3)|constructor)

def Tryz.lays146_ren : Shelf.Ren := ⟨λ|146=>22|221=>58|268=>97|138=>98|143=>99|195=>143|197=>144|218=>145|219=>146|260=>180|217=>111|225=>181|224=>182|267=>183|266=>158|314=>214|n=>n,λ|9=>9|31=>22|3=>3|4=>4|0=>0|105=>234|21=>21|5=>5|46=>145|119=>300|139=>303|138=>302|146=>304|51=>279|n=>n,λ|1=>0|3=>4|4=>5|n=>n⟩
theorem Tryz.lays146 : LaysM.n146 Tryz.prog Tryz.lays146_ren:=by repeat'(first|(intros;kernel_rfl)|exact(fun w h => cell_of_shapedOpen_int (zero := #[.int .i64 0]) (t := 3) h (of_decide_eq_true (by kernel_rfl)) (by kernel_rfl) rfl (by kernel_rfl) (by kernel_rfl) Tryz.underlying3)|constructor)

def Tryz.lays172_ren : Shelf.Ren := ⟨λ|172=>93|244=>139|245=>140|247=>173|279=>174|280=>175|281=>176|282=>177|287=>211|316=>212|171=>34|205=>213|321=>233|322=>234|243=>74|246=>127|283=>166|284=>167|285=>168|286=>169|129=>194|317=>207|318=>208|319=>209|320=>210|337=>231|338=>232|n=>n,λ|9=>9|3=>3|75=>25|76=>89|4=>4|5=>5|167=>269|37=>143|0=>0|85=>270|2=>2|168=>272|53=>215|175=>295|46=>145|210=>298|127=>258|145=>324|143=>322|21=>21|171=>259|173=>262|212=>292|51=>279|20=>20|213=>293|232=>333|233=>334|80=>93|n=>n,λ|15=>2|16=>3|17=>1|18=>6|19=>7|n=>n⟩
theorem Tryz.lays172 : LaysC.n172 Tryz.prog Tryz.lays172_ren:=by repeat'(first|(intros;kernel_rfl)|constructor)

def Tryz.lays102_ren : Shelf.Ren := ⟨λ|102=>94|209=>141|207=>178|n=>n,λ|9=>9|4=>4|3=>3|n=>n,λ n=>n⟩
theorem Tryz.lays102 : Lays.n102 Tryz.prog Tryz.lays102_ren:=by repeat'(first|(intros;kernel_rfl)|constructor)

def Tryz.lays105_ren : Shelf.Ren := ⟨λ|105=>204|212=>229|99=>20|165=>124|166=>125|170=>230|169=>126|263=>242|264=>243|206=>56|240=>164|241=>165|276=>205|277=>206|n=>n,λ|9=>9|3=>3|4=>4|20=>20|0=>0|46=>145|109=>319|5=>5|72=>221|76=>89|51=>279|146=>304|53=>215|148=>331|70=>219|37=>143|75=>25|127=>258|164=>242|80=>93|n=>n,λ n=>n⟩
theorem Tryz.lays105 : Lays.n105 Tryz.prog Tryz.lays105_ren:=by repeat'(first|(intros;kernel_rfl)|constructor)

def Tryz.lays99_ren : Shelf.Ren := ⟨λ|99=>20|206=>56|n=>n,λ|9=>9|4=>4|3=>3|n=>n,λ n=>n⟩
theorem Tryz.lays99 : Lays.n99 Tryz.prog Tryz.lays99_ren:=by repeat'(first|(intros;kernel_rfl)|constructor)

def Tryz.lays137_ren : Shelf.Ren := ⟨λ|137=>64|217=>111|266=>158|n=>n,λ|9=>9|5=>5|3=>3|n=>n,λ n=>n⟩
theorem Tryz.lays137 : Lays.n137 Tryz.prog Tryz.lays137_ren:=by repeat'(first|(intros;kernel_rfl)|constructor)

def Tryz.lays156_ren : Shelf.Ren := ⟨λ|156=>72|165=>124|166=>125|169=>126|240=>164|241=>165|276=>205|277=>206|n=>n,λ|31=>22|9=>9|3=>3|4=>4|0=>0|20=>20|72=>221|76=>89|70=>219|37=>143|75=>25|127=>258|164=>242|5=>5|80=>93|n=>n,λ n=>n⟩
theorem Tryz.lays156 : Lays.n156 Tryz.prog Tryz.lays156_ren:=by repeat'(first|(intros;kernel_rfl)|constructor)

def Tryz.lays125_ren : Shelf.Ren := ⟨λ|125=>153|128=>193|129=>194|n=>n,λ|46=>145|3=>3|51=>279|53=>215|4=>4|5=>5|9=>9|n=>n,λ n=>n⟩
theorem Tryz.lays125 : Lays.n125 Tryz.prog Tryz.lays125_ren:=by repeat'(first|(intros;kernel_rfl)|constructor)

def Tryz.lays192_ren : Shelf.Ren := ⟨λ|192=>108|190=>156|125=>153|258=>203|128=>193|129=>194|302=>220|303=>221|304=>222|305=>223|306=>224|307=>225|308=>226|309=>227|310=>228|333=>236|329=>237|330=>238|334=>239|335=>240|336=>241|344=>244|n=>n,λ|31=>22|0=>0|9=>9|3=>3|46=>145|51=>279|53=>215|4=>4|183=>314|182=>313|131=>75|5=>5|218=>327|222=>310|228=>335|229=>72|n=>n,λ n=>n⟩
theorem Tryz.lays192 : Lays.n192 Tryz.prog Tryz.lays192_ren:=by repeat'(first|(intros;kernel_rfl)|constructor)

def Tryz.lays6_ren : Shelf.Ren := ⟨λ|6=>101|10=>150|11=>151|12=>152|13=>153|14=>154|24=>193|25=>194|26=>195|27=>196|28=>197|29=>198|30=>199|31=>200|32=>201|33=>202|34=>215|35=>216|36=>217|37=>218|38=>219|39=>235|n=>n,λ|20=>20|26=>186|35=>245|0=>0|37=>247|3=>3|41=>145|44=>252|49=>279|51=>215|4=>4|54=>282|53=>281|58=>75|5=>5|9=>9|60=>306|64=>310|66=>325|67=>72|17=>17|32=>242|33=>243|82=>348|12=>12|75=>342|76=>343|77=>344|78=>258|79=>345|80=>346|n=>n,λ n=>n⟩
theorem Tryz.lays6 : LaysGg.n6 Tryz.prog Tryz.lays6_ren:=by repeat'(first|(intros;kernel_rfl)|constructor)

theorem Tryz.extra105:Builder.Extra Tryz.prog Tryz.lays105_ren where
  sizeBuilder:=by kernel_rfl
  liesBuilder:=by kernel_rfl
  t5:=Tryz.underlying5
  a5:=Tryz.isAgg5
  z5:=Tryz.sizeOf5
  v5:=Tryz.zeroValue5
  infoByte:=by kernel_rfl
  cellsByte:=by kernel_rfl
  sizeByte:=by kernel_rfl
  neB5:=by decide
theorem Tryz.extra156:Builder.Extra Tryz.prog Tryz.lays156_ren where
  sizeBuilder:=by kernel_rfl
  liesBuilder:=by kernel_rfl
  t5:=Tryz.underlying5
  a5:=Tryz.isAgg5
  z5:=Tryz.sizeOf5
  v5:=Tryz.zeroValue5
  infoByte:=by kernel_rfl
  cellsByte:=by kernel_rfl
  sizeByte:=by kernel_rfl
  neB5:=by decide
noncomputable def Tryz.svT:TypeInfo:=(Tryz.prog.info? 138).get (by kernel_rfl)
noncomputable def Tryz.svE:TypeInfo:=(Tryz.prog.info? 185).get (by kernel_rfl)
end Go.Proofs
namespace Go.Proofs.YthhepmakjimhlabGreatDoor.CwConsoleSays
open Go Go.Cw Go.Proofs Go.ChangeShapes Go.WideShapes Go.ChangeAt Go.RowKit
open Go.ChangeMaps (open_string shut_string)
set_option linter.unusedVariables false
theorem own:ownKnob Tryz.prog.godebug=none:=by kernel_rfl
theorem laidOut:laidOutB Tryz.prog=true:=by kernel_rfl
abbrev G:Ctx:=GF Tryz.prog N
/-- what the row's condition and the world's shape give -/
def Facts (W : World) : Prop := Lib.TabIs Tryz.prog W "internal/strconv.uint64pow10" .u64 Lib.pow10Tab ∧ W.ShapedOpen Tryz.prog ∧ (∃ te pe, W.cell? ⟨2, 0, none⟩ = some (.iface te pe)) ∧ (∃ te pe, W.cell? ⟨3, 0, none⟩ = some (.iface te pe))
theorem facts {W:World} (hL:laidMetH Tryz.prog Rows.consoleSaysRow.laid W) (hsh:W.ShapedOpen Tryz.prog):Facts W:=by
  have h1 := hL.filter fun x => x.1 == "internal/strconv.uint64pow10"
  have e : (Rows.consoleSaysRow.laid.filter fun x => x.1 == "internal/strconv.uint64pow10") = [("internal/strconv.uint64pow10", Lib.tabData .u64 Lib.pow10Tab)] := by rfl
  rw[e,MakeChecks.laidMetH_plain _ _ _ (by kernel_rfl)]at h1
  have h2 := hL.filter fun x => x.1 == "strconv.ErrSyntax"
  have e2 : (Rows.consoleSaysRow.laid.filter fun x => x.1 == "strconv.ErrSyntax") = [("strconv.ErrSyntax", Rows.laid_strconv_ErrSyntax)] := by rfl
  rw[e2,MakeChecks.laidMetH_plain _ _ _ (by kernel_rfl)]at h2
  have h3 := hL.filter fun x => x.1 == "strconv.ErrRange"
  have e3 : (Rows.consoleSaysRow.laid.filter fun x => x.1 == "strconv.ErrRange") = [("strconv.ErrRange", Rows.laid_strconv_ErrRange)] := by rfl
  rw[e3,MakeChecks.laidMetH_plain _ _ _ (by kernel_rfl)]at h3
  exact⟨Lib.tabIs_of_head (g:=1) (t:=292) (e:=215) (n:=20) (by kernel_rfl) (by kernel_rfl) (by kernel_rfl) (by kernel_rfl) (by kernel_rfl) (by kernel_rfl) h1,hsh,iface_of_laid (g:=2) (ti:=25) (by kernel_rfl) (by kernel_rfl) Tryz.underlying25 h2,iface_of_laid (g:=3) (ti:=25) (by kernel_rfl) (by kernel_rfl) Tryz.underlying25 h3⟩
theorem c201:Sat S201 (G 201):=λargs h' K hx=>.inl ⟨⟨Tryz.f20,Tryz.func20,by kernel_rfl,by kernel_rfl⟩,λw hs=>c201_of Tryz.lays99 args h' K hx w hs⟩
theorem c181 (W:World) (h:Facts W):Sat (S181 (full W)) (G 181):=λargs h' K hx=>.inl ⟨⟨Tryz.f22,Tryz.func22,by kernel_rfl,by kernel_rfl⟩,λw hs=>c181_of Tryz.lays146 h.2.1 args h' K hx w hs⟩
theorem c188:Sat S188 (G 188):=Sat.of has188 F188_ok
theorem c190 (W:World) (h:Facts W):Sat (S190 (full W)) (G 190):=λargs h' K hx=>.inl ⟨⟨Tryz.f93,Tryz.func93,by kernel_rfl,by kernel_rfl⟩,λw hs=>c190_of Tryz.lays172 h.2.2.1 h.2.2.2 args h' K hx w hs⟩
theorem c189 (W:World) (h:Facts W):Sat (S189 (full W) N) (G 189):=Sat.of has189 (F189_ok c188 (c190 W h))
theorem c191:Sat S191 (G 191):=λargs h' K hx=>.inl ⟨⟨Tryz.f94,Tryz.func94,by kernel_rfl,by kernel_rfl⟩,λw hs=>c191_of Tryz.lays102 args h' K hx w hs⟩
theorem c185:Sat S185 (G 185):=Sat.of has185 F185_ok
theorem c186:Sat S186 (G 186):=Sat.of has186 F186_ok
theorem c170:Sat (S170 N) (G 170):=Sat.of has170 (F170_ok c186)
theorem c176i (W:World) (h:Facts W):Sat (S176i (full W)) (G 176):=λargs h' K hx=>.inl ⟨⟨Tryz.f34,Tryz.func34,by kernel_rfl,by kernel_rfl⟩,λw hs=>c176i_of Tryz.lays171 h.1 args h' K hx w hs⟩
theorem c176 (W:World) (h:Facts W):Sat (S176n (full W)) (G 176):=S176n_of (c176i W h)
theorem c169 (W:World) (h:Facts W):Sat (S169 (full W) N) (G 169):=Sat.of has169 (F169_ok c170 c185 (c176 W h))
theorem c172 (W:World) (h:Facts W):Sat (S172 (full W) N) (G 172):=Sat.of has172 (F172_ok (c181 W h) c188 (c189 W h) c191 c185 (c169 W h))
theorem c307 (W:World) (h:Facts W):Sat (S307 (full W) N) (G 307):=Sat.of has307 (F307_ok (c176i W h))
theorem c312 (W:World) (h:Facts W):Sat (S312 (full W)) (G 312):=Sat.of has312 (F312_ok (c172 W h) (c307 W h))
theorem c313:Sat S313 (G 313):=Sat.of has313 F313_ok
theorem c314:Sat S314 (G 314):=Sat.of has314 F314_ok
theorem c33:Sat (S33 N) (G 33):=Sat.of has33 F33_ok
theorem c28:Sat (S28 N) (G 28):=Sat.of has28 F28_ok
theorem c44:Sat (S44 N) (G 44):=Sat.of has44 F44_ok
theorem c266:Sat (S266 N) (G 266):=Sat.of has266 (F266_ok c33 c28 c44 c170)
theorem c323 (W:World) (h:Facts W):Sat (S323 (full W) N) (G 323):=Sat.of has323 (F323_ok c266 (c307 W h))
theorem c315 (W:World) (h:Facts W):Sat (S315 (full W) N) (G 315):=Sat.of has315 (F315_ok (c307 W h) (c323 W h))
theorem c63:Sat S63 (G 63):=Sat.of has63 F63_ok
theorem c62:Sat S62 (G 62):=Sat.of has62 (F62_ok c63)
theorem c98:Sat (S98 N G) (G 98):=Sat.of has98 F98_ok
theorem c112:Sat (S112 N G) (G 112):=Sat.of has112 F112_ok
theorem c99:Sat (S99 N G) (G 99):=Sat.of has99 (F99_ok c112)
theorem c76:Sat S76 (G 76):=λargs h' K hx=>.inl ⟨⟨Tryz.f153,Tryz.func153,by kernel_rfl,by kernel_rfl⟩,λw hs=>c76_of Tryz.lays125 args h' K hx w hs⟩
theorem c113:Sat S113 (G 113):=Sat.of has113 (F113_ok c76)
theorem c114:Sat S114 (G 114):=Sat.of has114 F114_ok
theorem c100:Sat (S100 N G) (G 100):=Sat.of has100 (F100_ok c113 c114)
theorem c129:Sat (S129 N G) (G 129):=Sat.of has129 F129_ok
theorem c116:Sat (S116 N G) (G 116):=Sat.of has116 (F116_ok c129)
theorem c115:Sat (S115 N G) (G 115):=Sat.of has115 (F115_ok c116)
theorem c101:Sat (S101 N G) (G 101):=Sat.of has101 (F101_ok c115 c116)
theorem c102:Sat (S102 N G) (G 102):=Sat.of has102 F102_ok
theorem c103:Sat (S103 N G) (G 103):=Sat.of has103 F103_ok
theorem c104:Sat (S104 N G) (G 104):=Sat.of has104 F104_ok
theorem c105:Sat (S105 N G) (G 105):=Sat.of has105 F105_ok
theorem c77:∀ n,Sat (S77 N G n) (G 77):=λn=>Nat.strongRecOn n λn ih=>Sat.of has77 (F77_ok n (λm hm=>ih m hm) c98 c99 c100 c101 c102 c103 c104 c105)
set_option maxRecDepth 100000 in
theorem c61:Sat (S61 N G) (G 61):=λargs h K hx=>.inl ⟨⟨Tryz.f101,Tryz.func101,by kernel_rfl,by kernel_rfl⟩,λw hs=>c61_of Tryz.lays6 185 Tryz.svT Tryz.svE (by kernel_rfl) (by kernel_rfl) (by kernel_rfl) (by kernel_rfl) 25 (λ_=>by kernel_rfl) rfl c77 Tryz.func154 (by kernel_rfl) 184 185 95 (by kernel_rfl) (by kernel_rfl) (by kernel_rfl) (by kernel_rfl) (λ_=>by kernel_rfl) false (λargs W=>run_callFunc_extern Tryz.func192 (by kernel_rfl) (by kernel_rfl) (by kernel_rfl) (e:=Extern.ReflectliteSwapper.swap false) (by kernel_rfl) args W) args h K hx w hs⟩
theorem c34:Sat (S34 N) (G 34):=Sat.of has34 (F34_ok c62 c61)
theorem c60:Sat S60 (G 60):=Sat.of has60 F60_ok
theorem c29:Sat (S29 N) (G 29):=Sat.of has29 (F29_ok c60)
theorem c31:Sat S31 (G 31):=Sat.of has31 F31_ok
theorem c54:Sat (S54 N) (G 54):=Sat.of has54 F54_ok
theorem c106:Sat S106 (G 106):=Sat.of has106 F106_ok
theorem c107:Sat S107 (G 107):=Sat.of has107 F107_ok
theorem c117:Sat S117 (G 117):=Sat.of has117 F117_ok
theorem c108:Sat (S108 N) (G 108):=Sat.of has108 (F108_ok c107 c117)
theorem c81:Sat (S81 N) (G 81):=Sat.of has81 (F81_ok c106 c107 c108)
theorem c66:Sat S66 (G 66):=Sat.of has66 (F66_ok c81)
theorem c67:Sat S67 (G 67):=λargs h' K hx=>.inl ⟨⟨Tryz.f108,Tryz.func108,by kernel_rfl,by kernel_rfl⟩,λw hs=>c67_of Tryz.lays192 args h' K hx w hs⟩
theorem c30:Sat (S30 N) (G 30):=Sat.of has30 F30_ok
theorem c68:Sat S68 (G 68):=Sat.of has68 (F68_ok c30)
theorem c46:Sat S46 (G 46):=Sat.of has46 (F46_ok c31 c54 c66 c67 c68)
theorem c50:Sat S50 (G 50):=Sat.of has50 (F50_ok c30)
theorem c174:Sat (S174 N) (G 174):=Sat.of has174 (F174_ok c170 c50 c81 c30)
theorem c277:Sat S277 (G 277):=Sat.of has277 (F277_ok c54 c67 c174)
theorem c269:Sat (S269 N) (G 269):=Sat.of has269 (F269_ok c34 c29 c46 c277)
theorem c316 (W:World) (h:Facts W):Sat (S316 (full W) N) (G 316):=Sat.of has316 (F316_ok (c307 W h) (c176i W h))
theorem c324:Sat S324 (G 324):=λargs h' K hx=>.inl ⟨⟨Tryz.f64,Tryz.func64,by kernel_rfl,by kernel_rfl⟩,λw hs=>c324_of Tryz.lays137 args h' K hx w hs⟩
theorem c317:Sat S317 (G 317):=Sat.of has317 (F317_ok c324)
theorem c56:Sat S56 (G 56):=Sat.of has56 F56_ok
theorem c72:Sat S72 (G 72):=Sat.of has72 F72_ok
theorem c57:Sat S57 (G 57):=Sat.of has57 (F57_ok c56 c72)
theorem c24:Sat S24 (G 24):=Sat.of has24 (F24_ok c57)
theorem c39:Sat S39 (G 39):=Sat.of has39 F39_ok
theorem c37:Sat (S37 N) (G 37):=Sat.of has37 F37_ok
theorem c278:Sat S278 (G 278):=Sat.of has278 (F278_ok c81 c39 c37)
theorem c271:Sat (S271 N) (G 271):=Sat.of has271 (F271_ok c24 c278)
theorem c180 (W:World) (h:Facts W):Sat (S180 (full W)) (G 180):=λargs h' K hx=>.inl ⟨⟨Tryz.f116,Tryz.func116,by kernel_rfl,by kernel_rfl⟩,λw hs=>c180_of Tryz.lays145 h.2.1 args h' K hx w hs⟩
theorem c182:Sat S182 (G 182):=Sat.of has182 F182_ok
theorem c177:Sat S177 (G 177):=Sat.of has177 F177_ok
theorem c193:Sat S193 (G 193):=λargs h' K hx=>.inl ⟨⟨Tryz.f204,Tryz.func204,by kernel_rfl,by kernel_rfl⟩,λw hs=>c193_of Tryz.lays105 Tryz.extra105 args h' K hx w hs⟩
theorem c178 (W:World) (h:Facts W):Sat (S178 (full W)) (G 178):=Sat.of has178 (F178_ok (c176 W h) c193)
theorem c163 (W:World) (h:Facts W):Sat (S163 (full W) N) (G 163):=Sat.of has163 (F163_ok c108 c107 c177 (c176 W h) (c178 W h))
theorem c165 (W:World) (h:Facts W):Sat (S165 (full W) N) (G 165):=Sat.of has165 (F165_ok (c180 W h) (c181 W h) c182 c177 (c163 W h))
theorem c162:Sat (S162 N) (G 162):=Sat.of has162 (F162_ok c108 c107)
theorem c20:Sat (S20 N) (G 20):=Sat.of has20 F20_ok
theorem c18:Sat (S18 N) (G 18):=Sat.of has18 (F18_ok c20 c56)
theorem c318 (W:World) (h:Facts W):Sat (S318 (full W) N) (G 318):=Sat.of has318 (F318_ok (c165 W h) (c307 W h) c162 c18 c271 (c316 W h))
theorem c285:Sat (S285 N) (G 285):=Sat.of has285 F285_ok
theorem c283:Sat S283 (G 283):=Sat.of has283 F283_ok
theorem c325 (W:World) (h:Facts W):Sat (S325 (full W)) (G 325):=Sat.of has325 (F325_ok c81 (c163 W h))
theorem c326:Sat S326 (G 326):=λargs h' K hx=>.inl ⟨⟨Tryz.f72,Tryz.func72,by kernel_rfl,by kernel_rfl⟩,λw hs=>c326_of Tryz.lays156 Tryz.extra156 args h' K hx w hs⟩
theorem c319 (W:World) (h:Facts W):Sat (S319 (full W)) (G 319):=Sat.of has319 (F319_ok c283 (c176i W h) (c325 W h) c326)
theorem c26:Sat S26 (G 26):=Sat.of has26 F26_ok
theorem c280:Sat S280 (G 280):=Sat.of has280 (F280_ok c26)
theorem c49:Sat (S49 N) (G 49):=Sat.of has49 F49_ok
theorem c286:Sat (S286 N) (G 286):=Sat.of has286 (F286_ok c30 c49)
theorem c274:Sat (S274 N) (G 274):=Sat.of has274 (F274_ok c30)
theorem c320 (W:World) (h:Facts W):Sat (S320 (full W) N) (G 320):=Sat.of has320 (F320_ok (c165 W h) (c307 W h) c162 c286 (c325 W h) c274 (c176i W h))
theorem c306 (W:World) (h:Facts W):Sat (S306 (full W) N) (G 306):=Sat.of has306 (F306_ok c201 (c312 W h) (c181 W h) c313 c314 (c315 W h) (c307 W h) c269 (c316 W h) c317 c271 (c318 W h) c285 (c319 W h) c280 (c176i W h) (c320 W h))
theorem c302 (W:World) (h:Facts W):Sat (S302 (full W) N) (G 302):=Sat.of has302 (F302_ok (c306 W h) (c307 W h))
theorem c19:Sat (S19 N) (G 19):=Sat.of has19 F19_ok
theorem c305:Sat S305 (G 305):=Sat.of has305 F305_ok
theorem c301 (W:World) (h:Facts W):Sat (S301 (full W)) (G 301):=Sat.of has301 (F301_ok (c302 W h) c19 c305)
theorem c303:Sat S303 (G 303):=Sat.of has303 F303_ok
theorem c85i:Sat S85i (G 85):=Sat.of has85 F85i_ok
theorem c85:Sat S85 (G 85):=S85_of c85i
theorem c308:Sat S308 (G 308):=Sat.of has308 (F308_ok c85i)
theorem c183:Sat S183 (G 183):=Sat.of has183 F183_ok
theorem c187:Sat S187 (G 187):=Sat.of has187 F187_ok
theorem c184:Sat S184 (G 184):=Sat.of has184 F184_ok
theorem c168:Sat S168 (G 168):=Sat.of has168 F168_ok
theorem c171:Sat S171 (G 171):=Sat.of has171 (F171_ok c187 c85)
theorem c173:Sat S173 (G 173):=Sat.of has173 (F173_ok c183 c187 c184 c168 c171)
theorem c309:Sat S309 (G 309):=Sat.of has309 F309_ok
theorem c310:Sat S310 (G 310):=Sat.of has310 (F310_ok c184 c85i)
theorem c267:Sat S267 (G 267):=Sat.of has267 (F267_ok c168)
theorem c51:Sat S51 (G 51):=Sat.of has51 F51_ok
theorem c268:Sat S268 (G 268):=Sat.of has268 (F268_ok c51)
theorem c41:Sat S41m (G 41):=Sat.of has41 F41m_ok
theorem c78:Sat S78 (G 78):=Sat.of has78 F78_ok
theorem c64:Sat S64m (G 64):=Sat.of has64 (F64m_ok c78)
theorem c35:Sat S35m (G 35):=Sat.of has35 (F35m_ok c41 c64)
theorem c45:Sat S45 (G 45):=Sat.of has45 F45_ok
theorem c270:Sat S270 (G 270):=Sat.of has270 (F270_ok c35 c45)
theorem c321:Sat S321 (G 321):=Sat.of has321 (F321_ok c308 c85i)
theorem c322:Sat S322 (G 322):=Sat.of has322 F322_ok
theorem c17:Sat S17 (G 17):=Sat.of has17 F17_ok
theorem c22:Sat S22 (G 22):=Sat.of has22 F22_ok
theorem c58:Sat S58 (G 58):=Sat.of has58 (F58_ok c17 c22)
theorem c59:Sat S59 (G 59):=Sat.of has59 F59_ok
theorem c25:Sat S24 (G 25):=Sat.of has25 (F25_ok c58 c59)
theorem c127:Sat S127 (G 127):=Sat.of has127 F127_ok
theorem c79:Sat S79 (G 79):=Sat.of has79 F79_ok
theorem c128:Sat S128 (G 128):=Sat.of has128 (F128_ok c79 c85)
theorem c110:Sat S110 (G 110):=Sat.of has110 (F110_ok c127 c79 c128)
theorem c83:Sat S83 (G 83):=Sat.of has83 (F83_ok c110)
theorem c38:Sat S38m (G 38):=Sat.of has38 (F38m_ok c41)
theorem c279:Sat S279 (G 279):=Sat.of has279 (F279_ok c83 c38)
theorem c272:Sat S272 (G 272):=Sat.of has272 (F272_ok c25 c279)
theorem c14:Sat S14 (G 14):=Sat.of has14 F14_ok
theorem c55:Sat S55 (G 55):=Sat.of has55 F55_ok
theorem c111:Sat S111 (G 111):=Sat.of has111 F111_ok
theorem c86:Sat S86 (G 86):=Sat.of has86 (F86_ok c111)
theorem c70:Sat S70 (G 70):=Sat.of has70 (F70_ok c85 c86)
theorem c52:Sat S52 (G 52):=Sat.of has52 (F52_ok c55 c70)
theorem c53:Sat S53 (G 53):=Sat.of has53 (F53_ok c52 c70)
theorem c175:Sat S175 (G 175):=Sat.of has175 (F175_ok c83 c168 c53 c70)
theorem c284:Sat S284 (G 284):=Sat.of has284 (F284_ok c14 c175)
theorem c179:Sat S179 (G 179):=Sat.of has179 (F179_ok c85)
theorem c164:Sat S164 (G 164):=Sat.of has164 (F164_ok c79 c85 c179)
theorem c281:Sat S281 (G 281):=Sat.of has281 F281_ok
theorem c166:Sat S166 (G 166):=Sat.of has166 (F166_ok c183 c184 c128 c164)
theorem c80:Sat S80 (G 80):=Sat.of has80 F80_ok
theorem c65:Sat S65 (G 65):=Sat.of has65 (F65_ok c79 c80)
theorem c84:Sat S84 (G 84):=Sat.of has84 (F84_ok c70)
theorem c69:Sat S69 (G 69):=Sat.of has69 (F69_ok c14 c83 c84)
theorem c48:Sat S48 (G 48):=Sat.of has48 (F48_ok c69)
theorem c287:Sat S287 (G 287):=Sat.of has287 (F287_ok c52 c48)
theorem c311:Sat S311 (G 311):=Sat.of has311 (F311_ok c270 c321 c308 c85i c322 c272 c284 c110 c164 c281 c166 c65 c17 c22 c52 c287)
theorem c304:Sat S304 (G 304):=Sat.of has304 (F304_ok c308 c173 c183 c309 c310 c267 c268 c311)
theorem c300 (W:World) (h:Facts W):Sat (S300 (full W)) (G 300):=Sat.of has300 (F300_ok (c301 W h) (c302 W h) c19 c303 c304 c305)
/-- the wrap that keeps the laid condition and the world's shape -/
theorem wrap {H:Type} {enc:TypeId×Value->H} {a:Assume} {C:Checked} {os:Os} {f:FuncId} {fn:Func} {s:ChangeSpec} {conds:List PathCond} {apart fresh handsOn again:Bool} {X:World->Array Value->Prop}
    (hX:∀ (w w':World) (args:Array Value),w.heap=w'.heap->X w args->X w' args)
    (own:ownKnob C.prog.godebug=none) (started:os.Started) (noInit:C.prog.inits.idxOf? f=none) (hfn:C.prog.funcs[f]?=some fn)
    (witness:∃ (w:World) (tape:Tape) (i:Input),w.os=os/\(w.forCall tape i).Shaped C.prog/\i.vars=[]/\Input.okWide C.prog (w.forCall tape i) .any w.heap.size f i /\
      ((s.pre enc C.prog fn conds apart (w.forCall tape i).memory i.args/\X (w.forCall tape i).memory i.args)/\sizedMet enc C.prog fn (OpenSpec.ofChange s) apart (w.forCall tape i).memory i.args)/\a.holds C.prog (lone (Frame.enter C.prog f i.args .normal) [] (w.forCall tape i)))
    (contract:∀ (W:World) (base:Nat) (args:Array Value) (ds gs:List (DataW H)) (before:List MemPlace),
      (∀(j:Nat) t v,fn.params[j]?=some t->args[j]?=some v->Value.okWide C.prog W .any base t v) ->
      DataW.Whole enc C.prog fn.params.toList s.vars apart W args.toList ds gs before->X W args->W.ShapedOpen C.prog ->
      Calls C.prog f args W λe W'=>∃ v,e=.returned v/\s.post enc C.prog fn apart fresh handsOn again W args v W') :
    ReturnsInHanded a C os f .any (λw args=>(s.pre enc C.prog fn conds apart w args/\X w args)/\sizedMet enc C.prog fn (OpenSpec.ofChange s) apart w args) (s.post enc C.prog fn apart fresh handsOn again):=by
  refine returnsInHanded_of_calls own started noInit witness ?_
  intro w tape i _ hsh _ hok hpre hholds
  obtain⟨_,_,_,fn',hfn',_,_,_,_,hval⟩:=hok
  have e:fn'=fn:=Option.some.inj (hfn'.symm.trans hfn)
  subst e
  obtain⟨⟨⟨ds,gs,before,hw,hc⟩,hx⟩,hz⟩:=hpre
  have hw':=DataW.Whole.of_heap (w':=w.forCall tape i) (by rfl) hw
  refine(contract (w.forCall tape i) w.heap.size i.args ds gs before hval hw' (hX _ _ _ (by rfl) hx) hsh).mono λe W' ⟨v,he,hp⟩=>?_
  subst he
  exact ChangeSpec.post_blind hp
set_option maxRecDepth 100000 in
theorem lifted (os:Os) (started:os.Started) (H:Type) (enc:TypeId×Value->H) :
    ReturnsInHanded {} Tryz.checked os 3 .any (λw args=>(Rows.consoleSaysSpec.pre enc Tryz.prog Tryz.f3 [] false w args/\laidMetH Tryz.prog Rows.consoleSaysRow.laid w)/\sizedMet enc Tryz.prog Tryz.f3 (OpenSpec.ofChange Rows.consoleSaysSpec) false w args)
      (Rows.consoleSaysSpec.post enc Tryz.prog Tryz.f3 false true false false):=by
  refine wrap (C:=Tryz.checked) (X:=λw _=>laidMetH Tryz.prog Rows.consoleSaysRow.laid w) (λ_ _ _ hh h=>h.of_heap hh) own started (by kernel_rfl) Tryz.func3
    (ChangeSpec.witness_shaped (enc:=enc) (C:=Tryz.checked) (os:=os) (X:=λw _=>laidMetH Tryz.prog Rows.consoleSaysRow.laid w) false (World.laidAll Tryz.prog os Rows.consoleSaysRow.laid) #[.slice none 0 0] 8 (World.laidAll_os _ _ _) (World.shaped_of_ZipB (by kernel_rfl) (by kernel_rfl)) (by kernel_rfl) (by kernel_rfl) (by kernel_rfl)
      (by rw[MakeChecks.laidMetH_plain _ _ _ (by kernel_rfl)];exact laidMet_laidAll _ (by kernel_rfl) (by kernel_rfl))) ?_
  intro W base args ds gs before hval0 hW hL hsh
  have hfacts:Facts W:=facts hL hsh
  have hval:∀ (j:Nat) t v,Tryz.f3.params[j]?=some t->args[j]?=some v->Value.okWide Tryz.prog W .any base t v:=hval0
  have hW':=hW
  obtain⟨p,q,hA0,hV,rfl,hfz,hnd⟩:=hW
  have hA:DataW.TrodAll enc Tryz.prog W 0 (λ_=>true) true Tryz.f3.params.toList args.toList ds p:=hA0
  rw[Tryz.params3]at hA hval
  obtain⟨v0,vs0,d0,ds0,p0,q0,hargs,rfl,rfl,h0,r0⟩:=trodAll_cons hA
  obtain⟨rfl,rfl,rfl⟩:=trodAll_nil r0
  obtain rfl:args=#[v0]:=by cases args;simp_all
  obtain⟨rfl,rfl⟩:=trodVars_none hV
  have k0:=h0
  have lt0:∀ x∈p0,x.block<W.heap.size:=by obtain⟨m,hm⟩:=k0;exact DataW.trod_lt m _ _ _ hm
  obtain⟨a0,len0,cap0,e0⟩:=okWide_slice Tryz.underlying22 (hval 0 22 v0 rfl rfl)
  have m0:Mat W (.sl .str) [v0]:=by obtain⟨fuel,hf⟩:=h0;exact mat_cell e0 (mat_of_trod 12 22 (.sl .str) fuel _ _ (by kernel_rfl) hf)
  obtain⟨x0,hx0⟩:=mat_strs m0
  clear hA0 hval0
  have hwalk:=law_calls (P:=Tryz.prog) (N:=N) (k:=300) (f:=3) (w:=W) rfl Tryz.func3 (by kernel_rfl) (c300 W hfacts _ _ _ ⟨v0,x0,rfl,hx0,Heap.le.refl _,λ_ hle=>⟨rfl,hle⟩⟩)
  refine hwalk.mono λe W' ⟨he,bel⟩=>?_
  subst he
  exact⟨_,rfl,_,_,_,[],_,[],hW',trodAll_mk1 (shut_bool Tryz.underlying4 _),(trodAll_cons_mk (Below.trod laidOut (by kernel_rfl) (of_decide_eq_true (by kernel_rfl)) k0 bel lt0) trodAll_mk0),rfl,bel.frame _,λh=>by cases h⟩
theorem over:Rows.ConsoleSaysSaid:=
  OpenClaim.holds_of_wide 3 Tryz.f3 rfl rfl rfl rfl rfl rfl rfl ⟨rfl,rfl,rfl,rfl,rfl⟩ rfl rfl rfl rfl rfl (by kernel_rfl) Tryz.func3 (by kernel_rfl)
    (of_decide_eq_true (by kernel_rfl)) (by unfold Func.isWrapper;first|(rw[if_pos (by decide +kernel)];kernel_rfl)|(rw[if_neg (of_decide_eq_false (by kernel_rfl))];exact⟨rfl,rfl⟩))
    (λos started H enc _=>lifted os started H enc)
end Go.Proofs.YthhepmakjimhlabGreatDoor.CwConsoleSays
namespace Go.Proofs.YthhepmakjimhlabGreatDoor
theorem consoleSays_holds:Rows.ConsoleSaysSaid:=CwConsoleSays.over
theorem consoleSaysCard_holds:Rows.ConsoleSaysCardSaid:=
  Claim7.holds_tied_plain_at .later [] [.data, .data, .data, .data, .sentinel, .sentinel, .pinned] true (true, "3aa4c917898bc019beaf57bb1d28a77b98c03f53ad59bdf57ffbbc89844e0c1d") true
    consoleSays_holds (λ_ h=>by cases h) (by kernel_rfl) (λ_ h=>by cases h) consoleSays_row_tie rfl ⟨rfl,rfl⟩ (by kernel_rfl) rfl
    (λf fn hf hfn=>by
      obtain rfl : f = 3 := Option.some.inj ((show Tryz.prog.funcNamed "cratewatch/cratewatchlaw.ConsoleSays" = some 3 by kernel_rfl).symm.trans hf) |>.symm
      obtain rfl:fn=Tryz.f3:=(Option.some.inj (Tryz.func3.symm.trans hfn)).symm
      exact⟨by kernel_rfl,λj t ht=>by
        rw[Tryz.params3]at ht
        have hm:t∈[22]:=by simpa using Array.mem_of_getElem? ht
        have hall:([22].all λu=>!Tryz.prog.wantsStandIn u)=true:=by kernel_rfl
        exact(show Tryz.prog.wantsStandIn t=false by simpa using List.all_eq_true.1 hall t hm)⟩)
    (by kernel_rfl)
#print axioms consoleSaysCard_holds
end Go.Proofs.YthhepmakjimhlabGreatDoor
