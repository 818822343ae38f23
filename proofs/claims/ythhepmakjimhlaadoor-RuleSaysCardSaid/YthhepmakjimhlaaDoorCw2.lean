/- Part 2 of the proof of RuleSays: a small language for the program's functions, its soundness, and what the functions do. No conditions beyond the theorems' own. -/
import Derived.Test.YthhepmakjimhlaaDoorCw1
set_option linter.unusedSimpArgs false
set_option linter.unusedVariables false
namespace Go.Cw
open Go
def F2 : SFun := ⟨0, 0, (.reg [⟨[], some (.ef [] (.call 1) [] none)⟩]), []⟩
def F12 : SFun := ⟨1, 9, (.seq (.reg [⟨[⟨[], 1, (.con (.bool false))⟩], none⟩])
  (.seq (.seq (.reg [⟨[⟨[], 4, (.o2 (.bin .gtr) (.o1 .llen (.var 0)) (.con (.int .i64 25)))⟩], none⟩])
  (.cond (.var 4)
   (.seq (.reg [⟨[⟨[], 1, (.con (.bool false))⟩], none⟩])
   .ret)
   .skip))
  (.seq (.seq (.reg [⟨[⟨[], 2, (.con (.int .i64 0))⟩], none⟩])
  (.block 0 (.loop (.seq (.seq (.reg [⟨[⟨[], 5, (.o2 (.bin .lss) (.var 2) (.o1 .llen (.var 0)))⟩], none⟩])
    (.cond (.var 5)
     .skip
     (.exit 0)))
    (.seq (.block 1 (.seq (.seq (.reg [⟨[⟨[], 6, (.o2 (.bin .gtr) (.o1 .llen (.o1 .ld (.o2 (.iadr 1) (.var 0) (.var 2)))) (.con (.int .i64 25)))⟩], none⟩])
     (.cond (.var 6)
      (.seq (.reg [⟨[⟨[], 1, (.con (.bool false))⟩], none⟩])
      .ret)
      .skip))
     (.seq (.reg [⟨[⟨[], 3, (.con (.int .i64 0))⟩], none⟩])
     (.block 2 (.loop (.seq (.seq (.reg [⟨[⟨[], 7, (.o2 (.bin .lss) (.var 3) (.o1 .llen (.o1 .ld (.o2 (.iadr 1) (.var 0) (.var 2)))))⟩], none⟩])
       (.cond (.var 7)
        .skip
        (.exit 2)))
       (.seq (.block 3 (.seq (.reg [⟨[⟨[], 8, (.o2 (.bin .gtr) (.o1 .slen (.o1 .ld (.o1 (.fadr 3) (.o2 (.iadr 4) (.o1 .ld (.o2 (.iadr 1) (.var 0) (.var 2))) (.var 3))))) (.con (.int .i64 20)))⟩], none⟩])
        (.cond (.var 8)
         (.seq (.reg [⟨[⟨[], 1, (.con (.bool false))⟩], none⟩])
         .ret)
         .skip)))
       (.reg [⟨[⟨[], 3, (.o2 (.bin .add) (.var 3) (.con (.int .i64 1)))⟩], none⟩]))))))))
    (.reg [⟨[⟨[], 2, (.o2 (.bin .add) (.var 2) (.con (.int .i64 1)))⟩], none⟩]))))))
  (.seq (.reg [⟨[⟨[], 1, (.con (.bool true))⟩], none⟩])
  .ret)))), [(.var 1)]⟩
def F13 : SFun := ⟨3, 33, (.seq (.reg [⟨[⟨[], 3, (.con (.pointer none))⟩, ⟨[], 4, (.con (.pointer none))⟩, ⟨[], 5, (.con (.bool false))⟩, ⟨[], 6, (.con (.bool false))⟩], none⟩])
  (.seq (.reg [⟨[], some (.ef [] (.call 28) [(.var 0), (.var 1)] (some 12))⟩, ⟨[⟨[], 3, (.o1 (.ext 0) (.var 12))⟩, ⟨[], 7, (.o1 (.ext 1) (.var 12))⟩], none⟩])
  (.seq (.seq (.reg [⟨[⟨[], 13, (.pick (.pick (.pick (.o2 (.bin .lss) (.var 0) (.con (.int .i64 1))) (.con (.bool true)) (.o2 (.bin .gtr) (.var 0) (.con (.int .i64 8)))) (.con (.bool true)) (.o2 (.bin .lss) (.var 1) (.con (.int .i64 1)))) (.con (.bool true)) (.o2 (.bin .gtr) (.var 1) (.var 0)))⟩], none⟩])
  (.cond (.var 13)
   (.seq (.reg [⟨[], some (.ef [] (.call 19) [(.var 7), (.con (.int .i64 1))] (some 14))⟩, ⟨[⟨[], 3, (.con (.pointer none))⟩, ⟨[], 4, (.con (.pointer none))⟩, ⟨[], 5, (.con (.bool true))⟩, ⟨[], 6, (.pick (.var 14) (.o2 (.eqv .ptr false) (.var 3) (.con (.pointer none))) (.con (.bool false)))⟩], none⟩])
   .ret)
   .skip))
  (.seq (.seq (.reg [⟨[⟨[], 15, (.pick (.o2 (.eqv .iface true) (.var 7) (.con .nilIface)) (.con (.bool true)) (.o2 (.eqv .ptr false) (.var 3) (.con (.pointer none))))⟩], none⟩])
  (.cond (.var 15)
   (.seq (.reg [⟨[⟨[], 3, (.con (.pointer none))⟩, ⟨[], 4, (.con (.pointer none))⟩, ⟨[], 5, (.con (.bool false))⟩, ⟨[], 6, (.con (.bool false))⟩], none⟩])
   .ret)
   .skip))
  (.seq (.reg [⟨[], some (.ef [] (.call 51) [(.var 0), (.var 1)] (some 16))⟩, ⟨[⟨[], 4, (.var 16)⟩], none⟩])
  (.seq (.seq (.reg [⟨[⟨[], 8, (.con (.int .i64 0))⟩], none⟩])
  (.block 0 (.loop (.seq (.seq (.reg [⟨[⟨[], 17, (.o2 (.bin .lss) (.var 8) (.o1 .llen (.var 2)))⟩], none⟩])
    (.cond (.var 17)
     .skip
     (.exit 0)))
    (.seq (.block 1 (.seq (.dreg (.alt true [⟨[], 0, (.o1 .ld (.o2 (.iadr 1) (.var 2) (.var 8)))⟩] ⟨[⟨[], 18, (.o1 .ld (.o2 (.iadr 1) (.var 2) (.var 8)))⟩, ⟨[], 20, (.o2 (.bput 0 1) (.con (.agg #[(.int .i64 0), (.int .i64 0), (.int .i64 0), (.string .empty)])) (.con (.int .i64 77)))⟩, ⟨[], 23, (.o1 .llen (.o1 .ld (.o2 (.iadr 1) (.var 2) (.var 8))))⟩], some (.ef [] (.app 66 4 40) [(.con (.slice none 0 0)), (.o1 .ld (.o2 (.iadr 1) (.var 2) (.var 8)))] (some 19))⟩ (.eff true [] ⟨[], some (.ef [] (.bsl 66 1) [(.o2 (.bput 0 4) (.con (.agg #[(.int .i64 0), (.int .i64 0), (.int .i64 0), (.string .empty)])) (.var 20))] (some 21))⟩ (.eff true [] ⟨[], some (.ef [] (.app 66 4 40) [(.var 19), (.var 21)] (some 22))⟩ (.done ⟨[⟨[], 9, (.o3 (.lsl 4) (.var 22) (.con (.int .i64 0)) (.var 23))⟩], none⟩))) true [⟨[], 0, (.o1 .ld (.o2 (.iadr 1) (.var 2) (.var 8)))⟩, ⟨[], 0, (.o1 .ld (.o2 (.iadr 1) (.var 2) (.var 8)))⟩] ⟨[⟨[], 18, (.o1 .ld (.o2 (.iadr 1) (.var 2) (.var 8)))⟩, ⟨[], 20, (.o2 (.bput 0 1) (.con (.agg #[(.int .i64 0), (.int .i64 0), (.int .i64 0), (.string .empty)])) (.con (.int .i64 77)))⟩, ⟨[], 23, (.o1 .llen (.o1 .ld (.o2 (.iadr 1) (.var 2) (.var 8))))⟩], some (.ef [] (.bsl 66 1) [(.o2 (.bput 0 4) (.con (.agg #[(.int .i64 0), (.int .i64 0), (.int .i64 0), (.string .empty)])) (.o2 (.bput 0 1) (.con (.agg #[(.int .i64 0), (.int .i64 0), (.int .i64 0), (.string .empty)])) (.con (.int .i64 77))))] (some 21))⟩ (.eff true [] ⟨[], some (.ef [] (.app 66 4 40) [(.con (.slice none 0 0)), (.var 18)] (some 19))⟩ (.eff true [] ⟨[], some (.ef [] (.app 66 4 40) [(.var 19), (.var 21)] (some 22))⟩ (.done ⟨[⟨[], 9, (.o3 (.lsl 4) (.var 22) (.con (.int .i64 0)) (.var 23))⟩], none⟩)))))
     (.seq (.reg [⟨[], some (.ef [] (.call 45) [(.var 4), (.o1 .ld (.o2 (.iadr 1) (.var 2) (.var 8)))] (some 24))⟩, ⟨[⟨[], 10, (.var 24)⟩], none⟩])
     (.seq (.seq (.dreg (.eff false [] ⟨[⟨[], 26, (.var 10)⟩], some (.ef [] (.call 29) [(.var 3), (.var 9)] (some 25))⟩ (.eff false [] ⟨[], some (.ef [] (.call 19) [(.var 25), (.var 26)] (some 27))⟩ (.eff true [⟨[((.o1 .not (.var 27)), false)], 0, (.o1 .ld (.o1 (.fadr 2) (.o1 .nilck (.var 4))))⟩] ⟨[⟨[], 28, (.o1 .not (.var 27))⟩, ⟨[((.o1 .not (.var 27)), false)], 30, (.o1 .llen (.o1 .ld (.o1 (.fadr 2) (.o1 .nilck (.var 4)))))⟩], some (.ef [((.o1 .not (.var 27)), false)] (.call 31) [(.var 3)] (some 29))⟩ (.done ⟨[⟨[], 31, (.pick (.var 28) (.con (.bool true)) (.o2 (.bin .neq) (.var 29) (.var 30)))⟩], none⟩)))))
     (.cond (.var 31)
      (.seq (.reg [⟨[⟨[], 3, (.con (.pointer none))⟩, ⟨[], 4, (.con (.pointer none))⟩, ⟨[], 5, (.con (.bool false))⟩, ⟨[], 6, (.con (.bool false))⟩], none⟩])
      .ret)
      .skip))
     (.seq (.reg [⟨[⟨[], 11, (.con (.int .i64 0))⟩], none⟩])
     (.block 2 (.loop (.seq (.seq (.reg [⟨[⟨[], 32, (.o2 (.bin .lss) (.var 11) (.o1 .llen (.var 9)))⟩], none⟩])
       (.cond (.var 32)
        .skip
        (.exit 2)))
       (.seq (.block 3 (.reg [⟨[], some (.ef [] (.st 4) [(.o2 (.iadr 4) (.var 9) (.var 11)), (.o2 (.bput 3 1) (.o2 (.bput 0 1) (.con (.agg #[(.int .i64 0), (.int .i64 0), (.int .i64 0), (.string .empty)])) (.con (.int .i64 7))) (.con (.string ⟨#[111, 116, 104, 101, 114]⟩)))] none)⟩]))
       (.reg [⟨[⟨[], 11, (.o2 (.bin .add) (.var 11) (.con (.int .i64 1)))⟩], none⟩]))))))))))
    (.reg [⟨[⟨[], 8, (.o2 (.bin .add) (.var 8) (.con (.int .i64 1)))⟩], none⟩]))))))
  (.seq (.reg [⟨[⟨[], 3, (.var 3)⟩, ⟨[], 4, (.var 4)⟩, ⟨[], 5, (.con (.bool false))⟩, ⟨[], 6, (.con (.bool true))⟩], none⟩])
  .ret))))))), [(.var 3), (.var 4), (.var 5), (.var 6)]⟩
def F14 : SFun := ⟨2, 15, (.seq (.reg [⟨[⟨[], 2, (.con (.slice none 0 0))⟩], none⟩])
  (.seq (.reg [⟨[⟨[], 3, (.con (.slice none 0 0))⟩], none⟩])
  (.seq (.seq (.reg [⟨[⟨[], 4, (.con (.int .i64 0))⟩], none⟩])
  (.block 0 (.loop (.seq (.seq (.reg [⟨[⟨[], 8, (.pick (.o2 (.bin .lss) (.var 4) (.o1 .llen (.o1 .ld (.o1 (.fadr 2) (.o1 .nilck (.var 0)))))) (.o2 (.bin .leq) (.var 4) (.var 1)) (.con (.bool false)))⟩], none⟩])
    (.cond (.var 8)
     .skip
     (.exit 0)))
    (.seq (.block 1 (.seq (.reg [⟨[⟨[], 5, (.con (.int .i64 0))⟩], none⟩])
     (.block 2 (.loop (.seq (.seq (.reg [⟨[⟨[], 9, (.o2 (.bin .lss) (.var 5) (.o1 .llen (.o1 .ld (.o2 (.iadr 1) (.o1 .ld (.o1 (.fadr 2) (.o1 .nilck (.var 0)))) (.var 4)))))⟩], none⟩])
       (.cond (.var 9)
        .skip
        (.exit 2)))
       (.seq (.block 3 (.seq (.reg [⟨[⟨[], 6, (.o1 .ld (.o1 (.fadr 3) (.o2 (.iadr 4) (.o1 .ld (.o2 (.iadr 1) (.o1 .ld (.o1 (.fadr 2) (.o1 .nilck (.var 0)))) (.var 4))) (.var 5))))⟩], none⟩])
        (.seq (.reg [⟨[⟨[], 7, (.con (.int .i64 0))⟩], none⟩])
        (.seq (.block 4 (.loop (.seq (.seq (.reg [⟨[⟨[], 10, (.pick (.o2 (.bin .lss) (.var 7) (.o1 .llen (.var 3))) (.o2 (.bin .lss) (.o1 .ld (.o2 (.iadr 1) (.var 3) (.var 7))) (.var 6)) (.con (.bool false)))⟩], none⟩])
          (.cond (.var 10)
           .skip
           (.exit 4)))
          (.block 5 (.reg [⟨[⟨[], 7, (.o2 (.bin .add) (.var 7) (.con (.int .i64 1)))⟩], none⟩])))))
        (.seq (.seq (.reg [⟨[⟨[], 11, (.pick (.o2 (.bin .lss) (.var 7) (.o1 .llen (.var 3))) (.o2 (.bin .eql) (.o1 .ld (.o2 (.iadr 1) (.var 3) (.var 7))) (.var 6)) (.con (.bool false)))⟩], none⟩])
        (.cond (.var 11)
         (.exit 3)
         .skip))
        (.seq (.reg [⟨[⟨[], 12, (.var 3)⟩], some (.ef [] (.bsl 9 1) [(.o2 (.bput 0 1) (.con (.agg #[(.string .empty)])) (.con (.string .empty)))] (some 13))⟩, ⟨[], some (.ef [] (.app 9 1 16) [(.var 12), (.var 13)] (some 14))⟩, ⟨[⟨[], 3, (.var 14)⟩], none⟩])
        (.seq (.dreg (.eff false [] ⟨[], some (.ef [] (.cpy 1) [(.o3 (.lsl 1) (.var 3) (.o2 (.bin .add) (.var 7) (.con (.int .i64 1))) (.o1 .llen (.var 3))), (.o3 (.lsl 1) (.var 3) (.var 7) (.o1 .llen (.var 3)))] none)⟩ (.done ⟨[], none⟩)))
        (.reg [⟨[], some (.ef [] (.st 1) [(.o2 (.iadr 1) (.var 3) (.var 7)), (.var 6)] none)⟩]))))))))
       (.reg [⟨[⟨[], 5, (.o2 (.bin .add) (.var 5) (.con (.int .i64 1)))⟩], none⟩])))))))
    (.reg [⟨[⟨[], 4, (.o2 (.bin .add) (.var 4) (.con (.int .i64 1)))⟩], none⟩]))))))
  (.seq (.reg [⟨[⟨[], 2, (.var 3)⟩], none⟩])
  .ret)))), [(.var 2)]⟩
def F19 : SFun := ⟨2, 6, (.seq (.reg [⟨[⟨[], 2, (.con (.bool false))⟩], none⟩])
  (.seq (.seq (.reg [⟨[⟨[], 5, (.o2 (.eqv .iface false) (.var 0) (.con .nilIface))⟩], none⟩])
  (.cond (.var 5)
   (.seq (.reg [⟨[⟨[], 2, (.o2 (.bin .eql) (.var 1) (.con (.int .i64 0)))⟩], none⟩])
   .ret)
   .skip))
  (.seq (.reg [⟨[⟨[], 3, (.o1 (.ext 0) (.o1 (.tas 111 (.int .i64 0)) (.var 0)))⟩, ⟨[], 4, (.o1 (.ext 1) (.o1 (.tas 111 (.int .i64 0)) (.var 0)))⟩], none⟩])
  (.seq (.reg [⟨[⟨[], 2, (.pick (.pick (.var 4) (.o2 (.bin .gtr) (.var 1) (.con (.int .i64 0))) (.con (.bool false))) (.o2 (.bin .eql) (.var 3) (.var 1)) (.con (.bool false)))⟩], none⟩])
  .ret)))), [(.var 2)]⟩
def F28 : SFun := ⟨2, 9, (.seq (.reg [⟨[⟨[], 2, (.con (.pointer none))⟩, ⟨[], 3, (.con .nilIface)⟩], none⟩])
  (.seq (.seq (.reg [⟨[⟨[], 4, (.pick (.pick (.pick (.o2 (.bin .lss) (.var 0) (.con (.int .i64 1))) (.con (.bool true)) (.o2 (.bin .gtr) (.var 0) (.con (.int .i64 8)))) (.con (.bool true)) (.o2 (.bin .lss) (.var 1) (.con (.int .i64 1)))) (.con (.bool true)) (.o2 (.bin .gtr) (.var 1) (.var 0)))⟩], none⟩])
  (.cond (.var 4)
   (.seq (.reg [⟨[⟨[], 2, (.con (.pointer none))⟩, ⟨[], 3, (.o1 (.iface 111) (.con (.int .i64 1)))⟩], none⟩])
   .ret)
   .skip))
  (.seq (.reg [⟨[⟨[], 5, (.var 0)⟩, ⟨[], 6, (.var 1)⟩], some (.ef [] .mnew [] (some 7))⟩, ⟨[], some (.ef [] (.new 121) [(.o2 (.bput 3 1) (.o2 (.bput 1 1) (.o2 (.bput 0 1) (.con (.agg #[(.int .i64 0), (.int .i64 0), (.slice none 0 0), (.map none)])) (.var 5)) (.var 6)) (.var 7))] (some 8))⟩, ⟨[⟨[], 2, (.var 8)⟩, ⟨[], 3, (.con .nilIface)⟩], none⟩])
  .ret))), [(.var 2), (.var 3)]⟩
def F29 : SFun := ⟨2, 45, (.seq (.reg [⟨[⟨[], 2, (.con .nilIface)⟩], none⟩])
  (.seq (.reg [⟨[], some (.ef [] .mnew [] (some 8))⟩, ⟨[⟨[], 3, (.var 8)⟩], none⟩])
  (.seq (.seq (.reg [⟨[⟨[], 9, (.var 1)⟩, ⟨[], 10, (.o1 .llen (.var 1))⟩, ⟨[], 11, (.con (.int .i64 0))⟩], none⟩])
  (.block 0 (.loop (.seq (.reg [⟨[⟨[], 12, (.o2 (.bin .lss) (.var 11) (.var 10))⟩], none⟩])
    (.seq (.cond (.var 12)
     .skip
     (.exit 0))
    (.seq (.block 1 (.seq (.reg [⟨[⟨[], 13, (.o1 (.ldn 4) (.o2 (.iadr 4) (.var 9) (.var 11)))⟩], some (.pnew 4 (.con (.agg #[(.int .i64 0), (.int .i64 0), (.int .i64 0), (.string .empty)])))⟩, ⟨[], some (.pst 4 (.upd (.cnt 4) 4 4 (.pad 4) (.var 13)))⟩])
     (.seq (.seq (.reg [⟨[⟨[], 14, (.pick (.pick (.pick (.o2 (.bin .lss) (.o1 .ld (.o1 (.fadr 0) (.pad 4))) (.con (.int .i64 0))) (.con (.bool true)) (.o2 (.bin .geq) (.o1 .ld (.o1 (.fadr 0) (.pad 4))) (.con (.int .i64 8)))) (.con (.bool true)) (.o2 (.bin .lss) (.o1 .ld (.o1 (.fadr 1) (.pad 4))) (.con (.int .i64 0)))) (.con (.bool true)) (.o2 (.bin .gtr) (.o1 .ld (.o1 (.fadr 1) (.pad 4))) (.con (.int .i64 255))))⟩], none⟩])
     (.cond (.var 14)
      (.seq (.reg [⟨[⟨[], 2, (.o1 (.iface 111) (.con (.int .i64 1)))⟩], none⟩])
      .ret)
      .skip))
     (.seq (.seq (.reg [⟨[⟨[], 15, (.o2 (.eqv .map false) (.o2 (.lkp .str (.map none)) (.var 3) (.o1 .ld (.o1 (.fadr 3) (.pad 4)))) (.con (.map none)))⟩], none⟩])
     (.cond (.var 15)
      (.reg [⟨[⟨[], 16, (.var 3)⟩, ⟨[], 17, (.o1 .ld (.o1 (.fadr 3) (.pad 4)))⟩], some (.ef [] .mnew [] (some 18))⟩, ⟨[], some (.ef [] (.mupd .str) [(.var 16), (.var 17), (.var 18)] none)⟩])
      .skip))
     (.reg [⟨[], some (.ef [] (.mupd .int) [(.o2 (.lkp .str (.map none)) (.var 3) (.o1 .ld (.o1 (.fadr 3) (.pad 4)))), (.o1 .ld (.o1 (.fadr 0) (.pad 4))), (.o2 (.bin .add) (.o2 (.lkp .int (.int .i64 0)) (.o2 (.lkp .str (.map none)) (.var 3) (.o1 .ld (.o1 (.fadr 3) (.pad 4)))) (.o1 .ld (.o1 (.fadr 0) (.pad 4)))) (.o1 .ld (.o1 (.fadr 1) (.pad 4))))] none)⟩])))))
    (.reg [⟨[⟨[], 11, (.o2 (.bin .add) (.var 11) (.con (.int .i64 1)))⟩], none⟩])))))))
  (.seq (.reg [⟨[⟨[], 19, (.var 0)⟩, ⟨[], 20, (.o1 .ld (.o1 (.fadr 2) (.o1 .nilck (.var 0))))⟩], some (.ef [] (.bsl 122 1) [(.o2 (.bput 0 1) (.con (.agg #[(.map none)])) (.var 3))] (some 21))⟩, ⟨[], some (.ef [] (.app 122 1 8) [(.var 20), (.var 21)] (some 22))⟩, ⟨[], some (.ef [] (.st 1) [(.o1 (.fadr 2) (.o1 .nilck (.var 19))), (.var 22)] none)⟩])
  (.seq (.seq (.reg [⟨[], some (.ef [] .rng [(.var 3)] (some 23))⟩])
  (.block 2 (.loop (.seq (.reg [⟨[], some (.ef [] .nxt [(.var 23)] (some 24))⟩, ⟨[⟨[], 25, (.o1 (.ext 0) (.var 24))⟩], none⟩])
    (.seq (.cond (.var 25)
     .skip
     (.exit 2))
    (.block 3 (.seq (.reg [⟨[], some (.ef [] .ent [(.var 23)] (some 26))⟩, ⟨[⟨[], 5, (.o1 (.ext 0) (.var 26))⟩], none⟩])
     (.seq (.reg [⟨[⟨[], 27, (.o2 (.eqv .slice false) (.o2 (.lkp .str (.slice none 0 0)) (.o1 .ld (.o1 (.fadr 3) (.o1 .nilck (.var 0)))) (.var 5)) (.con (.slice none 0 0)))⟩], none⟩])
     (.cond (.var 27)
      (.reg [⟨[⟨[], 28, (.o1 .ld (.o1 (.fadr 3) (.o1 .nilck (.var 0))))⟩, ⟨[], 29, (.var 5)⟩], some (.ef [] (.bsl 3 0) [(.con (.agg #[]))] (some 30))⟩, ⟨[], some (.ef [] (.mupd .str) [(.var 28), (.var 29), (.var 30)] none)⟩])
      .skip)))))))))
  (.seq (.seq (.reg [⟨[], some (.ef [] .rng [(.o1 .ld (.o1 (.fadr 3) (.o1 .nilck (.var 0))))] (some 31))⟩])
  (.block 4 (.loop (.seq (.reg [⟨[], some (.ef [] .nxt [(.var 31)] (some 32))⟩, ⟨[⟨[], 33, (.o1 (.ext 0) (.var 32))⟩], none⟩])
    (.seq (.cond (.var 33)
     .skip
     (.exit 4))
    (.block 5 (.seq (.reg [⟨[], some (.ef [] .ent [(.var 31)] (some 34))⟩, ⟨[⟨[], 6, (.o1 (.ext 0) (.var 34))⟩, ⟨[], 7, (.o1 (.ext 1) (.var 34))⟩], none⟩])
     (.seq (.block 6 (.loop (.seq (.seq (.reg [⟨[⟨[], 35, (.o2 (.bin .lss) (.o1 .llen (.var 7)) (.o2 (.bin .sub) (.o1 .llen (.o1 .ld (.o1 (.fadr 2) (.o1 .nilck (.var 0))))) (.con (.int .i64 1))))⟩], none⟩])
       (.cond (.var 35)
        .skip
        (.exit 6)))
       (.block 7 (.reg [⟨[⟨[], 36, (.var 7)⟩], some (.ef [] (.bsl 3 1) [(.o2 (.bput 0 1) (.con (.agg #[(.int .i64 0)])) (.con (.int .i64 (-1))))] (some 37))⟩, ⟨[], some (.ef [] (.app 3 1 8) [(.var 36), (.var 37)] (some 38))⟩, ⟨[⟨[], 7, (.var 38)⟩], none⟩])))))
     (.dreg (.eff true [⟨[], 0, (.o1 .ld (.o1 (.fadr 3) (.o1 .nilck (.var 0))))⟩] ⟨[⟨[], 39, (.o1 .ld (.o1 (.fadr 3) (.o1 .nilck (.var 0))))⟩, ⟨[], 40, (.var 6)⟩, ⟨[], 41, (.var 7)⟩], some (.ef [] (.call 60) [(.var 0), (.var 6)] (some 42))⟩ (.eff true [] ⟨[], some (.ef [] (.bsl 3 1) [(.o2 (.bput 0 1) (.con (.agg #[(.int .i64 0)])) (.var 42))] (some 43))⟩ (.eff true [] ⟨[], some (.ef [] (.app 3 1 8) [(.var 41), (.var 43)] (some 44))⟩ (.eff false [] ⟨[], some (.ef [] (.mupd .str) [(.var 39), (.var 40), (.var 44)] none)⟩ (.done ⟨[], none⟩))))))))))))))
  (.seq (.reg [⟨[⟨[], 2, (.con .nilIface)⟩], none⟩])
  .ret))))))), [(.var 2)]⟩
def F30 : SFun := ⟨3, 9, (.seq (.reg [⟨[⟨[], 3, (.con (.int .i64 0))⟩, ⟨[], 4, (.con .nilIface)⟩], none⟩])
  (.seq (.seq (.reg [⟨[⟨[], 7, (.pick (.o2 (.bin .lss) (.var 2) (.con (.int .i64 0))) (.con (.bool true)) (.o2 (.bin .geq) (.var 2) (.o1 .llen (.o1 .ld (.o1 (.fadr 2) (.o1 .nilck (.var 0)))))))⟩], none⟩])
  (.cond (.var 7)
   (.seq (.reg [⟨[⟨[], 3, (.con (.int .i64 0))⟩, ⟨[], 4, (.o1 (.iface 111) (.con (.int .i64 1)))⟩], none⟩])
   .ret)
   .skip))
  (.seq (.reg [⟨[⟨[], 5, (.o1 (.ext 0) (.o2 (.lkpo .str (.slice none 0 0)) (.o1 .ld (.o1 (.fadr 3) (.o1 .nilck (.var 0)))) (.var 1)))⟩, ⟨[], 6, (.o1 (.ext 1) (.o2 (.lkpo .str (.slice none 0 0)) (.o1 .ld (.o1 (.fadr 3) (.o1 .nilck (.var 0)))) (.var 1)))⟩], none⟩])
  (.seq (.seq (.reg [⟨[⟨[], 8, (.o1 .not (.var 6))⟩], none⟩])
  (.cond (.var 8)
   (.seq (.reg [⟨[⟨[], 3, (.con (.int .i64 0))⟩, ⟨[], 4, (.o1 (.iface 111) (.con (.int .i64 5)))⟩], none⟩])
   .ret)
   .skip))
  (.seq (.reg [⟨[⟨[], 3, (.o1 .ld (.o2 (.iadr 1) (.var 5) (.var 2)))⟩, ⟨[], 4, (.con .nilIface)⟩], none⟩])
  .ret))))), [(.var 3), (.var 4)]⟩
def F31 : SFun := ⟨1, 2, (.seq (.reg [⟨[⟨[], 1, (.con (.int .i64 0))⟩], none⟩])
  (.seq (.reg [⟨[⟨[], 1, (.o1 .llen (.o1 .ld (.o1 (.fadr 2) (.o1 .nilck (.var 0)))))⟩], none⟩])
  .ret)), [(.var 1)]⟩
def F45 : SFun := ⟨2, 13, (.seq (.reg [⟨[⟨[], 2, (.con (.int .i64 0))⟩], none⟩])
  (.seq (.seq (.reg [⟨[⟨[], 3, (.con (.int .i64 0))⟩], none⟩])
  (.block 0 (.loop (.seq (.seq (.reg [⟨[⟨[], 4, (.o2 (.bin .lss) (.var 3) (.o1 .llen (.var 1)))⟩], none⟩])
    (.cond (.var 4)
     .skip
     (.exit 0)))
    (.seq (.block 1 (.seq (.reg [⟨[⟨[], 5, (.pick (.pick (.pick (.o2 (.bin .lss) (.o1 .ld (.o1 (.fadr 0) (.o2 (.iadr 4) (.var 1) (.var 3)))) (.con (.int .i64 0))) (.con (.bool true)) (.o2 (.bin .gtr) (.o1 .ld (.o1 (.fadr 0) (.o2 (.iadr 4) (.var 1) (.var 3)))) (.con (.int .i64 7)))) (.con (.bool true)) (.o2 (.bin .lss) (.o1 .ld (.o1 (.fadr 1) (.o2 (.iadr 4) (.var 1) (.var 3)))) (.con (.int .i64 0)))) (.con (.bool true)) (.o2 (.bin .gtr) (.o1 .ld (.o1 (.fadr 1) (.o2 (.iadr 4) (.var 1) (.var 3)))) (.con (.int .i64 255))))⟩], none⟩])
     (.cond (.var 5)
      (.seq (.reg [⟨[⟨[], 2, (.con (.int .i64 1))⟩], none⟩])
      .ret)
      .skip)))
    (.reg [⟨[⟨[], 3, (.o2 (.bin .add) (.var 3) (.con (.int .i64 1)))⟩], none⟩]))))))
  (.seq (.dreg (.eff true [⟨[], 0, (.o1 .ld (.o1 (.fadr 2) (.o1 .nilck (.var 0))))⟩] ⟨[⟨[], 6, (.var 0)⟩, ⟨[], 7, (.o1 .ld (.o1 (.fadr 2) (.o1 .nilck (.var 0))))⟩], some (.ef [] (.app 66 4 40) [(.con (.slice none 0 0)), (.var 1)] (some 8))⟩ (.eff true [] ⟨[], some (.ef [] (.bsl 64 1) [(.o2 (.bput 0 1) (.con (.agg #[(.slice none 0 0)])) (.var 8))] (some 9))⟩ (.eff false [] ⟨[], some (.ef [] (.app 64 1 24) [(.var 7), (.var 9)] (some 10))⟩ (.eff false [] ⟨[], some (.ef [] (.st 1) [(.o1 (.fadr 2) (.o1 .nilck (.var 6))), (.var 10)] none)⟩ (.done ⟨[], none⟩))))))
  (.seq (.reg [⟨[⟨[], 11, (.var 0)⟩], some (.ef [] .mnew [] (some 12))⟩, ⟨[], some (.ef [] (.st 1) [(.o1 (.fadr 3) (.o1 .nilck (.var 11))), (.var 12)] none)⟩])
  (.seq (.reg [⟨[⟨[], 2, (.con (.int .i64 0))⟩], none⟩])
  .ret))))), [(.var 2)]⟩
def F50 : SFun := ⟨4, 13, (.seq (.reg [⟨[⟨[], 4, (.con (.bool false))⟩], none⟩])
  (.seq (.reg [⟨[], some (.ef [] (.call 30) [(.var 0), (.var 1), (.var 3)] (some 8))⟩, ⟨[⟨[], 5, (.o1 (.ext 0) (.var 8))⟩, ⟨[], 6, (.o1 (.ext 1) (.var 8))⟩], none⟩])
  (.seq (.seq (.reg [⟨[⟨[], 9, (.pick (.pick (.o2 (.eqv .iface true) (.var 6) (.con .nilIface)) (.con (.bool true)) (.o2 (.bin .lss) (.var 2) (.con (.int .i64 0)))) (.con (.bool true)) (.o2 (.bin .neq) (.var 5) (.var 2)))⟩], none⟩])
  (.cond (.var 9)
   (.seq (.reg [⟨[⟨[], 4, (.con (.bool false))⟩], none⟩])
   .ret)
   .skip))
  (.seq (.seq (.reg [⟨[⟨[], 10, (.o2 (.bin .eql) (.var 3) (.con (.int .i64 0)))⟩], none⟩])
  (.cond (.var 10)
   (.seq (.reg [⟨[⟨[], 4, (.con (.bool true))⟩], none⟩])
   .ret)
   .skip))
  (.seq (.reg [⟨[], some (.ef [] (.call 30) [(.var 0), (.var 1), (.o2 (.bin .sub) (.var 3) (.con (.int .i64 1)))] (some 11))⟩, ⟨[⟨[], 7, (.o1 (.ext 0) (.var 11))⟩, ⟨[], 12, (.o1 (.ext 1) (.var 11))⟩], none⟩])
  (.seq (.reg [⟨[⟨[], 4, (.o2 (.bin .neq) (.var 7) (.var 2))⟩], none⟩])
  .ret)))))), [(.var 4)]⟩
def F51 : SFun := ⟨2, 7, (.seq (.reg [⟨[⟨[], 2, (.con (.pointer none))⟩], none⟩])
  (.seq (.reg [⟨[⟨[], 3, (.var 0)⟩, ⟨[], 4, (.var 1)⟩], some (.ef [] .mnew [] (some 5))⟩, ⟨[], some (.ef [] (.new 33) [(.o2 (.bput 3 1) (.o2 (.bput 1 1) (.o2 (.bput 0 1) (.con (.agg #[(.int .i64 0), (.int .i64 0), (.slice none 0 0), (.map none)])) (.var 3)) (.var 4)) (.var 5))] (some 6))⟩, ⟨[⟨[], 2, (.var 6)⟩], none⟩])
  .ret)), [(.var 2)]⟩
def F52 : SFun := ⟨3, 10, (.seq (.reg [⟨[⟨[], 3, (.con (.int .i64 0))⟩, ⟨[], 4, (.con (.int .i64 0))⟩], none⟩])
  (.seq (.seq (.reg [⟨[⟨[], 6, (.pick (.o2 (.bin .lss) (.var 2) (.con (.int .i64 0))) (.con (.bool true)) (.o2 (.bin .geq) (.var 2) (.o1 .llen (.o1 .ld (.o1 (.fadr 2) (.o1 .nilck (.var 0)))))))⟩], none⟩])
  (.cond (.var 6)
   (.seq (.reg [⟨[⟨[], 3, (.con (.int .i64 0))⟩, ⟨[], 4, (.con (.int .i64 1))⟩], none⟩])
   .ret)
   .skip))
  (.seq (.reg [⟨[], some (.ef [] (.call 55) [(.var 0), (.var 1), (.o1 .llen (.o1 .ld (.o1 (.fadr 2) (.o1 .nilck (.var 0)))))] (some 7))⟩, ⟨[⟨[], 5, (.var 7)⟩], none⟩])
  (.seq (.seq (.reg [⟨[⟨[], 8, (.o1 .not (.var 5))⟩], none⟩])
  (.cond (.var 8)
   (.seq (.reg [⟨[⟨[], 3, (.con (.int .i64 0))⟩, ⟨[], 4, (.con (.int .i64 5))⟩], none⟩])
   .ret)
   .skip))
  (.seq (.reg [⟨[], some (.ef [] (.call 70) [(.var 0), (.var 1), (.var 2)] (some 9))⟩, ⟨[⟨[], 3, (.var 9)⟩, ⟨[], 4, (.con (.int .i64 0))⟩], none⟩])
  .ret))))), [(.var 3), (.var 4)]⟩
def F53 : SFun := ⟨4, 11, (.seq (.reg [⟨[⟨[], 4, (.con (.bool false))⟩], none⟩])
  (.seq (.reg [⟨[], some (.ef [] (.call 52) [(.var 0), (.var 1), (.var 3)] (some 7))⟩, ⟨[⟨[], 5, (.o1 (.ext 0) (.var 7))⟩, ⟨[], 6, (.o1 (.ext 1) (.var 7))⟩], none⟩])
  (.seq (.seq (.reg [⟨[⟨[], 8, (.pick (.pick (.o2 (.bin .gtr) (.var 6) (.con (.int .i64 0))) (.con (.bool true)) (.o2 (.bin .lss) (.var 2) (.con (.int .i64 0)))) (.con (.bool true)) (.o2 (.bin .neq) (.var 5) (.var 2)))⟩], none⟩])
  (.cond (.var 8)
   (.seq (.reg [⟨[⟨[], 4, (.con (.bool false))⟩], none⟩])
   .ret)
   .skip))
  (.seq (.reg [⟨[⟨[], 9, (.o2 (.bin .eql) (.var 3) (.con (.int .i64 0)))⟩], some (.ef [((.o2 (.bin .eql) (.var 3) (.con (.int .i64 0))), false)] (.call 70) [(.var 0), (.var 1), (.o2 (.bin .sub) (.var 3) (.con (.int .i64 1)))] (some 10))⟩, ⟨[⟨[], 4, (.pick (.var 9) (.con (.bool true)) (.o2 (.bin .neq) (.var 10) (.var 2)))⟩], none⟩])
  .ret)))), [(.var 4)]⟩
def F55 : SFun := ⟨3, 9, (.seq (.reg [⟨[⟨[], 3, (.con (.bool false))⟩], none⟩])
  (.seq (.seq (.reg [⟨[⟨[], 4, (.con (.int .i64 0))⟩], none⟩])
  (.block 0 (.loop (.seq (.seq (.reg [⟨[⟨[], 6, (.pick (.o2 (.bin .lss) (.var 4) (.o1 .llen (.o1 .ld (.o1 (.fadr 2) (.o1 .nilck (.var 0)))))) (.o2 (.bin .leq) (.var 4) (.var 2)) (.con (.bool false)))⟩], none⟩])
    (.cond (.var 6)
     .skip
     (.exit 0)))
    (.seq (.block 1 (.seq (.reg [⟨[⟨[], 5, (.con (.int .i64 0))⟩], none⟩])
     (.block 2 (.loop (.seq (.seq (.reg [⟨[⟨[], 7, (.o2 (.bin .lss) (.var 5) (.o1 .llen (.o1 .ld (.o2 (.iadr 1) (.o1 .ld (.o1 (.fadr 2) (.o1 .nilck (.var 0)))) (.var 4)))))⟩], none⟩])
       (.cond (.var 7)
        .skip
        (.exit 2)))
       (.seq (.block 3 (.seq (.reg [⟨[⟨[], 8, (.o2 (.bin .eql) (.o1 .ld (.o1 (.fadr 3) (.o2 (.iadr 4) (.o1 .ld (.o2 (.iadr 1) (.o1 .ld (.o1 (.fadr 2) (.o1 .nilck (.var 0)))) (.var 4))) (.var 5)))) (.var 1))⟩], none⟩])
        (.cond (.var 8)
         (.seq (.reg [⟨[⟨[], 3, (.con (.bool true))⟩], none⟩])
         .ret)
         .skip)))
       (.reg [⟨[⟨[], 5, (.o2 (.bin .add) (.var 5) (.con (.int .i64 1)))⟩], none⟩])))))))
    (.reg [⟨[⟨[], 4, (.o2 (.bin .add) (.var 4) (.con (.int .i64 1)))⟩], none⟩]))))))
  (.seq (.reg [⟨[⟨[], 3, (.con (.bool false))⟩], none⟩])
  .ret))), [(.var 3)]⟩
def F60 : SFun := ⟨2, 25, (.seq (.reg [⟨[⟨[], 2, (.con (.int .i64 0))⟩], none⟩])
  (.seq (.reg [⟨[], some (.ef [] (.new 149) [(.con (.agg #[(.int .i64 0), (.int .i64 0), (.int .i64 0), (.int .i64 0), (.int .i64 0), (.int .i64 0), (.int .i64 0), (.int .i64 0)]))] (some 3))⟩, ⟨[], some (.ef [] (.new 149) [(.con (.agg #[(.int .i64 0), (.int .i64 0), (.int .i64 0), (.int .i64 0), (.int .i64 0), (.int .i64 0), (.int .i64 0), (.int .i64 0)]))] (some 4))⟩])
  (.seq (.reg [⟨[⟨[], 5, (.o1 .llen (.o1 .ld (.o1 (.fadr 2) (.o1 .nilck (.var 0)))))⟩], none⟩])
  (.seq (.seq (.dreg (.done ⟨[⟨[], 12, (.o3 (.lsl 1) (.o1 .ld (.o1 (.fadr 2) (.o1 .nilck (.var 0)))) (.o2 .max (.con (.int .i64 0)) (.o2 (.bin .sub) (.var 5) (.o1 .ld (.o1 (.fadr 0) (.o1 .nilck (.var 0)))))) (.o1 .llen (.o1 .ld (.o1 (.fadr 2) (.o1 .nilck (.var 0))))))⟩, ⟨[], 13, (.o1 .llen (.o3 (.lsl 1) (.o1 .ld (.o1 (.fadr 2) (.o1 .nilck (.var 0)))) (.o2 .max (.con (.int .i64 0)) (.o2 (.bin .sub) (.var 5) (.o1 .ld (.o1 (.fadr 0) (.o1 .nilck (.var 0)))))) (.o1 .llen (.o1 .ld (.o1 (.fadr 2) (.o1 .nilck (.var 0)))))))⟩, ⟨[], 14, (.con (.int .i64 0))⟩], none⟩))
  (.block 0 (.loop (.seq (.reg [⟨[⟨[], 15, (.o2 (.bin .lss) (.var 14) (.var 13))⟩], none⟩])
    (.seq (.cond (.var 15)
     .skip
     (.exit 0))
    (.seq (.block 1 (.seq (.reg [⟨[⟨[], 6, (.o1 .ld (.o2 (.iadr 1) (.var 12) (.var 14)))⟩], none⟩])
     (.seq (.reg [⟨[], some (.ef [] .rng [(.o2 (.lkp .str (.map none)) (.var 6) (.var 1))] (some 16))⟩])
     (.block 2 (.loop (.seq (.reg [⟨[], some (.ef [] .nxt [(.var 16)] (some 17))⟩, ⟨[⟨[], 18, (.o1 (.ext 0) (.var 17))⟩], none⟩])
       (.seq (.cond (.var 18)
        .skip
        (.exit 2))
       (.block 3 (.seq (.reg [⟨[], some (.ef [] .ent [(.var 16)] (some 19))⟩, ⟨[⟨[], 7, (.o1 (.ext 0) (.var 19))⟩, ⟨[], 8, (.o1 (.ext 1) (.var 19))⟩], none⟩])
        (.seq (.reg [⟨[], some (.ef [] (.st 1) [(.o2 (.aadr 8 1) (.var 3) (.var 7)), (.o2 (.bin .add) (.o1 .ld (.o2 (.aadr 8 1) (.var 3) (.var 7))) (.con (.int .i64 1)))] none)⟩])
        (.reg [⟨[], some (.ef [] (.st 1) [(.o2 (.aadr 8 1) (.var 4) (.var 7)), (.o2 (.bin .add) (.o1 .ld (.o2 (.aadr 8 1) (.var 4) (.var 7))) (.var 8))] none)⟩])))))))))))
    (.reg [⟨[⟨[], 14, (.o2 (.bin .add) (.var 14) (.con (.int .i64 1)))⟩], none⟩])))))))
  (.seq (.reg [⟨[⟨[], 9, (.con (.int .i64 (-1)))⟩], none⟩])
  (.seq (.seq (.reg [⟨[⟨[], 20, (.o1 (.ldn 8) (.var 3))⟩, ⟨[], 21, (.con (.int .i64 0))⟩], none⟩])
  (.block 4 (.loop (.seq (.reg [⟨[⟨[], 22, (.o2 (.bin .lss) (.var 21) (.con (.int .i64 8)))⟩], none⟩])
    (.seq (.cond (.var 22)
     .skip
     (.exit 4))
    (.seq (.block 5 (.seq (.reg [⟨[⟨[], 10, (.var 21)⟩, ⟨[], 11, (.o2 (.vidx 8) (.var 20) (.var 21))⟩], none⟩])
     (.seq (.seq (.reg [⟨[⟨[], 23, (.o2 (.bin .lss) (.var 11) (.o1 .ld (.o1 (.fadr 1) (.o1 .nilck (.var 0)))))⟩], none⟩])
     (.cond (.var 23)
      (.exit 5)
      .skip))
     (.seq (.dreg (.done ⟨[⟨[], 24, (.pick (.pick (.o2 (.bin .lss) (.var 9) (.con (.int .i64 0))) (.con (.bool true)) (.o2 (.bin .gtr) (.var 11) (.o1 .ld (.o2 (.aadr 8 1) (.var 3) (.var 9))))) (.con (.bool true)) (.pick (.o2 (.bin .eql) (.var 11) (.o1 .ld (.o2 (.aadr 8 1) (.var 3) (.var 9)))) (.o2 (.bin .gtr) (.o1 .ld (.o2 (.aadr 8 1) (.var 4) (.var 10))) (.o1 .ld (.o2 (.aadr 8 1) (.var 4) (.var 9)))) (.con (.bool false))))⟩], none⟩))
     (.cond (.var 24)
      (.reg [⟨[⟨[], 9, (.var 10)⟩], none⟩])
      .skip)))))
    (.reg [⟨[⟨[], 21, (.o2 (.bin .add) (.var 21) (.con (.int .i64 1)))⟩], none⟩])))))))
  (.seq (.reg [⟨[⟨[], 2, (.var 9)⟩], none⟩])
  .ret))))))), [(.var 2)]⟩
def F70 : SFun := ⟨3, 11, (.seq (.reg [⟨[⟨[], 3, (.con (.int .i64 0))⟩], none⟩])
  (.seq (.reg [⟨[⟨[], 7, (.o2 (.bin .add) (.var 1) (.con (.string ⟨#[64]⟩)))⟩], some (.ef [] (.call 85) [(.var 2)] (some 8))⟩, ⟨[⟨[], 4, (.o2 (.bin .add) (.var 7) (.var 8))⟩], none⟩])
  (.seq (.reg [⟨[⟨[], 5, (.o1 (.ext 0) (.o2 (.lkpo .str (.int .i64 0)) (.o1 .ld (.o1 (.fadr 3) (.o1 .nilck (.var 0)))) (.var 4)))⟩, ⟨[], 6, (.o1 (.ext 1) (.o2 (.lkpo .str (.int .i64 0)) (.o1 .ld (.o1 (.fadr 3) (.o1 .nilck (.var 0)))) (.var 4)))⟩], none⟩])
  (.seq (.seq (.reg [⟨[⟨[], 9, (.o1 .not (.var 6))⟩], none⟩])
  (.cond (.var 9)
   (.seq (.reg [⟨[], some (.ef [] (.call 86) [(.var 0), (.var 1), (.var 2)] (some 10))⟩, ⟨[⟨[], 5, (.var 10)⟩], none⟩])
   (.reg [⟨[], some (.ef [] (.mupd .str) [(.o1 .ld (.o1 (.fadr 3) (.o1 .nilck (.var 0)))), (.var 4), (.var 5)] none)⟩]))
   .skip))
  (.seq (.reg [⟨[⟨[], 3, (.var 5)⟩], none⟩])
  .ret))))), [(.var 3)]⟩
def F79 : SFun := ⟨1, 10, (.seq (.reg [⟨[], some (.pnew 1 (.con (.agg #[(.int .i64 0), (.int .i64 0), (.int .i64 0), (.int .i64 0)])))⟩, ⟨[⟨[], 2, (.con (.bool false))⟩], none⟩])
  (.seq (.seq (.reg [⟨[⟨[], 3, (.var 0)⟩], none⟩])
  (.block 0 (.seq (.reg [⟨[⟨[], 4, (.o2 (.bin .eql) (.var 3) (.con (.int .i64 0)))⟩], none⟩])
   (.cond (.var 4)
    (.seq (.reg [⟨[], some (.pst 1 (.upd (.cnt 1) 1 4 (.pad 1) (.o2 (.bput 3 1) (.o2 (.bput 2 1) (.o2 (.bput 1 1) (.o2 (.bput 0 1) (.con (.agg #[(.int .i64 0), (.int .i64 0), (.int .i64 0), (.int .i64 0)])) (.con (.int .i64 20))) (.con (.int .i64 6))) (.con (.int .i64 6))) (.con (.int .i64 1)))))⟩, ⟨[⟨[], 2, (.con (.bool true))⟩], none⟩])
    .ret)
    (.seq (.reg [⟨[⟨[], 5, (.o2 (.bin .eql) (.var 3) (.con (.int .i64 1)))⟩], none⟩])
    (.cond (.var 5)
     (.seq (.reg [⟨[], some (.pst 1 (.upd (.cnt 1) 1 4 (.pad 1) (.o2 (.bput 3 1) (.o2 (.bput 2 1) (.o2 (.bput 1 1) (.o2 (.bput 0 1) (.con (.agg #[(.int .i64 0), (.int .i64 0), (.int .i64 0), (.int .i64 0)])) (.con (.int .i64 17))) (.con (.int .i64 5))) (.con (.int .i64 9))) (.con (.int .i64 2)))))⟩, ⟨[⟨[], 2, (.con (.bool true))⟩], none⟩])
     .ret)
     (.seq (.reg [⟨[⟨[], 6, (.o2 (.bin .eql) (.var 3) (.con (.int .i64 2)))⟩], none⟩])
     (.cond (.var 6)
      (.seq (.reg [⟨[], some (.pst 1 (.upd (.cnt 1) 1 4 (.pad 1) (.o2 (.bput 3 1) (.o2 (.bput 2 1) (.o2 (.bput 1 1) (.o2 (.bput 0 1) (.con (.agg #[(.int .i64 0), (.int .i64 0), (.int .i64 0), (.int .i64 0)])) (.con (.int .i64 14))) (.con (.int .i64 4))) (.con (.int .i64 12))) (.con (.int .i64 3)))))⟩, ⟨[⟨[], 2, (.con (.bool true))⟩], none⟩])
      .ret)
      (.seq (.reg [⟨[⟨[], 7, (.o2 (.bin .eql) (.var 3) (.con (.int .i64 3)))⟩], none⟩])
      (.cond (.var 7)
       (.seq (.reg [⟨[], some (.pst 1 (.upd (.cnt 1) 1 4 (.pad 1) (.o2 (.bput 3 1) (.o2 (.bput 2 1) (.o2 (.bput 1 1) (.o2 (.bput 0 1) (.con (.agg #[(.int .i64 0), (.int .i64 0), (.int .i64 0), (.int .i64 0)])) (.con (.int .i64 10))) (.con (.int .i64 3))) (.con (.int .i64 16))) (.con (.int .i64 4)))))⟩, ⟨[⟨[], 2, (.con (.bool true))⟩], none⟩])
       .ret)
       (.seq (.reg [⟨[⟨[], 8, (.o2 (.bin .eql) (.var 3) (.con (.int .i64 4)))⟩], none⟩])
       (.cond (.var 8)
        (.seq (.reg [⟨[], some (.pst 1 (.upd (.cnt 1) 1 4 (.pad 1) (.o2 (.bput 3 1) (.o2 (.bput 2 1) (.o2 (.bput 1 1) (.o2 (.bput 0 1) (.con (.agg #[(.int .i64 0), (.int .i64 0), (.int .i64 0), (.int .i64 0)])) (.con (.int .i64 7))) (.con (.int .i64 2))) (.con (.int .i64 19))) (.con (.int .i64 5)))))⟩, ⟨[⟨[], 2, (.con (.bool true))⟩], none⟩])
        .ret)
        (.seq (.reg [⟨[⟨[], 9, (.o2 (.bin .eql) (.var 3) (.con (.int .i64 5)))⟩], none⟩])
        (.cond (.var 9)
         (.seq (.reg [⟨[], some (.pst 1 (.upd (.cnt 1) 1 4 (.pad 1) (.o2 (.bput 3 1) (.o2 (.bput 2 1) (.o2 (.bput 1 1) (.o2 (.bput 0 1) (.con (.agg #[(.int .i64 0), (.int .i64 0), (.int .i64 0), (.int .i64 0)])) (.con (.int .i64 4))) (.con (.int .i64 1))) (.con (.int .i64 22))) (.con (.int .i64 6)))))⟩, ⟨[⟨[], 2, (.con (.bool true))⟩], none⟩])
         .ret)
         .skip))))))))))))))
  (.seq (.reg [⟨[], some (.pst 1 (.upd (.cnt 1) 1 4 (.pad 1) (.con (.agg #[(.int .i64 0), (.int .i64 0), (.int .i64 0), (.int .i64 0)]))))⟩, ⟨[⟨[], 2, (.con (.bool false))⟩], none⟩])
  .ret))), [(.o1 (.ldn 4) (.pad 1)), (.var 2)]⟩
def F81 : SFun := ⟨1, 35, (.seq (.reg [⟨[], some (.pnew 1 (.con (.agg #[(.int .i64 0), (.int .i64 0), (.int .i64 0), (.int .i64 0), (.int .i64 0), (.int .i64 0)])))⟩, ⟨[⟨[], 2, (.con .nilIface)⟩], none⟩])
  (.seq (.seq (.reg [⟨[⟨[], 9, (.o2 (.bin .neq) (.o1 .slen (.var 0)) (.con (.int .i64 8)))⟩], none⟩])
  (.cond (.var 9)
   (.seq (.reg [⟨[⟨[], 10, (.o1 (.iface 111) (.con (.int .i64 3)))⟩], some (.pst 1 (.upd (.cnt 1) 1 6 (.pad 1) (.con (.agg #[(.int .i64 0), (.int .i64 0), (.int .i64 0), (.int .i64 0), (.int .i64 0), (.int .i64 0)]))))⟩, ⟨[⟨[], 2, (.var 10)⟩], none⟩])
   .ret)
   .skip))
  (.seq (.reg [⟨[], some (.ef [] (.new 178) [(.con (.int .u64 0))] (some 3))⟩, ⟨[], some (.ef [] (.st 1) [(.var 3), (.con (.int .u64 0))] none)⟩])
  (.seq (.seq (.reg [⟨[⟨[], 11, (.o1 .slen (.var 0))⟩, ⟨[], 12, (.con (.int .i64 0))⟩], none⟩])
  (.block 0 (.loop (.seq (.reg [⟨[⟨[], 13, (.o2 (.bin .lss) (.var 12) (.var 11))⟩], none⟩])
    (.seq (.cond (.var 13)
     .skip
     (.exit 0))
    (.seq (.block 1 (.seq (.reg [⟨[⟨[], 4, (.var 12)⟩], none⟩])
     (.dreg (.eff false [] ⟨[], some (.ef [] (.st 1) [(.var 3), (.o2 (.bin .or) (.o2 (.bin .shl) (.o1 .ld (.var 3)) (.con (.int .u64 8))) (.o1 (.conv .u64) (.o2 .sidx (.var 0) (.var 4))))] none)⟩ (.done ⟨[], none⟩)))))
    (.reg [⟨[⟨[], 12, (.o2 (.bin .add) (.var 12) (.con (.int .i64 1)))⟩], none⟩])))))))
  (.seq (.reg [⟨[⟨[], 5, (.o2 .capp (.mkf 106) (.var 3))⟩], none⟩])
  (.seq (.reg [⟨[], some (.ef [] (.new 138) [(.con (.agg #[(.int .i64 0), (.int .i64 0), (.int .i64 0), (.int .i64 0), (.int .i64 0), (.int .i64 0)]))] (some 6))⟩])
  (.seq (.reg [⟨[], some (.ef [] .cal [(.var 5), (.con (.int .i64 24))] (some 14))⟩, ⟨[], some (.ef [] (.st 1) [(.o1 (.fadr 5) (.var 6)), (.var 14)] none)⟩])
  (.seq (.reg [⟨[], some (.ef [] (.call 107) [(.o1 (.conv .i64) (.o2 (.bin .and) (.o2 (.bin .shr) (.o1 .ld (.var 3)) (.con (.int .u64 26))) (.con (.int .u64 7))))] (some 15))⟩, ⟨[⟨[], 16, (.o1 (.ext 0) (.var 15))⟩, ⟨[], 17, (.o1 (.ext 1) (.var 15))⟩], some (.pnew 7 (.con (.agg #[(.int .i64 0), (.int .i64 0), (.int .i64 0), (.int .i64 0)])))⟩, ⟨[], some (.pst 7 (.upd (.cnt 7) 7 4 (.pad 7) (.var 16)))⟩, ⟨[⟨[], 8, (.var 17)⟩], none⟩])
  (.seq (.seq (.reg [⟨[⟨[], 18, (.o1 .not (.var 8))⟩], none⟩])
  (.cond (.var 18)
   (.seq (.reg [⟨[⟨[], 19, (.o1 (.iface 111) (.con (.int .i64 3)))⟩], some (.pst 1 (.upd (.cnt 1) 1 6 (.pad 1) (.con (.agg #[(.int .i64 0), (.int .i64 0), (.int .i64 0), (.int .i64 0), (.int .i64 0), (.int .i64 0)]))))⟩, ⟨[⟨[], 2, (.var 19)⟩], none⟩])
   .ret)
   .skip))
  (.seq (.dreg (.eff true [⟨[], 0, (.o1 .ld (.o1 (.fadr 0) (.pad 7)))⟩] ⟨[⟨[], 21, (.var 5)⟩, ⟨[], 22, (.o1 .ld (.o1 (.fadr 0) (.pad 7)))⟩, ⟨[], 24, (.var 5)⟩, ⟨[], 26, (.var 5)⟩, ⟨[], 28, (.var 5)⟩], some (.ef [] .cal [(.var 5), (.o1 .ld (.o1 (.fadr 2) (.pad 7)))] (some 20))⟩ (.eff false [] ⟨[⟨[], 31, (.o1 (.fadr 4) (.var 6))⟩], some (.ef [] .cal [(.var 21), (.var 22)] (some 23))⟩ (.eff false [] ⟨[], some (.ef [] .cal [(.var 24), (.con (.int .i64 3))] (some 25))⟩ (.eff false [] ⟨[], some (.ef [] .cal [(.var 26), (.con (.int .i64 3))] (some 27))⟩ (.eff false [] ⟨[], some (.ef [] .cal [(.var 28), (.con (.int .i64 8))] (some 29))⟩ (.eff false [] ⟨[⟨[], 30, (.o2 (.bin .sub) (.var 29) (.con (.int .i64 47)))⟩], some (.ef [] (.st 1) [(.var 31), (.var 20)] none)⟩ (.eff false [] ⟨[], some (.ef [] (.st 1) [(.o1 (.fadr 3) (.var 6)), (.var 23)] none)⟩ (.eff false [] ⟨[], some (.ef [] (.st 1) [(.o1 (.fadr 2) (.var 6)), (.var 25)] none)⟩ (.eff false [] ⟨[], some (.ef [] (.st 1) [(.o1 (.fadr 1) (.var 6)), (.var 27)] none)⟩ (.eff false [] ⟨[], some (.ef [] (.st 1) [(.o1 (.fadr 0) (.var 6)), (.var 30)] none)⟩ (.done ⟨[], none⟩))))))))))))
  (.seq (.seq (.reg [⟨[], some (.ef [] (.call 108) [(.o1 (.ldn 6) (.var 6))] (some 32))⟩, ⟨[⟨[], 33, (.o2 (.eqv .iface true) (.var 32) (.con .nilIface))⟩], none⟩])
  (.cond (.var 33)
   (.seq (.reg [⟨[⟨[], 34, (.o1 (.iface 111) (.con (.int .i64 3)))⟩], some (.pst 1 (.upd (.cnt 1) 1 6 (.pad 1) (.con (.agg #[(.int .i64 0), (.int .i64 0), (.int .i64 0), (.int .i64 0), (.int .i64 0), (.int .i64 0)]))))⟩, ⟨[⟨[], 2, (.var 34)⟩], none⟩])
   .ret)
   .skip))
  (.seq (.reg [⟨[], some (.pst 1 (.upd (.cnt 1) 1 6 (.pad 1) (.o1 (.ldn 6) (.var 6))))⟩, ⟨[⟨[], 2, (.con .nilIface)⟩], none⟩])
  .ret)))))))))))), [(.o1 (.ldn 6) (.pad 1)), (.var 2)]⟩
def F83 : SFun := ⟨1, 8, (.seq (.reg [⟨[⟨[], 1, (.con (.int .i64 0))⟩], none⟩])
  (.seq (.reg [⟨[], some (.ef [] (.call 110) [(.var 0)] (some 4))⟩, ⟨[⟨[], 5, (.o1 (.ext 0) (.var 4))⟩, ⟨[], 6, (.o1 (.ext 1) (.var 4))⟩], some (.pnew 2 (.con (.agg #[(.int .i64 0), (.int .i64 0), (.int .i64 0), (.int .i64 0), (.int .i64 0), (.int .i64 0)])))⟩, ⟨[], some (.pst 2 (.upd (.cnt 2) 2 6 (.pad 2) (.var 5)))⟩, ⟨[⟨[], 3, (.var 6)⟩], none⟩])
  (.seq (.seq (.reg [⟨[⟨[], 7, (.o1 .not (.var 3))⟩], none⟩])
  (.cond (.var 7)
   (.seq (.reg [⟨[⟨[], 1, (.con (.int .i64 0))⟩], none⟩])
   .ret)
   .skip))
  (.seq (.reg [⟨[⟨[], 1, (.o1 .ld (.o1 (.fadr 0) (.pad 2)))⟩], none⟩])
  .ret)))), [(.var 1)]⟩
def F85 : SFun := ⟨1, 9, (.seq (.reg [⟨[⟨[], 1, (.con (.string .empty))⟩], none⟩])
  (.seq (.reg [⟨[⟨[], 2, (.con (.string .empty))⟩], none⟩])
  (.seq (.reg [⟨[⟨[], 3, (.con (.string .empty))⟩], none⟩])
  (.seq (.seq (.reg [⟨[⟨[], 5, (.o2 (.bin .lss) (.var 0) (.con (.int .i64 0)))⟩], none⟩])
  (.cond (.var 5)
   (.reg [⟨[⟨[], 3, (.con (.string ⟨#[45]⟩))⟩], none⟩])
   .skip))
  (.block 0 (.loop (.block 1 (.seq (.reg [⟨[⟨[], 4, (.o2 (.bin .rem) (.var 0) (.con (.int .i64 10)))⟩], none⟩])
     (.seq (.seq (.reg [⟨[⟨[], 6, (.o2 (.bin .lss) (.var 4) (.con (.int .i64 0)))⟩], none⟩])
     (.cond (.var 6)
      (.reg [⟨[⟨[], 4, (.o1 .neg (.var 4))⟩], none⟩])
      .skip))
     (.seq (.reg [⟨[], some (.ef [] (.bsl 5 1) [(.o2 (.bput 0 1) (.con (.agg #[(.int .u8 0)])) (.o1 (.conv .u8) (.o2 (.bin .add) (.con (.int .i64 48)) (.var 4))))] (some 7))⟩, ⟨[⟨[], 2, (.o2 (.bin .add) (.o1 .b2s (.var 7)) (.var 2))⟩], none⟩])
     (.seq (.reg [⟨[⟨[], 0, (.o2 (.bin .quo) (.var 0) (.con (.int .i64 10)))⟩], none⟩])
     (.seq (.reg [⟨[⟨[], 8, (.o2 (.bin .eql) (.var 0) (.con (.int .i64 0)))⟩], none⟩])
     (.cond (.var 8)
      (.seq (.reg [⟨[⟨[], 1, (.o2 (.bin .add) (.var 3) (.var 2))⟩], none⟩])
      .ret)
      .skip))))))))))))), [(.var 1)]⟩
def F86 : SFun := ⟨3, 14, (.seq (.reg [⟨[⟨[], 3, (.con (.int .i64 0))⟩], none⟩])
  (.seq (.reg [⟨[⟨[], 4, (.con (.int .i64 (-1)))⟩], none⟩])
  (.seq (.reg [⟨[⟨[], 5, (.con (.int .i64 0))⟩], none⟩])
  (.seq (.reg [⟨[⟨[], 6, (.con (.int .i64 0))⟩], none⟩])
  (.seq (.seq (.reg [⟨[⟨[], 7, (.con (.int .i64 7))⟩], none⟩])
  (.block 0 (.loop (.seq (.seq (.reg [⟨[⟨[], 10, (.o2 (.bin .geq) (.var 7) (.con (.int .i64 0)))⟩], none⟩])
    (.cond (.var 10)
     .skip
     (.exit 0)))
    (.seq (.block 1 (.seq (.reg [⟨[], some (.ef [] (.call 111) [(.var 0), (.var 1), (.var 7), (.var 2)] (some 11))⟩, ⟨[⟨[], 8, (.o1 (.ext 0) (.var 11))⟩, ⟨[], 9, (.o1 (.ext 1) (.var 11))⟩], none⟩])
     (.seq (.seq (.reg [⟨[⟨[], 12, (.o2 (.bin .lss) (.var 8) (.o1 .ld (.o1 (.fadr 1) (.o1 .nilck (.var 0)))))⟩], none⟩])
     (.cond (.var 12)
      (.exit 1)
      .skip))
     (.seq (.reg [⟨[⟨[], 13, (.pick (.pick (.o2 (.bin .lss) (.var 4) (.con (.int .i64 0))) (.con (.bool true)) (.o2 (.bin .gtr) (.var 8) (.var 5))) (.con (.bool true)) (.pick (.o2 (.bin .eql) (.var 8) (.var 5)) (.o2 (.bin .geq) (.var 9) (.var 6)) (.con (.bool false))))⟩], none⟩])
     (.cond (.var 13)
      (.seq (.reg [⟨[⟨[], 4, (.var 7)⟩], none⟩])
      (.seq (.reg [⟨[⟨[], 5, (.var 8)⟩], none⟩])
      (.reg [⟨[⟨[], 6, (.var 9)⟩], none⟩])))
      .skip)))))
    (.reg [⟨[⟨[], 7, (.o2 (.bin .sub) (.var 7) (.con (.int .i64 1)))⟩], none⟩]))))))
  (.seq (.reg [⟨[⟨[], 3, (.var 4)⟩], none⟩])
  .ret)))))), [(.var 3)]⟩
def F106 : SFun := ⟨2, 4, (.seq (.reg [⟨[⟨[], 2, (.con (.int .i64 0))⟩], none⟩])
  (.seq (.dreg (.done ⟨[⟨[], 3, (.o1 (.conv .i64) (.o2 (.bin .and) (.o1 .ld (.var 1)) (.o2 (.bin .sub) (.o2 (.bin .shl) (.con (.int .u64 1)) (.var 0)) (.con (.int .u64 1)))))⟩], none⟩))
  (.seq (.reg [⟨[], some (.ef [] (.st 1) [(.var 1), (.o2 (.bin .shr) (.o1 .ld (.var 1)) (.var 0))] none)⟩])
  (.seq (.reg [⟨[⟨[], 2, (.var 3)⟩], none⟩])
  .ret)))), [(.var 2)]⟩
def F107 : SFun := ⟨1, 6, (.seq (.reg [⟨[], some (.pnew 1 (.con (.agg #[(.int .i64 0), (.int .i64 0), (.int .i64 0), (.int .i64 0)])))⟩, ⟨[⟨[], 2, (.con (.bool false))⟩], none⟩])
  (.seq (.reg [⟨[⟨[], 4, (.o2 (.bput 20 4) (.o2 (.bput 16 4) (.o2 (.bput 12 4) (.o2 (.bput 8 4) (.o2 (.bput 4 4) (.o2 (.bput 0 4) (.con (.agg #[(.int .i64 0), (.int .i64 0), (.int .i64 0), (.int .i64 0), (.int .i64 0), (.int .i64 0), (.int .i64 0), (.int .i64 0), (.int .i64 0), (.int .i64 0), (.int .i64 0), (.int .i64 0), (.int .i64 0), (.int .i64 0), (.int .i64 0), (.int .i64 0), (.int .i64 0), (.int .i64 0), (.int .i64 0), (.int .i64 0), (.int .i64 0), (.int .i64 0), (.int .i64 0), (.int .i64 0)])) (.o2 (.bput 3 1) (.o2 (.bput 2 1) (.o2 (.bput 1 1) (.o2 (.bput 0 1) (.con (.agg #[(.int .i64 0), (.int .i64 0), (.int .i64 0), (.int .i64 0)])) (.con (.int .i64 20))) (.con (.int .i64 6))) (.con (.int .i64 6))) (.con (.int .i64 1)))) (.o2 (.bput 3 1) (.o2 (.bput 2 1) (.o2 (.bput 1 1) (.o2 (.bput 0 1) (.con (.agg #[(.int .i64 0), (.int .i64 0), (.int .i64 0), (.int .i64 0)])) (.con (.int .i64 17))) (.con (.int .i64 5))) (.con (.int .i64 9))) (.con (.int .i64 2)))) (.o2 (.bput 3 1) (.o2 (.bput 2 1) (.o2 (.bput 1 1) (.o2 (.bput 0 1) (.con (.agg #[(.int .i64 0), (.int .i64 0), (.int .i64 0), (.int .i64 0)])) (.con (.int .i64 14))) (.con (.int .i64 4))) (.con (.int .i64 12))) (.con (.int .i64 3)))) (.o2 (.bput 3 1) (.o2 (.bput 2 1) (.o2 (.bput 1 1) (.o2 (.bput 0 1) (.con (.agg #[(.int .i64 0), (.int .i64 0), (.int .i64 0), (.int .i64 0)])) (.con (.int .i64 10))) (.con (.int .i64 3))) (.con (.int .i64 16))) (.con (.int .i64 4)))) (.o2 (.bput 3 1) (.o2 (.bput 2 1) (.o2 (.bput 1 1) (.o2 (.bput 0 1) (.con (.agg #[(.int .i64 0), (.int .i64 0), (.int .i64 0), (.int .i64 0)])) (.con (.int .i64 7))) (.con (.int .i64 2))) (.con (.int .i64 19))) (.con (.int .i64 5)))) (.o2 (.bput 3 1) (.o2 (.bput 2 1) (.o2 (.bput 1 1) (.o2 (.bput 0 1) (.con (.agg #[(.int .i64 0), (.int .i64 0), (.int .i64 0), (.int .i64 0)])) (.con (.int .i64 4))) (.con (.int .i64 1))) (.con (.int .i64 22))) (.con (.int .i64 6))))⟩], some (.ef [] (.new 202) [(.con (.agg #[(.int .i64 0), (.int .i64 0), (.int .i64 0), (.int .i64 0), (.int .i64 0), (.int .i64 0), (.int .i64 0), (.int .i64 0), (.int .i64 0), (.int .i64 0), (.int .i64 0), (.int .i64 0), (.int .i64 0), (.int .i64 0), (.int .i64 0), (.int .i64 0), (.int .i64 0), (.int .i64 0), (.int .i64 0), (.int .i64 0), (.int .i64 0), (.int .i64 0), (.int .i64 0), (.int .i64 0)]))] (some 3))⟩, ⟨[], some (.ef [] (.st 24) [(.var 3), (.var 4)] none)⟩])
  (.seq (.seq (.reg [⟨[⟨[], 5, (.pick (.o2 (.bin .lss) (.var 0) (.con (.int .i64 0))) (.con (.bool true)) (.o2 (.bin .geq) (.var 0) (.con (.int .i64 6))))⟩], none⟩])
  (.cond (.var 5)
   (.seq (.reg [⟨[], some (.pst 1 (.upd (.cnt 1) 1 4 (.pad 1) (.con (.agg #[(.int .i64 0), (.int .i64 0), (.int .i64 0), (.int .i64 0)]))))⟩, ⟨[⟨[], 2, (.con (.bool false))⟩], none⟩])
   .ret)
   .skip))
  (.seq (.reg [⟨[], some (.pst 1 (.upd (.cnt 1) 1 4 (.pad 1) (.o1 (.ldn 4) (.o2 (.aadr 6 4) (.var 3) (.var 0)))))⟩, ⟨[⟨[], 2, (.con (.bool true))⟩], none⟩])
  .ret)))), [(.o1 (.ldn 4) (.pad 1)), (.var 2)]⟩
def F108 : SFun := ⟨1, 16, (.seq (.reg [⟨[], some (.pnew 1 (.var 0))⟩, ⟨[⟨[], 2, (.con .nilIface)⟩], none⟩])
  (.seq (.seq (.reg [⟨[⟨[], 5, (.pick (.pick (.pick (.o2 (.bin .lss) (.o1 .ld (.o1 (.fadr 0) (.pad 1))) (.con (.int .i64 1))) (.con (.bool true)) (.o2 (.bin .gtr) (.o1 .ld (.o1 (.fadr 0) (.pad 1))) (.con (.int .i64 3)))) (.con (.bool true)) (.o2 (.bin .lss) (.o1 .ld (.o1 (.fadr 1) (.pad 1))) (.con (.int .i64 0)))) (.con (.bool true)) (.o2 (.bin .gtr) (.o1 .ld (.o1 (.fadr 1) (.pad 1))) (.con (.int .i64 7))))⟩], none⟩])
  (.cond (.var 5)
   (.seq (.reg [⟨[⟨[], 2, (.o1 (.iface 111) (.con (.int .i64 1)))⟩], none⟩])
   .ret)
   .skip))
  (.seq (.reg [⟨[], some (.ef [] (.call 107) [(.o1 .ld (.o1 (.fadr 2) (.pad 1)))] (some 6))⟩, ⟨[⟨[], 7, (.o1 (.ext 0) (.var 6))⟩, ⟨[], 8, (.o1 (.ext 1) (.var 6))⟩], some (.pnew 3 (.con (.agg #[(.int .i64 0), (.int .i64 0), (.int .i64 0), (.int .i64 0)])))⟩, ⟨[], some (.pst 3 (.upd (.cnt 3) 3 4 (.pad 3) (.var 7)))⟩, ⟨[⟨[], 4, (.var 8)⟩], none⟩])
  (.seq (.seq (.dreg (.eff true [⟨[((.pick (.o1 .not (.var 4)) (.con (.bool true)) (.o2 (.bin .lss) (.o1 .ld (.o1 (.fadr 3) (.pad 1))) (.con (.int .i64 0)))), false)], 0, (.o1 .ld (.o1 (.fadr 3) (.pad 1)))⟩] ⟨[⟨[], 9, (.pick (.o1 .not (.var 4)) (.con (.bool true)) (.o2 (.bin .lss) (.o1 .ld (.o1 (.fadr 3) (.pad 1))) (.con (.int .i64 0))))⟩, ⟨[((.pick (.o1 .not (.var 4)) (.con (.bool true)) (.o2 (.bin .lss) (.o1 .ld (.o1 (.fadr 3) (.pad 1))) (.con (.int .i64 0)))), false)], 10, (.o1 .ld (.o1 (.fadr 3) (.pad 1)))⟩], some (.ef [((.pick (.o1 .not (.var 4)) (.con (.bool true)) (.o2 (.bin .lss) (.o1 .ld (.o1 (.fadr 3) (.pad 1))) (.con (.int .i64 0)))), false)] (.call 117) [(.o1 .ld (.o1 (.fadr 1) (.pad 3)))] (some 11))⟩ (.eff true [⟨[((.pick (.pick (.var 9) (.con (.bool true)) (.o2 (.bin .geq) (.var 10) (.var 11))) (.con (.bool true)) (.o2 (.bin .lss) (.o1 .ld (.o1 (.fadr 4) (.pad 1))) (.con (.int .i64 0)))), false)], 0, (.o1 .ld (.o1 (.fadr 4) (.pad 1)))⟩] ⟨[⟨[], 12, (.pick (.pick (.var 9) (.con (.bool true)) (.o2 (.bin .geq) (.var 10) (.var 11))) (.con (.bool true)) (.o2 (.bin .lss) (.o1 .ld (.o1 (.fadr 4) (.pad 1))) (.con (.int .i64 0))))⟩, ⟨[((.pick (.pick (.var 9) (.con (.bool true)) (.o2 (.bin .geq) (.var 10) (.var 11))) (.con (.bool true)) (.o2 (.bin .lss) (.o1 .ld (.o1 (.fadr 4) (.pad 1))) (.con (.int .i64 0)))), false)], 13, (.o1 .ld (.o1 (.fadr 4) (.pad 1)))⟩], some (.ef [((.pick (.pick (.var 9) (.con (.bool true)) (.o2 (.bin .geq) (.var 10) (.var 11))) (.con (.bool true)) (.o2 (.bin .lss) (.o1 .ld (.o1 (.fadr 4) (.pad 1))) (.con (.int .i64 0)))), false)] (.call 117) [(.o1 .ld (.o1 (.fadr 3) (.pad 3)))] (some 14))⟩ (.done ⟨[⟨[], 15, (.pick (.pick (.pick (.var 12) (.con (.bool true)) (.o2 (.bin .geq) (.var 13) (.var 14))) (.con (.bool true)) (.o2 (.bin .lss) (.o1 .ld (.o1 (.fadr 5) (.pad 1))) (.con (.int .i64 0)))) (.con (.bool true)) (.o2 (.bin .geq) (.o1 .ld (.o1 (.fadr 5) (.pad 1))) (.con (.int .i64 16777216))))⟩], none⟩))))
  (.cond (.var 15)
   (.seq (.reg [⟨[⟨[], 2, (.o1 (.iface 111) (.con (.int .i64 1)))⟩], none⟩])
   .ret)
   .skip))
  (.seq (.reg [⟨[⟨[], 2, (.con .nilIface)⟩], none⟩])
  .ret))))), [(.var 2)]⟩
def F110 : SFun := ⟨1, 23, (.seq (.reg [⟨[], some (.ef [] (.new 9) [(.var 0)] (some 1))⟩, ⟨[], some (.pnew 2 (.con (.agg #[(.int .i64 0), (.int .i64 0), (.int .i64 0), (.int .i64 0), (.int .i64 0), (.int .i64 0)])))⟩, ⟨[⟨[], 3, (.con (.bool false))⟩], none⟩])
  (.seq (.seq (.reg [⟨[⟨[], 9, (.o2 (.bin .neq) (.o1 .slen (.o1 .ld (.var 1))) (.con (.int .i64 8)))⟩], none⟩])
  (.cond (.var 9)
   (.seq (.reg [⟨[], some (.pst 2 (.upd (.cnt 2) 2 6 (.pad 2) (.con (.agg #[(.int .i64 0), (.int .i64 0), (.int .i64 0), (.int .i64 0), (.int .i64 0), (.int .i64 0)]))))⟩, ⟨[⟨[], 3, (.con (.bool false))⟩], none⟩])
   .ret)
   .skip))
  (.seq (.reg [⟨[], some (.ef [] (.new 3) [(.con (.int .i64 0))] (some 4))⟩, ⟨[], some (.ef [] (.st 1) [(.var 4), (.con (.int .i64 0))] none)⟩])
  (.seq (.reg [⟨[⟨[], 5, (.o2 .capp (.o2 .capp (.mkf 127) (.var 1)) (.var 4))⟩], none⟩])
  (.seq (.reg [⟨[], some (.ef [] .cal [(.var 5), (.con (.int .i64 8))] (some 10))⟩, ⟨[⟨[], 11, (.o2 (.bput 0 1) (.con (.agg #[(.int .i64 0), (.int .i64 0), (.int .i64 0), (.int .i64 0), (.int .i64 0), (.int .i64 0)])) (.o2 (.bin .sub) (.var 10) (.con (.int .i64 47))))⟩], some (.pnew 6 (.con (.agg #[(.int .i64 0), (.int .i64 0), (.int .i64 0), (.int .i64 0), (.int .i64 0), (.int .i64 0)])))⟩, ⟨[], some (.pst 6 (.upd (.cnt 6) 6 6 (.pad 6) (.var 11)))⟩])
  (.seq (.reg [⟨[], some (.ef [] .cal [(.var 5), (.con (.int .i64 3))] (some 12))⟩, ⟨[], some (.pst 6 (.upd (.cnt 6) 6 1 (.o1 (.fadr 1) (.pad 6)) (.var 12)))⟩])
  (.seq (.reg [⟨[], some (.ef [] .cal [(.var 5), (.con (.int .i64 3))] (some 13))⟩, ⟨[], some (.pst 6 (.upd (.cnt 6) 6 1 (.o1 (.fadr 2) (.pad 6)) (.var 13)))⟩])
  (.seq (.reg [⟨[], some (.ef [] (.call 79) [(.o1 .ld (.o1 (.fadr 2) (.pad 6)))] (some 14))⟩, ⟨[⟨[], 15, (.o1 (.ext 0) (.var 14))⟩, ⟨[], 16, (.o1 (.ext 1) (.var 14))⟩], some (.ef [] (.new 162) [(.con (.agg #[(.int .i64 0), (.int .i64 0), (.int .i64 0), (.int .i64 0)]))] (some 7))⟩, ⟨[], some (.ef [] (.st 4) [(.var 7), (.var 15)] none)⟩, ⟨[⟨[], 8, (.var 16)⟩], none⟩])
  (.seq (.seq (.reg [⟨[⟨[], 17, (.o1 .not (.var 8))⟩], none⟩])
  (.cond (.var 17)
   (.seq (.reg [⟨[], some (.pst 2 (.upd (.cnt 2) 2 6 (.pad 2) (.con (.agg #[(.int .i64 0), (.int .i64 0), (.int .i64 0), (.int .i64 0), (.int .i64 0), (.int .i64 0)]))))⟩, ⟨[⟨[], 3, (.con (.bool false))⟩], none⟩])
   .ret)
   .skip))
  (.seq (.reg [⟨[], some (.ef [] .cal [(.var 5), (.o1 .ld (.o2 (.aadr 4 1) (.var 7) (.con (.int .i64 0))))] (some 18))⟩, ⟨[], some (.pst 6 (.upd (.cnt 6) 6 1 (.o1 (.fadr 3) (.pad 6)) (.var 18)))⟩])
  (.seq (.reg [⟨[], some (.ef [] .cal [(.var 5), (.o1 .ld (.o2 (.aadr 4 1) (.var 7) (.con (.int .i64 2))))] (some 19))⟩, ⟨[], some (.pst 6 (.upd (.cnt 6) 6 1 (.o1 (.fadr 4) (.pad 6)) (.var 19)))⟩])
  (.seq (.reg [⟨[], some (.ef [] .cal [(.var 5), (.con (.int .i64 24))] (some 20))⟩, ⟨[], some (.pst 6 (.upd (.cnt 6) 6 1 (.o1 (.fadr 5) (.pad 6)) (.var 20)))⟩])
  (.seq (.seq (.reg [⟨[], some (.ef [] (.call 128) [(.o1 (.ldn 6) (.pad 6))] (some 21))⟩, ⟨[⟨[], 22, (.o2 (.bin .gtr) (.var 21) (.con (.int .i64 0)))⟩], none⟩])
  (.cond (.var 22)
   (.seq (.reg [⟨[], some (.pst 2 (.upd (.cnt 2) 2 6 (.pad 2) (.con (.agg #[(.int .i64 0), (.int .i64 0), (.int .i64 0), (.int .i64 0), (.int .i64 0), (.int .i64 0)]))))⟩, ⟨[⟨[], 3, (.con (.bool false))⟩], none⟩])
   .ret)
   .skip))
  (.seq (.reg [⟨[], some (.pst 2 (.upd (.cnt 2) 2 6 (.pad 2) (.o1 (.ldn 6) (.pad 6))))⟩, ⟨[⟨[], 3, (.con (.bool true))⟩], none⟩])
  .ret)))))))))))))), [(.o1 (.ldn 6) (.pad 2)), (.var 3)]⟩
def F111 : SFun := ⟨4, 17, (.seq (.reg [⟨[⟨[], 4, (.con (.int .i64 0))⟩, ⟨[], 5, (.con (.int .i64 0))⟩], none⟩])
  (.seq (.reg [⟨[⟨[], 6, (.con (.int .i64 0))⟩], none⟩])
  (.seq (.reg [⟨[⟨[], 7, (.con (.int .i64 0))⟩], none⟩])
  (.seq (.seq (.reg [⟨[⟨[], 8, (.o2 .max (.con (.int .i64 0)) (.o2 (.bin .add) (.o2 (.bin .sub) (.var 3) (.o1 .ld (.o1 (.fadr 0) (.o1 .nilck (.var 0))))) (.con (.int .i64 1))))⟩], none⟩])
  (.block 0 (.loop (.seq (.seq (.reg [⟨[⟨[], 12, (.o2 (.bin .leq) (.var 8) (.var 3))⟩], none⟩])
    (.cond (.var 12)
     .skip
     (.exit 0)))
    (.seq (.block 1 (.seq (.reg [⟨[⟨[], 9, (.con (.bool false))⟩], none⟩])
     (.seq (.seq (.reg [⟨[⟨[], 10, (.con (.int .i64 0))⟩], none⟩])
     (.block 2 (.loop (.seq (.seq (.reg [⟨[⟨[], 13, (.o2 (.bin .lss) (.var 10) (.o1 .llen (.o1 .ld (.o2 (.iadr 1) (.o1 .ld (.o1 (.fadr 2) (.o1 .nilck (.var 0)))) (.var 8)))))⟩], none⟩])
       (.cond (.var 13)
        .skip
        (.exit 2)))
       (.seq (.block 3 (.seq (.reg [⟨[⟨[], 14, (.o1 (.ldn 4) (.o2 (.iadr 4) (.o1 .ld (.o2 (.iadr 1) (.o1 .ld (.o1 (.fadr 2) (.o1 .nilck (.var 0)))) (.var 8))) (.var 10)))⟩], some (.pnew 11 (.con (.agg #[(.int .i64 0), (.int .i64 0), (.int .i64 0), (.string .empty)])))⟩, ⟨[], some (.pst 11 (.upd (.cnt 11) 11 4 (.pad 11) (.var 14)))⟩])
        (.seq (.reg [⟨[⟨[], 15, (.pick (.o2 (.bin .eql) (.o1 .ld (.o1 (.fadr 3) (.pad 11))) (.var 1)) (.o2 (.bin .eql) (.o1 .ld (.o1 (.fadr 0) (.pad 11))) (.var 2)) (.con (.bool false)))⟩], none⟩])
        (.cond (.var 15)
         (.seq (.reg [⟨[⟨[], 9, (.con (.bool true))⟩], none⟩])
         (.reg [⟨[⟨[], 7, (.o2 (.bin .add) (.var 7) (.o1 .ld (.o1 (.fadr 1) (.pad 11))))⟩], none⟩]))
         .skip))))
       (.reg [⟨[⟨[], 10, (.o2 (.bin .add) (.var 10) (.con (.int .i64 1)))⟩], none⟩]))))))
     (.seq (.reg [⟨[⟨[], 16, (.var 9)⟩], none⟩])
     (.cond (.var 16)
      (.reg [⟨[⟨[], 6, (.o2 (.bin .add) (.var 6) (.con (.int .i64 1)))⟩], none⟩])
      .skip)))))
    (.reg [⟨[⟨[], 8, (.o2 (.bin .add) (.var 8) (.con (.int .i64 1)))⟩], none⟩]))))))
  (.seq (.reg [⟨[⟨[], 4, (.var 6)⟩, ⟨[], 5, (.var 7)⟩], none⟩])
  .ret))))), [(.var 4), (.var 5)]⟩
def F117 : SFun := ⟨1, 6, (.seq (.reg [⟨[⟨[], 1, (.con (.int .i64 0))⟩], none⟩])
  (.seq (.reg [⟨[⟨[], 2, (.con (.int .i64 1))⟩], none⟩])
  (.seq (.seq (.reg [⟨[⟨[], 3, (.var 0)⟩, ⟨[], 4, (.con (.int .i64 0))⟩], none⟩])
  (.block 0 (.loop (.seq (.reg [⟨[⟨[], 5, (.o2 (.bin .lss) (.var 4) (.var 3))⟩], none⟩])
    (.seq (.cond (.var 5)
     .skip
     (.exit 0))
    (.seq (.block 1 (.reg [⟨[⟨[], 2, (.o2 (.bin .mul) (.var 2) (.con (.int .i64 10)))⟩], none⟩]))
    (.reg [⟨[⟨[], 4, (.o2 (.bin .add) (.var 4) (.con (.int .i64 1)))⟩], none⟩])))))))
  (.seq (.reg [⟨[⟨[], 1, (.var 2)⟩], none⟩])
  .ret)))), [(.var 1)]⟩
def F127 : SFun := ⟨3, 7, (.seq (.reg [⟨[⟨[], 3, (.con (.int .i64 0))⟩], none⟩])
  (.seq (.reg [⟨[⟨[], 4, (.con (.int .i64 0))⟩], none⟩])
  (.seq (.seq (.reg [⟨[⟨[], 5, (.con (.int .i64 0))⟩], none⟩])
  (.block 0 (.loop (.seq (.seq (.reg [⟨[⟨[], 6, (.o2 (.bin .lss) (.var 5) (.var 0))⟩], none⟩])
    (.cond (.var 6)
     .skip
     (.exit 0)))
    (.seq (.block 1 (.seq (.dreg (.done ⟨[⟨[], 4, (.o2 (.bin .add) (.o2 (.bin .mul) (.con (.int .i64 2)) (.var 4)) (.o1 (.conv .i64) (.o2 (.bin .and) (.o2 (.bin .shr) (.o2 .sidx (.o1 .ld (.var 1)) (.o2 (.bin .quo) (.o1 .ld (.var 2)) (.con (.int .i64 8)))) (.o2 (.bin .sub) (.con (.int .i64 7)) (.o2 (.bin .rem) (.o1 .ld (.var 2)) (.con (.int .i64 8))))) (.con (.int .u8 1)))))⟩], none⟩))
     (.reg [⟨[], some (.ef [] (.st 1) [(.var 2), (.o2 (.bin .add) (.o1 .ld (.var 2)) (.con (.int .i64 1)))] none)⟩])))
    (.reg [⟨[⟨[], 5, (.o2 (.bin .add) (.var 5) (.con (.int .i64 1)))⟩], none⟩]))))))
  (.seq (.reg [⟨[⟨[], 3, (.var 4)⟩], none⟩])
  .ret)))), [(.var 3)]⟩
def F128 : SFun := ⟨1, 16, (.seq (.reg [⟨[], some (.pnew 1 (.var 0))⟩, ⟨[⟨[], 2, (.con (.int .i64 0))⟩], none⟩])
  (.seq (.reg [⟨[], some (.ef [] (.call 79) [(.o1 .ld (.o1 (.fadr 2) (.pad 1)))] (some 5))⟩, ⟨[⟨[], 6, (.o1 (.ext 0) (.var 5))⟩, ⟨[], 7, (.o1 (.ext 1) (.var 5))⟩], some (.ef [] (.new 162) [(.con (.agg #[(.int .i64 0), (.int .i64 0), (.int .i64 0), (.int .i64 0)]))] (some 3))⟩, ⟨[], some (.ef [] (.st 4) [(.var 3), (.var 6)] none)⟩, ⟨[⟨[], 4, (.var 7)⟩], none⟩])
  (.seq (.seq (.reg [⟨[⟨[], 8, (.pick (.pick (.pick (.pick (.pick (.pick (.o1 .not (.var 4)) (.con (.bool true)) (.o2 (.bin .lss) (.o1 .ld (.o1 (.fadr 0) (.pad 1))) (.con (.int .i64 1)))) (.con (.bool true)) (.o2 (.bin .gtr) (.o1 .ld (.o1 (.fadr 0) (.pad 1))) (.con (.int .i64 3)))) (.con (.bool true)) (.o2 (.bin .lss) (.o1 .ld (.o1 (.fadr 1) (.pad 1))) (.con (.int .i64 0)))) (.con (.bool true)) (.o2 (.bin .gtr) (.o1 .ld (.o1 (.fadr 1) (.pad 1))) (.con (.int .i64 7)))) (.con (.bool true)) (.o2 (.bin .lss) (.o1 .ld (.o1 (.fadr 5) (.pad 1))) (.con (.int .i64 0)))) (.con (.bool true)) (.o2 (.bin .gtr) (.o1 .ld (.o1 (.fadr 5) (.pad 1))) (.con (.int .i64 16777215))))⟩], none⟩])
  (.cond (.var 8)
   (.seq (.reg [⟨[⟨[], 2, (.con (.int .i64 1))⟩], none⟩])
   .ret)
   .skip))
  (.seq (.seq (.dreg (.eff true [⟨[((.o2 (.bin .lss) (.o1 .ld (.o1 (.fadr 3) (.pad 1))) (.con (.int .i64 0))), false)], 0, (.o1 .ld (.o2 (.aadr 4 1) (.var 3) (.con (.int .i64 1))))⟩] ⟨[⟨[], 9, (.o2 (.bin .lss) (.o1 .ld (.o1 (.fadr 3) (.pad 1))) (.con (.int .i64 0)))⟩, ⟨[((.o2 (.bin .lss) (.o1 .ld (.o1 (.fadr 3) (.pad 1))) (.con (.int .i64 0))), false)], 11, (.o1 .ld (.o2 (.aadr 4 1) (.var 3) (.con (.int .i64 1))))⟩], some (.ef [((.o2 (.bin .lss) (.o1 .ld (.o1 (.fadr 3) (.pad 1))) (.con (.int .i64 0))), false)] (.call 85) [(.o1 .ld (.o1 (.fadr 3) (.pad 1)))] (some 10))⟩ (.eff true [⟨[((.pick (.pick (.var 9) (.con (.bool true)) (.o2 (.bin .gtr) (.o1 .slen (.var 10)) (.var 11))) (.con (.bool true)) (.o2 (.bin .lss) (.o1 .ld (.o1 (.fadr 4) (.pad 1))) (.con (.int .i64 0)))), false)], 0, (.o1 .ld (.o2 (.aadr 4 1) (.var 3) (.con (.int .i64 3))))⟩] ⟨[⟨[], 12, (.pick (.pick (.var 9) (.con (.bool true)) (.o2 (.bin .gtr) (.o1 .slen (.var 10)) (.var 11))) (.con (.bool true)) (.o2 (.bin .lss) (.o1 .ld (.o1 (.fadr 4) (.pad 1))) (.con (.int .i64 0))))⟩, ⟨[((.pick (.pick (.var 9) (.con (.bool true)) (.o2 (.bin .gtr) (.o1 .slen (.var 10)) (.var 11))) (.con (.bool true)) (.o2 (.bin .lss) (.o1 .ld (.o1 (.fadr 4) (.pad 1))) (.con (.int .i64 0)))), false)], 14, (.o1 .ld (.o2 (.aadr 4 1) (.var 3) (.con (.int .i64 3))))⟩], some (.ef [((.pick (.pick (.var 9) (.con (.bool true)) (.o2 (.bin .gtr) (.o1 .slen (.var 10)) (.var 11))) (.con (.bool true)) (.o2 (.bin .lss) (.o1 .ld (.o1 (.fadr 4) (.pad 1))) (.con (.int .i64 0)))), false)] (.call 85) [(.o1 .ld (.o1 (.fadr 4) (.pad 1)))] (some 13))⟩ (.done ⟨[⟨[], 15, (.pick (.var 12) (.con (.bool true)) (.o2 (.bin .gtr) (.o1 .slen (.var 13)) (.var 14)))⟩], none⟩))))
  (.cond (.var 15)
   (.seq (.reg [⟨[⟨[], 2, (.con (.int .i64 1))⟩], none⟩])
   .ret)
   .skip))
  (.seq (.reg [⟨[⟨[], 2, (.con (.int .i64 0))⟩], none⟩])
  .ret))))), [(.var 2)]⟩
def F159 : SFun := ⟨5, 64, (.seq (.reg [⟨[], some (.pnew 5 (.var 0))⟩, ⟨[⟨[], 6, (.con (.bool false))⟩], none⟩])
  (.seq (.reg [⟨[], some (.ef [] (.call 167) [] (some 20))⟩, ⟨[⟨[], 7, (.var 20)⟩], none⟩])
  (.seq (.seq (.reg [⟨[⟨[], 21, (.o1 .not (.var 7))⟩], some (.ef [((.o1 .not (.var 7)), false)] (.call 12) [(.var 4)] (some 22))⟩, ⟨[⟨[], 23, (.pick (.pick (.pick (.var 21) (.con (.bool true)) (.o1 .not (.var 22))) (.con (.bool true)) (.o2 (.bin .gtr) (.o1 .slen (.var 1)) (.con (.int .i64 200)))) (.con (.bool true)) (.o2 (.bin .gtr) (.o1 .slen (.o1 .ld (.o1 (.fadr 0) (.pad 5)))) (.con (.int .i64 100))))⟩], none⟩])
  (.cond (.var 23)
   (.seq (.reg [⟨[⟨[], 6, (.var 7)⟩], none⟩])
   .ret)
   .skip))
  (.seq (.reg [⟨[], some (.ef [] (.call 168) [(.o1 (.ldn 6) (.pad 5))] (some 24))⟩, ⟨[⟨[], 8, (.var 24)⟩], none⟩])
  (.seq (.reg [⟨[], some (.ef [] (.call 169) [(.o1 (.ldn 6) (.pad 5))] (some 25))⟩, ⟨[⟨[], 9, (.o1 (.ext 0) (.var 25))⟩, ⟨[], 10, (.o1 (.ext 1) (.var 25))⟩], none⟩])
  (.seq (.seq (.reg [⟨[], some (.ef [] (.call 170) [(.o1 (.ldn 6) (.pad 5))] (some 26))⟩, ⟨[], some (.ef [] (.call 19) [(.var 26), (.var 8)] (some 27))⟩, ⟨[⟨[], 28, (.o1 .not (.var 27))⟩], some (.ef [((.o1 .not (.var 27)), false)] (.call 19) [(.var 10), (.var 8)] (some 29))⟩, ⟨[⟨[], 30, (.pick (.pick (.var 28) (.con (.bool true)) (.o1 .not (.var 29))) (.con (.bool true)) (.pick (.o2 (.bin .gtr) (.var 8) (.con (.int .i64 0))) (.o2 (.bin .neq) (.var 9) (.con (.string .empty))) (.con (.bool false))))⟩, ⟨[((.pick (.pick (.var 28) (.con (.bool true)) (.o1 .not (.var 29))) (.con (.bool true)) (.pick (.o2 (.bin .gtr) (.var 8) (.con (.int .i64 0))) (.o2 (.bin .neq) (.var 9) (.con (.string .empty))) (.con (.bool false)))), false)], 31, (.o2 (.bin .eql) (.var 8) (.con (.int .i64 0)))⟩, ⟨[((.pick (.pick (.var 28) (.con (.bool true)) (.o1 .not (.var 29))) (.con (.bool true)) (.pick (.o2 (.bin .gtr) (.var 8) (.con (.int .i64 0))) (.o2 (.bin .neq) (.var 9) (.con (.string .empty))) (.con (.bool false)))), false), ((.o2 (.bin .eql) (.var 8) (.con (.int .i64 0))), true)], 32, (.var 9)⟩], some (.ef [((.pick (.pick (.var 28) (.con (.bool true)) (.o1 .not (.var 29))) (.con (.bool true)) (.pick (.o2 (.bin .gtr) (.var 8) (.con (.int .i64 0))) (.o2 (.bin .neq) (.var 9) (.con (.string .empty))) (.con (.bool false)))), false), ((.o2 (.bin .eql) (.var 8) (.con (.int .i64 0))), true)] (.call 171) [(.o1 (.ldn 6) (.pad 5))] (some 33))⟩, ⟨[⟨[], 34, (.pick (.var 30) (.con (.bool true)) (.pick (.var 31) (.o2 (.bin .neq) (.var 32) (.var 33)) (.con (.bool false))))⟩, ⟨[((.var 31), true)], 62, (.o2 (.bin .neq) (.var 32) (.var 33))⟩], none⟩])
  (.cond (.var 34)
   (.seq (.reg [⟨[⟨[], 6, (.con (.bool false))⟩], none⟩])
   .ret)
   .skip))
  (.seq (.reg [⟨[], some (.ef [] (.call 172) [(.var 1)] (some 35))⟩, ⟨[⟨[], 36, (.o1 (.ext 0) (.var 35))⟩, ⟨[], 37, (.o1 (.ext 1) (.var 35))⟩], some (.pnew 11 (.con (.agg #[(.string .empty), (.int .i64 0), (.int .i64 0), (.int .i64 0), (.int .i64 0), (.int .i64 0)])))⟩, ⟨[], some (.pst 11 (.upd (.cnt 11) 11 6 (.pad 11) (.var 36)))⟩, ⟨[⟨[], 10, (.var 37)⟩], none⟩])
  (.seq (.reg [⟨[], some (.ef [] (.call 173) [(.var 1)] (some 38))⟩, ⟨[⟨[], 39, (.o1 (.ext 0) (.var 38))⟩, ⟨[], 40, (.o1 (.ext 1) (.var 38))⟩], some (.pnew 12 (.con (.agg #[(.string .empty), (.int .i64 0), (.int .i64 0), (.int .i64 0), (.int .i64 0), (.int .i64 0)])))⟩, ⟨[], some (.pst 12 (.upd (.cnt 12) 12 6 (.pad 12) (.var 39)))⟩, ⟨[⟨[], 13, (.var 40)⟩], none⟩])
  (.seq (.seq (.reg [⟨[⟨[], 41, (.o2 (.eqv (.flat [.str, .int, .int, .int, .int, .int]) true) (.o1 (.ldn 6) (.pad 11)) (.o1 (.ldn 6) (.pad 12)))⟩, ⟨[((.o2 (.eqv (.flat [.str, .int, .int, .int, .int, .int]) true) (.o1 (.ldn 6) (.pad 11)) (.o1 (.ldn 6) (.pad 12))), false)], 42, (.var 13)⟩], some (.ef [((.o2 (.eqv (.flat [.str, .int, .int, .int, .int, .int]) true) (.o1 (.ldn 6) (.pad 11)) (.o1 (.ldn 6) (.pad 12))), false)] (.call 19) [(.var 10), (.con (.int .i64 0))] (some 43))⟩, ⟨[⟨[], 44, (.pick (.var 41) (.con (.bool true)) (.o2 (.eqv .bool true) (.var 42) (.var 43)))⟩, ⟨[((.pick (.var 41) (.con (.bool true)) (.o2 (.eqv .bool true) (.var 42) (.var 43))), false)], 45, (.o1 .not (.var 13))⟩], some (.ef [((.pick (.var 41) (.con (.bool true)) (.o2 (.eqv .bool true) (.var 42) (.var 43))), false), ((.o1 .not (.var 13)), true)] (.call 19) [(.var 10), (.con (.int .i64 4))] (some 46))⟩, ⟨[⟨[], 47, (.pick (.var 44) (.con (.bool true)) (.pick (.var 45) (.o1 .not (.var 46)) (.con (.bool false))))⟩, ⟨[((.var 45), true)], 63, (.o1 .not (.var 46))⟩], none⟩])
  (.cond (.var 47)
   (.seq (.reg [⟨[⟨[], 6, (.con (.bool false))⟩], none⟩])
   .ret)
   .skip))
  (.seq (.reg [⟨[], some (.ef [] (.call 13) [(.var 2), (.var 3), (.var 4)] (some 48))⟩, ⟨[⟨[], 7, (.o1 (.ext 3) (.var 48))⟩, ⟨[], 14, (.o1 (.ext 0) (.var 48))⟩, ⟨[], 15, (.o1 (.ext 1) (.var 48))⟩, ⟨[], 16, (.o1 (.ext 2) (.var 48))⟩], none⟩])
  (.seq (.seq (.reg [⟨[⟨[], 49, (.pick (.var 16) (.con (.bool true)) (.o1 .not (.var 7)))⟩], none⟩])
  (.cond (.var 49)
   (.seq (.reg [⟨[⟨[], 6, (.var 7)⟩], none⟩])
   .ret)
   .skip))
  (.seq (.reg [⟨[], some (.ef [] (.call 14) [(.var 15), (.o1 .llen (.o1 .ld (.o1 (.fadr 2) (.o1 .nilck (.var 15)))))] (some 50))⟩, ⟨[], some (.ef [] (.bsl 9 1) [(.o2 (.bput 0 1) (.con (.agg #[(.string .empty)])) (.con (.string ⟨#[120]⟩)))] (some 51))⟩, ⟨[], some (.ef [] (.app 9 1 16) [(.var 50), (.var 51)] (some 52))⟩, ⟨[⟨[], 17, (.var 52)⟩], none⟩])
  (.seq (.seq (.reg [⟨[⟨[], 18, (.con (.int .i64 0))⟩], none⟩])
  (.block 0 (.loop (.seq (.seq (.reg [⟨[⟨[], 53, (.o2 (.bin .lss) (.var 18) (.o1 .llen (.var 17)))⟩], none⟩])
    (.cond (.var 53)
     .skip
     (.exit 0)))
    (.seq (.block 1 (.seq (.reg [⟨[⟨[], 19, (.con (.int .i64 (-1)))⟩], none⟩])
     (.block 2 (.loop (.seq (.seq (.reg [⟨[⟨[], 54, (.o2 (.bin .leq) (.var 19) (.o1 .llen (.o1 .ld (.o1 (.fadr 2) (.o1 .nilck (.var 15))))))⟩], none⟩])
       (.cond (.var 54)
        .skip
        (.exit 2)))
       (.seq (.block 3 (.seq (.dreg (.eff true [⟨[], 0, (.o1 (.ldn 6) (.pad 5))⟩, ⟨[], 0, (.o1 .ld (.o2 (.iadr 1) (.var 17) (.var 18)))⟩] ⟨[⟨[], 56, (.var 15)⟩, ⟨[], 57, (.o1 (.ldn 6) (.pad 5))⟩, ⟨[], 58, (.o1 .ld (.o2 (.iadr 1) (.var 17) (.var 18)))⟩, ⟨[], 59, (.var 19)⟩], some (.ef [] (.call 174) [(.var 14), (.o1 (.ldn 6) (.pad 5)), (.o1 .ld (.o2 (.iadr 1) (.var 17) (.var 18))), (.var 19)] (some 55))⟩ (.eff false [] ⟨[], some (.ef [] (.call 175) [(.var 56), (.var 57), (.var 58), (.var 59)] (some 60))⟩ (.done ⟨[⟨[], 61, (.o2 (.eqv .bool true) (.var 55) (.var 60))⟩], none⟩))))
        (.cond (.var 61)
         (.seq (.reg [⟨[⟨[], 6, (.con (.bool false))⟩], none⟩])
         .ret)
         .skip)))
       (.reg [⟨[⟨[], 19, (.o2 (.bin .add) (.var 19) (.con (.int .i64 1)))⟩], none⟩])))))))
    (.reg [⟨[⟨[], 18, (.o2 (.bin .add) (.var 18) (.con (.int .i64 1)))⟩], none⟩]))))))
  (.seq (.reg [⟨[⟨[], 6, (.con (.bool true))⟩], none⟩])
  .ret)))))))))))))), [(.var 6)]⟩
def F167 : SFun := ⟨0, 5, (.seq (.reg [⟨[⟨[], 0, (.con (.bool false))⟩], none⟩])
  (.seq (.reg [⟨[], some (.ef [] (.call 169) [(.o2 (.bput 5 1) (.o2 (.bput 4 1) (.o2 (.bput 3 1) (.o2 (.bput 2 1) (.o2 (.bput 0 1) (.con (.agg #[(.string .empty), (.int .i64 0), (.int .i64 0), (.int .i64 0), (.int .i64 0), (.int .i64 0)])) (.con (.string ⟨#[101, 120, 105, 116]⟩))) (.con (.int .i64 1))) (.con (.int .i64 2))) (.con (.int .i64 (-1)))) (.con (.int .i64 5)))] (some 3))⟩, ⟨[⟨[], 1, (.o1 (.ext 0) (.var 3))⟩, ⟨[], 2, (.o1 (.ext 1) (.var 3))⟩], none⟩])
  (.seq (.reg [⟨[], some (.ef [] (.call 19) [(.var 2), (.con (.int .i64 0))] (some 4))⟩, ⟨[⟨[], 0, (.pick (.var 4) (.o2 (.bin .eql) (.var 1) (.con (.string ⟨#[101, 120, 105, 116, 58, 32, 97, 110, 121, 32, 49, 32, 116, 104, 101, 110, 32, 50, 32, 119, 105, 116, 104, 105, 110, 32, 53]⟩))) (.con (.bool false)))⟩], none⟩])
  .ret))), [(.var 0)]⟩
def F168 : SFun := ⟨1, 9, (.seq (.reg [⟨[], some (.pnew 1 (.var 0))⟩, ⟨[⟨[], 2, (.con (.int .i64 0))⟩], none⟩])
  (.seq (.seq (.reg [⟨[⟨[], 4, (.pick (.o2 (.bin .lss) (.o1 .slen (.o1 .ld (.o1 (.fadr 0) (.pad 1)))) (.con (.int .i64 1))) (.con (.bool true)) (.o2 (.bin .gtr) (.o1 .slen (.o1 .ld (.o1 (.fadr 0) (.pad 1)))) (.con (.int .i64 12))))⟩], none⟩])
  (.cond (.var 4)
   (.seq (.reg [⟨[⟨[], 2, (.con (.int .i64 4))⟩], none⟩])
   .ret)
   .skip))
  (.seq (.seq (.reg [⟨[⟨[], 3, (.con (.int .i64 0))⟩], none⟩])
  (.block 0 (.loop (.seq (.seq (.reg [⟨[⟨[], 5, (.o2 (.bin .lss) (.var 3) (.o1 .slen (.o1 .ld (.o1 (.fadr 0) (.pad 1)))))⟩], none⟩])
    (.cond (.var 5)
     .skip
     (.exit 0)))
    (.seq (.block 1 (.seq (.reg [⟨[⟨[], 6, (.pick (.o2 (.bin .lss) (.o2 .sidx (.o1 .ld (.o1 (.fadr 0) (.pad 1))) (.var 3)) (.con (.int .u8 97))) (.con (.bool true)) (.o2 (.bin .gtr) (.o2 .sidx (.o1 .ld (.o1 (.fadr 0) (.pad 1))) (.var 3)) (.con (.int .u8 122))))⟩], none⟩])
     (.cond (.var 6)
      (.seq (.reg [⟨[⟨[], 2, (.con (.int .i64 4))⟩], none⟩])
      .ret)
      .skip)))
    (.reg [⟨[⟨[], 3, (.o2 (.bin .add) (.var 3) (.con (.int .i64 1)))⟩], none⟩]))))))
  (.seq (.seq (.reg [⟨[⟨[], 7, (.pick (.pick (.pick (.pick (.pick (.pick (.pick (.pick (.pick (.o2 (.bin .lss) (.o1 .ld (.o1 (.fadr 1) (.pad 1))) (.con (.int .i64 0))) (.con (.bool true)) (.o2 (.bin .gtr) (.o1 .ld (.o1 (.fadr 1) (.pad 1))) (.con (.int .i64 3)))) (.con (.bool true)) (.o2 (.bin .lss) (.o1 .ld (.o1 (.fadr 2) (.pad 1))) (.con (.int .i64 0)))) (.con (.bool true)) (.o2 (.bin .gtr) (.o1 .ld (.o1 (.fadr 2) (.pad 1))) (.con (.int .i64 7)))) (.con (.bool true)) (.o2 (.bin .lss) (.o1 .ld (.o1 (.fadr 3) (.pad 1))) (.con (.int .i64 0)))) (.con (.bool true)) (.o2 (.bin .gtr) (.o1 .ld (.o1 (.fadr 3) (.pad 1))) (.con (.int .i64 7)))) (.con (.bool true)) (.o2 (.bin .lss) (.o1 .ld (.o1 (.fadr 4) (.pad 1))) (.con (.int .i64 (-1))))) (.con (.bool true)) (.o2 (.bin .gtr) (.o1 .ld (.o1 (.fadr 4) (.pad 1))) (.con (.int .i64 7)))) (.con (.bool true)) (.o2 (.bin .lss) (.o1 .ld (.o1 (.fadr 5) (.pad 1))) (.con (.int .i64 1)))) (.con (.bool true)) (.o2 (.bin .gtr) (.o1 .ld (.o1 (.fadr 5) (.pad 1))) (.con (.int .i64 50))))⟩], none⟩])
  (.cond (.var 7)
   (.seq (.reg [⟨[⟨[], 2, (.con (.int .i64 1))⟩], none⟩])
   .ret)
   .skip))
  (.seq (.seq (.reg [⟨[⟨[], 8, (.pick (.pick (.o2 (.bin .eql) (.o1 .ld (.o1 (.fadr 2) (.pad 1))) (.o1 .ld (.o1 (.fadr 3) (.pad 1)))) (.con (.bool true)) (.o2 (.bin .eql) (.o1 .ld (.o1 (.fadr 2) (.pad 1))) (.o1 .ld (.o1 (.fadr 4) (.pad 1))))) (.con (.bool true)) (.o2 (.bin .eql) (.o1 .ld (.o1 (.fadr 3) (.pad 1))) (.o1 .ld (.o1 (.fadr 4) (.pad 1)))))⟩], none⟩])
  (.cond (.var 8)
   (.seq (.reg [⟨[⟨[], 2, (.con (.int .i64 3))⟩], none⟩])
   .ret)
   .skip))
  (.seq (.reg [⟨[⟨[], 2, (.con (.int .i64 0))⟩], none⟩])
  .ret)))))), [(.var 2)]⟩
def F169 : SFun := ⟨1, 22, (.seq (.reg [⟨[], some (.pnew 1 (.var 0))⟩, ⟨[⟨[], 2, (.con (.string .empty))⟩, ⟨[], 3, (.con .nilIface)⟩], none⟩])
  (.seq (.reg [⟨[], some (.ef [] (.call 170) [(.o1 (.ldn 6) (.pad 1))] (some 6))⟩, ⟨[⟨[], 4, (.var 6)⟩], none⟩])
  (.seq (.seq (.reg [⟨[⟨[], 7, (.o2 (.eqv .iface true) (.var 4) (.con .nilIface))⟩], none⟩])
  (.cond (.var 7)
   (.seq (.reg [⟨[⟨[], 2, (.con (.string .empty))⟩, ⟨[], 3, (.var 4)⟩], none⟩])
   .ret)
   .skip))
  (.seq (.dreg (.eff true [⟨[], 0, (.o1 .ld (.o1 (.fadr 0) (.pad 1)))⟩, ⟨[], 0, (.o1 .ld (.o1 (.fadr 1) (.pad 1)))⟩, ⟨[], 0, (.o1 .ld (.o1 (.fadr 2) (.pad 1)))⟩, ⟨[], 0, (.o1 .ld (.o1 (.fadr 3) (.pad 1)))⟩] ⟨[⟨[], 8, (.o2 (.bin .add) (.o1 .ld (.o1 (.fadr 0) (.pad 1))) (.con (.string ⟨#[58, 32]⟩)))⟩, ⟨[], 10, (.o1 .ld (.o1 (.fadr 1) (.pad 1)))⟩, ⟨[], 12, (.o1 .ld (.o1 (.fadr 2) (.pad 1)))⟩, ⟨[], 15, (.o1 .ld (.o1 (.fadr 3) (.pad 1)))⟩], some (.ef [] (.call 185) [] (some 9))⟩ (.eff true [] ⟨[⟨[], 11, (.o2 (.bin .add) (.o2 (.bin .add) (.var 8) (.o2 (.vidx 4) (.var 9) (.var 10))) (.con (.string ⟨#[32]⟩)))⟩], some (.ef [] (.call 176) [(.var 12)] (some 13))⟩ (.eff true [] ⟨[⟨[], 14, (.o2 (.bin .add) (.o2 (.bin .add) (.var 11) (.var 13)) (.con (.string ⟨#[32, 116, 104, 101, 110, 32]⟩)))⟩], some (.ef [] (.call 176) [(.var 15)] (some 16))⟩ (.done ⟨[⟨[], 5, (.o2 (.bin .add) (.var 14) (.var 16))⟩], none⟩)))))
  (.seq (.seq (.reg [⟨[⟨[], 17, (.o2 (.bin .geq) (.o1 .ld (.o1 (.fadr 4) (.pad 1))) (.con (.int .i64 0)))⟩], none⟩])
  (.cond (.var 17)
   (.reg [⟨[⟨[], 18, (.var 5)⟩], some (.ef [] (.call 176) [(.o1 .ld (.o1 (.fadr 4) (.pad 1)))] (some 19))⟩, ⟨[⟨[], 5, (.o2 (.bin .add) (.var 18) (.o2 (.bin .add) (.con (.string ⟨#[32, 119, 105, 116, 104, 111, 117, 116, 32]⟩)) (.var 19)))⟩], none⟩])
   .skip))
  (.seq (.reg [⟨[⟨[], 20, (.o2 (.bin .add) (.var 5) (.con (.string ⟨#[32, 119, 105, 116, 104, 105, 110, 32]⟩)))⟩], some (.ef [] (.call 176) [(.o1 .ld (.o1 (.fadr 5) (.pad 1)))] (some 21))⟩, ⟨[⟨[], 2, (.o2 (.bin .add) (.var 20) (.var 21))⟩, ⟨[], 3, (.con .nilIface)⟩], none⟩])
  .ret)))))), [(.var 2), (.var 3)]⟩
def F170 : SFun := ⟨1, 7, (.seq (.reg [⟨[], some (.pnew 1 (.var 0))⟩, ⟨[⟨[], 2, (.con .nilIface)⟩], none⟩])
  (.seq (.seq (.reg [⟨[], some (.ef [] (.call 186) [(.o1 .ld (.o1 (.fadr 0) (.pad 1)))] (some 3))⟩, ⟨[⟨[], 4, (.o1 .not (.var 3))⟩], none⟩])
  (.cond (.var 4)
   (.seq (.reg [⟨[⟨[], 2, (.o1 (.iface 111) (.con (.int .i64 4)))⟩], none⟩])
   .ret)
   .skip))
  (.seq (.seq (.reg [⟨[⟨[], 5, (.pick (.pick (.pick (.pick (.pick (.pick (.pick (.pick (.pick (.o2 (.bin .lss) (.o1 .ld (.o1 (.fadr 1) (.pad 1))) (.con (.int .i64 0))) (.con (.bool true)) (.o2 (.bin .gtr) (.o1 .ld (.o1 (.fadr 1) (.pad 1))) (.con (.int .i64 3)))) (.con (.bool true)) (.o2 (.bin .lss) (.o1 .ld (.o1 (.fadr 2) (.pad 1))) (.con (.int .i64 0)))) (.con (.bool true)) (.o2 (.bin .geq) (.o1 .ld (.o1 (.fadr 2) (.pad 1))) (.con (.int .i64 8)))) (.con (.bool true)) (.o2 (.bin .lss) (.o1 .ld (.o1 (.fadr 3) (.pad 1))) (.con (.int .i64 0)))) (.con (.bool true)) (.o2 (.bin .geq) (.o1 .ld (.o1 (.fadr 3) (.pad 1))) (.con (.int .i64 8)))) (.con (.bool true)) (.o2 (.bin .lss) (.o1 .ld (.o1 (.fadr 4) (.pad 1))) (.con (.int .i64 (-1))))) (.con (.bool true)) (.o2 (.bin .geq) (.o1 .ld (.o1 (.fadr 4) (.pad 1))) (.con (.int .i64 8)))) (.con (.bool true)) (.o2 (.bin .lss) (.o1 .ld (.o1 (.fadr 5) (.pad 1))) (.con (.int .i64 1)))) (.con (.bool true)) (.o2 (.bin .gtr) (.o1 .ld (.o1 (.fadr 5) (.pad 1))) (.con (.int .i64 50))))⟩], none⟩])
  (.cond (.var 5)
   (.seq (.reg [⟨[⟨[], 2, (.o1 (.iface 111) (.con (.int .i64 1)))⟩], none⟩])
   .ret)
   .skip))
  (.seq (.seq (.reg [⟨[⟨[], 6, (.pick (.pick (.o2 (.bin .eql) (.o1 .ld (.o1 (.fadr 2) (.pad 1))) (.o1 .ld (.o1 (.fadr 3) (.pad 1)))) (.con (.bool true)) (.o2 (.bin .eql) (.o1 .ld (.o1 (.fadr 4) (.pad 1))) (.o1 .ld (.o1 (.fadr 2) (.pad 1))))) (.con (.bool true)) (.o2 (.bin .eql) (.o1 .ld (.o1 (.fadr 4) (.pad 1))) (.o1 .ld (.o1 (.fadr 3) (.pad 1)))))⟩], none⟩])
  (.cond (.var 6)
   (.seq (.reg [⟨[⟨[], 2, (.o1 (.iface 111) (.con (.int .i64 3)))⟩], none⟩])
   .ret)
   .skip))
  (.seq (.reg [⟨[⟨[], 2, (.con .nilIface)⟩], none⟩])
  .ret))))), [(.var 2)]⟩
def F171 : SFun := ⟨1, 18, (.seq (.reg [⟨[], some (.pnew 1 (.var 0))⟩, ⟨[⟨[], 2, (.con (.string .empty))⟩], none⟩])
  (.seq (.dreg (.eff true [⟨[], 0, (.o1 .ld (.o1 (.fadr 0) (.pad 1)))⟩, ⟨[], 0, (.o1 .ld (.o1 (.fadr 1) (.pad 1)))⟩, ⟨[], 0, (.o1 .ld (.o1 (.fadr 2) (.pad 1)))⟩, ⟨[], 0, (.o1 .ld (.o1 (.fadr 3) (.pad 1)))⟩] ⟨[⟨[], 4, (.o2 (.bin .add) (.o1 .ld (.o1 (.fadr 0) (.pad 1))) (.con (.string ⟨#[58, 32]⟩)))⟩, ⟨[], 6, (.o1 .ld (.o1 (.fadr 1) (.pad 1)))⟩, ⟨[], 8, (.o1 .ld (.o1 (.fadr 2) (.pad 1)))⟩, ⟨[], 11, (.o1 .ld (.o1 (.fadr 3) (.pad 1)))⟩], some (.ef [] (.call 187) [] (some 5))⟩ (.eff true [] ⟨[⟨[], 7, (.o2 (.bin .add) (.o2 (.bin .add) (.var 4) (.o2 (.vidx 4) (.var 5) (.var 6))) (.con (.string ⟨#[32]⟩)))⟩], some (.ef [] (.call 85) [(.var 8)] (some 9))⟩ (.eff true [] ⟨[⟨[], 10, (.o2 (.bin .add) (.o2 (.bin .add) (.var 7) (.var 9)) (.con (.string ⟨#[32, 116, 104, 101, 110, 32]⟩)))⟩], some (.ef [] (.call 85) [(.var 11)] (some 12))⟩ (.done ⟨[⟨[], 3, (.o2 (.bin .add) (.var 10) (.var 12))⟩], none⟩)))))
  (.seq (.seq (.reg [⟨[⟨[], 13, (.o2 (.bin .geq) (.o1 .ld (.o1 (.fadr 4) (.pad 1))) (.con (.int .i64 0)))⟩], none⟩])
  (.cond (.var 13)
   (.reg [⟨[⟨[], 14, (.o2 (.bin .add) (.var 3) (.con (.string ⟨#[32, 119, 105, 116, 104, 111, 117, 116, 32]⟩)))⟩], some (.ef [] (.call 85) [(.o1 .ld (.o1 (.fadr 4) (.pad 1)))] (some 15))⟩, ⟨[⟨[], 3, (.o2 (.bin .add) (.var 14) (.var 15))⟩], none⟩])
   .skip))
  (.seq (.reg [⟨[⟨[], 16, (.o2 (.bin .add) (.var 3) (.con (.string ⟨#[32, 119, 105, 116, 104, 105, 110, 32]⟩)))⟩], some (.ef [] (.call 85) [(.o1 .ld (.o1 (.fadr 5) (.pad 1)))] (some 17))⟩, ⟨[⟨[], 2, (.o2 (.bin .add) (.var 16) (.var 17))⟩], none⟩])
  .ret)))), [(.var 2)]⟩
def F172 : SFun := ⟨1, 32, (.seq (.reg [⟨[], some (.pnew 1 (.con (.agg #[(.string .empty), (.int .i64 0), (.int .i64 0), (.int .i64 0), (.int .i64 0), (.int .i64 0)])))⟩, ⟨[⟨[], 2, (.con .nilIface)⟩], none⟩])
  (.seq (.reg [⟨[], some (.ef [] (.call 181) [(.var 0), (.con (.string ⟨#[32]⟩))] (some 13))⟩, ⟨[], some (.ef [] (.new 29) [(.con (.slice none 0 0))] (some 3))⟩, ⟨[], some (.ef [] (.st 1) [(.var 3), (.var 13)] none)⟩])
  (.seq (.reg [⟨[⟨[], 14, (.o2 (.bput 4 1) (.o2 (.bput 1 1) (.con (.agg #[(.string .empty), (.int .i64 0), (.int .i64 0), (.int .i64 0), (.int .i64 0), (.int .i64 0)])) (.con (.int .i64 (-1)))) (.con (.int .i64 (-1))))⟩], some (.pnew 4 (.con (.agg #[(.string .empty), (.int .i64 0), (.int .i64 0), (.int .i64 0), (.int .i64 0), (.int .i64 0)])))⟩, ⟨[], some (.pst 4 (.upd (.cnt 4) 4 6 (.pad 4) (.var 14)))⟩])
  (.seq (.reg [⟨[], some (.ef [] (.new 3) [(.con (.int .i64 0))] (some 5))⟩, ⟨[], some (.ef [] (.st 1) [(.var 5), (.con (.int .i64 0))] none)⟩])
  (.seq (.reg [⟨[⟨[], 15, (.o2 .capp (.o2 .capp (.mkf 188) (.var 5)) (.var 3))⟩], some (.ef [] (.new 219) [(.con .nilFunc)] (some 6))⟩, ⟨[], some (.ef [] (.st 1) [(.var 6), (.var 15)] none)⟩])
  (.seq (.reg [⟨[⟨[], 7, (.o2 .capp (.mkf 189) (.var 6))⟩], none⟩])
  (.seq (.reg [⟨[], some (.ef [] .cal [(.o1 .ld (.var 6))] (some 16))⟩, ⟨[], some (.ef [] (.call 191) [(.var 16), (.con (.string ⟨#[58]⟩))] (some 17))⟩, ⟨[], some (.pst 4 (.upd (.cnt 4) 4 1 (.o1 (.fadr 0) (.pad 4)) (.var 17)))⟩])
  (.seq (.reg [⟨[], some (.ef [] .cal [(.o1 .ld (.var 6))] (some 18))⟩, ⟨[⟨[], 8, (.var 18)⟩], none⟩])
  (.seq (.seq (.reg [⟨[], some (.ef [] (.call 185) [] (some 19))⟩, ⟨[⟨[], 20, (.con (.int .i64 0))⟩], none⟩])
  (.block 0 (.loop (.seq (.reg [⟨[⟨[], 21, (.o2 (.bin .lss) (.var 20) (.con (.int .i64 4)))⟩], none⟩])
    (.seq (.cond (.var 21)
     .skip
     (.exit 0))
    (.seq (.block 1 (.seq (.reg [⟨[⟨[], 9, (.var 20)⟩, ⟨[], 10, (.o2 (.vidx 4) (.var 19) (.var 20))⟩], none⟩])
     (.seq (.reg [⟨[⟨[], 22, (.o2 (.bin .eql) (.var 10) (.var 8))⟩], none⟩])
     (.cond (.var 22)
      (.reg [⟨[], some (.pst 4 (.upd (.cnt 4) 4 1 (.o1 (.fadr 1) (.pad 4)) (.var 9)))⟩])
      .skip))))
    (.reg [⟨[⟨[], 20, (.o2 (.bin .add) (.var 20) (.con (.int .i64 1)))⟩], none⟩])))))))
  (.seq (.reg [⟨[], some (.ef [] .cal [(.var 7)] (some 23))⟩, ⟨[], some (.pst 4 (.upd (.cnt 4) 4 1 (.o1 (.fadr 2) (.pad 4)) (.var 23)))⟩])
  (.seq (.reg [⟨[], some (.ef [] .cal [(.o1 .ld (.var 6))] none)⟩])
  (.seq (.reg [⟨[], some (.ef [] .cal [(.var 7)] (some 24))⟩, ⟨[], some (.pst 4 (.upd (.cnt 4) 4 1 (.o1 (.fadr 3) (.pad 4)) (.var 24)))⟩])
  (.seq (.seq (.reg [⟨[], some (.ef [] .cal [(.o1 .ld (.var 6))] (some 25))⟩, ⟨[⟨[], 26, (.o2 (.bin .eql) (.var 25) (.con (.string ⟨#[119, 105, 116, 104, 111, 117, 116]⟩)))⟩], none⟩])
  (.cond (.var 26)
   (.seq (.reg [⟨[], some (.ef [] .cal [(.var 7)] (some 27))⟩, ⟨[], some (.pst 4 (.upd (.cnt 4) 4 1 (.o1 (.fadr 4) (.pad 4)) (.var 27)))⟩])
   (.reg [⟨[], some (.ef [] .cal [(.o1 .ld (.var 6))] none)⟩]))
   .skip))
  (.seq (.reg [⟨[], some (.ef [] .cal [(.var 7)] (some 28))⟩, ⟨[], some (.pst 4 (.upd (.cnt 4) 4 1 (.o1 (.fadr 5) (.pad 4)) (.var 28)))⟩])
  (.seq (.reg [⟨[], some (.ef [] (.call 169) [(.o1 (.ldn 6) (.pad 4))] (some 29))⟩, ⟨[⟨[], 11, (.o1 (.ext 0) (.var 29))⟩, ⟨[], 12, (.o1 (.ext 1) (.var 29))⟩], none⟩])
  (.seq (.seq (.reg [⟨[⟨[], 30, (.pick (.o2 (.eqv .iface true) (.var 12) (.con .nilIface)) (.con (.bool true)) (.o2 (.bin .neq) (.var 11) (.var 0)))⟩], none⟩])
  (.cond (.var 30)
   (.seq (.reg [⟨[⟨[], 31, (.o1 (.iface 111) (.con (.int .i64 4)))⟩], some (.pst 1 (.upd (.cnt 1) 1 6 (.pad 1) (.con (.agg #[(.string .empty), (.int .i64 0), (.int .i64 0), (.int .i64 0), (.int .i64 0), (.int .i64 0)]))))⟩, ⟨[⟨[], 2, (.var 31)⟩], none⟩])
   .ret)
   .skip))
  (.seq (.reg [⟨[], some (.pst 1 (.upd (.cnt 1) 1 6 (.pad 1) (.o1 (.ldn 6) (.pad 4))))⟩, ⟨[⟨[], 2, (.con .nilIface)⟩], none⟩])
  .ret))))))))))))))))), [(.o1 (.ldn 6) (.pad 1)), (.var 2)]⟩
def F173 : SFun := ⟨1, 33, (.seq (.reg [⟨[], some (.pnew 1 (.con (.agg #[(.string .empty), (.int .i64 0), (.int .i64 0), (.int .i64 0), (.int .i64 0), (.int .i64 0)])))⟩, ⟨[⟨[], 2, (.con (.bool false))⟩], none⟩])
  (.seq (.reg [⟨[], some (.ef [] (.call 183) [(.var 0), (.con (.int .u8 32))] (some 14))⟩, ⟨[⟨[], 3, (.var 14)⟩], none⟩])
  (.seq (.seq (.reg [⟨[⟨[], 15, (.pick (.pick (.o2 (.bin .neq) (.o1 .llen (.var 3)) (.con (.int .i64 7))) (.o2 (.bin .neq) (.o1 .llen (.var 3)) (.con (.int .i64 9))) (.con (.bool false))) (.con (.bool true)) (.o2 (.bin .eql) (.o1 .slen (.o1 .ld (.o2 (.iadr 1) (.var 3) (.con (.int .i64 0))))) (.con (.int .i64 0))))⟩], none⟩])
  (.cond (.var 15)
   (.seq (.reg [⟨[], some (.pst 1 (.upd (.cnt 1) 1 6 (.pad 1) (.con (.agg #[(.string .empty), (.int .i64 0), (.int .i64 0), (.int .i64 0), (.int .i64 0), (.int .i64 0)]))))⟩, ⟨[⟨[], 2, (.con (.bool false))⟩], none⟩])
   .ret)
   .skip))
  (.seq (.dreg (.eff true [⟨[], 0, (.o1 .ld (.o2 (.iadr 1) (.var 3) (.con (.int .i64 0))))⟩, ⟨[], 0, (.o1 .ld (.o2 (.iadr 1) (.var 3) (.con (.int .i64 0))))⟩] ⟨[⟨[], 16, (.o2 (.bput 4 1) (.o2 (.bput 1 1) (.o2 (.bput 0 1) (.con (.agg #[(.string .empty), (.int .i64 0), (.int .i64 0), (.int .i64 0), (.int .i64 0), (.int .i64 0)])) (.o3 .ssl (.o1 .ld (.o2 (.iadr 1) (.var 3) (.con (.int .i64 0)))) (.con (.int .i64 0)) (.o2 (.bin .sub) (.o1 .slen (.o1 .ld (.o2 (.iadr 1) (.var 3) (.con (.int .i64 0))))) (.con (.int .i64 1))))) (.con (.int .i64 (-1)))) (.con (.int .i64 (-1))))⟩], some (.ef [] (.new 240) [(.con (.agg #[(.string .empty), (.int .i64 0), (.int .i64 0), (.int .i64 0), (.int .i64 0), (.int .i64 0)]))] (some 4))⟩ (.eff false [] ⟨[], some (.ef [] (.st 6) [(.var 4), (.var 16)] none)⟩ (.done ⟨[], none⟩))))
  (.seq (.seq (.reg [⟨[⟨[], 5, (.con (.int .i64 0))⟩], none⟩])
  (.block 0 (.loop (.seq (.seq (.reg [⟨[⟨[], 17, (.o2 (.bin .lss) (.var 5) (.con (.int .i64 4)))⟩], none⟩])
    (.cond (.var 17)
     .skip
     (.exit 0)))
    (.seq (.block 1 (.seq (.dreg (.eff true [⟨[], 0, (.o1 .ld (.o2 (.iadr 1) (.var 3) (.con (.int .i64 1))))⟩] ⟨[⟨[], 19, (.var 5)⟩, ⟨[], 20, (.o1 .ld (.o2 (.iadr 1) (.var 3) (.con (.int .i64 1))))⟩], some (.ef [] (.call 187) [] (some 18))⟩ (.done ⟨[⟨[], 21, (.o2 (.bin .eql) (.o2 (.vidx 4) (.var 18) (.var 19)) (.var 20))⟩], none⟩)))
     (.cond (.var 21)
      (.reg [⟨[], some (.ef [] (.st 1) [(.o1 (.fadr 1) (.var 4)), (.var 5)] none)⟩])
      .skip)))
    (.reg [⟨[⟨[], 5, (.o2 (.bin .add) (.var 5) (.con (.int .i64 1)))⟩], none⟩]))))))
  (.seq (.reg [⟨[], some (.ef [] (.call 184) [(.o1 .ld (.o2 (.iadr 1) (.var 3) (.con (.int .i64 2))))] (some 22))⟩, ⟨[⟨[], 6, (.o1 (.ext 0) (.var 22))⟩, ⟨[], 7, (.o1 (.ext 1) (.var 22))⟩], none⟩])
  (.seq (.reg [⟨[], some (.ef [] (.call 184) [(.o1 .ld (.o2 (.iadr 1) (.var 3) (.con (.int .i64 4))))] (some 23))⟩, ⟨[⟨[], 8, (.o1 (.ext 0) (.var 23))⟩, ⟨[], 9, (.o1 (.ext 1) (.var 23))⟩], none⟩])
  (.seq (.reg [⟨[], some (.ef [] (.call 184) [(.o1 .ld (.o2 (.iadr 1) (.var 3) (.o2 (.bin .sub) (.o1 .llen (.var 3)) (.con (.int .i64 1)))))] (some 24))⟩, ⟨[⟨[], 10, (.o1 (.ext 0) (.var 24))⟩, ⟨[], 11, (.o1 (.ext 1) (.var 24))⟩], none⟩])
  (.seq (.seq (.reg [⟨[⟨[], 25, (.pick (.pick (.o1 .not (.var 7)) (.con (.bool true)) (.o1 .not (.var 9))) (.con (.bool true)) (.o1 .not (.var 11)))⟩], none⟩])
  (.cond (.var 25)
   (.seq (.reg [⟨[], some (.pst 1 (.upd (.cnt 1) 1 6 (.pad 1) (.con (.agg #[(.string .empty), (.int .i64 0), (.int .i64 0), (.int .i64 0), (.int .i64 0), (.int .i64 0)]))))⟩, ⟨[⟨[], 2, (.con (.bool false))⟩], none⟩])
   .ret)
   .skip))
  (.seq (.reg [⟨[], some (.ef [] (.st 1) [(.o1 (.fadr 2) (.var 4)), (.var 6)] none)⟩])
  (.seq (.reg [⟨[], some (.ef [] (.st 1) [(.o1 (.fadr 3) (.var 4)), (.var 8)] none)⟩])
  (.seq (.reg [⟨[], some (.ef [] (.st 1) [(.o1 (.fadr 5) (.var 4)), (.var 10)] none)⟩])
  (.seq (.seq (.reg [⟨[⟨[], 26, (.o2 (.bin .eql) (.o1 .llen (.var 3)) (.con (.int .i64 9)))⟩], none⟩])
  (.cond (.var 26)
   (.seq (.reg [⟨[], some (.ef [] (.call 184) [(.o1 .ld (.o2 (.iadr 1) (.var 3) (.con (.int .i64 6))))] (some 27))⟩, ⟨[⟨[], 12, (.o1 (.ext 0) (.var 27))⟩, ⟨[], 13, (.o1 (.ext 1) (.var 27))⟩], none⟩])
   (.seq (.seq (.reg [⟨[⟨[], 28, (.o1 .not (.var 13))⟩], none⟩])
   (.cond (.var 28)
    (.seq (.reg [⟨[], some (.pst 1 (.upd (.cnt 1) 1 6 (.pad 1) (.con (.agg #[(.string .empty), (.int .i64 0), (.int .i64 0), (.int .i64 0), (.int .i64 0), (.int .i64 0)]))))⟩, ⟨[⟨[], 2, (.con (.bool false))⟩], none⟩])
    .ret)
    .skip))
   (.reg [⟨[], some (.ef [] (.st 1) [(.o1 (.fadr 4) (.var 4)), (.var 12)] none)⟩])))
   .skip))
  (.seq (.seq (.reg [⟨[], some (.ef [] (.call 168) [(.o1 (.ldn 6) (.var 4))] (some 29))⟩, ⟨[⟨[], 30, (.o2 (.bin .gtr) (.var 29) (.con (.int .i64 0)))⟩], some (.ef [((.o2 (.bin .gtr) (.var 29) (.con (.int .i64 0))), false)] (.call 171) [(.o1 (.ldn 6) (.var 4))] (some 31))⟩, ⟨[⟨[], 32, (.pick (.var 30) (.con (.bool true)) (.o2 (.bin .neq) (.var 31) (.var 0)))⟩], none⟩])
  (.cond (.var 32)
   (.seq (.reg [⟨[], some (.pst 1 (.upd (.cnt 1) 1 6 (.pad 1) (.con (.agg #[(.string .empty), (.int .i64 0), (.int .i64 0), (.int .i64 0), (.int .i64 0), (.int .i64 0)]))))⟩, ⟨[⟨[], 2, (.con (.bool false))⟩], none⟩])
   .ret)
   .skip))
  (.seq (.reg [⟨[], some (.pst 1 (.upd (.cnt 1) 1 6 (.pad 1) (.o1 (.ldn 6) (.var 4))))⟩, ⟨[⟨[], 2, (.con (.bool true))⟩], none⟩])
  .ret))))))))))))))), [(.o1 (.ldn 6) (.pad 1)), (.var 2)]⟩
def F174 : SFun := ⟨4, 23, (.seq (.reg [⟨[], some (.pnew 4 (.var 1))⟩, ⟨[⟨[], 5, (.con (.bool false))⟩], none⟩])
  (.seq (.seq (.reg [⟨[], some (.ef [] (.call 170) [(.o1 (.ldn 6) (.pad 4))] (some 10))⟩, ⟨[⟨[], 11, (.o2 (.eqv .iface true) (.var 10) (.con .nilIface))⟩], some (.ef [((.o2 (.eqv .iface true) (.var 10) (.con .nilIface)), false)] (.call 50) [(.var 0), (.var 2), (.o1 .ld (.o1 (.fadr 3) (.pad 4))), (.var 3)] (some 12))⟩, ⟨[⟨[], 13, (.pick (.var 11) (.con (.bool true)) (.o1 .not (.var 12)))⟩], none⟩])
  (.cond (.var 13)
   (.seq (.reg [⟨[⟨[], 5, (.con (.bool false))⟩], none⟩])
   .ret)
   .skip))
  (.seq (.reg [⟨[], some (.ef [] (.call 81) [(.var 2)] (some 14))⟩, ⟨[⟨[], 15, (.o1 (.ext 0) (.var 14))⟩, ⟨[], 16, (.o1 (.ext 1) (.var 14))⟩], some (.pnew 6 (.con (.agg #[(.int .i64 0), (.int .i64 0), (.int .i64 0), (.int .i64 0), (.int .i64 0), (.int .i64 0)])))⟩, ⟨[], some (.pst 6 (.upd (.cnt 6) 6 6 (.pad 6) (.var 15)))⟩, ⟨[⟨[], 7, (.var 16)⟩], none⟩])
  (.seq (.seq (.reg [⟨[⟨[], 17, (.pick (.o2 (.eqv .iface true) (.var 7) (.con .nilIface)) (.con (.bool true)) (.pick (.o2 (.bin .gtr) (.o1 .ld (.o1 (.fadr 1) (.pad 4))) (.con (.int .i64 0))) (.o2 (.bin .neq) (.o1 .ld (.o1 (.fadr 0) (.pad 6))) (.o1 .ld (.o1 (.fadr 1) (.pad 4)))) (.con (.bool false))))⟩], none⟩])
  (.cond (.var 17)
   (.seq (.reg [⟨[⟨[], 5, (.con (.bool false))⟩], none⟩])
   .ret)
   .skip))
  (.seq (.seq (.reg [⟨[⟨[], 8, (.o2 (.bin .sub) (.var 3) (.con (.int .i64 1)))⟩], none⟩])
  (.block 0 (.loop (.seq (.seq (.reg [⟨[⟨[], 18, (.o2 (.bin .geq) (.var 8) (.o2 .max (.con (.int .i64 0)) (.o2 (.bin .sub) (.var 3) (.o1 .ld (.o1 (.fadr 5) (.pad 4))))))⟩], none⟩])
    (.cond (.var 18)
     .skip
     (.exit 0)))
    (.seq (.block 1 (.seq (.seq (.reg [⟨[], some (.ef [] (.call 50) [(.var 0), (.var 2), (.o1 .ld (.o1 (.fadr 2) (.pad 4))), (.var 8)] (some 19))⟩])
     (.cond (.var 19)
      (.seq (.reg [⟨[⟨[], 5, (.con (.bool true))⟩], none⟩])
      .ret)
      .skip))
     (.seq (.reg [⟨[], some (.ef [] (.call 30) [(.var 0), (.var 2), (.var 8)] (some 20))⟩, ⟨[⟨[], 9, (.o1 (.ext 0) (.var 20))⟩, ⟨[], 22, (.o1 (.ext 1) (.var 20))⟩], none⟩])
     (.seq (.reg [⟨[⟨[], 21, (.pick (.o2 (.bin .geq) (.o1 .ld (.o1 (.fadr 4) (.pad 4))) (.con (.int .i64 0))) (.o2 (.bin .eql) (.var 9) (.o1 .ld (.o1 (.fadr 4) (.pad 4)))) (.con (.bool false)))⟩], none⟩])
     (.cond (.var 21)
      (.seq (.reg [⟨[⟨[], 5, (.con (.bool false))⟩], none⟩])
      .ret)
      .skip)))))
    (.reg [⟨[⟨[], 8, (.o2 (.bin .sub) (.var 8) (.con (.int .i64 1)))⟩], none⟩]))))))
  (.seq (.reg [⟨[⟨[], 5, (.con (.bool false))⟩], none⟩])
  .ret)))))), [(.var 5)]⟩
def F175 : SFun := ⟨4, 24, (.seq (.reg [⟨[], some (.pnew 4 (.var 1))⟩, ⟨[⟨[], 5, (.con (.bool false))⟩], none⟩])
  (.seq (.reg [⟨[], some (.ef [] (.call 83) [(.var 2)] (some 11))⟩, ⟨[⟨[], 6, (.var 11)⟩], none⟩])
  (.seq (.seq (.reg [⟨[], some (.ef [] (.call 168) [(.o1 (.ldn 6) (.pad 4))] (some 12))⟩, ⟨[⟨[], 13, (.pick (.pick (.o2 (.bin .gtr) (.var 12) (.con (.int .i64 0))) (.con (.bool true)) (.o2 (.bin .eql) (.var 6) (.con (.int .i64 0)))) (.con (.bool true)) (.pick (.o2 (.bin .gtr) (.o1 .ld (.o1 (.fadr 1) (.pad 4))) (.con (.int .i64 0))) (.o2 (.bin .neq) (.o1 .ld (.o1 (.fadr 1) (.pad 4))) (.var 6)) (.con (.bool false))))⟩], none⟩])
  (.cond (.var 13)
   (.seq (.reg [⟨[⟨[], 5, (.con (.bool false))⟩], none⟩])
   .ret)
   .skip))
  (.seq (.reg [⟨[], some (.ef [] (.call 53) [(.var 0), (.var 2), (.o1 .ld (.o1 (.fadr 3) (.pad 4))), (.var 3)] (some 14))⟩, ⟨[⟨[], 7, (.var 14)⟩], none⟩])
  (.seq (.seq (.reg [⟨[⟨[], 15, (.o1 .not (.var 7))⟩], none⟩])
  (.cond (.var 15)
   (.seq (.reg [⟨[⟨[], 5, (.con (.bool false))⟩], none⟩])
   .ret)
   .skip))
  (.seq (.seq (.reg [⟨[⟨[], 8, (.o2 .max (.con (.int .i64 0)) (.o2 (.bin .sub) (.var 3) (.o1 .ld (.o1 (.fadr 5) (.pad 4)))))⟩], none⟩])
  (.block 0 (.loop (.seq (.seq (.reg [⟨[⟨[], 16, (.o2 (.bin .lss) (.var 8) (.var 3))⟩], none⟩])
    (.cond (.var 16)
     .skip
     (.exit 0)))
    (.seq (.block 1 (.seq (.reg [⟨[], some (.ef [] (.call 53) [(.var 0), (.var 2), (.o1 .ld (.o1 (.fadr 2) (.pad 4))), (.var 8)] (some 17))⟩, ⟨[⟨[], 9, (.var 17)⟩], none⟩])
     (.seq (.seq (.reg [⟨[⟨[], 10, (.o2 (.bin .add) (.var 8) (.con (.int .i64 1)))⟩], none⟩])
     (.block 2 (.loop (.seq (.seq (.reg [⟨[⟨[], 18, (.pick (.o2 (.bin .lss) (.var 10) (.var 3)) (.var 9) (.con (.bool false)))⟩], none⟩])
       (.cond (.var 18)
        .skip
        (.exit 2)))
       (.seq (.block 3 (.seq (.dreg (.eff true [⟨[((.o2 (.bin .geq) (.o1 .ld (.o1 (.fadr 4) (.pad 4))) (.con (.int .i64 0))), true)], 0, (.o1 .ld (.o1 (.fadr 4) (.pad 4)))⟩] ⟨[⟨[], 19, (.o2 (.bin .geq) (.o1 .ld (.o1 (.fadr 4) (.pad 4))) (.con (.int .i64 0)))⟩, ⟨[((.o2 (.bin .geq) (.o1 .ld (.o1 (.fadr 4) (.pad 4))) (.con (.int .i64 0))), true)], 21, (.o1 .ld (.o1 (.fadr 4) (.pad 4)))⟩], some (.ef [((.o2 (.bin .geq) (.o1 .ld (.o1 (.fadr 4) (.pad 4))) (.con (.int .i64 0))), true)] (.call 70) [(.var 0), (.var 2), (.var 10)] (some 20))⟩ (.done ⟨[⟨[], 22, (.pick (.var 19) (.o2 (.bin .eql) (.var 20) (.var 21)) (.con (.bool false)))⟩], none⟩)))
        (.cond (.var 22)
         (.reg [⟨[⟨[], 9, (.con (.bool false))⟩], none⟩])
         .skip)))
       (.reg [⟨[⟨[], 10, (.o2 (.bin .add) (.var 10) (.con (.int .i64 1)))⟩], none⟩]))))))
     (.seq (.reg [⟨[⟨[], 23, (.var 9)⟩], none⟩])
     (.cond (.var 23)
      (.seq (.reg [⟨[⟨[], 5, (.con (.bool true))⟩], none⟩])
      .ret)
      .skip)))))
    (.reg [⟨[⟨[], 8, (.o2 (.bin .add) (.var 8) (.con (.int .i64 1)))⟩], none⟩]))))))
  (.seq (.reg [⟨[⟨[], 5, (.con (.bool false))⟩], none⟩])
  .ret))))))), [(.var 5)]⟩
def F183 : SFun := ⟨2, 11, (.seq (.reg [⟨[⟨[], 2, (.con (.slice none 0 0))⟩], none⟩])
  (.seq (.reg [⟨[⟨[], 3, (.con (.slice none 0 0))⟩], none⟩])
  (.seq (.reg [⟨[⟨[], 4, (.con (.int .i64 0))⟩], none⟩])
  (.seq (.seq (.reg [⟨[⟨[], 5, (.con (.int .i64 0))⟩], none⟩])
  (.block 0 (.loop (.seq (.seq (.reg [⟨[⟨[], 6, (.o2 (.bin .leq) (.var 5) (.o1 .slen (.var 0)))⟩], none⟩])
    (.cond (.var 6)
     .skip
     (.exit 0)))
    (.seq (.block 1 (.seq (.reg [⟨[⟨[], 7, (.pick (.o2 (.bin .eql) (.var 5) (.o1 .slen (.var 0))) (.con (.bool true)) (.o2 (.bin .eql) (.o2 .sidx (.var 0) (.var 5)) (.var 1)))⟩], none⟩])
     (.cond (.var 7)
      (.seq (.reg [⟨[⟨[], 8, (.var 3)⟩], some (.ef [] (.bsl 9 1) [(.o2 (.bput 0 1) (.con (.agg #[(.string .empty)])) (.o3 .ssl (.var 0) (.var 4) (.var 5)))] (some 9))⟩, ⟨[], some (.ef [] (.app 9 1 16) [(.var 8), (.var 9)] (some 10))⟩, ⟨[⟨[], 3, (.var 10)⟩], none⟩])
      (.reg [⟨[⟨[], 4, (.o2 (.bin .add) (.var 5) (.con (.int .i64 1)))⟩], none⟩]))
      .skip)))
    (.reg [⟨[⟨[], 5, (.o2 (.bin .add) (.var 5) (.con (.int .i64 1)))⟩], none⟩]))))))
  (.seq (.reg [⟨[⟨[], 2, (.var 3)⟩], none⟩])
  .ret))))), [(.var 2)]⟩
def F184 : SFun := ⟨1, 7, (.seq (.reg [⟨[⟨[], 1, (.con (.int .i64 0))⟩, ⟨[], 2, (.con (.bool false))⟩], none⟩])
  (.seq (.reg [⟨[⟨[], 3, (.con (.int .i64 0))⟩], none⟩])
  (.seq (.seq (.reg [⟨[⟨[], 4, (.con (.int .i64 0))⟩], none⟩])
  (.block 0 (.loop (.seq (.seq (.reg [⟨[⟨[], 5, (.o2 (.bin .lss) (.var 4) (.o1 .slen (.var 0)))⟩], none⟩])
    (.cond (.var 5)
     .skip
     (.exit 0)))
    (.seq (.block 1 (.seq (.seq (.reg [⟨[⟨[], 6, (.pick (.pick (.o2 (.bin .lss) (.o2 .sidx (.var 0) (.var 4)) (.con (.int .u8 48))) (.con (.bool true)) (.o2 (.bin .gtr) (.o2 .sidx (.var 0) (.var 4)) (.con (.int .u8 57)))) (.con (.bool true)) (.o2 (.bin .gtr) (.var 4) (.con (.int .i64 8))))⟩], none⟩])
     (.cond (.var 6)
      (.seq (.reg [⟨[⟨[], 1, (.con (.int .i64 0))⟩, ⟨[], 2, (.con (.bool false))⟩], none⟩])
      .ret)
      .skip))
     (.reg [⟨[⟨[], 3, (.o2 (.bin .add) (.o2 (.bin .mul) (.con (.int .i64 10)) (.var 3)) (.o1 (.conv .i64) (.o2 (.bin .sub) (.o2 .sidx (.var 0) (.var 4)) (.con (.int .u8 48)))))⟩], none⟩])))
    (.reg [⟨[⟨[], 4, (.o2 (.bin .add) (.var 4) (.con (.int .i64 1)))⟩], none⟩]))))))
  (.seq (.reg [⟨[⟨[], 1, (.var 3)⟩, ⟨[], 2, (.o2 (.bin .neq) (.var 0) (.con (.string .empty)))⟩], none⟩])
  .ret)))), [(.var 1), (.var 2)]⟩
def F185 : SFun := ⟨0, 1, (.seq (.reg [⟨[], some (.pnew 0 (.con (.agg #[(.string .empty), (.string .empty), (.string .empty), (.string .empty)])))⟩])
  (.seq (.reg [⟨[], some (.pst 0 (.upd (.cnt 0) 0 4 (.pad 0) (.o2 (.bput 3 1) (.o2 (.bput 2 1) (.o2 (.bput 1 1) (.o2 (.bput 0 1) (.con (.agg #[(.string .empty), (.string .empty), (.string .empty), (.string .empty)])) (.con (.string ⟨#[97, 110, 121]⟩))) (.con (.string ⟨#[105, 116, 101, 109]⟩))) (.con (.string ⟨#[99, 97, 115, 101]⟩))) (.con (.string ⟨#[112, 97, 108, 108, 101, 116]⟩)))))⟩])
  .ret)), [(.o1 (.ldn 4) (.pad 0))]⟩
def F186 : SFun := ⟨1, 7, (.seq (.reg [⟨[⟨[], 1, (.con (.bool false))⟩], none⟩])
  (.seq (.seq (.reg [⟨[⟨[], 3, (.o1 .slen (.var 0))⟩, ⟨[], 4, (.con (.int .i64 0))⟩], none⟩])
  (.block 0 (.loop (.seq (.reg [⟨[⟨[], 5, (.o2 (.bin .lss) (.var 4) (.var 3))⟩], none⟩])
    (.seq (.cond (.var 5)
     .skip
     (.exit 0))
    (.seq (.block 1 (.seq (.reg [⟨[⟨[], 2, (.var 4)⟩], none⟩])
     (.seq (.reg [⟨[⟨[], 6, (.pick (.o2 (.bin .lss) (.o2 .sidx (.var 0) (.var 2)) (.con (.int .u8 97))) (.con (.bool true)) (.o2 (.bin .gtr) (.o2 .sidx (.var 0) (.var 2)) (.con (.int .u8 122))))⟩], none⟩])
     (.cond (.var 6)
      (.seq (.reg [⟨[⟨[], 1, (.con (.bool false))⟩], none⟩])
      .ret)
      .skip))))
    (.reg [⟨[⟨[], 4, (.o2 (.bin .add) (.var 4) (.con (.int .i64 1)))⟩], none⟩])))))))
  (.seq (.reg [⟨[⟨[], 1, (.pick (.o2 (.bin .neq) (.var 0) (.con (.string .empty))) (.o2 (.bin .leq) (.o1 .slen (.var 0)) (.con (.int .i64 12))) (.con (.bool false)))⟩], none⟩])
  .ret))), [(.var 1)]⟩
def F187 : SFun := ⟨0, 1, (.seq (.reg [⟨[], some (.pnew 0 (.con (.agg #[(.string .empty), (.string .empty), (.string .empty), (.string .empty)])))⟩])
  (.seq (.reg [⟨[], some (.pst 0 (.upd (.cnt 0) 0 4 (.pad 0) (.o2 (.bput 3 1) (.o2 (.bput 2 1) (.o2 (.bput 1 1) (.o2 (.bput 0 1) (.con (.agg #[(.string .empty), (.string .empty), (.string .empty), (.string .empty)])) (.con (.string ⟨#[97, 110, 121]⟩))) (.con (.string ⟨#[105, 116, 101, 109]⟩))) (.con (.string ⟨#[99, 97, 115, 101]⟩))) (.con (.string ⟨#[112, 97, 108, 108, 101, 116]⟩)))))⟩])
  .ret)), [(.o1 (.ldn 4) (.pad 0))]⟩
def F188 : SFun := ⟨2, 4, (.seq (.reg [⟨[⟨[], 2, (.con (.string .empty))⟩], none⟩])
  (.seq (.seq (.reg [⟨[⟨[], 3, (.o2 (.bin .eql) (.o1 .ld (.var 0)) (.o1 .llen (.o1 .ld (.var 1))))⟩], none⟩])
  (.cond (.var 3)
   (.seq (.reg [⟨[⟨[], 2, (.con (.string .empty))⟩], none⟩])
   .ret)
   .skip))
  (.seq (.reg [⟨[], some (.ef [] (.st 1) [(.var 0), (.o2 (.bin .add) (.o1 .ld (.var 0)) (.con (.int .i64 1)))] none)⟩])
  (.seq (.reg [⟨[⟨[], 2, (.o1 .ld (.o2 (.iadr 1) (.o1 .ld (.var 1)) (.o2 (.bin .sub) (.o1 .ld (.var 0)) (.con (.int .i64 1)))))⟩], none⟩])
  .ret)))), [(.var 2)]⟩
def F189 : SFun := ⟨1, 7, (.seq (.reg [⟨[⟨[], 1, (.con (.int .i64 0))⟩], none⟩])
  (.seq (.reg [⟨[], some (.ef [] .cal [(.o1 .ld (.var 0))] (some 4))⟩, ⟨[], some (.ef [] (.call 190) [(.var 4)] (some 5))⟩, ⟨[⟨[], 2, (.o1 (.ext 0) (.var 5))⟩, ⟨[], 3, (.o1 (.ext 1) (.var 5))⟩], none⟩])
  (.seq (.seq (.reg [⟨[⟨[], 6, (.o2 (.eqv .iface true) (.var 3) (.con .nilIface))⟩], none⟩])
  (.cond (.var 6)
   (.seq (.reg [⟨[⟨[], 1, (.con (.int .i64 (-2)))⟩], none⟩])
   .ret)
   .skip))
  (.seq (.reg [⟨[⟨[], 1, (.var 2)⟩], none⟩])
  .ret)))), [(.var 1)]⟩
end Go.Cw
namespace Go.Cw
open Go
end Go.Cw
namespace Go.Cw
open Go
structure Rd where
  ant : Int
  str : Int
  age : Int
  tag : List UInt8
  deriving DecidableEq, Inhabited
def Rd.enc (r : Rd) : List Value := [.int .i64 r.ant, .int .i64 r.str, .int .i64 r.age, .string (Cw.str r.tag)]
def Rd.bad (r : Rd) : Prop := r.ant < 0 ∨ 3 < r.ant ∨ r.str < 0 ∨ 255 < r.str ∨ r.age < 0 ∨ 255 < r.age ∨ r.tag.length ≠ 8
instance (r : Rd) : Decidable r.bad := by unfold Rd.bad; infer_instance
end Go.Cw
namespace Go.Cw
open Go
def S19 (N : Num) : Spec := fun args h K => ∃ e f : Nat, args = [errV N e, .int .i64 f] ∧ K (.bool (decide (e = f))) h
theorem F19_ok {N : Num} {Γ : Ctx} [GoodC Γ] : Sat (S19 N) (SF N Γ F19) := by
  rintro _ h K ⟨e, f, rfl, hK⟩
  refine i_fun rfl ?_
  simp only [F19, env0, List.map, List.length, List.replicate, List.cons_append, List.nil_append, Nat.reduceSub, Nat.reduceAdd]
  try simp (disch := first | omega | (simp only [PL]; omega)) only [PS, P1, P2, P3, P4, P5, P6, P7, P8, PA, PB, PC, Nat.reduceAdd, Nat.reduceSub, Nat.reduceMul, Nat.reduceLeDiff, Nat.reduceEqDiff, Nat.succ_ne_self, reduceCtorEq, Int.reduceToNat, Int.cast_ofNat_Int, Int.reduceEq, Int.reduceNe, Int.reduceLT, Int.reduceLE, errV_eq]
  refine i_cond (fun c1 => ?_) (fun c1 => ?_)
  · try simp (disch := first | omega | (simp only [PL]; omega)) only [PS, P1, P2, P3, P4, P5, P6, P7, P8, PA, PB, PC, Nat.reduceAdd, Nat.reduceSub, Nat.reduceMul, Nat.reduceLeDiff, Nat.reduceEqDiff, Nat.succ_ne_self, reduceCtorEq, Int.reduceToNat, Int.cast_ofNat_Int, Int.reduceEq, Int.reduceNe, Int.reduceLT, Int.reduceLE]
    subst c1
    simpa [eq_comm] using hK
  · try simp (disch := first | omega | (simp only [PL]; omega)) only [PS, P1, P2, P3, P4, P5, P6, P7, P8, PA, PB, PC, Nat.reduceAdd, Nat.reduceSub, Nat.reduceMul, Nat.reduceLeDiff, Nat.reduceEqDiff, Nat.succ_ne_self, reduceCtorEq, Int.reduceToNat, Int.cast_ofNat_Int, Int.reduceEq, Int.reduceNe, Int.reduceLT, Int.reduceLE, errV_pos N c1]
    have : ((f : Int) > 0 ∧ (e : Int) = f) ↔ e = f := by omega
    try simp (disch := first | omega | (simp only [PL]; omega)) only [PS, P1, P2, P3, P4, P5, P6, P7, P8, PA, PB, PC, Nat.reduceAdd, Nat.reduceSub, Nat.reduceMul, Nat.reduceLeDiff, Nat.reduceEqDiff, Nat.succ_ne_self, reduceCtorEq, Int.reduceToNat, Int.cast_ofNat_Int, Int.reduceEq, Int.reduceNe, Int.reduceLT, Int.reduceLE]
    rw [← decide_eq_decide.2 this] at hK
    exact hK
end Go.Cw
namespace Go.Cw
open Go
def objAt (h : Heap) (a : Addr) (cs : List Value) : Prop :=
  a.spot = none ∧ ∃ c t, h a.block = some (.cells c t (0, 0)) ∧ a.off + cs.length ≤ c.size ∧ ∀ i, i < cs.length → c[a.off + i]? = cs[i]?
theorem objAt.le {h h' : Heap} {a : Addr} {cs : List Value} (ho : objAt h a cs) (hl : Heap.le h h') : objAt h' a cs := by
  obtain ⟨h1, c, t, h2, h3, h4⟩ := ho; exact ⟨h1, c, t, hl _ _ h2, h3, h4⟩
theorem objAt.row {h : Heap} {a : Addr} {cs : List Value} (ho : objAt h a cs) : rowAt h a cs := by
  obtain ⟨h1, c, t, h2, h3, h4⟩ := ho; exact ⟨h1, c, t, _, h2, h3, h4⟩
theorem objAt.rules {h : Heap} {a : Addr} {cs : List Value} (ho : objAt h a cs) : (∀ j, j < cs.length → h.cell (a.add j) = cs[j]?) ∧ (0 < cs.length → h.cell a = cs[0]?) ∧ h.row a cs.length = some cs.toArray := by
  have hr := ho.row
  refine ⟨fun j hj => by rw [hr.cell hj, List.getElem?_eq_getElem hj], fun hj => ?_, ?_⟩
  · have := hr.cell hj; rw [addr_zero] at this; rw [this, List.getElem?_eq_getElem hj]
  · have := hr.row (i := 0) (n := cs.length) (by omega)
    rw [addr_zero] at this; rw [this]; simp
def keeps (a : Addr) (n : Nat) (h h' : Heap) : Prop :=
  (∀ b o, b ≠ a.block → h b = some o → h' b = some o) ∧
  (∀ c t fz, h a.block = some (.cells c t fz) → ∃ c', h' a.block = some (.cells c' t fz) ∧ c'.size = c.size ∧ ∀ i, i < a.off ∨ a.off + n ≤ i → c'[i]? = c[i]?)
theorem keeps.of_le {a : Addr} {n : Nat} {h h' : Heap} (hl : Heap.le h h') : keeps a n h h' := ⟨fun b o _ hb => hl b o hb, fun c t fz hc => ⟨c, hl _ _ hc, rfl, fun _ _ => rfl⟩⟩
theorem keeps.refl (a : Addr) (n : Nat) (h : Heap) : keeps a n h h := .of_le (Heap.le.refl h)
theorem keeps.trans {a : Addr} {n : Nat} {h h' h'' : Heap} (k1 : keeps a n h h') (k2 : keeps a n h' h'') : keeps a n h h'' := by
  refine ⟨fun b o hb h1 => k2.1 b o hb (k1.1 b o hb h1), fun c t fz hc => ?_⟩
  obtain ⟨c', h1, h2, h3⟩ := k1.2 c t fz hc
  obtain ⟨c'', h4, h5, h6⟩ := k2.2 c' t fz h1
  exact ⟨c'', h4, h5.trans h2, fun i hi => (h6 i hi).trans (h3 i hi)⟩
theorem keeps.le {a : Addr} {n : Nat} {g h h' : Heap} (k : keeps a n h h') (hg : Heap.le g h) (hn : g a.block = none) : Heap.le g h' := by
  intro b o hb
  exact k.1 b o (by intro e; subst e; rw [hn] at hb; cases hb) (hg b o hb)
def fr (h h' : Heap) : Heap := fun b => match h b with
  | none => h' b
  | some _ => none
theorem fr_le (h h' : Heap) : Heap.le (fr h h') h' := by
  intro b o hb; simp only [fr] at hb; split at hb
  · exact hb
  · cases hb
theorem fr_none {h h' : Heap} {b : Nat} {o : Obj} (hb : h b = some o) : fr h h' b = none := by simp [fr, hb]
theorem fr_mono {h h' h'' : Heap} (hl : Heap.le h' h'') : Heap.le (fr h h') (fr h h'') := by
  intro b o hb; simp only [fr] at hb ⊢; split at hb
  · exact hl b o hb
  · cases hb
theorem fr_anti {g h h' : Heap} (hl : ∀ b, h b = none → g b = none) : Heap.le (fr h h') (fr g h') := by
  intro b o hb; simp only [fr] at hb ⊢
  split at hb
  · rename_i h1; rw [hl b h1]; exact hb
  · cases hb
theorem le_none {g h : Heap} (hl : Heap.le g h) : ∀ b, h b = none → g b = none := by
  intro b hb
  cases hg : g b with
  | none => rfl
  | some o => rw [hl b o hg] at hb; cases hb
def join (g g' : Heap) : Heap := fun b => (g b).orElse fun _ => g' b
theorem join_l (g g' : Heap) : Heap.le g (join g g') := by intro b o hb; simp [join, hb]
theorem join_r {g g' h : Heap} (h1 : Heap.le g h) (h2 : Heap.le g' h) : Heap.le g' (join g g') := by
  intro b o hb
  simp only [join]
  cases hg : g b with
  | none => simpa using hb
  | some o' => have a1 := h1 b o' hg; have a2 := h2 b o hb; rw [a1] at a2; simpa using a2
theorem join_le {g g' h : Heap} (h1 : Heap.le g h) (h2 : Heap.le g' h) : Heap.le (join g g') h := by
  intro b o hb
  simp only [join] at hb
  cases hg : g b with
  | none => rw [hg] at hb; exact h2 b o (by simpa using hb)
  | some o' => rw [hg] at hb; simp at hb; subst hb; exact h1 b _ hg
theorem join_none {g g' : Heap} {b : Nat} (h1 : g b = none) (h2 : g' b = none) : join g g' b = none := by simp [join, h1, h2]
theorem OwnS.grow {α : Type} {enc : α → List Value} {sz : Nat} {g h h1 : Heap} {v : Value} {l : List α} (ho : OwnS enc sz g h v l) (hl : Heap.le h h1) : OwnS enc sz (join g (fr h h1)) h1 v l := by
  obtain ⟨a0, a, cap, h2, h3, h4, h5⟩ := ho
  refine ⟨join_le (a0.trans hl) (fr_le _ _), a, cap, h2, h3, h4, h5.imp id ?_⟩
  rintro ⟨b, c, t, a1, a2, a3, a4⟩
  exact ⟨b, c, t, a1, join_none a2 (fr_none a3), hl _ _ a3, a4⟩
theorem Heap.set_ne {h : Heap} {b b' : Nat} {o : Obj} (e : b' ≠ b) : (h.set b o) b' = h b' := by simp [Heap.set, e]
theorem Heap.set_eq {h : Heap} {b : Nat} {o : Obj} : (h.set b o) b = some o := by simp [Heap.set]
theorem OwnS.set {α : Type} {enc : α → List Value} {sz : Nat} {g h : Heap} {v : Value} {l : List α} (ho : OwnS enc sz g h v l) {b : Nat} {o o' : Obj} (hb : g b = some o) : OwnS enc sz (g.set b o') (h.set b o') v l := by
  obtain ⟨a0, a, cap, h2, h3, h4, h5⟩ := ho
  refine ⟨?_, a, cap, h2, h3, h4, h5.imp id ?_⟩
  · intro x y hx
    by_cases e : x = b
    · subst e; rw [Heap.set_eq] at hx ⊢; exact hx
    · rw [Heap.set_ne e] at hx ⊢; exact a0 x y hx
  · rintro ⟨b', c, t, a1, a2, a3, a4⟩
    have e : b' ≠ b := by intro e; subst e; rw [hb] at a2; cases a2
    exact ⟨b', c, t, a1, by rw [Heap.set_ne e]; exact a2, by rw [Heap.set_ne e]; exact a3, a4⟩
theorem i_st {N : Num} {Γ : Ctx} {h : Heap} {a : Addr} {cs : List Value} (ho : objAt h a cs) (j n : Nat) {x : Value} (hx : x.cells.size = n) (h1 : x.cells.toList.all one = true) (hn : 0 < n) (hj : j + n ≤ cs.length) {K : Value → Heap → Prop}
    (hK : ∀ o, (∀ g : Heap, g a.block = h a.block → objAt (g.set a.block o) a (cs.take j ++ x.cells.toList ++ cs.drop (j + n))) → (∀ g : Heap, g a.block = h a.block → keeps a cs.length g (g.set a.block o)) → K undef (h.set a.block o)) :
    efW N Γ (.st n) [.pointer (some (a.add j)), x] h K := by
  obtain ⟨hs, c, t, h2, h3, h4⟩ := ho
  have hlen : x.cells.toList.length = n := by simp [hx]
  have hpg := fun i => putL_get c x.cells.toList (a.off + j) i (by omega)
  refine ⟨hx, h.set a.block (.cells (putL c (a.off + j) x.cells.toList) t (0, 0)), ?_, ?_⟩
  · rw [addr_add' a hs]
    cases hl : x.cells.toList with
    | nil => rw [hl] at hlen; simp at hlen; omega
    | cons y ys =>
      have h5 : a.off + j + (y :: ys).length ≤ c.size := by rw [← hl]; omega
      have h6 : (y :: ys).all one = true := by rw [← hl]; exact h1
      simp only [putRow, Option.isSome_none, Bool.false_eq_true, if_false, h2]
      rw [if_pos ⟨h5, h6⟩]
  · refine hK _ (fun g hg => ⟨hs, _, t, Heap.set_eq, ?_, ?_⟩) (fun g hg => ⟨?_, ?_⟩)
    · rw [(hpg 0).1]; simp only [List.length_append, List.length_take, List.length_drop, hlen]; omega
    · intro i hi
      simp only [List.length_append, List.length_take, List.length_drop, hlen] at hi
      rw [(hpg _).2]
      by_cases e : a.off + j ≤ a.off + i ∧ a.off + i < a.off + j + x.cells.toList.length
      · rw [if_pos e, List.append_assoc, List.getElem?_append_right (by simp; omega), List.getElem?_append_left (by simp only [List.length_take]; omega)]
        congr 1; simp only [List.length_take]; omega
      · rw [if_neg e, h4 i (by omega)]
        by_cases e2 : i < j
        · rw [List.append_assoc, List.getElem?_append_left (by simp only [List.length_take]; omega), List.getElem?_take_of_lt e2]
        · rw [List.getElem?_append_right (by simp only [List.length_append, List.length_take, hlen]; omega)]
          rw [List.getElem?_drop]
          congr 1; simp only [List.length_append, List.length_take, hlen]; omega
    · intro b o hb h5; rw [Heap.set_ne hb]; exact h5
    · intro c' t' fz h5
      rw [hg, h2] at h5
      cases h5
      refine ⟨_, Heap.set_eq, (hpg 0).1, fun i hi => ?_⟩
      rw [(hpg i).2, if_neg (by omega)]
theorem i_newO {N : Num} {Γ : Ctx} {h : Heap} {t : Nat} {x : Value} {K : Value → Heap → Prop}
    (hx : ∀ b h', Heap.le h h' → h b = none → objAt (fr h h') ⟨b, 0, none⟩ x.cells.toList → K (.pointer (some ⟨b, 0, none⟩)) h') : efW N Γ (.new t) [x] h K := by
  intro b hb
  refine hx b _ ((Heap.le.refl h).new hb _) hb ⟨rfl, x.cells, N.tid t, ?_, by simp, fun i hi => by simp⟩
  simp [fr, hb, Heap.set]
end Go.Cw
namespace Go.Cw
open Go
def disj (f g : Heap) : Prop := ∀ b, f b ≠ none → g b = none
theorem disj.symm {f g : Heap} (h : disj f g) : disj g f := by
  intro b hb
  cases hf : f b with
  | none => rfl
  | some o => exact absurd (h b (by rw [hf]; simp)) hb
structure Step (g h g' h' : Heap) : Prop where
  le : Heap.le g' h'
  frame : ∀ b o, h b = some o → g b = none → h' b = some o
  fresh : ∀ b, h b ≠ none → g b = none → g' b = none
theorem Step.refl {g h : Heap} (hl : Heap.le g h) : Step g h g h := ⟨hl, fun _ _ h _ => h, fun _ _ h => h⟩
theorem Step.trans {g h g' h' g'' h'' : Heap} (a : Step g h g' h') (b : Step g' h' g'' h'') : Step g h g'' h'' := by
  refine ⟨b.le, fun x o h1 h2 => ?_, fun x h1 h2 => ?_⟩
  · exact b.frame x o (a.frame x o h1 h2) (a.fresh x (by rw [h1]; simp) h2)
  · refine b.fresh x ?_ (a.fresh x h1 h2)
    cases hx : h x with
    | none => exact absurd hx h1
    | some o => rw [a.frame x o hx h2]; simp
theorem Step.keep {g h g' h' f : Heap} (a : Step g h g' h') (hf : Heap.le f h) (hd : disj f g) : Heap.le f h' ∧ disj f g' := by
  refine ⟨fun b o hb => a.frame b o (hf b o hb) (hd b (by rw [hb]; simp)), fun b hb => ?_⟩
  cases hfb : f b with
  | none => exact absurd hfb hb
  | some o => exact a.fresh b (by rw [hf b o hfb]; simp) (hd b hb)
theorem Step.alloc {g h h' : Heap} (hg : Heap.le g h) (hl : Heap.le h h') : Step g h (join g (fr h h')) h' := by
  refine ⟨join_le (hg.trans hl) (fr_le _ _), fun b o h1 _ => hl b o h1, fun b h1 h2 => ?_⟩
  cases hb : h b with
  | none => exact absurd hb h1
  | some o => exact join_none h2 (fr_none hb)
theorem Step.more {g h h' : Heap} (hg : Heap.le g h) (hl : Heap.le h h') : Step g h g h' := ⟨hg.trans hl, fun b o h1 _ => hl b o h1, fun _ _ h => h⟩
theorem Step.set {g h : Heap} (hg : Heap.le g h) {b : Nat} (hb : g b ≠ none) (o : Obj) : Step g h (g.set b o) (h.set b o) := by
  refine ⟨?_, fun x y h1 h2 => ?_, fun x h1 h2 => ?_⟩
  · intro x y hx
    by_cases e : x = b
    · subst e; rw [Heap.set_eq] at hx ⊢; exact hx
    · rw [Heap.set_ne e] at hx ⊢; exact hg x y hx
  · have e : x ≠ b := by intro e; subst e; exact hb h2
    rw [Heap.set_ne e]; exact h1
  · have e : x ≠ b := by intro e; subst e; exact hb h2
    rw [Heap.set_ne e]; exact h2
theorem Step.part {g h g' h' f : Heap} (a : Step g h g' h') (hf : Heap.le f h) (hd : disj f g) : Step (join f g) h (join f g') h' := by
  obtain ⟨k1, k2⟩ := a.keep hf hd
  refine ⟨join_le k1 a.le, fun b o h1 h2 => ?_, fun b h1 h2 => ?_⟩
  · have hg : g b = none := by
      simp only [join] at h2
      cases hfb : f b with
      | none => rw [hfb] at h2; simpa using h2
      | some x => rw [hfb] at h2; simp at h2
    exact a.frame b o h1 hg
  · have hfb : f b = none := by
      cases hfb : f b with
      | none => rfl
      | some x => simp only [join, hfb] at h2; simp at h2
    have hg : g b = none := by simp only [join, hfb] at h2; simpa using h2
    exact join_none hfb (a.fresh b h1 hg)
section
variable {κ ν : Type} [DecidableEq κ]
class KeyOk (kb : Bk) (ek : κ → Value) : Prop where
  eq : ∀ a b, cellEq kb (ek a) (ek b) = some (decide (a = b))
def encKS (s : List UInt8) : Value := .string (str s)
def encKI (n : Int) : Value := .int .i64 n
instance : KeyOk .str encKS where
  eq := by intro a b; simp [cellEq, encKS, str_beq]
instance : KeyOk .int encKI where
  eq := by
    intro a b
    simp only [cellEq, encKI, if_true]
    rfl
def lookI : List (κ × ν) → κ → Nat → Option (Nat × ν)
  | [], _, _ => none
  | p :: r, k, i => if k = p.1 then some (i, p.2) else lookI r k (i + 1)
def look (kv : List (κ × ν)) (k : κ) : Option ν := (lookI kv k 0).map (·.2)
def upd : List (κ × ν) → κ → ν → List (κ × ν)
  | [], k, v => [(k, v)]
  | p :: r, k, v => if k = p.1 then (k, v) :: r else p :: upd r k v
theorem lookI_shift (kv : List (κ × ν)) (k : κ) : ∀ (i j : Nat), lookI kv k (i + j) = (lookI kv k i).map fun p => (p.1 + j, p.2) := by
  induction kv with
  | nil => intro i j; rfl
  | cons p r ih =>
    intro i j
    simp only [lookI]
    split
    · rfl
    · rw [show i + j + 1 = (i + 1) + j by omega, ih]
theorem look_nil (k : κ) : look ([] : List (κ × ν)) k = none := rfl
theorem look_cons (p : κ × ν) (r : List (κ × ν)) (k : κ) : look (p :: r) k = if k = p.1 then some p.2 else look r k := by
  unfold look
  simp only [lookI]
  split
  · rfl
  · have := lookI_shift r k 0 1
    rw [this]; cases lookI r k 0 <;> rfl
theorem look_upd (kv : List (κ × ν)) (k k' : κ) (v : ν) : look (upd kv k v) k' = if k' = k then some v else look kv k' := by
  induction kv with
  | nil => simp only [upd, look_cons, look_nil]
  | cons p r ih =>
    simp only [upd]
    split
    · rename_i e; subst e
      simp only [look_cons]
      split
      · rfl
      · rfl
    · rename_i e
      simp only [look_cons, ih]
      by_cases e1 : k' = p.1
      · have e2 : k' ≠ k := by intro e3; exact e (e3.symm.trans e1)
        rw [if_pos e1, if_neg e2, if_pos e1]
      · rw [if_neg e1, if_neg e1]
theorem look_mem {kv : List (κ × ν)} {k : κ} {v : ν} (h : look kv k = some v) : (k, v) ∈ kv := by
  induction kv with
  | nil => simp [look_nil] at h
  | cons p r ih =>
    rw [look_cons] at h
    split at h
    · rename_i e; cases h; subst e; simp
    · exact List.mem_cons_of_mem _ (ih h)
theorem look_none {kv : List (κ × ν)} {k : κ} (h : look kv k = none) : k ∉ kv.map (·.1) := by
  induction kv with
  | nil => simp
  | cons p r ih =>
    rw [look_cons] at h
    split at h
    · cases h
    · rename_i e
      have := ih h
      simp only [List.map_cons, List.mem_cons, not_or]
      exact ⟨e, this⟩
theorem look_of_mem {kv : List (κ × ν)} (hn : (kv.map (·.1)).Nodup) {k : κ} {v : ν} (h : (k, v) ∈ kv) : look kv k = some v := by
  induction kv with
  | nil => simp at h
  | cons p r ih =>
    rw [look_cons]
    simp only [List.map_cons, List.nodup_cons] at hn
    simp only [List.mem_cons] at h
    rcases h with rfl | h
    · simp
    · have : k ≠ p.1 := by rintro rfl; exact hn.1 (List.mem_map.2 ⟨_, h, rfl⟩)
      rw [if_neg this]; exact ih hn.2 h
theorem upd_keys (kv : List (κ × ν)) (k : κ) (v : ν) : (upd kv k v).map (·.1) = if k ∈ kv.map (·.1) then kv.map (·.1) else kv.map (·.1) ++ [k] := by
  induction kv with
  | nil => simp [upd]
  | cons p r ih =>
    simp only [upd]
    split
    · rename_i e; subst e; simp
    · rename_i e
      simp only [List.map_cons, ih, List.mem_cons]
      by_cases h : k ∈ r.map (·.1)
      · simp [h]
      · simp [h, e]
theorem upd_nodup {kv : List (κ × ν)} (hn : (kv.map (·.1)).Nodup) (k : κ) (v : ν) : ((upd kv k v).map (·.1)).Nodup := by
  rw [upd_keys]
  split
  · exact hn
  · rename_i h
    rw [List.nodup_append]
    refine ⟨hn, by simp, ?_⟩
    intro a ha b hb e
    simp at hb; subst hb; subst e; exact h ha
def mkE (ek : κ → Value) (ev : ν → Value) (p : κ × ν) (b : Nat) : MapEntry := { key := ek p.1, val := ev p.2, born := b }
def MapB (ek : κ → Value) (ev : ν → Value) (g : Heap) (m : Nat) (kv : List (κ × ν)) (bs : List Nat) (ck : Nat) : Prop :=
  ∃ es : Array MapEntry, g m = some (.map es ck) ∧ es.toList = List.zipWith (mkE ek ev) kv bs ∧ bs.length = kv.length ∧ bs.Nodup ∧ (∀ b ∈ bs, b < ck) ∧ (kv.map (·.1)).Nodup
omit [DecidableEq κ] in
theorem MapB.le {ek : κ → Value} {ev : ν → Value} {g h : Heap} {m : Nat} {kv : List (κ × ν)} {bs : List Nat} {ck : Nat} (hm : MapB ek ev g m kv bs ck) (hl : Heap.le g h) : MapB ek ev h m kv bs ck := by
  obtain ⟨es, h1, h2⟩ := hm; exact ⟨es, hl _ _ h1, h2⟩
theorem findE_eq {kb : Bk} {ek : κ → Value} [hk : KeyOk kb ek] {ev : ν → Value} (k : κ) : ∀ (kv : List (κ × ν)) (bs : List Nat) (i : Nat), bs.length = kv.length →
    findE kb (ek k) (List.zipWith (mkE ek ev) kv bs) i = some ((lookI kv k i).map fun p => (p.1, ev p.2)) := by
  intro kv
  induction kv with
  | nil => intro bs i h; cases bs <;> rfl
  | cons p r ih =>
    intro bs i h
    cases bs with
    | nil => simp at h
    | cons b bs =>
      simp only [List.zipWith_cons_cons, findE, mkE, hk.eq, lookI]
      by_cases e : k = p.1
      · simp [e]
      · simp only [e, decide_false, if_false]
        exact ih bs (i + 1) (by simpa using h)
theorem MapB.rules (kb : Bk) {ek : κ → Value} [KeyOk kb ek] {ev : ν → Value} {h : Heap} {m : Nat} {kv : List (κ × ν)} {bs : List Nat} {ck : Nat} (hm : MapB ek ev h m kv bs ck) :
    (∀ z k, o2V h (.lkp kb z) (.v (.map (some m))) (.v (ek k)) = some (.v (match look kv k with | some x => ev x | none => z))) ∧
    (∀ z k, o2V h (.lkpo kb z) (.v (.map (some m))) (.v (ek k)) = some (.v (match look kv k with | some x => .tuple #[ev x, .bool true] | none => .tuple #[z, .bool false]))) ∧
    (∀ N env, o1V N env h .mlen (.v (.map (some m))) = some (.v (.int .i64 kv.length))) := by
  obtain ⟨es, h1, h2, h3, h4, h5, h6⟩ := hm
  have he : entriesOf h (.map (some m)) = some (List.zipWith (mkE ek ev) kv bs) := by simp [entriesOf, h1, h2]
  refine ⟨fun z k => ?_, fun z k => ?_, fun N env => ?_⟩
  · simp only [o2V, he, Option.bind_some, findE_eq k kv bs 0 h3, Option.map_some, look]
    cases lookI kv k 0 <;> rfl
  · simp only [o2V, he, Option.bind_some, findE_eq k kv bs 0 h3, Option.map_some, look]
    cases lookI kv k 0 <;> rfl
  · simp only [o1V, he, Option.map_some, List.length_zipWith, h3, Nat.min_self]
theorem lookI_spec : ∀ (kv : List (κ × ν)) (k : κ) (i j : Nat) (v : ν), lookI kv k i = some (j, v) → i ≤ j ∧ kv[j - i]? = some (k, v) ∧ ∀ w, upd kv k w = kv.set (j - i) (k, w) := by
  intro kv
  induction kv with
  | nil => intro k i j v h; simp [lookI] at h
  | cons p r ih =>
    intro k i j v h
    simp only [lookI] at h
    split at h
    · rename_i e; cases h; subst e
      refine ⟨Nat.le_refl _, by simp, fun w => by simp [upd]⟩
    · rename_i e
      obtain ⟨h1, h2, h3⟩ := ih _ _ _ _ h
      have e2 : j - i = (j - (i + 1)) + 1 := by omega
      refine ⟨by omega, by rw [e2]; simpa using h2, fun w => ?_⟩
      rw [e2]; simp [upd, e, h3 w]
theorem lookI_none {kv : List (κ × ν)} {k : κ} {i : Nat} (h : lookI kv k i = none) : k ∉ kv.map (·.1) ∧ ∀ w, upd kv k w = kv ++ [(k, w)] := by
  induction kv generalizing i with
  | nil => simp [upd]
  | cons p r ih =>
    simp only [lookI] at h
    split at h
    · cases h
    · rename_i e
      obtain ⟨h1, h2⟩ := ih h
      refine ⟨?_, fun w => by simp [upd, e, h2 w]⟩
      simp only [List.map_cons, List.mem_cons, not_or]; exact ⟨e, h1⟩
omit [DecidableEq κ] in
theorem zip_modify {ek : κ → Value} {ev : ν → Value} : ∀ (kv : List (κ × ν)) (bs : List Nat) (j : Nat) (k : κ) (v w : ν), bs.length = kv.length → kv[j]? = some (k, v) →
    (List.zipWith (mkE ek ev) kv bs).modify j (fun e => { e with key := ek k, val := ev w }) = List.zipWith (mkE ek ev) (kv.set j (k, w)) bs := by
  intro kv
  induction kv with
  | nil => intro bs j k v w h hj; simp at hj
  | cons p r ih =>
    intro bs j k v w h hj
    cases bs with
    | nil => simp at h
    | cons b bs =>
      cases j with
      | zero => simp [mkE]
      | succ j => simpa using ih bs j k v w (by simpa using h) (by simpa using hj)
theorem i_mupd {kb : Bk} {ek : κ → Value} [KeyOk kb ek] {ev : ν → Value} {N : Num} {Γ : Ctx} {g h : Heap} {m : Nat} {kv : List (κ × ν)} {bs : List Nat} {ck : Nat} (hm : MapB ek ev g m kv bs ck) (hg : Heap.le g h) (k : κ) (v : ν) {K : Value → Heap → Prop}
    (hK : ∀ o bs' ck', MapB ek ev (g.set m o) m (upd kv k v) bs' ck' → Step g h (g.set m o) (h.set m o) → (k ∈ kv.map (·.1) → bs' = bs ∧ ck' = ck) → K undef (h.set m o)) : efW N Γ (.mupd kb) [.map (some m), ek k, ev v] h K := by
  obtain ⟨es, h1, h2, h3, h4, h5, h6⟩ := hm
  have hgm : g m ≠ none := by rw [h1]; simp
  refine ⟨es, ck, hg _ _ h1, _, by rw [h2]; exact findE_eq k kv bs 0 h3, ?_⟩
  cases hl : lookI kv k 0 with
  | none =>
    obtain ⟨n1, n2⟩ := lookI_none hl
    simp only [Option.map_none]
    refine hK _ (bs ++ [ck]) (ck + 1) ⟨_, Heap.set_eq, ?_, ?_, ?_, ?_, ?_⟩ (Step.set hg hgm _) (fun hk => absurd hk n1)
    · rw [n2 v]
      simp only [Array.toList_push, h2]
      rw [List.zipWith_append (by simpa using h3.symm)]; simp [mkE]
    · rw [n2 v]; simp [h3]
    · rw [List.nodup_append]
      refine ⟨h4, by simp, ?_⟩
      intro a ha b hb e; simp at hb; subst hb; subst e; exact Nat.lt_irrefl _ (h5 a ha)
    · intro b hb; simp at hb; rcases hb with hb | rfl
      · have := h5 b hb; omega
      · omega
    · exact upd_nodup h6 k v
  | some p =>
    obtain ⟨j, x⟩ := p
    obtain ⟨_, a2, a3⟩ := lookI_spec kv k 0 j x hl
    simp only [Option.map_some]
    rw [Nat.sub_zero] at a2
    have a3' := a3 v
    rw [Nat.sub_zero] at a3'
    refine hK _ bs ck ⟨_, Heap.set_eq, ?_, ?_, h4, h5, ?_⟩ (Step.set hg hgm _) (fun _ => ⟨rfl, rfl⟩)
    · rw [a3', ← zip_modify kv bs j k x v h3 a2, ← h2]; simp
    · rw [a3']; simpa using h3
    · exact upd_nodup h6 k v
omit [DecidableEq κ] in
theorem i_mnew {ek : κ → Value} {ev : ν → Value} {N : Num} {Γ : Ctx} {h : Heap} {K : Value → Heap → Prop}
    (hK : ∀ m h', h m = none → Heap.le h h' → MapB ek ev (fr h h') m ([] : List (κ × ν)) [] 0 → K (.map (some m)) h') : efW N Γ .mnew [] h K := by
  intro m hm
  refine hK m _ hm ((Heap.le.refl h).new hm _) ⟨#[], ?_, by simp, by simp, by simp, by simp, by simp⟩
  simp [fr, hm, Heap.set]
def IterB (h : Heap) (r m : Nat) (ck : Nat) (dn : List Nat) : Prop := h r = some (.mapIter (some m) ck dn.toArray ck)
theorem i_rng {N : Num} {Γ : Ctx} {h : Heap} {m : Nat} {es : Array MapEntry} {ck : Nat} (hm : h m = some (.map es ck)) {K : Value → Heap → Prop}
    (hK : ∀ r h', h r = none → Heap.le h h' → IterB (fr h h') r m ck [] → K (.pointer (some ⟨r, 0, none⟩)) h') : efW N Γ .rng [.map (some m)] h K := by
  refine ⟨es, ck, hm, fun r hr => hK r _ hr ((Heap.le.refl h).new hr _) ?_⟩
  simp [IterB, fr, hr, Heap.set]
theorem i_rng0 {N : Num} {Γ : Ctx} {h : Heap} {K : Value → Heap → Prop}
    (hK : ∀ r h', h r = none → Heap.le h h' → fr h h' r = some (.mapIter none 0 #[] 0) → K (.pointer (some ⟨r, 0, none⟩)) h') : efW N Γ .rng [.map none] h K := by
  intro r hr
  exact hK r _ hr ((Heap.le.refl h).new hr _) (by simp [fr, hr, Heap.set])
theorem i_nxt0 {N : Num} {Γ : Ctx} {h : Heap} {r a b : Nat} {s : Array Nat} (hr : h r = some (.mapIter none a s b)) {K : Value → Heap → Prop} (hK : K (.tuple #[.bool false]) h) : efW N Γ .nxt [.pointer (some ⟨r, 0, none⟩)] h K :=
  .inl ⟨_, _, _, hr, hK⟩
omit [DecidableEq κ] in
theorem i_nxt {ek : κ → Value} {ev : ν → Value} {N : Num} {Γ : Ctx} {h : Heap} {r m : Nat} {kv : List (κ × ν)} {bs : List Nat} {ck : Nat} (hm : MapB ek ev h m kv bs ck) {dn : List Nat} (hr : IterB h r m ck dn) (hsub : ∀ b ∈ dn, b ∈ bs) {K : Value → Heap → Prop}
    (hend : (∀ b ∈ bs, b ∈ dn) → K (.tuple #[.bool false]) h)
    (hnext : ∀ (i b : Nat) k v, kv[i]? = some (k, v) → bs[i]? = some b → b ∉ dn → K (.tuple #[.bool true, ek k, ev v]) (h.set r (.mapIter (some m) ck (dn ++ [b]).toArray ck))) : efW N Γ .nxt [.pointer (some ⟨r, 0, none⟩)] h K := by
  obtain ⟨es, h1, h2, h3, h4, h5, h6⟩ := hm
  have hmem : ∀ e ∈ es.toList, ∃ (i : Nat) (k : κ) (v : ν) (b : Nat), kv[i]? = some (k, v) ∧ bs[i]? = some b ∧ e = mkE ek ev (k, v) b := by
    intro e he
    rw [h2] at he
    obtain ⟨i, hi, rfl⟩ := List.getElem_of_mem he
    simp only [List.length_zipWith] at hi
    have hi1 : i < kv.length := by omega
    have hi2 : i < bs.length := by omega
    exact ⟨i, kv[i].1, kv[i].2, bs[i], by simp [hi1], by simp [hi2], by simp⟩
  have hborn : ∀ e ∈ es.toList, e.born ∈ bs ∧ e.born < ck := by
    intro e he
    obtain ⟨i, k, v, b, a1, a2, rfl⟩ := hmem e he
    have := List.mem_of_getElem? a2
    exact ⟨this, h5 _ this⟩
  have hnew : (es.filter fun e => !dn.toArray.contains e.born).filter (fun e => decide (e.born ≥ ck)) = #[] := by
    apply Array.toList_inj.1
    simp only [Array.toList_filter]
    rw [List.filter_eq_nil_iff]
    intro e he
    have := (hborn e (List.mem_filter.1 he).1).2
    simp; omega
  have hold : ∀ e, e ∈ ((es.filter fun e => !dn.toArray.contains e.born).filter (fun e => decide (e.born < ck))) ↔ e ∈ es.toList ∧ e.born ∉ dn := by
    intro e
    simp only [Array.mem_filter, Array.mem_toList_iff]
    constructor
    · rintro ⟨⟨a, b⟩, _⟩; exact ⟨a, by simpa using b⟩
    · rintro ⟨a, b⟩; exact ⟨⟨a, by simpa using b⟩, by simpa using (hborn e (by simpa using a)).2⟩
  refine .inr ⟨m, ck, dn.toArray, ck, es, ck, hr, h1, ?_, ?_, ?_⟩
  · by_cases he : es.isEmpty
    · simp [he]
    · have : ∃ e, e ∈ es.toList := by
        cases hl : es.toList with
        | nil => exfalso; apply he; simp [Array.isEmpty, ← Array.length_toList, hl]
        | cons e l => exact ⟨e, by simp⟩
      obtain ⟨e, hme⟩ := this
      have hlt := (hborn e hme).2
      have : es.all (fun x => decide (x.born ≥ ck)) = false := by
        rw [← Array.all_toList, List.all_eq_false]
        exact ⟨e, hme, by simp; omega⟩
      simp [this]
  · unfold cands
    simp only [hnew]
    intro h0
    simp only [Array.size_append, Array.size_map] at h0
    split at h0
    · simp at h0
    · rename_i hne
      apply hne
      simpa using h0
  · intro c hc
    unfold cands at hc
    simp only [hnew] at hc
    cases c with
    | none =>
      apply hend
      simp only [Array.toList_append, List.mem_append] at hc
      rcases hc with hc | hc
      · split at hc
        · rename_i hemp
          intro b hb
          apply Classical.byContradiction
          intro hnb
          obtain ⟨i, hi, rfl⟩ := List.getElem_of_mem hb
          have hi1 : i < kv.length := by omega
          have : mkE ek ev kv[i] bs[i] ∈ es.toList := by
            rw [h2]
            have hlen : i < (List.zipWith (mkE ek ev) kv bs).length := by simp; omega
            have e : (List.zipWith (mkE ek ev) kv bs)[i] = mkE ek ev kv[i] bs[i] := by simp
            rw [← e]; exact List.getElem_mem hlen
          have h7 := (hold _).2 ⟨this, by simpa [mkE] using hnb⟩
          simp only [Array.isEmpty_iff] at hemp
          rw [hemp] at h7
          simp at h7
        · simp at hc
      · simp at hc
    | some e =>
      simp only [Array.toList_append, List.mem_append] at hc
      rcases hc with hc | hc
      · split at hc <;> simp at hc
      · simp only [Array.append_empty, Array.toList_map, List.mem_map, Option.some.injEq, exists_eq_right, Array.mem_toList_iff] at hc
        obtain ⟨a1, a2⟩ := (hold e).1 hc
        obtain ⟨i, k, v, b, b1, b2, rfl⟩ := hmem e a1
        have := hnext i b k v b1 b2 a2
        simpa [mkE] using this
omit [DecidableEq κ] in
theorem i_ent {ek : κ → Value} {ev : ν → Value} {N : Num} {Γ : Ctx} {h : Heap} {r m : Nat} {kv : List (κ × ν)} {bs : List Nat} {ck : Nat} (hm : MapB ek ev h m kv bs ck) {dn : List Nat} {b : Nat} (hr : IterB h r m ck (dn ++ [b])) {i : Nat} {k : κ} {v : ν}
    (h1 : kv[i]? = some (k, v)) (h2 : bs[i]? = some b) {K : Value → Heap → Prop} (hK : K (.tuple #[ek k, ev v]) h) : efW N Γ .ent [.pointer (some ⟨r, 0, none⟩)] h K := by
  obtain ⟨es, a1, a2, a3, a4, a5, a6⟩ := hm
  have hfind : ∀ (kv : List (κ × ν)) (bs : List Nat) (i : Nat), bs.length = kv.length → bs.Nodup → kv[i]? = some (k, v) → bs[i]? = some b → (List.zipWith (mkE ek ev) kv bs).find? (fun e => e.born == b) = some (mkE ek ev (k, v) b) := by
    intro kv
    induction kv with
    | nil => intro bs i _ _ h; simp at h
    | cons p kr ih =>
      intro bs i hl hn hk hb
      cases bs with
      | nil => simp at hl
      | cons b' bs =>
        cases i with
        | zero => simp at hk hb; subst hk; subst hb; simp [mkE]
        | succ i =>
          simp only [List.getElem?_cons_succ] at hk hb
          simp only [List.nodup_cons] at hn
          have : b' ≠ b := by rintro rfl; exact hn.1 (List.mem_of_getElem? hb)
          simp only [List.zipWith_cons_cons, List.find?_cons]
          have hf : ((mkE ek ev p b').born == b) = false := by simp [mkE, this]
          rw [hf]
          exact ih bs i (by simpa using hl) hn.2 hk hb
  refine ⟨m, ck, (dn ++ [b]).toArray, ck, b, es, hr, by simp, a1, mkE ek ev (k, v) b, ?_, hK⟩
  rw [← Array.find?_toList, a2]
  exact hfind kv bs i a3 a4 h1 h2
end
end Go.Cw
namespace Go.Cw
open Go
def blkOf : Value → Option Nat
  | .slice (some a) _ _ => some a.block
  | _ => none
def SlB {α : Type} (enc : α → List Value) (sz : Nat) (g : Heap) (v : Value) (l : List α) : Prop :=
  ∃ a cap, v = .slice a l.length cap ∧ l.length ≤ cap ∧ cap ≤ maxLen ∧
    ((a = none ∧ l = [] ∧ cap = 0) ∨ ∃ b c t, a = some ⟨b, 0, none⟩ ∧ g b = some (.cells c t (0, 0)) ∧ c.size = cap * sz ∧ ∀ i, i < (l.flatMap enc).length → c[i]? = (l.flatMap enc)[i]?)
theorem SlB.own {α : Type} {enc : α → List Value} {sz : Nat} {g h0 : Heap} {v : Value} {l : List α} (hs : SlB enc sz g v l) (hl : Heap.le h0 g) (hb : ∀ b, blkOf v = some b → h0 b = none) : OwnS enc sz h0 g v l := by
  obtain ⟨a, cap, rfl, h1, h2, h3⟩ := hs
  refine ⟨hl, a, cap, rfl, h1, h2, h3.imp id ?_⟩
  rintro ⟨b, c, t, rfl, h4, h5, h6⟩
  exact ⟨b, c, t, rfl, hb b rfl, h4, h5, h6⟩
theorem OwnS.slb {α : Type} {enc : α → List Value} {sz : Nat} {g h0 : Heap} {v : Value} {l : List α} (hs : OwnS enc sz h0 g v l) : SlB enc sz g v l ∧ ∀ b, blkOf v = some b → h0 b = none := by
  obtain ⟨_, a, cap, rfl, h1, h2, h3⟩ := hs
  refine ⟨⟨a, cap, rfl, h1, h2, h3.imp id ?_⟩, ?_⟩
  · rintro ⟨b, c, t, rfl, _, h4, h5, h6⟩
    exact ⟨b, c, t, rfl, h4, h5, h6⟩
  · intro b hb
    rcases h3 with ⟨rfl, _⟩ | ⟨b', c, t, rfl, h3, _⟩
    · simp [blkOf] at hb
    · simp only [blkOf, Option.some.injEq] at hb; subst hb; exact h3
theorem SlB.nil {α : Type} {enc : α → List Value} {sz : Nat} {g : Heap} : SlB enc sz g (.slice none 0 0) ([] : List α) := ⟨none, 0, rfl, by simp, by simp [maxLen], .inl ⟨rfl, rfl, rfl⟩⟩
theorem SlB.mem {α : Type} {enc : α → List Value} {sz : Nat} {g : Heap} {v : Value} {l : List α} (hs : SlB enc sz g v l) {b : Nat} (hb : blkOf v = some b) : g b ≠ none := by
  obtain ⟨a, cap, rfl, h1, h2, h3⟩ := hs
  rcases h3 with ⟨rfl, _⟩ | ⟨b', c, t, rfl, h3, _⟩
  · simp [blkOf] at hb
  · simp only [blkOf, Option.some.injEq] at hb; subst hb; rw [h3]; simp
theorem SlB.same {α : Type} {enc : α → List Value} {sz : Nat} {g g' : Heap} {v : Value} {l : List α} (hs : SlB enc sz g v l) (hb : ∀ b, blkOf v = some b → g' b = g b) : SlB enc sz g' v l := by
  obtain ⟨a, cap, rfl, h1, h2, h3⟩ := hs
  refine ⟨a, cap, rfl, h1, h2, h3.imp id ?_⟩
  rintro ⟨b, c, t, rfl, h4, h5, h6⟩
  exact ⟨b, c, t, rfl, by rw [hb b rfl]; exact h4, h5, h6⟩
theorem SlB.le {α : Type} {enc : α → List Value} {sz : Nat} {g g' : Heap} {v : Value} {l : List α} (hs : SlB enc sz g v l) (hl : Heap.le g g') : SlB enc sz g' v l := by
  refine hs.same fun b hb => ?_
  cases hg : g b with
  | none => exact absurd hg (hs.mem hb)
  | some o => exact hl b o hg
theorem SlB.sl {α : Type} {enc : α → List Value} {sz : Nat} (he : ∀ x, (enc x).length = sz) {g : Heap} {v : Value} {l : List α} (hs : SlB enc sz g v l) : Sl enc g v l := by
  have := hs.own (h0 := fun _ => none) (fun b o h => by cases h) (fun _ _ => rfl)
  exact this.sl he
theorem SlB.one {α : Type} {enc : α → List Value} {sz : Nat} {g : Heap} {v : Value} {l : List α} (hs : SlB enc sz g v l) : Cw.one v = true ∧ v.cells = #[v] := by
  obtain ⟨a, cap, rfl, _⟩ := hs; exact ⟨rfl, rfl⟩
theorem i_bslB {α : Type} (enc : α → List Value) (sz : Nat) (he : ∀ x, (enc x).length = sz) (l : List α) {N : Num} {Γ : Ctx} {h : Heap} {t n : Nat} {c : Array Value} {K : Value → Heap → Prop} (hc : c.toList = l.flatMap enc) (hn : n = l.length) (hm : l.length ≤ maxLen)
    (hx : ∀ v b h', Heap.le h h' → h b = none → blkOf v = some b → SlB enc sz (fr h h') v l → K v h') : efW N Γ (.bsl t n) [.agg c] h K := by
  subst hn
  intro b hb
  refine hx _ b _ ((Heap.le.refl h).new hb _) hb rfl ⟨_, _, rfl, Nat.le_refl _, hm, .inr ⟨b, c, N.tid t, rfl, by simp [fr, hb, Heap.set], ?_, ?_⟩⟩
  · rw [← Array.length_toList, hc, flat_len he]
  · intro i hi
    rw [← Array.getElem?_toList, hc]
theorem i_appB {α : Type} {enc : α → List Value} {sz : Nat} (he : ∀ x, (enc x).length = sz) {N : Num} {Γ : Ctx} {g h : Heap} {t bytes : Nat} {v x : Value} {l l' : List α} (hone : ∀ x ∈ l', (enc x).all Cw.one = true)
    (hs : SlB enc sz g v l) (hg : Heap.le g h) (hx : Sl enc h x l') (hlen : (l.length + l'.length) * (bytes + 1) ≤ 1073741824) {K : Value → Heap → Prop}
    (hK : ∀ v' h' g', SlB enc sz g' v' (l ++ l') → Step g h g' h' → (∀ b, blkOf v ≠ some b → blkOf v' ≠ some b → g' b = g b) → (∀ b, blkOf v' = some b → blkOf v = some b ∨ h b = none) →
      (∀ b o, h b = some o → blkOf v ≠ some b → h' b = some o) → K v' h') : efW N Γ (.app t sz bytes) [v, x] h K := by
  have hown : OwnS enc sz (fun b => if blkOf v = some b then none else h b) h v l := by
    refine (hs.le hg).own ?_ ?_
    · intro b o hb; dsimp only at hb; split at hb
      · cases hb
      · exact hb
    · intro b hb; simp [hb]
  refine i_app1 he hone hown hx hlen fun v' h' ho => ?_
  obtain ⟨h1, h2⟩ := ho.slb
  have hle := ho.1
  refine hK v' h' (fun b => if blkOf v' = some b then h' b else if blkOf v = some b then none else g b) ?_ ⟨?_, ?_, ?_⟩ ?_ ?_ ?_
  · exact h1.same fun b hb => by simp [hb]
  · intro b o hb
    dsimp only at hb
    split at hb
    · exact hb
    · split at hb
      · cases hb
      · rename_i hv; exact hle b o (by simp [hv]; exact hg b o hb)
  · intro b o hb hgb
    have hv : blkOf v ≠ some b := fun e => hs.mem e hgb
    exact hle b o (by simp [hv]; exact hb)
  · intro b hb hgb
    have hv : blkOf v ≠ some b := fun e => hs.mem e hgb
    have hv' : blkOf v' ≠ some b := by
      intro e
      have := h2 b e
      simp only [hv, if_false] at this
      exact hb this
    simp [hv, hv', hgb]
  · intro b hv hv'; simp [hv, hv']
  · intro b hb
    have := h2 b hb
    by_cases e : blkOf v = some b
    · exact .inl e
    · simp only [e, if_false] at this; exact .inr this
  · intro b o hb hv
    exact hle b o (by simp [hv]; exact hb)
theorem OwnS.slf2 {α : Type} {enc : α → List Value} {sz : Nat} (he : ∀ x, (enc x).length = sz) {h0 h : Heap} {v : Value} {l : List α} (ho : OwnS enc sz h0 h v l) : Sl enc (fr h0 h) v l :=
  SlB.sl he (ho.slb.1.same fun b hb => by simp [fr, ho.slb.2 b hb])
end Go.Cw
namespace Go.Cw
open Go
structure Si where
  place : Int
  strength : Int
  time : Int
  tag : List UInt8
  deriving DecidableEq, Inhabited
def Si.enc (s : Si) : List Value := [.int .i64 s.place, .int .i64 s.strength, .int .i64 s.time, .string (str s.tag)]
theorem Si.enc_len (s : Si) : s.enc.length = 4 := rfl
theorem Si.enc_one (s : Si) : s.enc.all one = true := rfl
def Si.bad (s : Si) : Prop := s.place < 0 ∨ 7 < s.place ∨ s.strength < 0 ∨ 255 < s.strength
instance Si.decBad (s : Si) : Decidable s.bad := by unfold Si.bad; infer_instance
def seen (l : List Si) (tag : List UInt8) (p : Int) : Prop := ∃ s ∈ l, s.tag = tag ∧ s.place = p
instance (l : List Si) (tag : List UInt8) (p : Int) : Decidable (seen l tag p) := by unfold seen; infer_instance
def sumS (l : List Si) (tag : List UInt8) (p : Int) : Int := ((l.filter fun s => decide (s.tag = tag ∧ s.place = p)).map (·.strength)).sum
def toldIn (l : List Si) (tag : List UInt8) : Prop := ∃ s ∈ l, s.tag = tag
instance (l : List Si) (tag : List UInt8) : Decidable (toldIn l tag) := by unfold toldIn; infer_instance
abbrev Ep := List (List UInt8 × List (Int × Int))
def addS (E : Ep) (s : Si) : Ep := upd E s.tag (upd ((look E s.tag).getD []) s.place ((look ((look E s.tag).getD []) s.place).getD 0 + s.strength))
def tellE (l : List Si) : Ep := l.foldl addS []
theorem tellE_snoc (l : List Si) (s : Si) : tellE (l ++ [s]) = addS (tellE l) s := by simp [tellE]
theorem snoc_ind {α : Type} {P : List α → Prop} (h0 : P []) (hs : ∀ l a, P l → P (l ++ [a])) (l : List α) : P l := by
  have : ∀ n (l : List α), l.length = n → P l := by
    intro n
    induction n with
    | zero => intro l h; rw [List.eq_nil_of_length_eq_zero h]; exact h0
    | succ n ih =>
      intro l h
      rcases List.eq_nil_or_concat l with rfl | ⟨l', a, rfl⟩
      · exact h0
      · rw [List.concat_eq_append] at h ⊢; exact hs l' a (ih l' (by simpa using h))
  exact this _ l rfl
theorem seen_snoc (l : List Si) (s : Si) (tag : List UInt8) (p : Int) : seen (l ++ [s]) tag p ↔ seen l tag p ∨ (s.tag = tag ∧ s.place = p) := by
  simp only [seen, List.mem_append, List.mem_singleton]
  constructor
  · rintro ⟨x, hx | rfl, h⟩
    · exact .inl ⟨x, hx, h⟩
    · exact .inr h
  · rintro (⟨x, hx, h⟩ | h)
    · exact ⟨x, .inl hx, h⟩
    · exact ⟨s, .inr rfl, h⟩
theorem toldIn_snoc (l : List Si) (s : Si) (tag : List UInt8) : toldIn (l ++ [s]) tag ↔ toldIn l tag ∨ s.tag = tag := by
  simp only [toldIn, List.mem_append, List.mem_singleton]
  constructor
  · rintro ⟨x, hx | rfl, h⟩
    · exact .inl ⟨x, hx, h⟩
    · exact .inr h
  · rintro (⟨x, hx, h⟩ | h)
    · exact ⟨x, .inl hx, h⟩
    · exact ⟨s, .inr rfl, h⟩
theorem sumS_snoc (l : List Si) (s : Si) (tag : List UInt8) (p : Int) : sumS (l ++ [s]) tag p = sumS l tag p + (if s.tag = tag ∧ s.place = p then s.strength else 0) := by
  unfold sumS
  rw [List.filter_append, List.map_append, List.sum_append]
  by_cases h : s.tag = tag ∧ s.place = p <;> simp [h]
theorem sumS_zero {l : List Si} {tag : List UInt8} {p : Int} (h : ¬ seen l tag p) : sumS l tag p = 0 := by
  unfold sumS
  have : l.filter (fun s => decide (s.tag = tag ∧ s.place = p)) = [] := by
    rw [List.filter_eq_nil_iff]
    intro s hs hd
    exact h ⟨s, hs, by simpa using hd⟩
  rw [this]; rfl
theorem tellE_spec (l : List Si) : (∀ tag, look (tellE l) tag = none ↔ ¬ toldIn l tag) ∧ ((tellE l).map (·.1)).Nodup ∧
    ∀ tag pl, look (tellE l) tag = some pl → (pl.map (·.1)).Nodup ∧ ∀ p, look pl p = if seen l tag p then some (sumS l tag p) else none := by
  induction l using snoc_ind with
  | h0 =>
    refine ⟨fun tag => ?_, by simp [tellE], fun tag pl h => by simp [tellE, look_nil] at h⟩
    simp [tellE, look_nil, toldIn]
  | hs l s ih =>
    obtain ⟨i1, i2, i3⟩ := ih
    rw [tellE_snoc]
    refine ⟨fun tag => ?_, upd_nodup i2 _ _, fun tag pl h => ?_⟩
    · rw [addS, look_upd, toldIn_snoc]
      by_cases e : tag = s.tag
      · rw [if_pos e]; simp [e]
      · rw [if_neg e, i1 tag]
        have : ¬ s.tag = tag := fun h => e h.symm
        simp [this]
    · rw [addS, look_upd] at h
      by_cases e : tag = s.tag
      · rw [if_pos e] at h
        cases h
        have hpl : (((look (tellE l) s.tag).getD []).map (·.1)).Nodup ∧ ∀ p, look ((look (tellE l) s.tag).getD []) p = if seen l s.tag p then some (sumS l s.tag p) else none := by
          cases hh : look (tellE l) s.tag with
          | none =>
            have h1 := (i1 s.tag).1 hh
            refine ⟨by simp, fun p => ?_⟩
            have : ¬ seen l s.tag p := by rintro ⟨x, hx, h2, _⟩; exact h1 ⟨x, hx, h2⟩
            simp [this, look_nil]
          | some pl => exact i3 s.tag pl hh
        subst e
        refine ⟨upd_nodup hpl.1 _ _, fun p => ?_⟩
        rw [look_upd]
        by_cases e2 : p = s.place
        · subst e2
          have h1 : seen (l ++ [s]) s.tag s.place := (seen_snoc ..).2 (.inr ⟨rfl, rfl⟩)
          rw [if_pos rfl, if_pos h1, sumS_snoc, if_pos ⟨rfl, rfl⟩, hpl.2 s.place]
          by_cases h2 : seen l s.tag s.place
          · rw [if_pos h2]; rfl
          · rw [if_neg h2, sumS_zero h2]; rfl
        · have h1 : seen (l ++ [s]) s.tag p ↔ seen l s.tag p := by
            rw [seen_snoc]; constructor
            · rintro (h | ⟨_, h⟩)
              · exact h
              · exact absurd h.symm e2
            · exact .inl
          rw [if_neg e2, sumS_snoc, if_neg (show ¬ (s.tag = s.tag ∧ s.place = p) from fun h => e2 h.2.symm), hpl.2 p]
          by_cases h2 : seen l s.tag p
          · rw [if_pos h2, if_pos (h1.2 h2)]; simp
          · rw [if_neg h2, if_neg (fun h => h2 (h1.1 h))]
      · rw [if_neg e] at h
        obtain ⟨a, b⟩ := i3 tag pl h
        refine ⟨a, fun p => ?_⟩
        have hne : ¬ (s.tag = tag) := fun h => e h.symm
        have h1 : seen (l ++ [s]) tag p ↔ seen l tag p := by
          rw [seen_snoc]; constructor
          · rintro (h | ⟨h, _⟩)
            · exact h
            · exact absurd h hne
          · exact .inl
        rw [b p, sumS_snoc, if_neg (show ¬ (s.tag = tag ∧ s.place = p) from fun h => hne h.1)]
        by_cases h2 : seen l tag p
        · rw [if_pos h2, if_pos (h1.2 h2)]; simp
        · rw [if_neg h2, if_neg (fun h => h2 (h1.1 h))]
theorem sumS_bound {l : List Si} (hb : ∀ s ∈ l, ¬ s.bad) (tag : List UInt8) (p : Int) : 0 ≤ sumS l tag p ∧ sumS l tag p ≤ 255 * l.length := by
  induction l using snoc_ind with
  | h0 => simp [sumS]
  | hs l s ih =>
    have h1 := ih fun x hx => hb x (by simp [hx])
    have h2 := hb s (by simp)
    simp only [Si.bad] at h2
    rw [sumS_snoc]
    simp only [List.length_append, List.length_cons, List.length_nil]
    split <;> omega
theorem seen_place {l : List Si} (hb : ∀ s ∈ l, ¬ s.bad) {tag : List UInt8} {p : Int} (h : seen l tag p) : 0 ≤ p ∧ p ≤ 7 := by
  obtain ⟨s, hs, _, rfl⟩ := h
  have := hb s hs
  simp only [Si.bad] at this
  omega
def cntE (W : List (List Si)) (tag : List UInt8) (p : Int) : Nat := (W.filter fun l => decide (seen l tag p)).length
def strE (W : List (List Si)) (tag : List UInt8) (p : Int) : Int := (W.map fun l => sumS l tag p).sum
def bestTo (need : Nat) (cnt : Int → Nat) (st : Int → Int) : Nat → Int
  | 0 => -1
  | p + 1 => if cnt p < need then bestTo need cnt st p else if bestTo need cnt st p < 0 ∨ cnt (bestTo need cnt st p) < cnt p ∨ (cnt p = cnt (bestTo need cnt st p) ∧ st (bestTo need cnt st p) < st p) then p else bestTo need cnt st p
def atW (need : Nat) (W : List (List Si)) (tag : List UInt8) : Int := bestTo need (cntE W tag) (strE W tag) 8
def atE (window need : Nat) (EL : List (List Si)) (tag : List UInt8) : Int := atW need (EL.drop (EL.length - window)) tag
theorem bestTo_range (need : Nat) (cnt : Int → Nat) (st : Int → Int) : ∀ n, -1 ≤ bestTo need cnt st n ∧ bestTo need cnt st n < n := by
  intro n
  induction n with
  | zero => simp [bestTo]
  | succ n ih => simp only [bestTo]; split <;> (try split) <;> omega
theorem cntE_snoc (W : List (List Si)) (l : List Si) (tag : List UInt8) (p : Int) : cntE (W ++ [l]) tag p = cntE W tag p + if seen l tag p then 1 else 0 := by
  unfold cntE; rw [List.filter_append, List.length_append]; by_cases h : seen l tag p <;> simp [h]
theorem strE_snoc (W : List (List Si)) (l : List Si) (tag : List UInt8) (p : Int) : strE (W ++ [l]) tag p = strE W tag p + sumS l tag p := by
  unfold strE; simp
theorem cntE_le (W : List (List Si)) (tag : List UInt8) (p : Int) : cntE W tag p ≤ W.length := List.length_filter_le _ _
theorem strE_bound {W : List (List Si)} (hb : ∀ l ∈ W, (∀ s ∈ l, ¬ s.bad) ∧ l.length ≤ 1000000) (tag : List UInt8) (p : Int) : 0 ≤ strE W tag p ∧ strE W tag p ≤ 255000000 * W.length := by
  induction W using snoc_ind with
  | h0 => simp [strE]
  | hs W l ih =>
    have h1 := ih fun x hx => hb x (by simp [hx])
    obtain ⟨h2, h3⟩ := hb l (by simp)
    have h4 := sumS_bound h2 tag p
    rw [strE_snoc]
    simp only [List.length_append, List.length_cons, List.length_nil]
    omega
end Go.Cw
namespace Go.Cw
open Go
def mapV (b : Nat) : Value := .map (some b)
def encM (b : Nat) : List Value := [mapV b]
def EpR (g : Heap) (m : Nat) (E : Ep) : Prop := ∃ kv bs ck, MapB encKS mapV g m kv bs ck ∧ (∀ tag, look kv tag = none ↔ look E tag = none) ∧
  ∀ tag b, look kv tag = some b → ∃ pl bs ck, look E tag = some pl ∧ MapB encKI encKI g b pl bs ck
theorem EpR.le {g h : Heap} {m : Nat} {E : Ep} (he : EpR g m E) (hl : Heap.le g h) : EpR h m E := by
  obtain ⟨kv, bs, ck, h1, h2, h3⟩ := he
  exact ⟨kv, bs, ck, h1.le hl, h2, fun tag b hb => let ⟨pl, bs, ck, a, c⟩ := h3 tag b hb; ⟨pl, bs, ck, a, c.le hl⟩⟩
structure TrR (h : Heap) (a : Addr) (window need : Nat) (EL : List (List Si)) : Prop where
  ex : ∃ ev wv ems, objAt h a [.int .i64 window, .int .i64 need, ev, wv] ∧ Sl encM h ev ems ∧ ems.length = EL.length ∧ ∀ i, i < EL.length → EpR h (ems.getD i 0) (tellE (EL.getD i []))
structure TrOk (window need : Nat) (EL : List (List Si)) : Prop where
  w : 1 ≤ window ∧ window ≤ 8
  n : 1 ≤ need ∧ need ≤ window
  len : EL.length ≤ 100000
  ok : ∀ l ∈ EL, (∀ s ∈ l, ¬ s.bad) ∧ l.length ≤ 1000000
theorem Sl.lsl {α : Type} {enc : α → List Value} {sz : Nat} (he : ∀ x, (enc x).length = sz) {h : Heap} {v : Value} {l : List α} (hs : Sl enc h v l) {lo hi : Nat} (h1 : lo ≤ hi) (h2 : hi ≤ l.length) :
    ∃ v', (∀ k k', o3V (.lsl sz) (.v v) (.v (.int k lo)) (.v (.int k' hi)) = some (.v v')) ∧ Sl enc h v' ((l.take hi).drop lo) := by
  obtain ⟨a, cap, rfl, hcap, hr⟩ := hs
  refine ⟨.slice (if cap = lo then a else a.map (·.add (lo * sz))) (hi - lo) (cap - lo), ?_, ?_⟩
  · intro k k'
    simp only [o3V]
    rw [if_pos ⟨by omega, by omega, by omega⟩]
    simp
  · have hlen : ((l.take hi).drop lo).length = hi - lo := by rw [List.length_drop, List.length_take]; omega
    refine ⟨_, cap - lo, by rw [hlen], by rw [hlen]; omega, ?_⟩
    by_cases hz : hi = lo
    · exact .inl (List.eq_nil_of_length_eq_zero (by omega))
    · have hne : l ≠ [] := by intro e; subst e; simp at h2; omega
      obtain ⟨g, rfl, hrow⟩ := hr.resolve_left hne
      have hc : cap ≠ lo := by omega
      refine .inr ⟨g.add (lo * sz), by simp [hc], ?_⟩
      obtain ⟨r1, c, t, fz, r2, r3, r4⟩ := hrow
      have e1 : (l.take hi).drop lo = (l.drop lo).take (hi - lo) := by rw [List.drop_take]
      have hsplit : l.flatMap enc = (l.take lo).flatMap enc ++ (((l.drop lo).take (hi - lo)).flatMap enc ++ ((l.drop lo).drop (hi - lo)).flatMap enc) := by
        rw [← List.flatMap_append, ← List.flatMap_append, List.take_append_drop, List.take_append_drop]
      have hl1 : ((l.take lo).flatMap enc).length = lo * sz := by rw [flat_len he, List.length_take]; congr 1; omega
      have hl2 := congrArg List.length hsplit
      simp only [List.length_append] at hl2
      rw [e1, addr_add' g r1]
      refine ⟨rfl, c, t, fz, r2, by dsimp only; omega, fun i hi' => ?_⟩
      have := r4 (lo * sz + i) (by omega)
      dsimp only
      rw [show g.off + lo * sz + i = g.off + (lo * sz + i) by omega, this, hsplit, List.getElem?_append_right (by omega), List.getElem?_append_left (by omega)]
      congr 1; omega
def arr (f : Int → Int) : List Value := [.int .i64 (f 0), .int .i64 (f 1), .int .i64 (f 2), .int .i64 (f 3), .int .i64 (f 4), .int .i64 (f 5), .int .i64 (f 6), .int .i64 (f 7)]
theorem arr_get (f : Int → Int) {p : Nat} (h : p < 8) : (arr f)[p]? = some (.int .i64 (f p)) := by
  match p, h with
  | 0, _ | 1, _ | 2, _ | 3, _ | 4, _ | 5, _ | 6, _ | 7, _ => rfl
theorem arr_set (f : Int → Int) {p : Nat} (h : p < 8) (v : Int) : (arr f).take p ++ [.int .i64 v] ++ (arr f).drop (p + 1) = arr fun q => if q = p then v else f q := by
  match p, h with
  | 0, _ | 1, _ | 2, _ | 3, _ | 4, _ | 5, _ | 6, _ | 7, _ => simp [arr]
theorem arr_len (f : Int → Int) : (arr f).length = 8 := rfl
theorem arr_congr {f f' : Int → Int} (h : ∀ p : Nat, p < 8 → f p = f' p) : arr f = arr f' := by
  have h0 : f 0 = f' 0 := h 0 (by omega)
  have h1 : f 1 = f' 1 := h 1 (by omega)
  have h2 : f 2 = f' 2 := h 2 (by omega)
  have h3 : f 3 = f' 3 := h 3 (by omega)
  have h4 : f 4 = f' 4 := h 4 (by omega)
  have h5 : f 5 = f' 5 := h 5 (by omega)
  have h6 : f 6 = f' 6 := h 6 (by omega)
  have h7 : f 7 = f' 7 := h 7 (by omega)
  simp only [arr, h0, h1, h2, h3, h4, h5, h6, h7]
theorem countP_lt {l : List Nat} {p q : Nat → Bool} (hpq : ∀ x, p x = true → q x = true) {b : Nat} (hb : b ∈ l) (h1 : q b = true) (h2 : p b = false) : l.countP p < l.countP q := by
  induction l with
  | nil => simp at hb
  | cons x l ih =>
    simp only [List.countP_cons]
    have hle : l.countP p ≤ l.countP q := List.countP_mono_left fun x _ h => hpq x h
    simp only [List.mem_cons] at hb
    rcases hb with rfl | hb
    · simp [h1, h2]; omega
    · have := ih hb
      have hx : (if p x = true then 1 else 0) ≤ (if q x = true then 1 else 0) := by
        by_cases hp : p x = true
        · rw [if_pos hp, if_pos (hpq x hp)]; exact Nat.le_refl _
        · rw [if_neg hp]; exact Nat.zero_le _
      omega
def todo (bs dn : List Nat) : Nat := bs.countP fun b => !dn.contains b
theorem todo_lt {bs dn : List Nat} {b : Nat} (h1 : b ∈ bs) (h2 : b ∉ dn) : todo bs (dn ++ [b]) < todo bs dn := by
  refine countP_lt (b := b) (fun x hx => ?_) h1 (by simpa using h2) (by simp)
  simp only [List.contains_eq_mem, List.mem_append, Bool.not_eq_true', decide_eq_false_iff_not, not_or] at hx ⊢
  exact hx.1
structure GoneI (h0 : Heap) (tag : List UInt8) (W : List (List Si)) (l : List Si) (pl : List (Int × Int)) (bs : List Nat) (m ck r bc bt : Nat) (dn : List Nat) (dl : List (Int × Int)) (h : Heap) : Prop where
  le : Heap.le h0 h
  it : IterB h r m ck dn
  sub : ∀ b ∈ dn, b ∈ bs
  mem : ∀ (i : Nat) p x b, pl[i]? = some (p, x) → bs[i]? = some b → (b ∈ dn ↔ (p, x) ∈ dl)
  dsub : ∀ e ∈ dl, e ∈ pl
  cnt : objAt h ⟨bc, 0, none⟩ (arr fun p => (cntE W tag p : Int) + if (look dl p).isSome then 1 else 0)
  str : objAt h ⟨bt, 0, none⟩ (arr fun p => strE W tag p + (look dl p).getD 0)
theorem look_snoc {kv : List (Int × Int)} {p x : Int} (hn : look kv p = none) (q : Int) : look (kv ++ [(p, x)]) q = if q = p then some x else look kv q := by
  induction kv with
  | nil => simp [look_cons, look_nil]
  | cons e r ih =>
    rw [look_cons] at hn
    split at hn
    · cases hn
    · rename_i hne
      rw [List.cons_append, look_cons, look_cons, ih hn]
      by_cases e1 : q = p
      · subst e1; rw [if_neg hne, if_pos rfl, if_pos rfl]
      · rw [if_neg e1, if_neg e1]
def S60 : Spec := fun args h K => ∃ a tag window need EL, args = [.pointer (some a), .string (Cw.str tag)] ∧ TrR h a window need EL ∧ TrOk window need EL ∧ ∀ h', Heap.le h h' → K (.int .i64 (atE window need EL tag)) h'
theorem F60_ok {N : Num} {Γ : Ctx} [GoodC Γ] : Sat S60 (SF N Γ F60) := by
  rintro _ h K ⟨a, tag, window, need, EL, rfl, ⟨ev, wv, ems, ha, hev, hel, hE⟩, hok, hK⟩
  obtain ⟨⟨w1, w2⟩, ⟨n1, n2⟩, hlen, hEok⟩ := hok
  refine i_fun rfl ?_
  simp only [F60, env0, List.map, List.length, List.replicate, List.cons_append, List.nil_append, Nat.reduceSub, Nat.reduceAdd]
  try simp (disch := first | omega | (simp only [PL]; omega)) only [PS, P1, P2, P3, P4, P5, P6, P7, P8, PA, PB, PC, Nat.reduceAdd, Nat.reduceSub, Nat.reduceMul, Nat.reduceLeDiff, Nat.reduceEqDiff, Nat.succ_ne_self, reduceCtorEq, Int.reduceToNat, Int.cast_ofNat_Int, Int.reduceEq, Int.reduceNe, Int.reduceLT, Int.reduceLE]
  refine i_newO fun bc h1 hle1 hb1 hc1 => ?_
  try simp (disch := first | omega | (simp only [PL]; omega)) only [PS, P1, P2, P3, P4, P5, P6, P7, P8, PA, PB, PC, Nat.reduceAdd, Nat.reduceSub, Nat.reduceMul, Nat.reduceLeDiff, Nat.reduceEqDiff, Nat.succ_ne_self, reduceCtorEq, Int.reduceToNat, Int.cast_ofNat_Int, Int.reduceEq, Int.reduceNe, Int.reduceLT, Int.reduceLE]
  refine i_newO fun bt h2 hle2 hb2 ht2 => ?_
  have hle02 := hle1.trans hle2
  have Ra := (ha.le hle02).rules
  have A0 : h2.cell a = some (.int .i64 window) := Ra.2.1 (by simp)
  have A0' : h2.cell (a.add 0) = some (.int .i64 window) := Ra.1 0 (by simp)
  have A1 : h2.cell (a.add 1) = some (.int .i64 need) := Ra.1 1 (by simp)
  have A2 : h2.cell (a.add 2) = some ev := Ra.1 2 (by simp)
  have Rev := (hev.le hle02).rules1 mapV (fun _ => rfl) 0
  rw [hel] at Rev
  have hlo : max 0 (IntKind.i64.wrap ((EL.length : Int) - window)) = ((EL.length - window : Nat) : Int) := by
    rw [w64 (by omega) (by omega)]; omega
  obtain ⟨v12, e12, hs12⟩ := (hev.le hle02).lsl (sz := 1) (fun _ => rfl) (lo := EL.length - window) (hi := EL.length) (Nat.sub_le _ _) (Nat.le_of_eq hel.symm)
  have R12 := hs12.rules1 mapV (fun _ => rfl) 0
  have hW : ((ems.take EL.length).drop (EL.length - window)).length = (EL.drop (EL.length - window)).length := by simp only [List.length_drop, List.length_take]; omega
  rw [hW] at R12
  try simp (disch := first | omega | (simp only [PL]; omega)) only [PS, P1, P2, P3, P4, P5, P6, P7, P8, PA, PB, PC, Nat.reduceAdd, Nat.reduceSub, Nat.reduceMul, Nat.reduceLeDiff, Nat.reduceEqDiff, Nat.succ_ne_self, reduceCtorEq, Int.reduceToNat, Int.cast_ofNat_Int, Int.reduceEq, Int.reduceNe, Int.reduceLT, Int.reduceLE, A0, A0', A2, Rev, hlo, e12, R12]
  obtain ⟨v12', e12', hs12'⟩ := hev.lsl (sz := 1) (fun _ => rfl) (lo := EL.length - window) (hi := EL.length) (Nat.sub_le _ _) (Nat.le_of_eq hel.symm)
  have e12e : v12 = v12' := by have h1 := e12 .i64 .i64; have h2 := e12' .i64 .i64; rw [h1] at h2; cases h2; rfl
  subst e12e
  have hbcn : bc ≠ bt := by
    obtain ⟨_, c, t, h3, _⟩ := objAt.le hc1 (fr_le h h1)
    rintro rfl; dsimp only at h3; rw [hb2] at h3; cases h3
  have hbt0 : h bt = none := le_none hle1 bt hb2
  have hwl : ∀ i, i < (EL.drop (EL.length - window)).length → EpR h (((ems.take EL.length).drop (EL.length - window)).getD i 0) (tellE ((EL.drop (EL.length - window)).getD i [])) ∧ (EL.drop (EL.length - window)).getD i [] ∈ EL := by
    intro i hi
    rw [List.length_drop] at hi
    have h1 := hE (EL.length - window + i) (by omega)
    have e1 : ((ems.take EL.length).drop (EL.length - window)).getD i 0 = ems.getD (EL.length - window + i) 0 := by
      simp only [List.getD_eq_getElem?_getD, List.getElem?_drop]
      rw [List.getElem?_take_of_lt (by omega)]
    have e2 : (EL.drop (EL.length - window)).getD i [] = EL.getD (EL.length - window + i) [] := by
      simp only [List.getD_eq_getElem?_getD, List.getElem?_drop]
    rw [e1, e2]
    exact ⟨h1, getD_mem [] (by omega)⟩
  have hWlen : (EL.drop (EL.length - window)).length ≤ 8 := by rw [List.length_drop]; omega
  have hWok : ∀ l ∈ EL.drop (EL.length - window), (∀ s ∈ l, ¬ s.bad) ∧ l.length ≤ 1000000 := fun l hl => hEok l (List.mem_of_mem_drop hl)
  have hatE : atE window need EL tag = atW need (EL.drop (EL.length - window)) tag := rfl
  generalize hWW : EL.drop (EL.length - window) = W at *
  refine i_meet_blk (fun env h3 => Heap.le h h3 ∧ objAt h3 ⟨bc, 0, none⟩ (arr fun p => (cntE W tag p : Int)) ∧ objAt h3 ⟨bt, 0, none⟩ (arr (strE W tag)) ∧ env = [some (.pointer (some a)), some (.string (Cw.str tag)), none, some (.pointer (some ⟨bc, 0, none⟩)), some (.pointer (some ⟨bt, 0, none⟩)), none, none, none, none, none, none, none, none, none, none, none, none, none, none, none, none, none, none, none, none]) ?_ ?_
  rotate_left
  · refine i_loop (fun i : Nat => [some (.pointer (some a)), some (.string (Cw.str tag)), none, some (.pointer (some ⟨bc, 0, none⟩)), some (.pointer (some ⟨bt, 0, none⟩)), none, none, none, none, none, none, none, some v12, some (.int .i64 W.length), some (.int .i64 i), none, none, none, none, none, none, none, none, none, none])
      (fun i h3 => i ≤ W.length ∧ Heap.le h h3 ∧ objAt h3 ⟨bc, 0, none⟩ (arr fun p => (cntE (W.take i) tag p : Int)) ∧ objAt h3 ⟨bt, 0, none⟩ (arr (strE (W.take i) tag)))
      (fun i => W.length - i) 0 (by try simp only [Pe, and_true, true_and, and_self]; rfl) ⟨by omega, hle02, objAt.le (objAt.le hc1 (fr_le h h1)) hle2, objAt.le ht2 (fr_le h1 h2)⟩ ?_
    rintro i h3 ⟨hi, hle3, hc3, ht3⟩
    have R3 := (hs12'.le hle3).rules1 mapV (fun _ => rfl) 0
    rw [hW] at R3
    try simp (disch := first | omega | (simp only [PL]; omega)) only [PS, P1, P2, P3, P4, P5, P6, P7, P8, PA, PB, PC, Nat.reduceAdd, Nat.reduceSub, Nat.reduceMul, Nat.reduceLeDiff, Nat.reduceEqDiff, Nat.succ_ne_self, reduceCtorEq, Int.reduceToNat, Int.cast_ofNat_Int, Int.reduceEq, Int.reduceNe, Int.reduceLT, Int.reduceLE, R3]
    refine i_cond (fun c1 => ?_) (fun c1 => ?_)
    rotate_left
    · try simp (disch := first | omega | (simp only [PL]; omega)) only [PS, P1, P2, P3, P4, P5, P6, P7, P8, PA, PB, PC, Nat.reduceAdd, Nat.reduceSub, Nat.reduceMul, Nat.reduceLeDiff, Nat.reduceEqDiff, Nat.succ_ne_self, reduceCtorEq, Int.reduceToNat, Int.cast_ofNat_Int, Int.reduceEq, Int.reduceNe, Int.reduceLT, Int.reduceLE]
      have hie : i = W.length := by omega
      subst hie
      rw [List.take_length] at hc3 ht3
      exact k_meet _ (by try simp only [Pe, and_true, true_and, and_self]) ⟨hle3, hc3, ht3, rfl⟩
    have hi2 : i < W.length := by omega
    obtain ⟨hEp, hmem⟩ := hwl i hi2
    obtain ⟨lb, ll⟩ := hEok _ hmem
    obtain ⟨kv, kbs, kck, hkm, hk1, hk2⟩ := hEp
    have Rk := (hkm.le hle3).rules .str
    have htake : W.take (i + 1) = W.take i ++ [W.getD i []] := take_succ_d [] hi2
    have hspec := tellE_spec (W.getD i [])
    generalize hl : W.getD i [] = l at *
    have hnext : ∀ h4, Heap.le h h4 → objAt h4 ⟨bc, 0, none⟩ (arr fun p => (cntE (W.take i) tag p : Int) + if seen l tag p then 1 else 0) → objAt h4 ⟨bt, 0, none⟩ (arr fun p => strE (W.take i) tag p + if seen l tag p then sumS l tag p else 0) →
        objAt h4 ⟨bc, 0, none⟩ (arr fun p => (cntE (W.take (i + 1)) tag p : Int)) ∧ objAt h4 ⟨bt, 0, none⟩ (arr (strE (W.take (i + 1)) tag)) := by
      intro h4 _ h5 h6
      constructor
      · have : arr (fun p => (cntE (W.take (i + 1)) tag p : Int)) = arr (fun p => (cntE (W.take i) tag p : Int) + if seen l tag p then 1 else 0) := by
          apply arr_congr; intro p hp
          rw [htake, cntE_snoc]; split <;> simp
        rw [this]; exact h5
      · have : arr (strE (W.take (i + 1)) tag) = arr (fun p => strE (W.take i) tag p + if seen l tag p then sumS l tag p else 0) := by
          apply arr_congr; intro p hp
          rw [htake, strE_snoc]
          by_cases hs : seen l tag p
          · rw [if_pos hs]
          · rw [if_neg hs, sumS_zero hs]
        rw [this]; exact h6
    cases hlk : look kv tag with
    | none =>
      have hnt : ∀ p, ¬ seen l tag p := by
        rintro p ⟨s, hs, h1, _⟩
        exact ((hspec.1 tag).1 ((hk1 tag).1 hlk)) ⟨s, hs, h1⟩
      try simp (disch := first | omega | (simp only [PL]; omega)) only [PS, P1, P2, P3, P4, P5, P6, P7, P8, PA, PB, PC, Nat.reduceAdd, Nat.reduceSub, Nat.reduceMul, Nat.reduceLeDiff, Nat.reduceEqDiff, Nat.succ_ne_self, reduceCtorEq, Int.reduceToNat, Int.cast_ofNat_Int, Int.reduceEq, Int.reduceNe, Int.reduceLT, Int.reduceLE, R3, mapV]
      have Rk2 := Rk.1 (.map none) tag
      rw [hlk] at Rk2
      simp only [encKS] at Rk2
      try simp (disch := first | omega | (simp only [PL]; omega)) only [PS, P1, P2, P3, P4, P5, P6, P7, P8, PA, PB, PC, Nat.reduceAdd, Nat.reduceSub, Nat.reduceMul, Nat.reduceLeDiff, Nat.reduceEqDiff, Nat.succ_ne_self, reduceCtorEq, Int.reduceToNat, Int.cast_ofNat_Int, Int.reduceEq, Int.reduceNe, Int.reduceLT, Int.reduceLE, R3, mapV, Rk2]
      refine i_rng0 fun r h4 hr hle4 hfr => ?_
      try simp (disch := first | omega | (simp only [PL]; omega)) only [PS, P1, P2, P3, P4, P5, P6, P7, P8, PA, PB, PC, Nat.reduceAdd, Nat.reduceSub, Nat.reduceMul, Nat.reduceLeDiff, Nat.reduceEqDiff, Nat.succ_ne_self, reduceCtorEq, Int.reduceToNat, Int.cast_ofNat_Int, Int.reduceEq, Int.reduceNe, Int.reduceLT, Int.reduceLE]
      refine i_loop (fun _ : Unit => [some (.pointer (some a)), some (.string (Cw.str tag)), none, some (.pointer (some ⟨bc, 0, none⟩)), some (.pointer (some ⟨bt, 0, none⟩)), none, none, none, none, none, none, none, some v12, some (.int .i64 W.length), some (.int .i64 i), none, some (.pointer (some ⟨r, 0, none⟩)), none, none, none, none, none, none, none, none]) (fun _ h5 => h5 = h4) (fun _ => 0) () (by try simp only [Pe, and_true, true_and, and_self]) rfl ?_
      rintro _ h5 rfl
      try simp (disch := first | omega | (simp only [PL]; omega)) only [PS, P1, P2, P3, P4, P5, P6, P7, P8, PA, PB, PC, Nat.reduceAdd, Nat.reduceSub, Nat.reduceMul, Nat.reduceLeDiff, Nat.reduceEqDiff, Nat.succ_ne_self, reduceCtorEq, Int.reduceToNat, Int.cast_ofNat_Int, Int.reduceEq, Int.reduceNe, Int.reduceLT, Int.reduceLE]
      refine i_nxt0 (fr_le _ _ _ _ hfr) ?_
      try simp (disch := first | omega | (simp only [PL]; omega)) only [PS, P1, P2, P3, P4, P5, P6, P7, P8, PA, PB, PC, Nat.reduceAdd, Nat.reduceSub, Nat.reduceMul, Nat.reduceLeDiff, Nat.reduceEqDiff, Nat.succ_ne_self, reduceCtorEq, Int.reduceToNat, Int.cast_ofNat_Int, Int.reduceEq, Int.reduceNe, Int.reduceLT, Int.reduceLE]
      obtain ⟨n1, n2⟩ := hnext h5 (hle3.trans hle4) (by simpa [hnt] using objAt.le hc3 hle4) (by simpa [hnt] using objAt.le ht3 hle4)
      exact k_loop (i + 1) (by omega) (by try simp only [Pe, and_true, true_and, and_self]) ⟨by omega, hle3.trans hle4, n1, n2⟩
    | some b =>
      obtain ⟨pl, bs, ck, hpl, hbm⟩ := hk2 tag b hlk
      obtain ⟨hpn, hplk⟩ := hspec.2.2 tag pl hpl
      have Rk2 := Rk.1 (.map none) tag
      rw [hlk] at Rk2
      simp only [encKS, mapV] at Rk2
      try simp (disch := first | omega | (simp only [PL]; omega)) only [PS, P1, P2, P3, P4, P5, P6, P7, P8, PA, PB, PC, Nat.reduceAdd, Nat.reduceSub, Nat.reduceMul, Nat.reduceLeDiff, Nat.reduceEqDiff, Nat.succ_ne_self, reduceCtorEq, Int.reduceToNat, Int.cast_ofNat_Int, Int.reduceEq, Int.reduceNe, Int.reduceLT, Int.reduceLE, R3, mapV, Rk2]
      obtain ⟨es, hes, hes2⟩ := hbm
      have hbm : MapB encKI encKI h b pl bs ck := ⟨es, hes, hes2⟩
      refine i_rng (hle3 _ _ hes) fun r h4 hr hle4 hit => ?_
      have hr0 : h r = none := le_none hle3 r hr
      have hle04 := hle3.trans hle4
      have hrc : r ≠ bc := by obtain ⟨_, c, t, h5, _⟩ := hc3; rintro rfl; dsimp only at h5; rw [hr] at h5; cases h5
      have hrt : r ≠ bt := by obtain ⟨_, c, t, h5, _⟩ := ht3; rintro rfl; dsimp only at h5; rw [hr] at h5; cases h5
      try simp (disch := first | omega | (simp only [PL]; omega)) only [PS, P1, P2, P3, P4, P5, P6, P7, P8, PA, PB, PC, Nat.reduceAdd, Nat.reduceSub, Nat.reduceMul, Nat.reduceLeDiff, Nat.reduceEqDiff, Nat.succ_ne_self, reduceCtorEq, Int.reduceToNat, Int.cast_ofNat_Int, Int.reduceEq, Int.reduceNe, Int.reduceLT, Int.reduceLE]
      refine i_loop (fun _ : List Nat × List (Int × Int) => [some (.pointer (some a)), some (.string (Cw.str tag)), none, some (.pointer (some ⟨bc, 0, none⟩)), some (.pointer (some ⟨bt, 0, none⟩)), none, none, none, none, none, none, none, some v12, some (.int .i64 W.length), some (.int .i64 i), none, some (.pointer (some ⟨r, 0, none⟩)), none, none, none, none, none, none, none, none]) (fun s h5 => GoneI h tag (W.take i) l pl bs b ck r bc bt s.1 s.2 h5) (fun s => todo bs s.1) ([], []) (by try simp only [Pe, and_true, true_and, and_self])
        ⟨hle04, fr_le _ _ _ _ hit, by simp, by intro i p x b _ _; simp, by simp, by simpa [look_nil] using objAt.le hc3 hle4, by simpa [look_nil] using objAt.le ht3 hle4⟩ ?_
      rintro ⟨dn, dl⟩ h5 ⟨g1, g2, g3, g4, g5, g6, g7⟩
      dsimp only at g1 g2 g3 g4 g5 g6 g7
      have hbsl : bs.length = pl.length := hes2.2.1
      try simp (disch := first | omega | (simp only [PL]; omega)) only [PS, P1, P2, P3, P4, P5, P6, P7, P8, PA, PB, PC, Nat.reduceAdd, Nat.reduceSub, Nat.reduceMul, Nat.reduceLeDiff, Nat.reduceEqDiff, Nat.succ_ne_self, reduceCtorEq, Int.reduceToNat, Int.cast_ofNat_Int, Int.reduceEq, Int.reduceNe, Int.reduceLT, Int.reduceLE]
      refine i_nxt (hbm.le g1) g2 g3 ?_ ?_
      · intro hall
        have hlook : ∀ p, look dl p = look pl p := by
          intro p
          cases hp : look pl p with
          | some x =>
            have h1 := look_mem hp
            obtain ⟨j, hj, he⟩ := List.getElem_of_mem h1
            have h2 := (g4 j p x (bs[j]'(by omega)) (by rw [List.getElem?_eq_getElem hj, he]) (by simp [hbsl, hj])).1 (hall _ (List.getElem_mem _))
            cases hd : look dl p with
            | none => exact absurd (List.mem_map.2 ⟨_, h2, rfl⟩) (look_none hd)
            | some y =>
              have h3 := g5 _ (look_mem hd)
              have h4 := look_of_mem hpn h3
              rw [hp] at h4; cases h4; rfl
          | none =>
            cases hd : look dl p with
            | none => rfl
            | some y =>
              have h4 := look_of_mem hpn (g5 _ (look_mem hd))
              rw [hp] at h4; cases h4
        try simp (disch := first | omega | (simp only [PL]; omega)) only [PS, P1, P2, P3, P4, P5, P6, P7, P8, PA, PB, PC, Nat.reduceAdd, Nat.reduceSub, Nat.reduceMul, Nat.reduceLeDiff, Nat.reduceEqDiff, Nat.succ_ne_self, reduceCtorEq, Int.reduceToNat, Int.cast_ofNat_Int, Int.reduceEq, Int.reduceNe, Int.reduceLT, Int.reduceLE]
        obtain ⟨m1, m2⟩ := hnext h5 g1 (by
          have : arr (fun p => (cntE (W.take i) tag p : Int) + if seen l tag p then 1 else 0) = arr (fun p => (cntE (W.take i) tag p : Int) + if (look dl p).isSome then 1 else 0) := by
            apply arr_congr; intro p _
            rw [hlook, hplk]; by_cases hs : seen l tag p <;> simp [hs]
          rw [this]; exact g6) (by
          have : arr (fun p => strE (W.take i) tag p + if seen l tag p then sumS l tag p else 0) = arr (fun p => strE (W.take i) tag p + (look dl p).getD 0) := by
            apply arr_congr; intro p _
            rw [hlook, hplk]; by_cases hs : seen l tag p <;> simp [hs]
          rw [this]; exact g7)
        exact k_loop (i + 1) (by omega) (by try simp only [Pe, and_true, true_and, and_self]) ⟨by omega, g1, m1, m2⟩
      · intro j b' p x hj hbj hnd
        have hpx : (p, x) ∈ pl := List.mem_of_getElem? hj
        have hpl2 := look_of_mem hpn hpx
        rw [hplk] at hpl2
        have hseen : seen l tag p := by
          by_cases hs : seen l tag p
          · exact hs
          · rw [if_neg hs] at hpl2; cases hpl2
        rw [if_pos hseen] at hpl2
        have hx : x = sumS l tag p := by cases hpl2; rfl
        obtain ⟨p0, p7⟩ := seen_place lb hseen
        obtain ⟨pn, rfl⟩ : ∃ pn : Nat, p = (pn : Int) := ⟨p.toNat, by omega⟩
        have hpn8 : pn < 8 := by omega
        have hxb := sumS_bound lb tag (pn : Int)
        have hdl : look dl (pn : Int) = none := by
          cases hd : look dl (pn : Int) with
          | none => rfl
          | some y =>
            have h3 := g5 _ (look_mem hd)
            have h4 := look_of_mem hpn h3
            rw [look_of_mem hpn hpx] at h4; cases h4
            exact absurd ((g4 j _ _ _ hj hbj).2 (look_mem hd)) hnd
        have hle5 : Heap.le h (h5.set r (.mapIter (some b) ck (dn ++ [b']).toArray ck)) := by
          intro y o hy
          have e : y ≠ r := by rintro rfl; rw [hr0] at hy; cases hy
          rw [Heap.set_ne e]; exact g1 y o hy
        have hc5 : objAt (h5.set r (.mapIter (some b) ck (dn ++ [b']).toArray ck)) ⟨bc, 0, none⟩ (arr fun p => (cntE (W.take i) tag p : Int) + if (look dl p).isSome then 1 else 0) := by
          obtain ⟨x1, c, t, x2, x3⟩ := g6; exact ⟨x1, c, t, by rw [Heap.set_ne (Ne.symm hrc)]; exact x2, x3⟩
        have ht5 : objAt (h5.set r (.mapIter (some b) ck (dn ++ [b']).toArray ck)) ⟨bt, 0, none⟩ (arr fun p => strE (W.take i) tag p + (look dl p).getD 0) := by
          obtain ⟨x1, c, t, x2, x3⟩ := g7; exact ⟨x1, c, t, by rw [Heap.set_ne (Ne.symm hrt)]; exact x2, x3⟩
        have hi5 : IterB (h5.set r (.mapIter (some b) ck (dn ++ [b']).toArray ck)) r b ck (dn ++ [b']) := Heap.set_eq
        generalize h5.set r (.mapIter (some b) ck (dn ++ [b']).toArray ck) = h6 at *
        try simp (disch := first | omega | (simp only [PL]; omega)) only [PS, P1, P2, P3, P4, P5, P6, P7, P8, PA, PB, PC, Nat.reduceAdd, Nat.reduceSub, Nat.reduceMul, Nat.reduceLeDiff, Nat.reduceEqDiff, Nat.succ_ne_self, reduceCtorEq, Int.reduceToNat, Int.cast_ofNat_Int, Int.reduceEq, Int.reduceNe, Int.reduceLT, Int.reduceLE]
        refine i_ent (hbm.le hle5) hi5 hj hbj ?_
        have Rc := hc5.rules.1 pn (by rw [arr_len]; exact hpn8)
        rw [arr_get _ hpn8, hdl] at Rc
        have Rt := ht5.rules.1 pn (by rw [arr_len]; exact hpn8)
        rw [arr_get _ hpn8, hdl] at Rt
        simp only [Option.isSome_none, Bool.false_eq_true, if_false, Int.add_zero, Option.getD_none] at Rc Rt
        have hcl := cntE_le (W.take i) tag (pn : Int)
        have hcl2 := List.length_take_le i W
        try simp (disch := first | omega | (simp only [PL]; omega)) only [PS, P1, P2, P3, P4, P5, P6, P7, P8, PA, PB, PC, Nat.reduceAdd, Nat.reduceSub, Nat.reduceMul, Nat.reduceLeDiff, Nat.reduceEqDiff, Nat.succ_ne_self, reduceCtorEq, Int.reduceToNat, Int.cast_ofNat_Int, Int.reduceEq, Int.reduceNe, Int.reduceLT, Int.reduceLE, encKI, Rc]
        refine i_st hc5 pn 1 rfl rfl (by omega) (by rw [arr_len]; omega) fun o q1 q2 => ?_
        have hc7 := q1 h6 rfl
        simp only [P8] at hc7
        rw [arr_set _ hpn8] at hc7
        have ht7 : objAt (h6.set bc o) ⟨bt, 0, none⟩ (arr fun p => strE (W.take i) tag p + (look dl p).getD 0) := by
          obtain ⟨x1, c, t, x2, x3⟩ := ht5; exact ⟨x1, c, t, by rw [Heap.set_ne (Ne.symm hbcn)]; exact x2, x3⟩
        have hi7 : IterB (h6.set bc o) r b ck (dn ++ [b']) := by unfold IterB at hi5 ⊢; rw [Heap.set_ne hrc]; exact hi5
        have hle7 : Heap.le h (h6.set bc o) := by
          intro y oo hy
          have e : y ≠ bc := by rintro rfl; rw [hb1] at hy; cases hy
          rw [Heap.set_ne e]; exact hle5 y oo hy
        have Rt7 := ht7.rules.1 pn (by rw [arr_len]; exact hpn8)
        rw [arr_get _ hpn8, hdl] at Rt7
        simp only [Int.add_zero, Option.getD_none] at Rt7
        generalize h6.set bc o = h7 at *
        have hsb := strE_bound (W := W.take i) (fun l' hl' => hWok l' (List.mem_of_mem_take hl')) tag (pn : Int)
        have hw7 : IntKind.i64.wrap (strE (W.take i) tag (pn : Int) + x) = strE (W.take i) tag (pn : Int) + x := w64 (by omega) (by omega)
        try simp (disch := first | omega | (simp only [PL]; omega)) only [PS, P1, P2, P3, P4, P5, P6, P7, P8, PA, PB, PC, Nat.reduceAdd, Nat.reduceSub, Nat.reduceMul, Nat.reduceLeDiff, Nat.reduceEqDiff, Nat.succ_ne_self, reduceCtorEq, Int.reduceToNat, Int.cast_ofNat_Int, Int.reduceEq, Int.reduceNe, Int.reduceLT, Int.reduceLE, Rt7, hw7]
        refine i_st ht7 pn 1 rfl rfl (by omega) (by rw [arr_len]; omega) fun o2 q3 q4 => ?_
        have ht8 := q3 h7 rfl
        simp only [P8] at ht8
        rw [arr_set _ hpn8] at ht8
        try simp (disch := first | omega | (simp only [PL]; omega)) only [PS, P1, P2, P3, P4, P5, P6, P7, P8, PA, PB, PC, Nat.reduceAdd, Nat.reduceSub, Nat.reduceMul, Nat.reduceLeDiff, Nat.reduceEqDiff, Nat.succ_ne_self, reduceCtorEq, Int.reduceToNat, Int.cast_ofNat_Int, Int.reduceEq, Int.reduceNe, Int.reduceLT, Int.reduceLE]
        refine k_loop (dn ++ [b'], dl ++ [((pn : Int), x)]) (todo_lt (List.mem_of_getElem? hbj) hnd) (by try simp only [Pe, and_true, true_and, and_self]) ⟨?_, ?_, ?_, ?_, ?_, ?_, ?_⟩
        · intro y oo hy
          have e : y ≠ bt := by rintro rfl; rw [hbt0] at hy; cases hy
          rw [Heap.set_ne e]; exact hle7 y oo hy
        · unfold IterB at hi7 ⊢; rw [Heap.set_ne hrt]; exact hi7
        · intro y hy; simp only [List.mem_append, List.mem_singleton] at hy
          rcases hy with hy | rfl
          · exact g3 y hy
          · exact List.mem_of_getElem? hbj
        · intro j2 p2 x2 b2 e1 e2
          simp only [List.mem_append, List.mem_singleton]
          rw [g4 j2 p2 x2 b2 e1 e2]
          have : b2 = b' ↔ (p2, x2) = ((pn : Int), x) := by
            constructor
            · rintro rfl
              have : j2 = j := ((List.getElem?_inj (List.getElem?_eq_some_iff.1 e2).1 hes2.2.2.1).1 (e2.trans hbj.symm))
              subst this; rw [e1] at hj; cases hj; rfl
            · intro e
              have h1 : (pl.map (·.1))[j2]? = some (pn : Int) := by rw [List.getElem?_map, e1]; cases e; rfl
              have h2 : (pl.map (·.1))[j]? = some (pn : Int) := by rw [List.getElem?_map, hj]; rfl
              have : j2 = j := ((List.getElem?_inj (List.getElem?_eq_some_iff.1 h1).1 hpn).1 (h1.trans h2.symm))
              subst this; rw [e2] at hbj; cases hbj; rfl
          rw [this]
        · intro e he; simp only [List.mem_append, List.mem_singleton] at he
          rcases he with he | rfl
          · exact g5 e he
          · exact hpx
        · have : arr (fun p => (cntE (W.take i) tag p : Int) + if (look (dl ++ [((pn : Int), x)]) p).isSome then 1 else 0) = arr (fun q => if q = (pn : Int) then (((cntE (W.take i) tag (pn : Int)) + 1 : Nat) : Int) else (cntE (W.take i) tag q : Int) + if (look dl q).isSome then 1 else 0) := by
            apply arr_congr; intro q _
            rw [look_snoc hdl]
            by_cases e : (q : Int) = pn
            · simp [e]
            · simp [e]
          rw [this]
          obtain ⟨x1, c, t, x2, x3⟩ := hc7; exact ⟨x1, c, t, by rw [Heap.set_ne hbcn]; exact x2, x3⟩
        · have : arr (fun p => strE (W.take i) tag p + (look (dl ++ [((pn : Int), x)]) p).getD 0) = arr (fun q => if q = (pn : Int) then strE (W.take i) tag (pn : Int) + x else strE (W.take i) tag q + (look dl q).getD 0) := by
            apply arr_congr; intro q _
            rw [look_snoc hdl]
            by_cases e : (q : Int) = pn
            · simp [e]
            · simp [e]
          rw [this]; exact ht8
  rintro env h3 ⟨hle3, hc3, ht3, rfl⟩
  have Ra3 := (ha.le hle3).rules
  have A1' : h3.cell (a.add 1) = some (.int .i64 need) := Ra3.1 1 (by simp)
  have Rc8 := hc3.rules.2.2
  rw [arr_len] at Rc8
  try simp (disch := first | omega | (simp only [PL]; omega)) only [PS, P1, P2, P3, P4, P5, P6, P7, P8, PA, PB, PC, Nat.reduceAdd, Nat.reduceSub, Nat.reduceMul, Nat.reduceLeDiff, Nat.reduceEqDiff, Nat.succ_ne_self, reduceCtorEq, Int.reduceToNat, Int.cast_ofNat_Int, Int.reduceEq, Int.reduceNe, Int.reduceLT, Int.reduceLE, Rc8]
  refine i_loop (fun p : Nat => [some (.pointer (some a)), some (.string (Cw.str tag)), none, some (.pointer (some ⟨bc, 0, none⟩)), some (.pointer (some ⟨bt, 0, none⟩)), none, none, none, none, some (.int .i64 (bestTo need (cntE W tag) (strE W tag) p)), none, none, none, none, none, none, none, none, none, none, some (.agg (arr fun p => (cntE W tag p : Int)).toArray), some (.int .i64 p), none, none, none]) (fun p h4 => p ≤ 8 ∧ h4 = h3) (fun p => 8 - p) 0 (by try simp only [Pe, and_true, true_and, and_self]; simp [bestTo]) ⟨by omega, rfl⟩ ?_
  rintro p h4 ⟨hp, rfl⟩
  try simp (disch := first | omega | (simp only [PL]; omega)) only [PS, P1, P2, P3, P4, P5, P6, P7, P8, PA, PB, PC, Nat.reduceAdd, Nat.reduceSub, Nat.reduceMul, Nat.reduceLeDiff, Nat.reduceEqDiff, Nat.succ_ne_self, reduceCtorEq, Int.reduceToNat, Int.cast_ofNat_Int, Int.reduceEq, Int.reduceNe, Int.reduceLT, Int.reduceLE]
  refine i_cond (fun c1 => ?_) (fun c1 => ?_)
  rotate_left
  · try simp (disch := first | omega | (simp only [PL]; omega)) only [PS, P1, P2, P3, P4, P5, P6, P7, P8, PA, PB, PC, Nat.reduceAdd, Nat.reduceSub, Nat.reduceMul, Nat.reduceLeDiff, Nat.reduceEqDiff, Nat.succ_ne_self, reduceCtorEq, Int.reduceToNat, Int.cast_ofNat_Int, Int.reduceEq, Int.reduceNe, Int.reduceLT, Int.reduceLE]
    have : p = 8 := by omega
    subst this
    have := hK h4 hle3
    rw [hatE] at this
    exact this
  have hp8 : p < 8 := by omega
  have hbr := bestTo_range need (cntE W tag) (strE W tag) p
  have hvx : (arr fun p => (cntE W tag p : Int)).toArray[p]? = some (.int .i64 (cntE W tag p)) := by
    rw [List.getElem?_toArray]; exact arr_get _ hp8
  try simp (disch := first | omega | (simp only [PL]; omega)) only [PS, P1, P2, P3, P4, P5, P6, P7, P8, PA, PB, PC, Nat.reduceAdd, Nat.reduceSub, Nat.reduceMul, Nat.reduceLeDiff, Nat.reduceEqDiff, Nat.succ_ne_self, reduceCtorEq, Int.reduceToNat, Int.cast_ofNat_Int, Int.reduceEq, Int.reduceNe, Int.reduceLT, Int.reduceLE, hvx, A1']
  have hbe : bestTo need (cntE W tag) (strE W tag) (p + 1) = if cntE W tag p < need then bestTo need (cntE W tag) (strE W tag) p else if bestTo need (cntE W tag) (strE W tag) p < 0 ∨ cntE W tag (bestTo need (cntE W tag) (strE W tag) p) < cntE W tag p ∨ (cntE W tag p = cntE W tag (bestTo need (cntE W tag) (strE W tag) p) ∧ strE W tag (bestTo need (cntE W tag) (strE W tag) p) < strE W tag p) then p else bestTo need (cntE W tag) (strE W tag) p := rfl
  generalize hbg : bestTo need (cntE W tag) (strE W tag) p = bb at *
  refine i_cond (fun c2 => ?_) (fun c2 => ?_)
  · try simp (disch := first | omega | (simp only [PL]; omega)) only [PS, P1, P2, P3, P4, P5, P6, P7, P8, PA, PB, PC, Nat.reduceAdd, Nat.reduceSub, Nat.reduceMul, Nat.reduceLeDiff, Nat.reduceEqDiff, Nat.succ_ne_self, reduceCtorEq, Int.reduceToNat, Int.cast_ofNat_Int, Int.reduceEq, Int.reduceNe, Int.reduceLT, Int.reduceLE]
    refine k_loop (p + 1) (by omega) ?_ ⟨by omega, rfl⟩
    try simp only [Pe, and_true, true_and, and_self]; rw [hbe, if_pos (by omega)]
  by_cases hb0 : bb < 0
  · try simp (disch := first | omega | (simp only [PL]; omega)) only [PS, P1, P2, P3, P4, P5, P6, P7, P8, PA, PB, PC, Nat.reduceAdd, Nat.reduceSub, Nat.reduceMul, Nat.reduceLeDiff, Nat.reduceEqDiff, Nat.succ_ne_self, reduceCtorEq, Int.reduceToNat, Int.cast_ofNat_Int, Int.reduceEq, Int.reduceNe, Int.reduceLT, Int.reduceLE, hb0]
    refine k_loop (p + 1) (by omega) ?_ ⟨by omega, rfl⟩
    try simp only [Pe, and_true, true_and, and_self]; rw [hbe, if_neg (by omega), if_pos (.inl hb0)]
  obtain ⟨bn, rfl⟩ : ∃ bn : Nat, bb = (bn : Int) := ⟨bb.toNat, by omega⟩
  have hbn : bn < 8 := by omega
  have Rcb := hc3.rules.1 bn (by rw [arr_len]; exact hbn)
  rw [arr_get _ hbn] at Rcb
  have Rtb := ht3.rules.1 bn (by rw [arr_len]; exact hbn)
  rw [arr_get _ hbn] at Rtb
  have Rtp := ht3.rules.1 p (by rw [arr_len]; exact hp8)
  rw [arr_get _ hp8] at Rtp
  try simp (disch := first | omega | (simp only [PL]; omega)) only [PS, P1, P2, P3, P4, P5, P6, P7, P8, PA, PB, PC, Nat.reduceAdd, Nat.reduceSub, Nat.reduceMul, Nat.reduceLeDiff, Nat.reduceEqDiff, Nat.succ_ne_self, reduceCtorEq, Int.reduceToNat, Int.cast_ofNat_Int, Int.reduceEq, Int.reduceNe, Int.reduceLT, Int.reduceLE, hb0, Rcb, Rtb, Rtp]
  refine i_cond (fun c3 => ?_) (fun c3 => ?_)
  · try simp (disch := first | omega | (simp only [PL]; omega)) only [PS, P1, P2, P3, P4, P5, P6, P7, P8, PA, PB, PC, Nat.reduceAdd, Nat.reduceSub, Nat.reduceMul, Nat.reduceLeDiff, Nat.reduceEqDiff, Nat.succ_ne_self, reduceCtorEq, Int.reduceToNat, Int.cast_ofNat_Int, Int.reduceEq, Int.reduceNe, Int.reduceLT, Int.reduceLE]
    refine k_loop (p + 1) (by omega) ?_ ⟨by omega, rfl⟩
    try simp only [Pe, and_true, true_and, and_self]; rw [hbe, if_neg (by omega), if_pos (by omega)]
  · try simp (disch := first | omega | (simp only [PL]; omega)) only [PS, P1, P2, P3, P4, P5, P6, P7, P8, PA, PB, PC, Nat.reduceAdd, Nat.reduceSub, Nat.reduceMul, Nat.reduceLeDiff, Nat.reduceEqDiff, Nat.succ_ne_self, reduceCtorEq, Int.reduceToNat, Int.cast_ofNat_Int, Int.reduceEq, Int.reduceNe, Int.reduceLT, Int.reduceLE]
    refine k_loop (p + 1) (by omega) ?_ ⟨by omega, rfl⟩
    try simp only [Pe, and_true, true_and, and_self]; rw [hbe, if_neg (by omega), if_neg (by omega)]
end Go.Cw
namespace Go.Cw
open Go
def EpW (g : Heap) (m : Nat) (E : Ep) : Prop := ∃ kv bs ck, MapB encKS mapV g m kv bs ck ∧ (∀ tag, look kv tag = none ↔ look E tag = none) ∧
  (∀ tag b, look kv tag = some b → b ≠ m ∧ ∃ pl bs ck, look E tag = some pl ∧ MapB encKI encKI g b pl bs ck) ∧ ∀ tag tag' b, look kv tag = some b → look kv tag' = some b → tag = tag'
theorem EpW.r {g : Heap} {m : Nat} {E : Ep} (h : EpW g m E) : EpR g m E := by
  obtain ⟨kv, bs, ck, h1, h2, h3, _⟩ := h
  exact ⟨kv, bs, ck, h1, h2, fun tag b hb => (h3 tag b hb).2⟩
theorem EpW.le {g g' : Heap} {m : Nat} {E : Ep} (h : EpW g m E) (hl : Heap.le g g') : EpW g' m E := by
  obtain ⟨kv, bs, ck, h1, h2, h3, h4⟩ := h
  exact ⟨kv, bs, ck, h1.le hl, h2, fun tag b hb => let ⟨n, pl, bs, ck, a, c⟩ := h3 tag b hb; ⟨n, pl, bs, ck, a, c.le hl⟩, h4⟩
theorem MapB.set_ne {κ ν : Type} {ek : κ → Value} {ev : ν → Value} {g : Heap} {m b : Nat} {o : Obj} {kv : List (κ × ν)} {bs : List Nat} {ck : Nat} (h : MapB ek ev g m kv bs ck) (e : m ≠ b) : MapB ek ev (g.set b o) m kv bs ck := by
  obtain ⟨es, h1, h2⟩ := h; exact ⟨es, by rw [Heap.set_ne e]; exact h1, h2⟩
theorem MapB.mem {κ ν : Type} {ek : κ → Value} {ev : ν → Value} {g : Heap} {m : Nat} {kv : List (κ × ν)} {bs : List Nat} {ck : Nat} (h : MapB ek ev g m kv bs ck) : g m ≠ none := by
  obtain ⟨es, h1, _⟩ := h; rw [h1]; simp
theorem objAt.set_ne {g : Heap} {a : Addr} {b : Nat} {o : Obj} {cs : List Value} (h : objAt g a cs) (e : a.block ≠ b) : objAt (g.set b o) a cs := by
  obtain ⟨x1, c, t, x2, x3⟩ := h; exact ⟨x1, c, t, by rw [Heap.set_ne e]; exact x2, x3⟩
theorem objAt.mem {g : Heap} {a : Addr} {cs : List Value} (h : objAt g a cs) : g a.block ≠ none := by
  obtain ⟨x1, c, t, x2, x3⟩ := h; rw [x2]; simp
theorem fr_set_new {h0 h : Heap} {b : Nat} {o : Obj} (hb : h0 b = none) : fr h0 (h.set b o) = (fr h0 h).set b o := by
  funext x
  simp only [fr, Heap.set]
  by_cases e : x = b
  · subst e; simp [hb]
  · simp [e]
theorem fr_fr {h0 h1 h2 : Heap} (hl : Heap.le h0 h1) : Heap.le (fr h1 h2) (fr h0 h2) := fr_anti (le_none hl)
theorem le_set_new {h0 h : Heap} {b : Nat} {o : Obj} (hl : Heap.le h0 h) (hb : h0 b = none) : Heap.le h0 (h.set b o) := by
  intro y oo hy
  have e : y ≠ b := by rintro rfl; rw [hb] at hy; cases hy
  rw [Heap.set_ne e]; exact hl y oo hy
theorem upd_same {κ ν : Type} [DecidableEq κ] {kv : List (κ × ν)} {k : κ} {v : ν} (h : look kv k = some v) : upd kv k v = kv := by
  induction kv with
  | nil => simp [look_nil] at h
  | cons p r ih =>
    rw [look_cons] at h
    simp only [upd]
    split
    · rename_i e; rw [if_pos e] at h; cases h; subst e; rfl
    · rename_i e; rw [if_neg e] at h; rw [ih h]
theorem upd_upd {κ ν : Type} [DecidableEq κ] (kv : List (κ × ν)) (k : κ) (v w : ν) : upd (upd kv k v) k w = upd kv k w := by
  induction kv with
  | nil => simp [upd]
  | cons p r ih =>
    simp only [upd]
    by_cases e : k = p.1
    · simp [e, upd]
    · simp [e, upd, ih]
theorem EpW.ins {g : Heap} {m b : Nat} {E : Ep} {o : Obj} {kv : List (List UInt8 × Nat)} {bs bs' : List Nat} {ck ck' : Nat} {tag : List UInt8} (hm : MapB encKS mapV g m kv bs ck) (hk : ∀ tag, look kv tag = none ↔ look E tag = none)
    (h3 : ∀ tag b, look kv tag = some b → b ≠ m ∧ ∃ pl bs ck, look E tag = some pl ∧ MapB encKI encKI g b pl bs ck) (h4 : ∀ tag tag' b, look kv tag = some b → look kv tag' = some b → tag = tag')
    (hb : MapB encKI encKI g b ([] : List (Int × Int)) [] 0) (hbm : b ≠ m) (hfresh : ∀ tag x, look kv tag = some x → x ≠ b) (hn : MapB encKS mapV (g.set m o) m (upd kv tag b) bs' ck') : EpW (g.set m o) m (upd E tag []) := by
  refine ⟨upd kv tag b, bs', ck', hn, fun t => ?_, fun t x hx => ?_, fun t t' x h1 h2 => ?_⟩
  · rw [look_upd, look_upd]; split <;> simp [hk]
  · rw [look_upd] at hx
    split at hx
    · rename_i e; cases hx; subst e
      exact ⟨hbm, [], [], 0, by rw [look_upd, if_pos rfl], hb.set_ne hbm⟩
    · rename_i e
      obtain ⟨n, pl, bs, ck, a, c⟩ := h3 t x hx
      exact ⟨n, pl, bs, ck, by rw [look_upd, if_neg e]; exact a, c.set_ne n⟩
  · rw [look_upd] at h1 h2
    split at h1 <;> split at h2
    · rename_i e1 e2; rw [e1, e2]
    · rename_i e1 e2; cases h1; exact absurd rfl (hfresh t' _ h2)
    · rename_i e1 e2; cases h2; exact absurd rfl (hfresh t _ h1)
    · exact h4 t t' x h1 h2
theorem EpW.put {g : Heap} {m b : Nat} {E : Ep} {o : Obj} {kv : List (List UInt8 × Nat)} {bs bs' : List Nat} {ck ck' : Nat} {tag : List UInt8} {pl : List (Int × Int)} (hm : MapB encKS mapV g m kv bs ck) (hk : ∀ tag, look kv tag = none ↔ look E tag = none)
    (h3 : ∀ tag b, look kv tag = some b → b ≠ m ∧ ∃ pl bs ck, look E tag = some pl ∧ MapB encKI encKI g b pl bs ck) (h4 : ∀ tag tag' b, look kv tag = some b → look kv tag' = some b → tag = tag')
    (hb : look kv tag = some b) (hn : MapB encKI encKI (g.set b o) b pl bs' ck') : EpW (g.set b o) m (upd E tag pl) := by
  have hbm := (h3 tag b hb).1
  refine ⟨kv, bs, ck, hm.set_ne (Ne.symm hbm), fun t => ?_, fun t x hx => ?_, h4⟩
  · rw [look_upd]
    split
    · rename_i e; subst e; rw [hb]; simp
    · exact hk t
  · obtain ⟨n, pl', bs2, ck2, a, c⟩ := h3 t x hx
    refine ⟨n, ?_⟩
    by_cases e : t = tag
    · subst e
      rw [hb] at hx; cases hx
      exact ⟨pl, bs', ck', by rw [look_upd, if_pos rfl], hn⟩
    · have hne : x ≠ b := by rintro rfl; exact e (h4 t tag x hx hb)
      exact ⟨pl', bs2, ck2, by rw [look_upd, if_neg e]; exact a, c.set_ne hne⟩
def toldE (EL : List (List Si)) (tag : List UInt8) : Prop := ∃ l ∈ EL, toldIn l tag
instance (EL : List (List Si)) (tag : List UInt8) : Decidable (toldE EL tag) := by unfold toldE; infer_instance
structure TrG (g : Heap) (b : Nat) (window need : Nat) (EL : List (List Si)) (W : List UInt8 → Option (List Int)) (hole : Option (List UInt8)) (ev : Value) (mw : Nat) (wkv : List (List UInt8 × Value)) (bs : List Nat) (ck : Nat) (gi : Heap) (ems : List Nat) : Prop where
  obj : objAt g ⟨b, 0, none⟩ [.int .i64 window, .int .i64 need, ev, .map (some mw)]
  evs : SlB encM 1 g ev ems
  wm : MapB encKS id g mw wkv bs ck
  wnone : ∀ tag, look wkv tag = none → W tag = none
  wsome : ∀ tag v, look wkv tag = some v → some tag ≠ hole → ∃ l x, W tag = some l ∧ SlB encI 1 g v l ∧ blkOf v = some x ∧ x ≠ b ∧ x ≠ mw ∧ blkOf ev ≠ some x ∧ gi x = none
  inj : ∀ tag tag' v v', look wkv tag = some v → look wkv tag' = some v' → some tag ≠ hole → some tag' ≠ hole → blkOf v = blkOf v' → tag = tag'
  d1 : b ≠ mw
  d2 : blkOf ev ≠ some b ∧ blkOf ev ≠ some mw
  elen : ems.length = EL.length
  eps : ∀ i, i < EL.length → EpR gi (ems.getD i 0) (tellE (EL.getD i []))
  gile : Heap.le gi g
  gib : gi b = none
  gim : gi mw = none
  gie : ∀ x, blkOf ev = some x → gi x = none
theorem TrG.le {g g' : Heap} {b window need : Nat} {EL : List (List Si)} {W : List UInt8 → Option (List Int)} {hole : Option (List UInt8)} {ev : Value} {mw : Nat} {wkv : List (List UInt8 × Value)} {bs : List Nat} {ck : Nat} {gi : Heap} {ems : List Nat}
    (h : TrG g b window need EL W hole ev mw wkv bs ck gi ems) (hl : Heap.le g g') : TrG g' b window need EL W hole ev mw wkv bs ck gi ems :=
  ⟨objAt.le h.obj hl, h.evs.le hl, h.wm.le hl, h.wnone, fun t v hv hh => let ⟨l, x, a1, a2, a3⟩ := h.wsome t v hv hh; ⟨l, x, a1, a2.le hl, a3⟩, h.inj, h.d1, h.d2, h.elen, h.eps, h.gile.trans hl, h.gib, h.gim, h.gie⟩
theorem TrG.r {g : Heap} {b window need : Nat} {EL : List (List Si)} {W : List UInt8 → Option (List Int)} {hole : Option (List UInt8)} {ev : Value} {mw : Nat} {wkv : List (List UInt8 × Value)} {bs : List Nat} {ck : Nat} {gi : Heap} {ems : List Nat}
    (h : TrG g b window need EL W hole ev mw wkv bs ck gi ems) {hh : Heap} (hl : Heap.le g hh) : TrR hh ⟨b, 0, none⟩ window need EL :=
  ⟨ev, _, ems, objAt.le h.obj hl, (SlB.sl (enc := encM) (sz := 1) (fun _ => rfl) h.evs).le hl, h.elen, fun i hi => (h.eps i hi).le (h.gile.trans hl)⟩
theorem TrG.put {g : Heap} {b window need : Nat} {EL : List (List Si)} {W : List UInt8 → Option (List Int)} {hole : Option (List UInt8)} {ev : Value} {mw : Nat} {wkv : List (List UInt8 × Value)} {bs bs' : List Nat} {ck ck' : Nat} {gi : Heap} {ems : List Nat}
    (h : TrG g b window need EL W hole ev mw wkv bs ck gi ems) {tag : List UInt8} (hh : hole = none ∨ hole = some tag) {v : Value} {l : List Int} {x : Nat} (hv : SlB encI 1 g v l) (hx : blkOf v = some x) (x1 : x ≠ b) (x2 : x ≠ mw) (x3 : blkOf ev ≠ some x) (x4 : gi x = none)
    (x5 : ∀ t w, look wkv t = some w → t ≠ tag → blkOf w ≠ some x) {o : Obj} (hm : MapB encKS id (g.set mw o) mw (upd wkv tag v) bs' ck') :
    TrG (g.set mw o) b window need EL (fun t => if t = tag then some l else W t) none ev mw (upd wkv tag v) bs' ck' gi ems := by
  have hne : ∀ t, t ≠ tag → some t ≠ hole := by
    intro t ht e
    rcases hh with h0 | h0
    · rw [h0] at e; cases e
    · rw [h0] at e; cases e; exact ht rfl
  refine ⟨h.obj.set_ne h.d1, h.evs.same (fun y hy => Heap.set_ne (fun e => h.d2.2 (by rw [← e]; exact hy))), hm, fun t ht => ?_, fun t w hw _ => ?_, fun t t' w w' h1 h2 _ _ h3 => ?_, h.d1, h.d2, h.elen, h.eps, ?_, h.gib, h.gim, h.gie⟩
  · rw [look_upd] at ht
    split at ht
    · cases ht
    · rename_i e; simp only [e, if_false]; exact h.wnone t ht
  · rw [look_upd] at hw
    split at hw
    · rename_i e; cases hw
      exact ⟨l, x, by simp [e], hv.same (fun y hy => Heap.set_ne (fun e => x2 (by rw [hx] at hy; cases hy; exact e))), hx, x1, x2, x3, x4⟩
    · rename_i e
      obtain ⟨l', y, a1, a2, a3, a4, a5, a6⟩ := h.wsome t w hw (hne t e)
      exact ⟨l', y, by simp only [e, if_false]; exact a1, a2.same (fun z hz => Heap.set_ne (fun e2 => a5 (by rw [a3] at hz; cases hz; exact e2))), a3, a4, a5, a6⟩
  · rw [look_upd] at h1 h2
    split at h1 <;> split at h2
    · rename_i e1 e2; rw [e1, e2]
    · rename_i e1 e2; cases h1; rw [hx] at h3; exact absurd h3.symm (x5 t' w' h2 e2)
    · rename_i e1 e2; cases h2; rw [hx] at h3; exact absurd h3 (x5 t w h1 e1)
    · rename_i e1 e2; exact h.inj t t' w w' h1 h2 (hne t e1) (hne t' e2) h3
  · intro y oo hy
    have e : y ≠ mw := by rintro rfl; rw [h.gim] at hy; cases hy
    rw [Heap.set_ne e]; exact h.gile y oo hy
end Go.Cw
namespace Go.Cw
open Go
def cell1 (r : Nat) (o : Obj) : Heap := fun x => if x = r then some o else none
theorem join_cell (r : Nat) (o : Obj) (G : Heap) : (∀ x, x ≠ r → join (cell1 r o) G x = G x) ∧ join (cell1 r o) G r = some o := by
  refine ⟨fun x hx => by simp [join, cell1, hx], by simp [join, cell1]⟩
theorem Step.cnew {g h G H H' : Heap} {r : Nat} {o : Obj} (a : Step g h G H) (hr : H r = none) (hle : Heap.le H H') (hi : H' r = some o) : Step g h (join (cell1 r o) G) H' ∧ G r = none := by
  refine ⟨⟨fun x y hx => ?_, fun x y h1 h2 => hle _ _ (a.frame x y h1 h2), fun x h1 h2 => ?_⟩, le_none a.le r hr⟩
  · by_cases e : x = r
    · subst e; rw [(join_cell _ o G).2] at hx; rw [hi]; exact hx
    · rw [(join_cell _ o G).1 x e] at hx; exact hle _ _ (a.le x y hx)
  · have e : x ≠ r := by
      rintro rfl
      cases hx : h x with
      | none => exact h1 hx
      | some y => have := a.frame x y hx h2; rw [hr] at this; cases this
    rw [(join_cell _ o G).1 x e]; exact a.fresh x h1 h2
theorem Step.cr {g h G H : Heap} {r : Nat} {o : Obj} (a : Step g h (join (cell1 r o) G) H) (hd : G r = none) : H r = some o ∧ Heap.le G H := by
  refine ⟨a.le _ _ (join_cell r o G).2, fun x y hx => ?_⟩
  have e : x ≠ r := by rintro rfl; rw [hd] at hx; cases hx
  exact a.le x y (by rw [(join_cell r o G).1 x e]; exact hx)
theorem Step.cdrop {g h G H : Heap} {r : Nat} {o : Obj} (a : Step g h (join (cell1 r o) G) H) (hd : G r = none) : Step g h G H := by
  refine ⟨(a.cr hd).2, a.frame, fun x h1 h2 => ?_⟩
  have := a.fresh x h1 h2
  by_cases e : x = r
  · rw [e]; exact hd
  · rwa [(join_cell r o G).1 x e] at this
theorem Step.cpart {g h G H G' H' : Heap} {r : Nat} {o : Obj} (a : Step g h (join (cell1 r o) G) H) (hd : G r = none) (s : Step G H G' H') : Step g h (join (cell1 r o) G') H' ∧ G' r = none := by
  have hc := (a.cr hd).1
  have hf : Heap.le (cell1 r o) H := by
    intro x y hx
    simp only [cell1] at hx
    split at hx
    · rename_i e; cases hx; subst e; exact hc
    · cases hx
  have hdj : disj (cell1 r o) G := by
    intro x hx
    simp only [cell1] at hx
    split at hx
    · rename_i e; subst e; exact hd
    · exact absurd rfl hx
  exact ⟨a.trans (s.part hf hdj), s.fresh r (by rw [hc]; simp) hd⟩
theorem Step.cset {g h G H : Heap} {r : Nat} {o : Obj} (a : Step g h (join (cell1 r o) G) H) (hd : G r = none) (o' : Obj) : Step g h (join (cell1 r o') G) (H.set r o') := by
  have := a.trans (Step.set a.le (b := r) (by rw [(join_cell r o G).2]; simp) o')
  have e : (join (cell1 r o) G).set r o' = join (cell1 r o') G := by
    funext x
    by_cases ex : x = r
    · subst ex; rw [Heap.set_eq, (join_cell _ o' G).2]
    · rw [Heap.set_ne ex, (join_cell r o G).1 x ex, (join_cell r o' G).1 x ex]
  rwa [e] at this
variable {g g' h : Heap} {b window need : Nat} {EL : List (List Si)} {W : List UInt8 → Option (List Int)} {hole : Option (List UInt8)} {ev : Value} {mw : Nat} {wkv : List (List UInt8 × Value)} {bs : List Nat} {ck : Nat} {gi gi' : Heap} {ems : List Nat}
theorem TrG.more (hT : TrG g b window need EL W hole ev mw wkv bs ck gi ems) (hl : Heap.le g g') (h1 : Heap.le gi gi') (h2 : Heap.le gi' g') (h3 : ∀ x, g x ≠ none → gi x = none → gi' x = none) :
    TrG g' b window need EL W hole ev mw wkv bs ck gi' ems := by
  have hT' := hT.le hl
  refine ⟨hT'.obj, hT'.evs, hT'.wm, hT.wnone, fun t v hv hh => ?_, hT.inj, hT.d1, hT.d2, hT.elen, fun i hi => (hT.eps i hi).le h1, h2, h3 _ hT.obj.mem hT.gib, h3 _ hT.wm.mem hT.gim, fun x hx => h3 _ (hT.evs.mem hx) (hT.gie x hx)⟩
  obtain ⟨l, x, a1, a2, a3, a4, a5, a6, a7⟩ := hT.wsome t v hv hh
  exact ⟨l, x, a1, a2.le hl, a3, a4, a5, a6, h3 _ (a2.mem a3) a7⟩
theorem TrG.appEv (hT : TrG g b window need EL W none ev mw wkv bs ck gi ems) (hg : Heap.le g h) {ev' : Value} {m : Nat} {l : List Si} (h1 : SlB encM 1 g' ev' (ems ++ [m]))
    (h2 : ∀ x, blkOf ev ≠ some x → blkOf ev' ≠ some x → g' x = g x) (h3 : ∀ x, blkOf ev' = some x → blkOf ev = some x ∨ h x = none) (hE : EpR gi m (tellE l)) {o : Obj}
    (ho : objAt (g'.set b o) ⟨b, 0, none⟩ [.int .i64 window, .int .i64 need, ev', .map (some mw)]) : TrG (g'.set b o) b window need (EL ++ [l]) W none ev' mw wkv bs ck gi (ems ++ [m]) := by
  have hh : ∀ x, g x ≠ none → blkOf ev ≠ some x → blkOf ev' ≠ some x := by
    intro x hx hn e
    rcases h3 x e with e2 | e2
    · exact hn e2
    · cases hgx : g x with
      | none => exact hx hgx
      | some o => rw [hg x o hgx] at e2; cases e2
  have hsm : ∀ x, g x ≠ none → blkOf ev ≠ some x → g' x = g x := fun x hx hn => h2 x hn (hh x hx hn)
  have hgb := hT.obj.mem
  have hgm := hT.wm.mem
  have hb' := hh b hgb hT.d2.1
  have hm' := hh mw hgm hT.d2.2
  refine ⟨ho, h1.same fun x hx => Heap.set_ne (fun e => hb' (by rw [← e]; exact hx)), ?_, hT.wnone, fun t v hv hh2 => ?_, hT.inj, hT.d1, ⟨hb', hm'⟩, by simp [hT.elen], fun i hi => ?_, ?_, hT.gib, hT.gim, fun x hx => ?_⟩
  · obtain ⟨es, q1, q2⟩ := hT.wm
    exact ⟨es, by rw [Heap.set_ne (Ne.symm hT.d1), hsm mw hgm hT.d2.2]; exact q1, q2⟩
  · obtain ⟨l', x, a1, a2, a3, a4, a5, a6, a7⟩ := hT.wsome t v hv hh2
    have hgx := a2.mem a3
    refine ⟨l', x, a1, a2.same fun y hy => ?_, a3, a4, a5, hh x hgx a6, a7⟩
    rw [a3] at hy; cases hy
    rw [Heap.set_ne a4]; exact hsm _ hgx a6
  · by_cases e : i < EL.length
    · have h5 : i < ems.length := by rw [hT.elen]; exact e
      have e1 : (ems ++ [m]).getD i 0 = ems.getD i 0 := by simp [List.getD_eq_getElem?_getD, List.getElem?_append_left h5]
      have e2 : (EL ++ [l]).getD i [] = EL.getD i [] := by simp [List.getD_eq_getElem?_getD, List.getElem?_append_left e]
      rw [e1, e2]; exact hT.eps i e
    · have : i = EL.length := by simp at hi; omega
      subst this
      have e1 : (ems ++ [m]).getD EL.length 0 = m := by simp [List.getD_eq_getElem?_getD, ← hT.elen]
      have e2 : (EL ++ [l]).getD EL.length [] = l := by simp [List.getD_eq_getElem?_getD]
      rw [e1, e2]; exact hE
  · intro x y hx
    have hne : x ≠ b := by rintro rfl; rw [hT.gib] at hx; cases hx
    have hgx := hT.gile x y hx
    have hev : blkOf ev ≠ some x := by intro e; rw [hT.gie x e] at hx; cases hx
    rw [Heap.set_ne hne, hsm x (by rw [hgx]; simp) hev]; exact hgx
  · rcases h3 x hx with e | e
    · exact hT.gie x e
    · cases hgx : gi x with
      | none => rfl
      | some o => rw [hg x o (hT.gile x o hgx)] at e; cases e
def HoleV (g : Heap) (b mw : Nat) (wkv : List (List UInt8 × Value)) (ev : Value) (gi : Heap) (tag : List UInt8) (v : Value) (l : List Int) : Prop :=
  SlB encI 1 g v l ∧ ∃ x, blkOf v = some x ∧ x ≠ b ∧ x ≠ mw ∧ blkOf ev ≠ some x ∧ gi x = none ∧ ∀ t w, look wkv t = some w → t ≠ tag → blkOf w ≠ some x
theorem HoleV.le {tag : List UInt8} {v : Value} {l : List Int} (h : HoleV g b mw wkv ev gi tag v l) (hl : Heap.le g g') : HoleV g' b mw wkv ev gi tag v l := ⟨h.1.le hl, h.2⟩
theorem TrG.hole_of (hT : TrG g b window need EL W none ev mw wkv bs ck gi ems) {tag : List UInt8} {v : Value} (hv : look wkv tag = some v) :
    TrG g b window need EL W (some tag) ev mw wkv bs ck gi ems ∧ ∃ l, W tag = some l ∧ HoleV g b mw wkv ev gi tag v l := by
  refine ⟨⟨hT.obj, hT.evs, hT.wm, hT.wnone, fun t v hv _ => hT.wsome t v hv (by simp), fun t t' v v' h1 h2 _ _ h3 => hT.inj t t' v v' h1 h2 (by simp) (by simp) h3, hT.d1, hT.d2, hT.elen, hT.eps, hT.gile, hT.gib, hT.gim, hT.gie⟩, ?_⟩
  obtain ⟨l, x, a1, a2, a3, a4, a5, a6, a7⟩ := hT.wsome tag v hv (by simp)
  exact ⟨l, a1, a2, x, a3, a4, a5, a6, a7, fun t w hw hne e => hne (hT.inj t tag w v hw hv (by simp) (by simp) (by rw [e, a3]))⟩
theorem HoleV.app {tag : List UInt8} {v v' : Value} {l l2 : List Int} (hT : TrG g b window need EL W (some tag) ev mw wkv bs ck gi ems) (hH : HoleV g b mw wkv ev gi tag v l) (hg : Heap.le g h) (hne : l2 ≠ [])
    (h1 : SlB encI 1 g' v' l2) (h2 : ∀ x, blkOf v ≠ some x → blkOf v' ≠ some x → g' x = g x) (h3 : ∀ x, blkOf v' = some x → blkOf v = some x ∨ h x = none) :
    TrG g' b window need EL W (some tag) ev mw wkv bs ck gi ems ∧ HoleV g' b mw wkv ev gi tag v' l2 := by
  obtain ⟨k1, x, k2, k3, k4, k5, k6, k7⟩ := hH
  have hno : ∀ y, h y = none → g y = none := le_none hg
  have hh : ∀ y, g y ≠ none → x ≠ y → blkOf v' ≠ some y := by
    intro y hy hn e
    rcases h3 y e with e2 | e2
    · rw [k2] at e2; cases e2; exact hn rfl
    · exact hy (hno y e2)
  have hsm : ∀ y, g y ≠ none → x ≠ y → g' y = g y := fun y hy hn => h2 y (by rw [k2]; intro e; cases e; exact hn rfl) (hh y hy hn)
  have hgb := hT.obj.mem
  have hgm := hT.wm.mem
  refine ⟨⟨?_, hT.evs.same fun y hy => hsm y (hT.evs.mem hy) (by rintro rfl; exact k5 hy), ?_, hT.wnone, fun t w hw hn => ?_, hT.inj, hT.d1, hT.d2, hT.elen, hT.eps, ?_, hT.gib, hT.gim, hT.gie⟩, h1, ?_⟩
  · obtain ⟨q1, c, t, q2, q3⟩ := hT.obj
    exact ⟨q1, c, t, by rw [hsm b hgb k3]; exact q2, q3⟩
  · obtain ⟨es, q1, q2⟩ := hT.wm
    exact ⟨es, by rw [hsm mw hgm k4]; exact q1, q2⟩
  · obtain ⟨l', y, a1, a2, a3, a4⟩ := hT.wsome t w hw hn
    exact ⟨l', y, a1, a2.same fun z hz => hsm z (a2.mem hz) (by rintro rfl; exact k7 t w hw (by rintro rfl; exact hn rfl) hz), a3, a4⟩
  · intro y o hy
    have hgy := hT.gile y o hy
    rw [hsm y (by rw [hgy]; simp) (by rintro rfl; rw [k6] at hy; cases hy)]; exact hgy
  · have hx' : ∃ x', blkOf v' = some x' := by
      obtain ⟨a, cap, rfl, _, _, h5⟩ := h1
      rcases h5 with ⟨_, h6, _⟩ | ⟨y, c, t, rfl, _⟩
      · exact absurd h6 hne
      · exact ⟨y, rfl⟩
    obtain ⟨x', hx'⟩ := hx'
    refine ⟨x', hx', ?_⟩
    rcases h3 x' hx' with e | e
    · rw [k2] at e; cases e; exact ⟨k3, k4, k5, k6, k7⟩
    · have e' := hno x' e
      refine ⟨by rintro rfl; exact hgb e', by rintro rfl; exact hgm e', fun e2 => hT.evs.mem e2 e', ?_, fun t w hw hn e2 => ?_⟩
      · cases hgx : gi x' with
        | none => rfl
        | some o => rw [hT.gile x' o hgx] at e'; cases e'
      · obtain ⟨l', y, a1, a2, a3, a4⟩ := hT.wsome t w hw (by intro e3; cases e3; exact hn rfl)
        exact a2.mem e2 e'
end Go.Cw
