/- The functions of the program that the examples reach, resolved; what they are is proved in the next text; no condition. -/
import Derived.Test.YtcjhklflgdeckaaGreatRows
import Derived.Test.YtcjhklflgdeckaaGreatE3
namespace Go.Proofs.YtcjhklflgdeckaaGreat
open Go.E
/-- valise/overlay.New -/
noncomputable def qf4 : RFunc := ⟨95, [.tmp 4, .tmp 5],
  (.seq (.region [⟨(some 4), .mov (.const (.pointer none)), none⟩,
    ⟨(some 5), .mov (.const (.int .i64 0)), none⟩])
  (.seq (.seq (.region [⟨(some 14), .mov (.tmp 1), none⟩,
    ⟨(some 15), .bin .eql 26 (.interface #[("Block", 133)]) (.tmp 14) (.const .nilIface), none⟩])
  (.cond (.tmp 15)
  (.seq (.region [⟨(some 4), .mov (.const (.pointer none)), none⟩,
    ⟨(some 5), .mov (.const (.int .i64 1)), none⟩])
  .ret)
  .skip))
  (.seq (.region [⟨(some 6), .mov (.const (.slice none 0 0)), none⟩])
  (.seq (.seq (.region [⟨(some 16), .mov (.tmp 0), none⟩,
    ⟨(some 17), .len (.slice 54) (.tmp 16), none⟩,
    ⟨(some 18), .mov (.const (.int .i64 0)), none⟩])
  (.block 0
  (.loop
  (.seq (.region [⟨(some 19), .bin .lss 3 (.int .i64) (.tmp 18) (.tmp 17), none⟩])
  (.seq (.cond (.tmp 19)
  .skip
  (.exit 0))
  (.seq (.block 1
  (.seq (.region [⟨(some 20), .idxS 3 (.tmp 16) (.tmp 18), none⟩,
    ⟨(some 21), .loadN 3 (.tmp 20), none⟩,
    ⟨(some 8), .new [(.string ⟨#[]⟩), (.bool false), (.int .i64 0)] 54 3, none⟩,
    ⟨none, .store 3 (.tmp 8) (.tmp 21), none⟩])
  (.seq (.seq (.region [⟨(some 22), .addOff 2 (.tmp 8), none⟩,
    ⟨(some 23), .load1 (.tmp 22), none⟩,
    ⟨(some 24), .bin .lss 3 (.int .i64) (.tmp 23) (.const (.int .i64 0)), none⟩,
    ⟨(some 25), .mov (.tmp 24), none⟩,
    ⟨(some 26), .addOff 1 (.tmp 8), (some (25, false))⟩,
    ⟨(some 27), .load1 (.tmp 26), (some (25, false))⟩,
    ⟨(some 28), .mov (.tmp 27), (some (25, false))⟩,
    ⟨(some 29), .addOff 2 (.tmp 8), (some (28, true))⟩,
    ⟨(some 30), .load1 (.tmp 29), (some (28, true))⟩,
    ⟨(some 31), .bin .neq 3 (.int .i64) (.tmp 30) (.const (.int .i64 0)), (some (28, true))⟩,
    ⟨(some 32), .pick (.tmp 28) (.tmp 31) (.const (.bool false)), (some (25, false))⟩,
    ⟨(some 33), .pick (.tmp 25) (.const (.bool true)) (.tmp 32), none⟩])
  (.cond (.tmp 33)
  (.seq (.region [⟨(some 4), .mov (.const (.pointer none)), none⟩,
    ⟨(some 5), .mov (.const (.int .i64 2)), none⟩])
  .ret)
  .skip))
  (.region [⟨(some 34), .mov (.tmp 6), none⟩,
    ⟨(some 35), .addOff 0 (.tmp 8), none⟩,
    ⟨(some 36), .load1 (.tmp 35), none⟩,
    ⟨(some 37), .addOff 1 (.tmp 8), none⟩,
    ⟨(some 38), .load1 (.tmp 37), none⟩,
    ⟨(some 39), .build [(.string ⟨#[]⟩), (.bool false), (.slice none 0 0)] [(0, 1, (.tmp 36)), (1, 1, (.tmp 38))], none⟩,
    ⟨(some 40), .buildSlice 56 3 1 [(.string ⟨#[]⟩), (.bool false), (.slice none 0 0)] [(0, 3, (.tmp 39))], none⟩,
    ⟨(some 41), .append 56 3 48 [(.string ⟨#[]⟩), (.bool false), (.slice none 0 0)] (.tmp 34) (.tmp 40), none⟩,
    ⟨(some 6), .mov (.tmp 41), none⟩]))))
  (.region [⟨(some 42), .bin .add 3 (.int .i64) (.tmp 18) (.const (.int .i64 1)), none⟩,
    ⟨(some 18), .mov (.tmp 42), none⟩])))))))
  (.seq (.seq (.region [⟨(some 43), .mov (.tmp 0), none⟩,
    ⟨(some 44), .call 12 [(.tmp 43), (.func 13)], none⟩])
  (.cond (.tmp 44)
  (.seq (.region [⟨(some 4), .mov (.const (.pointer none)), none⟩,
    ⟨(some 5), .mov (.const (.int .i64 3)), none⟩])
  .ret)
  .skip))
  (.seq (.region [⟨(some 46), .mov (.tmp 6), none⟩,
    ⟨(some 47), .call 14 [(.tmp 46)], none⟩,
    ⟨(some 45), .mov (.tmp 47), none⟩,
    ⟨(some 48), .ext (.tmp 45) 0, none⟩,
    ⟨(some 49), .ext (.tmp 45) 1, none⟩,
    ⟨(some 9), .mov (.tmp 48), none⟩,
    ⟨(some 10), .mov (.tmp 49), none⟩])
  (.seq (.seq (.region [⟨(some 50), .mov (.tmp 10), none⟩,
    ⟨(some 51), .bin .neq 28 (.int .i64) (.tmp 50) (.const (.int .i64 0)), none⟩])
  (.cond (.tmp 51)
  (.seq (.region [⟨(some 52), .mov (.tmp 10), none⟩,
    ⟨(some 4), .mov (.const (.pointer none)), none⟩,
    ⟨(some 5), .mov (.tmp 52), none⟩])
  .ret)
  .skip))
  (.seq (.region [⟨(some 53), .mov (.tmp 1), none⟩,
    ⟨(some 54), .mov (.tmp 9), none⟩,
    ⟨(some 55), .mkmap, none⟩,
    ⟨(some 56), .build [.nilIface, (.pointer none), (.map none), (.string ⟨#[]⟩), (.bool false), (.string ⟨#[]⟩), (.bool false), (.string ⟨#[]⟩), (.bool false), (.string ⟨#[]⟩), (.bool false), (.string ⟨#[]⟩), (.bool false), (.string ⟨#[]⟩), (.bool false), (.string ⟨#[]⟩), (.bool false), (.string ⟨#[]⟩), (.bool false), (.string ⟨#[]⟩), (.bool false), (.string ⟨#[]⟩), (.bool false), (.string ⟨#[]⟩), (.bool false), (.string ⟨#[]⟩), (.bool false), (.string ⟨#[]⟩), (.bool false), (.string ⟨#[]⟩), (.bool false), (.string ⟨#[]⟩), (.bool false), (.string ⟨#[]⟩), (.bool false), (.string ⟨#[]⟩), (.bool false), (.string ⟨#[]⟩), (.bool false), (.string ⟨#[]⟩), (.bool false), (.string ⟨#[]⟩), (.bool false), (.string ⟨#[]⟩), (.bool false), (.string ⟨#[]⟩), (.bool false), (.string ⟨#[]⟩), (.bool false), (.string ⟨#[]⟩), (.bool false), (.string ⟨#[]⟩), (.bool false), (.string ⟨#[]⟩), (.bool false), (.string ⟨#[]⟩), (.bool false), (.string ⟨#[]⟩), (.bool false), (.string ⟨#[]⟩), (.bool false), (.string ⟨#[]⟩), (.bool false), (.string ⟨#[]⟩), (.bool false), (.string ⟨#[]⟩), (.bool false), (.string ⟨#[]⟩), (.bool false), (.string ⟨#[]⟩), (.bool false), (.string ⟨#[]⟩), (.bool false), (.string ⟨#[]⟩), (.bool false), (.string ⟨#[]⟩), (.bool false), (.string ⟨#[]⟩), (.bool false), (.string ⟨#[]⟩), (.bool false), (.string ⟨#[]⟩), (.bool false), (.string ⟨#[]⟩), (.bool false), (.string ⟨#[]⟩), (.bool false), (.string ⟨#[]⟩), (.bool false), (.string ⟨#[]⟩), (.bool false), (.string ⟨#[]⟩), (.bool false), (.string ⟨#[]⟩), (.bool false), (.string ⟨#[]⟩), (.bool false), (.string ⟨#[]⟩), (.bool false), (.string ⟨#[]⟩), (.bool false), (.string ⟨#[]⟩), (.bool false), (.string ⟨#[]⟩), (.bool false), (.string ⟨#[]⟩), (.bool false), (.string ⟨#[]⟩), (.bool false), (.string ⟨#[]⟩), (.bool false), (.string ⟨#[]⟩), (.bool false), (.string ⟨#[]⟩), (.bool false), (.string ⟨#[]⟩), (.bool false), (.string ⟨#[]⟩), (.bool false), (.string ⟨#[]⟩), (.bool false), (.string ⟨#[]⟩), (.bool false), (.string ⟨#[]⟩), (.bool false), (.string ⟨#[]⟩), (.bool false), (.string ⟨#[]⟩), (.bool false), (.string ⟨#[]⟩), (.bool false), (.string ⟨#[]⟩), (.bool false), (.string ⟨#[]⟩), (.bool false), (.string ⟨#[]⟩), (.bool false), (.string ⟨#[]⟩), (.bool false), (.string ⟨#[]⟩), (.bool false), (.string ⟨#[]⟩), (.bool false), (.string ⟨#[]⟩), (.bool false), (.string ⟨#[]⟩), (.bool false), (.string ⟨#[]⟩), (.bool false), (.string ⟨#[]⟩), (.bool false), (.string ⟨#[]⟩), (.bool false), (.string ⟨#[]⟩), (.bool false), (.string ⟨#[]⟩), (.bool false), (.string ⟨#[]⟩), (.bool false), (.string ⟨#[]⟩), (.bool false), (.string ⟨#[]⟩), (.bool false), (.string ⟨#[]⟩), (.bool false), (.string ⟨#[]⟩), (.bool false), (.string ⟨#[]⟩), (.bool false), (.string ⟨#[]⟩), (.bool false), (.string ⟨#[]⟩), (.bool false), (.string ⟨#[]⟩), (.bool false), (.string ⟨#[]⟩), (.bool false), (.string ⟨#[]⟩), (.bool false), (.string ⟨#[]⟩), (.bool false), (.string ⟨#[]⟩), (.bool false), (.string ⟨#[]⟩), (.bool false), (.string ⟨#[]⟩), (.bool false), (.string ⟨#[]⟩), (.bool false), (.string ⟨#[]⟩), (.bool false), (.string ⟨#[]⟩), (.bool false), (.string ⟨#[]⟩), (.bool false), (.string ⟨#[]⟩), (.bool false), (.string ⟨#[]⟩), (.bool false), (.string ⟨#[]⟩), (.bool false), (.string ⟨#[]⟩), (.bool false), (.string ⟨#[]⟩), (.bool false), (.string ⟨#[]⟩), (.bool false), (.string ⟨#[]⟩), (.bool false), (.string ⟨#[]⟩), (.bool false), (.string ⟨#[]⟩), (.bool false), (.string ⟨#[]⟩), (.bool false), (.string ⟨#[]⟩), (.bool false), (.string ⟨#[]⟩), (.bool false), (.string ⟨#[]⟩), (.bool false), (.string ⟨#[]⟩), (.bool false), (.string ⟨#[]⟩), (.bool false), (.string ⟨#[]⟩), (.bool false), (.string ⟨#[]⟩), (.bool false), (.string ⟨#[]⟩), (.bool false), (.string ⟨#[]⟩), (.bool false), (.string ⟨#[]⟩), (.bool false), (.string ⟨#[]⟩), (.bool false), (.string ⟨#[]⟩), (.bool false), (.string ⟨#[]⟩), (.bool false), (.string ⟨#[]⟩), (.bool false), (.string ⟨#[]⟩), (.bool false), (.string ⟨#[]⟩), (.bool false), (.string ⟨#[]⟩), (.bool false), (.string ⟨#[]⟩), (.bool false), (.string ⟨#[]⟩), (.bool false), (.string ⟨#[]⟩), (.bool false), (.string ⟨#[]⟩), (.bool false), (.string ⟨#[]⟩), (.bool false), (.int .i64 0)] [(0, 1, (.tmp 53)), (1, 1, (.tmp 54)), (2, 1, (.tmp 55))], none⟩,
    ⟨(some 57), .box 38 260 (.tmp 56), none⟩,
    ⟨(some 11), .mov (.tmp 57), none⟩])
  (.seq (.seq (.region [⟨(some 58), .mov (.tmp 0), none⟩,
    ⟨(some 59), .len (.slice 54) (.tmp 58), none⟩,
    ⟨(some 60), .mov (.const (.int .i64 0)), none⟩])
  (.block 2
  (.loop
  (.seq (.region [⟨(some 61), .bin .lss 3 (.int .i64) (.tmp 60) (.tmp 59), none⟩])
  (.seq (.cond (.tmp 61)
  .skip
  (.exit 2))
  (.seq (.block 3
  (.seq (.region [⟨(some 62), .idxS 3 (.tmp 58) (.tmp 60), none⟩,
    ⟨(some 63), .loadN 3 (.tmp 62), none⟩,
    ⟨(some 13), .new [(.string ⟨#[]⟩), (.bool false), (.int .i64 0)] 54 3, none⟩,
    ⟨none, .store 3 (.tmp 13) (.tmp 63), none⟩])
  (.seq (.region [⟨(some 64), .addOff 1 (.tmp 13), none⟩,
    ⟨(some 65), .load1 (.tmp 64), none⟩,
    ⟨(some 66), .un .not (.tmp 65), none⟩])
  (.cond (.tmp 66)
  (.seq (.draw [⟨(some 67), .mov (.tmp 11), none⟩,
    ⟨(some 68), .nilCheck (.tmp 67), none⟩,
    ⟨(some 69), .addOff 2 (.tmp 68), none⟩,
    ⟨(some 70), .load1 (.tmp 69), none⟩,
    ⟨(some 71), .addOff 0 (.tmp 13), none⟩,
    ⟨(some 72), .load1 (.tmp 71), none⟩,
    ⟨(some 73), .addOff 0 (.tmp 13), none⟩,
    ⟨(some 74), .load1 (.tmp 73), none⟩,
    ⟨(some 75), .addOff 2 (.tmp 13), none⟩,
    ⟨(some 76), .load1 (.tmp 75), none⟩,
    ⟨(some 77), .build [(.bool false), (.slice none 0 0), (.string ⟨#[]⟩), (.int .i64 0)] [(2, 1, (.tmp 74)), (3, 1, (.tmp 76))], none⟩,
    ⟨(some 78), .box 63 4 (.tmp 77), none⟩,
    ⟨none, .mput .string (.tmp 70) (.tmp 72) (.tmp 78), none⟩] [0, 1, 3, 7, 0, 16, 0, 64, 0, 256, 960, 1984, 4095] [0, 1, 2, 3, 4, 5, 6, 7, 8, 9, 10, 11, 12])
  (.draw [⟨(some 79), .mov (.tmp 11), none⟩,
    ⟨(some 80), .nilCheck (.tmp 79), none⟩,
    ⟨(some 81), .addOff 259 (.tmp 80), none⟩,
    ⟨(some 82), .load1 (.tmp 81), none⟩,
    ⟨(some 83), .addOff 2 (.tmp 13), none⟩,
    ⟨(some 84), .load1 (.tmp 83), none⟩,
    ⟨(some 85), .bin .add 3 (.int .i64) (.tmp 82) (.tmp 84), none⟩,
    ⟨(some 86), .nilCheck (.tmp 79), none⟩,
    ⟨(some 87), .addOff 259 (.tmp 86), none⟩,
    ⟨none, .store 1 (.tmp 87) (.tmp 85), none⟩] [0, 1, 3, 7, 0, 16, 63, 127, 255, 511] [0, 1, 2, 3, 4, 5, 6, 7, 8, 9]))
  .skip))))
  (.region [⟨(some 88), .bin .add 3 (.int .i64) (.tmp 60) (.const (.int .i64 1)), none⟩,
    ⟨(some 60), .mov (.tmp 88), none⟩])))))))
  (.seq (.seq (.region [⟨(some 89), .mov (.tmp 11), none⟩,
    ⟨(some 90), .nilCheck (.tmp 89), none⟩,
    ⟨(some 91), .addOff 259 (.tmp 90), none⟩,
    ⟨(some 92), .load1 (.tmp 91), none⟩,
    ⟨(some 93), .bin .gtr 3 (.int .i64) (.tmp 92) (.const (.int .i64 262144)), none⟩])
  (.cond (.tmp 93)
  (.seq (.region [⟨(some 4), .mov (.const (.pointer none)), none⟩,
    ⟨(some 5), .mov (.const (.int .i64 7)), none⟩])
  .ret)
  .skip))
  (.seq (.region [⟨(some 94), .mov (.tmp 11), none⟩,
    ⟨(some 4), .mov (.tmp 94), none⟩,
    ⟨(some 5), .mov (.const (.int .i64 0)), none⟩])
  .ret)))))))))))⟩

/-- (*valise/overlay.FS).Do -/
noncomputable def qf5 : RFunc := ⟨78, [.cellN 6 5],
  (.seq (.region [⟨(some 5), .box 24 9 (.tmp 2), none⟩,
    ⟨(some 6), .new [(.int .i64 0), (.int .i64 0), (.int .i64 0), (.slice none 0 0), (.slice none 0 0)] 41 5, none⟩])
  (.seq (.block 0
  (.seq (.region [⟨(some 13), .mov (.tmp 0), none⟩,
    ⟨(some 14), .bin .eql 27 (.pointer 38) (.tmp 13) (.const (.pointer none)), none⟩,
    ⟨(some 15), .mov (.tmp 14), none⟩,
    ⟨(some 16), .mov (.tmp 0), (some (15, false))⟩,
    ⟨(some 17), .nilCheck (.tmp 16), (some (15, false))⟩,
    ⟨(some 18), .addOff 1 (.tmp 17), (some (15, false))⟩,
    ⟨(some 19), .load1 (.tmp 18), (some (15, false))⟩,
    ⟨(some 20), .bin .eql 31 (.pointer 89) (.tmp 19) (.const (.pointer none)), (some (15, false))⟩,
    ⟨(some 21), .pick (.tmp 15) (.const (.bool true)) (.tmp 20), none⟩,
    ⟨(some 12), .mov (.tmp 21), none⟩])
  (.cond (.tmp 12)
  (.seq (.region [⟨(some 22), .call 15 [(.const (.int .i64 1))], none⟩,
    ⟨none, .store 5 (.tmp 6) (.tmp 22), none⟩])
  .ret)
  (.seq (.region [⟨(some 24), .mov (.tmp 1), none⟩,
    ⟨(some 25), .bin .lss 3 (.int .i64) (.tmp 24) (.const (.int .i64 0)), none⟩,
    ⟨(some 26), .mov (.tmp 25), none⟩,
    ⟨(some 27), .mov (.tmp 1), (some (26, false))⟩,
    ⟨(some 28), .bin .geq 3 (.int .i64) (.tmp 27) (.const (.int .i64 8)), (some (26, false))⟩,
    ⟨(some 29), .pick (.tmp 26) (.const (.bool true)) (.tmp 28), none⟩,
    ⟨(some 23), .mov (.tmp 29), none⟩])
  (.cond (.tmp 23)
  (.seq (.region [⟨(some 30), .call 15 [(.const (.int .i64 2))], none⟩,
    ⟨none, .store 5 (.tmp 6) (.tmp 30), none⟩])
  .ret)
  (.seq (.region [⟨(some 32), .addOff 0 (.tmp 5), none⟩,
    ⟨(some 33), .load1 (.tmp 32), none⟩,
    ⟨(some 34), .bin .eql 3 (.int .i64) (.tmp 33) (.const (.int .i64 1)), none⟩,
    ⟨(some 31), .mov (.tmp 34), none⟩])
  (.cond (.tmp 31)
  (.seq (.region [⟨(some 35), .mov (.tmp 0), none⟩,
    ⟨(some 36), .mov (.tmp 1), none⟩,
    ⟨(some 37), .loadN 9 (.tmp 5), none⟩,
    ⟨(some 38), .call 16 [(.tmp 35), (.tmp 36), (.tmp 37)], none⟩,
    ⟨none, .store 5 (.tmp 6) (.tmp 38), none⟩])
  .ret)
  .skip)))))))
  (.seq (.seq (.region [⟨(some 39), .mov (.tmp 0), none⟩,
    ⟨(some 40), .addOff 0 (.tmp 5), none⟩,
    ⟨(some 41), .load1 (.tmp 40), none⟩,
    ⟨(some 42), .call 17 [(.tmp 39), (.tmp 41)], none⟩,
    ⟨(some 7), .mov (.tmp 42), none⟩])
  (.seq (.region [⟨(some 43), .mov (.tmp 7), none⟩,
    ⟨(some 44), .bin .neq 65 (.func #[67, 24] #[41] false) (.tmp 43) (.const .nilFunc), none⟩])
  (.cond (.tmp 44)
  (.seq (.region [⟨(some 45), .mov (.tmp 0), none⟩,
    ⟨(some 46), .mov (.tmp 1), none⟩,
    ⟨(some 47), .addOff 3 (.tmp 5), none⟩,
    ⟨(some 48), .load1 (.tmp 47), none⟩,
    ⟨(some 49), .call 18 [(.tmp 45), (.tmp 46), (.tmp 48)], none⟩,
    ⟨(some 8), .mov (.tmp 49), none⟩])
  (.seq (.seq (.region [⟨(some 50), .mov (.tmp 8), none⟩,
    ⟨(some 51), .bin .eql 67 (.pointer 34) (.tmp 50) (.const (.pointer none)), none⟩])
  (.cond (.tmp 51)
  (.seq (.region [⟨(some 52), .call 15 [(.const (.int .i64 19))], none⟩,
    ⟨none, .store 5 (.tmp 6) (.tmp 52), none⟩])
  .ret)
  .skip))
  (.seq (.region [⟨(some 53), .mov (.tmp 7), none⟩,
    ⟨(some 54), .mov (.tmp 8), none⟩,
    ⟨(some 55), .loadN 9 (.tmp 5), none⟩,
    ⟨(some 56), .callv (.tmp 53) [(.tmp 54), (.tmp 55)], none⟩,
    ⟨none, .store 5 (.tmp 6) (.tmp 56), none⟩])
  .ret)))
  .skip)))
  (.seq (.region [⟨(some 57), .mov (.tmp 0), none⟩,
    ⟨(some 58), .addOff 0 (.tmp 5), none⟩,
    ⟨(some 59), .load1 (.tmp 58), none⟩,
    ⟨(some 60), .call 19 [(.tmp 57), (.tmp 59)], none⟩,
    ⟨(some 9), .mov (.tmp 60), none⟩])
  (.seq (.seq (.region [⟨(some 61), .mov (.tmp 9), none⟩,
    ⟨(some 62), .bin .eql 69 (.func #[9, 24] #[41] false) (.tmp 61) (.const .nilFunc), none⟩])
  (.cond (.tmp 62)
  (.seq (.region [⟨(some 63), .call 15 [(.const (.int .i64 2))], none⟩,
    ⟨none, .store 5 (.tmp 6) (.tmp 63), none⟩])
  .ret)
  .skip))
  (.seq (.region [⟨(some 65), .addOff 1 (.tmp 5), none⟩,
    ⟨(some 66), .load1 (.tmp 65), none⟩,
    ⟨(some 67), .call 20 [(.tmp 66)], none⟩,
    ⟨(some 64), .mov (.tmp 67), none⟩,
    ⟨(some 68), .ext (.tmp 64) 0, none⟩,
    ⟨(some 69), .ext (.tmp 64) 1, none⟩,
    ⟨(some 10), .mov (.tmp 68), none⟩,
    ⟨(some 11), .mov (.tmp 69), none⟩])
  (.seq (.seq (.region [⟨(some 70), .mov (.tmp 11), none⟩,
    ⟨(some 71), .bin .neq 28 (.int .i64) (.tmp 70) (.const (.int .i64 0)), none⟩])
  (.cond (.tmp 71)
  (.seq (.region [⟨(some 72), .mov (.tmp 11), none⟩,
    ⟨(some 73), .call 15 [(.tmp 72)], none⟩,
    ⟨none, .store 5 (.tmp 6) (.tmp 73), none⟩])
  .ret)
  .skip))
  (.seq (.region [⟨(some 74), .mov (.tmp 9), none⟩,
    ⟨(some 75), .mov (.tmp 10), none⟩,
    ⟨(some 76), .loadN 9 (.tmp 5), none⟩,
    ⟨(some 77), .callv (.tmp 74) [(.tmp 75), (.tmp 76)], none⟩,
    ⟨none, .store 5 (.tmp 6) (.tmp 77), none⟩])
  .ret))))))))⟩

/-- (*valise/overlay.FS).Files -/
noncomputable def qf7 : RFunc := ⟨48, [.tmp 2],
  (.seq (.region [⟨(some 2), .mov (.const (.slice none 0 0)), none⟩])
  (.seq (.seq (.region [⟨(some 7), .mov (.tmp 0), none⟩,
    ⟨(some 8), .bin .eql 27 (.pointer 38) (.tmp 7) (.const (.pointer none)), none⟩,
    ⟨(some 9), .mov (.tmp 8), none⟩,
    ⟨(some 10), .mov (.tmp 0), (some (9, false))⟩,
    ⟨(some 11), .nilCheck (.tmp 10), (some (9, false))⟩,
    ⟨(some 12), .addOff 1 (.tmp 11), (some (9, false))⟩,
    ⟨(some 13), .load1 (.tmp 12), (some (9, false))⟩,
    ⟨(some 14), .bin .eql 31 (.pointer 89) (.tmp 13) (.const (.pointer none)), (some (9, false))⟩,
    ⟨(some 15), .pick (.tmp 9) (.const (.bool true)) (.tmp 14), none⟩])
  (.cond (.tmp 15)
  (.seq (.region [⟨(some 2), .mov (.const (.slice none 0 0)), none⟩])
  .ret)
  .skip))
  (.seq (.region [⟨(some 16), .mov (.tmp 0), none⟩,
    ⟨(some 17), .nilCheck (.tmp 16), none⟩,
    ⟨(some 18), .addOff 1 (.tmp 17), none⟩,
    ⟨(some 19), .load1 (.tmp 18), none⟩,
    ⟨(some 20), .call 22 [(.tmp 19)], none⟩,
    ⟨(some 3), .mov (.tmp 20), none⟩])
  (.seq (.seq (.region [⟨(some 21), .mov (.tmp 3), none⟩,
    ⟨(some 22), .len (.slice 56) (.tmp 21), none⟩,
    ⟨(some 23), .mov (.const (.int .i64 0)), none⟩])
  (.block 0
  (.loop
  (.seq (.region [⟨(some 24), .bin .lss 3 (.int .i64) (.tmp 23) (.tmp 22), none⟩])
  (.seq (.cond (.tmp 24)
  .skip
  (.exit 0))
  (.seq (.block 1
  (.seq (.region [⟨(some 25), .mov (.tmp 23), none⟩,
    ⟨(some 26), .idxS 3 (.tmp 21) (.tmp 23), none⟩,
    ⟨(some 27), .loadN 3 (.tmp 26), none⟩,
    ⟨(some 5), .new [(.string ⟨#[]⟩), (.bool false), (.slice none 0 0)] 56 3, none⟩,
    ⟨(some 4), .mov (.tmp 25), none⟩,
    ⟨none, .store 3 (.tmp 5) (.tmp 27), none⟩])
  (.seq (.draw [⟨(some 28), .mov (.tmp 0), none⟩,
    ⟨(some 29), .nilCheck (.tmp 28), none⟩,
    ⟨(some 30), .addOff 2 (.tmp 29), none⟩,
    ⟨(some 31), .load1 (.tmp 30), none⟩,
    ⟨(some 32), .addOff 0 (.tmp 5), none⟩,
    ⟨(some 33), .load1 (.tmp 32), none⟩,
    ⟨(some 34), .look .string (.pointer none) (.tmp 31) (.tmp 33) false, none⟩,
    ⟨(some 6), .mov (.tmp 34), none⟩] [0, 1, 3, 7, 0, 16, 63, 127] [0, 1, 2, 3, 4, 5, 6, 7])
  (.seq (.region [⟨(some 35), .mov (.tmp 6), none⟩,
    ⟨(some 36), .bin .neq 61 (.pointer 63) (.tmp 35) (.const (.pointer none)), none⟩])
  (.cond (.tmp 36)
  (.region [⟨(some 37), .mov (.tmp 3), none⟩,
    ⟨(some 38), .mov (.tmp 4), none⟩,
    ⟨(some 39), .mov (.tmp 0), none⟩,
    ⟨(some 40), .mov (.tmp 6), none⟩,
    ⟨(some 41), .mov (.tmp 6), none⟩,
    ⟨(some 42), .call 24 [(.tmp 41)], none⟩,
    ⟨(some 43), .call 23 [(.tmp 39), (.tmp 40), (.const (.int .i64 0)), (.tmp 42)], none⟩,
    ⟨(some 44), .idxS 3 (.tmp 37) (.tmp 38), none⟩,
    ⟨(some 45), .addOff 2 (.tmp 44), none⟩,
    ⟨none, .store 1 (.tmp 45) (.tmp 43), none⟩])
  .skip)))))
  (.region [⟨(some 46), .bin .add 3 (.int .i64) (.tmp 23) (.const (.int .i64 1)), none⟩,
    ⟨(some 23), .mov (.tmp 46), none⟩])))))))
  (.seq (.region [⟨(some 47), .mov (.tmp 3), none⟩,
    ⟨(some 2), .mov (.tmp 47), none⟩])
  .ret)))))⟩

/-- valise/valiselaw19.lives -/
noncomputable def qf11 : RFunc := ⟨110, [.tmp 0],
  (.seq (.region [⟨(some 0), .mov (.const (.bool false)), none⟩])
  (.seq (.region [⟨(some 13), .buildSlice 5 1 4 [(.int .u8 0)] [(0, 1, (.const (.int .u8 98))), (1, 1, (.const (.int .u8 97))), (2, 1, (.const (.int .u8 115))), (3, 1, (.const (.int .u8 101)))], none⟩,
    ⟨(some 14), .markStr (.tmp 13), none⟩,
    ⟨(some 15), .build [(.string ⟨#[]⟩), (.bool false), (.slice none 0 0)] [(0, 1, (.const (.string ⟨#[122]⟩))), (2, 1, (.tmp 14))], none⟩,
    ⟨(some 16), .buildSlice 56 3 1 [(.string ⟨#[]⟩), (.bool false), (.slice none 0 0)] [(0, 3, (.tmp 15))], none⟩,
    ⟨(some 17), .call 26 [(.tmp 16)], none⟩,
    ⟨(some 12), .mov (.tmp 17), none⟩,
    ⟨(some 18), .ext (.tmp 12) 0, none⟩,
    ⟨(some 19), .ext (.tmp 12) 1, none⟩,
    ⟨(some 20), .ext (.tmp 12) 2, none⟩,
    ⟨(some 1), .mov (.tmp 18), none⟩,
    ⟨(some 2), .mov (.tmp 19), none⟩,
    ⟨(some 3), .mov (.tmp 20), none⟩])
  (.seq (.seq (.region [⟨(some 21), .mov (.tmp 1), none⟩,
    ⟨(some 22), .bin .eql 27 (.pointer 38) (.tmp 21) (.const (.pointer none)), none⟩,
    ⟨(some 23), .mov (.tmp 22), none⟩,
    ⟨(some 24), .mov (.tmp 3), (some (23, false))⟩,
    ⟨(some 25), .bin .neq 28 (.int .i64) (.tmp 24) (.const (.int .i64 0)), (some (23, false))⟩,
    ⟨(some 26), .pick (.tmp 23) (.const (.bool true)) (.tmp 25), none⟩])
  (.cond (.tmp 26)
  (.seq (.region [⟨(some 0), .mov (.const (.bool false)), none⟩])
  .ret)
  .skip))
  (.seq (.region [⟨(some 27), .mov (.tmp 1), none⟩,
    ⟨(some 28), .build [(.int .i64 0), (.string ⟨#[]⟩), (.string ⟨#[]⟩), (.int .i64 0), (.int .i64 0), (.int .i64 0), (.bool false), (.bool false), (.slice none 0 0)] [(0, 1, (.const (.int .i64 1))), (1, 1, (.const (.string ⟨#[97]⟩))), (6, 1, (.const (.bool true))), (7, 1, (.const (.bool true)))], none⟩,
    ⟨(some 29), .call 5 [(.tmp 27), (.const (.int .i64 0)), (.tmp 28)], none⟩,
    ⟨(some 4), .new [(.int .i64 0), (.int .i64 0), (.int .i64 0), (.slice none 0 0), (.slice none 0 0)] 41 5, none⟩,
    ⟨none, .store 5 (.tmp 4) (.tmp 29), none⟩])
  (.seq (.region [⟨(some 30), .mov (.tmp 1), none⟩,
    ⟨(some 31), .buildSlice 5 1 2 [(.int .u8 0)] [(0, 1, (.const (.int .u8 120))), (1, 1, (.const (.int .u8 121)))], none⟩,
    ⟨(some 32), .markStr (.tmp 31), none⟩,
    ⟨(some 33), .build [(.int .i64 0), (.string ⟨#[]⟩), (.string ⟨#[]⟩), (.int .i64 0), (.int .i64 0), (.int .i64 0), (.bool false), (.bool false), (.slice none 0 0)] [(0, 1, (.const (.int .i64 3))), (3, 1, (.const (.int .i64 1))), (4, 1, (.const (.int .i64 2))), (8, 1, (.tmp 32))], none⟩,
    ⟨(some 34), .call 5 [(.tmp 30), (.const (.int .i64 0)), (.tmp 33)], none⟩,
    ⟨(some 5), .new [(.int .i64 0), (.int .i64 0), (.int .i64 0), (.slice none 0 0), (.slice none 0 0)] 41 5, none⟩,
    ⟨none, .store 5 (.tmp 5) (.tmp 34), none⟩])
  (.seq (.region [⟨(some 35), .mov (.tmp 1), none⟩,
    ⟨(some 36), .build [(.int .i64 0), (.string ⟨#[]⟩), (.string ⟨#[]⟩), (.int .i64 0), (.int .i64 0), (.int .i64 0), (.bool false), (.bool false), (.slice none 0 0)] [(0, 1, (.const (.int .i64 8))), (1, 1, (.const (.string ⟨#[47, 97]⟩))), (2, 1, (.const (.string ⟨#[98]⟩)))], none⟩,
    ⟨(some 37), .call 5 [(.tmp 35), (.const (.int .i64 0)), (.tmp 36)], none⟩,
    ⟨(some 6), .new [(.int .i64 0), (.int .i64 0), (.int .i64 0), (.slice none 0 0), (.slice none 0 0)] 41 5, none⟩,
    ⟨none, .store 5 (.tmp 6) (.tmp 37), none⟩])
  (.seq (.region [⟨(some 38), .mov (.tmp 1), none⟩,
    ⟨(some 39), .build [(.int .i64 0), (.string ⟨#[]⟩), (.string ⟨#[]⟩), (.int .i64 0), (.int .i64 0), (.int .i64 0), (.bool false), (.bool false), (.slice none 0 0)] [(0, 1, (.const (.int .i64 2))), (3, 1, (.const (.int .i64 1))), (5, 1, (.const (.int .i64 9)))], none⟩,
    ⟨(some 40), .call 5 [(.tmp 38), (.const (.int .i64 0)), (.tmp 39)], none⟩,
    ⟨(some 7), .new [(.int .i64 0), (.int .i64 0), (.int .i64 0), (.slice none 0 0), (.slice none 0 0)] 41 5, none⟩,
    ⟨none, .store 5 (.tmp 7) (.tmp 40), none⟩])
  (.seq (.region [⟨(some 41), .mov (.tmp 1), none⟩,
    ⟨(some 42), .build [(.int .i64 0), (.string ⟨#[]⟩), (.string ⟨#[]⟩), (.int .i64 0), (.int .i64 0), (.int .i64 0), (.bool false), (.bool false), (.slice none 0 0)] [(0, 1, (.const (.int .i64 7))), (1, 1, (.const (.string ⟨#[98]⟩)))], none⟩,
    ⟨(some 43), .call 5 [(.tmp 41), (.const (.int .i64 0)), (.tmp 42)], none⟩,
    ⟨(some 8), .new [(.int .i64 0), (.int .i64 0), (.int .i64 0), (.slice none 0 0), (.slice none 0 0)] 41 5, none⟩,
    ⟨none, .store 5 (.tmp 8) (.tmp 43), none⟩])
  (.seq (.region [⟨(some 44), .mov (.tmp 1), none⟩,
    ⟨(some 45), .build [(.int .i64 0), (.string ⟨#[]⟩), (.string ⟨#[]⟩), (.int .i64 0), (.int .i64 0), (.int .i64 0), (.bool false), (.bool false), (.slice none 0 0)] [(0, 1, (.const (.int .i64 5))), (3, 1, (.const (.int .i64 1)))], none⟩,
    ⟨(some 46), .call 5 [(.tmp 44), (.const (.int .i64 0)), (.tmp 45)], none⟩,
    ⟨(some 9), .new [(.int .i64 0), (.int .i64 0), (.int .i64 0), (.slice none 0 0), (.slice none 0 0)] 41 5, none⟩,
    ⟨none, .store 5 (.tmp 9) (.tmp 46), none⟩])
  (.seq (.region [⟨(some 47), .mov (.tmp 1), none⟩,
    ⟨(some 48), .build [(.int .i64 0), (.string ⟨#[]⟩), (.string ⟨#[]⟩), (.int .i64 0), (.int .i64 0), (.int .i64 0), (.bool false), (.bool false), (.slice none 0 0)] [(0, 1, (.const (.int .i64 7))), (1, 1, (.const (.string ⟨#[98]⟩)))], none⟩,
    ⟨(some 49), .call 5 [(.tmp 47), (.const (.int .i64 0)), (.tmp 48)], none⟩,
    ⟨(some 10), .new [(.int .i64 0), (.int .i64 0), (.int .i64 0), (.slice none 0 0), (.slice none 0 0)] 41 5, none⟩,
    ⟨none, .store 5 (.tmp 10) (.tmp 49), none⟩])
  (.seq (.region [⟨(some 50), .mov (.tmp 1), none⟩,
    ⟨(some 51), .call 7 [(.tmp 50)], none⟩,
    ⟨(some 11), .mov (.tmp 51), none⟩])
  (.seq (.region [⟨(some 52), .addOff 1 (.tmp 4), none⟩,
    ⟨(some 53), .load1 (.tmp 52), none⟩,
    ⟨(some 54), .bin .eql 3 (.int .i64) (.tmp 53) (.const (.int .i64 1)), none⟩,
    ⟨(some 55), .mov (.tmp 54), none⟩,
    ⟨(some 56), .addOff 2 (.tmp 5), (some (55, true))⟩,
    ⟨(some 57), .load1 (.tmp 56), (some (55, true))⟩,
    ⟨(some 58), .bin .eql 3 (.int .i64) (.tmp 57) (.const (.int .i64 2)), (some (55, true))⟩,
    ⟨(some 59), .pick (.tmp 55) (.tmp 58) (.const (.bool false)), none⟩,
    ⟨(some 60), .mov (.tmp 59), none⟩,
    ⟨(some 61), .addOff 0 (.tmp 6), (some (60, true))⟩,
    ⟨(some 62), .load1 (.tmp 61), (some (60, true))⟩,
    ⟨(some 63), .bin .eql 28 (.int .i64) (.tmp 62) (.const (.int .i64 0)), (some (60, true))⟩,
    ⟨(some 64), .pick (.tmp 60) (.tmp 63) (.const (.bool false)), none⟩,
    ⟨(some 65), .mov (.tmp 64), none⟩,
    ⟨(some 66), .addOff 3 (.tmp 7), (some (65, true))⟩,
    ⟨(some 67), .load1 (.tmp 66), (some (65, true))⟩,
    ⟨(some 68), .bytesStr (.tmp 67), (some (65, true))⟩,
    ⟨(some 69), .bin .eql 9 .string (.tmp 68) (.const (.string ⟨#[0, 0, 120, 121]⟩)), (some (65, true))⟩,
    ⟨(some 70), .pick (.tmp 65) (.tmp 69) (.const (.bool false)), none⟩,
    ⟨(some 71), .mov (.tmp 70), none⟩,
    ⟨(some 72), .addOff 0 (.tmp 8), (some (71, true))⟩,
    ⟨(some 73), .load1 (.tmp 72), (some (71, true))⟩,
    ⟨(some 74), .bin .eql 28 (.int .i64) (.tmp 73) (.const (.int .i64 18)), (some (71, true))⟩,
    ⟨(some 75), .pick (.tmp 71) (.tmp 74) (.const (.bool false)), none⟩,
    ⟨(some 76), .mov (.tmp 75), none⟩,
    ⟨(some 77), .addOff 0 (.tmp 9), (some (76, true))⟩,
    ⟨(some 78), .load1 (.tmp 77), (some (76, true))⟩,
    ⟨(some 79), .bin .eql 28 (.int .i64) (.tmp 78) (.const (.int .i64 0)), (some (76, true))⟩,
    ⟨(some 80), .pick (.tmp 76) (.tmp 79) (.const (.bool false)), none⟩,
    ⟨(some 81), .mov (.tmp 80), none⟩,
    ⟨(some 82), .addOff 0 (.tmp 10), (some (81, true))⟩,
    ⟨(some 83), .load1 (.tmp 82), (some (81, true))⟩,
    ⟨(some 84), .bin .eql 28 (.int .i64) (.tmp 83) (.const (.int .i64 0)), (some (81, true))⟩,
    ⟨(some 85), .pick (.tmp 81) (.tmp 84) (.const (.bool false)), none⟩,
    ⟨(some 86), .mov (.tmp 85), none⟩,
    ⟨(some 87), .mov (.tmp 11), (some (86, true))⟩,
    ⟨(some 88), .len (.slice 56) (.tmp 87), (some (86, true))⟩,
    ⟨(some 89), .bin .eql 3 (.int .i64) (.tmp 88) (.const (.int .i64 1)), (some (86, true))⟩,
    ⟨(some 90), .pick (.tmp 86) (.tmp 89) (.const (.bool false)), none⟩,
    ⟨(some 91), .mov (.tmp 90), none⟩,
    ⟨(some 92), .mov (.tmp 11), (some (91, true))⟩,
    ⟨(some 93), .idxS 3 (.tmp 92) (.const (.int .i64 0)), (some (91, true))⟩,
    ⟨(some 94), .addOff 2 (.tmp 93), (some (91, true))⟩,
    ⟨(some 95), .load1 (.tmp 94), (some (91, true))⟩,
    ⟨(some 96), .bytesStr (.tmp 95), (some (91, true))⟩,
    ⟨(some 97), .bin .eql 9 .string (.tmp 96) (.const (.string ⟨#[98, 97, 115, 101]⟩)), (some (91, true))⟩,
    ⟨(some 98), .pick (.tmp 91) (.tmp 97) (.const (.bool false)), none⟩,
    ⟨(some 99), .mov (.tmp 98), none⟩,
    ⟨(some 100), .mov (.tmp 2), (some (99, true))⟩,
    ⟨(some 101), .nilCheck (.tmp 100), (some (99, true))⟩,
    ⟨(some 102), .addOff 1 (.tmp 101), (some (99, true))⟩,
    ⟨(some 103), .load1 (.tmp 102), (some (99, true))⟩,
    ⟨(some 104), .un .not (.tmp 103), (some (99, true))⟩,
    ⟨(some 105), .pick (.tmp 99) (.tmp 104) (.const (.bool false)), none⟩,
    ⟨(some 106), .mov (.tmp 105), none⟩,
    ⟨(some 107), .pick (.tmp 106) (.const (.bool true)) (.const (.bool false)), none⟩,
    ⟨(some 108), .mov (.tmp 107), none⟩,
    ⟨(some 109), .pick (.tmp 108) (.const (.bool true)) (.const (.bool false)), none⟩,
    ⟨(some 0), .mov (.tmp 109), none⟩])
  .ret))))))))))))⟩

/-- slices.ContainsFunc[[]valise/api.Meta,valise/api.Meta] -/
noncomputable def qf12 : RFunc := ⟨9, [.tmp 4],
  (.seq (.region [⟨(some 4), .mov (.const (.bool false)), none⟩])
  (.seq (.region [⟨(some 5), .mov (.tmp 0), none⟩,
    ⟨(some 6), .mov (.tmp 1), none⟩,
    ⟨(some 7), .call 27 [(.tmp 5), (.tmp 6)], none⟩,
    ⟨(some 8), .bin .geq 3 (.int .i64) (.tmp 7) (.const (.int .i64 0)), none⟩,
    ⟨(some 4), .mov (.tmp 8), none⟩])
  .ret))⟩

/-- valise/overlay.New$1 -/
noncomputable def qf13 : RFunc := ⟨6, [.tmp 2],
  (.seq (.region [⟨(some 1), .box 54 3 (.tmp 0), none⟩,
    ⟨(some 2), .mov (.const (.bool false)), none⟩])
  (.seq (.region [⟨(some 3), .addOff 2 (.tmp 1), none⟩,
    ⟨(some 4), .load1 (.tmp 3), none⟩,
    ⟨(some 5), .bin .gtr 3 (.int .i64) (.tmp 4) (.const (.int .i64 65536)), none⟩,
    ⟨(some 2), .mov (.tmp 5), none⟩])
  .ret))⟩

/-- valise/tree.Of -/
noncomputable def qf14 : RFunc := ⟨50, [.tmp 2, .tmp 3],
  (.seq (.region [⟨(some 2), .mov (.const (.pointer none)), none⟩,
    ⟨(some 3), .mov (.const (.int .i64 0)), none⟩])
  (.seq (.seq (.region [⟨(some 11), .mov (.tmp 0), none⟩,
    ⟨(some 12), .len (.slice 56) (.tmp 11), none⟩,
    ⟨(some 13), .mov (.const (.int .i64 0)), none⟩])
  (.block 0
  (.loop
  (.seq (.region [⟨(some 14), .bin .lss 3 (.int .i64) (.tmp 13) (.tmp 12), none⟩])
  (.seq (.cond (.tmp 14)
  .skip
  (.exit 0))
  (.seq (.block 1
  (.seq (.region [⟨(some 15), .idxS 3 (.tmp 11) (.tmp 13), none⟩,
    ⟨(some 16), .loadN 3 (.tmp 15), none⟩,
    ⟨(some 5), .new [(.string ⟨#[]⟩), (.bool false), (.slice none 0 0)] 56 3, none⟩,
    ⟨none, .store 3 (.tmp 5) (.tmp 16), none⟩])
  (.seq (.region [⟨(some 17), .loadN 3 (.tmp 5), none⟩,
    ⟨(some 18), .call 28 [(.tmp 17)], none⟩,
    ⟨(some 6), .mov (.tmp 18), none⟩])
  (.seq (.region [⟨(some 19), .mov (.tmp 6), none⟩,
    ⟨(some 20), .bin .neq 28 (.int .i64) (.tmp 19) (.const (.int .i64 0)), none⟩])
  (.cond (.tmp 20)
  (.seq (.region [⟨(some 21), .mov (.tmp 6), none⟩,
    ⟨(some 2), .mov (.const (.pointer none)), none⟩,
    ⟨(some 3), .mov (.tmp 21), none⟩])
  .ret)
  .skip)))))
  (.region [⟨(some 22), .bin .add 3 (.int .i64) (.tmp 13) (.const (.int .i64 1)), none⟩,
    ⟨(some 13), .mov (.tmp 22), none⟩])))))))
  (.seq (.seq (.region [⟨(some 23), .mov (.tmp 0), none⟩,
    ⟨(some 24), .call 29 [(.tmp 23)], none⟩,
    ⟨(some 7), .mov (.tmp 24), none⟩])
  (.seq (.region [⟨(some 25), .mov (.tmp 7), none⟩,
    ⟨(some 26), .bin .neq 28 (.int .i64) (.tmp 25) (.const (.int .i64 0)), none⟩])
  (.cond (.tmp 26)
  (.seq (.region [⟨(some 27), .mov (.tmp 7), none⟩,
    ⟨(some 2), .mov (.const (.pointer none)), none⟩,
    ⟨(some 3), .mov (.tmp 27), none⟩])
  .ret)
  .skip)))
  (.seq (.region [⟨(some 28), .call 30 [], none⟩,
    ⟨(some 8), .mov (.tmp 28), none⟩])
  (.seq (.seq (.region [⟨(some 29), .mov (.tmp 0), none⟩,
    ⟨(some 30), .len (.slice 56) (.tmp 29), none⟩,
    ⟨(some 31), .mov (.const (.int .i64 0)), none⟩])
  (.block 2
  (.loop
  (.seq (.region [⟨(some 32), .bin .lss 3 (.int .i64) (.tmp 31) (.tmp 30), none⟩])
  (.seq (.cond (.tmp 32)
  .skip
  (.exit 2))
  (.seq (.block 3
  (.seq (.region [⟨(some 33), .idxS 3 (.tmp 29) (.tmp 31), none⟩,
    ⟨(some 34), .loadN 3 (.tmp 33), none⟩,
    ⟨(some 10), .new [(.string ⟨#[]⟩), (.bool false), (.slice none 0 0)] 56 3, none⟩,
    ⟨none, .store 3 (.tmp 10) (.tmp 34), none⟩])
  (.region [⟨(some 35), .mov (.tmp 8), none⟩,
    ⟨(some 36), .addOff 0 (.tmp 10), none⟩,
    ⟨(some 37), .load1 (.tmp 36), none⟩,
    ⟨(some 38), .addOff 2 (.tmp 10), none⟩,
    ⟨(some 39), .load1 (.tmp 38), none⟩,
    ⟨(some 40), .addOff 1 (.tmp 10), none⟩,
    ⟨(some 41), .load1 (.tmp 40), none⟩,
    ⟨(some 42), .call 31 [(.tmp 35), (.tmp 37), (.tmp 39), (.tmp 41)], none⟩])))
  (.region [⟨(some 43), .bin .add 3 (.int .i64) (.tmp 31) (.const (.int .i64 1)), none⟩,
    ⟨(some 31), .mov (.tmp 43), none⟩])))))))
  (.seq (.seq (.region [⟨(some 44), .mov (.tmp 8), none⟩,
    ⟨(some 45), .nilCheck (.tmp 44), none⟩,
    ⟨(some 46), .addOff 1 (.tmp 45), none⟩,
    ⟨(some 47), .load1 (.tmp 46), none⟩,
    ⟨(some 48), .bin .gtr 3 (.int .i64) (.tmp 47) (.const (.int .i64 128)), none⟩])
  (.cond (.tmp 48)
  (.seq (.region [⟨(some 2), .mov (.const (.pointer none)), none⟩,
    ⟨(some 3), .mov (.const (.int .i64 7)), none⟩])
  .ret)
  .skip))
  (.seq (.region [⟨(some 49), .mov (.tmp 8), none⟩,
    ⟨(some 2), .mov (.tmp 49), none⟩,
    ⟨(some 3), .mov (.const (.int .i64 0)), none⟩])
  .ret)))))))⟩

/-- valise/overlay.fail -/
noncomputable def qf15 : RFunc := ⟨5, [.cellN 2 5],
  (.seq (.region [⟨(some 2), .new [(.int .i64 0), (.int .i64 0), (.int .i64 0), (.slice none 0 0), (.slice none 0 0)] 41 5, none⟩])
  (.seq (.region [⟨(some 3), .mov (.tmp 0), none⟩,
    ⟨(some 4), .build [(.int .i64 0), (.int .i64 0), (.int .i64 0), (.slice none 0 0), (.slice none 0 0)] [(0, 1, (.tmp 3))], none⟩,
    ⟨none, .store 5 (.tmp 2) (.tmp 4), none⟩])
  .ret))⟩

/-- (*valise/overlay.FS).doOpen -/
noncomputable def qf16 : RFunc := ⟨79, [.cellN 6 5],
  (.seq (.region [⟨(some 5), .box 24 9 (.tmp 2), none⟩,
    ⟨(some 6), .new [(.int .i64 0), (.int .i64 0), (.int .i64 0), (.slice none 0 0), (.slice none 0 0)] 41 5, none⟩])
  (.seq (.region [⟨(some 12), .mov (.tmp 0), none⟩,
    ⟨(some 13), .mov (.tmp 1), none⟩,
    ⟨(some 14), .call 25 [(.tmp 12), (.tmp 13)], none⟩,
    ⟨(some 7), .mov (.tmp 14), none⟩])
  (.seq (.region [⟨(some 15), .mov (.tmp 7), none⟩,
    ⟨(some 16), .call 32 [(.tmp 15), (.func 33)], none⟩,
    ⟨(some 8), .mov (.tmp 16), none⟩])
  (.seq (.seq (.region [⟨(some 17), .mov (.tmp 8), none⟩,
    ⟨(some 18), .bin .lss 3 (.int .i64) (.tmp 17) (.const (.int .i64 0)), none⟩])
  (.cond (.tmp 18)
  (.seq (.region [⟨(some 19), .call 15 [(.const (.int .i64 7))], none⟩,
    ⟨none, .store 5 (.tmp 6) (.tmp 19), none⟩])
  .ret)
  .skip))
  (.seq (.region [⟨(some 21), .addOff 1 (.tmp 5), none⟩,
    ⟨(some 22), .load1 (.tmp 21), none⟩,
    ⟨(some 23), .call 20 [(.tmp 22)], none⟩,
    ⟨(some 20), .mov (.tmp 23), none⟩,
    ⟨(some 24), .ext (.tmp 20) 0, none⟩,
    ⟨(some 25), .ext (.tmp 20) 1, none⟩,
    ⟨(some 9), .mov (.tmp 24), none⟩,
    ⟨(some 10), .mov (.tmp 25), none⟩])
  (.seq (.seq (.region [⟨(some 26), .mov (.tmp 10), none⟩,
    ⟨(some 27), .bin .neq 28 (.int .i64) (.tmp 26) (.const (.int .i64 0)), none⟩])
  (.cond (.tmp 27)
  (.seq (.region [⟨(some 28), .mov (.tmp 10), none⟩,
    ⟨(some 29), .call 15 [(.tmp 28)], none⟩,
    ⟨none, .store 5 (.tmp 6) (.tmp 29), none⟩])
  .ret)
  .skip))
  (.seq (.region [⟨(some 31), .mov (.tmp 0), none⟩,
    ⟨(some 32), .nilCheck (.tmp 31), none⟩,
    ⟨(some 33), .addOff 1 (.tmp 32), none⟩,
    ⟨(some 34), .load1 (.tmp 33), none⟩,
    ⟨(some 35), .mov (.tmp 9), none⟩,
    ⟨(some 36), .call 34 [(.tmp 34), (.tmp 35)], none⟩,
    ⟨(some 30), .mov (.tmp 36), none⟩,
    ⟨(some 37), .ext (.tmp 30) 0, none⟩,
    ⟨(some 38), .ext (.tmp 30) 1, none⟩,
    ⟨(some 11), .new [(.string ⟨#[]⟩), (.bool false), (.slice none 0 0)] 56 3, none⟩,
    ⟨none, .store 3 (.tmp 11) (.tmp 37), none⟩,
    ⟨(some 10), .mov (.tmp 38), none⟩])
  (.seq (.seq (.region [⟨(some 39), .mov (.tmp 10), none⟩,
    ⟨(some 40), .bin .eql 28 (.int .i64) (.tmp 39) (.const (.int .i64 9)), none⟩,
    ⟨(some 41), .mov (.tmp 40), none⟩,
    ⟨(some 42), .addOff 7 (.tmp 5), (some (41, true))⟩,
    ⟨(some 43), .load1 (.tmp 42), (some (41, true))⟩,
    ⟨(some 44), .pick (.tmp 41) (.tmp 43) (.const (.bool false)), none⟩])
  (.cond (.tmp 44)
  (.seq (.region [⟨(some 45), .mov (.tmp 0), none⟩,
    ⟨(some 46), .nilCheck (.tmp 45), none⟩,
    ⟨(some 47), .addOff 1 (.tmp 46), none⟩,
    ⟨(some 48), .load1 (.tmp 47), none⟩,
    ⟨(some 49), .mov (.tmp 9), none⟩,
    ⟨(some 50), .call 35 [(.tmp 48), (.tmp 49), (.const (.slice none 0 0))], none⟩,
    ⟨(some 10), .mov (.tmp 50), none⟩])
  (.seq (.region [⟨(some 51), .mov (.tmp 10), none⟩,
    ⟨(some 52), .bin .eql 28 (.int .i64) (.tmp 51) (.const (.int .i64 0)), none⟩])
  (.cond (.tmp 52)
  (.region [⟨(some 53), .mov (.tmp 0), none⟩,
    ⟨(some 54), .nilCheck (.tmp 53), none⟩,
    ⟨(some 55), .addOff 2 (.tmp 54), none⟩,
    ⟨(some 56), .load1 (.tmp 55), none⟩,
    ⟨(some 57), .mov (.tmp 9), none⟩,
    ⟨(some 58), .build [(.bool false), (.slice none 0 0), (.string ⟨#[]⟩), (.int .i64 0)] [(0, 1, (.const (.bool true)))], none⟩,
    ⟨(some 59), .box 63 4 (.tmp 58), none⟩,
    ⟨none, .mput .string (.tmp 56) (.tmp 57) (.tmp 59), none⟩])
  .skip)))
  .skip))
  (.seq (.block 0
  (.seq (.region [⟨(some 61), .mov (.tmp 10), none⟩,
    ⟨(some 62), .bin .neq 28 (.int .i64) (.tmp 61) (.const (.int .i64 0)), none⟩,
    ⟨(some 60), .mov (.tmp 62), none⟩])
  (.cond (.tmp 60)
  (.seq (.region [⟨(some 63), .mov (.tmp 10), none⟩,
    ⟨(some 64), .call 15 [(.tmp 63)], none⟩,
    ⟨none, .store 5 (.tmp 6) (.tmp 64), none⟩])
  .ret)
  (.seq (.region [⟨(some 66), .addOff 1 (.tmp 11), none⟩,
    ⟨(some 67), .load1 (.tmp 66), none⟩,
    ⟨(some 65), .mov (.tmp 67), none⟩])
  (.cond (.tmp 65)
  (.seq (.region [⟨(some 68), .call 15 [(.const (.int .i64 16))], none⟩,
    ⟨none, .store 5 (.tmp 6) (.tmp 68), none⟩])
  .ret)
  .skip)))))
  (.seq (.region [⟨(some 69), .mov (.tmp 7), none⟩,
    ⟨(some 70), .mov (.tmp 8), none⟩,
    ⟨(some 71), .mov (.tmp 9), none⟩,
    ⟨(some 72), .addOff 6 (.tmp 5), none⟩,
    ⟨(some 73), .load1 (.tmp 72), none⟩,
    ⟨(some 74), .build [(.string ⟨#[]⟩), (.bool false)] [(0, 1, (.tmp 71)), (1, 1, (.tmp 73))], none⟩,
    ⟨(some 75), .idxS 2 (.tmp 69) (.tmp 70), none⟩,
    ⟨none, .store 2 (.tmp 75) (.tmp 74), none⟩])
  (.seq (.region [⟨(some 76), .mov (.tmp 8), none⟩,
    ⟨(some 77), .bin .add 3 (.int .i64) (.tmp 76) (.const (.int .i64 1)), none⟩,
    ⟨(some 78), .build [(.int .i64 0), (.int .i64 0), (.int .i64 0), (.slice none 0 0), (.slice none 0 0)] [(1, 1, (.tmp 77))], none⟩,
    ⟨none, .store 5 (.tmp 6) (.tmp 78), none⟩])
  .ret)))))))))))⟩

/-- (*valise/overlay.FS).byHandle -/
noncomputable def qf17 : RFunc := ⟨22, [.tmp 4],
  (.seq (.region [⟨(some 4), .mov (.const .nilFunc), none⟩])
  (.seq (.seq (.region [⟨(some 5), .mov (.tmp 1), none⟩])
  (.block 0
  (.seq (.region [⟨(some 7), .bin .eql 3 (.int .i64) (.tmp 5) (.const (.int .i64 2)), none⟩,
    ⟨(some 6), .mov (.tmp 7), none⟩])
  (.cond (.tmp 6)
  (.seq (.region [⟨(some 8), .mov (.tmp 0), none⟩,
    ⟨(some 9), .mkfunc (.func 36) [(.tmp 8)] [], none⟩,
    ⟨(some 4), .mov (.tmp 9), none⟩])
  .ret)
  (.seq (.region [⟨(some 11), .bin .eql 3 (.int .i64) (.tmp 5) (.const (.int .i64 3)), none⟩,
    ⟨(some 10), .mov (.tmp 11), none⟩])
  (.cond (.tmp 10)
  (.seq (.region [⟨(some 12), .mov (.tmp 0), none⟩,
    ⟨(some 13), .mkfunc (.func 37) [(.tmp 12)] [], none⟩,
    ⟨(some 4), .mov (.tmp 13), none⟩])
  .ret)
  (.seq (.region [⟨(some 15), .bin .eql 3 (.int .i64) (.tmp 5) (.const (.int .i64 4)), none⟩,
    ⟨(some 14), .mov (.tmp 15), none⟩])
  (.cond (.tmp 14)
  (.seq (.region [⟨(some 16), .mov (.tmp 0), none⟩,
    ⟨(some 17), .mkfunc (.func 38) [(.tmp 16)] [], none⟩,
    ⟨(some 4), .mov (.tmp 17), none⟩])
  .ret)
  (.seq (.region [⟨(some 19), .bin .eql 3 (.int .i64) (.tmp 5) (.const (.int .i64 5)), none⟩,
    ⟨(some 18), .mov (.tmp 19), none⟩])
  (.cond (.tmp 18)
  (.seq (.region [⟨(some 20), .mov (.tmp 0), none⟩,
    ⟨(some 21), .mkfunc (.func 39) [(.tmp 20)] [], none⟩,
    ⟨(some 4), .mov (.tmp 21), none⟩])
  .ret)
  .skip))))))))))
  (.seq (.region [⟨(some 4), .mov (.const .nilFunc), none⟩])
  .ret)))⟩

/-- (*valise/overlay.FS).handle -/
noncomputable def qf18 : RFunc := ⟨42, [.tmp 6],
  (.seq (.region [⟨(some 6), .mov (.const (.pointer none)), none⟩])
  (.seq (.seq (.region [⟨(some 7), .mov (.tmp 1), none⟩,
    ⟨(some 8), .bin .lss 3 (.int .i64) (.tmp 7) (.const (.int .i64 0)), none⟩,
    ⟨(some 9), .mov (.tmp 8), none⟩,
    ⟨(some 10), .mov (.tmp 1), (some (9, false))⟩,
    ⟨(some 11), .bin .geq 3 (.int .i64) (.tmp 10) (.const (.int .i64 8)), (some (9, false))⟩,
    ⟨(some 12), .pick (.tmp 9) (.const (.bool true)) (.tmp 11), none⟩,
    ⟨(some 13), .mov (.tmp 12), none⟩,
    ⟨(some 14), .mov (.tmp 2), (some (13, false))⟩,
    ⟨(some 15), .bin .lss 3 (.int .i64) (.tmp 14) (.const (.int .i64 1)), (some (13, false))⟩,
    ⟨(some 16), .pick (.tmp 13) (.const (.bool true)) (.tmp 15), none⟩,
    ⟨(some 17), .mov (.tmp 16), none⟩,
    ⟨(some 18), .mov (.tmp 2), (some (17, false))⟩,
    ⟨(some 19), .bin .gtr 3 (.int .i64) (.tmp 18) (.const (.int .i64 16)), (some (17, false))⟩,
    ⟨(some 20), .pick (.tmp 17) (.const (.bool true)) (.tmp 19), none⟩,
    ⟨(some 21), .mov (.tmp 20), none⟩,
    ⟨(some 22), .mov (.tmp 0), (some (21, false))⟩,
    ⟨(some 23), .mov (.tmp 1), (some (21, false))⟩,
    ⟨(some 24), .mov (.tmp 2), (some (21, false))⟩,
    ⟨(some 25), .bin .sub 3 (.int .i64) (.tmp 24) (.const (.int .i64 1)), (some (21, false))⟩,
    ⟨(some 26), .nilCheck (.tmp 22), (some (21, false))⟩,
    ⟨(some 27), .addOff 3 (.tmp 26), (some (21, false))⟩,
    ⟨(some 28), .idxA 8 32 (.tmp 27) (.tmp 23), (some (21, false))⟩,
    ⟨(some 29), .idxA 16 2 (.tmp 28) (.tmp 25), (some (21, false))⟩,
    ⟨(some 30), .addOff 0 (.tmp 29), (some (21, false))⟩,
    ⟨(some 31), .load1 (.tmp 30), (some (21, false))⟩,
    ⟨(some 32), .bin .eql 9 .string (.tmp 31) (.const (.string ⟨#[]⟩)), (some (21, false))⟩,
    ⟨(some 33), .pick (.tmp 21) (.const (.bool true)) (.tmp 32), none⟩])
  (.cond (.tmp 33)
  (.seq (.region [⟨(some 6), .mov (.const (.pointer none)), none⟩])
  .ret)
  .skip))
  (.seq (.region [⟨(some 34), .mov (.tmp 0), none⟩,
    ⟨(some 35), .mov (.tmp 1), none⟩,
    ⟨(some 36), .mov (.tmp 2), none⟩,
    ⟨(some 37), .bin .sub 3 (.int .i64) (.tmp 36) (.const (.int .i64 1)), none⟩,
    ⟨(some 38), .nilCheck (.tmp 34), none⟩,
    ⟨(some 39), .addOff 3 (.tmp 38), none⟩,
    ⟨(some 40), .idxA 8 32 (.tmp 39) (.tmp 35), none⟩,
    ⟨(some 41), .idxA 16 2 (.tmp 40) (.tmp 37), none⟩,
    ⟨(some 6), .mov (.tmp 41), none⟩])
  .ret)))⟩

/-- (*valise/overlay.FS).byPath -/
noncomputable def qf19 : RFunc := ⟨22, [.tmp 4],
  (.seq (.region [⟨(some 4), .mov (.const .nilFunc), none⟩])
  (.seq (.seq (.region [⟨(some 5), .mov (.tmp 1), none⟩])
  (.block 0
  (.seq (.region [⟨(some 7), .bin .eql 3 (.int .i64) (.tmp 5) (.const (.int .i64 6)), none⟩,
    ⟨(some 6), .mov (.tmp 7), none⟩])
  (.cond (.tmp 6)
  (.seq (.region [⟨(some 8), .mov (.tmp 0), none⟩,
    ⟨(some 9), .mkfunc (.func 40) [(.tmp 8)] [], none⟩,
    ⟨(some 4), .mov (.tmp 9), none⟩])
  .ret)
  (.seq (.region [⟨(some 11), .bin .eql 3 (.int .i64) (.tmp 5) (.const (.int .i64 7)), none⟩,
    ⟨(some 10), .mov (.tmp 11), none⟩])
  (.cond (.tmp 10)
  (.seq (.region [⟨(some 12), .mov (.tmp 0), none⟩,
    ⟨(some 13), .mkfunc (.func 41) [(.tmp 12)] [], none⟩,
    ⟨(some 4), .mov (.tmp 13), none⟩])
  .ret)
  (.seq (.region [⟨(some 15), .bin .eql 3 (.int .i64) (.tmp 5) (.const (.int .i64 8)), none⟩,
    ⟨(some 14), .mov (.tmp 15), none⟩])
  (.cond (.tmp 14)
  (.seq (.region [⟨(some 16), .mov (.tmp 0), none⟩,
    ⟨(some 17), .mkfunc (.func 42) [(.tmp 16)] [], none⟩,
    ⟨(some 4), .mov (.tmp 17), none⟩])
  .ret)
  (.seq (.region [⟨(some 19), .bin .eql 3 (.int .i64) (.tmp 5) (.const (.int .i64 9)), none⟩,
    ⟨(some 18), .mov (.tmp 19), none⟩])
  (.cond (.tmp 18)
  (.seq (.region [⟨(some 20), .mov (.tmp 0), none⟩,
    ⟨(some 21), .mkfunc (.func 43) [(.tmp 20)] [], none⟩,
    ⟨(some 4), .mov (.tmp 21), none⟩])
  .ret)
  .skip))))))))))
  (.seq (.region [⟨(some 4), .mov (.const .nilFunc), none⟩])
  .ret)))⟩

/-- valise/path.Clean -/
noncomputable def qf20 : RFunc := ⟨39, [.tmp 2, .tmp 3],
  (.seq (.region [⟨(some 2), .mov (.const (.string ⟨#[]⟩)), none⟩,
    ⟨(some 3), .mov (.const (.int .i64 0)), none⟩])
  (.seq (.seq (.region [⟨(some 6), .mov (.tmp 0), none⟩,
    ⟨(some 7), .len .string (.tmp 6), none⟩,
    ⟨(some 8), .bin .gtr 3 (.int .i64) (.tmp 7) (.const (.int .i64 1024)), none⟩])
  (.cond (.tmp 8)
  (.seq (.region [⟨(some 2), .mov (.const (.string ⟨#[]⟩)), none⟩,
    ⟨(some 3), .mov (.const (.int .i64 3)), none⟩])
  .ret)
  .skip))
  (.seq (.region [⟨(some 4), .new [(.slice none 0 0)] 39 1, none⟩])
  (.seq (.seq (.region [⟨(some 9), .mov (.tmp 0), none⟩,
    ⟨(some 10), .call 44 [(.tmp 9)], none⟩])
  (.block 0
  (.rangeFunc (.tmp 10) [11]
  (.region [⟨(some 5), .mov (.tmp 11), none⟩])
  (.block 1
  (.block 2
  (.seq (.region [⟨(some 13), .mov (.tmp 5), none⟩,
    ⟨(some 14), .bin .eql 9 .string (.tmp 13) (.const (.string ⟨#[]⟩)), none⟩,
    ⟨(some 15), .mov (.tmp 14), none⟩,
    ⟨(some 16), .mov (.tmp 5), (some (15, false))⟩,
    ⟨(some 17), .bin .eql 9 .string (.tmp 16) (.const (.string ⟨#[46]⟩)), (some (15, false))⟩,
    ⟨(some 18), .pick (.tmp 15) (.const (.bool true)) (.tmp 17), none⟩,
    ⟨(some 12), .mov (.tmp 18), none⟩])
  (.cond (.tmp 12)
  .skip
  (.seq (.region [⟨(some 20), .mov (.tmp 5), none⟩,
    ⟨(some 21), .bin .neq 9 .string (.tmp 20) (.const (.string ⟨#[46, 46]⟩)), none⟩,
    ⟨(some 19), .mov (.tmp 21), none⟩])
  (.cond (.tmp 19)
  (.region [⟨(some 22), .load1 (.tmp 4), none⟩,
    ⟨(some 23), .mov (.tmp 5), none⟩,
    ⟨(some 24), .buildSlice 9 1 1 [(.string ⟨#[]⟩)] [(0, 1, (.tmp 23))], none⟩,
    ⟨(some 25), .append 9 1 16 [(.string ⟨#[]⟩)] (.tmp 22) (.tmp 24), none⟩,
    ⟨none, .store 1 (.tmp 4) (.tmp 25), none⟩])
  (.seq (.region [⟨(some 27), .load1 (.tmp 4), none⟩,
    ⟨(some 28), .len (.slice 9) (.tmp 27), none⟩,
    ⟨(some 29), .bin .gtr 3 (.int .i64) (.tmp 28) (.const (.int .i64 0)), none⟩,
    ⟨(some 26), .mov (.tmp 29), none⟩])
  (.cond (.tmp 26)
  (.region [⟨(some 30), .load1 (.tmp 4), none⟩,
    ⟨(some 31), .load1 (.tmp 4), none⟩,
    ⟨(some 32), .len (.slice 9) (.tmp 31), none⟩,
    ⟨(some 33), .bin .sub 3 (.int .i64) (.tmp 32) (.const (.int .i64 1)), none⟩,
    ⟨(some 34), .sliceSl 1 (.tmp 30) none (some (.tmp 33)) none, none⟩,
    ⟨none, .store 1 (.tmp 4) (.tmp 34), none⟩])
  .skip)))))))))))
  (.seq (.region [⟨(some 35), .load1 (.tmp 4), none⟩,
    ⟨(some 36), .call 45 [(.tmp 35)], none⟩,
    ⟨(some 37), .ext (.tmp 36) 0, none⟩,
    ⟨(some 38), .ext (.tmp 36) 1, none⟩,
    ⟨(some 2), .mov (.tmp 37), none⟩,
    ⟨(some 3), .mov (.tmp 38), none⟩])
  .ret)))))⟩

/-- (*valise/tree.Tree).Files -/
noncomputable def qf22 : RFunc := ⟨14, [.tmp 2],
  (.seq (.region [⟨(some 2), .mov (.const (.slice none 0 0)), none⟩])
  (.seq (.seq (.region [⟨(some 4), .mov (.tmp 0), none⟩,
    ⟨(some 5), .call 46 [(.tmp 4)], none⟩,
    ⟨(some 6), .un .not (.tmp 5), none⟩])
  (.cond (.tmp 6)
  (.seq (.region [⟨(some 2), .mov (.const (.slice none 0 0)), none⟩])
  .ret)
  .skip))
  (.seq (.region [⟨(some 3), .new [(.slice none 0 0)] 44 1, none⟩])
  (.seq (.region [⟨(some 7), .mov (.tmp 0), none⟩,
    ⟨(some 8), .nilCheck (.tmp 7), none⟩,
    ⟨(some 9), .addOff 0 (.tmp 8), none⟩,
    ⟨(some 10), .load1 (.tmp 9), none⟩,
    ⟨(some 11), .mkfunc (.func 48) [] [(.tmp 3)], none⟩,
    ⟨(some 12), .call 47 [(.const (.string ⟨#[]⟩)), (.tmp 10), (.tmp 11)], none⟩])
  (.seq (.region [⟨(some 13), .load1 (.tmp 3), none⟩,
    ⟨(some 2), .mov (.tmp 13), none⟩])
  .ret)))))⟩

/-- (*valise/overlay.FS).bytes -/
noncomputable def qf23 : RFunc := ⟨55, [.tmp 8],
  (.seq (.region [⟨(some 6), .box 3 1 (.tmp 2), none⟩,
    ⟨(some 7), .box 3 1 (.tmp 3), none⟩,
    ⟨(some 8), .mov (.const (.slice none 0 0)), none⟩])
  (.seq (.seq (.region [⟨(some 12), .mov (.tmp 1), none⟩,
    ⟨(some 13), .nilCheck (.tmp 12), none⟩,
    ⟨(some 14), .addOff 0 (.tmp 13), none⟩,
    ⟨(some 15), .load1 (.tmp 14), none⟩])
  (.cond (.tmp 15)
  (.seq (.draw [⟨(some 16), .mov (.tmp 1), none⟩,
    ⟨(some 17), .nilCheck (.tmp 16), none⟩,
    ⟨(some 18), .addOff 1 (.tmp 17), none⟩,
    ⟨(some 19), .load1 (.tmp 18), none⟩,
    ⟨(some 20), .load1 (.tmp 6), none⟩,
    ⟨(some 21), .load1 (.tmp 6), none⟩,
    ⟨(some 22), .load1 (.tmp 7), none⟩,
    ⟨(some 23), .bin .add 3 (.int .i64) (.tmp 21) (.tmp 22), none⟩,
    ⟨(some 24), .sliceSl 1 (.tmp 19) (some (.tmp 20)) (some (.tmp 23)) none, none⟩,
    ⟨(some 25), .call 50 [(.tmp 24)], none⟩,
    ⟨(some 8), .mov (.tmp 25), none⟩] [0, 1, 3, 7, 0, 0, 0, 96, 255, 511, 1023] [0, 1, 2, 3, 4, 5, 6, 7, 8, 9, 10])
  .ret)
  .skip))
  (.seq (.region [⟨(some 26), .load1 (.tmp 7), none⟩,
    ⟨(some 27), .mkslice 5 1 1 [(.int .u8 0)] (.const (.int .i64 0)) (.tmp 26), none⟩,
    ⟨(some 9), .new [(.slice none 0 0)] 22 1, none⟩,
    ⟨none, .store 1 (.tmp 9) (.tmp 27), none⟩])
  (.seq (.seq (.region [⟨(some 28), .load1 (.tmp 7), none⟩,
    ⟨(some 29), .bin .eql 3 (.int .i64) (.tmp 28) (.const (.int .i64 0)), none⟩])
  (.cond (.tmp 29)
  (.seq (.region [⟨(some 30), .load1 (.tmp 9), none⟩,
    ⟨(some 8), .mov (.tmp 30), none⟩])
  .ret)
  .skip))
  (.seq (.seq (.region [⟨(some 31), .mov (.tmp 0), none⟩,
    ⟨(some 32), .mov (.tmp 1), none⟩,
    ⟨(some 33), .load1 (.tmp 6), none⟩,
    ⟨(some 34), .load1 (.tmp 7), none⟩,
    ⟨(some 35), .call 51 [(.tmp 31), (.tmp 32), (.tmp 33), (.tmp 34)], none⟩])
  (.block 0
  (.rangeFunc (.tmp 35) [36, 37]
  (.seq (.region [⟨(some 10), .mov (.tmp 36), none⟩])
  (.region [⟨(some 11), .mov (.tmp 37), none⟩]))
  (.block 1
  (.draw [⟨(some 38), .load1 (.tmp 9), none⟩,
    ⟨(some 39), .mov (.tmp 11), none⟩,
    ⟨(some 40), .load1 (.tmp 6), none⟩,
    ⟨(some 41), .mov (.tmp 10), none⟩,
    ⟨(some 42), .bin .sub 3 (.int .i64) (.tmp 40) (.tmp 41), none⟩,
    ⟨(some 43), .max2 (.const (.int .i64 0)) (.tmp 42), none⟩,
    ⟨(some 44), .mov (.tmp 11), none⟩,
    ⟨(some 45), .len (.slice 5) (.tmp 44), none⟩,
    ⟨(some 46), .load1 (.tmp 6), none⟩,
    ⟨(some 47), .load1 (.tmp 7), none⟩,
    ⟨(some 48), .bin .add 3 (.int .i64) (.tmp 46) (.tmp 47), none⟩,
    ⟨(some 49), .mov (.tmp 10), none⟩,
    ⟨(some 50), .bin .sub 3 (.int .i64) (.tmp 48) (.tmp 49), none⟩,
    ⟨(some 51), .min2 (.tmp 45) (.tmp 50), none⟩,
    ⟨(some 52), .sliceSl 1 (.tmp 39) (some (.tmp 43)) (some (.tmp 51)) none, none⟩,
    ⟨(some 53), .append 5 1 1 [(.int .u8 0)] (.tmp 38) (.tmp 52), none⟩,
    ⟨none, .store 1 (.tmp 9) (.tmp 53), none⟩] [0, 0, 0, 0, 12, 28, 0, 64, 0, 0, 768, 0, 3840, 8128, 16382, 32767, 65535] [0, 1, 2, 3, 4, 5, 6, 7, 8, 9, 10, 11, 12, 13, 14, 15, 16])))))
  (.seq (.region [⟨(some 54), .load1 (.tmp 9), none⟩,
    ⟨(some 8), .mov (.tmp 54), none⟩])
  .ret))))))⟩

/-- (*valise/overlay.content).length -/
noncomputable def qf24 : RFunc := ⟨16, [.tmp 2],
  (.seq (.region [⟨(some 2), .mov (.const (.int .i64 0)), none⟩])
  (.seq (.seq (.region [⟨(some 3), .mov (.tmp 0), none⟩,
    ⟨(some 4), .nilCheck (.tmp 3), none⟩,
    ⟨(some 5), .addOff 0 (.tmp 4), none⟩,
    ⟨(some 6), .load1 (.tmp 5), none⟩])
  (.cond (.tmp 6)
  (.seq (.region [⟨(some 7), .mov (.tmp 0), none⟩,
    ⟨(some 8), .nilCheck (.tmp 7), none⟩,
    ⟨(some 9), .addOff 1 (.tmp 8), none⟩,
    ⟨(some 10), .load1 (.tmp 9), none⟩,
    ⟨(some 11), .len (.slice 5) (.tmp 10), none⟩,
    ⟨(some 2), .mov (.tmp 11), none⟩])
  .ret)
  .skip))
  (.seq (.region [⟨(some 12), .mov (.tmp 0), none⟩,
    ⟨(some 13), .nilCheck (.tmp 12), none⟩,
    ⟨(some 14), .addOff 3 (.tmp 13), none⟩,
    ⟨(some 15), .load1 (.tmp 14), none⟩,
    ⟨(some 2), .mov (.tmp 15), none⟩])
  .ret)))⟩

/-- (*valise/overlay.FS).handles -/
noncomputable def qf25 : RFunc := ⟨11, [.tmp 4],
  (.seq (.region [⟨(some 4), .mov (.const (.slice none 0 0)), none⟩])
  (.seq (.region [⟨(some 5), .mov (.tmp 0), none⟩,
    ⟨(some 6), .mov (.tmp 1), none⟩,
    ⟨(some 7), .nilCheck (.tmp 5), none⟩,
    ⟨(some 8), .addOff 3 (.tmp 7), none⟩,
    ⟨(some 9), .idxA 8 32 (.tmp 8) (.tmp 6), none⟩,
    ⟨(some 10), .sliceArr 16 2 (.tmp 9) none none none, none⟩,
    ⟨(some 4), .mov (.tmp 10), none⟩])
  .ret))⟩

/-- valise/valiselaw19.made -/
noncomputable def qf26 : RFunc := ⟨22, [.tmp 2, .tmp 3, .tmp 4],
  (.seq (.region [⟨(some 2), .mov (.const (.pointer none)), none⟩,
    ⟨(some 3), .mov (.const (.pointer none)), none⟩,
    ⟨(some 4), .mov (.const (.int .i64 0)), none⟩])
  (.seq (.region [⟨(some 8), .mov (.tmp 0), none⟩,
    ⟨(some 9), .build [(.slice none 0 0), (.bool false)] [(0, 1, (.tmp 8))], none⟩,
    ⟨(some 10), .box 81 2 (.tmp 9), none⟩,
    ⟨(some 5), .mov (.tmp 10), none⟩])
  (.seq (.region [⟨(some 12), .mov (.tmp 0), none⟩,
    ⟨(some 13), .call 52 [(.tmp 12)], none⟩,
    ⟨(some 14), .mov (.tmp 5), none⟩,
    ⟨(some 15), .iface 77 (.tmp 14), none⟩,
    ⟨(some 16), .call 4 [(.tmp 13), (.tmp 15)], none⟩,
    ⟨(some 11), .mov (.tmp 16), none⟩,
    ⟨(some 17), .ext (.tmp 11) 0, none⟩,
    ⟨(some 18), .ext (.tmp 11) 1, none⟩,
    ⟨(some 6), .mov (.tmp 17), none⟩,
    ⟨(some 7), .mov (.tmp 18), none⟩])
  (.seq (.region [⟨(some 19), .mov (.tmp 6), none⟩,
    ⟨(some 20), .mov (.tmp 5), none⟩,
    ⟨(some 21), .mov (.tmp 7), none⟩,
    ⟨(some 2), .mov (.tmp 19), none⟩,
    ⟨(some 3), .mov (.tmp 20), none⟩,
    ⟨(some 4), .mov (.tmp 21), none⟩])
  .ret))))⟩

/-- slices.IndexFunc[[]valise/api.Meta,valise/api.Meta] -/
noncomputable def qf27 : RFunc := ⟨19, [.tmp 4],
  (.seq (.region [⟨(some 4), .mov (.const (.int .i64 0)), none⟩])
  (.seq (.seq (.region [⟨(some 6), .mov (.tmp 0), none⟩,
    ⟨(some 7), .len (.slice 54) (.tmp 6), none⟩,
    ⟨(some 8), .mov (.const (.int .i64 0)), none⟩])
  (.block 0
  (.loop
  (.seq (.region [⟨(some 9), .bin .lss 3 (.int .i64) (.tmp 8) (.tmp 7), none⟩])
  (.seq (.cond (.tmp 9)
  .skip
  (.exit 0))
  (.seq (.block 1
  (.seq (.region [⟨(some 10), .mov (.tmp 8), none⟩,
    ⟨(some 5), .mov (.tmp 10), none⟩])
  (.seq (.region [⟨(some 11), .mov (.tmp 1), none⟩,
    ⟨(some 12), .mov (.tmp 0), none⟩,
    ⟨(some 13), .mov (.tmp 5), none⟩,
    ⟨(some 14), .idxS 3 (.tmp 12) (.tmp 13), none⟩,
    ⟨(some 15), .loadN 3 (.tmp 14), none⟩,
    ⟨(some 16), .callv (.tmp 11) [(.tmp 15)], none⟩])
  (.cond (.tmp 16)
  (.seq (.region [⟨(some 17), .mov (.tmp 5), none⟩,
    ⟨(some 4), .mov (.tmp 17), none⟩])
  .ret)
  .skip))))
  (.region [⟨(some 18), .bin .add 3 (.int .i64) (.tmp 8) (.const (.int .i64 1)), none⟩,
    ⟨(some 8), .mov (.tmp 18), none⟩])))))))
  (.seq (.region [⟨(some 4), .mov (.const (.int .i64 (-1))), none⟩])
  .ret)))⟩

/-- valise/tree.single -/
noncomputable def qf28 : RFunc := ⟨33, [.tmp 2],
  (.seq (.region [⟨(some 1), .box 56 3 (.tmp 0), none⟩,
    ⟨(some 2), .mov (.const (.int .i64 0)), none⟩])
  (.seq (.region [⟨(some 6), .addOff 0 (.tmp 1), none⟩,
    ⟨(some 7), .load1 (.tmp 6), none⟩,
    ⟨(some 8), .call 53 [(.tmp 7)], none⟩,
    ⟨(some 5), .mov (.tmp 8), none⟩,
    ⟨(some 9), .ext (.tmp 5) 0, none⟩,
    ⟨(some 10), .ext (.tmp 5) 1, none⟩,
    ⟨(some 3), .mov (.tmp 9), none⟩,
    ⟨(some 4), .mov (.tmp 10), none⟩])
  (.seq (.block 0
  (.seq (.region [⟨(some 12), .mov (.tmp 4), none⟩,
    ⟨(some 13), .bin .neq 28 (.int .i64) (.tmp 12) (.const (.int .i64 0)), none⟩,
    ⟨(some 14), .mov (.tmp 13), none⟩,
    ⟨(some 15), .mov (.tmp 3), (some (14, false))⟩,
    ⟨(some 16), .len (.slice 9) (.tmp 15), (some (14, false))⟩,
    ⟨(some 17), .bin .eql 3 (.int .i64) (.tmp 16) (.const (.int .i64 0)), (some (14, false))⟩,
    ⟨(some 18), .pick (.tmp 14) (.const (.bool true)) (.tmp 17), none⟩,
    ⟨(some 11), .mov (.tmp 18), none⟩])
  (.cond (.tmp 11)
  (.seq (.region [⟨(some 2), .mov (.const (.int .i64 8)), none⟩])
  .ret)
  (.seq (.region [⟨(some 20), .addOff 1 (.tmp 1), none⟩,
    ⟨(some 21), .load1 (.tmp 20), none⟩,
    ⟨(some 22), .mov (.tmp 21), none⟩,
    ⟨(some 23), .addOff 2 (.tmp 1), (some (22, true))⟩,
    ⟨(some 24), .load1 (.tmp 23), (some (22, true))⟩,
    ⟨(some 25), .len (.slice 5) (.tmp 24), (some (22, true))⟩,
    ⟨(some 26), .bin .gtr 3 (.int .i64) (.tmp 25) (.const (.int .i64 0)), (some (22, true))⟩,
    ⟨(some 27), .pick (.tmp 22) (.tmp 26) (.const (.bool false)), none⟩,
    ⟨(some 19), .mov (.tmp 27), none⟩])
  (.cond (.tmp 19)
  (.seq (.region [⟨(some 2), .mov (.const (.int .i64 16)), none⟩])
  .ret)
  (.seq (.region [⟨(some 29), .addOff 2 (.tmp 1), none⟩,
    ⟨(some 30), .load1 (.tmp 29), none⟩,
    ⟨(some 31), .len (.slice 5) (.tmp 30), none⟩,
    ⟨(some 32), .bin .gtr 3 (.int .i64) (.tmp 31) (.const (.int .i64 65536)), none⟩,
    ⟨(some 28), .mov (.tmp 32), none⟩])
  (.cond (.tmp 28)
  (.seq (.region [⟨(some 2), .mov (.const (.int .i64 3)), none⟩])
  .ret)
  .skip)))))))
  (.seq (.region [⟨(some 2), .mov (.const (.int .i64 0)), none⟩])
  .ret))))⟩

/-- valise/tree.together -/
noncomputable def qf29 : RFunc := ⟨62, [.tmp 2],
  (.seq (.region [⟨(some 2), .mov (.const (.int .i64 0)), none⟩])
  (.seq (.region [⟨(some 13), .mkmap, none⟩,
    ⟨(some 3), .mov (.tmp 13), none⟩])
  (.seq (.seq (.region [⟨(some 14), .mov (.tmp 0), none⟩,
    ⟨(some 15), .len (.slice 56) (.tmp 14), none⟩,
    ⟨(some 16), .mov (.const (.int .i64 0)), none⟩])
  (.block 0
  (.loop
  (.seq (.region [⟨(some 17), .bin .lss 3 (.int .i64) (.tmp 16) (.tmp 15), none⟩])
  (.seq (.cond (.tmp 17)
  .skip
  (.exit 0))
  (.seq (.block 1
  (.seq (.region [⟨(some 18), .idxS 3 (.tmp 14) (.tmp 16), none⟩,
    ⟨(some 19), .loadN 3 (.tmp 18), none⟩,
    ⟨(some 5), .new [(.string ⟨#[]⟩), (.bool false), (.slice none 0 0)] 56 3, none⟩,
    ⟨none, .store 3 (.tmp 5) (.tmp 19), none⟩])
  (.seq (.seq (.region [⟨(some 21), .mov (.tmp 3), none⟩,
    ⟨(some 22), .addOff 0 (.tmp 5), none⟩,
    ⟨(some 23), .load1 (.tmp 22), none⟩,
    ⟨(some 24), .look .string (.bool false) (.tmp 21) (.tmp 23) true, none⟩,
    ⟨(some 20), .mov (.tmp 24), none⟩,
    ⟨(some 25), .ext (.tmp 20) 0, none⟩,
    ⟨(some 26), .ext (.tmp 20) 1, none⟩,
    ⟨(some 6), .mov (.tmp 25), none⟩,
    ⟨(some 7), .mov (.tmp 26), none⟩])
  (.seq (.region [⟨(some 27), .mov (.tmp 7), none⟩])
  (.cond (.tmp 27)
  (.seq (.region [⟨(some 2), .mov (.const (.int .i64 10)), none⟩])
  .ret)
  .skip)))
  (.region [⟨(some 28), .mov (.tmp 3), none⟩,
    ⟨(some 29), .addOff 0 (.tmp 5), none⟩,
    ⟨(some 30), .load1 (.tmp 29), none⟩,
    ⟨(some 31), .addOff 1 (.tmp 5), none⟩,
    ⟨(some 32), .load1 (.tmp 31), none⟩,
    ⟨none, .mput .string (.tmp 28) (.tmp 30) (.tmp 32), none⟩]))))
  (.region [⟨(some 33), .bin .add 3 (.int .i64) (.tmp 16) (.const (.int .i64 1)), none⟩,
    ⟨(some 16), .mov (.tmp 33), none⟩])))))))
  (.seq (.seq (.region [⟨(some 34), .mov (.tmp 0), none⟩,
    ⟨(some 35), .len (.slice 56) (.tmp 34), none⟩,
    ⟨(some 36), .mov (.const (.int .i64 0)), none⟩])
  (.block 2
  (.loop
  (.seq (.region [⟨(some 37), .bin .lss 3 (.int .i64) (.tmp 36) (.tmp 35), none⟩])
  (.seq (.cond (.tmp 37)
  .skip
  (.exit 2))
  (.seq (.block 3
  (.seq (.region [⟨(some 38), .idxS 3 (.tmp 34) (.tmp 36), none⟩,
    ⟨(some 39), .loadN 3 (.tmp 38), none⟩,
    ⟨(some 9), .new [(.string ⟨#[]⟩), (.bool false), (.slice none 0 0)] 56 3, none⟩,
    ⟨none, .store 3 (.tmp 9) (.tmp 39), none⟩])
  (.seq (.region [⟨(some 40), .addOff 0 (.tmp 9), none⟩,
    ⟨(some 41), .load1 (.tmp 40), none⟩,
    ⟨(some 10), .mov (.tmp 41), none⟩])
  (.block 4
  (.loop
  (.seq (.seq (.region [⟨(some 42), .mov (.tmp 10), none⟩,
    ⟨(some 43), .bin .neq 9 .string (.tmp 42) (.const (.string ⟨#[]⟩)), none⟩])
  (.cond (.tmp 43)
  .skip
  (.exit 4)))
  (.block 5
  (.seq (.region [⟨(some 45), .mov (.tmp 10), none⟩,
    ⟨(some 46), .call 54 [(.tmp 45)], none⟩,
    ⟨(some 44), .mov (.tmp 46), none⟩,
    ⟨(some 47), .ext (.tmp 44) 0, none⟩,
    ⟨(some 48), .ext (.tmp 44) 1, none⟩,
    ⟨(some 49), .ext (.tmp 44) 2, none⟩,
    ⟨(some 10), .mov (.tmp 47), none⟩])
  (.seq (.region [⟨(some 51), .mov (.tmp 3), none⟩,
    ⟨(some 52), .mov (.tmp 10), none⟩,
    ⟨(some 53), .look .string (.bool false) (.tmp 51) (.tmp 52) true, none⟩,
    ⟨(some 50), .mov (.tmp 53), none⟩,
    ⟨(some 54), .ext (.tmp 50) 0, none⟩,
    ⟨(some 55), .ext (.tmp 50) 1, none⟩,
    ⟨(some 11), .mov (.tmp 54), none⟩,
    ⟨(some 12), .mov (.tmp 55), none⟩])
  (.seq (.region [⟨(some 56), .mov (.tmp 12), none⟩,
    ⟨(some 57), .mov (.tmp 56), none⟩,
    ⟨(some 58), .mov (.tmp 11), (some (57, true))⟩,
    ⟨(some 59), .un .not (.tmp 58), (some (57, true))⟩,
    ⟨(some 60), .pick (.tmp 57) (.tmp 59) (.const (.bool false)), none⟩])
  (.cond (.tmp 60)
  (.seq (.region [⟨(some 2), .mov (.const (.int .i64 17)), none⟩])
  .ret)
  .skip)))))))))))
  (.region [⟨(some 61), .bin .add 3 (.int .i64) (.tmp 36) (.const (.int .i64 1)), none⟩,
    ⟨(some 36), .mov (.tmp 61), none⟩])))))))
  (.seq (.region [⟨(some 2), .mov (.const (.int .i64 0)), none⟩])
  .ret)))))⟩

/-- valise/tree.New -/
noncomputable def qf30 : RFunc := ⟨4, [.tmp 0],
  (.seq (.region [⟨(some 0), .mov (.const (.pointer none)), none⟩])
  (.seq (.region [⟨(some 1), .call 55 [], none⟩,
    ⟨(some 2), .build [(.pointer none), (.int .i64 0)] [(0, 1, (.tmp 1))], none⟩,
    ⟨(some 3), .box 89 2 (.tmp 2), none⟩,
    ⟨(some 0), .mov (.tmp 3), none⟩])
  .ret))⟩

/-- (*valise/tree.Tree).lay -/
noncomputable def qf31 : RFunc := ⟨69, [],
  (.seq (.region [⟨(some 15), .mov (.tmp 1), none⟩,
    ⟨(some 16), .call 53 [(.tmp 15)], none⟩,
    ⟨(some 14), .mov (.tmp 16), none⟩,
    ⟨(some 17), .ext (.tmp 14) 0, none⟩,
    ⟨(some 18), .ext (.tmp 14) 1, none⟩,
    ⟨(some 8), .mov (.tmp 17), none⟩,
    ⟨(some 9), .mov (.tmp 18), none⟩])
  (.seq (.region [⟨(some 19), .mov (.tmp 0), none⟩,
    ⟨(some 20), .nilCheck (.tmp 19), none⟩,
    ⟨(some 21), .addOff 0 (.tmp 20), none⟩,
    ⟨(some 22), .load1 (.tmp 21), none⟩,
    ⟨(some 10), .mov (.tmp 22), none⟩])
  (.seq (.region [⟨(some 23), .mov (.tmp 8), none⟩,
    ⟨(some 24), .len (.slice 9) (.tmp 23), none⟩,
    ⟨(some 25), .mov (.const (.int .i64 0)), none⟩])
  (.block 0
  (.loop
  (.seq (.region [⟨(some 26), .bin .lss 3 (.int .i64) (.tmp 25) (.tmp 24), none⟩])
  (.seq (.cond (.tmp 26)
  .skip
  (.exit 0))
  (.seq (.block 1
  (.seq (.region [⟨(some 27), .mov (.tmp 25), none⟩,
    ⟨(some 28), .idxS 1 (.tmp 23) (.tmp 25), none⟩,
    ⟨(some 29), .load1 (.tmp 28), none⟩,
    ⟨(some 11), .mov (.tmp 27), none⟩,
    ⟨(some 12), .mov (.tmp 29), none⟩])
  (.seq (.region [⟨(some 30), .mov (.tmp 10), none⟩,
    ⟨(some 31), .nilCheck (.tmp 30), none⟩,
    ⟨(some 32), .addOff 1 (.tmp 31), none⟩,
    ⟨(some 33), .addOff 0 (.tmp 32), none⟩,
    ⟨(some 34), .load1 (.tmp 33), none⟩,
    ⟨(some 35), .mov (.tmp 12), none⟩,
    ⟨(some 36), .look .string (.pointer none) (.tmp 34) (.tmp 35) false, none⟩,
    ⟨(some 13), .mov (.tmp 36), none⟩])
  (.seq (.seq (.region [⟨(some 37), .mov (.tmp 13), none⟩,
    ⟨(some 38), .bin .eql 87 (.pointer 116) (.tmp 37) (.const (.pointer none)), none⟩])
  (.cond (.tmp 38)
  (.seq (.region [⟨(some 39), .call 55 [], none⟩,
    ⟨(some 13), .mov (.tmp 39), none⟩])
  (.seq (.seq (.region [⟨(some 40), .mov (.tmp 11), none⟩,
    ⟨(some 41), .mov (.tmp 8), none⟩,
    ⟨(some 42), .len (.slice 9) (.tmp 41), none⟩,
    ⟨(some 43), .bin .sub 3 (.int .i64) (.tmp 42) (.const (.int .i64 1)), none⟩,
    ⟨(some 44), .bin .eql 3 (.int .i64) (.tmp 40) (.tmp 43), none⟩,
    ⟨(some 45), .mov (.tmp 44), none⟩,
    ⟨(some 46), .mov (.tmp 3), (some (45, true))⟩,
    ⟨(some 47), .un .not (.tmp 46), (some (45, true))⟩,
    ⟨(some 48), .pick (.tmp 45) (.tmp 47) (.const (.bool false)), none⟩])
  (.cond (.tmp 48)
  (.region [⟨(some 49), .mov (.tmp 2), none⟩,
    ⟨(some 50), .call 50 [(.tmp 49)], none⟩,
    ⟨(some 51), .build [(.bool false), (.map none), (.slice none 0 0)] [(2, 1, (.tmp 50))], none⟩,
    ⟨(some 52), .box 116 3 (.tmp 51), none⟩,
    ⟨(some 13), .mov (.tmp 52), none⟩])
  .skip))
  (.seq (.region [⟨(some 53), .mov (.tmp 10), none⟩,
    ⟨(some 54), .nilCheck (.tmp 53), none⟩,
    ⟨(some 55), .addOff 1 (.tmp 54), none⟩,
    ⟨(some 56), .addOff 0 (.tmp 55), none⟩,
    ⟨(some 57), .load1 (.tmp 56), none⟩,
    ⟨(some 58), .mov (.tmp 12), none⟩,
    ⟨(some 59), .mov (.tmp 13), none⟩,
    ⟨none, .mput .string (.tmp 57) (.tmp 58) (.tmp 59), none⟩])
  (.region [⟨(some 60), .mov (.tmp 0), none⟩,
    ⟨(some 61), .nilCheck (.tmp 60), none⟩,
    ⟨(some 62), .addOff 1 (.tmp 61), none⟩,
    ⟨(some 63), .load1 (.tmp 62), none⟩,
    ⟨(some 64), .bin .add 3 (.int .i64) (.tmp 63) (.const (.int .i64 1)), none⟩,
    ⟨(some 65), .nilCheck (.tmp 60), none⟩,
    ⟨(some 66), .addOff 1 (.tmp 65), none⟩,
    ⟨none, .store 1 (.tmp 66) (.tmp 64), none⟩]))))
  .skip))
  (.region [⟨(some 67), .mov (.tmp 13), none⟩,
    ⟨(some 10), .mov (.tmp 67), none⟩])))))
  (.region [⟨(some 68), .bin .add 3 (.int .i64) (.tmp 25) (.const (.int .i64 1)), none⟩,
    ⟨(some 25), .mov (.tmp 68), none⟩])))))))))⟩

/-- slices.IndexFunc[[]valise/overlay.handle,valise/overlay.handle] -/
noncomputable def qf32 : RFunc := ⟨19, [.tmp 4],
  (.seq (.region [⟨(some 4), .mov (.const (.int .i64 0)), none⟩])
  (.seq (.seq (.region [⟨(some 6), .mov (.tmp 0), none⟩,
    ⟨(some 7), .len (.slice 34) (.tmp 6), none⟩,
    ⟨(some 8), .mov (.const (.int .i64 0)), none⟩])
  (.block 0
  (.loop
  (.seq (.region [⟨(some 9), .bin .lss 3 (.int .i64) (.tmp 8) (.tmp 7), none⟩])
  (.seq (.cond (.tmp 9)
  .skip
  (.exit 0))
  (.seq (.block 1
  (.seq (.region [⟨(some 10), .mov (.tmp 8), none⟩,
    ⟨(some 5), .mov (.tmp 10), none⟩])
  (.seq (.region [⟨(some 11), .mov (.tmp 1), none⟩,
    ⟨(some 12), .mov (.tmp 0), none⟩,
    ⟨(some 13), .mov (.tmp 5), none⟩,
    ⟨(some 14), .idxS 2 (.tmp 12) (.tmp 13), none⟩,
    ⟨(some 15), .loadN 2 (.tmp 14), none⟩,
    ⟨(some 16), .callv (.tmp 11) [(.tmp 15)], none⟩])
  (.cond (.tmp 16)
  (.seq (.region [⟨(some 17), .mov (.tmp 5), none⟩,
    ⟨(some 4), .mov (.tmp 17), none⟩])
  .ret)
  .skip))))
  (.region [⟨(some 18), .bin .add 3 (.int .i64) (.tmp 8) (.const (.int .i64 1)), none⟩,
    ⟨(some 8), .mov (.tmp 18), none⟩])))))))
  (.seq (.region [⟨(some 4), .mov (.const (.int .i64 (-1))), none⟩])
  .ret)))⟩

/-- (*valise/overlay.FS).doOpen$1 -/
noncomputable def qf33 : RFunc := ⟨6, [.tmp 2],
  (.seq (.region [⟨(some 1), .box 34 2 (.tmp 0), none⟩,
    ⟨(some 2), .mov (.const (.bool false)), none⟩])
  (.seq (.region [⟨(some 3), .addOff 0 (.tmp 1), none⟩,
    ⟨(some 4), .load1 (.tmp 3), none⟩,
    ⟨(some 5), .bin .eql 9 .string (.tmp 4) (.const (.string ⟨#[]⟩)), none⟩,
    ⟨(some 2), .mov (.tmp 5), none⟩])
  .ret))⟩

/-- (*valise/tree.Tree).Find -/
noncomputable def qf34 : RFunc := ⟨21, [.cellN 4 3, .tmp 5],
  (.seq (.region [⟨(some 4), .new [(.string ⟨#[]⟩), (.bool false), (.slice none 0 0)] 56 3, none⟩,
    ⟨(some 5), .mov (.const (.int .i64 0)), none⟩])
  (.seq (.region [⟨(some 9), .mov (.tmp 0), none⟩,
    ⟨(some 10), .mov (.tmp 1), none⟩,
    ⟨(some 11), .call 56 [(.tmp 9), (.tmp 10)], none⟩,
    ⟨(some 8), .mov (.tmp 11), none⟩,
    ⟨(some 12), .ext (.tmp 8) 0, none⟩,
    ⟨(some 13), .ext (.tmp 8) 1, none⟩,
    ⟨(some 6), .mov (.tmp 12), none⟩,
    ⟨(some 7), .mov (.tmp 13), none⟩])
  (.seq (.seq (.region [⟨(some 14), .mov (.tmp 7), none⟩,
    ⟨(some 15), .bin .neq 28 (.int .i64) (.tmp 14) (.const (.int .i64 0)), none⟩])
  (.cond (.tmp 15)
  (.seq (.region [⟨(some 16), .build [(.string ⟨#[]⟩), (.bool false), (.slice none 0 0)] [], none⟩,
    ⟨(some 17), .mov (.tmp 7), none⟩,
    ⟨none, .store 3 (.tmp 4) (.tmp 16), none⟩,
    ⟨(some 5), .mov (.tmp 17), none⟩])
  .ret)
  .skip))
  (.seq (.region [⟨(some 18), .mov (.tmp 1), none⟩,
    ⟨(some 19), .mov (.tmp 6), none⟩,
    ⟨(some 20), .call 49 [(.tmp 18), (.tmp 19)], none⟩,
    ⟨none, .store 3 (.tmp 4) (.tmp 20), none⟩,
    ⟨(some 5), .mov (.const (.int .i64 0)), none⟩])
  .ret))))⟩

/-- (*valise/tree.Tree).Put -/
noncomputable def qf35 : RFunc := ⟨71, [.tmp 6],
  (.seq (.region [⟨(some 6), .mov (.const (.int .i64 0)), none⟩])
  (.seq (.region [⟨(some 12), .mov (.tmp 0), none⟩,
    ⟨(some 13), .mov (.tmp 1), none⟩,
    ⟨(some 14), .call 57 [(.tmp 12), (.tmp 13), (.const (.int .i64 16))], none⟩,
    ⟨(some 11), .mov (.tmp 14), none⟩,
    ⟨(some 15), .ext (.tmp 11) 0, none⟩,
    ⟨(some 16), .ext (.tmp 11) 1, none⟩,
    ⟨(some 17), .ext (.tmp 11) 2, none⟩,
    ⟨(some 7), .mov (.tmp 15), none⟩,
    ⟨(some 8), .mov (.tmp 16), none⟩,
    ⟨(some 9), .mov (.tmp 17), none⟩])
  (.seq (.seq (.region [⟨(some 18), .mov (.tmp 9), none⟩,
    ⟨(some 19), .bin .neq 28 (.int .i64) (.tmp 18) (.const (.int .i64 0)), none⟩])
  (.cond (.tmp 19)
  (.seq (.region [⟨(some 20), .mov (.tmp 9), none⟩,
    ⟨(some 6), .mov (.tmp 20), none⟩])
  .ret)
  .skip))
  (.seq (.region [⟨(some 21), .mov (.tmp 7), none⟩,
    ⟨(some 22), .nilCheck (.tmp 21), none⟩,
    ⟨(some 23), .addOff 1 (.tmp 22), none⟩,
    ⟨(some 24), .addOff 0 (.tmp 23), none⟩,
    ⟨(some 25), .load1 (.tmp 24), none⟩,
    ⟨(some 26), .mov (.tmp 8), none⟩,
    ⟨(some 27), .look .string (.pointer none) (.tmp 25) (.tmp 26) false, none⟩,
    ⟨(some 10), .mov (.tmp 27), none⟩])
  (.seq (.block 0
  (.seq (.region [⟨(some 29), .mov (.tmp 10), none⟩,
    ⟨(some 30), .bin .neq 87 (.pointer 116) (.tmp 29) (.const (.pointer none)), none⟩,
    ⟨(some 31), .mov (.tmp 30), none⟩,
    ⟨(some 32), .mov (.tmp 10), (some (31, true))⟩,
    ⟨(some 33), .nilCheck (.tmp 32), (some (31, true))⟩,
    ⟨(some 34), .addOff 0 (.tmp 33), (some (31, true))⟩,
    ⟨(some 35), .load1 (.tmp 34), (some (31, true))⟩,
    ⟨(some 36), .pick (.tmp 31) (.tmp 35) (.const (.bool false)), none⟩,
    ⟨(some 28), .mov (.tmp 36), none⟩])
  (.cond (.tmp 28)
  (.seq (.region [⟨(some 6), .mov (.const (.int .i64 16)), none⟩])
  .ret)
  (.seq (.region [⟨(some 38), .mov (.tmp 2), none⟩,
    ⟨(some 39), .len (.slice 5) (.tmp 38), none⟩,
    ⟨(some 40), .bin .gtr 3 (.int .i64) (.tmp 39) (.const (.int .i64 65536)), none⟩,
    ⟨(some 37), .mov (.tmp 40), none⟩])
  (.cond (.tmp 37)
  (.seq (.region [⟨(some 6), .mov (.const (.int .i64 3)), none⟩])
  .ret)
  (.seq (.region [⟨(some 42), .mov (.tmp 10), none⟩,
    ⟨(some 43), .bin .eql 87 (.pointer 116) (.tmp 42) (.const (.pointer none)), none⟩,
    ⟨(some 44), .mov (.tmp 43), none⟩,
    ⟨(some 45), .mov (.tmp 0), (some (44, true))⟩,
    ⟨(some 46), .nilCheck (.tmp 45), (some (44, true))⟩,
    ⟨(some 47), .addOff 1 (.tmp 46), (some (44, true))⟩,
    ⟨(some 48), .load1 (.tmp 47), (some (44, true))⟩,
    ⟨(some 49), .bin .eql 3 (.int .i64) (.tmp 48) (.const (.int .i64 128)), (some (44, true))⟩,
    ⟨(some 50), .pick (.tmp 44) (.tmp 49) (.const (.bool false)), none⟩,
    ⟨(some 41), .mov (.tmp 50), none⟩])
  (.cond (.tmp 41)
  (.seq (.region [⟨(some 6), .mov (.const (.int .i64 7)), none⟩])
  .ret)
  (.seq (.region [⟨(some 52), .mov (.tmp 10), none⟩,
    ⟨(some 53), .bin .eql 87 (.pointer 116) (.tmp 52) (.const (.pointer none)), none⟩,
    ⟨(some 51), .mov (.tmp 53), none⟩])
  (.cond (.tmp 51)
  (.region [⟨(some 54), .mov (.tmp 0), none⟩,
    ⟨(some 55), .nilCheck (.tmp 54), none⟩,
    ⟨(some 56), .addOff 1 (.tmp 55), none⟩,
    ⟨(some 57), .load1 (.tmp 56), none⟩,
    ⟨(some 58), .bin .add 3 (.int .i64) (.tmp 57) (.const (.int .i64 1)), none⟩,
    ⟨(some 59), .nilCheck (.tmp 54), none⟩,
    ⟨(some 60), .addOff 1 (.tmp 59), none⟩,
    ⟨none, .store 1 (.tmp 60) (.tmp 58), none⟩])
  .skip)))))))))
  (.seq (.draw [⟨(some 61), .mov (.tmp 7), none⟩,
    ⟨(some 62), .nilCheck (.tmp 61), none⟩,
    ⟨(some 63), .addOff 1 (.tmp 62), none⟩,
    ⟨(some 64), .addOff 0 (.tmp 63), none⟩,
    ⟨(some 65), .load1 (.tmp 64), none⟩,
    ⟨(some 66), .mov (.tmp 8), none⟩,
    ⟨(some 67), .mov (.tmp 2), none⟩,
    ⟨(some 68), .call 50 [(.tmp 67)], none⟩,
    ⟨(some 69), .build [(.bool false), (.map none), (.slice none 0 0)] [(2, 1, (.tmp 68))], none⟩,
    ⟨(some 70), .box 116 3 (.tmp 69), none⟩,
    ⟨none, .mput .string (.tmp 65) (.tmp 66) (.tmp 70), none⟩] [0, 1, 3, 7, 15, 0, 0, 64, 192, 448, 1023] [0, 1, 2, 3, 4, 5, 6, 7, 8, 9, 10])
  (.seq (.region [⟨(some 6), .mov (.const (.int .i64 0)), none⟩])
  .ret)))))))⟩

/-- (*valise/overlay.FS).read -/
noncomputable def qf36 : RFunc := ⟨44, [.cellN 6 5],
  (.seq (.region [⟨(some 5), .box 24 9 (.tmp 2), none⟩,
    ⟨(some 6), .new [(.int .i64 0), (.int .i64 0), (.int .i64 0), (.slice none 0 0), (.slice none 0 0)] 41 5, none⟩])
  (.seq (.seq (.region [⟨(some 9), .addOff 4 (.tmp 5), none⟩,
    ⟨(some 10), .load1 (.tmp 9), none⟩,
    ⟨(some 11), .bin .lss 3 (.int .i64) (.tmp 10) (.const (.int .i64 0)), none⟩,
    ⟨(some 12), .mov (.tmp 11), none⟩,
    ⟨(some 13), .addOff 5 (.tmp 5), (some (12, false))⟩,
    ⟨(some 14), .load1 (.tmp 13), (some (12, false))⟩,
    ⟨(some 15), .bin .lss 3 (.int .i64) (.tmp 14) (.const (.int .i64 0)), (some (12, false))⟩,
    ⟨(some 16), .pick (.tmp 12) (.const (.bool true)) (.tmp 15), none⟩])
  (.cond (.tmp 16)
  (.seq (.region [⟨(some 17), .call 15 [(.const (.int .i64 2))], none⟩,
    ⟨none, .store 5 (.tmp 6) (.tmp 17), none⟩])
  .ret)
  .skip))
  (.seq (.draw [⟨(some 18), .mov (.tmp 0), none⟩,
    ⟨(some 19), .nilCheck (.tmp 18), none⟩,
    ⟨(some 20), .addOff 2 (.tmp 19), none⟩,
    ⟨(some 21), .load1 (.tmp 20), none⟩,
    ⟨(some 22), .mov (.tmp 1), none⟩,
    ⟨(some 23), .nilCheck (.tmp 22), none⟩,
    ⟨(some 24), .addOff 0 (.tmp 23), none⟩,
    ⟨(some 25), .load1 (.tmp 24), none⟩,
    ⟨(some 26), .look .string (.pointer none) (.tmp 21) (.tmp 25) false, none⟩,
    ⟨(some 7), .mov (.tmp 26), none⟩] [0, 1, 3, 7, 0, 16, 48, 112, 255, 511] [0, 1, 2, 3, 4, 5, 6, 7, 8, 9])
  (.seq (.draw [⟨(some 27), .addOff 4 (.tmp 5), none⟩,
    ⟨(some 28), .load1 (.tmp 27), none⟩,
    ⟨(some 29), .mov (.tmp 7), none⟩,
    ⟨(some 30), .call 24 [(.tmp 29)], none⟩,
    ⟨(some 31), .min2 (.tmp 28) (.tmp 30), none⟩,
    ⟨(some 8), .mov (.tmp 31), none⟩] [0, 1, 0, 4, 15, 31] [0, 1, 2, 3, 4, 5])
  (.seq (.draw [⟨(some 32), .mov (.tmp 0), none⟩,
    ⟨(some 33), .mov (.tmp 7), none⟩,
    ⟨(some 34), .mov (.tmp 8), none⟩,
    ⟨(some 35), .addOff 5 (.tmp 5), none⟩,
    ⟨(some 36), .load1 (.tmp 35), none⟩,
    ⟨(some 37), .mov (.tmp 7), none⟩,
    ⟨(some 38), .call 24 [(.tmp 37)], none⟩,
    ⟨(some 39), .mov (.tmp 8), none⟩,
    ⟨(some 40), .bin .sub 3 (.int .i64) (.tmp 38) (.tmp 39), none⟩,
    ⟨(some 41), .min2 (.tmp 36) (.tmp 40), none⟩,
    ⟨(some 42), .call 23 [(.tmp 32), (.tmp 33), (.tmp 34), (.tmp 41)], none⟩,
    ⟨(some 43), .build [(.int .i64 0), (.int .i64 0), (.int .i64 0), (.slice none 0 0), (.slice none 0 0)] [(3, 1, (.tmp 42))], none⟩,
    ⟨none, .store 5 (.tmp 6) (.tmp 43), none⟩] [0, 0, 0, 0, 8, 0, 32, 0, 224, 504, 1023, 2047, 4095] [0, 1, 2, 3, 4, 5, 7, 6, 8, 9, 10, 11, 12])
  .ret)))))⟩

/-- (*valise/overlay.FS).write -/
noncomputable def qf37 : RFunc := ⟨72, [.cellN 6 5],
  (.seq (.region [⟨(some 5), .box 24 9 (.tmp 2), none⟩,
    ⟨(some 6), .new [(.int .i64 0), (.int .i64 0), (.int .i64 0), (.slice none 0 0), (.slice none 0 0)] 41 5, none⟩])
  (.seq (.region [⟨(some 9), .addOff 8 (.tmp 5), none⟩,
    ⟨(some 10), .load1 (.tmp 9), none⟩,
    ⟨(some 11), .len (.slice 5) (.tmp 10), none⟩,
    ⟨(some 7), .mov (.tmp 11), none⟩])
  (.seq (.block 0
  (.seq (.region [⟨(some 13), .mov (.tmp 1), none⟩,
    ⟨(some 14), .nilCheck (.tmp 13), none⟩,
    ⟨(some 15), .addOff 1 (.tmp 14), none⟩,
    ⟨(some 16), .load1 (.tmp 15), none⟩,
    ⟨(some 17), .un .not (.tmp 16), none⟩,
    ⟨(some 18), .mov (.tmp 17), none⟩,
    ⟨(some 19), .addOff 4 (.tmp 5), (some (18, false))⟩,
    ⟨(some 20), .load1 (.tmp 19), (some (18, false))⟩,
    ⟨(some 21), .bin .lss 3 (.int .i64) (.tmp 20) (.const (.int .i64 0)), (some (18, false))⟩,
    ⟨(some 22), .pick (.tmp 18) (.const (.bool true)) (.tmp 21), none⟩,
    ⟨(some 12), .mov (.tmp 22), none⟩])
  (.cond (.tmp 12)
  (.seq (.region [⟨(some 23), .call 15 [(.const (.int .i64 2))], none⟩,
    ⟨none, .store 5 (.tmp 6) (.tmp 23), none⟩])
  .ret)
  (.seq (.region [⟨(some 25), .mov (.tmp 7), none⟩,
    ⟨(some 26), .bin .eql 3 (.int .i64) (.tmp 25) (.const (.int .i64 0)), none⟩,
    ⟨(some 24), .mov (.tmp 26), none⟩])
  (.cond (.tmp 24)
  (.seq (.region [⟨(some 27), .build [(.int .i64 0), (.int .i64 0), (.int .i64 0), (.slice none 0 0), (.slice none 0 0)] [], none⟩,
    ⟨none, .store 5 (.tmp 6) (.tmp 27), none⟩])
  .ret)
  (.seq (.region [⟨(some 29), .mov (.tmp 7), none⟩,
    ⟨(some 30), .bin .gtr 3 (.int .i64) (.tmp 29) (.const (.int .i64 65536)), none⟩,
    ⟨(some 31), .mov (.tmp 30), none⟩,
    ⟨(some 32), .addOff 4 (.tmp 5), (some (31, false))⟩,
    ⟨(some 33), .load1 (.tmp 32), (some (31, false))⟩,
    ⟨(some 34), .mov (.tmp 7), (some (31, false))⟩,
    ⟨(some 35), .bin .sub 3 (.int .i64) (.const (.int .i64 65536)) (.tmp 34), (some (31, false))⟩,
    ⟨(some 36), .bin .gtr 3 (.int .i64) (.tmp 33) (.tmp 35), (some (31, false))⟩,
    ⟨(some 37), .pick (.tmp 31) (.const (.bool true)) (.tmp 36), none⟩,
    ⟨(some 28), .mov (.tmp 37), none⟩])
  (.cond (.tmp 28)
  (.seq (.region [⟨(some 38), .call 15 [(.const (.int .i64 3))], none⟩,
    ⟨none, .store 5 (.tmp 6) (.tmp 38), none⟩])
  .ret)
  .skip)))))))
  (.seq (.draw [⟨(some 39), .mov (.tmp 0), none⟩,
    ⟨(some 40), .nilCheck (.tmp 39), none⟩,
    ⟨(some 41), .addOff 2 (.tmp 40), none⟩,
    ⟨(some 42), .load1 (.tmp 41), none⟩,
    ⟨(some 43), .mov (.tmp 1), none⟩,
    ⟨(some 44), .nilCheck (.tmp 43), none⟩,
    ⟨(some 45), .addOff 0 (.tmp 44), none⟩,
    ⟨(some 46), .load1 (.tmp 45), none⟩,
    ⟨(some 47), .look .string (.pointer none) (.tmp 42) (.tmp 46) false, none⟩,
    ⟨(some 8), .mov (.tmp 47), none⟩] [0, 1, 3, 7, 0, 16, 48, 112, 255, 511] [0, 1, 2, 3, 4, 5, 6, 7, 8, 9])
  (.seq (.seq (.draw [⟨(some 48), .mov (.tmp 0), none⟩,
    ⟨(some 49), .mov (.tmp 8), none⟩,
    ⟨(some 50), .mov (.tmp 8), none⟩,
    ⟨(some 51), .call 24 [(.tmp 50)], none⟩,
    ⟨(some 52), .addOff 4 (.tmp 5), none⟩,
    ⟨(some 53), .load1 (.tmp 52), none⟩,
    ⟨(some 54), .mov (.tmp 7), none⟩,
    ⟨(some 55), .bin .add 3 (.int .i64) (.tmp 53) (.tmp 54), none⟩,
    ⟨(some 56), .max2 (.tmp 51) (.tmp 55), none⟩,
    ⟨(some 57), .call 58 [(.tmp 48), (.tmp 49), (.tmp 56)], none⟩,
    ⟨(some 58), .un .not (.tmp 57), none⟩] [0, 0, 0, 4, 0, 16, 0, 112, 252, 511, 1023] [0, 1, 2, 4, 5, 6, 7, 3, 8, 9, 10])
  (.cond (.tmp 58)
  (.seq (.region [⟨(some 59), .call 15 [(.const (.int .i64 7))], none⟩,
    ⟨none, .store 5 (.tmp 6) (.tmp 59), none⟩])
  .ret)
  .skip))
  (.seq (.draw [⟨(some 60), .mov (.tmp 8), none⟩,
    ⟨(some 61), .nilCheck (.tmp 60), none⟩,
    ⟨(some 62), .addOff 1 (.tmp 61), none⟩,
    ⟨(some 63), .load1 (.tmp 62), none⟩,
    ⟨(some 64), .addOff 4 (.tmp 5), none⟩,
    ⟨(some 65), .load1 (.tmp 64), none⟩,
    ⟨(some 66), .sliceSl 1 (.tmp 63) (some (.tmp 65)) none none, none⟩,
    ⟨(some 67), .addOff 8 (.tmp 5), none⟩,
    ⟨(some 68), .load1 (.tmp 67), none⟩,
    ⟨(some 69), .copy 1 (.tmp 66) (.tmp 68), none⟩] [0, 1, 3, 7, 0, 16, 63, 0, 128, 511] [0, 1, 2, 3, 4, 5, 6, 7, 8, 9])
  (.seq (.region [⟨(some 70), .mov (.tmp 7), none⟩,
    ⟨(some 71), .build [(.int .i64 0), (.int .i64 0), (.int .i64 0), (.slice none 0 0), (.slice none 0 0)] [(2, 1, (.tmp 70))], none⟩,
    ⟨none, .store 5 (.tmp 6) (.tmp 71), none⟩])
  .ret)))))))⟩

/-- (*valise/overlay.FS).shut -/
noncomputable def qf39 : RFunc := ⟨11, [.cellN 6 5],
  (.seq (.region [⟨(some 5), .box 24 9 (.tmp 2), none⟩,
    ⟨(some 6), .new [(.int .i64 0), (.int .i64 0), (.int .i64 0), (.slice none 0 0), (.slice none 0 0)] 41 5, none⟩])
  (.seq (.region [⟨(some 7), .mov (.tmp 1), none⟩,
    ⟨(some 8), .build [(.string ⟨#[]⟩), (.bool false)] [], none⟩,
    ⟨(some 9), .nilCheck (.tmp 7), none⟩,
    ⟨none, .store 2 (.tmp 9) (.tmp 8), none⟩])
  (.seq (.region [⟨(some 10), .build [(.int .i64 0), (.int .i64 0), (.int .i64 0), (.slice none 0 0), (.slice none 0 0)] [], none⟩,
    ⟨none, .store 5 (.tmp 6) (.tmp 10), none⟩])
  .ret)))⟩

/-- (*valise/overlay.FS).remove -/
noncomputable def qf41 : RFunc := ⟨51, [.cellN 6 5],
  (.seq (.region [⟨(some 5), .box 24 9 (.tmp 2), none⟩,
    ⟨(some 6), .new [(.int .i64 0), (.int .i64 0), (.int .i64 0), (.slice none 0 0), (.slice none 0 0)] 41 5, none⟩])
  (.seq (.seq (.region [⟨(some 9), .mov (.tmp 1), none⟩,
    ⟨(some 10), .bin .neq 9 .string (.tmp 9) (.const (.string ⟨#[]⟩)), none⟩,
    ⟨(some 11), .mov (.tmp 10), none⟩,
    ⟨(some 12), .mov (.tmp 0), (some (11, true))⟩,
    ⟨(some 13), .mov (.tmp 1), (some (11, true))⟩,
    ⟨(some 14), .call 60 [(.tmp 12), (.tmp 13)], (some (11, true))⟩,
    ⟨(some 15), .pick (.tmp 11) (.tmp 14) (.const (.bool false)), none⟩])
  (.cond (.tmp 15)
  (.seq (.region [⟨(some 16), .call 15 [(.const (.int .i64 18))], none⟩,
    ⟨none, .store 5 (.tmp 6) (.tmp 16), none⟩])
  .ret)
  .skip))
  (.seq (.region [⟨(some 17), .mov (.tmp 0), none⟩,
    ⟨(some 18), .nilCheck (.tmp 17), none⟩,
    ⟨(some 19), .addOff 1 (.tmp 18), none⟩,
    ⟨(some 20), .load1 (.tmp 19), none⟩,
    ⟨(some 21), .mov (.tmp 1), none⟩,
    ⟨(some 22), .call 61 [(.tmp 20), (.tmp 21)], none⟩,
    ⟨(some 7), .mov (.tmp 22), none⟩])
  (.seq (.seq (.region [⟨(some 23), .mov (.tmp 0), none⟩,
    ⟨(some 24), .nilCheck (.tmp 23), none⟩,
    ⟨(some 25), .addOff 2 (.tmp 24), none⟩,
    ⟨(some 26), .load1 (.tmp 25), none⟩,
    ⟨(some 27), .mov (.tmp 1), none⟩,
    ⟨(some 28), .look .string (.pointer none) (.tmp 26) (.tmp 27) false, none⟩,
    ⟨(some 8), .mov (.tmp 28), none⟩])
  (.seq (.region [⟨(some 29), .mov (.tmp 7), none⟩,
    ⟨(some 30), .bin .eql 28 (.int .i64) (.tmp 29) (.const (.int .i64 0)), none⟩,
    ⟨(some 31), .mov (.tmp 30), none⟩,
    ⟨(some 32), .mov (.tmp 8), (some (31, true))⟩,
    ⟨(some 33), .bin .neq 61 (.pointer 63) (.tmp 32) (.const (.pointer none)), (some (31, true))⟩,
    ⟨(some 34), .pick (.tmp 31) (.tmp 33) (.const (.bool false)), none⟩])
  (.cond (.tmp 34)
  (.seq (.draw [⟨(some 35), .mov (.tmp 0), none⟩,
    ⟨(some 36), .nilCheck (.tmp 35), none⟩,
    ⟨(some 37), .addOff 259 (.tmp 36), none⟩,
    ⟨(some 38), .load1 (.tmp 37), none⟩,
    ⟨(some 39), .mov (.tmp 8), none⟩,
    ⟨(some 40), .call 24 [(.tmp 39)], none⟩,
    ⟨(some 41), .bin .sub 3 (.int .i64) (.tmp 38) (.tmp 40), none⟩,
    ⟨(some 42), .nilCheck (.tmp 35), none⟩,
    ⟨(some 43), .addOff 259 (.tmp 42), none⟩,
    ⟨none, .store 1 (.tmp 43) (.tmp 41), none⟩] [0, 1, 3, 7, 0, 16, 63, 127, 255, 511] [0, 1, 2, 3, 4, 5, 6, 7, 8, 9])
  (.region [⟨(some 44), .mov (.tmp 0), none⟩,
    ⟨(some 45), .nilCheck (.tmp 44), none⟩,
    ⟨(some 46), .addOff 2 (.tmp 45), none⟩,
    ⟨(some 47), .load1 (.tmp 46), none⟩,
    ⟨(some 48), .mov (.tmp 1), none⟩,
    ⟨none, .delete .string (.tmp 47) (.tmp 48), none⟩]))
  .skip)))
  (.seq (.region [⟨(some 49), .mov (.tmp 7), none⟩,
    ⟨(some 50), .call 15 [(.tmp 49)], none⟩,
    ⟨none, .store 5 (.tmp 6) (.tmp 50), none⟩])
  .ret)))))⟩

/-- (*valise/overlay.FS).rename -/
noncomputable def qf42 : RFunc := ⟨108, [.cellN 6 5],
  (.seq (.region [⟨(some 5), .box 24 9 (.tmp 2), none⟩,
    ⟨(some 6), .new [(.int .i64 0), (.int .i64 0), (.int .i64 0), (.slice none 0 0), (.slice none 0 0)] 41 5, none⟩])
  (.seq (.region [⟨(some 17), .addOff 2 (.tmp 5), none⟩,
    ⟨(some 18), .load1 (.tmp 17), none⟩,
    ⟨(some 19), .call 20 [(.tmp 18)], none⟩,
    ⟨(some 16), .mov (.tmp 19), none⟩,
    ⟨(some 20), .ext (.tmp 16) 0, none⟩,
    ⟨(some 21), .ext (.tmp 16) 1, none⟩,
    ⟨(some 7), .mov (.tmp 20), none⟩,
    ⟨(some 8), .mov (.tmp 21), none⟩])
  (.seq (.seq (.region [⟨(some 22), .mov (.tmp 8), none⟩,
    ⟨(some 23), .bin .neq 28 (.int .i64) (.tmp 22) (.const (.int .i64 0)), none⟩])
  (.cond (.tmp 23)
  (.seq (.region [⟨(some 24), .mov (.tmp 8), none⟩,
    ⟨(some 25), .call 15 [(.tmp 24)], none⟩,
    ⟨none, .store 5 (.tmp 6) (.tmp 25), none⟩])
  .ret)
  .skip))
  (.seq (.seq (.region [⟨(some 26), .mov (.tmp 0), none⟩,
    ⟨(some 27), .nilCheck (.tmp 26), none⟩,
    ⟨(some 28), .addOff 1 (.tmp 27), none⟩,
    ⟨(some 29), .load1 (.tmp 28), none⟩,
    ⟨(some 30), .mov (.tmp 1), none⟩,
    ⟨(some 31), .mov (.tmp 7), none⟩,
    ⟨(some 32), .call 62 [(.tmp 29), (.tmp 30), (.tmp 31)], none⟩,
    ⟨(some 9), .mov (.tmp 32), none⟩])
  (.seq (.region [⟨(some 33), .mov (.tmp 9), none⟩,
    ⟨(some 34), .bin .neq 28 (.int .i64) (.tmp 33) (.const (.int .i64 0)), none⟩,
    ⟨(some 35), .mov (.tmp 34), none⟩,
    ⟨(some 36), .mov (.tmp 1), (some (35, false))⟩,
    ⟨(some 37), .mov (.tmp 7), (some (35, false))⟩,
    ⟨(some 38), .bin .eql 9 .string (.tmp 36) (.tmp 37), (some (35, false))⟩,
    ⟨(some 39), .pick (.tmp 35) (.const (.bool true)) (.tmp 38), none⟩])
  (.cond (.tmp 39)
  (.seq (.region [⟨(some 40), .mov (.tmp 9), none⟩,
    ⟨(some 41), .call 15 [(.tmp 40)], none⟩,
    ⟨none, .store 5 (.tmp 6) (.tmp 41), none⟩])
  .ret)
  .skip)))
  (.seq (.region [⟨(some 42), .mkmap, none⟩,
    ⟨(some 10), .mov (.tmp 42), none⟩])
  (.seq (.seq (.region [⟨(some 43), .mov (.tmp 0), none⟩,
    ⟨(some 44), .nilCheck (.tmp 43), none⟩,
    ⟨(some 45), .addOff 2 (.tmp 44), none⟩,
    ⟨(some 46), .load1 (.tmp 45), none⟩,
    ⟨(some 47), .rangeMap (.tmp 46), none⟩])
  (.block 0
  (.loop
  (.seq (.region [⟨(some 48), .next (.tmp 47) false, none⟩,
    ⟨(some 49), .ext (.tmp 48) 0, none⟩])
  (.seq (.cond (.tmp 49)
  .skip
  (.exit 0))
  (.block 1
  (.seq (.region [⟨(some 50), .entry (.tmp 47), none⟩,
    ⟨(some 51), .ext (.tmp 50) 0, none⟩,
    ⟨(some 52), .ext (.tmp 50) 1, none⟩,
    ⟨(some 11), .mov (.tmp 51), none⟩,
    ⟨(some 12), .mov (.tmp 52), none⟩])
  (.seq (.seq (.region [⟨(some 53), .mov (.tmp 11), none⟩,
    ⟨(some 54), .mov (.tmp 1), none⟩,
    ⟨(some 55), .call 63 [(.tmp 53), (.tmp 54)], none⟩])
  (.cond (.tmp 55)
  (.region [⟨(some 56), .mov (.tmp 7), none⟩,
    ⟨(some 57), .mov (.tmp 11), none⟩,
    ⟨(some 58), .mov (.tmp 1), none⟩,
    ⟨(some 59), .len .string (.tmp 58), none⟩,
    ⟨(some 60), .sliceStr (.tmp 57) (some (.tmp 59)) none, none⟩,
    ⟨(some 61), .bin .add 9 .string (.tmp 56) (.tmp 60), none⟩,
    ⟨(some 11), .mov (.tmp 61), none⟩])
  .skip))
  (.region [⟨(some 62), .mov (.tmp 10), none⟩,
    ⟨(some 63), .mov (.tmp 11), none⟩,
    ⟨(some 64), .mov (.tmp 12), none⟩,
    ⟨none, .mput .string (.tmp 62) (.tmp 63) (.tmp 64), none⟩])))))))))
  (.seq (.region [⟨(some 65), .mov (.tmp 0), none⟩,
    ⟨(some 66), .mov (.tmp 10), none⟩,
    ⟨(some 67), .nilCheck (.tmp 65), none⟩,
    ⟨(some 68), .addOff 2 (.tmp 67), none⟩,
    ⟨none, .store 1 (.tmp 68) (.tmp 66), none⟩])
  (.seq (.seq (.region [⟨(some 69), .mov (.const (.int .i64 0)), none⟩])
  (.block 2
  (.loop
  (.seq (.region [⟨(some 70), .bin .lss 3 (.int .i64) (.tmp 69) (.const (.int .i64 8)), none⟩])
  (.seq (.cond (.tmp 70)
  .skip
  (.exit 2))
  (.seq (.block 3
  (.seq (.region [⟨(some 71), .mov (.tmp 69), none⟩,
    ⟨(some 13), .mov (.tmp 71), none⟩])
  (.seq (.region [⟨(some 72), .mov (.tmp 0), none⟩,
    ⟨(some 73), .mov (.tmp 13), none⟩,
    ⟨(some 74), .call 25 [(.tmp 72), (.tmp 73)], none⟩,
    ⟨(some 75), .len (.slice 34) (.tmp 74), none⟩,
    ⟨(some 76), .mov (.const (.int .i64 0)), none⟩])
  (.block 4
  (.loop
  (.seq (.region [⟨(some 77), .bin .lss 3 (.int .i64) (.tmp 76) (.tmp 75), none⟩])
  (.seq (.cond (.tmp 77)
  .skip
  (.exit 4))
  (.seq (.block 5
  (.seq (.region [⟨(some 78), .mov (.tmp 76), none⟩,
    ⟨(some 79), .idxS 2 (.tmp 74) (.tmp 76), none⟩,
    ⟨(some 80), .loadN 2 (.tmp 79), none⟩,
    ⟨(some 15), .new [(.string ⟨#[]⟩), (.bool false)] 34 2, none⟩,
    ⟨(some 14), .mov (.tmp 78), none⟩,
    ⟨none, .store 2 (.tmp 15) (.tmp 80), none⟩])
  (.seq (.region [⟨(some 81), .addOff 0 (.tmp 15), none⟩,
    ⟨(some 82), .load1 (.tmp 81), none⟩,
    ⟨(some 83), .bin .neq 9 .string (.tmp 82) (.const (.string ⟨#[]⟩)), none⟩,
    ⟨(some 84), .mov (.tmp 83), none⟩,
    ⟨(some 85), .addOff 0 (.tmp 15), (some (84, true))⟩,
    ⟨(some 86), .load1 (.tmp 85), (some (84, true))⟩,
    ⟨(some 87), .mov (.tmp 1), (some (84, true))⟩,
    ⟨(some 88), .call 63 [(.tmp 86), (.tmp 87)], (some (84, true))⟩,
    ⟨(some 89), .pick (.tmp 84) (.tmp 88) (.const (.bool false)), none⟩])
  (.cond (.tmp 89)
  (.draw [⟨(some 90), .mov (.tmp 0), none⟩,
    ⟨(some 91), .mov (.tmp 13), none⟩,
    ⟨(some 92), .mov (.tmp 14), none⟩,
    ⟨(some 93), .mov (.tmp 7), none⟩,
    ⟨(some 94), .addOff 0 (.tmp 15), none⟩,
    ⟨(some 95), .load1 (.tmp 94), none⟩,
    ⟨(some 96), .mov (.tmp 1), none⟩,
    ⟨(some 97), .len .string (.tmp 96), none⟩,
    ⟨(some 98), .sliceStr (.tmp 95) (some (.tmp 97)) none, none⟩,
    ⟨(some 99), .bin .add 9 .string (.tmp 93) (.tmp 98), none⟩,
    ⟨(some 100), .nilCheck (.tmp 90), none⟩,
    ⟨(some 101), .addOff 3 (.tmp 100), none⟩,
    ⟨(some 102), .idxA 8 32 (.tmp 101) (.tmp 91), none⟩,
    ⟨(some 103), .idxA 16 2 (.tmp 102) (.tmp 92), none⟩,
    ⟨(some 104), .addOff 0 (.tmp 103), none⟩,
    ⟨none, .store 1 (.tmp 104) (.tmp 99), none⟩] [0, 0, 0, 0, 0, 16, 0, 64, 240, 504, 1, 1025, 3075, 8191, 16383, 32767] [0, 1, 2, 3, 4, 5, 6, 7, 8, 9, 10, 11, 12, 13, 14, 15])
  .skip))))
  (.region [⟨(some 105), .bin .add 3 (.int .i64) (.tmp 76) (.const (.int .i64 1)), none⟩,
    ⟨(some 76), .mov (.tmp 105), none⟩])))))))))
  (.region [⟨(some 106), .bin .add 3 (.int .i64) (.tmp 69) (.const (.int .i64 1)), none⟩,
    ⟨(some 69), .mov (.tmp 106), none⟩])))))))
  (.seq (.region [⟨(some 107), .build [(.int .i64 0), (.int .i64 0), (.int .i64 0), (.slice none 0 0), (.slice none 0 0)] [], none⟩,
    ⟨none, .store 5 (.tmp 6) (.tmp 107), none⟩])
  .ret)))))))))⟩

/-- valise/path.pieces -/
noncomputable def qf44 : RFunc := ⟨4, [.tmp 2],
  (.seq (.region [⟨(some 1), .box 9 1 (.tmp 0), none⟩,
    ⟨(some 2), .mov (.const .nilFunc), none⟩])
  (.seq (.region [⟨(some 3), .mkfunc (.func 65) [] [(.tmp 1)], none⟩,
    ⟨(some 2), .mov (.tmp 3), none⟩])
  .ret))⟩

/-- valise/path.Join -/
noncomputable def qf45 : RFunc := ⟨26, [.tmp 2, .tmp 3],
  (.seq (.region [⟨(some 2), .mov (.const (.string ⟨#[]⟩)), none⟩,
    ⟨(some 3), .mov (.const (.int .i64 0)), none⟩])
  (.seq (.seq (.region [⟨(some 7), .mov (.tmp 0), none⟩,
    ⟨(some 8), .len (.slice 9) (.tmp 7), none⟩,
    ⟨(some 9), .bin .gtr 3 (.int .i64) (.tmp 8) (.const (.int .i64 8)), none⟩])
  (.cond (.tmp 9)
  (.seq (.region [⟨(some 2), .mov (.const (.string ⟨#[]⟩)), none⟩,
    ⟨(some 3), .mov (.const (.int .i64 8)), none⟩])
  .ret)
  .skip))
  (.seq (.seq (.region [⟨(some 10), .mov (.tmp 0), none⟩,
    ⟨(some 11), .len (.slice 9) (.tmp 10), none⟩,
    ⟨(some 12), .mov (.const (.int .i64 0)), none⟩])
  (.block 0
  (.loop
  (.seq (.region [⟨(some 13), .bin .lss 3 (.int .i64) (.tmp 12) (.tmp 11), none⟩])
  (.seq (.cond (.tmp 13)
  .skip
  (.exit 0))
  (.seq (.block 1
  (.seq (.region [⟨(some 14), .idxS 1 (.tmp 10) (.tmp 12), none⟩,
    ⟨(some 15), .load1 (.tmp 14), none⟩,
    ⟨(some 5), .mov (.tmp 15), none⟩])
  (.seq (.region [⟨(some 16), .mov (.tmp 5), none⟩,
    ⟨(some 17), .call 67 [(.tmp 16)], none⟩,
    ⟨(some 18), .bin .neq 28 (.int .i64) (.tmp 17) (.const (.int .i64 0)), none⟩])
  (.cond (.tmp 18)
  (.seq (.region [⟨(some 2), .mov (.const (.string ⟨#[]⟩)), none⟩,
    ⟨(some 3), .mov (.const (.int .i64 8)), none⟩])
  .ret)
  .skip))))
  (.region [⟨(some 19), .bin .add 3 (.int .i64) (.tmp 12) (.const (.int .i64 1)), none⟩,
    ⟨(some 12), .mov (.tmp 19), none⟩])))))))
  (.seq (.region [⟨(some 20), .mov (.tmp 0), none⟩,
    ⟨(some 21), .call 68 [(.tmp 20), (.const (.string ⟨#[47]⟩))], none⟩,
    ⟨(some 6), .mov (.tmp 21), none⟩])
  (.seq (.seq (.region [⟨(some 22), .mov (.tmp 6), none⟩,
    ⟨(some 23), .len .string (.tmp 22), none⟩,
    ⟨(some 24), .bin .gtr 3 (.int .i64) (.tmp 23) (.const (.int .i64 120)), none⟩])
  (.cond (.tmp 24)
  (.seq (.region [⟨(some 2), .mov (.const (.string ⟨#[]⟩)), none⟩,
    ⟨(some 3), .mov (.const (.int .i64 8)), none⟩])
  .ret)
  .skip))
  (.seq (.region [⟨(some 25), .mov (.tmp 6), none⟩,
    ⟨(some 2), .mov (.tmp 25), none⟩,
    ⟨(some 3), .mov (.const (.int .i64 0)), none⟩])
  .ret))))))⟩

/-- (*valise/tree.Tree).made -/
noncomputable def qf46 : RFunc := ⟨12, [.tmp 2],
  (.seq (.region [⟨(some 2), .mov (.const (.bool false)), none⟩])
  (.seq (.region [⟨(some 3), .mov (.tmp 0), none⟩,
    ⟨(some 4), .bin .neq 31 (.pointer 89) (.tmp 3) (.const (.pointer none)), none⟩,
    ⟨(some 5), .mov (.tmp 4), none⟩,
    ⟨(some 6), .mov (.tmp 0), (some (5, true))⟩,
    ⟨(some 7), .nilCheck (.tmp 6), (some (5, true))⟩,
    ⟨(some 8), .addOff 0 (.tmp 7), (some (5, true))⟩,
    ⟨(some 9), .load1 (.tmp 8), (some (5, true))⟩,
    ⟨(some 10), .bin .neq 87 (.pointer 116) (.tmp 9) (.const (.pointer none)), (some (5, true))⟩,
    ⟨(some 11), .pick (.tmp 5) (.tmp 10) (.const (.bool false)), none⟩,
    ⟨(some 2), .mov (.tmp 11), none⟩])
  .ret))⟩

/-- valise/tree.walk -/
noncomputable def qf47 : RFunc := ⟨27, [],
  (.seq (.region [⟨(some 3), .box 9 1 (.tmp 0), none⟩,
    ⟨(some 5), .box 100 1 (.tmp 2), none⟩])
  (.seq (.region [⟨(some 8), .mov (.tmp 1), none⟩,
    ⟨(some 9), .nilCheck (.tmp 8), none⟩,
    ⟨(some 10), .addOff 1 (.tmp 9), none⟩,
    ⟨(some 11), .loadN 1 (.tmp 10), none⟩,
    ⟨(some 12), .call 69 [(.tmp 11)], none⟩])
  (.block 0
  (.rangeFunc (.tmp 12) [13, 14]
  (.seq (.region [⟨(some 6), .mov (.tmp 13), none⟩])
  (.region [⟨(some 7), .mov (.tmp 14), none⟩]))
  (.block 1
  (.seq (.draw [⟨(some 15), .load1 (.tmp 5), none⟩,
    ⟨(some 16), .load1 (.tmp 3), none⟩,
    ⟨(some 17), .mov (.tmp 6), none⟩,
    ⟨(some 18), .call 70 [(.tmp 16), (.tmp 17)], none⟩,
    ⟨(some 19), .mov (.tmp 7), none⟩,
    ⟨(some 20), .callv (.tmp 15) [(.tmp 18), (.tmp 19)], none⟩] [0, 0, 0, 6, 0, 31] [0, 1, 2, 4, 3, 5])
  (.draw [⟨(some 21), .load1 (.tmp 3), none⟩,
    ⟨(some 22), .mov (.tmp 6), none⟩,
    ⟨(some 23), .call 70 [(.tmp 21), (.tmp 22)], none⟩,
    ⟨(some 24), .mov (.tmp 7), none⟩,
    ⟨(some 25), .load1 (.tmp 5), none⟩,
    ⟨(some 26), .call 47 [(.tmp 23), (.tmp 24), (.tmp 25)], none⟩] [0, 0, 3, 0, 0, 31] [0, 1, 3, 4, 2, 5])))))))⟩

/-- (*valise/tree.Tree).Files$1 -/
noncomputable def qf48 : RFunc := ⟨11, [],
  (.draw [⟨(some 5), .load1 (.tmp 2), none⟩,
    ⟨(some 6), .mov (.tmp 0), none⟩,
    ⟨(some 7), .mov (.tmp 1), none⟩,
    ⟨(some 8), .call 49 [(.tmp 6), (.tmp 7)], none⟩,
    ⟨(some 9), .buildSlice 56 3 1 [(.string ⟨#[]⟩), (.bool false), (.slice none 0 0)] [(0, 3, (.tmp 8))], none⟩,
    ⟨(some 10), .append 56 3 48 [(.string ⟨#[]⟩), (.bool false), (.slice none 0 0)] (.tmp 5) (.tmp 9), none⟩,
    ⟨none, .store 1 (.tmp 2) (.tmp 10), none⟩] [0, 0, 0, 6, 14, 31, 63] [0, 1, 2, 3, 4, 5, 6])⟩

/-- valise/tree.file -/
noncomputable def qf49 : RFunc := ⟨16, [.cellN 4 3],
  (.seq (.region [⟨(some 4), .new [(.string ⟨#[]⟩), (.bool false), (.slice none 0 0)] 56 3, none⟩])
  (.seq (.draw [⟨(some 5), .mov (.tmp 0), none⟩,
    ⟨(some 6), .mov (.tmp 1), none⟩,
    ⟨(some 7), .nilCheck (.tmp 6), none⟩,
    ⟨(some 8), .addOff 0 (.tmp 7), none⟩,
    ⟨(some 9), .load1 (.tmp 8), none⟩,
    ⟨(some 10), .mov (.tmp 1), none⟩,
    ⟨(some 11), .nilCheck (.tmp 10), none⟩,
    ⟨(some 12), .addOff 2 (.tmp 11), none⟩,
    ⟨(some 13), .load1 (.tmp 12), none⟩,
    ⟨(some 14), .call 50 [(.tmp 13)], none⟩,
    ⟨(some 15), .build [(.string ⟨#[]⟩), (.bool false), (.slice none 0 0)] [(0, 1, (.tmp 5)), (1, 1, (.tmp 9)), (2, 1, (.tmp 14))], none⟩,
    ⟨none, .store 3 (.tmp 4) (.tmp 15), none⟩] [0, 0, 2, 6, 14, 0, 32, 96, 224, 480, 1023, 2047] [0, 1, 2, 3, 4, 5, 6, 7, 8, 9, 10, 11])
  .ret))⟩

/-- slices.Clone[[]byte,byte] -/
noncomputable def qf50 : RFunc := ⟨8, [.tmp 2],
  (.seq (.region [⟨(some 2), .mov (.const (.slice none 0 0)), none⟩])
  (.seq (.seq (.region [⟨(some 3), .mov (.tmp 0), none⟩,
    ⟨(some 4), .bin .eql 22 (.slice 5) (.tmp 3) (.const (.slice none 0 0)), none⟩])
  (.cond (.tmp 4)
  (.seq (.region [⟨(some 2), .mov (.const (.slice none 0 0)), none⟩])
  .ret)
  .skip))
  (.seq (.region [⟨(some 5), .buildSlice 5 1 0 [(.int .u8 0)] [], none⟩,
    ⟨(some 6), .mov (.tmp 0), none⟩,
    ⟨(some 7), .append 5 1 1 [(.int .u8 0)] (.tmp 5) (.tmp 6), none⟩,
    ⟨(some 2), .mov (.tmp 7), none⟩])
  .ret)))⟩

/-- (*valise/overlay.FS).blocks -/
noncomputable def qf51 : RFunc := ⟨10, [.tmp 8],
  (.seq (.region [⟨(some 4), .box 27 1 (.tmp 0), none⟩,
    ⟨(some 5), .box 61 1 (.tmp 1), none⟩,
    ⟨(some 6), .box 3 1 (.tmp 2), none⟩,
    ⟨(some 7), .box 3 1 (.tmp 3), none⟩,
    ⟨(some 8), .mov (.const .nilFunc), none⟩])
  (.seq (.region [⟨(some 9), .mkfunc (.func 71) [] [(.tmp 6), (.tmp 7), (.tmp 4), (.tmp 5)], none⟩,
    ⟨(some 8), .mov (.tmp 9), none⟩])
  .ret))⟩

/-- valise/valiselaw19.metas -/
noncomputable def qf52 : RFunc := ⟨32, [.tmp 2],
  (.seq (.region [⟨(some 2), .mov (.const (.slice none 0 0)), none⟩])
  (.seq (.region [⟨(some 3), .mov (.const (.slice none 0 0)), none⟩])
  (.seq (.seq (.region [⟨(some 4), .mov (.const (.int .i64 0)), none⟩])
  (.block 0
  (.loop
  (.seq (.seq (.region [⟨(some 5), .mov (.tmp 4), none⟩,
    ⟨(some 6), .mov (.tmp 0), none⟩,
    ⟨(some 7), .len (.slice 56) (.tmp 6), none⟩,
    ⟨(some 8), .bin .lss 3 (.int .i64) (.tmp 5) (.tmp 7), none⟩])
  (.cond (.tmp 8)
  .skip
  (.exit 0)))
  (.seq (.block 1
  (.draw [⟨(some 11), .mov (.tmp 3), none⟩,
    ⟨(some 12), .mov (.tmp 0), none⟩,
    ⟨(some 13), .mov (.tmp 4), none⟩,
    ⟨(some 14), .idxS 3 (.tmp 12) (.tmp 13), none⟩,
    ⟨(some 15), .addOff 0 (.tmp 14), none⟩,
    ⟨(some 16), .load1 (.tmp 15), none⟩,
    ⟨(some 17), .mov (.tmp 0), none⟩,
    ⟨(some 18), .mov (.tmp 4), none⟩,
    ⟨(some 19), .idxS 3 (.tmp 17) (.tmp 18), none⟩,
    ⟨(some 20), .addOff 1 (.tmp 19), none⟩,
    ⟨(some 21), .load1 (.tmp 20), none⟩,
    ⟨(some 22), .mov (.tmp 0), none⟩,
    ⟨(some 23), .mov (.tmp 4), none⟩,
    ⟨(some 24), .idxS 3 (.tmp 22) (.tmp 23), none⟩,
    ⟨(some 25), .addOff 2 (.tmp 24), none⟩,
    ⟨(some 26), .load1 (.tmp 25), none⟩,
    ⟨(some 27), .len (.slice 5) (.tmp 26), none⟩,
    ⟨(some 28), .build [(.string ⟨#[]⟩), (.bool false), (.int .i64 0)] [(0, 1, (.tmp 16)), (1, 1, (.tmp 21)), (2, 1, (.tmp 27))], none⟩,
    ⟨(some 29), .buildSlice 54 3 1 [(.string ⟨#[]⟩), (.bool false), (.int .i64 0)] [(0, 3, (.tmp 28))], none⟩,
    ⟨(some 30), .append 54 3 32 [(.string ⟨#[]⟩), (.bool false), (.int .i64 0)] (.tmp 11) (.tmp 29), none⟩,
    ⟨(some 3), .mov (.tmp 30), none⟩] [0, 0, 0, 6, 14, 30, 0, 0, 192, 448, 960, 0, 0, 6144, 14336, 30720, 63488, 131070, 262142, 524287, 1048575] [0, 1, 2, 3, 4, 5, 6, 7, 8, 9, 10, 11, 12, 13, 14, 15, 16, 17, 18, 19, 20]))
  (.region [⟨(some 9), .mov (.tmp 4), none⟩,
    ⟨(some 10), .bin .add 3 (.int .i64) (.tmp 9) (.const (.int .i64 1)), none⟩,
    ⟨(some 4), .mov (.tmp 10), none⟩]))))))
  (.seq (.region [⟨(some 31), .mov (.tmp 3), none⟩,
    ⟨(some 2), .mov (.tmp 31), none⟩])
  .ret))))⟩

/-- valise/path.Split -/
noncomputable def qf53 : RFunc := ⟨27, [.cell1 2, .cell1 3],
  (.seq (.region [⟨(some 2), .new [(.slice none 0 0)] 39 1, none⟩,
    ⟨(some 3), .new [(.int .i64 0)] 28 1, none⟩])
  (.seq (.seq (.region [⟨(some 6), .mov (.tmp 0), none⟩,
    ⟨(some 7), .bin .eql 9 .string (.tmp 6) (.const (.string ⟨#[]⟩)), none⟩])
  (.cond (.tmp 7)
  (.seq (.region [⟨none, .store 1 (.tmp 2) (.const (.slice none 0 0)), none⟩,
    ⟨none, .store 1 (.tmp 3) (.const (.int .i64 0)), none⟩])
  .ret)
  .skip))
  (.seq (.seq (.region [⟨(some 8), .mov (.tmp 0), none⟩,
    ⟨(some 9), .len .string (.tmp 8), none⟩,
    ⟨(some 10), .bin .gtr 3 (.int .i64) (.tmp 9) (.const (.int .i64 120)), none⟩])
  (.cond (.tmp 10)
  (.seq (.region [⟨none, .store 1 (.tmp 2) (.const (.slice none 0 0)), none⟩,
    ⟨none, .store 1 (.tmp 3) (.const (.int .i64 8)), none⟩])
  .ret)
  .skip))
  (.seq (.region [⟨(some 4), .new [(.slice none 0 0)] 39 1, none⟩])
  (.seq (.seq (.region [⟨(some 11), .mov (.tmp 0), none⟩,
    ⟨(some 12), .call 44 [(.tmp 11)], none⟩])
  (.block 0
  (.rangeFunc (.tmp 12) [13]
  (.region [⟨(some 5), .mov (.tmp 13), none⟩])
  (.block 1
  (.seq (.seq (.region [⟨(some 14), .mov (.tmp 5), none⟩,
    ⟨(some 15), .call 67 [(.tmp 14)], none⟩,
    ⟨(some 16), .bin .neq 28 (.int .i64) (.tmp 15) (.const (.int .i64 0)), none⟩,
    ⟨(some 17), .mov (.tmp 16), none⟩,
    ⟨(some 18), .load1 (.tmp 4), (some (17, false))⟩,
    ⟨(some 19), .len (.slice 9) (.tmp 18), (some (17, false))⟩,
    ⟨(some 20), .bin .eql 3 (.int .i64) (.tmp 19) (.const (.int .i64 8)), (some (17, false))⟩,
    ⟨(some 21), .pick (.tmp 17) (.const (.bool true)) (.tmp 20), none⟩])
  (.cond (.tmp 21)
  (.seq (.region [⟨none, .store 1 (.tmp 2) (.const (.slice none 0 0)), none⟩,
    ⟨none, .store 1 (.tmp 3) (.const (.int .i64 8)), none⟩])
  .ret)
  .skip))
  (.region [⟨(some 22), .load1 (.tmp 4), none⟩,
    ⟨(some 23), .mov (.tmp 5), none⟩,
    ⟨(some 24), .buildSlice 9 1 1 [(.string ⟨#[]⟩)] [(0, 1, (.tmp 23))], none⟩,
    ⟨(some 25), .append 9 1 16 [(.string ⟨#[]⟩)] (.tmp 22) (.tmp 24), none⟩,
    ⟨none, .store 1 (.tmp 4) (.tmp 25), none⟩]))))))
  (.seq (.region [⟨(some 26), .load1 (.tmp 4), none⟩,
    ⟨none, .store 1 (.tmp 2) (.tmp 26), none⟩,
    ⟨none, .store 1 (.tmp 3) (.const (.int .i64 0)), none⟩])
  .ret))))))⟩

/-- valise/path.Parent -/
noncomputable def qf54 : RFunc := ⟨30, [.tmp 2, .tmp 3, .tmp 4],
  (.seq (.region [⟨(some 2), .mov (.const (.string ⟨#[]⟩)), none⟩,
    ⟨(some 3), .mov (.const (.string ⟨#[]⟩)), none⟩,
    ⟨(some 4), .mov (.const (.int .i64 0)), none⟩])
  (.seq (.seq (.region [⟨(some 9), .mov (.tmp 0), none⟩,
    ⟨(some 10), .call 53 [(.tmp 9)], none⟩,
    ⟨(some 8), .mov (.tmp 10), none⟩,
    ⟨(some 11), .ext (.tmp 8) 0, none⟩,
    ⟨(some 12), .ext (.tmp 8) 1, none⟩,
    ⟨(some 5), .mov (.tmp 11), none⟩,
    ⟨(some 6), .mov (.tmp 12), none⟩])
  (.seq (.region [⟨(some 13), .mov (.tmp 6), none⟩,
    ⟨(some 14), .bin .neq 28 (.int .i64) (.tmp 13) (.const (.int .i64 0)), none⟩])
  (.cond (.tmp 14)
  (.seq (.region [⟨(some 15), .mov (.tmp 6), none⟩,
    ⟨(some 2), .mov (.const (.string ⟨#[]⟩)), none⟩,
    ⟨(some 3), .mov (.const (.string ⟨#[]⟩)), none⟩,
    ⟨(some 4), .mov (.tmp 15), none⟩])
  .ret)
  .skip)))
  (.seq (.seq (.region [⟨(some 16), .mov (.tmp 0), none⟩,
    ⟨(some 17), .bin .eql 9 .string (.tmp 16) (.const (.string ⟨#[]⟩)), none⟩])
  (.cond (.tmp 17)
  (.seq (.region [⟨(some 2), .mov (.const (.string ⟨#[]⟩)), none⟩,
    ⟨(some 3), .mov (.const (.string ⟨#[]⟩)), none⟩,
    ⟨(some 4), .mov (.const (.int .i64 9)), none⟩])
  .ret)
  .skip))
  (.seq (.region [⟨(some 18), .mov (.tmp 0), none⟩,
    ⟨(some 19), .call 72 [(.tmp 18), (.const (.int .u8 47))], none⟩,
    ⟨(some 7), .mov (.tmp 19), none⟩])
  (.seq (.seq (.region [⟨(some 20), .mov (.tmp 7), none⟩,
    ⟨(some 21), .bin .lss 3 (.int .i64) (.tmp 20) (.const (.int .i64 0)), none⟩])
  (.cond (.tmp 21)
  (.seq (.region [⟨(some 22), .mov (.tmp 0), none⟩,
    ⟨(some 2), .mov (.const (.string ⟨#[]⟩)), none⟩,
    ⟨(some 3), .mov (.tmp 22), none⟩,
    ⟨(some 4), .mov (.const (.int .i64 0)), none⟩])
  .ret)
  .skip))
  (.seq (.draw [⟨(some 23), .mov (.tmp 0), none⟩,
    ⟨(some 24), .mov (.tmp 7), none⟩,
    ⟨(some 25), .sliceStr (.tmp 23) none (some (.tmp 24)), none⟩,
    ⟨(some 26), .mov (.tmp 0), none⟩,
    ⟨(some 27), .mov (.tmp 7), none⟩,
    ⟨(some 28), .bin .add 3 (.int .i64) (.tmp 27) (.const (.int .i64 1)), none⟩,
    ⟨(some 29), .sliceStr (.tmp 26) (some (.tmp 28)) none, none⟩,
    ⟨(some 2), .mov (.tmp 25), none⟩,
    ⟨(some 3), .mov (.tmp 29), none⟩,
    ⟨(some 4), .mov (.const (.int .i64 0)), none⟩] [0, 0, 3, 0, 0, 16, 56, 7, 255, 511] [0, 1, 2, 3, 4, 5, 6, 7, 8, 9])
  .ret))))))⟩

/-- valise/tree.directory -/
noncomputable def qf55 : RFunc := ⟨5, [.tmp 0],
  (.seq (.region [⟨(some 0), .mov (.const (.pointer none)), none⟩])
  (.seq (.region [⟨(some 1), .mkmap, none⟩,
    ⟨(some 2), .build [(.map none)] [(0, 1, (.tmp 1))], none⟩,
    ⟨(some 3), .build [(.bool false), (.map none), (.slice none 0 0)] [(0, 1, (.const (.bool true))), (1, 1, (.tmp 2))], none⟩,
    ⟨(some 4), .box 116 3 (.tmp 3), none⟩,
    ⟨(some 0), .mov (.tmp 4), none⟩])
  .ret))⟩

/-- (*valise/tree.Tree).find -/
noncomputable def qf56 : RFunc := ⟨24, [.tmp 4, .tmp 5],
  (.seq (.region [⟨(some 4), .mov (.const (.pointer none)), none⟩,
    ⟨(some 5), .mov (.const (.int .i64 0)), none⟩])
  (.seq (.seq (.region [⟨(some 8), .mov (.tmp 0), none⟩,
    ⟨(some 9), .call 46 [(.tmp 8)], none⟩,
    ⟨(some 10), .un .not (.tmp 9), none⟩])
  (.cond (.tmp 10)
  (.seq (.region [⟨(some 4), .mov (.const (.pointer none)), none⟩,
    ⟨(some 5), .mov (.const (.int .i64 1)), none⟩])
  .ret)
  .skip))
  (.seq (.region [⟨(some 12), .mov (.tmp 1), none⟩,
    ⟨(some 13), .call 53 [(.tmp 12)], none⟩,
    ⟨(some 11), .mov (.tmp 13), none⟩,
    ⟨(some 14), .ext (.tmp 11) 0, none⟩,
    ⟨(some 15), .ext (.tmp 11) 1, none⟩,
    ⟨(some 6), .mov (.tmp 14), none⟩,
    ⟨(some 7), .mov (.tmp 15), none⟩])
  (.seq (.seq (.region [⟨(some 16), .mov (.tmp 7), none⟩,
    ⟨(some 17), .bin .neq 28 (.int .i64) (.tmp 16) (.const (.int .i64 0)), none⟩])
  (.cond (.tmp 17)
  (.seq (.region [⟨(some 18), .mov (.tmp 7), none⟩,
    ⟨(some 4), .mov (.const (.pointer none)), none⟩,
    ⟨(some 5), .mov (.tmp 18), none⟩])
  .ret)
  .skip))
  (.seq (.region [⟨(some 19), .mov (.tmp 0), none⟩,
    ⟨(some 20), .mov (.tmp 6), none⟩,
    ⟨(some 21), .call 73 [(.tmp 19), (.tmp 20)], none⟩,
    ⟨(some 22), .ext (.tmp 21) 0, none⟩,
    ⟨(some 23), .ext (.tmp 21) 1, none⟩,
    ⟨(some 4), .mov (.tmp 22), none⟩,
    ⟨(some 5), .mov (.tmp 23), none⟩])
  .ret)))))⟩

/-- (*valise/tree.Tree).home -/
noncomputable def qf57 : RFunc := ⟨58, [.tmp 6, .tmp 7, .tmp 8],
  (.seq (.region [⟨(some 6), .mov (.const (.pointer none)), none⟩,
    ⟨(some 7), .mov (.const (.string ⟨#[]⟩)), none⟩,
    ⟨(some 8), .mov (.const (.int .i64 0)), none⟩])
  (.seq (.seq (.region [⟨(some 12), .mov (.tmp 0), none⟩,
    ⟨(some 13), .call 46 [(.tmp 12)], none⟩,
    ⟨(some 14), .un .not (.tmp 13), none⟩])
  (.cond (.tmp 14)
  (.seq (.region [⟨(some 6), .mov (.const (.pointer none)), none⟩,
    ⟨(some 7), .mov (.const (.string ⟨#[]⟩)), none⟩,
    ⟨(some 8), .mov (.const (.int .i64 1)), none⟩])
  .ret)
  .skip))
  (.seq (.region [⟨(some 16), .mov (.tmp 1), none⟩,
    ⟨(some 17), .call 53 [(.tmp 16)], none⟩,
    ⟨(some 15), .mov (.tmp 17), none⟩,
    ⟨(some 18), .ext (.tmp 15) 0, none⟩,
    ⟨(some 19), .ext (.tmp 15) 1, none⟩,
    ⟨(some 9), .mov (.tmp 18), none⟩,
    ⟨(some 10), .mov (.tmp 19), none⟩])
  (.seq (.block 0
  (.seq (.region [⟨(some 21), .mov (.tmp 10), none⟩,
    ⟨(some 22), .bin .neq 28 (.int .i64) (.tmp 21) (.const (.int .i64 0)), none⟩,
    ⟨(some 20), .mov (.tmp 22), none⟩])
  (.cond (.tmp 20)
  (.seq (.region [⟨(some 23), .mov (.tmp 10), none⟩,
    ⟨(some 6), .mov (.const (.pointer none)), none⟩,
    ⟨(some 7), .mov (.const (.string ⟨#[]⟩)), none⟩,
    ⟨(some 8), .mov (.tmp 23), none⟩])
  .ret)
  (.seq (.region [⟨(some 25), .mov (.tmp 9), none⟩,
    ⟨(some 26), .len (.slice 9) (.tmp 25), none⟩,
    ⟨(some 27), .bin .eql 3 (.int .i64) (.tmp 26) (.const (.int .i64 0)), none⟩,
    ⟨(some 24), .mov (.tmp 27), none⟩])
  (.cond (.tmp 24)
  (.seq (.region [⟨(some 28), .mov (.tmp 2), none⟩,
    ⟨(some 6), .mov (.const (.pointer none)), none⟩,
    ⟨(some 7), .mov (.const (.string ⟨#[]⟩)), none⟩,
    ⟨(some 8), .mov (.tmp 28), none⟩])
  .ret)
  .skip)))))
  (.seq (.region [⟨(some 30), .mov (.tmp 0), none⟩,
    ⟨(some 31), .mov (.tmp 9), none⟩,
    ⟨(some 32), .mov (.tmp 9), none⟩,
    ⟨(some 33), .len (.slice 9) (.tmp 32), none⟩,
    ⟨(some 34), .bin .sub 3 (.int .i64) (.tmp 33) (.const (.int .i64 1)), none⟩,
    ⟨(some 35), .sliceSl 1 (.tmp 31) none (some (.tmp 34)) none, none⟩,
    ⟨(some 36), .call 73 [(.tmp 30), (.tmp 35)], none⟩,
    ⟨(some 29), .mov (.tmp 36), none⟩,
    ⟨(some 37), .ext (.tmp 29) 0, none⟩,
    ⟨(some 38), .ext (.tmp 29) 1, none⟩,
    ⟨(some 11), .mov (.tmp 37), none⟩,
    ⟨(some 10), .mov (.tmp 38), none⟩])
  (.seq (.seq (.region [⟨(some 39), .mov (.tmp 10), none⟩,
    ⟨(some 40), .bin .eql 28 (.int .i64) (.tmp 39) (.const (.int .i64 0)), none⟩,
    ⟨(some 41), .mov (.tmp 40), none⟩,
    ⟨(some 42), .mov (.tmp 11), (some (41, true))⟩,
    ⟨(some 43), .nilCheck (.tmp 42), (some (41, true))⟩,
    ⟨(some 44), .addOff 0 (.tmp 43), (some (41, true))⟩,
    ⟨(some 45), .load1 (.tmp 44), (some (41, true))⟩,
    ⟨(some 46), .un .not (.tmp 45), (some (41, true))⟩,
    ⟨(some 47), .pick (.tmp 41) (.tmp 46) (.const (.bool false)), none⟩])
  (.cond (.tmp 47)
  (.region [⟨(some 10), .mov (.const (.int .i64 17)), none⟩])
  .skip))
  (.seq (.seq (.region [⟨(some 48), .mov (.tmp 10), none⟩,
    ⟨(some 49), .bin .neq 28 (.int .i64) (.tmp 48) (.const (.int .i64 0)), none⟩])
  (.cond (.tmp 49)
  (.seq (.region [⟨(some 50), .mov (.tmp 10), none⟩,
    ⟨(some 6), .mov (.const (.pointer none)), none⟩,
    ⟨(some 7), .mov (.const (.string ⟨#[]⟩)), none⟩,
    ⟨(some 8), .mov (.tmp 50), none⟩])
  .ret)
  .skip))
  (.seq (.draw [⟨(some 51), .mov (.tmp 11), none⟩,
    ⟨(some 52), .mov (.tmp 9), none⟩,
    ⟨(some 53), .mov (.tmp 9), none⟩,
    ⟨(some 54), .len (.slice 9) (.tmp 53), none⟩,
    ⟨(some 55), .bin .sub 3 (.int .i64) (.tmp 54) (.const (.int .i64 1)), none⟩,
    ⟨(some 56), .idxS 1 (.tmp 52) (.tmp 55), none⟩,
    ⟨(some 57), .load1 (.tmp 56), none⟩,
    ⟨(some 6), .mov (.tmp 51), none⟩,
    ⟨(some 7), .mov (.tmp 57), none⟩,
    ⟨(some 8), .mov (.const (.int .i64 0)), none⟩] [0, 0, 0, 4, 12, 30, 62, 1, 255, 511] [0, 1, 2, 3, 4, 5, 6, 7, 8, 9])
  .ret))))))))⟩

/-- (*valise/overlay.FS).resize -/
noncomputable def qf58 : RFunc := ⟨45, [.tmp 6],
  (.seq (.region [⟨(some 6), .mov (.const (.bool false)), none⟩])
  (.seq (.seq (.draw [⟨(some 8), .mov (.tmp 0), none⟩,
    ⟨(some 9), .nilCheck (.tmp 8), none⟩,
    ⟨(some 10), .addOff 259 (.tmp 9), none⟩,
    ⟨(some 11), .load1 (.tmp 10), none⟩,
    ⟨(some 12), .mov (.tmp 2), none⟩,
    ⟨(some 13), .bin .add 3 (.int .i64) (.tmp 11) (.tmp 12), none⟩,
    ⟨(some 14), .mov (.tmp 1), none⟩,
    ⟨(some 15), .call 24 [(.tmp 14)], none⟩,
    ⟨(some 16), .bin .sub 3 (.int .i64) (.tmp 13) (.tmp 15), none⟩,
    ⟨(some 17), .bin .gtr 3 (.int .i64) (.tmp 16) (.const (.int .i64 262144)), none⟩] [0, 1, 3, 7, 0, 31, 0, 64, 255, 511] [0, 1, 2, 3, 4, 5, 6, 7, 8, 9])
  (.cond (.tmp 17)
  (.seq (.region [⟨(some 6), .mov (.const (.bool false)), none⟩])
  .ret)
  .skip))
  (.seq (.draw [⟨(some 18), .mov (.tmp 0), none⟩,
    ⟨(some 19), .nilCheck (.tmp 18), none⟩,
    ⟨(some 20), .addOff 259 (.tmp 19), none⟩,
    ⟨(some 21), .load1 (.tmp 20), none⟩,
    ⟨(some 22), .mov (.tmp 2), none⟩,
    ⟨(some 23), .mov (.tmp 1), none⟩,
    ⟨(some 24), .call 24 [(.tmp 23)], none⟩,
    ⟨(some 25), .bin .sub 3 (.int .i64) (.tmp 22) (.tmp 24), none⟩,
    ⟨(some 26), .bin .add 3 (.int .i64) (.tmp 21) (.tmp 25), none⟩,
    ⟨(some 27), .nilCheck (.tmp 18), none⟩,
    ⟨(some 28), .addOff 259 (.tmp 27), none⟩,
    ⟨none, .store 1 (.tmp 28) (.tmp 26), none⟩] [0, 1, 3, 7, 0, 0, 32, 112, 255, 511, 1023, 2047] [0, 1, 2, 3, 4, 5, 6, 7, 8, 9, 10, 11])
  (.seq (.region [⟨(some 29), .mov (.tmp 0), none⟩,
    ⟨(some 30), .mov (.tmp 1), none⟩,
    ⟨(some 31), .mov (.tmp 2), none⟩,
    ⟨(some 32), .mov (.tmp 1), none⟩,
    ⟨(some 33), .call 24 [(.tmp 32)], none⟩,
    ⟨(some 34), .min2 (.tmp 31) (.tmp 33), none⟩,
    ⟨(some 35), .call 23 [(.tmp 29), (.tmp 30), (.const (.int .i64 0)), (.tmp 34)], none⟩,
    ⟨(some 7), .mov (.tmp 35), none⟩])
  (.seq (.region [⟨(some 36), .mov (.tmp 1), none⟩,
    ⟨(some 37), .mov (.tmp 7), none⟩,
    ⟨(some 38), .mov (.tmp 2), none⟩,
    ⟨(some 39), .mov (.tmp 7), none⟩,
    ⟨(some 40), .len (.slice 5) (.tmp 39), none⟩,
    ⟨(some 41), .bin .sub 3 (.int .i64) (.tmp 38) (.tmp 40), none⟩,
    ⟨(some 42), .appendZ 5 1 1 [(.int .u8 0)] (.tmp 37) (.tmp 41), none⟩,
    ⟨(some 43), .build [(.bool false), (.slice none 0 0), (.string ⟨#[]⟩), (.int .i64 0)] [(0, 1, (.const (.bool true))), (1, 1, (.tmp 42))], none⟩,
    ⟨(some 44), .nilCheck (.tmp 36), none⟩,
    ⟨none, .store 4 (.tmp 44) (.tmp 43), none⟩])
  (.seq (.region [⟨(some 6), .mov (.const (.bool true)), none⟩])
  .ret))))))⟩

/-- (*valise/overlay.FS).busy -/
noncomputable def qf60 : RFunc := ⟨15, [.tmp 4],
  (.seq (.region [⟨(some 3), .box 9 1 (.tmp 1), none⟩,
    ⟨(some 4), .mov (.const (.bool false)), none⟩])
  (.seq (.seq (.region [⟨(some 6), .mov (.const (.int .i64 0)), none⟩])
  (.block 0
  (.loop
  (.seq (.region [⟨(some 7), .bin .lss 3 (.int .i64) (.tmp 6) (.const (.int .i64 8)), none⟩])
  (.seq (.cond (.tmp 7)
  .skip
  (.exit 0))
  (.seq (.block 1
  (.seq (.region [⟨(some 8), .mov (.tmp 6), none⟩,
    ⟨(some 5), .mov (.tmp 8), none⟩])
  (.seq (.region [⟨(some 9), .mov (.tmp 0), none⟩,
    ⟨(some 10), .mov (.tmp 5), none⟩,
    ⟨(some 11), .call 25 [(.tmp 9), (.tmp 10)], none⟩,
    ⟨(some 12), .mkfunc (.func 75) [] [(.tmp 3)], none⟩,
    ⟨(some 13), .call 74 [(.tmp 11), (.tmp 12)], none⟩])
  (.cond (.tmp 13)
  (.seq (.region [⟨(some 4), .mov (.const (.bool true)), none⟩])
  .ret)
  .skip))))
  (.region [⟨(some 14), .bin .add 3 (.int .i64) (.tmp 6) (.const (.int .i64 1)), none⟩,
    ⟨(some 6), .mov (.tmp 14), none⟩])))))))
  (.seq (.region [⟨(some 4), .mov (.const (.bool false)), none⟩])
  .ret)))⟩

/-- (*valise/tree.Tree).Remove -/
noncomputable def qf61 : RFunc := ⟨52, [.tmp 4],
  (.seq (.region [⟨(some 4), .mov (.const (.int .i64 0)), none⟩])
  (.seq (.region [⟨(some 11), .mov (.tmp 0), none⟩,
    ⟨(some 12), .mov (.tmp 1), none⟩,
    ⟨(some 13), .call 56 [(.tmp 11), (.tmp 12)], none⟩,
    ⟨(some 10), .mov (.tmp 13), none⟩,
    ⟨(some 14), .ext (.tmp 10) 0, none⟩,
    ⟨(some 15), .ext (.tmp 10) 1, none⟩,
    ⟨(some 5), .mov (.tmp 14), none⟩,
    ⟨(some 6), .mov (.tmp 15), none⟩])
  (.seq (.block 0
  (.seq (.region [⟨(some 17), .mov (.tmp 6), none⟩,
    ⟨(some 18), .bin .neq 28 (.int .i64) (.tmp 17) (.const (.int .i64 0)), none⟩,
    ⟨(some 16), .mov (.tmp 18), none⟩])
  (.cond (.tmp 16)
  (.seq (.region [⟨(some 19), .mov (.tmp 6), none⟩,
    ⟨(some 4), .mov (.tmp 19), none⟩])
  .ret)
  (.seq (.region [⟨(some 21), .mov (.tmp 1), none⟩,
    ⟨(some 22), .bin .eql 9 .string (.tmp 21) (.const (.string ⟨#[]⟩)), none⟩,
    ⟨(some 23), .mov (.tmp 22), none⟩,
    ⟨(some 24), .mov (.tmp 5), (some (23, false))⟩,
    ⟨(some 25), .nilCheck (.tmp 24), (some (23, false))⟩,
    ⟨(some 26), .addOff 1 (.tmp 25), (some (23, false))⟩,
    ⟨(some 27), .addOff 0 (.tmp 26), (some (23, false))⟩,
    ⟨(some 28), .load1 (.tmp 27), (some (23, false))⟩,
    ⟨(some 29), .len (.map 9 87) (.tmp 28), (some (23, false))⟩,
    ⟨(some 30), .bin .gtr 3 (.int .i64) (.tmp 29) (.const (.int .i64 0)), (some (23, false))⟩,
    ⟨(some 31), .pick (.tmp 23) (.const (.bool true)) (.tmp 30), none⟩,
    ⟨(some 20), .mov (.tmp 31), none⟩])
  (.cond (.tmp 20)
  (.seq (.region [⟨(some 4), .mov (.const (.int .i64 18)), none⟩])
  .ret)
  .skip)))))
  (.seq (.region [⟨(some 33), .mov (.tmp 0), none⟩,
    ⟨(some 34), .mov (.tmp 1), none⟩,
    ⟨(some 35), .call 57 [(.tmp 33), (.tmp 34), (.const (.int .i64 18))], none⟩,
    ⟨(some 32), .mov (.tmp 35), none⟩,
    ⟨(some 36), .ext (.tmp 32) 0, none⟩,
    ⟨(some 37), .ext (.tmp 32) 1, none⟩,
    ⟨(some 38), .ext (.tmp 32) 2, none⟩,
    ⟨(some 7), .mov (.tmp 36), none⟩,
    ⟨(some 8), .mov (.tmp 37), none⟩,
    ⟨(some 9), .mov (.tmp 38), none⟩])
  (.seq (.region [⟨(some 39), .mov (.tmp 7), none⟩,
    ⟨(some 40), .nilCheck (.tmp 39), none⟩,
    ⟨(some 41), .addOff 1 (.tmp 40), none⟩,
    ⟨(some 42), .addOff 0 (.tmp 41), none⟩,
    ⟨(some 43), .load1 (.tmp 42), none⟩,
    ⟨(some 44), .mov (.tmp 8), none⟩,
    ⟨none, .delete .string (.tmp 43) (.tmp 44), none⟩])
  (.seq (.region [⟨(some 45), .mov (.tmp 0), none⟩,
    ⟨(some 46), .nilCheck (.tmp 45), none⟩,
    ⟨(some 47), .addOff 1 (.tmp 46), none⟩,
    ⟨(some 48), .load1 (.tmp 47), none⟩,
    ⟨(some 49), .bin .sub 3 (.int .i64) (.tmp 48) (.const (.int .i64 1)), none⟩,
    ⟨(some 50), .nilCheck (.tmp 45), none⟩,
    ⟨(some 51), .addOff 1 (.tmp 50), none⟩,
    ⟨none, .store 1 (.tmp 51) (.tmp 49), none⟩])
  (.seq (.region [⟨(some 4), .mov (.const (.int .i64 0)), none⟩])
  .ret)))))))⟩

/-- (*valise/tree.Tree).Rename -/
noncomputable def qf62 : RFunc := ⟨80, [.tmp 6],
  (.seq (.region [⟨(some 6), .mov (.const (.int .i64 0)), none⟩])
  (.seq (.region [⟨(some 15), .mov (.tmp 0), none⟩,
    ⟨(some 16), .mov (.tmp 1), none⟩,
    ⟨(some 17), .call 56 [(.tmp 15), (.tmp 16)], none⟩,
    ⟨(some 14), .mov (.tmp 17), none⟩,
    ⟨(some 18), .ext (.tmp 14) 0, none⟩,
    ⟨(some 19), .ext (.tmp 14) 1, none⟩,
    ⟨(some 7), .mov (.tmp 18), none⟩,
    ⟨(some 8), .mov (.tmp 19), none⟩])
  (.seq (.block 0
  (.seq (.region [⟨(some 21), .mov (.tmp 8), none⟩,
    ⟨(some 22), .bin .neq 28 (.int .i64) (.tmp 21) (.const (.int .i64 0)), none⟩,
    ⟨(some 20), .mov (.tmp 22), none⟩])
  (.cond (.tmp 20)
  (.seq (.region [⟨(some 23), .mov (.tmp 8), none⟩,
    ⟨(some 6), .mov (.tmp 23), none⟩])
  .ret)
  (.seq (.region [⟨(some 25), .mov (.tmp 1), none⟩,
    ⟨(some 26), .bin .eql 9 .string (.tmp 25) (.const (.string ⟨#[]⟩)), none⟩,
    ⟨(some 24), .mov (.tmp 26), none⟩])
  (.cond (.tmp 24)
  (.seq (.region [⟨(some 6), .mov (.const (.int .i64 18)), none⟩])
  .ret)
  .skip)))))
  (.seq (.region [⟨(some 28), .mov (.tmp 0), none⟩,
    ⟨(some 29), .mov (.tmp 2), none⟩,
    ⟨(some 30), .call 57 [(.tmp 28), (.tmp 29), (.const (.int .i64 10))], none⟩,
    ⟨(some 27), .mov (.tmp 30), none⟩,
    ⟨(some 31), .ext (.tmp 27) 0, none⟩,
    ⟨(some 32), .ext (.tmp 27) 1, none⟩,
    ⟨(some 33), .ext (.tmp 27) 2, none⟩,
    ⟨(some 9), .mov (.tmp 31), none⟩,
    ⟨(some 10), .mov (.tmp 32), none⟩,
    ⟨(some 8), .mov (.tmp 33), none⟩])
  (.seq (.block 1
  (.seq (.region [⟨(some 35), .mov (.tmp 8), none⟩,
    ⟨(some 36), .bin .neq 28 (.int .i64) (.tmp 35) (.const (.int .i64 0)), none⟩,
    ⟨(some 34), .mov (.tmp 36), none⟩])
  (.cond (.tmp 34)
  (.seq (.region [⟨(some 37), .mov (.tmp 8), none⟩,
    ⟨(some 6), .mov (.tmp 37), none⟩])
  .ret)
  (.seq (.region [⟨(some 39), .mov (.tmp 1), none⟩,
    ⟨(some 40), .mov (.tmp 2), none⟩,
    ⟨(some 41), .bin .eql 9 .string (.tmp 39) (.tmp 40), none⟩,
    ⟨(some 38), .mov (.tmp 41), none⟩])
  (.cond (.tmp 38)
  (.seq (.region [⟨(some 6), .mov (.const (.int .i64 0)), none⟩])
  .ret)
  (.seq (.region [⟨(some 43), .mov (.tmp 2), none⟩,
    ⟨(some 44), .mov (.tmp 1), none⟩,
    ⟨(some 45), .call 63 [(.tmp 43), (.tmp 44)], none⟩,
    ⟨(some 42), .mov (.tmp 45), none⟩])
  (.cond (.tmp 42)
  (.seq (.region [⟨(some 6), .mov (.const (.int .i64 18)), none⟩])
  .ret)
  (.seq (.region [⟨(some 47), .mov (.tmp 9), none⟩,
    ⟨(some 48), .nilCheck (.tmp 47), none⟩,
    ⟨(some 49), .addOff 1 (.tmp 48), none⟩,
    ⟨(some 50), .addOff 0 (.tmp 49), none⟩,
    ⟨(some 51), .load1 (.tmp 50), none⟩,
    ⟨(some 52), .mov (.tmp 10), none⟩,
    ⟨(some 53), .look .string (.pointer none) (.tmp 51) (.tmp 52) false, none⟩,
    ⟨(some 54), .bin .neq 87 (.pointer 116) (.tmp 53) (.const (.pointer none)), none⟩,
    ⟨(some 46), .mov (.tmp 54), none⟩])
  (.cond (.tmp 46)
  (.seq (.region [⟨(some 6), .mov (.const (.int .i64 10)), none⟩])
  .ret)
  (.seq (.region [⟨(some 56), .mov (.tmp 2), none⟩,
    ⟨(some 57), .mov (.tmp 7), none⟩,
    ⟨(some 58), .call 76 [(.tmp 56), (.tmp 57)], none⟩,
    ⟨(some 59), .un .not (.tmp 58), none⟩,
    ⟨(some 55), .mov (.tmp 59), none⟩])
  (.cond (.tmp 55)
  (.seq (.region [⟨(some 6), .mov (.const (.int .i64 8)), none⟩])
  .ret)
  .skip)))))))))))
  (.seq (.region [⟨(some 61), .mov (.tmp 0), none⟩,
    ⟨(some 62), .mov (.tmp 1), none⟩,
    ⟨(some 63), .call 57 [(.tmp 61), (.tmp 62), (.const (.int .i64 18))], none⟩,
    ⟨(some 60), .mov (.tmp 63), none⟩,
    ⟨(some 64), .ext (.tmp 60) 0, none⟩,
    ⟨(some 65), .ext (.tmp 60) 1, none⟩,
    ⟨(some 66), .ext (.tmp 60) 2, none⟩,
    ⟨(some 11), .mov (.tmp 64), none⟩,
    ⟨(some 12), .mov (.tmp 65), none⟩,
    ⟨(some 13), .mov (.tmp 66), none⟩])
  (.seq (.region [⟨(some 67), .mov (.tmp 11), none⟩,
    ⟨(some 68), .nilCheck (.tmp 67), none⟩,
    ⟨(some 69), .addOff 1 (.tmp 68), none⟩,
    ⟨(some 70), .addOff 0 (.tmp 69), none⟩,
    ⟨(some 71), .load1 (.tmp 70), none⟩,
    ⟨(some 72), .mov (.tmp 12), none⟩,
    ⟨none, .delete .string (.tmp 71) (.tmp 72), none⟩])
  (.seq (.region [⟨(some 73), .mov (.tmp 9), none⟩,
    ⟨(some 74), .nilCheck (.tmp 73), none⟩,
    ⟨(some 75), .addOff 1 (.tmp 74), none⟩,
    ⟨(some 76), .addOff 0 (.tmp 75), none⟩,
    ⟨(some 77), .load1 (.tmp 76), none⟩,
    ⟨(some 78), .mov (.tmp 10), none⟩,
    ⟨(some 79), .mov (.tmp 7), none⟩,
    ⟨none, .mput .string (.tmp 77) (.tmp 78) (.tmp 79), none⟩])
  (.seq (.region [⟨(some 6), .mov (.const (.int .i64 0)), none⟩])
  .ret)))))))))⟩

/-- valise/path.Under -/
noncomputable def qf63 : RFunc := ⟨40, [.tmp 4],
  (.seq (.region [⟨(some 4), .mov (.const (.bool false)), none⟩])
  (.seq (.region [⟨(some 10), .mov (.tmp 0), none⟩,
    ⟨(some 11), .call 53 [(.tmp 10)], none⟩,
    ⟨(some 9), .mov (.tmp 11), none⟩,
    ⟨(some 12), .ext (.tmp 9) 0, none⟩,
    ⟨(some 13), .ext (.tmp 9) 1, none⟩,
    ⟨(some 5), .mov (.tmp 12), none⟩,
    ⟨(some 6), .mov (.tmp 13), none⟩])
  (.seq (.region [⟨(some 15), .mov (.tmp 1), none⟩,
    ⟨(some 16), .call 53 [(.tmp 15)], none⟩,
    ⟨(some 14), .mov (.tmp 16), none⟩,
    ⟨(some 17), .ext (.tmp 14) 0, none⟩,
    ⟨(some 18), .ext (.tmp 14) 1, none⟩,
    ⟨(some 7), .mov (.tmp 17), none⟩,
    ⟨(some 8), .mov (.tmp 18), none⟩])
  (.seq (.region [⟨(some 19), .mov (.tmp 6), none⟩,
    ⟨(some 20), .bin .eql 28 (.int .i64) (.tmp 19) (.const (.int .i64 0)), none⟩,
    ⟨(some 21), .mov (.tmp 20), none⟩,
    ⟨(some 22), .mov (.tmp 8), (some (21, true))⟩,
    ⟨(some 23), .bin .eql 28 (.int .i64) (.tmp 22) (.const (.int .i64 0)), (some (21, true))⟩,
    ⟨(some 24), .pick (.tmp 21) (.tmp 23) (.const (.bool false)), none⟩,
    ⟨(some 25), .mov (.tmp 24), none⟩,
    ⟨(some 26), .mov (.tmp 1), (some (25, true))⟩,
    ⟨(some 27), .bin .eql 9 .string (.tmp 26) (.const (.string ⟨#[]⟩)), (some (25, true))⟩,
    ⟨(some 28), .mov (.tmp 27), (some (25, true))⟩,
    ⟨(some 29), .mov (.tmp 0), (some (28, false))⟩,
    ⟨(some 30), .mov (.tmp 1), (some (28, false))⟩,
    ⟨(some 31), .bin .eql 9 .string (.tmp 29) (.tmp 30), (some (28, false))⟩,
    ⟨(some 32), .pick (.tmp 28) (.const (.bool true)) (.tmp 31), (some (25, true))⟩,
    ⟨(some 33), .mov (.tmp 32), (some (25, true))⟩,
    ⟨(some 34), .mov (.tmp 0), (some (33, false))⟩,
    ⟨(some 35), .mov (.tmp 1), (some (33, false))⟩,
    ⟨(some 36), .bin .add 9 .string (.tmp 35) (.const (.string ⟨#[47]⟩)), (some (33, false))⟩,
    ⟨(some 37), .call 77 [(.tmp 34), (.tmp 36)], (some (33, false))⟩,
    ⟨(some 38), .pick (.tmp 33) (.const (.bool true)) (.tmp 37), (some (25, true))⟩,
    ⟨(some 39), .pick (.tmp 25) (.tmp 38) (.const (.bool false)), none⟩,
    ⟨(some 4), .mov (.tmp 39), none⟩])
  .ret))))⟩

/-- valise/path.pieces$1 -/
noncomputable def qf65 : RFunc := ⟨21, [],
  (.block 0
  (.loop
  (.block 1
  (.seq (.region [⟨(some 7), .load1 (.tmp 1), none⟩,
    ⟨(some 8), .call 66 [(.tmp 7), (.const (.string ⟨#[47]⟩))], none⟩,
    ⟨(some 6), .mov (.tmp 8), none⟩,
    ⟨(some 9), .ext (.tmp 6) 0, none⟩,
    ⟨(some 10), .ext (.tmp 6) 1, none⟩,
    ⟨(some 11), .ext (.tmp 6) 2, none⟩,
    ⟨(some 3), .mov (.tmp 9), none⟩,
    ⟨(some 4), .mov (.tmp 10), none⟩,
    ⟨(some 5), .mov (.tmp 11), none⟩])
  (.seq (.seq (.region [⟨(some 12), .mov (.tmp 0), none⟩,
    ⟨(some 13), .mov (.tmp 3), none⟩,
    ⟨(some 14), .callv (.tmp 12) [(.tmp 13)], none⟩,
    ⟨(some 15), .un .not (.tmp 14), none⟩,
    ⟨(some 16), .mov (.tmp 15), none⟩,
    ⟨(some 17), .mov (.tmp 5), (some (16, false))⟩,
    ⟨(some 18), .un .not (.tmp 17), (some (16, false))⟩,
    ⟨(some 19), .pick (.tmp 16) (.const (.bool true)) (.tmp 18), none⟩])
  (.cond (.tmp 19)
  .ret
  .skip))
  (.region [⟨(some 20), .mov (.tmp 4), none⟩,
    ⟨none, .store 1 (.tmp 1) (.tmp 20), none⟩]))))))⟩

/-- strings.Cut -/
noncomputable def qf66 : RFunc := ⟨13, [.tmp 4, .tmp 5, .tmp 6],
  (.seq (.region [⟨(some 4), .mov (.const (.string ⟨#[]⟩)), none⟩,
    ⟨(some 5), .mov (.const (.string ⟨#[]⟩)), none⟩,
    ⟨(some 6), .mov (.const (.bool false)), none⟩])
  (.seq (.region [⟨(some 7), .mov (.tmp 0), none⟩,
    ⟨(some 8), .mov (.tmp 1), none⟩,
    ⟨(some 9), .call 80 [(.tmp 7), (.tmp 8)], none⟩,
    ⟨(some 10), .ext (.tmp 9) 0, none⟩,
    ⟨(some 11), .ext (.tmp 9) 1, none⟩,
    ⟨(some 12), .ext (.tmp 9) 2, none⟩,
    ⟨(some 4), .mov (.tmp 10), none⟩,
    ⟨(some 5), .mov (.tmp 11), none⟩,
    ⟨(some 6), .mov (.tmp 12), none⟩])
  .ret))⟩

/-- valise/path.Name -/
noncomputable def qf67 : RFunc := ⟨40, [.tmp 2],
  (.seq (.region [⟨(some 2), .mov (.const (.int .i64 0)), none⟩])
  (.seq (.seq (.region [⟨(some 5), .mov (.tmp 0), none⟩,
    ⟨(some 6), .len .string (.tmp 5), none⟩,
    ⟨(some 7), .bin .lss 3 (.int .i64) (.tmp 6) (.const (.int .i64 1)), none⟩,
    ⟨(some 8), .mov (.tmp 7), none⟩,
    ⟨(some 9), .mov (.tmp 0), (some (8, false))⟩,
    ⟨(some 10), .len .string (.tmp 9), (some (8, false))⟩,
    ⟨(some 11), .bin .gtr 3 (.int .i64) (.tmp 10) (.const (.int .i64 32)), (some (8, false))⟩,
    ⟨(some 12), .pick (.tmp 8) (.const (.bool true)) (.tmp 11), none⟩,
    ⟨(some 13), .mov (.tmp 12), none⟩,
    ⟨(some 14), .mov (.tmp 0), (some (13, false))⟩,
    ⟨(some 15), .bin .eql 9 .string (.tmp 14) (.const (.string ⟨#[46]⟩)), (some (13, false))⟩,
    ⟨(some 16), .pick (.tmp 13) (.const (.bool true)) (.tmp 15), none⟩,
    ⟨(some 17), .mov (.tmp 16), none⟩,
    ⟨(some 18), .mov (.tmp 0), (some (17, false))⟩,
    ⟨(some 19), .bin .eql 9 .string (.tmp 18) (.const (.string ⟨#[46, 46]⟩)), (some (17, false))⟩,
    ⟨(some 20), .pick (.tmp 17) (.const (.bool true)) (.tmp 19), none⟩])
  (.cond (.tmp 20)
  (.seq (.region [⟨(some 2), .mov (.const (.int .i64 8)), none⟩])
  .ret)
  .skip))
  (.seq (.seq (.region [⟨(some 21), .mov (.tmp 0), none⟩,
    ⟨(some 22), .rangeStr (.tmp 21), none⟩])
  (.block 0
  (.loop
  (.seq (.region [⟨(some 23), .next (.tmp 22) true, none⟩,
    ⟨(some 24), .ext (.tmp 23) 0, none⟩])
  (.seq (.cond (.tmp 24)
  .skip
  (.exit 0))
  (.block 1
  (.seq (.region [⟨(some 25), .ext (.tmp 23) 2, none⟩,
    ⟨(some 4), .mov (.tmp 25), none⟩])
  (.seq (.region [⟨(some 26), .mov (.tmp 4), none⟩,
    ⟨(some 27), .bin .lss 21 (.int .i32) (.tmp 26) (.const (.int .i32 32)), none⟩,
    ⟨(some 28), .mov (.tmp 27), none⟩,
    ⟨(some 29), .mov (.tmp 4), (some (28, false))⟩,
    ⟨(some 30), .bin .gtr 21 (.int .i32) (.tmp 29) (.const (.int .i32 126)), (some (28, false))⟩,
    ⟨(some 31), .pick (.tmp 28) (.const (.bool true)) (.tmp 30), none⟩,
    ⟨(some 32), .mov (.tmp 31), none⟩,
    ⟨(some 33), .mov (.tmp 4), (some (32, false))⟩,
    ⟨(some 34), .bin .eql 21 (.int .i32) (.tmp 33) (.const (.int .i32 47)), (some (32, false))⟩,
    ⟨(some 35), .pick (.tmp 32) (.const (.bool true)) (.tmp 34), none⟩,
    ⟨(some 36), .mov (.tmp 35), none⟩,
    ⟨(some 37), .mov (.tmp 4), (some (36, false))⟩,
    ⟨(some 38), .bin .eql 21 (.int .i32) (.tmp 37) (.const (.int .i32 92)), (some (36, false))⟩,
    ⟨(some 39), .pick (.tmp 36) (.const (.bool true)) (.tmp 38), none⟩])
  (.cond (.tmp 39)
  (.seq (.region [⟨(some 2), .mov (.const (.int .i64 8)), none⟩])
  .ret)
  .skip)))))))))
  (.seq (.region [⟨(some 2), .mov (.const (.int .i64 0)), none⟩])
  .ret))))⟩

/-- strings.Join -/
noncomputable def qf68 : RFunc := ⟨75, [.tmp 4],
  (.seq (.region [⟨(some 4), .mov (.const (.string ⟨#[]⟩)), none⟩])
  (.seq (.seq (.region [⟨(some 11), .mov (.tmp 0), none⟩,
    ⟨(some 12), .len (.slice 9) (.tmp 11), none⟩])
  (.block 0
  (.seq (.region [⟨(some 14), .bin .eql 3 (.int .i64) (.tmp 12) (.const (.int .i64 0)), none⟩,
    ⟨(some 13), .mov (.tmp 14), none⟩])
  (.cond (.tmp 13)
  (.seq (.region [⟨(some 4), .mov (.const (.string ⟨#[]⟩)), none⟩])
  .ret)
  (.seq (.region [⟨(some 16), .bin .eql 3 (.int .i64) (.tmp 12) (.const (.int .i64 1)), none⟩,
    ⟨(some 15), .mov (.tmp 16), none⟩])
  (.cond (.tmp 15)
  (.seq (.region [⟨(some 17), .mov (.tmp 0), none⟩,
    ⟨(some 18), .idxS 1 (.tmp 17) (.const (.int .i64 0)), none⟩,
    ⟨(some 19), .load1 (.tmp 18), none⟩,
    ⟨(some 4), .mov (.tmp 19), none⟩])
  .ret)
  .skip))))))
  (.seq (.region [⟨(some 5), .mov (.const (.int .i64 0)), none⟩])
  (.seq (.seq (.region [⟨(some 20), .mov (.tmp 1), none⟩,
    ⟨(some 21), .len .string (.tmp 20), none⟩,
    ⟨(some 22), .bin .gtr 3 (.int .i64) (.tmp 21) (.const (.int .i64 0)), none⟩])
  (.cond (.tmp 22)
  (.seq (.seq (.region [⟨(some 23), .mov (.tmp 1), none⟩,
    ⟨(some 24), .len .string (.tmp 23), none⟩,
    ⟨(some 25), .mov (.tmp 0), none⟩,
    ⟨(some 26), .len (.slice 9) (.tmp 25), none⟩,
    ⟨(some 27), .bin .sub 3 (.int .i64) (.tmp 26) (.const (.int .i64 1)), none⟩,
    ⟨(some 28), .bin .quo 3 (.int .i64) (.const (.int .i64 9223372036854775807)) (.tmp 27), none⟩,
    ⟨(some 29), .bin .geq 3 (.int .i64) (.tmp 24) (.tmp 28), none⟩])
  (.cond (.tmp 29)
  (.region [⟨(some 30), .iface 9 (.const (.string ⟨#[115, 116, 114, 105, 110, 103, 115, 58, 32, 74, 111, 105, 110, 32, 111, 117, 116, 112, 117, 116, 32, 108, 101, 110, 103, 116, 104, 32, 111, 118, 101, 114, 102, 108, 111, 119]⟩)), none⟩,
    ⟨none, .pan (.tmp 30), none⟩])
  .skip))
  (.region [⟨(some 31), .mov (.tmp 5), none⟩,
    ⟨(some 32), .mov (.tmp 1), none⟩,
    ⟨(some 33), .len .string (.tmp 32), none⟩,
    ⟨(some 34), .mov (.tmp 0), none⟩,
    ⟨(some 35), .len (.slice 9) (.tmp 34), none⟩,
    ⟨(some 36), .bin .sub 3 (.int .i64) (.tmp 35) (.const (.int .i64 1)), none⟩,
    ⟨(some 37), .bin .mul 3 (.int .i64) (.tmp 33) (.tmp 36), none⟩,
    ⟨(some 38), .bin .add 3 (.int .i64) (.tmp 31) (.tmp 37), none⟩,
    ⟨(some 5), .mov (.tmp 38), none⟩]))
  .skip))
  (.seq (.seq (.region [⟨(some 39), .mov (.tmp 0), none⟩,
    ⟨(some 40), .len (.slice 9) (.tmp 39), none⟩,
    ⟨(some 41), .mov (.const (.int .i64 0)), none⟩])
  (.block 1
  (.loop
  (.seq (.region [⟨(some 42), .bin .lss 3 (.int .i64) (.tmp 41) (.tmp 40), none⟩])
  (.seq (.cond (.tmp 42)
  .skip
  (.exit 1))
  (.seq (.block 2
  (.seq (.region [⟨(some 43), .idxS 1 (.tmp 39) (.tmp 41), none⟩,
    ⟨(some 44), .load1 (.tmp 43), none⟩,
    ⟨(some 7), .mov (.tmp 44), none⟩])
  (.seq (.seq (.region [⟨(some 45), .mov (.tmp 7), none⟩,
    ⟨(some 46), .len .string (.tmp 45), none⟩,
    ⟨(some 47), .mov (.tmp 5), none⟩,
    ⟨(some 48), .bin .sub 3 (.int .i64) (.const (.int .i64 9223372036854775807)) (.tmp 47), none⟩,
    ⟨(some 49), .bin .gtr 3 (.int .i64) (.tmp 46) (.tmp 48), none⟩])
  (.cond (.tmp 49)
  (.region [⟨(some 50), .iface 9 (.const (.string ⟨#[115, 116, 114, 105, 110, 103, 115, 58, 32, 74, 111, 105, 110, 32, 111, 117, 116, 112, 117, 116, 32, 108, 101, 110, 103, 116, 104, 32, 111, 118, 101, 114, 102, 108, 111, 119]⟩)), none⟩,
    ⟨none, .pan (.tmp 50), none⟩])
  .skip))
  (.region [⟨(some 51), .mov (.tmp 5), none⟩,
    ⟨(some 52), .mov (.tmp 7), none⟩,
    ⟨(some 53), .len .string (.tmp 52), none⟩,
    ⟨(some 54), .bin .add 3 (.int .i64) (.tmp 51) (.tmp 53), none⟩,
    ⟨(some 5), .mov (.tmp 54), none⟩]))))
  (.region [⟨(some 55), .bin .add 3 (.int .i64) (.tmp 41) (.const (.int .i64 1)), none⟩,
    ⟨(some 41), .mov (.tmp 55), none⟩])))))))
  (.seq (.region [⟨(some 8), .new [(.pointer none), (.slice none 0 0)] 145 2, none⟩])
  (.seq (.region [⟨(some 56), .mov (.tmp 5), none⟩,
    ⟨(some 57), .call 81 [(.tmp 8), (.tmp 56)], none⟩])
  (.seq (.region [⟨(some 58), .mov (.tmp 0), none⟩,
    ⟨(some 59), .idxS 1 (.tmp 58) (.const (.int .i64 0)), none⟩,
    ⟨(some 60), .load1 (.tmp 59), none⟩,
    ⟨(some 61), .call 82 [(.tmp 8), (.tmp 60)], none⟩])
  (.seq (.seq (.region [⟨(some 62), .mov (.tmp 0), none⟩,
    ⟨(some 63), .sliceSl 1 (.tmp 62) (some (.const (.int .i64 1))) none none, none⟩,
    ⟨(some 64), .len (.slice 9) (.tmp 63), none⟩,
    ⟨(some 65), .mov (.const (.int .i64 0)), none⟩])
  (.block 3
  (.loop
  (.seq (.region [⟨(some 66), .bin .lss 3 (.int .i64) (.tmp 65) (.tmp 64), none⟩])
  (.seq (.cond (.tmp 66)
  .skip
  (.exit 3))
  (.seq (.block 4
  (.seq (.region [⟨(some 67), .idxS 1 (.tmp 63) (.tmp 65), none⟩,
    ⟨(some 68), .load1 (.tmp 67), none⟩,
    ⟨(some 10), .mov (.tmp 68), none⟩])
  (.seq (.region [⟨(some 69), .mov (.tmp 1), none⟩,
    ⟨(some 70), .call 82 [(.tmp 8), (.tmp 69)], none⟩])
  (.region [⟨(some 71), .mov (.tmp 10), none⟩,
    ⟨(some 72), .call 82 [(.tmp 8), (.tmp 71)], none⟩]))))
  (.region [⟨(some 73), .bin .add 3 (.int .i64) (.tmp 65) (.const (.int .i64 1)), none⟩,
    ⟨(some 65), .mov (.tmp 73), none⟩])))))))
  (.seq (.region [⟨(some 74), .call 83 [(.tmp 8)], none⟩,
    ⟨(some 4), .mov (.tmp 74), none⟩])
  .ret))))))))))⟩

/-- (valise/tree.dict[*valise/tree.node]).all -/
noncomputable def qf69 : RFunc := ⟨4, [.tmp 2],
  (.seq (.region [⟨(some 1), .box 114 1 (.tmp 0), none⟩,
    ⟨(some 2), .mov (.const .nilFunc), none⟩])
  (.seq (.region [⟨(some 3), .mkfunc (.func 84) [] [(.tmp 1)], none⟩,
    ⟨(some 2), .mov (.tmp 3), none⟩])
  .ret))⟩

/-- valise/tree.under -/
noncomputable def qf70 : RFunc := ⟨12, [.tmp 4],
  (.seq (.region [⟨(some 4), .mov (.const (.string ⟨#[]⟩)), none⟩])
  (.seq (.seq (.region [⟨(some 5), .mov (.tmp 0), none⟩,
    ⟨(some 6), .bin .eql 9 .string (.tmp 5) (.const (.string ⟨#[]⟩)), none⟩])
  (.cond (.tmp 6)
  (.seq (.region [⟨(some 7), .mov (.tmp 1), none⟩,
    ⟨(some 4), .mov (.tmp 7), none⟩])
  .ret)
  .skip))
  (.seq (.region [⟨(some 8), .mov (.tmp 0), none⟩,
    ⟨(some 9), .bin .add 9 .string (.tmp 8) (.const (.string ⟨#[47]⟩)), none⟩,
    ⟨(some 10), .mov (.tmp 1), none⟩,
    ⟨(some 11), .bin .add 9 .string (.tmp 9) (.tmp 10), none⟩,
    ⟨(some 4), .mov (.tmp 11), none⟩])
  .ret)))⟩

/-- (*valise/overlay.FS).blocks$1 -/
noncomputable def qf71 : RFunc := ⟨35, [],
  (.seq (.region [⟨(some 7), .load1 (.tmp 1), none⟩,
    ⟨(some 8), .bin .quo 3 (.int .i64) (.tmp 7) (.const (.int .i64 4096)), none⟩,
    ⟨(some 6), .mov (.tmp 8), none⟩])
  (.block 0
  (.loop
  (.seq (.seq (.region [⟨(some 9), .mov (.tmp 6), none⟩,
    ⟨(some 10), .bin .mul 3 (.int .i64) (.tmp 9) (.const (.int .i64 4096)), none⟩,
    ⟨(some 11), .load1 (.tmp 1), none⟩,
    ⟨(some 12), .load1 (.tmp 2), none⟩,
    ⟨(some 13), .bin .add 3 (.int .i64) (.tmp 11) (.tmp 12), none⟩,
    ⟨(some 14), .bin .lss 3 (.int .i64) (.tmp 10) (.tmp 13), none⟩])
  (.cond (.tmp 14)
  .skip
  (.exit 0)))
  (.seq (.block 1
  (.seq (.draw [⟨(some 17), .mov (.tmp 0), none⟩,
    ⟨(some 18), .mov (.tmp 6), none⟩,
    ⟨(some 19), .bin .mul 3 (.int .i64) (.tmp 18) (.const (.int .i64 4096)), none⟩,
    ⟨(some 20), .load1 (.tmp 3), none⟩,
    ⟨(some 21), .nilCheck (.tmp 20), none⟩,
    ⟨(some 22), .addOff 0 (.tmp 21), none⟩,
    ⟨(some 23), .load1 (.tmp 22), none⟩,
    ⟨(some 24), .load1 (.tmp 4), none⟩,
    ⟨(some 25), .nilCheck (.tmp 24), none⟩,
    ⟨(some 26), .addOff 2 (.tmp 25), none⟩,
    ⟨(some 27), .load1 (.tmp 26), none⟩,
    ⟨(some 28), .mov (.tmp 6), none⟩,
    ⟨(some 29), .build [(.string ⟨#[]⟩), (.int .i64 0)] [(0, 1, (.tmp 27)), (1, 1, (.tmp 28))], none⟩,
    ⟨(some 30), .nilCheck (.tmp 23), none⟩,
    ⟨(some 31), .mov (.tmp 23), none⟩,
    ⟨(some 32), .callm (.tmp 31) "Block" [(.tmp 29)], none⟩,
    ⟨(some 33), .callv (.tmp 17) [(.tmp 19), (.tmp 32)], none⟩,
    ⟨(some 34), .un .not (.tmp 33), none⟩] [0, 0, 2, 0, 8, 24, 56, 0, 128, 384, 896, 0, 3968, 120, 8312, 32760, 65535, 131071] [0, 1, 2, 3, 4, 5, 6, 7, 8, 9, 10, 11, 12, 13, 14, 15, 16, 17])
  (.cond (.tmp 34)
  .ret
  .skip)))
  (.region [⟨(some 15), .mov (.tmp 6), none⟩,
    ⟨(some 16), .bin .add 3 (.int .i64) (.tmp 15) (.const (.int .i64 1)), none⟩,
    ⟨(some 6), .mov (.tmp 16), none⟩]))))))⟩

/-- strings.LastIndexByte -/
noncomputable def qf72 : RFunc := ⟨8, [.tmp 4],
  (.seq (.region [⟨(some 4), .mov (.const (.int .i64 0)), none⟩])
  (.seq (.region [⟨(some 5), .mov (.tmp 0), none⟩,
    ⟨(some 6), .mov (.tmp 1), none⟩,
    ⟨(some 7), .call 85 [(.tmp 5), (.tmp 6)], none⟩,
    ⟨(some 4), .mov (.tmp 7), none⟩])
  .ret))⟩

/-- (*valise/tree.Tree).come -/
noncomputable def qf73 : RFunc := ⟨35, [.tmp 4, .tmp 5],
  (.seq (.region [⟨(some 4), .mov (.const (.pointer none)), none⟩,
    ⟨(some 5), .mov (.const (.int .i64 0)), none⟩])
  (.seq (.region [⟨(some 9), .mov (.tmp 0), none⟩,
    ⟨(some 10), .nilCheck (.tmp 9), none⟩,
    ⟨(some 11), .addOff 0 (.tmp 10), none⟩,
    ⟨(some 12), .load1 (.tmp 11), none⟩,
    ⟨(some 6), .mov (.tmp 12), none⟩])
  (.seq (.seq (.region [⟨(some 13), .mov (.tmp 1), none⟩,
    ⟨(some 14), .len (.slice 9) (.tmp 13), none⟩,
    ⟨(some 15), .mov (.const (.int .i64 0)), none⟩])
  (.block 0
  (.loop
  (.seq (.region [⟨(some 16), .bin .lss 3 (.int .i64) (.tmp 15) (.tmp 14), none⟩])
  (.seq (.cond (.tmp 16)
  .skip
  (.exit 0))
  (.seq (.block 1
  (.seq (.region [⟨(some 17), .idxS 1 (.tmp 13) (.tmp 15), none⟩,
    ⟨(some 18), .load1 (.tmp 17), none⟩,
    ⟨(some 8), .mov (.tmp 18), none⟩])
  (.seq (.seq (.region [⟨(some 19), .mov (.tmp 6), none⟩,
    ⟨(some 20), .nilCheck (.tmp 19), none⟩,
    ⟨(some 21), .addOff 0 (.tmp 20), none⟩,
    ⟨(some 22), .load1 (.tmp 21), none⟩,
    ⟨(some 23), .un .not (.tmp 22), none⟩])
  (.cond (.tmp 23)
  (.seq (.region [⟨(some 4), .mov (.const (.pointer none)), none⟩,
    ⟨(some 5), .mov (.const (.int .i64 17)), none⟩])
  .ret)
  .skip))
  (.seq (.region [⟨(some 24), .mov (.tmp 6), none⟩,
    ⟨(some 25), .nilCheck (.tmp 24), none⟩,
    ⟨(some 26), .addOff 1 (.tmp 25), none⟩,
    ⟨(some 27), .addOff 0 (.tmp 26), none⟩,
    ⟨(some 28), .load1 (.tmp 27), none⟩,
    ⟨(some 29), .mov (.tmp 8), none⟩,
    ⟨(some 30), .look .string (.pointer none) (.tmp 28) (.tmp 29) false, none⟩,
    ⟨(some 6), .mov (.tmp 30), none⟩])
  (.seq (.region [⟨(some 31), .mov (.tmp 6), none⟩,
    ⟨(some 32), .bin .eql 87 (.pointer 116) (.tmp 31) (.const (.pointer none)), none⟩])
  (.cond (.tmp 32)
  (.seq (.region [⟨(some 4), .mov (.const (.pointer none)), none⟩,
    ⟨(some 5), .mov (.const (.int .i64 9)), none⟩])
  .ret)
  .skip))))))
  (.region [⟨(some 33), .bin .add 3 (.int .i64) (.tmp 15) (.const (.int .i64 1)), none⟩,
    ⟨(some 15), .mov (.tmp 33), none⟩])))))))
  (.seq (.region [⟨(some 34), .mov (.tmp 6), none⟩,
    ⟨(some 4), .mov (.tmp 34), none⟩,
    ⟨(some 5), .mov (.const (.int .i64 0)), none⟩])
  .ret))))⟩

/-- slices.ContainsFunc[[]valise/overlay.handle,valise/overlay.handle] -/
noncomputable def qf74 : RFunc := ⟨9, [.tmp 4],
  (.seq (.region [⟨(some 4), .mov (.const (.bool false)), none⟩])
  (.seq (.region [⟨(some 5), .mov (.tmp 0), none⟩,
    ⟨(some 6), .mov (.tmp 1), none⟩,
    ⟨(some 7), .call 32 [(.tmp 5), (.tmp 6)], none⟩,
    ⟨(some 8), .bin .geq 3 (.int .i64) (.tmp 7) (.const (.int .i64 0)), none⟩,
    ⟨(some 4), .mov (.tmp 8), none⟩])
  .ret))⟩

/-- (*valise/overlay.FS).busy$1 -/
noncomputable def qf75 : RFunc := ⟨8, [.tmp 3],
  (.seq (.region [⟨(some 2), .box 34 2 (.tmp 0), none⟩,
    ⟨(some 3), .mov (.const (.bool false)), none⟩])
  (.seq (.region [⟨(some 4), .addOff 0 (.tmp 2), none⟩,
    ⟨(some 5), .load1 (.tmp 4), none⟩,
    ⟨(some 6), .load1 (.tmp 1), none⟩,
    ⟨(some 7), .bin .eql 9 .string (.tmp 5) (.tmp 6), none⟩,
    ⟨(some 3), .mov (.tmp 7), none⟩])
  .ret))⟩

/-- valise/tree.fits -/
noncomputable def qf76 : RFunc := ⟨20, [.tmp 4],
  (.seq (.region [⟨(some 4), .mov (.const (.bool false)), none⟩])
  (.seq (.region [⟨(some 9), .mov (.tmp 0), none⟩,
    ⟨(some 10), .call 53 [(.tmp 9)], none⟩,
    ⟨(some 8), .mov (.tmp 10), none⟩,
    ⟨(some 11), .ext (.tmp 8) 0, none⟩,
    ⟨(some 12), .ext (.tmp 8) 1, none⟩,
    ⟨(some 5), .mov (.tmp 11), none⟩,
    ⟨(some 6), .mov (.tmp 12), none⟩])
  (.seq (.region [⟨(some 13), .mov (.tmp 6), none⟩,
    ⟨(some 14), .bin .eql 28 (.int .i64) (.tmp 13) (.const (.int .i64 0)), none⟩,
    ⟨(some 7), .new [(.bool false)] 4 1, none⟩,
    ⟨none, .store 1 (.tmp 7) (.tmp 14), none⟩])
  (.seq (.region [⟨(some 15), .mov (.tmp 0), none⟩,
    ⟨(some 16), .mov (.tmp 1), none⟩,
    ⟨(some 17), .mkfunc (.func 86) [] [(.tmp 7)], none⟩,
    ⟨(some 18), .call 47 [(.tmp 15), (.tmp 16), (.tmp 17)], none⟩])
  (.seq (.region [⟨(some 19), .load1 (.tmp 7), none⟩,
    ⟨(some 4), .mov (.tmp 19), none⟩])
  .ret)))))⟩

/-- strings.HasPrefix -/
noncomputable def qf77 : RFunc := ⟨8, [.tmp 4],
  (.seq (.region [⟨(some 4), .mov (.const (.bool false)), none⟩])
  (.seq (.region [⟨(some 5), .mov (.tmp 0), none⟩,
    ⟨(some 6), .mov (.tmp 1), none⟩,
    ⟨(some 7), .call 87 [(.tmp 5), (.tmp 6)], none⟩,
    ⟨(some 4), .mov (.tmp 7), none⟩])
  .ret))⟩

/-- slices.Sorted[string] -/
noncomputable def qf78 : RFunc := ⟨9, [.tmp 2],
  (.seq (.region [⟨(some 2), .mov (.const (.slice none 0 0)), none⟩])
  (.seq (.region [⟨(some 4), .mov (.tmp 0), none⟩,
    ⟨(some 5), .call 88 [(.tmp 4)], none⟩,
    ⟨(some 3), .mov (.tmp 5), none⟩])
  (.seq (.region [⟨(some 6), .mov (.tmp 3), none⟩,
    ⟨(some 7), .call 89 [(.tmp 6)], none⟩])
  (.seq (.region [⟨(some 8), .mov (.tmp 3), none⟩,
    ⟨(some 2), .mov (.tmp 8), none⟩])
  .ret))))⟩

/-- maps.Keys[map[string]*valise/tree.node,string,*valise/tree.node] -/
noncomputable def qf79 : RFunc := ⟨4, [.tmp 2],
  (.seq (.region [⟨(some 1), .box 112 1 (.tmp 0), none⟩,
    ⟨(some 2), .mov (.const .nilFunc), none⟩])
  (.seq (.region [⟨(some 3), .mkfunc (.func 90) [] [(.tmp 1)], none⟩,
    ⟨(some 2), .mov (.tmp 3), none⟩])
  .ret))⟩

/-- internal/stringslite.Cut -/
noncomputable def qf80 : RFunc := ⟨23, [.tmp 4, .tmp 5, .tmp 6],
  (.seq (.region [⟨(some 4), .mov (.const (.string ⟨#[]⟩)), none⟩,
    ⟨(some 5), .mov (.const (.string ⟨#[]⟩)), none⟩,
    ⟨(some 6), .mov (.const (.bool false)), none⟩])
  (.seq (.seq (.region [⟨(some 8), .mov (.tmp 0), none⟩,
    ⟨(some 9), .mov (.tmp 1), none⟩,
    ⟨(some 10), .call 91 [(.tmp 8), (.tmp 9)], none⟩,
    ⟨(some 7), .mov (.tmp 10), none⟩])
  (.seq (.region [⟨(some 11), .mov (.tmp 7), none⟩,
    ⟨(some 12), .bin .geq 3 (.int .i64) (.tmp 11) (.const (.int .i64 0)), none⟩])
  (.cond (.tmp 12)
  (.seq (.draw [⟨(some 13), .mov (.tmp 0), none⟩,
    ⟨(some 14), .mov (.tmp 7), none⟩,
    ⟨(some 15), .sliceStr (.tmp 13) none (some (.tmp 14)), none⟩,
    ⟨(some 16), .mov (.tmp 0), none⟩,
    ⟨(some 17), .mov (.tmp 7), none⟩,
    ⟨(some 18), .mov (.tmp 1), none⟩,
    ⟨(some 19), .len .string (.tmp 18), none⟩,
    ⟨(some 20), .bin .add 3 (.int .i64) (.tmp 17) (.tmp 19), none⟩,
    ⟨(some 21), .sliceStr (.tmp 16) (some (.tmp 20)) none, none⟩,
    ⟨(some 4), .mov (.tmp 15), none⟩,
    ⟨(some 5), .mov (.tmp 21), none⟩,
    ⟨(some 6), .mov (.const (.bool true)), none⟩] [0, 0, 3, 0, 0, 0, 32, 112, 248, 7, 1023, 2047] [0, 1, 2, 3, 4, 5, 6, 7, 8, 9, 10, 11])
  .ret)
  .skip)))
  (.seq (.region [⟨(some 22), .mov (.tmp 0), none⟩,
    ⟨(some 4), .mov (.tmp 22), none⟩,
    ⟨(some 5), .mov (.const (.string ⟨#[]⟩)), none⟩,
    ⟨(some 6), .mov (.const (.bool false)), none⟩])
  .ret)))⟩

/-- (valise/tree.dict[*valise/tree.node]).all$1 -/
noncomputable def qf84 : RFunc := ⟨23, [],
  (.seq (.region [⟨(some 5), .addOff 0 (.tmp 1), none⟩,
    ⟨(some 6), .load1 (.tmp 5), none⟩,
    ⟨(some 7), .call 79 [(.tmp 6)], none⟩,
    ⟨(some 8), .call 78 [(.tmp 7)], none⟩,
    ⟨(some 9), .len (.slice 9) (.tmp 8), none⟩,
    ⟨(some 10), .mov (.const (.int .i64 0)), none⟩])
  (.block 0
  (.loop
  (.seq (.region [⟨(some 11), .bin .lss 3 (.int .i64) (.tmp 10) (.tmp 9), none⟩])
  (.seq (.cond (.tmp 11)
  .skip
  (.exit 0))
  (.seq (.block 1
  (.seq (.region [⟨(some 12), .idxS 1 (.tmp 8) (.tmp 10), none⟩,
    ⟨(some 13), .load1 (.tmp 12), none⟩,
    ⟨(some 4), .mov (.tmp 13), none⟩])
  (.seq (.region [⟨(some 14), .mov (.tmp 0), none⟩,
    ⟨(some 15), .mov (.tmp 4), none⟩,
    ⟨(some 16), .addOff 0 (.tmp 1), none⟩,
    ⟨(some 17), .load1 (.tmp 16), none⟩,
    ⟨(some 18), .mov (.tmp 4), none⟩,
    ⟨(some 19), .look .string (.pointer none) (.tmp 17) (.tmp 18) false, none⟩,
    ⟨(some 20), .callv (.tmp 14) [(.tmp 15), (.tmp 19)], none⟩,
    ⟨(some 21), .un .not (.tmp 20), none⟩])
  (.cond (.tmp 21)
  .ret
  .skip))))
  (.region [⟨(some 22), .bin .add 3 (.int .i64) (.tmp 10) (.const (.int .i64 1)), none⟩,
    ⟨(some 10), .mov (.tmp 22), none⟩])))))))⟩

/-- internal/bytealg.LastIndexByteString -/
noncomputable def qf85 : RFunc := ⟨19, [.tmp 4],
  (.seq (.region [⟨(some 4), .mov (.const (.int .i64 0)), none⟩])
  (.seq (.seq (.region [⟨(some 6), .mov (.tmp 0), none⟩,
    ⟨(some 7), .len .string (.tmp 6), none⟩,
    ⟨(some 8), .bin .sub 3 (.int .i64) (.tmp 7) (.const (.int .i64 1)), none⟩,
    ⟨(some 5), .mov (.tmp 8), none⟩])
  (.block 0
  (.loop
  (.seq (.seq (.region [⟨(some 9), .mov (.tmp 5), none⟩,
    ⟨(some 10), .bin .geq 3 (.int .i64) (.tmp 9) (.const (.int .i64 0)), none⟩])
  (.cond (.tmp 10)
  .skip
  (.exit 0)))
  (.seq (.block 1
  (.seq (.region [⟨(some 13), .mov (.tmp 0), none⟩,
    ⟨(some 14), .mov (.tmp 5), none⟩,
    ⟨(some 15), .strAt (.tmp 13) (.tmp 14), none⟩,
    ⟨(some 16), .mov (.tmp 1), none⟩,
    ⟨(some 17), .bin .eql 5 (.int .u8) (.tmp 15) (.tmp 16), none⟩])
  (.cond (.tmp 17)
  (.seq (.region [⟨(some 18), .mov (.tmp 5), none⟩,
    ⟨(some 4), .mov (.tmp 18), none⟩])
  .ret)
  .skip)))
  (.region [⟨(some 11), .mov (.tmp 5), none⟩,
    ⟨(some 12), .bin .sub 3 (.int .i64) (.tmp 11) (.const (.int .i64 1)), none⟩,
    ⟨(some 5), .mov (.tmp 12), none⟩]))))))
  (.seq (.region [⟨(some 4), .mov (.const (.int .i64 (-1))), none⟩])
  .ret)))⟩

/-- internal/stringslite.HasPrefix -/
noncomputable def qf87 : RFunc := ⟨18, [.tmp 4],
  (.seq (.region [⟨(some 4), .mov (.const (.bool false)), none⟩])
  (.seq (.region [⟨(some 5), .mov (.tmp 0), none⟩,
    ⟨(some 6), .len .string (.tmp 5), none⟩,
    ⟨(some 7), .mov (.tmp 1), none⟩,
    ⟨(some 8), .len .string (.tmp 7), none⟩,
    ⟨(some 9), .bin .geq 3 (.int .i64) (.tmp 6) (.tmp 8), none⟩,
    ⟨(some 10), .mov (.tmp 9), none⟩,
    ⟨(some 11), .mov (.tmp 0), (some (10, true))⟩,
    ⟨(some 12), .mov (.tmp 1), (some (10, true))⟩,
    ⟨(some 13), .len .string (.tmp 12), (some (10, true))⟩,
    ⟨(some 14), .sliceStr (.tmp 11) none (some (.tmp 13)), (some (10, true))⟩,
    ⟨(some 15), .mov (.tmp 1), (some (10, true))⟩,
    ⟨(some 16), .bin .eql 9 .string (.tmp 14) (.tmp 15), (some (10, true))⟩,
    ⟨(some 17), .pick (.tmp 10) (.tmp 16) (.const (.bool false)), none⟩,
    ⟨(some 4), .mov (.tmp 17), none⟩])
  .ret))⟩

/-- slices.Collect[string] -/
noncomputable def qf88 : RFunc := ⟨5, [.tmp 2],
  (.seq (.region [⟨(some 2), .mov (.const (.slice none 0 0)), none⟩])
  (.seq (.region [⟨(some 3), .mov (.tmp 0), none⟩,
    ⟨(some 4), .call 94 [(.const (.slice none 0 0)), (.tmp 3)], none⟩,
    ⟨(some 2), .mov (.tmp 4), none⟩])
  .ret))⟩

/-- slices.Sort[[]string,string] -/
noncomputable def qf89 : RFunc := ⟨11, [],
  (.seq (.region [⟨(some 3), .mov (.tmp 0), none⟩,
    ⟨(some 4), .len (.slice 9) (.tmp 3), none⟩,
    ⟨(some 2), .mov (.tmp 4), none⟩])
  (.region [⟨(some 5), .mov (.tmp 0), none⟩,
    ⟨(some 6), .mov (.tmp 2), none⟩,
    ⟨(some 7), .mov (.tmp 2), none⟩,
    ⟨(some 8), .toInt .u64 (.tmp 7), none⟩,
    ⟨(some 9), .call 96 [(.tmp 8)], none⟩,
    ⟨(some 10), .call 95 [(.tmp 5), (.const (.int .i64 0)), (.tmp 6), (.tmp 9)], none⟩]))⟩

/-- maps.Keys[map[string]*valise/tree.node,string,*valise/tree.node]$1 -/
noncomputable def qf90 : RFunc := ⟨14, [],
  (.seq (.region [⟨(some 4), .load1 (.tmp 1), none⟩,
    ⟨(some 5), .rangeMap (.tmp 4), none⟩])
  (.block 0
  (.loop
  (.seq (.region [⟨(some 6), .next (.tmp 5) false, none⟩,
    ⟨(some 7), .ext (.tmp 6) 0, none⟩])
  (.seq (.cond (.tmp 7)
  .skip
  (.exit 0))
  (.block 1
  (.seq (.region [⟨(some 8), .entry (.tmp 5), none⟩,
    ⟨(some 9), .ext (.tmp 8) 0, none⟩,
    ⟨(some 3), .mov (.tmp 9), none⟩])
  (.seq (.region [⟨(some 10), .mov (.tmp 0), none⟩,
    ⟨(some 11), .mov (.tmp 3), none⟩,
    ⟨(some 12), .callv (.tmp 10) [(.tmp 11)], none⟩,
    ⟨(some 13), .un .not (.tmp 12), none⟩])
  (.cond (.tmp 13)
  .ret
  .skip)))))))))⟩

/-- internal/stringslite.Index -/
noncomputable def qf91 : RFunc := ⟨143, [.tmp 4],
  (.seq (.region [⟨(some 4), .mov (.const (.int .i64 0)), none⟩])
  (.seq (.region [⟨(some 14), .mov (.tmp 1), none⟩,
    ⟨(some 15), .len .string (.tmp 14), none⟩,
    ⟨(some 5), .mov (.tmp 15), none⟩])
  (.seq (.block 0
  (.seq (.region [⟨(some 17), .mov (.tmp 5), none⟩,
    ⟨(some 18), .bin .eql 3 (.int .i64) (.tmp 17) (.const (.int .i64 0)), none⟩,
    ⟨(some 19), .mov (.tmp 18), none⟩,
    ⟨(some 20), .mov (.tmp 1), (some (19, false))⟩,
    ⟨(some 21), .mov (.tmp 0), (some (19, false))⟩,
    ⟨(some 22), .bin .eql 9 .string (.tmp 20) (.tmp 21), (some (19, false))⟩,
    ⟨(some 23), .pick (.tmp 19) (.const (.bool true)) (.tmp 22), none⟩,
    ⟨(some 16), .mov (.tmp 23), none⟩])
  (.cond (.tmp 16)
  (.seq (.region [⟨(some 4), .mov (.const (.int .i64 0)), none⟩])
  .ret)
  (.seq (.region [⟨(some 25), .mov (.tmp 5), none⟩,
    ⟨(some 26), .bin .eql 3 (.int .i64) (.tmp 25) (.const (.int .i64 1)), none⟩,
    ⟨(some 24), .mov (.tmp 26), none⟩])
  (.cond (.tmp 24)
  (.seq (.region [⟨(some 27), .mov (.tmp 0), none⟩,
    ⟨(some 28), .mov (.tmp 1), none⟩,
    ⟨(some 29), .strAt (.tmp 28) (.const (.int .i64 0)), none⟩,
    ⟨(some 30), .call 97 [(.tmp 27), (.tmp 29)], none⟩,
    ⟨(some 4), .mov (.tmp 30), none⟩])
  .ret)
  (.seq (.region [⟨(some 32), .mov (.tmp 5), none⟩,
    ⟨(some 33), .mov (.tmp 0), none⟩,
    ⟨(some 34), .len .string (.tmp 33), none⟩,
    ⟨(some 35), .bin .geq 3 (.int .i64) (.tmp 32) (.tmp 34), none⟩,
    ⟨(some 31), .mov (.tmp 35), none⟩])
  (.cond (.tmp 31)
  (.seq (.region [⟨(some 4), .mov (.const (.int .i64 (-1))), none⟩])
  .ret)
  (.seq (.region [⟨(some 37), .mov (.tmp 5), none⟩,
    ⟨(some 38), .load1 (.global 0), none⟩,
    ⟨(some 39), .bin .leq 3 (.int .i64) (.tmp 37) (.tmp 38), none⟩,
    ⟨(some 40), .mov (.tmp 39), none⟩,
    ⟨(some 41), .mov (.tmp 0), (some (40, true))⟩,
    ⟨(some 42), .len .string (.tmp 41), (some (40, true))⟩,
    ⟨(some 43), .bin .leq 3 (.int .i64) (.tmp 42) (.const (.int .i64 64)), (some (40, true))⟩,
    ⟨(some 44), .pick (.tmp 40) (.tmp 43) (.const (.bool false)), none⟩,
    ⟨(some 36), .mov (.tmp 44), none⟩])
  (.cond (.tmp 36)
  (.seq (.region [⟨(some 45), .mov (.tmp 0), none⟩,
    ⟨(some 46), .mov (.tmp 1), none⟩,
    ⟨(some 47), .call 98 [(.tmp 45), (.tmp 46)], none⟩,
    ⟨(some 4), .mov (.tmp 47), none⟩])
  .ret)
  .skip)))))))))
  (.seq (.region [⟨(some 48), .mov (.tmp 1), none⟩,
    ⟨(some 49), .strAt (.tmp 48) (.const (.int .i64 0)), none⟩,
    ⟨(some 6), .mov (.tmp 49), none⟩])
  (.seq (.region [⟨(some 50), .mov (.tmp 1), none⟩,
    ⟨(some 51), .strAt (.tmp 50) (.const (.int .i64 1)), none⟩,
    ⟨(some 7), .mov (.tmp 51), none⟩])
  (.seq (.region [⟨(some 8), .mov (.const (.int .i64 0)), none⟩])
  (.seq (.region [⟨(some 52), .mov (.tmp 0), none⟩,
    ⟨(some 53), .len .string (.tmp 52), none⟩,
    ⟨(some 54), .mov (.tmp 5), none⟩,
    ⟨(some 55), .bin .sub 3 (.int .i64) (.tmp 53) (.tmp 54), none⟩,
    ⟨(some 56), .bin .add 3 (.int .i64) (.tmp 55) (.const (.int .i64 1)), none⟩,
    ⟨(some 9), .mov (.tmp 56), none⟩])
  (.seq (.region [⟨(some 10), .mov (.const (.int .i64 0)), none⟩])
  (.seq (.block 1
  (.loop
  (.seq (.seq (.region [⟨(some 57), .mov (.tmp 8), none⟩,
    ⟨(some 58), .mov (.tmp 9), none⟩,
    ⟨(some 59), .bin .lss 3 (.int .i64) (.tmp 57) (.tmp 58), none⟩])
  (.cond (.tmp 59)
  .skip
  (.exit 1)))
  (.block 2
  (.seq (.seq (.region [⟨(some 60), .mov (.tmp 0), none⟩,
    ⟨(some 61), .mov (.tmp 8), none⟩,
    ⟨(some 62), .strAt (.tmp 60) (.tmp 61), none⟩,
    ⟨(some 63), .mov (.tmp 6), none⟩,
    ⟨(some 64), .bin .neq 5 (.int .u8) (.tmp 62) (.tmp 63), none⟩])
  (.cond (.tmp 64)
  (.seq (.region [⟨(some 65), .mov (.tmp 0), none⟩,
    ⟨(some 66), .mov (.tmp 8), none⟩,
    ⟨(some 67), .bin .add 3 (.int .i64) (.tmp 66) (.const (.int .i64 1)), none⟩,
    ⟨(some 68), .mov (.tmp 9), none⟩,
    ⟨(some 69), .sliceStr (.tmp 65) (some (.tmp 67)) (some (.tmp 68)), none⟩,
    ⟨(some 70), .mov (.tmp 6), none⟩,
    ⟨(some 71), .call 97 [(.tmp 69), (.tmp 70)], none⟩,
    ⟨(some 11), .mov (.tmp 71), none⟩])
  (.seq (.seq (.region [⟨(some 72), .mov (.tmp 11), none⟩,
    ⟨(some 73), .bin .lss 3 (.int .i64) (.tmp 72) (.const (.int .i64 0)), none⟩])
  (.cond (.tmp 73)
  (.seq (.region [⟨(some 4), .mov (.const (.int .i64 (-1))), none⟩])
  .ret)
  .skip))
  (.region [⟨(some 74), .mov (.tmp 8), none⟩,
    ⟨(some 75), .mov (.tmp 11), none⟩,
    ⟨(some 76), .bin .add 3 (.int .i64) (.tmp 75) (.const (.int .i64 1)), none⟩,
    ⟨(some 77), .bin .add 3 (.int .i64) (.tmp 74) (.tmp 76), none⟩,
    ⟨(some 8), .mov (.tmp 77), none⟩])))
  .skip))
  (.seq (.seq (.region [⟨(some 78), .mov (.tmp 0), none⟩,
    ⟨(some 79), .mov (.tmp 8), none⟩,
    ⟨(some 80), .bin .add 3 (.int .i64) (.tmp 79) (.const (.int .i64 1)), none⟩,
    ⟨(some 81), .strAt (.tmp 78) (.tmp 80), none⟩,
    ⟨(some 82), .mov (.tmp 7), none⟩,
    ⟨(some 83), .bin .eql 5 (.int .u8) (.tmp 81) (.tmp 82), none⟩,
    ⟨(some 84), .mov (.tmp 83), none⟩,
    ⟨(some 85), .mov (.tmp 0), (some (84, true))⟩,
    ⟨(some 86), .mov (.tmp 8), (some (84, true))⟩,
    ⟨(some 87), .mov (.tmp 8), (some (84, true))⟩,
    ⟨(some 88), .mov (.tmp 5), (some (84, true))⟩,
    ⟨(some 89), .bin .add 3 (.int .i64) (.tmp 87) (.tmp 88), (some (84, true))⟩,
    ⟨(some 90), .sliceStr (.tmp 85) (some (.tmp 86)) (some (.tmp 89)), (some (84, true))⟩,
    ⟨(some 91), .mov (.tmp 1), (some (84, true))⟩,
    ⟨(some 92), .bin .eql 9 .string (.tmp 90) (.tmp 91), (some (84, true))⟩,
    ⟨(some 93), .pick (.tmp 84) (.tmp 92) (.const (.bool false)), none⟩])
  (.cond (.tmp 93)
  (.seq (.region [⟨(some 94), .mov (.tmp 8), none⟩,
    ⟨(some 4), .mov (.tmp 94), none⟩])
  .ret)
  .skip))
  (.seq (.region [⟨(some 95), .mov (.tmp 8), none⟩,
    ⟨(some 96), .bin .add 3 (.int .i64) (.tmp 95) (.const (.int .i64 1)), none⟩,
    ⟨(some 8), .mov (.tmp 96), none⟩])
  (.seq (.region [⟨(some 97), .mov (.tmp 10), none⟩,
    ⟨(some 98), .bin .add 3 (.int .i64) (.tmp 97) (.const (.int .i64 1)), none⟩,
    ⟨(some 10), .mov (.tmp 98), none⟩])
  (.seq (.region [⟨(some 99), .mov (.tmp 5), none⟩,
    ⟨(some 100), .load1 (.global 0), none⟩,
    ⟨(some 101), .bin .leq 3 (.int .i64) (.tmp 99) (.tmp 100), none⟩,
    ⟨(some 102), .mov (.tmp 101), none⟩,
    ⟨(some 103), .mov (.tmp 10), (some (102, true))⟩,
    ⟨(some 104), .mov (.tmp 8), (some (102, true))⟩,
    ⟨(some 105), .call 99 [(.tmp 104)], (some (102, true))⟩,
    ⟨(some 106), .bin .gtr 3 (.int .i64) (.tmp 103) (.tmp 105), (some (102, true))⟩,
    ⟨(some 107), .pick (.tmp 102) (.tmp 106) (.const (.bool false)), none⟩])
  (.cond (.tmp 107)
  (.seq (.region [⟨(some 108), .mov (.tmp 0), none⟩,
    ⟨(some 109), .mov (.tmp 8), none⟩,
    ⟨(some 110), .sliceStr (.tmp 108) (some (.tmp 109)) none, none⟩,
    ⟨(some 111), .mov (.tmp 1), none⟩,
    ⟨(some 112), .call 98 [(.tmp 110), (.tmp 111)], none⟩,
    ⟨(some 12), .mov (.tmp 112), none⟩])
  (.seq (.seq (.region [⟨(some 113), .mov (.tmp 12), none⟩,
    ⟨(some 114), .bin .geq 3 (.int .i64) (.tmp 113) (.const (.int .i64 0)), none⟩])
  (.cond (.tmp 114)
  (.seq (.region [⟨(some 115), .mov (.tmp 12), none⟩,
    ⟨(some 116), .mov (.tmp 8), none⟩,
    ⟨(some 117), .bin .add 3 (.int .i64) (.tmp 115) (.tmp 116), none⟩,
    ⟨(some 4), .mov (.tmp 117), none⟩])
  .ret)
  .skip))
  (.seq (.region [⟨(some 4), .mov (.const (.int .i64 (-1))), none⟩])
  .ret)))
  (.seq (.region [⟨(some 118), .mov (.tmp 5), none⟩,
    ⟨(some 119), .load1 (.global 0), none⟩,
    ⟨(some 120), .bin .gtr 3 (.int .i64) (.tmp 118) (.tmp 119), none⟩,
    ⟨(some 121), .mov (.tmp 120), none⟩,
    ⟨(some 122), .mov (.tmp 10), (some (121, true))⟩,
    ⟨(some 123), .mov (.tmp 8), (some (121, true))⟩,
    ⟨(some 124), .bin .shr 3 (.int .i64) (.tmp 123) (.const (.int .u64 4)), (some (121, true))⟩,
    ⟨(some 125), .bin .add 3 (.int .i64) (.const (.int .i64 4)) (.tmp 124), (some (121, true))⟩,
    ⟨(some 126), .bin .geq 3 (.int .i64) (.tmp 122) (.tmp 125), (some (121, true))⟩,
    ⟨(some 127), .pick (.tmp 121) (.tmp 126) (.const (.bool false)), none⟩,
    ⟨(some 128), .mov (.tmp 127), none⟩,
    ⟨(some 129), .mov (.tmp 8), (some (128, true))⟩,
    ⟨(some 130), .mov (.tmp 9), (some (128, true))⟩,
    ⟨(some 131), .bin .lss 3 (.int .i64) (.tmp 129) (.tmp 130), (some (128, true))⟩,
    ⟨(some 132), .pick (.tmp 128) (.tmp 131) (.const (.bool false)), none⟩])
  (.cond (.tmp 132)
  (.seq (.region [⟨(some 133), .mov (.tmp 0), none⟩,
    ⟨(some 134), .mov (.tmp 8), none⟩,
    ⟨(some 135), .sliceStr (.tmp 133) (some (.tmp 134)) none, none⟩,
    ⟨(some 136), .mov (.tmp 1), none⟩,
    ⟨(some 137), .call 100 [(.tmp 135), (.tmp 136)], none⟩,
    ⟨(some 13), .mov (.tmp 137), none⟩])
  (.seq (.seq (.region [⟨(some 138), .mov (.tmp 13), none⟩,
    ⟨(some 139), .bin .lss 3 (.int .i64) (.tmp 138) (.const (.int .i64 0)), none⟩])
  (.cond (.tmp 139)
  (.seq (.region [⟨(some 4), .mov (.const (.int .i64 (-1))), none⟩])
  .ret)
  .skip))
  (.seq (.region [⟨(some 140), .mov (.tmp 8), none⟩,
    ⟨(some 141), .mov (.tmp 13), none⟩,
    ⟨(some 142), .bin .add 3 (.int .i64) (.tmp 140) (.tmp 141), none⟩,
    ⟨(some 4), .mov (.tmp 142), none⟩])
  .ret)))
  .skip))))))))))))
  (.seq (.region [⟨(some 4), .mov (.const (.int .i64 (-1))), none⟩])
  .ret))))))))))⟩

/-- slices.AppendSeq[[]string,string] -/
noncomputable def qf94 : RFunc := ⟨13, [.tmp 4],
  (.seq (.region [⟨(some 2), .box 39 1 (.tmp 0), none⟩,
    ⟨(some 4), .mov (.const (.slice none 0 0)), none⟩])
  (.seq (.seq (.region [⟨(some 6), .mov (.tmp 1), none⟩])
  (.block 0
  (.rangeFunc (.tmp 6) [7]
  (.region [⟨(some 5), .mov (.tmp 7), none⟩])
  (.block 1
  (.region [⟨(some 8), .load1 (.tmp 2), none⟩,
    ⟨(some 9), .mov (.tmp 5), none⟩,
    ⟨(some 10), .buildSlice 9 1 1 [(.string ⟨#[]⟩)] [(0, 1, (.tmp 9))], none⟩,
    ⟨(some 11), .append 9 1 16 [(.string ⟨#[]⟩)] (.tmp 8) (.tmp 10), none⟩,
    ⟨none, .store 1 (.tmp 2) (.tmp 11), none⟩])))))
  (.seq (.region [⟨(some 12), .load1 (.tmp 2), none⟩,
    ⟨(some 4), .mov (.tmp 12), none⟩])
  .ret)))⟩

/-- slices.pdqsortOrdered[string] -/
noncomputable def qf95 : RFunc := ⟨134, [],
  (.seq (.region [⟨(some 8), .mov (.const (.bool true)), none⟩])
  (.seq (.region [⟨(some 9), .mov (.const (.bool true)), none⟩])
  (.block 0
  (.loop
  (.block 1
  (.seq (.region [⟨(some 19), .mov (.tmp 2), none⟩,
    ⟨(some 20), .mov (.tmp 1), none⟩,
    ⟨(some 21), .bin .sub 3 (.int .i64) (.tmp 19) (.tmp 20), none⟩,
    ⟨(some 10), .mov (.tmp 21), none⟩])
  (.seq (.seq (.region [⟨(some 22), .mov (.tmp 10), none⟩,
    ⟨(some 23), .bin .leq 3 (.int .i64) (.tmp 22) (.const (.int .i64 12)), none⟩])
  (.cond (.tmp 23)
  (.seq (.region [⟨(some 24), .mov (.tmp 0), none⟩,
    ⟨(some 25), .mov (.tmp 1), none⟩,
    ⟨(some 26), .mov (.tmp 2), none⟩,
    ⟨(some 27), .call 103 [(.tmp 24), (.tmp 25), (.tmp 26)], none⟩])
  .ret)
  .skip))
  (.seq (.seq (.region [⟨(some 28), .mov (.tmp 3), none⟩,
    ⟨(some 29), .bin .eql 3 (.int .i64) (.tmp 28) (.const (.int .i64 0)), none⟩])
  (.cond (.tmp 29)
  (.seq (.region [⟨(some 30), .mov (.tmp 0), none⟩,
    ⟨(some 31), .mov (.tmp 1), none⟩,
    ⟨(some 32), .mov (.tmp 2), none⟩,
    ⟨(some 33), .call 104 [(.tmp 30), (.tmp 31), (.tmp 32)], none⟩])
  .ret)
  .skip))
  (.seq (.seq (.region [⟨(some 34), .mov (.tmp 8), none⟩,
    ⟨(some 35), .un .not (.tmp 34), none⟩])
  (.cond (.tmp 35)
  (.seq (.region [⟨(some 36), .mov (.tmp 0), none⟩,
    ⟨(some 37), .mov (.tmp 1), none⟩,
    ⟨(some 38), .mov (.tmp 2), none⟩,
    ⟨(some 39), .call 105 [(.tmp 36), (.tmp 37), (.tmp 38)], none⟩])
  (.region [⟨(some 40), .mov (.tmp 3), none⟩,
    ⟨(some 41), .bin .sub 3 (.int .i64) (.tmp 40) (.const (.int .i64 1)), none⟩,
    ⟨(some 3), .mov (.tmp 41), none⟩]))
  .skip))
  (.seq (.region [⟨(some 43), .mov (.tmp 0), none⟩,
    ⟨(some 44), .mov (.tmp 1), none⟩,
    ⟨(some 45), .mov (.tmp 2), none⟩,
    ⟨(some 46), .call 106 [(.tmp 43), (.tmp 44), (.tmp 45)], none⟩,
    ⟨(some 42), .mov (.tmp 46), none⟩,
    ⟨(some 47), .ext (.tmp 42) 0, none⟩,
    ⟨(some 48), .ext (.tmp 42) 1, none⟩,
    ⟨(some 11), .mov (.tmp 47), none⟩,
    ⟨(some 12), .mov (.tmp 48), none⟩])
  (.seq (.seq (.region [⟨(some 49), .mov (.tmp 12), none⟩,
    ⟨(some 50), .bin .eql 164 (.int .i64) (.tmp 49) (.const (.int .i64 2)), none⟩])
  (.cond (.tmp 50)
  (.seq (.region [⟨(some 51), .mov (.tmp 0), none⟩,
    ⟨(some 52), .mov (.tmp 1), none⟩,
    ⟨(some 53), .mov (.tmp 2), none⟩,
    ⟨(some 54), .call 107 [(.tmp 51), (.tmp 52), (.tmp 53)], none⟩])
  (.seq (.region [⟨(some 55), .mov (.tmp 2), none⟩,
    ⟨(some 56), .bin .sub 3 (.int .i64) (.tmp 55) (.const (.int .i64 1)), none⟩,
    ⟨(some 57), .mov (.tmp 11), none⟩,
    ⟨(some 58), .mov (.tmp 1), none⟩,
    ⟨(some 59), .bin .sub 3 (.int .i64) (.tmp 57) (.tmp 58), none⟩,
    ⟨(some 60), .bin .sub 3 (.int .i64) (.tmp 56) (.tmp 59), none⟩,
    ⟨(some 11), .mov (.tmp 60), none⟩])
  (.region [⟨(some 12), .mov (.const (.int .i64 1)), none⟩])))
  .skip))
  (.seq (.seq (.region [⟨(some 61), .mov (.tmp 8), none⟩,
    ⟨(some 62), .mov (.tmp 61), none⟩,
    ⟨(some 63), .mov (.tmp 9), (some (62, true))⟩,
    ⟨(some 64), .pick (.tmp 62) (.tmp 63) (.const (.bool false)), none⟩,
    ⟨(some 65), .mov (.tmp 64), none⟩,
    ⟨(some 66), .mov (.tmp 12), (some (65, true))⟩,
    ⟨(some 67), .bin .eql 164 (.int .i64) (.tmp 66) (.const (.int .i64 1)), (some (65, true))⟩,
    ⟨(some 68), .pick (.tmp 65) (.tmp 67) (.const (.bool false)), none⟩])
  (.cond (.tmp 68)
  (.seq (.region [⟨(some 69), .mov (.tmp 0), none⟩,
    ⟨(some 70), .mov (.tmp 1), none⟩,
    ⟨(some 71), .mov (.tmp 2), none⟩,
    ⟨(some 72), .call 108 [(.tmp 69), (.tmp 70), (.tmp 71)], none⟩])
  (.cond (.tmp 72)
  .ret
  .skip))
  .skip))
  (.seq (.seq (.draw [⟨(some 73), .mov (.tmp 1), none⟩,
    ⟨(some 74), .bin .gtr 3 (.int .i64) (.tmp 73) (.const (.int .i64 0)), none⟩,
    ⟨(some 75), .mov (.tmp 74), none⟩,
    ⟨(some 76), .mov (.tmp 0), (some (75, true))⟩,
    ⟨(some 77), .mov (.tmp 1), (some (75, true))⟩,
    ⟨(some 78), .bin .sub 3 (.int .i64) (.tmp 77) (.const (.int .i64 1)), (some (75, true))⟩,
    ⟨(some 79), .idxS 1 (.tmp 76) (.tmp 78), (some (75, true))⟩,
    ⟨(some 80), .load1 (.tmp 79), (some (75, true))⟩,
    ⟨(some 81), .mov (.tmp 0), (some (75, true))⟩,
    ⟨(some 82), .mov (.tmp 11), (some (75, true))⟩,
    ⟨(some 83), .idxS 1 (.tmp 81) (.tmp 82), (some (75, true))⟩,
    ⟨(some 84), .load1 (.tmp 83), (some (75, true))⟩,
    ⟨(some 85), .call 109 [(.tmp 80), (.tmp 84)], (some (75, true))⟩,
    ⟨(some 86), .un .not (.tmp 85), (some (75, true))⟩,
    ⟨(some 87), .pick (.tmp 75) (.tmp 86) (.const (.bool false)), none⟩] [0, 1, 3, 7, 7, 23, 63, 127, 7, 7, 775, 1799, 4095, 8191, 16383] [0, 1, 2, 3, 4, 5, 6, 7, 8, 9, 10, 11, 12, 13, 14])
  (.cond (.tmp 87)
  (.seq (.region [⟨(some 88), .mov (.tmp 0), none⟩,
    ⟨(some 89), .mov (.tmp 1), none⟩,
    ⟨(some 90), .mov (.tmp 2), none⟩,
    ⟨(some 91), .mov (.tmp 11), none⟩,
    ⟨(some 92), .call 110 [(.tmp 88), (.tmp 89), (.tmp 90), (.tmp 91)], none⟩,
    ⟨(some 13), .mov (.tmp 92), none⟩])
  (.seq (.region [⟨(some 93), .mov (.tmp 13), none⟩,
    ⟨(some 1), .mov (.tmp 93), none⟩])
  (.exit 1)))
  .skip))
  (.seq (.region [⟨(some 95), .mov (.tmp 0), none⟩,
    ⟨(some 96), .mov (.tmp 1), none⟩,
    ⟨(some 97), .mov (.tmp 2), none⟩,
    ⟨(some 98), .mov (.tmp 11), none⟩,
    ⟨(some 99), .call 111 [(.tmp 95), (.tmp 96), (.tmp 97), (.tmp 98)], none⟩,
    ⟨(some 94), .mov (.tmp 99), none⟩,
    ⟨(some 100), .ext (.tmp 94) 0, none⟩,
    ⟨(some 101), .ext (.tmp 94) 1, none⟩,
    ⟨(some 14), .mov (.tmp 100), none⟩,
    ⟨(some 15), .mov (.tmp 101), none⟩])
  (.seq (.region [⟨(some 102), .mov (.tmp 15), none⟩,
    ⟨(some 9), .mov (.tmp 102), none⟩])
  (.seq (.region [⟨(some 103), .mov (.tmp 14), none⟩,
    ⟨(some 104), .mov (.tmp 1), none⟩,
    ⟨(some 105), .bin .sub 3 (.int .i64) (.tmp 103) (.tmp 104), none⟩,
    ⟨(some 106), .mov (.tmp 2), none⟩,
    ⟨(some 107), .mov (.tmp 14), none⟩,
    ⟨(some 108), .bin .sub 3 (.int .i64) (.tmp 106) (.tmp 107), none⟩,
    ⟨(some 16), .mov (.tmp 105), none⟩,
    ⟨(some 17), .mov (.tmp 108), none⟩])
  (.seq (.region [⟨(some 109), .mov (.tmp 10), none⟩,
    ⟨(some 110), .bin .quo 3 (.int .i64) (.tmp 109) (.const (.int .i64 8)), none⟩,
    ⟨(some 18), .mov (.tmp 110), none⟩])
  (.seq (.region [⟨(some 111), .mov (.tmp 16), none⟩,
    ⟨(some 112), .mov (.tmp 17), none⟩,
    ⟨(some 113), .bin .lss 3 (.int .i64) (.tmp 111) (.tmp 112), none⟩])
  (.cond (.tmp 113)
  (.seq (.region [⟨(some 114), .mov (.tmp 16), none⟩,
    ⟨(some 115), .mov (.tmp 18), none⟩,
    ⟨(some 116), .bin .geq 3 (.int .i64) (.tmp 114) (.tmp 115), none⟩,
    ⟨(some 8), .mov (.tmp 116), none⟩])
  (.seq (.region [⟨(some 117), .mov (.tmp 0), none⟩,
    ⟨(some 118), .mov (.tmp 1), none⟩,
    ⟨(some 119), .mov (.tmp 14), none⟩,
    ⟨(some 120), .mov (.tmp 3), none⟩,
    ⟨(some 121), .call 95 [(.tmp 117), (.tmp 118), (.tmp 119), (.tmp 120)], none⟩])
  (.region [⟨(some 122), .mov (.tmp 14), none⟩,
    ⟨(some 123), .bin .add 3 (.int .i64) (.tmp 122) (.const (.int .i64 1)), none⟩,
    ⟨(some 1), .mov (.tmp 123), none⟩])))
  (.seq (.region [⟨(some 124), .mov (.tmp 17), none⟩,
    ⟨(some 125), .mov (.tmp 18), none⟩,
    ⟨(some 126), .bin .geq 3 (.int .i64) (.tmp 124) (.tmp 125), none⟩,
    ⟨(some 8), .mov (.tmp 126), none⟩])
  (.seq (.region [⟨(some 127), .mov (.tmp 0), none⟩,
    ⟨(some 128), .mov (.tmp 14), none⟩,
    ⟨(some 129), .bin .add 3 (.int .i64) (.tmp 128) (.const (.int .i64 1)), none⟩,
    ⟨(some 130), .mov (.tmp 2), none⟩,
    ⟨(some 131), .mov (.tmp 3), none⟩,
    ⟨(some 132), .call 95 [(.tmp 127), (.tmp 129), (.tmp 130), (.tmp 131)], none⟩])
  (.region [⟨(some 133), .mov (.tmp 14), none⟩,
    ⟨(some 2), .mov (.tmp 133), none⟩]))))))))))))))))))))))⟩

/-- math/bits.Len -/
noncomputable def qf96 : RFunc := ⟨8, [.tmp 2],
  (.seq (.region [⟨(some 2), .mov (.const (.int .i64 0)), none⟩])
  (.seq (.cond (.const (.bool false))
  (.seq (.region [⟨(some 3), .mov (.tmp 0), none⟩,
    ⟨(some 4), .toInt .u32 (.tmp 3), none⟩,
    ⟨(some 5), .call 112 [(.tmp 4)], none⟩,
    ⟨(some 2), .mov (.tmp 5), none⟩])
  .ret)
  .skip)
  (.seq (.region [⟨(some 6), .mov (.tmp 0), none⟩,
    ⟨(some 7), .call 113 [(.tmp 6)], none⟩,
    ⟨(some 2), .mov (.tmp 7), none⟩])
  .ret)))⟩

/-- internal/stringslite.IndexByte -/
noncomputable def qf97 : RFunc := ⟨8, [.tmp 4],
  (.seq (.region [⟨(some 4), .mov (.const (.int .i64 0)), none⟩])
  (.seq (.region [⟨(some 5), .mov (.tmp 0), none⟩,
    ⟨(some 6), .mov (.tmp 1), none⟩,
    ⟨(some 7), .xbyte (.tmp 5) (.tmp 6), none⟩,
    ⟨(some 4), .mov (.tmp 7), none⟩])
  .ret))⟩

/-- slices.insertionSortOrdered[string] -/
noncomputable def qf103 : RFunc := ⟨49, [],
  (.seq (.region [⟨(some 8), .mov (.tmp 1), none⟩,
    ⟨(some 9), .bin .add 3 (.int .i64) (.tmp 8) (.const (.int .i64 1)), none⟩,
    ⟨(some 6), .mov (.tmp 9), none⟩])
  (.block 0
  (.loop
  (.seq (.seq (.region [⟨(some 10), .mov (.tmp 6), none⟩,
    ⟨(some 11), .mov (.tmp 2), none⟩,
    ⟨(some 12), .bin .lss 3 (.int .i64) (.tmp 10) (.tmp 11), none⟩])
  (.cond (.tmp 12)
  .skip
  (.exit 0)))
  (.seq (.block 1
  (.seq (.region [⟨(some 15), .mov (.tmp 6), none⟩,
    ⟨(some 7), .mov (.tmp 15), none⟩])
  (.block 2
  (.loop
  (.seq (.seq (.draw [⟨(some 16), .mov (.tmp 7), none⟩,
    ⟨(some 17), .mov (.tmp 1), none⟩,
    ⟨(some 18), .bin .gtr 3 (.int .i64) (.tmp 16) (.tmp 17), none⟩,
    ⟨(some 19), .mov (.tmp 18), none⟩,
    ⟨(some 20), .mov (.tmp 0), (some (19, true))⟩,
    ⟨(some 21), .mov (.tmp 7), (some (19, true))⟩,
    ⟨(some 22), .idxS 1 (.tmp 20) (.tmp 21), (some (19, true))⟩,
    ⟨(some 23), .load1 (.tmp 22), (some (19, true))⟩,
    ⟨(some 24), .mov (.tmp 0), (some (19, true))⟩,
    ⟨(some 25), .mov (.tmp 7), (some (19, true))⟩,
    ⟨(some 26), .bin .sub 3 (.int .i64) (.tmp 25) (.const (.int .i64 1)), (some (19, true))⟩,
    ⟨(some 27), .idxS 1 (.tmp 24) (.tmp 26), (some (19, true))⟩,
    ⟨(some 28), .load1 (.tmp 27), (some (19, true))⟩,
    ⟨(some 29), .call 109 [(.tmp 23), (.tmp 28)], (some (19, true))⟩,
    ⟨(some 30), .pick (.tmp 19) (.tmp 29) (.const (.bool false)), none⟩] [0, 0, 3, 7, 15, 15, 63, 127, 15, 15, 527, 1807, 3855, 8191, 16383] [0, 1, 2, 3, 4, 5, 6, 7, 8, 9, 10, 11, 12, 13, 14])
  (.cond (.tmp 30)
  .skip
  (.exit 2)))
  (.seq (.block 3
  (.draw [⟨(some 33), .mov (.tmp 0), none⟩,
    ⟨(some 34), .mov (.tmp 7), none⟩,
    ⟨(some 35), .mov (.tmp 0), none⟩,
    ⟨(some 36), .mov (.tmp 7), none⟩,
    ⟨(some 37), .bin .sub 3 (.int .i64) (.tmp 36) (.const (.int .i64 1)), none⟩,
    ⟨(some 38), .mov (.tmp 0), none⟩,
    ⟨(some 39), .mov (.tmp 7), none⟩,
    ⟨(some 40), .bin .sub 3 (.int .i64) (.tmp 39) (.const (.int .i64 1)), none⟩,
    ⟨(some 41), .idxS 1 (.tmp 38) (.tmp 40), none⟩,
    ⟨(some 42), .load1 (.tmp 41), none⟩,
    ⟨(some 43), .mov (.tmp 0), none⟩,
    ⟨(some 44), .mov (.tmp 7), none⟩,
    ⟨(some 45), .idxS 1 (.tmp 43) (.tmp 44), none⟩,
    ⟨(some 46), .load1 (.tmp 45), none⟩,
    ⟨(some 47), .idxS 1 (.tmp 33) (.tmp 34), none⟩,
    ⟨none, .store 1 (.tmp 47) (.tmp 42), none⟩,
    ⟨(some 48), .idxS 1 (.tmp 35) (.tmp 37), none⟩,
    ⟨none, .store 1 (.tmp 48) (.tmp 46), none⟩] [0, 0, 0, 0, 8, 0, 0, 64, 224, 480, 0, 0, 3072, 7168, 16355, 32739, 65535, 131071] [0, 1, 2, 3, 4, 5, 6, 7, 8, 9, 10, 11, 12, 13, 14, 15, 16, 17]))
  (.region [⟨(some 31), .mov (.tmp 7), none⟩,
    ⟨(some 32), .bin .sub 3 (.int .i64) (.tmp 31) (.const (.int .i64 1)), none⟩,
    ⟨(some 7), .mov (.tmp 32), none⟩])))))))
  (.region [⟨(some 13), .mov (.tmp 6), none⟩,
    ⟨(some 14), .bin .add 3 (.int .i64) (.tmp 13) (.const (.int .i64 1)), none⟩,
    ⟨(some 6), .mov (.tmp 14), none⟩]))))))⟩

/-- math/bits.Len64 -/
noncomputable def qf113 : RFunc := ⟨25, [.tmp 2],
  (.seq (.region [⟨(some 2), .mov (.const (.int .i64 0)), none⟩])
  (.seq (.seq (.region [⟨(some 3), .mov (.tmp 0), none⟩,
    ⟨(some 4), .bin .geq 174 (.int .u64) (.tmp 3) (.const (.int .u64 4294967296)), none⟩])
  (.cond (.tmp 4)
  (.seq (.region [⟨(some 5), .mov (.tmp 0), none⟩,
    ⟨(some 6), .bin .shr 174 (.int .u64) (.tmp 5) (.const (.int .u64 32)), none⟩,
    ⟨(some 0), .mov (.tmp 6), none⟩])
  (.region [⟨(some 2), .mov (.const (.int .i64 32)), none⟩]))
  .skip))
  (.seq (.seq (.region [⟨(some 7), .mov (.tmp 0), none⟩,
    ⟨(some 8), .bin .geq 174 (.int .u64) (.tmp 7) (.const (.int .u64 65536)), none⟩])
  (.cond (.tmp 8)
  (.seq (.region [⟨(some 9), .mov (.tmp 0), none⟩,
    ⟨(some 10), .bin .shr 174 (.int .u64) (.tmp 9) (.const (.int .u64 16)), none⟩,
    ⟨(some 0), .mov (.tmp 10), none⟩])
  (.region [⟨(some 11), .mov (.tmp 2), none⟩,
    ⟨(some 12), .bin .add 3 (.int .i64) (.tmp 11) (.const (.int .i64 16)), none⟩,
    ⟨(some 2), .mov (.tmp 12), none⟩]))
  .skip))
  (.seq (.seq (.region [⟨(some 13), .mov (.tmp 0), none⟩,
    ⟨(some 14), .bin .geq 174 (.int .u64) (.tmp 13) (.const (.int .u64 256)), none⟩])
  (.cond (.tmp 14)
  (.seq (.region [⟨(some 15), .mov (.tmp 0), none⟩,
    ⟨(some 16), .bin .shr 174 (.int .u64) (.tmp 15) (.const (.int .u64 8)), none⟩,
    ⟨(some 0), .mov (.tmp 16), none⟩])
  (.region [⟨(some 17), .mov (.tmp 2), none⟩,
    ⟨(some 18), .bin .add 3 (.int .i64) (.tmp 17) (.const (.int .i64 8)), none⟩,
    ⟨(some 2), .mov (.tmp 18), none⟩]))
  .skip))
  (.seq (.region [⟨(some 19), .mov (.tmp 2), none⟩,
    ⟨(some 20), .mov (.tmp 0), none⟩,
    ⟨(some 21), .toInt .u8 (.tmp 20), none⟩,
    ⟨(some 22), .strAt (.const (.string ⟨#[0, 1, 2, 2, 3, 3, 3, 3, 4, 4, 4, 4, 4, 4, 4, 4, 5, 5, 5, 5, 5, 5, 5, 5, 5, 5, 5, 5, 5, 5, 5, 5, 6, 6, 6, 6, 6, 6, 6, 6, 6, 6, 6, 6, 6, 6, 6, 6, 6, 6, 6, 6, 6, 6, 6, 6, 6, 6, 6, 6, 6, 6, 6, 6, 7, 7, 7, 7, 7, 7, 7, 7, 7, 7, 7, 7, 7, 7, 7, 7, 7, 7, 7, 7, 7, 7, 7, 7, 7, 7, 7, 7, 7, 7, 7, 7, 7, 7, 7, 7, 7, 7, 7, 7, 7, 7, 7, 7, 7, 7, 7, 7, 7, 7, 7, 7, 7, 7, 7, 7, 7, 7, 7, 7, 7, 7, 7, 7, 8, 8, 8, 8, 8, 8, 8, 8, 8, 8, 8, 8, 8, 8, 8, 8, 8, 8, 8, 8, 8, 8, 8, 8, 8, 8, 8, 8, 8, 8, 8, 8, 8, 8, 8, 8, 8, 8, 8, 8, 8, 8, 8, 8, 8, 8, 8, 8, 8, 8, 8, 8, 8, 8, 8, 8, 8, 8, 8, 8, 8, 8, 8, 8, 8, 8, 8, 8, 8, 8, 8, 8, 8, 8, 8, 8, 8, 8, 8, 8, 8, 8, 8, 8, 8, 8, 8, 8, 8, 8, 8, 8, 8, 8, 8, 8, 8, 8, 8, 8, 8, 8, 8, 8, 8, 8, 8, 8, 8, 8, 8, 8, 8, 8, 8, 8, 8, 8, 8, 8, 8, 8, 8, 8, 8, 8, 8, 8]⟩)) (.tmp 21), none⟩,
    ⟨(some 23), .toInt .i64 (.tmp 22), none⟩,
    ⟨(some 24), .bin .add 3 (.int .i64) (.tmp 19) (.tmp 23), none⟩,
    ⟨(some 2), .mov (.tmp 24), none⟩])
  .ret)))))⟩

/-- (*valise/valiselaw19.shelf).Block -/
noncomputable def qf138 : RFunc := ⟨77, [.tmp 4],
  (.seq (.region [⟨(some 3), .box 135 2 (.tmp 1), none⟩,
    ⟨(some 4), .mov (.const (.slice none 0 0)), none⟩])
  (.seq (.seq (.region [⟨(some 5), .mov (.const (.int .i64 0)), none⟩])
  (.block 0
  (.loop
  (.seq (.seq (.region [⟨(some 7), .mov (.tmp 5), none⟩,
    ⟨(some 8), .mov (.tmp 0), none⟩,
    ⟨(some 9), .nilCheck (.tmp 8), none⟩,
    ⟨(some 10), .addOff 0 (.tmp 9), none⟩,
    ⟨(some 11), .load1 (.tmp 10), none⟩,
    ⟨(some 12), .len (.slice 56) (.tmp 11), none⟩,
    ⟨(some 13), .bin .lss 3 (.int .i64) (.tmp 7) (.tmp 12), none⟩])
  (.cond (.tmp 13)
  .skip
  (.exit 0)))
  (.seq (.block 1
  (.seq (.region [⟨(some 16), .mov (.tmp 0), none⟩,
    ⟨(some 17), .nilCheck (.tmp 16), none⟩,
    ⟨(some 18), .addOff 0 (.tmp 17), none⟩,
    ⟨(some 19), .load1 (.tmp 18), none⟩,
    ⟨(some 20), .mov (.tmp 5), none⟩,
    ⟨(some 21), .idxS 3 (.tmp 19) (.tmp 20), none⟩,
    ⟨(some 22), .addOff 2 (.tmp 21), none⟩,
    ⟨(some 23), .load1 (.tmp 22), none⟩,
    ⟨(some 6), .mov (.tmp 23), none⟩])
  (.seq (.draw [⟨(some 24), .mov (.tmp 0), none⟩,
    ⟨(some 25), .nilCheck (.tmp 24), none⟩,
    ⟨(some 26), .addOff 0 (.tmp 25), none⟩,
    ⟨(some 27), .load1 (.tmp 26), none⟩,
    ⟨(some 28), .mov (.tmp 5), none⟩,
    ⟨(some 29), .idxS 3 (.tmp 27) (.tmp 28), none⟩,
    ⟨(some 30), .addOff 0 (.tmp 29), none⟩,
    ⟨(some 31), .load1 (.tmp 30), none⟩,
    ⟨(some 32), .addOff 0 (.tmp 3), none⟩,
    ⟨(some 33), .load1 (.tmp 32), none⟩,
    ⟨(some 34), .bin .eql 9 .string (.tmp 31) (.tmp 33), none⟩,
    ⟨(some 35), .mov (.tmp 34), none⟩,
    ⟨(some 36), .mov (.tmp 0), (some (35, true))⟩,
    ⟨(some 37), .nilCheck (.tmp 36), (some (35, true))⟩,
    ⟨(some 38), .addOff 0 (.tmp 37), (some (35, true))⟩,
    ⟨(some 39), .load1 (.tmp 38), (some (35, true))⟩,
    ⟨(some 40), .mov (.tmp 5), (some (35, true))⟩,
    ⟨(some 41), .idxS 3 (.tmp 39) (.tmp 40), (some (35, true))⟩,
    ⟨(some 42), .addOff 1 (.tmp 41), (some (35, true))⟩,
    ⟨(some 43), .load1 (.tmp 42), (some (35, true))⟩,
    ⟨(some 44), .un .not (.tmp 43), (some (35, true))⟩,
    ⟨(some 45), .pick (.tmp 35) (.tmp 44) (.const (.bool false)), none⟩,
    ⟨(some 46), .mov (.tmp 45), none⟩,
    ⟨(some 47), .addOff 1 (.tmp 3), (some (46, true))⟩,
    ⟨(some 48), .load1 (.tmp 47), (some (46, true))⟩,
    ⟨(some 49), .bin .geq 3 (.int .i64) (.tmp 48) (.const (.int .i64 0)), (some (46, true))⟩,
    ⟨(some 50), .pick (.tmp 46) (.tmp 49) (.const (.bool false)), none⟩,
    ⟨(some 51), .mov (.tmp 50), none⟩,
    ⟨(some 52), .addOff 1 (.tmp 3), (some (51, true))⟩,
    ⟨(some 53), .load1 (.tmp 52), (some (51, true))⟩,
    ⟨(some 54), .mov (.tmp 6), (some (51, true))⟩,
    ⟨(some 55), .len (.slice 5) (.tmp 54), (some (51, true))⟩,
    ⟨(some 56), .bin .add 3 (.int .i64) (.tmp 55) (.const (.int .i64 4095)), (some (51, true))⟩,
    ⟨(some 57), .bin .quo 3 (.int .i64) (.tmp 56) (.const (.int .i64 4096)), (some (51, true))⟩,
    ⟨(some 58), .bin .lss 3 (.int .i64) (.tmp 53) (.tmp 57), (some (51, true))⟩,
    ⟨(some 59), .pick (.tmp 51) (.tmp 58) (.const (.bool false)), none⟩] [0, 1, 3, 7, 0, 31, 63, 127, 0, 256, 1023, 2047, 4095, 8191, 16383, 32767, 4095, 131071, 262143, 524287, 1048575, 2097151, 4194303, 8388607, 16777215, 33554431, 67108863, 134217727, 268435455, 536870911, 268435455, 1342177279, 3489660927, 7784628223, 17179869183, 34359738367] [0, 1, 2, 3, 4, 5, 6, 7, 8, 9, 10, 11, 12, 13, 14, 15, 16, 17, 18, 19, 20, 21, 22, 23, 24, 25, 26, 27, 28, 29, 30, 31, 32, 33, 34, 35])
  (.cond (.tmp 59)
  (.seq (.region [⟨(some 60), .buildSlice 5 1 0 [(.int .u8 0)] [], none⟩,
    ⟨(some 61), .mov (.tmp 6), none⟩,
    ⟨(some 62), .addOff 1 (.tmp 3), none⟩,
    ⟨(some 63), .load1 (.tmp 62), none⟩,
    ⟨(some 64), .bin .mul 3 (.int .i64) (.const (.int .i64 4096)) (.tmp 63), none⟩,
    ⟨(some 65), .mov (.tmp 6), none⟩,
    ⟨(some 66), .len (.slice 5) (.tmp 65), none⟩,
    ⟨(some 67), .addOff 1 (.tmp 3), none⟩,
    ⟨(some 68), .load1 (.tmp 67), none⟩,
    ⟨(some 69), .bin .mul 3 (.int .i64) (.const (.int .i64 4096)) (.tmp 68), none⟩,
    ⟨(some 70), .bin .add 3 (.int .i64) (.tmp 69) (.const (.int .i64 4096)), none⟩,
    ⟨(some 71), .min2 (.tmp 66) (.tmp 70), none⟩,
    ⟨(some 72), .sliceSl 1 (.tmp 61) (some (.tmp 64)) (some (.tmp 71)) none, none⟩,
    ⟨(some 73), .append 5 1 1 [(.int .u8 0)] (.tmp 60) (.tmp 72), none⟩,
    ⟨(some 4), .mov (.tmp 73), none⟩])
  .ret)
  .skip))))
  (.region [⟨(some 14), .mov (.tmp 5), none⟩,
    ⟨(some 15), .bin .add 3 (.int .i64) (.tmp 14) (.const (.int .i64 1)), none⟩,
    ⟨(some 5), .mov (.tmp 15), none⟩]))))))
  (.seq (.region [⟨(some 74), .mov (.tmp 0), none⟩,
    ⟨(some 75), .nilCheck (.tmp 74), none⟩,
    ⟨(some 76), .addOff 1 (.tmp 75), none⟩,
    ⟨none, .store 1 (.tmp 76) (.const (.bool true)), none⟩])
  (.seq (.region [⟨(some 4), .mov (.const (.slice none 0 0)), none⟩])
  .ret))))⟩

/-- The functions, by number. -/
noncomputable def qtab : List (Nat × RFunc) := [(4, qf4), (5, qf5), (7, qf7), (11, qf11), (12, qf12), (13, qf13), (14, qf14), (15, qf15), (16, qf16), (17, qf17), (18, qf18), (19, qf19), (20, qf20), (22, qf22), (23, qf23), (24, qf24), (25, qf25), (26, qf26), (27, qf27), (28, qf28), (29, qf29), (30, qf30), (31, qf31), (32, qf32), (33, qf33), (34, qf34), (35, qf35), (36, qf36), (37, qf37), (39, qf39), (41, qf41), (42, qf42), (44, qf44), (45, qf45), (46, qf46), (47, qf47), (48, qf48), (49, qf49), (50, qf50), (51, qf51), (52, qf52), (53, qf53), (54, qf54), (55, qf55), (56, qf56), (57, qf57), (58, qf58), (60, qf60), (61, qf61), (62, qf62), (63, qf63), (65, qf65), (66, qf66), (67, qf67), (68, qf68), (69, qf69), (70, qf70), (71, qf71), (72, qf72), (73, qf73), (74, qf74), (75, qf75), (76, qf76), (77, qf77), (78, qf78), (79, qf79), (80, qf80), (84, qf84), (85, qf85), (87, qf87), (88, qf88), (89, qf89), (90, qf90), (91, qf91), (94, qf94), (95, qf95), (96, qf96), (97, qf97), (103, qf103), (113, qf113), (138, qf138)]
end Go.Proofs.YtcjhklflgdeckaaGreat
