/- Parts of the proof of OverlayNilSaid: the calls on files that are nil or that nothing made, as calls of which the answer is known; no condition. -/
import Derived.Test.YtcjhklflgdeckaaGreatLives
import Derived.Test.YtcjhklflgdeckaaGreatE3
namespace Go.Proofs.YtcjhklflgdeckaaGreat
open Go.E
/-- The cells of an FS that nothing made. -/
def zFSc : List Value := [.nilIface, .pointer none, .map none] ++ (List.replicate 128 [.string ⟨#[]⟩, .bool false]).flatten ++ [.int .i64 0]
def zFS : Blk := ⟨zFSc, 38, 260, true⟩
/-- valise/valiselaw19.OverlayNil -/
noncomputable def rf3 : RFunc := ⟨64, [.tmp 6],
  (.seq (.region [⟨(some 4), .box 24 9 (.tmp 1), none⟩,
    ⟨(some 6), .mov (.const (.bool false)), none⟩])
  (.seq (.region [⟨(some 7), .mov (.const .nilIface), none⟩])
  (.seq (.region [⟨(some 13), .mov (.tmp 7), none⟩,
    ⟨(some 14), .call 4 [(.const (.slice none 0 0)), (.tmp 13)], none⟩,
    ⟨(some 12), .mov (.tmp 14), none⟩,
    ⟨(some 15), .ext (.tmp 12) 0, none⟩,
    ⟨(some 16), .ext (.tmp 12) 1, none⟩,
    ⟨(some 8), .mov (.tmp 15), none⟩,
    ⟨(some 9), .mov (.tmp 16), none⟩])
  (.seq (.region [⟨(some 10), .mov (.const (.pointer none)), none⟩])
  (.seq (.seq (.region [⟨(some 17), .mov (.tmp 2), none⟩])
  (.cond (.tmp 17)
  (.region [⟨(some 18), .build zFSc [], none⟩,
    ⟨(some 19), .box 38 260 (.tmp 18), none⟩,
    ⟨(some 10), .mov (.tmp 19), none⟩])
  .skip))
  (.seq (.region [⟨(some 20), .mov (.tmp 10), none⟩,
    ⟨(some 21), .mov (.tmp 0), none⟩,
    ⟨(some 22), .loadN 9 (.tmp 4), none⟩,
    ⟨(some 23), .call 5 [(.tmp 20), (.tmp 21), (.tmp 22)], none⟩,
    ⟨(some 11), .new [(.int .i64 0), (.int .i64 0), (.int .i64 0), (.slice none 0 0), (.slice none 0 0)] 41 5, none⟩,
    ⟨none, .store 5 (.tmp 11) (.tmp 23), none⟩])
  (.seq (.region [⟨(some 24), .mov (.tmp 8), none⟩,
    ⟨(some 25), .bin .eql 27 (.pointer 38) (.tmp 24) (.const (.pointer none)), none⟩,
    ⟨(some 26), .mov (.tmp 25), none⟩,
    ⟨(some 27), .mov (.tmp 9), (some (26, true))⟩,
    ⟨(some 28), .bin .eql 28 (.int .i64) (.tmp 27) (.const (.int .i64 1)), (some (26, true))⟩,
    ⟨(some 29), .pick (.tmp 26) (.tmp 28) (.const (.bool false)), none⟩,
    ⟨(some 30), .mov (.tmp 29), none⟩,
    ⟨(some 31), .loadN 5 (.tmp 11), (some (30, true))⟩,
    ⟨(some 32), .build [(.int .i64 0), (.int .i64 0), (.int .i64 0), (.slice none 0 0), (.slice none 0 0)] [(0, 1, (.const (.int .i64 1)))], (some (30, true))⟩,
    ⟨(some 33), .call 6 [(.tmp 31), (.tmp 32)], (some (30, true))⟩,
    ⟨(some 34), .pick (.tmp 30) (.tmp 33) (.const (.bool false)), none⟩,
    ⟨(some 35), .mov (.tmp 34), none⟩,
    ⟨(some 36), .mov (.tmp 10), (some (35, true))⟩,
    ⟨(some 37), .call 7 [(.tmp 36)], (some (35, true))⟩,
    ⟨(some 38), .len (.slice 56) (.tmp 37), (some (35, true))⟩,
    ⟨(some 39), .bin .eql 3 (.int .i64) (.tmp 38) (.const (.int .i64 0)), (some (35, true))⟩,
    ⟨(some 40), .pick (.tmp 35) (.tmp 39) (.const (.bool false)), none⟩,
    ⟨(some 41), .mov (.tmp 40), none⟩,
    ⟨(some 42), .mov (.tmp 10), (some (41, true))⟩,
    ⟨(some 43), .call 8 [(.tmp 42)], (some (41, true))⟩,
    ⟨(some 44), .bin .eql 3 (.int .i64) (.tmp 43) (.const (.int .i64 0)), (some (41, true))⟩,
    ⟨(some 45), .pick (.tmp 41) (.tmp 44) (.const (.bool false)), none⟩,
    ⟨(some 46), .mov (.tmp 45), none⟩,
    ⟨(some 47), .mov (.tmp 10), (some (46, true))⟩,
    ⟨(some 48), .mov (.tmp 0), (some (46, true))⟩,
    ⟨(some 49), .call 9 [(.tmp 47), (.tmp 48)], (some (46, true))⟩,
    ⟨(some 50), .len (.slice 3) (.tmp 49), (some (46, true))⟩,
    ⟨(some 51), .bin .eql 3 (.int .i64) (.tmp 50) (.const (.int .i64 0)), (some (46, true))⟩,
    ⟨(some 52), .pick (.tmp 46) (.tmp 51) (.const (.bool false)), none⟩,
    ⟨(some 53), .mov (.tmp 52), none⟩,
    ⟨(some 54), .mov (.tmp 10), (some (53, true))⟩,
    ⟨(some 55), .mov (.tmp 0), (some (53, true))⟩,
    ⟨(some 56), .addOff 3 (.tmp 4), (some (53, true))⟩,
    ⟨(some 57), .load1 (.tmp 56), (some (53, true))⟩,
    ⟨(some 58), .call 10 [(.tmp 54), (.tmp 55), (.tmp 57)], (some (53, true))⟩,
    ⟨(some 59), .bin .eql 9 .string (.tmp 58) (.const (.string ⟨#[]⟩)), (some (53, true))⟩,
    ⟨(some 60), .pick (.tmp 53) (.tmp 59) (.const (.bool false)), none⟩,
    ⟨(some 61), .mov (.tmp 60), none⟩,
    ⟨(some 62), .call 11 [], (some (61, true))⟩,
    ⟨(some 63), .pick (.tmp 61) (.tmp 62) (.const (.bool false)), none⟩,
    ⟨(some 6), .mov (.tmp 63), none⟩])
  .ret)))))))⟩

/-- valise/overlay.New -/
noncomputable def rf4 : RFunc := ⟨95, [.tmp 4, .tmp 5],
  (.seq (.region [⟨(some 4), .mov (.const (.pointer none)), none⟩,
    ⟨(some 5), .mov (.const (.int .i64 0)), none⟩])
  (.seq (.seq (.region [⟨(some 14), .mov (.tmp 1), none⟩,
    ⟨(some 15), .bin .eql 26 (.interface #[("Block", 133)]) (.tmp 14) (.const .nilIface), none⟩])
  (.cond (.tmp 15)
  (.seq (.region [⟨(some 4), .mov (.const (.pointer none)), none⟩,
    ⟨(some 5), .mov (.const (.int .i64 1)), none⟩])
  .ret)
  .skip))
  (.seq (.region [⟨(some 6), .mov (.const (.slice none 0 0)), none⟩])
  (.seq (.seq (.region [⟨(some 16), .mov (.tmp 0), none⟩,
    ⟨(some 17), .len (.slice 54) (.tmp 16), none⟩,
    ⟨(some 18), .mov (.const (.int .i64 0)), none⟩])
  (.block 0
  (.loop
  (.seq (.region [⟨(some 19), .bin .lss 3 (.int .i64) (.tmp 18) (.tmp 17), none⟩])
  (.seq (.cond (.tmp 19)
  .skip
  (.exit 0))
  (.seq (.block 1
  (.seq (.region [⟨(some 20), .idxS 3 (.tmp 16) (.tmp 18), none⟩,
    ⟨(some 21), .loadN 3 (.tmp 20), none⟩,
    ⟨(some 8), .new [(.string ⟨#[]⟩), (.bool false), (.int .i64 0)] 54 3, none⟩,
    ⟨none, .store 3 (.tmp 8) (.tmp 21), none⟩])
  (.seq (.seq (.region [⟨(some 22), .addOff 2 (.tmp 8), none⟩,
    ⟨(some 23), .load1 (.tmp 22), none⟩,
    ⟨(some 24), .bin .lss 3 (.int .i64) (.tmp 23) (.const (.int .i64 0)), none⟩,
    ⟨(some 25), .mov (.tmp 24), none⟩,
    ⟨(some 26), .addOff 1 (.tmp 8), (some (25, false))⟩,
    ⟨(some 27), .load1 (.tmp 26), (some (25, false))⟩,
    ⟨(some 28), .mov (.tmp 27), (some (25, false))⟩,
    ⟨(some 29), .addOff 2 (.tmp 8), (some (28, true))⟩,
    ⟨(some 30), .load1 (.tmp 29), (some (28, true))⟩,
    ⟨(some 31), .bin .neq 3 (.int .i64) (.tmp 30) (.const (.int .i64 0)), (some (28, true))⟩,
    ⟨(some 32), .pick (.tmp 28) (.tmp 31) (.const (.bool false)), (some (25, false))⟩,
    ⟨(some 33), .pick (.tmp 25) (.const (.bool true)) (.tmp 32), none⟩])
  (.cond (.tmp 33)
  (.seq (.region [⟨(some 4), .mov (.const (.pointer none)), none⟩,
    ⟨(some 5), .mov (.const (.int .i64 2)), none⟩])
  .ret)
  .skip))
  (.region [⟨(some 34), .mov (.tmp 6), none⟩,
    ⟨(some 35), .addOff 0 (.tmp 8), none⟩,
    ⟨(some 36), .load1 (.tmp 35), none⟩,
    ⟨(some 37), .addOff 1 (.tmp 8), none⟩,
    ⟨(some 38), .load1 (.tmp 37), none⟩,
    ⟨(some 39), .build [(.string ⟨#[]⟩), (.bool false), (.slice none 0 0)] [(0, 1, (.tmp 36)), (1, 1, (.tmp 38))], none⟩,
    ⟨(some 40), .buildSlice 56 3 1 [(.string ⟨#[]⟩), (.bool false), (.slice none 0 0)] [(0, 3, (.tmp 39))], none⟩,
    ⟨(some 41), .append 56 3 48 [(.string ⟨#[]⟩), (.bool false), (.slice none 0 0)] (.tmp 34) (.tmp 40), none⟩,
    ⟨(some 6), .mov (.tmp 41), none⟩]))))
  (.region [⟨(some 42), .bin .add 3 (.int .i64) (.tmp 18) (.const (.int .i64 1)), none⟩,
    ⟨(some 18), .mov (.tmp 42), none⟩])))))))
  (.seq (.seq (.region [⟨(some 43), .mov (.tmp 0), none⟩,
    ⟨(some 44), .call 12 [(.tmp 43), (.func 13)], none⟩])
  (.cond (.tmp 44)
  (.seq (.region [⟨(some 4), .mov (.const (.pointer none)), none⟩,
    ⟨(some 5), .mov (.const (.int .i64 3)), none⟩])
  .ret)
  .skip))
  (.seq (.region [⟨(some 46), .mov (.tmp 6), none⟩,
    ⟨(some 47), .call 14 [(.tmp 46)], none⟩,
    ⟨(some 45), .mov (.tmp 47), none⟩,
    ⟨(some 48), .ext (.tmp 45) 0, none⟩,
    ⟨(some 49), .ext (.tmp 45) 1, none⟩,
    ⟨(some 9), .mov (.tmp 48), none⟩,
    ⟨(some 10), .mov (.tmp 49), none⟩])
  (.seq (.seq (.region [⟨(some 50), .mov (.tmp 10), none⟩,
    ⟨(some 51), .bin .neq 28 (.int .i64) (.tmp 50) (.const (.int .i64 0)), none⟩])
  (.cond (.tmp 51)
  (.seq (.region [⟨(some 52), .mov (.tmp 10), none⟩,
    ⟨(some 4), .mov (.const (.pointer none)), none⟩,
    ⟨(some 5), .mov (.tmp 52), none⟩])
  .ret)
  .skip))
  (.seq (.region [⟨(some 53), .mov (.tmp 1), none⟩,
    ⟨(some 54), .mov (.tmp 9), none⟩,
    ⟨(some 55), .mkmap, none⟩,
    ⟨(some 56), .build zFSc [(0, 1, (.tmp 53)), (1, 1, (.tmp 54)), (2, 1, (.tmp 55))], none⟩,
    ⟨(some 57), .box 38 260 (.tmp 56), none⟩,
    ⟨(some 11), .mov (.tmp 57), none⟩])
  (.seq (.seq (.region [⟨(some 58), .mov (.tmp 0), none⟩,
    ⟨(some 59), .len (.slice 54) (.tmp 58), none⟩,
    ⟨(some 60), .mov (.const (.int .i64 0)), none⟩])
  (.block 2
  (.loop
  (.seq (.region [⟨(some 61), .bin .lss 3 (.int .i64) (.tmp 60) (.tmp 59), none⟩])
  (.seq (.cond (.tmp 61)
  .skip
  (.exit 2))
  (.seq (.block 3
  (.seq (.region [⟨(some 62), .idxS 3 (.tmp 58) (.tmp 60), none⟩,
    ⟨(some 63), .loadN 3 (.tmp 62), none⟩,
    ⟨(some 13), .new [(.string ⟨#[]⟩), (.bool false), (.int .i64 0)] 54 3, none⟩,
    ⟨none, .store 3 (.tmp 13) (.tmp 63), none⟩])
  (.seq (.region [⟨(some 64), .addOff 1 (.tmp 13), none⟩,
    ⟨(some 65), .load1 (.tmp 64), none⟩,
    ⟨(some 66), .un .not (.tmp 65), none⟩])
  (.cond (.tmp 66)
  (.seq (.draw [⟨(some 67), .mov (.tmp 11), none⟩,
    ⟨(some 68), .nilCheck (.tmp 67), none⟩,
    ⟨(some 69), .addOff 2 (.tmp 68), none⟩,
    ⟨(some 70), .load1 (.tmp 69), none⟩,
    ⟨(some 71), .addOff 0 (.tmp 13), none⟩,
    ⟨(some 72), .load1 (.tmp 71), none⟩,
    ⟨(some 73), .addOff 0 (.tmp 13), none⟩,
    ⟨(some 74), .load1 (.tmp 73), none⟩,
    ⟨(some 75), .addOff 2 (.tmp 13), none⟩,
    ⟨(some 76), .load1 (.tmp 75), none⟩,
    ⟨(some 77), .build [(.bool false), (.slice none 0 0), (.string ⟨#[]⟩), (.int .i64 0)] [(2, 1, (.tmp 74)), (3, 1, (.tmp 76))], none⟩,
    ⟨(some 78), .box 63 4 (.tmp 77), none⟩,
    ⟨none, .mput .string (.tmp 70) (.tmp 72) (.tmp 78), none⟩] [0, 1, 3, 7, 0, 16, 0, 64, 0, 256, 960, 1984, 4095] [0, 1, 2, 3, 4, 5, 6, 7, 8, 9, 10, 11, 12])
  (.draw [⟨(some 79), .mov (.tmp 11), none⟩,
    ⟨(some 80), .nilCheck (.tmp 79), none⟩,
    ⟨(some 81), .addOff 259 (.tmp 80), none⟩,
    ⟨(some 82), .load1 (.tmp 81), none⟩,
    ⟨(some 83), .addOff 2 (.tmp 13), none⟩,
    ⟨(some 84), .load1 (.tmp 83), none⟩,
    ⟨(some 85), .bin .add 3 (.int .i64) (.tmp 82) (.tmp 84), none⟩,
    ⟨(some 86), .nilCheck (.tmp 79), none⟩,
    ⟨(some 87), .addOff 259 (.tmp 86), none⟩,
    ⟨none, .store 1 (.tmp 87) (.tmp 85), none⟩] [0, 1, 3, 7, 0, 16, 63, 127, 255, 511] [0, 1, 2, 3, 4, 5, 6, 7, 8, 9]))
  .skip))))
  (.region [⟨(some 88), .bin .add 3 (.int .i64) (.tmp 60) (.const (.int .i64 1)), none⟩,
    ⟨(some 60), .mov (.tmp 88), none⟩])))))))
  (.seq (.seq (.region [⟨(some 89), .mov (.tmp 11), none⟩,
    ⟨(some 90), .nilCheck (.tmp 89), none⟩,
    ⟨(some 91), .addOff 259 (.tmp 90), none⟩,
    ⟨(some 92), .load1 (.tmp 91), none⟩,
    ⟨(some 93), .bin .gtr 3 (.int .i64) (.tmp 92) (.const (.int .i64 262144)), none⟩])
  (.cond (.tmp 93)
  (.seq (.region [⟨(some 4), .mov (.const (.pointer none)), none⟩,
    ⟨(some 5), .mov (.const (.int .i64 7)), none⟩])
  .ret)
  .skip))
  (.seq (.region [⟨(some 94), .mov (.tmp 11), none⟩,
    ⟨(some 4), .mov (.tmp 94), none⟩,
    ⟨(some 5), .mov (.const (.int .i64 0)), none⟩])
  .ret)))))))))))⟩

/-- (*valise/overlay.FS).Do -/
noncomputable def rf5 : RFunc := ⟨78, [.cellN 6 5],
  (.seq (.region [⟨(some 5), .box 24 9 (.tmp 2), none⟩,
    ⟨(some 6), .new [(.int .i64 0), (.int .i64 0), (.int .i64 0), (.slice none 0 0), (.slice none 0 0)] 41 5, none⟩])
  (.seq (.block 0
  (.seq (.region [⟨(some 13), .mov (.tmp 0), none⟩,
    ⟨(some 14), .bin .eql 27 (.pointer 38) (.tmp 13) (.const (.pointer none)), none⟩,
    ⟨(some 15), .mov (.tmp 14), none⟩,
    ⟨(some 16), .mov (.tmp 0), (some (15, false))⟩,
    ⟨(some 17), .nilCheck (.tmp 16), (some (15, false))⟩,
    ⟨(some 18), .addOff 1 (.tmp 17), (some (15, false))⟩,
    ⟨(some 19), .load1 (.tmp 18), (some (15, false))⟩,
    ⟨(some 20), .bin .eql 31 (.pointer 89) (.tmp 19) (.const (.pointer none)), (some (15, false))⟩,
    ⟨(some 21), .pick (.tmp 15) (.const (.bool true)) (.tmp 20), none⟩,
    ⟨(some 12), .mov (.tmp 21), none⟩])
  (.cond (.tmp 12)
  (.seq (.region [⟨(some 22), .call 15 [(.const (.int .i64 1))], none⟩,
    ⟨none, .store 5 (.tmp 6) (.tmp 22), none⟩])
  .ret)
  (.seq (.region [⟨(some 24), .mov (.tmp 1), none⟩,
    ⟨(some 25), .bin .lss 3 (.int .i64) (.tmp 24) (.const (.int .i64 0)), none⟩,
    ⟨(some 26), .mov (.tmp 25), none⟩,
    ⟨(some 27), .mov (.tmp 1), (some (26, false))⟩,
    ⟨(some 28), .bin .geq 3 (.int .i64) (.tmp 27) (.const (.int .i64 8)), (some (26, false))⟩,
    ⟨(some 29), .pick (.tmp 26) (.const (.bool true)) (.tmp 28), none⟩,
    ⟨(some 23), .mov (.tmp 29), none⟩])
  (.cond (.tmp 23)
  (.seq (.region [⟨(some 30), .call 15 [(.const (.int .i64 2))], none⟩,
    ⟨none, .store 5 (.tmp 6) (.tmp 30), none⟩])
  .ret)
  (.seq (.region [⟨(some 32), .addOff 0 (.tmp 5), none⟩,
    ⟨(some 33), .load1 (.tmp 32), none⟩,
    ⟨(some 34), .bin .eql 3 (.int .i64) (.tmp 33) (.const (.int .i64 1)), none⟩,
    ⟨(some 31), .mov (.tmp 34), none⟩])
  (.cond (.tmp 31)
  (.seq (.region [⟨(some 35), .mov (.tmp 0), none⟩,
    ⟨(some 36), .mov (.tmp 1), none⟩,
    ⟨(some 37), .loadN 9 (.tmp 5), none⟩,
    ⟨(some 38), .call 16 [(.tmp 35), (.tmp 36), (.tmp 37)], none⟩,
    ⟨none, .store 5 (.tmp 6) (.tmp 38), none⟩])
  .ret)
  .skip)))))))
  (.seq (.seq (.region [⟨(some 39), .mov (.tmp 0), none⟩,
    ⟨(some 40), .addOff 0 (.tmp 5), none⟩,
    ⟨(some 41), .load1 (.tmp 40), none⟩,
    ⟨(some 42), .call 17 [(.tmp 39), (.tmp 41)], none⟩,
    ⟨(some 7), .mov (.tmp 42), none⟩])
  (.seq (.region [⟨(some 43), .mov (.tmp 7), none⟩,
    ⟨(some 44), .bin .neq 65 (.func #[67, 24] #[41] false) (.tmp 43) (.const .nilFunc), none⟩])
  (.cond (.tmp 44)
  (.seq (.region [⟨(some 45), .mov (.tmp 0), none⟩,
    ⟨(some 46), .mov (.tmp 1), none⟩,
    ⟨(some 47), .addOff 3 (.tmp 5), none⟩,
    ⟨(some 48), .load1 (.tmp 47), none⟩,
    ⟨(some 49), .call 18 [(.tmp 45), (.tmp 46), (.tmp 48)], none⟩,
    ⟨(some 8), .mov (.tmp 49), none⟩])
  (.seq (.seq (.region [⟨(some 50), .mov (.tmp 8), none⟩,
    ⟨(some 51), .bin .eql 67 (.pointer 34) (.tmp 50) (.const (.pointer none)), none⟩])
  (.cond (.tmp 51)
  (.seq (.region [⟨(some 52), .call 15 [(.const (.int .i64 19))], none⟩,
    ⟨none, .store 5 (.tmp 6) (.tmp 52), none⟩])
  .ret)
  .skip))
  (.seq (.region [⟨(some 53), .mov (.tmp 7), none⟩,
    ⟨(some 54), .mov (.tmp 8), none⟩,
    ⟨(some 55), .loadN 9 (.tmp 5), none⟩,
    ⟨(some 56), .callv (.tmp 53) [(.tmp 54), (.tmp 55)], none⟩,
    ⟨none, .store 5 (.tmp 6) (.tmp 56), none⟩])
  .ret)))
  .skip)))
  (.seq (.region [⟨(some 57), .mov (.tmp 0), none⟩,
    ⟨(some 58), .addOff 0 (.tmp 5), none⟩,
    ⟨(some 59), .load1 (.tmp 58), none⟩,
    ⟨(some 60), .call 19 [(.tmp 57), (.tmp 59)], none⟩,
    ⟨(some 9), .mov (.tmp 60), none⟩])
  (.seq (.seq (.region [⟨(some 61), .mov (.tmp 9), none⟩,
    ⟨(some 62), .bin .eql 69 (.func #[9, 24] #[41] false) (.tmp 61) (.const .nilFunc), none⟩])
  (.cond (.tmp 62)
  (.seq (.region [⟨(some 63), .call 15 [(.const (.int .i64 2))], none⟩,
    ⟨none, .store 5 (.tmp 6) (.tmp 63), none⟩])
  .ret)
  .skip))
  (.seq (.region [⟨(some 65), .addOff 1 (.tmp 5), none⟩,
    ⟨(some 66), .load1 (.tmp 65), none⟩,
    ⟨(some 67), .call 20 [(.tmp 66)], none⟩,
    ⟨(some 64), .mov (.tmp 67), none⟩,
    ⟨(some 68), .ext (.tmp 64) 0, none⟩,
    ⟨(some 69), .ext (.tmp 64) 1, none⟩,
    ⟨(some 10), .mov (.tmp 68), none⟩,
    ⟨(some 11), .mov (.tmp 69), none⟩])
  (.seq (.seq (.region [⟨(some 70), .mov (.tmp 11), none⟩,
    ⟨(some 71), .bin .neq 28 (.int .i64) (.tmp 70) (.const (.int .i64 0)), none⟩])
  (.cond (.tmp 71)
  (.seq (.region [⟨(some 72), .mov (.tmp 11), none⟩,
    ⟨(some 73), .call 15 [(.tmp 72)], none⟩,
    ⟨none, .store 5 (.tmp 6) (.tmp 73), none⟩])
  .ret)
  .skip))
  (.seq (.region [⟨(some 74), .mov (.tmp 9), none⟩,
    ⟨(some 75), .mov (.tmp 10), none⟩,
    ⟨(some 76), .loadN 9 (.tmp 5), none⟩,
    ⟨(some 77), .callv (.tmp 74) [(.tmp 75), (.tmp 76)], none⟩,
    ⟨none, .store 5 (.tmp 6) (.tmp 77), none⟩])
  .ret))))))))⟩

/-- valise/valiseref19.Same -/
noncomputable def rf6 : RFunc := ⟨40, [.tmp 4],
  (.seq (.region [⟨(some 2), .box 41 5 (.tmp 0), none⟩,
    ⟨(some 3), .box 41 5 (.tmp 1), none⟩,
    ⟨(some 4), .mov (.const (.bool false)), none⟩])
  (.seq (.region [⟨(some 5), .addOff 0 (.tmp 2), none⟩,
    ⟨(some 6), .load1 (.tmp 5), none⟩,
    ⟨(some 7), .addOff 0 (.tmp 3), none⟩,
    ⟨(some 8), .load1 (.tmp 7), none⟩,
    ⟨(some 9), .bin .eql 28 (.int .i64) (.tmp 6) (.tmp 8), none⟩,
    ⟨(some 10), .mov (.tmp 9), none⟩,
    ⟨(some 11), .addOff 1 (.tmp 2), (some (10, true))⟩,
    ⟨(some 12), .load1 (.tmp 11), (some (10, true))⟩,
    ⟨(some 13), .addOff 1 (.tmp 3), (some (10, true))⟩,
    ⟨(some 14), .load1 (.tmp 13), (some (10, true))⟩,
    ⟨(some 15), .bin .eql 3 (.int .i64) (.tmp 12) (.tmp 14), (some (10, true))⟩,
    ⟨(some 16), .pick (.tmp 10) (.tmp 15) (.const (.bool false)), none⟩,
    ⟨(some 17), .mov (.tmp 16), none⟩,
    ⟨(some 18), .addOff 2 (.tmp 2), (some (17, true))⟩,
    ⟨(some 19), .load1 (.tmp 18), (some (17, true))⟩,
    ⟨(some 20), .addOff 2 (.tmp 3), (some (17, true))⟩,
    ⟨(some 21), .load1 (.tmp 20), (some (17, true))⟩,
    ⟨(some 22), .bin .eql 3 (.int .i64) (.tmp 19) (.tmp 21), (some (17, true))⟩,
    ⟨(some 23), .pick (.tmp 17) (.tmp 22) (.const (.bool false)), none⟩,
    ⟨(some 24), .mov (.tmp 23), none⟩,
    ⟨(some 25), .addOff 3 (.tmp 2), (some (24, true))⟩,
    ⟨(some 26), .load1 (.tmp 25), (some (24, true))⟩,
    ⟨(some 27), .bytesStr (.tmp 26), (some (24, true))⟩,
    ⟨(some 28), .addOff 3 (.tmp 3), (some (24, true))⟩,
    ⟨(some 29), .load1 (.tmp 28), (some (24, true))⟩,
    ⟨(some 30), .bytesStr (.tmp 29), (some (24, true))⟩,
    ⟨(some 31), .bin .eql 9 .string (.tmp 27) (.tmp 30), (some (24, true))⟩,
    ⟨(some 32), .pick (.tmp 24) (.tmp 31) (.const (.bool false)), none⟩,
    ⟨(some 33), .mov (.tmp 32), none⟩,
    ⟨(some 34), .addOff 4 (.tmp 2), (some (33, true))⟩,
    ⟨(some 35), .load1 (.tmp 34), (some (33, true))⟩,
    ⟨(some 36), .addOff 4 (.tmp 3), (some (33, true))⟩,
    ⟨(some 37), .load1 (.tmp 36), (some (33, true))⟩,
    ⟨(some 38), .call 21 [(.tmp 35), (.tmp 37)], (some (33, true))⟩,
    ⟨(some 39), .pick (.tmp 33) (.tmp 38) (.const (.bool false)), none⟩,
    ⟨(some 4), .mov (.tmp 39), none⟩])
  .ret))⟩

/-- (*valise/overlay.FS).Used -/
noncomputable def rf8 : RFunc := ⟨9, [.tmp 2],
  (.seq (.region [⟨(some 2), .mov (.const (.int .i64 0)), none⟩])
  (.seq (.seq (.region [⟨(some 3), .mov (.tmp 0), none⟩,
    ⟨(some 4), .bin .eql 27 (.pointer 38) (.tmp 3) (.const (.pointer none)), none⟩])
  (.cond (.tmp 4)
  (.seq (.region [⟨(some 2), .mov (.const (.int .i64 0)), none⟩])
  .ret)
  .skip))
  (.seq (.region [⟨(some 5), .mov (.tmp 0), none⟩,
    ⟨(some 6), .nilCheck (.tmp 5), none⟩,
    ⟨(some 7), .addOff 259 (.tmp 6), none⟩,
    ⟨(some 8), .load1 (.tmp 7), none⟩,
    ⟨(some 2), .mov (.tmp 8), none⟩])
  .ret)))⟩

/-- (*valise/overlay.FS).Handles -/
noncomputable def rf9 : RFunc := ⟨37, [.tmp 4],
  (.seq (.region [⟨(some 4), .mov (.const (.slice none 0 0)), none⟩])
  (.seq (.seq (.region [⟨(some 8), .mov (.tmp 0), none⟩,
    ⟨(some 9), .bin .eql 27 (.pointer 38) (.tmp 8) (.const (.pointer none)), none⟩,
    ⟨(some 10), .mov (.tmp 9), none⟩,
    ⟨(some 11), .mov (.tmp 1), (some (10, false))⟩,
    ⟨(some 12), .bin .lss 3 (.int .i64) (.tmp 11) (.const (.int .i64 0)), (some (10, false))⟩,
    ⟨(some 13), .pick (.tmp 10) (.const (.bool true)) (.tmp 12), none⟩,
    ⟨(some 14), .mov (.tmp 13), none⟩,
    ⟨(some 15), .mov (.tmp 1), (some (14, false))⟩,
    ⟨(some 16), .bin .geq 3 (.int .i64) (.tmp 15) (.const (.int .i64 8)), (some (14, false))⟩,
    ⟨(some 17), .pick (.tmp 14) (.const (.bool true)) (.tmp 16), none⟩])
  (.cond (.tmp 17)
  (.seq (.region [⟨(some 4), .mov (.const (.slice none 0 0)), none⟩])
  .ret)
  .skip))
  (.seq (.region [⟨(some 5), .mov (.const (.slice none 0 0)), none⟩])
  (.seq (.seq (.region [⟨(some 18), .mov (.tmp 0), none⟩,
    ⟨(some 19), .mov (.tmp 1), none⟩,
    ⟨(some 20), .call 25 [(.tmp 18), (.tmp 19)], none⟩,
    ⟨(some 21), .len (.slice 34) (.tmp 20), none⟩,
    ⟨(some 22), .mov (.const (.int .i64 0)), none⟩])
  (.block 0
  (.loop
  (.seq (.region [⟨(some 23), .bin .lss 3 (.int .i64) (.tmp 22) (.tmp 21), none⟩])
  (.seq (.cond (.tmp 23)
  .skip
  (.exit 0))
  (.seq (.block 1
  (.seq (.region [⟨(some 24), .mov (.tmp 22), none⟩,
    ⟨(some 25), .idxS 2 (.tmp 20) (.tmp 22), none⟩,
    ⟨(some 26), .loadN 2 (.tmp 25), none⟩,
    ⟨(some 7), .new [(.string ⟨#[]⟩), (.bool false)] 34 2, none⟩,
    ⟨(some 6), .mov (.tmp 24), none⟩,
    ⟨none, .store 2 (.tmp 7) (.tmp 26), none⟩])
  (.seq (.region [⟨(some 27), .addOff 0 (.tmp 7), none⟩,
    ⟨(some 28), .load1 (.tmp 27), none⟩,
    ⟨(some 29), .bin .neq 9 .string (.tmp 28) (.const (.string ⟨#[]⟩)), none⟩])
  (.cond (.tmp 29)
  (.region [⟨(some 30), .mov (.tmp 5), none⟩,
    ⟨(some 31), .mov (.tmp 6), none⟩,
    ⟨(some 32), .bin .add 3 (.int .i64) (.tmp 31) (.const (.int .i64 1)), none⟩,
    ⟨(some 33), .buildSlice 3 1 1 [(.int .i64 0)] [(0, 1, (.tmp 32))], none⟩,
    ⟨(some 34), .append 3 1 8 [(.int .i64 0)] (.tmp 30) (.tmp 33), none⟩,
    ⟨(some 5), .mov (.tmp 34), none⟩])
  .skip))))
  (.region [⟨(some 35), .bin .add 3 (.int .i64) (.tmp 22) (.const (.int .i64 1)), none⟩,
    ⟨(some 22), .mov (.tmp 35), none⟩])))))))
  (.seq (.region [⟨(some 36), .mov (.tmp 5), none⟩,
    ⟨(some 4), .mov (.tmp 36), none⟩])
  .ret)))))⟩

/-- (*valise/overlay.FS).File -/
noncomputable def rf10 : RFunc := ⟨20, [.tmp 6],
  (.seq (.region [⟨(some 6), .mov (.const (.string ⟨#[]⟩)), none⟩])
  (.seq (.seq (.region [⟨(some 8), .mov (.tmp 0), none⟩,
    ⟨(some 9), .bin .eql 27 (.pointer 38) (.tmp 8) (.const (.pointer none)), none⟩])
  (.cond (.tmp 9)
  (.seq (.region [⟨(some 6), .mov (.const (.string ⟨#[]⟩)), none⟩])
  .ret)
  .skip))
  (.seq (.seq (.region [⟨(some 10), .mov (.tmp 0), none⟩,
    ⟨(some 11), .mov (.tmp 1), none⟩,
    ⟨(some 12), .mov (.tmp 2), none⟩,
    ⟨(some 13), .call 18 [(.tmp 10), (.tmp 11), (.tmp 12)], none⟩,
    ⟨(some 7), .mov (.tmp 13), none⟩])
  (.seq (.region [⟨(some 14), .mov (.tmp 7), none⟩,
    ⟨(some 15), .bin .neq 67 (.pointer 34) (.tmp 14) (.const (.pointer none)), none⟩])
  (.cond (.tmp 15)
  (.seq (.region [⟨(some 16), .mov (.tmp 7), none⟩,
    ⟨(some 17), .nilCheck (.tmp 16), none⟩,
    ⟨(some 18), .addOff 0 (.tmp 17), none⟩,
    ⟨(some 19), .load1 (.tmp 18), none⟩,
    ⟨(some 6), .mov (.tmp 19), none⟩])
  .ret)
  .skip)))
  (.seq (.region [⟨(some 6), .mov (.const (.string ⟨#[]⟩)), none⟩])
  .ret))))⟩

/-- (*valise/overlay.FS).handle -/
noncomputable def rf18 : RFunc := ⟨42, [.tmp 6],
  (.seq (.region [⟨(some 6), .mov (.const (.pointer none)), none⟩])
  (.seq (.seq (.region [⟨(some 7), .mov (.tmp 1), none⟩,
    ⟨(some 8), .bin .lss 3 (.int .i64) (.tmp 7) (.const (.int .i64 0)), none⟩,
    ⟨(some 9), .mov (.tmp 8), none⟩,
    ⟨(some 10), .mov (.tmp 1), (some (9, false))⟩,
    ⟨(some 11), .bin .geq 3 (.int .i64) (.tmp 10) (.const (.int .i64 8)), (some (9, false))⟩,
    ⟨(some 12), .pick (.tmp 9) (.const (.bool true)) (.tmp 11), none⟩,
    ⟨(some 13), .mov (.tmp 12), none⟩,
    ⟨(some 14), .mov (.tmp 2), (some (13, false))⟩,
    ⟨(some 15), .bin .lss 3 (.int .i64) (.tmp 14) (.const (.int .i64 1)), (some (13, false))⟩,
    ⟨(some 16), .pick (.tmp 13) (.const (.bool true)) (.tmp 15), none⟩,
    ⟨(some 17), .mov (.tmp 16), none⟩,
    ⟨(some 18), .mov (.tmp 2), (some (17, false))⟩,
    ⟨(some 19), .bin .gtr 3 (.int .i64) (.tmp 18) (.const (.int .i64 16)), (some (17, false))⟩,
    ⟨(some 20), .pick (.tmp 17) (.const (.bool true)) (.tmp 19), none⟩,
    ⟨(some 21), .mov (.tmp 20), none⟩,
    ⟨(some 22), .mov (.tmp 0), (some (21, false))⟩,
    ⟨(some 23), .mov (.tmp 1), (some (21, false))⟩,
    ⟨(some 24), .mov (.tmp 2), (some (21, false))⟩,
    ⟨(some 25), .bin .sub 3 (.int .i64) (.tmp 24) (.const (.int .i64 1)), (some (21, false))⟩,
    ⟨(some 26), .nilCheck (.tmp 22), (some (21, false))⟩,
    ⟨(some 27), .addOff 3 (.tmp 26), (some (21, false))⟩,
    ⟨(some 28), .idxA 8 32 (.tmp 27) (.tmp 23), (some (21, false))⟩,
    ⟨(some 29), .idxA 16 2 (.tmp 28) (.tmp 25), (some (21, false))⟩,
    ⟨(some 30), .addOff 0 (.tmp 29), (some (21, false))⟩,
    ⟨(some 31), .load1 (.tmp 30), (some (21, false))⟩,
    ⟨(some 32), .bin .eql 9 .string (.tmp 31) (.const (.string ⟨#[]⟩)), (some (21, false))⟩,
    ⟨(some 33), .pick (.tmp 21) (.const (.bool true)) (.tmp 32), none⟩])
  (.cond (.tmp 33)
  (.seq (.region [⟨(some 6), .mov (.const (.pointer none)), none⟩])
  .ret)
  .skip))
  (.seq (.region [⟨(some 34), .mov (.tmp 0), none⟩,
    ⟨(some 35), .mov (.tmp 1), none⟩,
    ⟨(some 36), .mov (.tmp 2), none⟩,
    ⟨(some 37), .bin .sub 3 (.int .i64) (.tmp 36) (.const (.int .i64 1)), none⟩,
    ⟨(some 38), .nilCheck (.tmp 34), none⟩,
    ⟨(some 39), .addOff 3 (.tmp 38), none⟩,
    ⟨(some 40), .idxA 8 32 (.tmp 39) (.tmp 35), none⟩,
    ⟨(some 41), .idxA 16 2 (.tmp 40) (.tmp 37), none⟩,
    ⟨(some 6), .mov (.tmp 41), none⟩])
  .ret)))⟩

/-- valise/valiseref13.Same -/
noncomputable def rf21 : RFunc := ⟨26, [.tmp 4],
  (.seq (.region [⟨(some 4), .mov (.const (.bool false)), none⟩])
  (.seq (.seq (.region [⟨(some 6), .mov (.tmp 0), none⟩,
    ⟨(some 7), .len (.slice 9) (.tmp 6), none⟩,
    ⟨(some 8), .mov (.tmp 1), none⟩,
    ⟨(some 9), .len (.slice 9) (.tmp 8), none⟩,
    ⟨(some 10), .bin .neq 3 (.int .i64) (.tmp 7) (.tmp 9), none⟩])
  (.cond (.tmp 10)
  (.seq (.region [⟨(some 4), .mov (.const (.bool false)), none⟩])
  .ret)
  .skip))
  (.seq (.seq (.region [⟨(some 5), .mov (.const (.int .i64 0)), none⟩])
  (.block 0
  (.loop
  (.seq (.seq (.region [⟨(some 11), .mov (.tmp 5), none⟩,
    ⟨(some 12), .mov (.tmp 0), none⟩,
    ⟨(some 13), .len (.slice 9) (.tmp 12), none⟩,
    ⟨(some 14), .bin .lss 3 (.int .i64) (.tmp 11) (.tmp 13), none⟩])
  (.cond (.tmp 14)
  .skip
  (.exit 0)))
  (.seq (.block 1
  (.seq (.draw [⟨(some 17), .mov (.tmp 0), none⟩,
    ⟨(some 18), .mov (.tmp 5), none⟩,
    ⟨(some 19), .idxS 1 (.tmp 17) (.tmp 18), none⟩,
    ⟨(some 20), .load1 (.tmp 19), none⟩,
    ⟨(some 21), .mov (.tmp 1), none⟩,
    ⟨(some 22), .mov (.tmp 5), none⟩,
    ⟨(some 23), .idxS 1 (.tmp 21) (.tmp 22), none⟩,
    ⟨(some 24), .load1 (.tmp 23), none⟩,
    ⟨(some 25), .bin .neq 9 .string (.tmp 20) (.tmp 24), none⟩] [0, 0, 3, 7, 0, 0, 48, 112, 255] [0, 1, 2, 3, 4, 5, 6, 7, 8])
  (.cond (.tmp 25)
  (.seq (.region [⟨(some 4), .mov (.const (.bool false)), none⟩])
  .ret)
  .skip)))
  (.region [⟨(some 15), .mov (.tmp 5), none⟩,
    ⟨(some 16), .bin .add 3 (.int .i64) (.tmp 15) (.const (.int .i64 1)), none⟩,
    ⟨(some 5), .mov (.tmp 16), none⟩]))))))
  (.seq (.region [⟨(some 4), .mov (.const (.bool true)), none⟩])
  .ret))))⟩

/-- (*valise/overlay.FS).handles -/
noncomputable def rf25 : RFunc := ⟨11, [.tmp 4],
  (.seq (.region [⟨(some 4), .mov (.const (.slice none 0 0)), none⟩])
  (.seq (.region [⟨(some 5), .mov (.tmp 0), none⟩,
    ⟨(some 6), .mov (.tmp 1), none⟩,
    ⟨(some 7), .nilCheck (.tmp 5), none⟩,
    ⟨(some 8), .addOff 3 (.tmp 7), none⟩,
    ⟨(some 9), .idxA 8 32 (.tmp 8) (.tmp 6), none⟩,
    ⟨(some 10), .sliceArr 16 2 (.tmp 9) none none none, none⟩,
    ⟨(some 4), .mov (.tmp 10), none⟩])
  .ret))⟩


noncomputable def qtab3 : List (Nat × RFunc) := [(3, rf3), (4, rf4), (5, rf5), (6, rf6), (8, rf8), (9, rf9), (10, rf10), (18, rf18), (21, rf21), (25, rf25)] ++ qtab
noncomputable def T0 : Tab := qT Tryz.prog qtab3
set_option maxRecDepth 100000 in
theorem T0_ok : TabOk Tryz.prog T0 := qT_ok (by kernel_rfl)
def qInt (v : Value) : List Value → Option Value := fun r => match r with | [.int .i64 _] => some v | _ => none
def qInt2 (v : Value) : List Value → Option Value := fun r => match r with | [.int .i64 _, .int .i64 _] => some v | _ => none
def qNone (v : Value) : List Value → Option Value := fun r => match r with | [] => some v | _ => none
theorem of_qInt {v u : Value} {r : List Value} (h : qInt v r = some u) : ∃ n, r = [.int .i64 n] ∧ u = v := by
  unfold qInt at h
  split at h
  · cases h; exact ⟨_, rfl, rfl⟩
  · cases h
theorem of_qInt2 {v u : Value} {r : List Value} (h : qInt2 v r = some u) : ∃ n m, r = [.int .i64 n, .int .i64 m] ∧ u = v := by
  unfold qInt2 at h
  split at h
  · cases h; exact ⟨_, _, rfl, rfl⟩
  · cases h
theorem of_qNone {v u : Value} {r : List Value} (h : qNone v r = some u) : r = [] ∧ u = v := by
  unfold qNone at h
  split at h
  · cases h; exact ⟨rfl, rfl⟩
  · cases h
/-- The answer of one that is nil. -/
def rNil : Value := .agg #[.int .i64 1, .int .i64 0, .int .i64 0, .slice none 0 0, .slice none 0 0]
def qFail : List Value → Option Value := fun r => match r with | [.int .i64 1] => some rNil | _ => none
def qSame : List Value → Option Value := fun r => match r with | [a, b] => if samev rNil a && samev rNil b then some (.bool true) else none | _ => none

/-! Handles and paths of an FS that nothing made. -/
set_option maxRecDepth 20000 in
set_option maxHeartbeats 2000000 in
theorem handles_out {T : Tab} (h9 : T.fn 9 = some (.code rf9)) (i : Nat) (n : Int) (hn : n < 0 ∨ 8 ≤ n) (F : Nat) (H : AHeap) (k : CRes → AHeap → Prop) (hk : k (.ret (.slice none 0 0)) H) : (evN T (F + 40)).call 9 [.pointer (some ⟨i, 0, none⟩), .int .i64 n] H k := by
  refine call_code2 (env := [some (.pointer (some ⟨i, 0, none⟩)), some (.int .i64 n), some undef, some undef, some undef, some undef, some undef, some undef, some undef, some undef, some undef, some undef, some undef, some undef, some undef, some undef, some undef, some undef, some undef, some undef, some undef, some undef, some undef, some undef, some undef, some undef, some undef, some undef, some undef, some undef, some undef, some undef, some undef, some undef, some undef, some undef, some undef]) h9 (by show 2 ≤ 37; omega) rfl ?_
  dsimp only [rf9]
  (repeat (first
    | (with_reducible refine code_seq ?_) | (with_reducible refine code_region ?_) | (with_reducible refine ops_nil ?_)
    | (with_reducible refine val2 (by with_unfolding_all rfl) (by with_unfolding_all rfl) (by with_unfolding_all rfl) (by simp only [Env.put, List.set_cons_succ, List.set_cons_zero]; rfl) ?_) | (with_reducible refine off2 (by with_unfolding_all rfl) (by simp only [Env.put, List.set_cons_succ, List.set_cons_zero]; rfl) ?_) | (with_reducible refine code_then (by with_unfolding_all rfl) ?_) | (with_reducible refine code_else (by with_unfolding_all rfl) ?_) | (with_reducible refine code_skip ?_) | (with_reducible refine code_ret ?_) | (with_reducible refine code_exit ?_) | (with_reducible refine code_block ?_)))
  rcases Bool.eq_false_or_eq_true (decide (n < 0)) with hd1 | hd1
  · rw [hd1]
    (repeat (first
    | (with_reducible refine code_seq ?_) | (with_reducible refine code_region ?_) | (with_reducible refine ops_nil ?_)
    | (with_reducible refine val2 (by with_unfolding_all rfl) (by with_unfolding_all rfl) (by with_unfolding_all rfl) (by simp only [Env.put, List.set_cons_succ, List.set_cons_zero]; rfl) ?_) | (with_reducible refine off2 (by with_unfolding_all rfl) (by simp only [Env.put, List.set_cons_succ, List.set_cons_zero]; rfl) ?_) | (with_reducible refine code_then (by with_unfolding_all rfl) ?_) | (with_reducible refine code_else (by with_unfolding_all rfl) ?_) | (with_reducible refine code_skip ?_) | (with_reducible refine code_ret ?_) | (with_reducible refine code_exit ?_) | (with_reducible refine code_block ?_)))
    refine (show retS _ _ _ k from ?_); exact ret_k (k := k) (vs := [.slice none 0 0]) (H1 := _) (by with_unfolding_all rfl) (by with_unfolding_all rfl) hk
  · rw [hd1]
    (repeat (first
    | (with_reducible refine code_seq ?_) | (with_reducible refine code_region ?_) | (with_reducible refine ops_nil ?_)
    | (with_reducible refine val2 (by with_unfolding_all rfl) (by with_unfolding_all rfl) (by with_unfolding_all rfl) (by simp only [Env.put, List.set_cons_succ, List.set_cons_zero]; rfl) ?_) | (with_reducible refine off2 (by with_unfolding_all rfl) (by simp only [Env.put, List.set_cons_succ, List.set_cons_zero]; rfl) ?_) | (with_reducible refine code_then (by with_unfolding_all rfl) ?_) | (with_reducible refine code_else (by with_unfolding_all rfl) ?_) | (with_reducible refine code_skip ?_) | (with_reducible refine code_ret ?_) | (with_reducible refine code_exit ?_) | (with_reducible refine code_block ?_)))
    have hd2 : decide (n ≥ 8) = true := by simp at hd1; simp; omega
    rw [hd2]
    (repeat (first
    | (with_reducible refine code_seq ?_) | (with_reducible refine code_region ?_) | (with_reducible refine ops_nil ?_)
    | (with_reducible refine val2 (by with_unfolding_all rfl) (by with_unfolding_all rfl) (by with_unfolding_all rfl) (by simp only [Env.put, List.set_cons_succ, List.set_cons_zero]; rfl) ?_) | (with_reducible refine off2 (by with_unfolding_all rfl) (by simp only [Env.put, List.set_cons_succ, List.set_cons_zero]; rfl) ?_) | (with_reducible refine code_then (by with_unfolding_all rfl) ?_) | (with_reducible refine code_else (by with_unfolding_all rfl) ?_) | (with_reducible refine code_skip ?_) | (with_reducible refine code_ret ?_) | (with_reducible refine code_exit ?_) | (with_reducible refine code_block ?_)))
    refine (show retS _ _ _ k from ?_); exact ret_k (k := k) (vs := [.slice none 0 0]) (H1 := _) (by with_unfolding_all rfl) (by with_unfolding_all rfl) hk
set_option maxRecDepth 20000 in
set_option maxHeartbeats 2000000 in
theorem handle_out {T : Tab} (h18 : T.fn 18 = some (.code rf18)) (p : Value) (n m : Int) (hn : n < 0 ∨ 8 ≤ n ∨ m < 1 ∨ 16 < m) (F : Nat) (H : AHeap) (k : CRes → AHeap → Prop) (hk : k (.ret (.pointer none)) H) : (evN T (F + 40)).call 18 [p, .int .i64 n, .int .i64 m] H k := by
  refine call_code2 (env := [some p, some (.int .i64 n), some (.int .i64 m), some undef, some undef, some undef, some undef, some undef, some undef, some undef, some undef, some undef, some undef, some undef, some undef, some undef, some undef, some undef, some undef, some undef, some undef, some undef, some undef, some undef, some undef, some undef, some undef, some undef, some undef, some undef, some undef, some undef, some undef, some undef, some undef, some undef, some undef, some undef, some undef, some undef, some undef, some undef]) h18 (by show 3 ≤ 42; omega) rfl ?_
  dsimp only [rf18]
  (repeat (first
    | (with_reducible refine code_seq ?_) | (with_reducible refine code_region ?_) | (with_reducible refine ops_nil ?_)
    | (with_reducible refine val2 (by with_unfolding_all rfl) (by with_unfolding_all rfl) (by with_unfolding_all rfl) (by simp only [Env.put, List.set_cons_succ, List.set_cons_zero]; rfl) ?_) | (with_reducible refine off2 (by with_unfolding_all rfl) (by simp only [Env.put, List.set_cons_succ, List.set_cons_zero]; rfl) ?_) | (with_reducible refine code_then (by with_unfolding_all rfl) ?_) | (with_reducible refine code_else (by with_unfolding_all rfl) ?_) | (with_reducible refine code_skip ?_) | (with_reducible refine code_ret ?_) | (with_reducible refine code_exit ?_) | (with_reducible refine code_block ?_)))
  rcases Bool.eq_false_or_eq_true (decide (n < 0)) with hd1 | hd1
  · rw [hd1]
    (repeat (first
    | (with_reducible refine code_seq ?_) | (with_reducible refine code_region ?_) | (with_reducible refine ops_nil ?_)
    | (with_reducible refine val2 (by with_unfolding_all rfl) (by with_unfolding_all rfl) (by with_unfolding_all rfl) (by simp only [Env.put, List.set_cons_succ, List.set_cons_zero]; rfl) ?_) | (with_reducible refine off2 (by with_unfolding_all rfl) (by simp only [Env.put, List.set_cons_succ, List.set_cons_zero]; rfl) ?_) | (with_reducible refine code_then (by with_unfolding_all rfl) ?_) | (with_reducible refine code_else (by with_unfolding_all rfl) ?_) | (with_reducible refine code_skip ?_) | (with_reducible refine code_ret ?_) | (with_reducible refine code_exit ?_) | (with_reducible refine code_block ?_)))
    refine (show retS _ _ _ k from ?_); exact ret_k (k := k) (vs := [.pointer none]) (H1 := _) (by with_unfolding_all rfl) (by with_unfolding_all rfl) hk
  rw [hd1]
  (repeat (first
    | (with_reducible refine code_seq ?_) | (with_reducible refine code_region ?_) | (with_reducible refine ops_nil ?_)
    | (with_reducible refine val2 (by with_unfolding_all rfl) (by with_unfolding_all rfl) (by with_unfolding_all rfl) (by simp only [Env.put, List.set_cons_succ, List.set_cons_zero]; rfl) ?_) | (with_reducible refine off2 (by with_unfolding_all rfl) (by simp only [Env.put, List.set_cons_succ, List.set_cons_zero]; rfl) ?_) | (with_reducible refine code_then (by with_unfolding_all rfl) ?_) | (with_reducible refine code_else (by with_unfolding_all rfl) ?_) | (with_reducible refine code_skip ?_) | (with_reducible refine code_ret ?_) | (with_reducible refine code_exit ?_) | (with_reducible refine code_block ?_)))
  rcases Bool.eq_false_or_eq_true (decide (n ≥ 8)) with hd2 | hd2
  · rw [hd2]
    (repeat (first
    | (with_reducible refine code_seq ?_) | (with_reducible refine code_region ?_) | (with_reducible refine ops_nil ?_)
    | (with_reducible refine val2 (by with_unfolding_all rfl) (by with_unfolding_all rfl) (by with_unfolding_all rfl) (by simp only [Env.put, List.set_cons_succ, List.set_cons_zero]; rfl) ?_) | (with_reducible refine off2 (by with_unfolding_all rfl) (by simp only [Env.put, List.set_cons_succ, List.set_cons_zero]; rfl) ?_) | (with_reducible refine code_then (by with_unfolding_all rfl) ?_) | (with_reducible refine code_else (by with_unfolding_all rfl) ?_) | (with_reducible refine code_skip ?_) | (with_reducible refine code_ret ?_) | (with_reducible refine code_exit ?_) | (with_reducible refine code_block ?_)))
    refine (show retS _ _ _ k from ?_); exact ret_k (k := k) (vs := [.pointer none]) (H1 := _) (by with_unfolding_all rfl) (by with_unfolding_all rfl) hk
  rw [hd2]
  (repeat (first
    | (with_reducible refine code_seq ?_) | (with_reducible refine code_region ?_) | (with_reducible refine ops_nil ?_)
    | (with_reducible refine val2 (by with_unfolding_all rfl) (by with_unfolding_all rfl) (by with_unfolding_all rfl) (by simp only [Env.put, List.set_cons_succ, List.set_cons_zero]; rfl) ?_) | (with_reducible refine off2 (by with_unfolding_all rfl) (by simp only [Env.put, List.set_cons_succ, List.set_cons_zero]; rfl) ?_) | (with_reducible refine code_then (by with_unfolding_all rfl) ?_) | (with_reducible refine code_else (by with_unfolding_all rfl) ?_) | (with_reducible refine code_skip ?_) | (with_reducible refine code_ret ?_) | (with_reducible refine code_exit ?_) | (with_reducible refine code_block ?_)))
  rcases Bool.eq_false_or_eq_true (decide (m < 1)) with hd3 | hd3
  · rw [hd3]
    (repeat (first
    | (with_reducible refine code_seq ?_) | (with_reducible refine code_region ?_) | (with_reducible refine ops_nil ?_)
    | (with_reducible refine val2 (by with_unfolding_all rfl) (by with_unfolding_all rfl) (by with_unfolding_all rfl) (by simp only [Env.put, List.set_cons_succ, List.set_cons_zero]; rfl) ?_) | (with_reducible refine off2 (by with_unfolding_all rfl) (by simp only [Env.put, List.set_cons_succ, List.set_cons_zero]; rfl) ?_) | (with_reducible refine code_then (by with_unfolding_all rfl) ?_) | (with_reducible refine code_else (by with_unfolding_all rfl) ?_) | (with_reducible refine code_skip ?_) | (with_reducible refine code_ret ?_) | (with_reducible refine code_exit ?_) | (with_reducible refine code_block ?_)))
    refine (show retS _ _ _ k from ?_); exact ret_k (k := k) (vs := [.pointer none]) (H1 := _) (by with_unfolding_all rfl) (by with_unfolding_all rfl) hk
  rw [hd3]
  (repeat (first
    | (with_reducible refine code_seq ?_) | (with_reducible refine code_region ?_) | (with_reducible refine ops_nil ?_)
    | (with_reducible refine val2 (by with_unfolding_all rfl) (by with_unfolding_all rfl) (by with_unfolding_all rfl) (by simp only [Env.put, List.set_cons_succ, List.set_cons_zero]; rfl) ?_) | (with_reducible refine off2 (by with_unfolding_all rfl) (by simp only [Env.put, List.set_cons_succ, List.set_cons_zero]; rfl) ?_) | (with_reducible refine code_then (by with_unfolding_all rfl) ?_) | (with_reducible refine code_else (by with_unfolding_all rfl) ?_) | (with_reducible refine code_skip ?_) | (with_reducible refine code_ret ?_) | (with_reducible refine code_exit ?_) | (with_reducible refine code_block ?_)))
  have hd4 : decide (m > 16) = true := by simp at hd1 hd2 hd3; simp; omega
  rw [hd4]
  (repeat (first
    | (with_reducible refine code_seq ?_) | (with_reducible refine code_region ?_) | (with_reducible refine ops_nil ?_)
    | (with_reducible refine val2 (by with_unfolding_all rfl) (by with_unfolding_all rfl) (by with_unfolding_all rfl) (by simp only [Env.put, List.set_cons_succ, List.set_cons_zero]; rfl) ?_) | (with_reducible refine off2 (by with_unfolding_all rfl) (by simp only [Env.put, List.set_cons_succ, List.set_cons_zero]; rfl) ?_) | (with_reducible refine code_then (by with_unfolding_all rfl) ?_) | (with_reducible refine code_else (by with_unfolding_all rfl) ?_) | (with_reducible refine code_skip ?_) | (with_reducible refine code_ret ?_) | (with_reducible refine code_exit ?_) | (with_reducible refine code_block ?_)))
  refine (show retS _ _ _ k from ?_); exact ret_k (k := k) (vs := [.pointer none]) (H1 := _) (by with_unfolding_all rfl) (by with_unfolding_all rfl) hk
set_option maxRecDepth 20000 in
set_option maxHeartbeats 2000000 in
theorem file_out {T : Tab} (h10 : T.fn 10 = some (.code rf10)) (h18 : T.fn 18 = some (.code rf18)) (i : Nat) (n m : Int) (hn : n < 0 ∨ 8 ≤ n ∨ m < 1 ∨ 16 < m) (H : AHeap) (k : CRes → AHeap → Prop) (hk : k (.ret (.string ⟨#[]⟩)) H) : (evN T (0 + 100)).call 10 [.pointer (some ⟨i, 0, none⟩), .int .i64 n, .int .i64 m] H k := by
  refine call_code2 (env := [some (.pointer (some ⟨i, 0, none⟩)), some (.int .i64 n), some (.int .i64 m), some undef, some undef, some undef, some undef, some undef, some undef, some undef, some undef, some undef, some undef, some undef, some undef, some undef, some undef, some undef, some undef, some undef]) h10 (by show 3 ≤ 20; omega) rfl ?_
  dsimp only [rf10]
  (repeat (first
    | (with_reducible refine code_seq ?_) | (with_reducible refine code_region ?_) | (with_reducible refine ops_nil ?_)
    | (with_reducible refine val2 (by with_unfolding_all rfl) (by with_unfolding_all rfl) (by with_unfolding_all rfl) (by simp only [Env.put, List.set_cons_succ, List.set_cons_zero]; rfl) ?_) | (with_reducible refine off2 (by with_unfolding_all rfl) (by simp only [Env.put, List.set_cons_succ, List.set_cons_zero]; rfl) ?_) | (with_reducible refine code_then (by with_unfolding_all rfl) ?_) | (with_reducible refine code_else (by with_unfolding_all rfl) ?_) | (with_reducible refine code_skip ?_) | (with_reducible refine code_ret ?_) | (with_reducible refine code_exit ?_) | (with_reducible refine code_block ?_)))
  refine call2 rfl rfl rfl (handle_out h18 _ n m hn _ _ _ ?_)
  show evOps T _ _ _ _ _
  refine ops_st2 (env' := _) (by simp only [Env.put, List.set_cons_succ, List.set_cons_zero]; rfl) ?_
  (repeat (first
    | (with_reducible refine code_seq ?_) | (with_reducible refine code_region ?_) | (with_reducible refine ops_nil ?_)
    | (with_reducible refine val2 (by with_unfolding_all rfl) (by with_unfolding_all rfl) (by with_unfolding_all rfl) (by simp only [Env.put, List.set_cons_succ, List.set_cons_zero]; rfl) ?_) | (with_reducible refine off2 (by with_unfolding_all rfl) (by simp only [Env.put, List.set_cons_succ, List.set_cons_zero]; rfl) ?_) | (with_reducible refine code_then (by with_unfolding_all rfl) ?_) | (with_reducible refine code_else (by with_unfolding_all rfl) ?_) | (with_reducible refine code_skip ?_) | (with_reducible refine code_ret ?_) | (with_reducible refine code_exit ?_) | (with_reducible refine code_block ?_)))
  refine (show retS _ _ _ k from ?_); exact ret_k (k := k) (vs := [.string ⟨#[]⟩]) (H1 := _) (by with_unfolding_all rfl) (by with_unfolding_all rfl) hk

set_option maxRecDepth 100000 in
theorem T0_9 : T0.fn 9 = some (.code rf9) := by kernel_rfl
set_option maxRecDepth 100000 in
theorem T0_10 : T0.fn 10 = some (.code rf10) := by kernel_rfl
set_option maxRecDepth 100000 in
theorem T0_18 : T0.fn 18 = some (.code rf18) := by kernel_rfl
def hz : AHeap := AHeap.empty.alloc (zFS.obj true)
def pz : Value := .pointer (some ⟨0, 0, none⟩)
set_option maxRecDepth 100000 in
theorem handles_in : ((List.range 8).all fun n => (evF T0 500).call 9 [pz, .int .i64 n] hz (comes (.slice none 0 0))) = true := by kernel_rfl
set_option maxRecDepth 100000 in
theorem file_in : ((List.range 8).all fun n => (List.range 16).all fun m => (evF T0 500).call 10 [pz, .int .i64 n, .int .i64 (Int.ofNat (Nat.succ m))] hz (comes (.string ⟨#[]⟩))) = true := by kernel_rfl
set_option maxRecDepth 100000 in
theorem handles_n (n : Int) : (evF T0 300).call 9 [.pointer none, .int .i64 n] AHeap.empty (comes (.slice none 0 0)) = true := by kernel_rfl
set_option maxRecDepth 100000 in
theorem file_n (n m : Int) : (evF T0 300).call 10 [.pointer none, .int .i64 n, .int .i64 m] AHeap.empty (comes (.string ⟨#[]⟩)) = true := by kernel_rfl
set_option maxRecDepth 100000 in
theorem files_n : (evF T0 300).call 7 [.pointer none] AHeap.empty (comes (.slice none 0 0)) = true := by kernel_rfl
set_option maxRecDepth 100000 in
theorem files_b : (evF T0 300).call 7 [pz] hz (comes (.slice none 0 0)) = true := by kernel_rfl
set_option maxRecDepth 100000 in
theorem used_n : (evF T0 300).call 8 [.pointer none] AHeap.empty (comes (.int .i64 0)) = true := by kernel_rfl
set_option maxRecDepth 100000 in
theorem used_b : (evF T0 300).call 8 [pz] hz (comes (.int .i64 0)) = true := by kernel_rfl
set_option maxRecDepth 100000 in
theorem fail_1 : (evF T0 300).call 15 [.int .i64 1] AHeap.empty (comes rNil) = true := by kernel_rfl
set_option maxRecDepth 100000 in
theorem same_1 : (evF T0 300).call 6 [rNil, rNil] AHeap.empty (comes (.bool true)) = true := by kernel_rfl
set_option maxRecDepth 100000 in
theorem zclo : zFS.c.all clo1 = true := by kernel_rfl

theorem p9 : PrimOk Tryz.prog 9 (ptrP zFS (qInt (.slice none 0 0)) (qInt (.slice none 0 0))) :=
  prim_ptr T0_ok zclo (fun rest u _ h => by obtain ⟨n, rfl, rfl⟩ := of_qInt h; exact ⟨rfl, up_fast (handles_n n)⟩) (fun rest u _ h => by
    obtain ⟨n, rfl, rfl⟩ := of_qInt h
    refine ⟨rfl, ?_⟩
    by_cases hn : n < 0 ∨ 8 ≤ n
    · exact ⟨0 + 40, handles_out T0_9 0 n hn 0 _ _ rfl⟩
    · obtain ⟨m, rfl⟩ : ∃ m : Nat, n = m := ⟨n.toNat, by omega⟩
      exact up_fast ((List.all_eq_true.1 handles_in) m (List.mem_range.2 (by omega))))
theorem p10 : PrimOk Tryz.prog 10 (ptrP zFS (qInt2 (.string ⟨#[]⟩)) (qInt2 (.string ⟨#[]⟩))) :=
  prim_ptr T0_ok zclo (fun rest u _ h => by obtain ⟨n, m, rfl, rfl⟩ := of_qInt2 h; exact ⟨rfl, up_fast (file_n n m)⟩) (fun rest u _ h => by
    obtain ⟨n, m, rfl, rfl⟩ := of_qInt2 h
    refine ⟨rfl, ?_⟩
    by_cases hn : n < 0 ∨ 8 ≤ n ∨ m < 1 ∨ 16 < m
    · exact ⟨0 + 100, file_out T0_10 T0_18 0 n m hn _ _ rfl⟩
    · obtain ⟨a, rfl⟩ : ∃ a : Nat, n = a := ⟨n.toNat, by omega⟩
      have hm : m = ((m.toNat - 1 + 1 : Nat) : Int) := by omega
      obtain ⟨b, rfl⟩ : ∃ b : Nat, m = Int.ofNat (Nat.succ b) := ⟨m.toNat - 1, hm⟩
      have hb : b < 16 := by have : Int.ofNat (Nat.succ b) = ((b + 1 : Nat) : Int) := rfl
                             omega
      have h1 := (List.all_eq_true.1 file_in) a (List.mem_range.2 (by omega))
      exact up_fast ((List.all_eq_true.1 h1) b (List.mem_range.2 hb)))
theorem p7 : PrimOk Tryz.prog 7 (ptrP zFS (qNone (.slice none 0 0)) (qNone (.slice none 0 0))) :=
  prim_ptr T0_ok zclo (fun rest u _ h => by obtain ⟨rfl, rfl⟩ := of_qNone h; exact ⟨rfl, up_fast files_n⟩) (fun rest u _ h => by obtain ⟨rfl, rfl⟩ := of_qNone h; exact ⟨rfl, up_fast files_b⟩)
theorem p8 : PrimOk Tryz.prog 8 (ptrP zFS (qNone (.int .i64 0)) (qNone (.int .i64 0))) :=
  prim_ptr T0_ok zclo (fun rest u _ h => by obtain ⟨rfl, rfl⟩ := of_qNone h; exact ⟨rfl, up_fast used_n⟩) (fun rest u _ h => by obtain ⟨rfl, rfl⟩ := of_qNone h; exact ⟨rfl, up_fast used_b⟩)
theorem p15 : PrimOk Tryz.prog 15 (closP qFail) := prim_clos T0_ok fun args u _ h => by
  unfold qFail at h
  split at h <;> (try cases h)
  exact ⟨rfl, up_fast fail_1⟩
theorem p6 : PrimOk Tryz.prog 6 (closP qSame) := prim_clos T0_ok fun args u _ h => by
  unfold qSame at h
  split at h <;> (try cases h)
  rename_i a b
  split at h <;> (try cases h)
  rename_i hs
  simp only [Bool.and_eq_true] at hs
  rw [samev_eq hs.1, samev_eq hs.2]
  exact ⟨rfl, up_fast same_1⟩
end Go.Proofs.YtcjhklflgdeckaaGreat
