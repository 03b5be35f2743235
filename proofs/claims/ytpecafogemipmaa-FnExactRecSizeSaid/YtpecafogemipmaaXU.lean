/- The functions' texts. -/
import Derived.Test.YtpecafogemipmaaXE
import Derived.Test.YtpecafogemipmaaProg
import Derived.KernelRfl
/- The functions' texts. -/
namespace Go.Proofs.Ytpecafogemipmaa.V
open Go Go.Proofs Go.RowKit
set_option maxRecDepth 100000
theorem follows : Try.prog.follows .mixedOrders = true := by kernel_rfl
def rc_laws_szRec : RC :=
  (.seq (.reg [⟨(some 2), none, .bx (.t 0)⟩,
   ⟨(some 4), none, .mv (.c (.int .i64 0))⟩])
  (.seq (.reg [⟨(some 5), none, .mv (.t 1)⟩,
   ⟨(some 6), none, .fa 5 (.t 2)⟩,
   ⟨(some 7), none, .ld false 1 (.t 6)⟩,
   ⟨(some 8), none, .lens (.t 7)⟩,
   ⟨(some 9), none, .bin .sub (.t 5) (.t 8)⟩,
   ⟨(some 1), none, .mv (.t 9)⟩])
  (.seq (.seq (.reg [⟨(some 10), none, .mv (.t 1)⟩,
   ⟨(some 11), none, .bin .lss (.t 10) (.c (.int .i64 0))⟩])
  (.cond (.t 11)
    (.seq (.reg [⟨(some 4), none, .mv (.c (.int .i64 (-1)))⟩])
    .ret)
    .skip))
  (.seq (.reg [⟨(some 12), none, .mv (.t 1)⟩,
   ⟨(some 13), none, .fa 6 (.t 2)⟩,
   ⟨(some 14), none, .ld false 1 (.t 13)⟩,
   ⟨(some 15), none, .lens (.t 14)⟩,
   ⟨(some 16), none, .bin .sub (.t 12) (.t 15)⟩,
   ⟨(some 1), none, .mv (.t 16)⟩])
  (.seq (.seq (.reg [⟨(some 17), none, .mv (.t 1)⟩,
   ⟨(some 18), none, .bin .lss (.t 17) (.c (.int .i64 0))⟩])
  (.cond (.t 18)
    (.seq (.reg [⟨(some 4), none, .mv (.c (.int .i64 (-1)))⟩])
    .ret)
    .skip))
  (.seq (.reg [⟨(some 19), none, .mv (.t 1)⟩,
   ⟨(some 20), none, .fa 7 (.t 2)⟩,
   ⟨(some 21), none, .ld false 1 (.t 20)⟩,
   ⟨(some 22), none, .lens (.t 21)⟩,
   ⟨(some 23), none, .bin .sub (.t 19) (.t 22)⟩,
   ⟨(some 1), none, .mv (.t 23)⟩])
  (.seq (.seq (.reg [⟨(some 24), none, .mv (.t 1)⟩,
   ⟨(some 25), none, .bin .lss (.t 24) (.c (.int .i64 0))⟩])
  (.cond (.t 25)
    (.seq (.reg [⟨(some 4), none, .mv (.c (.int .i64 (-1)))⟩])
    .ret)
    .skip))
  (.seq (.reg [⟨(some 26), none, .mv (.t 1)⟩,
   ⟨(some 4), none, .mv (.t 26)⟩])
  .ret))))))))
theorem k_laws_szRec : FnOk Try.prog 26 27 rc_laws_szRec [.t 4] := ⟨Try.f26, _, [], Try.func26, rfl, rfl, by kernel_rfl, by kernel_rfl, follows⟩
theorem ok_laws_szRec : okF Try.prog 26 = true := by kernel_rfl
def rc_spec_l01Var : RC :=
  (.seq (.reg [⟨(some 2), none, .mv (.c (.str []))⟩])
  (.seq (.reg [⟨(some 4), none, .bs 1 [.int .u8 0] 0 []⟩,
   ⟨(some 3), none, .mv (.t 4)⟩])
  (.seq (.blk 0 (.loop (.seq (.seq (.reg [⟨(some 5), none, .mv (.t 0)⟩,
     ⟨(some 6), none, .bin .gtr (.t 5) (.c (.int .i64 127))⟩])
    (.cond (.t 6)
      .skip
      (.exit 0)))
    (.blk 1 (.seq (.reg [⟨(some 7), none, .mv (.t 3)⟩,
      ⟨(some 8), none, .mv (.t 0)⟩,
      ⟨(some 9), none, .bin .rem (.t 8) (.c (.int .i64 128))⟩,
      ⟨(some 10), none, .bin .add (.t 9) (.c (.int .i64 128))⟩,
      ⟨(some 11), none, .cvi .u8 (.t 10)⟩,
      ⟨(some 12), none, .bs 1 [.int .u8 0] 1 [(0, (.t 11))]⟩,
      ⟨(some 13), none, .app 1 1 (.t 7) (.t 12)⟩,
      ⟨(some 3), none, .mv (.t 13)⟩])
     (.reg [⟨(some 14), none, .mv (.t 0)⟩,
      ⟨(some 15), none, .bin .quo (.t 14) (.c (.int .i64 128))⟩,
      ⟨(some 0), none, .mv (.t 15)⟩]))))))
  (.seq (.reg [⟨(some 16), none, .mv (.t 3)⟩,
   ⟨(some 17), none, .mv (.t 0)⟩,
   ⟨(some 18), none, .cvi .u8 (.t 17)⟩,
   ⟨(some 19), none, .bs 1 [.int .u8 0] 1 [(0, (.t 18))]⟩,
   ⟨(some 20), none, .app 1 1 (.t 16) (.t 19)⟩,
   ⟨(some 21), none, .cvb (.t 20)⟩,
   ⟨(some 2), none, .mv (.t 21)⟩])
  .ret))))
theorem k_spec_l01Var : FnOk Try.prog 43 22 rc_spec_l01Var [.t 2] := ⟨Try.f43, _, [], Try.func43, rfl, rfl, by kernel_rfl, by kernel_rfl, follows⟩
theorem ok_spec_l01Var : okF Try.prog 43 = true := by kernel_rfl
def rc_spec_l06Short : RC :=
  (.seq (.reg [⟨(some 2), none, .mv (.c (.str []))⟩])
  (.seq (.reg [⟨(some 3), none, .mv (.t 0)⟩,
   ⟨(some 4), none, .lens (.t 3)⟩,
   ⟨(some 5), none, .cl (.c (.fn 43 [])) [(.t 4)]⟩,
   ⟨(some 6), none, .mv (.t 0)⟩,
   ⟨(some 7), none, .bin .add (.t 5) (.t 6)⟩,
   ⟨(some 2), none, .mv (.t 7)⟩])
  .ret))
theorem k_spec_l06Short : FnOk Try.prog 45 8 rc_spec_l06Short [.t 2] := ⟨Try.f45, _, [], Try.func45, rfl, rfl, by kernel_rfl, by kernel_rfl, follows⟩
theorem ok_spec_l06Short : okF Try.prog 45 = true := by kernel_rfl
def rc_spec_l01In : RC :=
  (.seq (.reg [⟨(some 6), none, .mv (.c (.bool false))⟩])
  (.seq (.reg [⟨(some 7), none, .mv (.t 0)⟩,
   ⟨(some 8), none, .mv (.t 1)⟩,
   ⟨(some 9), none, .bin .geq (.t 7) (.t 8)⟩,
   ⟨(some 10), none, .mv (.t 9)⟩,
   ⟨(some 11), (some (10, true)), .mv (.t 0)⟩,
   ⟨(some 12), (some (10, true)), .mv (.t 2)⟩,
   ⟨(some 13), (some (10, true)), .bin .leq (.t 11) (.t 12)⟩,
   ⟨(some 14), none, .pick (.t 10) (.t 13) (.c (.bool false))⟩,
   ⟨(some 6), none, .mv (.t 14)⟩])
  .ret))
theorem k_spec_l01In : FnOk Try.prog 37 15 rc_spec_l01In [.t 6] := ⟨Try.f37, _, [], Try.func37, rfl, rfl, by kernel_rfl, by kernel_rfl, follows⟩
theorem ok_spec_l01In : okF Try.prog 37 = true := by kernel_rfl
def rc_spec_WordOk : RC :=
  (.seq (.reg [⟨(some 2), none, .mv (.c (.bool false))⟩])
  (.seq (.seq (.reg [⟨(some 3), none, .mv (.c (.int .i64 0))⟩])
  (.blk 0 (.loop (.seq (.seq (.reg [⟨(some 4), none, .mv (.t 3)⟩,
     ⟨(some 5), none, .mv (.t 0)⟩,
     ⟨(some 6), none, .lens (.t 5)⟩,
     ⟨(some 7), none, .bin .lss (.t 4) (.t 6)⟩])
    (.cond (.t 7)
      .skip
      (.exit 0)))
    (.seq (.blk 1 (.seq (.reg [⟨(some 10), none, .mv (.t 0)⟩,
      ⟨(some 11), none, .mv (.t 3)⟩,
      ⟨(some 12), none, .idx (.t 10) (.t 11)⟩,
      ⟨(some 13), none, .bin .lss (.t 12) (.c (.int .u8 97))⟩,
      ⟨(some 14), none, .mv (.t 13)⟩,
      ⟨(some 15), (some (14, false)), .mv (.t 0)⟩,
      ⟨(some 16), (some (14, false)), .mv (.t 3)⟩,
      ⟨(some 17), (some (14, false)), .idx (.t 15) (.t 16)⟩,
      ⟨(some 18), (some (14, false)), .bin .gtr (.t 17) (.c (.int .u8 122))⟩,
      ⟨(some 19), none, .pick (.t 14) (.c (.bool true)) (.t 18)⟩])
     (.cond (.t 19)
       (.seq (.reg [⟨(some 2), none, .mv (.c (.bool false))⟩])
       .ret)
       .skip)))
    (.reg [⟨(some 8), none, .mv (.t 3)⟩,
     ⟨(some 9), none, .bin .add (.t 8) (.c (.int .i64 1))⟩,
     ⟨(some 3), none, .mv (.t 9)⟩]))))))
  (.seq (.reg [⟨(some 20), none, .mv (.t 0)⟩,
   ⟨(some 21), none, .lens (.t 20)⟩,
   ⟨(some 22), none, .cl (.c (.fn 37 [])) [(.t 21), (.c (.int .i64 1)), (.c (.int .i64 8))]⟩,
   ⟨(some 2), none, .mv (.t 22)⟩])
  .ret)))
theorem k_spec_WordOk : FnOk Try.prog 103 23 rc_spec_WordOk [.t 2] := ⟨Try.f103, _, [], Try.func103, rfl, rfl, by kernel_rfl, by kernel_rfl, follows⟩
theorem ok_spec_WordOk : okF Try.prog 103 = true := by kernel_rfl
def rc_spec_RecOk : RC :=
  (.seq (.reg [⟨(some 1), none, .bx (.t 0)⟩,
   ⟨(some 2), none, .mv (.c (.bool false))⟩])
  (.seq (.seq (.reg [⟨(some 6), none, .fa 0 (.t 1)⟩,
   ⟨(some 7), none, .ld false 1 (.t 6)⟩,
   ⟨(some 8), none, .cl (.c (.fn 37 [])) [(.t 7), (.c (.int .i64 1)), (.c (.int .i64 5))]⟩,
   ⟨(some 9), none, .un .not (.t 8)⟩,
   ⟨(some 10), none, .mv (.t 9)⟩,
   ⟨(some 11), (some (10, false)), .fa 1 (.t 1)⟩,
   ⟨(some 12), (some (10, false)), .ld false 1 (.t 11)⟩,
   ⟨(some 13), (some (10, false)), .cl (.c (.fn 37 [])) [(.t 12), (.c (.int .i64 1)), (.c (.int .i64 9999))]⟩,
   ⟨(some 14), (some (10, false)), .un .not (.t 13)⟩,
   ⟨(some 15), none, .pick (.t 10) (.c (.bool true)) (.t 14)⟩])
  (.cond (.t 15)
    (.seq (.reg [⟨(some 2), none, .mv (.c (.bool false))⟩])
    .ret)
    .skip))
  (.seq (.reg [⟨(some 16), none, .fa 0 (.t 1)⟩,
   ⟨(some 17), none, .ld false 1 (.t 16)⟩,
   ⟨(some 18), none, .bin .eql (.t 17) (.c (.int .i64 1))⟩,
   ⟨(some 3), none, .mv (.t 18)⟩])
  (.seq (.reg [⟨(some 19), none, .fa 0 (.t 1)⟩,
   ⟨(some 20), none, .ld false 1 (.t 19)⟩,
   ⟨(some 21), none, .bin .eql (.t 20) (.c (.int .i64 3))⟩,
   ⟨(some 22), none, .mv (.t 21)⟩,
   ⟨(some 23), (some (22, false)), .fa 0 (.t 1)⟩,
   ⟨(some 24), (some (22, false)), .ld false 1 (.t 23)⟩,
   ⟨(some 25), (some (22, false)), .bin .eql (.t 24) (.c (.int .i64 4))⟩,
   ⟨(some 26), none, .pick (.t 22) (.c (.bool true)) (.t 25)⟩,
   ⟨(some 27), none, .mv (.t 26)⟩,
   ⟨(some 28), (some (27, false)), .fa 0 (.t 1)⟩,
   ⟨(some 29), (some (27, false)), .ld false 1 (.t 28)⟩,
   ⟨(some 30), (some (27, false)), .bin .eql (.t 29) (.c (.int .i64 5))⟩,
   ⟨(some 31), none, .pick (.t 27) (.c (.bool true)) (.t 30)⟩,
   ⟨(some 4), none, .mv (.t 31)⟩])
  (.seq (.reg [⟨(some 32), none, .fa 0 (.t 1)⟩,
   ⟨(some 33), none, .ld false 1 (.t 32)⟩,
   ⟨(some 34), none, .bin .eql (.t 33) (.c (.int .i64 3))⟩,
   ⟨(some 35), none, .mv (.t 34)⟩,
   ⟨(some 36), (some (35, false)), .fa 0 (.t 1)⟩,
   ⟨(some 37), (some (35, false)), .ld false 1 (.t 36)⟩,
   ⟨(some 38), (some (35, false)), .bin .eql (.t 37) (.c (.int .i64 4))⟩,
   ⟨(some 39), none, .pick (.t 35) (.c (.bool true)) (.t 38)⟩,
   ⟨(some 5), none, .mv (.t 39)⟩])
  (.seq (.seq (.reg [⟨(some 40), none, .mv (.t 3)⟩,
   ⟨(some 41), none, .mv (.t 40)⟩,
   ⟨(some 42), (some (41, true)), .fa 5 (.t 1)⟩,
   ⟨(some 43), (some (41, true)), .ld false 1 (.t 42)⟩,
   ⟨(some 44), (some (41, true)), .cl (.c (.fn 103 [])) [(.t 43)]⟩,
   ⟨(some 45), (some (41, true)), .un .not (.t 44)⟩,
   ⟨(some 46), (some (41, true)), .mv (.t 45)⟩,
   ⟨(some 47), (some (46, false)), .fa 6 (.t 1)⟩,
   ⟨(some 48), (some (46, false)), .ld false 1 (.t 47)⟩,
   ⟨(some 49), (some (46, false)), .cl (.c (.fn 103 [])) [(.t 48)]⟩,
   ⟨(some 50), (some (46, false)), .un .not (.t 49)⟩,
   ⟨(some 51), (some (41, true)), .pick (.t 46) (.c (.bool true)) (.t 50)⟩,
   ⟨(some 52), (some (41, true)), .mv (.t 51)⟩,
   ⟨(some 53), (some (52, false)), .fa 3 (.t 1)⟩,
   ⟨(some 54), (some (52, false)), .ld false 1 (.t 53)⟩,
   ⟨(some 55), (some (52, false)), .cl (.c (.fn 37 [])) [(.t 54), (.c (.int .i64 1)), (.c (.int .i64 10000))]⟩,
   ⟨(some 56), (some (52, false)), .un .not (.t 55)⟩,
   ⟨(some 57), (some (41, true)), .pick (.t 52) (.c (.bool true)) (.t 56)⟩,
   ⟨(some 58), none, .pick (.t 41) (.t 57) (.c (.bool false))⟩,
   ⟨(some 59), none, .mv (.t 58)⟩,
   ⟨(some 60), (some (59, false)), .mv (.t 3)⟩,
   ⟨(some 61), (some (59, false)), .un .not (.t 60)⟩,
   ⟨(some 62), (some (59, false)), .mv (.t 61)⟩,
   ⟨(some 63), (some (62, true)), .fa 5 (.t 1)⟩,
   ⟨(some 64), (some (62, true)), .ld false 1 (.t 63)⟩,
   ⟨(some 65), (some (62, true)), .bin .neq (.t 64) (.c (.str []))⟩,
   ⟨(some 66), (some (62, true)), .mv (.t 65)⟩,
   ⟨(some 67), (some (66, false)), .fa 6 (.t 1)⟩,
   ⟨(some 68), (some (66, false)), .ld false 1 (.t 67)⟩,
   ⟨(some 69), (some (66, false)), .bin .neq (.t 68) (.c (.str []))⟩,
   ⟨(some 70), (some (62, true)), .pick (.t 66) (.c (.bool true)) (.t 69)⟩,
   ⟨(some 71), (some (62, true)), .mv (.t 70)⟩,
   ⟨(some 72), (some (71, false)), .fa 3 (.t 1)⟩,
   ⟨(some 73), (some (71, false)), .ld false 1 (.t 72)⟩,
   ⟨(some 74), (some (71, false)), .bin .neq (.t 73) (.c (.int .i64 0))⟩,
   ⟨(some 75), (some (62, true)), .pick (.t 71) (.c (.bool true)) (.t 74)⟩,
   ⟨(some 76), (some (59, false)), .pick (.t 62) (.t 75) (.c (.bool false))⟩,
   ⟨(some 77), none, .pick (.t 59) (.c (.bool true)) (.t 76)⟩])
  (.cond (.t 77)
    (.seq (.reg [⟨(some 2), none, .mv (.c (.bool false))⟩])
    .ret)
    .skip))
  (.seq (.seq (.reg [⟨(some 78), none, .mv (.t 4)⟩,
   ⟨(some 79), none, .mv (.t 78)⟩,
   ⟨(some 80), (some (79, true)), .fa 2 (.t 1)⟩,
   ⟨(some 81), (some (79, true)), .ld false 1 (.t 80)⟩,
   ⟨(some 82), (some (79, true)), .cl (.c (.fn 37 [])) [(.t 81), (.c (.int .i64 1)), (.c (.int .i64 9999))]⟩,
   ⟨(some 83), (some (79, true)), .un .not (.t 82)⟩,
   ⟨(some 84), none, .pick (.t 79) (.t 83) (.c (.bool false))⟩,
   ⟨(some 85), none, .mv (.t 84)⟩,
   ⟨(some 86), (some (85, false)), .mv (.t 4)⟩,
   ⟨(some 87), (some (85, false)), .un .not (.t 86)⟩,
   ⟨(some 88), (some (85, false)), .mv (.t 87)⟩,
   ⟨(some 89), (some (88, true)), .fa 2 (.t 1)⟩,
   ⟨(some 90), (some (88, true)), .ld false 1 (.t 89)⟩,
   ⟨(some 91), (some (88, true)), .bin .neq (.t 90) (.c (.int .i64 0))⟩,
   ⟨(some 92), (some (85, false)), .pick (.t 88) (.t 91) (.c (.bool false))⟩,
   ⟨(some 93), none, .pick (.t 85) (.c (.bool true)) (.t 92)⟩])
  (.cond (.t 93)
    (.seq (.reg [⟨(some 2), none, .mv (.c (.bool false))⟩])
    .ret)
    .skip))
  (.seq (.seq (.reg [⟨(some 94), none, .mv (.t 5)⟩,
   ⟨(some 95), none, .mv (.t 94)⟩,
   ⟨(some 96), (some (95, true)), .fa 4 (.t 1)⟩,
   ⟨(some 97), (some (95, true)), .ld false 1 (.t 96)⟩,
   ⟨(some 98), (some (95, true)), .cl (.c (.fn 37 [])) [(.t 97), (.c (.int .i64 0)), (.c (.int .i64 7))]⟩,
   ⟨(some 99), (some (95, true)), .un .not (.t 98)⟩,
   ⟨(some 100), none, .pick (.t 95) (.t 99) (.c (.bool false))⟩,
   ⟨(some 101), none, .mv (.t 100)⟩,
   ⟨(some 102), (some (101, false)), .mv (.t 5)⟩,
   ⟨(some 103), (some (101, false)), .un .not (.t 102)⟩,
   ⟨(some 104), (some (101, false)), .mv (.t 103)⟩,
   ⟨(some 105), (some (104, true)), .fa 4 (.t 1)⟩,
   ⟨(some 106), (some (104, true)), .ld false 1 (.t 105)⟩,
   ⟨(some 107), (some (104, true)), .bin .neq (.t 106) (.c (.int .i64 0))⟩,
   ⟨(some 108), (some (101, false)), .pick (.t 104) (.t 107) (.c (.bool false))⟩,
   ⟨(some 109), none, .pick (.t 101) (.c (.bool true)) (.t 108)⟩])
  (.cond (.t 109)
    (.seq (.reg [⟨(some 2), none, .mv (.c (.bool false))⟩])
    .ret)
    .skip))
  (.seq (.seq (.reg [⟨(some 110), none, .fa 0 (.t 1)⟩,
   ⟨(some 111), none, .ld false 1 (.t 110)⟩,
   ⟨(some 112), none, .bin .eql (.t 111) (.c (.int .i64 3))⟩])
  (.cond (.t 112)
    (.seq (.reg [⟨(some 113), none, .fa 7 (.t 1)⟩,
     ⟨(some 114), none, .ld false 1 (.t 113)⟩,
     ⟨(some 115), none, .lens (.t 114)⟩,
     ⟨(some 116), none, .bin .leq (.t 115) (.c (.int .i64 100))⟩,
     ⟨(some 2), none, .mv (.t 116)⟩])
    .ret)
    .skip))
  (.seq (.reg [⟨(some 117), none, .fa 7 (.t 1)⟩,
   ⟨(some 118), none, .ld false 1 (.t 117)⟩,
   ⟨(some 119), none, .bin .eql (.t 118) (.c (.str []))⟩,
   ⟨(some 2), none, .mv (.t 119)⟩])
  .ret))))))))))
theorem k_spec_RecOk : FnOk Try.prog 83 120 rc_spec_RecOk [.t 2] := ⟨Try.f83, _, [], Try.func83, rfl, rfl, by kernel_rfl, by kernel_rfl, follows⟩
theorem ok_spec_RecOk : okF Try.prog 83 = true := by kernel_rfl
def rc_spec_RecText : RC :=
  (.seq (.reg [⟨(some 1), none, .bx (.t 0)⟩,
   ⟨(some 2), none, .mv (.c (.str []))⟩,
   ⟨(some 3), none, .mv (.c (.bool false))⟩])
  (.seq (.seq (.reg [⟨(some 4), none, .ld true 8 (.t 1)⟩,
   ⟨(some 5), none, .cl (.c (.fn 83 [])) [(.t 4)]⟩,
   ⟨(some 6), none, .un .not (.t 5)⟩])
  (.cond (.t 6)
    (.seq (.reg [⟨(some 2), none, .mv (.c (.str []))⟩,
     ⟨(some 3), none, .mv (.c (.bool false))⟩])
    .ret)
    .skip))
  (.seq (.drw [⟨(some 7), none, .fa 0 (.t 1)⟩,
   ⟨(some 8), none, .ld false 1 (.t 7)⟩,
   ⟨(some 9), none, .cvi .u8 (.t 8)⟩,
   ⟨(some 10), none, .bs 1 [.int .u8 0] 1 [(0, (.t 9))]⟩,
   ⟨(some 11), none, .cvb (.t 10)⟩,
   ⟨(some 12), none, .fa 1 (.t 1)⟩,
   ⟨(some 13), none, .ld false 1 (.t 12)⟩,
   ⟨(some 14), none, .cl (.c (.fn 43 [])) [(.t 13)]⟩,
   ⟨(some 15), none, .bin .add (.t 11) (.t 14)⟩,
   ⟨(some 16), none, .fa 2 (.t 1)⟩,
   ⟨(some 17), none, .ld false 1 (.t 16)⟩,
   ⟨(some 18), none, .cl (.c (.fn 43 [])) [(.t 17)]⟩,
   ⟨(some 19), none, .bin .add (.t 15) (.t 18)⟩,
   ⟨(some 20), none, .fa 3 (.t 1)⟩,
   ⟨(some 21), none, .ld false 1 (.t 20)⟩,
   ⟨(some 22), none, .cl (.c (.fn 43 [])) [(.t 21)]⟩,
   ⟨(some 23), none, .bin .add (.t 19) (.t 22)⟩,
   ⟨(some 24), none, .fa 4 (.t 1)⟩,
   ⟨(some 25), none, .ld false 1 (.t 24)⟩,
   ⟨(some 26), none, .cl (.c (.fn 43 [])) [(.t 25)]⟩,
   ⟨(some 27), none, .bin .add (.t 23) (.t 26)⟩,
   ⟨(some 28), none, .fa 5 (.t 1)⟩,
   ⟨(some 29), none, .ld false 1 (.t 28)⟩,
   ⟨(some 30), none, .cl (.c (.fn 45 [])) [(.t 29)]⟩,
   ⟨(some 31), none, .bin .add (.t 27) (.t 30)⟩,
   ⟨(some 32), none, .fa 6 (.t 1)⟩,
   ⟨(some 33), none, .ld false 1 (.t 32)⟩,
   ⟨(some 34), none, .cl (.c (.fn 45 [])) [(.t 33)]⟩,
   ⟨(some 35), none, .bin .add (.t 31) (.t 34)⟩,
   ⟨(some 36), none, .fa 7 (.t 1)⟩,
   ⟨(some 37), none, .ld false 1 (.t 36)⟩,
   ⟨(some 38), none, .cl (.c (.fn 45 [])) [(.t 37)]⟩,
   ⟨(some 39), none, .bin .add (.t 35) (.t 38)⟩,
   ⟨(some 2), none, .mv (.t 39)⟩,
   ⟨(some 3), none, .mv (.c (.bool true))⟩] [.val [], .val [], .val [], .chn [], .val [], .val [3], .val [3], .val [3], .val [], .val [3], .val [3], .val [3], .val [], .val [3], .val [3], .val [3], .val [], .val [3], .val [3], .val [3], .val [], .val [3], .val [3], .val [3], .val [], .val [3], .val [3], .val [3], .val [], .val [3], .val [3], .val [3], .val [], .val [], .val []])
  .ret)))
theorem k_spec_RecText : FnOk Try.prog 76 40 rc_spec_RecText [.t 2, .t 3] := ⟨Try.f76, _, [], Try.func76, rfl, rfl, by kernel_rfl, by kernel_rfl, follows⟩
theorem ok_spec_RecText : okF Try.prog 76 = true := by kernel_rfl
def rc_spec_FrameOk : RC :=
  (.seq (.reg [⟨(some 1), none, .bx (.t 0)⟩,
   ⟨(some 2), none, .mv (.c (.bool false))⟩])
  (.seq (.reg [⟨(some 3), none, .fa 0 (.t 1)⟩,
   ⟨(some 4), none, .ld false 1 (.t 3)⟩,
   ⟨(some 5), none, .cl (.c (.fn 37 [])) [(.t 4), (.c (.int .i64 1)), (.c (.int .i64 1000000000))]⟩,
   ⟨(some 6), none, .mv (.t 5)⟩,
   ⟨(some 7), (some (6, true)), .fa 1 (.t 1)⟩,
   ⟨(some 8), (some (6, true)), .ld false 1 (.t 7)⟩,
   ⟨(some 9), (some (6, true)), .cl (.c (.fn 37 [])) [(.t 8), (.c (.int .i64 1)), (.c (.int .i64 1000000000))]⟩,
   ⟨(some 10), none, .pick (.t 6) (.t 9) (.c (.bool false))⟩,
   ⟨(some 11), none, .mv (.t 10)⟩,
   ⟨(some 12), (some (11, true)), .fa 2 (.t 1)⟩,
   ⟨(some 13), (some (11, true)), .ld false 1 (.t 12)⟩,
   ⟨(some 14), (some (11, true)), .lens (.t 13)⟩,
   ⟨(some 15), (some (11, true)), .cl (.c (.fn 37 [])) [(.t 14), (.c (.int .i64 1)), (.c (.int .i64 180))]⟩,
   ⟨(some 16), none, .pick (.t 11) (.t 15) (.c (.bool false))⟩,
   ⟨(some 2), none, .mv (.t 16)⟩])
  .ret))
theorem k_spec_FrameOk : FnOk Try.prog 77 17 rc_spec_FrameOk [.t 2] := ⟨Try.f77, _, [], Try.func77, rfl, rfl, by kernel_rfl, by kernel_rfl, follows⟩
theorem ok_spec_FrameOk : okF Try.prog 77 = true := by kernel_rfl
def rc_spec_ItemFrame : RC :=
  (.seq (.reg [⟨(some 2), none, .bx (.t 0)⟩,
   ⟨(some 4), none, .al [.int .i64 0, .int .i64 0, .str []]⟩,
   ⟨(some 5), none, .mv (.c (.bool false))⟩])
  (.seq (.reg [⟨(some 10), none, .fa 1 (.t 2)⟩,
   ⟨(some 11), none, .ld true 8 (.t 10)⟩,
   ⟨(some 12), none, .cl (.c (.fn 76 [])) [(.t 11)]⟩,
   ⟨(some 9), none, .mv (.t 12)⟩,
   ⟨(some 13), none, .ext (.t 9) 0⟩,
   ⟨(some 14), none, .ext (.t 9) 1⟩,
   ⟨(some 6), none, .mv (.t 13)⟩,
   ⟨(some 7), none, .mv (.t 14)⟩])
  (.seq (.reg [⟨(some 15), none, .mv (.t 1)⟩,
   ⟨(some 16), none, .fa 0 (.t 2)⟩,
   ⟨(some 17), none, .ld false 1 (.t 16)⟩,
   ⟨(some 18), none, .mv (.t 6)⟩,
   ⟨(some 19), none, .bld [.int .i64 0, .int .i64 0, .str []] [(0, 1), (1, 1), (2, 1)] [(0, (.t 15)), (1, (.t 17)), (2, (.t 18))]⟩,
   ⟨(some 8), none, .al [.int .i64 0, .int .i64 0, .str []]⟩,
   ⟨none, none, .st 3 (.t 8) (.t 19)⟩])
  (.seq (.seq (.reg [⟨(some 20), none, .mv (.t 7)⟩,
   ⟨(some 21), none, .un .not (.t 20)⟩,
   ⟨(some 22), none, .mv (.t 21)⟩,
   ⟨(some 23), (some (22, false)), .ld true 3 (.t 8)⟩,
   ⟨(some 24), (some (22, false)), .cl (.c (.fn 77 [])) [(.t 23)]⟩,
   ⟨(some 25), (some (22, false)), .un .not (.t 24)⟩,
   ⟨(some 26), none, .pick (.t 22) (.c (.bool true)) (.t 25)⟩])
  (.cond (.t 26)
    (.seq (.reg [⟨(some 27), none, .bld [.int .i64 0, .int .i64 0, .str []] [(0, 1), (1, 1), (2, 1)] []⟩,
     ⟨none, none, .st 3 (.t 4) (.t 27)⟩,
     ⟨(some 5), none, .mv (.c (.bool false))⟩])
    .ret)
    .skip))
  (.seq (.reg [⟨(some 28), none, .ld true 3 (.t 8)⟩,
   ⟨none, none, .st 3 (.t 4) (.t 28)⟩,
   ⟨(some 5), none, .mv (.c (.bool true))⟩])
  .ret)))))
theorem k_spec_ItemFrame : FnOk Try.prog 53 29 rc_spec_ItemFrame [.cell 4 true 3, .t 5] := ⟨Try.f53, _, [], Try.func53, rfl, rfl, by kernel_rfl, by kernel_rfl, follows⟩
theorem ok_spec_ItemFrame : okF Try.prog 53 = true := by kernel_rfl
def rc_spec_l02Four : RC :=
  (.seq (.reg [⟨(some 2), none, .mv (.c (.str []))⟩])
  (.seq (.reg [⟨(some 3), none, .mv (.t 0)⟩,
   ⟨(some 4), none, .bin .shr (.t 3) (.c (.int .u64 24))⟩,
   ⟨(some 5), none, .cvi .u8 (.t 4)⟩,
   ⟨(some 6), none, .mv (.t 0)⟩,
   ⟨(some 7), none, .bin .shr (.t 6) (.c (.int .u64 16))⟩,
   ⟨(some 8), none, .cvi .u8 (.t 7)⟩,
   ⟨(some 9), none, .mv (.t 0)⟩,
   ⟨(some 10), none, .bin .shr (.t 9) (.c (.int .u64 8))⟩,
   ⟨(some 11), none, .cvi .u8 (.t 10)⟩,
   ⟨(some 12), none, .mv (.t 0)⟩,
   ⟨(some 13), none, .cvi .u8 (.t 12)⟩,
   ⟨(some 14), none, .bs 1 [.int .u8 0] 4 [(0, (.t 5)), (1, (.t 8)), (2, (.t 11)), (3, (.t 13))]⟩,
   ⟨(some 15), none, .cvb (.t 14)⟩,
   ⟨(some 2), none, .mv (.t 15)⟩])
  .ret))
theorem k_spec_l02Four : FnOk Try.prog 72 16 rc_spec_l02Four [.t 2] := ⟨Try.f72, _, [], Try.func72, rfl, rfl, by kernel_rfl, by kernel_rfl, follows⟩
theorem ok_spec_l02Four : okF Try.prog 72 = true := by kernel_rfl
def rc_spec_SumMore : RC :=
  (.seq (.reg [⟨(some 4), none, .mv (.c (.int .u32 0))⟩])
  (.seq (.seq (.reg [⟨(some 5), none, .mv (.c (.int .i64 0))⟩])
  (.blk 0 (.loop (.seq (.seq (.reg [⟨(some 8), none, .mv (.t 5)⟩,
     ⟨(some 9), none, .mv (.t 1)⟩,
     ⟨(some 10), none, .lens (.t 9)⟩,
     ⟨(some 11), none, .bin .lss (.t 8) (.t 10)⟩])
    (.cond (.t 11)
      .skip
      (.exit 0)))
    (.seq (.blk 1 (.seq (.reg [⟨(some 14), none, .mv (.t 0)⟩,
      ⟨(some 15), none, .mv (.t 1)⟩,
      ⟨(some 16), none, .mv (.t 5)⟩,
      ⟨(some 17), none, .idx (.t 15) (.t 16)⟩,
      ⟨(some 18), none, .cvi .u32 (.t 17)⟩,
      ⟨(some 19), none, .bin .xor (.t 14) (.t 18)⟩,
      ⟨(some 0), none, .mv (.t 19)⟩])
     (.seq (.reg [⟨(some 6), none, .mv (.c (.int .i64 0))⟩])
     (.blk 2 (.loop (.seq (.seq (.reg [⟨(some 20), none, .mv (.t 6)⟩,
        ⟨(some 21), none, .bin .lss (.t 20) (.c (.int .i64 8))⟩])
       (.cond (.t 21)
         .skip
         (.exit 2)))
       (.seq (.blk 3 (.seq (.reg [⟨(some 24), none, .mv (.t 0)⟩,
         ⟨(some 25), none, .bin .rem (.t 24) (.c (.int .u32 2))⟩,
         ⟨(some 26), none, .bin .eql (.t 25) (.c (.int .u32 1))⟩,
         ⟨(some 7), none, .mv (.t 26)⟩])
        (.seq (.reg [⟨(some 27), none, .mv (.t 0)⟩,
         ⟨(some 28), none, .bin .quo (.t 27) (.c (.int .u32 2))⟩,
         ⟨(some 0), none, .mv (.t 28)⟩])
        (.seq (.reg [⟨(some 29), none, .mv (.t 7)⟩])
        (.cond (.t 29)
          (.reg [⟨(some 30), none, .mv (.t 0)⟩,
           ⟨(some 31), none, .bin .xor (.t 30) (.c (.int .u32 3558460437))⟩,
           ⟨(some 0), none, .mv (.t 31)⟩])
          .skip)))))
       (.reg [⟨(some 22), none, .mv (.t 6)⟩,
        ⟨(some 23), none, .bin .add (.t 22) (.c (.int .i64 1))⟩,
        ⟨(some 6), none, .mv (.t 23)⟩]))))))))
    (.reg [⟨(some 12), none, .mv (.t 5)⟩,
     ⟨(some 13), none, .bin .add (.t 12) (.c (.int .i64 1))⟩,
     ⟨(some 5), none, .mv (.t 13)⟩]))))))
  (.seq (.reg [⟨(some 32), none, .mv (.t 0)⟩,
   ⟨(some 4), none, .mv (.t 32)⟩])
  .ret)))
theorem k_spec_SumMore : FnOk Try.prog 100 33 rc_spec_SumMore [.t 4] := ⟨Try.f100, _, [], Try.func100, rfl, rfl, by kernel_rfl, by kernel_rfl, follows⟩
theorem ok_spec_SumMore : okF Try.prog 100 = true := by kernel_rfl
def rc_spec_SumOf : RC :=
  (.seq (.reg [⟨(some 2), none, .mv (.c (.int .u32 0))⟩])
  (.seq (.reg [⟨(some 3), none, .mv (.t 0)⟩,
   ⟨(some 4), none, .cl (.c (.fn 100 [])) [(.c (.int .u32 4294967295)), (.t 3)]⟩,
   ⟨(some 2), none, .mv (.t 4)⟩])
  .ret))
theorem k_spec_SumOf : FnOk Try.prog 73 5 rc_spec_SumOf [.t 2] := ⟨Try.f73, _, [], Try.func73, rfl, rfl, by kernel_rfl, by kernel_rfl, follows⟩
theorem ok_spec_SumOf : okF Try.prog 73 = true := by kernel_rfl
def rc_spec_Sealed : RC :=
  (.seq (.reg [⟨(some 2), none, .mv (.c (.str []))⟩,
   ⟨(some 3), none, .mv (.c (.bool false))⟩])
  (.seq (.seq (.reg [⟨(some 4), none, .mv (.t 0)⟩,
   ⟨(some 5), none, .lens (.t 4)⟩,
   ⟨(some 6), none, .bin .gtr (.t 5) (.c (.int .i64 20000))⟩])
  (.cond (.t 6)
    (.seq (.reg [⟨(some 2), none, .mv (.c (.str []))⟩,
     ⟨(some 3), none, .mv (.c (.bool false))⟩])
    .ret)
    .skip))
  (.seq (.reg [⟨(some 7), none, .mv (.t 0)⟩,
   ⟨(some 8), none, .mv (.t 0)⟩,
   ⟨(some 9), none, .cl (.c (.fn 73 [])) [(.t 8)]⟩,
   ⟨(some 10), none, .cl (.c (.fn 72 [])) [(.t 9)]⟩,
   ⟨(some 11), none, .bin .add (.t 7) (.t 10)⟩,
   ⟨(some 2), none, .mv (.t 11)⟩,
   ⟨(some 3), none, .mv (.c (.bool true))⟩])
  .ret)))
theorem k_spec_Sealed : FnOk Try.prog 44 12 rc_spec_Sealed [.t 2, .t 3] := ⟨Try.f44, _, [], Try.func44, rfl, rfl, by kernel_rfl, by kernel_rfl, follows⟩
theorem ok_spec_Sealed : okF Try.prog 44 = true := by kernel_rfl
def rc_spec_FrameText : RC :=
  (.seq (.reg [⟨(some 1), none, .bx (.t 0)⟩,
   ⟨(some 2), none, .mv (.c (.str []))⟩,
   ⟨(some 3), none, .mv (.c (.bool false))⟩])
  (.seq (.seq (.reg [⟨(some 4), none, .ld true 3 (.t 1)⟩,
   ⟨(some 5), none, .cl (.c (.fn 77 [])) [(.t 4)]⟩,
   ⟨(some 6), none, .un .not (.t 5)⟩])
  (.cond (.t 6)
    (.seq (.reg [⟨(some 2), none, .mv (.c (.str []))⟩,
     ⟨(some 3), none, .mv (.c (.bool false))⟩])
    .ret)
    .skip))
  (.seq (.drw [⟨(some 7), none, .fa 0 (.t 1)⟩,
   ⟨(some 8), none, .ld false 1 (.t 7)⟩,
   ⟨(some 9), none, .cl (.c (.fn 43 [])) [(.t 8)]⟩,
   ⟨(some 10), none, .fa 1 (.t 1)⟩,
   ⟨(some 11), none, .ld false 1 (.t 10)⟩,
   ⟨(some 12), none, .cl (.c (.fn 43 [])) [(.t 11)]⟩,
   ⟨(some 13), none, .bin .add (.t 9) (.t 12)⟩,
   ⟨(some 14), none, .fa 2 (.t 1)⟩,
   ⟨(some 15), none, .ld false 1 (.t 14)⟩,
   ⟨(some 16), none, .lens (.t 15)⟩,
   ⟨(some 17), none, .cl (.c (.fn 43 [])) [(.t 16)]⟩,
   ⟨(some 18), none, .bin .add (.t 13) (.t 17)⟩,
   ⟨(some 19), none, .fa 2 (.t 1)⟩,
   ⟨(some 20), none, .ld false 1 (.t 19)⟩,
   ⟨(some 21), none, .bin .add (.t 18) (.t 20)⟩,
   ⟨(some 22), none, .cl (.c (.fn 44 [])) [(.t 21)]⟩,
   ⟨(some 23), none, .ext (.t 22) 0⟩,
   ⟨(some 24), none, .ext (.t 22) 1⟩,
   ⟨(some 2), none, .mv (.t 23)⟩,
   ⟨(some 3), none, .mv (.t 24)⟩] [.val [], .val [], .val [], .val [], .val [], .val [], .val [], .val [], .val [], .val [], .val [], .val [], .val [], .val [], .val [], .val [], .val [], .val [], .val [], .val []])
  .ret)))
theorem k_spec_FrameText : FnOk Try.prog 78 25 rc_spec_FrameText [.t 2, .t 3] := ⟨Try.f78, _, [], Try.func78, rfl, rfl, by kernel_rfl, by kernel_rfl, follows⟩
theorem ok_spec_FrameText : okF Try.prog 78 = true := by kernel_rfl
def rc_spec_FrameSize : RC :=
  (.seq (.reg [⟨(some 1), none, .bx (.t 0)⟩,
   ⟨(some 2), none, .mv (.c (.int .i64 0))⟩])
  (.seq (.reg [⟨(some 6), none, .ld true 3 (.t 1)⟩,
   ⟨(some 7), none, .cl (.c (.fn 78 [])) [(.t 6)]⟩,
   ⟨(some 5), none, .mv (.t 7)⟩,
   ⟨(some 8), none, .ext (.t 5) 0⟩,
   ⟨(some 9), none, .ext (.t 5) 1⟩,
   ⟨(some 3), none, .mv (.t 8)⟩,
   ⟨(some 4), none, .mv (.t 9)⟩])
  (.seq (.reg [⟨(some 10), none, .mv (.t 3)⟩,
   ⟨(some 11), none, .lens (.t 10)⟩,
   ⟨(some 2), none, .mv (.t 11)⟩])
  .ret)))
theorem k_spec_FrameSize : FnOk Try.prog 54 12 rc_spec_FrameSize [.t 2] := ⟨Try.f54, _, [], Try.func54, rfl, rfl, by kernel_rfl, by kernel_rfl, follows⟩
theorem ok_spec_FrameSize : okF Try.prog 54 = true := by kernel_rfl
def rc_spec_RecSize : RC :=
  (.seq (.reg [⟨(some 1), none, .bx (.t 0)⟩,
   ⟨(some 2), none, .mv (.c (.int .i64 0))⟩])
  (.seq (.reg [⟨(some 6), none, .ld true 8 (.t 1)⟩,
   ⟨(some 7), none, .bld [.int .i64 0, .int .i64 0, .int .i64 0, .int .i64 0, .int .i64 0, .int .i64 0, .str [], .str [], .str []] [(0, 1), (1, 8)] [(0, (.c (.int .i64 1000000000))), (1, (.t 6))]⟩,
   ⟨(some 8), none, .cl (.c (.fn 53 [])) [(.t 7), (.c (.int .i64 1000000000))]⟩,
   ⟨(some 5), none, .mv (.t 8)⟩,
   ⟨(some 9), none, .ext (.t 5) 0⟩,
   ⟨(some 10), none, .ext (.t 5) 1⟩,
   ⟨(some 3), none, .al [.int .i64 0, .int .i64 0, .str []]⟩,
   ⟨none, none, .st 3 (.t 3) (.t 9)⟩,
   ⟨(some 4), none, .mv (.t 10)⟩])
  (.seq (.seq (.reg [⟨(some 11), none, .mv (.t 4)⟩,
   ⟨(some 12), none, .un .not (.t 11)⟩])
  (.cond (.t 12)
    (.seq (.reg [⟨(some 2), none, .mv (.c (.int .i64 0))⟩])
    .ret)
    .skip))
  (.seq (.reg [⟨(some 13), none, .ld true 3 (.t 3)⟩,
   ⟨(some 14), none, .cl (.c (.fn 54 [])) [(.t 13)]⟩,
   ⟨(some 2), none, .mv (.t 14)⟩])
  .ret))))
theorem k_spec_RecSize : FnOk Try.prog 27 15 rc_spec_RecSize [.t 2] := ⟨Try.f27, _, [], Try.func27, rfl, rfl, by kernel_rfl, by kernel_rfl, follows⟩
theorem ok_spec_RecSize : okF Try.prog 27 = true := by kernel_rfl
def rc_laws_toRec : RC :=
  (.seq (.reg [⟨(some 1), none, .bx (.t 0)⟩,
   ⟨(some 2), none, .al [.int .i64 0, .int .i64 0, .int .i64 0, .int .i64 0, .int .i64 0, .str [], .str [], .str []]⟩])
  (.seq (.reg [⟨(some 3), none, .al [.int .i64 0, .int .i64 0, .int .i64 0, .int .i64 0, .int .i64 0, .str [], .str [], .str []]⟩])
  (.seq (.reg [⟨(some 4), none, .fa 0 (.t 1)⟩,
   ⟨(some 5), none, .ld false 1 (.t 4)⟩,
   ⟨(some 6), none, .fa 0 (.t 3)⟩,
   ⟨none, none, .st 1 (.t 6) (.t 5)⟩])
  (.seq (.reg [⟨(some 7), none, .fa 1 (.t 1)⟩,
   ⟨(some 8), none, .ld false 1 (.t 7)⟩,
   ⟨(some 9), none, .fa 1 (.t 3)⟩,
   ⟨none, none, .st 1 (.t 9) (.t 8)⟩])
  (.seq (.reg [⟨(some 10), none, .fa 2 (.t 1)⟩,
   ⟨(some 11), none, .ld false 1 (.t 10)⟩,
   ⟨(some 12), none, .fa 2 (.t 3)⟩,
   ⟨none, none, .st 1 (.t 12) (.t 11)⟩])
  (.seq (.reg [⟨(some 13), none, .fa 3 (.t 1)⟩,
   ⟨(some 14), none, .ld false 1 (.t 13)⟩,
   ⟨(some 15), none, .fa 3 (.t 3)⟩,
   ⟨none, none, .st 1 (.t 15) (.t 14)⟩])
  (.seq (.reg [⟨(some 16), none, .fa 4 (.t 1)⟩,
   ⟨(some 17), none, .ld false 1 (.t 16)⟩,
   ⟨(some 18), none, .fa 4 (.t 3)⟩,
   ⟨none, none, .st 1 (.t 18) (.t 17)⟩])
  (.seq (.reg [⟨(some 19), none, .fa 5 (.t 1)⟩,
   ⟨(some 20), none, .ld false 1 (.t 19)⟩,
   ⟨(some 21), none, .fa 5 (.t 3)⟩,
   ⟨none, none, .st 1 (.t 21) (.t 20)⟩])
  (.seq (.reg [⟨(some 22), none, .fa 6 (.t 1)⟩,
   ⟨(some 23), none, .ld false 1 (.t 22)⟩,
   ⟨(some 24), none, .fa 6 (.t 3)⟩,
   ⟨none, none, .st 1 (.t 24) (.t 23)⟩])
  (.seq (.reg [⟨(some 25), none, .fa 7 (.t 1)⟩,
   ⟨(some 26), none, .ld false 1 (.t 25)⟩,
   ⟨(some 27), none, .fa 7 (.t 3)⟩,
   ⟨none, none, .st 1 (.t 27) (.t 26)⟩])
  (.seq (.reg [⟨(some 28), none, .ld true 8 (.t 3)⟩,
   ⟨none, none, .st 8 (.t 2) (.t 28)⟩])
  .ret)))))))))))
theorem k_laws_toRec : FnOk Try.prog 28 29 rc_laws_toRec [.cell 2 true 8] := ⟨Try.f28, _, [], Try.func28, rfl, rfl, by kernel_rfl, by kernel_rfl, follows⟩
theorem ok_laws_toRec : okF Try.prog 28 = true := by kernel_rfl
def rc_impl_varText : RC :=
  (.seq (.reg [⟨(some 2), none, .mv (.c (.str []))⟩])
  (.seq (.reg [⟨(some 4), none, .bs 1 [.int .u8 0] 0 []⟩,
   ⟨(some 3), none, .mv (.t 4)⟩])
  (.seq (.blk 0 (.loop (.seq (.seq (.reg [⟨(some 5), none, .mv (.t 0)⟩,
     ⟨(some 6), none, .bin .gtr (.t 5) (.c (.int .i64 127))⟩])
    (.cond (.t 6)
      .skip
      (.exit 0)))
    (.blk 1 (.seq (.reg [⟨(some 7), none, .mv (.t 3)⟩,
      ⟨(some 8), none, .mv (.t 0)⟩,
      ⟨(some 9), none, .bin .and (.t 8) (.c (.int .i64 127))⟩,
      ⟨(some 10), none, .bin .or (.t 9) (.c (.int .i64 128))⟩,
      ⟨(some 11), none, .cvi .u8 (.t 10)⟩,
      ⟨(some 12), none, .bs 1 [.int .u8 0] 1 [(0, (.t 11))]⟩,
      ⟨(some 13), none, .app 1 1 (.t 7) (.t 12)⟩,
      ⟨(some 3), none, .mv (.t 13)⟩])
     (.reg [⟨(some 14), none, .mv (.t 0)⟩,
      ⟨(some 15), none, .bin .shr (.t 14) (.c (.int .u64 7))⟩,
      ⟨(some 0), none, .mv (.t 15)⟩]))))))
  (.seq (.reg [⟨(some 16), none, .mv (.t 3)⟩,
   ⟨(some 17), none, .mv (.t 0)⟩,
   ⟨(some 18), none, .cvi .u8 (.t 17)⟩,
   ⟨(some 19), none, .bs 1 [.int .u8 0] 1 [(0, (.t 18))]⟩,
   ⟨(some 20), none, .app 1 1 (.t 16) (.t 19)⟩,
   ⟨(some 21), none, .cvb (.t 20)⟩,
   ⟨(some 2), none, .mv (.t 21)⟩])
  .ret))))
theorem k_impl_varText : FnOk Try.prog 46 22 rc_impl_varText [.t 2] := ⟨Try.f46, _, [], Try.func46, rfl, rfl, by kernel_rfl, by kernel_rfl, follows⟩
theorem ok_impl_varText : okF Try.prog 46 = true := by kernel_rfl
def rc_impl_in : RC :=
  (.seq (.reg [⟨(some 6), none, .mv (.c (.bool false))⟩])
  (.seq (.reg [⟨(some 7), none, .mv (.t 0)⟩,
   ⟨(some 8), none, .mv (.t 1)⟩,
   ⟨(some 9), none, .bin .geq (.t 7) (.t 8)⟩,
   ⟨(some 10), none, .mv (.t 9)⟩,
   ⟨(some 11), (some (10, true)), .mv (.t 0)⟩,
   ⟨(some 12), (some (10, true)), .mv (.t 2)⟩,
   ⟨(some 13), (some (10, true)), .bin .leq (.t 11) (.t 12)⟩,
   ⟨(some 14), none, .pick (.t 10) (.t 13) (.c (.bool false))⟩,
   ⟨(some 6), none, .mv (.t 14)⟩])
  .ret))
theorem k_impl_in : FnOk Try.prog 39 15 rc_impl_in [.t 6] := ⟨Try.f39, _, [], Try.func39, rfl, rfl, by kernel_rfl, by kernel_rfl, follows⟩
theorem ok_impl_in : okF Try.prog 39 = true := by kernel_rfl
def rc_impl_WordOk : RC :=
  (.seq (.reg [⟨(some 2), none, .mv (.c (.bool false))⟩])
  (.seq (.seq (.reg [⟨(some 4), none, .mv (.t 0)⟩,
   ⟨(some 5), none, .lens (.t 4)⟩,
   ⟨(some 6), none, .cl (.c (.fn 39 [])) [(.t 5), (.c (.int .i64 1)), (.c (.int .i64 8))]⟩,
   ⟨(some 7), none, .un .not (.t 6)⟩])
  (.cond (.t 7)
    (.seq (.reg [⟨(some 2), none, .mv (.c (.bool false))⟩])
    .ret)
    .skip))
  (.seq (.seq (.reg [⟨(some 8), none, .mv (.t 0)⟩,
   ⟨(some 9), none, .lens (.t 8)⟩,
   ⟨(some 10), none, .mv (.c (.int .i64 0))⟩])
  (.blk 0 (.loop (.seq (.reg [⟨(some 11), none, .bin .lss (.t 10) (.t 9)⟩])
    (.seq (.cond (.t 11)
      .skip
      (.exit 0))
    (.seq (.blk 1 (.seq (.reg [⟨(some 12), none, .mv (.t 10)⟩,
      ⟨(some 3), none, .mv (.t 12)⟩])
     (.seq (.reg [⟨(some 13), none, .mv (.t 0)⟩,
      ⟨(some 14), none, .mv (.t 3)⟩,
      ⟨(some 15), none, .idx (.t 13) (.t 14)⟩,
      ⟨(some 16), none, .bin .lss (.t 15) (.c (.int .u8 97))⟩,
      ⟨(some 17), none, .mv (.t 16)⟩,
      ⟨(some 18), (some (17, false)), .mv (.t 0)⟩,
      ⟨(some 19), (some (17, false)), .mv (.t 3)⟩,
      ⟨(some 20), (some (17, false)), .idx (.t 18) (.t 19)⟩,
      ⟨(some 21), (some (17, false)), .bin .gtr (.t 20) (.c (.int .u8 122))⟩,
      ⟨(some 22), none, .pick (.t 17) (.c (.bool true)) (.t 21)⟩])
     (.cond (.t 22)
       (.seq (.reg [⟨(some 2), none, .mv (.c (.bool false))⟩])
       .ret)
       .skip))))
    (.reg [⟨(some 23), none, .bin .add (.t 10) (.c (.int .i64 1))⟩,
     ⟨(some 10), none, .mv (.t 23)⟩])))))))
  (.seq (.reg [⟨(some 2), none, .mv (.c (.bool true))⟩])
  .ret))))
theorem k_impl_WordOk : FnOk Try.prog 104 24 rc_impl_WordOk [.t 2] := ⟨Try.f104, _, [], Try.func104, rfl, rfl, by kernel_rfl, by kernel_rfl, follows⟩
theorem ok_impl_WordOk : okF Try.prog 104 = true := by kernel_rfl
def rc_impl_RecOk : RC :=
  (.seq (.reg [⟨(some 1), none, .bx (.t 0)⟩,
   ⟨(some 2), none, .mv (.c (.bool false))⟩])
  (.seq (.seq (.reg [⟨(some 5), none, .fa 1 (.t 1)⟩,
   ⟨(some 6), none, .ld false 1 (.t 5)⟩,
   ⟨(some 7), none, .cl (.c (.fn 39 [])) [(.t 6), (.c (.int .i64 1)), (.c (.int .i64 9999))]⟩,
   ⟨(some 8), none, .un .not (.t 7)⟩])
  (.cond (.t 8)
    (.seq (.reg [⟨(some 2), none, .mv (.c (.bool false))⟩])
    .ret)
    .skip))
  (.seq (.reg [⟨(some 9), none, .ld true 8 (.t 1)⟩,
   ⟨(some 3), none, .al [.int .i64 0, .int .i64 0, .int .i64 0, .int .i64 0, .int .i64 0, .str [], .str [], .str []]⟩,
   ⟨none, none, .st 8 (.t 3) (.t 9)⟩])
  (.seq (.reg [⟨(some 10), none, .fa 0 (.t 3)⟩,
   ⟨none, none, .st 1 (.t 10) (.c (.int .i64 0))⟩,
   ⟨(some 11), none, .fa 1 (.t 3)⟩,
   ⟨none, none, .st 1 (.t 11) (.c (.int .i64 0))⟩])
  (.seq (.reg [⟨(some 4), none, .mv (.c (.bool true))⟩])
  (.seq (.seq (.reg [⟨(some 12), none, .fa 0 (.t 1)⟩,
   ⟨(some 13), none, .ld false 1 (.t 12)⟩,
   ⟨(some 14), none, .bin .eql (.t 13) (.c (.int .i64 3))⟩,
   ⟨(some 15), none, .mv (.t 14)⟩,
   ⟨(some 16), (some (15, false)), .fa 0 (.t 1)⟩,
   ⟨(some 17), (some (15, false)), .ld false 1 (.t 16)⟩,
   ⟨(some 18), (some (15, false)), .bin .eql (.t 17) (.c (.int .i64 4))⟩,
   ⟨(some 19), none, .pick (.t 15) (.c (.bool true)) (.t 18)⟩,
   ⟨(some 20), none, .mv (.t 19)⟩,
   ⟨(some 21), (some (20, false)), .fa 0 (.t 1)⟩,
   ⟨(some 22), (some (20, false)), .ld false 1 (.t 21)⟩,
   ⟨(some 23), (some (20, false)), .bin .eql (.t 22) (.c (.int .i64 5))⟩,
   ⟨(some 24), none, .pick (.t 20) (.c (.bool true)) (.t 23)⟩])
  (.cond (.t 24)
    (.seq (.reg [⟨(some 25), none, .fa 2 (.t 1)⟩,
     ⟨(some 26), none, .ld false 1 (.t 25)⟩,
     ⟨(some 27), none, .cl (.c (.fn 39 [])) [(.t 26), (.c (.int .i64 1)), (.c (.int .i64 9999))]⟩,
     ⟨(some 4), none, .mv (.t 27)⟩])
    (.reg [⟨(some 28), none, .fa 2 (.t 3)⟩,
     ⟨none, none, .st 1 (.t 28) (.c (.int .i64 0))⟩]))
    .skip))
  (.seq (.seq (.reg [⟨(some 29), none, .fa 0 (.t 1)⟩,
   ⟨(some 30), none, .ld false 1 (.t 29)⟩,
   ⟨(some 31), none, .bin .eql (.t 30) (.c (.int .i64 3))⟩,
   ⟨(some 32), none, .mv (.t 31)⟩,
   ⟨(some 33), (some (32, false)), .fa 0 (.t 1)⟩,
   ⟨(some 34), (some (32, false)), .ld false 1 (.t 33)⟩,
   ⟨(some 35), (some (32, false)), .bin .eql (.t 34) (.c (.int .i64 4))⟩,
   ⟨(some 36), none, .pick (.t 32) (.c (.bool true)) (.t 35)⟩])
  (.cond (.t 36)
    (.seq (.reg [⟨(some 37), none, .mv (.t 4)⟩,
     ⟨(some 38), none, .mv (.t 37)⟩,
     ⟨(some 39), (some (38, true)), .fa 4 (.t 1)⟩,
     ⟨(some 40), (some (38, true)), .ld false 1 (.t 39)⟩,
     ⟨(some 41), (some (38, true)), .cl (.c (.fn 39 [])) [(.t 40), (.c (.int .i64 0)), (.c (.int .i64 7))]⟩,
     ⟨(some 42), none, .pick (.t 38) (.t 41) (.c (.bool false))⟩,
     ⟨(some 4), none, .mv (.t 42)⟩])
    (.reg [⟨(some 43), none, .fa 4 (.t 3)⟩,
     ⟨none, none, .st 1 (.t 43) (.c (.int .i64 0))⟩]))
    .skip))
  (.seq (.seq (.reg [⟨(some 44), none, .fa 0 (.t 1)⟩,
   ⟨(some 45), none, .ld false 1 (.t 44)⟩])
  (.blk 0 (.seq (.reg [⟨(some 47), none, .bin .eql (.t 45) (.c (.int .i64 1))⟩,
    ⟨(some 46), none, .mv (.t 47)⟩])
   (.cond (.t 46)
     (.seq (.reg [⟨(some 48), none, .fa 5 (.t 1)⟩,
      ⟨(some 49), none, .ld false 1 (.t 48)⟩,
      ⟨(some 50), none, .cl (.c (.fn 104 [])) [(.t 49)]⟩,
      ⟨(some 51), none, .mv (.t 50)⟩,
      ⟨(some 52), (some (51, true)), .fa 6 (.t 1)⟩,
      ⟨(some 53), (some (51, true)), .ld false 1 (.t 52)⟩,
      ⟨(some 54), (some (51, true)), .cl (.c (.fn 104 [])) [(.t 53)]⟩,
      ⟨(some 55), none, .pick (.t 51) (.t 54) (.c (.bool false))⟩,
      ⟨(some 56), none, .mv (.t 55)⟩,
      ⟨(some 57), (some (56, true)), .fa 3 (.t 1)⟩,
      ⟨(some 58), (some (56, true)), .ld false 1 (.t 57)⟩,
      ⟨(some 59), (some (56, true)), .cl (.c (.fn 39 [])) [(.t 58), (.c (.int .i64 1)), (.c (.int .i64 10000))]⟩,
      ⟨(some 60), none, .pick (.t 56) (.t 59) (.c (.bool false))⟩,
      ⟨(some 4), none, .mv (.t 60)⟩])
     (.reg [⟨(some 61), none, .fa 5 (.t 3)⟩,
      ⟨none, none, .st 1 (.t 61) (.c (.str []))⟩,
      ⟨(some 62), none, .fa 6 (.t 3)⟩,
      ⟨none, none, .st 1 (.t 62) (.c (.str []))⟩,
      ⟨(some 63), none, .fa 3 (.t 3)⟩,
      ⟨none, none, .st 1 (.t 63) (.c (.int .i64 0))⟩]))
     (.seq (.reg [⟨(some 65), none, .bin .eql (.t 45) (.c (.int .i64 3))⟩,
      ⟨(some 64), none, .mv (.t 65)⟩])
     (.cond (.t 64)
       (.seq (.reg [⟨(some 66), none, .mv (.t 4)⟩,
        ⟨(some 67), none, .mv (.t 66)⟩,
        ⟨(some 68), (some (67, true)), .fa 7 (.t 1)⟩,
        ⟨(some 69), (some (67, true)), .ld false 1 (.t 68)⟩,
        ⟨(some 70), (some (67, true)), .lens (.t 69)⟩,
        ⟨(some 71), (some (67, true)), .bin .leq (.t 70) (.c (.int .i64 100))⟩,
        ⟨(some 72), none, .pick (.t 67) (.t 71) (.c (.bool false))⟩,
        ⟨(some 4), none, .mv (.t 72)⟩])
       (.reg [⟨(some 73), none, .fa 7 (.t 3)⟩,
        ⟨none, none, .st 1 (.t 73) (.c (.str []))⟩]))
       (.seq (.seq (.reg [⟨(some 75), none, .bin .eql (.t 45) (.c (.int .i64 2))⟩,
        ⟨(some 74), none, .mv (.t 75)⟩])
       (.cond (.t 74)
         .skip
         (.seq (.reg [⟨(some 76), none, .bin .eql (.t 45) (.c (.int .i64 4))⟩,
          ⟨(some 74), none, .mv (.t 76)⟩])
         (.cond (.t 74)
           .skip
           (.reg [⟨(some 77), none, .bin .eql (.t 45) (.c (.int .i64 5))⟩,
            ⟨(some 74), none, .mv (.t 77)⟩])))))
       (.cond (.t 74)
         .skip
         (.seq (.reg [⟨(some 2), none, .mv (.c (.bool false))⟩])
         .ret)))))))))
  (.seq (.reg [⟨(some 78), none, .mv (.t 4)⟩,
   ⟨(some 79), none, .mv (.t 78)⟩,
   ⟨(some 80), (some (79, true)), .ld true 8 (.t 3)⟩,
   ⟨(some 81), (some (79, true)), .bld [.int .i64 0, .int .i64 0, .int .i64 0, .int .i64 0, .int .i64 0, .str [], .str [], .str []] [(0, 1), (1, 1), (2, 1), (3, 1), (4, 1), (5, 1), (6, 1), (7, 1)] []⟩,
   ⟨(some 82), (some (79, true)), .equ false [(0, 1), (1, 1), (2, 1), (3, 1), (4, 1), (5, 2), (6, 2), (7, 2)] (.t 80) (.t 81)⟩,
   ⟨(some 83), none, .pick (.t 79) (.t 82) (.c (.bool false))⟩,
   ⟨(some 2), none, .mv (.t 83)⟩])
  .ret)))))))))
theorem k_impl_RecOk : FnOk Try.prog 88 84 rc_impl_RecOk [.t 2] := ⟨Try.f88, _, [], Try.func88, rfl, rfl, by kernel_rfl, by kernel_rfl, follows⟩
theorem ok_impl_RecOk : okF Try.prog 88 = true := by kernel_rfl
def rc_impl_RecText : RC :=
  (.seq (.reg [⟨(some 1), none, .bx (.t 0)⟩,
   ⟨(some 2), none, .mv (.c (.str []))⟩,
   ⟨(some 3), none, .mv (.c (.bool false))⟩])
  (.seq (.seq (.reg [⟨(some 9), none, .ld true 8 (.t 1)⟩,
   ⟨(some 10), none, .cl (.c (.fn 88 [])) [(.t 9)]⟩,
   ⟨(some 11), none, .un .not (.t 10)⟩])
  (.cond (.t 11)
    (.seq (.reg [⟨(some 2), none, .mv (.c (.str []))⟩,
     ⟨(some 3), none, .mv (.c (.bool false))⟩])
    .ret)
    .skip))
  (.seq (.reg [⟨(some 12), none, .fa 0 (.t 1)⟩,
   ⟨(some 13), none, .ld false 1 (.t 12)⟩,
   ⟨(some 14), none, .cvi .u8 (.t 13)⟩,
   ⟨(some 15), none, .bs 1 [.int .u8 0] 1 [(0, (.t 14))]⟩,
   ⟨(some 16), none, .cvb (.t 15)⟩,
   ⟨(some 4), none, .mv (.t 16)⟩])
  (.seq (.seq (.reg [⟨(some 17), none, .fa 1 (.t 1)⟩,
   ⟨(some 18), none, .ld false 1 (.t 17)⟩,
   ⟨(some 19), none, .fa 2 (.t 1)⟩,
   ⟨(some 20), none, .ld false 1 (.t 19)⟩,
   ⟨(some 21), none, .fa 3 (.t 1)⟩,
   ⟨(some 22), none, .ld false 1 (.t 21)⟩,
   ⟨(some 23), none, .fa 4 (.t 1)⟩,
   ⟨(some 24), none, .ld false 1 (.t 23)⟩,
   ⟨(some 25), none, .bs 1 [.int .i64 0] 4 [(0, (.t 18)), (1, (.t 20)), (2, (.t 22)), (3, (.t 24))]⟩,
   ⟨(some 26), none, .lenl (.t 25)⟩,
   ⟨(some 27), none, .mv (.c (.int .i64 0))⟩])
  (.blk 0 (.loop (.seq (.reg [⟨(some 28), none, .bin .lss (.t 27) (.t 26)⟩])
    (.seq (.cond (.t 28)
      .skip
      (.exit 0))
    (.seq (.blk 1 (.seq (.reg [⟨(some 29), none, .ia 1 (.t 25) (.t 27)⟩,
      ⟨(some 30), none, .ld false 1 (.t 29)⟩,
      ⟨(some 6), none, .mv (.t 30)⟩])
     (.reg [⟨(some 31), none, .mv (.t 4)⟩,
      ⟨(some 32), none, .mv (.t 6)⟩,
      ⟨(some 33), none, .cl (.c (.fn 46 [])) [(.t 32)]⟩,
      ⟨(some 34), none, .bin .add (.t 31) (.t 33)⟩,
      ⟨(some 4), none, .mv (.t 34)⟩])))
    (.reg [⟨(some 35), none, .bin .add (.t 27) (.c (.int .i64 1))⟩,
     ⟨(some 27), none, .mv (.t 35)⟩])))))))
  (.seq (.seq (.reg [⟨(some 36), none, .fa 5 (.t 1)⟩,
   ⟨(some 37), none, .ld false 1 (.t 36)⟩,
   ⟨(some 38), none, .fa 6 (.t 1)⟩,
   ⟨(some 39), none, .ld false 1 (.t 38)⟩,
   ⟨(some 40), none, .fa 7 (.t 1)⟩,
   ⟨(some 41), none, .ld false 1 (.t 40)⟩,
   ⟨(some 42), none, .bs 1 [.str []] 3 [(0, (.t 37)), (1, (.t 39)), (2, (.t 41))]⟩,
   ⟨(some 43), none, .lenl (.t 42)⟩,
   ⟨(some 44), none, .mv (.c (.int .i64 0))⟩])
  (.blk 2 (.loop (.seq (.reg [⟨(some 45), none, .bin .lss (.t 44) (.t 43)⟩])
    (.seq (.cond (.t 45)
      .skip
      (.exit 2))
    (.seq (.blk 3 (.seq (.reg [⟨(some 46), none, .ia 1 (.t 42) (.t 44)⟩,
      ⟨(some 47), none, .ld false 1 (.t 46)⟩,
      ⟨(some 8), none, .mv (.t 47)⟩])
     (.reg [⟨(some 48), none, .mv (.t 4)⟩,
      ⟨(some 49), none, .mv (.t 8)⟩,
      ⟨(some 50), none, .lens (.t 49)⟩,
      ⟨(some 51), none, .cl (.c (.fn 46 [])) [(.t 50)]⟩,
      ⟨(some 52), none, .mv (.t 8)⟩,
      ⟨(some 53), none, .bin .add (.t 51) (.t 52)⟩,
      ⟨(some 54), none, .bin .add (.t 48) (.t 53)⟩,
      ⟨(some 4), none, .mv (.t 54)⟩])))
    (.reg [⟨(some 55), none, .bin .add (.t 44) (.c (.int .i64 1))⟩,
     ⟨(some 44), none, .mv (.t 55)⟩])))))))
  (.seq (.reg [⟨(some 56), none, .mv (.t 4)⟩,
   ⟨(some 2), none, .mv (.t 56)⟩,
   ⟨(some 3), none, .mv (.c (.bool true))⟩])
  .ret))))))
theorem k_impl_RecText : FnOk Try.prog 79 57 rc_impl_RecText [.t 2, .t 3] := ⟨Try.f79, _, [], Try.func79, rfl, rfl, by kernel_rfl, by kernel_rfl, follows⟩
theorem ok_impl_RecText : okF Try.prog 79 = true := by kernel_rfl
def rc_impl_FrameOk : RC :=
  (.seq (.reg [⟨(some 1), none, .bx (.t 0)⟩,
   ⟨(some 2), none, .mv (.c (.bool false))⟩])
  (.seq (.reg [⟨(some 3), none, .fa 0 (.t 1)⟩,
   ⟨(some 4), none, .ld false 1 (.t 3)⟩,
   ⟨(some 5), none, .cl (.c (.fn 39 [])) [(.t 4), (.c (.int .i64 1)), (.c (.int .i64 1000000000))]⟩,
   ⟨(some 6), none, .mv (.t 5)⟩,
   ⟨(some 7), (some (6, true)), .fa 1 (.t 1)⟩,
   ⟨(some 8), (some (6, true)), .ld false 1 (.t 7)⟩,
   ⟨(some 9), (some (6, true)), .cl (.c (.fn 39 [])) [(.t 8), (.c (.int .i64 1)), (.c (.int .i64 1000000000))]⟩,
   ⟨(some 10), none, .pick (.t 6) (.t 9) (.c (.bool false))⟩,
   ⟨(some 11), none, .mv (.t 10)⟩,
   ⟨(some 12), (some (11, true)), .fa 2 (.t 1)⟩,
   ⟨(some 13), (some (11, true)), .ld false 1 (.t 12)⟩,
   ⟨(some 14), (some (11, true)), .lens (.t 13)⟩,
   ⟨(some 15), (some (11, true)), .cl (.c (.fn 39 [])) [(.t 14), (.c (.int .i64 1)), (.c (.int .i64 180))]⟩,
   ⟨(some 16), none, .pick (.t 11) (.t 15) (.c (.bool false))⟩,
   ⟨(some 2), none, .mv (.t 16)⟩])
  .ret))
theorem k_impl_FrameOk : FnOk Try.prog 80 17 rc_impl_FrameOk [.t 2] := ⟨Try.f80, _, [], Try.func80, rfl, rfl, by kernel_rfl, by kernel_rfl, follows⟩
theorem ok_impl_FrameOk : okF Try.prog 80 = true := by kernel_rfl
def rc_impl_ItemFrame : RC :=
  (.seq (.reg [⟨(some 2), none, .bx (.t 0)⟩,
   ⟨(some 4), none, .al [.int .i64 0, .int .i64 0, .str []]⟩,
   ⟨(some 5), none, .mv (.c (.bool false))⟩])
  (.seq (.reg [⟨(some 10), none, .fa 1 (.t 2)⟩,
   ⟨(some 11), none, .ld true 8 (.t 10)⟩,
   ⟨(some 12), none, .cl (.c (.fn 79 [])) [(.t 11)]⟩,
   ⟨(some 9), none, .mv (.t 12)⟩,
   ⟨(some 13), none, .ext (.t 9) 0⟩,
   ⟨(some 14), none, .ext (.t 9) 1⟩,
   ⟨(some 6), none, .mv (.t 13)⟩,
   ⟨(some 7), none, .mv (.t 14)⟩])
  (.seq (.reg [⟨(some 15), none, .mv (.t 1)⟩,
   ⟨(some 16), none, .fa 0 (.t 2)⟩,
   ⟨(some 17), none, .ld false 1 (.t 16)⟩,
   ⟨(some 18), none, .mv (.t 6)⟩,
   ⟨(some 19), none, .bld [.int .i64 0, .int .i64 0, .str []] [(0, 1), (1, 1), (2, 1)] [(0, (.t 15)), (1, (.t 17)), (2, (.t 18))]⟩,
   ⟨(some 8), none, .al [.int .i64 0, .int .i64 0, .str []]⟩,
   ⟨none, none, .st 3 (.t 8) (.t 19)⟩])
  (.seq (.seq (.reg [⟨(some 20), none, .mv (.t 7)⟩,
   ⟨(some 21), none, .un .not (.t 20)⟩,
   ⟨(some 22), none, .mv (.t 21)⟩,
   ⟨(some 23), (some (22, false)), .ld true 3 (.t 8)⟩,
   ⟨(some 24), (some (22, false)), .cl (.c (.fn 80 [])) [(.t 23)]⟩,
   ⟨(some 25), (some (22, false)), .un .not (.t 24)⟩,
   ⟨(some 26), none, .pick (.t 22) (.c (.bool true)) (.t 25)⟩])
  (.cond (.t 26)
    (.seq (.reg [⟨(some 27), none, .bld [.int .i64 0, .int .i64 0, .str []] [(0, 1), (1, 1), (2, 1)] []⟩,
     ⟨none, none, .st 3 (.t 4) (.t 27)⟩,
     ⟨(some 5), none, .mv (.c (.bool false))⟩])
    .ret)
    .skip))
  (.seq (.reg [⟨(some 28), none, .ld true 3 (.t 8)⟩,
   ⟨none, none, .st 3 (.t 4) (.t 28)⟩,
   ⟨(some 5), none, .mv (.c (.bool true))⟩])
  .ret)))))
theorem k_impl_ItemFrame : FnOk Try.prog 55 29 rc_impl_ItemFrame [.cell 4 true 3, .t 5] := ⟨Try.f55, _, [], Try.func55, rfl, rfl, by kernel_rfl, by kernel_rfl, follows⟩
theorem ok_impl_ItemFrame : okF Try.prog 55 = true := by kernel_rfl
def rc_impl_SumMore : RC :=
  (.seq (.reg [⟨(some 4), none, .mv (.c (.int .u32 0))⟩])
  (.seq (.seq (.reg [⟨(some 7), none, .mv (.t 1)⟩,
   ⟨(some 8), none, .lens (.t 7)⟩,
   ⟨(some 9), none, .mv (.c (.int .i64 0))⟩])
  (.blk 0 (.loop (.seq (.reg [⟨(some 10), none, .bin .lss (.t 9) (.t 8)⟩])
    (.seq (.cond (.t 10)
      .skip
      (.exit 0))
    (.seq (.blk 1 (.seq (.reg [⟨(some 11), none, .mv (.t 9)⟩,
      ⟨(some 5), none, .mv (.t 11)⟩])
     (.seq (.reg [⟨(some 12), none, .mv (.t 0)⟩,
      ⟨(some 13), none, .mv (.t 1)⟩,
      ⟨(some 14), none, .mv (.t 5)⟩,
      ⟨(some 15), none, .idx (.t 13) (.t 14)⟩,
      ⟨(some 16), none, .cvi .u32 (.t 15)⟩,
      ⟨(some 17), none, .bin .xor (.t 12) (.t 16)⟩,
      ⟨(some 0), none, .mv (.t 17)⟩])
     (.seq (.reg [⟨(some 18), none, .mv (.c (.int .i64 0))⟩])
     (.blk 2 (.loop (.seq (.reg [⟨(some 19), none, .bin .lss (.t 18) (.c (.int .i64 8))⟩])
       (.seq (.cond (.t 19)
         .skip
         (.exit 2))
       (.seq (.blk 3 (.seq (.reg [⟨(some 20), none, .mv (.t 0)⟩,
         ⟨(some 21), none, .bin .and (.t 20) (.c (.int .u32 1))⟩,
         ⟨(some 22), none, .bin .eql (.t 21) (.c (.int .u32 1))⟩,
         ⟨(some 6), none, .mv (.t 22)⟩])
        (.seq (.reg [⟨(some 23), none, .mv (.t 0)⟩,
         ⟨(some 24), none, .bin .shr (.t 23) (.c (.int .u64 1))⟩,
         ⟨(some 0), none, .mv (.t 24)⟩])
        (.seq (.reg [⟨(some 25), none, .mv (.t 6)⟩])
        (.cond (.t 25)
          (.reg [⟨(some 26), none, .mv (.t 0)⟩,
           ⟨(some 27), none, .bin .xor (.t 26) (.c (.int .u32 3558460437))⟩,
           ⟨(some 0), none, .mv (.t 27)⟩])
          .skip)))))
       (.reg [⟨(some 28), none, .bin .add (.t 18) (.c (.int .i64 1))⟩,
        ⟨(some 18), none, .mv (.t 28)⟩]))))))))))
    (.reg [⟨(some 29), none, .bin .add (.t 9) (.c (.int .i64 1))⟩,
     ⟨(some 9), none, .mv (.t 29)⟩])))))))
  (.seq (.reg [⟨(some 30), none, .mv (.t 0)⟩,
   ⟨(some 4), none, .mv (.t 30)⟩])
  .ret)))
theorem k_impl_SumMore : FnOk Try.prog 101 31 rc_impl_SumMore [.t 4] := ⟨Try.f101, _, [], Try.func101, rfl, rfl, by kernel_rfl, by kernel_rfl, follows⟩
theorem ok_impl_SumMore : okF Try.prog 101 = true := by kernel_rfl
def rc_impl_SumOf : RC :=
  (.seq (.reg [⟨(some 2), none, .mv (.c (.int .u32 0))⟩])
  (.seq (.reg [⟨(some 3), none, .mv (.t 0)⟩,
   ⟨(some 4), none, .cl (.c (.fn 101 [])) [(.c (.int .u32 4294967295)), (.t 3)]⟩,
   ⟨(some 2), none, .mv (.t 4)⟩])
  .ret))
theorem k_impl_SumOf : FnOk Try.prog 74 5 rc_impl_SumOf [.t 2] := ⟨Try.f74, _, [], Try.func74, rfl, rfl, by kernel_rfl, by kernel_rfl, follows⟩
theorem ok_impl_SumOf : okF Try.prog 74 = true := by kernel_rfl
def rc_impl_seal : RC :=
  (.seq (.reg [⟨(some 2), none, .mv (.c (.str []))⟩])
  (.seq (.reg [⟨(some 4), none, .mv (.t 0)⟩,
   ⟨(some 5), none, .cl (.c (.fn 74 [])) [(.t 4)]⟩,
   ⟨(some 3), none, .mv (.t 5)⟩])
  (.seq (.reg [⟨(some 6), none, .mv (.t 3)⟩,
   ⟨(some 7), none, .bin .shr (.t 6) (.c (.int .u64 24))⟩,
   ⟨(some 8), none, .cvi .u8 (.t 7)⟩,
   ⟨(some 9), none, .mv (.t 3)⟩,
   ⟨(some 10), none, .bin .shr (.t 9) (.c (.int .u64 16))⟩,
   ⟨(some 11), none, .cvi .u8 (.t 10)⟩,
   ⟨(some 12), none, .mv (.t 3)⟩,
   ⟨(some 13), none, .bin .shr (.t 12) (.c (.int .u64 8))⟩,
   ⟨(some 14), none, .cvi .u8 (.t 13)⟩,
   ⟨(some 15), none, .mv (.t 3)⟩,
   ⟨(some 16), none, .cvi .u8 (.t 15)⟩,
   ⟨(some 17), none, .bs 1 [.int .u8 0] 4 [(0, (.t 8)), (1, (.t 11)), (2, (.t 14)), (3, (.t 16))]⟩,
   ⟨(some 18), none, .cvb (.t 17)⟩,
   ⟨(some 2), none, .mv (.t 18)⟩])
  .ret)))
theorem k_impl_seal : FnOk Try.prog 47 19 rc_impl_seal [.t 2] := ⟨Try.f47, _, [], Try.func47, rfl, rfl, by kernel_rfl, by kernel_rfl, follows⟩
theorem ok_impl_seal : okF Try.prog 47 = true := by kernel_rfl
def rc_impl_Sealed : RC :=
  (.seq (.reg [⟨(some 2), none, .mv (.c (.str []))⟩,
   ⟨(some 3), none, .mv (.c (.bool false))⟩])
  (.seq (.seq (.reg [⟨(some 4), none, .mv (.t 0)⟩,
   ⟨(some 5), none, .lens (.t 4)⟩,
   ⟨(some 6), none, .bin .gtr (.t 5) (.c (.int .i64 20000))⟩])
  (.cond (.t 6)
    (.seq (.reg [⟨(some 2), none, .mv (.c (.str []))⟩,
     ⟨(some 3), none, .mv (.c (.bool false))⟩])
    .ret)
    .skip))
  (.seq (.reg [⟨(some 7), none, .mv (.t 0)⟩,
   ⟨(some 8), none, .mv (.t 0)⟩,
   ⟨(some 9), none, .cl (.c (.fn 47 [])) [(.t 8)]⟩,
   ⟨(some 10), none, .bin .add (.t 7) (.t 9)⟩,
   ⟨(some 2), none, .mv (.t 10)⟩,
   ⟨(some 3), none, .mv (.c (.bool true))⟩])
  .ret)))
theorem k_impl_Sealed : FnOk Try.prog 102 11 rc_impl_Sealed [.t 2, .t 3] := ⟨Try.f102, _, [], Try.func102, rfl, rfl, by kernel_rfl, by kernel_rfl, follows⟩
theorem ok_impl_Sealed : okF Try.prog 102 = true := by kernel_rfl
def rc_impl_FrameText : RC :=
  (.seq (.reg [⟨(some 1), none, .bx (.t 0)⟩,
   ⟨(some 2), none, .mv (.c (.str []))⟩,
   ⟨(some 3), none, .mv (.c (.bool false))⟩])
  (.seq (.seq (.reg [⟨(some 4), none, .ld true 3 (.t 1)⟩,
   ⟨(some 5), none, .cl (.c (.fn 80 [])) [(.t 4)]⟩,
   ⟨(some 6), none, .un .not (.t 5)⟩])
  (.cond (.t 6)
    (.seq (.reg [⟨(some 2), none, .mv (.c (.str []))⟩,
     ⟨(some 3), none, .mv (.c (.bool false))⟩])
    .ret)
    .skip))
  (.seq (.drw [⟨(some 7), none, .fa 0 (.t 1)⟩,
   ⟨(some 8), none, .ld false 1 (.t 7)⟩,
   ⟨(some 9), none, .cl (.c (.fn 46 [])) [(.t 8)]⟩,
   ⟨(some 10), none, .fa 1 (.t 1)⟩,
   ⟨(some 11), none, .ld false 1 (.t 10)⟩,
   ⟨(some 12), none, .cl (.c (.fn 46 [])) [(.t 11)]⟩,
   ⟨(some 13), none, .bin .add (.t 9) (.t 12)⟩,
   ⟨(some 14), none, .fa 2 (.t 1)⟩,
   ⟨(some 15), none, .ld false 1 (.t 14)⟩,
   ⟨(some 16), none, .lens (.t 15)⟩,
   ⟨(some 17), none, .cl (.c (.fn 46 [])) [(.t 16)]⟩,
   ⟨(some 18), none, .bin .add (.t 13) (.t 17)⟩,
   ⟨(some 19), none, .fa 2 (.t 1)⟩,
   ⟨(some 20), none, .ld false 1 (.t 19)⟩,
   ⟨(some 21), none, .bin .add (.t 18) (.t 20)⟩,
   ⟨(some 22), none, .cl (.c (.fn 102 [])) [(.t 21)]⟩,
   ⟨(some 23), none, .ext (.t 22) 0⟩,
   ⟨(some 24), none, .ext (.t 22) 1⟩,
   ⟨(some 2), none, .mv (.t 23)⟩,
   ⟨(some 3), none, .mv (.t 24)⟩] [.val [], .val [], .val [], .val [], .val [], .val [], .val [], .val [], .val [], .val [], .val [], .val [], .val [], .val [], .val [], .val [], .val [], .val [], .val [], .val []])
  .ret)))
theorem k_impl_FrameText : FnOk Try.prog 81 25 rc_impl_FrameText [.t 2, .t 3] := ⟨Try.f81, _, [], Try.func81, rfl, rfl, by kernel_rfl, by kernel_rfl, follows⟩
theorem ok_impl_FrameText : okF Try.prog 81 = true := by kernel_rfl
def rc_impl_FrameSize : RC :=
  (.seq (.reg [⟨(some 1), none, .bx (.t 0)⟩,
   ⟨(some 2), none, .mv (.c (.int .i64 0))⟩])
  (.seq (.reg [⟨(some 6), none, .ld true 3 (.t 1)⟩,
   ⟨(some 7), none, .cl (.c (.fn 81 [])) [(.t 6)]⟩,
   ⟨(some 5), none, .mv (.t 7)⟩,
   ⟨(some 8), none, .ext (.t 5) 0⟩,
   ⟨(some 9), none, .ext (.t 5) 1⟩,
   ⟨(some 3), none, .mv (.t 8)⟩,
   ⟨(some 4), none, .mv (.t 9)⟩])
  (.seq (.reg [⟨(some 10), none, .mv (.t 3)⟩,
   ⟨(some 11), none, .lens (.t 10)⟩,
   ⟨(some 2), none, .mv (.t 11)⟩])
  .ret)))
theorem k_impl_FrameSize : FnOk Try.prog 56 12 rc_impl_FrameSize [.t 2] := ⟨Try.f56, _, [], Try.func56, rfl, rfl, by kernel_rfl, by kernel_rfl, follows⟩
theorem ok_impl_FrameSize : okF Try.prog 56 = true := by kernel_rfl
def rc_impl_RecSize : RC :=
  (.seq (.reg [⟨(some 1), none, .bx (.t 0)⟩,
   ⟨(some 2), none, .mv (.c (.int .i64 0))⟩])
  (.seq (.reg [⟨(some 6), none, .ld true 8 (.t 1)⟩,
   ⟨(some 7), none, .bld [.int .i64 0, .int .i64 0, .int .i64 0, .int .i64 0, .int .i64 0, .int .i64 0, .str [], .str [], .str []] [(0, 1), (1, 8)] [(0, (.c (.int .i64 1000000000))), (1, (.t 6))]⟩,
   ⟨(some 8), none, .cl (.c (.fn 55 [])) [(.t 7), (.c (.int .i64 1000000000))]⟩,
   ⟨(some 5), none, .mv (.t 8)⟩,
   ⟨(some 9), none, .ext (.t 5) 0⟩,
   ⟨(some 10), none, .ext (.t 5) 1⟩,
   ⟨(some 3), none, .al [.int .i64 0, .int .i64 0, .str []]⟩,
   ⟨none, none, .st 3 (.t 3) (.t 9)⟩,
   ⟨(some 4), none, .mv (.t 10)⟩])
  (.seq (.seq (.reg [⟨(some 11), none, .mv (.t 4)⟩,
   ⟨(some 12), none, .un .not (.t 11)⟩])
  (.cond (.t 12)
    (.seq (.reg [⟨(some 2), none, .mv (.c (.int .i64 0))⟩])
    .ret)
    .skip))
  (.seq (.reg [⟨(some 13), none, .ld true 3 (.t 3)⟩,
   ⟨(some 14), none, .cl (.c (.fn 56 [])) [(.t 13)]⟩,
   ⟨(some 2), none, .mv (.t 14)⟩])
  .ret))))
theorem k_impl_RecSize : FnOk Try.prog 29 15 rc_impl_RecSize [.t 2] := ⟨Try.f29, _, [], Try.func29, rfl, rfl, by kernel_rfl, by kernel_rfl, follows⟩
theorem ok_impl_RecSize : okF Try.prog 29 = true := by kernel_rfl
def rc_laws_FnExactRecSize : RC :=
  (.seq (.reg [⟨(some 1), none, .bx (.t 0)⟩,
   ⟨(some 2), none, .mv (.c (.bool false))⟩])
  (.seq (.reg [⟨(some 3), none, .mv (.c (.int .i64 1048576))⟩])
  (.seq (.reg [⟨(some 6), none, .ld true 8 (.t 1)⟩,
   ⟨(some 7), none, .mv (.t 3)⟩,
   ⟨(some 8), none, .cl (.c (.fn 26 [])) [(.t 6), (.t 7)]⟩,
   ⟨(some 3), none, .mv (.t 8)⟩])
  (.seq (.seq (.reg [⟨(some 9), none, .mv (.t 3)⟩,
   ⟨(some 10), none, .bin .lss (.t 9) (.c (.int .i64 0))⟩])
  (.cond (.t 10)
    (.seq (.reg [⟨(some 2), none, .mv (.c (.bool true))⟩])
    .ret)
    .skip))
  (.seq (.reg [⟨(some 11), none, .ld true 8 (.t 1)⟩,
   ⟨(some 12), none, .cl (.c (.fn 28 [])) [(.t 11)]⟩,
   ⟨(some 13), none, .cl (.c (.fn 27 [])) [(.t 12)]⟩,
   ⟨(some 4), none, .mv (.t 13)⟩])
  (.seq (.reg [⟨(some 14), none, .ld true 8 (.t 1)⟩,
   ⟨(some 15), none, .cl (.c (.fn 28 [])) [(.t 14)]⟩,
   ⟨(some 16), none, .cl (.c (.fn 29 [])) [(.t 15)]⟩,
   ⟨(some 5), none, .mv (.t 16)⟩])
  (.seq (.seq (.reg [⟨(some 17), none, .mv (.t 5)⟩,
   ⟨(some 18), none, .mv (.t 4)⟩,
   ⟨(some 19), none, .bin .neq (.t 17) (.t 18)⟩])
  (.cond (.t 19)
    (.seq (.reg [⟨(some 2), none, .mv (.c (.bool false))⟩])
    .ret)
    .skip))
  (.seq (.reg [⟨(some 2), none, .mv (.c (.bool true))⟩])
  .ret))))))))
theorem k_laws_FnExactRecSize : FnOk Try.prog 6 20 rc_laws_FnExactRecSize [.t 2] := ⟨Try.f6, _, [], Try.func6, rfl, rfl, by kernel_rfl, by kernel_rfl, follows⟩
theorem ok_laws_FnExactRecSize : okF Try.prog 6 = true := by kernel_rfl
end Go.Proofs.Ytpecafogemipmaa.V
