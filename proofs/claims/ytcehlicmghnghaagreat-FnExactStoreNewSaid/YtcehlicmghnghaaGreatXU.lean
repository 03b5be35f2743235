/- The functions' texts. -/
import Derived.Test.YtcehlicmghnghaaGreatXE
import Derived.Test.YtcehlicmghnghaaGreatProg
import Derived.KernelRfl
import Derived.Shelf.Strings.Repeat
/- The functions' texts. -/
namespace Go.Proofs.YtcehlicmghnghaaGreat.V
open Go Go.Proofs Go.RowKit
set_option maxRecDepth 100000
theorem follows : Tryz.prog.follows .mixedOrders = true := by kernel_rfl
def rc_spec_l01In : RC :=
  (.seq (.reg [⟨(some 6), none, .mv (.c (.bool false))⟩])
  (.seq (.reg [⟨(some 7), none, .mv (.t 0)⟩,
   ⟨(some 8), none, .mv (.t 1)⟩,
   ⟨(some 9), none, .bin .geq (.t 7) (.t 8)⟩,
   ⟨(some 10), none, .mv (.t 9)⟩,
   ⟨(some 11), (some (10, true)), .mv (.t 0)⟩,
   ⟨(some 12), (some (10, true)), .mv (.t 2)⟩,
   ⟨(some 13), (some (10, true)), .bin .leq (.t 11) (.t 12)⟩,
   ⟨(some 14), none, .pick (.t 10) (.t 13) (.c (.bool false))⟩,
   ⟨(some 6), none, .mv (.t 14)⟩])
  .ret))
theorem k_spec_l01In : FnOk Tryz.prog 28 15 rc_spec_l01In [.t 6] := ⟨Tryz.f28, _, [], Tryz.func28, rfl, rfl, by kernel_rfl, by kernel_rfl, follows⟩
theorem ok_spec_l01In : okF Tryz.prog 28 = true := by kernel_rfl
def rc_spec_l01Long : RC :=
  (.seq (.reg [⟨(some 4), none, .mv (.c (.str []))⟩])
  (.seq (.reg [⟨(some 7), none, .mv (.t 0)⟩,
   ⟨(some 8), none, .ms 1 [.int .u8 0] 1 (.t 7) (.t 7)⟩,
   ⟨(some 5), none, .mv (.t 8)⟩])
  (.seq (.seq (.reg [⟨(some 6), none, .mv (.c (.int .i64 0))⟩])
  (.blk 0 (.loop (.seq (.seq (.reg [⟨(some 9), none, .mv (.t 6)⟩,
     ⟨(some 10), none, .mv (.t 0)⟩,
     ⟨(some 11), none, .bin .lss (.t 9) (.t 10)⟩])
    (.cond (.t 11)
      .skip
      (.exit 0)))
    (.seq (.blk 1 (.reg [⟨(some 14), none, .mv (.t 5)⟩,
      ⟨(some 15), none, .mv (.t 6)⟩,
      ⟨(some 16), none, .mv (.t 1)⟩,
      ⟨(some 17), none, .ia 1 (.t 14) (.t 15)⟩,
      ⟨none, none, .st 1 (.t 17) (.t 16)⟩]))
    (.reg [⟨(some 12), none, .mv (.t 6)⟩,
     ⟨(some 13), none, .bin .add (.t 12) (.c (.int .i64 1))⟩,
     ⟨(some 6), none, .mv (.t 13)⟩]))))))
  (.seq (.reg [⟨(some 18), none, .mv (.t 5)⟩,
   ⟨(some 19), none, .cvb (.t 18)⟩,
   ⟨(some 4), none, .mv (.t 19)⟩])
  .ret))))
theorem k_spec_l01Long : FnOk Tryz.prog 116 20 rc_spec_l01Long [.t 4] := ⟨Tryz.f116, _, [], Tryz.func116, rfl, rfl, by kernel_rfl, by kernel_rfl, follows⟩
theorem ok_spec_l01Long : okF Tryz.prog 116 = true := by kernel_rfl
def rc_spec_l03Zero : RC :=
  (.seq (.reg [⟨(some 0), none, .mv (.c (.str []))⟩])
  (.seq (.reg [⟨(some 1), none, .cl (.c (.fn 116 [])) [(.c (.int .i64 32)), (.c (.int .u8 0))]⟩,
   ⟨(some 0), none, .mv (.t 1)⟩])
  .ret))
theorem k_spec_l03Zero : FnOk Tryz.prog 62 2 rc_spec_l03Zero [.t 0] := ⟨Tryz.f62, _, [], Tryz.func62, rfl, rfl, by kernel_rfl, by kernel_rfl, follows⟩
theorem ok_spec_l03Zero : okF Tryz.prog 62 = true := by kernel_rfl
def rc_spec_DiskNew : RC :=
  (.seq (.reg [⟨(some 2), none, .al [.nils, .nils]⟩,
   ⟨(some 3), none, .mv (.c (.bool false))⟩])
  (.seq (.seq (.reg [⟨(some 6), none, .mv (.t 0)⟩,
   ⟨(some 7), none, .cl (.c (.fn 28 [])) [(.t 6), (.c (.int .i64 1)), (.c (.int .i64 100))]⟩,
   ⟨(some 8), none, .un .not (.t 7)⟩])
  (.cond (.t 8)
    (.seq (.reg [⟨(some 9), none, .bld [.nils, .nils] [(0, 1), (1, 1)] []⟩,
     ⟨none, none, .st 2 (.t 2) (.t 9)⟩,
     ⟨(some 3), none, .mv (.c (.bool false))⟩])
    .ret)
    .skip))
  (.seq (.reg [⟨(some 10), none, .bld [.nils, .nils] [(0, 1), (1, 1)] []⟩,
   ⟨(some 4), none, .al [.nils, .nils]⟩,
   ⟨none, none, .st 2 (.t 4) (.t 10)⟩])
  (.seq (.seq (.reg [⟨(some 5), none, .mv (.c (.int .i64 0))⟩])
  (.blk 0 (.loop (.seq (.seq (.reg [⟨(some 11), none, .mv (.t 5)⟩,
     ⟨(some 12), none, .mv (.t 0)⟩,
     ⟨(some 13), none, .bin .lss (.t 11) (.t 12)⟩])
    (.cond (.t 13)
      .skip
      (.exit 0)))
    (.seq (.blk 1 (.drw [⟨(some 16), none, .fa 0 (.t 4)⟩,
      ⟨(some 17), none, .ld false 1 (.t 16)⟩,
      ⟨(some 18), none, .cl (.c (.fn 62 [])) []⟩,
      ⟨(some 19), none, .bs 1 [.str []] 1 [(0, (.t 18))]⟩,
      ⟨(some 20), none, .app 1 16 (.t 17) (.t 19)⟩,
      ⟨(some 21), none, .fa 0 (.t 4)⟩,
      ⟨none, none, .st 1 (.t 21) (.t 20)⟩] [.val [], .val [], .val [], .chn [0, 1], .chn [], .val [], .chn []]))
    (.reg [⟨(some 14), none, .mv (.t 5)⟩,
     ⟨(some 15), none, .bin .add (.t 14) (.c (.int .i64 1))⟩,
     ⟨(some 5), none, .mv (.t 15)⟩]))))))
  (.seq (.reg [⟨(some 22), none, .ld true 2 (.t 4)⟩,
   ⟨none, none, .st 2 (.t 2) (.t 22)⟩,
   ⟨(some 3), none, .mv (.c (.bool true))⟩])
  .ret)))))
theorem k_spec_DiskNew : FnOk Tryz.prog 29 23 rc_spec_DiskNew [.cell 2 true 2, .t 3] := ⟨Tryz.f29, _, [], Tryz.func29, rfl, rfl, by kernel_rfl, by kernel_rfl, follows⟩
theorem ok_spec_DiskNew : okF Tryz.prog 29 = true := by kernel_rfl
def rc_spec_FreeSegs : RC :=
  (.seq (.reg [⟨(some 1), none, .bx (.t 0)⟩,
   ⟨(some 2), none, .mv (.c (.nils))⟩])
  (.seq (.reg [⟨(some 7), none, .mv (.c (.nils))⟩,
   ⟨(some 3), none, .mv (.t 7)⟩])
  (.seq (.seq (.reg [⟨(some 4), none, .mv (.c (.int .i64 0))⟩])
  (.blk 0 (.loop (.seq (.seq (.reg [⟨(some 8), none, .mv (.t 4)⟩,
     ⟨(some 9), none, .fa 2 (.t 1)⟩,
     ⟨(some 10), none, .ld false 1 (.t 9)⟩,
     ⟨(some 11), none, .bin .lss (.t 8) (.t 10)⟩,
     ⟨(some 12), none, .mv (.t 11)⟩,
     ⟨(some 13), (some (12, true)), .mv (.t 4)⟩,
     ⟨(some 14), (some (12, true)), .bin .lss (.t 13) (.c (.int .i64 11))⟩,
     ⟨(some 15), none, .pick (.t 12) (.t 14) (.c (.bool false))⟩])
    (.cond (.t 15)
      .skip
      (.exit 0)))
    (.seq (.blk 1 (.seq (.reg [⟨(some 5), none, .mv (.c (.bool false))⟩])
     (.seq (.seq (.reg [⟨(some 6), none, .mv (.c (.int .i64 0))⟩])
     (.blk 2 (.loop (.seq (.seq (.reg [⟨(some 18), none, .mv (.t 6)⟩,
        ⟨(some 19), none, .fa 3 (.t 1)⟩,
        ⟨(some 20), none, .ld false 1 (.t 19)⟩,
        ⟨(some 21), none, .lenl (.t 20)⟩,
        ⟨(some 22), none, .bin .lss (.t 18) (.t 21)⟩])
       (.cond (.t 22)
         .skip
         (.exit 2)))
       (.seq (.blk 3 (.reg [⟨(some 25), none, .mv (.t 5)⟩,
         ⟨(some 26), none, .mv (.t 25)⟩,
         ⟨(some 27), (some (26, false)), .fa 3 (.t 1)⟩,
         ⟨(some 28), (some (26, false)), .ld false 1 (.t 27)⟩,
         ⟨(some 29), (some (26, false)), .mv (.t 6)⟩,
         ⟨(some 30), (some (26, false)), .ia 4 (.t 28) (.t 29)⟩,
         ⟨(some 31), (some (26, false)), .fa 0 (.t 30)⟩,
         ⟨(some 32), (some (26, false)), .ld false 1 (.t 31)⟩,
         ⟨(some 33), (some (26, false)), .mv (.t 4)⟩,
         ⟨(some 34), (some (26, false)), .bin .eql (.t 32) (.t 33)⟩,
         ⟨(some 35), none, .pick (.t 26) (.c (.bool true)) (.t 34)⟩,
         ⟨(some 5), none, .mv (.t 35)⟩]))
       (.reg [⟨(some 23), none, .mv (.t 6)⟩,
        ⟨(some 24), none, .bin .add (.t 23) (.c (.int .i64 1))⟩,
        ⟨(some 6), none, .mv (.t 24)⟩]))))))
     (.seq (.reg [⟨(some 36), none, .mv (.t 5)⟩,
      ⟨(some 37), none, .un .not (.t 36)⟩])
     (.cond (.t 37)
       (.reg [⟨(some 38), none, .mv (.t 3)⟩,
        ⟨(some 39), none, .mv (.t 4)⟩,
        ⟨(some 40), none, .bs 1 [.int .i64 0] 1 [(0, (.t 39))]⟩,
        ⟨(some 41), none, .app 1 8 (.t 38) (.t 40)⟩,
        ⟨(some 3), none, .mv (.t 41)⟩])
       .skip)))))
    (.reg [⟨(some 16), none, .mv (.t 4)⟩,
     ⟨(some 17), none, .bin .add (.t 16) (.c (.int .i64 1))⟩,
     ⟨(some 4), none, .mv (.t 17)⟩]))))))
  (.seq (.reg [⟨(some 42), none, .mv (.t 3)⟩,
   ⟨(some 2), none, .mv (.t 42)⟩])
  .ret))))
theorem k_spec_FreeSegs : FnOk Tryz.prog 63 43 rc_spec_FreeSegs [.t 2] := ⟨Tryz.f63, _, [], Tryz.func63, rfl, rfl, by kernel_rfl, by kernel_rfl, follows⟩
theorem ok_spec_FreeSegs : okF Tryz.prog 63 = true := by kernel_rfl
def rc_spec_FrameOk : RC :=
  (.seq (.reg [⟨(some 1), none, .bx (.t 0)⟩,
   ⟨(some 2), none, .mv (.c (.bool false))⟩])
  (.seq (.reg [⟨(some 3), none, .fa 0 (.t 1)⟩,
   ⟨(some 4), none, .ld false 1 (.t 3)⟩,
   ⟨(some 5), none, .cl (.c (.fn 28 [])) [(.t 4), (.c (.int .i64 1)), (.c (.int .i64 1000000000))]⟩,
   ⟨(some 6), none, .mv (.t 5)⟩,
   ⟨(some 7), (some (6, true)), .fa 1 (.t 1)⟩,
   ⟨(some 8), (some (6, true)), .ld false 1 (.t 7)⟩,
   ⟨(some 9), (some (6, true)), .cl (.c (.fn 28 [])) [(.t 8), (.c (.int .i64 1)), (.c (.int .i64 1000000000))]⟩,
   ⟨(some 10), none, .pick (.t 6) (.t 9) (.c (.bool false))⟩,
   ⟨(some 11), none, .mv (.t 10)⟩,
   ⟨(some 12), (some (11, true)), .fa 2 (.t 1)⟩,
   ⟨(some 13), (some (11, true)), .ld false 1 (.t 12)⟩,
   ⟨(some 14), (some (11, true)), .lens (.t 13)⟩,
   ⟨(some 15), (some (11, true)), .cl (.c (.fn 28 [])) [(.t 14), (.c (.int .i64 1)), (.c (.int .i64 180))]⟩,
   ⟨(some 16), none, .pick (.t 11) (.t 15) (.c (.bool false))⟩,
   ⟨(some 2), none, .mv (.t 16)⟩])
  .ret))
theorem k_spec_FrameOk : FnOk Tryz.prog 117 17 rc_spec_FrameOk [.t 2] := ⟨Tryz.f117, _, [], Tryz.func117, rfl, rfl, by kernel_rfl, by kernel_rfl, follows⟩
theorem ok_spec_FrameOk : okF Tryz.prog 117 = true := by kernel_rfl
def rc_spec_l02Four : RC :=
  (.seq (.reg [⟨(some 2), none, .mv (.c (.str []))⟩])
  (.seq (.reg [⟨(some 3), none, .mv (.t 0)⟩,
   ⟨(some 4), none, .bin .shr (.t 3) (.c (.int .u64 24))⟩,
   ⟨(some 5), none, .cvi .u8 (.t 4)⟩,
   ⟨(some 6), none, .mv (.t 0)⟩,
   ⟨(some 7), none, .bin .shr (.t 6) (.c (.int .u64 16))⟩,
   ⟨(some 8), none, .cvi .u8 (.t 7)⟩,
   ⟨(some 9), none, .mv (.t 0)⟩,
   ⟨(some 10), none, .bin .shr (.t 9) (.c (.int .u64 8))⟩,
   ⟨(some 11), none, .cvi .u8 (.t 10)⟩,
   ⟨(some 12), none, .mv (.t 0)⟩,
   ⟨(some 13), none, .cvi .u8 (.t 12)⟩,
   ⟨(some 14), none, .bs 1 [.int .u8 0] 4 [(0, (.t 5)), (1, (.t 8)), (2, (.t 11)), (3, (.t 13))]⟩,
   ⟨(some 15), none, .cvb (.t 14)⟩,
   ⟨(some 2), none, .mv (.t 15)⟩])
  .ret))
theorem k_spec_l02Four : FnOk Tryz.prog 179 16 rc_spec_l02Four [.t 2] := ⟨Tryz.f179, _, [], Tryz.func179, rfl, rfl, by kernel_rfl, by kernel_rfl, follows⟩
theorem ok_spec_l02Four : okF Tryz.prog 179 = true := by kernel_rfl
def rc_spec_SumMore : RC :=
  (.seq (.reg [⟨(some 4), none, .mv (.c (.int .u32 0))⟩])
  (.seq (.seq (.reg [⟨(some 5), none, .mv (.c (.int .i64 0))⟩])
  (.blk 0 (.loop (.seq (.seq (.reg [⟨(some 8), none, .mv (.t 5)⟩,
     ⟨(some 9), none, .mv (.t 1)⟩,
     ⟨(some 10), none, .lens (.t 9)⟩,
     ⟨(some 11), none, .bin .lss (.t 8) (.t 10)⟩])
    (.cond (.t 11)
      .skip
      (.exit 0)))
    (.seq (.blk 1 (.seq (.reg [⟨(some 14), none, .mv (.t 0)⟩,
      ⟨(some 15), none, .mv (.t 1)⟩,
      ⟨(some 16), none, .mv (.t 5)⟩,
      ⟨(some 17), none, .idx (.t 15) (.t 16)⟩,
      ⟨(some 18), none, .cvi .u32 (.t 17)⟩,
      ⟨(some 19), none, .bin .xor (.t 14) (.t 18)⟩,
      ⟨(some 0), none, .mv (.t 19)⟩])
     (.seq (.reg [⟨(some 6), none, .mv (.c (.int .i64 0))⟩])
     (.blk 2 (.loop (.seq (.seq (.reg [⟨(some 20), none, .mv (.t 6)⟩,
        ⟨(some 21), none, .bin .lss (.t 20) (.c (.int .i64 8))⟩])
       (.cond (.t 21)
         .skip
         (.exit 2)))
       (.seq (.blk 3 (.seq (.reg [⟨(some 24), none, .mv (.t 0)⟩,
         ⟨(some 25), none, .bin .rem (.t 24) (.c (.int .u32 2))⟩,
         ⟨(some 26), none, .bin .eql (.t 25) (.c (.int .u32 1))⟩,
         ⟨(some 7), none, .mv (.t 26)⟩])
        (.seq (.reg [⟨(some 27), none, .mv (.t 0)⟩,
         ⟨(some 28), none, .bin .quo (.t 27) (.c (.int .u32 2))⟩,
         ⟨(some 0), none, .mv (.t 28)⟩])
        (.seq (.reg [⟨(some 29), none, .mv (.t 7)⟩])
        (.cond (.t 29)
          (.reg [⟨(some 30), none, .mv (.t 0)⟩,
           ⟨(some 31), none, .bin .xor (.t 30) (.c (.int .u32 3558460437))⟩,
           ⟨(some 0), none, .mv (.t 31)⟩])
          .skip)))))
       (.reg [⟨(some 22), none, .mv (.t 6)⟩,
        ⟨(some 23), none, .bin .add (.t 22) (.c (.int .i64 1))⟩,
        ⟨(some 6), none, .mv (.t 23)⟩]))))))))
    (.reg [⟨(some 12), none, .mv (.t 5)⟩,
     ⟨(some 13), none, .bin .add (.t 12) (.c (.int .i64 1))⟩,
     ⟨(some 5), none, .mv (.t 13)⟩]))))))
  (.seq (.reg [⟨(some 32), none, .mv (.t 0)⟩,
   ⟨(some 4), none, .mv (.t 32)⟩])
  .ret)))
theorem k_spec_SumMore : FnOk Tryz.prog 208 33 rc_spec_SumMore [.t 4] := ⟨Tryz.f208, _, [], Tryz.func208, rfl, rfl, by kernel_rfl, by kernel_rfl, follows⟩
theorem ok_spec_SumMore : okF Tryz.prog 208 = true := by kernel_rfl
def rc_spec_SumOf : RC :=
  (.seq (.reg [⟨(some 2), none, .mv (.c (.int .u32 0))⟩])
  (.seq (.reg [⟨(some 3), none, .mv (.t 0)⟩,
   ⟨(some 4), none, .cl (.c (.fn 208 [])) [(.c (.int .u32 4294967295)), (.t 3)]⟩,
   ⟨(some 2), none, .mv (.t 4)⟩])
  .ret))
theorem k_spec_SumOf : FnOk Tryz.prog 180 5 rc_spec_SumOf [.t 2] := ⟨Tryz.f180, _, [], Tryz.func180, rfl, rfl, by kernel_rfl, by kernel_rfl, follows⟩
theorem ok_spec_SumOf : okF Tryz.prog 180 = true := by kernel_rfl
def rc_spec_Sealed : RC :=
  (.seq (.reg [⟨(some 2), none, .mv (.c (.str []))⟩,
   ⟨(some 3), none, .mv (.c (.bool false))⟩])
  (.seq (.seq (.reg [⟨(some 4), none, .mv (.t 0)⟩,
   ⟨(some 5), none, .lens (.t 4)⟩,
   ⟨(some 6), none, .bin .gtr (.t 5) (.c (.int .i64 20000))⟩])
  (.cond (.t 6)
    (.seq (.reg [⟨(some 2), none, .mv (.c (.str []))⟩,
     ⟨(some 3), none, .mv (.c (.bool false))⟩])
    .ret)
    .skip))
  (.seq (.reg [⟨(some 7), none, .mv (.t 0)⟩,
   ⟨(some 8), none, .mv (.t 0)⟩,
   ⟨(some 9), none, .cl (.c (.fn 180 [])) [(.t 8)]⟩,
   ⟨(some 10), none, .cl (.c (.fn 179 [])) [(.t 9)]⟩,
   ⟨(some 11), none, .bin .add (.t 7) (.t 10)⟩,
   ⟨(some 2), none, .mv (.t 11)⟩,
   ⟨(some 3), none, .mv (.c (.bool true))⟩])
  .ret)))
theorem k_spec_Sealed : FnOk Tryz.prog 118 12 rc_spec_Sealed [.t 2, .t 3] := ⟨Tryz.f118, _, [], Tryz.func118, rfl, rfl, by kernel_rfl, by kernel_rfl, follows⟩
theorem ok_spec_Sealed : okF Tryz.prog 118 = true := by kernel_rfl
def rc_spec_l01Var : RC :=
  (.seq (.reg [⟨(some 2), none, .mv (.c (.str []))⟩])
  (.seq (.reg [⟨(some 4), none, .mv (.c (.nils))⟩,
   ⟨(some 3), none, .mv (.t 4)⟩])
  (.seq (.blk 0 (.loop (.seq (.seq (.reg [⟨(some 5), none, .mv (.t 0)⟩,
     ⟨(some 6), none, .bin .gtr (.t 5) (.c (.int .i64 127))⟩])
    (.cond (.t 6)
      .skip
      (.exit 0)))
    (.blk 1 (.seq (.reg [⟨(some 7), none, .mv (.t 3)⟩,
      ⟨(some 8), none, .mv (.t 0)⟩,
      ⟨(some 9), none, .bin .rem (.t 8) (.c (.int .i64 128))⟩,
      ⟨(some 10), none, .bin .add (.t 9) (.c (.int .i64 128))⟩,
      ⟨(some 11), none, .cvi .u8 (.t 10)⟩,
      ⟨(some 12), none, .bs 1 [.int .u8 0] 1 [(0, (.t 11))]⟩,
      ⟨(some 13), none, .app 1 1 (.t 7) (.t 12)⟩,
      ⟨(some 3), none, .mv (.t 13)⟩])
     (.reg [⟨(some 14), none, .mv (.t 0)⟩,
      ⟨(some 15), none, .bin .quo (.t 14) (.c (.int .i64 128))⟩,
      ⟨(some 0), none, .mv (.t 15)⟩]))))))
  (.seq (.reg [⟨(some 16), none, .mv (.t 3)⟩,
   ⟨(some 17), none, .mv (.t 0)⟩,
   ⟨(some 18), none, .cvi .u8 (.t 17)⟩,
   ⟨(some 19), none, .bs 1 [.int .u8 0] 1 [(0, (.t 18))]⟩,
   ⟨(some 20), none, .app 1 1 (.t 16) (.t 19)⟩,
   ⟨(some 21), none, .cvb (.t 20)⟩,
   ⟨(some 2), none, .mv (.t 21)⟩])
  .ret))))
theorem k_spec_l01Var : FnOk Tryz.prog 119 22 rc_spec_l01Var [.t 2] := ⟨Tryz.f119, _, [], Tryz.func119, rfl, rfl, by kernel_rfl, by kernel_rfl, follows⟩
theorem ok_spec_l01Var : okF Tryz.prog 119 = true := by kernel_rfl
def rc_spec_FrameText : RC :=
  (.seq (.reg [⟨(some 1), none, .bx (.t 0)⟩,
   ⟨(some 2), none, .mv (.c (.str []))⟩,
   ⟨(some 3), none, .mv (.c (.bool false))⟩])
  (.seq (.seq (.reg [⟨(some 4), none, .ld true 3 (.t 1)⟩,
   ⟨(some 5), none, .cl (.c (.fn 117 [])) [(.t 4)]⟩,
   ⟨(some 6), none, .un .not (.t 5)⟩])
  (.cond (.t 6)
    (.seq (.reg [⟨(some 2), none, .mv (.c (.str []))⟩,
     ⟨(some 3), none, .mv (.c (.bool false))⟩])
    .ret)
    .skip))
  (.seq (.drw [⟨(some 7), none, .fa 0 (.t 1)⟩,
   ⟨(some 8), none, .ld false 1 (.t 7)⟩,
   ⟨(some 9), none, .cl (.c (.fn 119 [])) [(.t 8)]⟩,
   ⟨(some 10), none, .fa 1 (.t 1)⟩,
   ⟨(some 11), none, .ld false 1 (.t 10)⟩,
   ⟨(some 12), none, .cl (.c (.fn 119 [])) [(.t 11)]⟩,
   ⟨(some 13), none, .bin .add (.t 9) (.t 12)⟩,
   ⟨(some 14), none, .fa 2 (.t 1)⟩,
   ⟨(some 15), none, .ld false 1 (.t 14)⟩,
   ⟨(some 16), none, .lens (.t 15)⟩,
   ⟨(some 17), none, .cl (.c (.fn 119 [])) [(.t 16)]⟩,
   ⟨(some 18), none, .bin .add (.t 13) (.t 17)⟩,
   ⟨(some 19), none, .fa 2 (.t 1)⟩,
   ⟨(some 20), none, .ld false 1 (.t 19)⟩,
   ⟨(some 21), none, .bin .add (.t 18) (.t 20)⟩,
   ⟨(some 22), none, .cl (.c (.fn 118 [])) [(.t 21)]⟩,
   ⟨(some 23), none, .ext (.t 22) 0⟩,
   ⟨(some 24), none, .ext (.t 22) 1⟩,
   ⟨(some 2), none, .mv (.t 23)⟩,
   ⟨(some 3), none, .mv (.t 24)⟩] [.val [], .val [], .val [], .val [], .val [], .val [], .val [], .val [], .val [], .val [], .val [], .val [], .val [], .val [], .val [], .val [], .val [], .val [], .val [], .val []])
  .ret)))
theorem k_spec_FrameText : FnOk Tryz.prog 64 25 rc_spec_FrameText [.t 2, .t 3] := ⟨Tryz.f64, _, [], Tryz.func64, rfl, rfl, by kernel_rfl, by kernel_rfl, follows⟩
theorem ok_spec_FrameText : okF Tryz.prog 64 = true := by kernel_rfl
def rc_spec_SegFirst : RC :=
  (.seq (.reg [⟨(some 2), none, .mv (.c (.int .i64 0))⟩])
  (.seq (.seq (.reg [⟨(some 3), none, .mv (.t 0)⟩,
   ⟨(some 4), none, .cl (.c (.fn 28 [])) [(.t 3), (.c (.int .i64 0)), (.c (.int .i64 10))]⟩,
   ⟨(some 5), none, .un .not (.t 4)⟩])
  (.cond (.t 5)
    (.seq (.reg [⟨(some 2), none, .mv (.c (.int .i64 0))⟩])
    .ret)
    .skip))
  (.seq (.reg [⟨(some 6), none, .mv (.t 0)⟩,
   ⟨(some 7), none, .bin .mul (.t 6) (.c (.int .i64 8))⟩,
   ⟨(some 8), none, .bin .add (.c (.int .i64 8)) (.t 7)⟩,
   ⟨(some 2), none, .mv (.t 8)⟩])
  .ret)))
theorem k_spec_SegFirst : FnOk Tryz.prog 120 9 rc_spec_SegFirst [.t 2] := ⟨Tryz.f120, _, [], Tryz.func120, rfl, rfl, by kernel_rfl, by kernel_rfl, follows⟩
theorem ok_spec_SegFirst : okF Tryz.prog 120 = true := by kernel_rfl
def rc_spec_l03Copy : RC :=
  (.seq (.reg [⟨(some 1), none, .bx (.t 0)⟩,
   ⟨(some 2), none, .al [.nils, .nils]⟩])
  (.seq (.drw [⟨(some 3), none, .mv (.c (.nils))⟩,
   ⟨(some 4), none, .fa 0 (.t 1)⟩,
   ⟨(some 5), none, .ld false 1 (.t 4)⟩,
   ⟨(some 6), none, .app 1 16 (.t 3) (.t 5)⟩,
   ⟨(some 7), none, .mv (.c (.nils))⟩,
   ⟨(some 8), none, .fa 1 (.t 1)⟩,
   ⟨(some 9), none, .ld false 1 (.t 8)⟩,
   ⟨(some 10), none, .app 2 24 (.t 7) (.t 9)⟩,
   ⟨(some 11), none, .bld [.nils, .nils] [(0, 1), (1, 1)] [(0, (.t 6)), (1, (.t 10))]⟩,
   ⟨none, none, .st 2 (.t 2) (.t 11)⟩] [.val [], .val [], .val [], .chn [], .val [3], .val [3], .val [3], .chn [], .val [], .chn []])
  .ret))
theorem k_spec_l03Copy : FnOk Tryz.prog 69 12 rc_spec_l03Copy [.cell 2 true 2] := ⟨Tryz.f69, _, [], Tryz.func69, rfl, rfl, by kernel_rfl, by kernel_rfl, follows⟩
theorem ok_spec_l03Copy : okF Tryz.prog 69 = true := by kernel_rfl
def rc_spec_ReadSector : RC :=
  (.seq (.reg [⟨(some 2), none, .bx (.t 0)⟩,
   ⟨(some 4), none, .mv (.c (.str []))⟩,
   ⟨(some 5), none, .mv (.c (.bool false))⟩])
  (.seq (.seq (.reg [⟨(some 7), none, .mv (.t 1)⟩,
   ⟨(some 8), none, .fa 0 (.t 2)⟩,
   ⟨(some 9), none, .ld false 1 (.t 8)⟩,
   ⟨(some 10), none, .lenl (.t 9)⟩,
   ⟨(some 11), none, .bin .sub (.t 10) (.c (.int .i64 1))⟩,
   ⟨(some 12), none, .cl (.c (.fn 28 [])) [(.t 7), (.c (.int .i64 0)), (.t 11)]⟩,
   ⟨(some 13), none, .un .not (.t 12)⟩])
  (.cond (.t 13)
    (.seq (.reg [⟨(some 4), none, .mv (.c (.str []))⟩,
     ⟨(some 5), none, .mv (.c (.bool false))⟩])
    .ret)
    .skip))
  (.seq (.seq (.reg [⟨(some 14), none, .fa 1 (.t 2)⟩,
   ⟨(some 15), none, .ld false 1 (.t 14)⟩,
   ⟨(some 16), none, .lenl (.t 15)⟩,
   ⟨(some 17), none, .bin .sub (.t 16) (.c (.int .i64 1))⟩,
   ⟨(some 6), none, .mv (.t 17)⟩])
  (.blk 0 (.loop (.seq (.seq (.reg [⟨(some 18), none, .mv (.t 6)⟩,
     ⟨(some 19), none, .bin .geq (.t 18) (.c (.int .i64 0))⟩])
    (.cond (.t 19)
      .skip
      (.exit 0)))
    (.seq (.blk 1 (.seq (.reg [⟨(some 22), none, .fa 1 (.t 2)⟩,
      ⟨(some 23), none, .ld false 1 (.t 22)⟩,
      ⟨(some 24), none, .mv (.t 6)⟩,
      ⟨(some 25), none, .ia 2 (.t 23) (.t 24)⟩,
      ⟨(some 26), none, .fa 0 (.t 25)⟩,
      ⟨(some 27), none, .ld false 1 (.t 26)⟩,
      ⟨(some 28), none, .mv (.t 1)⟩,
      ⟨(some 29), none, .bin .eql (.t 27) (.t 28)⟩])
     (.cond (.t 29)
       (.seq (.reg [⟨(some 30), none, .fa 1 (.t 2)⟩,
        ⟨(some 31), none, .ld false 1 (.t 30)⟩,
        ⟨(some 32), none, .mv (.t 6)⟩,
        ⟨(some 33), none, .ia 2 (.t 31) (.t 32)⟩,
        ⟨(some 34), none, .fa 1 (.t 33)⟩,
        ⟨(some 35), none, .ld false 1 (.t 34)⟩,
        ⟨(some 4), none, .mv (.t 35)⟩,
        ⟨(some 5), none, .mv (.c (.bool true))⟩])
       .ret)
       .skip)))
    (.reg [⟨(some 20), none, .mv (.t 6)⟩,
     ⟨(some 21), none, .bin .sub (.t 20) (.c (.int .i64 1))⟩,
     ⟨(some 6), none, .mv (.t 21)⟩]))))))
  (.seq (.reg [⟨(some 36), none, .fa 0 (.t 2)⟩,
   ⟨(some 37), none, .ld false 1 (.t 36)⟩,
   ⟨(some 38), none, .mv (.t 1)⟩,
   ⟨(some 39), none, .ia 1 (.t 37) (.t 38)⟩,
   ⟨(some 40), none, .ld false 1 (.t 39)⟩,
   ⟨(some 4), none, .mv (.t 40)⟩,
   ⟨(some 5), none, .mv (.c (.bool true))⟩])
  .ret))))
theorem k_spec_ReadSector : FnOk Tryz.prog 123 41 rc_spec_ReadSector [.t 4, .t 5] := ⟨Tryz.f123, _, [], Tryz.func123, rfl, rfl, by kernel_rfl, by kernel_rfl, follows⟩
theorem ok_spec_ReadSector : okF Tryz.prog 123 = true := by kernel_rfl
def rc_spec_DiskOk : RC :=
  (.seq (.reg [⟨(some 1), none, .bx (.t 0)⟩,
   ⟨(some 2), none, .mv (.c (.bool false))⟩])
  (.seq (.seq (.reg [⟨(some 5), none, .fa 0 (.t 1)⟩,
   ⟨(some 6), none, .ld false 1 (.t 5)⟩,
   ⟨(some 7), none, .lenl (.t 6)⟩,
   ⟨(some 8), none, .cl (.c (.fn 28 [])) [(.t 7), (.c (.int .i64 1)), (.c (.int .i64 100))]⟩,
   ⟨(some 9), none, .un .not (.t 8)⟩,
   ⟨(some 10), none, .mv (.t 9)⟩,
   ⟨(some 11), (some (10, false)), .fa 1 (.t 1)⟩,
   ⟨(some 12), (some (10, false)), .ld false 1 (.t 11)⟩,
   ⟨(some 13), (some (10, false)), .lenl (.t 12)⟩,
   ⟨(some 14), (some (10, false)), .bin .gtr (.t 13) (.c (.int .i64 60))⟩,
   ⟨(some 15), none, .pick (.t 10) (.c (.bool true)) (.t 14)⟩])
  (.cond (.t 15)
    (.seq (.reg [⟨(some 2), none, .mv (.c (.bool false))⟩])
    .ret)
    .skip))
  (.seq (.seq (.reg [⟨(some 3), none, .mv (.c (.int .i64 0))⟩])
  (.blk 0 (.loop (.seq (.seq (.reg [⟨(some 16), none, .mv (.t 3)⟩,
     ⟨(some 17), none, .fa 0 (.t 1)⟩,
     ⟨(some 18), none, .ld false 1 (.t 17)⟩,
     ⟨(some 19), none, .lenl (.t 18)⟩,
     ⟨(some 20), none, .bin .lss (.t 16) (.t 19)⟩])
    (.cond (.t 20)
      .skip
      (.exit 0)))
    (.seq (.blk 1 (.seq (.reg [⟨(some 23), none, .fa 0 (.t 1)⟩,
      ⟨(some 24), none, .ld false 1 (.t 23)⟩,
      ⟨(some 25), none, .mv (.t 3)⟩,
      ⟨(some 26), none, .ia 1 (.t 24) (.t 25)⟩,
      ⟨(some 27), none, .ld false 1 (.t 26)⟩,
      ⟨(some 28), none, .lens (.t 27)⟩,
      ⟨(some 29), none, .bin .neq (.t 28) (.c (.int .i64 32))⟩])
     (.cond (.t 29)
       (.seq (.reg [⟨(some 2), none, .mv (.c (.bool false))⟩])
       .ret)
       .skip)))
    (.reg [⟨(some 21), none, .mv (.t 3)⟩,
     ⟨(some 22), none, .bin .add (.t 21) (.c (.int .i64 1))⟩,
     ⟨(some 3), none, .mv (.t 22)⟩]))))))
  (.seq (.seq (.reg [⟨(some 4), none, .mv (.c (.int .i64 0))⟩])
  (.blk 2 (.loop (.seq (.seq (.reg [⟨(some 30), none, .mv (.t 4)⟩,
     ⟨(some 31), none, .fa 1 (.t 1)⟩,
     ⟨(some 32), none, .ld false 1 (.t 31)⟩,
     ⟨(some 33), none, .lenl (.t 32)⟩,
     ⟨(some 34), none, .bin .lss (.t 30) (.t 33)⟩])
    (.cond (.t 34)
      .skip
      (.exit 2)))
    (.seq (.blk 3 (.seq (.drw [⟨(some 37), none, .fa 1 (.t 1)⟩,
      ⟨(some 38), none, .ld false 1 (.t 37)⟩,
      ⟨(some 39), none, .mv (.t 4)⟩,
      ⟨(some 40), none, .ia 2 (.t 38) (.t 39)⟩,
      ⟨(some 41), none, .fa 0 (.t 40)⟩,
      ⟨(some 42), none, .ld false 1 (.t 41)⟩,
      ⟨(some 43), none, .fa 0 (.t 1)⟩,
      ⟨(some 44), none, .ld false 1 (.t 43)⟩,
      ⟨(some 45), none, .lenl (.t 44)⟩,
      ⟨(some 46), none, .bin .sub (.t 45) (.c (.int .i64 1))⟩,
      ⟨(some 47), none, .cl (.c (.fn 28 [])) [(.t 42), (.c (.int .i64 0)), (.t 46)]⟩,
      ⟨(some 48), none, .un .not (.t 47)⟩,
      ⟨(some 49), none, .mv (.t 48)⟩,
      ⟨(some 50), (some (49, false)), .fa 1 (.t 1)⟩,
      ⟨(some 51), (some (49, false)), .ld false 1 (.t 50)⟩,
      ⟨(some 52), (some (49, false)), .mv (.t 4)⟩,
      ⟨(some 53), (some (49, false)), .ia 2 (.t 51) (.t 52)⟩,
      ⟨(some 54), (some (49, false)), .fa 1 (.t 53)⟩,
      ⟨(some 55), (some (49, false)), .ld false 1 (.t 54)⟩,
      ⟨(some 56), (some (49, false)), .lens (.t 55)⟩,
      ⟨(some 57), (some (49, false)), .bin .neq (.t 56) (.c (.int .i64 32))⟩,
      ⟨(some 58), none, .pick (.t 49) (.c (.bool true)) (.t 57)⟩] [.val [], .val [], .val [], .val [], .val [], .val [], .val [], .val [], .val [], .val [], .val [], .val [], .val [], .val [], .val [], .val [], .val [], .val [], .val [], .val [], .val [], .val []])
     (.cond (.t 58)
       (.seq (.reg [⟨(some 2), none, .mv (.c (.bool false))⟩])
       .ret)
       .skip)))
    (.reg [⟨(some 35), none, .mv (.t 4)⟩,
     ⟨(some 36), none, .bin .add (.t 35) (.c (.int .i64 1))⟩,
     ⟨(some 4), none, .mv (.t 36)⟩]))))))
  (.seq (.reg [⟨(some 2), none, .mv (.c (.bool true))⟩])
  .ret)))))
theorem k_spec_DiskOk : FnOk Tryz.prog 68 59 rc_spec_DiskOk [.t 2] := ⟨Tryz.f68, _, [], Tryz.func68, rfl, rfl, by kernel_rfl, by kernel_rfl, follows⟩
theorem ok_spec_DiskOk : okF Tryz.prog 68 = true := by kernel_rfl
def rc_spec_WriteSector : RC :=
  (.seq (.reg [⟨(some 3), none, .bx (.t 0)⟩,
   ⟨(some 6), none, .al [.nils, .nils]⟩,
   ⟨(some 7), none, .mv (.c (.bool false))⟩])
  (.seq (.reg [⟨(some 9), none, .ld true 2 (.t 3)⟩,
   ⟨(some 10), none, .cl (.c (.fn 69 [])) [(.t 9)]⟩,
   ⟨(some 8), none, .al [.nils, .nils]⟩,
   ⟨none, none, .st 2 (.t 8) (.t 10)⟩])
  (.seq (.seq (.reg [⟨(some 11), none, .ld true 2 (.t 3)⟩,
   ⟨(some 12), none, .cl (.c (.fn 68 [])) [(.t 11)]⟩,
   ⟨(some 13), none, .un .not (.t 12)⟩,
   ⟨(some 14), none, .mv (.t 13)⟩,
   ⟨(some 15), (some (14, false)), .mv (.t 1)⟩,
   ⟨(some 16), (some (14, false)), .fa 0 (.t 3)⟩,
   ⟨(some 17), (some (14, false)), .ld false 1 (.t 16)⟩,
   ⟨(some 18), (some (14, false)), .lenl (.t 17)⟩,
   ⟨(some 19), (some (14, false)), .bin .sub (.t 18) (.c (.int .i64 1))⟩,
   ⟨(some 20), (some (14, false)), .cl (.c (.fn 28 [])) [(.t 15), (.c (.int .i64 0)), (.t 19)]⟩,
   ⟨(some 21), (some (14, false)), .un .not (.t 20)⟩,
   ⟨(some 22), none, .pick (.t 14) (.c (.bool true)) (.t 21)⟩,
   ⟨(some 23), none, .mv (.t 22)⟩,
   ⟨(some 24), (some (23, false)), .mv (.t 2)⟩,
   ⟨(some 25), (some (23, false)), .lens (.t 24)⟩,
   ⟨(some 26), (some (23, false)), .bin .neq (.t 25) (.c (.int .i64 32))⟩,
   ⟨(some 27), none, .pick (.t 23) (.c (.bool true)) (.t 26)⟩,
   ⟨(some 28), none, .mv (.t 27)⟩,
   ⟨(some 29), (some (28, false)), .fa 1 (.t 3)⟩,
   ⟨(some 30), (some (28, false)), .ld false 1 (.t 29)⟩,
   ⟨(some 31), (some (28, false)), .lenl (.t 30)⟩,
   ⟨(some 32), (some (28, false)), .bin .geq (.t 31) (.c (.int .i64 60))⟩,
   ⟨(some 33), none, .pick (.t 28) (.c (.bool true)) (.t 32)⟩])
  (.cond (.t 33)
    (.seq (.reg [⟨(some 34), none, .ld true 2 (.t 8)⟩,
     ⟨none, none, .st 2 (.t 6) (.t 34)⟩,
     ⟨(some 7), none, .mv (.c (.bool false))⟩])
    .ret)
    .skip))
  (.seq (.reg [⟨(some 35), none, .fa 1 (.t 8)⟩,
   ⟨(some 36), none, .ld false 1 (.t 35)⟩,
   ⟨(some 37), none, .mv (.t 1)⟩,
   ⟨(some 38), none, .mv (.t 2)⟩,
   ⟨(some 39), none, .bld [.int .i64 0, .str []] [(0, 1), (1, 1)] [(0, (.t 37)), (1, (.t 38))]⟩,
   ⟨(some 40), none, .bs 2 [.int .i64 0, .str []] 1 [(0, (.t 39))]⟩,
   ⟨(some 41), none, .app 2 24 (.t 36) (.t 40)⟩,
   ⟨(some 42), none, .fa 1 (.t 8)⟩,
   ⟨none, none, .st 1 (.t 42) (.t 41)⟩])
  (.seq (.reg [⟨(some 43), none, .ld true 2 (.t 8)⟩,
   ⟨none, none, .st 2 (.t 6) (.t 43)⟩,
   ⟨(some 7), none, .mv (.c (.bool true))⟩])
  .ret)))))
theorem k_spec_WriteSector : FnOk Tryz.prog 124 44 rc_spec_WriteSector [.cell 6 true 2, .t 7] := ⟨Tryz.f124, _, [], Tryz.func124, rfl, rfl, by kernel_rfl, by kernel_rfl, follows⟩
theorem ok_spec_WriteSector : okF Tryz.prog 124 = true := by kernel_rfl
def rc_spec_WriteBytes : RC :=
  (.seq (.reg [⟨(some 4), none, .bx (.t 0)⟩,
   ⟨(some 8), none, .al [.nils, .nils]⟩,
   ⟨(some 9), none, .mv (.c (.bool false))⟩])
  (.seq (.reg [⟨(some 19), none, .ld true 2 (.t 4)⟩,
   ⟨(some 20), none, .cl (.c (.fn 69 [])) [(.t 19)]⟩,
   ⟨(some 10), none, .al [.nils, .nils]⟩,
   ⟨none, none, .st 2 (.t 10) (.t 20)⟩])
  (.seq (.seq (.reg [⟨(some 21), none, .mv (.t 2)⟩,
   ⟨(some 22), none, .cl (.c (.fn 28 [])) [(.t 21), (.c (.int .i64 0)), (.c (.int .i64 3200))]⟩,
   ⟨(some 23), none, .un .not (.t 22)⟩,
   ⟨(some 24), none, .mv (.t 23)⟩,
   ⟨(some 25), (some (24, false)), .mv (.t 1)⟩,
   ⟨(some 26), (some (24, false)), .fa 0 (.t 4)⟩,
   ⟨(some 27), (some (24, false)), .ld false 1 (.t 26)⟩,
   ⟨(some 28), (some (24, false)), .lenl (.t 27)⟩,
   ⟨(some 29), (some (24, false)), .bin .sub (.t 28) (.c (.int .i64 1))⟩,
   ⟨(some 30), (some (24, false)), .cl (.c (.fn 28 [])) [(.t 25), (.c (.int .i64 0)), (.t 29)]⟩,
   ⟨(some 31), (some (24, false)), .un .not (.t 30)⟩,
   ⟨(some 32), none, .pick (.t 24) (.c (.bool true)) (.t 31)⟩,
   ⟨(some 33), none, .mv (.t 32)⟩,
   ⟨(some 34), (some (33, false)), .ld true 2 (.t 4)⟩,
   ⟨(some 35), (some (33, false)), .cl (.c (.fn 68 [])) [(.t 34)]⟩,
   ⟨(some 36), (some (33, false)), .un .not (.t 35)⟩,
   ⟨(some 37), none, .pick (.t 33) (.c (.bool true)) (.t 36)⟩])
  (.cond (.t 37)
    (.seq (.reg [⟨(some 38), none, .ld true 2 (.t 10)⟩,
     ⟨none, none, .st 2 (.t 8) (.t 38)⟩,
     ⟨(some 9), none, .mv (.c (.bool false))⟩])
    .ret)
    .skip))
  (.seq (.seq (.reg [⟨(some 11), none, .mv (.c (.int .i64 0))⟩])
  (.blk 0 (.loop (.seq (.seq (.reg [⟨(some 39), none, .mv (.t 11)⟩,
     ⟨(some 40), none, .mv (.t 3)⟩,
     ⟨(some 41), none, .lens (.t 40)⟩,
     ⟨(some 42), none, .bin .lss (.t 39) (.t 41)⟩])
    (.cond (.t 42)
      .skip
      (.exit 0)))
    (.blk 1 (.seq (.reg [⟨(some 43), none, .mv (.t 1)⟩,
      ⟨(some 44), none, .mv (.t 2)⟩,
      ⟨(some 45), none, .mv (.t 11)⟩,
      ⟨(some 46), none, .bin .add (.t 44) (.t 45)⟩,
      ⟨(some 47), none, .bin .quo (.t 46) (.c (.int .i64 32))⟩,
      ⟨(some 48), none, .bin .add (.t 43) (.t 47)⟩,
      ⟨(some 12), none, .mv (.t 48)⟩])
     (.seq (.reg [⟨(some 49), none, .mv (.t 2)⟩,
      ⟨(some 50), none, .mv (.t 11)⟩,
      ⟨(some 51), none, .bin .add (.t 49) (.t 50)⟩,
      ⟨(some 52), none, .bin .rem (.t 51) (.c (.int .i64 32))⟩,
      ⟨(some 13), none, .mv (.t 52)⟩])
     (.seq (.reg [⟨(some 53), none, .mv (.t 13)⟩,
      ⟨(some 54), none, .bin .sub (.c (.int .i64 32)) (.t 53)⟩,
      ⟨(some 14), none, .mv (.t 54)⟩])
     (.seq (.seq (.reg [⟨(some 55), none, .mv (.t 14)⟩,
      ⟨(some 56), none, .mv (.t 3)⟩,
      ⟨(some 57), none, .lens (.t 56)⟩,
      ⟨(some 58), none, .mv (.t 11)⟩,
      ⟨(some 59), none, .bin .sub (.t 57) (.t 58)⟩,
      ⟨(some 60), none, .bin .gtr (.t 55) (.t 59)⟩])
     (.cond (.t 60)
       (.reg [⟨(some 61), none, .mv (.t 3)⟩,
        ⟨(some 62), none, .lens (.t 61)⟩,
        ⟨(some 63), none, .mv (.t 11)⟩,
        ⟨(some 64), none, .bin .sub (.t 62) (.t 63)⟩,
        ⟨(some 14), none, .mv (.t 64)⟩])
       .skip))
     (.seq (.reg [⟨(some 66), none, .ld true 2 (.t 10)⟩,
      ⟨(some 67), none, .mv (.t 12)⟩,
      ⟨(some 68), none, .cl (.c (.fn 123 [])) [(.t 66), (.t 67)]⟩,
      ⟨(some 65), none, .mv (.t 68)⟩,
      ⟨(some 69), none, .ext (.t 65) 0⟩,
      ⟨(some 70), none, .ext (.t 65) 1⟩,
      ⟨(some 15), none, .mv (.t 69)⟩,
      ⟨(some 16), none, .mv (.t 70)⟩])
     (.seq (.seq (.reg [⟨(some 71), none, .mv (.t 16)⟩,
      ⟨(some 72), none, .un .not (.t 71)⟩,
      ⟨(some 73), none, .mv (.t 72)⟩,
      ⟨(some 74), (some (73, false)), .mv (.t 15)⟩,
      ⟨(some 75), (some (73, false)), .lens (.t 74)⟩,
      ⟨(some 76), (some (73, false)), .bin .neq (.t 75) (.c (.int .i64 32))⟩,
      ⟨(some 77), none, .pick (.t 73) (.c (.bool true)) (.t 76)⟩])
     (.cond (.t 77)
       (.seq (.reg [⟨(some 78), none, .ld true 2 (.t 4)⟩,
        ⟨(some 79), none, .cl (.c (.fn 69 [])) [(.t 78)]⟩,
        ⟨none, none, .st 2 (.t 8) (.t 79)⟩,
        ⟨(some 9), none, .mv (.c (.bool false))⟩])
       .ret)
       .skip))
     (.seq (.drw [⟨(some 81), none, .ld true 2 (.t 10)⟩,
      ⟨(some 82), none, .mv (.t 12)⟩,
      ⟨(some 83), none, .mv (.t 15)⟩,
      ⟨(some 84), none, .mv (.t 13)⟩,
      ⟨(some 85), none, .sls (.t 83) none (some (.t 84))⟩,
      ⟨(some 86), none, .mv (.t 3)⟩,
      ⟨(some 87), none, .mv (.t 11)⟩,
      ⟨(some 88), none, .mv (.t 11)⟩,
      ⟨(some 89), none, .mv (.t 14)⟩,
      ⟨(some 90), none, .bin .add (.t 88) (.t 89)⟩,
      ⟨(some 91), none, .sls (.t 86) (some (.t 87)) (some (.t 90))⟩,
      ⟨(some 92), none, .bin .add (.t 85) (.t 91)⟩,
      ⟨(some 93), none, .mv (.t 15)⟩,
      ⟨(some 94), none, .mv (.t 13)⟩,
      ⟨(some 95), none, .mv (.t 14)⟩,
      ⟨(some 96), none, .bin .add (.t 94) (.t 95)⟩,
      ⟨(some 97), none, .sls (.t 93) (some (.t 96)) none⟩,
      ⟨(some 98), none, .bin .add (.t 92) (.t 97)⟩,
      ⟨(some 99), none, .cl (.c (.fn 124 [])) [(.t 81), (.t 82), (.t 98)]⟩,
      ⟨(some 80), none, .mv (.t 99)⟩,
      ⟨(some 100), none, .ext (.t 80) 0⟩,
      ⟨(some 101), none, .ext (.t 80) 1⟩,
      ⟨(some 17), none, .al [.nils, .nils]⟩,
      ⟨none, none, .st 2 (.t 17) (.t 100)⟩,
      ⟨(some 18), none, .mv (.t 101)⟩] [.val [], .val [], .val [], .val [], .val [], .val [], .val [], .val [], .val [], .val [], .val [], .val [], .val [], .val [], .val [], .val [], .val [], .val [], .chn [], .val [], .val [], .val [], .flt 0, .chn [21], .val []])
     (.seq (.seq (.reg [⟨(some 102), none, .mv (.t 18)⟩,
      ⟨(some 103), none, .un .not (.t 102)⟩])
     (.cond (.t 103)
       (.seq (.reg [⟨(some 104), none, .ld true 2 (.t 4)⟩,
        ⟨(some 105), none, .cl (.c (.fn 69 [])) [(.t 104)]⟩,
        ⟨none, none, .st 2 (.t 8) (.t 105)⟩,
        ⟨(some 9), none, .mv (.c (.bool false))⟩])
       .ret)
       .skip))
     (.seq (.reg [⟨(some 106), none, .ld true 2 (.t 17)⟩,
      ⟨none, none, .st 2 (.t 10) (.t 106)⟩])
     (.reg [⟨(some 107), none, .mv (.t 11)⟩,
      ⟨(some 108), none, .mv (.t 14)⟩,
      ⟨(some 109), none, .bin .add (.t 107) (.t 108)⟩,
      ⟨(some 11), none, .mv (.t 109)⟩])))))))))))))))
  (.seq (.reg [⟨(some 110), none, .ld true 2 (.t 10)⟩,
   ⟨none, none, .st 2 (.t 8) (.t 110)⟩,
   ⟨(some 9), none, .mv (.c (.bool true))⟩])
  .ret)))))
theorem k_spec_WriteBytes : FnOk Tryz.prog 70 111 rc_spec_WriteBytes [.cell 8 true 2, .t 9] := ⟨Tryz.f70, _, [(14, [18, 1000022])], Tryz.func70, rfl, rfl, by kernel_rfl, by kernel_rfl, follows⟩
theorem ok_spec_WriteBytes : okF Tryz.prog 70 = true := by kernel_rfl
def rc_spec_SegWrite : RC :=
  (.seq (.reg [⟨(some 4), none, .bx (.t 0)⟩,
   ⟨(some 8), none, .al [.nils, .nils]⟩,
   ⟨(some 9), none, .mv (.c (.bool false))⟩])
  (.seq (.seq (.reg [⟨(some 10), none, .mv (.t 1)⟩,
   ⟨(some 11), none, .cl (.c (.fn 28 [])) [(.t 10), (.c (.int .i64 0)), (.c (.int .i64 10))]⟩,
   ⟨(some 12), none, .un .not (.t 11)⟩,
   ⟨(some 13), none, .mv (.t 12)⟩,
   ⟨(some 14), (some (13, false)), .mv (.t 2)⟩,
   ⟨(some 15), (some (13, false)), .cl (.c (.fn 28 [])) [(.t 14), (.c (.int .i64 0)), (.c (.int .i64 256))]⟩,
   ⟨(some 16), (some (13, false)), .un .not (.t 15)⟩,
   ⟨(some 17), none, .pick (.t 13) (.c (.bool true)) (.t 16)⟩,
   ⟨(some 18), none, .mv (.t 17)⟩,
   ⟨(some 19), (some (18, false)), .mv (.t 3)⟩,
   ⟨(some 20), (some (18, false)), .lens (.t 19)⟩,
   ⟨(some 21), (some (18, false)), .mv (.t 2)⟩,
   ⟨(some 22), (some (18, false)), .bin .sub (.c (.int .i64 256)) (.t 21)⟩,
   ⟨(some 23), (some (18, false)), .bin .gtr (.t 20) (.t 22)⟩,
   ⟨(some 24), none, .pick (.t 18) (.c (.bool true)) (.t 23)⟩])
  (.cond (.t 24)
    (.seq (.reg [⟨(some 25), none, .ld true 2 (.t 4)⟩,
     ⟨(some 26), none, .cl (.c (.fn 69 [])) [(.t 25)]⟩,
     ⟨none, none, .st 2 (.t 8) (.t 26)⟩,
     ⟨(some 9), none, .mv (.c (.bool false))⟩])
    .ret)
    .skip))
  (.seq (.drw [⟨(some 27), none, .ld true 2 (.t 4)⟩,
   ⟨(some 28), none, .mv (.t 1)⟩,
   ⟨(some 29), none, .cl (.c (.fn 120 [])) [(.t 28)]⟩,
   ⟨(some 30), none, .mv (.t 2)⟩,
   ⟨(some 31), none, .mv (.t 3)⟩,
   ⟨(some 32), none, .cl (.c (.fn 70 [])) [(.t 27), (.t 29), (.t 30), (.t 31)]⟩,
   ⟨(some 33), none, .ext (.t 32) 0⟩,
   ⟨(some 34), none, .ext (.t 32) 1⟩,
   ⟨none, none, .st 2 (.t 8) (.t 33)⟩,
   ⟨(some 9), none, .mv (.t 34)⟩] [.val [], .val [], .val [], .val [], .val [], .chn [], .val [], .val [], .chn [], .val []])
  .ret)))
theorem k_spec_SegWrite : FnOk Tryz.prog 65 35 rc_spec_SegWrite [.cell 8 true 2, .t 9] := ⟨Tryz.f65, _, [(3, [5])], Tryz.func65, rfl, rfl, by kernel_rfl, by kernel_rfl, follows⟩
theorem ok_spec_SegWrite : okF Tryz.prog 65 = true := by kernel_rfl
def rc_spec_FlushDisk : RC :=
  (.seq (.reg [⟨(some 1), none, .bx (.t 0)⟩,
   ⟨(some 2), none, .al [.nils, .nils]⟩])
  (.seq (.reg [⟨(some 5), none, .ld true 2 (.t 1)⟩,
   ⟨(some 6), none, .cl (.c (.fn 69 [])) [(.t 5)]⟩,
   ⟨(some 3), none, .al [.nils, .nils]⟩,
   ⟨none, none, .st 2 (.t 3) (.t 6)⟩])
  (.seq (.seq (.reg [⟨(some 7), none, .ld true 2 (.t 1)⟩,
   ⟨(some 8), none, .cl (.c (.fn 68 [])) [(.t 7)]⟩,
   ⟨(some 9), none, .un .not (.t 8)⟩])
  (.cond (.t 9)
    (.seq (.reg [⟨(some 10), none, .ld true 2 (.t 3)⟩,
     ⟨none, none, .st 2 (.t 2) (.t 10)⟩])
    .ret)
    .skip))
  (.seq (.seq (.reg [⟨(some 4), none, .mv (.c (.int .i64 0))⟩])
  (.blk 0 (.loop (.seq (.seq (.reg [⟨(some 11), none, .mv (.t 4)⟩,
     ⟨(some 12), none, .fa 1 (.t 1)⟩,
     ⟨(some 13), none, .ld false 1 (.t 12)⟩,
     ⟨(some 14), none, .lenl (.t 13)⟩,
     ⟨(some 15), none, .bin .lss (.t 11) (.t 14)⟩])
    (.cond (.t 15)
      .skip
      (.exit 0)))
    (.seq (.blk 1 (.drw [⟨(some 18), none, .fa 0 (.t 3)⟩,
      ⟨(some 19), none, .ld false 1 (.t 18)⟩,
      ⟨(some 20), none, .fa 1 (.t 1)⟩,
      ⟨(some 21), none, .ld false 1 (.t 20)⟩,
      ⟨(some 22), none, .mv (.t 4)⟩,
      ⟨(some 23), none, .ia 2 (.t 21) (.t 22)⟩,
      ⟨(some 24), none, .fa 0 (.t 23)⟩,
      ⟨(some 25), none, .ld false 1 (.t 24)⟩,
      ⟨(some 26), none, .fa 1 (.t 1)⟩,
      ⟨(some 27), none, .ld false 1 (.t 26)⟩,
      ⟨(some 28), none, .mv (.t 4)⟩,
      ⟨(some 29), none, .ia 2 (.t 27) (.t 28)⟩,
      ⟨(some 30), none, .fa 1 (.t 29)⟩,
      ⟨(some 31), none, .ld false 1 (.t 30)⟩,
      ⟨(some 32), none, .ia 1 (.t 19) (.t 25)⟩,
      ⟨none, none, .st 1 (.t 32) (.t 31)⟩] [.val [], .val [], .val [], .val [], .val [], .val [], .val [], .val [], .val [], .val [], .val [], .val [], .val [], .val [], .val [], .chn []]))
    (.reg [⟨(some 16), none, .mv (.t 4)⟩,
     ⟨(some 17), none, .bin .add (.t 16) (.c (.int .i64 1))⟩,
     ⟨(some 4), none, .mv (.t 17)⟩]))))))
  (.seq (.reg [⟨(some 33), none, .mv (.c (.nils))⟩,
   ⟨(some 34), none, .fa 1 (.t 3)⟩,
   ⟨none, none, .st 1 (.t 34) (.t 33)⟩])
  (.seq (.reg [⟨(some 35), none, .ld true 2 (.t 3)⟩,
   ⟨none, none, .st 2 (.t 2) (.t 35)⟩])
  .ret))))))
theorem k_spec_FlushDisk : FnOk Tryz.prog 66 36 rc_spec_FlushDisk [.cell 2 true 2] := ⟨Tryz.f66, _, [], Tryz.func66, rfl, rfl, by kernel_rfl, by kernel_rfl, follows⟩
theorem ok_spec_FlushDisk : okF Tryz.prog 66 = true := by kernel_rfl
def rc_spec_l09Open : RC :=
  (.seq (.reg [⟨(some 4), none, .mv (.c (.bool false))⟩])
  (.seq (.reg [⟨(some 10), none, .mv (.t 0)⟩,
   ⟨(some 11), none, .nc (.t 10)⟩,
   ⟨(some 12), none, .ld true 8 (.t 11)⟩,
   ⟨(some 13), none, .cl (.c (.fn 63 [])) [(.t 12)]⟩,
   ⟨(some 5), none, .mv (.t 13)⟩])
  (.seq (.seq (.reg [⟨(some 14), none, .mv (.t 1)⟩,
   ⟨(some 15), none, .bin .lss (.t 14) (.c (.int .i64 0))⟩,
   ⟨(some 16), none, .mv (.t 15)⟩,
   ⟨(some 17), (some (16, false)), .mv (.t 5)⟩,
   ⟨(some 18), (some (16, false)), .lenl (.t 17)⟩,
   ⟨(some 19), (some (16, false)), .mv (.t 1)⟩,
   ⟨(some 20), (some (16, false)), .bin .leq (.t 18) (.t 19)⟩,
   ⟨(some 21), none, .pick (.t 16) (.c (.bool true)) (.t 20)⟩])
  (.cond (.t 21)
    (.seq (.reg [⟨(some 4), none, .mv (.c (.bool false))⟩])
    .ret)
    .skip))
  (.seq (.reg [⟨(some 23), none, .mv (.t 0)⟩,
   ⟨(some 24), none, .nc (.t 23)⟩,
   ⟨(some 25), none, .fa 4 (.t 24)⟩,
   ⟨(some 26), none, .ld false 1 (.t 25)⟩,
   ⟨(some 27), none, .bld [.int .i64 0, .int .i64 0, .str []] [(0, 1), (1, 1), (2, 1)] [(0, (.t 26)), (1, (.c (.int .i64 1))), (2, (.c (.str [115, 101, 103])))]⟩,
   ⟨(some 28), none, .cl (.c (.fn 64 [])) [(.t 27)]⟩,
   ⟨(some 22), none, .mv (.t 28)⟩,
   ⟨(some 29), none, .ext (.t 22) 0⟩,
   ⟨(some 30), none, .ext (.t 22) 1⟩,
   ⟨(some 6), none, .mv (.t 29)⟩,
   ⟨(some 7), none, .mv (.t 30)⟩])
  (.seq (.drw [⟨(some 32), none, .mv (.t 0)⟩,
   ⟨(some 33), none, .nc (.t 32)⟩,
   ⟨(some 34), none, .fa 0 (.t 33)⟩,
   ⟨(some 35), none, .ld true 2 (.t 34)⟩,
   ⟨(some 36), none, .mv (.t 5)⟩,
   ⟨(some 37), none, .ia 1 (.t 36) (.c (.int .i64 0))⟩,
   ⟨(some 38), none, .ld false 1 (.t 37)⟩,
   ⟨(some 39), none, .mv (.t 6)⟩,
   ⟨(some 40), none, .cl (.c (.fn 65 [])) [(.t 35), (.t 38), (.c (.int .i64 0)), (.t 39)]⟩,
   ⟨(some 31), none, .mv (.t 40)⟩,
   ⟨(some 41), none, .ext (.t 31) 0⟩,
   ⟨(some 42), none, .ext (.t 31) 1⟩,
   ⟨(some 8), none, .al [.nils, .nils]⟩,
   ⟨none, none, .st 2 (.t 8) (.t 41)⟩,
   ⟨(some 9), none, .mv (.t 42)⟩] [.val [], .val [], .val [], .val [], .val [], .val [], .val [], .val [], .val [], .val [], .val [], .val [], .chn [0, 1, 2, 3, 4, 5, 6, 7, 8, 9, 10, 11], .chn [11], .val []])
  (.seq (.seq (.reg [⟨(some 43), none, .mv (.t 7)⟩,
   ⟨(some 44), none, .un .not (.t 43)⟩,
   ⟨(some 45), none, .mv (.t 44)⟩,
   ⟨(some 46), (some (45, false)), .mv (.t 9)⟩,
   ⟨(some 47), (some (45, false)), .un .not (.t 46)⟩,
   ⟨(some 48), none, .pick (.t 45) (.c (.bool true)) (.t 47)⟩,
   ⟨(some 49), none, .mv (.t 48)⟩,
   ⟨(some 50), (some (49, false)), .mv (.t 0)⟩,
   ⟨(some 51), (some (49, false)), .nc (.t 50)⟩,
   ⟨(some 52), (some (49, false)), .fa 4 (.t 51)⟩,
   ⟨(some 53), (some (49, false)), .ld false 1 (.t 52)⟩,
   ⟨(some 54), (some (49, false)), .bin .geq (.t 53) (.c (.int .i64 1000000000))⟩,
   ⟨(some 55), none, .pick (.t 49) (.c (.bool true)) (.t 54)⟩])
  (.cond (.t 55)
    (.seq (.reg [⟨(some 4), none, .mv (.c (.bool false))⟩])
    .ret)
    .skip))
  (.seq (.reg [⟨(some 56), none, .mv (.t 0)⟩,
   ⟨(some 57), none, .ld true 2 (.t 8)⟩,
   ⟨(some 58), none, .cl (.c (.fn 66 [])) [(.t 57)]⟩,
   ⟨(some 59), none, .nc (.t 56)⟩,
   ⟨(some 60), none, .fa 0 (.t 59)⟩,
   ⟨none, none, .st 2 (.t 60) (.t 58)⟩])
  (.seq (.drw [⟨(some 61), none, .mv (.t 0)⟩,
   ⟨(some 62), none, .mv (.c (.nils))⟩,
   ⟨(some 63), none, .mv (.t 0)⟩,
   ⟨(some 64), none, .nc (.t 63)⟩,
   ⟨(some 65), none, .fa 3 (.t 64)⟩,
   ⟨(some 66), none, .ld false 1 (.t 65)⟩,
   ⟨(some 67), none, .app 4 48 (.t 62) (.t 66)⟩,
   ⟨(some 68), none, .mv (.t 5)⟩,
   ⟨(some 69), none, .ia 1 (.t 68) (.c (.int .i64 0))⟩,
   ⟨(some 70), none, .ld false 1 (.t 69)⟩,
   ⟨(some 71), none, .mv (.t 0)⟩,
   ⟨(some 72), none, .nc (.t 71)⟩,
   ⟨(some 73), none, .fa 4 (.t 72)⟩,
   ⟨(some 74), none, .ld false 1 (.t 73)⟩,
   ⟨(some 75), none, .mv (.t 6)⟩,
   ⟨(some 76), none, .lens (.t 75)⟩,
   ⟨(some 77), none, .bld [.int .i64 0, .int .i64 0, .int .i64 0, .nils] [(0, 1), (1, 1), (2, 1), (3, 1)] [(0, (.t 70)), (1, (.t 74)), (2, (.t 76))]⟩,
   ⟨(some 78), none, .bs 4 [.int .i64 0, .int .i64 0, .int .i64 0, .nils] 1 [(0, (.t 77))]⟩,
   ⟨(some 79), none, .app 4 48 (.t 67) (.t 78)⟩,
   ⟨(some 80), none, .nc (.t 61)⟩,
   ⟨(some 81), none, .fa 3 (.t 80)⟩,
   ⟨none, none, .st 1 (.t 81) (.t 79)⟩] [.val [], .val [], .val [], .val [], .val [], .val [], .chn [0], .val [6], .val [6], .val [6], .val [6], .val [6], .val [6], .val [6], .val [6], .val [6], .val [6], .val [6], .chn [0], .val [], .val [], .chn []])
  (.seq (.reg [⟨(some 82), none, .mv (.t 0)⟩,
   ⟨(some 83), none, .nc (.t 82)⟩,
   ⟨(some 84), none, .fa 4 (.t 83)⟩,
   ⟨(some 85), none, .ld false 1 (.t 84)⟩,
   ⟨(some 86), none, .bin .add (.t 85) (.c (.int .i64 1))⟩,
   ⟨(some 87), none, .nc (.t 82)⟩,
   ⟨(some 88), none, .fa 4 (.t 87)⟩,
   ⟨none, none, .st 1 (.t 88) (.t 86)⟩])
  (.seq (.reg [⟨(some 4), none, .mv (.c (.bool true))⟩])
  .ret))))))))))
theorem k_spec_l09Open : FnOk Tryz.prog 30 89 rc_spec_l09Open [.t 4] := ⟨Tryz.f30, _, [(9, [2000017])], Tryz.func30, rfl, rfl, by kernel_rfl, by kernel_rfl, follows⟩
theorem ok_spec_l09Open : okF Tryz.prog 30 = true := by kernel_rfl
def rc_spec_CheckOk : RC :=
  (.seq (.reg [⟨(some 1), none, .bx (.t 0)⟩,
   ⟨(some 2), none, .mv (.c (.bool false))⟩])
  (.seq (.seq (.reg [⟨(some 6), none, .fa 0 (.t 1)⟩,
   ⟨(some 7), none, .ld false 1 (.t 6)⟩,
   ⟨(some 8), none, .cl (.c (.fn 28 [])) [(.t 7), (.c (.int .i64 1)), (.c (.int .i64 1000000000))]⟩,
   ⟨(some 9), none, .un .not (.t 8)⟩,
   ⟨(some 10), none, .mv (.t 9)⟩,
   ⟨(some 11), (some (10, false)), .fa 1 (.t 1)⟩,
   ⟨(some 12), (some (10, false)), .ld false 1 (.t 11)⟩,
   ⟨(some 13), (some (10, false)), .cl (.c (.fn 28 [])) [(.t 12), (.c (.int .i64 1)), (.c (.int .i64 1000000000))]⟩,
   ⟨(some 14), (some (10, false)), .un .not (.t 13)⟩,
   ⟨(some 15), none, .pick (.t 10) (.c (.bool true)) (.t 14)⟩,
   ⟨(some 16), none, .mv (.t 15)⟩,
   ⟨(some 17), (some (16, false)), .fa 2 (.t 1)⟩,
   ⟨(some 18), (some (16, false)), .ld false 1 (.t 17)⟩,
   ⟨(some 19), (some (16, false)), .cl (.c (.fn 28 [])) [(.t 18), (.c (.int .i64 1)), (.c (.int .i64 1000000000))]⟩,
   ⟨(some 20), (some (16, false)), .un .not (.t 19)⟩,
   ⟨(some 21), none, .pick (.t 16) (.c (.bool true)) (.t 20)⟩,
   ⟨(some 22), none, .mv (.t 21)⟩,
   ⟨(some 23), (some (22, false)), .fa 3 (.t 1)⟩,
   ⟨(some 24), (some (22, false)), .ld false 1 (.t 23)⟩,
   ⟨(some 25), (some (22, false)), .cl (.c (.fn 28 [])) [(.t 24), (.c (.int .i64 1)), (.c (.int .i64 1000000000))]⟩,
   ⟨(some 26), (some (22, false)), .un .not (.t 25)⟩,
   ⟨(some 27), none, .pick (.t 22) (.c (.bool true)) (.t 26)⟩,
   ⟨(some 28), none, .mv (.t 27)⟩,
   ⟨(some 29), (some (28, false)), .fa 4 (.t 1)⟩,
   ⟨(some 30), (some (28, false)), .ld false 1 (.t 29)⟩,
   ⟨(some 31), (some (28, false)), .lenl (.t 30)⟩,
   ⟨(some 32), (some (28, false)), .cl (.c (.fn 28 [])) [(.t 31), (.c (.int .i64 1)), (.c (.int .i64 11))]⟩,
   ⟨(some 33), (some (28, false)), .un .not (.t 32)⟩,
   ⟨(some 34), none, .pick (.t 28) (.c (.bool true)) (.t 33)⟩])
  (.cond (.t 34)
    (.seq (.reg [⟨(some 2), none, .mv (.c (.bool false))⟩])
    .ret)
    .skip))
  (.seq (.seq (.reg [⟨(some 3), none, .mv (.c (.int .i64 0))⟩])
  (.blk 0 (.loop (.seq (.seq (.reg [⟨(some 35), none, .mv (.t 3)⟩,
     ⟨(some 36), none, .fa 4 (.t 1)⟩,
     ⟨(some 37), none, .ld false 1 (.t 36)⟩,
     ⟨(some 38), none, .lenl (.t 37)⟩,
     ⟨(some 39), none, .bin .lss (.t 35) (.t 38)⟩])
    (.cond (.t 39)
      .skip
      (.exit 0)))
    (.seq (.blk 1 (.seq (.reg [⟨(some 42), none, .fa 4 (.t 1)⟩,
      ⟨(some 43), none, .ld false 1 (.t 42)⟩,
      ⟨(some 44), none, .mv (.t 3)⟩,
      ⟨(some 45), none, .ia 2 (.t 43) (.t 44)⟩,
      ⟨(some 46), none, .ld true 2 (.t 45)⟩,
      ⟨(some 4), none, .al [.int .i64 0, .int .i64 0]⟩,
      ⟨none, none, .st 2 (.t 4) (.t 46)⟩])
     (.seq (.seq (.drw [⟨(some 47), none, .fa 0 (.t 4)⟩,
      ⟨(some 48), none, .ld false 1 (.t 47)⟩,
      ⟨(some 49), none, .cl (.c (.fn 28 [])) [(.t 48), (.c (.int .i64 0)), (.c (.int .i64 10))]⟩,
      ⟨(some 50), none, .un .not (.t 49)⟩,
      ⟨(some 51), none, .mv (.t 50)⟩,
      ⟨(some 52), (some (51, false)), .fa 1 (.t 4)⟩,
      ⟨(some 53), (some (51, false)), .ld false 1 (.t 52)⟩,
      ⟨(some 54), (some (51, false)), .fa 1 (.t 1)⟩,
      ⟨(some 55), (some (51, false)), .ld false 1 (.t 54)⟩,
      ⟨(some 56), (some (51, false)), .bin .sub (.t 55) (.c (.int .i64 1))⟩,
      ⟨(some 57), (some (51, false)), .cl (.c (.fn 28 [])) [(.t 53), (.c (.int .i64 1)), (.t 56)]⟩,
      ⟨(some 58), (some (51, false)), .un .not (.t 57)⟩,
      ⟨(some 59), none, .pick (.t 51) (.c (.bool true)) (.t 58)⟩,
      ⟨(some 60), none, .mv (.t 59)⟩,
      ⟨(some 61), (some (60, false)), .mv (.t 3)⟩,
      ⟨(some 62), (some (60, false)), .bin .gtr (.t 61) (.c (.int .i64 0))⟩,
      ⟨(some 63), (some (60, false)), .mv (.t 62)⟩,
      ⟨(some 64), (some (63, true)), .fa 4 (.t 1)⟩,
      ⟨(some 65), (some (63, true)), .ld false 1 (.t 64)⟩,
      ⟨(some 66), (some (63, true)), .mv (.t 3)⟩,
      ⟨(some 67), (some (63, true)), .bin .sub (.t 66) (.c (.int .i64 1))⟩,
      ⟨(some 68), (some (63, true)), .ia 2 (.t 65) (.t 67)⟩,
      ⟨(some 69), (some (63, true)), .fa 1 (.t 68)⟩,
      ⟨(some 70), (some (63, true)), .ld false 1 (.t 69)⟩,
      ⟨(some 71), (some (63, true)), .fa 1 (.t 4)⟩,
      ⟨(some 72), (some (63, true)), .ld false 1 (.t 71)⟩,
      ⟨(some 73), (some (63, true)), .bin .geq (.t 70) (.t 72)⟩,
      ⟨(some 74), (some (60, false)), .pick (.t 63) (.t 73) (.c (.bool false))⟩,
      ⟨(some 75), none, .pick (.t 60) (.c (.bool true)) (.t 74)⟩] [.val [], .val [], .val [], .val [], .val [], .val [], .val [], .val [], .val [], .val [], .val [], .val [], .val [], .val [], .val [], .val [], .val [], .val [], .val [], .val [], .val [], .val [], .val [], .val [], .val [], .val [], .val [], .val [], .val []])
     (.cond (.t 75)
       (.seq (.reg [⟨(some 2), none, .mv (.c (.bool false))⟩])
       .ret)
       .skip))
     (.seq (.reg [⟨(some 5), none, .mv (.c (.int .i64 0))⟩])
     (.blk 2 (.loop (.seq (.seq (.reg [⟨(some 76), none, .mv (.t 5)⟩,
        ⟨(some 77), none, .mv (.t 3)⟩,
        ⟨(some 78), none, .bin .lss (.t 76) (.t 77)⟩])
       (.cond (.t 78)
         .skip
         (.exit 2)))
       (.seq (.blk 3 (.seq (.drw [⟨(some 81), none, .fa 4 (.t 1)⟩,
         ⟨(some 82), none, .ld false 1 (.t 81)⟩,
         ⟨(some 83), none, .mv (.t 5)⟩,
         ⟨(some 84), none, .ia 2 (.t 82) (.t 83)⟩,
         ⟨(some 85), none, .fa 0 (.t 84)⟩,
         ⟨(some 86), none, .ld false 1 (.t 85)⟩,
         ⟨(some 87), none, .fa 0 (.t 4)⟩,
         ⟨(some 88), none, .ld false 1 (.t 87)⟩,
         ⟨(some 89), none, .bin .eql (.t 86) (.t 88)⟩] [.val [], .val [], .val [], .val [], .val [], .val [], .val [], .val [], .val []])
        (.cond (.t 89)
          (.seq (.reg [⟨(some 2), none, .mv (.c (.bool false))⟩])
          .ret)
          .skip)))
       (.reg [⟨(some 79), none, .mv (.t 5)⟩,
        ⟨(some 80), none, .bin .add (.t 79) (.c (.int .i64 1))⟩,
        ⟨(some 5), none, .mv (.t 80)⟩])))))))))
    (.reg [⟨(some 40), none, .mv (.t 3)⟩,
     ⟨(some 41), none, .bin .add (.t 40) (.c (.int .i64 1))⟩,
     ⟨(some 3), none, .mv (.t 41)⟩]))))))
  (.seq (.reg [⟨(some 2), none, .mv (.c (.bool true))⟩])
  .ret))))
theorem k_spec_CheckOk : FnOk Tryz.prog 121 90 rc_spec_CheckOk [.t 2] := ⟨Tryz.f121, _, [], Tryz.func121, rfl, rfl, by kernel_rfl, by kernel_rfl, follows⟩
theorem ok_spec_CheckOk : okF Tryz.prog 121 = true := by kernel_rfl
def rc_spec_l06Short : RC :=
  (.seq (.reg [⟨(some 2), none, .mv (.c (.str []))⟩])
  (.seq (.reg [⟨(some 3), none, .mv (.t 0)⟩,
   ⟨(some 4), none, .lens (.t 3)⟩,
   ⟨(some 5), none, .cl (.c (.fn 119 [])) [(.t 4)]⟩,
   ⟨(some 6), none, .mv (.t 0)⟩,
   ⟨(some 7), none, .bin .add (.t 5) (.t 6)⟩,
   ⟨(some 2), none, .mv (.t 7)⟩])
  .ret))
theorem k_spec_l06Short : FnOk Tryz.prog 122 8 rc_spec_l06Short [.t 2] := ⟨Tryz.f122, _, [], Tryz.func122, rfl, rfl, by kernel_rfl, by kernel_rfl, follows⟩
theorem ok_spec_l06Short : okF Tryz.prog 122 = true := by kernel_rfl
def rc_spec_CheckText : RC :=
  (.seq (.reg [⟨(some 1), none, .bx (.t 0)⟩,
   ⟨(some 2), none, .mv (.c (.str []))⟩,
   ⟨(some 3), none, .mv (.c (.bool false))⟩])
  (.seq (.seq (.reg [⟨(some 9), none, .ld true 5 (.t 1)⟩,
   ⟨(some 10), none, .cl (.c (.fn 121 [])) [(.t 9)]⟩,
   ⟨(some 11), none, .un .not (.t 10)⟩])
  (.cond (.t 11)
    (.seq (.reg [⟨(some 2), none, .mv (.c (.str []))⟩,
     ⟨(some 3), none, .mv (.c (.bool false))⟩])
    .ret)
    .skip))
  (.seq (.drw [⟨(some 12), none, .fa 0 (.t 1)⟩,
   ⟨(some 13), none, .ld false 1 (.t 12)⟩,
   ⟨(some 14), none, .cl (.c (.fn 119 [])) [(.t 13)]⟩,
   ⟨(some 15), none, .fa 1 (.t 1)⟩,
   ⟨(some 16), none, .ld false 1 (.t 15)⟩,
   ⟨(some 17), none, .cl (.c (.fn 119 [])) [(.t 16)]⟩,
   ⟨(some 18), none, .bin .add (.t 14) (.t 17)⟩,
   ⟨(some 19), none, .fa 2 (.t 1)⟩,
   ⟨(some 20), none, .ld false 1 (.t 19)⟩,
   ⟨(some 21), none, .cl (.c (.fn 119 [])) [(.t 20)]⟩,
   ⟨(some 22), none, .bin .add (.t 18) (.t 21)⟩,
   ⟨(some 23), none, .fa 3 (.t 1)⟩,
   ⟨(some 24), none, .ld false 1 (.t 23)⟩,
   ⟨(some 25), none, .cl (.c (.fn 119 [])) [(.t 24)]⟩,
   ⟨(some 26), none, .bin .add (.t 22) (.t 25)⟩,
   ⟨(some 27), none, .fa 4 (.t 1)⟩,
   ⟨(some 28), none, .ld false 1 (.t 27)⟩,
   ⟨(some 29), none, .lenl (.t 28)⟩,
   ⟨(some 30), none, .cl (.c (.fn 119 [])) [(.t 29)]⟩,
   ⟨(some 31), none, .bin .add (.t 26) (.t 30)⟩,
   ⟨(some 4), none, .mv (.t 31)⟩] [.val [], .val [], .val [], .val [], .val [], .val [], .val [], .val [], .val [], .val [], .val [], .val [], .val [], .val [], .val [], .val [], .val [], .val [], .val [], .val [], .val []])
  (.seq (.seq (.reg [⟨(some 5), none, .mv (.c (.int .i64 0))⟩])
  (.blk 0 (.loop (.seq (.seq (.reg [⟨(some 32), none, .mv (.t 5)⟩,
     ⟨(some 33), none, .fa 4 (.t 1)⟩,
     ⟨(some 34), none, .ld false 1 (.t 33)⟩,
     ⟨(some 35), none, .lenl (.t 34)⟩,
     ⟨(some 36), none, .bin .lss (.t 32) (.t 35)⟩])
    (.cond (.t 36)
      .skip
      (.exit 0)))
    (.seq (.blk 1 (.drw [⟨(some 39), none, .mv (.t 4)⟩,
      ⟨(some 40), none, .fa 4 (.t 1)⟩,
      ⟨(some 41), none, .ld false 1 (.t 40)⟩,
      ⟨(some 42), none, .mv (.t 5)⟩,
      ⟨(some 43), none, .ia 2 (.t 41) (.t 42)⟩,
      ⟨(some 44), none, .fa 0 (.t 43)⟩,
      ⟨(some 45), none, .ld false 1 (.t 44)⟩,
      ⟨(some 46), none, .cl (.c (.fn 119 [])) [(.t 45)]⟩,
      ⟨(some 47), none, .bin .add (.t 39) (.t 46)⟩,
      ⟨(some 48), none, .fa 4 (.t 1)⟩,
      ⟨(some 49), none, .ld false 1 (.t 48)⟩,
      ⟨(some 50), none, .mv (.t 5)⟩,
      ⟨(some 51), none, .ia 2 (.t 49) (.t 50)⟩,
      ⟨(some 52), none, .fa 1 (.t 51)⟩,
      ⟨(some 53), none, .ld false 1 (.t 52)⟩,
      ⟨(some 54), none, .cl (.c (.fn 119 [])) [(.t 53)]⟩,
      ⟨(some 55), none, .bin .add (.t 47) (.t 54)⟩,
      ⟨(some 4), none, .mv (.t 55)⟩] [.val [], .val [], .val [], .val [], .val [], .val [], .val [], .val [], .val [], .val [], .val [], .val [], .val [], .val [], .val [], .val [], .val [], .val []]))
    (.reg [⟨(some 37), none, .mv (.t 5)⟩,
     ⟨(some 38), none, .bin .add (.t 37) (.c (.int .i64 1))⟩,
     ⟨(some 5), none, .mv (.t 38)⟩]))))))
  (.seq (.reg [⟨(some 57), none, .mv (.t 4)⟩,
   ⟨(some 58), none, .cl (.c (.fn 118 [])) [(.t 57)]⟩,
   ⟨(some 56), none, .mv (.t 58)⟩,
   ⟨(some 59), none, .ext (.t 56) 0⟩,
   ⟨(some 60), none, .ext (.t 56) 1⟩,
   ⟨(some 6), none, .mv (.t 59)⟩,
   ⟨(some 7), none, .mv (.t 60)⟩])
  (.seq (.reg [⟨(some 61), none, .mv (.t 6)⟩,
   ⟨(some 62), none, .cl (.c (.fn 122 [])) [(.t 61)]⟩,
   ⟨(some 8), none, .mv (.t 62)⟩])
  (.seq (.seq (.reg [⟨(some 63), none, .mv (.t 7)⟩,
   ⟨(some 64), none, .un .not (.t 63)⟩,
   ⟨(some 65), none, .mv (.t 64)⟩,
   ⟨(some 66), (some (65, false)), .mv (.t 8)⟩,
   ⟨(some 67), (some (65, false)), .lens (.t 66)⟩,
   ⟨(some 68), (some (65, false)), .bin .gtr (.t 67) (.c (.int .i64 128))⟩,
   ⟨(some 69), none, .pick (.t 65) (.c (.bool true)) (.t 68)⟩])
  (.cond (.t 69)
    (.seq (.reg [⟨(some 2), none, .mv (.c (.str []))⟩,
     ⟨(some 3), none, .mv (.c (.bool false))⟩])
    .ret)
    .skip))
  (.seq (.reg [⟨(some 70), none, .mv (.t 8)⟩,
   ⟨(some 2), none, .mv (.t 70)⟩,
   ⟨(some 3), none, .mv (.c (.bool true))⟩])
  .ret))))))))
theorem k_spec_CheckText : FnOk Tryz.prog 67 71 rc_spec_CheckText [.t 2, .t 3] := ⟨Tryz.f67, _, [], Tryz.func67, rfl, rfl, by kernel_rfl, by kernel_rfl, follows⟩
theorem ok_spec_CheckText : okF Tryz.prog 67 = true := by kernel_rfl
def rc_spec_WriteCheck : RC :=
  (.seq (.reg [⟨(some 2), none, .bx (.t 0)⟩,
   ⟨(some 3), none, .bx (.t 1)⟩,
   ⟨(some 4), none, .al [.nils, .nils]⟩,
   ⟨(some 5), none, .mv (.c (.bool false))⟩])
  (.seq (.reg [⟨(some 11), none, .ld true 5 (.t 3)⟩,
   ⟨(some 12), none, .cl (.c (.fn 67 [])) [(.t 11)]⟩,
   ⟨(some 10), none, .mv (.t 12)⟩,
   ⟨(some 13), none, .ext (.t 10) 0⟩,
   ⟨(some 14), none, .ext (.t 10) 1⟩,
   ⟨(some 6), none, .mv (.t 13)⟩,
   ⟨(some 7), none, .mv (.t 14)⟩])
  (.seq (.seq (.reg [⟨(some 15), none, .mv (.t 7)⟩,
   ⟨(some 16), none, .un .not (.t 15)⟩,
   ⟨(some 17), none, .mv (.t 16)⟩,
   ⟨(some 18), (some (17, false)), .ld true 2 (.t 2)⟩,
   ⟨(some 19), (some (17, false)), .cl (.c (.fn 68 [])) [(.t 18)]⟩,
   ⟨(some 20), (some (17, false)), .un .not (.t 19)⟩,
   ⟨(some 21), none, .pick (.t 17) (.c (.bool true)) (.t 20)⟩])
  (.cond (.t 21)
    (.seq (.reg [⟨(some 22), none, .ld true 2 (.t 2)⟩,
     ⟨(some 23), none, .cl (.c (.fn 69 [])) [(.t 22)]⟩,
     ⟨none, none, .st 2 (.t 4) (.t 23)⟩,
     ⟨(some 5), none, .mv (.c (.bool false))⟩])
    .ret)
    .skip))
  (.seq (.reg [⟨(some 25), none, .ld true 2 (.t 2)⟩,
   ⟨(some 26), none, .fa 0 (.t 3)⟩,
   ⟨(some 27), none, .ld false 1 (.t 26)⟩,
   ⟨(some 28), none, .bin .rem (.t 27) (.c (.int .i64 2))⟩,
   ⟨(some 29), none, .bin .mul (.c (.int .i64 4)) (.t 28)⟩,
   ⟨(some 30), none, .mv (.t 6)⟩,
   ⟨(some 31), none, .cl (.c (.fn 70 [])) [(.t 25), (.t 29), (.c (.int .i64 0)), (.t 30)]⟩,
   ⟨(some 24), none, .mv (.t 31)⟩,
   ⟨(some 32), none, .ext (.t 24) 0⟩,
   ⟨(some 33), none, .ext (.t 24) 1⟩,
   ⟨(some 8), none, .al [.nils, .nils]⟩,
   ⟨none, none, .st 2 (.t 8) (.t 32)⟩,
   ⟨(some 9), none, .mv (.t 33)⟩])
  (.seq (.seq (.reg [⟨(some 34), none, .mv (.t 9)⟩,
   ⟨(some 35), none, .un .not (.t 34)⟩])
  (.cond (.t 35)
    (.seq (.reg [⟨(some 36), none, .ld true 2 (.t 2)⟩,
     ⟨(some 37), none, .cl (.c (.fn 69 [])) [(.t 36)]⟩,
     ⟨none, none, .st 2 (.t 4) (.t 37)⟩,
     ⟨(some 5), none, .mv (.c (.bool false))⟩])
    .ret)
    .skip))
  (.seq (.reg [⟨(some 38), none, .ld true 2 (.t 8)⟩,
   ⟨(some 39), none, .cl (.c (.fn 66 [])) [(.t 38)]⟩,
   ⟨none, none, .st 2 (.t 4) (.t 39)⟩,
   ⟨(some 5), none, .mv (.c (.bool true))⟩])
  .ret))))))
theorem k_spec_WriteCheck : FnOk Tryz.prog 31 40 rc_spec_WriteCheck [.cell 4 true 2, .t 5] := ⟨Tryz.f31, _, [], Tryz.func31, rfl, rfl, by kernel_rfl, by kernel_rfl, follows⟩
theorem ok_spec_WriteCheck : okF Tryz.prog 31 = true := by kernel_rfl
def rc_spec_CheckOf : RC :=
  (.seq (.reg [⟨(some 1), none, .bx (.t 0)⟩,
   ⟨(some 2), none, .al [.int .i64 0, .int .i64 0, .int .i64 0, .int .i64 0, .nils]⟩])
  (.seq (.reg [⟨(some 5), none, .fa 6 (.t 1)⟩,
   ⟨(some 6), none, .ld false 1 (.t 5)⟩,
   ⟨(some 7), none, .bin .add (.t 6) (.c (.int .i64 1))⟩,
   ⟨(some 8), none, .fa 4 (.t 1)⟩,
   ⟨(some 9), none, .ld false 1 (.t 8)⟩,
   ⟨(some 10), none, .fa 5 (.t 1)⟩,
   ⟨(some 11), none, .ld false 1 (.t 10)⟩,
   ⟨(some 12), none, .fa 7 (.t 1)⟩,
   ⟨(some 13), none, .ld false 1 (.t 12)⟩,
   ⟨(some 14), none, .bld [.int .i64 0, .int .i64 0, .int .i64 0, .int .i64 0, .nils] [(0, 1), (1, 1), (2, 1), (3, 1), (4, 1)] [(0, (.t 7)), (1, (.t 9)), (2, (.t 11)), (3, (.t 13))]⟩,
   ⟨(some 3), none, .al [.int .i64 0, .int .i64 0, .int .i64 0, .int .i64 0, .nils]⟩,
   ⟨none, none, .st 5 (.t 3) (.t 14)⟩])
  (.seq (.seq (.reg [⟨(some 4), none, .mv (.c (.int .i64 0))⟩])
  (.blk 0 (.loop (.seq (.seq (.reg [⟨(some 15), none, .mv (.t 4)⟩,
     ⟨(some 16), none, .fa 3 (.t 1)⟩,
     ⟨(some 17), none, .ld false 1 (.t 16)⟩,
     ⟨(some 18), none, .lenl (.t 17)⟩,
     ⟨(some 19), none, .bin .lss (.t 15) (.t 18)⟩])
    (.cond (.t 19)
      .skip
      (.exit 0)))
    (.seq (.blk 1 (.drw [⟨(some 22), none, .fa 4 (.t 3)⟩,
      ⟨(some 23), none, .ld false 1 (.t 22)⟩,
      ⟨(some 24), none, .fa 3 (.t 1)⟩,
      ⟨(some 25), none, .ld false 1 (.t 24)⟩,
      ⟨(some 26), none, .mv (.t 4)⟩,
      ⟨(some 27), none, .ia 4 (.t 25) (.t 26)⟩,
      ⟨(some 28), none, .fa 0 (.t 27)⟩,
      ⟨(some 29), none, .ld false 1 (.t 28)⟩,
      ⟨(some 30), none, .fa 3 (.t 1)⟩,
      ⟨(some 31), none, .ld false 1 (.t 30)⟩,
      ⟨(some 32), none, .mv (.t 4)⟩,
      ⟨(some 33), none, .ia 4 (.t 31) (.t 32)⟩,
      ⟨(some 34), none, .fa 1 (.t 33)⟩,
      ⟨(some 35), none, .ld false 1 (.t 34)⟩,
      ⟨(some 36), none, .bld [.int .i64 0, .int .i64 0] [(0, 1), (1, 1)] [(0, (.t 29)), (1, (.t 35))]⟩,
      ⟨(some 37), none, .bs 2 [.int .i64 0, .int .i64 0] 1 [(0, (.t 36))]⟩,
      ⟨(some 38), none, .app 2 16 (.t 23) (.t 37)⟩,
      ⟨(some 39), none, .fa 4 (.t 3)⟩,
      ⟨none, none, .st 1 (.t 39) (.t 38)⟩] [.val [], .val [], .val [], .val [], .val [], .val [], .val [], .val [], .val [], .val [], .val [], .val [], .val [], .val [], .val [], .chn [0, 1], .chn [], .val [], .chn []]))
    (.reg [⟨(some 20), none, .mv (.t 4)⟩,
     ⟨(some 21), none, .bin .add (.t 20) (.c (.int .i64 1))⟩,
     ⟨(some 4), none, .mv (.t 21)⟩]))))))
  (.seq (.reg [⟨(some 40), none, .ld true 5 (.t 3)⟩,
   ⟨none, none, .st 5 (.t 2) (.t 40)⟩])
  .ret))))
theorem k_spec_CheckOf : FnOk Tryz.prog 32 41 rc_spec_CheckOf [.cell 2 true 5] := ⟨Tryz.f32, _, [], Tryz.func32, rfl, rfl, by kernel_rfl, by kernel_rfl, follows⟩
theorem ok_spec_CheckOf : okF Tryz.prog 32 = true := by kernel_rfl
def rc_spec_FormatDisk : RC :=
  (.seq (.reg [⟨(some 2), none, .al [.nils, .nils, .int .i64 0, .nils, .int .i64 0, .int .i64 0, .int .i64 0, .int .i64 0]⟩,
   ⟨(some 3), none, .mv (.c (.bool false))⟩])
  (.seq (.seq (.reg [⟨(some 9), none, .mv (.t 0)⟩,
   ⟨(some 10), none, .cl (.c (.fn 28 [])) [(.t 9), (.c (.int .i64 5)), (.c (.int .i64 11))]⟩,
   ⟨(some 11), none, .un .not (.t 10)⟩])
  (.cond (.t 11)
    (.seq (.reg [⟨(some 12), none, .bld [.nils, .nils, .int .i64 0, .nils, .int .i64 0, .int .i64 0, .int .i64 0, .int .i64 0] [(0, 2), (2, 1), (3, 1), (4, 1), (5, 1), (6, 1), (7, 1)] []⟩,
     ⟨none, none, .st 8 (.t 2) (.t 12)⟩,
     ⟨(some 3), none, .mv (.c (.bool false))⟩])
    .ret)
    .skip))
  (.seq (.reg [⟨(some 14), none, .mv (.t 0)⟩,
   ⟨(some 15), none, .bin .mul (.t 14) (.c (.int .i64 8))⟩,
   ⟨(some 16), none, .bin .add (.c (.int .i64 8)) (.t 15)⟩,
   ⟨(some 17), none, .cl (.c (.fn 29 [])) [(.t 16)]⟩,
   ⟨(some 13), none, .mv (.t 17)⟩,
   ⟨(some 18), none, .ext (.t 13) 0⟩,
   ⟨(some 19), none, .ext (.t 13) 1⟩,
   ⟨(some 4), none, .al [.nils, .nils]⟩,
   ⟨none, none, .st 2 (.t 4) (.t 18)⟩,
   ⟨(some 5), none, .mv (.t 19)⟩])
  (.seq (.reg [⟨(some 20), none, .ld true 2 (.t 4)⟩,
   ⟨(some 21), none, .mv (.t 0)⟩,
   ⟨(some 22), none, .bld [.nils, .nils, .int .i64 0, .nils, .int .i64 0, .int .i64 0, .int .i64 0, .int .i64 0] [(0, 2), (2, 1), (3, 1), (4, 1), (5, 1), (6, 1), (7, 1)] [(0, (.t 20)), (1, (.t 21)), (3, (.c (.int .i64 1))), (4, (.c (.int .i64 1))), (6, (.c (.int .i64 1)))]⟩,
   ⟨(some 6), none, .al [.nils, .nils, .int .i64 0, .nils, .int .i64 0, .int .i64 0, .int .i64 0, .int .i64 0]⟩,
   ⟨none, none, .st 8 (.t 6) (.t 22)⟩])
  (.seq (.seq (.reg [⟨(some 23), none, .cl (.c (.fn 30 [])) [(.t 6), (.c (.int .i64 0))]⟩,
   ⟨(some 24), none, .un .not (.t 23)⟩])
  (.cond (.t 24)
    (.seq (.reg [⟨(some 25), none, .bld [.nils, .nils, .int .i64 0, .nils, .int .i64 0, .int .i64 0, .int .i64 0, .int .i64 0] [(0, 2), (2, 1), (3, 1), (4, 1), (5, 1), (6, 1), (7, 1)] []⟩,
     ⟨none, none, .st 8 (.t 2) (.t 25)⟩,
     ⟨(some 3), none, .mv (.c (.bool false))⟩])
    .ret)
    .skip))
  (.seq (.drw [⟨(some 27), none, .fa 0 (.t 6)⟩,
   ⟨(some 28), none, .ld true 2 (.t 27)⟩,
   ⟨(some 29), none, .ld true 8 (.t 6)⟩,
   ⟨(some 30), none, .cl (.c (.fn 32 [])) [(.t 29)]⟩,
   ⟨(some 31), none, .cl (.c (.fn 31 [])) [(.t 28), (.t 30)]⟩,
   ⟨(some 26), none, .mv (.t 31)⟩,
   ⟨(some 32), none, .ext (.t 26) 0⟩,
   ⟨(some 33), none, .ext (.t 26) 1⟩,
   ⟨(some 7), none, .al [.nils, .nils]⟩,
   ⟨none, none, .st 2 (.t 7) (.t 32)⟩,
   ⟨(some 8), none, .mv (.t 33)⟩] [.val [], .val [], .val [], .val [], .chn [], .val [], .val [], .val [], .flt 0, .chn [7], .val []])
  (.seq (.seq (.reg [⟨(some 34), none, .mv (.t 8)⟩,
   ⟨(some 35), none, .un .not (.t 34)⟩])
  (.cond (.t 35)
    (.seq (.reg [⟨(some 36), none, .bld [.nils, .nils, .int .i64 0, .nils, .int .i64 0, .int .i64 0, .int .i64 0, .int .i64 0] [(0, 2), (2, 1), (3, 1), (4, 1), (5, 1), (6, 1), (7, 1)] []⟩,
     ⟨none, none, .st 8 (.t 2) (.t 36)⟩,
     ⟨(some 3), none, .mv (.c (.bool false))⟩])
    .ret)
    .skip))
  (.seq (.reg [⟨(some 37), none, .ld true 2 (.t 7)⟩,
   ⟨(some 38), none, .fa 0 (.t 6)⟩,
   ⟨none, none, .st 2 (.t 38) (.t 37)⟩])
  (.seq (.reg [⟨(some 39), none, .fa 6 (.t 6)⟩,
   ⟨none, none, .st 1 (.t 39) (.c (.int .i64 1))⟩])
  (.seq (.reg [⟨(some 40), none, .ld true 8 (.t 6)⟩,
   ⟨none, none, .st 8 (.t 2) (.t 40)⟩,
   ⟨(some 3), none, .mv (.c (.bool true))⟩])
  .ret))))))))))
theorem k_spec_FormatDisk : FnOk Tryz.prog 7 41 rc_spec_FormatDisk [.cell 2 true 8, .t 3] := ⟨Tryz.f7, _, [(7, [4, 1000008])], Tryz.func7, rfl, rfl, by kernel_rfl, by kernel_rfl, follows⟩
theorem ok_spec_FormatDisk : okF Tryz.prog 7 = true := by kernel_rfl
def rc_spec_StoreNew : RC :=
  (.seq (.reg [⟨(some 2), none, .al [.nils, .nils, .int .i64 0, .nils, .int .i64 0, .int .i64 0, .int .i64 0, .int .i64 0, .nils]⟩,
   ⟨(some 3), none, .mv (.c (.bool false))⟩])
  (.seq (.reg [⟨(some 7), none, .mv (.t 0)⟩,
   ⟨(some 8), none, .cl (.c (.fn 7 [])) [(.t 7)]⟩,
   ⟨(some 6), none, .mv (.t 8)⟩,
   ⟨(some 9), none, .ext (.t 6) 0⟩,
   ⟨(some 10), none, .ext (.t 6) 1⟩,
   ⟨(some 4), none, .al [.nils, .nils, .int .i64 0, .nils, .int .i64 0, .int .i64 0, .int .i64 0, .int .i64 0]⟩,
   ⟨none, none, .st 8 (.t 4) (.t 9)⟩,
   ⟨(some 5), none, .mv (.t 10)⟩])
  (.seq (.seq (.reg [⟨(some 11), none, .mv (.t 5)⟩,
   ⟨(some 12), none, .un .not (.t 11)⟩])
  (.cond (.t 12)
    (.seq (.reg [⟨(some 13), none, .bld [.nils, .nils, .int .i64 0, .nils, .int .i64 0, .int .i64 0, .int .i64 0, .int .i64 0, .nils] [(0, 8), (8, 1)] []⟩,
     ⟨none, none, .st 9 (.t 2) (.t 13)⟩,
     ⟨(some 3), none, .mv (.c (.bool false))⟩])
    .ret)
    .skip))
  (.seq (.reg [⟨(some 14), none, .ld true 8 (.t 4)⟩,
   ⟨(some 15), none, .bld [.nils, .nils, .int .i64 0, .nils, .int .i64 0, .int .i64 0, .int .i64 0, .int .i64 0, .nils] [(0, 8), (8, 1)] [(0, (.t 14))]⟩,
   ⟨none, none, .st 9 (.t 2) (.t 15)⟩,
   ⟨(some 3), none, .mv (.c (.bool true))⟩])
  .ret))))
theorem k_spec_StoreNew : FnOk Tryz.prog 12 16 rc_spec_StoreNew [.cell 2 true 9, .t 3] := ⟨Tryz.f12, _, [], Tryz.func12, rfl, rfl, by kernel_rfl, by kernel_rfl, follows⟩
theorem ok_spec_StoreNew : okF Tryz.prog 12 = true := by kernel_rfl
def rc_impl_in : RC :=
  (.seq (.reg [⟨(some 6), none, .mv (.c (.bool false))⟩])
  (.seq (.reg [⟨(some 7), none, .mv (.t 0)⟩,
   ⟨(some 8), none, .mv (.t 1)⟩,
   ⟨(some 9), none, .bin .geq (.t 7) (.t 8)⟩,
   ⟨(some 10), none, .mv (.t 9)⟩,
   ⟨(some 11), (some (10, true)), .mv (.t 0)⟩,
   ⟨(some 12), (some (10, true)), .mv (.t 2)⟩,
   ⟨(some 13), (some (10, true)), .bin .leq (.t 11) (.t 12)⟩,
   ⟨(some 14), none, .pick (.t 10) (.t 13) (.c (.bool false))⟩,
   ⟨(some 6), none, .mv (.t 14)⟩])
  .ret))
theorem k_impl_in : FnOk Tryz.prog 33 15 rc_impl_in [.t 6] := ⟨Tryz.f33, _, [], Tryz.func33, rfl, rfl, by kernel_rfl, by kernel_rfl, follows⟩
theorem ok_impl_in : okF Tryz.prog 33 = true := by kernel_rfl
def rc_impl_DiskNew : RC :=
  (.seq (.reg [⟨(some 2), none, .al [.nils, .nils]⟩,
   ⟨(some 3), none, .mv (.c (.bool false))⟩])
  (.seq (.seq (.reg [⟨(some 5), none, .mv (.t 0)⟩,
   ⟨(some 6), none, .cl (.c (.fn 33 [])) [(.t 5), (.c (.int .i64 1)), (.c (.int .i64 100))]⟩,
   ⟨(some 7), none, .un .not (.t 6)⟩])
  (.cond (.t 7)
    (.seq (.reg [⟨(some 8), none, .bld [.nils, .nils] [(0, 1), (1, 1)] []⟩,
     ⟨none, none, .st 2 (.t 2) (.t 8)⟩,
     ⟨(some 3), none, .mv (.c (.bool false))⟩])
    .ret)
    .skip))
  (.seq (.reg [⟨(some 9), none, .bld [.nils, .nils] [(0, 1), (1, 1)] []⟩,
   ⟨(some 4), none, .al [.nils, .nils]⟩,
   ⟨none, none, .st 2 (.t 4) (.t 9)⟩])
  (.seq (.seq (.reg [⟨(some 10), none, .mv (.t 0)⟩,
   ⟨(some 11), none, .mv (.c (.int .i64 0))⟩])
  (.blk 0 (.loop (.seq (.reg [⟨(some 12), none, .bin .lss (.t 11) (.t 10)⟩])
    (.seq (.cond (.t 12)
      .skip
      (.exit 0))
    (.seq (.blk 1 (.drw [⟨(some 13), none, .fa 0 (.t 4)⟩,
      ⟨(some 14), none, .ld false 1 (.t 13)⟩,
      ⟨(some 15), none, .cl (.c (.fn 71 [])) [(.c (.str [0])), (.c (.int .i64 32))]⟩,
      ⟨(some 16), none, .bs 1 [.str []] 1 [(0, (.t 15))]⟩,
      ⟨(some 17), none, .app 1 16 (.t 14) (.t 16)⟩,
      ⟨(some 18), none, .fa 0 (.t 4)⟩,
      ⟨none, none, .st 1 (.t 18) (.t 17)⟩] [.val [], .val [], .val [], .chn [0, 1], .chn [], .val [], .chn []]))
    (.reg [⟨(some 19), none, .bin .add (.t 11) (.c (.int .i64 1))⟩,
     ⟨(some 11), none, .mv (.t 19)⟩])))))))
  (.seq (.reg [⟨(some 20), none, .ld true 2 (.t 4)⟩,
   ⟨none, none, .st 2 (.t 2) (.t 20)⟩,
   ⟨(some 3), none, .mv (.c (.bool true))⟩])
  .ret)))))
theorem k_impl_DiskNew : FnOk Tryz.prog 34 21 rc_impl_DiskNew [.cell 2 true 2, .t 3] := ⟨Tryz.f34, _, [], Tryz.func34, rfl, rfl, by kernel_rfl, by kernel_rfl, follows⟩
theorem ok_impl_DiskNew : okF Tryz.prog 34 = true := by kernel_rfl
def rc_impl_FreeSegs_1 : RC :=
  (.seq (.reg [⟨(some 2), none, .bx (.t 0)⟩,
   ⟨(some 3), none, .mv (.c (.bool false))⟩])
  (.seq (.reg [⟨(some 4), none, .fa 0 (.t 2)⟩,
   ⟨(some 5), none, .ld false 1 (.t 4)⟩,
   ⟨(some 6), none, .ld false 1 (.t 1)⟩,
   ⟨(some 7), none, .bin .eql (.t 5) (.t 6)⟩,
   ⟨(some 3), none, .mv (.t 7)⟩])
  .ret))
theorem k_impl_FreeSegs_1 : FnOk Tryz.prog 132 8 rc_impl_FreeSegs_1 [.t 3] := ⟨Tryz.f132, _, [], Tryz.func132, rfl, rfl, by kernel_rfl, by kernel_rfl, follows⟩
theorem ok_impl_FreeSegs_1 : okF Tryz.prog 132 = true := by kernel_rfl
def rc_slices_IndexFunc_Seg : RC :=
  (.seq (.reg [⟨(some 4), none, .mv (.c (.int .i64 0))⟩])
  (.seq (.seq (.reg [⟨(some 6), none, .mv (.t 0)⟩,
   ⟨(some 7), none, .lenl (.t 6)⟩,
   ⟨(some 8), none, .mv (.c (.int .i64 0))⟩])
  (.blk 0 (.loop (.seq (.reg [⟨(some 9), none, .bin .lss (.t 8) (.t 7)⟩])
    (.seq (.cond (.t 9)
      .skip
      (.exit 0))
    (.seq (.blk 1 (.seq (.reg [⟨(some 10), none, .mv (.t 8)⟩,
      ⟨(some 5), none, .mv (.t 10)⟩])
     (.seq (.reg [⟨(some 11), none, .mv (.t 1)⟩,
      ⟨(some 12), none, .mv (.t 0)⟩,
      ⟨(some 13), none, .mv (.t 5)⟩,
      ⟨(some 14), none, .ia 4 (.t 12) (.t 13)⟩,
      ⟨(some 15), none, .ld true 4 (.t 14)⟩,
      ⟨(some 16), none, .cl (.t 11) [(.t 15)]⟩])
     (.cond (.t 16)
       (.seq (.reg [⟨(some 17), none, .mv (.t 5)⟩,
        ⟨(some 4), none, .mv (.t 17)⟩])
       .ret)
       .skip))))
    (.reg [⟨(some 18), none, .bin .add (.t 8) (.c (.int .i64 1))⟩,
     ⟨(some 8), none, .mv (.t 18)⟩])))))))
  (.seq (.reg [⟨(some 4), none, .mv (.c (.int .i64 (-1)))⟩])
  .ret)))
theorem k_slices_IndexFunc_Seg : FnOk Tryz.prog 186 19 rc_slices_IndexFunc_Seg [.t 4] := ⟨Tryz.f186, _, [], Tryz.func186, rfl, rfl, by kernel_rfl, by kernel_rfl, follows⟩
theorem ok_slices_IndexFunc_Seg : okF Tryz.prog 186 = true := by kernel_rfl
def rc_slices_ContainsFunc_Seg : RC :=
  (.seq (.reg [⟨(some 4), none, .mv (.c (.bool false))⟩])
  (.seq (.reg [⟨(some 5), none, .mv (.t 0)⟩,
   ⟨(some 6), none, .mv (.t 1)⟩,
   ⟨(some 7), none, .cl (.c (.fn 186 [])) [(.t 5), (.t 6)]⟩,
   ⟨(some 8), none, .bin .geq (.t 7) (.c (.int .i64 0))⟩,
   ⟨(some 4), none, .mv (.t 8)⟩])
  .ret))
theorem k_slices_ContainsFunc_Seg : FnOk Tryz.prog 131 9 rc_slices_ContainsFunc_Seg [.t 4] := ⟨Tryz.f131, _, [], Tryz.func131, rfl, rfl, by kernel_rfl, by kernel_rfl, follows⟩
theorem ok_slices_ContainsFunc_Seg : okF Tryz.prog 131 = true := by kernel_rfl
def rc_impl_FreeSegs : RC :=
  (.seq (.reg [⟨(some 1), none, .bx (.t 0)⟩,
   ⟨(some 2), none, .mv (.c (.nils))⟩])
  (.seq (.reg [⟨(some 5), none, .mv (.c (.nils))⟩,
   ⟨(some 3), none, .mv (.t 5)⟩])
  (.seq (.seq (.reg [⟨(some 6), none, .fa 2 (.t 1)⟩,
   ⟨(some 7), none, .ld false 1 (.t 6)⟩,
   ⟨(some 8), none, .mn (.t 7) (.c (.int .i64 11))⟩,
   ⟨(some 9), none, .mv (.c (.int .i64 0))⟩])
  (.blk 0 (.loop (.seq (.reg [⟨(some 10), none, .bin .lss (.t 9) (.t 8)⟩])
    (.seq (.cond (.t 10)
      .skip
      (.exit 0))
    (.seq (.blk 1 (.seq (.reg [⟨(some 11), none, .mv (.t 9)⟩,
      ⟨(some 4), none, .al [.int .i64 0]⟩,
      ⟨none, none, .st 1 (.t 4) (.t 11)⟩])
     (.seq (.reg [⟨(some 12), none, .fa 3 (.t 1)⟩,
      ⟨(some 13), none, .ld false 1 (.t 12)⟩,
      ⟨(some 14), none, .mkf 132 [(.t 4)]⟩,
      ⟨(some 15), none, .cl (.c (.fn 131 [])) [(.t 13), (.t 14)]⟩,
      ⟨(some 16), none, .un .not (.t 15)⟩])
     (.cond (.t 16)
       (.reg [⟨(some 17), none, .mv (.t 3)⟩,
        ⟨(some 18), none, .ld false 1 (.t 4)⟩,
        ⟨(some 19), none, .bs 1 [.int .i64 0] 1 [(0, (.t 18))]⟩,
        ⟨(some 20), none, .app 1 8 (.t 17) (.t 19)⟩,
        ⟨(some 3), none, .mv (.t 20)⟩])
       .skip))))
    (.reg [⟨(some 21), none, .bin .add (.t 9) (.c (.int .i64 1))⟩,
     ⟨(some 9), none, .mv (.t 21)⟩])))))))
  (.seq (.reg [⟨(some 22), none, .mv (.t 3)⟩,
   ⟨(some 2), none, .mv (.t 22)⟩])
  .ret))))
theorem k_impl_FreeSegs : FnOk Tryz.prog 72 23 rc_impl_FreeSegs [.t 2] := ⟨Tryz.f72, _, [], Tryz.func72, rfl, rfl, by kernel_rfl, by kernel_rfl, follows⟩
theorem ok_impl_FreeSegs : okF Tryz.prog 72 = true := by kernel_rfl
def rc_impl_FrameOk : RC :=
  (.seq (.reg [⟨(some 1), none, .bx (.t 0)⟩,
   ⟨(some 2), none, .mv (.c (.bool false))⟩])
  (.seq (.reg [⟨(some 3), none, .fa 0 (.t 1)⟩,
   ⟨(some 4), none, .ld false 1 (.t 3)⟩,
   ⟨(some 5), none, .cl (.c (.fn 33 [])) [(.t 4), (.c (.int .i64 1)), (.c (.int .i64 1000000000))]⟩,
   ⟨(some 6), none, .mv (.t 5)⟩,
   ⟨(some 7), (some (6, true)), .fa 1 (.t 1)⟩,
   ⟨(some 8), (some (6, true)), .ld false 1 (.t 7)⟩,
   ⟨(some 9), (some (6, true)), .cl (.c (.fn 33 [])) [(.t 8), (.c (.int .i64 1)), (.c (.int .i64 1000000000))]⟩,
   ⟨(some 10), none, .pick (.t 6) (.t 9) (.c (.bool false))⟩,
   ⟨(some 11), none, .mv (.t 10)⟩,
   ⟨(some 12), (some (11, true)), .fa 2 (.t 1)⟩,
   ⟨(some 13), (some (11, true)), .ld false 1 (.t 12)⟩,
   ⟨(some 14), (some (11, true)), .lens (.t 13)⟩,
   ⟨(some 15), (some (11, true)), .cl (.c (.fn 33 [])) [(.t 14), (.c (.int .i64 1)), (.c (.int .i64 180))]⟩,
   ⟨(some 16), none, .pick (.t 11) (.t 15) (.c (.bool false))⟩,
   ⟨(some 2), none, .mv (.t 16)⟩])
  .ret))
theorem k_impl_FrameOk : FnOk Tryz.prog 133 17 rc_impl_FrameOk [.t 2] := ⟨Tryz.f133, _, [], Tryz.func133, rfl, rfl, by kernel_rfl, by kernel_rfl, follows⟩
theorem ok_impl_FrameOk : okF Tryz.prog 133 = true := by kernel_rfl
def rc_impl_SumMore : RC :=
  (.seq (.reg [⟨(some 4), none, .mv (.c (.int .u32 0))⟩])
  (.seq (.seq (.reg [⟨(some 7), none, .mv (.t 1)⟩,
   ⟨(some 8), none, .lens (.t 7)⟩,
   ⟨(some 9), none, .mv (.c (.int .i64 0))⟩])
  (.blk 0 (.loop (.seq (.reg [⟨(some 10), none, .bin .lss (.t 9) (.t 8)⟩])
    (.seq (.cond (.t 10)
      .skip
      (.exit 0))
    (.seq (.blk 1 (.seq (.reg [⟨(some 11), none, .mv (.t 9)⟩,
      ⟨(some 5), none, .mv (.t 11)⟩])
     (.seq (.reg [⟨(some 12), none, .mv (.t 0)⟩,
      ⟨(some 13), none, .mv (.t 1)⟩,
      ⟨(some 14), none, .mv (.t 5)⟩,
      ⟨(some 15), none, .idx (.t 13) (.t 14)⟩,
      ⟨(some 16), none, .cvi .u32 (.t 15)⟩,
      ⟨(some 17), none, .bin .xor (.t 12) (.t 16)⟩,
      ⟨(some 0), none, .mv (.t 17)⟩])
     (.seq (.reg [⟨(some 18), none, .mv (.c (.int .i64 0))⟩])
     (.blk 2 (.loop (.seq (.reg [⟨(some 19), none, .bin .lss (.t 18) (.c (.int .i64 8))⟩])
       (.seq (.cond (.t 19)
         .skip
         (.exit 2))
       (.seq (.blk 3 (.seq (.reg [⟨(some 20), none, .mv (.t 0)⟩,
         ⟨(some 21), none, .bin .and (.t 20) (.c (.int .u32 1))⟩,
         ⟨(some 22), none, .bin .eql (.t 21) (.c (.int .u32 1))⟩,
         ⟨(some 6), none, .mv (.t 22)⟩])
        (.seq (.reg [⟨(some 23), none, .mv (.t 0)⟩,
         ⟨(some 24), none, .bin .shr (.t 23) (.c (.int .u64 1))⟩,
         ⟨(some 0), none, .mv (.t 24)⟩])
        (.seq (.reg [⟨(some 25), none, .mv (.t 6)⟩])
        (.cond (.t 25)
          (.reg [⟨(some 26), none, .mv (.t 0)⟩,
           ⟨(some 27), none, .bin .xor (.t 26) (.c (.int .u32 3558460437))⟩,
           ⟨(some 0), none, .mv (.t 27)⟩])
          .skip)))))
       (.reg [⟨(some 28), none, .bin .add (.t 18) (.c (.int .i64 1))⟩,
        ⟨(some 18), none, .mv (.t 28)⟩]))))))))))
    (.reg [⟨(some 29), none, .bin .add (.t 9) (.c (.int .i64 1))⟩,
     ⟨(some 9), none, .mv (.t 29)⟩])))))))
  (.seq (.reg [⟨(some 30), none, .mv (.t 0)⟩,
   ⟨(some 4), none, .mv (.t 30)⟩])
  .ret)))
theorem k_impl_SumMore : FnOk Tryz.prog 212 31 rc_impl_SumMore [.t 4] := ⟨Tryz.f212, _, [], Tryz.func212, rfl, rfl, by kernel_rfl, by kernel_rfl, follows⟩
theorem ok_impl_SumMore : okF Tryz.prog 212 = true := by kernel_rfl
def rc_impl_SumOf : RC :=
  (.seq (.reg [⟨(some 2), none, .mv (.c (.int .u32 0))⟩])
  (.seq (.reg [⟨(some 3), none, .mv (.t 0)⟩,
   ⟨(some 4), none, .cl (.c (.fn 212 [])) [(.c (.int .u32 4294967295)), (.t 3)]⟩,
   ⟨(some 2), none, .mv (.t 4)⟩])
  .ret))
theorem k_impl_SumOf : FnOk Tryz.prog 189 5 rc_impl_SumOf [.t 2] := ⟨Tryz.f189, _, [], Tryz.func189, rfl, rfl, by kernel_rfl, by kernel_rfl, follows⟩
theorem ok_impl_SumOf : okF Tryz.prog 189 = true := by kernel_rfl
def rc_impl_seal : RC :=
  (.seq (.reg [⟨(some 2), none, .mv (.c (.str []))⟩])
  (.seq (.reg [⟨(some 4), none, .mv (.t 0)⟩,
   ⟨(some 5), none, .cl (.c (.fn 189 [])) [(.t 4)]⟩,
   ⟨(some 3), none, .mv (.t 5)⟩])
  (.seq (.reg [⟨(some 6), none, .mv (.t 3)⟩,
   ⟨(some 7), none, .bin .shr (.t 6) (.c (.int .u64 24))⟩,
   ⟨(some 8), none, .cvi .u8 (.t 7)⟩,
   ⟨(some 9), none, .mv (.t 3)⟩,
   ⟨(some 10), none, .bin .shr (.t 9) (.c (.int .u64 16))⟩,
   ⟨(some 11), none, .cvi .u8 (.t 10)⟩,
   ⟨(some 12), none, .mv (.t 3)⟩,
   ⟨(some 13), none, .bin .shr (.t 12) (.c (.int .u64 8))⟩,
   ⟨(some 14), none, .cvi .u8 (.t 13)⟩,
   ⟨(some 15), none, .mv (.t 3)⟩,
   ⟨(some 16), none, .cvi .u8 (.t 15)⟩,
   ⟨(some 17), none, .bs 1 [.int .u8 0] 4 [(0, (.t 8)), (1, (.t 11)), (2, (.t 14)), (3, (.t 16))]⟩,
   ⟨(some 18), none, .cvb (.t 17)⟩,
   ⟨(some 2), none, .mv (.t 18)⟩])
  .ret)))
theorem k_impl_seal : FnOk Tryz.prog 139 19 rc_impl_seal [.t 2] := ⟨Tryz.f139, _, [], Tryz.func139, rfl, rfl, by kernel_rfl, by kernel_rfl, follows⟩
theorem ok_impl_seal : okF Tryz.prog 139 = true := by kernel_rfl
def rc_impl_Sealed : RC :=
  (.seq (.reg [⟨(some 2), none, .mv (.c (.str []))⟩,
   ⟨(some 3), none, .mv (.c (.bool false))⟩])
  (.seq (.seq (.reg [⟨(some 4), none, .mv (.t 0)⟩,
   ⟨(some 5), none, .lens (.t 4)⟩,
   ⟨(some 6), none, .bin .gtr (.t 5) (.c (.int .i64 20000))⟩])
  (.cond (.t 6)
    (.seq (.reg [⟨(some 2), none, .mv (.c (.str []))⟩,
     ⟨(some 3), none, .mv (.c (.bool false))⟩])
    .ret)
    .skip))
  (.seq (.reg [⟨(some 7), none, .mv (.t 0)⟩,
   ⟨(some 8), none, .mv (.t 0)⟩,
   ⟨(some 9), none, .cl (.c (.fn 139 [])) [(.t 8)]⟩,
   ⟨(some 10), none, .bin .add (.t 7) (.t 9)⟩,
   ⟨(some 2), none, .mv (.t 10)⟩,
   ⟨(some 3), none, .mv (.c (.bool true))⟩])
  .ret)))
theorem k_impl_Sealed : FnOk Tryz.prog 134 11 rc_impl_Sealed [.t 2, .t 3] := ⟨Tryz.f134, _, [], Tryz.func134, rfl, rfl, by kernel_rfl, by kernel_rfl, follows⟩
theorem ok_impl_Sealed : okF Tryz.prog 134 = true := by kernel_rfl
def rc_impl_varText : RC :=
  (.seq (.reg [⟨(some 2), none, .mv (.c (.str []))⟩])
  (.seq (.reg [⟨(some 4), none, .mv (.c (.nils))⟩,
   ⟨(some 3), none, .mv (.t 4)⟩])
  (.seq (.blk 0 (.loop (.seq (.seq (.reg [⟨(some 5), none, .mv (.t 0)⟩,
     ⟨(some 6), none, .bin .gtr (.t 5) (.c (.int .i64 127))⟩])
    (.cond (.t 6)
      .skip
      (.exit 0)))
    (.blk 1 (.seq (.reg [⟨(some 7), none, .mv (.t 3)⟩,
      ⟨(some 8), none, .mv (.t 0)⟩,
      ⟨(some 9), none, .bin .and (.t 8) (.c (.int .i64 127))⟩,
      ⟨(some 10), none, .bin .or (.t 9) (.c (.int .i64 128))⟩,
      ⟨(some 11), none, .cvi .u8 (.t 10)⟩,
      ⟨(some 12), none, .bs 1 [.int .u8 0] 1 [(0, (.t 11))]⟩,
      ⟨(some 13), none, .app 1 1 (.t 7) (.t 12)⟩,
      ⟨(some 3), none, .mv (.t 13)⟩])
     (.reg [⟨(some 14), none, .mv (.t 0)⟩,
      ⟨(some 15), none, .bin .shr (.t 14) (.c (.int .u64 7))⟩,
      ⟨(some 0), none, .mv (.t 15)⟩]))))))
  (.seq (.reg [⟨(some 16), none, .mv (.t 3)⟩,
   ⟨(some 17), none, .mv (.t 0)⟩,
   ⟨(some 18), none, .cvi .u8 (.t 17)⟩,
   ⟨(some 19), none, .bs 1 [.int .u8 0] 1 [(0, (.t 18))]⟩,
   ⟨(some 20), none, .app 1 1 (.t 16) (.t 19)⟩,
   ⟨(some 21), none, .cvb (.t 20)⟩,
   ⟨(some 2), none, .mv (.t 21)⟩])
  .ret))))
theorem k_impl_varText : FnOk Tryz.prog 135 22 rc_impl_varText [.t 2] := ⟨Tryz.f135, _, [], Tryz.func135, rfl, rfl, by kernel_rfl, by kernel_rfl, follows⟩
theorem ok_impl_varText : okF Tryz.prog 135 = true := by kernel_rfl
def rc_impl_FrameText : RC :=
  (.seq (.reg [⟨(some 1), none, .bx (.t 0)⟩,
   ⟨(some 2), none, .mv (.c (.str []))⟩,
   ⟨(some 3), none, .mv (.c (.bool false))⟩])
  (.seq (.seq (.reg [⟨(some 4), none, .ld true 3 (.t 1)⟩,
   ⟨(some 5), none, .cl (.c (.fn 133 [])) [(.t 4)]⟩,
   ⟨(some 6), none, .un .not (.t 5)⟩])
  (.cond (.t 6)
    (.seq (.reg [⟨(some 2), none, .mv (.c (.str []))⟩,
     ⟨(some 3), none, .mv (.c (.bool false))⟩])
    .ret)
    .skip))
  (.seq (.drw [⟨(some 7), none, .fa 0 (.t 1)⟩,
   ⟨(some 8), none, .ld false 1 (.t 7)⟩,
   ⟨(some 9), none, .cl (.c (.fn 135 [])) [(.t 8)]⟩,
   ⟨(some 10), none, .fa 1 (.t 1)⟩,
   ⟨(some 11), none, .ld false 1 (.t 10)⟩,
   ⟨(some 12), none, .cl (.c (.fn 135 [])) [(.t 11)]⟩,
   ⟨(some 13), none, .bin .add (.t 9) (.t 12)⟩,
   ⟨(some 14), none, .fa 2 (.t 1)⟩,
   ⟨(some 15), none, .ld false 1 (.t 14)⟩,
   ⟨(some 16), none, .lens (.t 15)⟩,
   ⟨(some 17), none, .cl (.c (.fn 135 [])) [(.t 16)]⟩,
   ⟨(some 18), none, .bin .add (.t 13) (.t 17)⟩,
   ⟨(some 19), none, .fa 2 (.t 1)⟩,
   ⟨(some 20), none, .ld false 1 (.t 19)⟩,
   ⟨(some 21), none, .bin .add (.t 18) (.t 20)⟩,
   ⟨(some 22), none, .cl (.c (.fn 134 [])) [(.t 21)]⟩,
   ⟨(some 23), none, .ext (.t 22) 0⟩,
   ⟨(some 24), none, .ext (.t 22) 1⟩,
   ⟨(some 2), none, .mv (.t 23)⟩,
   ⟨(some 3), none, .mv (.t 24)⟩] [.val [], .val [], .val [], .val [], .val [], .val [], .val [], .val [], .val [], .val [], .val [], .val [], .val [], .val [], .val [], .val [], .val [], .val [], .val [], .val []])
  .ret)))
theorem k_impl_FrameText : FnOk Tryz.prog 73 25 rc_impl_FrameText [.t 2, .t 3] := ⟨Tryz.f73, _, [], Tryz.func73, rfl, rfl, by kernel_rfl, by kernel_rfl, follows⟩
theorem ok_impl_FrameText : okF Tryz.prog 73 = true := by kernel_rfl
def rc_impl_SegFirst : RC :=
  (.seq (.reg [⟨(some 2), none, .mv (.c (.int .i64 0))⟩])
  (.seq (.seq (.reg [⟨(some 3), none, .mv (.t 0)⟩,
   ⟨(some 4), none, .cl (.c (.fn 33 [])) [(.t 3), (.c (.int .i64 0)), (.c (.int .i64 10))]⟩,
   ⟨(some 5), none, .un .not (.t 4)⟩])
  (.cond (.t 5)
    (.seq (.reg [⟨(some 2), none, .mv (.c (.int .i64 0))⟩])
    .ret)
    .skip))
  (.seq (.reg [⟨(some 6), none, .mv (.t 0)⟩,
   ⟨(some 7), none, .bin .mul (.t 6) (.c (.int .i64 8))⟩,
   ⟨(some 8), none, .bin .add (.c (.int .i64 8)) (.t 7)⟩,
   ⟨(some 2), none, .mv (.t 8)⟩])
  .ret)))
theorem k_impl_SegFirst : FnOk Tryz.prog 136 9 rc_impl_SegFirst [.t 2] := ⟨Tryz.f136, _, [], Tryz.func136, rfl, rfl, by kernel_rfl, by kernel_rfl, follows⟩
theorem ok_impl_SegFirst : okF Tryz.prog 136 = true := by kernel_rfl
def rc_slices_Clone_string : RC :=
  (.seq (.reg [⟨(some 2), none, .mv (.c (.nils))⟩])
  (.seq (.seq (.reg [⟨(some 3), none, .mv (.t 0)⟩,
   ⟨(some 4), none, .isn false (.t 3)⟩])
  (.cond (.t 4)
    (.seq (.reg [⟨(some 2), none, .mv (.c (.nils))⟩])
    .ret)
    .skip))
  (.seq (.reg [⟨(some 5), none, .mv (.c (.nils))⟩,
   ⟨(some 6), none, .mv (.t 0)⟩,
   ⟨(some 7), none, .app 1 16 (.t 5) (.t 6)⟩,
   ⟨(some 2), none, .mv (.t 7)⟩])
  .ret)))
theorem k_slices_Clone_string : FnOk Tryz.prog 144 8 rc_slices_Clone_string [.t 2] := ⟨Tryz.f144, _, [], Tryz.func144, rfl, rfl, by kernel_rfl, by kernel_rfl, follows⟩
theorem ok_slices_Clone_string : okF Tryz.prog 144 = true := by kernel_rfl
def rc_slices_Clone_Write : RC :=
  (.seq (.reg [⟨(some 2), none, .mv (.c (.nils))⟩])
  (.seq (.seq (.reg [⟨(some 3), none, .mv (.t 0)⟩,
   ⟨(some 4), none, .isn false (.t 3)⟩])
  (.cond (.t 4)
    (.seq (.reg [⟨(some 2), none, .mv (.c (.nils))⟩])
    .ret)
    .skip))
  (.seq (.reg [⟨(some 5), none, .mv (.c (.nils))⟩,
   ⟨(some 6), none, .mv (.t 0)⟩,
   ⟨(some 7), none, .app 2 24 (.t 5) (.t 6)⟩,
   ⟨(some 2), none, .mv (.t 7)⟩])
  .ret)))
theorem k_slices_Clone_Write : FnOk Tryz.prog 145 8 rc_slices_Clone_Write [.t 2] := ⟨Tryz.f145, _, [], Tryz.func145, rfl, rfl, by kernel_rfl, by kernel_rfl, follows⟩
theorem ok_slices_Clone_Write : okF Tryz.prog 145 = true := by kernel_rfl
def rc_impl_cloneDisk : RC :=
  (.seq (.reg [⟨(some 1), none, .bx (.t 0)⟩,
   ⟨(some 2), none, .al [.nils, .nils]⟩])
  (.seq (.drw [⟨(some 3), none, .fa 0 (.t 1)⟩,
   ⟨(some 4), none, .ld false 1 (.t 3)⟩,
   ⟨(some 5), none, .cl (.c (.fn 144 [])) [(.t 4)]⟩,
   ⟨(some 6), none, .fa 1 (.t 1)⟩,
   ⟨(some 7), none, .ld false 1 (.t 6)⟩,
   ⟨(some 8), none, .cl (.c (.fn 145 [])) [(.t 7)]⟩,
   ⟨(some 9), none, .bld [.nils, .nils] [(0, 1), (1, 1)] [(0, (.t 5)), (1, (.t 8))]⟩,
   ⟨none, none, .st 2 (.t 2) (.t 9)⟩] [.val [], .val [], .chn [], .val [2], .val [2], .chn [], .val [], .chn []])
  .ret))
theorem k_impl_cloneDisk : FnOk Tryz.prog 79 10 rc_impl_cloneDisk [.cell 2 true 2] := ⟨Tryz.f79, _, [(1, [2, 5])], Tryz.func79, rfl, rfl, by kernel_rfl, by kernel_rfl, follows⟩
theorem ok_impl_cloneDisk : okF Tryz.prog 79 = true := by kernel_rfl
def rc_impl_ReadSector : RC :=
  (.seq (.reg [⟨(some 2), none, .bx (.t 0)⟩,
   ⟨(some 4), none, .mv (.c (.str []))⟩,
   ⟨(some 5), none, .mv (.c (.bool false))⟩])
  (.seq (.seq (.reg [⟨(some 9), none, .mv (.t 1)⟩,
   ⟨(some 10), none, .fa 0 (.t 2)⟩,
   ⟨(some 11), none, .ld false 1 (.t 10)⟩,
   ⟨(some 12), none, .lenl (.t 11)⟩,
   ⟨(some 13), none, .bin .sub (.t 12) (.c (.int .i64 1))⟩,
   ⟨(some 14), none, .cl (.c (.fn 33 [])) [(.t 9), (.c (.int .i64 0)), (.t 13)]⟩,
   ⟨(some 15), none, .un .not (.t 14)⟩])
  (.cond (.t 15)
    (.seq (.reg [⟨(some 4), none, .mv (.c (.str []))⟩,
     ⟨(some 5), none, .mv (.c (.bool false))⟩])
    .ret)
    .skip))
  (.seq (.reg [⟨(some 16), none, .fa 0 (.t 2)⟩,
   ⟨(some 17), none, .ld false 1 (.t 16)⟩,
   ⟨(some 18), none, .mv (.t 1)⟩,
   ⟨(some 19), none, .ia 1 (.t 17) (.t 18)⟩,
   ⟨(some 20), none, .ld false 1 (.t 19)⟩,
   ⟨(some 6), none, .mv (.t 20)⟩])
  (.seq (.seq (.reg [⟨(some 21), none, .fa 1 (.t 2)⟩,
   ⟨(some 22), none, .ld false 1 (.t 21)⟩,
   ⟨(some 23), none, .lenl (.t 22)⟩,
   ⟨(some 24), none, .mv (.c (.int .i64 0))⟩])
  (.blk 0 (.loop (.seq (.reg [⟨(some 25), none, .bin .lss (.t 24) (.t 23)⟩])
    (.seq (.cond (.t 25)
      .skip
      (.exit 0))
    (.seq (.blk 1 (.seq (.reg [⟨(some 26), none, .ia 2 (.t 22) (.t 24)⟩,
      ⟨(some 27), none, .ld true 2 (.t 26)⟩,
      ⟨(some 8), none, .al [.int .i64 0, .str []]⟩,
      ⟨none, none, .st 2 (.t 8) (.t 27)⟩])
     (.seq (.reg [⟨(some 28), none, .fa 0 (.t 8)⟩,
      ⟨(some 29), none, .ld false 1 (.t 28)⟩,
      ⟨(some 30), none, .mv (.t 1)⟩,
      ⟨(some 31), none, .bin .eql (.t 29) (.t 30)⟩])
     (.cond (.t 31)
       (.reg [⟨(some 32), none, .fa 1 (.t 8)⟩,
        ⟨(some 33), none, .ld false 1 (.t 32)⟩,
        ⟨(some 6), none, .mv (.t 33)⟩])
       .skip))))
    (.reg [⟨(some 34), none, .bin .add (.t 24) (.c (.int .i64 1))⟩,
     ⟨(some 24), none, .mv (.t 34)⟩])))))))
  (.seq (.reg [⟨(some 35), none, .mv (.t 6)⟩,
   ⟨(some 4), none, .mv (.t 35)⟩,
   ⟨(some 5), none, .mv (.c (.bool true))⟩])
  .ret)))))
theorem k_impl_ReadSector : FnOk Tryz.prog 146 36 rc_impl_ReadSector [.t 4, .t 5] := ⟨Tryz.f146, _, [], Tryz.func146, rfl, rfl, by kernel_rfl, by kernel_rfl, follows⟩
theorem ok_impl_ReadSector : okF Tryz.prog 146 = true := by kernel_rfl
def rc_impl_DiskOk_1 : RC :=
  (.seq (.reg [⟨(some 2), none, .mv (.c (.bool false))⟩])
  (.seq (.reg [⟨(some 3), none, .mv (.t 0)⟩,
   ⟨(some 4), none, .lens (.t 3)⟩,
   ⟨(some 5), none, .bin .neq (.t 4) (.c (.int .i64 32))⟩,
   ⟨(some 2), none, .mv (.t 5)⟩])
  .ret))
theorem k_impl_DiskOk_1 : FnOk Tryz.prog 141 6 rc_impl_DiskOk_1 [.t 2] := ⟨Tryz.f141, _, [], Tryz.func141, rfl, rfl, by kernel_rfl, by kernel_rfl, follows⟩
theorem ok_impl_DiskOk_1 : okF Tryz.prog 141 = true := by kernel_rfl
def rc_slices_IndexFunc_string : RC :=
  (.seq (.reg [⟨(some 4), none, .mv (.c (.int .i64 0))⟩])
  (.seq (.seq (.reg [⟨(some 6), none, .mv (.t 0)⟩,
   ⟨(some 7), none, .lenl (.t 6)⟩,
   ⟨(some 8), none, .mv (.c (.int .i64 0))⟩])
  (.blk 0 (.loop (.seq (.reg [⟨(some 9), none, .bin .lss (.t 8) (.t 7)⟩])
    (.seq (.cond (.t 9)
      .skip
      (.exit 0))
    (.seq (.blk 1 (.seq (.reg [⟨(some 10), none, .mv (.t 8)⟩,
      ⟨(some 5), none, .mv (.t 10)⟩])
     (.seq (.reg [⟨(some 11), none, .mv (.t 1)⟩,
      ⟨(some 12), none, .mv (.t 0)⟩,
      ⟨(some 13), none, .mv (.t 5)⟩,
      ⟨(some 14), none, .ia 1 (.t 12) (.t 13)⟩,
      ⟨(some 15), none, .ld false 1 (.t 14)⟩,
      ⟨(some 16), none, .cl (.t 11) [(.t 15)]⟩])
     (.cond (.t 16)
       (.seq (.reg [⟨(some 17), none, .mv (.t 5)⟩,
        ⟨(some 4), none, .mv (.t 17)⟩])
       .ret)
       .skip))))
    (.reg [⟨(some 18), none, .bin .add (.t 8) (.c (.int .i64 1))⟩,
     ⟨(some 8), none, .mv (.t 18)⟩])))))))
  (.seq (.reg [⟨(some 4), none, .mv (.c (.int .i64 (-1)))⟩])
  .ret)))
theorem k_slices_IndexFunc_string : FnOk Tryz.prog 190 19 rc_slices_IndexFunc_string [.t 4] := ⟨Tryz.f190, _, [], Tryz.func190, rfl, rfl, by kernel_rfl, by kernel_rfl, follows⟩
theorem ok_slices_IndexFunc_string : okF Tryz.prog 190 = true := by kernel_rfl
def rc_slices_ContainsFunc_string : RC :=
  (.seq (.reg [⟨(some 4), none, .mv (.c (.bool false))⟩])
  (.seq (.reg [⟨(some 5), none, .mv (.t 0)⟩,
   ⟨(some 6), none, .mv (.t 1)⟩,
   ⟨(some 7), none, .cl (.c (.fn 190 [])) [(.t 5), (.t 6)]⟩,
   ⟨(some 8), none, .bin .geq (.t 7) (.c (.int .i64 0))⟩,
   ⟨(some 4), none, .mv (.t 8)⟩])
  .ret))
theorem k_slices_ContainsFunc_string : FnOk Tryz.prog 140 9 rc_slices_ContainsFunc_string [.t 4] := ⟨Tryz.f140, _, [], Tryz.func140, rfl, rfl, by kernel_rfl, by kernel_rfl, follows⟩
theorem ok_slices_ContainsFunc_string : okF Tryz.prog 140 = true := by kernel_rfl
def rc_impl_DiskOk_2 : RC :=
  (.seq (.reg [⟨(some 2), none, .bx (.t 0)⟩,
   ⟨(some 3), none, .mv (.c (.bool false))⟩])
  (.seq (.reg [⟨(some 4), none, .fa 0 (.t 2)⟩,
   ⟨(some 5), none, .ld false 1 (.t 4)⟩,
   ⟨(some 6), none, .fa 0 (.t 1)⟩,
   ⟨(some 7), none, .ld false 1 (.t 6)⟩,
   ⟨(some 8), none, .lenl (.t 7)⟩,
   ⟨(some 9), none, .bin .sub (.t 8) (.c (.int .i64 1))⟩,
   ⟨(some 10), none, .cl (.c (.fn 33 [])) [(.t 5), (.c (.int .i64 0)), (.t 9)]⟩,
   ⟨(some 11), none, .un .not (.t 10)⟩,
   ⟨(some 12), none, .mv (.t 11)⟩,
   ⟨(some 13), (some (12, false)), .fa 1 (.t 2)⟩,
   ⟨(some 14), (some (12, false)), .ld false 1 (.t 13)⟩,
   ⟨(some 15), (some (12, false)), .lens (.t 14)⟩,
   ⟨(some 16), (some (12, false)), .bin .neq (.t 15) (.c (.int .i64 32))⟩,
   ⟨(some 17), none, .pick (.t 12) (.c (.bool true)) (.t 16)⟩,
   ⟨(some 3), none, .mv (.t 17)⟩])
  .ret))
theorem k_impl_DiskOk_2 : FnOk Tryz.prog 143 18 rc_impl_DiskOk_2 [.t 3] := ⟨Tryz.f143, _, [], Tryz.func143, rfl, rfl, by kernel_rfl, by kernel_rfl, follows⟩
theorem ok_impl_DiskOk_2 : okF Tryz.prog 143 = true := by kernel_rfl
def rc_slices_IndexFunc_Write : RC :=
  (.seq (.reg [⟨(some 4), none, .mv (.c (.int .i64 0))⟩])
  (.seq (.seq (.reg [⟨(some 6), none, .mv (.t 0)⟩,
   ⟨(some 7), none, .lenl (.t 6)⟩,
   ⟨(some 8), none, .mv (.c (.int .i64 0))⟩])
  (.blk 0 (.loop (.seq (.reg [⟨(some 9), none, .bin .lss (.t 8) (.t 7)⟩])
    (.seq (.cond (.t 9)
      .skip
      (.exit 0))
    (.seq (.blk 1 (.seq (.reg [⟨(some 10), none, .mv (.t 8)⟩,
      ⟨(some 5), none, .mv (.t 10)⟩])
     (.seq (.reg [⟨(some 11), none, .mv (.t 1)⟩,
      ⟨(some 12), none, .mv (.t 0)⟩,
      ⟨(some 13), none, .mv (.t 5)⟩,
      ⟨(some 14), none, .ia 2 (.t 12) (.t 13)⟩,
      ⟨(some 15), none, .ld true 2 (.t 14)⟩,
      ⟨(some 16), none, .cl (.t 11) [(.t 15)]⟩])
     (.cond (.t 16)
       (.seq (.reg [⟨(some 17), none, .mv (.t 5)⟩,
        ⟨(some 4), none, .mv (.t 17)⟩])
       .ret)
       .skip))))
    (.reg [⟨(some 18), none, .bin .add (.t 8) (.c (.int .i64 1))⟩,
     ⟨(some 8), none, .mv (.t 18)⟩])))))))
  (.seq (.reg [⟨(some 4), none, .mv (.c (.int .i64 (-1)))⟩])
  .ret)))
theorem k_slices_IndexFunc_Write : FnOk Tryz.prog 191 19 rc_slices_IndexFunc_Write [.t 4] := ⟨Tryz.f191, _, [], Tryz.func191, rfl, rfl, by kernel_rfl, by kernel_rfl, follows⟩
theorem ok_slices_IndexFunc_Write : okF Tryz.prog 191 = true := by kernel_rfl
def rc_slices_ContainsFunc_Write : RC :=
  (.seq (.reg [⟨(some 4), none, .mv (.c (.bool false))⟩])
  (.seq (.reg [⟨(some 5), none, .mv (.t 0)⟩,
   ⟨(some 6), none, .mv (.t 1)⟩,
   ⟨(some 7), none, .cl (.c (.fn 191 [])) [(.t 5), (.t 6)]⟩,
   ⟨(some 8), none, .bin .geq (.t 7) (.c (.int .i64 0))⟩,
   ⟨(some 4), none, .mv (.t 8)⟩])
  .ret))
theorem k_slices_ContainsFunc_Write : FnOk Tryz.prog 142 9 rc_slices_ContainsFunc_Write [.t 4] := ⟨Tryz.f142, _, [], Tryz.func142, rfl, rfl, by kernel_rfl, by kernel_rfl, follows⟩
theorem ok_slices_ContainsFunc_Write : okF Tryz.prog 142 = true := by kernel_rfl
def rc_impl_DiskOk : RC :=
  (.seq (.reg [⟨(some 1), none, .bx (.t 0)⟩,
   ⟨(some 2), none, .mv (.c (.bool false))⟩])
  (.seq (.seq (.reg [⟨(some 3), none, .fa 0 (.t 1)⟩,
   ⟨(some 4), none, .ld false 1 (.t 3)⟩,
   ⟨(some 5), none, .lenl (.t 4)⟩,
   ⟨(some 6), none, .cl (.c (.fn 33 [])) [(.t 5), (.c (.int .i64 1)), (.c (.int .i64 100))]⟩,
   ⟨(some 7), none, .un .not (.t 6)⟩,
   ⟨(some 8), none, .mv (.t 7)⟩,
   ⟨(some 9), (some (8, false)), .fa 1 (.t 1)⟩,
   ⟨(some 10), (some (8, false)), .ld false 1 (.t 9)⟩,
   ⟨(some 11), (some (8, false)), .lenl (.t 10)⟩,
   ⟨(some 12), (some (8, false)), .bin .gtr (.t 11) (.c (.int .i64 60))⟩,
   ⟨(some 13), none, .pick (.t 8) (.c (.bool true)) (.t 12)⟩])
  (.cond (.t 13)
    (.seq (.reg [⟨(some 2), none, .mv (.c (.bool false))⟩])
    .ret)
    .skip))
  (.seq (.seq (.reg [⟨(some 14), none, .fa 0 (.t 1)⟩,
   ⟨(some 15), none, .ld false 1 (.t 14)⟩,
   ⟨(some 16), none, .cl (.c (.fn 140 [])) [(.t 15), (.c (.fn 141 []))]⟩])
  (.cond (.t 16)
    (.seq (.reg [⟨(some 2), none, .mv (.c (.bool false))⟩])
    .ret)
    .skip))
  (.seq (.reg [⟨(some 17), none, .fa 1 (.t 1)⟩,
   ⟨(some 18), none, .ld false 1 (.t 17)⟩,
   ⟨(some 19), none, .mkf 143 [(.t 1)]⟩,
   ⟨(some 20), none, .cl (.c (.fn 142 [])) [(.t 18), (.t 19)]⟩,
   ⟨(some 21), none, .un .not (.t 20)⟩,
   ⟨(some 2), none, .mv (.t 21)⟩])
  .ret))))
theorem k_impl_DiskOk : FnOk Tryz.prog 78 22 rc_impl_DiskOk [.t 2] := ⟨Tryz.f78, _, [], Tryz.func78, rfl, rfl, by kernel_rfl, by kernel_rfl, follows⟩
theorem ok_impl_DiskOk : okF Tryz.prog 78 = true := by kernel_rfl
def rc_impl_WriteSector : RC :=
  (.seq (.reg [⟨(some 3), none, .bx (.t 0)⟩,
   ⟨(some 6), none, .al [.nils, .nils]⟩,
   ⟨(some 7), none, .mv (.c (.bool false))⟩])
  (.seq (.reg [⟨(some 9), none, .ld true 2 (.t 3)⟩,
   ⟨(some 10), none, .cl (.c (.fn 79 [])) [(.t 9)]⟩,
   ⟨(some 8), none, .al [.nils, .nils]⟩,
   ⟨none, none, .st 2 (.t 8) (.t 10)⟩])
  (.seq (.reg [⟨(some 11), none, .fa 1 (.t 8)⟩,
   ⟨(some 12), none, .ld false 1 (.t 11)⟩,
   ⟨(some 13), none, .mv (.t 1)⟩,
   ⟨(some 14), none, .mv (.t 2)⟩,
   ⟨(some 15), none, .bld [.int .i64 0, .str []] [(0, 1), (1, 1)] [(0, (.t 13)), (1, (.t 14))]⟩,
   ⟨(some 16), none, .bs 2 [.int .i64 0, .str []] 1 [(0, (.t 15))]⟩,
   ⟨(some 17), none, .app 2 24 (.t 12) (.t 16)⟩,
   ⟨(some 18), none, .fa 1 (.t 8)⟩,
   ⟨none, none, .st 1 (.t 18) (.t 17)⟩])
  (.seq (.seq (.reg [⟨(some 19), none, .ld true 2 (.t 3)⟩,
   ⟨(some 20), none, .cl (.c (.fn 78 [])) [(.t 19)]⟩,
   ⟨(some 21), none, .un .not (.t 20)⟩,
   ⟨(some 22), none, .mv (.t 21)⟩,
   ⟨(some 23), (some (22, false)), .ld true 2 (.t 8)⟩,
   ⟨(some 24), (some (22, false)), .cl (.c (.fn 78 [])) [(.t 23)]⟩,
   ⟨(some 25), (some (22, false)), .un .not (.t 24)⟩,
   ⟨(some 26), none, .pick (.t 22) (.c (.bool true)) (.t 25)⟩])
  (.cond (.t 26)
    (.seq (.reg [⟨(some 27), none, .ld true 2 (.t 3)⟩,
     ⟨(some 28), none, .cl (.c (.fn 79 [])) [(.t 27)]⟩,
     ⟨none, none, .st 2 (.t 6) (.t 28)⟩,
     ⟨(some 7), none, .mv (.c (.bool false))⟩])
    .ret)
    .skip))
  (.seq (.reg [⟨(some 29), none, .ld true 2 (.t 8)⟩,
   ⟨none, none, .st 2 (.t 6) (.t 29)⟩,
   ⟨(some 7), none, .mv (.c (.bool true))⟩])
  .ret)))))
theorem k_impl_WriteSector : FnOk Tryz.prog 147 30 rc_impl_WriteSector [.cell 6 true 2, .t 7] := ⟨Tryz.f147, _, [], Tryz.func147, rfl, rfl, by kernel_rfl, by kernel_rfl, follows⟩
theorem ok_impl_WriteSector : okF Tryz.prog 147 = true := by kernel_rfl
def rc_impl_WriteBytes : RC :=
  (.seq (.reg [⟨(some 4), none, .bx (.t 0)⟩,
   ⟨(some 8), none, .al [.nils, .nils]⟩,
   ⟨(some 9), none, .mv (.c (.bool false))⟩])
  (.seq (.reg [⟨(some 17), none, .ld true 2 (.t 4)⟩,
   ⟨(some 18), none, .cl (.c (.fn 79 [])) [(.t 17)]⟩,
   ⟨(some 10), none, .al [.nils, .nils]⟩,
   ⟨none, none, .st 2 (.t 10) (.t 18)⟩])
  (.seq (.seq (.reg [⟨(some 19), none, .mv (.t 2)⟩,
   ⟨(some 20), none, .cl (.c (.fn 33 [])) [(.t 19), (.c (.int .i64 0)), (.c (.int .i64 3200))]⟩,
   ⟨(some 21), none, .un .not (.t 20)⟩,
   ⟨(some 22), none, .mv (.t 21)⟩,
   ⟨(some 23), (some (22, false)), .mv (.t 1)⟩,
   ⟨(some 24), (some (22, false)), .fa 0 (.t 4)⟩,
   ⟨(some 25), (some (22, false)), .ld false 1 (.t 24)⟩,
   ⟨(some 26), (some (22, false)), .lenl (.t 25)⟩,
   ⟨(some 27), (some (22, false)), .bin .sub (.t 26) (.c (.int .i64 1))⟩,
   ⟨(some 28), (some (22, false)), .cl (.c (.fn 33 [])) [(.t 23), (.c (.int .i64 0)), (.t 27)]⟩,
   ⟨(some 29), (some (22, false)), .un .not (.t 28)⟩,
   ⟨(some 30), none, .pick (.t 22) (.c (.bool true)) (.t 29)⟩])
  (.cond (.t 30)
    (.seq (.reg [⟨(some 31), none, .ld true 2 (.t 10)⟩,
     ⟨none, none, .st 2 (.t 8) (.t 31)⟩,
     ⟨(some 9), none, .mv (.c (.bool false))⟩])
    .ret)
    .skip))
  (.seq (.reg [⟨(some 32), none, .ld true 2 (.t 4)⟩,
   ⟨(some 33), none, .cl (.c (.fn 79 [])) [(.t 32)]⟩,
   ⟨(some 11), none, .al [.nils, .nils]⟩,
   ⟨none, none, .st 2 (.t 11) (.t 33)⟩])
  (.seq (.blk 0 (.loop (.seq (.seq (.reg [⟨(some 34), none, .mv (.t 3)⟩,
     ⟨(some 35), none, .bin .neq (.t 34) (.c (.str []))⟩])
    (.cond (.t 35)
      .skip
      (.exit 0)))
    (.blk 1 (.seq (.reg [⟨(some 36), none, .mv (.t 1)⟩,
      ⟨(some 37), none, .mv (.t 2)⟩,
      ⟨(some 38), none, .bin .quo (.t 37) (.c (.int .i64 32))⟩,
      ⟨(some 39), none, .bin .add (.t 36) (.t 38)⟩,
      ⟨(some 12), none, .mv (.t 39)⟩])
     (.seq (.reg [⟨(some 40), none, .mv (.t 2)⟩,
      ⟨(some 41), none, .bin .rem (.t 40) (.c (.int .i64 32))⟩,
      ⟨(some 13), none, .mv (.t 41)⟩])
     (.seq (.reg [⟨(some 43), none, .ld true 2 (.t 11)⟩,
      ⟨(some 44), none, .mv (.t 12)⟩,
      ⟨(some 45), none, .cl (.c (.fn 146 [])) [(.t 43), (.t 44)]⟩,
      ⟨(some 42), none, .mv (.t 45)⟩,
      ⟨(some 46), none, .ext (.t 42) 0⟩,
      ⟨(some 47), none, .ext (.t 42) 1⟩,
      ⟨(some 14), none, .mv (.t 46)⟩,
      ⟨(some 15), none, .mv (.t 47)⟩])
     (.seq (.seq (.reg [⟨(some 48), none, .mv (.t 15)⟩,
      ⟨(some 49), none, .un .not (.t 48)⟩,
      ⟨(some 50), none, .mv (.t 49)⟩,
      ⟨(some 51), (some (50, false)), .mv (.t 14)⟩,
      ⟨(some 52), (some (50, false)), .lens (.t 51)⟩,
      ⟨(some 53), (some (50, false)), .bin .neq (.t 52) (.c (.int .i64 32))⟩,
      ⟨(some 54), none, .pick (.t 50) (.c (.bool true)) (.t 53)⟩])
     (.cond (.t 54)
       (.seq (.reg [⟨(some 55), none, .ld true 2 (.t 10)⟩,
        ⟨none, none, .st 2 (.t 8) (.t 55)⟩,
        ⟨(some 9), none, .mv (.c (.bool false))⟩])
       .ret)
       .skip))
     (.seq (.reg [⟨(some 56), none, .mv (.t 3)⟩,
      ⟨(some 57), none, .lens (.t 56)⟩,
      ⟨(some 58), none, .mv (.t 13)⟩,
      ⟨(some 59), none, .bin .sub (.c (.int .i64 32)) (.t 58)⟩,
      ⟨(some 60), none, .mn (.t 57) (.t 59)⟩,
      ⟨(some 16), none, .mv (.t 60)⟩])
     (.seq (.drw [⟨(some 62), none, .ld true 2 (.t 11)⟩,
      ⟨(some 63), none, .mv (.t 12)⟩,
      ⟨(some 64), none, .mv (.t 14)⟩,
      ⟨(some 65), none, .mv (.t 13)⟩,
      ⟨(some 66), none, .sls (.t 64) none (some (.t 65))⟩,
      ⟨(some 67), none, .mv (.t 3)⟩,
      ⟨(some 68), none, .mv (.t 16)⟩,
      ⟨(some 69), none, .sls (.t 67) none (some (.t 68))⟩,
      ⟨(some 70), none, .bin .add (.t 66) (.t 69)⟩,
      ⟨(some 71), none, .mv (.t 14)⟩,
      ⟨(some 72), none, .mv (.t 13)⟩,
      ⟨(some 73), none, .mv (.t 16)⟩,
      ⟨(some 74), none, .bin .add (.t 72) (.t 73)⟩,
      ⟨(some 75), none, .sls (.t 71) (some (.t 74)) none⟩,
      ⟨(some 76), none, .bin .add (.t 70) (.t 75)⟩,
      ⟨(some 77), none, .cl (.c (.fn 147 [])) [(.t 62), (.t 63), (.t 76)]⟩,
      ⟨(some 61), none, .mv (.t 77)⟩,
      ⟨(some 78), none, .ext (.t 61) 0⟩,
      ⟨(some 79), none, .ext (.t 61) 1⟩,
      ⟨none, none, .st 2 (.t 11) (.t 78)⟩,
      ⟨(some 15), none, .mv (.t 79)⟩] [.val [], .val [], .val [], .val [], .val [], .val [], .val [], .val [], .val [], .val [], .val [], .val [], .val [], .val [], .val [], .chn [], .val [], .val [], .val [], .chn [18], .val []])
     (.seq (.seq (.reg [⟨(some 80), none, .mv (.t 15)⟩,
      ⟨(some 81), none, .un .not (.t 80)⟩])
     (.cond (.t 81)
       (.seq (.reg [⟨(some 82), none, .ld true 2 (.t 10)⟩,
        ⟨none, none, .st 2 (.t 8) (.t 82)⟩,
        ⟨(some 9), none, .mv (.c (.bool false))⟩])
       .ret)
       .skip))
     (.seq (.reg [⟨(some 83), none, .mv (.t 3)⟩,
      ⟨(some 84), none, .mv (.t 16)⟩,
      ⟨(some 85), none, .sls (.t 83) (some (.t 84)) none⟩,
      ⟨(some 3), none, .mv (.t 85)⟩])
     (.reg [⟨(some 86), none, .mv (.t 2)⟩,
      ⟨(some 87), none, .mv (.t 16)⟩,
      ⟨(some 88), none, .bin .add (.t 86) (.t 87)⟩,
      ⟨(some 2), none, .mv (.t 88)⟩])))))))))))))
  (.seq (.reg [⟨(some 89), none, .ld true 2 (.t 11)⟩,
   ⟨none, none, .st 2 (.t 8) (.t 89)⟩,
   ⟨(some 9), none, .mv (.c (.bool true))⟩])
  .ret))))))
theorem k_impl_WriteBytes : FnOk Tryz.prog 80 90 rc_impl_WriteBytes [.cell 8 true 2, .t 9] := ⟨Tryz.f80, _, [(12, [15])], Tryz.func80, rfl, rfl, by kernel_rfl, by kernel_rfl, follows⟩
theorem ok_impl_WriteBytes : okF Tryz.prog 80 = true := by kernel_rfl
def rc_impl_SegWrite : RC :=
  (.seq (.reg [⟨(some 4), none, .bx (.t 0)⟩,
   ⟨(some 8), none, .al [.nils, .nils]⟩,
   ⟨(some 9), none, .mv (.c (.bool false))⟩])
  (.seq (.seq (.reg [⟨(some 10), none, .mv (.t 1)⟩,
   ⟨(some 11), none, .cl (.c (.fn 33 [])) [(.t 10), (.c (.int .i64 0)), (.c (.int .i64 10))]⟩,
   ⟨(some 12), none, .un .not (.t 11)⟩,
   ⟨(some 13), none, .mv (.t 12)⟩,
   ⟨(some 14), (some (13, false)), .mv (.t 2)⟩,
   ⟨(some 15), (some (13, false)), .cl (.c (.fn 33 [])) [(.t 14), (.c (.int .i64 0)), (.c (.int .i64 256))]⟩,
   ⟨(some 16), (some (13, false)), .un .not (.t 15)⟩,
   ⟨(some 17), none, .pick (.t 13) (.c (.bool true)) (.t 16)⟩,
   ⟨(some 18), none, .mv (.t 17)⟩,
   ⟨(some 19), (some (18, false)), .mv (.t 3)⟩,
   ⟨(some 20), (some (18, false)), .lens (.t 19)⟩,
   ⟨(some 21), (some (18, false)), .mv (.t 2)⟩,
   ⟨(some 22), (some (18, false)), .bin .sub (.c (.int .i64 256)) (.t 21)⟩,
   ⟨(some 23), (some (18, false)), .bin .gtr (.t 20) (.t 22)⟩,
   ⟨(some 24), none, .pick (.t 18) (.c (.bool true)) (.t 23)⟩])
  (.cond (.t 24)
    (.seq (.reg [⟨(some 25), none, .ld true 2 (.t 4)⟩,
     ⟨(some 26), none, .cl (.c (.fn 79 [])) [(.t 25)]⟩,
     ⟨none, none, .st 2 (.t 8) (.t 26)⟩,
     ⟨(some 9), none, .mv (.c (.bool false))⟩])
    .ret)
    .skip))
  (.seq (.drw [⟨(some 27), none, .ld true 2 (.t 4)⟩,
   ⟨(some 28), none, .mv (.t 1)⟩,
   ⟨(some 29), none, .cl (.c (.fn 136 [])) [(.t 28)]⟩,
   ⟨(some 30), none, .mv (.t 2)⟩,
   ⟨(some 31), none, .mv (.t 3)⟩,
   ⟨(some 32), none, .cl (.c (.fn 80 [])) [(.t 27), (.t 29), (.t 30), (.t 31)]⟩,
   ⟨(some 33), none, .ext (.t 32) 0⟩,
   ⟨(some 34), none, .ext (.t 32) 1⟩,
   ⟨none, none, .st 2 (.t 8) (.t 33)⟩,
   ⟨(some 9), none, .mv (.t 34)⟩] [.val [], .val [], .val [], .val [], .val [], .chn [], .val [], .val [], .chn [], .val []])
  .ret)))
theorem k_impl_SegWrite : FnOk Tryz.prog 74 35 rc_impl_SegWrite [.cell 8 true 2, .t 9] := ⟨Tryz.f74, _, [(3, [5])], Tryz.func74, rfl, rfl, by kernel_rfl, by kernel_rfl, follows⟩
theorem ok_impl_SegWrite : okF Tryz.prog 74 = true := by kernel_rfl
def rc_slices_Clone_Item : RC :=
  (.seq (.reg [⟨(some 2), none, .mv (.c (.nils))⟩])
  (.seq (.seq (.reg [⟨(some 3), none, .mv (.t 0)⟩,
   ⟨(some 4), none, .isn false (.t 3)⟩])
  (.cond (.t 4)
    (.seq (.reg [⟨(some 2), none, .mv (.c (.nils))⟩])
    .ret)
    .skip))
  (.seq (.reg [⟨(some 5), none, .mv (.c (.nils))⟩,
   ⟨(some 6), none, .mv (.t 0)⟩,
   ⟨(some 7), none, .app 9 96 (.t 5) (.t 6)⟩,
   ⟨(some 2), none, .mv (.t 7)⟩])
  .ret)))
theorem k_slices_Clone_Item : FnOk Tryz.prog 137 8 rc_slices_Clone_Item [.t 2] := ⟨Tryz.f137, _, [], Tryz.func137, rfl, rfl, by kernel_rfl, by kernel_rfl, follows⟩
theorem ok_slices_Clone_Item : okF Tryz.prog 137 = true := by kernel_rfl
def rc_impl_cloneLog : RC :=
  (.seq (.reg [⟨(some 1), none, .bx (.t 0)⟩,
   ⟨(some 2), none, .al [.nils, .nils, .int .i64 0, .nils, .int .i64 0, .int .i64 0, .int .i64 0, .int .i64 0]⟩])
  (.seq (.reg [⟨(some 6), none, .ld true 8 (.t 1)⟩,
   ⟨(some 3), none, .al [.nils, .nils, .int .i64 0, .nils, .int .i64 0, .int .i64 0, .int .i64 0, .int .i64 0]⟩,
   ⟨none, none, .st 8 (.t 3) (.t 6)⟩])
  (.seq (.reg [⟨(some 7), none, .fa 0 (.t 1)⟩,
   ⟨(some 8), none, .ld true 2 (.t 7)⟩,
   ⟨(some 9), none, .cl (.c (.fn 79 [])) [(.t 8)]⟩,
   ⟨(some 10), none, .fa 0 (.t 3)⟩,
   ⟨none, none, .st 2 (.t 10) (.t 9)⟩])
  (.seq (.reg [⟨(some 11), none, .fa 3 (.t 3)⟩,
   ⟨none, none, .st 1 (.t 11) (.c (.nils))⟩])
  (.seq (.seq (.reg [⟨(some 12), none, .fa 3 (.t 1)⟩,
   ⟨(some 13), none, .ld false 1 (.t 12)⟩,
   ⟨(some 14), none, .lenl (.t 13)⟩,
   ⟨(some 15), none, .mv (.c (.int .i64 0))⟩])
  (.blk 0 (.loop (.seq (.reg [⟨(some 16), none, .bin .lss (.t 15) (.t 14)⟩])
    (.seq (.cond (.t 16)
      .skip
      (.exit 0))
    (.seq (.blk 1 (.seq (.reg [⟨(some 17), none, .ia 4 (.t 13) (.t 15)⟩,
      ⟨(some 18), none, .ld true 4 (.t 17)⟩,
      ⟨(some 5), none, .al [.int .i64 0, .int .i64 0, .int .i64 0, .nils]⟩,
      ⟨none, none, .st 4 (.t 5) (.t 18)⟩])
     (.seq (.reg [⟨(some 19), none, .fa 3 (.t 5)⟩,
      ⟨(some 20), none, .ld false 1 (.t 19)⟩,
      ⟨(some 21), none, .cl (.c (.fn 137 [])) [(.t 20)]⟩,
      ⟨(some 22), none, .fa 3 (.t 5)⟩,
      ⟨none, none, .st 1 (.t 22) (.t 21)⟩])
     (.reg [⟨(some 23), none, .fa 3 (.t 3)⟩,
      ⟨(some 24), none, .ld false 1 (.t 23)⟩,
      ⟨(some 25), none, .ld true 4 (.t 5)⟩,
      ⟨(some 26), none, .bs 4 [.int .i64 0, .int .i64 0, .int .i64 0, .nils] 1 [(0, (.t 25))]⟩,
      ⟨(some 27), none, .app 4 48 (.t 24) (.t 26)⟩,
      ⟨(some 28), none, .fa 3 (.t 3)⟩,
      ⟨none, none, .st 1 (.t 28) (.t 27)⟩]))))
    (.reg [⟨(some 29), none, .bin .add (.t 15) (.c (.int .i64 1))⟩,
     ⟨(some 15), none, .mv (.t 29)⟩])))))))
  (.seq (.reg [⟨(some 30), none, .ld true 8 (.t 3)⟩,
   ⟨none, none, .st 8 (.t 2) (.t 30)⟩])
  .ret))))))
theorem k_impl_cloneLog : FnOk Tryz.prog 75 31 rc_impl_cloneLog [.cell 2 true 8] := ⟨Tryz.f75, _, [], Tryz.func75, rfl, rfl, by kernel_rfl, by kernel_rfl, follows⟩
theorem ok_impl_cloneLog : okF Tryz.prog 75 = true := by kernel_rfl
def rc_impl_FlushDisk : RC :=
  (.seq (.reg [⟨(some 1), none, .bx (.t 0)⟩,
   ⟨(some 2), none, .al [.nils, .nils]⟩])
  (.seq (.reg [⟨(some 6), none, .ld true 2 (.t 1)⟩,
   ⟨(some 7), none, .cl (.c (.fn 79 [])) [(.t 6)]⟩,
   ⟨(some 3), none, .al [.nils, .nils]⟩,
   ⟨none, none, .st 2 (.t 3) (.t 7)⟩])
  (.seq (.seq (.reg [⟨(some 8), none, .ld true 2 (.t 1)⟩,
   ⟨(some 9), none, .cl (.c (.fn 78 [])) [(.t 8)]⟩,
   ⟨(some 10), none, .un .not (.t 9)⟩])
  (.cond (.t 10)
    (.seq (.reg [⟨(some 11), none, .ld true 2 (.t 3)⟩,
     ⟨none, none, .st 2 (.t 2) (.t 11)⟩])
    .ret)
    .skip))
  (.seq (.seq (.reg [⟨(some 12), none, .fa 1 (.t 1)⟩,
   ⟨(some 13), none, .ld false 1 (.t 12)⟩,
   ⟨(some 14), none, .lenl (.t 13)⟩,
   ⟨(some 15), none, .mv (.c (.int .i64 0))⟩])
  (.blk 0 (.loop (.seq (.reg [⟨(some 16), none, .bin .lss (.t 15) (.t 14)⟩])
    (.seq (.cond (.t 16)
      .skip
      (.exit 0))
    (.seq (.blk 1 (.seq (.reg [⟨(some 17), none, .ia 2 (.t 13) (.t 15)⟩,
      ⟨(some 18), none, .ld true 2 (.t 17)⟩,
      ⟨(some 5), none, .al [.int .i64 0, .str []]⟩,
      ⟨none, none, .st 2 (.t 5) (.t 18)⟩])
     (.reg [⟨(some 19), none, .fa 0 (.t 3)⟩,
      ⟨(some 20), none, .ld false 1 (.t 19)⟩,
      ⟨(some 21), none, .fa 0 (.t 5)⟩,
      ⟨(some 22), none, .ld false 1 (.t 21)⟩,
      ⟨(some 23), none, .fa 1 (.t 5)⟩,
      ⟨(some 24), none, .ld false 1 (.t 23)⟩,
      ⟨(some 25), none, .ia 1 (.t 20) (.t 22)⟩,
      ⟨none, none, .st 1 (.t 25) (.t 24)⟩])))
    (.reg [⟨(some 26), none, .bin .add (.t 15) (.c (.int .i64 1))⟩,
     ⟨(some 15), none, .mv (.t 26)⟩])))))))
  (.seq (.reg [⟨(some 27), none, .fa 1 (.t 3)⟩,
   ⟨none, none, .st 1 (.t 27) (.c (.nils))⟩])
  (.seq (.reg [⟨(some 28), none, .ld true 2 (.t 3)⟩,
   ⟨none, none, .st 2 (.t 2) (.t 28)⟩])
  .ret))))))
theorem k_impl_FlushDisk : FnOk Tryz.prog 76 29 rc_impl_FlushDisk [.cell 2 true 2] := ⟨Tryz.f76, _, [], Tryz.func76, rfl, rfl, by kernel_rfl, by kernel_rfl, follows⟩
theorem ok_impl_FlushDisk : okF Tryz.prog 76 = true := by kernel_rfl
def rc_impl_openSeg : RC :=
  (.seq (.reg [⟨(some 2), none, .bx (.t 0)⟩,
   ⟨(some 4), none, .al [.nils, .nils, .int .i64 0, .nils, .int .i64 0, .int .i64 0, .int .i64 0, .int .i64 0]⟩,
   ⟨(some 5), none, .mv (.c (.bool false))⟩])
  (.seq (.reg [⟨(some 12), none, .ld true 8 (.t 2)⟩,
   ⟨(some 13), none, .cl (.c (.fn 72 [])) [(.t 12)]⟩,
   ⟨(some 6), none, .mv (.t 13)⟩])
  (.seq (.seq (.reg [⟨(some 14), none, .mv (.t 1)⟩,
   ⟨(some 15), none, .bin .lss (.t 14) (.c (.int .i64 0))⟩,
   ⟨(some 16), none, .mv (.t 15)⟩,
   ⟨(some 17), (some (16, false)), .mv (.t 6)⟩,
   ⟨(some 18), (some (16, false)), .lenl (.t 17)⟩,
   ⟨(some 19), (some (16, false)), .mv (.t 1)⟩,
   ⟨(some 20), (some (16, false)), .bin .leq (.t 18) (.t 19)⟩,
   ⟨(some 21), none, .pick (.t 16) (.c (.bool true)) (.t 20)⟩,
   ⟨(some 22), none, .mv (.t 21)⟩,
   ⟨(some 23), (some (22, false)), .fa 4 (.t 2)⟩,
   ⟨(some 24), (some (22, false)), .ld false 1 (.t 23)⟩,
   ⟨(some 25), (some (22, false)), .bin .eql (.t 24) (.c (.int .i64 1000000000))⟩,
   ⟨(some 26), none, .pick (.t 22) (.c (.bool true)) (.t 25)⟩])
  (.cond (.t 26)
    (.seq (.reg [⟨(some 27), none, .bld [.nils, .nils, .int .i64 0, .nils, .int .i64 0, .int .i64 0, .int .i64 0, .int .i64 0] [(0, 2), (2, 1), (3, 1), (4, 1), (5, 1), (6, 1), (7, 1)] []⟩,
     ⟨none, none, .st 8 (.t 4) (.t 27)⟩,
     ⟨(some 5), none, .mv (.c (.bool false))⟩])
    .ret)
    .skip))
  (.seq (.reg [⟨(some 29), none, .fa 4 (.t 2)⟩,
   ⟨(some 30), none, .ld false 1 (.t 29)⟩,
   ⟨(some 31), none, .bld [.int .i64 0, .int .i64 0, .str []] [(0, 1), (1, 1), (2, 1)] [(0, (.t 30)), (1, (.c (.int .i64 1))), (2, (.c (.str [115, 101, 103])))]⟩,
   ⟨(some 32), none, .cl (.c (.fn 73 [])) [(.t 31)]⟩,
   ⟨(some 28), none, .mv (.t 32)⟩,
   ⟨(some 33), none, .ext (.t 28) 0⟩,
   ⟨(some 34), none, .ext (.t 28) 1⟩,
   ⟨(some 7), none, .mv (.t 33)⟩,
   ⟨(some 8), none, .mv (.t 34)⟩])
  (.seq (.drw [⟨(some 36), none, .fa 0 (.t 2)⟩,
   ⟨(some 37), none, .ld true 2 (.t 36)⟩,
   ⟨(some 38), none, .mv (.t 6)⟩,
   ⟨(some 39), none, .ia 1 (.t 38) (.c (.int .i64 0))⟩,
   ⟨(some 40), none, .ld false 1 (.t 39)⟩,
   ⟨(some 41), none, .mv (.t 7)⟩,
   ⟨(some 42), none, .cl (.c (.fn 74 [])) [(.t 37), (.t 40), (.c (.int .i64 0)), (.t 41)]⟩,
   ⟨(some 35), none, .mv (.t 42)⟩,
   ⟨(some 43), none, .ext (.t 35) 0⟩,
   ⟨(some 44), none, .ext (.t 35) 1⟩,
   ⟨(some 9), none, .al [.nils, .nils]⟩,
   ⟨none, none, .st 2 (.t 9) (.t 43)⟩,
   ⟨(some 10), none, .mv (.t 44)⟩] [.val [], .val [], .val [], .val [], .val [], .val [], .val [], .val [], .val [], .val [], .chn [0, 1, 2, 3, 4, 5, 6, 7, 8, 9], .chn [9], .val []])
  (.seq (.seq (.reg [⟨(some 45), none, .mv (.t 10)⟩,
   ⟨(some 46), none, .un .not (.t 45)⟩])
  (.cond (.t 46)
    (.seq (.reg [⟨(some 47), none, .bld [.nils, .nils, .int .i64 0, .nils, .int .i64 0, .int .i64 0, .int .i64 0, .int .i64 0] [(0, 2), (2, 1), (3, 1), (4, 1), (5, 1), (6, 1), (7, 1)] []⟩,
     ⟨none, none, .st 8 (.t 4) (.t 47)⟩,
     ⟨(some 5), none, .mv (.c (.bool false))⟩])
    .ret)
    .skip))
  (.seq (.reg [⟨(some 48), none, .ld true 8 (.t 2)⟩,
   ⟨(some 49), none, .cl (.c (.fn 75 [])) [(.t 48)]⟩,
   ⟨(some 11), none, .al [.nils, .nils, .int .i64 0, .nils, .int .i64 0, .int .i64 0, .int .i64 0, .int .i64 0]⟩,
   ⟨none, none, .st 8 (.t 11) (.t 49)⟩])
  (.seq (.reg [⟨(some 50), none, .ld true 2 (.t 9)⟩,
   ⟨(some 51), none, .cl (.c (.fn 76 [])) [(.t 50)]⟩,
   ⟨(some 52), none, .fa 0 (.t 11)⟩,
   ⟨none, none, .st 2 (.t 52) (.t 51)⟩])
  (.seq (.drw [⟨(some 53), none, .fa 3 (.t 11)⟩,
   ⟨(some 54), none, .ld false 1 (.t 53)⟩,
   ⟨(some 55), none, .mv (.t 6)⟩,
   ⟨(some 56), none, .ia 1 (.t 55) (.c (.int .i64 0))⟩,
   ⟨(some 57), none, .ld false 1 (.t 56)⟩,
   ⟨(some 58), none, .fa 4 (.t 2)⟩,
   ⟨(some 59), none, .ld false 1 (.t 58)⟩,
   ⟨(some 60), none, .mv (.t 7)⟩,
   ⟨(some 61), none, .lens (.t 60)⟩,
   ⟨(some 62), none, .bld [.int .i64 0, .int .i64 0, .int .i64 0, .nils] [(0, 1), (1, 1), (2, 1), (3, 1)] [(0, (.t 57)), (1, (.t 59)), (2, (.t 61))]⟩,
   ⟨(some 63), none, .bs 4 [.int .i64 0, .int .i64 0, .int .i64 0, .nils] 1 [(0, (.t 62))]⟩,
   ⟨(some 64), none, .app 4 48 (.t 54) (.t 63)⟩,
   ⟨(some 65), none, .fa 3 (.t 11)⟩,
   ⟨none, none, .st 1 (.t 65) (.t 64)⟩] [.val [], .val [], .val [], .val [], .val [], .val [], .val [], .val [], .val [], .val [], .chn [0, 1], .chn [], .val [], .chn []])
  (.seq (.reg [⟨(some 66), none, .fa 4 (.t 11)⟩,
   ⟨(some 67), none, .ld false 1 (.t 66)⟩,
   ⟨(some 68), none, .bin .add (.t 67) (.c (.int .i64 1))⟩,
   ⟨(some 69), none, .fa 4 (.t 11)⟩,
   ⟨none, none, .st 1 (.t 69) (.t 68)⟩])
  (.seq (.reg [⟨(some 70), none, .ld true 8 (.t 11)⟩,
   ⟨none, none, .st 8 (.t 4) (.t 70)⟩,
   ⟨(some 5), none, .mv (.c (.bool true))⟩])
  .ret)))))))))))
theorem k_impl_openSeg : FnOk Tryz.prog 35 71 rc_impl_openSeg [.cell 4 true 8, .t 5] := ⟨Tryz.f35, _, [], Tryz.func35, rfl, rfl, by kernel_rfl, by kernel_rfl, follows⟩
theorem ok_impl_openSeg : okF Tryz.prog 35 = true := by kernel_rfl
def rc_impl_CheckOk_1 : RC :=
  (.seq (.reg [⟨(some 2), none, .bx (.t 0)⟩,
   ⟨(some 3), none, .mv (.c (.bool false))⟩])
  (.seq (.reg [⟨(some 4), none, .fa 0 (.t 2)⟩,
   ⟨(some 5), none, .ld false 1 (.t 4)⟩,
   ⟨(some 6), none, .fa 0 (.t 1)⟩,
   ⟨(some 7), none, .ld false 1 (.t 6)⟩,
   ⟨(some 8), none, .bin .eql (.t 5) (.t 7)⟩,
   ⟨(some 3), none, .mv (.t 8)⟩])
  .ret))
theorem k_impl_CheckOk_1 : FnOk Tryz.prog 188 9 rc_impl_CheckOk_1 [.t 3] := ⟨Tryz.f188, _, [], Tryz.func188, rfl, rfl, by kernel_rfl, by kernel_rfl, follows⟩
theorem ok_impl_CheckOk_1 : okF Tryz.prog 188 = true := by kernel_rfl
def rc_slices_IndexFunc_Ref : RC :=
  (.seq (.reg [⟨(some 4), none, .mv (.c (.int .i64 0))⟩])
  (.seq (.seq (.reg [⟨(some 6), none, .mv (.t 0)⟩,
   ⟨(some 7), none, .lenl (.t 6)⟩,
   ⟨(some 8), none, .mv (.c (.int .i64 0))⟩])
  (.blk 0 (.loop (.seq (.reg [⟨(some 9), none, .bin .lss (.t 8) (.t 7)⟩])
    (.seq (.cond (.t 9)
      .skip
      (.exit 0))
    (.seq (.blk 1 (.seq (.reg [⟨(some 10), none, .mv (.t 8)⟩,
      ⟨(some 5), none, .mv (.t 10)⟩])
     (.seq (.reg [⟨(some 11), none, .mv (.t 1)⟩,
      ⟨(some 12), none, .mv (.t 0)⟩,
      ⟨(some 13), none, .mv (.t 5)⟩,
      ⟨(some 14), none, .ia 2 (.t 12) (.t 13)⟩,
      ⟨(some 15), none, .ld true 2 (.t 14)⟩,
      ⟨(some 16), none, .cl (.t 11) [(.t 15)]⟩])
     (.cond (.t 16)
       (.seq (.reg [⟨(some 17), none, .mv (.t 5)⟩,
        ⟨(some 4), none, .mv (.t 17)⟩])
       .ret)
       .skip))))
    (.reg [⟨(some 18), none, .bin .add (.t 8) (.c (.int .i64 1))⟩,
     ⟨(some 8), none, .mv (.t 18)⟩])))))))
  (.seq (.reg [⟨(some 4), none, .mv (.c (.int .i64 (-1)))⟩])
  .ret)))
theorem k_slices_IndexFunc_Ref : FnOk Tryz.prog 211 19 rc_slices_IndexFunc_Ref [.t 4] := ⟨Tryz.f211, _, [], Tryz.func211, rfl, rfl, by kernel_rfl, by kernel_rfl, follows⟩
theorem ok_slices_IndexFunc_Ref : okF Tryz.prog 211 = true := by kernel_rfl
def rc_slices_ContainsFunc_Ref : RC :=
  (.seq (.reg [⟨(some 4), none, .mv (.c (.bool false))⟩])
  (.seq (.reg [⟨(some 5), none, .mv (.t 0)⟩,
   ⟨(some 6), none, .mv (.t 1)⟩,
   ⟨(some 7), none, .cl (.c (.fn 211 [])) [(.t 5), (.t 6)]⟩,
   ⟨(some 8), none, .bin .geq (.t 7) (.c (.int .i64 0))⟩,
   ⟨(some 4), none, .mv (.t 8)⟩])
  .ret))
theorem k_slices_ContainsFunc_Ref : FnOk Tryz.prog 187 9 rc_slices_ContainsFunc_Ref [.t 4] := ⟨Tryz.f187, _, [], Tryz.func187, rfl, rfl, by kernel_rfl, by kernel_rfl, follows⟩
theorem ok_slices_ContainsFunc_Ref : okF Tryz.prog 187 = true := by kernel_rfl
def rc_impl_CheckOk : RC :=
  (.seq (.reg [⟨(some 1), none, .bx (.t 0)⟩,
   ⟨(some 2), none, .mv (.c (.bool false))⟩])
  (.seq (.seq (.reg [⟨(some 8), none, .fa 0 (.t 1)⟩,
   ⟨(some 9), none, .ld false 1 (.t 8)⟩,
   ⟨(some 10), none, .fa 1 (.t 1)⟩,
   ⟨(some 11), none, .ld false 1 (.t 10)⟩,
   ⟨(some 12), none, .fa 2 (.t 1)⟩,
   ⟨(some 13), none, .ld false 1 (.t 12)⟩,
   ⟨(some 14), none, .fa 3 (.t 1)⟩,
   ⟨(some 15), none, .ld false 1 (.t 14)⟩,
   ⟨(some 16), none, .bs 1 [.int .i64 0] 4 [(0, (.t 9)), (1, (.t 11)), (2, (.t 13)), (3, (.t 15))]⟩,
   ⟨(some 17), none, .lenl (.t 16)⟩,
   ⟨(some 18), none, .mv (.c (.int .i64 0))⟩])
  (.blk 0 (.loop (.seq (.reg [⟨(some 19), none, .bin .lss (.t 18) (.t 17)⟩])
    (.seq (.cond (.t 19)
      .skip
      (.exit 0))
    (.seq (.blk 1 (.seq (.reg [⟨(some 20), none, .ia 1 (.t 16) (.t 18)⟩,
      ⟨(some 21), none, .ld false 1 (.t 20)⟩,
      ⟨(some 4), none, .mv (.t 21)⟩])
     (.seq (.reg [⟨(some 22), none, .mv (.t 4)⟩,
      ⟨(some 23), none, .cl (.c (.fn 33 [])) [(.t 22), (.c (.int .i64 1)), (.c (.int .i64 1000000000))]⟩,
      ⟨(some 24), none, .un .not (.t 23)⟩])
     (.cond (.t 24)
       (.seq (.reg [⟨(some 2), none, .mv (.c (.bool false))⟩])
       .ret)
       .skip))))
    (.reg [⟨(some 25), none, .bin .add (.t 18) (.c (.int .i64 1))⟩,
     ⟨(some 18), none, .mv (.t 25)⟩])))))))
  (.seq (.seq (.reg [⟨(some 26), none, .fa 4 (.t 1)⟩,
   ⟨(some 27), none, .ld false 1 (.t 26)⟩,
   ⟨(some 28), none, .lenl (.t 27)⟩,
   ⟨(some 29), none, .cl (.c (.fn 33 [])) [(.t 28), (.c (.int .i64 1)), (.c (.int .i64 11))]⟩,
   ⟨(some 30), none, .un .not (.t 29)⟩])
  (.cond (.t 30)
    (.seq (.reg [⟨(some 2), none, .mv (.c (.bool false))⟩])
    .ret)
    .skip))
  (.seq (.reg [⟨(some 5), none, .mv (.c (.int .i64 0))⟩])
  (.seq (.seq (.reg [⟨(some 31), none, .fa 4 (.t 1)⟩,
   ⟨(some 32), none, .ld false 1 (.t 31)⟩,
   ⟨(some 33), none, .lenl (.t 32)⟩,
   ⟨(some 34), none, .mv (.c (.int .i64 0))⟩])
  (.blk 2 (.loop (.seq (.reg [⟨(some 35), none, .bin .lss (.t 34) (.t 33)⟩])
    (.seq (.cond (.t 35)
      .skip
      (.exit 2))
    (.seq (.blk 3 (.seq (.reg [⟨(some 36), none, .mv (.t 34)⟩,
      ⟨(some 37), none, .ia 2 (.t 32) (.t 34)⟩,
      ⟨(some 38), none, .ld true 2 (.t 37)⟩,
      ⟨(some 7), none, .al [.int .i64 0, .int .i64 0]⟩,
      ⟨(some 6), none, .mv (.t 36)⟩,
      ⟨none, none, .st 2 (.t 7) (.t 38)⟩])
     (.seq (.seq (.reg [⟨(some 39), none, .fa 1 (.t 7)⟩,
      ⟨(some 40), none, .ld false 1 (.t 39)⟩,
      ⟨(some 41), none, .mv (.t 5)⟩,
      ⟨(some 42), none, .bin .add (.t 41) (.c (.int .i64 1))⟩,
      ⟨(some 43), none, .fa 1 (.t 1)⟩,
      ⟨(some 44), none, .ld false 1 (.t 43)⟩,
      ⟨(some 45), none, .bin .sub (.t 44) (.c (.int .i64 1))⟩,
      ⟨(some 46), none, .cl (.c (.fn 33 [])) [(.t 40), (.t 42), (.t 45)]⟩,
      ⟨(some 47), none, .un .not (.t 46)⟩,
      ⟨(some 48), none, .mv (.t 47)⟩,
      ⟨(some 49), (some (48, false)), .fa 0 (.t 7)⟩,
      ⟨(some 50), (some (48, false)), .ld false 1 (.t 49)⟩,
      ⟨(some 51), (some (48, false)), .cl (.c (.fn 33 [])) [(.t 50), (.c (.int .i64 0)), (.c (.int .i64 10))]⟩,
      ⟨(some 52), (some (48, false)), .un .not (.t 51)⟩,
      ⟨(some 53), none, .pick (.t 48) (.c (.bool true)) (.t 52)⟩,
      ⟨(some 54), none, .mv (.t 53)⟩,
      ⟨(some 55), (some (54, false)), .fa 4 (.t 1)⟩,
      ⟨(some 56), (some (54, false)), .ld false 1 (.t 55)⟩,
      ⟨(some 57), (some (54, false)), .mv (.t 6)⟩,
      ⟨(some 58), (some (54, false)), .sle 2 (.t 56) none (some (.t 57))⟩,
      ⟨(some 59), (some (54, false)), .mkf 188 [(.t 7)]⟩,
      ⟨(some 60), (some (54, false)), .cl (.c (.fn 187 [])) [(.t 58), (.t 59)]⟩,
      ⟨(some 61), none, .pick (.t 54) (.c (.bool true)) (.t 60)⟩])
     (.cond (.t 61)
       (.seq (.reg [⟨(some 2), none, .mv (.c (.bool false))⟩])
       .ret)
       .skip))
     (.reg [⟨(some 62), none, .fa 1 (.t 7)⟩,
      ⟨(some 63), none, .ld false 1 (.t 62)⟩,
      ⟨(some 5), none, .mv (.t 63)⟩]))))
    (.reg [⟨(some 64), none, .bin .add (.t 34) (.c (.int .i64 1))⟩,
     ⟨(some 34), none, .mv (.t 64)⟩])))))))
  (.seq (.reg [⟨(some 2), none, .mv (.c (.bool true))⟩])
  .ret))))))
theorem k_impl_CheckOk : FnOk Tryz.prog 138 65 rc_impl_CheckOk [.t 2] := ⟨Tryz.f138, _, [], Tryz.func138, rfl, rfl, by kernel_rfl, by kernel_rfl, follows⟩
theorem ok_impl_CheckOk : okF Tryz.prog 138 = true := by kernel_rfl
def rc_impl_CheckText : RC :=
  (.seq (.reg [⟨(some 1), none, .bx (.t 0)⟩,
   ⟨(some 2), none, .mv (.c (.str []))⟩,
   ⟨(some 3), none, .mv (.c (.bool false))⟩])
  (.seq (.seq (.reg [⟨(some 8), none, .ld true 5 (.t 1)⟩,
   ⟨(some 9), none, .cl (.c (.fn 138 [])) [(.t 8)]⟩,
   ⟨(some 10), none, .un .not (.t 9)⟩])
  (.cond (.t 10)
    (.seq (.reg [⟨(some 2), none, .mv (.c (.str []))⟩,
     ⟨(some 3), none, .mv (.c (.bool false))⟩])
    .ret)
    .skip))
  (.seq (.drw [⟨(some 11), none, .fa 0 (.t 1)⟩,
   ⟨(some 12), none, .ld false 1 (.t 11)⟩,
   ⟨(some 13), none, .cl (.c (.fn 135 [])) [(.t 12)]⟩,
   ⟨(some 14), none, .fa 1 (.t 1)⟩,
   ⟨(some 15), none, .ld false 1 (.t 14)⟩,
   ⟨(some 16), none, .cl (.c (.fn 135 [])) [(.t 15)]⟩,
   ⟨(some 17), none, .bin .add (.t 13) (.t 16)⟩,
   ⟨(some 18), none, .fa 2 (.t 1)⟩,
   ⟨(some 19), none, .ld false 1 (.t 18)⟩,
   ⟨(some 20), none, .cl (.c (.fn 135 [])) [(.t 19)]⟩,
   ⟨(some 21), none, .bin .add (.t 17) (.t 20)⟩,
   ⟨(some 22), none, .fa 3 (.t 1)⟩,
   ⟨(some 23), none, .ld false 1 (.t 22)⟩,
   ⟨(some 24), none, .cl (.c (.fn 135 [])) [(.t 23)]⟩,
   ⟨(some 25), none, .bin .add (.t 21) (.t 24)⟩,
   ⟨(some 26), none, .fa 4 (.t 1)⟩,
   ⟨(some 27), none, .ld false 1 (.t 26)⟩,
   ⟨(some 28), none, .lenl (.t 27)⟩,
   ⟨(some 29), none, .cl (.c (.fn 135 [])) [(.t 28)]⟩,
   ⟨(some 30), none, .bin .add (.t 25) (.t 29)⟩,
   ⟨(some 4), none, .mv (.t 30)⟩] [.val [], .val [], .val [], .val [], .val [], .val [], .val [], .val [], .val [], .val [], .val [], .val [], .val [], .val [], .val [], .val [], .val [], .val [], .val [], .val [], .val []])
  (.seq (.seq (.reg [⟨(some 31), none, .fa 4 (.t 1)⟩,
   ⟨(some 32), none, .ld false 1 (.t 31)⟩,
   ⟨(some 33), none, .lenl (.t 32)⟩,
   ⟨(some 34), none, .mv (.c (.int .i64 0))⟩])
  (.blk 0 (.loop (.seq (.reg [⟨(some 35), none, .bin .lss (.t 34) (.t 33)⟩])
    (.seq (.cond (.t 35)
      .skip
      (.exit 0))
    (.seq (.blk 1 (.seq (.reg [⟨(some 36), none, .ia 2 (.t 32) (.t 34)⟩,
      ⟨(some 37), none, .ld true 2 (.t 36)⟩,
      ⟨(some 6), none, .al [.int .i64 0, .int .i64 0]⟩,
      ⟨none, none, .st 2 (.t 6) (.t 37)⟩])
     (.drw [⟨(some 38), none, .mv (.t 4)⟩,
      ⟨(some 39), none, .fa 0 (.t 6)⟩,
      ⟨(some 40), none, .ld false 1 (.t 39)⟩,
      ⟨(some 41), none, .cl (.c (.fn 135 [])) [(.t 40)]⟩,
      ⟨(some 42), none, .fa 1 (.t 6)⟩,
      ⟨(some 43), none, .ld false 1 (.t 42)⟩,
      ⟨(some 44), none, .cl (.c (.fn 135 [])) [(.t 43)]⟩,
      ⟨(some 45), none, .bin .add (.t 41) (.t 44)⟩,
      ⟨(some 46), none, .bin .add (.t 38) (.t 45)⟩,
      ⟨(some 4), none, .mv (.t 46)⟩] [.val [], .val [], .val [], .val [], .val [], .val [], .val [], .val [], .val [], .val []])))
    (.reg [⟨(some 47), none, .bin .add (.t 34) (.c (.int .i64 1))⟩,
     ⟨(some 34), none, .mv (.t 47)⟩])))))))
  (.seq (.reg [⟨(some 48), none, .mv (.t 4)⟩,
   ⟨(some 49), none, .mv (.t 4)⟩,
   ⟨(some 50), none, .cl (.c (.fn 139 [])) [(.t 49)]⟩,
   ⟨(some 51), none, .bin .add (.t 48) (.t 50)⟩,
   ⟨(some 4), none, .mv (.t 51)⟩])
  (.seq (.reg [⟨(some 52), none, .mv (.t 4)⟩,
   ⟨(some 53), none, .lens (.t 52)⟩,
   ⟨(some 54), none, .cl (.c (.fn 135 [])) [(.t 53)]⟩,
   ⟨(some 55), none, .mv (.t 4)⟩,
   ⟨(some 56), none, .bin .add (.t 54) (.t 55)⟩,
   ⟨(some 7), none, .mv (.t 56)⟩])
  (.seq (.seq (.reg [⟨(some 57), none, .mv (.t 7)⟩,
   ⟨(some 58), none, .lens (.t 57)⟩,
   ⟨(some 59), none, .bin .gtr (.t 58) (.c (.int .i64 128))⟩])
  (.cond (.t 59)
    (.seq (.reg [⟨(some 2), none, .mv (.c (.str []))⟩,
     ⟨(some 3), none, .mv (.c (.bool false))⟩])
    .ret)
    .skip))
  (.seq (.reg [⟨(some 60), none, .mv (.t 7)⟩,
   ⟨(some 2), none, .mv (.t 60)⟩,
   ⟨(some 3), none, .mv (.c (.bool true))⟩])
  .ret))))))))
theorem k_impl_CheckText : FnOk Tryz.prog 77 61 rc_impl_CheckText [.t 2, .t 3] := ⟨Tryz.f77, _, [], Tryz.func77, rfl, rfl, by kernel_rfl, by kernel_rfl, follows⟩
theorem ok_impl_CheckText : okF Tryz.prog 77 = true := by kernel_rfl
def rc_impl_region : RC :=
  (.seq (.reg [⟨(some 2), none, .mv (.c (.int .i64 0))⟩])
  (.seq (.reg [⟨(some 3), none, .mv (.t 0)⟩,
   ⟨(some 4), none, .bin .rem (.t 3) (.c (.int .i64 2))⟩,
   ⟨(some 5), none, .bin .mul (.c (.int .i64 4)) (.t 4)⟩,
   ⟨(some 2), none, .mv (.t 5)⟩])
  .ret))
theorem k_impl_region : FnOk Tryz.prog 81 6 rc_impl_region [.t 2] := ⟨Tryz.f81, _, [], Tryz.func81, rfl, rfl, by kernel_rfl, by kernel_rfl, follows⟩
theorem ok_impl_region : okF Tryz.prog 81 = true := by kernel_rfl
def rc_impl_WriteCheck : RC :=
  (.seq (.reg [⟨(some 2), none, .bx (.t 0)⟩,
   ⟨(some 3), none, .bx (.t 1)⟩,
   ⟨(some 4), none, .al [.nils, .nils]⟩,
   ⟨(some 5), none, .mv (.c (.bool false))⟩])
  (.seq (.reg [⟨(some 11), none, .ld true 5 (.t 3)⟩,
   ⟨(some 12), none, .cl (.c (.fn 77 [])) [(.t 11)]⟩,
   ⟨(some 10), none, .mv (.t 12)⟩,
   ⟨(some 13), none, .ext (.t 10) 0⟩,
   ⟨(some 14), none, .ext (.t 10) 1⟩,
   ⟨(some 6), none, .mv (.t 13)⟩,
   ⟨(some 7), none, .mv (.t 14)⟩])
  (.seq (.seq (.reg [⟨(some 15), none, .ld true 2 (.t 2)⟩,
   ⟨(some 16), none, .cl (.c (.fn 78 [])) [(.t 15)]⟩,
   ⟨(some 17), none, .un .not (.t 16)⟩,
   ⟨(some 18), none, .mv (.t 17)⟩,
   ⟨(some 19), (some (18, false)), .mv (.t 7)⟩,
   ⟨(some 20), (some (18, false)), .un .not (.t 19)⟩,
   ⟨(some 21), none, .pick (.t 18) (.c (.bool true)) (.t 20)⟩])
  (.cond (.t 21)
    (.seq (.reg [⟨(some 22), none, .ld true 2 (.t 2)⟩,
     ⟨(some 23), none, .cl (.c (.fn 79 [])) [(.t 22)]⟩,
     ⟨none, none, .st 2 (.t 4) (.t 23)⟩,
     ⟨(some 5), none, .mv (.c (.bool false))⟩])
    .ret)
    .skip))
  (.seq (.drw [⟨(some 25), none, .ld true 2 (.t 2)⟩,
   ⟨(some 26), none, .fa 0 (.t 3)⟩,
   ⟨(some 27), none, .ld false 1 (.t 26)⟩,
   ⟨(some 28), none, .cl (.c (.fn 81 [])) [(.t 27)]⟩,
   ⟨(some 29), none, .mv (.t 6)⟩,
   ⟨(some 30), none, .cl (.c (.fn 80 [])) [(.t 25), (.t 28), (.c (.int .i64 0)), (.t 29)]⟩,
   ⟨(some 24), none, .mv (.t 30)⟩,
   ⟨(some 31), none, .ext (.t 24) 0⟩,
   ⟨(some 32), none, .ext (.t 24) 1⟩,
   ⟨(some 8), none, .al [.nils, .nils]⟩,
   ⟨none, none, .st 2 (.t 8) (.t 31)⟩,
   ⟨(some 9), none, .mv (.t 32)⟩] [.val [], .val [], .val [], .val [], .val [], .val [], .val [], .val [], .val [], .chn [0, 1, 2, 3, 4, 5, 6, 7, 8], .chn [8], .val []])
  (.seq (.seq (.reg [⟨(some 33), none, .mv (.t 9)⟩,
   ⟨(some 34), none, .un .not (.t 33)⟩])
  (.cond (.t 34)
    (.seq (.reg [⟨(some 35), none, .ld true 2 (.t 2)⟩,
     ⟨(some 36), none, .cl (.c (.fn 79 [])) [(.t 35)]⟩,
     ⟨none, none, .st 2 (.t 4) (.t 36)⟩,
     ⟨(some 5), none, .mv (.c (.bool false))⟩])
    .ret)
    .skip))
  (.seq (.reg [⟨(some 37), none, .ld true 2 (.t 8)⟩,
   ⟨(some 38), none, .cl (.c (.fn 76 [])) [(.t 37)]⟩,
   ⟨none, none, .st 2 (.t 4) (.t 38)⟩,
   ⟨(some 5), none, .mv (.c (.bool true))⟩])
  .ret))))))
theorem k_impl_WriteCheck : FnOk Tryz.prog 36 39 rc_impl_WriteCheck [.cell 4 true 2, .t 5] := ⟨Tryz.f36, _, [], Tryz.func36, rfl, rfl, by kernel_rfl, by kernel_rfl, follows⟩
theorem ok_impl_WriteCheck : okF Tryz.prog 36 = true := by kernel_rfl
def rc_impl_CheckOf : RC :=
  (.seq (.reg [⟨(some 1), none, .bx (.t 0)⟩,
   ⟨(some 2), none, .al [.int .i64 0, .int .i64 0, .int .i64 0, .int .i64 0, .nils]⟩])
  (.seq (.reg [⟨(some 6), none, .fa 6 (.t 1)⟩,
   ⟨(some 7), none, .ld false 1 (.t 6)⟩,
   ⟨(some 8), none, .bin .add (.t 7) (.c (.int .i64 1))⟩,
   ⟨(some 9), none, .fa 4 (.t 1)⟩,
   ⟨(some 10), none, .ld false 1 (.t 9)⟩,
   ⟨(some 11), none, .fa 5 (.t 1)⟩,
   ⟨(some 12), none, .ld false 1 (.t 11)⟩,
   ⟨(some 13), none, .fa 7 (.t 1)⟩,
   ⟨(some 14), none, .ld false 1 (.t 13)⟩,
   ⟨(some 15), none, .bld [.int .i64 0, .int .i64 0, .int .i64 0, .int .i64 0, .nils] [(0, 1), (1, 1), (2, 1), (3, 1), (4, 1)] [(0, (.t 8)), (1, (.t 10)), (2, (.t 12)), (3, (.t 14))]⟩,
   ⟨(some 3), none, .al [.int .i64 0, .int .i64 0, .int .i64 0, .int .i64 0, .nils]⟩,
   ⟨none, none, .st 5 (.t 3) (.t 15)⟩])
  (.seq (.seq (.reg [⟨(some 16), none, .fa 3 (.t 1)⟩,
   ⟨(some 17), none, .ld false 1 (.t 16)⟩,
   ⟨(some 18), none, .lenl (.t 17)⟩,
   ⟨(some 19), none, .mv (.c (.int .i64 0))⟩])
  (.blk 0 (.loop (.seq (.reg [⟨(some 20), none, .bin .lss (.t 19) (.t 18)⟩])
    (.seq (.cond (.t 20)
      .skip
      (.exit 0))
    (.seq (.blk 1 (.seq (.reg [⟨(some 21), none, .ia 4 (.t 17) (.t 19)⟩,
      ⟨(some 22), none, .ld true 4 (.t 21)⟩,
      ⟨(some 5), none, .al [.int .i64 0, .int .i64 0, .int .i64 0, .nils]⟩,
      ⟨none, none, .st 4 (.t 5) (.t 22)⟩])
     (.reg [⟨(some 23), none, .fa 4 (.t 3)⟩,
      ⟨(some 24), none, .ld false 1 (.t 23)⟩,
      ⟨(some 25), none, .fa 0 (.t 5)⟩,
      ⟨(some 26), none, .ld false 1 (.t 25)⟩,
      ⟨(some 27), none, .fa 1 (.t 5)⟩,
      ⟨(some 28), none, .ld false 1 (.t 27)⟩,
      ⟨(some 29), none, .bld [.int .i64 0, .int .i64 0] [(0, 1), (1, 1)] [(0, (.t 26)), (1, (.t 28))]⟩,
      ⟨(some 30), none, .bs 2 [.int .i64 0, .int .i64 0] 1 [(0, (.t 29))]⟩,
      ⟨(some 31), none, .app 2 16 (.t 24) (.t 30)⟩,
      ⟨(some 32), none, .fa 4 (.t 3)⟩,
      ⟨none, none, .st 1 (.t 32) (.t 31)⟩])))
    (.reg [⟨(some 33), none, .bin .add (.t 19) (.c (.int .i64 1))⟩,
     ⟨(some 19), none, .mv (.t 33)⟩])))))))
  (.seq (.reg [⟨(some 34), none, .ld true 5 (.t 3)⟩,
   ⟨none, none, .st 5 (.t 2) (.t 34)⟩])
  .ret))))
theorem k_impl_CheckOf : FnOk Tryz.prog 37 35 rc_impl_CheckOf [.cell 2 true 5] := ⟨Tryz.f37, _, [], Tryz.func37, rfl, rfl, by kernel_rfl, by kernel_rfl, follows⟩
theorem ok_impl_CheckOf : okF Tryz.prog 37 = true := by kernel_rfl
def rc_impl_FormatDisk : RC :=
  (.seq (.reg [⟨(some 2), none, .al [.nils, .nils, .int .i64 0, .nils, .int .i64 0, .int .i64 0, .int .i64 0, .int .i64 0]⟩,
   ⟨(some 3), none, .mv (.c (.bool false))⟩])
  (.seq (.seq (.reg [⟨(some 10), none, .mv (.t 0)⟩,
   ⟨(some 11), none, .cl (.c (.fn 33 [])) [(.t 10), (.c (.int .i64 5)), (.c (.int .i64 11))]⟩,
   ⟨(some 12), none, .un .not (.t 11)⟩])
  (.cond (.t 12)
    (.seq (.reg [⟨(some 13), none, .bld [.nils, .nils, .int .i64 0, .nils, .int .i64 0, .int .i64 0, .int .i64 0, .int .i64 0] [(0, 2), (2, 1), (3, 1), (4, 1), (5, 1), (6, 1), (7, 1)] []⟩,
     ⟨none, none, .st 8 (.t 2) (.t 13)⟩,
     ⟨(some 3), none, .mv (.c (.bool false))⟩])
    .ret)
    .skip))
  (.seq (.reg [⟨(some 15), none, .mv (.t 0)⟩,
   ⟨(some 16), none, .bin .mul (.t 15) (.c (.int .i64 8))⟩,
   ⟨(some 17), none, .bin .add (.c (.int .i64 8)) (.t 16)⟩,
   ⟨(some 18), none, .cl (.c (.fn 34 [])) [(.t 17)]⟩,
   ⟨(some 14), none, .mv (.t 18)⟩,
   ⟨(some 19), none, .ext (.t 14) 0⟩,
   ⟨(some 20), none, .ext (.t 14) 1⟩,
   ⟨(some 4), none, .al [.nils, .nils]⟩,
   ⟨none, none, .st 2 (.t 4) (.t 19)⟩,
   ⟨(some 5), none, .mv (.t 20)⟩])
  (.seq (.reg [⟨(some 22), none, .ld true 2 (.t 4)⟩,
   ⟨(some 23), none, .mv (.t 0)⟩,
   ⟨(some 24), none, .bld [.nils, .nils, .int .i64 0, .nils, .int .i64 0, .int .i64 0, .int .i64 0, .int .i64 0] [(0, 2), (2, 1), (3, 1), (4, 1), (5, 1), (6, 1), (7, 1)] [(0, (.t 22)), (1, (.t 23)), (3, (.c (.int .i64 1))), (4, (.c (.int .i64 1))), (6, (.c (.int .i64 1)))]⟩,
   ⟨(some 25), none, .cl (.c (.fn 35 [])) [(.t 24), (.c (.int .i64 0))]⟩,
   ⟨(some 21), none, .mv (.t 25)⟩,
   ⟨(some 26), none, .ext (.t 21) 0⟩,
   ⟨(some 27), none, .ext (.t 21) 1⟩,
   ⟨(some 6), none, .al [.nils, .nils, .int .i64 0, .nils, .int .i64 0, .int .i64 0, .int .i64 0, .int .i64 0]⟩,
   ⟨none, none, .st 8 (.t 6) (.t 26)⟩,
   ⟨(some 7), none, .mv (.t 27)⟩])
  (.seq (.drw [⟨(some 29), none, .fa 0 (.t 6)⟩,
   ⟨(some 30), none, .ld true 2 (.t 29)⟩,
   ⟨(some 31), none, .ld true 8 (.t 6)⟩,
   ⟨(some 32), none, .cl (.c (.fn 37 [])) [(.t 31)]⟩,
   ⟨(some 33), none, .cl (.c (.fn 36 [])) [(.t 30), (.t 32)]⟩,
   ⟨(some 28), none, .mv (.t 33)⟩,
   ⟨(some 34), none, .ext (.t 28) 0⟩,
   ⟨(some 35), none, .ext (.t 28) 1⟩,
   ⟨(some 8), none, .al [.nils, .nils]⟩,
   ⟨none, none, .st 2 (.t 8) (.t 34)⟩,
   ⟨(some 9), none, .mv (.t 35)⟩] [.val [], .val [], .val [], .val [], .chn [], .val [], .val [], .val [], .flt 0, .chn [7], .val []])
  (.seq (.seq (.reg [⟨(some 36), none, .mv (.t 7)⟩,
   ⟨(some 37), none, .un .not (.t 36)⟩,
   ⟨(some 38), none, .mv (.t 37)⟩,
   ⟨(some 39), (some (38, false)), .mv (.t 9)⟩,
   ⟨(some 40), (some (38, false)), .un .not (.t 39)⟩,
   ⟨(some 41), none, .pick (.t 38) (.c (.bool true)) (.t 40)⟩])
  (.cond (.t 41)
    (.seq (.reg [⟨(some 42), none, .bld [.nils, .nils, .int .i64 0, .nils, .int .i64 0, .int .i64 0, .int .i64 0, .int .i64 0] [(0, 2), (2, 1), (3, 1), (4, 1), (5, 1), (6, 1), (7, 1)] []⟩,
     ⟨none, none, .st 8 (.t 2) (.t 42)⟩,
     ⟨(some 3), none, .mv (.c (.bool false))⟩])
    .ret)
    .skip))
  (.seq (.reg [⟨(some 43), none, .ld true 2 (.t 8)⟩,
   ⟨(some 44), none, .fa 0 (.t 6)⟩,
   ⟨none, none, .st 2 (.t 44) (.t 43)⟩])
  (.seq (.reg [⟨(some 45), none, .fa 6 (.t 6)⟩,
   ⟨none, none, .st 1 (.t 45) (.c (.int .i64 1))⟩])
  (.seq (.reg [⟨(some 46), none, .ld true 8 (.t 6)⟩,
   ⟨none, none, .st 8 (.t 2) (.t 46)⟩,
   ⟨(some 3), none, .mv (.c (.bool true))⟩])
  .ret)))))))))
theorem k_impl_FormatDisk : FnOk Tryz.prog 8 47 rc_impl_FormatDisk [.cell 2 true 8, .t 3] := ⟨Tryz.f8, _, [(5, [4, 1000008])], Tryz.func8, rfl, rfl, by kernel_rfl, by kernel_rfl, follows⟩
theorem ok_impl_FormatDisk : okF Tryz.prog 8 = true := by kernel_rfl
def rc_impl_StoreNew : RC :=
  (.seq (.reg [⟨(some 2), none, .al [.nils, .nils, .int .i64 0, .nils, .int .i64 0, .int .i64 0, .int .i64 0, .int .i64 0, .nils]⟩,
   ⟨(some 3), none, .mv (.c (.bool false))⟩])
  (.seq (.reg [⟨(some 7), none, .mv (.t 0)⟩,
   ⟨(some 8), none, .cl (.c (.fn 8 [])) [(.t 7)]⟩,
   ⟨(some 6), none, .mv (.t 8)⟩,
   ⟨(some 9), none, .ext (.t 6) 0⟩,
   ⟨(some 10), none, .ext (.t 6) 1⟩,
   ⟨(some 4), none, .al [.nils, .nils, .int .i64 0, .nils, .int .i64 0, .int .i64 0, .int .i64 0, .int .i64 0]⟩,
   ⟨none, none, .st 8 (.t 4) (.t 9)⟩,
   ⟨(some 5), none, .mv (.t 10)⟩])
  (.seq (.reg [⟨(some 11), none, .ld true 8 (.t 4)⟩,
   ⟨(some 12), none, .bld [.nils, .nils, .int .i64 0, .nils, .int .i64 0, .int .i64 0, .int .i64 0, .int .i64 0, .nils] [(0, 8), (8, 1)] [(0, (.t 11))]⟩,
   ⟨(some 13), none, .mv (.t 5)⟩,
   ⟨none, none, .st 9 (.t 2) (.t 12)⟩,
   ⟨(some 3), none, .mv (.t 13)⟩])
  .ret)))
theorem k_impl_StoreNew : FnOk Tryz.prog 13 14 rc_impl_StoreNew [.cell 2 true 9, .t 3] := ⟨Tryz.f13, _, [], Tryz.func13, rfl, rfl, by kernel_rfl, by kernel_rfl, follows⟩
theorem ok_impl_StoreNew : okF Tryz.prog 13 = true := by kernel_rfl
def rc_laws_eqIntS : RC :=
  (.seq (.reg [⟨(some 4), none, .mv (.c (.bool false))⟩])
  (.seq (.seq (.reg [⟨(some 6), none, .mv (.t 0)⟩,
   ⟨(some 7), none, .lenl (.t 6)⟩,
   ⟨(some 8), none, .mv (.t 1)⟩,
   ⟨(some 9), none, .lenl (.t 8)⟩,
   ⟨(some 10), none, .bin .neq (.t 7) (.t 9)⟩])
  (.cond (.t 10)
    (.seq (.reg [⟨(some 4), none, .mv (.c (.bool false))⟩])
    .ret)
    .skip))
  (.seq (.seq (.reg [⟨(some 5), none, .mv (.c (.int .i64 0))⟩])
  (.blk 0 (.loop (.seq (.seq (.reg [⟨(some 11), none, .mv (.t 5)⟩,
     ⟨(some 12), none, .mv (.t 0)⟩,
     ⟨(some 13), none, .lenl (.t 12)⟩,
     ⟨(some 14), none, .bin .lss (.t 11) (.t 13)⟩])
    (.cond (.t 14)
      .skip
      (.exit 0)))
    (.seq (.blk 1 (.seq (.drw [⟨(some 17), none, .mv (.t 0)⟩,
      ⟨(some 18), none, .mv (.t 5)⟩,
      ⟨(some 19), none, .ia 1 (.t 17) (.t 18)⟩,
      ⟨(some 20), none, .ld false 1 (.t 19)⟩,
      ⟨(some 21), none, .mv (.t 1)⟩,
      ⟨(some 22), none, .mv (.t 5)⟩,
      ⟨(some 23), none, .ia 1 (.t 21) (.t 22)⟩,
      ⟨(some 24), none, .ld false 1 (.t 23)⟩,
      ⟨(some 25), none, .bin .neq (.t 20) (.t 24)⟩] [.val [], .val [], .val [], .val [], .val [], .val [], .val [], .val [], .val []])
     (.cond (.t 25)
       (.seq (.reg [⟨(some 4), none, .mv (.c (.bool false))⟩])
       .ret)
       .skip)))
    (.reg [⟨(some 15), none, .mv (.t 5)⟩,
     ⟨(some 16), none, .bin .add (.t 15) (.c (.int .i64 1))⟩,
     ⟨(some 5), none, .mv (.t 16)⟩]))))))
  (.seq (.reg [⟨(some 4), none, .mv (.c (.bool true))⟩])
  .ret))))
theorem k_laws_eqIntS : FnOk Tryz.prog 44 26 rc_laws_eqIntS [.t 4] := ⟨Tryz.f44, _, [], Tryz.func44, rfl, rfl, by kernel_rfl, by kernel_rfl, follows⟩
theorem ok_laws_eqIntS : okF Tryz.prog 44 = true := by kernel_rfl
def rc_laws_eqStringS : RC :=
  (.seq (.reg [⟨(some 4), none, .mv (.c (.bool false))⟩])
  (.seq (.seq (.reg [⟨(some 6), none, .mv (.t 0)⟩,
   ⟨(some 7), none, .lenl (.t 6)⟩,
   ⟨(some 8), none, .mv (.t 1)⟩,
   ⟨(some 9), none, .lenl (.t 8)⟩,
   ⟨(some 10), none, .bin .neq (.t 7) (.t 9)⟩])
  (.cond (.t 10)
    (.seq (.reg [⟨(some 4), none, .mv (.c (.bool false))⟩])
    .ret)
    .skip))
  (.seq (.seq (.reg [⟨(some 5), none, .mv (.c (.int .i64 0))⟩])
  (.blk 0 (.loop (.seq (.seq (.reg [⟨(some 11), none, .mv (.t 5)⟩,
     ⟨(some 12), none, .mv (.t 0)⟩,
     ⟨(some 13), none, .lenl (.t 12)⟩,
     ⟨(some 14), none, .bin .lss (.t 11) (.t 13)⟩])
    (.cond (.t 14)
      .skip
      (.exit 0)))
    (.seq (.blk 1 (.seq (.drw [⟨(some 17), none, .mv (.t 0)⟩,
      ⟨(some 18), none, .mv (.t 5)⟩,
      ⟨(some 19), none, .ia 1 (.t 17) (.t 18)⟩,
      ⟨(some 20), none, .ld false 1 (.t 19)⟩,
      ⟨(some 21), none, .mv (.t 1)⟩,
      ⟨(some 22), none, .mv (.t 5)⟩,
      ⟨(some 23), none, .ia 1 (.t 21) (.t 22)⟩,
      ⟨(some 24), none, .ld false 1 (.t 23)⟩,
      ⟨(some 25), none, .bin .neq (.t 20) (.t 24)⟩] [.val [], .val [], .val [], .val [], .val [], .val [], .val [], .val [], .val []])
     (.cond (.t 25)
       (.seq (.reg [⟨(some 4), none, .mv (.c (.bool false))⟩])
       .ret)
       .skip)))
    (.reg [⟨(some 15), none, .mv (.t 5)⟩,
     ⟨(some 16), none, .bin .add (.t 15) (.c (.int .i64 1))⟩,
     ⟨(some 5), none, .mv (.t 16)⟩]))))))
  (.seq (.reg [⟨(some 4), none, .mv (.c (.bool true))⟩])
  .ret))))
theorem k_laws_eqStringS : FnOk Tryz.prog 82 26 rc_laws_eqStringS [.t 4] := ⟨Tryz.f82, _, [], Tryz.func82, rfl, rfl, by kernel_rfl, by kernel_rfl, follows⟩
theorem ok_laws_eqStringS : okF Tryz.prog 82 = true := by kernel_rfl
def rc_laws_eqWrite : RC :=
  (.seq (.reg [⟨(some 2), none, .bx (.t 0)⟩,
   ⟨(some 3), none, .bx (.t 1)⟩,
   ⟨(some 4), none, .mv (.c (.bool false))⟩])
  (.seq (.seq (.reg [⟨(some 5), none, .fa 0 (.t 2)⟩,
   ⟨(some 6), none, .ld false 1 (.t 5)⟩,
   ⟨(some 7), none, .fa 0 (.t 3)⟩,
   ⟨(some 8), none, .ld false 1 (.t 7)⟩,
   ⟨(some 9), none, .bin .neq (.t 6) (.t 8)⟩])
  (.cond (.t 9)
    (.seq (.reg [⟨(some 4), none, .mv (.c (.bool false))⟩])
    .ret)
    .skip))
  (.seq (.seq (.reg [⟨(some 10), none, .fa 1 (.t 2)⟩,
   ⟨(some 11), none, .ld false 1 (.t 10)⟩,
   ⟨(some 12), none, .fa 1 (.t 3)⟩,
   ⟨(some 13), none, .ld false 1 (.t 12)⟩,
   ⟨(some 14), none, .bin .neq (.t 11) (.t 13)⟩])
  (.cond (.t 14)
    (.seq (.reg [⟨(some 4), none, .mv (.c (.bool false))⟩])
    .ret)
    .skip))
  (.seq (.reg [⟨(some 4), none, .mv (.c (.bool true))⟩])
  .ret))))
theorem k_laws_eqWrite : FnOk Tryz.prog 148 15 rc_laws_eqWrite [.t 4] := ⟨Tryz.f148, _, [], Tryz.func148, rfl, rfl, by kernel_rfl, by kernel_rfl, follows⟩
theorem ok_laws_eqWrite : okF Tryz.prog 148 = true := by kernel_rfl
def rc_laws_eqWriteS : RC :=
  (.seq (.reg [⟨(some 4), none, .mv (.c (.bool false))⟩])
  (.seq (.seq (.reg [⟨(some 6), none, .mv (.t 0)⟩,
   ⟨(some 7), none, .lenl (.t 6)⟩,
   ⟨(some 8), none, .mv (.t 1)⟩,
   ⟨(some 9), none, .lenl (.t 8)⟩,
   ⟨(some 10), none, .bin .neq (.t 7) (.t 9)⟩])
  (.cond (.t 10)
    (.seq (.reg [⟨(some 4), none, .mv (.c (.bool false))⟩])
    .ret)
    .skip))
  (.seq (.seq (.reg [⟨(some 5), none, .mv (.c (.int .i64 0))⟩])
  (.blk 0 (.loop (.seq (.seq (.reg [⟨(some 11), none, .mv (.t 5)⟩,
     ⟨(some 12), none, .mv (.t 0)⟩,
     ⟨(some 13), none, .lenl (.t 12)⟩,
     ⟨(some 14), none, .bin .lss (.t 11) (.t 13)⟩])
    (.cond (.t 14)
      .skip
      (.exit 0)))
    (.seq (.blk 1 (.seq (.drw [⟨(some 17), none, .mv (.t 0)⟩,
      ⟨(some 18), none, .mv (.t 5)⟩,
      ⟨(some 19), none, .ia 2 (.t 17) (.t 18)⟩,
      ⟨(some 20), none, .ld true 2 (.t 19)⟩,
      ⟨(some 21), none, .mv (.t 1)⟩,
      ⟨(some 22), none, .mv (.t 5)⟩,
      ⟨(some 23), none, .ia 2 (.t 21) (.t 22)⟩,
      ⟨(some 24), none, .ld true 2 (.t 23)⟩,
      ⟨(some 25), none, .cl (.c (.fn 148 [])) [(.t 20), (.t 24)]⟩,
      ⟨(some 26), none, .un .not (.t 25)⟩] [.val [], .val [], .val [], .val [], .val [], .val [], .val [], .val [], .val [], .val []])
     (.cond (.t 26)
       (.seq (.reg [⟨(some 4), none, .mv (.c (.bool false))⟩])
       .ret)
       .skip)))
    (.reg [⟨(some 15), none, .mv (.t 5)⟩,
     ⟨(some 16), none, .bin .add (.t 15) (.c (.int .i64 1))⟩,
     ⟨(some 5), none, .mv (.t 16)⟩]))))))
  (.seq (.reg [⟨(some 4), none, .mv (.c (.bool true))⟩])
  .ret))))
theorem k_laws_eqWriteS : FnOk Tryz.prog 83 27 rc_laws_eqWriteS [.t 4] := ⟨Tryz.f83, _, [], Tryz.func83, rfl, rfl, by kernel_rfl, by kernel_rfl, follows⟩
theorem ok_laws_eqWriteS : okF Tryz.prog 83 = true := by kernel_rfl
def rc_laws_eqDisk : RC :=
  (.seq (.reg [⟨(some 2), none, .bx (.t 0)⟩,
   ⟨(some 3), none, .bx (.t 1)⟩,
   ⟨(some 4), none, .mv (.c (.bool false))⟩])
  (.seq (.seq (.reg [⟨(some 5), none, .fa 0 (.t 2)⟩,
   ⟨(some 6), none, .ld false 1 (.t 5)⟩,
   ⟨(some 7), none, .fa 0 (.t 3)⟩,
   ⟨(some 8), none, .ld false 1 (.t 7)⟩,
   ⟨(some 9), none, .cl (.c (.fn 82 [])) [(.t 6), (.t 8)]⟩,
   ⟨(some 10), none, .un .not (.t 9)⟩])
  (.cond (.t 10)
    (.seq (.reg [⟨(some 4), none, .mv (.c (.bool false))⟩])
    .ret)
    .skip))
  (.seq (.seq (.reg [⟨(some 11), none, .fa 1 (.t 2)⟩,
   ⟨(some 12), none, .ld false 1 (.t 11)⟩,
   ⟨(some 13), none, .fa 1 (.t 3)⟩,
   ⟨(some 14), none, .ld false 1 (.t 13)⟩,
   ⟨(some 15), none, .cl (.c (.fn 83 [])) [(.t 12), (.t 14)]⟩,
   ⟨(some 16), none, .un .not (.t 15)⟩])
  (.cond (.t 16)
    (.seq (.reg [⟨(some 4), none, .mv (.c (.bool false))⟩])
    .ret)
    .skip))
  (.seq (.reg [⟨(some 4), none, .mv (.c (.bool true))⟩])
  .ret))))
theorem k_laws_eqDisk : FnOk Tryz.prog 38 17 rc_laws_eqDisk [.t 4] := ⟨Tryz.f38, _, [], Tryz.func38, rfl, rfl, by kernel_rfl, by kernel_rfl, follows⟩
theorem ok_laws_eqDisk : okF Tryz.prog 38 = true := by kernel_rfl
def rc_laws_eqRec : RC :=
  (.seq (.reg [⟨(some 2), none, .bx (.t 0)⟩,
   ⟨(some 3), none, .bx (.t 1)⟩,
   ⟨(some 4), none, .mv (.c (.bool false))⟩])
  (.seq (.seq (.reg [⟨(some 5), none, .fa 0 (.t 2)⟩,
   ⟨(some 6), none, .ld false 1 (.t 5)⟩,
   ⟨(some 7), none, .fa 0 (.t 3)⟩,
   ⟨(some 8), none, .ld false 1 (.t 7)⟩,
   ⟨(some 9), none, .bin .neq (.t 6) (.t 8)⟩])
  (.cond (.t 9)
    (.seq (.reg [⟨(some 4), none, .mv (.c (.bool false))⟩])
    .ret)
    .skip))
  (.seq (.seq (.reg [⟨(some 10), none, .fa 1 (.t 2)⟩,
   ⟨(some 11), none, .ld false 1 (.t 10)⟩,
   ⟨(some 12), none, .fa 1 (.t 3)⟩,
   ⟨(some 13), none, .ld false 1 (.t 12)⟩,
   ⟨(some 14), none, .bin .neq (.t 11) (.t 13)⟩])
  (.cond (.t 14)
    (.seq (.reg [⟨(some 4), none, .mv (.c (.bool false))⟩])
    .ret)
    .skip))
  (.seq (.seq (.reg [⟨(some 15), none, .fa 2 (.t 2)⟩,
   ⟨(some 16), none, .ld false 1 (.t 15)⟩,
   ⟨(some 17), none, .fa 2 (.t 3)⟩,
   ⟨(some 18), none, .ld false 1 (.t 17)⟩,
   ⟨(some 19), none, .bin .neq (.t 16) (.t 18)⟩])
  (.cond (.t 19)
    (.seq (.reg [⟨(some 4), none, .mv (.c (.bool false))⟩])
    .ret)
    .skip))
  (.seq (.seq (.reg [⟨(some 20), none, .fa 3 (.t 2)⟩,
   ⟨(some 21), none, .ld false 1 (.t 20)⟩,
   ⟨(some 22), none, .fa 3 (.t 3)⟩,
   ⟨(some 23), none, .ld false 1 (.t 22)⟩,
   ⟨(some 24), none, .bin .neq (.t 21) (.t 23)⟩])
  (.cond (.t 24)
    (.seq (.reg [⟨(some 4), none, .mv (.c (.bool false))⟩])
    .ret)
    .skip))
  (.seq (.seq (.reg [⟨(some 25), none, .fa 4 (.t 2)⟩,
   ⟨(some 26), none, .ld false 1 (.t 25)⟩,
   ⟨(some 27), none, .fa 4 (.t 3)⟩,
   ⟨(some 28), none, .ld false 1 (.t 27)⟩,
   ⟨(some 29), none, .bin .neq (.t 26) (.t 28)⟩])
  (.cond (.t 29)
    (.seq (.reg [⟨(some 4), none, .mv (.c (.bool false))⟩])
    .ret)
    .skip))
  (.seq (.seq (.reg [⟨(some 30), none, .fa 5 (.t 2)⟩,
   ⟨(some 31), none, .ld false 1 (.t 30)⟩,
   ⟨(some 32), none, .fa 5 (.t 3)⟩,
   ⟨(some 33), none, .ld false 1 (.t 32)⟩,
   ⟨(some 34), none, .bin .neq (.t 31) (.t 33)⟩])
  (.cond (.t 34)
    (.seq (.reg [⟨(some 4), none, .mv (.c (.bool false))⟩])
    .ret)
    .skip))
  (.seq (.seq (.reg [⟨(some 35), none, .fa 6 (.t 2)⟩,
   ⟨(some 36), none, .ld false 1 (.t 35)⟩,
   ⟨(some 37), none, .fa 6 (.t 3)⟩,
   ⟨(some 38), none, .ld false 1 (.t 37)⟩,
   ⟨(some 39), none, .bin .neq (.t 36) (.t 38)⟩])
  (.cond (.t 39)
    (.seq (.reg [⟨(some 4), none, .mv (.c (.bool false))⟩])
    .ret)
    .skip))
  (.seq (.seq (.reg [⟨(some 40), none, .fa 7 (.t 2)⟩,
   ⟨(some 41), none, .ld false 1 (.t 40)⟩,
   ⟨(some 42), none, .fa 7 (.t 3)⟩,
   ⟨(some 43), none, .ld false 1 (.t 42)⟩,
   ⟨(some 44), none, .bin .neq (.t 41) (.t 43)⟩])
  (.cond (.t 44)
    (.seq (.reg [⟨(some 4), none, .mv (.c (.bool false))⟩])
    .ret)
    .skip))
  (.seq (.reg [⟨(some 4), none, .mv (.c (.bool true))⟩])
  .ret))))))))))
theorem k_laws_eqRec : FnOk Tryz.prog 213 45 rc_laws_eqRec [.t 4] := ⟨Tryz.f213, _, [], Tryz.func213, rfl, rfl, by kernel_rfl, by kernel_rfl, follows⟩
theorem ok_laws_eqRec : okF Tryz.prog 213 = true := by kernel_rfl
def rc_laws_eqItem : RC :=
  (.seq (.reg [⟨(some 2), none, .bx (.t 0)⟩,
   ⟨(some 3), none, .bx (.t 1)⟩,
   ⟨(some 4), none, .mv (.c (.bool false))⟩])
  (.seq (.seq (.reg [⟨(some 5), none, .fa 0 (.t 2)⟩,
   ⟨(some 6), none, .ld false 1 (.t 5)⟩,
   ⟨(some 7), none, .fa 0 (.t 3)⟩,
   ⟨(some 8), none, .ld false 1 (.t 7)⟩,
   ⟨(some 9), none, .bin .neq (.t 6) (.t 8)⟩])
  (.cond (.t 9)
    (.seq (.reg [⟨(some 4), none, .mv (.c (.bool false))⟩])
    .ret)
    .skip))
  (.seq (.seq (.reg [⟨(some 10), none, .fa 1 (.t 2)⟩,
   ⟨(some 11), none, .ld true 8 (.t 10)⟩,
   ⟨(some 12), none, .fa 1 (.t 3)⟩,
   ⟨(some 13), none, .ld true 8 (.t 12)⟩,
   ⟨(some 14), none, .cl (.c (.fn 213 [])) [(.t 11), (.t 13)]⟩,
   ⟨(some 15), none, .un .not (.t 14)⟩])
  (.cond (.t 15)
    (.seq (.reg [⟨(some 4), none, .mv (.c (.bool false))⟩])
    .ret)
    .skip))
  (.seq (.reg [⟨(some 4), none, .mv (.c (.bool true))⟩])
  .ret))))
theorem k_laws_eqItem : FnOk Tryz.prog 192 16 rc_laws_eqItem [.t 4] := ⟨Tryz.f192, _, [], Tryz.func192, rfl, rfl, by kernel_rfl, by kernel_rfl, follows⟩
theorem ok_laws_eqItem : okF Tryz.prog 192 = true := by kernel_rfl
def rc_laws_eqItemS : RC :=
  (.seq (.reg [⟨(some 4), none, .mv (.c (.bool false))⟩])
  (.seq (.seq (.reg [⟨(some 6), none, .mv (.t 0)⟩,
   ⟨(some 7), none, .lenl (.t 6)⟩,
   ⟨(some 8), none, .mv (.t 1)⟩,
   ⟨(some 9), none, .lenl (.t 8)⟩,
   ⟨(some 10), none, .bin .neq (.t 7) (.t 9)⟩])
  (.cond (.t 10)
    (.seq (.reg [⟨(some 4), none, .mv (.c (.bool false))⟩])
    .ret)
    .skip))
  (.seq (.seq (.reg [⟨(some 5), none, .mv (.c (.int .i64 0))⟩])
  (.blk 0 (.loop (.seq (.seq (.reg [⟨(some 11), none, .mv (.t 5)⟩,
     ⟨(some 12), none, .mv (.t 0)⟩,
     ⟨(some 13), none, .lenl (.t 12)⟩,
     ⟨(some 14), none, .bin .lss (.t 11) (.t 13)⟩])
    (.cond (.t 14)
      .skip
      (.exit 0)))
    (.seq (.blk 1 (.seq (.drw [⟨(some 17), none, .mv (.t 0)⟩,
      ⟨(some 18), none, .mv (.t 5)⟩,
      ⟨(some 19), none, .ia 9 (.t 17) (.t 18)⟩,
      ⟨(some 20), none, .ld true 9 (.t 19)⟩,
      ⟨(some 21), none, .mv (.t 1)⟩,
      ⟨(some 22), none, .mv (.t 5)⟩,
      ⟨(some 23), none, .ia 9 (.t 21) (.t 22)⟩,
      ⟨(some 24), none, .ld true 9 (.t 23)⟩,
      ⟨(some 25), none, .cl (.c (.fn 192 [])) [(.t 20), (.t 24)]⟩,
      ⟨(some 26), none, .un .not (.t 25)⟩] [.val [], .val [], .val [], .val [], .val [], .val [], .val [], .val [], .val [], .val []])
     (.cond (.t 26)
       (.seq (.reg [⟨(some 4), none, .mv (.c (.bool false))⟩])
       .ret)
       .skip)))
    (.reg [⟨(some 15), none, .mv (.t 5)⟩,
     ⟨(some 16), none, .bin .add (.t 15) (.c (.int .i64 1))⟩,
     ⟨(some 5), none, .mv (.t 16)⟩]))))))
  (.seq (.reg [⟨(some 4), none, .mv (.c (.bool true))⟩])
  .ret))))
theorem k_laws_eqItemS : FnOk Tryz.prog 149 27 rc_laws_eqItemS [.t 4] := ⟨Tryz.f149, _, [], Tryz.func149, rfl, rfl, by kernel_rfl, by kernel_rfl, follows⟩
theorem ok_laws_eqItemS : okF Tryz.prog 149 = true := by kernel_rfl
def rc_laws_eqSeg : RC :=
  (.seq (.reg [⟨(some 2), none, .bx (.t 0)⟩,
   ⟨(some 3), none, .bx (.t 1)⟩,
   ⟨(some 4), none, .mv (.c (.bool false))⟩])
  (.seq (.seq (.reg [⟨(some 5), none, .fa 0 (.t 2)⟩,
   ⟨(some 6), none, .ld false 1 (.t 5)⟩,
   ⟨(some 7), none, .fa 0 (.t 3)⟩,
   ⟨(some 8), none, .ld false 1 (.t 7)⟩,
   ⟨(some 9), none, .bin .neq (.t 6) (.t 8)⟩])
  (.cond (.t 9)
    (.seq (.reg [⟨(some 4), none, .mv (.c (.bool false))⟩])
    .ret)
    .skip))
  (.seq (.seq (.reg [⟨(some 10), none, .fa 1 (.t 2)⟩,
   ⟨(some 11), none, .ld false 1 (.t 10)⟩,
   ⟨(some 12), none, .fa 1 (.t 3)⟩,
   ⟨(some 13), none, .ld false 1 (.t 12)⟩,
   ⟨(some 14), none, .bin .neq (.t 11) (.t 13)⟩])
  (.cond (.t 14)
    (.seq (.reg [⟨(some 4), none, .mv (.c (.bool false))⟩])
    .ret)
    .skip))
  (.seq (.seq (.reg [⟨(some 15), none, .fa 2 (.t 2)⟩,
   ⟨(some 16), none, .ld false 1 (.t 15)⟩,
   ⟨(some 17), none, .fa 2 (.t 3)⟩,
   ⟨(some 18), none, .ld false 1 (.t 17)⟩,
   ⟨(some 19), none, .bin .neq (.t 16) (.t 18)⟩])
  (.cond (.t 19)
    (.seq (.reg [⟨(some 4), none, .mv (.c (.bool false))⟩])
    .ret)
    .skip))
  (.seq (.seq (.reg [⟨(some 20), none, .fa 3 (.t 2)⟩,
   ⟨(some 21), none, .ld false 1 (.t 20)⟩,
   ⟨(some 22), none, .fa 3 (.t 3)⟩,
   ⟨(some 23), none, .ld false 1 (.t 22)⟩,
   ⟨(some 24), none, .cl (.c (.fn 149 [])) [(.t 21), (.t 23)]⟩,
   ⟨(some 25), none, .un .not (.t 24)⟩])
  (.cond (.t 25)
    (.seq (.reg [⟨(some 4), none, .mv (.c (.bool false))⟩])
    .ret)
    .skip))
  (.seq (.reg [⟨(some 4), none, .mv (.c (.bool true))⟩])
  .ret))))))
theorem k_laws_eqSeg : FnOk Tryz.prog 84 26 rc_laws_eqSeg [.t 4] := ⟨Tryz.f84, _, [], Tryz.func84, rfl, rfl, by kernel_rfl, by kernel_rfl, follows⟩
theorem ok_laws_eqSeg : okF Tryz.prog 84 = true := by kernel_rfl
def rc_laws_eqSegS : RC :=
  (.seq (.reg [⟨(some 4), none, .mv (.c (.bool false))⟩])
  (.seq (.seq (.reg [⟨(some 6), none, .mv (.t 0)⟩,
   ⟨(some 7), none, .lenl (.t 6)⟩,
   ⟨(some 8), none, .mv (.t 1)⟩,
   ⟨(some 9), none, .lenl (.t 8)⟩,
   ⟨(some 10), none, .bin .neq (.t 7) (.t 9)⟩])
  (.cond (.t 10)
    (.seq (.reg [⟨(some 4), none, .mv (.c (.bool false))⟩])
    .ret)
    .skip))
  (.seq (.seq (.reg [⟨(some 5), none, .mv (.c (.int .i64 0))⟩])
  (.blk 0 (.loop (.seq (.seq (.reg [⟨(some 11), none, .mv (.t 5)⟩,
     ⟨(some 12), none, .mv (.t 0)⟩,
     ⟨(some 13), none, .lenl (.t 12)⟩,
     ⟨(some 14), none, .bin .lss (.t 11) (.t 13)⟩])
    (.cond (.t 14)
      .skip
      (.exit 0)))
    (.seq (.blk 1 (.seq (.drw [⟨(some 17), none, .mv (.t 0)⟩,
      ⟨(some 18), none, .mv (.t 5)⟩,
      ⟨(some 19), none, .ia 4 (.t 17) (.t 18)⟩,
      ⟨(some 20), none, .ld true 4 (.t 19)⟩,
      ⟨(some 21), none, .mv (.t 1)⟩,
      ⟨(some 22), none, .mv (.t 5)⟩,
      ⟨(some 23), none, .ia 4 (.t 21) (.t 22)⟩,
      ⟨(some 24), none, .ld true 4 (.t 23)⟩,
      ⟨(some 25), none, .cl (.c (.fn 84 [])) [(.t 20), (.t 24)]⟩,
      ⟨(some 26), none, .un .not (.t 25)⟩] [.val [], .val [], .val [], .val [], .val [], .val [], .val [], .val [], .val [], .val []])
     (.cond (.t 26)
       (.seq (.reg [⟨(some 4), none, .mv (.c (.bool false))⟩])
       .ret)
       .skip)))
    (.reg [⟨(some 15), none, .mv (.t 5)⟩,
     ⟨(some 16), none, .bin .add (.t 15) (.c (.int .i64 1))⟩,
     ⟨(some 5), none, .mv (.t 16)⟩]))))))
  (.seq (.reg [⟨(some 4), none, .mv (.c (.bool true))⟩])
  .ret))))
theorem k_laws_eqSegS : FnOk Tryz.prog 39 27 rc_laws_eqSegS [.t 4] := ⟨Tryz.f39, _, [], Tryz.func39, rfl, rfl, by kernel_rfl, by kernel_rfl, follows⟩
theorem ok_laws_eqSegS : okF Tryz.prog 39 = true := by kernel_rfl
def rc_laws_eqLog : RC :=
  (.seq (.reg [⟨(some 2), none, .bx (.t 0)⟩,
   ⟨(some 3), none, .bx (.t 1)⟩,
   ⟨(some 4), none, .mv (.c (.bool false))⟩])
  (.seq (.seq (.reg [⟨(some 5), none, .fa 0 (.t 2)⟩,
   ⟨(some 6), none, .ld true 2 (.t 5)⟩,
   ⟨(some 7), none, .fa 0 (.t 3)⟩,
   ⟨(some 8), none, .ld true 2 (.t 7)⟩,
   ⟨(some 9), none, .cl (.c (.fn 38 [])) [(.t 6), (.t 8)]⟩,
   ⟨(some 10), none, .un .not (.t 9)⟩])
  (.cond (.t 10)
    (.seq (.reg [⟨(some 4), none, .mv (.c (.bool false))⟩])
    .ret)
    .skip))
  (.seq (.seq (.reg [⟨(some 11), none, .fa 2 (.t 2)⟩,
   ⟨(some 12), none, .ld false 1 (.t 11)⟩,
   ⟨(some 13), none, .fa 2 (.t 3)⟩,
   ⟨(some 14), none, .ld false 1 (.t 13)⟩,
   ⟨(some 15), none, .bin .neq (.t 12) (.t 14)⟩])
  (.cond (.t 15)
    (.seq (.reg [⟨(some 4), none, .mv (.c (.bool false))⟩])
    .ret)
    .skip))
  (.seq (.seq (.reg [⟨(some 16), none, .fa 3 (.t 2)⟩,
   ⟨(some 17), none, .ld false 1 (.t 16)⟩,
   ⟨(some 18), none, .fa 3 (.t 3)⟩,
   ⟨(some 19), none, .ld false 1 (.t 18)⟩,
   ⟨(some 20), none, .cl (.c (.fn 39 [])) [(.t 17), (.t 19)]⟩,
   ⟨(some 21), none, .un .not (.t 20)⟩])
  (.cond (.t 21)
    (.seq (.reg [⟨(some 4), none, .mv (.c (.bool false))⟩])
    .ret)
    .skip))
  (.seq (.seq (.reg [⟨(some 22), none, .fa 4 (.t 2)⟩,
   ⟨(some 23), none, .ld false 1 (.t 22)⟩,
   ⟨(some 24), none, .fa 4 (.t 3)⟩,
   ⟨(some 25), none, .ld false 1 (.t 24)⟩,
   ⟨(some 26), none, .bin .neq (.t 23) (.t 25)⟩])
  (.cond (.t 26)
    (.seq (.reg [⟨(some 4), none, .mv (.c (.bool false))⟩])
    .ret)
    .skip))
  (.seq (.seq (.reg [⟨(some 27), none, .fa 5 (.t 2)⟩,
   ⟨(some 28), none, .ld false 1 (.t 27)⟩,
   ⟨(some 29), none, .fa 5 (.t 3)⟩,
   ⟨(some 30), none, .ld false 1 (.t 29)⟩,
   ⟨(some 31), none, .bin .neq (.t 28) (.t 30)⟩])
  (.cond (.t 31)
    (.seq (.reg [⟨(some 4), none, .mv (.c (.bool false))⟩])
    .ret)
    .skip))
  (.seq (.seq (.reg [⟨(some 32), none, .fa 6 (.t 2)⟩,
   ⟨(some 33), none, .ld false 1 (.t 32)⟩,
   ⟨(some 34), none, .fa 6 (.t 3)⟩,
   ⟨(some 35), none, .ld false 1 (.t 34)⟩,
   ⟨(some 36), none, .bin .neq (.t 33) (.t 35)⟩])
  (.cond (.t 36)
    (.seq (.reg [⟨(some 4), none, .mv (.c (.bool false))⟩])
    .ret)
    .skip))
  (.seq (.seq (.reg [⟨(some 37), none, .fa 7 (.t 2)⟩,
   ⟨(some 38), none, .ld false 1 (.t 37)⟩,
   ⟨(some 39), none, .fa 7 (.t 3)⟩,
   ⟨(some 40), none, .ld false 1 (.t 39)⟩,
   ⟨(some 41), none, .bin .neq (.t 38) (.t 40)⟩])
  (.cond (.t 41)
    (.seq (.reg [⟨(some 4), none, .mv (.c (.bool false))⟩])
    .ret)
    .skip))
  (.seq (.reg [⟨(some 4), none, .mv (.c (.bool true))⟩])
  .ret)))))))))
theorem k_laws_eqLog : FnOk Tryz.prog 9 42 rc_laws_eqLog [.t 4] := ⟨Tryz.f9, _, [], Tryz.func9, rfl, rfl, by kernel_rfl, by kernel_rfl, follows⟩
theorem ok_laws_eqLog : okF Tryz.prog 9 = true := by kernel_rfl
def rc_laws_eqStore : RC :=
  (.seq (.reg [⟨(some 2), none, .bx (.t 0)⟩,
   ⟨(some 3), none, .bx (.t 1)⟩,
   ⟨(some 4), none, .mv (.c (.bool false))⟩])
  (.seq (.seq (.reg [⟨(some 5), none, .fa 0 (.t 2)⟩,
   ⟨(some 6), none, .ld true 8 (.t 5)⟩,
   ⟨(some 7), none, .fa 0 (.t 3)⟩,
   ⟨(some 8), none, .ld true 8 (.t 7)⟩,
   ⟨(some 9), none, .cl (.c (.fn 9 [])) [(.t 6), (.t 8)]⟩,
   ⟨(some 10), none, .un .not (.t 9)⟩])
  (.cond (.t 10)
    (.seq (.reg [⟨(some 4), none, .mv (.c (.bool false))⟩])
    .ret)
    .skip))
  (.seq (.seq (.reg [⟨(some 11), none, .fa 8 (.t 2)⟩,
   ⟨(some 12), none, .ld false 1 (.t 11)⟩,
   ⟨(some 13), none, .fa 8 (.t 3)⟩,
   ⟨(some 14), none, .ld false 1 (.t 13)⟩,
   ⟨(some 15), none, .cl (.c (.fn 44 [])) [(.t 12), (.t 14)]⟩,
   ⟨(some 16), none, .un .not (.t 15)⟩])
  (.cond (.t 16)
    (.seq (.reg [⟨(some 4), none, .mv (.c (.bool false))⟩])
    .ret)
    .skip))
  (.seq (.reg [⟨(some 4), none, .mv (.c (.bool true))⟩])
  .ret))))
theorem k_laws_eqStore : FnOk Tryz.prog 14 17 rc_laws_eqStore [.t 4] := ⟨Tryz.f14, _, [], Tryz.func14, rfl, rfl, by kernel_rfl, by kernel_rfl, follows⟩
theorem ok_laws_eqStore : okF Tryz.prog 14 = true := by kernel_rfl
def rc_laws_markText : RC :=
  (.seq (.reg [⟨(some 2), none, .mv (.c (.str []))⟩])
  (.seq (.seq (.reg [⟨(some 4), none, .mv (.t 0)⟩,
   ⟨(some 5), none, .bin .leq (.t 4) (.c (.int .i64 0))⟩])
  (.cond (.t 5)
    (.seq (.reg [⟨(some 2), none, .mv (.c (.str [109, 48]))⟩])
    .ret)
    .skip))
  (.seq (.reg [⟨(some 3), none, .mv (.c (.str []))⟩])
  (.seq (.blk 0 (.loop (.seq (.seq (.reg [⟨(some 6), none, .mv (.t 0)⟩,
     ⟨(some 7), none, .bin .gtr (.t 6) (.c (.int .i64 0))⟩])
    (.cond (.t 7)
      .skip
      (.exit 0)))
    (.blk 1 (.seq (.reg [⟨(some 8), none, .mv (.t 0)⟩,
      ⟨(some 9), none, .bin .rem (.t 8) (.c (.int .i64 10))⟩,
      ⟨(some 10), none, .bin .add (.c (.int .i64 48)) (.t 9)⟩,
      ⟨(some 11), none, .cvi .u8 (.t 10)⟩,
      ⟨(some 12), none, .bs 1 [.int .u8 0] 1 [(0, (.t 11))]⟩,
      ⟨(some 13), none, .cvb (.t 12)⟩,
      ⟨(some 14), none, .mv (.t 3)⟩,
      ⟨(some 15), none, .bin .add (.t 13) (.t 14)⟩,
      ⟨(some 3), none, .mv (.t 15)⟩])
     (.reg [⟨(some 16), none, .mv (.t 0)⟩,
      ⟨(some 17), none, .bin .quo (.t 16) (.c (.int .i64 10))⟩,
      ⟨(some 0), none, .mv (.t 17)⟩]))))))
  (.seq (.reg [⟨(some 18), none, .mv (.t 3)⟩,
   ⟨(some 19), none, .bin .add (.c (.str [109])) (.t 18)⟩,
   ⟨(some 2), none, .mv (.t 19)⟩])
  .ret)))))
theorem k_laws_markText : FnOk Tryz.prog 107 20 rc_laws_markText [.t 2] := ⟨Tryz.f107, _, [], Tryz.func107, rfl, rfl, by kernel_rfl, by kernel_rfl, follows⟩
theorem ok_laws_markText : okF Tryz.prog 107 = true := by kernel_rfl
def rc_laws_markStringS : RC :=
  (.seq (.reg [⟨(some 4), none, .mv (.c (.int .i64 0))⟩])
  (.seq (.seq (.reg [⟨(some 5), none, .mv (.c (.int .i64 0))⟩])
  (.blk 0 (.loop (.seq (.seq (.reg [⟨(some 6), none, .mv (.t 5)⟩,
     ⟨(some 7), none, .mv (.t 0)⟩,
     ⟨(some 8), none, .lenl (.t 7)⟩,
     ⟨(some 9), none, .bin .lss (.t 6) (.t 8)⟩])
    (.cond (.t 9)
      .skip
      (.exit 0)))
    (.seq (.blk 1 (.seq (.reg [⟨(some 12), none, .mv (.t 0)⟩,
      ⟨(some 13), none, .mv (.t 5)⟩,
      ⟨(some 14), none, .mv (.t 1)⟩,
      ⟨(some 15), none, .cl (.c (.fn 107 [])) [(.t 14)]⟩,
      ⟨(some 16), none, .ia 1 (.t 12) (.t 13)⟩,
      ⟨none, none, .st 1 (.t 16) (.t 15)⟩])
     (.reg [⟨(some 17), none, .mv (.t 1)⟩,
      ⟨(some 18), none, .bin .add (.t 17) (.c (.int .i64 1))⟩,
      ⟨(some 1), none, .mv (.t 18)⟩])))
    (.reg [⟨(some 10), none, .mv (.t 5)⟩,
     ⟨(some 11), none, .bin .add (.t 10) (.c (.int .i64 1))⟩,
     ⟨(some 5), none, .mv (.t 11)⟩]))))))
  (.seq (.reg [⟨(some 19), none, .mv (.t 1)⟩,
   ⟨(some 4), none, .mv (.t 19)⟩])
  .ret)))
theorem k_laws_markStringS : FnOk Tryz.prog 85 20 rc_laws_markStringS [.t 4] := ⟨Tryz.f85, _, [], Tryz.func85, rfl, rfl, by kernel_rfl, by kernel_rfl, follows⟩
theorem ok_laws_markStringS : okF Tryz.prog 85 = true := by kernel_rfl
def rc_laws_markWriteS : RC :=
  (.seq (.reg [⟨(some 4), none, .mv (.c (.int .i64 0))⟩])
  (.seq (.seq (.reg [⟨(some 5), none, .mv (.c (.int .i64 0))⟩])
  (.blk 0 (.loop (.seq (.seq (.reg [⟨(some 6), none, .mv (.t 5)⟩,
     ⟨(some 7), none, .mv (.t 0)⟩,
     ⟨(some 8), none, .lenl (.t 7)⟩,
     ⟨(some 9), none, .bin .lss (.t 6) (.t 8)⟩])
    (.cond (.t 9)
      .skip
      (.exit 0)))
    (.seq (.blk 1 (.seq (.reg [⟨(some 12), none, .mv (.t 0)⟩,
      ⟨(some 13), none, .mv (.t 5)⟩,
      ⟨(some 14), none, .mv (.t 1)⟩,
      ⟨(some 15), none, .ia 2 (.t 12) (.t 13)⟩,
      ⟨(some 16), none, .fa 0 (.t 15)⟩,
      ⟨none, none, .st 1 (.t 16) (.t 14)⟩])
     (.seq (.reg [⟨(some 17), none, .mv (.t 1)⟩,
      ⟨(some 18), none, .bin .add (.t 17) (.c (.int .i64 1))⟩,
      ⟨(some 1), none, .mv (.t 18)⟩])
     (.seq (.reg [⟨(some 19), none, .mv (.t 0)⟩,
      ⟨(some 20), none, .mv (.t 5)⟩,
      ⟨(some 21), none, .mv (.t 1)⟩,
      ⟨(some 22), none, .cl (.c (.fn 107 [])) [(.t 21)]⟩,
      ⟨(some 23), none, .ia 2 (.t 19) (.t 20)⟩,
      ⟨(some 24), none, .fa 1 (.t 23)⟩,
      ⟨none, none, .st 1 (.t 24) (.t 22)⟩])
     (.reg [⟨(some 25), none, .mv (.t 1)⟩,
      ⟨(some 26), none, .bin .add (.t 25) (.c (.int .i64 1))⟩,
      ⟨(some 1), none, .mv (.t 26)⟩])))))
    (.reg [⟨(some 10), none, .mv (.t 5)⟩,
     ⟨(some 11), none, .bin .add (.t 10) (.c (.int .i64 1))⟩,
     ⟨(some 5), none, .mv (.t 11)⟩]))))))
  (.seq (.reg [⟨(some 27), none, .mv (.t 1)⟩,
   ⟨(some 4), none, .mv (.t 27)⟩])
  .ret)))
theorem k_laws_markWriteS : FnOk Tryz.prog 86 28 rc_laws_markWriteS [.t 4] := ⟨Tryz.f86, _, [], Tryz.func86, rfl, rfl, by kernel_rfl, by kernel_rfl, follows⟩
theorem ok_laws_markWriteS : okF Tryz.prog 86 = true := by kernel_rfl
def rc_laws_markDisk : RC :=
  (.seq (.reg [⟨(some 2), none, .bx (.t 0)⟩,
   ⟨(some 4), none, .mv (.c (.int .i64 0))⟩])
  (.seq (.reg [⟨(some 5), none, .fa 0 (.t 2)⟩,
   ⟨(some 6), none, .ld false 1 (.t 5)⟩,
   ⟨(some 7), none, .mv (.t 1)⟩,
   ⟨(some 8), none, .cl (.c (.fn 85 [])) [(.t 6), (.t 7)]⟩,
   ⟨(some 1), none, .mv (.t 8)⟩])
  (.seq (.reg [⟨(some 9), none, .fa 1 (.t 2)⟩,
   ⟨(some 10), none, .ld false 1 (.t 9)⟩,
   ⟨(some 11), none, .mv (.t 1)⟩,
   ⟨(some 12), none, .cl (.c (.fn 86 [])) [(.t 10), (.t 11)]⟩,
   ⟨(some 1), none, .mv (.t 12)⟩])
  (.seq (.reg [⟨(some 13), none, .mv (.t 1)⟩,
   ⟨(some 4), none, .mv (.t 13)⟩])
  .ret))))
theorem k_laws_markDisk : FnOk Tryz.prog 40 14 rc_laws_markDisk [.t 4] := ⟨Tryz.f40, _, [], Tryz.func40, rfl, rfl, by kernel_rfl, by kernel_rfl, follows⟩
theorem ok_laws_markDisk : okF Tryz.prog 40 = true := by kernel_rfl
def rc_laws_markItemS : RC :=
  (.seq (.reg [⟨(some 4), none, .mv (.c (.int .i64 0))⟩])
  (.seq (.seq (.reg [⟨(some 5), none, .mv (.c (.int .i64 0))⟩])
  (.blk 0 (.loop (.seq (.seq (.reg [⟨(some 6), none, .mv (.t 5)⟩,
     ⟨(some 7), none, .mv (.t 0)⟩,
     ⟨(some 8), none, .lenl (.t 7)⟩,
     ⟨(some 9), none, .bin .lss (.t 6) (.t 8)⟩])
    (.cond (.t 9)
      .skip
      (.exit 0)))
    (.seq (.blk 1 (.seq (.reg [⟨(some 12), none, .mv (.t 0)⟩,
      ⟨(some 13), none, .mv (.t 5)⟩,
      ⟨(some 14), none, .mv (.t 1)⟩,
      ⟨(some 15), none, .ia 9 (.t 12) (.t 13)⟩,
      ⟨(some 16), none, .fa 0 (.t 15)⟩,
      ⟨none, none, .st 1 (.t 16) (.t 14)⟩])
     (.seq (.reg [⟨(some 17), none, .mv (.t 1)⟩,
      ⟨(some 18), none, .bin .add (.t 17) (.c (.int .i64 1))⟩,
      ⟨(some 1), none, .mv (.t 18)⟩])
     (.seq (.reg [⟨(some 19), none, .mv (.t 0)⟩,
      ⟨(some 20), none, .mv (.t 5)⟩,
      ⟨(some 21), none, .mv (.t 1)⟩,
      ⟨(some 22), none, .ia 9 (.t 19) (.t 20)⟩,
      ⟨(some 23), none, .fa 1 (.t 22)⟩,
      ⟨(some 24), none, .fa 0 (.t 23)⟩,
      ⟨none, none, .st 1 (.t 24) (.t 21)⟩])
     (.seq (.reg [⟨(some 25), none, .mv (.t 1)⟩,
      ⟨(some 26), none, .bin .add (.t 25) (.c (.int .i64 1))⟩,
      ⟨(some 1), none, .mv (.t 26)⟩])
     (.seq (.reg [⟨(some 27), none, .mv (.t 0)⟩,
      ⟨(some 28), none, .mv (.t 5)⟩,
      ⟨(some 29), none, .mv (.t 1)⟩,
      ⟨(some 30), none, .ia 9 (.t 27) (.t 28)⟩,
      ⟨(some 31), none, .fa 1 (.t 30)⟩,
      ⟨(some 32), none, .fa 1 (.t 31)⟩,
      ⟨none, none, .st 1 (.t 32) (.t 29)⟩])
     (.seq (.reg [⟨(some 33), none, .mv (.t 1)⟩,
      ⟨(some 34), none, .bin .add (.t 33) (.c (.int .i64 1))⟩,
      ⟨(some 1), none, .mv (.t 34)⟩])
     (.seq (.reg [⟨(some 35), none, .mv (.t 0)⟩,
      ⟨(some 36), none, .mv (.t 5)⟩,
      ⟨(some 37), none, .mv (.t 1)⟩,
      ⟨(some 38), none, .ia 9 (.t 35) (.t 36)⟩,
      ⟨(some 39), none, .fa 1 (.t 38)⟩,
      ⟨(some 40), none, .fa 2 (.t 39)⟩,
      ⟨none, none, .st 1 (.t 40) (.t 37)⟩])
     (.seq (.reg [⟨(some 41), none, .mv (.t 1)⟩,
      ⟨(some 42), none, .bin .add (.t 41) (.c (.int .i64 1))⟩,
      ⟨(some 1), none, .mv (.t 42)⟩])
     (.seq (.reg [⟨(some 43), none, .mv (.t 0)⟩,
      ⟨(some 44), none, .mv (.t 5)⟩,
      ⟨(some 45), none, .mv (.t 1)⟩,
      ⟨(some 46), none, .ia 9 (.t 43) (.t 44)⟩,
      ⟨(some 47), none, .fa 1 (.t 46)⟩,
      ⟨(some 48), none, .fa 3 (.t 47)⟩,
      ⟨none, none, .st 1 (.t 48) (.t 45)⟩])
     (.seq (.reg [⟨(some 49), none, .mv (.t 1)⟩,
      ⟨(some 50), none, .bin .add (.t 49) (.c (.int .i64 1))⟩,
      ⟨(some 1), none, .mv (.t 50)⟩])
     (.seq (.reg [⟨(some 51), none, .mv (.t 0)⟩,
      ⟨(some 52), none, .mv (.t 5)⟩,
      ⟨(some 53), none, .mv (.t 1)⟩,
      ⟨(some 54), none, .ia 9 (.t 51) (.t 52)⟩,
      ⟨(some 55), none, .fa 1 (.t 54)⟩,
      ⟨(some 56), none, .fa 4 (.t 55)⟩,
      ⟨none, none, .st 1 (.t 56) (.t 53)⟩])
     (.seq (.reg [⟨(some 57), none, .mv (.t 1)⟩,
      ⟨(some 58), none, .bin .add (.t 57) (.c (.int .i64 1))⟩,
      ⟨(some 1), none, .mv (.t 58)⟩])
     (.seq (.reg [⟨(some 59), none, .mv (.t 0)⟩,
      ⟨(some 60), none, .mv (.t 5)⟩,
      ⟨(some 61), none, .mv (.t 1)⟩,
      ⟨(some 62), none, .cl (.c (.fn 107 [])) [(.t 61)]⟩,
      ⟨(some 63), none, .ia 9 (.t 59) (.t 60)⟩,
      ⟨(some 64), none, .fa 1 (.t 63)⟩,
      ⟨(some 65), none, .fa 5 (.t 64)⟩,
      ⟨none, none, .st 1 (.t 65) (.t 62)⟩])
     (.seq (.reg [⟨(some 66), none, .mv (.t 1)⟩,
      ⟨(some 67), none, .bin .add (.t 66) (.c (.int .i64 1))⟩,
      ⟨(some 1), none, .mv (.t 67)⟩])
     (.seq (.reg [⟨(some 68), none, .mv (.t 0)⟩,
      ⟨(some 69), none, .mv (.t 5)⟩,
      ⟨(some 70), none, .mv (.t 1)⟩,
      ⟨(some 71), none, .cl (.c (.fn 107 [])) [(.t 70)]⟩,
      ⟨(some 72), none, .ia 9 (.t 68) (.t 69)⟩,
      ⟨(some 73), none, .fa 1 (.t 72)⟩,
      ⟨(some 74), none, .fa 6 (.t 73)⟩,
      ⟨none, none, .st 1 (.t 74) (.t 71)⟩])
     (.seq (.reg [⟨(some 75), none, .mv (.t 1)⟩,
      ⟨(some 76), none, .bin .add (.t 75) (.c (.int .i64 1))⟩,
      ⟨(some 1), none, .mv (.t 76)⟩])
     (.seq (.reg [⟨(some 77), none, .mv (.t 0)⟩,
      ⟨(some 78), none, .mv (.t 5)⟩,
      ⟨(some 79), none, .mv (.t 1)⟩,
      ⟨(some 80), none, .cl (.c (.fn 107 [])) [(.t 79)]⟩,
      ⟨(some 81), none, .ia 9 (.t 77) (.t 78)⟩,
      ⟨(some 82), none, .fa 1 (.t 81)⟩,
      ⟨(some 83), none, .fa 7 (.t 82)⟩,
      ⟨none, none, .st 1 (.t 83) (.t 80)⟩])
     (.reg [⟨(some 84), none, .mv (.t 1)⟩,
      ⟨(some 85), none, .bin .add (.t 84) (.c (.int .i64 1))⟩,
      ⟨(some 1), none, .mv (.t 85)⟩])))))))))))))))))))
    (.reg [⟨(some 10), none, .mv (.t 5)⟩,
     ⟨(some 11), none, .bin .add (.t 10) (.c (.int .i64 1))⟩,
     ⟨(some 5), none, .mv (.t 11)⟩]))))))
  (.seq (.reg [⟨(some 86), none, .mv (.t 1)⟩,
   ⟨(some 4), none, .mv (.t 86)⟩])
  .ret)))
theorem k_laws_markItemS : FnOk Tryz.prog 87 87 rc_laws_markItemS [.t 4] := ⟨Tryz.f87, _, [], Tryz.func87, rfl, rfl, by kernel_rfl, by kernel_rfl, follows⟩
theorem ok_laws_markItemS : okF Tryz.prog 87 = true := by kernel_rfl
def rc_laws_markSegS : RC :=
  (.seq (.reg [⟨(some 4), none, .mv (.c (.int .i64 0))⟩])
  (.seq (.seq (.reg [⟨(some 5), none, .mv (.c (.int .i64 0))⟩])
  (.blk 0 (.loop (.seq (.seq (.reg [⟨(some 6), none, .mv (.t 5)⟩,
     ⟨(some 7), none, .mv (.t 0)⟩,
     ⟨(some 8), none, .lenl (.t 7)⟩,
     ⟨(some 9), none, .bin .lss (.t 6) (.t 8)⟩])
    (.cond (.t 9)
      .skip
      (.exit 0)))
    (.seq (.blk 1 (.seq (.reg [⟨(some 12), none, .mv (.t 0)⟩,
      ⟨(some 13), none, .mv (.t 5)⟩,
      ⟨(some 14), none, .mv (.t 1)⟩,
      ⟨(some 15), none, .ia 4 (.t 12) (.t 13)⟩,
      ⟨(some 16), none, .fa 0 (.t 15)⟩,
      ⟨none, none, .st 1 (.t 16) (.t 14)⟩])
     (.seq (.reg [⟨(some 17), none, .mv (.t 1)⟩,
      ⟨(some 18), none, .bin .add (.t 17) (.c (.int .i64 1))⟩,
      ⟨(some 1), none, .mv (.t 18)⟩])
     (.seq (.reg [⟨(some 19), none, .mv (.t 0)⟩,
      ⟨(some 20), none, .mv (.t 5)⟩,
      ⟨(some 21), none, .mv (.t 1)⟩,
      ⟨(some 22), none, .ia 4 (.t 19) (.t 20)⟩,
      ⟨(some 23), none, .fa 1 (.t 22)⟩,
      ⟨none, none, .st 1 (.t 23) (.t 21)⟩])
     (.seq (.reg [⟨(some 24), none, .mv (.t 1)⟩,
      ⟨(some 25), none, .bin .add (.t 24) (.c (.int .i64 1))⟩,
      ⟨(some 1), none, .mv (.t 25)⟩])
     (.seq (.reg [⟨(some 26), none, .mv (.t 0)⟩,
      ⟨(some 27), none, .mv (.t 5)⟩,
      ⟨(some 28), none, .mv (.t 1)⟩,
      ⟨(some 29), none, .ia 4 (.t 26) (.t 27)⟩,
      ⟨(some 30), none, .fa 2 (.t 29)⟩,
      ⟨none, none, .st 1 (.t 30) (.t 28)⟩])
     (.seq (.reg [⟨(some 31), none, .mv (.t 1)⟩,
      ⟨(some 32), none, .bin .add (.t 31) (.c (.int .i64 1))⟩,
      ⟨(some 1), none, .mv (.t 32)⟩])
     (.reg [⟨(some 33), none, .mv (.t 0)⟩,
      ⟨(some 34), none, .mv (.t 5)⟩,
      ⟨(some 35), none, .ia 4 (.t 33) (.t 34)⟩,
      ⟨(some 36), none, .fa 3 (.t 35)⟩,
      ⟨(some 37), none, .ld false 1 (.t 36)⟩,
      ⟨(some 38), none, .mv (.t 1)⟩,
      ⟨(some 39), none, .cl (.c (.fn 87 [])) [(.t 37), (.t 38)]⟩,
      ⟨(some 1), none, .mv (.t 39)⟩]))))))))
    (.reg [⟨(some 10), none, .mv (.t 5)⟩,
     ⟨(some 11), none, .bin .add (.t 10) (.c (.int .i64 1))⟩,
     ⟨(some 5), none, .mv (.t 11)⟩]))))))
  (.seq (.reg [⟨(some 40), none, .mv (.t 1)⟩,
   ⟨(some 4), none, .mv (.t 40)⟩])
  .ret)))
theorem k_laws_markSegS : FnOk Tryz.prog 41 41 rc_laws_markSegS [.t 4] := ⟨Tryz.f41, _, [], Tryz.func41, rfl, rfl, by kernel_rfl, by kernel_rfl, follows⟩
theorem ok_laws_markSegS : okF Tryz.prog 41 = true := by kernel_rfl
def rc_laws_markLog : RC :=
  (.seq (.reg [⟨(some 2), none, .bx (.t 0)⟩,
   ⟨(some 4), none, .mv (.c (.int .i64 0))⟩])
  (.seq (.reg [⟨(some 5), none, .fa 0 (.t 2)⟩,
   ⟨(some 6), none, .ld true 2 (.t 5)⟩,
   ⟨(some 7), none, .mv (.t 1)⟩,
   ⟨(some 8), none, .cl (.c (.fn 40 [])) [(.t 6), (.t 7)]⟩,
   ⟨(some 1), none, .mv (.t 8)⟩])
  (.seq (.reg [⟨(some 9), none, .fa 3 (.t 2)⟩,
   ⟨(some 10), none, .ld false 1 (.t 9)⟩,
   ⟨(some 11), none, .mv (.t 1)⟩,
   ⟨(some 12), none, .cl (.c (.fn 41 [])) [(.t 10), (.t 11)]⟩,
   ⟨(some 1), none, .mv (.t 12)⟩])
  (.seq (.reg [⟨(some 13), none, .mv (.t 1)⟩,
   ⟨(some 4), none, .mv (.t 13)⟩])
  .ret))))
theorem k_laws_markLog : FnOk Tryz.prog 10 14 rc_laws_markLog [.t 4] := ⟨Tryz.f10, _, [], Tryz.func10, rfl, rfl, by kernel_rfl, by kernel_rfl, follows⟩
theorem ok_laws_markLog : okF Tryz.prog 10 = true := by kernel_rfl
def rc_laws_markIntS : RC :=
  (.seq (.reg [⟨(some 4), none, .mv (.c (.int .i64 0))⟩])
  (.seq (.seq (.reg [⟨(some 5), none, .mv (.c (.int .i64 0))⟩])
  (.blk 0 (.loop (.seq (.seq (.reg [⟨(some 6), none, .mv (.t 5)⟩,
     ⟨(some 7), none, .mv (.t 0)⟩,
     ⟨(some 8), none, .lenl (.t 7)⟩,
     ⟨(some 9), none, .bin .lss (.t 6) (.t 8)⟩])
    (.cond (.t 9)
      .skip
      (.exit 0)))
    (.seq (.blk 1 (.seq (.reg [⟨(some 12), none, .mv (.t 0)⟩,
      ⟨(some 13), none, .mv (.t 5)⟩,
      ⟨(some 14), none, .mv (.t 1)⟩,
      ⟨(some 15), none, .ia 1 (.t 12) (.t 13)⟩,
      ⟨none, none, .st 1 (.t 15) (.t 14)⟩])
     (.reg [⟨(some 16), none, .mv (.t 1)⟩,
      ⟨(some 17), none, .bin .add (.t 16) (.c (.int .i64 1))⟩,
      ⟨(some 1), none, .mv (.t 17)⟩])))
    (.reg [⟨(some 10), none, .mv (.t 5)⟩,
     ⟨(some 11), none, .bin .add (.t 10) (.c (.int .i64 1))⟩,
     ⟨(some 5), none, .mv (.t 11)⟩]))))))
  (.seq (.reg [⟨(some 18), none, .mv (.t 1)⟩,
   ⟨(some 4), none, .mv (.t 18)⟩])
  .ret)))
theorem k_laws_markIntS : FnOk Tryz.prog 45 19 rc_laws_markIntS [.t 4] := ⟨Tryz.f45, _, [], Tryz.func45, rfl, rfl, by kernel_rfl, by kernel_rfl, follows⟩
theorem ok_laws_markIntS : okF Tryz.prog 45 = true := by kernel_rfl
def rc_laws_markStore : RC :=
  (.seq (.reg [⟨(some 2), none, .bx (.t 0)⟩,
   ⟨(some 4), none, .mv (.c (.int .i64 0))⟩])
  (.seq (.reg [⟨(some 5), none, .fa 0 (.t 2)⟩,
   ⟨(some 6), none, .ld true 8 (.t 5)⟩,
   ⟨(some 7), none, .mv (.t 1)⟩,
   ⟨(some 8), none, .cl (.c (.fn 10 [])) [(.t 6), (.t 7)]⟩,
   ⟨(some 1), none, .mv (.t 8)⟩])
  (.seq (.reg [⟨(some 9), none, .fa 8 (.t 2)⟩,
   ⟨(some 10), none, .ld false 1 (.t 9)⟩,
   ⟨(some 11), none, .mv (.t 1)⟩,
   ⟨(some 12), none, .cl (.c (.fn 45 [])) [(.t 10), (.t 11)]⟩,
   ⟨(some 1), none, .mv (.t 12)⟩])
  (.seq (.reg [⟨(some 13), none, .mv (.t 1)⟩,
   ⟨(some 4), none, .mv (.t 13)⟩])
  .ret))))
theorem k_laws_markStore : FnOk Tryz.prog 15 14 rc_laws_markStore [.t 4] := ⟨Tryz.f15, _, [], Tryz.func15, rfl, rfl, by kernel_rfl, by kernel_rfl, follows⟩
theorem ok_laws_markStore : okF Tryz.prog 15 = true := by kernel_rfl
def rc_laws_heldStringS : RC :=
  (.seq (.reg [⟨(some 4), none, .mv (.c (.int .i64 0))⟩])
  (.seq (.seq (.reg [⟨(some 5), none, .mv (.c (.int .i64 0))⟩])
  (.blk 0 (.loop (.seq (.seq (.reg [⟨(some 6), none, .mv (.t 5)⟩,
     ⟨(some 7), none, .mv (.t 0)⟩,
     ⟨(some 8), none, .lenl (.t 7)⟩,
     ⟨(some 9), none, .bin .lss (.t 6) (.t 8)⟩])
    (.cond (.t 9)
      .skip
      (.exit 0)))
    (.seq (.blk 1 (.seq (.seq (.drw [⟨(some 12), none, .mv (.t 0)⟩,
      ⟨(some 13), none, .mv (.t 5)⟩,
      ⟨(some 14), none, .ia 1 (.t 12) (.t 13)⟩,
      ⟨(some 15), none, .ld false 1 (.t 14)⟩,
      ⟨(some 16), none, .mv (.t 1)⟩,
      ⟨(some 17), none, .cl (.c (.fn 107 [])) [(.t 16)]⟩,
      ⟨(some 18), none, .bin .neq (.t 15) (.t 17)⟩] [.val [], .val [], .val [], .val [], .val [], .val [], .val []])
     (.cond (.t 18)
       (.seq (.reg [⟨(some 4), none, .mv (.c (.int .i64 (-1)))⟩])
       .ret)
       .skip))
     (.reg [⟨(some 19), none, .mv (.t 1)⟩,
      ⟨(some 20), none, .bin .add (.t 19) (.c (.int .i64 1))⟩,
      ⟨(some 1), none, .mv (.t 20)⟩])))
    (.reg [⟨(some 10), none, .mv (.t 5)⟩,
     ⟨(some 11), none, .bin .add (.t 10) (.c (.int .i64 1))⟩,
     ⟨(some 5), none, .mv (.t 11)⟩]))))))
  (.seq (.reg [⟨(some 21), none, .mv (.t 1)⟩,
   ⟨(some 4), none, .mv (.t 21)⟩])
  .ret)))
theorem k_laws_heldStringS : FnOk Tryz.prog 88 22 rc_laws_heldStringS [.t 4] := ⟨Tryz.f88, _, [], Tryz.func88, rfl, rfl, by kernel_rfl, by kernel_rfl, follows⟩
theorem ok_laws_heldStringS : okF Tryz.prog 88 = true := by kernel_rfl
def rc_laws_heldWriteS : RC :=
  (.seq (.reg [⟨(some 4), none, .mv (.c (.int .i64 0))⟩])
  (.seq (.seq (.reg [⟨(some 5), none, .mv (.c (.int .i64 0))⟩])
  (.blk 0 (.loop (.seq (.seq (.reg [⟨(some 6), none, .mv (.t 5)⟩,
     ⟨(some 7), none, .mv (.t 0)⟩,
     ⟨(some 8), none, .lenl (.t 7)⟩,
     ⟨(some 9), none, .bin .lss (.t 6) (.t 8)⟩])
    (.cond (.t 9)
      .skip
      (.exit 0)))
    (.seq (.blk 1 (.seq (.seq (.reg [⟨(some 12), none, .mv (.t 0)⟩,
      ⟨(some 13), none, .mv (.t 5)⟩,
      ⟨(some 14), none, .ia 2 (.t 12) (.t 13)⟩,
      ⟨(some 15), none, .fa 0 (.t 14)⟩,
      ⟨(some 16), none, .ld false 1 (.t 15)⟩,
      ⟨(some 17), none, .mv (.t 1)⟩,
      ⟨(some 18), none, .bin .neq (.t 16) (.t 17)⟩])
     (.cond (.t 18)
       (.seq (.reg [⟨(some 4), none, .mv (.c (.int .i64 (-1)))⟩])
       .ret)
       .skip))
     (.seq (.reg [⟨(some 19), none, .mv (.t 1)⟩,
      ⟨(some 20), none, .bin .add (.t 19) (.c (.int .i64 1))⟩,
      ⟨(some 1), none, .mv (.t 20)⟩])
     (.seq (.seq (.drw [⟨(some 21), none, .mv (.t 0)⟩,
      ⟨(some 22), none, .mv (.t 5)⟩,
      ⟨(some 23), none, .ia 2 (.t 21) (.t 22)⟩,
      ⟨(some 24), none, .fa 1 (.t 23)⟩,
      ⟨(some 25), none, .ld false 1 (.t 24)⟩,
      ⟨(some 26), none, .mv (.t 1)⟩,
      ⟨(some 27), none, .cl (.c (.fn 107 [])) [(.t 26)]⟩,
      ⟨(some 28), none, .bin .neq (.t 25) (.t 27)⟩] [.val [], .val [], .val [], .val [], .val [], .val [], .val [], .val []])
     (.cond (.t 28)
       (.seq (.reg [⟨(some 4), none, .mv (.c (.int .i64 (-1)))⟩])
       .ret)
       .skip))
     (.reg [⟨(some 29), none, .mv (.t 1)⟩,
      ⟨(some 30), none, .bin .add (.t 29) (.c (.int .i64 1))⟩,
      ⟨(some 1), none, .mv (.t 30)⟩])))))
    (.reg [⟨(some 10), none, .mv (.t 5)⟩,
     ⟨(some 11), none, .bin .add (.t 10) (.c (.int .i64 1))⟩,
     ⟨(some 5), none, .mv (.t 11)⟩]))))))
  (.seq (.reg [⟨(some 31), none, .mv (.t 1)⟩,
   ⟨(some 4), none, .mv (.t 31)⟩])
  .ret)))
theorem k_laws_heldWriteS : FnOk Tryz.prog 89 32 rc_laws_heldWriteS [.t 4] := ⟨Tryz.f89, _, [], Tryz.func89, rfl, rfl, by kernel_rfl, by kernel_rfl, follows⟩
theorem ok_laws_heldWriteS : okF Tryz.prog 89 = true := by kernel_rfl
def rc_laws_heldDisk : RC :=
  (.seq (.reg [⟨(some 2), none, .bx (.t 0)⟩,
   ⟨(some 4), none, .mv (.c (.int .i64 0))⟩])
  (.seq (.reg [⟨(some 5), none, .fa 0 (.t 2)⟩,
   ⟨(some 6), none, .ld false 1 (.t 5)⟩,
   ⟨(some 7), none, .mv (.t 1)⟩,
   ⟨(some 8), none, .cl (.c (.fn 88 [])) [(.t 6), (.t 7)]⟩,
   ⟨(some 1), none, .mv (.t 8)⟩])
  (.seq (.seq (.reg [⟨(some 9), none, .mv (.t 1)⟩,
   ⟨(some 10), none, .bin .lss (.t 9) (.c (.int .i64 0))⟩])
  (.cond (.t 10)
    (.seq (.reg [⟨(some 4), none, .mv (.c (.int .i64 (-1)))⟩])
    .ret)
    .skip))
  (.seq (.reg [⟨(some 11), none, .fa 1 (.t 2)⟩,
   ⟨(some 12), none, .ld false 1 (.t 11)⟩,
   ⟨(some 13), none, .mv (.t 1)⟩,
   ⟨(some 14), none, .cl (.c (.fn 89 [])) [(.t 12), (.t 13)]⟩,
   ⟨(some 1), none, .mv (.t 14)⟩])
  (.seq (.seq (.reg [⟨(some 15), none, .mv (.t 1)⟩,
   ⟨(some 16), none, .bin .lss (.t 15) (.c (.int .i64 0))⟩])
  (.cond (.t 16)
    (.seq (.reg [⟨(some 4), none, .mv (.c (.int .i64 (-1)))⟩])
    .ret)
    .skip))
  (.seq (.reg [⟨(some 17), none, .mv (.t 1)⟩,
   ⟨(some 4), none, .mv (.t 17)⟩])
  .ret))))))
theorem k_laws_heldDisk : FnOk Tryz.prog 42 18 rc_laws_heldDisk [.t 4] := ⟨Tryz.f42, _, [], Tryz.func42, rfl, rfl, by kernel_rfl, by kernel_rfl, follows⟩
theorem ok_laws_heldDisk : okF Tryz.prog 42 = true := by kernel_rfl
def rc_laws_heldItemS : RC :=
  (.seq (.reg [⟨(some 4), none, .mv (.c (.int .i64 0))⟩])
  (.seq (.seq (.reg [⟨(some 5), none, .mv (.c (.int .i64 0))⟩])
  (.blk 0 (.loop (.seq (.seq (.reg [⟨(some 6), none, .mv (.t 5)⟩,
     ⟨(some 7), none, .mv (.t 0)⟩,
     ⟨(some 8), none, .lenl (.t 7)⟩,
     ⟨(some 9), none, .bin .lss (.t 6) (.t 8)⟩])
    (.cond (.t 9)
      .skip
      (.exit 0)))
    (.seq (.blk 1 (.seq (.seq (.reg [⟨(some 12), none, .mv (.t 0)⟩,
      ⟨(some 13), none, .mv (.t 5)⟩,
      ⟨(some 14), none, .ia 9 (.t 12) (.t 13)⟩,
      ⟨(some 15), none, .fa 0 (.t 14)⟩,
      ⟨(some 16), none, .ld false 1 (.t 15)⟩,
      ⟨(some 17), none, .mv (.t 1)⟩,
      ⟨(some 18), none, .bin .neq (.t 16) (.t 17)⟩])
     (.cond (.t 18)
       (.seq (.reg [⟨(some 4), none, .mv (.c (.int .i64 (-1)))⟩])
       .ret)
       .skip))
     (.seq (.reg [⟨(some 19), none, .mv (.t 1)⟩,
      ⟨(some 20), none, .bin .add (.t 19) (.c (.int .i64 1))⟩,
      ⟨(some 1), none, .mv (.t 20)⟩])
     (.seq (.seq (.reg [⟨(some 21), none, .mv (.t 0)⟩,
      ⟨(some 22), none, .mv (.t 5)⟩,
      ⟨(some 23), none, .ia 9 (.t 21) (.t 22)⟩,
      ⟨(some 24), none, .fa 1 (.t 23)⟩,
      ⟨(some 25), none, .fa 0 (.t 24)⟩,
      ⟨(some 26), none, .ld false 1 (.t 25)⟩,
      ⟨(some 27), none, .mv (.t 1)⟩,
      ⟨(some 28), none, .bin .neq (.t 26) (.t 27)⟩])
     (.cond (.t 28)
       (.seq (.reg [⟨(some 4), none, .mv (.c (.int .i64 (-1)))⟩])
       .ret)
       .skip))
     (.seq (.reg [⟨(some 29), none, .mv (.t 1)⟩,
      ⟨(some 30), none, .bin .add (.t 29) (.c (.int .i64 1))⟩,
      ⟨(some 1), none, .mv (.t 30)⟩])
     (.seq (.seq (.reg [⟨(some 31), none, .mv (.t 0)⟩,
      ⟨(some 32), none, .mv (.t 5)⟩,
      ⟨(some 33), none, .ia 9 (.t 31) (.t 32)⟩,
      ⟨(some 34), none, .fa 1 (.t 33)⟩,
      ⟨(some 35), none, .fa 1 (.t 34)⟩,
      ⟨(some 36), none, .ld false 1 (.t 35)⟩,
      ⟨(some 37), none, .mv (.t 1)⟩,
      ⟨(some 38), none, .bin .neq (.t 36) (.t 37)⟩])
     (.cond (.t 38)
       (.seq (.reg [⟨(some 4), none, .mv (.c (.int .i64 (-1)))⟩])
       .ret)
       .skip))
     (.seq (.reg [⟨(some 39), none, .mv (.t 1)⟩,
      ⟨(some 40), none, .bin .add (.t 39) (.c (.int .i64 1))⟩,
      ⟨(some 1), none, .mv (.t 40)⟩])
     (.seq (.seq (.reg [⟨(some 41), none, .mv (.t 0)⟩,
      ⟨(some 42), none, .mv (.t 5)⟩,
      ⟨(some 43), none, .ia 9 (.t 41) (.t 42)⟩,
      ⟨(some 44), none, .fa 1 (.t 43)⟩,
      ⟨(some 45), none, .fa 2 (.t 44)⟩,
      ⟨(some 46), none, .ld false 1 (.t 45)⟩,
      ⟨(some 47), none, .mv (.t 1)⟩,
      ⟨(some 48), none, .bin .neq (.t 46) (.t 47)⟩])
     (.cond (.t 48)
       (.seq (.reg [⟨(some 4), none, .mv (.c (.int .i64 (-1)))⟩])
       .ret)
       .skip))
     (.seq (.reg [⟨(some 49), none, .mv (.t 1)⟩,
      ⟨(some 50), none, .bin .add (.t 49) (.c (.int .i64 1))⟩,
      ⟨(some 1), none, .mv (.t 50)⟩])
     (.seq (.seq (.reg [⟨(some 51), none, .mv (.t 0)⟩,
      ⟨(some 52), none, .mv (.t 5)⟩,
      ⟨(some 53), none, .ia 9 (.t 51) (.t 52)⟩,
      ⟨(some 54), none, .fa 1 (.t 53)⟩,
      ⟨(some 55), none, .fa 3 (.t 54)⟩,
      ⟨(some 56), none, .ld false 1 (.t 55)⟩,
      ⟨(some 57), none, .mv (.t 1)⟩,
      ⟨(some 58), none, .bin .neq (.t 56) (.t 57)⟩])
     (.cond (.t 58)
       (.seq (.reg [⟨(some 4), none, .mv (.c (.int .i64 (-1)))⟩])
       .ret)
       .skip))
     (.seq (.reg [⟨(some 59), none, .mv (.t 1)⟩,
      ⟨(some 60), none, .bin .add (.t 59) (.c (.int .i64 1))⟩,
      ⟨(some 1), none, .mv (.t 60)⟩])
     (.seq (.seq (.reg [⟨(some 61), none, .mv (.t 0)⟩,
      ⟨(some 62), none, .mv (.t 5)⟩,
      ⟨(some 63), none, .ia 9 (.t 61) (.t 62)⟩,
      ⟨(some 64), none, .fa 1 (.t 63)⟩,
      ⟨(some 65), none, .fa 4 (.t 64)⟩,
      ⟨(some 66), none, .ld false 1 (.t 65)⟩,
      ⟨(some 67), none, .mv (.t 1)⟩,
      ⟨(some 68), none, .bin .neq (.t 66) (.t 67)⟩])
     (.cond (.t 68)
       (.seq (.reg [⟨(some 4), none, .mv (.c (.int .i64 (-1)))⟩])
       .ret)
       .skip))
     (.seq (.reg [⟨(some 69), none, .mv (.t 1)⟩,
      ⟨(some 70), none, .bin .add (.t 69) (.c (.int .i64 1))⟩,
      ⟨(some 1), none, .mv (.t 70)⟩])
     (.seq (.seq (.drw [⟨(some 71), none, .mv (.t 0)⟩,
      ⟨(some 72), none, .mv (.t 5)⟩,
      ⟨(some 73), none, .ia 9 (.t 71) (.t 72)⟩,
      ⟨(some 74), none, .fa 1 (.t 73)⟩,
      ⟨(some 75), none, .fa 5 (.t 74)⟩,
      ⟨(some 76), none, .ld false 1 (.t 75)⟩,
      ⟨(some 77), none, .mv (.t 1)⟩,
      ⟨(some 78), none, .cl (.c (.fn 107 [])) [(.t 77)]⟩,
      ⟨(some 79), none, .bin .neq (.t 76) (.t 78)⟩] [.val [], .val [], .val [], .val [], .val [], .val [], .val [], .val [], .val []])
     (.cond (.t 79)
       (.seq (.reg [⟨(some 4), none, .mv (.c (.int .i64 (-1)))⟩])
       .ret)
       .skip))
     (.seq (.reg [⟨(some 80), none, .mv (.t 1)⟩,
      ⟨(some 81), none, .bin .add (.t 80) (.c (.int .i64 1))⟩,
      ⟨(some 1), none, .mv (.t 81)⟩])
     (.seq (.seq (.drw [⟨(some 82), none, .mv (.t 0)⟩,
      ⟨(some 83), none, .mv (.t 5)⟩,
      ⟨(some 84), none, .ia 9 (.t 82) (.t 83)⟩,
      ⟨(some 85), none, .fa 1 (.t 84)⟩,
      ⟨(some 86), none, .fa 6 (.t 85)⟩,
      ⟨(some 87), none, .ld false 1 (.t 86)⟩,
      ⟨(some 88), none, .mv (.t 1)⟩,
      ⟨(some 89), none, .cl (.c (.fn 107 [])) [(.t 88)]⟩,
      ⟨(some 90), none, .bin .neq (.t 87) (.t 89)⟩] [.val [], .val [], .val [], .val [], .val [], .val [], .val [], .val [], .val []])
     (.cond (.t 90)
       (.seq (.reg [⟨(some 4), none, .mv (.c (.int .i64 (-1)))⟩])
       .ret)
       .skip))
     (.seq (.reg [⟨(some 91), none, .mv (.t 1)⟩,
      ⟨(some 92), none, .bin .add (.t 91) (.c (.int .i64 1))⟩,
      ⟨(some 1), none, .mv (.t 92)⟩])
     (.seq (.seq (.drw [⟨(some 93), none, .mv (.t 0)⟩,
      ⟨(some 94), none, .mv (.t 5)⟩,
      ⟨(some 95), none, .ia 9 (.t 93) (.t 94)⟩,
      ⟨(some 96), none, .fa 1 (.t 95)⟩,
      ⟨(some 97), none, .fa 7 (.t 96)⟩,
      ⟨(some 98), none, .ld false 1 (.t 97)⟩,
      ⟨(some 99), none, .mv (.t 1)⟩,
      ⟨(some 100), none, .cl (.c (.fn 107 [])) [(.t 99)]⟩,
      ⟨(some 101), none, .bin .neq (.t 98) (.t 100)⟩] [.val [], .val [], .val [], .val [], .val [], .val [], .val [], .val [], .val []])
     (.cond (.t 101)
       (.seq (.reg [⟨(some 4), none, .mv (.c (.int .i64 (-1)))⟩])
       .ret)
       .skip))
     (.reg [⟨(some 102), none, .mv (.t 1)⟩,
      ⟨(some 103), none, .bin .add (.t 102) (.c (.int .i64 1))⟩,
      ⟨(some 1), none, .mv (.t 103)⟩])))))))))))))))))))
    (.reg [⟨(some 10), none, .mv (.t 5)⟩,
     ⟨(some 11), none, .bin .add (.t 10) (.c (.int .i64 1))⟩,
     ⟨(some 5), none, .mv (.t 11)⟩]))))))
  (.seq (.reg [⟨(some 104), none, .mv (.t 1)⟩,
   ⟨(some 4), none, .mv (.t 104)⟩])
  .ret)))
theorem k_laws_heldItemS : FnOk Tryz.prog 90 105 rc_laws_heldItemS [.t 4] := ⟨Tryz.f90, _, [], Tryz.func90, rfl, rfl, by kernel_rfl, by kernel_rfl, follows⟩
theorem ok_laws_heldItemS : okF Tryz.prog 90 = true := by kernel_rfl
def rc_laws_heldSegS : RC :=
  (.seq (.reg [⟨(some 4), none, .mv (.c (.int .i64 0))⟩])
  (.seq (.seq (.reg [⟨(some 5), none, .mv (.c (.int .i64 0))⟩])
  (.blk 0 (.loop (.seq (.seq (.reg [⟨(some 6), none, .mv (.t 5)⟩,
     ⟨(some 7), none, .mv (.t 0)⟩,
     ⟨(some 8), none, .lenl (.t 7)⟩,
     ⟨(some 9), none, .bin .lss (.t 6) (.t 8)⟩])
    (.cond (.t 9)
      .skip
      (.exit 0)))
    (.seq (.blk 1 (.seq (.seq (.reg [⟨(some 12), none, .mv (.t 0)⟩,
      ⟨(some 13), none, .mv (.t 5)⟩,
      ⟨(some 14), none, .ia 4 (.t 12) (.t 13)⟩,
      ⟨(some 15), none, .fa 0 (.t 14)⟩,
      ⟨(some 16), none, .ld false 1 (.t 15)⟩,
      ⟨(some 17), none, .mv (.t 1)⟩,
      ⟨(some 18), none, .bin .neq (.t 16) (.t 17)⟩])
     (.cond (.t 18)
       (.seq (.reg [⟨(some 4), none, .mv (.c (.int .i64 (-1)))⟩])
       .ret)
       .skip))
     (.seq (.reg [⟨(some 19), none, .mv (.t 1)⟩,
      ⟨(some 20), none, .bin .add (.t 19) (.c (.int .i64 1))⟩,
      ⟨(some 1), none, .mv (.t 20)⟩])
     (.seq (.seq (.reg [⟨(some 21), none, .mv (.t 0)⟩,
      ⟨(some 22), none, .mv (.t 5)⟩,
      ⟨(some 23), none, .ia 4 (.t 21) (.t 22)⟩,
      ⟨(some 24), none, .fa 1 (.t 23)⟩,
      ⟨(some 25), none, .ld false 1 (.t 24)⟩,
      ⟨(some 26), none, .mv (.t 1)⟩,
      ⟨(some 27), none, .bin .neq (.t 25) (.t 26)⟩])
     (.cond (.t 27)
       (.seq (.reg [⟨(some 4), none, .mv (.c (.int .i64 (-1)))⟩])
       .ret)
       .skip))
     (.seq (.reg [⟨(some 28), none, .mv (.t 1)⟩,
      ⟨(some 29), none, .bin .add (.t 28) (.c (.int .i64 1))⟩,
      ⟨(some 1), none, .mv (.t 29)⟩])
     (.seq (.seq (.reg [⟨(some 30), none, .mv (.t 0)⟩,
      ⟨(some 31), none, .mv (.t 5)⟩,
      ⟨(some 32), none, .ia 4 (.t 30) (.t 31)⟩,
      ⟨(some 33), none, .fa 2 (.t 32)⟩,
      ⟨(some 34), none, .ld false 1 (.t 33)⟩,
      ⟨(some 35), none, .mv (.t 1)⟩,
      ⟨(some 36), none, .bin .neq (.t 34) (.t 35)⟩])
     (.cond (.t 36)
       (.seq (.reg [⟨(some 4), none, .mv (.c (.int .i64 (-1)))⟩])
       .ret)
       .skip))
     (.seq (.reg [⟨(some 37), none, .mv (.t 1)⟩,
      ⟨(some 38), none, .bin .add (.t 37) (.c (.int .i64 1))⟩,
      ⟨(some 1), none, .mv (.t 38)⟩])
     (.seq (.reg [⟨(some 39), none, .mv (.t 0)⟩,
      ⟨(some 40), none, .mv (.t 5)⟩,
      ⟨(some 41), none, .ia 4 (.t 39) (.t 40)⟩,
      ⟨(some 42), none, .fa 3 (.t 41)⟩,
      ⟨(some 43), none, .ld false 1 (.t 42)⟩,
      ⟨(some 44), none, .mv (.t 1)⟩,
      ⟨(some 45), none, .cl (.c (.fn 90 [])) [(.t 43), (.t 44)]⟩,
      ⟨(some 1), none, .mv (.t 45)⟩])
     (.seq (.reg [⟨(some 46), none, .mv (.t 1)⟩,
      ⟨(some 47), none, .bin .lss (.t 46) (.c (.int .i64 0))⟩])
     (.cond (.t 47)
       (.seq (.reg [⟨(some 4), none, .mv (.c (.int .i64 (-1)))⟩])
       .ret)
       .skip))))))))))
    (.reg [⟨(some 10), none, .mv (.t 5)⟩,
     ⟨(some 11), none, .bin .add (.t 10) (.c (.int .i64 1))⟩,
     ⟨(some 5), none, .mv (.t 11)⟩]))))))
  (.seq (.reg [⟨(some 48), none, .mv (.t 1)⟩,
   ⟨(some 4), none, .mv (.t 48)⟩])
  .ret)))
theorem k_laws_heldSegS : FnOk Tryz.prog 43 49 rc_laws_heldSegS [.t 4] := ⟨Tryz.f43, _, [], Tryz.func43, rfl, rfl, by kernel_rfl, by kernel_rfl, follows⟩
theorem ok_laws_heldSegS : okF Tryz.prog 43 = true := by kernel_rfl
def rc_laws_heldLog : RC :=
  (.seq (.reg [⟨(some 2), none, .bx (.t 0)⟩,
   ⟨(some 4), none, .mv (.c (.int .i64 0))⟩])
  (.seq (.reg [⟨(some 5), none, .fa 0 (.t 2)⟩,
   ⟨(some 6), none, .ld true 2 (.t 5)⟩,
   ⟨(some 7), none, .mv (.t 1)⟩,
   ⟨(some 8), none, .cl (.c (.fn 42 [])) [(.t 6), (.t 7)]⟩,
   ⟨(some 1), none, .mv (.t 8)⟩])
  (.seq (.seq (.reg [⟨(some 9), none, .mv (.t 1)⟩,
   ⟨(some 10), none, .bin .lss (.t 9) (.c (.int .i64 0))⟩])
  (.cond (.t 10)
    (.seq (.reg [⟨(some 4), none, .mv (.c (.int .i64 (-1)))⟩])
    .ret)
    .skip))
  (.seq (.reg [⟨(some 11), none, .fa 3 (.t 2)⟩,
   ⟨(some 12), none, .ld false 1 (.t 11)⟩,
   ⟨(some 13), none, .mv (.t 1)⟩,
   ⟨(some 14), none, .cl (.c (.fn 43 [])) [(.t 12), (.t 13)]⟩,
   ⟨(some 1), none, .mv (.t 14)⟩])
  (.seq (.seq (.reg [⟨(some 15), none, .mv (.t 1)⟩,
   ⟨(some 16), none, .bin .lss (.t 15) (.c (.int .i64 0))⟩])
  (.cond (.t 16)
    (.seq (.reg [⟨(some 4), none, .mv (.c (.int .i64 (-1)))⟩])
    .ret)
    .skip))
  (.seq (.reg [⟨(some 17), none, .mv (.t 1)⟩,
   ⟨(some 4), none, .mv (.t 17)⟩])
  .ret))))))
theorem k_laws_heldLog : FnOk Tryz.prog 11 18 rc_laws_heldLog [.t 4] := ⟨Tryz.f11, _, [], Tryz.func11, rfl, rfl, by kernel_rfl, by kernel_rfl, follows⟩
theorem ok_laws_heldLog : okF Tryz.prog 11 = true := by kernel_rfl
def rc_laws_heldIntS : RC :=
  (.seq (.reg [⟨(some 4), none, .mv (.c (.int .i64 0))⟩])
  (.seq (.seq (.reg [⟨(some 5), none, .mv (.c (.int .i64 0))⟩])
  (.blk 0 (.loop (.seq (.seq (.reg [⟨(some 6), none, .mv (.t 5)⟩,
     ⟨(some 7), none, .mv (.t 0)⟩,
     ⟨(some 8), none, .lenl (.t 7)⟩,
     ⟨(some 9), none, .bin .lss (.t 6) (.t 8)⟩])
    (.cond (.t 9)
      .skip
      (.exit 0)))
    (.seq (.blk 1 (.seq (.seq (.reg [⟨(some 12), none, .mv (.t 0)⟩,
      ⟨(some 13), none, .mv (.t 5)⟩,
      ⟨(some 14), none, .ia 1 (.t 12) (.t 13)⟩,
      ⟨(some 15), none, .ld false 1 (.t 14)⟩,
      ⟨(some 16), none, .mv (.t 1)⟩,
      ⟨(some 17), none, .bin .neq (.t 15) (.t 16)⟩])
     (.cond (.t 17)
       (.seq (.reg [⟨(some 4), none, .mv (.c (.int .i64 (-1)))⟩])
       .ret)
       .skip))
     (.reg [⟨(some 18), none, .mv (.t 1)⟩,
      ⟨(some 19), none, .bin .add (.t 18) (.c (.int .i64 1))⟩,
      ⟨(some 1), none, .mv (.t 19)⟩])))
    (.reg [⟨(some 10), none, .mv (.t 5)⟩,
     ⟨(some 11), none, .bin .add (.t 10) (.c (.int .i64 1))⟩,
     ⟨(some 5), none, .mv (.t 11)⟩]))))))
  (.seq (.reg [⟨(some 20), none, .mv (.t 1)⟩,
   ⟨(some 4), none, .mv (.t 20)⟩])
  .ret)))
theorem k_laws_heldIntS : FnOk Tryz.prog 46 21 rc_laws_heldIntS [.t 4] := ⟨Tryz.f46, _, [], Tryz.func46, rfl, rfl, by kernel_rfl, by kernel_rfl, follows⟩
theorem ok_laws_heldIntS : okF Tryz.prog 46 = true := by kernel_rfl
def rc_laws_heldStore : RC :=
  (.seq (.reg [⟨(some 2), none, .bx (.t 0)⟩,
   ⟨(some 4), none, .mv (.c (.int .i64 0))⟩])
  (.seq (.reg [⟨(some 5), none, .fa 0 (.t 2)⟩,
   ⟨(some 6), none, .ld true 8 (.t 5)⟩,
   ⟨(some 7), none, .mv (.t 1)⟩,
   ⟨(some 8), none, .cl (.c (.fn 11 [])) [(.t 6), (.t 7)]⟩,
   ⟨(some 1), none, .mv (.t 8)⟩])
  (.seq (.seq (.reg [⟨(some 9), none, .mv (.t 1)⟩,
   ⟨(some 10), none, .bin .lss (.t 9) (.c (.int .i64 0))⟩])
  (.cond (.t 10)
    (.seq (.reg [⟨(some 4), none, .mv (.c (.int .i64 (-1)))⟩])
    .ret)
    .skip))
  (.seq (.reg [⟨(some 11), none, .fa 8 (.t 2)⟩,
   ⟨(some 12), none, .ld false 1 (.t 11)⟩,
   ⟨(some 13), none, .mv (.t 1)⟩,
   ⟨(some 14), none, .cl (.c (.fn 46 [])) [(.t 12), (.t 13)]⟩,
   ⟨(some 1), none, .mv (.t 14)⟩])
  (.seq (.seq (.reg [⟨(some 15), none, .mv (.t 1)⟩,
   ⟨(some 16), none, .bin .lss (.t 15) (.c (.int .i64 0))⟩])
  (.cond (.t 16)
    (.seq (.reg [⟨(some 4), none, .mv (.c (.int .i64 (-1)))⟩])
    .ret)
    .skip))
  (.seq (.reg [⟨(some 17), none, .mv (.t 1)⟩,
   ⟨(some 4), none, .mv (.t 17)⟩])
  .ret))))))
theorem k_laws_heldStore : FnOk Tryz.prog 16 18 rc_laws_heldStore [.t 4] := ⟨Tryz.f16, _, [], Tryz.func16, rfl, rfl, by kernel_rfl, by kernel_rfl, follows⟩
theorem ok_laws_heldStore : okF Tryz.prog 16 = true := by kernel_rfl
def rc_laws_FnExactStoreNew : RC :=
  (.seq (.reg [⟨(some 2), none, .mv (.c (.bool false))⟩])
  (.seq (.reg [⟨(some 12), none, .mv (.t 0)⟩,
   ⟨(some 13), none, .cl (.c (.fn 12 [])) [(.t 12)]⟩,
   ⟨(some 11), none, .mv (.t 13)⟩,
   ⟨(some 14), none, .ext (.t 11) 0⟩,
   ⟨(some 15), none, .ext (.t 11) 1⟩,
   ⟨(some 3), none, .al [.nils, .nils, .int .i64 0, .nils, .int .i64 0, .int .i64 0, .int .i64 0, .int .i64 0, .nils]⟩,
   ⟨none, none, .st 9 (.t 3) (.t 14)⟩,
   ⟨(some 4), none, .mv (.t 15)⟩])
  (.seq (.reg [⟨(some 17), none, .mv (.t 0)⟩,
   ⟨(some 18), none, .cl (.c (.fn 13 [])) [(.t 17)]⟩,
   ⟨(some 16), none, .mv (.t 18)⟩,
   ⟨(some 19), none, .ext (.t 16) 0⟩,
   ⟨(some 20), none, .ext (.t 16) 1⟩,
   ⟨(some 5), none, .al [.nils, .nils, .int .i64 0, .nils, .int .i64 0, .int .i64 0, .int .i64 0, .int .i64 0, .nils]⟩,
   ⟨none, none, .st 9 (.t 5) (.t 19)⟩,
   ⟨(some 6), none, .mv (.t 20)⟩])
  (.seq (.seq (.reg [⟨(some 21), none, .ld true 9 (.t 5)⟩,
   ⟨(some 22), none, .ld true 9 (.t 3)⟩,
   ⟨(some 23), none, .cl (.c (.fn 14 [])) [(.t 21), (.t 22)]⟩,
   ⟨(some 24), none, .un .not (.t 23)⟩,
   ⟨(some 25), none, .mv (.t 24)⟩,
   ⟨(some 26), (some (25, false)), .mv (.t 6)⟩,
   ⟨(some 27), (some (25, false)), .mv (.t 4)⟩,
   ⟨(some 28), (some (25, false)), .eqb true (.t 26) (.t 27)⟩,
   ⟨(some 29), none, .pick (.t 25) (.c (.bool true)) (.t 28)⟩])
  (.cond (.t 29)
    (.seq (.reg [⟨(some 2), none, .mv (.c (.bool false))⟩])
    .ret)
    .skip))
  (.seq (.reg [⟨(some 7), none, .mv (.c (.int .i64 1))⟩])
  (.seq (.reg [⟨(some 30), none, .ld true 9 (.t 5)⟩,
   ⟨(some 31), none, .mv (.t 7)⟩,
   ⟨(some 32), none, .cl (.c (.fn 15 [])) [(.t 30), (.t 31)]⟩,
   ⟨(some 7), none, .mv (.t 32)⟩])
  (.seq (.reg [⟨(some 8), none, .mv (.c (.int .i64 1))⟩])
  (.seq (.reg [⟨(some 33), none, .ld true 9 (.t 5)⟩,
   ⟨(some 34), none, .mv (.t 8)⟩,
   ⟨(some 35), none, .cl (.c (.fn 16 [])) [(.t 33), (.t 34)]⟩,
   ⟨(some 8), none, .mv (.t 35)⟩])
  (.seq (.seq (.reg [⟨(some 36), none, .mv (.t 8)⟩,
   ⟨(some 37), none, .bin .lss (.t 36) (.c (.int .i64 0))⟩])
  (.cond (.t 37)
    (.seq (.reg [⟨(some 2), none, .mv (.c (.bool false))⟩])
    .ret)
    .skip))
  (.seq (.seq (.reg [⟨(some 38), none, .mv (.t 8)⟩,
   ⟨(some 39), none, .mv (.t 7)⟩,
   ⟨(some 40), none, .bin .neq (.t 38) (.t 39)⟩])
  (.cond (.t 40)
    (.seq (.reg [⟨(some 2), none, .mv (.c (.bool false))⟩])
    .ret)
    .skip))
  (.seq (.reg [⟨(some 42), none, .mv (.t 0)⟩,
   ⟨(some 43), none, .cl (.c (.fn 13 [])) [(.t 42)]⟩,
   ⟨(some 41), none, .mv (.t 43)⟩,
   ⟨(some 44), none, .ext (.t 41) 0⟩,
   ⟨(some 45), none, .ext (.t 41) 1⟩,
   ⟨(some 9), none, .al [.nils, .nils, .int .i64 0, .nils, .int .i64 0, .int .i64 0, .int .i64 0, .int .i64 0, .nils]⟩,
   ⟨none, none, .st 9 (.t 9) (.t 44)⟩,
   ⟨(some 10), none, .mv (.t 45)⟩])
  (.seq (.seq (.reg [⟨(some 46), none, .ld true 9 (.t 9)⟩,
   ⟨(some 47), none, .ld true 9 (.t 3)⟩,
   ⟨(some 48), none, .cl (.c (.fn 14 [])) [(.t 46), (.t 47)]⟩,
   ⟨(some 49), none, .un .not (.t 48)⟩,
   ⟨(some 50), none, .mv (.t 49)⟩,
   ⟨(some 51), (some (50, false)), .mv (.t 10)⟩,
   ⟨(some 52), (some (50, false)), .mv (.t 4)⟩,
   ⟨(some 53), (some (50, false)), .eqb true (.t 51) (.t 52)⟩,
   ⟨(some 54), none, .pick (.t 50) (.c (.bool true)) (.t 53)⟩])
  (.cond (.t 54)
    (.seq (.reg [⟨(some 2), none, .mv (.c (.bool false))⟩])
    .ret)
    .skip))
  (.seq (.reg [⟨(some 8), none, .mv (.c (.int .i64 1))⟩])
  (.seq (.reg [⟨(some 55), none, .ld true 9 (.t 5)⟩,
   ⟨(some 56), none, .mv (.t 8)⟩,
   ⟨(some 57), none, .cl (.c (.fn 16 [])) [(.t 55), (.t 56)]⟩,
   ⟨(some 8), none, .mv (.t 57)⟩])
  (.seq (.seq (.reg [⟨(some 58), none, .mv (.t 8)⟩,
   ⟨(some 59), none, .bin .lss (.t 58) (.c (.int .i64 0))⟩])
  (.cond (.t 59)
    (.seq (.reg [⟨(some 2), none, .mv (.c (.bool false))⟩])
    .ret)
    .skip))
  (.seq (.seq (.reg [⟨(some 60), none, .mv (.t 8)⟩,
   ⟨(some 61), none, .mv (.t 7)⟩,
   ⟨(some 62), none, .bin .neq (.t 60) (.t 61)⟩])
  (.cond (.t 62)
    (.seq (.reg [⟨(some 2), none, .mv (.c (.bool false))⟩])
    .ret)
    .skip))
  (.seq (.reg [⟨(some 2), none, .mv (.c (.bool true))⟩])
  .ret)))))))))))))))))
theorem k_laws_FnExactStoreNew : FnOk Tryz.prog 4 63 rc_laws_FnExactStoreNew [.t 2] := ⟨Tryz.f4, _, [], Tryz.func4, rfl, rfl, by kernel_rfl, by kernel_rfl, follows⟩
theorem ok_laws_FnExactStoreNew : okF Tryz.prog 4 = true := by kernel_rfl
end Go.Proofs.YtcehlicmghnghaaGreat.V
/- Contracts of the library, laid here. -/
namespace Go.Proofs.YtcehlicmghnghaaGreat.V
open Go Go.Proofs Go.RowKit Go.Shelf
set_option maxRecDepth 100000
def rn_strings_Repeat : Go.Shelf.Ren := ⟨fun | 105 => 71 | 212 => 125 | 99 => 126 | 165 => 127 | 166 => 128 | 170 => 129 | 169 => 130 | 263 => 181 | 264 => 182 | 206 => 183 | 240 => 184 | 241 => 185 | 276 => 209 | 277 => 210 | n => n, fun | 9 => 9 | 3 => 3 | 4 => 4 | 20 => 20 | 0 => 0 | 46 => 150 | 109 => 151 | 5 => 5 | 72 => 157 | 76 => 161 | 51 => 201 | 146 => 203 | 53 => 205 | 148 => 206 | 70 => 154 | 37 => 155 | 75 => 160 | 127 => 208 | 164 => 225 | 80 => 92 | n => n, fun | n => n⟩
theorem ly_strings_Repeat_105 : Go.Proofs.Lays.n105 Tryz.prog rn_strings_Repeat := {
  mixed := by kernel_rfl,
  f99 := Tryz.func126.trans (congrArg some (by kernel_rfl)),
  f105 := Tryz.func71.trans (congrArg some (by kernel_rfl)),
  f165 := Tryz.func127.trans (congrArg some (by kernel_rfl)),
  f166 := Tryz.func128.trans (congrArg some (by kernel_rfl)),
  f169 := Tryz.func130.trans (congrArg some (by kernel_rfl)),
  f170 := Tryz.func129.trans (congrArg some (by kernel_rfl)),
  f206 := Tryz.func183.trans (congrArg some (by kernel_rfl)),
  f212 := Tryz.func125.trans (congrArg some (by kernel_rfl)),
  f240 := Tryz.func184.trans (congrArg some (by kernel_rfl)),
  f241 := Tryz.func185.trans (congrArg some (by kernel_rfl)),
  f263 := Tryz.func181.trans (congrArg some (by kernel_rfl)),
  f264 := Tryz.func182.trans (congrArg some (by kernel_rfl)),
  f276 := Tryz.func209.trans (congrArg some (by kernel_rfl)),
  f277 := Tryz.func210.trans (congrArg some (by kernel_rfl)),
  t0 := Tryz.underlying0,
  a0 := Tryz.isAgg0,
  z0 := Tryz.sizeOf0,
  v0 := Tryz.zeroValue0,
  t3 := Tryz.underlying3,
  a3 := Tryz.isAgg3,
  z3 := Tryz.sizeOf3,
  v3 := Tryz.zeroValue3,
  t4 := Tryz.underlying4,
  a4 := Tryz.isAgg4,
  z4 := Tryz.sizeOf4,
  v4 := Tryz.zeroValue4,
  t5 := Tryz.underlying5,
  a5 := Tryz.isAgg5,
  z5 := Tryz.sizeOf5,
  v5 := Tryz.zeroValue5,
  t9 := Tryz.underlying9,
  a9 := Tryz.isAgg9,
  z9 := Tryz.sizeOf9,
  v9 := Tryz.zeroValue9,
  t20 := Tryz.underlying20,
  a20 := Tryz.isAgg20,
  z20 := Tryz.sizeOf20,
  v20 := Tryz.zeroValue20,
  t37 := Tryz.underlying155,
  a37 := Tryz.isAgg155,
  z37 := Tryz.sizeOf155,
  v37 := Tryz.zeroValue155,
  t46 := Tryz.underlying150,
  a46 := Tryz.isAgg150,
  z46 := Tryz.sizeOf150,
  v46 := Tryz.zeroValue150,
  t51 := Tryz.underlying201,
  a51 := Tryz.isAgg201,
  z51 := Tryz.sizeOf201,
  v51 := Tryz.zeroValue201,
  t53 := Tryz.underlying205,
  a53 := Tryz.isAgg205,
  z53 := Tryz.sizeOf205,
  v53 := Tryz.zeroValue205,
  t70 := Tryz.underlying154,
  a70 := Tryz.isAgg154,
  z70 := Tryz.sizeOf154,
  v70 := Tryz.zeroValue154,
  t72 := Tryz.underlying157,
  a72 := Tryz.isAgg157,
  z72 := Tryz.sizeOf157,
  v72 := Tryz.zeroValue157,
  t75 := Tryz.underlying160,
  a75 := Tryz.isAgg160,
  z75 := Tryz.sizeOf160,
  v75 := Tryz.zeroValue160,
  t76 := Tryz.underlying161,
  a76 := Tryz.isAgg161,
  z76 := Tryz.sizeOf161,
  v76 := Tryz.zeroValue161,
  t109 := Tryz.underlying151,
  a109 := Tryz.isAgg151,
  z109 := Tryz.sizeOf151,
  v109 := Tryz.zeroValue151,
  t127 := Tryz.underlying208,
  a127 := Tryz.isAgg208,
  z127 := Tryz.sizeOf208,
  v127 := Tryz.zeroValue208,
  t146 := Tryz.underlying203,
  a146 := Tryz.isAgg203,
  z146 := Tryz.sizeOf203,
  v146 := Tryz.zeroValue203,
  t148 := Tryz.underlying206,
  a148 := Tryz.isAgg206,
  z148 := Tryz.sizeOf206,
  v148 := Tryz.zeroValue206,
  t164 := Tryz.underlying225,
  a164 := Tryz.isAgg225,
  z164 := Tryz.sizeOf225,
  v164 := Tryz.zeroValue225 }
theorem ex_strings_Repeat : Builder.Extra Tryz.prog rn_strings_Repeat := { sizeBuilder := by kernel_rfl, liesBuilder := by kernel_rfl, t5 := Tryz.underlying5, a5 := Tryz.isAgg5, z5 := Tryz.sizeOf5, v5 := Tryz.zeroValue5, infoByte := by kernel_rfl, cellsByte := by kernel_rfl, sizeByte := by kernel_rfl, neB5 := by decide }
theorem ok_strings_Repeat : okF Tryz.prog 71 = true := by kernel_rfl
theorem lay_strings_Repeat : RepC Tryz.prog 71 := ⟨fun s c w h1 h2 h3 h4 => Any.strings_Repeat_main ly_strings_Repeat_105 ex_strings_Repeat s c w h1 h2 h3 h4⟩
end Go.Proofs.YtcehlicmghnghaaGreat.V
