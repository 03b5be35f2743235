/- The functions' texts. -/
import Derived.Test.YtpecafogemipmaaXE
import Derived.Test.YtpecafogemipmaaProg
import Derived.KernelRfl
/- The functions' texts. -/
namespace Go.Proofs.Ytpecafogemipmaa.V
open Go Go.Proofs Go.RowKit
set_option maxRecDepth 100000
theorem follows : Try.prog.follows .mixedOrders = true := by kernel_rfl
def rc_laws_toRef : RC :=
  (.seq (.reg [⟨(some 1), none, .bx (.t 0)⟩,
   ⟨(some 2), none, .al [.int .i64 0, .int .i64 0]⟩])
  (.seq (.reg [⟨(some 3), none, .al [.int .i64 0, .int .i64 0]⟩])
  (.seq (.reg [⟨(some 4), none, .fa 0 (.t 1)⟩,
   ⟨(some 5), none, .ld false 1 (.t 4)⟩,
   ⟨(some 6), none, .fa 0 (.t 3)⟩,
   ⟨none, none, .st 1 (.t 6) (.t 5)⟩])
  (.seq (.reg [⟨(some 7), none, .fa 1 (.t 1)⟩,
   ⟨(some 8), none, .ld false 1 (.t 7)⟩,
   ⟨(some 9), none, .fa 1 (.t 3)⟩,
   ⟨none, none, .st 1 (.t 9) (.t 8)⟩])
  (.seq (.reg [⟨(some 10), none, .ld true 2 (.t 3)⟩,
   ⟨none, none, .st 2 (.t 2) (.t 10)⟩])
  .ret)))))
theorem k_laws_toRef : FnOk Try.prog 69 11 rc_laws_toRef [.cell 2 true 2] := ⟨Try.f69, _, [], Try.func69, rfl, rfl, by kernel_rfl, by kernel_rfl, follows⟩
theorem ok_laws_toRef : okF Try.prog 69 = true := by kernel_rfl
def rc_laws_toRefS : RC :=
  (.seq (.reg [⟨(some 2), none, .mv (.c (.nils))⟩])
  (.seq (.reg [⟨(some 5), none, .mv (.t 0)⟩,
   ⟨(some 6), none, .lenl (.t 5)⟩,
   ⟨(some 7), none, .ms 2 [.int .i64 0, .int .i64 0] 16 (.t 6) (.t 6)⟩,
   ⟨(some 3), none, .mv (.t 7)⟩])
  (.seq (.seq (.reg [⟨(some 4), none, .mv (.c (.int .i64 0))⟩])
  (.blk 0 (.loop (.seq (.seq (.reg [⟨(some 8), none, .mv (.t 4)⟩,
     ⟨(some 9), none, .mv (.t 0)⟩,
     ⟨(some 10), none, .lenl (.t 9)⟩,
     ⟨(some 11), none, .bin .lss (.t 8) (.t 10)⟩])
    (.cond (.t 11)
      .skip
      (.exit 0)))
    (.seq (.blk 1 (.reg [⟨(some 14), none, .mv (.t 3)⟩,
      ⟨(some 15), none, .mv (.t 4)⟩,
      ⟨(some 16), none, .mv (.t 0)⟩,
      ⟨(some 17), none, .mv (.t 4)⟩,
      ⟨(some 18), none, .ia 2 (.t 16) (.t 17)⟩,
      ⟨(some 19), none, .ld true 2 (.t 18)⟩,
      ⟨(some 20), none, .cl (.c (.fn 69 [])) [(.t 19)]⟩,
      ⟨(some 21), none, .ia 2 (.t 14) (.t 15)⟩,
      ⟨none, none, .st 2 (.t 21) (.t 20)⟩]))
    (.reg [⟨(some 12), none, .mv (.t 4)⟩,
     ⟨(some 13), none, .bin .add (.t 12) (.c (.int .i64 1))⟩,
     ⟨(some 4), none, .mv (.t 13)⟩]))))))
  (.seq (.reg [⟨(some 22), none, .mv (.t 3)⟩,
   ⟨(some 2), none, .mv (.t 22)⟩])
  .ret))))
theorem k_laws_toRefS : FnOk Try.prog 38 23 rc_laws_toRefS [.t 2] := ⟨Try.f38, _, [], Try.func38, rfl, rfl, by kernel_rfl, by kernel_rfl, follows⟩
theorem ok_laws_toRefS : okF Try.prog 38 = true := by kernel_rfl
def rc_laws_toCheck : RC :=
  (.seq (.reg [⟨(some 1), none, .bx (.t 0)⟩,
   ⟨(some 2), none, .al [.int .i64 0, .int .i64 0, .int .i64 0, .int .i64 0, .nils]⟩])
  (.seq (.reg [⟨(some 3), none, .al [.int .i64 0, .int .i64 0, .int .i64 0, .int .i64 0, .nils]⟩])
  (.seq (.reg [⟨(some 4), none, .fa 0 (.t 1)⟩,
   ⟨(some 5), none, .ld false 1 (.t 4)⟩,
   ⟨(some 6), none, .fa 0 (.t 3)⟩,
   ⟨none, none, .st 1 (.t 6) (.t 5)⟩])
  (.seq (.reg [⟨(some 7), none, .fa 1 (.t 1)⟩,
   ⟨(some 8), none, .ld false 1 (.t 7)⟩,
   ⟨(some 9), none, .fa 1 (.t 3)⟩,
   ⟨none, none, .st 1 (.t 9) (.t 8)⟩])
  (.seq (.reg [⟨(some 10), none, .fa 2 (.t 1)⟩,
   ⟨(some 11), none, .ld false 1 (.t 10)⟩,
   ⟨(some 12), none, .fa 2 (.t 3)⟩,
   ⟨none, none, .st 1 (.t 12) (.t 11)⟩])
  (.seq (.reg [⟨(some 13), none, .fa 3 (.t 1)⟩,
   ⟨(some 14), none, .ld false 1 (.t 13)⟩,
   ⟨(some 15), none, .fa 3 (.t 3)⟩,
   ⟨none, none, .st 1 (.t 15) (.t 14)⟩])
  (.seq (.reg [⟨(some 16), none, .fa 4 (.t 1)⟩,
   ⟨(some 17), none, .ld false 1 (.t 16)⟩,
   ⟨(some 18), none, .cl (.c (.fn 38 [])) [(.t 17)]⟩,
   ⟨(some 19), none, .fa 4 (.t 3)⟩,
   ⟨none, none, .st 1 (.t 19) (.t 18)⟩])
  (.seq (.reg [⟨(some 20), none, .ld true 5 (.t 3)⟩,
   ⟨none, none, .st 5 (.t 2) (.t 20)⟩])
  .ret))))))))
theorem k_laws_toCheck : FnOk Try.prog 11 21 rc_laws_toCheck [.cell 2 true 5] := ⟨Try.f11, _, [], Try.func11, rfl, rfl, by kernel_rfl, by kernel_rfl, follows⟩
theorem ok_laws_toCheck : okF Try.prog 11 = true := by kernel_rfl
def rc_laws_eqRef : RC :=
  (.seq (.reg [⟨(some 2), none, .bx (.t 0)⟩,
   ⟨(some 3), none, .bx (.t 1)⟩,
   ⟨(some 4), none, .mv (.c (.bool false))⟩])
  (.seq (.seq (.reg [⟨(some 5), none, .fa 0 (.t 2)⟩,
   ⟨(some 6), none, .ld false 1 (.t 5)⟩,
   ⟨(some 7), none, .fa 0 (.t 3)⟩,
   ⟨(some 8), none, .ld false 1 (.t 7)⟩,
   ⟨(some 9), none, .bin .neq (.t 6) (.t 8)⟩])
  (.cond (.t 9)
    (.seq (.reg [⟨(some 4), none, .mv (.c (.bool false))⟩])
    .ret)
    .skip))
  (.seq (.seq (.reg [⟨(some 10), none, .fa 1 (.t 2)⟩,
   ⟨(some 11), none, .ld false 1 (.t 10)⟩,
   ⟨(some 12), none, .fa 1 (.t 3)⟩,
   ⟨(some 13), none, .ld false 1 (.t 12)⟩,
   ⟨(some 14), none, .bin .neq (.t 11) (.t 13)⟩])
  (.cond (.t 14)
    (.seq (.reg [⟨(some 4), none, .mv (.c (.bool false))⟩])
    .ret)
    .skip))
  (.seq (.reg [⟨(some 4), none, .mv (.c (.bool true))⟩])
  .ret))))
theorem k_laws_eqRef : FnOk Try.prog 71 15 rc_laws_eqRef [.t 4] := ⟨Try.f71, _, [], Try.func71, rfl, rfl, by kernel_rfl, by kernel_rfl, follows⟩
theorem ok_laws_eqRef : okF Try.prog 71 = true := by kernel_rfl
def rc_laws_eqRefS : RC :=
  (.seq (.reg [⟨(some 4), none, .mv (.c (.bool false))⟩])
  (.seq (.seq (.reg [⟨(some 6), none, .mv (.t 0)⟩,
   ⟨(some 7), none, .lenl (.t 6)⟩,
   ⟨(some 8), none, .mv (.t 1)⟩,
   ⟨(some 9), none, .lenl (.t 8)⟩,
   ⟨(some 10), none, .bin .neq (.t 7) (.t 9)⟩])
  (.cond (.t 10)
    (.seq (.reg [⟨(some 4), none, .mv (.c (.bool false))⟩])
    .ret)
    .skip))
  (.seq (.seq (.reg [⟨(some 5), none, .mv (.c (.int .i64 0))⟩])
  (.blk 0 (.loop (.seq (.seq (.reg [⟨(some 11), none, .mv (.t 5)⟩,
     ⟨(some 12), none, .mv (.t 0)⟩,
     ⟨(some 13), none, .lenl (.t 12)⟩,
     ⟨(some 14), none, .bin .lss (.t 11) (.t 13)⟩])
    (.cond (.t 14)
      .skip
      (.exit 0)))
    (.seq (.blk 1 (.seq (.drw [⟨(some 17), none, .mv (.t 0)⟩,
      ⟨(some 18), none, .mv (.t 5)⟩,
      ⟨(some 19), none, .ia 2 (.t 17) (.t 18)⟩,
      ⟨(some 20), none, .ld true 2 (.t 19)⟩,
      ⟨(some 21), none, .mv (.t 1)⟩,
      ⟨(some 22), none, .mv (.t 5)⟩,
      ⟨(some 23), none, .ia 2 (.t 21) (.t 22)⟩,
      ⟨(some 24), none, .ld true 2 (.t 23)⟩,
      ⟨(some 25), none, .cl (.c (.fn 71 [])) [(.t 20), (.t 24)]⟩,
      ⟨(some 26), none, .un .not (.t 25)⟩] [.val [], .val [], .val [], .val [], .val [], .val [], .val [], .val [], .val [], .val []])
     (.cond (.t 26)
       (.seq (.reg [⟨(some 4), none, .mv (.c (.bool false))⟩])
       .ret)
       .skip)))
    (.reg [⟨(some 15), none, .mv (.t 5)⟩,
     ⟨(some 16), none, .bin .add (.t 15) (.c (.int .i64 1))⟩,
     ⟨(some 5), none, .mv (.t 16)⟩]))))))
  (.seq (.reg [⟨(some 4), none, .mv (.c (.bool true))⟩])
  .ret))))
theorem k_laws_eqRefS : FnOk Try.prog 42 27 rc_laws_eqRefS [.t 4] := ⟨Try.f42, _, [], Try.func42, rfl, rfl, by kernel_rfl, by kernel_rfl, follows⟩
theorem ok_laws_eqRefS : okF Try.prog 42 = true := by kernel_rfl
def rc_laws_eqCheck : RC :=
  (.seq (.reg [⟨(some 2), none, .bx (.t 0)⟩,
   ⟨(some 3), none, .bx (.t 1)⟩,
   ⟨(some 4), none, .mv (.c (.bool false))⟩])
  (.seq (.seq (.reg [⟨(some 5), none, .fa 0 (.t 2)⟩,
   ⟨(some 6), none, .ld false 1 (.t 5)⟩,
   ⟨(some 7), none, .fa 0 (.t 3)⟩,
   ⟨(some 8), none, .ld false 1 (.t 7)⟩,
   ⟨(some 9), none, .bin .neq (.t 6) (.t 8)⟩])
  (.cond (.t 9)
    (.seq (.reg [⟨(some 4), none, .mv (.c (.bool false))⟩])
    .ret)
    .skip))
  (.seq (.seq (.reg [⟨(some 10), none, .fa 1 (.t 2)⟩,
   ⟨(some 11), none, .ld false 1 (.t 10)⟩,
   ⟨(some 12), none, .fa 1 (.t 3)⟩,
   ⟨(some 13), none, .ld false 1 (.t 12)⟩,
   ⟨(some 14), none, .bin .neq (.t 11) (.t 13)⟩])
  (.cond (.t 14)
    (.seq (.reg [⟨(some 4), none, .mv (.c (.bool false))⟩])
    .ret)
    .skip))
  (.seq (.seq (.reg [⟨(some 15), none, .fa 2 (.t 2)⟩,
   ⟨(some 16), none, .ld false 1 (.t 15)⟩,
   ⟨(some 17), none, .fa 2 (.t 3)⟩,
   ⟨(some 18), none, .ld false 1 (.t 17)⟩,
   ⟨(some 19), none, .bin .neq (.t 16) (.t 18)⟩])
  (.cond (.t 19)
    (.seq (.reg [⟨(some 4), none, .mv (.c (.bool false))⟩])
    .ret)
    .skip))
  (.seq (.seq (.reg [⟨(some 20), none, .fa 3 (.t 2)⟩,
   ⟨(some 21), none, .ld false 1 (.t 20)⟩,
   ⟨(some 22), none, .fa 3 (.t 3)⟩,
   ⟨(some 23), none, .ld false 1 (.t 22)⟩,
   ⟨(some 24), none, .bin .neq (.t 21) (.t 23)⟩])
  (.cond (.t 24)
    (.seq (.reg [⟨(some 4), none, .mv (.c (.bool false))⟩])
    .ret)
    .skip))
  (.seq (.seq (.reg [⟨(some 25), none, .fa 4 (.t 2)⟩,
   ⟨(some 26), none, .ld false 1 (.t 25)⟩,
   ⟨(some 27), none, .fa 4 (.t 3)⟩,
   ⟨(some 28), none, .ld false 1 (.t 27)⟩,
   ⟨(some 29), none, .cl (.c (.fn 42 [])) [(.t 26), (.t 28)]⟩,
   ⟨(some 30), none, .un .not (.t 29)⟩])
  (.cond (.t 30)
    (.seq (.reg [⟨(some 4), none, .mv (.c (.bool false))⟩])
    .ret)
    .skip))
  (.seq (.reg [⟨(some 4), none, .mv (.c (.bool true))⟩])
  .ret)))))))
theorem k_laws_eqCheck : FnOk Try.prog 13 31 rc_laws_eqCheck [.t 4] := ⟨Try.f13, _, [], Try.func13, rfl, rfl, by kernel_rfl, by kernel_rfl, follows⟩
theorem ok_laws_eqCheck : okF Try.prog 13 = true := by kernel_rfl
def rc_spec_l01In : RC :=
  (.seq (.reg [⟨(some 6), none, .mv (.c (.bool false))⟩])
  (.seq (.reg [⟨(some 7), none, .mv (.t 0)⟩,
   ⟨(some 8), none, .mv (.t 1)⟩,
   ⟨(some 9), none, .bin .geq (.t 7) (.t 8)⟩,
   ⟨(some 10), none, .mv (.t 9)⟩,
   ⟨(some 11), (some (10, true)), .mv (.t 0)⟩,
   ⟨(some 12), (some (10, true)), .mv (.t 2)⟩,
   ⟨(some 13), (some (10, true)), .bin .leq (.t 11) (.t 12)⟩,
   ⟨(some 14), none, .pick (.t 10) (.t 13) (.c (.bool false))⟩,
   ⟨(some 6), none, .mv (.t 14)⟩])
  .ret))
theorem k_spec_l01In : FnOk Try.prog 37 15 rc_spec_l01In [.t 6] := ⟨Try.f37, _, [], Try.func37, rfl, rfl, by kernel_rfl, by kernel_rfl, follows⟩
theorem ok_spec_l01In : okF Try.prog 37 = true := by kernel_rfl
def rc_spec_CheckOk : RC :=
  (.seq (.reg [⟨(some 1), none, .bx (.t 0)⟩,
   ⟨(some 2), none, .mv (.c (.bool false))⟩])
  (.seq (.seq (.reg [⟨(some 6), none, .fa 0 (.t 1)⟩,
   ⟨(some 7), none, .ld false 1 (.t 6)⟩,
   ⟨(some 8), none, .cl (.c (.fn 37 [])) [(.t 7), (.c (.int .i64 1)), (.c (.int .i64 1000000000))]⟩,
   ⟨(some 9), none, .un .not (.t 8)⟩,
   ⟨(some 10), none, .mv (.t 9)⟩,
   ⟨(some 11), (some (10, false)), .fa 1 (.t 1)⟩,
   ⟨(some 12), (some (10, false)), .ld false 1 (.t 11)⟩,
   ⟨(some 13), (some (10, false)), .cl (.c (.fn 37 [])) [(.t 12), (.c (.int .i64 1)), (.c (.int .i64 1000000000))]⟩,
   ⟨(some 14), (some (10, false)), .un .not (.t 13)⟩,
   ⟨(some 15), none, .pick (.t 10) (.c (.bool true)) (.t 14)⟩,
   ⟨(some 16), none, .mv (.t 15)⟩,
   ⟨(some 17), (some (16, false)), .fa 2 (.t 1)⟩,
   ⟨(some 18), (some (16, false)), .ld false 1 (.t 17)⟩,
   ⟨(some 19), (some (16, false)), .cl (.c (.fn 37 [])) [(.t 18), (.c (.int .i64 1)), (.c (.int .i64 1000000000))]⟩,
   ⟨(some 20), (some (16, false)), .un .not (.t 19)⟩,
   ⟨(some 21), none, .pick (.t 16) (.c (.bool true)) (.t 20)⟩,
   ⟨(some 22), none, .mv (.t 21)⟩,
   ⟨(some 23), (some (22, false)), .fa 3 (.t 1)⟩,
   ⟨(some 24), (some (22, false)), .ld false 1 (.t 23)⟩,
   ⟨(some 25), (some (22, false)), .cl (.c (.fn 37 [])) [(.t 24), (.c (.int .i64 1)), (.c (.int .i64 1000000000))]⟩,
   ⟨(some 26), (some (22, false)), .un .not (.t 25)⟩,
   ⟨(some 27), none, .pick (.t 22) (.c (.bool true)) (.t 26)⟩,
   ⟨(some 28), none, .mv (.t 27)⟩,
   ⟨(some 29), (some (28, false)), .fa 4 (.t 1)⟩,
   ⟨(some 30), (some (28, false)), .ld false 1 (.t 29)⟩,
   ⟨(some 31), (some (28, false)), .lenl (.t 30)⟩,
   ⟨(some 32), (some (28, false)), .cl (.c (.fn 37 [])) [(.t 31), (.c (.int .i64 1)), (.c (.int .i64 11))]⟩,
   ⟨(some 33), (some (28, false)), .un .not (.t 32)⟩,
   ⟨(some 34), none, .pick (.t 28) (.c (.bool true)) (.t 33)⟩])
  (.cond (.t 34)
    (.seq (.reg [⟨(some 2), none, .mv (.c (.bool false))⟩])
    .ret)
    .skip))
  (.seq (.seq (.reg [⟨(some 3), none, .mv (.c (.int .i64 0))⟩])
  (.blk 0 (.loop (.seq (.seq (.reg [⟨(some 35), none, .mv (.t 3)⟩,
     ⟨(some 36), none, .fa 4 (.t 1)⟩,
     ⟨(some 37), none, .ld false 1 (.t 36)⟩,
     ⟨(some 38), none, .lenl (.t 37)⟩,
     ⟨(some 39), none, .bin .lss (.t 35) (.t 38)⟩])
    (.cond (.t 39)
      .skip
      (.exit 0)))
    (.seq (.blk 1 (.seq (.reg [⟨(some 42), none, .fa 4 (.t 1)⟩,
      ⟨(some 43), none, .ld false 1 (.t 42)⟩,
      ⟨(some 44), none, .mv (.t 3)⟩,
      ⟨(some 45), none, .ia 2 (.t 43) (.t 44)⟩,
      ⟨(some 46), none, .ld true 2 (.t 45)⟩,
      ⟨(some 4), none, .al [.int .i64 0, .int .i64 0]⟩,
      ⟨none, none, .st 2 (.t 4) (.t 46)⟩])
     (.seq (.seq (.drw [⟨(some 47), none, .fa 0 (.t 4)⟩,
      ⟨(some 48), none, .ld false 1 (.t 47)⟩,
      ⟨(some 49), none, .cl (.c (.fn 37 [])) [(.t 48), (.c (.int .i64 0)), (.c (.int .i64 10))]⟩,
      ⟨(some 50), none, .un .not (.t 49)⟩,
      ⟨(some 51), none, .mv (.t 50)⟩,
      ⟨(some 52), (some (51, false)), .fa 1 (.t 4)⟩,
      ⟨(some 53), (some (51, false)), .ld false 1 (.t 52)⟩,
      ⟨(some 54), (some (51, false)), .fa 1 (.t 1)⟩,
      ⟨(some 55), (some (51, false)), .ld false 1 (.t 54)⟩,
      ⟨(some 56), (some (51, false)), .bin .sub (.t 55) (.c (.int .i64 1))⟩,
      ⟨(some 57), (some (51, false)), .cl (.c (.fn 37 [])) [(.t 53), (.c (.int .i64 1)), (.t 56)]⟩,
      ⟨(some 58), (some (51, false)), .un .not (.t 57)⟩,
      ⟨(some 59), none, .pick (.t 51) (.c (.bool true)) (.t 58)⟩,
      ⟨(some 60), none, .mv (.t 59)⟩,
      ⟨(some 61), (some (60, false)), .mv (.t 3)⟩,
      ⟨(some 62), (some (60, false)), .bin .gtr (.t 61) (.c (.int .i64 0))⟩,
      ⟨(some 63), (some (60, false)), .mv (.t 62)⟩,
      ⟨(some 64), (some (63, true)), .fa 4 (.t 1)⟩,
      ⟨(some 65), (some (63, true)), .ld false 1 (.t 64)⟩,
      ⟨(some 66), (some (63, true)), .mv (.t 3)⟩,
      ⟨(some 67), (some (63, true)), .bin .sub (.t 66) (.c (.int .i64 1))⟩,
      ⟨(some 68), (some (63, true)), .ia 2 (.t 65) (.t 67)⟩,
      ⟨(some 69), (some (63, true)), .fa 1 (.t 68)⟩,
      ⟨(some 70), (some (63, true)), .ld false 1 (.t 69)⟩,
      ⟨(some 71), (some (63, true)), .fa 1 (.t 4)⟩,
      ⟨(some 72), (some (63, true)), .ld false 1 (.t 71)⟩,
      ⟨(some 73), (some (63, true)), .bin .geq (.t 70) (.t 72)⟩,
      ⟨(some 74), (some (60, false)), .pick (.t 63) (.t 73) (.c (.bool false))⟩,
      ⟨(some 75), none, .pick (.t 60) (.c (.bool true)) (.t 74)⟩] [.val [], .val [], .val [], .val [], .val [], .val [], .val [], .val [], .val [], .val [], .val [], .val [], .val [], .val [], .val [], .val [], .val [], .val [], .val [], .val [], .val [], .val [], .val [], .val [], .val [], .val [], .val [], .val [], .val []])
     (.cond (.t 75)
       (.seq (.reg [⟨(some 2), none, .mv (.c (.bool false))⟩])
       .ret)
       .skip))
     (.seq (.reg [⟨(some 5), none, .mv (.c (.int .i64 0))⟩])
     (.blk 2 (.loop (.seq (.seq (.reg [⟨(some 76), none, .mv (.t 5)⟩,
        ⟨(some 77), none, .mv (.t 3)⟩,
        ⟨(some 78), none, .bin .lss (.t 76) (.t 77)⟩])
       (.cond (.t 78)
         .skip
         (.exit 2)))
       (.seq (.blk 3 (.seq (.drw [⟨(some 81), none, .fa 4 (.t 1)⟩,
         ⟨(some 82), none, .ld false 1 (.t 81)⟩,
         ⟨(some 83), none, .mv (.t 5)⟩,
         ⟨(some 84), none, .ia 2 (.t 82) (.t 83)⟩,
         ⟨(some 85), none, .fa 0 (.t 84)⟩,
         ⟨(some 86), none, .ld false 1 (.t 85)⟩,
         ⟨(some 87), none, .fa 0 (.t 4)⟩,
         ⟨(some 88), none, .ld false 1 (.t 87)⟩,
         ⟨(some 89), none, .bin .eql (.t 86) (.t 88)⟩] [.val [], .val [], .val [], .val [], .val [], .val [], .val [], .val [], .val []])
        (.cond (.t 89)
          (.seq (.reg [⟨(some 2), none, .mv (.c (.bool false))⟩])
          .ret)
          .skip)))
       (.reg [⟨(some 79), none, .mv (.t 5)⟩,
        ⟨(some 80), none, .bin .add (.t 79) (.c (.int .i64 1))⟩,
        ⟨(some 5), none, .mv (.t 80)⟩])))))))))
    (.reg [⟨(some 40), none, .mv (.t 3)⟩,
     ⟨(some 41), none, .bin .add (.t 40) (.c (.int .i64 1))⟩,
     ⟨(some 3), none, .mv (.t 41)⟩]))))))
  (.seq (.reg [⟨(some 2), none, .mv (.c (.bool true))⟩])
  .ret))))
theorem k_spec_CheckOk : FnOk Try.prog 10 90 rc_spec_CheckOk [.t 2] := ⟨Try.f10, _, [], Try.func10, rfl, rfl, by kernel_rfl, by kernel_rfl, follows⟩
theorem ok_spec_CheckOk : okF Try.prog 10 = true := by kernel_rfl
def rc_spec_l01Var : RC :=
  (.seq (.reg [⟨(some 2), none, .mv (.c (.str []))⟩])
  (.seq (.reg [⟨(some 4), none, .bs 1 [.int .u8 0] 0 []⟩,
   ⟨(some 3), none, .mv (.t 4)⟩])
  (.seq (.blk 0 (.loop (.seq (.seq (.reg [⟨(some 5), none, .mv (.t 0)⟩,
     ⟨(some 6), none, .bin .gtr (.t 5) (.c (.int .i64 127))⟩])
    (.cond (.t 6)
      .skip
      (.exit 0)))
    (.blk 1 (.seq (.reg [⟨(some 7), none, .mv (.t 3)⟩,
      ⟨(some 8), none, .mv (.t 0)⟩,
      ⟨(some 9), none, .bin .rem (.t 8) (.c (.int .i64 128))⟩,
      ⟨(some 10), none, .bin .add (.t 9) (.c (.int .i64 128))⟩,
      ⟨(some 11), none, .cvi .u8 (.t 10)⟩,
      ⟨(some 12), none, .bs 1 [.int .u8 0] 1 [(0, (.t 11))]⟩,
      ⟨(some 13), none, .app 1 1 (.t 7) (.t 12)⟩,
      ⟨(some 3), none, .mv (.t 13)⟩])
     (.reg [⟨(some 14), none, .mv (.t 0)⟩,
      ⟨(some 15), none, .bin .quo (.t 14) (.c (.int .i64 128))⟩,
      ⟨(some 0), none, .mv (.t 15)⟩]))))))
  (.seq (.reg [⟨(some 16), none, .mv (.t 3)⟩,
   ⟨(some 17), none, .mv (.t 0)⟩,
   ⟨(some 18), none, .cvi .u8 (.t 17)⟩,
   ⟨(some 19), none, .bs 1 [.int .u8 0] 1 [(0, (.t 18))]⟩,
   ⟨(some 20), none, .app 1 1 (.t 16) (.t 19)⟩,
   ⟨(some 21), none, .cvb (.t 20)⟩,
   ⟨(some 2), none, .mv (.t 21)⟩])
  .ret))))
theorem k_spec_l01Var : FnOk Try.prog 43 22 rc_spec_l01Var [.t 2] := ⟨Try.f43, _, [], Try.func43, rfl, rfl, by kernel_rfl, by kernel_rfl, follows⟩
theorem ok_spec_l01Var : okF Try.prog 43 = true := by kernel_rfl
def rc_spec_l02Four : RC :=
  (.seq (.reg [⟨(some 2), none, .mv (.c (.str []))⟩])
  (.seq (.reg [⟨(some 3), none, .mv (.t 0)⟩,
   ⟨(some 4), none, .bin .shr (.t 3) (.c (.int .u64 24))⟩,
   ⟨(some 5), none, .cvi .u8 (.t 4)⟩,
   ⟨(some 6), none, .mv (.t 0)⟩,
   ⟨(some 7), none, .bin .shr (.t 6) (.c (.int .u64 16))⟩,
   ⟨(some 8), none, .cvi .u8 (.t 7)⟩,
   ⟨(some 9), none, .mv (.t 0)⟩,
   ⟨(some 10), none, .bin .shr (.t 9) (.c (.int .u64 8))⟩,
   ⟨(some 11), none, .cvi .u8 (.t 10)⟩,
   ⟨(some 12), none, .mv (.t 0)⟩,
   ⟨(some 13), none, .cvi .u8 (.t 12)⟩,
   ⟨(some 14), none, .bs 1 [.int .u8 0] 4 [(0, (.t 5)), (1, (.t 8)), (2, (.t 11)), (3, (.t 13))]⟩,
   ⟨(some 15), none, .cvb (.t 14)⟩,
   ⟨(some 2), none, .mv (.t 15)⟩])
  .ret))
theorem k_spec_l02Four : FnOk Try.prog 72 16 rc_spec_l02Four [.t 2] := ⟨Try.f72, _, [], Try.func72, rfl, rfl, by kernel_rfl, by kernel_rfl, follows⟩
theorem ok_spec_l02Four : okF Try.prog 72 = true := by kernel_rfl
def rc_spec_SumMore : RC :=
  (.seq (.reg [⟨(some 4), none, .mv (.c (.int .u32 0))⟩])
  (.seq (.seq (.reg [⟨(some 5), none, .mv (.c (.int .i64 0))⟩])
  (.blk 0 (.loop (.seq (.seq (.reg [⟨(some 8), none, .mv (.t 5)⟩,
     ⟨(some 9), none, .mv (.t 1)⟩,
     ⟨(some 10), none, .lens (.t 9)⟩,
     ⟨(some 11), none, .bin .lss (.t 8) (.t 10)⟩])
    (.cond (.t 11)
      .skip
      (.exit 0)))
    (.seq (.blk 1 (.seq (.reg [⟨(some 14), none, .mv (.t 0)⟩,
      ⟨(some 15), none, .mv (.t 1)⟩,
      ⟨(some 16), none, .mv (.t 5)⟩,
      ⟨(some 17), none, .idx (.t 15) (.t 16)⟩,
      ⟨(some 18), none, .cvi .u32 (.t 17)⟩,
      ⟨(some 19), none, .bin .xor (.t 14) (.t 18)⟩,
      ⟨(some 0), none, .mv (.t 19)⟩])
     (.seq (.reg [⟨(some 6), none, .mv (.c (.int .i64 0))⟩])
     (.blk 2 (.loop (.seq (.seq (.reg [⟨(some 20), none, .mv (.t 6)⟩,
        ⟨(some 21), none, .bin .lss (.t 20) (.c (.int .i64 8))⟩])
       (.cond (.t 21)
         .skip
         (.exit 2)))
       (.seq (.blk 3 (.seq (.reg [⟨(some 24), none, .mv (.t 0)⟩,
         ⟨(some 25), none, .bin .rem (.t 24) (.c (.int .u32 2))⟩,
         ⟨(some 26), none, .bin .eql (.t 25) (.c (.int .u32 1))⟩,
         ⟨(some 7), none, .mv (.t 26)⟩])
        (.seq (.reg [⟨(some 27), none, .mv (.t 0)⟩,
         ⟨(some 28), none, .bin .quo (.t 27) (.c (.int .u32 2))⟩,
         ⟨(some 0), none, .mv (.t 28)⟩])
        (.seq (.reg [⟨(some 29), none, .mv (.t 7)⟩])
        (.cond (.t 29)
          (.reg [⟨(some 30), none, .mv (.t 0)⟩,
           ⟨(some 31), none, .bin .xor (.t 30) (.c (.int .u32 3558460437))⟩,
           ⟨(some 0), none, .mv (.t 31)⟩])
          .skip)))))
       (.reg [⟨(some 22), none, .mv (.t 6)⟩,
        ⟨(some 23), none, .bin .add (.t 22) (.c (.int .i64 1))⟩,
        ⟨(some 6), none, .mv (.t 23)⟩]))))))))
    (.reg [⟨(some 12), none, .mv (.t 5)⟩,
     ⟨(some 13), none, .bin .add (.t 12) (.c (.int .i64 1))⟩,
     ⟨(some 5), none, .mv (.t 13)⟩]))))))
  (.seq (.reg [⟨(some 32), none, .mv (.t 0)⟩,
   ⟨(some 4), none, .mv (.t 32)⟩])
  .ret)))
theorem k_spec_SumMore : FnOk Try.prog 100 33 rc_spec_SumMore [.t 4] := ⟨Try.f100, _, [], Try.func100, rfl, rfl, by kernel_rfl, by kernel_rfl, follows⟩
theorem ok_spec_SumMore : okF Try.prog 100 = true := by kernel_rfl
def rc_spec_SumOf : RC :=
  (.seq (.reg [⟨(some 2), none, .mv (.c (.int .u32 0))⟩])
  (.seq (.reg [⟨(some 3), none, .mv (.t 0)⟩,
   ⟨(some 4), none, .cl (.c (.fn 100 [])) [(.c (.int .u32 4294967295)), (.t 3)]⟩,
   ⟨(some 2), none, .mv (.t 4)⟩])
  .ret))
theorem k_spec_SumOf : FnOk Try.prog 73 5 rc_spec_SumOf [.t 2] := ⟨Try.f73, _, [], Try.func73, rfl, rfl, by kernel_rfl, by kernel_rfl, follows⟩
theorem ok_spec_SumOf : okF Try.prog 73 = true := by kernel_rfl
def rc_spec_Sealed : RC :=
  (.seq (.reg [⟨(some 2), none, .mv (.c (.str []))⟩,
   ⟨(some 3), none, .mv (.c (.bool false))⟩])
  (.seq (.seq (.reg [⟨(some 4), none, .mv (.t 0)⟩,
   ⟨(some 5), none, .lens (.t 4)⟩,
   ⟨(some 6), none, .bin .gtr (.t 5) (.c (.int .i64 20000))⟩])
  (.cond (.t 6)
    (.seq (.reg [⟨(some 2), none, .mv (.c (.str []))⟩,
     ⟨(some 3), none, .mv (.c (.bool false))⟩])
    .ret)
    .skip))
  (.seq (.reg [⟨(some 7), none, .mv (.t 0)⟩,
   ⟨(some 8), none, .mv (.t 0)⟩,
   ⟨(some 9), none, .cl (.c (.fn 73 [])) [(.t 8)]⟩,
   ⟨(some 10), none, .cl (.c (.fn 72 [])) [(.t 9)]⟩,
   ⟨(some 11), none, .bin .add (.t 7) (.t 10)⟩,
   ⟨(some 2), none, .mv (.t 11)⟩,
   ⟨(some 3), none, .mv (.c (.bool true))⟩])
  .ret)))
theorem k_spec_Sealed : FnOk Try.prog 44 12 rc_spec_Sealed [.t 2, .t 3] := ⟨Try.f44, _, [], Try.func44, rfl, rfl, by kernel_rfl, by kernel_rfl, follows⟩
theorem ok_spec_Sealed : okF Try.prog 44 = true := by kernel_rfl
def rc_spec_l06Short : RC :=
  (.seq (.reg [⟨(some 2), none, .mv (.c (.str []))⟩])
  (.seq (.reg [⟨(some 3), none, .mv (.t 0)⟩,
   ⟨(some 4), none, .lens (.t 3)⟩,
   ⟨(some 5), none, .cl (.c (.fn 43 [])) [(.t 4)]⟩,
   ⟨(some 6), none, .mv (.t 0)⟩,
   ⟨(some 7), none, .bin .add (.t 5) (.t 6)⟩,
   ⟨(some 2), none, .mv (.t 7)⟩])
  .ret))
theorem k_spec_l06Short : FnOk Try.prog 45 8 rc_spec_l06Short [.t 2] := ⟨Try.f45, _, [], Try.func45, rfl, rfl, by kernel_rfl, by kernel_rfl, follows⟩
theorem ok_spec_l06Short : okF Try.prog 45 = true := by kernel_rfl
def rc_spec_CheckText : RC :=
  (.seq (.reg [⟨(some 1), none, .bx (.t 0)⟩,
   ⟨(some 2), none, .mv (.c (.str []))⟩,
   ⟨(some 3), none, .mv (.c (.bool false))⟩])
  (.seq (.seq (.reg [⟨(some 9), none, .ld true 5 (.t 1)⟩,
   ⟨(some 10), none, .cl (.c (.fn 10 [])) [(.t 9)]⟩,
   ⟨(some 11), none, .un .not (.t 10)⟩])
  (.cond (.t 11)
    (.seq (.reg [⟨(some 2), none, .mv (.c (.str []))⟩,
     ⟨(some 3), none, .mv (.c (.bool false))⟩])
    .ret)
    .skip))
  (.seq (.drw [⟨(some 12), none, .fa 0 (.t 1)⟩,
   ⟨(some 13), none, .ld false 1 (.t 12)⟩,
   ⟨(some 14), none, .cl (.c (.fn 43 [])) [(.t 13)]⟩,
   ⟨(some 15), none, .fa 1 (.t 1)⟩,
   ⟨(some 16), none, .ld false 1 (.t 15)⟩,
   ⟨(some 17), none, .cl (.c (.fn 43 [])) [(.t 16)]⟩,
   ⟨(some 18), none, .bin .add (.t 14) (.t 17)⟩,
   ⟨(some 19), none, .fa 2 (.t 1)⟩,
   ⟨(some 20), none, .ld false 1 (.t 19)⟩,
   ⟨(some 21), none, .cl (.c (.fn 43 [])) [(.t 20)]⟩,
   ⟨(some 22), none, .bin .add (.t 18) (.t 21)⟩,
   ⟨(some 23), none, .fa 3 (.t 1)⟩,
   ⟨(some 24), none, .ld false 1 (.t 23)⟩,
   ⟨(some 25), none, .cl (.c (.fn 43 [])) [(.t 24)]⟩,
   ⟨(some 26), none, .bin .add (.t 22) (.t 25)⟩,
   ⟨(some 27), none, .fa 4 (.t 1)⟩,
   ⟨(some 28), none, .ld false 1 (.t 27)⟩,
   ⟨(some 29), none, .lenl (.t 28)⟩,
   ⟨(some 30), none, .cl (.c (.fn 43 [])) [(.t 29)]⟩,
   ⟨(some 31), none, .bin .add (.t 26) (.t 30)⟩,
   ⟨(some 4), none, .mv (.t 31)⟩] [.val [], .val [], .val [], .val [], .val [], .val [], .val [], .val [], .val [], .val [], .val [], .val [], .val [], .val [], .val [], .val [], .val [], .val [], .val [], .val [], .val []])
  (.seq (.seq (.reg [⟨(some 5), none, .mv (.c (.int .i64 0))⟩])
  (.blk 0 (.loop (.seq (.seq (.reg [⟨(some 32), none, .mv (.t 5)⟩,
     ⟨(some 33), none, .fa 4 (.t 1)⟩,
     ⟨(some 34), none, .ld false 1 (.t 33)⟩,
     ⟨(some 35), none, .lenl (.t 34)⟩,
     ⟨(some 36), none, .bin .lss (.t 32) (.t 35)⟩])
    (.cond (.t 36)
      .skip
      (.exit 0)))
    (.seq (.blk 1 (.drw [⟨(some 39), none, .mv (.t 4)⟩,
      ⟨(some 40), none, .fa 4 (.t 1)⟩,
      ⟨(some 41), none, .ld false 1 (.t 40)⟩,
      ⟨(some 42), none, .mv (.t 5)⟩,
      ⟨(some 43), none, .ia 2 (.t 41) (.t 42)⟩,
      ⟨(some 44), none, .fa 0 (.t 43)⟩,
      ⟨(some 45), none, .ld false 1 (.t 44)⟩,
      ⟨(some 46), none, .cl (.c (.fn 43 [])) [(.t 45)]⟩,
      ⟨(some 47), none, .bin .add (.t 39) (.t 46)⟩,
      ⟨(some 48), none, .fa 4 (.t 1)⟩,
      ⟨(some 49), none, .ld false 1 (.t 48)⟩,
      ⟨(some 50), none, .mv (.t 5)⟩,
      ⟨(some 51), none, .ia 2 (.t 49) (.t 50)⟩,
      ⟨(some 52), none, .fa 1 (.t 51)⟩,
      ⟨(some 53), none, .ld false 1 (.t 52)⟩,
      ⟨(some 54), none, .cl (.c (.fn 43 [])) [(.t 53)]⟩,
      ⟨(some 55), none, .bin .add (.t 47) (.t 54)⟩,
      ⟨(some 4), none, .mv (.t 55)⟩] [.val [], .val [], .val [], .val [], .val [], .val [], .val [], .val [], .val [], .val [], .val [], .val [], .val [], .val [], .val [], .val [], .val [], .val []]))
    (.reg [⟨(some 37), none, .mv (.t 5)⟩,
     ⟨(some 38), none, .bin .add (.t 37) (.c (.int .i64 1))⟩,
     ⟨(some 5), none, .mv (.t 38)⟩]))))))
  (.seq (.reg [⟨(some 57), none, .mv (.t 4)⟩,
   ⟨(some 58), none, .cl (.c (.fn 44 [])) [(.t 57)]⟩,
   ⟨(some 56), none, .mv (.t 58)⟩,
   ⟨(some 59), none, .ext (.t 56) 0⟩,
   ⟨(some 60), none, .ext (.t 56) 1⟩,
   ⟨(some 6), none, .mv (.t 59)⟩,
   ⟨(some 7), none, .mv (.t 60)⟩])
  (.seq (.reg [⟨(some 61), none, .mv (.t 6)⟩,
   ⟨(some 62), none, .cl (.c (.fn 45 [])) [(.t 61)]⟩,
   ⟨(some 8), none, .mv (.t 62)⟩])
  (.seq (.seq (.reg [⟨(some 63), none, .mv (.t 7)⟩,
   ⟨(some 64), none, .un .not (.t 63)⟩,
   ⟨(some 65), none, .mv (.t 64)⟩,
   ⟨(some 66), (some (65, false)), .mv (.t 8)⟩,
   ⟨(some 67), (some (65, false)), .lens (.t 66)⟩,
   ⟨(some 68), (some (65, false)), .bin .gtr (.t 67) (.c (.int .i64 128))⟩,
   ⟨(some 69), none, .pick (.t 65) (.c (.bool true)) (.t 68)⟩])
  (.cond (.t 69)
    (.seq (.reg [⟨(some 2), none, .mv (.c (.str []))⟩,
     ⟨(some 3), none, .mv (.c (.bool false))⟩])
    .ret)
    .skip))
  (.seq (.reg [⟨(some 70), none, .mv (.t 8)⟩,
   ⟨(some 2), none, .mv (.t 70)⟩,
   ⟨(some 3), none, .mv (.c (.bool true))⟩])
  .ret))))))))
theorem k_spec_CheckText : FnOk Try.prog 14 71 rc_spec_CheckText [.t 2, .t 3] := ⟨Try.f14, _, [], Try.func14, rfl, rfl, by kernel_rfl, by kernel_rfl, follows⟩
theorem ok_spec_CheckText : okF Try.prog 14 = true := by kernel_rfl
def rc_impl_in : RC :=
  (.seq (.reg [⟨(some 6), none, .mv (.c (.bool false))⟩])
  (.seq (.reg [⟨(some 7), none, .mv (.t 0)⟩,
   ⟨(some 8), none, .mv (.t 1)⟩,
   ⟨(some 9), none, .bin .geq (.t 7) (.t 8)⟩,
   ⟨(some 10), none, .mv (.t 9)⟩,
   ⟨(some 11), (some (10, true)), .mv (.t 0)⟩,
   ⟨(some 12), (some (10, true)), .mv (.t 2)⟩,
   ⟨(some 13), (some (10, true)), .bin .leq (.t 11) (.t 12)⟩,
   ⟨(some 14), none, .pick (.t 10) (.t 13) (.c (.bool false))⟩,
   ⟨(some 6), none, .mv (.t 14)⟩])
  .ret))
theorem k_impl_in : FnOk Try.prog 39 15 rc_impl_in [.t 6] := ⟨Try.f39, _, [], Try.func39, rfl, rfl, by kernel_rfl, by kernel_rfl, follows⟩
theorem ok_impl_in : okF Try.prog 39 = true := by kernel_rfl
def rc_impl_CheckOk_1 : RC :=
  (.seq (.reg [⟨(some 2), none, .bx (.t 0)⟩,
   ⟨(some 3), none, .mv (.c (.bool false))⟩])
  (.seq (.reg [⟨(some 4), none, .fa 0 (.t 2)⟩,
   ⟨(some 5), none, .ld false 1 (.t 4)⟩,
   ⟨(some 6), none, .fa 0 (.t 1)⟩,
   ⟨(some 7), none, .ld false 1 (.t 6)⟩,
   ⟨(some 8), none, .bin .eql (.t 5) (.t 7)⟩,
   ⟨(some 3), none, .mv (.t 8)⟩])
  .ret))
theorem k_impl_CheckOk_1 : FnOk Try.prog 41 9 rc_impl_CheckOk_1 [.t 3] := ⟨Try.f41, _, [], Try.func41, rfl, rfl, by kernel_rfl, by kernel_rfl, follows⟩
theorem ok_impl_CheckOk_1 : okF Try.prog 41 = true := by kernel_rfl
def rc_slices_IndexFunc_Ref : RC :=
  (.seq (.reg [⟨(some 4), none, .mv (.c (.int .i64 0))⟩])
  (.seq (.seq (.reg [⟨(some 6), none, .mv (.t 0)⟩,
   ⟨(some 7), none, .lenl (.t 6)⟩,
   ⟨(some 8), none, .mv (.c (.int .i64 0))⟩])
  (.blk 0 (.loop (.seq (.reg [⟨(some 9), none, .bin .lss (.t 8) (.t 7)⟩])
    (.seq (.cond (.t 9)
      .skip
      (.exit 0))
    (.seq (.blk 1 (.seq (.reg [⟨(some 10), none, .mv (.t 8)⟩,
      ⟨(some 5), none, .mv (.t 10)⟩])
     (.seq (.reg [⟨(some 11), none, .mv (.t 1)⟩,
      ⟨(some 12), none, .mv (.t 0)⟩,
      ⟨(some 13), none, .mv (.t 5)⟩,
      ⟨(some 14), none, .ia 2 (.t 12) (.t 13)⟩,
      ⟨(some 15), none, .ld true 2 (.t 14)⟩,
      ⟨(some 16), none, .cl (.t 11) [(.t 15)]⟩])
     (.cond (.t 16)
       (.seq (.reg [⟨(some 17), none, .mv (.t 5)⟩,
        ⟨(some 4), none, .mv (.t 17)⟩])
       .ret)
       .skip))))
    (.reg [⟨(some 18), none, .bin .add (.t 8) (.c (.int .i64 1))⟩,
     ⟨(some 8), none, .mv (.t 18)⟩])))))))
  (.seq (.reg [⟨(some 4), none, .mv (.c (.int .i64 (-1)))⟩])
  .ret)))
theorem k_slices_IndexFunc_Ref : FnOk Try.prog 70 19 rc_slices_IndexFunc_Ref [.t 4] := ⟨Try.f70, _, [], Try.func70, rfl, rfl, by kernel_rfl, by kernel_rfl, follows⟩
theorem ok_slices_IndexFunc_Ref : okF Try.prog 70 = true := by kernel_rfl
def rc_slices_ContainsFunc_Ref : RC :=
  (.seq (.reg [⟨(some 4), none, .mv (.c (.bool false))⟩])
  (.seq (.reg [⟨(some 5), none, .mv (.t 0)⟩,
   ⟨(some 6), none, .mv (.t 1)⟩,
   ⟨(some 7), none, .cl (.c (.fn 70 [])) [(.t 5), (.t 6)]⟩,
   ⟨(some 8), none, .bin .geq (.t 7) (.c (.int .i64 0))⟩,
   ⟨(some 4), none, .mv (.t 8)⟩])
  .ret))
theorem k_slices_ContainsFunc_Ref : FnOk Try.prog 40 9 rc_slices_ContainsFunc_Ref [.t 4] := ⟨Try.f40, _, [], Try.func40, rfl, rfl, by kernel_rfl, by kernel_rfl, follows⟩
theorem ok_slices_ContainsFunc_Ref : okF Try.prog 40 = true := by kernel_rfl
def rc_impl_CheckOk : RC :=
  (.seq (.reg [⟨(some 1), none, .bx (.t 0)⟩,
   ⟨(some 2), none, .mv (.c (.bool false))⟩])
  (.seq (.seq (.reg [⟨(some 8), none, .fa 0 (.t 1)⟩,
   ⟨(some 9), none, .ld false 1 (.t 8)⟩,
   ⟨(some 10), none, .fa 1 (.t 1)⟩,
   ⟨(some 11), none, .ld false 1 (.t 10)⟩,
   ⟨(some 12), none, .fa 2 (.t 1)⟩,
   ⟨(some 13), none, .ld false 1 (.t 12)⟩,
   ⟨(some 14), none, .fa 3 (.t 1)⟩,
   ⟨(some 15), none, .ld false 1 (.t 14)⟩,
   ⟨(some 16), none, .bs 1 [.int .i64 0] 4 [(0, (.t 9)), (1, (.t 11)), (2, (.t 13)), (3, (.t 15))]⟩,
   ⟨(some 17), none, .lenl (.t 16)⟩,
   ⟨(some 18), none, .mv (.c (.int .i64 0))⟩])
  (.blk 0 (.loop (.seq (.reg [⟨(some 19), none, .bin .lss (.t 18) (.t 17)⟩])
    (.seq (.cond (.t 19)
      .skip
      (.exit 0))
    (.seq (.blk 1 (.seq (.reg [⟨(some 20), none, .ia 1 (.t 16) (.t 18)⟩,
      ⟨(some 21), none, .ld false 1 (.t 20)⟩,
      ⟨(some 4), none, .mv (.t 21)⟩])
     (.seq (.reg [⟨(some 22), none, .mv (.t 4)⟩,
      ⟨(some 23), none, .cl (.c (.fn 39 [])) [(.t 22), (.c (.int .i64 1)), (.c (.int .i64 1000000000))]⟩,
      ⟨(some 24), none, .un .not (.t 23)⟩])
     (.cond (.t 24)
       (.seq (.reg [⟨(some 2), none, .mv (.c (.bool false))⟩])
       .ret)
       .skip))))
    (.reg [⟨(some 25), none, .bin .add (.t 18) (.c (.int .i64 1))⟩,
     ⟨(some 18), none, .mv (.t 25)⟩])))))))
  (.seq (.seq (.reg [⟨(some 26), none, .fa 4 (.t 1)⟩,
   ⟨(some 27), none, .ld false 1 (.t 26)⟩,
   ⟨(some 28), none, .lenl (.t 27)⟩,
   ⟨(some 29), none, .cl (.c (.fn 39 [])) [(.t 28), (.c (.int .i64 1)), (.c (.int .i64 11))]⟩,
   ⟨(some 30), none, .un .not (.t 29)⟩])
  (.cond (.t 30)
    (.seq (.reg [⟨(some 2), none, .mv (.c (.bool false))⟩])
    .ret)
    .skip))
  (.seq (.reg [⟨(some 5), none, .mv (.c (.int .i64 0))⟩])
  (.seq (.seq (.reg [⟨(some 31), none, .fa 4 (.t 1)⟩,
   ⟨(some 32), none, .ld false 1 (.t 31)⟩,
   ⟨(some 33), none, .lenl (.t 32)⟩,
   ⟨(some 34), none, .mv (.c (.int .i64 0))⟩])
  (.blk 2 (.loop (.seq (.reg [⟨(some 35), none, .bin .lss (.t 34) (.t 33)⟩])
    (.seq (.cond (.t 35)
      .skip
      (.exit 2))
    (.seq (.blk 3 (.seq (.reg [⟨(some 36), none, .mv (.t 34)⟩,
      ⟨(some 37), none, .ia 2 (.t 32) (.t 34)⟩,
      ⟨(some 38), none, .ld true 2 (.t 37)⟩,
      ⟨(some 7), none, .al [.int .i64 0, .int .i64 0]⟩,
      ⟨(some 6), none, .mv (.t 36)⟩,
      ⟨none, none, .st 2 (.t 7) (.t 38)⟩])
     (.seq (.seq (.reg [⟨(some 39), none, .fa 1 (.t 7)⟩,
      ⟨(some 40), none, .ld false 1 (.t 39)⟩,
      ⟨(some 41), none, .mv (.t 5)⟩,
      ⟨(some 42), none, .bin .add (.t 41) (.c (.int .i64 1))⟩,
      ⟨(some 43), none, .fa 1 (.t 1)⟩,
      ⟨(some 44), none, .ld false 1 (.t 43)⟩,
      ⟨(some 45), none, .bin .sub (.t 44) (.c (.int .i64 1))⟩,
      ⟨(some 46), none, .cl (.c (.fn 39 [])) [(.t 40), (.t 42), (.t 45)]⟩,
      ⟨(some 47), none, .un .not (.t 46)⟩,
      ⟨(some 48), none, .mv (.t 47)⟩,
      ⟨(some 49), (some (48, false)), .fa 0 (.t 7)⟩,
      ⟨(some 50), (some (48, false)), .ld false 1 (.t 49)⟩,
      ⟨(some 51), (some (48, false)), .cl (.c (.fn 39 [])) [(.t 50), (.c (.int .i64 0)), (.c (.int .i64 10))]⟩,
      ⟨(some 52), (some (48, false)), .un .not (.t 51)⟩,
      ⟨(some 53), none, .pick (.t 48) (.c (.bool true)) (.t 52)⟩,
      ⟨(some 54), none, .mv (.t 53)⟩,
      ⟨(some 55), (some (54, false)), .fa 4 (.t 1)⟩,
      ⟨(some 56), (some (54, false)), .ld false 1 (.t 55)⟩,
      ⟨(some 57), (some (54, false)), .mv (.t 6)⟩,
      ⟨(some 58), (some (54, false)), .sle 2 (.t 56) none (some (.t 57))⟩,
      ⟨(some 59), (some (54, false)), .mkf 41 [(.t 7)]⟩,
      ⟨(some 60), (some (54, false)), .cl (.c (.fn 40 [])) [(.t 58), (.t 59)]⟩,
      ⟨(some 61), none, .pick (.t 54) (.c (.bool true)) (.t 60)⟩])
     (.cond (.t 61)
       (.seq (.reg [⟨(some 2), none, .mv (.c (.bool false))⟩])
       .ret)
       .skip))
     (.reg [⟨(some 62), none, .fa 1 (.t 7)⟩,
      ⟨(some 63), none, .ld false 1 (.t 62)⟩,
      ⟨(some 5), none, .mv (.t 63)⟩]))))
    (.reg [⟨(some 64), none, .bin .add (.t 34) (.c (.int .i64 1))⟩,
     ⟨(some 34), none, .mv (.t 64)⟩])))))))
  (.seq (.reg [⟨(some 2), none, .mv (.c (.bool true))⟩])
  .ret))))))
theorem k_impl_CheckOk : FnOk Try.prog 12 65 rc_impl_CheckOk [.t 2] := ⟨Try.f12, _, [], Try.func12, rfl, rfl, by kernel_rfl, by kernel_rfl, follows⟩
theorem ok_impl_CheckOk : okF Try.prog 12 = true := by kernel_rfl
def rc_impl_varText : RC :=
  (.seq (.reg [⟨(some 2), none, .mv (.c (.str []))⟩])
  (.seq (.reg [⟨(some 4), none, .bs 1 [.int .u8 0] 0 []⟩,
   ⟨(some 3), none, .mv (.t 4)⟩])
  (.seq (.blk 0 (.loop (.seq (.seq (.reg [⟨(some 5), none, .mv (.t 0)⟩,
     ⟨(some 6), none, .bin .gtr (.t 5) (.c (.int .i64 127))⟩])
    (.cond (.t 6)
      .skip
      (.exit 0)))
    (.blk 1 (.seq (.reg [⟨(some 7), none, .mv (.t 3)⟩,
      ⟨(some 8), none, .mv (.t 0)⟩,
      ⟨(some 9), none, .bin .and (.t 8) (.c (.int .i64 127))⟩,
      ⟨(some 10), none, .bin .or (.t 9) (.c (.int .i64 128))⟩,
      ⟨(some 11), none, .cvi .u8 (.t 10)⟩,
      ⟨(some 12), none, .bs 1 [.int .u8 0] 1 [(0, (.t 11))]⟩,
      ⟨(some 13), none, .app 1 1 (.t 7) (.t 12)⟩,
      ⟨(some 3), none, .mv (.t 13)⟩])
     (.reg [⟨(some 14), none, .mv (.t 0)⟩,
      ⟨(some 15), none, .bin .shr (.t 14) (.c (.int .u64 7))⟩,
      ⟨(some 0), none, .mv (.t 15)⟩]))))))
  (.seq (.reg [⟨(some 16), none, .mv (.t 3)⟩,
   ⟨(some 17), none, .mv (.t 0)⟩,
   ⟨(some 18), none, .cvi .u8 (.t 17)⟩,
   ⟨(some 19), none, .bs 1 [.int .u8 0] 1 [(0, (.t 18))]⟩,
   ⟨(some 20), none, .app 1 1 (.t 16) (.t 19)⟩,
   ⟨(some 21), none, .cvb (.t 20)⟩,
   ⟨(some 2), none, .mv (.t 21)⟩])
  .ret))))
theorem k_impl_varText : FnOk Try.prog 46 22 rc_impl_varText [.t 2] := ⟨Try.f46, _, [], Try.func46, rfl, rfl, by kernel_rfl, by kernel_rfl, follows⟩
theorem ok_impl_varText : okF Try.prog 46 = true := by kernel_rfl
def rc_impl_SumMore : RC :=
  (.seq (.reg [⟨(some 4), none, .mv (.c (.int .u32 0))⟩])
  (.seq (.seq (.reg [⟨(some 7), none, .mv (.t 1)⟩,
   ⟨(some 8), none, .lens (.t 7)⟩,
   ⟨(some 9), none, .mv (.c (.int .i64 0))⟩])
  (.blk 0 (.loop (.seq (.reg [⟨(some 10), none, .bin .lss (.t 9) (.t 8)⟩])
    (.seq (.cond (.t 10)
      .skip
      (.exit 0))
    (.seq (.blk 1 (.seq (.reg [⟨(some 11), none, .mv (.t 9)⟩,
      ⟨(some 5), none, .mv (.t 11)⟩])
     (.seq (.reg [⟨(some 12), none, .mv (.t 0)⟩,
      ⟨(some 13), none, .mv (.t 1)⟩,
      ⟨(some 14), none, .mv (.t 5)⟩,
      ⟨(some 15), none, .idx (.t 13) (.t 14)⟩,
      ⟨(some 16), none, .cvi .u32 (.t 15)⟩,
      ⟨(some 17), none, .bin .xor (.t 12) (.t 16)⟩,
      ⟨(some 0), none, .mv (.t 17)⟩])
     (.seq (.reg [⟨(some 18), none, .mv (.c (.int .i64 0))⟩])
     (.blk 2 (.loop (.seq (.reg [⟨(some 19), none, .bin .lss (.t 18) (.c (.int .i64 8))⟩])
       (.seq (.cond (.t 19)
         .skip
         (.exit 2))
       (.seq (.blk 3 (.seq (.reg [⟨(some 20), none, .mv (.t 0)⟩,
         ⟨(some 21), none, .bin .and (.t 20) (.c (.int .u32 1))⟩,
         ⟨(some 22), none, .bin .eql (.t 21) (.c (.int .u32 1))⟩,
         ⟨(some 6), none, .mv (.t 22)⟩])
        (.seq (.reg [⟨(some 23), none, .mv (.t 0)⟩,
         ⟨(some 24), none, .bin .shr (.t 23) (.c (.int .u64 1))⟩,
         ⟨(some 0), none, .mv (.t 24)⟩])
        (.seq (.reg [⟨(some 25), none, .mv (.t 6)⟩])
        (.cond (.t 25)
          (.reg [⟨(some 26), none, .mv (.t 0)⟩,
           ⟨(some 27), none, .bin .xor (.t 26) (.c (.int .u32 3558460437))⟩,
           ⟨(some 0), none, .mv (.t 27)⟩])
          .skip)))))
       (.reg [⟨(some 28), none, .bin .add (.t 18) (.c (.int .i64 1))⟩,
        ⟨(some 18), none, .mv (.t 28)⟩]))))))))))
    (.reg [⟨(some 29), none, .bin .add (.t 9) (.c (.int .i64 1))⟩,
     ⟨(some 9), none, .mv (.t 29)⟩])))))))
  (.seq (.reg [⟨(some 30), none, .mv (.t 0)⟩,
   ⟨(some 4), none, .mv (.t 30)⟩])
  .ret)))
theorem k_impl_SumMore : FnOk Try.prog 101 31 rc_impl_SumMore [.t 4] := ⟨Try.f101, _, [], Try.func101, rfl, rfl, by kernel_rfl, by kernel_rfl, follows⟩
theorem ok_impl_SumMore : okF Try.prog 101 = true := by kernel_rfl
def rc_impl_SumOf : RC :=
  (.seq (.reg [⟨(some 2), none, .mv (.c (.int .u32 0))⟩])
  (.seq (.reg [⟨(some 3), none, .mv (.t 0)⟩,
   ⟨(some 4), none, .cl (.c (.fn 101 [])) [(.c (.int .u32 4294967295)), (.t 3)]⟩,
   ⟨(some 2), none, .mv (.t 4)⟩])
  .ret))
theorem k_impl_SumOf : FnOk Try.prog 74 5 rc_impl_SumOf [.t 2] := ⟨Try.f74, _, [], Try.func74, rfl, rfl, by kernel_rfl, by kernel_rfl, follows⟩
theorem ok_impl_SumOf : okF Try.prog 74 = true := by kernel_rfl
def rc_impl_seal : RC :=
  (.seq (.reg [⟨(some 2), none, .mv (.c (.str []))⟩])
  (.seq (.reg [⟨(some 4), none, .mv (.t 0)⟩,
   ⟨(some 5), none, .cl (.c (.fn 74 [])) [(.t 4)]⟩,
   ⟨(some 3), none, .mv (.t 5)⟩])
  (.seq (.reg [⟨(some 6), none, .mv (.t 3)⟩,
   ⟨(some 7), none, .bin .shr (.t 6) (.c (.int .u64 24))⟩,
   ⟨(some 8), none, .cvi .u8 (.t 7)⟩,
   ⟨(some 9), none, .mv (.t 3)⟩,
   ⟨(some 10), none, .bin .shr (.t 9) (.c (.int .u64 16))⟩,
   ⟨(some 11), none, .cvi .u8 (.t 10)⟩,
   ⟨(some 12), none, .mv (.t 3)⟩,
   ⟨(some 13), none, .bin .shr (.t 12) (.c (.int .u64 8))⟩,
   ⟨(some 14), none, .cvi .u8 (.t 13)⟩,
   ⟨(some 15), none, .mv (.t 3)⟩,
   ⟨(some 16), none, .cvi .u8 (.t 15)⟩,
   ⟨(some 17), none, .bs 1 [.int .u8 0] 4 [(0, (.t 8)), (1, (.t 11)), (2, (.t 14)), (3, (.t 16))]⟩,
   ⟨(some 18), none, .cvb (.t 17)⟩,
   ⟨(some 2), none, .mv (.t 18)⟩])
  .ret)))
theorem k_impl_seal : FnOk Try.prog 47 19 rc_impl_seal [.t 2] := ⟨Try.f47, _, [], Try.func47, rfl, rfl, by kernel_rfl, by kernel_rfl, follows⟩
theorem ok_impl_seal : okF Try.prog 47 = true := by kernel_rfl
def rc_impl_CheckText : RC :=
  (.seq (.reg [⟨(some 1), none, .bx (.t 0)⟩,
   ⟨(some 2), none, .mv (.c (.str []))⟩,
   ⟨(some 3), none, .mv (.c (.bool false))⟩])
  (.seq (.seq (.reg [⟨(some 8), none, .ld true 5 (.t 1)⟩,
   ⟨(some 9), none, .cl (.c (.fn 12 [])) [(.t 8)]⟩,
   ⟨(some 10), none, .un .not (.t 9)⟩])
  (.cond (.t 10)
    (.seq (.reg [⟨(some 2), none, .mv (.c (.str []))⟩,
     ⟨(some 3), none, .mv (.c (.bool false))⟩])
    .ret)
    .skip))
  (.seq (.drw [⟨(some 11), none, .fa 0 (.t 1)⟩,
   ⟨(some 12), none, .ld false 1 (.t 11)⟩,
   ⟨(some 13), none, .cl (.c (.fn 46 [])) [(.t 12)]⟩,
   ⟨(some 14), none, .fa 1 (.t 1)⟩,
   ⟨(some 15), none, .ld false 1 (.t 14)⟩,
   ⟨(some 16), none, .cl (.c (.fn 46 [])) [(.t 15)]⟩,
   ⟨(some 17), none, .bin .add (.t 13) (.t 16)⟩,
   ⟨(some 18), none, .fa 2 (.t 1)⟩,
   ⟨(some 19), none, .ld false 1 (.t 18)⟩,
   ⟨(some 20), none, .cl (.c (.fn 46 [])) [(.t 19)]⟩,
   ⟨(some 21), none, .bin .add (.t 17) (.t 20)⟩,
   ⟨(some 22), none, .fa 3 (.t 1)⟩,
   ⟨(some 23), none, .ld false 1 (.t 22)⟩,
   ⟨(some 24), none, .cl (.c (.fn 46 [])) [(.t 23)]⟩,
   ⟨(some 25), none, .bin .add (.t 21) (.t 24)⟩,
   ⟨(some 26), none, .fa 4 (.t 1)⟩,
   ⟨(some 27), none, .ld false 1 (.t 26)⟩,
   ⟨(some 28), none, .lenl (.t 27)⟩,
   ⟨(some 29), none, .cl (.c (.fn 46 [])) [(.t 28)]⟩,
   ⟨(some 30), none, .bin .add (.t 25) (.t 29)⟩,
   ⟨(some 4), none, .mv (.t 30)⟩] [.val [], .val [], .val [], .val [], .val [], .val [], .val [], .val [], .val [], .val [], .val [], .val [], .val [], .val [], .val [], .val [], .val [], .val [], .val [], .val [], .val []])
  (.seq (.seq (.reg [⟨(some 31), none, .fa 4 (.t 1)⟩,
   ⟨(some 32), none, .ld false 1 (.t 31)⟩,
   ⟨(some 33), none, .lenl (.t 32)⟩,
   ⟨(some 34), none, .mv (.c (.int .i64 0))⟩])
  (.blk 0 (.loop (.seq (.reg [⟨(some 35), none, .bin .lss (.t 34) (.t 33)⟩])
    (.seq (.cond (.t 35)
      .skip
      (.exit 0))
    (.seq (.blk 1 (.seq (.reg [⟨(some 36), none, .ia 2 (.t 32) (.t 34)⟩,
      ⟨(some 37), none, .ld true 2 (.t 36)⟩,
      ⟨(some 6), none, .al [.int .i64 0, .int .i64 0]⟩,
      ⟨none, none, .st 2 (.t 6) (.t 37)⟩])
     (.drw [⟨(some 38), none, .mv (.t 4)⟩,
      ⟨(some 39), none, .fa 0 (.t 6)⟩,
      ⟨(some 40), none, .ld false 1 (.t 39)⟩,
      ⟨(some 41), none, .cl (.c (.fn 46 [])) [(.t 40)]⟩,
      ⟨(some 42), none, .fa 1 (.t 6)⟩,
      ⟨(some 43), none, .ld false 1 (.t 42)⟩,
      ⟨(some 44), none, .cl (.c (.fn 46 [])) [(.t 43)]⟩,
      ⟨(some 45), none, .bin .add (.t 41) (.t 44)⟩,
      ⟨(some 46), none, .bin .add (.t 38) (.t 45)⟩,
      ⟨(some 4), none, .mv (.t 46)⟩] [.val [], .val [], .val [], .val [], .val [], .val [], .val [], .val [], .val [], .val []])))
    (.reg [⟨(some 47), none, .bin .add (.t 34) (.c (.int .i64 1))⟩,
     ⟨(some 34), none, .mv (.t 47)⟩])))))))
  (.seq (.reg [⟨(some 48), none, .mv (.t 4)⟩,
   ⟨(some 49), none, .mv (.t 4)⟩,
   ⟨(some 50), none, .cl (.c (.fn 47 [])) [(.t 49)]⟩,
   ⟨(some 51), none, .bin .add (.t 48) (.t 50)⟩,
   ⟨(some 4), none, .mv (.t 51)⟩])
  (.seq (.reg [⟨(some 52), none, .mv (.t 4)⟩,
   ⟨(some 53), none, .lens (.t 52)⟩,
   ⟨(some 54), none, .cl (.c (.fn 46 [])) [(.t 53)]⟩,
   ⟨(some 55), none, .mv (.t 4)⟩,
   ⟨(some 56), none, .bin .add (.t 54) (.t 55)⟩,
   ⟨(some 7), none, .mv (.t 56)⟩])
  (.seq (.seq (.reg [⟨(some 57), none, .mv (.t 7)⟩,
   ⟨(some 58), none, .lens (.t 57)⟩,
   ⟨(some 59), none, .bin .gtr (.t 58) (.c (.int .i64 128))⟩])
  (.cond (.t 59)
    (.seq (.reg [⟨(some 2), none, .mv (.c (.str []))⟩,
     ⟨(some 3), none, .mv (.c (.bool false))⟩])
    .ret)
    .skip))
  (.seq (.reg [⟨(some 60), none, .mv (.t 7)⟩,
   ⟨(some 2), none, .mv (.t 60)⟩,
   ⟨(some 3), none, .mv (.c (.bool true))⟩])
  .ret))))))))
theorem k_impl_CheckText : FnOk Try.prog 15 61 rc_impl_CheckText [.t 2, .t 3] := ⟨Try.f15, _, [], Try.func15, rfl, rfl, by kernel_rfl, by kernel_rfl, follows⟩
theorem ok_impl_CheckText : okF Try.prog 15 = true := by kernel_rfl
def rc_laws_szRefS : RC :=
  (.seq (.reg [⟨(some 4), none, .mv (.c (.int .i64 0))⟩])
  (.seq (.reg [⟨(some 5), none, .mv (.t 1)⟩,
   ⟨(some 6), none, .mv (.t 0)⟩,
   ⟨(some 7), none, .lenl (.t 6)⟩,
   ⟨(some 8), none, .bin .sub (.t 5) (.t 7)⟩,
   ⟨(some 1), none, .mv (.t 8)⟩])
  (.seq (.seq (.reg [⟨(some 9), none, .mv (.t 1)⟩,
   ⟨(some 10), none, .bin .lss (.t 9) (.c (.int .i64 0))⟩])
  (.cond (.t 10)
    (.seq (.reg [⟨(some 4), none, .mv (.c (.int .i64 (-1)))⟩])
    .ret)
    .skip))
  (.seq (.reg [⟨(some 11), none, .mv (.t 1)⟩,
   ⟨(some 4), none, .mv (.t 11)⟩])
  .ret))))
theorem k_laws_szRefS : FnOk Try.prog 36 12 rc_laws_szRefS [.t 4] := ⟨Try.f36, _, [], Try.func36, rfl, rfl, by kernel_rfl, by kernel_rfl, follows⟩
theorem ok_laws_szRefS : okF Try.prog 36 = true := by kernel_rfl
def rc_laws_szCheck : RC :=
  (.seq (.reg [⟨(some 2), none, .bx (.t 0)⟩,
   ⟨(some 4), none, .mv (.c (.int .i64 0))⟩])
  (.seq (.reg [⟨(some 5), none, .fa 4 (.t 2)⟩,
   ⟨(some 6), none, .ld false 1 (.t 5)⟩,
   ⟨(some 7), none, .mv (.t 1)⟩,
   ⟨(some 8), none, .cl (.c (.fn 36 [])) [(.t 6), (.t 7)]⟩,
   ⟨(some 1), none, .mv (.t 8)⟩])
  (.seq (.seq (.reg [⟨(some 9), none, .mv (.t 1)⟩,
   ⟨(some 10), none, .bin .lss (.t 9) (.c (.int .i64 0))⟩])
  (.cond (.t 10)
    (.seq (.reg [⟨(some 4), none, .mv (.c (.int .i64 (-1)))⟩])
    .ret)
    .skip))
  (.seq (.reg [⟨(some 11), none, .mv (.t 1)⟩,
   ⟨(some 4), none, .mv (.t 11)⟩])
  .ret))))
theorem k_laws_szCheck : FnOk Try.prog 9 12 rc_laws_szCheck [.t 4] := ⟨Try.f9, _, [], Try.func9, rfl, rfl, by kernel_rfl, by kernel_rfl, follows⟩
theorem ok_laws_szCheck : okF Try.prog 9 = true := by kernel_rfl
def rc_laws_FnExactCheckText : RC :=
  (.seq (.reg [⟨(some 1), none, .bx (.t 0)⟩,
   ⟨(some 2), none, .mv (.c (.bool false))⟩])
  (.seq (.reg [⟨(some 3), none, .mv (.c (.int .i64 1048576))⟩])
  (.seq (.reg [⟨(some 9), none, .ld true 5 (.t 1)⟩,
   ⟨(some 10), none, .mv (.t 3)⟩,
   ⟨(some 11), none, .cl (.c (.fn 9 [])) [(.t 9), (.t 10)]⟩,
   ⟨(some 3), none, .mv (.t 11)⟩])
  (.seq (.seq (.reg [⟨(some 12), none, .mv (.t 3)⟩,
   ⟨(some 13), none, .bin .lss (.t 12) (.c (.int .i64 0))⟩])
  (.cond (.t 13)
    (.seq (.reg [⟨(some 2), none, .mv (.c (.bool true))⟩])
    .ret)
    .skip))
  (.seq (.reg [⟨(some 15), none, .ld true 5 (.t 1)⟩,
   ⟨(some 16), none, .cl (.c (.fn 11 [])) [(.t 15)]⟩,
   ⟨(some 17), none, .cl (.c (.fn 14 [])) [(.t 16)]⟩,
   ⟨(some 14), none, .mv (.t 17)⟩,
   ⟨(some 18), none, .ext (.t 14) 0⟩,
   ⟨(some 19), none, .ext (.t 14) 1⟩,
   ⟨(some 4), none, .mv (.t 18)⟩,
   ⟨(some 5), none, .mv (.t 19)⟩])
  (.seq (.reg [⟨(some 20), none, .ld true 5 (.t 1)⟩,
   ⟨(some 21), none, .cl (.c (.fn 11 [])) [(.t 20)]⟩,
   ⟨(some 6), none, .al [.int .i64 0, .int .i64 0, .int .i64 0, .int .i64 0, .nils]⟩,
   ⟨none, none, .st 5 (.t 6) (.t 21)⟩])
  (.seq (.reg [⟨(some 23), none, .ld true 5 (.t 6)⟩,
   ⟨(some 24), none, .cl (.c (.fn 15 [])) [(.t 23)]⟩,
   ⟨(some 22), none, .mv (.t 24)⟩,
   ⟨(some 25), none, .ext (.t 22) 0⟩,
   ⟨(some 26), none, .ext (.t 22) 1⟩,
   ⟨(some 7), none, .mv (.t 25)⟩,
   ⟨(some 8), none, .mv (.t 26)⟩])
  (.seq (.seq (.reg [⟨(some 27), none, .mv (.t 7)⟩,
   ⟨(some 28), none, .mv (.t 4)⟩,
   ⟨(some 29), none, .bin .neq (.t 27) (.t 28)⟩,
   ⟨(some 30), none, .mv (.t 29)⟩,
   ⟨(some 31), (some (30, false)), .mv (.t 8)⟩,
   ⟨(some 32), (some (30, false)), .mv (.t 5)⟩,
   ⟨(some 33), (some (30, false)), .eqb true (.t 31) (.t 32)⟩,
   ⟨(some 34), none, .pick (.t 30) (.c (.bool true)) (.t 33)⟩])
  (.cond (.t 34)
    (.seq (.reg [⟨(some 2), none, .mv (.c (.bool false))⟩])
    .ret)
    .skip))
  (.seq (.seq (.drw [⟨(some 35), none, .ld true 5 (.t 6)⟩,
   ⟨(some 36), none, .ld true 5 (.t 1)⟩,
   ⟨(some 37), none, .cl (.c (.fn 11 [])) [(.t 36)]⟩,
   ⟨(some 38), none, .cl (.c (.fn 13 [])) [(.t 35), (.t 37)]⟩,
   ⟨(some 39), none, .un .not (.t 38)⟩] [.val [], .val [], .val [], .val [], .val []])
  (.cond (.t 39)
    (.seq (.reg [⟨(some 2), none, .mv (.c (.bool false))⟩])
    .ret)
    .skip))
  (.seq (.reg [⟨(some 2), none, .mv (.c (.bool true))⟩])
  .ret))))))))))
theorem k_laws_FnExactCheckText : FnOk Try.prog 4 40 rc_laws_FnExactCheckText [.t 2] := ⟨Try.f4, _, [], Try.func4, rfl, rfl, by kernel_rfl, by kernel_rfl, follows⟩
theorem ok_laws_FnExactCheckText : okF Try.prog 4 = true := by kernel_rfl
end Go.Proofs.Ytpecafogemipmaa.V
