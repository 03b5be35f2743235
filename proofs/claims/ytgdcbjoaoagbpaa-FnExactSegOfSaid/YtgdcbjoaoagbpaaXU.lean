/- The functions' texts. -/
import Derived.Test.YtgdcbjoaoagbpaaXE
import Derived.Test.YtgdcbjoaoagbpaaProg
import Derived.KernelRfl
/- The functions' texts. -/
namespace Go.Proofs.Ytgdcbjoaoagbpaa.V
open Go Go.Proofs Go.RowKit
set_option maxRecDepth 100000
theorem follows : Try.prog.follows .mixedOrders = true := by kernel_rfl
def rc_laws_szStringS : RC :=
  (.seq (.reg [⟨(some 4), none, .mv (.c (.int .i64 0))⟩])
  (.seq (.reg [⟨(some 6), none, .mv (.t 1)⟩,
   ⟨(some 7), none, .mv (.t 0)⟩,
   ⟨(some 8), none, .lenl (.t 7)⟩,
   ⟨(some 9), none, .bin .sub (.t 6) (.t 8)⟩,
   ⟨(some 1), none, .mv (.t 9)⟩])
  (.seq (.seq (.reg [⟨(some 10), none, .mv (.t 1)⟩,
   ⟨(some 11), none, .bin .lss (.t 10) (.c (.int .i64 0))⟩])
  (.cond (.t 11)
    (.seq (.reg [⟨(some 4), none, .mv (.c (.int .i64 (-1)))⟩])
    .ret)
    .skip))
  (.seq (.seq (.reg [⟨(some 5), none, .mv (.c (.int .i64 0))⟩])
  (.blk 0 (.loop (.seq (.seq (.reg [⟨(some 12), none, .mv (.t 5)⟩,
     ⟨(some 13), none, .mv (.t 0)⟩,
     ⟨(some 14), none, .lenl (.t 13)⟩,
     ⟨(some 15), none, .bin .lss (.t 12) (.t 14)⟩])
    (.cond (.t 15)
      .skip
      (.exit 0)))
    (.seq (.blk 1 (.seq (.reg [⟨(some 18), none, .mv (.t 1)⟩,
      ⟨(some 19), none, .mv (.t 0)⟩,
      ⟨(some 20), none, .mv (.t 5)⟩,
      ⟨(some 21), none, .ia 1 (.t 19) (.t 20)⟩,
      ⟨(some 22), none, .ld false 1 (.t 21)⟩,
      ⟨(some 23), none, .lens (.t 22)⟩,
      ⟨(some 24), none, .bin .sub (.t 18) (.t 23)⟩,
      ⟨(some 1), none, .mv (.t 24)⟩])
     (.seq (.reg [⟨(some 25), none, .mv (.t 1)⟩,
      ⟨(some 26), none, .bin .lss (.t 25) (.c (.int .i64 0))⟩])
     (.cond (.t 26)
       (.seq (.reg [⟨(some 4), none, .mv (.c (.int .i64 (-1)))⟩])
       .ret)
       .skip))))
    (.reg [⟨(some 16), none, .mv (.t 5)⟩,
     ⟨(some 17), none, .bin .add (.t 16) (.c (.int .i64 1))⟩,
     ⟨(some 5), none, .mv (.t 17)⟩]))))))
  (.seq (.reg [⟨(some 27), none, .mv (.t 1)⟩,
   ⟨(some 4), none, .mv (.t 27)⟩])
  .ret)))))
theorem k_laws_szStringS : FnOk Try.prog 81 28 rc_laws_szStringS [.t 4] := ⟨Try.f81, _, [], Try.func81, rfl, rfl, by kernel_rfl, by kernel_rfl, follows⟩
theorem ok_laws_szStringS : okF Try.prog 81 = true := by kernel_rfl
def rc_laws_szWrite : RC :=
  (.seq (.reg [⟨(some 2), none, .bx (.t 0)⟩,
   ⟨(some 4), none, .mv (.c (.int .i64 0))⟩])
  (.seq (.reg [⟨(some 5), none, .mv (.t 1)⟩,
   ⟨(some 6), none, .fa 1 (.t 2)⟩,
   ⟨(some 7), none, .ld false 1 (.t 6)⟩,
   ⟨(some 8), none, .lens (.t 7)⟩,
   ⟨(some 9), none, .bin .sub (.t 5) (.t 8)⟩,
   ⟨(some 1), none, .mv (.t 9)⟩])
  (.seq (.seq (.reg [⟨(some 10), none, .mv (.t 1)⟩,
   ⟨(some 11), none, .bin .lss (.t 10) (.c (.int .i64 0))⟩])
  (.cond (.t 11)
    (.seq (.reg [⟨(some 4), none, .mv (.c (.int .i64 (-1)))⟩])
    .ret)
    .skip))
  (.seq (.reg [⟨(some 12), none, .mv (.t 1)⟩,
   ⟨(some 4), none, .mv (.t 12)⟩])
  .ret))))
theorem k_laws_szWrite : FnOk Try.prog 146 13 rc_laws_szWrite [.t 4] := ⟨Try.f146, _, [], Try.func146, rfl, rfl, by kernel_rfl, by kernel_rfl, follows⟩
theorem ok_laws_szWrite : okF Try.prog 146 = true := by kernel_rfl
def rc_laws_szWriteS : RC :=
  (.seq (.reg [⟨(some 4), none, .mv (.c (.int .i64 0))⟩])
  (.seq (.reg [⟨(some 6), none, .mv (.t 1)⟩,
   ⟨(some 7), none, .mv (.t 0)⟩,
   ⟨(some 8), none, .lenl (.t 7)⟩,
   ⟨(some 9), none, .bin .sub (.t 6) (.t 8)⟩,
   ⟨(some 1), none, .mv (.t 9)⟩])
  (.seq (.seq (.reg [⟨(some 10), none, .mv (.t 1)⟩,
   ⟨(some 11), none, .bin .lss (.t 10) (.c (.int .i64 0))⟩])
  (.cond (.t 11)
    (.seq (.reg [⟨(some 4), none, .mv (.c (.int .i64 (-1)))⟩])
    .ret)
    .skip))
  (.seq (.seq (.reg [⟨(some 5), none, .mv (.c (.int .i64 0))⟩])
  (.blk 0 (.loop (.seq (.seq (.reg [⟨(some 12), none, .mv (.t 5)⟩,
     ⟨(some 13), none, .mv (.t 0)⟩,
     ⟨(some 14), none, .lenl (.t 13)⟩,
     ⟨(some 15), none, .bin .lss (.t 12) (.t 14)⟩])
    (.cond (.t 15)
      .skip
      (.exit 0)))
    (.seq (.blk 1 (.seq (.reg [⟨(some 18), none, .mv (.t 0)⟩,
      ⟨(some 19), none, .mv (.t 5)⟩,
      ⟨(some 20), none, .ia 2 (.t 18) (.t 19)⟩,
      ⟨(some 21), none, .ld true 2 (.t 20)⟩,
      ⟨(some 22), none, .mv (.t 1)⟩,
      ⟨(some 23), none, .cl (.c (.fn 146 [])) [(.t 21), (.t 22)]⟩,
      ⟨(some 1), none, .mv (.t 23)⟩])
     (.seq (.reg [⟨(some 24), none, .mv (.t 1)⟩,
      ⟨(some 25), none, .bin .lss (.t 24) (.c (.int .i64 0))⟩])
     (.cond (.t 25)
       (.seq (.reg [⟨(some 4), none, .mv (.c (.int .i64 (-1)))⟩])
       .ret)
       .skip))))
    (.reg [⟨(some 16), none, .mv (.t 5)⟩,
     ⟨(some 17), none, .bin .add (.t 16) (.c (.int .i64 1))⟩,
     ⟨(some 5), none, .mv (.t 17)⟩]))))))
  (.seq (.reg [⟨(some 26), none, .mv (.t 1)⟩,
   ⟨(some 4), none, .mv (.t 26)⟩])
  .ret)))))
theorem k_laws_szWriteS : FnOk Try.prog 82 27 rc_laws_szWriteS [.t 4] := ⟨Try.f82, _, [], Try.func82, rfl, rfl, by kernel_rfl, by kernel_rfl, follows⟩
theorem ok_laws_szWriteS : okF Try.prog 82 = true := by kernel_rfl
def rc_laws_szDisk : RC :=
  (.seq (.reg [⟨(some 2), none, .bx (.t 0)⟩,
   ⟨(some 4), none, .mv (.c (.int .i64 0))⟩])
  (.seq (.reg [⟨(some 5), none, .fa 0 (.t 2)⟩,
   ⟨(some 6), none, .ld false 1 (.t 5)⟩,
   ⟨(some 7), none, .mv (.t 1)⟩,
   ⟨(some 8), none, .cl (.c (.fn 81 [])) [(.t 6), (.t 7)]⟩,
   ⟨(some 1), none, .mv (.t 8)⟩])
  (.seq (.seq (.reg [⟨(some 9), none, .mv (.t 1)⟩,
   ⟨(some 10), none, .bin .lss (.t 9) (.c (.int .i64 0))⟩])
  (.cond (.t 10)
    (.seq (.reg [⟨(some 4), none, .mv (.c (.int .i64 (-1)))⟩])
    .ret)
    .skip))
  (.seq (.reg [⟨(some 11), none, .fa 1 (.t 2)⟩,
   ⟨(some 12), none, .ld false 1 (.t 11)⟩,
   ⟨(some 13), none, .mv (.t 1)⟩,
   ⟨(some 14), none, .cl (.c (.fn 82 [])) [(.t 12), (.t 13)]⟩,
   ⟨(some 1), none, .mv (.t 14)⟩])
  (.seq (.seq (.reg [⟨(some 15), none, .mv (.t 1)⟩,
   ⟨(some 16), none, .bin .lss (.t 15) (.c (.int .i64 0))⟩])
  (.cond (.t 16)
    (.seq (.reg [⟨(some 4), none, .mv (.c (.int .i64 (-1)))⟩])
    .ret)
    .skip))
  (.seq (.reg [⟨(some 17), none, .mv (.t 1)⟩,
   ⟨(some 4), none, .mv (.t 17)⟩])
  .ret))))))
theorem k_laws_szDisk : FnOk Try.prog 40 18 rc_laws_szDisk [.t 4] := ⟨Try.f40, _, [], Try.func40, rfl, rfl, by kernel_rfl, by kernel_rfl, follows⟩
theorem ok_laws_szDisk : okF Try.prog 40 = true := by kernel_rfl
def rc_laws_toStringS : RC :=
  (.seq (.reg [⟨(some 2), none, .mv (.c (.nils))⟩])
  (.seq (.reg [⟨(some 5), none, .mv (.t 0)⟩,
   ⟨(some 6), none, .lenl (.t 5)⟩,
   ⟨(some 7), none, .ms 1 [.str []] 16 (.t 6) (.t 6)⟩,
   ⟨(some 3), none, .mv (.t 7)⟩])
  (.seq (.seq (.reg [⟨(some 4), none, .mv (.c (.int .i64 0))⟩])
  (.blk 0 (.loop (.seq (.seq (.reg [⟨(some 8), none, .mv (.t 4)⟩,
     ⟨(some 9), none, .mv (.t 0)⟩,
     ⟨(some 10), none, .lenl (.t 9)⟩,
     ⟨(some 11), none, .bin .lss (.t 8) (.t 10)⟩])
    (.cond (.t 11)
      .skip
      (.exit 0)))
    (.seq (.blk 1 (.reg [⟨(some 14), none, .mv (.t 3)⟩,
      ⟨(some 15), none, .mv (.t 4)⟩,
      ⟨(some 16), none, .mv (.t 0)⟩,
      ⟨(some 17), none, .mv (.t 4)⟩,
      ⟨(some 18), none, .ia 1 (.t 16) (.t 17)⟩,
      ⟨(some 19), none, .ld false 1 (.t 18)⟩,
      ⟨(some 20), none, .ia 1 (.t 14) (.t 15)⟩,
      ⟨none, none, .st 1 (.t 20) (.t 19)⟩]))
    (.reg [⟨(some 12), none, .mv (.t 4)⟩,
     ⟨(some 13), none, .bin .add (.t 12) (.c (.int .i64 1))⟩,
     ⟨(some 4), none, .mv (.t 13)⟩]))))))
  (.seq (.reg [⟨(some 21), none, .mv (.t 3)⟩,
   ⟨(some 2), none, .mv (.t 21)⟩])
  .ret))))
theorem k_laws_toStringS : FnOk Try.prog 85 22 rc_laws_toStringS [.t 2] := ⟨Try.f85, _, [], Try.func85, rfl, rfl, by kernel_rfl, by kernel_rfl, follows⟩
theorem ok_laws_toStringS : okF Try.prog 85 = true := by kernel_rfl
def rc_laws_toWrite : RC :=
  (.seq (.reg [⟨(some 1), none, .bx (.t 0)⟩,
   ⟨(some 2), none, .al [.int .i64 0, .str []]⟩])
  (.seq (.reg [⟨(some 3), none, .al [.int .i64 0, .str []]⟩])
  (.seq (.reg [⟨(some 4), none, .fa 0 (.t 1)⟩,
   ⟨(some 5), none, .ld false 1 (.t 4)⟩,
   ⟨(some 6), none, .fa 0 (.t 3)⟩,
   ⟨none, none, .st 1 (.t 6) (.t 5)⟩])
  (.seq (.reg [⟨(some 7), none, .fa 1 (.t 1)⟩,
   ⟨(some 8), none, .ld false 1 (.t 7)⟩,
   ⟨(some 9), none, .fa 1 (.t 3)⟩,
   ⟨none, none, .st 1 (.t 9) (.t 8)⟩])
  (.seq (.reg [⟨(some 10), none, .ld true 2 (.t 3)⟩,
   ⟨none, none, .st 2 (.t 2) (.t 10)⟩])
  .ret)))))
theorem k_laws_toWrite : FnOk Try.prog 151 11 rc_laws_toWrite [.cell 2 true 2] := ⟨Try.f151, _, [], Try.func151, rfl, rfl, by kernel_rfl, by kernel_rfl, follows⟩
theorem ok_laws_toWrite : okF Try.prog 151 = true := by kernel_rfl
def rc_laws_toWriteS : RC :=
  (.seq (.reg [⟨(some 2), none, .mv (.c (.nils))⟩])
  (.seq (.reg [⟨(some 5), none, .mv (.t 0)⟩,
   ⟨(some 6), none, .lenl (.t 5)⟩,
   ⟨(some 7), none, .ms 2 [.int .i64 0, .str []] 24 (.t 6) (.t 6)⟩,
   ⟨(some 3), none, .mv (.t 7)⟩])
  (.seq (.seq (.reg [⟨(some 4), none, .mv (.c (.int .i64 0))⟩])
  (.blk 0 (.loop (.seq (.seq (.reg [⟨(some 8), none, .mv (.t 4)⟩,
     ⟨(some 9), none, .mv (.t 0)⟩,
     ⟨(some 10), none, .lenl (.t 9)⟩,
     ⟨(some 11), none, .bin .lss (.t 8) (.t 10)⟩])
    (.cond (.t 11)
      .skip
      (.exit 0)))
    (.seq (.blk 1 (.reg [⟨(some 14), none, .mv (.t 3)⟩,
      ⟨(some 15), none, .mv (.t 4)⟩,
      ⟨(some 16), none, .mv (.t 0)⟩,
      ⟨(some 17), none, .mv (.t 4)⟩,
      ⟨(some 18), none, .ia 2 (.t 16) (.t 17)⟩,
      ⟨(some 19), none, .ld true 2 (.t 18)⟩,
      ⟨(some 20), none, .cl (.c (.fn 151 [])) [(.t 19)]⟩,
      ⟨(some 21), none, .ia 2 (.t 14) (.t 15)⟩,
      ⟨none, none, .st 2 (.t 21) (.t 20)⟩]))
    (.reg [⟨(some 12), none, .mv (.t 4)⟩,
     ⟨(some 13), none, .bin .add (.t 12) (.c (.int .i64 1))⟩,
     ⟨(some 4), none, .mv (.t 13)⟩]))))))
  (.seq (.reg [⟨(some 22), none, .mv (.t 3)⟩,
   ⟨(some 2), none, .mv (.t 22)⟩])
  .ret))))
theorem k_laws_toWriteS : FnOk Try.prog 86 23 rc_laws_toWriteS [.t 2] := ⟨Try.f86, _, [], Try.func86, rfl, rfl, by kernel_rfl, by kernel_rfl, follows⟩
theorem ok_laws_toWriteS : okF Try.prog 86 = true := by kernel_rfl
def rc_laws_toDisk : RC :=
  (.seq (.reg [⟨(some 1), none, .bx (.t 0)⟩,
   ⟨(some 2), none, .al [.nils, .nils]⟩])
  (.seq (.reg [⟨(some 3), none, .al [.nils, .nils]⟩])
  (.seq (.reg [⟨(some 4), none, .fa 0 (.t 1)⟩,
   ⟨(some 5), none, .ld false 1 (.t 4)⟩,
   ⟨(some 6), none, .cl (.c (.fn 85 [])) [(.t 5)]⟩,
   ⟨(some 7), none, .fa 0 (.t 3)⟩,
   ⟨none, none, .st 1 (.t 7) (.t 6)⟩])
  (.seq (.reg [⟨(some 8), none, .fa 1 (.t 1)⟩,
   ⟨(some 9), none, .ld false 1 (.t 8)⟩,
   ⟨(some 10), none, .cl (.c (.fn 86 [])) [(.t 9)]⟩,
   ⟨(some 11), none, .fa 1 (.t 3)⟩,
   ⟨none, none, .st 1 (.t 11) (.t 10)⟩])
  (.seq (.reg [⟨(some 12), none, .ld true 2 (.t 3)⟩,
   ⟨none, none, .st 2 (.t 2) (.t 12)⟩])
  .ret)))))
theorem k_laws_toDisk : FnOk Try.prog 42 13 rc_laws_toDisk [.cell 2 true 2] := ⟨Try.f42, _, [], Try.func42, rfl, rfl, by kernel_rfl, by kernel_rfl, follows⟩
theorem ok_laws_toDisk : okF Try.prog 42 = true := by kernel_rfl
def rc_laws_eqStringS : RC :=
  (.seq (.reg [⟨(some 4), none, .mv (.c (.bool false))⟩])
  (.seq (.seq (.reg [⟨(some 6), none, .mv (.t 0)⟩,
   ⟨(some 7), none, .lenl (.t 6)⟩,
   ⟨(some 8), none, .mv (.t 1)⟩,
   ⟨(some 9), none, .lenl (.t 8)⟩,
   ⟨(some 10), none, .bin .neq (.t 7) (.t 9)⟩])
  (.cond (.t 10)
    (.seq (.reg [⟨(some 4), none, .mv (.c (.bool false))⟩])
    .ret)
    .skip))
  (.seq (.seq (.reg [⟨(some 5), none, .mv (.c (.int .i64 0))⟩])
  (.blk 0 (.loop (.seq (.seq (.reg [⟨(some 11), none, .mv (.t 5)⟩,
     ⟨(some 12), none, .mv (.t 0)⟩,
     ⟨(some 13), none, .lenl (.t 12)⟩,
     ⟨(some 14), none, .bin .lss (.t 11) (.t 13)⟩])
    (.cond (.t 14)
      .skip
      (.exit 0)))
    (.seq (.blk 1 (.seq (.drw [⟨(some 17), none, .mv (.t 0)⟩,
      ⟨(some 18), none, .mv (.t 5)⟩,
      ⟨(some 19), none, .ia 1 (.t 17) (.t 18)⟩,
      ⟨(some 20), none, .ld false 1 (.t 19)⟩,
      ⟨(some 21), none, .mv (.t 1)⟩,
      ⟨(some 22), none, .mv (.t 5)⟩,
      ⟨(some 23), none, .ia 1 (.t 21) (.t 22)⟩,
      ⟨(some 24), none, .ld false 1 (.t 23)⟩,
      ⟨(some 25), none, .bin .neq (.t 20) (.t 24)⟩] [.val [], .val [], .val [], .val [], .val [], .val [], .val [], .val [], .val []])
     (.cond (.t 25)
       (.seq (.reg [⟨(some 4), none, .mv (.c (.bool false))⟩])
       .ret)
       .skip)))
    (.reg [⟨(some 15), none, .mv (.t 5)⟩,
     ⟨(some 16), none, .bin .add (.t 15) (.c (.int .i64 1))⟩,
     ⟨(some 5), none, .mv (.t 16)⟩]))))))
  (.seq (.reg [⟨(some 4), none, .mv (.c (.bool true))⟩])
  .ret))))
theorem k_laws_eqStringS : FnOk Try.prog 89 26 rc_laws_eqStringS [.t 4] := ⟨Try.f89, _, [], Try.func89, rfl, rfl, by kernel_rfl, by kernel_rfl, follows⟩
theorem ok_laws_eqStringS : okF Try.prog 89 = true := by kernel_rfl
def rc_laws_eqWrite : RC :=
  (.seq (.reg [⟨(some 2), none, .bx (.t 0)⟩,
   ⟨(some 3), none, .bx (.t 1)⟩,
   ⟨(some 4), none, .mv (.c (.bool false))⟩])
  (.seq (.seq (.reg [⟨(some 5), none, .fa 0 (.t 2)⟩,
   ⟨(some 6), none, .ld false 1 (.t 5)⟩,
   ⟨(some 7), none, .fa 0 (.t 3)⟩,
   ⟨(some 8), none, .ld false 1 (.t 7)⟩,
   ⟨(some 9), none, .bin .neq (.t 6) (.t 8)⟩])
  (.cond (.t 9)
    (.seq (.reg [⟨(some 4), none, .mv (.c (.bool false))⟩])
    .ret)
    .skip))
  (.seq (.seq (.reg [⟨(some 10), none, .fa 1 (.t 2)⟩,
   ⟨(some 11), none, .ld false 1 (.t 10)⟩,
   ⟨(some 12), none, .fa 1 (.t 3)⟩,
   ⟨(some 13), none, .ld false 1 (.t 12)⟩,
   ⟨(some 14), none, .bin .neq (.t 11) (.t 13)⟩])
  (.cond (.t 14)
    (.seq (.reg [⟨(some 4), none, .mv (.c (.bool false))⟩])
    .ret)
    .skip))
  (.seq (.reg [⟨(some 4), none, .mv (.c (.bool true))⟩])
  .ret))))
theorem k_laws_eqWrite : FnOk Try.prog 156 15 rc_laws_eqWrite [.t 4] := ⟨Try.f156, _, [], Try.func156, rfl, rfl, by kernel_rfl, by kernel_rfl, follows⟩
theorem ok_laws_eqWrite : okF Try.prog 156 = true := by kernel_rfl
def rc_laws_eqWriteS : RC :=
  (.seq (.reg [⟨(some 4), none, .mv (.c (.bool false))⟩])
  (.seq (.seq (.reg [⟨(some 6), none, .mv (.t 0)⟩,
   ⟨(some 7), none, .lenl (.t 6)⟩,
   ⟨(some 8), none, .mv (.t 1)⟩,
   ⟨(some 9), none, .lenl (.t 8)⟩,
   ⟨(some 10), none, .bin .neq (.t 7) (.t 9)⟩])
  (.cond (.t 10)
    (.seq (.reg [⟨(some 4), none, .mv (.c (.bool false))⟩])
    .ret)
    .skip))
  (.seq (.seq (.reg [⟨(some 5), none, .mv (.c (.int .i64 0))⟩])
  (.blk 0 (.loop (.seq (.seq (.reg [⟨(some 11), none, .mv (.t 5)⟩,
     ⟨(some 12), none, .mv (.t 0)⟩,
     ⟨(some 13), none, .lenl (.t 12)⟩,
     ⟨(some 14), none, .bin .lss (.t 11) (.t 13)⟩])
    (.cond (.t 14)
      .skip
      (.exit 0)))
    (.seq (.blk 1 (.seq (.drw [⟨(some 17), none, .mv (.t 0)⟩,
      ⟨(some 18), none, .mv (.t 5)⟩,
      ⟨(some 19), none, .ia 2 (.t 17) (.t 18)⟩,
      ⟨(some 20), none, .ld true 2 (.t 19)⟩,
      ⟨(some 21), none, .mv (.t 1)⟩,
      ⟨(some 22), none, .mv (.t 5)⟩,
      ⟨(some 23), none, .ia 2 (.t 21) (.t 22)⟩,
      ⟨(some 24), none, .ld true 2 (.t 23)⟩,
      ⟨(some 25), none, .cl (.c (.fn 156 [])) [(.t 20), (.t 24)]⟩,
      ⟨(some 26), none, .un .not (.t 25)⟩] [.val [], .val [], .val [], .val [], .val [], .val [], .val [], .val [], .val [], .val []])
     (.cond (.t 26)
       (.seq (.reg [⟨(some 4), none, .mv (.c (.bool false))⟩])
       .ret)
       .skip)))
    (.reg [⟨(some 15), none, .mv (.t 5)⟩,
     ⟨(some 16), none, .bin .add (.t 15) (.c (.int .i64 1))⟩,
     ⟨(some 5), none, .mv (.t 16)⟩]))))))
  (.seq (.reg [⟨(some 4), none, .mv (.c (.bool true))⟩])
  .ret))))
theorem k_laws_eqWriteS : FnOk Try.prog 90 27 rc_laws_eqWriteS [.t 4] := ⟨Try.f90, _, [], Try.func90, rfl, rfl, by kernel_rfl, by kernel_rfl, follows⟩
theorem ok_laws_eqWriteS : okF Try.prog 90 = true := by kernel_rfl
def rc_laws_eqDisk : RC :=
  (.seq (.reg [⟨(some 2), none, .bx (.t 0)⟩,
   ⟨(some 3), none, .bx (.t 1)⟩,
   ⟨(some 4), none, .mv (.c (.bool false))⟩])
  (.seq (.seq (.reg [⟨(some 5), none, .fa 0 (.t 2)⟩,
   ⟨(some 6), none, .ld false 1 (.t 5)⟩,
   ⟨(some 7), none, .fa 0 (.t 3)⟩,
   ⟨(some 8), none, .ld false 1 (.t 7)⟩,
   ⟨(some 9), none, .cl (.c (.fn 89 [])) [(.t 6), (.t 8)]⟩,
   ⟨(some 10), none, .un .not (.t 9)⟩])
  (.cond (.t 10)
    (.seq (.reg [⟨(some 4), none, .mv (.c (.bool false))⟩])
    .ret)
    .skip))
  (.seq (.seq (.reg [⟨(some 11), none, .fa 1 (.t 2)⟩,
   ⟨(some 12), none, .ld false 1 (.t 11)⟩,
   ⟨(some 13), none, .fa 1 (.t 3)⟩,
   ⟨(some 14), none, .ld false 1 (.t 13)⟩,
   ⟨(some 15), none, .cl (.c (.fn 90 [])) [(.t 12), (.t 14)]⟩,
   ⟨(some 16), none, .un .not (.t 15)⟩])
  (.cond (.t 16)
    (.seq (.reg [⟨(some 4), none, .mv (.c (.bool false))⟩])
    .ret)
    .skip))
  (.seq (.reg [⟨(some 4), none, .mv (.c (.bool true))⟩])
  .ret))))
theorem k_laws_eqDisk : FnOk Try.prog 44 17 rc_laws_eqDisk [.t 4] := ⟨Try.f44, _, [], Try.func44, rfl, rfl, by kernel_rfl, by kernel_rfl, follows⟩
theorem ok_laws_eqDisk : okF Try.prog 44 = true := by kernel_rfl
def rc_laws_markText : RC :=
  (.seq (.reg [⟨(some 2), none, .mv (.c (.str []))⟩])
  (.seq (.seq (.reg [⟨(some 4), none, .mv (.t 0)⟩,
   ⟨(some 5), none, .bin .leq (.t 4) (.c (.int .i64 0))⟩])
  (.cond (.t 5)
    (.seq (.reg [⟨(some 2), none, .mv (.c (.str [109, 48]))⟩])
    .ret)
    .skip))
  (.seq (.reg [⟨(some 3), none, .mv (.c (.str []))⟩])
  (.seq (.blk 0 (.loop (.seq (.seq (.reg [⟨(some 6), none, .mv (.t 0)⟩,
     ⟨(some 7), none, .bin .gtr (.t 6) (.c (.int .i64 0))⟩])
    (.cond (.t 7)
      .skip
      (.exit 0)))
    (.blk 1 (.seq (.reg [⟨(some 8), none, .mv (.t 0)⟩,
      ⟨(some 9), none, .bin .rem (.t 8) (.c (.int .i64 10))⟩,
      ⟨(some 10), none, .bin .add (.c (.int .i64 48)) (.t 9)⟩,
      ⟨(some 11), none, .cvi .u8 (.t 10)⟩,
      ⟨(some 12), none, .bs 1 [.int .u8 0] 1 [(0, (.t 11))]⟩,
      ⟨(some 13), none, .cvb (.t 12)⟩,
      ⟨(some 14), none, .mv (.t 3)⟩,
      ⟨(some 15), none, .bin .add (.t 13) (.t 14)⟩,
      ⟨(some 3), none, .mv (.t 15)⟩])
     (.reg [⟨(some 16), none, .mv (.t 0)⟩,
      ⟨(some 17), none, .bin .quo (.t 16) (.c (.int .i64 10))⟩,
      ⟨(some 0), none, .mv (.t 17)⟩]))))))
  (.seq (.reg [⟨(some 18), none, .mv (.t 3)⟩,
   ⟨(some 19), none, .bin .add (.c (.str [109])) (.t 18)⟩,
   ⟨(some 2), none, .mv (.t 19)⟩])
  .ret)))))
theorem k_laws_markText : FnOk Try.prog 74 20 rc_laws_markText [.t 2] := ⟨Try.f74, _, [], Try.func74, rfl, rfl, by kernel_rfl, by kernel_rfl, follows⟩
theorem ok_laws_markText : okF Try.prog 74 = true := by kernel_rfl
def rc_laws_markStringS : RC :=
  (.seq (.reg [⟨(some 4), none, .mv (.c (.int .i64 0))⟩])
  (.seq (.seq (.reg [⟨(some 5), none, .mv (.c (.int .i64 0))⟩])
  (.blk 0 (.loop (.seq (.seq (.reg [⟨(some 6), none, .mv (.t 5)⟩,
     ⟨(some 7), none, .mv (.t 0)⟩,
     ⟨(some 8), none, .lenl (.t 7)⟩,
     ⟨(some 9), none, .bin .lss (.t 6) (.t 8)⟩])
    (.cond (.t 9)
      .skip
      (.exit 0)))
    (.seq (.blk 1 (.seq (.reg [⟨(some 12), none, .mv (.t 0)⟩,
      ⟨(some 13), none, .mv (.t 5)⟩,
      ⟨(some 14), none, .mv (.t 1)⟩,
      ⟨(some 15), none, .cl (.c (.fn 74 [])) [(.t 14)]⟩,
      ⟨(some 16), none, .ia 1 (.t 12) (.t 13)⟩,
      ⟨none, none, .st 1 (.t 16) (.t 15)⟩])
     (.reg [⟨(some 17), none, .mv (.t 1)⟩,
      ⟨(some 18), none, .bin .add (.t 17) (.c (.int .i64 1))⟩,
      ⟨(some 1), none, .mv (.t 18)⟩])))
    (.reg [⟨(some 10), none, .mv (.t 5)⟩,
     ⟨(some 11), none, .bin .add (.t 10) (.c (.int .i64 1))⟩,
     ⟨(some 5), none, .mv (.t 11)⟩]))))))
  (.seq (.reg [⟨(some 19), none, .mv (.t 1)⟩,
   ⟨(some 4), none, .mv (.t 19)⟩])
  .ret)))
theorem k_laws_markStringS : FnOk Try.prog 91 20 rc_laws_markStringS [.t 4] := ⟨Try.f91, _, [], Try.func91, rfl, rfl, by kernel_rfl, by kernel_rfl, follows⟩
theorem ok_laws_markStringS : okF Try.prog 91 = true := by kernel_rfl
def rc_laws_markWriteS : RC :=
  (.seq (.reg [⟨(some 4), none, .mv (.c (.int .i64 0))⟩])
  (.seq (.seq (.reg [⟨(some 5), none, .mv (.c (.int .i64 0))⟩])
  (.blk 0 (.loop (.seq (.seq (.reg [⟨(some 6), none, .mv (.t 5)⟩,
     ⟨(some 7), none, .mv (.t 0)⟩,
     ⟨(some 8), none, .lenl (.t 7)⟩,
     ⟨(some 9), none, .bin .lss (.t 6) (.t 8)⟩])
    (.cond (.t 9)
      .skip
      (.exit 0)))
    (.seq (.blk 1 (.seq (.reg [⟨(some 12), none, .mv (.t 0)⟩,
      ⟨(some 13), none, .mv (.t 5)⟩,
      ⟨(some 14), none, .mv (.t 1)⟩,
      ⟨(some 15), none, .ia 2 (.t 12) (.t 13)⟩,
      ⟨(some 16), none, .fa 0 (.t 15)⟩,
      ⟨none, none, .st 1 (.t 16) (.t 14)⟩])
     (.seq (.reg [⟨(some 17), none, .mv (.t 1)⟩,
      ⟨(some 18), none, .bin .add (.t 17) (.c (.int .i64 1))⟩,
      ⟨(some 1), none, .mv (.t 18)⟩])
     (.seq (.reg [⟨(some 19), none, .mv (.t 0)⟩,
      ⟨(some 20), none, .mv (.t 5)⟩,
      ⟨(some 21), none, .mv (.t 1)⟩,
      ⟨(some 22), none, .cl (.c (.fn 74 [])) [(.t 21)]⟩,
      ⟨(some 23), none, .ia 2 (.t 19) (.t 20)⟩,
      ⟨(some 24), none, .fa 1 (.t 23)⟩,
      ⟨none, none, .st 1 (.t 24) (.t 22)⟩])
     (.reg [⟨(some 25), none, .mv (.t 1)⟩,
      ⟨(some 26), none, .bin .add (.t 25) (.c (.int .i64 1))⟩,
      ⟨(some 1), none, .mv (.t 26)⟩])))))
    (.reg [⟨(some 10), none, .mv (.t 5)⟩,
     ⟨(some 11), none, .bin .add (.t 10) (.c (.int .i64 1))⟩,
     ⟨(some 5), none, .mv (.t 11)⟩]))))))
  (.seq (.reg [⟨(some 27), none, .mv (.t 1)⟩,
   ⟨(some 4), none, .mv (.t 27)⟩])
  .ret)))
theorem k_laws_markWriteS : FnOk Try.prog 92 28 rc_laws_markWriteS [.t 4] := ⟨Try.f92, _, [], Try.func92, rfl, rfl, by kernel_rfl, by kernel_rfl, follows⟩
theorem ok_laws_markWriteS : okF Try.prog 92 = true := by kernel_rfl
def rc_laws_markDisk : RC :=
  (.seq (.reg [⟨(some 2), none, .bx (.t 0)⟩,
   ⟨(some 4), none, .mv (.c (.int .i64 0))⟩])
  (.seq (.reg [⟨(some 5), none, .fa 0 (.t 2)⟩,
   ⟨(some 6), none, .ld false 1 (.t 5)⟩,
   ⟨(some 7), none, .mv (.t 1)⟩,
   ⟨(some 8), none, .cl (.c (.fn 91 [])) [(.t 6), (.t 7)]⟩,
   ⟨(some 1), none, .mv (.t 8)⟩])
  (.seq (.reg [⟨(some 9), none, .fa 1 (.t 2)⟩,
   ⟨(some 10), none, .ld false 1 (.t 9)⟩,
   ⟨(some 11), none, .mv (.t 1)⟩,
   ⟨(some 12), none, .cl (.c (.fn 92 [])) [(.t 10), (.t 11)]⟩,
   ⟨(some 1), none, .mv (.t 12)⟩])
  (.seq (.reg [⟨(some 13), none, .mv (.t 1)⟩,
   ⟨(some 4), none, .mv (.t 13)⟩])
  .ret))))
theorem k_laws_markDisk : FnOk Try.prog 45 14 rc_laws_markDisk [.t 4] := ⟨Try.f45, _, [], Try.func45, rfl, rfl, by kernel_rfl, by kernel_rfl, follows⟩
theorem ok_laws_markDisk : okF Try.prog 45 = true := by kernel_rfl
def rc_spec_l01In : RC :=
  (.seq (.reg [⟨(some 6), none, .mv (.c (.bool false))⟩])
  (.seq (.reg [⟨(some 7), none, .mv (.t 0)⟩,
   ⟨(some 8), none, .mv (.t 1)⟩,
   ⟨(some 9), none, .bin .geq (.t 7) (.t 8)⟩,
   ⟨(some 10), none, .mv (.t 9)⟩,
   ⟨(some 11), (some (10, true)), .mv (.t 0)⟩,
   ⟨(some 12), (some (10, true)), .mv (.t 2)⟩,
   ⟨(some 13), (some (10, true)), .bin .leq (.t 11) (.t 12)⟩,
   ⟨(some 14), none, .pick (.t 10) (.t 13) (.c (.bool false))⟩,
   ⟨(some 6), none, .mv (.t 14)⟩])
  .ret))
theorem k_spec_l01In : FnOk Try.prog 113 15 rc_spec_l01In [.t 6] := ⟨Try.f113, _, [], Try.func113, rfl, rfl, by kernel_rfl, by kernel_rfl, follows⟩
theorem ok_spec_l01In : okF Try.prog 113 = true := by kernel_rfl
def rc_spec_SegFirst : RC :=
  (.seq (.reg [⟨(some 2), none, .mv (.c (.int .i64 0))⟩])
  (.seq (.seq (.reg [⟨(some 3), none, .mv (.t 0)⟩,
   ⟨(some 4), none, .cl (.c (.fn 113 [])) [(.t 3), (.c (.int .i64 0)), (.c (.int .i64 10))]⟩,
   ⟨(some 5), none, .un .not (.t 4)⟩])
  (.cond (.t 5)
    (.seq (.reg [⟨(some 2), none, .mv (.c (.int .i64 0))⟩])
    .ret)
    .skip))
  (.seq (.reg [⟨(some 6), none, .mv (.t 0)⟩,
   ⟨(some 7), none, .bin .mul (.t 6) (.c (.int .i64 8))⟩,
   ⟨(some 8), none, .bin .add (.c (.int .i64 8)) (.t 7)⟩,
   ⟨(some 2), none, .mv (.t 8)⟩])
  .ret)))
theorem k_spec_SegFirst : FnOk Try.prog 217 9 rc_spec_SegFirst [.t 2] := ⟨Try.f217, _, [], Try.func217, rfl, rfl, by kernel_rfl, by kernel_rfl, follows⟩
theorem ok_spec_SegFirst : okF Try.prog 217 = true := by kernel_rfl
def rc_spec_ReadSector : RC :=
  (.seq (.reg [⟨(some 2), none, .bx (.t 0)⟩,
   ⟨(some 4), none, .mv (.c (.str []))⟩,
   ⟨(some 5), none, .mv (.c (.bool false))⟩])
  (.seq (.seq (.reg [⟨(some 7), none, .mv (.t 1)⟩,
   ⟨(some 8), none, .fa 0 (.t 2)⟩,
   ⟨(some 9), none, .ld false 1 (.t 8)⟩,
   ⟨(some 10), none, .lenl (.t 9)⟩,
   ⟨(some 11), none, .bin .sub (.t 10) (.c (.int .i64 1))⟩,
   ⟨(some 12), none, .cl (.c (.fn 113 [])) [(.t 7), (.c (.int .i64 0)), (.t 11)]⟩,
   ⟨(some 13), none, .un .not (.t 12)⟩])
  (.cond (.t 13)
    (.seq (.reg [⟨(some 4), none, .mv (.c (.str []))⟩,
     ⟨(some 5), none, .mv (.c (.bool false))⟩])
    .ret)
    .skip))
  (.seq (.seq (.reg [⟨(some 14), none, .fa 1 (.t 2)⟩,
   ⟨(some 15), none, .ld false 1 (.t 14)⟩,
   ⟨(some 16), none, .lenl (.t 15)⟩,
   ⟨(some 17), none, .bin .sub (.t 16) (.c (.int .i64 1))⟩,
   ⟨(some 6), none, .mv (.t 17)⟩])
  (.blk 0 (.loop (.seq (.seq (.reg [⟨(some 18), none, .mv (.t 6)⟩,
     ⟨(some 19), none, .bin .geq (.t 18) (.c (.int .i64 0))⟩])
    (.cond (.t 19)
      .skip
      (.exit 0)))
    (.seq (.blk 1 (.seq (.reg [⟨(some 22), none, .fa 1 (.t 2)⟩,
      ⟨(some 23), none, .ld false 1 (.t 22)⟩,
      ⟨(some 24), none, .mv (.t 6)⟩,
      ⟨(some 25), none, .ia 2 (.t 23) (.t 24)⟩,
      ⟨(some 26), none, .fa 0 (.t 25)⟩,
      ⟨(some 27), none, .ld false 1 (.t 26)⟩,
      ⟨(some 28), none, .mv (.t 1)⟩,
      ⟨(some 29), none, .bin .eql (.t 27) (.t 28)⟩])
     (.cond (.t 29)
       (.seq (.reg [⟨(some 30), none, .fa 1 (.t 2)⟩,
        ⟨(some 31), none, .ld false 1 (.t 30)⟩,
        ⟨(some 32), none, .mv (.t 6)⟩,
        ⟨(some 33), none, .ia 2 (.t 31) (.t 32)⟩,
        ⟨(some 34), none, .fa 1 (.t 33)⟩,
        ⟨(some 35), none, .ld false 1 (.t 34)⟩,
        ⟨(some 4), none, .mv (.t 35)⟩,
        ⟨(some 5), none, .mv (.c (.bool true))⟩])
       .ret)
       .skip)))
    (.reg [⟨(some 20), none, .mv (.t 6)⟩,
     ⟨(some 21), none, .bin .sub (.t 20) (.c (.int .i64 1))⟩,
     ⟨(some 6), none, .mv (.t 21)⟩]))))))
  (.seq (.reg [⟨(some 36), none, .fa 0 (.t 2)⟩,
   ⟨(some 37), none, .ld false 1 (.t 36)⟩,
   ⟨(some 38), none, .mv (.t 1)⟩,
   ⟨(some 39), none, .ia 1 (.t 37) (.t 38)⟩,
   ⟨(some 40), none, .ld false 1 (.t 39)⟩,
   ⟨(some 4), none, .mv (.t 40)⟩,
   ⟨(some 5), none, .mv (.c (.bool true))⟩])
  .ret))))
theorem k_spec_ReadSector : FnOk Try.prog 147 41 rc_spec_ReadSector [.t 4, .t 5] := ⟨Try.f147, _, [], Try.func147, rfl, rfl, by kernel_rfl, by kernel_rfl, follows⟩
theorem ok_spec_ReadSector : okF Try.prog 147 = true := by kernel_rfl
def rc_spec_SectorText : RC :=
  (.seq (.reg [⟨(some 3), none, .bx (.t 0)⟩,
   ⟨(some 6), none, .mv (.c (.str []))⟩,
   ⟨(some 7), none, .mv (.c (.bool false))⟩])
  (.seq (.seq (.reg [⟨(some 12), none, .mv (.t 2)⟩,
   ⟨(some 13), none, .cl (.c (.fn 113 [])) [(.t 12), (.c (.int .i64 0)), (.c (.int .i64 100))]⟩,
   ⟨(some 14), none, .un .not (.t 13)⟩])
  (.cond (.t 14)
    (.seq (.reg [⟨(some 6), none, .mv (.c (.str []))⟩,
     ⟨(some 7), none, .mv (.c (.bool false))⟩])
    .ret)
    .skip))
  (.seq (.reg [⟨(some 8), none, .mv (.c (.str []))⟩])
  (.seq (.seq (.reg [⟨(some 9), none, .mv (.c (.int .i64 0))⟩])
  (.blk 0 (.loop (.seq (.seq (.reg [⟨(some 15), none, .mv (.t 9)⟩,
     ⟨(some 16), none, .mv (.t 2)⟩,
     ⟨(some 17), none, .bin .lss (.t 15) (.t 16)⟩])
    (.cond (.t 17)
      .skip
      (.exit 0)))
    (.seq (.blk 1 (.seq (.seq (.reg [⟨(some 20), none, .mv (.t 1)⟩,
      ⟨(some 21), none, .bin .lss (.t 20) (.c (.int .i64 0))⟩,
      ⟨(some 22), none, .mv (.t 21)⟩,
      ⟨(some 23), (some (22, false)), .mv (.t 1)⟩,
      ⟨(some 24), (some (22, false)), .fa 0 (.t 3)⟩,
      ⟨(some 25), (some (22, false)), .ld false 1 (.t 24)⟩,
      ⟨(some 26), (some (22, false)), .lenl (.t 25)⟩,
      ⟨(some 27), (some (22, false)), .bin .gtr (.t 23) (.t 26)⟩,
      ⟨(some 28), none, .pick (.t 22) (.c (.bool true)) (.t 27)⟩])
     (.cond (.t 28)
       (.seq (.reg [⟨(some 6), none, .mv (.c (.str []))⟩,
        ⟨(some 7), none, .mv (.c (.bool false))⟩])
       .ret)
       .skip))
     (.seq (.reg [⟨(some 30), none, .ld true 2 (.t 3)⟩,
      ⟨(some 31), none, .mv (.t 1)⟩,
      ⟨(some 32), none, .mv (.t 9)⟩,
      ⟨(some 33), none, .bin .add (.t 31) (.t 32)⟩,
      ⟨(some 34), none, .cl (.c (.fn 147 [])) [(.t 30), (.t 33)]⟩,
      ⟨(some 29), none, .mv (.t 34)⟩,
      ⟨(some 35), none, .ext (.t 29) 0⟩,
      ⟨(some 36), none, .ext (.t 29) 1⟩,
      ⟨(some 10), none, .mv (.t 35)⟩,
      ⟨(some 11), none, .mv (.t 36)⟩])
     (.seq (.seq (.reg [⟨(some 37), none, .mv (.t 11)⟩,
      ⟨(some 38), none, .un .not (.t 37)⟩])
     (.cond (.t 38)
       (.seq (.reg [⟨(some 6), none, .mv (.c (.str []))⟩,
        ⟨(some 7), none, .mv (.c (.bool false))⟩])
       .ret)
       .skip))
     (.reg [⟨(some 39), none, .mv (.t 8)⟩,
      ⟨(some 40), none, .mv (.t 10)⟩,
      ⟨(some 41), none, .bin .add (.t 39) (.t 40)⟩,
      ⟨(some 8), none, .mv (.t 41)⟩])))))
    (.reg [⟨(some 18), none, .mv (.t 9)⟩,
     ⟨(some 19), none, .bin .add (.t 18) (.c (.int .i64 1))⟩,
     ⟨(some 9), none, .mv (.t 19)⟩]))))))
  (.seq (.reg [⟨(some 42), none, .mv (.t 8)⟩,
   ⟨(some 6), none, .mv (.t 42)⟩,
   ⟨(some 7), none, .mv (.c (.bool true))⟩])
  .ret)))))
theorem k_spec_SectorText : FnOk Try.prog 83 43 rc_spec_SectorText [.t 6, .t 7] := ⟨Try.f83, _, [], Try.func83, rfl, rfl, by kernel_rfl, by kernel_rfl, follows⟩
theorem ok_spec_SectorText : okF Try.prog 83 = true := by kernel_rfl
def rc_spec_SegText : RC :=
  (.seq (.reg [⟨(some 2), none, .bx (.t 0)⟩,
   ⟨(some 4), none, .mv (.c (.str []))⟩])
  (.seq (.seq (.reg [⟨(some 7), none, .mv (.t 1)⟩,
   ⟨(some 8), none, .cl (.c (.fn 113 [])) [(.t 7), (.c (.int .i64 0)), (.c (.int .i64 10))]⟩,
   ⟨(some 9), none, .un .not (.t 8)⟩])
  (.cond (.t 9)
    (.seq (.reg [⟨(some 4), none, .mv (.c (.str []))⟩])
    .ret)
    .skip))
  (.seq (.drw [⟨(some 11), none, .ld true 2 (.t 2)⟩,
   ⟨(some 12), none, .mv (.t 1)⟩,
   ⟨(some 13), none, .cl (.c (.fn 217 [])) [(.t 12)]⟩,
   ⟨(some 14), none, .cl (.c (.fn 83 [])) [(.t 11), (.t 13), (.c (.int .i64 8))]⟩,
   ⟨(some 10), none, .mv (.t 14)⟩,
   ⟨(some 15), none, .ext (.t 10) 0⟩,
   ⟨(some 16), none, .ext (.t 10) 1⟩,
   ⟨(some 5), none, .mv (.t 15)⟩,
   ⟨(some 6), none, .mv (.t 16)⟩] [.val [], .val [], .val [], .val [], .val [], .val [], .val [], .val [], .val []])
  (.seq (.reg [⟨(some 17), none, .mv (.t 5)⟩,
   ⟨(some 4), none, .mv (.t 17)⟩])
  .ret))))
theorem k_spec_SegText : FnOk Try.prog 205 18 rc_spec_SegText [.t 4] := ⟨Try.f205, _, [], Try.func205, rfl, rfl, by kernel_rfl, by kernel_rfl, follows⟩
theorem ok_spec_SegText : okF Try.prog 205 = true := by kernel_rfl
def rc_spec_l01Var : RC :=
  (.seq (.reg [⟨(some 2), none, .mv (.c (.str []))⟩])
  (.seq (.reg [⟨(some 4), none, .mv (.c (.nils))⟩,
   ⟨(some 3), none, .mv (.t 4)⟩])
  (.seq (.blk 0 (.loop (.seq (.seq (.reg [⟨(some 5), none, .mv (.t 0)⟩,
     ⟨(some 6), none, .bin .gtr (.t 5) (.c (.int .i64 127))⟩])
    (.cond (.t 6)
      .skip
      (.exit 0)))
    (.blk 1 (.seq (.reg [⟨(some 7), none, .mv (.t 3)⟩,
      ⟨(some 8), none, .mv (.t 0)⟩,
      ⟨(some 9), none, .bin .rem (.t 8) (.c (.int .i64 128))⟩,
      ⟨(some 10), none, .bin .add (.t 9) (.c (.int .i64 128))⟩,
      ⟨(some 11), none, .cvi .u8 (.t 10)⟩,
      ⟨(some 12), none, .bs 1 [.int .u8 0] 1 [(0, (.t 11))]⟩,
      ⟨(some 13), none, .app 1 1 (.t 7) (.t 12)⟩,
      ⟨(some 3), none, .mv (.t 13)⟩])
     (.reg [⟨(some 14), none, .mv (.t 0)⟩,
      ⟨(some 15), none, .bin .quo (.t 14) (.c (.int .i64 128))⟩,
      ⟨(some 0), none, .mv (.t 15)⟩]))))))
  (.seq (.reg [⟨(some 16), none, .mv (.t 3)⟩,
   ⟨(some 17), none, .mv (.t 0)⟩,
   ⟨(some 18), none, .cvi .u8 (.t 17)⟩,
   ⟨(some 19), none, .bs 1 [.int .u8 0] 1 [(0, (.t 18))]⟩,
   ⟨(some 20), none, .app 1 1 (.t 16) (.t 19)⟩,
   ⟨(some 21), none, .cvb (.t 20)⟩,
   ⟨(some 2), none, .mv (.t 21)⟩])
  .ret))))
theorem k_spec_l01Var : FnOk Try.prog 158 22 rc_spec_l01Var [.t 2] := ⟨Try.f158, _, [], Try.func158, rfl, rfl, by kernel_rfl, by kernel_rfl, follows⟩
theorem ok_spec_l01Var : okF Try.prog 158 = true := by kernel_rfl
def rc_spec_ReadVar : RC :=
  (.seq (.reg [⟨(some 4), none, .mv (.c (.int .i64 0))⟩,
   ⟨(some 5), none, .mv (.c (.int .i64 0))⟩,
   ⟨(some 6), none, .mv (.c (.bool false))⟩])
  (.seq (.seq (.reg [⟨(some 10), none, .mv (.t 1)⟩,
   ⟨(some 11), none, .mv (.t 0)⟩,
   ⟨(some 12), none, .lens (.t 11)⟩,
   ⟨(some 13), none, .cl (.c (.fn 113 [])) [(.t 10), (.c (.int .i64 0)), (.t 12)]⟩,
   ⟨(some 14), none, .un .not (.t 13)⟩])
  (.cond (.t 14)
    (.seq (.reg [⟨(some 4), none, .mv (.c (.int .i64 0))⟩,
     ⟨(some 5), none, .mv (.c (.int .i64 0))⟩,
     ⟨(some 6), none, .mv (.c (.bool false))⟩])
    .ret)
    .skip))
  (.seq (.reg [⟨(some 7), none, .mv (.c (.int .i64 0))⟩])
  (.seq (.reg [⟨(some 8), none, .mv (.c (.int .i64 1))⟩])
  (.seq (.seq (.reg [⟨(some 15), none, .mv (.t 1)⟩,
   ⟨(some 9), none, .mv (.t 15)⟩])
  (.blk 0 (.loop (.seq (.seq (.reg [⟨(some 16), none, .mv (.t 9)⟩,
     ⟨(some 17), none, .mv (.t 0)⟩,
     ⟨(some 18), none, .lens (.t 17)⟩,
     ⟨(some 19), none, .bin .lss (.t 16) (.t 18)⟩,
     ⟨(some 20), none, .mv (.t 19)⟩,
     ⟨(some 21), (some (20, true)), .mv (.t 9)⟩,
     ⟨(some 22), (some (20, true)), .mv (.t 1)⟩,
     ⟨(some 23), (some (20, true)), .bin .add (.t 22) (.c (.int .i64 5))⟩,
     ⟨(some 24), (some (20, true)), .bin .lss (.t 21) (.t 23)⟩,
     ⟨(some 25), none, .pick (.t 20) (.t 24) (.c (.bool false))⟩])
    (.cond (.t 25)
      .skip
      (.exit 0)))
    (.seq (.blk 1 (.seq (.reg [⟨(some 28), none, .mv (.t 7)⟩,
      ⟨(some 29), none, .mv (.t 0)⟩,
      ⟨(some 30), none, .mv (.t 9)⟩,
      ⟨(some 31), none, .idx (.t 29) (.t 30)⟩,
      ⟨(some 32), none, .cvi .i64 (.t 31)⟩,
      ⟨(some 33), none, .bin .rem (.t 32) (.c (.int .i64 128))⟩,
      ⟨(some 34), none, .mv (.t 8)⟩,
      ⟨(some 35), none, .bin .mul (.t 33) (.t 34)⟩,
      ⟨(some 36), none, .bin .add (.t 28) (.t 35)⟩,
      ⟨(some 7), none, .mv (.t 36)⟩])
     (.seq (.reg [⟨(some 37), none, .mv (.t 8)⟩,
      ⟨(some 38), none, .bin .mul (.t 37) (.c (.int .i64 128))⟩,
      ⟨(some 8), none, .mv (.t 38)⟩])
     (.seq (.reg [⟨(some 39), none, .mv (.t 0)⟩,
      ⟨(some 40), none, .mv (.t 9)⟩,
      ⟨(some 41), none, .idx (.t 39) (.t 40)⟩,
      ⟨(some 42), none, .bin .lss (.t 41) (.c (.int .u8 128))⟩])
     (.cond (.t 42)
       (.seq (.seq (.drw [⟨(some 43), none, .mv (.t 7)⟩,
        ⟨(some 44), none, .bin .gtr (.t 43) (.c (.int .i64 1000000000))⟩,
        ⟨(some 45), none, .mv (.t 44)⟩,
        ⟨(some 46), (some (45, false)), .mv (.t 7)⟩,
        ⟨(some 47), (some (45, false)), .cl (.c (.fn 158 [])) [(.t 46)]⟩,
        ⟨(some 48), (some (45, false)), .mv (.t 0)⟩,
        ⟨(some 49), (some (45, false)), .mv (.t 1)⟩,
        ⟨(some 50), (some (45, false)), .mv (.t 9)⟩,
        ⟨(some 51), (some (45, false)), .bin .add (.t 50) (.c (.int .i64 1))⟩,
        ⟨(some 52), (some (45, false)), .sls (.t 48) (some (.t 49)) (some (.t 51))⟩,
        ⟨(some 53), (some (45, false)), .bin .neq (.t 47) (.t 52)⟩,
        ⟨(some 54), none, .pick (.t 45) (.c (.bool true)) (.t 53)⟩] [.val [], .val [], .val [], .val [], .val [], .val [], .val [], .val [], .val [], .val [], .val [], .val []])
       (.cond (.t 54)
         (.seq (.reg [⟨(some 4), none, .mv (.c (.int .i64 0))⟩,
          ⟨(some 5), none, .mv (.c (.int .i64 0))⟩,
          ⟨(some 6), none, .mv (.c (.bool false))⟩])
         .ret)
         .skip))
       (.seq (.reg [⟨(some 55), none, .mv (.t 7)⟩,
        ⟨(some 56), none, .mv (.t 9)⟩,
        ⟨(some 57), none, .bin .add (.t 56) (.c (.int .i64 1))⟩,
        ⟨(some 4), none, .mv (.t 55)⟩,
        ⟨(some 5), none, .mv (.t 57)⟩,
        ⟨(some 6), none, .mv (.c (.bool true))⟩])
       .ret))
       .skip)))))
    (.reg [⟨(some 26), none, .mv (.t 9)⟩,
     ⟨(some 27), none, .bin .add (.t 26) (.c (.int .i64 1))⟩,
     ⟨(some 9), none, .mv (.t 27)⟩]))))))
  (.seq (.reg [⟨(some 4), none, .mv (.c (.int .i64 0))⟩,
   ⟨(some 5), none, .mv (.c (.int .i64 0))⟩,
   ⟨(some 6), none, .mv (.c (.bool false))⟩])
  .ret))))))
theorem k_spec_ReadVar : FnOk Try.prog 196 58 rc_spec_ReadVar [.t 4, .t 5, .t 6] := ⟨Try.f196, _, [], Try.func196, rfl, rfl, by kernel_rfl, by kernel_rfl, follows⟩
theorem ok_spec_ReadVar : okF Try.prog 196 = true := by kernel_rfl
def rc_spec_ReadShort : RC :=
  (.seq (.reg [⟨(some 4), none, .mv (.c (.str []))⟩,
   ⟨(some 5), none, .mv (.c (.int .i64 0))⟩,
   ⟨(some 6), none, .mv (.c (.bool false))⟩])
  (.seq (.reg [⟨(some 11), none, .mv (.t 0)⟩,
   ⟨(some 12), none, .mv (.t 1)⟩,
   ⟨(some 13), none, .cl (.c (.fn 196 [])) [(.t 11), (.t 12)]⟩,
   ⟨(some 10), none, .mv (.t 13)⟩,
   ⟨(some 14), none, .ext (.t 10) 0⟩,
   ⟨(some 15), none, .ext (.t 10) 1⟩,
   ⟨(some 16), none, .ext (.t 10) 2⟩,
   ⟨(some 7), none, .mv (.t 14)⟩,
   ⟨(some 8), none, .mv (.t 15)⟩,
   ⟨(some 9), none, .mv (.t 16)⟩])
  (.seq (.seq (.reg [⟨(some 17), none, .mv (.t 9)⟩,
   ⟨(some 18), none, .un .not (.t 17)⟩,
   ⟨(some 19), none, .mv (.t 18)⟩,
   ⟨(some 20), (some (19, false)), .mv (.t 7)⟩,
   ⟨(some 21), (some (19, false)), .bin .gtr (.t 20) (.c (.int .i64 20000))⟩,
   ⟨(some 22), none, .pick (.t 19) (.c (.bool true)) (.t 21)⟩,
   ⟨(some 23), none, .mv (.t 22)⟩,
   ⟨(some 24), (some (23, false)), .mv (.t 7)⟩,
   ⟨(some 25), (some (23, false)), .mv (.t 0)⟩,
   ⟨(some 26), (some (23, false)), .lens (.t 25)⟩,
   ⟨(some 27), (some (23, false)), .mv (.t 8)⟩,
   ⟨(some 28), (some (23, false)), .bin .sub (.t 26) (.t 27)⟩,
   ⟨(some 29), (some (23, false)), .bin .gtr (.t 24) (.t 28)⟩,
   ⟨(some 30), none, .pick (.t 23) (.c (.bool true)) (.t 29)⟩])
  (.cond (.t 30)
    (.seq (.reg [⟨(some 4), none, .mv (.c (.str []))⟩,
     ⟨(some 5), none, .mv (.c (.int .i64 0))⟩,
     ⟨(some 6), none, .mv (.c (.bool false))⟩])
    .ret)
    .skip))
  (.seq (.reg [⟨(some 31), none, .mv (.t 0)⟩,
   ⟨(some 32), none, .mv (.t 8)⟩,
   ⟨(some 33), none, .mv (.t 8)⟩,
   ⟨(some 34), none, .mv (.t 7)⟩,
   ⟨(some 35), none, .bin .add (.t 33) (.t 34)⟩,
   ⟨(some 36), none, .sls (.t 31) (some (.t 32)) (some (.t 35))⟩,
   ⟨(some 37), none, .mv (.t 8)⟩,
   ⟨(some 38), none, .mv (.t 7)⟩,
   ⟨(some 39), none, .bin .add (.t 37) (.t 38)⟩,
   ⟨(some 4), none, .mv (.t 36)⟩,
   ⟨(some 5), none, .mv (.t 39)⟩,
   ⟨(some 6), none, .mv (.c (.bool true))⟩])
  .ret))))
theorem k_spec_ReadShort : FnOk Try.prog 148 40 rc_spec_ReadShort [.t 4, .t 5, .t 6] := ⟨Try.f148, _, [], Try.func148, rfl, rfl, by kernel_rfl, by kernel_rfl, follows⟩
theorem ok_spec_ReadShort : okF Try.prog 148 = true := by kernel_rfl
def rc_spec_l02Four : RC :=
  (.seq (.reg [⟨(some 2), none, .mv (.c (.str []))⟩])
  (.seq (.reg [⟨(some 3), none, .mv (.t 0)⟩,
   ⟨(some 4), none, .bin .shr (.t 3) (.c (.int .u64 24))⟩,
   ⟨(some 5), none, .cvi .u8 (.t 4)⟩,
   ⟨(some 6), none, .mv (.t 0)⟩,
   ⟨(some 7), none, .bin .shr (.t 6) (.c (.int .u64 16))⟩,
   ⟨(some 8), none, .cvi .u8 (.t 7)⟩,
   ⟨(some 9), none, .mv (.t 0)⟩,
   ⟨(some 10), none, .bin .shr (.t 9) (.c (.int .u64 8))⟩,
   ⟨(some 11), none, .cvi .u8 (.t 10)⟩,
   ⟨(some 12), none, .mv (.t 0)⟩,
   ⟨(some 13), none, .cvi .u8 (.t 12)⟩,
   ⟨(some 14), none, .bs 1 [.int .u8 0] 4 [(0, (.t 5)), (1, (.t 8)), (2, (.t 11)), (3, (.t 13))]⟩,
   ⟨(some 15), none, .cvb (.t 14)⟩,
   ⟨(some 2), none, .mv (.t 15)⟩])
  .ret))
theorem k_spec_l02Four : FnOk Try.prog 197 16 rc_spec_l02Four [.t 2] := ⟨Try.f197, _, [], Try.func197, rfl, rfl, by kernel_rfl, by kernel_rfl, follows⟩
theorem ok_spec_l02Four : okF Try.prog 197 = true := by kernel_rfl
def rc_spec_SumMore : RC :=
  (.seq (.reg [⟨(some 4), none, .mv (.c (.int .u32 0))⟩])
  (.seq (.seq (.reg [⟨(some 5), none, .mv (.c (.int .i64 0))⟩])
  (.blk 0 (.loop (.seq (.seq (.reg [⟨(some 8), none, .mv (.t 5)⟩,
     ⟨(some 9), none, .mv (.t 1)⟩,
     ⟨(some 10), none, .lens (.t 9)⟩,
     ⟨(some 11), none, .bin .lss (.t 8) (.t 10)⟩])
    (.cond (.t 11)
      .skip
      (.exit 0)))
    (.seq (.blk 1 (.seq (.reg [⟨(some 14), none, .mv (.t 0)⟩,
      ⟨(some 15), none, .mv (.t 1)⟩,
      ⟨(some 16), none, .mv (.t 5)⟩,
      ⟨(some 17), none, .idx (.t 15) (.t 16)⟩,
      ⟨(some 18), none, .cvi .u32 (.t 17)⟩,
      ⟨(some 19), none, .bin .xor (.t 14) (.t 18)⟩,
      ⟨(some 0), none, .mv (.t 19)⟩])
     (.seq (.reg [⟨(some 6), none, .mv (.c (.int .i64 0))⟩])
     (.blk 2 (.loop (.seq (.seq (.reg [⟨(some 20), none, .mv (.t 6)⟩,
        ⟨(some 21), none, .bin .lss (.t 20) (.c (.int .i64 8))⟩])
       (.cond (.t 21)
         .skip
         (.exit 2)))
       (.seq (.blk 3 (.seq (.reg [⟨(some 24), none, .mv (.t 0)⟩,
         ⟨(some 25), none, .bin .rem (.t 24) (.c (.int .u32 2))⟩,
         ⟨(some 26), none, .bin .eql (.t 25) (.c (.int .u32 1))⟩,
         ⟨(some 7), none, .mv (.t 26)⟩])
        (.seq (.reg [⟨(some 27), none, .mv (.t 0)⟩,
         ⟨(some 28), none, .bin .quo (.t 27) (.c (.int .u32 2))⟩,
         ⟨(some 0), none, .mv (.t 28)⟩])
        (.seq (.reg [⟨(some 29), none, .mv (.t 7)⟩])
        (.cond (.t 29)
          (.reg [⟨(some 30), none, .mv (.t 0)⟩,
           ⟨(some 31), none, .bin .xor (.t 30) (.c (.int .u32 3558460437))⟩,
           ⟨(some 0), none, .mv (.t 31)⟩])
          .skip)))))
       (.reg [⟨(some 22), none, .mv (.t 6)⟩,
        ⟨(some 23), none, .bin .add (.t 22) (.c (.int .i64 1))⟩,
        ⟨(some 6), none, .mv (.t 23)⟩]))))))))
    (.reg [⟨(some 12), none, .mv (.t 5)⟩,
     ⟨(some 13), none, .bin .add (.t 12) (.c (.int .i64 1))⟩,
     ⟨(some 5), none, .mv (.t 13)⟩]))))))
  (.seq (.reg [⟨(some 32), none, .mv (.t 0)⟩,
   ⟨(some 4), none, .mv (.t 32)⟩])
  .ret)))
theorem k_spec_SumMore : FnOk Try.prog 214 33 rc_spec_SumMore [.t 4] := ⟨Try.f214, _, [], Try.func214, rfl, rfl, by kernel_rfl, by kernel_rfl, follows⟩
theorem ok_spec_SumMore : okF Try.prog 214 = true := by kernel_rfl
def rc_spec_SumOf : RC :=
  (.seq (.reg [⟨(some 2), none, .mv (.c (.int .u32 0))⟩])
  (.seq (.reg [⟨(some 3), none, .mv (.t 0)⟩,
   ⟨(some 4), none, .cl (.c (.fn 214 [])) [(.c (.int .u32 4294967295)), (.t 3)]⟩,
   ⟨(some 2), none, .mv (.t 4)⟩])
  .ret))
theorem k_spec_SumOf : FnOk Try.prog 198 5 rc_spec_SumOf [.t 2] := ⟨Try.f198, _, [], Try.func198, rfl, rfl, by kernel_rfl, by kernel_rfl, follows⟩
theorem ok_spec_SumOf : okF Try.prog 198 = true := by kernel_rfl
def rc_spec_Sealed : RC :=
  (.seq (.reg [⟨(some 2), none, .mv (.c (.str []))⟩,
   ⟨(some 3), none, .mv (.c (.bool false))⟩])
  (.seq (.seq (.reg [⟨(some 4), none, .mv (.t 0)⟩,
   ⟨(some 5), none, .lens (.t 4)⟩,
   ⟨(some 6), none, .bin .gtr (.t 5) (.c (.int .i64 20000))⟩])
  (.cond (.t 6)
    (.seq (.reg [⟨(some 2), none, .mv (.c (.str []))⟩,
     ⟨(some 3), none, .mv (.c (.bool false))⟩])
    .ret)
    .skip))
  (.seq (.reg [⟨(some 7), none, .mv (.t 0)⟩,
   ⟨(some 8), none, .mv (.t 0)⟩,
   ⟨(some 9), none, .cl (.c (.fn 198 [])) [(.t 8)]⟩,
   ⟨(some 10), none, .cl (.c (.fn 197 [])) [(.t 9)]⟩,
   ⟨(some 11), none, .bin .add (.t 7) (.t 10)⟩,
   ⟨(some 2), none, .mv (.t 11)⟩,
   ⟨(some 3), none, .mv (.c (.bool true))⟩])
  .ret)))
theorem k_spec_Sealed : FnOk Try.prog 159 12 rc_spec_Sealed [.t 2, .t 3] := ⟨Try.f159, _, [], Try.func159, rfl, rfl, by kernel_rfl, by kernel_rfl, follows⟩
theorem ok_spec_Sealed : okF Try.prog 159 = true := by kernel_rfl
def rc_spec_FrameOk : RC :=
  (.seq (.reg [⟨(some 1), none, .bx (.t 0)⟩,
   ⟨(some 2), none, .mv (.c (.bool false))⟩])
  (.seq (.reg [⟨(some 3), none, .fa 0 (.t 1)⟩,
   ⟨(some 4), none, .ld false 1 (.t 3)⟩,
   ⟨(some 5), none, .cl (.c (.fn 113 [])) [(.t 4), (.c (.int .i64 1)), (.c (.int .i64 1000000000))]⟩,
   ⟨(some 6), none, .mv (.t 5)⟩,
   ⟨(some 7), (some (6, true)), .fa 1 (.t 1)⟩,
   ⟨(some 8), (some (6, true)), .ld false 1 (.t 7)⟩,
   ⟨(some 9), (some (6, true)), .cl (.c (.fn 113 [])) [(.t 8), (.c (.int .i64 1)), (.c (.int .i64 1000000000))]⟩,
   ⟨(some 10), none, .pick (.t 6) (.t 9) (.c (.bool false))⟩,
   ⟨(some 11), none, .mv (.t 10)⟩,
   ⟨(some 12), (some (11, true)), .fa 2 (.t 1)⟩,
   ⟨(some 13), (some (11, true)), .ld false 1 (.t 12)⟩,
   ⟨(some 14), (some (11, true)), .lens (.t 13)⟩,
   ⟨(some 15), (some (11, true)), .cl (.c (.fn 113 [])) [(.t 14), (.c (.int .i64 1)), (.c (.int .i64 180))]⟩,
   ⟨(some 16), none, .pick (.t 11) (.t 15) (.c (.bool false))⟩,
   ⟨(some 2), none, .mv (.t 16)⟩])
  .ret))
theorem k_spec_FrameOk : FnOk Try.prog 208 17 rc_spec_FrameOk [.t 2] := ⟨Try.f208, _, [], Try.func208, rfl, rfl, by kernel_rfl, by kernel_rfl, follows⟩
theorem ok_spec_FrameOk : okF Try.prog 208 = true := by kernel_rfl
def rc_spec_FrameText : RC :=
  (.seq (.reg [⟨(some 1), none, .bx (.t 0)⟩,
   ⟨(some 2), none, .mv (.c (.str []))⟩,
   ⟨(some 3), none, .mv (.c (.bool false))⟩])
  (.seq (.seq (.reg [⟨(some 4), none, .ld true 3 (.t 1)⟩,
   ⟨(some 5), none, .cl (.c (.fn 208 [])) [(.t 4)]⟩,
   ⟨(some 6), none, .un .not (.t 5)⟩])
  (.cond (.t 6)
    (.seq (.reg [⟨(some 2), none, .mv (.c (.str []))⟩,
     ⟨(some 3), none, .mv (.c (.bool false))⟩])
    .ret)
    .skip))
  (.seq (.drw [⟨(some 7), none, .fa 0 (.t 1)⟩,
   ⟨(some 8), none, .ld false 1 (.t 7)⟩,
   ⟨(some 9), none, .cl (.c (.fn 158 [])) [(.t 8)]⟩,
   ⟨(some 10), none, .fa 1 (.t 1)⟩,
   ⟨(some 11), none, .ld false 1 (.t 10)⟩,
   ⟨(some 12), none, .cl (.c (.fn 158 [])) [(.t 11)]⟩,
   ⟨(some 13), none, .bin .add (.t 9) (.t 12)⟩,
   ⟨(some 14), none, .fa 2 (.t 1)⟩,
   ⟨(some 15), none, .ld false 1 (.t 14)⟩,
   ⟨(some 16), none, .lens (.t 15)⟩,
   ⟨(some 17), none, .cl (.c (.fn 158 [])) [(.t 16)]⟩,
   ⟨(some 18), none, .bin .add (.t 13) (.t 17)⟩,
   ⟨(some 19), none, .fa 2 (.t 1)⟩,
   ⟨(some 20), none, .ld false 1 (.t 19)⟩,
   ⟨(some 21), none, .bin .add (.t 18) (.t 20)⟩,
   ⟨(some 22), none, .cl (.c (.fn 159 [])) [(.t 21)]⟩,
   ⟨(some 23), none, .ext (.t 22) 0⟩,
   ⟨(some 24), none, .ext (.t 22) 1⟩,
   ⟨(some 2), none, .mv (.t 23)⟩,
   ⟨(some 3), none, .mv (.t 24)⟩] [.val [], .val [], .val [], .val [], .val [], .val [], .val [], .val [], .val [], .val [], .val [], .val [], .val [], .val [], .val [], .val [], .val [], .val [], .val [], .val []])
  .ret)))
theorem k_spec_FrameText : FnOk Try.prog 211 25 rc_spec_FrameText [.t 2, .t 3] := ⟨Try.f211, _, [], Try.func211, rfl, rfl, by kernel_rfl, by kernel_rfl, follows⟩
theorem ok_spec_FrameText : okF Try.prog 211 = true := by kernel_rfl
def rc_spec_ReadFrame : RC :=
  (.seq (.reg [⟨(some 4), none, .al [.int .i64 0, .int .i64 0, .str []]⟩,
   ⟨(some 5), none, .mv (.c (.int .i64 0))⟩,
   ⟨(some 6), none, .mv (.c (.bool false))⟩])
  (.seq (.reg [⟨(some 20), none, .mv (.t 0)⟩,
   ⟨(some 21), none, .mv (.t 1)⟩,
   ⟨(some 22), none, .cl (.c (.fn 196 [])) [(.t 20), (.t 21)]⟩,
   ⟨(some 19), none, .mv (.t 22)⟩,
   ⟨(some 23), none, .ext (.t 19) 0⟩,
   ⟨(some 24), none, .ext (.t 19) 1⟩,
   ⟨(some 25), none, .ext (.t 19) 2⟩,
   ⟨(some 7), none, .mv (.t 23)⟩,
   ⟨(some 8), none, .mv (.t 24)⟩,
   ⟨(some 9), none, .mv (.t 25)⟩])
  (.seq (.reg [⟨(some 27), none, .mv (.t 0)⟩,
   ⟨(some 28), none, .mv (.t 8)⟩,
   ⟨(some 29), none, .cl (.c (.fn 196 [])) [(.t 27), (.t 28)]⟩,
   ⟨(some 26), none, .mv (.t 29)⟩,
   ⟨(some 30), none, .ext (.t 26) 0⟩,
   ⟨(some 31), none, .ext (.t 26) 1⟩,
   ⟨(some 32), none, .ext (.t 26) 2⟩,
   ⟨(some 10), none, .mv (.t 30)⟩,
   ⟨(some 11), none, .mv (.t 31)⟩,
   ⟨(some 12), none, .mv (.t 32)⟩])
  (.seq (.reg [⟨(some 34), none, .mv (.t 0)⟩,
   ⟨(some 35), none, .mv (.t 11)⟩,
   ⟨(some 36), none, .cl (.c (.fn 148 [])) [(.t 34), (.t 35)]⟩,
   ⟨(some 33), none, .mv (.t 36)⟩,
   ⟨(some 37), none, .ext (.t 33) 0⟩,
   ⟨(some 38), none, .ext (.t 33) 1⟩,
   ⟨(some 39), none, .ext (.t 33) 2⟩,
   ⟨(some 13), none, .mv (.t 37)⟩,
   ⟨(some 14), none, .mv (.t 38)⟩,
   ⟨(some 15), none, .mv (.t 39)⟩])
  (.seq (.reg [⟨(some 40), none, .mv (.t 7)⟩,
   ⟨(some 41), none, .mv (.t 10)⟩,
   ⟨(some 42), none, .mv (.t 13)⟩,
   ⟨(some 43), none, .bld [.int .i64 0, .int .i64 0, .str []] [(0, 1), (1, 1), (2, 1)] [(0, (.t 40)), (1, (.t 41)), (2, (.t 42))]⟩,
   ⟨(some 16), none, .al [.int .i64 0, .int .i64 0, .str []]⟩,
   ⟨none, none, .st 3 (.t 16) (.t 43)⟩])
  (.seq (.seq (.reg [⟨(some 44), none, .mv (.t 9)⟩,
   ⟨(some 45), none, .un .not (.t 44)⟩,
   ⟨(some 46), none, .mv (.t 45)⟩,
   ⟨(some 47), (some (46, false)), .mv (.t 12)⟩,
   ⟨(some 48), (some (46, false)), .un .not (.t 47)⟩,
   ⟨(some 49), none, .pick (.t 46) (.c (.bool true)) (.t 48)⟩,
   ⟨(some 50), none, .mv (.t 49)⟩,
   ⟨(some 51), (some (50, false)), .mv (.t 15)⟩,
   ⟨(some 52), (some (50, false)), .un .not (.t 51)⟩,
   ⟨(some 53), none, .pick (.t 50) (.c (.bool true)) (.t 52)⟩,
   ⟨(some 54), none, .mv (.t 53)⟩,
   ⟨(some 55), (some (54, false)), .mv (.t 14)⟩,
   ⟨(some 56), (some (54, false)), .mv (.t 0)⟩,
   ⟨(some 57), (some (54, false)), .lens (.t 56)⟩,
   ⟨(some 58), (some (54, false)), .bin .sub (.t 57) (.c (.int .i64 4))⟩,
   ⟨(some 59), (some (54, false)), .bin .gtr (.t 55) (.t 58)⟩,
   ⟨(some 60), none, .pick (.t 54) (.c (.bool true)) (.t 59)⟩,
   ⟨(some 61), none, .mv (.t 60)⟩,
   ⟨(some 62), (some (61, false)), .mv (.t 1)⟩,
   ⟨(some 63), (some (61, false)), .bin .lss (.t 62) (.c (.int .i64 0))⟩,
   ⟨(some 64), none, .pick (.t 61) (.c (.bool true)) (.t 63)⟩])
  (.cond (.t 64)
    (.seq (.reg [⟨(some 65), none, .bld [.int .i64 0, .int .i64 0, .str []] [(0, 1), (1, 1), (2, 1)] []⟩,
     ⟨none, none, .st 3 (.t 4) (.t 65)⟩,
     ⟨(some 5), none, .mv (.c (.int .i64 0))⟩,
     ⟨(some 6), none, .mv (.c (.bool false))⟩])
    .ret)
    .skip))
  (.seq (.reg [⟨(some 67), none, .ld true 3 (.t 16)⟩,
   ⟨(some 68), none, .cl (.c (.fn 211 [])) [(.t 67)]⟩,
   ⟨(some 66), none, .mv (.t 68)⟩,
   ⟨(some 69), none, .ext (.t 66) 0⟩,
   ⟨(some 70), none, .ext (.t 66) 1⟩,
   ⟨(some 17), none, .mv (.t 69)⟩,
   ⟨(some 18), none, .mv (.t 70)⟩])
  (.seq (.seq (.reg [⟨(some 71), none, .mv (.t 18)⟩,
   ⟨(some 72), none, .un .not (.t 71)⟩,
   ⟨(some 73), none, .mv (.t 72)⟩,
   ⟨(some 74), (some (73, false)), .mv (.t 17)⟩,
   ⟨(some 75), (some (73, false)), .mv (.t 0)⟩,
   ⟨(some 76), (some (73, false)), .mv (.t 1)⟩,
   ⟨(some 77), (some (73, false)), .mv (.t 14)⟩,
   ⟨(some 78), (some (73, false)), .bin .add (.t 77) (.c (.int .i64 4))⟩,
   ⟨(some 79), (some (73, false)), .sls (.t 75) (some (.t 76)) (some (.t 78))⟩,
   ⟨(some 80), (some (73, false)), .bin .neq (.t 74) (.t 79)⟩,
   ⟨(some 81), none, .pick (.t 73) (.c (.bool true)) (.t 80)⟩])
  (.cond (.t 81)
    (.seq (.reg [⟨(some 82), none, .bld [.int .i64 0, .int .i64 0, .str []] [(0, 1), (1, 1), (2, 1)] []⟩,
     ⟨none, none, .st 3 (.t 4) (.t 82)⟩,
     ⟨(some 5), none, .mv (.c (.int .i64 0))⟩,
     ⟨(some 6), none, .mv (.c (.bool false))⟩])
    .ret)
    .skip))
  (.seq (.reg [⟨(some 83), none, .ld true 3 (.t 16)⟩,
   ⟨(some 84), none, .mv (.t 14)⟩,
   ⟨(some 85), none, .bin .add (.t 84) (.c (.int .i64 4))⟩,
   ⟨none, none, .st 3 (.t 4) (.t 83)⟩,
   ⟨(some 5), none, .mv (.t 85)⟩,
   ⟨(some 6), none, .mv (.c (.bool true))⟩])
  .ret)))))))))
theorem k_spec_ReadFrame : FnOk Try.prog 206 86 rc_spec_ReadFrame [.cell 4 true 3, .t 5, .t 6] := ⟨Try.f206, _, [], Try.func206, rfl, rfl, by kernel_rfl, by kernel_rfl, follows⟩
theorem ok_spec_ReadFrame : okF Try.prog 206 = true := by kernel_rfl
def rc_spec_SegGen : RC :=
  (.seq (.reg [⟨(some 2), none, .bx (.t 0)⟩,
   ⟨(some 4), none, .mv (.c (.int .i64 0))⟩])
  (.seq (.reg [⟨(some 9), none, .ld true 2 (.t 2)⟩,
   ⟨(some 10), none, .mv (.t 1)⟩,
   ⟨(some 11), none, .cl (.c (.fn 205 [])) [(.t 9), (.t 10)]⟩,
   ⟨(some 12), none, .cl (.c (.fn 206 [])) [(.t 11), (.c (.int .i64 0))]⟩,
   ⟨(some 8), none, .mv (.t 12)⟩,
   ⟨(some 13), none, .ext (.t 8) 0⟩,
   ⟨(some 14), none, .ext (.t 8) 1⟩,
   ⟨(some 15), none, .ext (.t 8) 2⟩,
   ⟨(some 5), none, .al [.int .i64 0, .int .i64 0, .str []]⟩,
   ⟨none, none, .st 3 (.t 5) (.t 13)⟩,
   ⟨(some 6), none, .mv (.t 14)⟩,
   ⟨(some 7), none, .mv (.t 15)⟩])
  (.seq (.seq (.reg [⟨(some 16), none, .mv (.t 7)⟩,
   ⟨(some 17), none, .un .not (.t 16)⟩,
   ⟨(some 18), none, .mv (.t 17)⟩,
   ⟨(some 19), (some (18, false)), .fa 2 (.t 5)⟩,
   ⟨(some 20), (some (18, false)), .ld false 1 (.t 19)⟩,
   ⟨(some 21), (some (18, false)), .bin .neq (.t 20) (.c (.str [115, 101, 103]))⟩,
   ⟨(some 22), none, .pick (.t 18) (.c (.bool true)) (.t 21)⟩])
  (.cond (.t 22)
    (.seq (.reg [⟨(some 4), none, .mv (.c (.int .i64 0))⟩])
    .ret)
    .skip))
  (.seq (.reg [⟨(some 23), none, .fa 0 (.t 5)⟩,
   ⟨(some 24), none, .ld false 1 (.t 23)⟩,
   ⟨(some 4), none, .mv (.t 24)⟩])
  .ret))))
theorem k_spec_SegGen : FnOk Try.prog 174 25 rc_spec_SegGen [.t 4] := ⟨Try.f174, _, [], Try.func174, rfl, rfl, by kernel_rfl, by kernel_rfl, follows⟩
theorem ok_spec_SegGen : okF Try.prog 174 = true := by kernel_rfl
def rc_spec_ScanFrames : RC :=
  (.seq (.reg [⟨(some 4), none, .mv (.c (.nils))⟩,
   ⟨(some 5), none, .mv (.c (.int .i64 0))⟩])
  (.seq (.reg [⟨(some 11), none, .mv (.c (.nils))⟩,
   ⟨(some 6), none, .mv (.t 11)⟩])
  (.seq (.reg [⟨(some 7), none, .mv (.c (.int .i64 0))⟩])
  (.blk 0 (.loop (.blk 1 (.seq (.reg [⟨(some 13), none, .mv (.t 0)⟩,
      ⟨(some 14), none, .mv (.t 7)⟩,
      ⟨(some 15), none, .cl (.c (.fn 206 [])) [(.t 13), (.t 14)]⟩,
      ⟨(some 12), none, .mv (.t 15)⟩,
      ⟨(some 16), none, .ext (.t 12) 0⟩,
      ⟨(some 17), none, .ext (.t 12) 1⟩,
      ⟨(some 18), none, .ext (.t 12) 2⟩,
      ⟨(some 8), none, .al [.int .i64 0, .int .i64 0, .str []]⟩,
      ⟨none, none, .st 3 (.t 8) (.t 16)⟩,
      ⟨(some 9), none, .mv (.t 17)⟩,
      ⟨(some 10), none, .mv (.t 18)⟩])
     (.seq (.seq (.reg [⟨(some 19), none, .mv (.t 10)⟩,
      ⟨(some 20), none, .un .not (.t 19)⟩,
      ⟨(some 21), none, .mv (.t 20)⟩,
      ⟨(some 22), (some (21, false)), .fa 0 (.t 8)⟩,
      ⟨(some 23), (some (21, false)), .ld false 1 (.t 22)⟩,
      ⟨(some 24), (some (21, false)), .mv (.t 1)⟩,
      ⟨(some 25), (some (21, false)), .bin .neq (.t 23) (.t 24)⟩,
      ⟨(some 26), none, .pick (.t 21) (.c (.bool true)) (.t 25)⟩])
     (.cond (.t 26)
       (.seq (.reg [⟨(some 27), none, .mv (.t 6)⟩,
        ⟨(some 28), none, .mv (.t 7)⟩,
        ⟨(some 4), none, .mv (.t 27)⟩,
        ⟨(some 5), none, .mv (.t 28)⟩])
       .ret)
       .skip))
     (.seq (.reg [⟨(some 29), none, .mv (.t 6)⟩,
      ⟨(some 30), none, .ld true 3 (.t 8)⟩,
      ⟨(some 31), none, .bs 3 [.int .i64 0, .int .i64 0, .str []] 1 [(0, (.t 30))]⟩,
      ⟨(some 32), none, .app 3 32 (.t 29) (.t 31)⟩,
      ⟨(some 6), none, .mv (.t 32)⟩])
     (.reg [⟨(some 33), none, .mv (.t 9)⟩,
      ⟨(some 7), none, .mv (.t 33)⟩]))))))))))
theorem k_spec_ScanFrames : FnOk Try.prog 204 34 rc_spec_ScanFrames [.t 4, .t 5] := ⟨Try.f204, _, [], Try.func204, rfl, rfl, by kernel_rfl, by kernel_rfl, follows⟩
theorem ok_spec_ScanFrames : okF Try.prog 204 = true := by kernel_rfl
def rc_spec_SegFrames : RC :=
  (.seq (.reg [⟨(some 2), none, .bx (.t 0)⟩,
   ⟨(some 4), none, .mv (.c (.nils))⟩,
   ⟨(some 5), none, .mv (.c (.int .i64 0))⟩])
  (.seq (.reg [⟨(some 9), none, .ld true 2 (.t 2)⟩,
   ⟨(some 10), none, .mv (.t 1)⟩,
   ⟨(some 11), none, .cl (.c (.fn 174 [])) [(.t 9), (.t 10)]⟩,
   ⟨(some 6), none, .mv (.t 11)⟩])
  (.seq (.seq (.reg [⟨(some 12), none, .mv (.t 6)⟩,
   ⟨(some 13), none, .bin .eql (.t 12) (.c (.int .i64 0))⟩])
  (.cond (.t 13)
    (.seq (.reg [⟨(some 14), none, .mv (.c (.nils))⟩,
     ⟨(some 4), none, .mv (.t 14)⟩,
     ⟨(some 5), none, .mv (.c (.int .i64 0))⟩])
    .ret)
    .skip))
  (.seq (.reg [⟨(some 16), none, .ld true 2 (.t 2)⟩,
   ⟨(some 17), none, .mv (.t 1)⟩,
   ⟨(some 18), none, .cl (.c (.fn 205 [])) [(.t 16), (.t 17)]⟩,
   ⟨(some 19), none, .mv (.t 6)⟩,
   ⟨(some 20), none, .cl (.c (.fn 204 [])) [(.t 18), (.t 19)]⟩,
   ⟨(some 15), none, .mv (.t 20)⟩,
   ⟨(some 21), none, .ext (.t 15) 0⟩,
   ⟨(some 22), none, .ext (.t 15) 1⟩,
   ⟨(some 7), none, .mv (.t 21)⟩,
   ⟨(some 8), none, .mv (.t 22)⟩])
  (.seq (.reg [⟨(some 23), none, .mv (.c (.nils))⟩,
   ⟨(some 24), none, .mv (.t 7)⟩,
   ⟨(some 25), none, .sle 3 (.t 24) (some (.c (.int .i64 1))) none⟩,
   ⟨(some 26), none, .app 3 32 (.t 23) (.t 25)⟩,
   ⟨(some 27), none, .mv (.t 8)⟩,
   ⟨(some 4), none, .mv (.t 26)⟩,
   ⟨(some 5), none, .mv (.t 27)⟩])
  .ret)))))
theorem k_spec_SegFrames : FnOk Try.prog 173 28 rc_spec_SegFrames [.t 4, .t 5] := ⟨Try.f173, _, [], Try.func173, rfl, rfl, by kernel_rfl, by kernel_rfl, follows⟩
theorem ok_spec_SegFrames : okF Try.prog 173 = true := by kernel_rfl
def rc_spec_l06Var : RC :=
  (.seq (.reg [⟨(some 2), none, .mv (.c (.int .i64 0))⟩])
  (.seq (.drw [⟨(some 7), none, .mv (.t 0)⟩,
   ⟨(some 8), none, .nc (.t 7)⟩,
   ⟨(some 9), none, .fa 0 (.t 8)⟩,
   ⟨(some 10), none, .ld false 1 (.t 9)⟩,
   ⟨(some 11), none, .mv (.t 0)⟩,
   ⟨(some 12), none, .nc (.t 11)⟩,
   ⟨(some 13), none, .fa 1 (.t 12)⟩,
   ⟨(some 14), none, .ld false 1 (.t 13)⟩,
   ⟨(some 15), none, .cl (.c (.fn 196 [])) [(.t 10), (.t 14)]⟩,
   ⟨(some 6), none, .mv (.t 15)⟩,
   ⟨(some 16), none, .ext (.t 6) 0⟩,
   ⟨(some 17), none, .ext (.t 6) 1⟩,
   ⟨(some 18), none, .ext (.t 6) 2⟩,
   ⟨(some 3), none, .mv (.t 16)⟩,
   ⟨(some 4), none, .mv (.t 17)⟩,
   ⟨(some 5), none, .mv (.t 18)⟩] [.val [], .val [], .val [], .val [], .val [], .val [], .val [], .val [], .val [], .val [], .val [], .val [], .val [], .val [], .val [], .val []])
  (.seq (.seq (.reg [⟨(some 19), none, .mv (.t 0)⟩,
   ⟨(some 20), none, .nc (.t 19)⟩,
   ⟨(some 21), none, .fa 2 (.t 20)⟩,
   ⟨(some 22), none, .ld false 1 (.t 21)⟩,
   ⟨(some 23), none, .mv (.t 22)⟩,
   ⟨(some 24), (some (23, false)), .mv (.t 5)⟩,
   ⟨(some 25), (some (23, false)), .un .not (.t 24)⟩,
   ⟨(some 26), none, .pick (.t 23) (.c (.bool true)) (.t 25)⟩])
  (.cond (.t 26)
    (.seq (.reg [⟨(some 27), none, .mv (.t 0)⟩,
     ⟨(some 28), none, .nc (.t 27)⟩,
     ⟨(some 29), none, .fa 2 (.t 28)⟩,
     ⟨none, none, .st 1 (.t 29) (.c (.bool true))⟩])
    (.seq (.reg [⟨(some 2), none, .mv (.c (.int .i64 0))⟩])
    .ret))
    .skip))
  (.seq (.reg [⟨(some 30), none, .mv (.t 0)⟩,
   ⟨(some 31), none, .mv (.t 4)⟩,
   ⟨(some 32), none, .nc (.t 30)⟩,
   ⟨(some 33), none, .fa 1 (.t 32)⟩,
   ⟨none, none, .st 1 (.t 33) (.t 31)⟩])
  (.seq (.reg [⟨(some 34), none, .mv (.t 3)⟩,
   ⟨(some 2), none, .mv (.t 34)⟩])
  .ret)))))
theorem k_spec_l06Var : FnOk Try.prog 150 35 rc_spec_l06Var [.t 2] := ⟨Try.f150, _, [], Try.func150, rfl, rfl, by kernel_rfl, by kernel_rfl, follows⟩
theorem ok_spec_l06Var : okF Try.prog 150 = true := by kernel_rfl
def rc_spec_WordOk : RC :=
  (.seq (.reg [⟨(some 2), none, .mv (.c (.bool false))⟩])
  (.seq (.seq (.reg [⟨(some 3), none, .mv (.c (.int .i64 0))⟩])
  (.blk 0 (.loop (.seq (.seq (.reg [⟨(some 4), none, .mv (.t 3)⟩,
     ⟨(some 5), none, .mv (.t 0)⟩,
     ⟨(some 6), none, .lens (.t 5)⟩,
     ⟨(some 7), none, .bin .lss (.t 4) (.t 6)⟩])
    (.cond (.t 7)
      .skip
      (.exit 0)))
    (.seq (.blk 1 (.seq (.reg [⟨(some 10), none, .mv (.t 0)⟩,
      ⟨(some 11), none, .mv (.t 3)⟩,
      ⟨(some 12), none, .idx (.t 10) (.t 11)⟩,
      ⟨(some 13), none, .bin .lss (.t 12) (.c (.int .u8 97))⟩,
      ⟨(some 14), none, .mv (.t 13)⟩,
      ⟨(some 15), (some (14, false)), .mv (.t 0)⟩,
      ⟨(some 16), (some (14, false)), .mv (.t 3)⟩,
      ⟨(some 17), (some (14, false)), .idx (.t 15) (.t 16)⟩,
      ⟨(some 18), (some (14, false)), .bin .gtr (.t 17) (.c (.int .u8 122))⟩,
      ⟨(some 19), none, .pick (.t 14) (.c (.bool true)) (.t 18)⟩])
     (.cond (.t 19)
       (.seq (.reg [⟨(some 2), none, .mv (.c (.bool false))⟩])
       .ret)
       .skip)))
    (.reg [⟨(some 8), none, .mv (.t 3)⟩,
     ⟨(some 9), none, .bin .add (.t 8) (.c (.int .i64 1))⟩,
     ⟨(some 3), none, .mv (.t 9)⟩]))))))
  (.seq (.reg [⟨(some 20), none, .mv (.t 0)⟩,
   ⟨(some 21), none, .lens (.t 20)⟩,
   ⟨(some 22), none, .cl (.c (.fn 113 [])) [(.t 21), (.c (.int .i64 1)), (.c (.int .i64 8))]⟩,
   ⟨(some 2), none, .mv (.t 22)⟩])
  .ret)))
theorem k_spec_WordOk : FnOk Try.prog 189 23 rc_spec_WordOk [.t 2] := ⟨Try.f189, _, [], Try.func189, rfl, rfl, by kernel_rfl, by kernel_rfl, follows⟩
theorem ok_spec_WordOk : okF Try.prog 189 = true := by kernel_rfl
def rc_spec_RecOk : RC :=
  (.seq (.reg [⟨(some 1), none, .bx (.t 0)⟩,
   ⟨(some 2), none, .mv (.c (.bool false))⟩])
  (.seq (.seq (.reg [⟨(some 6), none, .fa 0 (.t 1)⟩,
   ⟨(some 7), none, .ld false 1 (.t 6)⟩,
   ⟨(some 8), none, .cl (.c (.fn 113 [])) [(.t 7), (.c (.int .i64 1)), (.c (.int .i64 5))]⟩,
   ⟨(some 9), none, .un .not (.t 8)⟩,
   ⟨(some 10), none, .mv (.t 9)⟩,
   ⟨(some 11), (some (10, false)), .fa 1 (.t 1)⟩,
   ⟨(some 12), (some (10, false)), .ld false 1 (.t 11)⟩,
   ⟨(some 13), (some (10, false)), .cl (.c (.fn 113 [])) [(.t 12), (.c (.int .i64 1)), (.c (.int .i64 9999))]⟩,
   ⟨(some 14), (some (10, false)), .un .not (.t 13)⟩,
   ⟨(some 15), none, .pick (.t 10) (.c (.bool true)) (.t 14)⟩])
  (.cond (.t 15)
    (.seq (.reg [⟨(some 2), none, .mv (.c (.bool false))⟩])
    .ret)
    .skip))
  (.seq (.reg [⟨(some 16), none, .fa 0 (.t 1)⟩,
   ⟨(some 17), none, .ld false 1 (.t 16)⟩,
   ⟨(some 18), none, .bin .eql (.t 17) (.c (.int .i64 1))⟩,
   ⟨(some 3), none, .mv (.t 18)⟩])
  (.seq (.reg [⟨(some 19), none, .fa 0 (.t 1)⟩,
   ⟨(some 20), none, .ld false 1 (.t 19)⟩,
   ⟨(some 21), none, .bin .eql (.t 20) (.c (.int .i64 3))⟩,
   ⟨(some 22), none, .mv (.t 21)⟩,
   ⟨(some 23), (some (22, false)), .fa 0 (.t 1)⟩,
   ⟨(some 24), (some (22, false)), .ld false 1 (.t 23)⟩,
   ⟨(some 25), (some (22, false)), .bin .eql (.t 24) (.c (.int .i64 4))⟩,
   ⟨(some 26), none, .pick (.t 22) (.c (.bool true)) (.t 25)⟩,
   ⟨(some 27), none, .mv (.t 26)⟩,
   ⟨(some 28), (some (27, false)), .fa 0 (.t 1)⟩,
   ⟨(some 29), (some (27, false)), .ld false 1 (.t 28)⟩,
   ⟨(some 30), (some (27, false)), .bin .eql (.t 29) (.c (.int .i64 5))⟩,
   ⟨(some 31), none, .pick (.t 27) (.c (.bool true)) (.t 30)⟩,
   ⟨(some 4), none, .mv (.t 31)⟩])
  (.seq (.reg [⟨(some 32), none, .fa 0 (.t 1)⟩,
   ⟨(some 33), none, .ld false 1 (.t 32)⟩,
   ⟨(some 34), none, .bin .eql (.t 33) (.c (.int .i64 3))⟩,
   ⟨(some 35), none, .mv (.t 34)⟩,
   ⟨(some 36), (some (35, false)), .fa 0 (.t 1)⟩,
   ⟨(some 37), (some (35, false)), .ld false 1 (.t 36)⟩,
   ⟨(some 38), (some (35, false)), .bin .eql (.t 37) (.c (.int .i64 4))⟩,
   ⟨(some 39), none, .pick (.t 35) (.c (.bool true)) (.t 38)⟩,
   ⟨(some 5), none, .mv (.t 39)⟩])
  (.seq (.seq (.reg [⟨(some 40), none, .mv (.t 3)⟩,
   ⟨(some 41), none, .mv (.t 40)⟩,
   ⟨(some 42), (some (41, true)), .fa 5 (.t 1)⟩,
   ⟨(some 43), (some (41, true)), .ld false 1 (.t 42)⟩,
   ⟨(some 44), (some (41, true)), .cl (.c (.fn 189 [])) [(.t 43)]⟩,
   ⟨(some 45), (some (41, true)), .un .not (.t 44)⟩,
   ⟨(some 46), (some (41, true)), .mv (.t 45)⟩,
   ⟨(some 47), (some (46, false)), .fa 6 (.t 1)⟩,
   ⟨(some 48), (some (46, false)), .ld false 1 (.t 47)⟩,
   ⟨(some 49), (some (46, false)), .cl (.c (.fn 189 [])) [(.t 48)]⟩,
   ⟨(some 50), (some (46, false)), .un .not (.t 49)⟩,
   ⟨(some 51), (some (41, true)), .pick (.t 46) (.c (.bool true)) (.t 50)⟩,
   ⟨(some 52), (some (41, true)), .mv (.t 51)⟩,
   ⟨(some 53), (some (52, false)), .fa 3 (.t 1)⟩,
   ⟨(some 54), (some (52, false)), .ld false 1 (.t 53)⟩,
   ⟨(some 55), (some (52, false)), .cl (.c (.fn 113 [])) [(.t 54), (.c (.int .i64 1)), (.c (.int .i64 10000))]⟩,
   ⟨(some 56), (some (52, false)), .un .not (.t 55)⟩,
   ⟨(some 57), (some (41, true)), .pick (.t 52) (.c (.bool true)) (.t 56)⟩,
   ⟨(some 58), none, .pick (.t 41) (.t 57) (.c (.bool false))⟩,
   ⟨(some 59), none, .mv (.t 58)⟩,
   ⟨(some 60), (some (59, false)), .mv (.t 3)⟩,
   ⟨(some 61), (some (59, false)), .un .not (.t 60)⟩,
   ⟨(some 62), (some (59, false)), .mv (.t 61)⟩,
   ⟨(some 63), (some (62, true)), .fa 5 (.t 1)⟩,
   ⟨(some 64), (some (62, true)), .ld false 1 (.t 63)⟩,
   ⟨(some 65), (some (62, true)), .bin .neq (.t 64) (.c (.str []))⟩,
   ⟨(some 66), (some (62, true)), .mv (.t 65)⟩,
   ⟨(some 67), (some (66, false)), .fa 6 (.t 1)⟩,
   ⟨(some 68), (some (66, false)), .ld false 1 (.t 67)⟩,
   ⟨(some 69), (some (66, false)), .bin .neq (.t 68) (.c (.str []))⟩,
   ⟨(some 70), (some (62, true)), .pick (.t 66) (.c (.bool true)) (.t 69)⟩,
   ⟨(some 71), (some (62, true)), .mv (.t 70)⟩,
   ⟨(some 72), (some (71, false)), .fa 3 (.t 1)⟩,
   ⟨(some 73), (some (71, false)), .ld false 1 (.t 72)⟩,
   ⟨(some 74), (some (71, false)), .bin .neq (.t 73) (.c (.int .i64 0))⟩,
   ⟨(some 75), (some (62, true)), .pick (.t 71) (.c (.bool true)) (.t 74)⟩,
   ⟨(some 76), (some (59, false)), .pick (.t 62) (.t 75) (.c (.bool false))⟩,
   ⟨(some 77), none, .pick (.t 59) (.c (.bool true)) (.t 76)⟩])
  (.cond (.t 77)
    (.seq (.reg [⟨(some 2), none, .mv (.c (.bool false))⟩])
    .ret)
    .skip))
  (.seq (.seq (.reg [⟨(some 78), none, .mv (.t 4)⟩,
   ⟨(some 79), none, .mv (.t 78)⟩,
   ⟨(some 80), (some (79, true)), .fa 2 (.t 1)⟩,
   ⟨(some 81), (some (79, true)), .ld false 1 (.t 80)⟩,
   ⟨(some 82), (some (79, true)), .cl (.c (.fn 113 [])) [(.t 81), (.c (.int .i64 1)), (.c (.int .i64 9999))]⟩,
   ⟨(some 83), (some (79, true)), .un .not (.t 82)⟩,
   ⟨(some 84), none, .pick (.t 79) (.t 83) (.c (.bool false))⟩,
   ⟨(some 85), none, .mv (.t 84)⟩,
   ⟨(some 86), (some (85, false)), .mv (.t 4)⟩,
   ⟨(some 87), (some (85, false)), .un .not (.t 86)⟩,
   ⟨(some 88), (some (85, false)), .mv (.t 87)⟩,
   ⟨(some 89), (some (88, true)), .fa 2 (.t 1)⟩,
   ⟨(some 90), (some (88, true)), .ld false 1 (.t 89)⟩,
   ⟨(some 91), (some (88, true)), .bin .neq (.t 90) (.c (.int .i64 0))⟩,
   ⟨(some 92), (some (85, false)), .pick (.t 88) (.t 91) (.c (.bool false))⟩,
   ⟨(some 93), none, .pick (.t 85) (.c (.bool true)) (.t 92)⟩])
  (.cond (.t 93)
    (.seq (.reg [⟨(some 2), none, .mv (.c (.bool false))⟩])
    .ret)
    .skip))
  (.seq (.seq (.reg [⟨(some 94), none, .mv (.t 5)⟩,
   ⟨(some 95), none, .mv (.t 94)⟩,
   ⟨(some 96), (some (95, true)), .fa 4 (.t 1)⟩,
   ⟨(some 97), (some (95, true)), .ld false 1 (.t 96)⟩,
   ⟨(some 98), (some (95, true)), .cl (.c (.fn 113 [])) [(.t 97), (.c (.int .i64 0)), (.c (.int .i64 7))]⟩,
   ⟨(some 99), (some (95, true)), .un .not (.t 98)⟩,
   ⟨(some 100), none, .pick (.t 95) (.t 99) (.c (.bool false))⟩,
   ⟨(some 101), none, .mv (.t 100)⟩,
   ⟨(some 102), (some (101, false)), .mv (.t 5)⟩,
   ⟨(some 103), (some (101, false)), .un .not (.t 102)⟩,
   ⟨(some 104), (some (101, false)), .mv (.t 103)⟩,
   ⟨(some 105), (some (104, true)), .fa 4 (.t 1)⟩,
   ⟨(some 106), (some (104, true)), .ld false 1 (.t 105)⟩,
   ⟨(some 107), (some (104, true)), .bin .neq (.t 106) (.c (.int .i64 0))⟩,
   ⟨(some 108), (some (101, false)), .pick (.t 104) (.t 107) (.c (.bool false))⟩,
   ⟨(some 109), none, .pick (.t 101) (.c (.bool true)) (.t 108)⟩])
  (.cond (.t 109)
    (.seq (.reg [⟨(some 2), none, .mv (.c (.bool false))⟩])
    .ret)
    .skip))
  (.seq (.seq (.reg [⟨(some 110), none, .fa 0 (.t 1)⟩,
   ⟨(some 111), none, .ld false 1 (.t 110)⟩,
   ⟨(some 112), none, .bin .eql (.t 111) (.c (.int .i64 3))⟩])
  (.cond (.t 112)
    (.seq (.reg [⟨(some 113), none, .fa 7 (.t 1)⟩,
     ⟨(some 114), none, .ld false 1 (.t 113)⟩,
     ⟨(some 115), none, .lens (.t 114)⟩,
     ⟨(some 116), none, .bin .leq (.t 115) (.c (.int .i64 100))⟩,
     ⟨(some 2), none, .mv (.t 116)⟩])
    .ret)
    .skip))
  (.seq (.reg [⟨(some 117), none, .fa 7 (.t 1)⟩,
   ⟨(some 118), none, .ld false 1 (.t 117)⟩,
   ⟨(some 119), none, .bin .eql (.t 118) (.c (.str []))⟩,
   ⟨(some 2), none, .mv (.t 119)⟩])
  .ret))))))))))
theorem k_spec_RecOk : FnOk Try.prog 124 120 rc_spec_RecOk [.t 2] := ⟨Try.f124, _, [], Try.func124, rfl, rfl, by kernel_rfl, by kernel_rfl, follows⟩
theorem ok_spec_RecOk : okF Try.prog 124 = true := by kernel_rfl
def rc_spec_l06Short : RC :=
  (.seq (.reg [⟨(some 2), none, .mv (.c (.str []))⟩])
  (.seq (.reg [⟨(some 3), none, .mv (.t 0)⟩,
   ⟨(some 4), none, .lens (.t 3)⟩,
   ⟨(some 5), none, .cl (.c (.fn 158 [])) [(.t 4)]⟩,
   ⟨(some 6), none, .mv (.t 0)⟩,
   ⟨(some 7), none, .bin .add (.t 5) (.t 6)⟩,
   ⟨(some 2), none, .mv (.t 7)⟩])
  .ret))
theorem k_spec_l06Short : FnOk Try.prog 160 8 rc_spec_l06Short [.t 2] := ⟨Try.f160, _, [], Try.func160, rfl, rfl, by kernel_rfl, by kernel_rfl, follows⟩
theorem ok_spec_l06Short : okF Try.prog 160 = true := by kernel_rfl
def rc_spec_RecText : RC :=
  (.seq (.reg [⟨(some 1), none, .bx (.t 0)⟩,
   ⟨(some 2), none, .mv (.c (.str []))⟩,
   ⟨(some 3), none, .mv (.c (.bool false))⟩])
  (.seq (.seq (.reg [⟨(some 4), none, .ld true 8 (.t 1)⟩,
   ⟨(some 5), none, .cl (.c (.fn 124 [])) [(.t 4)]⟩,
   ⟨(some 6), none, .un .not (.t 5)⟩])
  (.cond (.t 6)
    (.seq (.reg [⟨(some 2), none, .mv (.c (.str []))⟩,
     ⟨(some 3), none, .mv (.c (.bool false))⟩])
    .ret)
    .skip))
  (.seq (.drw [⟨(some 7), none, .fa 0 (.t 1)⟩,
   ⟨(some 8), none, .ld false 1 (.t 7)⟩,
   ⟨(some 9), none, .cvi .u8 (.t 8)⟩,
   ⟨(some 10), none, .bs 1 [.int .u8 0] 1 [(0, (.t 9))]⟩,
   ⟨(some 11), none, .cvb (.t 10)⟩,
   ⟨(some 12), none, .fa 1 (.t 1)⟩,
   ⟨(some 13), none, .ld false 1 (.t 12)⟩,
   ⟨(some 14), none, .cl (.c (.fn 158 [])) [(.t 13)]⟩,
   ⟨(some 15), none, .bin .add (.t 11) (.t 14)⟩,
   ⟨(some 16), none, .fa 2 (.t 1)⟩,
   ⟨(some 17), none, .ld false 1 (.t 16)⟩,
   ⟨(some 18), none, .cl (.c (.fn 158 [])) [(.t 17)]⟩,
   ⟨(some 19), none, .bin .add (.t 15) (.t 18)⟩,
   ⟨(some 20), none, .fa 3 (.t 1)⟩,
   ⟨(some 21), none, .ld false 1 (.t 20)⟩,
   ⟨(some 22), none, .cl (.c (.fn 158 [])) [(.t 21)]⟩,
   ⟨(some 23), none, .bin .add (.t 19) (.t 22)⟩,
   ⟨(some 24), none, .fa 4 (.t 1)⟩,
   ⟨(some 25), none, .ld false 1 (.t 24)⟩,
   ⟨(some 26), none, .cl (.c (.fn 158 [])) [(.t 25)]⟩,
   ⟨(some 27), none, .bin .add (.t 23) (.t 26)⟩,
   ⟨(some 28), none, .fa 5 (.t 1)⟩,
   ⟨(some 29), none, .ld false 1 (.t 28)⟩,
   ⟨(some 30), none, .cl (.c (.fn 160 [])) [(.t 29)]⟩,
   ⟨(some 31), none, .bin .add (.t 27) (.t 30)⟩,
   ⟨(some 32), none, .fa 6 (.t 1)⟩,
   ⟨(some 33), none, .ld false 1 (.t 32)⟩,
   ⟨(some 34), none, .cl (.c (.fn 160 [])) [(.t 33)]⟩,
   ⟨(some 35), none, .bin .add (.t 31) (.t 34)⟩,
   ⟨(some 36), none, .fa 7 (.t 1)⟩,
   ⟨(some 37), none, .ld false 1 (.t 36)⟩,
   ⟨(some 38), none, .cl (.c (.fn 160 [])) [(.t 37)]⟩,
   ⟨(some 39), none, .bin .add (.t 35) (.t 38)⟩,
   ⟨(some 2), none, .mv (.t 39)⟩,
   ⟨(some 3), none, .mv (.c (.bool true))⟩] [.val [], .val [], .val [], .chn [], .val [], .val [3], .val [3], .val [3], .val [], .val [3], .val [3], .val [3], .val [], .val [3], .val [3], .val [3], .val [], .val [3], .val [3], .val [3], .val [], .val [3], .val [3], .val [3], .val [], .val [3], .val [3], .val [3], .val [], .val [3], .val [3], .val [3], .val [], .val [], .val []])
  .ret)))
theorem k_spec_RecText : FnOk Try.prog 210 40 rc_spec_RecText [.t 2, .t 3] := ⟨Try.f210, _, [], Try.func210, rfl, rfl, by kernel_rfl, by kernel_rfl, follows⟩
theorem ok_spec_RecText : okF Try.prog 210 = true := by kernel_rfl
def rc_spec_l06ReadShort : RC :=
  (.seq (.reg [⟨(some 2), none, .mv (.c (.str []))⟩])
  (.seq (.drw [⟨(some 7), none, .mv (.t 0)⟩,
   ⟨(some 8), none, .nc (.t 7)⟩,
   ⟨(some 9), none, .fa 0 (.t 8)⟩,
   ⟨(some 10), none, .ld false 1 (.t 9)⟩,
   ⟨(some 11), none, .mv (.t 0)⟩,
   ⟨(some 12), none, .nc (.t 11)⟩,
   ⟨(some 13), none, .fa 1 (.t 12)⟩,
   ⟨(some 14), none, .ld false 1 (.t 13)⟩,
   ⟨(some 15), none, .cl (.c (.fn 148 [])) [(.t 10), (.t 14)]⟩,
   ⟨(some 6), none, .mv (.t 15)⟩,
   ⟨(some 16), none, .ext (.t 6) 0⟩,
   ⟨(some 17), none, .ext (.t 6) 1⟩,
   ⟨(some 18), none, .ext (.t 6) 2⟩,
   ⟨(some 3), none, .mv (.t 16)⟩,
   ⟨(some 4), none, .mv (.t 17)⟩,
   ⟨(some 5), none, .mv (.t 18)⟩] [.val [], .val [], .val [], .val [], .val [], .val [], .val [], .val [], .val [], .val [], .val [], .val [], .val [], .val [], .val [], .val []])
  (.seq (.seq (.reg [⟨(some 19), none, .mv (.t 0)⟩,
   ⟨(some 20), none, .nc (.t 19)⟩,
   ⟨(some 21), none, .fa 2 (.t 20)⟩,
   ⟨(some 22), none, .ld false 1 (.t 21)⟩,
   ⟨(some 23), none, .mv (.t 22)⟩,
   ⟨(some 24), (some (23, false)), .mv (.t 5)⟩,
   ⟨(some 25), (some (23, false)), .un .not (.t 24)⟩,
   ⟨(some 26), none, .pick (.t 23) (.c (.bool true)) (.t 25)⟩])
  (.cond (.t 26)
    (.seq (.reg [⟨(some 27), none, .mv (.t 0)⟩,
     ⟨(some 28), none, .nc (.t 27)⟩,
     ⟨(some 29), none, .fa 2 (.t 28)⟩,
     ⟨none, none, .st 1 (.t 29) (.c (.bool true))⟩])
    (.seq (.reg [⟨(some 2), none, .mv (.c (.str []))⟩])
    .ret))
    .skip))
  (.seq (.reg [⟨(some 30), none, .mv (.t 0)⟩,
   ⟨(some 31), none, .mv (.t 4)⟩,
   ⟨(some 32), none, .nc (.t 30)⟩,
   ⟨(some 33), none, .fa 1 (.t 32)⟩,
   ⟨none, none, .st 1 (.t 33) (.t 31)⟩])
  (.seq (.reg [⟨(some 34), none, .mv (.t 3)⟩,
   ⟨(some 2), none, .mv (.t 34)⟩])
  .ret)))))
theorem k_spec_l06ReadShort : FnOk Try.prog 218 35 rc_spec_l06ReadShort [.t 2] := ⟨Try.f218, _, [], Try.func218, rfl, rfl, by kernel_rfl, by kernel_rfl, follows⟩
theorem ok_spec_l06ReadShort : okF Try.prog 218 = true := by kernel_rfl
def rc_spec_ReadRec : RC :=
  (.seq (.reg [⟨(some 2), none, .al [.int .i64 0, .int .i64 0, .int .i64 0, .int .i64 0, .int .i64 0, .str [], .str [], .str []]⟩,
   ⟨(some 3), none, .mv (.c (.bool false))⟩])
  (.seq (.seq (.reg [⟨(some 8), none, .mv (.t 0)⟩,
   ⟨(some 9), none, .bin .eql (.t 8) (.c (.str []))⟩])
  (.cond (.t 9)
    (.seq (.reg [⟨(some 10), none, .bld [.int .i64 0, .int .i64 0, .int .i64 0, .int .i64 0, .int .i64 0, .str [], .str [], .str []] [(0, 1), (1, 1), (2, 1), (3, 1), (4, 1), (5, 1), (6, 1), (7, 1)] []⟩,
     ⟨none, none, .st 8 (.t 2) (.t 10)⟩,
     ⟨(some 3), none, .mv (.c (.bool false))⟩])
    .ret)
    .skip))
  (.seq (.reg [⟨(some 11), none, .mv (.t 0)⟩,
   ⟨(some 12), none, .bld [.str [], .int .i64 0, .bool false] [(0, 1), (1, 1), (2, 1)] [(0, (.t 11)), (1, (.c (.int .i64 1)))]⟩,
   ⟨(some 13), none, .bx (.t 12)⟩,
   ⟨(some 4), none, .mv (.t 13)⟩])
  (.seq (.drw [⟨(some 14), none, .mv (.t 0)⟩,
   ⟨(some 15), none, .idx (.t 14) (.c (.int .i64 0))⟩,
   ⟨(some 16), none, .cvi .i64 (.t 15)⟩,
   ⟨(some 17), none, .mv (.t 4)⟩,
   ⟨(some 18), none, .cl (.c (.fn 150 [])) [(.t 17)]⟩,
   ⟨(some 19), none, .bld [.int .i64 0, .int .i64 0, .int .i64 0, .int .i64 0, .int .i64 0, .str [], .str [], .str []] [(0, 1), (1, 1), (2, 1), (3, 1), (4, 1), (5, 1), (6, 1), (7, 1)] [(0, (.t 16)), (1, (.t 18))]⟩,
   ⟨(some 5), none, .al [.int .i64 0, .int .i64 0, .int .i64 0, .int .i64 0, .int .i64 0, .str [], .str [], .str []]⟩,
   ⟨none, none, .st 8 (.t 5) (.t 19)⟩] [.val [], .val [], .val [], .val [], .chn [0, 1, 2], .val [], .flt 0, .chn []])
  (.seq (.reg [⟨(some 20), none, .mv (.t 4)⟩,
   ⟨(some 21), none, .cl (.c (.fn 150 [])) [(.t 20)]⟩,
   ⟨(some 22), none, .fa 2 (.t 5)⟩,
   ⟨none, none, .st 1 (.t 22) (.t 21)⟩])
  (.seq (.reg [⟨(some 23), none, .mv (.t 4)⟩,
   ⟨(some 24), none, .cl (.c (.fn 150 [])) [(.t 23)]⟩,
   ⟨(some 25), none, .fa 3 (.t 5)⟩,
   ⟨none, none, .st 1 (.t 25) (.t 24)⟩])
  (.seq (.reg [⟨(some 26), none, .mv (.t 4)⟩,
   ⟨(some 27), none, .cl (.c (.fn 150 [])) [(.t 26)]⟩,
   ⟨(some 28), none, .fa 4 (.t 5)⟩,
   ⟨none, none, .st 1 (.t 28) (.t 27)⟩])
  (.seq (.reg [⟨(some 29), none, .mv (.t 4)⟩,
   ⟨(some 30), none, .cl (.c (.fn 218 [])) [(.t 29)]⟩,
   ⟨(some 31), none, .fa 5 (.t 5)⟩,
   ⟨none, none, .st 1 (.t 31) (.t 30)⟩])
  (.seq (.reg [⟨(some 32), none, .mv (.t 4)⟩,
   ⟨(some 33), none, .cl (.c (.fn 218 [])) [(.t 32)]⟩,
   ⟨(some 34), none, .fa 6 (.t 5)⟩,
   ⟨none, none, .st 1 (.t 34) (.t 33)⟩])
  (.seq (.reg [⟨(some 35), none, .mv (.t 4)⟩,
   ⟨(some 36), none, .cl (.c (.fn 218 [])) [(.t 35)]⟩,
   ⟨(some 37), none, .fa 7 (.t 5)⟩,
   ⟨none, none, .st 1 (.t 37) (.t 36)⟩])
  (.seq (.reg [⟨(some 39), none, .ld true 8 (.t 5)⟩,
   ⟨(some 40), none, .cl (.c (.fn 210 [])) [(.t 39)]⟩,
   ⟨(some 38), none, .mv (.t 40)⟩,
   ⟨(some 41), none, .ext (.t 38) 0⟩,
   ⟨(some 42), none, .ext (.t 38) 1⟩,
   ⟨(some 6), none, .mv (.t 41)⟩,
   ⟨(some 7), none, .mv (.t 42)⟩])
  (.seq (.seq (.reg [⟨(some 43), none, .mv (.t 4)⟩,
   ⟨(some 44), none, .nc (.t 43)⟩,
   ⟨(some 45), none, .fa 2 (.t 44)⟩,
   ⟨(some 46), none, .ld false 1 (.t 45)⟩,
   ⟨(some 47), none, .mv (.t 46)⟩,
   ⟨(some 48), (some (47, false)), .mv (.t 7)⟩,
   ⟨(some 49), (some (47, false)), .un .not (.t 48)⟩,
   ⟨(some 50), none, .pick (.t 47) (.c (.bool true)) (.t 49)⟩,
   ⟨(some 51), none, .mv (.t 50)⟩,
   ⟨(some 52), (some (51, false)), .mv (.t 6)⟩,
   ⟨(some 53), (some (51, false)), .mv (.t 0)⟩,
   ⟨(some 54), (some (51, false)), .bin .neq (.t 52) (.t 53)⟩,
   ⟨(some 55), none, .pick (.t 51) (.c (.bool true)) (.t 54)⟩])
  (.cond (.t 55)
    (.seq (.reg [⟨(some 56), none, .bld [.int .i64 0, .int .i64 0, .int .i64 0, .int .i64 0, .int .i64 0, .str [], .str [], .str []] [(0, 1), (1, 1), (2, 1), (3, 1), (4, 1), (5, 1), (6, 1), (7, 1)] []⟩,
     ⟨none, none, .st 8 (.t 2) (.t 56)⟩,
     ⟨(some 3), none, .mv (.c (.bool false))⟩])
    .ret)
    .skip))
  (.seq (.reg [⟨(some 57), none, .ld true 8 (.t 5)⟩,
   ⟨none, none, .st 8 (.t 2) (.t 57)⟩,
   ⟨(some 3), none, .mv (.c (.bool true))⟩])
  .ret)))))))))))))
theorem k_spec_ReadRec : FnOk Try.prog 207 58 rc_spec_ReadRec [.cell 2 true 8, .t 3] := ⟨Try.f207, _, [(4, [4, 1000006])], Try.func207, rfl, rfl, by kernel_rfl, by kernel_rfl, follows⟩
theorem ok_spec_ReadRec : okF Try.prog 207 = true := by kernel_rfl
def rc_spec_FrameItem : RC :=
  (.seq (.reg [⟨(some 1), none, .bx (.t 0)⟩,
   ⟨(some 2), none, .al [.int .i64 0, .int .i64 0, .int .i64 0, .int .i64 0, .int .i64 0, .int .i64 0, .str [], .str [], .str []]⟩,
   ⟨(some 3), none, .mv (.c (.bool false))⟩])
  (.seq (.reg [⟨(some 7), none, .fa 2 (.t 1)⟩,
   ⟨(some 8), none, .ld false 1 (.t 7)⟩,
   ⟨(some 9), none, .cl (.c (.fn 207 [])) [(.t 8)]⟩,
   ⟨(some 6), none, .mv (.t 9)⟩,
   ⟨(some 10), none, .ext (.t 6) 0⟩,
   ⟨(some 11), none, .ext (.t 6) 1⟩,
   ⟨(some 4), none, .al [.int .i64 0, .int .i64 0, .int .i64 0, .int .i64 0, .int .i64 0, .str [], .str [], .str []]⟩,
   ⟨none, none, .st 8 (.t 4) (.t 10)⟩,
   ⟨(some 5), none, .mv (.t 11)⟩])
  (.seq (.seq (.reg [⟨(some 12), none, .ld true 3 (.t 1)⟩,
   ⟨(some 13), none, .cl (.c (.fn 208 [])) [(.t 12)]⟩,
   ⟨(some 14), none, .un .not (.t 13)⟩,
   ⟨(some 15), none, .mv (.t 14)⟩,
   ⟨(some 16), (some (15, false)), .mv (.t 5)⟩,
   ⟨(some 17), (some (15, false)), .un .not (.t 16)⟩,
   ⟨(some 18), none, .pick (.t 15) (.c (.bool true)) (.t 17)⟩])
  (.cond (.t 18)
    (.seq (.reg [⟨(some 19), none, .bld [.int .i64 0, .int .i64 0, .int .i64 0, .int .i64 0, .int .i64 0, .int .i64 0, .str [], .str [], .str []] [(0, 1), (1, 8)] []⟩,
     ⟨none, none, .st 9 (.t 2) (.t 19)⟩,
     ⟨(some 3), none, .mv (.c (.bool false))⟩])
    .ret)
    .skip))
  (.seq (.reg [⟨(some 20), none, .fa 1 (.t 1)⟩,
   ⟨(some 21), none, .ld false 1 (.t 20)⟩,
   ⟨(some 22), none, .ld true 8 (.t 4)⟩,
   ⟨(some 23), none, .bld [.int .i64 0, .int .i64 0, .int .i64 0, .int .i64 0, .int .i64 0, .int .i64 0, .str [], .str [], .str []] [(0, 1), (1, 8)] [(0, (.t 21)), (1, (.t 22))]⟩,
   ⟨none, none, .st 9 (.t 2) (.t 23)⟩,
   ⟨(some 3), none, .mv (.c (.bool true))⟩])
  .ret))))
theorem k_spec_FrameItem : FnOk Try.prog 175 24 rc_spec_FrameItem [.cell 2 true 9, .t 3] := ⟨Try.f175, _, [], Try.func175, rfl, rfl, by kernel_rfl, by kernel_rfl, follows⟩
theorem ok_spec_FrameItem : okF Try.prog 175 = true := by kernel_rfl
def rc_spec_l09Seg : RC :=
  (.seq (.reg [⟨(some 2), none, .bx (.t 0)⟩,
   ⟨(some 4), none, .al [.int .i64 0, .int .i64 0, .int .i64 0, .nils]⟩])
  (.seq (.reg [⟨(some 12), none, .ld true 2 (.t 2)⟩,
   ⟨(some 13), none, .mv (.t 1)⟩,
   ⟨(some 14), none, .cl (.c (.fn 173 [])) [(.t 12), (.t 13)]⟩,
   ⟨(some 11), none, .mv (.t 14)⟩,
   ⟨(some 15), none, .ext (.t 11) 0⟩,
   ⟨(some 16), none, .ext (.t 11) 1⟩,
   ⟨(some 5), none, .mv (.t 15)⟩,
   ⟨(some 6), none, .mv (.t 16)⟩])
  (.seq (.reg [⟨(some 17), none, .mv (.t 1)⟩,
   ⟨(some 18), none, .ld true 2 (.t 2)⟩,
   ⟨(some 19), none, .mv (.t 1)⟩,
   ⟨(some 20), none, .cl (.c (.fn 174 [])) [(.t 18), (.t 19)]⟩,
   ⟨(some 21), none, .mv (.t 6)⟩,
   ⟨(some 22), none, .bld [.int .i64 0, .int .i64 0, .int .i64 0, .nils] [(0, 1), (1, 1), (2, 1), (3, 1)] [(0, (.t 17)), (1, (.t 20)), (2, (.t 21))]⟩,
   ⟨(some 7), none, .al [.int .i64 0, .int .i64 0, .int .i64 0, .nils]⟩,
   ⟨none, none, .st 4 (.t 7) (.t 22)⟩])
  (.seq (.seq (.reg [⟨(some 8), none, .mv (.c (.int .i64 0))⟩])
  (.blk 0 (.loop (.seq (.seq (.reg [⟨(some 23), none, .mv (.t 8)⟩,
     ⟨(some 24), none, .mv (.t 5)⟩,
     ⟨(some 25), none, .lenl (.t 24)⟩,
     ⟨(some 26), none, .bin .lss (.t 23) (.t 25)⟩])
    (.cond (.t 26)
      .skip
      (.exit 0)))
    (.seq (.blk 1 (.seq (.reg [⟨(some 30), none, .mv (.t 5)⟩,
      ⟨(some 31), none, .mv (.t 8)⟩,
      ⟨(some 32), none, .ia 3 (.t 30) (.t 31)⟩,
      ⟨(some 33), none, .ld true 3 (.t 32)⟩,
      ⟨(some 34), none, .cl (.c (.fn 175 [])) [(.t 33)]⟩,
      ⟨(some 29), none, .mv (.t 34)⟩,
      ⟨(some 35), none, .ext (.t 29) 0⟩,
      ⟨(some 36), none, .ext (.t 29) 1⟩,
      ⟨(some 9), none, .al [.int .i64 0, .int .i64 0, .int .i64 0, .int .i64 0, .int .i64 0, .int .i64 0, .str [], .str [], .str []]⟩,
      ⟨none, none, .st 9 (.t 9) (.t 35)⟩,
      ⟨(some 10), none, .mv (.t 36)⟩])
     (.seq (.reg [⟨(some 37), none, .mv (.t 10)⟩])
     (.cond (.t 37)
       (.reg [⟨(some 38), none, .fa 3 (.t 7)⟩,
        ⟨(some 39), none, .ld false 1 (.t 38)⟩,
        ⟨(some 40), none, .ld true 9 (.t 9)⟩,
        ⟨(some 41), none, .bs 9 [.int .i64 0, .int .i64 0, .int .i64 0, .int .i64 0, .int .i64 0, .int .i64 0, .str [], .str [], .str []] 1 [(0, (.t 40))]⟩,
        ⟨(some 42), none, .app 9 96 (.t 39) (.t 41)⟩,
        ⟨(some 43), none, .fa 3 (.t 7)⟩,
        ⟨none, none, .st 1 (.t 43) (.t 42)⟩])
       .skip))))
    (.reg [⟨(some 27), none, .mv (.t 8)⟩,
     ⟨(some 28), none, .bin .add (.t 27) (.c (.int .i64 1))⟩,
     ⟨(some 8), none, .mv (.t 28)⟩]))))))
  (.seq (.reg [⟨(some 44), none, .ld true 4 (.t 7)⟩,
   ⟨none, none, .st 4 (.t 4) (.t 44)⟩])
  .ret)))))
theorem k_spec_l09Seg : FnOk Try.prog 108 45 rc_spec_l09Seg [.cell 4 true 4] := ⟨Try.f108, _, [], Try.func108, rfl, rfl, by kernel_rfl, by kernel_rfl, follows⟩
theorem ok_spec_l09Seg : okF Try.prog 108 = true := by kernel_rfl
def rc_spec_SegOf : RC :=
  (.seq (.reg [⟨(some 2), none, .bx (.t 0)⟩,
   ⟨(some 4), none, .al [.int .i64 0, .int .i64 0, .int .i64 0, .nils]⟩])
  (.seq (.reg [⟨(some 5), none, .ld true 2 (.t 2)⟩,
   ⟨(some 6), none, .mv (.t 1)⟩,
   ⟨(some 7), none, .cl (.c (.fn 108 [])) [(.t 5), (.t 6)]⟩,
   ⟨none, none, .st 4 (.t 4) (.t 7)⟩])
  .ret))
theorem k_spec_SegOf : FnOk Try.prog 51 8 rc_spec_SegOf [.cell 4 true 4] := ⟨Try.f51, _, [], Try.func51, rfl, rfl, by kernel_rfl, by kernel_rfl, follows⟩
theorem ok_spec_SegOf : okF Try.prog 51 = true := by kernel_rfl
def rc_impl_in : RC :=
  (.seq (.reg [⟨(some 6), none, .mv (.c (.bool false))⟩])
  (.seq (.reg [⟨(some 7), none, .mv (.t 0)⟩,
   ⟨(some 8), none, .mv (.t 1)⟩,
   ⟨(some 9), none, .bin .geq (.t 7) (.t 8)⟩,
   ⟨(some 10), none, .mv (.t 9)⟩,
   ⟨(some 11), (some (10, true)), .mv (.t 0)⟩,
   ⟨(some 12), (some (10, true)), .mv (.t 2)⟩,
   ⟨(some 13), (some (10, true)), .bin .leq (.t 11) (.t 12)⟩,
   ⟨(some 14), none, .pick (.t 10) (.t 13) (.c (.bool false))⟩,
   ⟨(some 6), none, .mv (.t 14)⟩])
  .ret))
theorem k_impl_in : FnOk Try.prog 130 15 rc_impl_in [.t 6] := ⟨Try.f130, _, [], Try.func130, rfl, rfl, by kernel_rfl, by kernel_rfl, follows⟩
theorem ok_impl_in : okF Try.prog 130 = true := by kernel_rfl
def rc_impl_SegFirst : RC :=
  (.seq (.reg [⟨(some 2), none, .mv (.c (.int .i64 0))⟩])
  (.seq (.seq (.reg [⟨(some 3), none, .mv (.t 0)⟩,
   ⟨(some 4), none, .cl (.c (.fn 130 [])) [(.t 3), (.c (.int .i64 0)), (.c (.int .i64 10))]⟩,
   ⟨(some 5), none, .un .not (.t 4)⟩])
  (.cond (.t 5)
    (.seq (.reg [⟨(some 2), none, .mv (.c (.int .i64 0))⟩])
    .ret)
    .skip))
  (.seq (.reg [⟨(some 6), none, .mv (.t 0)⟩,
   ⟨(some 7), none, .bin .mul (.t 6) (.c (.int .i64 8))⟩,
   ⟨(some 8), none, .bin .add (.c (.int .i64 8)) (.t 7)⟩,
   ⟨(some 2), none, .mv (.t 8)⟩])
  .ret)))
theorem k_impl_SegFirst : FnOk Try.prog 209 9 rc_impl_SegFirst [.t 2] := ⟨Try.f209, _, [], Try.func209, rfl, rfl, by kernel_rfl, by kernel_rfl, follows⟩
theorem ok_impl_SegFirst : okF Try.prog 209 = true := by kernel_rfl
def rc_impl_ReadSector : RC :=
  (.seq (.reg [⟨(some 2), none, .bx (.t 0)⟩,
   ⟨(some 4), none, .mv (.c (.str []))⟩,
   ⟨(some 5), none, .mv (.c (.bool false))⟩])
  (.seq (.seq (.reg [⟨(some 9), none, .mv (.t 1)⟩,
   ⟨(some 10), none, .fa 0 (.t 2)⟩,
   ⟨(some 11), none, .ld false 1 (.t 10)⟩,
   ⟨(some 12), none, .lenl (.t 11)⟩,
   ⟨(some 13), none, .bin .sub (.t 12) (.c (.int .i64 1))⟩,
   ⟨(some 14), none, .cl (.c (.fn 130 [])) [(.t 9), (.c (.int .i64 0)), (.t 13)]⟩,
   ⟨(some 15), none, .un .not (.t 14)⟩])
  (.cond (.t 15)
    (.seq (.reg [⟨(some 4), none, .mv (.c (.str []))⟩,
     ⟨(some 5), none, .mv (.c (.bool false))⟩])
    .ret)
    .skip))
  (.seq (.reg [⟨(some 16), none, .fa 0 (.t 2)⟩,
   ⟨(some 17), none, .ld false 1 (.t 16)⟩,
   ⟨(some 18), none, .mv (.t 1)⟩,
   ⟨(some 19), none, .ia 1 (.t 17) (.t 18)⟩,
   ⟨(some 20), none, .ld false 1 (.t 19)⟩,
   ⟨(some 6), none, .mv (.t 20)⟩])
  (.seq (.seq (.reg [⟨(some 21), none, .fa 1 (.t 2)⟩,
   ⟨(some 22), none, .ld false 1 (.t 21)⟩,
   ⟨(some 23), none, .lenl (.t 22)⟩,
   ⟨(some 24), none, .mv (.c (.int .i64 0))⟩])
  (.blk 0 (.loop (.seq (.reg [⟨(some 25), none, .bin .lss (.t 24) (.t 23)⟩])
    (.seq (.cond (.t 25)
      .skip
      (.exit 0))
    (.seq (.blk 1 (.seq (.reg [⟨(some 26), none, .ia 2 (.t 22) (.t 24)⟩,
      ⟨(some 27), none, .ld true 2 (.t 26)⟩,
      ⟨(some 8), none, .al [.int .i64 0, .str []]⟩,
      ⟨none, none, .st 2 (.t 8) (.t 27)⟩])
     (.seq (.reg [⟨(some 28), none, .fa 0 (.t 8)⟩,
      ⟨(some 29), none, .ld false 1 (.t 28)⟩,
      ⟨(some 30), none, .mv (.t 1)⟩,
      ⟨(some 31), none, .bin .eql (.t 29) (.t 30)⟩])
     (.cond (.t 31)
       (.reg [⟨(some 32), none, .fa 1 (.t 8)⟩,
        ⟨(some 33), none, .ld false 1 (.t 32)⟩,
        ⟨(some 6), none, .mv (.t 33)⟩])
       .skip))))
    (.reg [⟨(some 34), none, .bin .add (.t 24) (.c (.int .i64 1))⟩,
     ⟨(some 24), none, .mv (.t 34)⟩])))))))
  (.seq (.reg [⟨(some 35), none, .mv (.t 6)⟩,
   ⟨(some 4), none, .mv (.t 35)⟩,
   ⟨(some 5), none, .mv (.c (.bool true))⟩])
  .ret)))))
theorem k_impl_ReadSector : FnOk Try.prog 152 36 rc_impl_ReadSector [.t 4, .t 5] := ⟨Try.f152, _, [], Try.func152, rfl, rfl, by kernel_rfl, by kernel_rfl, follows⟩
theorem ok_impl_ReadSector : okF Try.prog 152 = true := by kernel_rfl
def rc_impl_SectorText : RC :=
  (.seq (.reg [⟨(some 3), none, .bx (.t 0)⟩,
   ⟨(some 6), none, .mv (.c (.str []))⟩,
   ⟨(some 7), none, .mv (.c (.bool false))⟩])
  (.seq (.seq (.reg [⟨(some 12), none, .mv (.t 2)⟩,
   ⟨(some 13), none, .cl (.c (.fn 130 [])) [(.t 12), (.c (.int .i64 0)), (.c (.int .i64 100))]⟩,
   ⟨(some 14), none, .un .not (.t 13)⟩])
  (.cond (.t 14)
    (.seq (.reg [⟨(some 6), none, .mv (.c (.str []))⟩,
     ⟨(some 7), none, .mv (.c (.bool false))⟩])
    .ret)
    .skip))
  (.seq (.reg [⟨(some 8), none, .mv (.c (.str []))⟩])
  (.seq (.seq (.reg [⟨(some 15), none, .mv (.t 2)⟩,
   ⟨(some 16), none, .mv (.c (.int .i64 0))⟩])
  (.blk 0 (.loop (.seq (.reg [⟨(some 17), none, .bin .lss (.t 16) (.t 15)⟩])
    (.seq (.cond (.t 17)
      .skip
      (.exit 0))
    (.seq (.blk 1 (.seq (.reg [⟨(some 18), none, .mv (.t 16)⟩,
      ⟨(some 9), none, .mv (.t 18)⟩])
     (.seq (.reg [⟨(some 20), none, .ld true 2 (.t 3)⟩,
      ⟨(some 21), none, .mv (.t 1)⟩,
      ⟨(some 22), none, .mv (.t 9)⟩,
      ⟨(some 23), none, .bin .add (.t 21) (.t 22)⟩,
      ⟨(some 24), none, .cl (.c (.fn 152 [])) [(.t 20), (.t 23)]⟩,
      ⟨(some 19), none, .mv (.t 24)⟩,
      ⟨(some 25), none, .ext (.t 19) 0⟩,
      ⟨(some 26), none, .ext (.t 19) 1⟩,
      ⟨(some 10), none, .mv (.t 25)⟩,
      ⟨(some 11), none, .mv (.t 26)⟩])
     (.seq (.seq (.reg [⟨(some 27), none, .mv (.t 11)⟩,
      ⟨(some 28), none, .un .not (.t 27)⟩])
     (.cond (.t 28)
       (.seq (.reg [⟨(some 6), none, .mv (.c (.str []))⟩,
        ⟨(some 7), none, .mv (.c (.bool false))⟩])
       .ret)
       .skip))
     (.reg [⟨(some 29), none, .mv (.t 8)⟩,
      ⟨(some 30), none, .mv (.t 10)⟩,
      ⟨(some 31), none, .bin .add (.t 29) (.t 30)⟩,
      ⟨(some 8), none, .mv (.t 31)⟩])))))
    (.reg [⟨(some 32), none, .bin .add (.t 16) (.c (.int .i64 1))⟩,
     ⟨(some 16), none, .mv (.t 32)⟩])))))))
  (.seq (.reg [⟨(some 33), none, .mv (.t 8)⟩,
   ⟨(some 6), none, .mv (.t 33)⟩,
   ⟨(some 7), none, .mv (.c (.bool true))⟩])
  .ret)))))
theorem k_impl_SectorText : FnOk Try.prog 87 34 rc_impl_SectorText [.t 6, .t 7] := ⟨Try.f87, _, [], Try.func87, rfl, rfl, by kernel_rfl, by kernel_rfl, follows⟩
theorem ok_impl_SectorText : okF Try.prog 87 = true := by kernel_rfl
def rc_impl_SegText : RC :=
  (.seq (.reg [⟨(some 2), none, .bx (.t 0)⟩,
   ⟨(some 4), none, .mv (.c (.str []))⟩])
  (.seq (.seq (.reg [⟨(some 7), none, .mv (.t 1)⟩,
   ⟨(some 8), none, .cl (.c (.fn 130 [])) [(.t 7), (.c (.int .i64 0)), (.c (.int .i64 10))]⟩,
   ⟨(some 9), none, .un .not (.t 8)⟩])
  (.cond (.t 9)
    (.seq (.reg [⟨(some 4), none, .mv (.c (.str []))⟩])
    .ret)
    .skip))
  (.seq (.drw [⟨(some 11), none, .ld true 2 (.t 2)⟩,
   ⟨(some 12), none, .mv (.t 1)⟩,
   ⟨(some 13), none, .cl (.c (.fn 209 [])) [(.t 12)]⟩,
   ⟨(some 14), none, .cl (.c (.fn 87 [])) [(.t 11), (.t 13), (.c (.int .i64 8))]⟩,
   ⟨(some 10), none, .mv (.t 14)⟩,
   ⟨(some 15), none, .ext (.t 10) 0⟩,
   ⟨(some 16), none, .ext (.t 10) 1⟩,
   ⟨(some 5), none, .mv (.t 15)⟩,
   ⟨(some 6), none, .mv (.t 16)⟩] [.val [], .val [], .val [], .val [], .val [], .val [], .val [], .val [], .val []])
  (.seq (.reg [⟨(some 17), none, .mv (.t 5)⟩,
   ⟨(some 4), none, .mv (.t 17)⟩])
  .ret))))
theorem k_impl_SegText : FnOk Try.prog 177 18 rc_impl_SegText [.t 4] := ⟨Try.f177, _, [], Try.func177, rfl, rfl, by kernel_rfl, by kernel_rfl, follows⟩
theorem ok_impl_SegText : okF Try.prog 177 = true := by kernel_rfl
def rc_impl_ReadVar : RC :=
  (.seq (.reg [⟨(some 4), none, .mv (.c (.int .i64 0))⟩,
   ⟨(some 5), none, .mv (.c (.int .i64 0))⟩,
   ⟨(some 6), none, .mv (.c (.bool false))⟩])
  (.seq (.seq (.reg [⟨(some 10), none, .mv (.t 1)⟩,
   ⟨(some 11), none, .mv (.t 0)⟩,
   ⟨(some 12), none, .lens (.t 11)⟩,
   ⟨(some 13), none, .cl (.c (.fn 130 [])) [(.t 10), (.c (.int .i64 0)), (.t 12)]⟩,
   ⟨(some 14), none, .un .not (.t 13)⟩])
  (.cond (.t 14)
    (.seq (.reg [⟨(some 4), none, .mv (.c (.int .i64 0))⟩,
     ⟨(some 5), none, .mv (.c (.int .i64 0))⟩,
     ⟨(some 6), none, .mv (.c (.bool false))⟩])
    .ret)
    .skip))
  (.seq (.reg [⟨(some 7), none, .mv (.c (.int .i64 0))⟩])
  (.seq (.seq (.reg [⟨(some 8), none, .mv (.c (.int .i64 0))⟩])
  (.blk 0 (.loop (.seq (.seq (.reg [⟨(some 15), none, .mv (.t 8)⟩,
     ⟨(some 16), none, .bin .lss (.t 15) (.c (.int .i64 5))⟩,
     ⟨(some 17), none, .mv (.t 16)⟩,
     ⟨(some 18), (some (17, true)), .mv (.t 1)⟩,
     ⟨(some 19), (some (17, true)), .mv (.t 8)⟩,
     ⟨(some 20), (some (17, true)), .bin .add (.t 18) (.t 19)⟩,
     ⟨(some 21), (some (17, true)), .mv (.t 0)⟩,
     ⟨(some 22), (some (17, true)), .lens (.t 21)⟩,
     ⟨(some 23), (some (17, true)), .bin .lss (.t 20) (.t 22)⟩,
     ⟨(some 24), none, .pick (.t 17) (.t 23) (.c (.bool false))⟩])
    (.cond (.t 24)
      .skip
      (.exit 0)))
    (.seq (.blk 1 (.seq (.reg [⟨(some 27), none, .mv (.t 0)⟩,
      ⟨(some 28), none, .mv (.t 1)⟩,
      ⟨(some 29), none, .mv (.t 8)⟩,
      ⟨(some 30), none, .bin .add (.t 28) (.t 29)⟩,
      ⟨(some 31), none, .idx (.t 27) (.t 30)⟩,
      ⟨(some 32), none, .cvi .i64 (.t 31)⟩,
      ⟨(some 9), none, .mv (.t 32)⟩])
     (.seq (.reg [⟨(some 33), none, .mv (.t 7)⟩,
      ⟨(some 34), none, .mv (.t 9)⟩,
      ⟨(some 35), none, .bin .and (.t 34) (.c (.int .i64 127))⟩,
      ⟨(some 36), none, .mv (.t 8)⟩,
      ⟨(some 37), none, .bin .mul (.c (.int .i64 7)) (.t 36)⟩,
      ⟨(some 38), none, .bin .shl (.t 35) (.t 37)⟩,
      ⟨(some 39), none, .bin .or (.t 33) (.t 38)⟩,
      ⟨(some 7), none, .mv (.t 39)⟩])
     (.seq (.seq (.reg [⟨(some 40), none, .mv (.t 9)⟩,
      ⟨(some 41), none, .bin .gtr (.t 40) (.c (.int .i64 127))⟩])
     (.cond (.t 41)
       (.exit 1)
       .skip))
     (.seq (.seq (.reg [⟨(some 42), none, .mv (.t 9)⟩,
      ⟨(some 43), none, .bin .eql (.t 42) (.c (.int .i64 0))⟩,
      ⟨(some 44), none, .mv (.t 43)⟩,
      ⟨(some 45), (some (44, true)), .mv (.t 8)⟩,
      ⟨(some 46), (some (44, true)), .bin .gtr (.t 45) (.c (.int .i64 0))⟩,
      ⟨(some 47), none, .pick (.t 44) (.t 46) (.c (.bool false))⟩,
      ⟨(some 48), none, .mv (.t 47)⟩,
      ⟨(some 49), (some (48, false)), .mv (.t 7)⟩,
      ⟨(some 50), (some (48, false)), .bin .gtr (.t 49) (.c (.int .i64 1000000000))⟩,
      ⟨(some 51), none, .pick (.t 48) (.c (.bool true)) (.t 50)⟩])
     (.cond (.t 51)
       (.seq (.reg [⟨(some 4), none, .mv (.c (.int .i64 0))⟩,
        ⟨(some 5), none, .mv (.c (.int .i64 0))⟩,
        ⟨(some 6), none, .mv (.c (.bool false))⟩])
       .ret)
       .skip))
     (.seq (.reg [⟨(some 52), none, .mv (.t 7)⟩,
      ⟨(some 53), none, .mv (.t 1)⟩,
      ⟨(some 54), none, .mv (.t 8)⟩,
      ⟨(some 55), none, .bin .add (.t 53) (.t 54)⟩,
      ⟨(some 56), none, .bin .add (.t 55) (.c (.int .i64 1))⟩,
      ⟨(some 4), none, .mv (.t 52)⟩,
      ⟨(some 5), none, .mv (.t 56)⟩,
      ⟨(some 6), none, .mv (.c (.bool true))⟩])
     .ret))))))
    (.reg [⟨(some 25), none, .mv (.t 8)⟩,
     ⟨(some 26), none, .bin .add (.t 25) (.c (.int .i64 1))⟩,
     ⟨(some 8), none, .mv (.t 26)⟩]))))))
  (.seq (.reg [⟨(some 4), none, .mv (.c (.int .i64 0))⟩,
   ⟨(some 5), none, .mv (.c (.int .i64 0))⟩,
   ⟨(some 6), none, .mv (.c (.bool false))⟩])
  .ret)))))
theorem k_impl_ReadVar : FnOk Try.prog 155 57 rc_impl_ReadVar [.t 4, .t 5, .t 6] := ⟨Try.f155, _, [], Try.func155, rfl, rfl, by kernel_rfl, by kernel_rfl, follows⟩
theorem ok_impl_ReadVar : okF Try.prog 155 = true := by kernel_rfl
def rc_impl_ReadShort : RC :=
  (.seq (.reg [⟨(some 4), none, .mv (.c (.str []))⟩,
   ⟨(some 5), none, .mv (.c (.int .i64 0))⟩,
   ⟨(some 6), none, .mv (.c (.bool false))⟩])
  (.seq (.reg [⟨(some 11), none, .mv (.t 0)⟩,
   ⟨(some 12), none, .mv (.t 1)⟩,
   ⟨(some 13), none, .cl (.c (.fn 155 [])) [(.t 11), (.t 12)]⟩,
   ⟨(some 10), none, .mv (.t 13)⟩,
   ⟨(some 14), none, .ext (.t 10) 0⟩,
   ⟨(some 15), none, .ext (.t 10) 1⟩,
   ⟨(some 16), none, .ext (.t 10) 2⟩,
   ⟨(some 7), none, .mv (.t 14)⟩,
   ⟨(some 8), none, .mv (.t 15)⟩,
   ⟨(some 9), none, .mv (.t 16)⟩])
  (.seq (.seq (.reg [⟨(some 17), none, .mv (.t 9)⟩,
   ⟨(some 18), none, .un .not (.t 17)⟩,
   ⟨(some 19), none, .mv (.t 18)⟩,
   ⟨(some 20), (some (19, false)), .mv (.t 7)⟩,
   ⟨(some 21), (some (19, false)), .bin .gtr (.t 20) (.c (.int .i64 20000))⟩,
   ⟨(some 22), none, .pick (.t 19) (.c (.bool true)) (.t 21)⟩,
   ⟨(some 23), none, .mv (.t 22)⟩,
   ⟨(some 24), (some (23, false)), .mv (.t 7)⟩,
   ⟨(some 25), (some (23, false)), .mv (.t 0)⟩,
   ⟨(some 26), (some (23, false)), .lens (.t 25)⟩,
   ⟨(some 27), (some (23, false)), .mv (.t 8)⟩,
   ⟨(some 28), (some (23, false)), .bin .sub (.t 26) (.t 27)⟩,
   ⟨(some 29), (some (23, false)), .bin .gtr (.t 24) (.t 28)⟩,
   ⟨(some 30), none, .pick (.t 23) (.c (.bool true)) (.t 29)⟩])
  (.cond (.t 30)
    (.seq (.reg [⟨(some 4), none, .mv (.c (.str []))⟩,
     ⟨(some 5), none, .mv (.c (.int .i64 0))⟩,
     ⟨(some 6), none, .mv (.c (.bool false))⟩])
    .ret)
    .skip))
  (.seq (.reg [⟨(some 31), none, .mv (.t 0)⟩,
   ⟨(some 32), none, .mv (.t 8)⟩,
   ⟨(some 33), none, .mv (.t 8)⟩,
   ⟨(some 34), none, .mv (.t 7)⟩,
   ⟨(some 35), none, .bin .add (.t 33) (.t 34)⟩,
   ⟨(some 36), none, .sls (.t 31) (some (.t 32)) (some (.t 35))⟩,
   ⟨(some 37), none, .mv (.t 8)⟩,
   ⟨(some 38), none, .mv (.t 7)⟩,
   ⟨(some 39), none, .bin .add (.t 37) (.t 38)⟩,
   ⟨(some 4), none, .mv (.t 36)⟩,
   ⟨(some 5), none, .mv (.t 39)⟩,
   ⟨(some 6), none, .mv (.c (.bool true))⟩])
  .ret))))
theorem k_impl_ReadShort : FnOk Try.prog 153 40 rc_impl_ReadShort [.t 4, .t 5, .t 6] := ⟨Try.f153, _, [], Try.func153, rfl, rfl, by kernel_rfl, by kernel_rfl, follows⟩
theorem ok_impl_ReadShort : okF Try.prog 153 = true := by kernel_rfl
def rc_impl_FrameOk : RC :=
  (.seq (.reg [⟨(some 1), none, .bx (.t 0)⟩,
   ⟨(some 2), none, .mv (.c (.bool false))⟩])
  (.seq (.reg [⟨(some 3), none, .fa 0 (.t 1)⟩,
   ⟨(some 4), none, .ld false 1 (.t 3)⟩,
   ⟨(some 5), none, .cl (.c (.fn 130 [])) [(.t 4), (.c (.int .i64 1)), (.c (.int .i64 1000000000))]⟩,
   ⟨(some 6), none, .mv (.t 5)⟩,
   ⟨(some 7), (some (6, true)), .fa 1 (.t 1)⟩,
   ⟨(some 8), (some (6, true)), .ld false 1 (.t 7)⟩,
   ⟨(some 9), (some (6, true)), .cl (.c (.fn 130 [])) [(.t 8), (.c (.int .i64 1)), (.c (.int .i64 1000000000))]⟩,
   ⟨(some 10), none, .pick (.t 6) (.t 9) (.c (.bool false))⟩,
   ⟨(some 11), none, .mv (.t 10)⟩,
   ⟨(some 12), (some (11, true)), .fa 2 (.t 1)⟩,
   ⟨(some 13), (some (11, true)), .ld false 1 (.t 12)⟩,
   ⟨(some 14), (some (11, true)), .lens (.t 13)⟩,
   ⟨(some 15), (some (11, true)), .cl (.c (.fn 130 [])) [(.t 14), (.c (.int .i64 1)), (.c (.int .i64 180))]⟩,
   ⟨(some 16), none, .pick (.t 11) (.t 15) (.c (.bool false))⟩,
   ⟨(some 2), none, .mv (.t 16)⟩])
  .ret))
theorem k_impl_FrameOk : FnOk Try.prog 180 17 rc_impl_FrameOk [.t 2] := ⟨Try.f180, _, [], Try.func180, rfl, rfl, by kernel_rfl, by kernel_rfl, follows⟩
theorem ok_impl_FrameOk : okF Try.prog 180 = true := by kernel_rfl
def rc_impl_varText : RC :=
  (.seq (.reg [⟨(some 2), none, .mv (.c (.str []))⟩])
  (.seq (.reg [⟨(some 4), none, .mv (.c (.nils))⟩,
   ⟨(some 3), none, .mv (.t 4)⟩])
  (.seq (.blk 0 (.loop (.seq (.seq (.reg [⟨(some 5), none, .mv (.t 0)⟩,
     ⟨(some 6), none, .bin .gtr (.t 5) (.c (.int .i64 127))⟩])
    (.cond (.t 6)
      .skip
      (.exit 0)))
    (.blk 1 (.seq (.reg [⟨(some 7), none, .mv (.t 3)⟩,
      ⟨(some 8), none, .mv (.t 0)⟩,
      ⟨(some 9), none, .bin .and (.t 8) (.c (.int .i64 127))⟩,
      ⟨(some 10), none, .bin .or (.t 9) (.c (.int .i64 128))⟩,
      ⟨(some 11), none, .cvi .u8 (.t 10)⟩,
      ⟨(some 12), none, .bs 1 [.int .u8 0] 1 [(0, (.t 11))]⟩,
      ⟨(some 13), none, .app 1 1 (.t 7) (.t 12)⟩,
      ⟨(some 3), none, .mv (.t 13)⟩])
     (.reg [⟨(some 14), none, .mv (.t 0)⟩,
      ⟨(some 15), none, .bin .shr (.t 14) (.c (.int .u64 7))⟩,
      ⟨(some 0), none, .mv (.t 15)⟩]))))))
  (.seq (.reg [⟨(some 16), none, .mv (.t 3)⟩,
   ⟨(some 17), none, .mv (.t 0)⟩,
   ⟨(some 18), none, .cvi .u8 (.t 17)⟩,
   ⟨(some 19), none, .bs 1 [.int .u8 0] 1 [(0, (.t 18))]⟩,
   ⟨(some 20), none, .app 1 1 (.t 16) (.t 19)⟩,
   ⟨(some 21), none, .cvb (.t 20)⟩,
   ⟨(some 2), none, .mv (.t 21)⟩])
  .ret))))
theorem k_impl_varText : FnOk Try.prog 164 22 rc_impl_varText [.t 2] := ⟨Try.f164, _, [], Try.func164, rfl, rfl, by kernel_rfl, by kernel_rfl, follows⟩
theorem ok_impl_varText : okF Try.prog 164 = true := by kernel_rfl
def rc_impl_SumMore : RC :=
  (.seq (.reg [⟨(some 4), none, .mv (.c (.int .u32 0))⟩])
  (.seq (.seq (.reg [⟨(some 7), none, .mv (.t 1)⟩,
   ⟨(some 8), none, .lens (.t 7)⟩,
   ⟨(some 9), none, .mv (.c (.int .i64 0))⟩])
  (.blk 0 (.loop (.seq (.reg [⟨(some 10), none, .bin .lss (.t 9) (.t 8)⟩])
    (.seq (.cond (.t 10)
      .skip
      (.exit 0))
    (.seq (.blk 1 (.seq (.reg [⟨(some 11), none, .mv (.t 9)⟩,
      ⟨(some 5), none, .mv (.t 11)⟩])
     (.seq (.reg [⟨(some 12), none, .mv (.t 0)⟩,
      ⟨(some 13), none, .mv (.t 1)⟩,
      ⟨(some 14), none, .mv (.t 5)⟩,
      ⟨(some 15), none, .idx (.t 13) (.t 14)⟩,
      ⟨(some 16), none, .cvi .u32 (.t 15)⟩,
      ⟨(some 17), none, .bin .xor (.t 12) (.t 16)⟩,
      ⟨(some 0), none, .mv (.t 17)⟩])
     (.seq (.reg [⟨(some 18), none, .mv (.c (.int .i64 0))⟩])
     (.blk 2 (.loop (.seq (.reg [⟨(some 19), none, .bin .lss (.t 18) (.c (.int .i64 8))⟩])
       (.seq (.cond (.t 19)
         .skip
         (.exit 2))
       (.seq (.blk 3 (.seq (.reg [⟨(some 20), none, .mv (.t 0)⟩,
         ⟨(some 21), none, .bin .and (.t 20) (.c (.int .u32 1))⟩,
         ⟨(some 22), none, .bin .eql (.t 21) (.c (.int .u32 1))⟩,
         ⟨(some 6), none, .mv (.t 22)⟩])
        (.seq (.reg [⟨(some 23), none, .mv (.t 0)⟩,
         ⟨(some 24), none, .bin .shr (.t 23) (.c (.int .u64 1))⟩,
         ⟨(some 0), none, .mv (.t 24)⟩])
        (.seq (.reg [⟨(some 25), none, .mv (.t 6)⟩])
        (.cond (.t 25)
          (.reg [⟨(some 26), none, .mv (.t 0)⟩,
           ⟨(some 27), none, .bin .xor (.t 26) (.c (.int .u32 3558460437))⟩,
           ⟨(some 0), none, .mv (.t 27)⟩])
          .skip)))))
       (.reg [⟨(some 28), none, .bin .add (.t 18) (.c (.int .i64 1))⟩,
        ⟨(some 18), none, .mv (.t 28)⟩]))))))))))
    (.reg [⟨(some 29), none, .bin .add (.t 9) (.c (.int .i64 1))⟩,
     ⟨(some 9), none, .mv (.t 29)⟩])))))))
  (.seq (.reg [⟨(some 30), none, .mv (.t 0)⟩,
   ⟨(some 4), none, .mv (.t 30)⟩])
  .ret)))
theorem k_impl_SumMore : FnOk Try.prog 216 31 rc_impl_SumMore [.t 4] := ⟨Try.f216, _, [], Try.func216, rfl, rfl, by kernel_rfl, by kernel_rfl, follows⟩
theorem ok_impl_SumMore : okF Try.prog 216 = true := by kernel_rfl
def rc_impl_SumOf : RC :=
  (.seq (.reg [⟨(some 2), none, .mv (.c (.int .u32 0))⟩])
  (.seq (.reg [⟨(some 3), none, .mv (.t 0)⟩,
   ⟨(some 4), none, .cl (.c (.fn 216 [])) [(.c (.int .u32 4294967295)), (.t 3)]⟩,
   ⟨(some 2), none, .mv (.t 4)⟩])
  .ret))
theorem k_impl_SumOf : FnOk Try.prog 201 5 rc_impl_SumOf [.t 2] := ⟨Try.f201, _, [], Try.func201, rfl, rfl, by kernel_rfl, by kernel_rfl, follows⟩
theorem ok_impl_SumOf : okF Try.prog 201 = true := by kernel_rfl
def rc_impl_seal : RC :=
  (.seq (.reg [⟨(some 2), none, .mv (.c (.str []))⟩])
  (.seq (.reg [⟨(some 4), none, .mv (.t 0)⟩,
   ⟨(some 5), none, .cl (.c (.fn 201 [])) [(.t 4)]⟩,
   ⟨(some 3), none, .mv (.t 5)⟩])
  (.seq (.reg [⟨(some 6), none, .mv (.t 3)⟩,
   ⟨(some 7), none, .bin .shr (.t 6) (.c (.int .u64 24))⟩,
   ⟨(some 8), none, .cvi .u8 (.t 7)⟩,
   ⟨(some 9), none, .mv (.t 3)⟩,
   ⟨(some 10), none, .bin .shr (.t 9) (.c (.int .u64 16))⟩,
   ⟨(some 11), none, .cvi .u8 (.t 10)⟩,
   ⟨(some 12), none, .mv (.t 3)⟩,
   ⟨(some 13), none, .bin .shr (.t 12) (.c (.int .u64 8))⟩,
   ⟨(some 14), none, .cvi .u8 (.t 13)⟩,
   ⟨(some 15), none, .mv (.t 3)⟩,
   ⟨(some 16), none, .cvi .u8 (.t 15)⟩,
   ⟨(some 17), none, .bs 1 [.int .u8 0] 4 [(0, (.t 8)), (1, (.t 11)), (2, (.t 14)), (3, (.t 16))]⟩,
   ⟨(some 18), none, .cvb (.t 17)⟩,
   ⟨(some 2), none, .mv (.t 18)⟩])
  .ret)))
theorem k_impl_seal : FnOk Try.prog 165 19 rc_impl_seal [.t 2] := ⟨Try.f165, _, [], Try.func165, rfl, rfl, by kernel_rfl, by kernel_rfl, follows⟩
theorem ok_impl_seal : okF Try.prog 165 = true := by kernel_rfl
def rc_impl_Sealed : RC :=
  (.seq (.reg [⟨(some 2), none, .mv (.c (.str []))⟩,
   ⟨(some 3), none, .mv (.c (.bool false))⟩])
  (.seq (.seq (.reg [⟨(some 4), none, .mv (.t 0)⟩,
   ⟨(some 5), none, .lens (.t 4)⟩,
   ⟨(some 6), none, .bin .gtr (.t 5) (.c (.int .i64 20000))⟩])
  (.cond (.t 6)
    (.seq (.reg [⟨(some 2), none, .mv (.c (.str []))⟩,
     ⟨(some 3), none, .mv (.c (.bool false))⟩])
    .ret)
    .skip))
  (.seq (.reg [⟨(some 7), none, .mv (.t 0)⟩,
   ⟨(some 8), none, .mv (.t 0)⟩,
   ⟨(some 9), none, .cl (.c (.fn 165 [])) [(.t 8)]⟩,
   ⟨(some 10), none, .bin .add (.t 7) (.t 9)⟩,
   ⟨(some 2), none, .mv (.t 10)⟩,
   ⟨(some 3), none, .mv (.c (.bool true))⟩])
  .ret)))
theorem k_impl_Sealed : FnOk Try.prog 213 11 rc_impl_Sealed [.t 2, .t 3] := ⟨Try.f213, _, [], Try.func213, rfl, rfl, by kernel_rfl, by kernel_rfl, follows⟩
theorem ok_impl_Sealed : okF Try.prog 213 = true := by kernel_rfl
def rc_impl_FrameText : RC :=
  (.seq (.reg [⟨(some 1), none, .bx (.t 0)⟩,
   ⟨(some 2), none, .mv (.c (.str []))⟩,
   ⟨(some 3), none, .mv (.c (.bool false))⟩])
  (.seq (.seq (.reg [⟨(some 4), none, .ld true 3 (.t 1)⟩,
   ⟨(some 5), none, .cl (.c (.fn 180 [])) [(.t 4)]⟩,
   ⟨(some 6), none, .un .not (.t 5)⟩])
  (.cond (.t 6)
    (.seq (.reg [⟨(some 2), none, .mv (.c (.str []))⟩,
     ⟨(some 3), none, .mv (.c (.bool false))⟩])
    .ret)
    .skip))
  (.seq (.drw [⟨(some 7), none, .fa 0 (.t 1)⟩,
   ⟨(some 8), none, .ld false 1 (.t 7)⟩,
   ⟨(some 9), none, .cl (.c (.fn 164 [])) [(.t 8)]⟩,
   ⟨(some 10), none, .fa 1 (.t 1)⟩,
   ⟨(some 11), none, .ld false 1 (.t 10)⟩,
   ⟨(some 12), none, .cl (.c (.fn 164 [])) [(.t 11)]⟩,
   ⟨(some 13), none, .bin .add (.t 9) (.t 12)⟩,
   ⟨(some 14), none, .fa 2 (.t 1)⟩,
   ⟨(some 15), none, .ld false 1 (.t 14)⟩,
   ⟨(some 16), none, .lens (.t 15)⟩,
   ⟨(some 17), none, .cl (.c (.fn 164 [])) [(.t 16)]⟩,
   ⟨(some 18), none, .bin .add (.t 13) (.t 17)⟩,
   ⟨(some 19), none, .fa 2 (.t 1)⟩,
   ⟨(some 20), none, .ld false 1 (.t 19)⟩,
   ⟨(some 21), none, .bin .add (.t 18) (.t 20)⟩,
   ⟨(some 22), none, .cl (.c (.fn 213 [])) [(.t 21)]⟩,
   ⟨(some 23), none, .ext (.t 22) 0⟩,
   ⟨(some 24), none, .ext (.t 22) 1⟩,
   ⟨(some 2), none, .mv (.t 23)⟩,
   ⟨(some 3), none, .mv (.t 24)⟩] [.val [], .val [], .val [], .val [], .val [], .val [], .val [], .val [], .val [], .val [], .val [], .val [], .val [], .val [], .val [], .val [], .val [], .val [], .val [], .val []])
  .ret)))
theorem k_impl_FrameText : FnOk Try.prog 188 25 rc_impl_FrameText [.t 2, .t 3] := ⟨Try.f188, _, [], Try.func188, rfl, rfl, by kernel_rfl, by kernel_rfl, follows⟩
theorem ok_impl_FrameText : okF Try.prog 188 = true := by kernel_rfl
def rc_impl_ReadFrame : RC :=
  (.seq (.reg [⟨(some 4), none, .al [.int .i64 0, .int .i64 0, .str []]⟩,
   ⟨(some 5), none, .mv (.c (.int .i64 0))⟩,
   ⟨(some 6), none, .mv (.c (.bool false))⟩])
  (.seq (.reg [⟨(some 18), none, .mv (.t 0)⟩,
   ⟨(some 19), none, .mv (.t 1)⟩,
   ⟨(some 20), none, .cl (.c (.fn 155 [])) [(.t 18), (.t 19)]⟩,
   ⟨(some 17), none, .mv (.t 20)⟩,
   ⟨(some 21), none, .ext (.t 17) 0⟩,
   ⟨(some 22), none, .ext (.t 17) 1⟩,
   ⟨(some 23), none, .ext (.t 17) 2⟩,
   ⟨(some 7), none, .mv (.t 21)⟩,
   ⟨(some 8), none, .mv (.t 22)⟩,
   ⟨(some 9), none, .mv (.t 23)⟩])
  (.seq (.reg [⟨(some 25), none, .mv (.t 0)⟩,
   ⟨(some 26), none, .mv (.t 8)⟩,
   ⟨(some 27), none, .cl (.c (.fn 155 [])) [(.t 25), (.t 26)]⟩,
   ⟨(some 24), none, .mv (.t 27)⟩,
   ⟨(some 28), none, .ext (.t 24) 0⟩,
   ⟨(some 29), none, .ext (.t 24) 1⟩,
   ⟨(some 30), none, .ext (.t 24) 2⟩,
   ⟨(some 10), none, .mv (.t 28)⟩,
   ⟨(some 8), none, .mv (.t 29)⟩,
   ⟨(some 11), none, .mv (.t 30)⟩])
  (.seq (.reg [⟨(some 32), none, .mv (.t 0)⟩,
   ⟨(some 33), none, .mv (.t 8)⟩,
   ⟨(some 34), none, .cl (.c (.fn 153 [])) [(.t 32), (.t 33)]⟩,
   ⟨(some 31), none, .mv (.t 34)⟩,
   ⟨(some 35), none, .ext (.t 31) 0⟩,
   ⟨(some 36), none, .ext (.t 31) 1⟩,
   ⟨(some 37), none, .ext (.t 31) 2⟩,
   ⟨(some 12), none, .mv (.t 35)⟩,
   ⟨(some 8), none, .mv (.t 36)⟩,
   ⟨(some 13), none, .mv (.t 37)⟩])
  (.seq (.reg [⟨(some 38), none, .mv (.t 7)⟩,
   ⟨(some 39), none, .mv (.t 10)⟩,
   ⟨(some 40), none, .mv (.t 12)⟩,
   ⟨(some 41), none, .bld [.int .i64 0, .int .i64 0, .str []] [(0, 1), (1, 1), (2, 1)] [(0, (.t 38)), (1, (.t 39)), (2, (.t 40))]⟩,
   ⟨(some 14), none, .al [.int .i64 0, .int .i64 0, .str []]⟩,
   ⟨none, none, .st 3 (.t 14) (.t 41)⟩])
  (.seq (.seq (.reg [⟨(some 42), none, .mv (.t 9)⟩,
   ⟨(some 43), none, .un .not (.t 42)⟩,
   ⟨(some 44), none, .mv (.t 43)⟩,
   ⟨(some 45), (some (44, false)), .mv (.t 11)⟩,
   ⟨(some 46), (some (44, false)), .un .not (.t 45)⟩,
   ⟨(some 47), none, .pick (.t 44) (.c (.bool true)) (.t 46)⟩,
   ⟨(some 48), none, .mv (.t 47)⟩,
   ⟨(some 49), (some (48, false)), .mv (.t 13)⟩,
   ⟨(some 50), (some (48, false)), .un .not (.t 49)⟩,
   ⟨(some 51), none, .pick (.t 48) (.c (.bool true)) (.t 50)⟩,
   ⟨(some 52), none, .mv (.t 51)⟩,
   ⟨(some 53), (some (52, false)), .ld true 3 (.t 14)⟩,
   ⟨(some 54), (some (52, false)), .cl (.c (.fn 180 [])) [(.t 53)]⟩,
   ⟨(some 55), (some (52, false)), .un .not (.t 54)⟩,
   ⟨(some 56), none, .pick (.t 52) (.c (.bool true)) (.t 55)⟩,
   ⟨(some 57), none, .mv (.t 56)⟩,
   ⟨(some 58), (some (57, false)), .mv (.t 0)⟩,
   ⟨(some 59), (some (57, false)), .lens (.t 58)⟩,
   ⟨(some 60), (some (57, false)), .mv (.t 8)⟩,
   ⟨(some 61), (some (57, false)), .bin .sub (.t 59) (.t 60)⟩,
   ⟨(some 62), (some (57, false)), .bin .lss (.t 61) (.c (.int .i64 4))⟩,
   ⟨(some 63), none, .pick (.t 57) (.c (.bool true)) (.t 62)⟩])
  (.cond (.t 63)
    (.seq (.reg [⟨(some 64), none, .bld [.int .i64 0, .int .i64 0, .str []] [(0, 1), (1, 1), (2, 1)] []⟩,
     ⟨none, none, .st 3 (.t 4) (.t 64)⟩,
     ⟨(some 5), none, .mv (.c (.int .i64 0))⟩,
     ⟨(some 6), none, .mv (.c (.bool false))⟩])
    .ret)
    .skip))
  (.seq (.seq (.reg [⟨(some 66), none, .ld true 3 (.t 14)⟩,
   ⟨(some 67), none, .cl (.c (.fn 188 [])) [(.t 66)]⟩,
   ⟨(some 65), none, .mv (.t 67)⟩,
   ⟨(some 68), none, .ext (.t 65) 0⟩,
   ⟨(some 69), none, .ext (.t 65) 1⟩,
   ⟨(some 15), none, .mv (.t 68)⟩,
   ⟨(some 16), none, .mv (.t 69)⟩])
  (.seq (.reg [⟨(some 70), none, .mv (.t 0)⟩,
   ⟨(some 71), none, .mv (.t 1)⟩,
   ⟨(some 72), none, .mv (.t 8)⟩,
   ⟨(some 73), none, .bin .add (.t 72) (.c (.int .i64 4))⟩,
   ⟨(some 74), none, .sls (.t 70) (some (.t 71)) (some (.t 73))⟩,
   ⟨(some 75), none, .mv (.t 15)⟩,
   ⟨(some 76), none, .bin .neq (.t 74) (.t 75)⟩])
  (.cond (.t 76)
    (.seq (.reg [⟨(some 77), none, .bld [.int .i64 0, .int .i64 0, .str []] [(0, 1), (1, 1), (2, 1)] []⟩,
     ⟨none, none, .st 3 (.t 4) (.t 77)⟩,
     ⟨(some 5), none, .mv (.c (.int .i64 0))⟩,
     ⟨(some 6), none, .mv (.c (.bool false))⟩])
    .ret)
    .skip)))
  (.seq (.reg [⟨(some 78), none, .ld true 3 (.t 14)⟩,
   ⟨(some 79), none, .mv (.t 8)⟩,
   ⟨(some 80), none, .bin .add (.t 79) (.c (.int .i64 4))⟩,
   ⟨none, none, .st 3 (.t 4) (.t 78)⟩,
   ⟨(some 5), none, .mv (.t 80)⟩,
   ⟨(some 6), none, .mv (.c (.bool true))⟩])
  .ret))))))))
theorem k_impl_ReadFrame : FnOk Try.prog 178 81 rc_impl_ReadFrame [.cell 4 true 3, .t 5, .t 6] := ⟨Try.f178, _, [], Try.func178, rfl, rfl, by kernel_rfl, by kernel_rfl, follows⟩
theorem ok_impl_ReadFrame : okF Try.prog 178 = true := by kernel_rfl
def rc_impl_SegGen : RC :=
  (.seq (.reg [⟨(some 2), none, .bx (.t 0)⟩,
   ⟨(some 4), none, .mv (.c (.int .i64 0))⟩])
  (.seq (.reg [⟨(some 9), none, .ld true 2 (.t 2)⟩,
   ⟨(some 10), none, .mv (.t 1)⟩,
   ⟨(some 11), none, .cl (.c (.fn 177 [])) [(.t 9), (.t 10)]⟩,
   ⟨(some 12), none, .cl (.c (.fn 178 [])) [(.t 11), (.c (.int .i64 0))]⟩,
   ⟨(some 8), none, .mv (.t 12)⟩,
   ⟨(some 13), none, .ext (.t 8) 0⟩,
   ⟨(some 14), none, .ext (.t 8) 1⟩,
   ⟨(some 15), none, .ext (.t 8) 2⟩,
   ⟨(some 5), none, .al [.int .i64 0, .int .i64 0, .str []]⟩,
   ⟨none, none, .st 3 (.t 5) (.t 13)⟩,
   ⟨(some 6), none, .mv (.t 14)⟩,
   ⟨(some 7), none, .mv (.t 15)⟩])
  (.seq (.seq (.reg [⟨(some 16), none, .fa 2 (.t 5)⟩,
   ⟨(some 17), none, .ld false 1 (.t 16)⟩,
   ⟨(some 18), none, .bin .neq (.t 17) (.c (.str [115, 101, 103]))⟩])
  (.cond (.t 18)
    (.seq (.reg [⟨(some 4), none, .mv (.c (.int .i64 0))⟩])
    .ret)
    .skip))
  (.seq (.reg [⟨(some 19), none, .fa 0 (.t 5)⟩,
   ⟨(some 20), none, .ld false 1 (.t 19)⟩,
   ⟨(some 4), none, .mv (.t 20)⟩])
  .ret))))
theorem k_impl_SegGen : FnOk Try.prog 110 21 rc_impl_SegGen [.t 4] := ⟨Try.f110, _, [], Try.func110, rfl, rfl, by kernel_rfl, by kernel_rfl, follows⟩
theorem ok_impl_SegGen : okF Try.prog 110 = true := by kernel_rfl
def rc_impl_ScanFrames : RC :=
  (.seq (.reg [⟨(some 4), none, .mv (.c (.nils))⟩,
   ⟨(some 5), none, .mv (.c (.int .i64 0))⟩])
  (.seq (.reg [⟨(some 11), none, .mv (.c (.nils))⟩,
   ⟨(some 6), none, .mv (.t 11)⟩])
  (.seq (.reg [⟨(some 7), none, .mv (.c (.int .i64 0))⟩])
  (.blk 0 (.loop (.blk 1 (.seq (.reg [⟨(some 13), none, .mv (.t 0)⟩,
      ⟨(some 14), none, .mv (.t 7)⟩,
      ⟨(some 15), none, .cl (.c (.fn 178 [])) [(.t 13), (.t 14)]⟩,
      ⟨(some 12), none, .mv (.t 15)⟩,
      ⟨(some 16), none, .ext (.t 12) 0⟩,
      ⟨(some 17), none, .ext (.t 12) 1⟩,
      ⟨(some 18), none, .ext (.t 12) 2⟩,
      ⟨(some 8), none, .al [.int .i64 0, .int .i64 0, .str []]⟩,
      ⟨none, none, .st 3 (.t 8) (.t 16)⟩,
      ⟨(some 9), none, .mv (.t 17)⟩,
      ⟨(some 10), none, .mv (.t 18)⟩])
     (.seq (.seq (.reg [⟨(some 19), none, .mv (.t 10)⟩,
      ⟨(some 20), none, .un .not (.t 19)⟩,
      ⟨(some 21), none, .mv (.t 20)⟩,
      ⟨(some 22), (some (21, false)), .fa 0 (.t 8)⟩,
      ⟨(some 23), (some (21, false)), .ld false 1 (.t 22)⟩,
      ⟨(some 24), (some (21, false)), .mv (.t 1)⟩,
      ⟨(some 25), (some (21, false)), .bin .neq (.t 23) (.t 24)⟩,
      ⟨(some 26), none, .pick (.t 21) (.c (.bool true)) (.t 25)⟩])
     (.cond (.t 26)
       (.seq (.reg [⟨(some 27), none, .mv (.t 6)⟩,
        ⟨(some 28), none, .mv (.t 7)⟩,
        ⟨(some 4), none, .mv (.t 27)⟩,
        ⟨(some 5), none, .mv (.t 28)⟩])
       .ret)
       .skip))
     (.seq (.reg [⟨(some 29), none, .mv (.t 6)⟩,
      ⟨(some 30), none, .ld true 3 (.t 8)⟩,
      ⟨(some 31), none, .bs 3 [.int .i64 0, .int .i64 0, .str []] 1 [(0, (.t 30))]⟩,
      ⟨(some 32), none, .app 3 32 (.t 29) (.t 31)⟩,
      ⟨(some 6), none, .mv (.t 32)⟩])
     (.reg [⟨(some 33), none, .mv (.t 9)⟩,
      ⟨(some 7), none, .mv (.t 33)⟩]))))))))))
theorem k_impl_ScanFrames : FnOk Try.prog 176 34 rc_impl_ScanFrames [.t 4, .t 5] := ⟨Try.f176, _, [], Try.func176, rfl, rfl, by kernel_rfl, by kernel_rfl, follows⟩
theorem ok_impl_ScanFrames : okF Try.prog 176 = true := by kernel_rfl
def rc_impl_SegFrames : RC :=
  (.seq (.reg [⟨(some 2), none, .bx (.t 0)⟩,
   ⟨(some 4), none, .mv (.c (.nils))⟩,
   ⟨(some 5), none, .mv (.c (.int .i64 0))⟩])
  (.seq (.reg [⟨(some 9), none, .ld true 2 (.t 2)⟩,
   ⟨(some 10), none, .mv (.t 1)⟩,
   ⟨(some 11), none, .cl (.c (.fn 110 [])) [(.t 9), (.t 10)]⟩,
   ⟨(some 6), none, .mv (.t 11)⟩])
  (.seq (.seq (.reg [⟨(some 12), none, .mv (.t 6)⟩,
   ⟨(some 13), none, .bin .eql (.t 12) (.c (.int .i64 0))⟩])
  (.cond (.t 13)
    (.seq (.reg [⟨(some 4), none, .mv (.c (.nils))⟩,
     ⟨(some 5), none, .mv (.c (.int .i64 0))⟩])
    .ret)
    .skip))
  (.seq (.reg [⟨(some 15), none, .ld true 2 (.t 2)⟩,
   ⟨(some 16), none, .mv (.t 1)⟩,
   ⟨(some 17), none, .cl (.c (.fn 177 [])) [(.t 15), (.t 16)]⟩,
   ⟨(some 18), none, .mv (.t 6)⟩,
   ⟨(some 19), none, .cl (.c (.fn 176 [])) [(.t 17), (.t 18)]⟩,
   ⟨(some 14), none, .mv (.t 19)⟩,
   ⟨(some 20), none, .ext (.t 14) 0⟩,
   ⟨(some 21), none, .ext (.t 14) 1⟩,
   ⟨(some 7), none, .mv (.t 20)⟩,
   ⟨(some 8), none, .mv (.t 21)⟩])
  (.seq (.reg [⟨(some 22), none, .mv (.t 7)⟩,
   ⟨(some 23), none, .sle 3 (.t 22) (some (.c (.int .i64 1))) none⟩,
   ⟨(some 24), none, .mv (.t 8)⟩,
   ⟨(some 4), none, .mv (.t 23)⟩,
   ⟨(some 5), none, .mv (.t 24)⟩])
  .ret)))))
theorem k_impl_SegFrames : FnOk Try.prog 109 25 rc_impl_SegFrames [.t 4, .t 5] := ⟨Try.f109, _, [], Try.func109, rfl, rfl, by kernel_rfl, by kernel_rfl, follows⟩
theorem ok_impl_SegFrames : okF Try.prog 109 = true := by kernel_rfl
def rc_impl_WordOk : RC :=
  (.seq (.reg [⟨(some 2), none, .mv (.c (.bool false))⟩])
  (.seq (.seq (.reg [⟨(some 4), none, .mv (.t 0)⟩,
   ⟨(some 5), none, .lens (.t 4)⟩,
   ⟨(some 6), none, .cl (.c (.fn 130 [])) [(.t 5), (.c (.int .i64 1)), (.c (.int .i64 8))]⟩,
   ⟨(some 7), none, .un .not (.t 6)⟩])
  (.cond (.t 7)
    (.seq (.reg [⟨(some 2), none, .mv (.c (.bool false))⟩])
    .ret)
    .skip))
  (.seq (.seq (.reg [⟨(some 8), none, .mv (.t 0)⟩,
   ⟨(some 9), none, .lens (.t 8)⟩,
   ⟨(some 10), none, .mv (.c (.int .i64 0))⟩])
  (.blk 0 (.loop (.seq (.reg [⟨(some 11), none, .bin .lss (.t 10) (.t 9)⟩])
    (.seq (.cond (.t 11)
      .skip
      (.exit 0))
    (.seq (.blk 1 (.seq (.reg [⟨(some 12), none, .mv (.t 10)⟩,
      ⟨(some 3), none, .mv (.t 12)⟩])
     (.seq (.reg [⟨(some 13), none, .mv (.t 0)⟩,
      ⟨(some 14), none, .mv (.t 3)⟩,
      ⟨(some 15), none, .idx (.t 13) (.t 14)⟩,
      ⟨(some 16), none, .bin .lss (.t 15) (.c (.int .u8 97))⟩,
      ⟨(some 17), none, .mv (.t 16)⟩,
      ⟨(some 18), (some (17, false)), .mv (.t 0)⟩,
      ⟨(some 19), (some (17, false)), .mv (.t 3)⟩,
      ⟨(some 20), (some (17, false)), .idx (.t 18) (.t 19)⟩,
      ⟨(some 21), (some (17, false)), .bin .gtr (.t 20) (.c (.int .u8 122))⟩,
      ⟨(some 22), none, .pick (.t 17) (.c (.bool true)) (.t 21)⟩])
     (.cond (.t 22)
       (.seq (.reg [⟨(some 2), none, .mv (.c (.bool false))⟩])
       .ret)
       .skip))))
    (.reg [⟨(some 23), none, .bin .add (.t 10) (.c (.int .i64 1))⟩,
     ⟨(some 10), none, .mv (.t 23)⟩])))))))
  (.seq (.reg [⟨(some 2), none, .mv (.c (.bool true))⟩])
  .ret))))
theorem k_impl_WordOk : FnOk Try.prog 190 24 rc_impl_WordOk [.t 2] := ⟨Try.f190, _, [], Try.func190, rfl, rfl, by kernel_rfl, by kernel_rfl, follows⟩
theorem ok_impl_WordOk : okF Try.prog 190 = true := by kernel_rfl
def rc_impl_RecOk : RC :=
  (.seq (.reg [⟨(some 1), none, .bx (.t 0)⟩,
   ⟨(some 2), none, .mv (.c (.bool false))⟩])
  (.seq (.seq (.reg [⟨(some 5), none, .fa 1 (.t 1)⟩,
   ⟨(some 6), none, .ld false 1 (.t 5)⟩,
   ⟨(some 7), none, .cl (.c (.fn 130 [])) [(.t 6), (.c (.int .i64 1)), (.c (.int .i64 9999))]⟩,
   ⟨(some 8), none, .un .not (.t 7)⟩])
  (.cond (.t 8)
    (.seq (.reg [⟨(some 2), none, .mv (.c (.bool false))⟩])
    .ret)
    .skip))
  (.seq (.reg [⟨(some 9), none, .ld true 8 (.t 1)⟩,
   ⟨(some 3), none, .al [.int .i64 0, .int .i64 0, .int .i64 0, .int .i64 0, .int .i64 0, .str [], .str [], .str []]⟩,
   ⟨none, none, .st 8 (.t 3) (.t 9)⟩])
  (.seq (.reg [⟨(some 10), none, .fa 0 (.t 3)⟩,
   ⟨none, none, .st 1 (.t 10) (.c (.int .i64 0))⟩,
   ⟨(some 11), none, .fa 1 (.t 3)⟩,
   ⟨none, none, .st 1 (.t 11) (.c (.int .i64 0))⟩])
  (.seq (.reg [⟨(some 4), none, .mv (.c (.bool true))⟩])
  (.seq (.seq (.reg [⟨(some 12), none, .fa 0 (.t 1)⟩,
   ⟨(some 13), none, .ld false 1 (.t 12)⟩,
   ⟨(some 14), none, .bin .eql (.t 13) (.c (.int .i64 3))⟩,
   ⟨(some 15), none, .mv (.t 14)⟩,
   ⟨(some 16), (some (15, false)), .fa 0 (.t 1)⟩,
   ⟨(some 17), (some (15, false)), .ld false 1 (.t 16)⟩,
   ⟨(some 18), (some (15, false)), .bin .eql (.t 17) (.c (.int .i64 4))⟩,
   ⟨(some 19), none, .pick (.t 15) (.c (.bool true)) (.t 18)⟩,
   ⟨(some 20), none, .mv (.t 19)⟩,
   ⟨(some 21), (some (20, false)), .fa 0 (.t 1)⟩,
   ⟨(some 22), (some (20, false)), .ld false 1 (.t 21)⟩,
   ⟨(some 23), (some (20, false)), .bin .eql (.t 22) (.c (.int .i64 5))⟩,
   ⟨(some 24), none, .pick (.t 20) (.c (.bool true)) (.t 23)⟩])
  (.cond (.t 24)
    (.seq (.reg [⟨(some 25), none, .fa 2 (.t 1)⟩,
     ⟨(some 26), none, .ld false 1 (.t 25)⟩,
     ⟨(some 27), none, .cl (.c (.fn 130 [])) [(.t 26), (.c (.int .i64 1)), (.c (.int .i64 9999))]⟩,
     ⟨(some 4), none, .mv (.t 27)⟩])
    (.reg [⟨(some 28), none, .fa 2 (.t 3)⟩,
     ⟨none, none, .st 1 (.t 28) (.c (.int .i64 0))⟩]))
    .skip))
  (.seq (.seq (.reg [⟨(some 29), none, .fa 0 (.t 1)⟩,
   ⟨(some 30), none, .ld false 1 (.t 29)⟩,
   ⟨(some 31), none, .bin .eql (.t 30) (.c (.int .i64 3))⟩,
   ⟨(some 32), none, .mv (.t 31)⟩,
   ⟨(some 33), (some (32, false)), .fa 0 (.t 1)⟩,
   ⟨(some 34), (some (32, false)), .ld false 1 (.t 33)⟩,
   ⟨(some 35), (some (32, false)), .bin .eql (.t 34) (.c (.int .i64 4))⟩,
   ⟨(some 36), none, .pick (.t 32) (.c (.bool true)) (.t 35)⟩])
  (.cond (.t 36)
    (.seq (.reg [⟨(some 37), none, .mv (.t 4)⟩,
     ⟨(some 38), none, .mv (.t 37)⟩,
     ⟨(some 39), (some (38, true)), .fa 4 (.t 1)⟩,
     ⟨(some 40), (some (38, true)), .ld false 1 (.t 39)⟩,
     ⟨(some 41), (some (38, true)), .cl (.c (.fn 130 [])) [(.t 40), (.c (.int .i64 0)), (.c (.int .i64 7))]⟩,
     ⟨(some 42), none, .pick (.t 38) (.t 41) (.c (.bool false))⟩,
     ⟨(some 4), none, .mv (.t 42)⟩])
    (.reg [⟨(some 43), none, .fa 4 (.t 3)⟩,
     ⟨none, none, .st 1 (.t 43) (.c (.int .i64 0))⟩]))
    .skip))
  (.seq (.seq (.reg [⟨(some 44), none, .fa 0 (.t 1)⟩,
   ⟨(some 45), none, .ld false 1 (.t 44)⟩])
  (.blk 0 (.seq (.reg [⟨(some 47), none, .bin .eql (.t 45) (.c (.int .i64 1))⟩,
    ⟨(some 46), none, .mv (.t 47)⟩])
   (.cond (.t 46)
     (.seq (.reg [⟨(some 48), none, .fa 5 (.t 1)⟩,
      ⟨(some 49), none, .ld false 1 (.t 48)⟩,
      ⟨(some 50), none, .cl (.c (.fn 190 [])) [(.t 49)]⟩,
      ⟨(some 51), none, .mv (.t 50)⟩,
      ⟨(some 52), (some (51, true)), .fa 6 (.t 1)⟩,
      ⟨(some 53), (some (51, true)), .ld false 1 (.t 52)⟩,
      ⟨(some 54), (some (51, true)), .cl (.c (.fn 190 [])) [(.t 53)]⟩,
      ⟨(some 55), none, .pick (.t 51) (.t 54) (.c (.bool false))⟩,
      ⟨(some 56), none, .mv (.t 55)⟩,
      ⟨(some 57), (some (56, true)), .fa 3 (.t 1)⟩,
      ⟨(some 58), (some (56, true)), .ld false 1 (.t 57)⟩,
      ⟨(some 59), (some (56, true)), .cl (.c (.fn 130 [])) [(.t 58), (.c (.int .i64 1)), (.c (.int .i64 10000))]⟩,
      ⟨(some 60), none, .pick (.t 56) (.t 59) (.c (.bool false))⟩,
      ⟨(some 4), none, .mv (.t 60)⟩])
     (.reg [⟨(some 61), none, .fa 5 (.t 3)⟩,
      ⟨none, none, .st 1 (.t 61) (.c (.str []))⟩,
      ⟨(some 62), none, .fa 6 (.t 3)⟩,
      ⟨none, none, .st 1 (.t 62) (.c (.str []))⟩,
      ⟨(some 63), none, .fa 3 (.t 3)⟩,
      ⟨none, none, .st 1 (.t 63) (.c (.int .i64 0))⟩]))
     (.seq (.reg [⟨(some 65), none, .bin .eql (.t 45) (.c (.int .i64 3))⟩,
      ⟨(some 64), none, .mv (.t 65)⟩])
     (.cond (.t 64)
       (.seq (.reg [⟨(some 66), none, .mv (.t 4)⟩,
        ⟨(some 67), none, .mv (.t 66)⟩,
        ⟨(some 68), (some (67, true)), .fa 7 (.t 1)⟩,
        ⟨(some 69), (some (67, true)), .ld false 1 (.t 68)⟩,
        ⟨(some 70), (some (67, true)), .lens (.t 69)⟩,
        ⟨(some 71), (some (67, true)), .bin .leq (.t 70) (.c (.int .i64 100))⟩,
        ⟨(some 72), none, .pick (.t 67) (.t 71) (.c (.bool false))⟩,
        ⟨(some 4), none, .mv (.t 72)⟩])
       (.reg [⟨(some 73), none, .fa 7 (.t 3)⟩,
        ⟨none, none, .st 1 (.t 73) (.c (.str []))⟩]))
       (.seq (.seq (.reg [⟨(some 75), none, .bin .eql (.t 45) (.c (.int .i64 2))⟩,
        ⟨(some 74), none, .mv (.t 75)⟩])
       (.cond (.t 74)
         .skip
         (.seq (.reg [⟨(some 76), none, .bin .eql (.t 45) (.c (.int .i64 4))⟩,
          ⟨(some 74), none, .mv (.t 76)⟩])
         (.cond (.t 74)
           .skip
           (.reg [⟨(some 77), none, .bin .eql (.t 45) (.c (.int .i64 5))⟩,
            ⟨(some 74), none, .mv (.t 77)⟩])))))
       (.cond (.t 74)
         .skip
         (.seq (.reg [⟨(some 2), none, .mv (.c (.bool false))⟩])
         .ret)))))))))
  (.seq (.reg [⟨(some 78), none, .mv (.t 4)⟩,
   ⟨(some 79), none, .mv (.t 78)⟩,
   ⟨(some 80), (some (79, true)), .ld true 8 (.t 3)⟩,
   ⟨(some 81), (some (79, true)), .bld [.int .i64 0, .int .i64 0, .int .i64 0, .int .i64 0, .int .i64 0, .str [], .str [], .str []] [(0, 1), (1, 1), (2, 1), (3, 1), (4, 1), (5, 1), (6, 1), (7, 1)] []⟩,
   ⟨(some 82), (some (79, true)), .equ false [(0, 1), (1, 1), (2, 1), (3, 1), (4, 1), (5, 2), (6, 2), (7, 2)] (.t 80) (.t 81)⟩,
   ⟨(some 83), none, .pick (.t 79) (.t 82) (.c (.bool false))⟩,
   ⟨(some 2), none, .mv (.t 83)⟩])
  .ret)))))))))
theorem k_impl_RecOk : FnOk Try.prog 131 84 rc_impl_RecOk [.t 2] := ⟨Try.f131, _, [], Try.func131, rfl, rfl, by kernel_rfl, by kernel_rfl, follows⟩
theorem ok_impl_RecOk : okF Try.prog 131 = true := by kernel_rfl
def rc_impl_ReadRec : RC :=
  (.seq (.reg [⟨(some 2), none, .al [.int .i64 0, .int .i64 0, .int .i64 0, .int .i64 0, .int .i64 0, .str [], .str [], .str []]⟩,
   ⟨(some 3), none, .mv (.c (.bool false))⟩])
  (.seq (.seq (.reg [⟨(some 16), none, .mv (.t 0)⟩,
   ⟨(some 17), none, .bin .eql (.t 16) (.c (.str []))⟩])
  (.cond (.t 17)
    (.seq (.reg [⟨(some 18), none, .bld [.int .i64 0, .int .i64 0, .int .i64 0, .int .i64 0, .int .i64 0, .str [], .str [], .str []] [(0, 1), (1, 1), (2, 1), (3, 1), (4, 1), (5, 1), (6, 1), (7, 1)] []⟩,
     ⟨none, none, .st 8 (.t 2) (.t 18)⟩,
     ⟨(some 3), none, .mv (.c (.bool false))⟩])
    .ret)
    .skip))
  (.seq (.reg [⟨(some 19), none, .mv (.t 0)⟩,
   ⟨(some 20), none, .idx (.t 19) (.c (.int .i64 0))⟩,
   ⟨(some 21), none, .cvi .i64 (.t 20)⟩,
   ⟨(some 22), none, .bld [.int .i64 0, .int .i64 0, .int .i64 0, .int .i64 0, .int .i64 0, .str [], .str [], .str []] [(0, 1), (1, 1), (2, 1), (3, 1), (4, 1), (5, 1), (6, 1), (7, 1)] [(0, (.t 21))]⟩,
   ⟨(some 4), none, .al [.int .i64 0, .int .i64 0, .int .i64 0, .int .i64 0, .int .i64 0, .str [], .str [], .str []]⟩,
   ⟨none, none, .st 8 (.t 4) (.t 22)⟩])
  (.seq (.reg [⟨(some 5), none, .mv (.c (.int .i64 1))⟩])
  (.seq (.seq (.reg [⟨(some 23), none, .fa 1 (.t 4)⟩,
   ⟨(some 24), none, .fa 2 (.t 4)⟩,
   ⟨(some 25), none, .fa 3 (.t 4)⟩,
   ⟨(some 26), none, .fa 4 (.t 4)⟩,
   ⟨(some 27), none, .bs 1 [.und] 4 [(0, (.t 23)), (1, (.t 24)), (2, (.t 25)), (3, (.t 26))]⟩,
   ⟨(some 28), none, .lenl (.t 27)⟩,
   ⟨(some 29), none, .mv (.c (.int .i64 0))⟩])
  (.blk 0 (.loop (.seq (.reg [⟨(some 30), none, .bin .lss (.t 29) (.t 28)⟩])
    (.seq (.cond (.t 30)
      .skip
      (.exit 0))
    (.seq (.blk 1 (.seq (.reg [⟨(some 31), none, .ia 1 (.t 27) (.t 29)⟩,
      ⟨(some 32), none, .ld false 1 (.t 31)⟩,
      ⟨(some 7), none, .mv (.t 32)⟩])
     (.seq (.reg [⟨(some 34), none, .mv (.t 0)⟩,
      ⟨(some 35), none, .mv (.t 5)⟩,
      ⟨(some 36), none, .cl (.c (.fn 155 [])) [(.t 34), (.t 35)]⟩,
      ⟨(some 33), none, .mv (.t 36)⟩,
      ⟨(some 37), none, .ext (.t 33) 0⟩,
      ⟨(some 38), none, .ext (.t 33) 1⟩,
      ⟨(some 39), none, .ext (.t 33) 2⟩,
      ⟨(some 8), none, .mv (.t 37)⟩,
      ⟨(some 9), none, .mv (.t 38)⟩,
      ⟨(some 10), none, .mv (.t 39)⟩])
     (.seq (.seq (.reg [⟨(some 40), none, .mv (.t 10)⟩,
      ⟨(some 41), none, .un .not (.t 40)⟩])
     (.cond (.t 41)
       (.seq (.reg [⟨(some 42), none, .bld [.int .i64 0, .int .i64 0, .int .i64 0, .int .i64 0, .int .i64 0, .str [], .str [], .str []] [(0, 1), (1, 1), (2, 1), (3, 1), (4, 1), (5, 1), (6, 1), (7, 1)] []⟩,
        ⟨none, none, .st 8 (.t 2) (.t 42)⟩,
        ⟨(some 3), none, .mv (.c (.bool false))⟩])
       .ret)
       .skip))
     (.seq (.reg [⟨(some 43), none, .mv (.t 7)⟩,
      ⟨(some 44), none, .mv (.t 8)⟩,
      ⟨(some 45), none, .nc (.t 43)⟩,
      ⟨none, none, .st 1 (.t 45) (.t 44)⟩])
     (.reg [⟨(some 46), none, .mv (.t 9)⟩,
      ⟨(some 5), none, .mv (.t 46)⟩]))))))
    (.reg [⟨(some 47), none, .bin .add (.t 29) (.c (.int .i64 1))⟩,
     ⟨(some 29), none, .mv (.t 47)⟩])))))))
  (.seq (.seq (.reg [⟨(some 48), none, .fa 5 (.t 4)⟩,
   ⟨(some 49), none, .fa 6 (.t 4)⟩,
   ⟨(some 50), none, .fa 7 (.t 4)⟩,
   ⟨(some 51), none, .bs 1 [.und] 3 [(0, (.t 48)), (1, (.t 49)), (2, (.t 50))]⟩,
   ⟨(some 52), none, .lenl (.t 51)⟩,
   ⟨(some 53), none, .mv (.c (.int .i64 0))⟩])
  (.blk 2 (.loop (.seq (.reg [⟨(some 54), none, .bin .lss (.t 53) (.t 52)⟩])
    (.seq (.cond (.t 54)
      .skip
      (.exit 2))
    (.seq (.blk 3 (.seq (.reg [⟨(some 55), none, .ia 1 (.t 51) (.t 53)⟩,
      ⟨(some 56), none, .ld false 1 (.t 55)⟩,
      ⟨(some 12), none, .mv (.t 56)⟩])
     (.seq (.reg [⟨(some 58), none, .mv (.t 0)⟩,
      ⟨(some 59), none, .mv (.t 5)⟩,
      ⟨(some 60), none, .cl (.c (.fn 153 [])) [(.t 58), (.t 59)]⟩,
      ⟨(some 57), none, .mv (.t 60)⟩,
      ⟨(some 61), none, .ext (.t 57) 0⟩,
      ⟨(some 62), none, .ext (.t 57) 1⟩,
      ⟨(some 63), none, .ext (.t 57) 2⟩,
      ⟨(some 13), none, .mv (.t 61)⟩,
      ⟨(some 14), none, .mv (.t 62)⟩,
      ⟨(some 15), none, .mv (.t 63)⟩])
     (.seq (.seq (.reg [⟨(some 64), none, .mv (.t 15)⟩,
      ⟨(some 65), none, .un .not (.t 64)⟩])
     (.cond (.t 65)
       (.seq (.reg [⟨(some 66), none, .bld [.int .i64 0, .int .i64 0, .int .i64 0, .int .i64 0, .int .i64 0, .str [], .str [], .str []] [(0, 1), (1, 1), (2, 1), (3, 1), (4, 1), (5, 1), (6, 1), (7, 1)] []⟩,
        ⟨none, none, .st 8 (.t 2) (.t 66)⟩,
        ⟨(some 3), none, .mv (.c (.bool false))⟩])
       .ret)
       .skip))
     (.seq (.reg [⟨(some 67), none, .mv (.t 12)⟩,
      ⟨(some 68), none, .mv (.t 13)⟩,
      ⟨(some 69), none, .nc (.t 67)⟩,
      ⟨none, none, .st 1 (.t 69) (.t 68)⟩])
     (.reg [⟨(some 70), none, .mv (.t 14)⟩,
      ⟨(some 5), none, .mv (.t 70)⟩]))))))
    (.reg [⟨(some 71), none, .bin .add (.t 53) (.c (.int .i64 1))⟩,
     ⟨(some 53), none, .mv (.t 71)⟩])))))))
  (.seq (.seq (.reg [⟨(some 72), none, .mv (.t 5)⟩,
   ⟨(some 73), none, .mv (.t 0)⟩,
   ⟨(some 74), none, .lens (.t 73)⟩,
   ⟨(some 75), none, .bin .neq (.t 72) (.t 74)⟩,
   ⟨(some 76), none, .mv (.t 75)⟩,
   ⟨(some 77), (some (76, false)), .ld true 8 (.t 4)⟩,
   ⟨(some 78), (some (76, false)), .cl (.c (.fn 131 [])) [(.t 77)]⟩,
   ⟨(some 79), (some (76, false)), .un .not (.t 78)⟩,
   ⟨(some 80), none, .pick (.t 76) (.c (.bool true)) (.t 79)⟩])
  (.cond (.t 80)
    (.seq (.reg [⟨(some 81), none, .bld [.int .i64 0, .int .i64 0, .int .i64 0, .int .i64 0, .int .i64 0, .str [], .str [], .str []] [(0, 1), (1, 1), (2, 1), (3, 1), (4, 1), (5, 1), (6, 1), (7, 1)] []⟩,
     ⟨none, none, .st 8 (.t 2) (.t 81)⟩,
     ⟨(some 3), none, .mv (.c (.bool false))⟩])
    .ret)
    .skip))
  (.seq (.reg [⟨(some 82), none, .ld true 8 (.t 4)⟩,
   ⟨none, none, .st 8 (.t 2) (.t 82)⟩,
   ⟨(some 3), none, .mv (.c (.bool true))⟩])
  .ret))))))))
theorem k_impl_ReadRec : FnOk Try.prog 179 83 rc_impl_ReadRec [.cell 2 true 8, .t 3] := ⟨Try.f179, _, [], Try.func179, rfl, rfl, by kernel_rfl, by kernel_rfl, follows⟩
theorem ok_impl_ReadRec : okF Try.prog 179 = true := by kernel_rfl
def rc_impl_FrameItem : RC :=
  (.seq (.reg [⟨(some 1), none, .bx (.t 0)⟩,
   ⟨(some 2), none, .al [.int .i64 0, .int .i64 0, .int .i64 0, .int .i64 0, .int .i64 0, .int .i64 0, .str [], .str [], .str []]⟩,
   ⟨(some 3), none, .mv (.c (.bool false))⟩])
  (.seq (.reg [⟨(some 7), none, .fa 2 (.t 1)⟩,
   ⟨(some 8), none, .ld false 1 (.t 7)⟩,
   ⟨(some 9), none, .cl (.c (.fn 179 [])) [(.t 8)]⟩,
   ⟨(some 6), none, .mv (.t 9)⟩,
   ⟨(some 10), none, .ext (.t 6) 0⟩,
   ⟨(some 11), none, .ext (.t 6) 1⟩,
   ⟨(some 4), none, .al [.int .i64 0, .int .i64 0, .int .i64 0, .int .i64 0, .int .i64 0, .str [], .str [], .str []]⟩,
   ⟨none, none, .st 8 (.t 4) (.t 10)⟩,
   ⟨(some 5), none, .mv (.t 11)⟩])
  (.seq (.seq (.reg [⟨(some 12), none, .mv (.t 5)⟩,
   ⟨(some 13), none, .un .not (.t 12)⟩,
   ⟨(some 14), none, .mv (.t 13)⟩,
   ⟨(some 15), (some (14, false)), .ld true 3 (.t 1)⟩,
   ⟨(some 16), (some (14, false)), .cl (.c (.fn 180 [])) [(.t 15)]⟩,
   ⟨(some 17), (some (14, false)), .un .not (.t 16)⟩,
   ⟨(some 18), none, .pick (.t 14) (.c (.bool true)) (.t 17)⟩])
  (.cond (.t 18)
    (.seq (.reg [⟨(some 19), none, .bld [.int .i64 0, .int .i64 0, .int .i64 0, .int .i64 0, .int .i64 0, .int .i64 0, .str [], .str [], .str []] [(0, 1), (1, 8)] []⟩,
     ⟨none, none, .st 9 (.t 2) (.t 19)⟩,
     ⟨(some 3), none, .mv (.c (.bool false))⟩])
    .ret)
    .skip))
  (.seq (.reg [⟨(some 20), none, .fa 1 (.t 1)⟩,
   ⟨(some 21), none, .ld false 1 (.t 20)⟩,
   ⟨(some 22), none, .ld true 8 (.t 4)⟩,
   ⟨(some 23), none, .bld [.int .i64 0, .int .i64 0, .int .i64 0, .int .i64 0, .int .i64 0, .int .i64 0, .str [], .str [], .str []] [(0, 1), (1, 8)] [(0, (.t 21)), (1, (.t 22))]⟩,
   ⟨none, none, .st 9 (.t 2) (.t 23)⟩,
   ⟨(some 3), none, .mv (.c (.bool true))⟩])
  .ret))))
theorem k_impl_FrameItem : FnOk Try.prog 111 24 rc_impl_FrameItem [.cell 2 true 9, .t 3] := ⟨Try.f111, _, [], Try.func111, rfl, rfl, by kernel_rfl, by kernel_rfl, follows⟩
theorem ok_impl_FrameItem : okF Try.prog 111 = true := by kernel_rfl
def rc_impl_SegOf : RC :=
  (.seq (.reg [⟨(some 2), none, .bx (.t 0)⟩,
   ⟨(some 4), none, .al [.int .i64 0, .int .i64 0, .int .i64 0, .nils]⟩])
  (.seq (.reg [⟨(some 13), none, .ld true 2 (.t 2)⟩,
   ⟨(some 14), none, .mv (.t 1)⟩,
   ⟨(some 15), none, .cl (.c (.fn 109 [])) [(.t 13), (.t 14)]⟩,
   ⟨(some 12), none, .mv (.t 15)⟩,
   ⟨(some 16), none, .ext (.t 12) 0⟩,
   ⟨(some 17), none, .ext (.t 12) 1⟩,
   ⟨(some 5), none, .mv (.t 16)⟩,
   ⟨(some 6), none, .mv (.t 17)⟩])
  (.seq (.reg [⟨(some 18), none, .mv (.t 1)⟩,
   ⟨(some 19), none, .ld true 2 (.t 2)⟩,
   ⟨(some 20), none, .mv (.t 1)⟩,
   ⟨(some 21), none, .cl (.c (.fn 110 [])) [(.t 19), (.t 20)]⟩,
   ⟨(some 22), none, .mv (.t 6)⟩,
   ⟨(some 23), none, .bld [.int .i64 0, .int .i64 0, .int .i64 0, .nils] [(0, 1), (1, 1), (2, 1), (3, 1)] [(0, (.t 18)), (1, (.t 21)), (2, (.t 22))]⟩,
   ⟨(some 7), none, .al [.int .i64 0, .int .i64 0, .int .i64 0, .nils]⟩,
   ⟨none, none, .st 4 (.t 7) (.t 23)⟩])
  (.seq (.seq (.reg [⟨(some 24), none, .mv (.t 5)⟩,
   ⟨(some 25), none, .lenl (.t 24)⟩,
   ⟨(some 26), none, .mv (.c (.int .i64 0))⟩])
  (.blk 0 (.loop (.seq (.reg [⟨(some 27), none, .bin .lss (.t 26) (.t 25)⟩])
    (.seq (.cond (.t 27)
      .skip
      (.exit 0))
    (.seq (.blk 1 (.seq (.reg [⟨(some 28), none, .ia 3 (.t 24) (.t 26)⟩,
      ⟨(some 29), none, .ld true 3 (.t 28)⟩,
      ⟨(some 9), none, .al [.int .i64 0, .int .i64 0, .str []]⟩,
      ⟨none, none, .st 3 (.t 9) (.t 29)⟩])
     (.seq (.reg [⟨(some 31), none, .ld true 3 (.t 9)⟩,
      ⟨(some 32), none, .cl (.c (.fn 111 [])) [(.t 31)]⟩,
      ⟨(some 30), none, .mv (.t 32)⟩,
      ⟨(some 33), none, .ext (.t 30) 0⟩,
      ⟨(some 34), none, .ext (.t 30) 1⟩,
      ⟨(some 10), none, .al [.int .i64 0, .int .i64 0, .int .i64 0, .int .i64 0, .int .i64 0, .int .i64 0, .str [], .str [], .str []]⟩,
      ⟨none, none, .st 9 (.t 10) (.t 33)⟩,
      ⟨(some 11), none, .mv (.t 34)⟩])
     (.seq (.reg [⟨(some 35), none, .mv (.t 11)⟩])
     (.cond (.t 35)
       (.reg [⟨(some 36), none, .fa 3 (.t 7)⟩,
        ⟨(some 37), none, .ld false 1 (.t 36)⟩,
        ⟨(some 38), none, .ld true 9 (.t 10)⟩,
        ⟨(some 39), none, .bs 9 [.int .i64 0, .int .i64 0, .int .i64 0, .int .i64 0, .int .i64 0, .int .i64 0, .str [], .str [], .str []] 1 [(0, (.t 38))]⟩,
        ⟨(some 40), none, .app 9 96 (.t 37) (.t 39)⟩,
        ⟨(some 41), none, .fa 3 (.t 7)⟩,
        ⟨none, none, .st 1 (.t 41) (.t 40)⟩])
       .skip)))))
    (.reg [⟨(some 42), none, .bin .add (.t 26) (.c (.int .i64 1))⟩,
     ⟨(some 26), none, .mv (.t 42)⟩])))))))
  (.seq (.reg [⟨(some 43), none, .ld true 4 (.t 7)⟩,
   ⟨none, none, .st 4 (.t 4) (.t 43)⟩])
  .ret)))))
theorem k_impl_SegOf : FnOk Try.prog 52 44 rc_impl_SegOf [.cell 4 true 4] := ⟨Try.f52, _, [], Try.func52, rfl, rfl, by kernel_rfl, by kernel_rfl, follows⟩
theorem ok_impl_SegOf : okF Try.prog 52 = true := by kernel_rfl
def rc_laws_eqRec : RC :=
  (.seq (.reg [⟨(some 2), none, .bx (.t 0)⟩,
   ⟨(some 3), none, .bx (.t 1)⟩,
   ⟨(some 4), none, .mv (.c (.bool false))⟩])
  (.seq (.seq (.reg [⟨(some 5), none, .fa 0 (.t 2)⟩,
   ⟨(some 6), none, .ld false 1 (.t 5)⟩,
   ⟨(some 7), none, .fa 0 (.t 3)⟩,
   ⟨(some 8), none, .ld false 1 (.t 7)⟩,
   ⟨(some 9), none, .bin .neq (.t 6) (.t 8)⟩])
  (.cond (.t 9)
    (.seq (.reg [⟨(some 4), none, .mv (.c (.bool false))⟩])
    .ret)
    .skip))
  (.seq (.seq (.reg [⟨(some 10), none, .fa 1 (.t 2)⟩,
   ⟨(some 11), none, .ld false 1 (.t 10)⟩,
   ⟨(some 12), none, .fa 1 (.t 3)⟩,
   ⟨(some 13), none, .ld false 1 (.t 12)⟩,
   ⟨(some 14), none, .bin .neq (.t 11) (.t 13)⟩])
  (.cond (.t 14)
    (.seq (.reg [⟨(some 4), none, .mv (.c (.bool false))⟩])
    .ret)
    .skip))
  (.seq (.seq (.reg [⟨(some 15), none, .fa 2 (.t 2)⟩,
   ⟨(some 16), none, .ld false 1 (.t 15)⟩,
   ⟨(some 17), none, .fa 2 (.t 3)⟩,
   ⟨(some 18), none, .ld false 1 (.t 17)⟩,
   ⟨(some 19), none, .bin .neq (.t 16) (.t 18)⟩])
  (.cond (.t 19)
    (.seq (.reg [⟨(some 4), none, .mv (.c (.bool false))⟩])
    .ret)
    .skip))
  (.seq (.seq (.reg [⟨(some 20), none, .fa 3 (.t 2)⟩,
   ⟨(some 21), none, .ld false 1 (.t 20)⟩,
   ⟨(some 22), none, .fa 3 (.t 3)⟩,
   ⟨(some 23), none, .ld false 1 (.t 22)⟩,
   ⟨(some 24), none, .bin .neq (.t 21) (.t 23)⟩])
  (.cond (.t 24)
    (.seq (.reg [⟨(some 4), none, .mv (.c (.bool false))⟩])
    .ret)
    .skip))
  (.seq (.seq (.reg [⟨(some 25), none, .fa 4 (.t 2)⟩,
   ⟨(some 26), none, .ld false 1 (.t 25)⟩,
   ⟨(some 27), none, .fa 4 (.t 3)⟩,
   ⟨(some 28), none, .ld false 1 (.t 27)⟩,
   ⟨(some 29), none, .bin .neq (.t 26) (.t 28)⟩])
  (.cond (.t 29)
    (.seq (.reg [⟨(some 4), none, .mv (.c (.bool false))⟩])
    .ret)
    .skip))
  (.seq (.seq (.reg [⟨(some 30), none, .fa 5 (.t 2)⟩,
   ⟨(some 31), none, .ld false 1 (.t 30)⟩,
   ⟨(some 32), none, .fa 5 (.t 3)⟩,
   ⟨(some 33), none, .ld false 1 (.t 32)⟩,
   ⟨(some 34), none, .bin .neq (.t 31) (.t 33)⟩])
  (.cond (.t 34)
    (.seq (.reg [⟨(some 4), none, .mv (.c (.bool false))⟩])
    .ret)
    .skip))
  (.seq (.seq (.reg [⟨(some 35), none, .fa 6 (.t 2)⟩,
   ⟨(some 36), none, .ld false 1 (.t 35)⟩,
   ⟨(some 37), none, .fa 6 (.t 3)⟩,
   ⟨(some 38), none, .ld false 1 (.t 37)⟩,
   ⟨(some 39), none, .bin .neq (.t 36) (.t 38)⟩])
  (.cond (.t 39)
    (.seq (.reg [⟨(some 4), none, .mv (.c (.bool false))⟩])
    .ret)
    .skip))
  (.seq (.seq (.reg [⟨(some 40), none, .fa 7 (.t 2)⟩,
   ⟨(some 41), none, .ld false 1 (.t 40)⟩,
   ⟨(some 42), none, .fa 7 (.t 3)⟩,
   ⟨(some 43), none, .ld false 1 (.t 42)⟩,
   ⟨(some 44), none, .bin .neq (.t 41) (.t 43)⟩])
  (.cond (.t 44)
    (.seq (.reg [⟨(some 4), none, .mv (.c (.bool false))⟩])
    .ret)
    .skip))
  (.seq (.reg [⟨(some 4), none, .mv (.c (.bool true))⟩])
  .ret))))))))))
theorem k_laws_eqRec : FnOk Try.prog 143 45 rc_laws_eqRec [.t 4] := ⟨Try.f143, _, [], Try.func143, rfl, rfl, by kernel_rfl, by kernel_rfl, follows⟩
theorem ok_laws_eqRec : okF Try.prog 143 = true := by kernel_rfl
def rc_laws_eqItem : RC :=
  (.seq (.reg [⟨(some 2), none, .bx (.t 0)⟩,
   ⟨(some 3), none, .bx (.t 1)⟩,
   ⟨(some 4), none, .mv (.c (.bool false))⟩])
  (.seq (.seq (.reg [⟨(some 5), none, .fa 0 (.t 2)⟩,
   ⟨(some 6), none, .ld false 1 (.t 5)⟩,
   ⟨(some 7), none, .fa 0 (.t 3)⟩,
   ⟨(some 8), none, .ld false 1 (.t 7)⟩,
   ⟨(some 9), none, .bin .neq (.t 6) (.t 8)⟩])
  (.cond (.t 9)
    (.seq (.reg [⟨(some 4), none, .mv (.c (.bool false))⟩])
    .ret)
    .skip))
  (.seq (.seq (.reg [⟨(some 10), none, .fa 1 (.t 2)⟩,
   ⟨(some 11), none, .ld true 8 (.t 10)⟩,
   ⟨(some 12), none, .fa 1 (.t 3)⟩,
   ⟨(some 13), none, .ld true 8 (.t 12)⟩,
   ⟨(some 14), none, .cl (.c (.fn 143 [])) [(.t 11), (.t 13)]⟩,
   ⟨(some 15), none, .un .not (.t 14)⟩])
  (.cond (.t 15)
    (.seq (.reg [⟨(some 4), none, .mv (.c (.bool false))⟩])
    .ret)
    .skip))
  (.seq (.reg [⟨(some 4), none, .mv (.c (.bool true))⟩])
  .ret))))
theorem k_laws_eqItem : FnOk Try.prog 73 16 rc_laws_eqItem [.t 4] := ⟨Try.f73, _, [], Try.func73, rfl, rfl, by kernel_rfl, by kernel_rfl, follows⟩
theorem ok_laws_eqItem : okF Try.prog 73 = true := by kernel_rfl
def rc_laws_eqItemS : RC :=
  (.seq (.reg [⟨(some 4), none, .mv (.c (.bool false))⟩])
  (.seq (.seq (.reg [⟨(some 6), none, .mv (.t 0)⟩,
   ⟨(some 7), none, .lenl (.t 6)⟩,
   ⟨(some 8), none, .mv (.t 1)⟩,
   ⟨(some 9), none, .lenl (.t 8)⟩,
   ⟨(some 10), none, .bin .neq (.t 7) (.t 9)⟩])
  (.cond (.t 10)
    (.seq (.reg [⟨(some 4), none, .mv (.c (.bool false))⟩])
    .ret)
    .skip))
  (.seq (.seq (.reg [⟨(some 5), none, .mv (.c (.int .i64 0))⟩])
  (.blk 0 (.loop (.seq (.seq (.reg [⟨(some 11), none, .mv (.t 5)⟩,
     ⟨(some 12), none, .mv (.t 0)⟩,
     ⟨(some 13), none, .lenl (.t 12)⟩,
     ⟨(some 14), none, .bin .lss (.t 11) (.t 13)⟩])
    (.cond (.t 14)
      .skip
      (.exit 0)))
    (.seq (.blk 1 (.seq (.drw [⟨(some 17), none, .mv (.t 0)⟩,
      ⟨(some 18), none, .mv (.t 5)⟩,
      ⟨(some 19), none, .ia 9 (.t 17) (.t 18)⟩,
      ⟨(some 20), none, .ld true 9 (.t 19)⟩,
      ⟨(some 21), none, .mv (.t 1)⟩,
      ⟨(some 22), none, .mv (.t 5)⟩,
      ⟨(some 23), none, .ia 9 (.t 21) (.t 22)⟩,
      ⟨(some 24), none, .ld true 9 (.t 23)⟩,
      ⟨(some 25), none, .cl (.c (.fn 73 [])) [(.t 20), (.t 24)]⟩,
      ⟨(some 26), none, .un .not (.t 25)⟩] [.val [], .val [], .val [], .val [], .val [], .val [], .val [], .val [], .val [], .val []])
     (.cond (.t 26)
       (.seq (.reg [⟨(some 4), none, .mv (.c (.bool false))⟩])
       .ret)
       .skip)))
    (.reg [⟨(some 15), none, .mv (.t 5)⟩,
     ⟨(some 16), none, .bin .add (.t 15) (.c (.int .i64 1))⟩,
     ⟨(some 5), none, .mv (.t 16)⟩]))))))
  (.seq (.reg [⟨(some 4), none, .mv (.c (.bool true))⟩])
  .ret))))
theorem k_laws_eqItemS : FnOk Try.prog 22 27 rc_laws_eqItemS [.t 4] := ⟨Try.f22, _, [], Try.func22, rfl, rfl, by kernel_rfl, by kernel_rfl, follows⟩
theorem ok_laws_eqItemS : okF Try.prog 22 = true := by kernel_rfl
def rc_laws_eqSeg : RC :=
  (.seq (.reg [⟨(some 2), none, .bx (.t 0)⟩,
   ⟨(some 3), none, .bx (.t 1)⟩,
   ⟨(some 4), none, .mv (.c (.bool false))⟩])
  (.seq (.seq (.reg [⟨(some 5), none, .fa 0 (.t 2)⟩,
   ⟨(some 6), none, .ld false 1 (.t 5)⟩,
   ⟨(some 7), none, .fa 0 (.t 3)⟩,
   ⟨(some 8), none, .ld false 1 (.t 7)⟩,
   ⟨(some 9), none, .bin .neq (.t 6) (.t 8)⟩])
  (.cond (.t 9)
    (.seq (.reg [⟨(some 4), none, .mv (.c (.bool false))⟩])
    .ret)
    .skip))
  (.seq (.seq (.reg [⟨(some 10), none, .fa 1 (.t 2)⟩,
   ⟨(some 11), none, .ld false 1 (.t 10)⟩,
   ⟨(some 12), none, .fa 1 (.t 3)⟩,
   ⟨(some 13), none, .ld false 1 (.t 12)⟩,
   ⟨(some 14), none, .bin .neq (.t 11) (.t 13)⟩])
  (.cond (.t 14)
    (.seq (.reg [⟨(some 4), none, .mv (.c (.bool false))⟩])
    .ret)
    .skip))
  (.seq (.seq (.reg [⟨(some 15), none, .fa 2 (.t 2)⟩,
   ⟨(some 16), none, .ld false 1 (.t 15)⟩,
   ⟨(some 17), none, .fa 2 (.t 3)⟩,
   ⟨(some 18), none, .ld false 1 (.t 17)⟩,
   ⟨(some 19), none, .bin .neq (.t 16) (.t 18)⟩])
  (.cond (.t 19)
    (.seq (.reg [⟨(some 4), none, .mv (.c (.bool false))⟩])
    .ret)
    .skip))
  (.seq (.seq (.reg [⟨(some 20), none, .fa 3 (.t 2)⟩,
   ⟨(some 21), none, .ld false 1 (.t 20)⟩,
   ⟨(some 22), none, .fa 3 (.t 3)⟩,
   ⟨(some 23), none, .ld false 1 (.t 22)⟩,
   ⟨(some 24), none, .cl (.c (.fn 22 [])) [(.t 21), (.t 23)]⟩,
   ⟨(some 25), none, .un .not (.t 24)⟩])
  (.cond (.t 25)
    (.seq (.reg [⟨(some 4), none, .mv (.c (.bool false))⟩])
    .ret)
    .skip))
  (.seq (.reg [⟨(some 4), none, .mv (.c (.bool true))⟩])
  .ret))))))
theorem k_laws_eqSeg : FnOk Try.prog 53 26 rc_laws_eqSeg [.t 4] := ⟨Try.f53, _, [], Try.func53, rfl, rfl, by kernel_rfl, by kernel_rfl, follows⟩
theorem ok_laws_eqSeg : okF Try.prog 53 = true := by kernel_rfl
def rc_laws_markItemS : RC :=
  (.seq (.reg [⟨(some 4), none, .mv (.c (.int .i64 0))⟩])
  (.seq (.seq (.reg [⟨(some 5), none, .mv (.c (.int .i64 0))⟩])
  (.blk 0 (.loop (.seq (.seq (.reg [⟨(some 6), none, .mv (.t 5)⟩,
     ⟨(some 7), none, .mv (.t 0)⟩,
     ⟨(some 8), none, .lenl (.t 7)⟩,
     ⟨(some 9), none, .bin .lss (.t 6) (.t 8)⟩])
    (.cond (.t 9)
      .skip
      (.exit 0)))
    (.seq (.blk 1 (.seq (.reg [⟨(some 12), none, .mv (.t 0)⟩,
      ⟨(some 13), none, .mv (.t 5)⟩,
      ⟨(some 14), none, .mv (.t 1)⟩,
      ⟨(some 15), none, .ia 9 (.t 12) (.t 13)⟩,
      ⟨(some 16), none, .fa 0 (.t 15)⟩,
      ⟨none, none, .st 1 (.t 16) (.t 14)⟩])
     (.seq (.reg [⟨(some 17), none, .mv (.t 1)⟩,
      ⟨(some 18), none, .bin .add (.t 17) (.c (.int .i64 1))⟩,
      ⟨(some 1), none, .mv (.t 18)⟩])
     (.seq (.reg [⟨(some 19), none, .mv (.t 0)⟩,
      ⟨(some 20), none, .mv (.t 5)⟩,
      ⟨(some 21), none, .mv (.t 1)⟩,
      ⟨(some 22), none, .ia 9 (.t 19) (.t 20)⟩,
      ⟨(some 23), none, .fa 1 (.t 22)⟩,
      ⟨(some 24), none, .fa 0 (.t 23)⟩,
      ⟨none, none, .st 1 (.t 24) (.t 21)⟩])
     (.seq (.reg [⟨(some 25), none, .mv (.t 1)⟩,
      ⟨(some 26), none, .bin .add (.t 25) (.c (.int .i64 1))⟩,
      ⟨(some 1), none, .mv (.t 26)⟩])
     (.seq (.reg [⟨(some 27), none, .mv (.t 0)⟩,
      ⟨(some 28), none, .mv (.t 5)⟩,
      ⟨(some 29), none, .mv (.t 1)⟩,
      ⟨(some 30), none, .ia 9 (.t 27) (.t 28)⟩,
      ⟨(some 31), none, .fa 1 (.t 30)⟩,
      ⟨(some 32), none, .fa 1 (.t 31)⟩,
      ⟨none, none, .st 1 (.t 32) (.t 29)⟩])
     (.seq (.reg [⟨(some 33), none, .mv (.t 1)⟩,
      ⟨(some 34), none, .bin .add (.t 33) (.c (.int .i64 1))⟩,
      ⟨(some 1), none, .mv (.t 34)⟩])
     (.seq (.reg [⟨(some 35), none, .mv (.t 0)⟩,
      ⟨(some 36), none, .mv (.t 5)⟩,
      ⟨(some 37), none, .mv (.t 1)⟩,
      ⟨(some 38), none, .ia 9 (.t 35) (.t 36)⟩,
      ⟨(some 39), none, .fa 1 (.t 38)⟩,
      ⟨(some 40), none, .fa 2 (.t 39)⟩,
      ⟨none, none, .st 1 (.t 40) (.t 37)⟩])
     (.seq (.reg [⟨(some 41), none, .mv (.t 1)⟩,
      ⟨(some 42), none, .bin .add (.t 41) (.c (.int .i64 1))⟩,
      ⟨(some 1), none, .mv (.t 42)⟩])
     (.seq (.reg [⟨(some 43), none, .mv (.t 0)⟩,
      ⟨(some 44), none, .mv (.t 5)⟩,
      ⟨(some 45), none, .mv (.t 1)⟩,
      ⟨(some 46), none, .ia 9 (.t 43) (.t 44)⟩,
      ⟨(some 47), none, .fa 1 (.t 46)⟩,
      ⟨(some 48), none, .fa 3 (.t 47)⟩,
      ⟨none, none, .st 1 (.t 48) (.t 45)⟩])
     (.seq (.reg [⟨(some 49), none, .mv (.t 1)⟩,
      ⟨(some 50), none, .bin .add (.t 49) (.c (.int .i64 1))⟩,
      ⟨(some 1), none, .mv (.t 50)⟩])
     (.seq (.reg [⟨(some 51), none, .mv (.t 0)⟩,
      ⟨(some 52), none, .mv (.t 5)⟩,
      ⟨(some 53), none, .mv (.t 1)⟩,
      ⟨(some 54), none, .ia 9 (.t 51) (.t 52)⟩,
      ⟨(some 55), none, .fa 1 (.t 54)⟩,
      ⟨(some 56), none, .fa 4 (.t 55)⟩,
      ⟨none, none, .st 1 (.t 56) (.t 53)⟩])
     (.seq (.reg [⟨(some 57), none, .mv (.t 1)⟩,
      ⟨(some 58), none, .bin .add (.t 57) (.c (.int .i64 1))⟩,
      ⟨(some 1), none, .mv (.t 58)⟩])
     (.seq (.reg [⟨(some 59), none, .mv (.t 0)⟩,
      ⟨(some 60), none, .mv (.t 5)⟩,
      ⟨(some 61), none, .mv (.t 1)⟩,
      ⟨(some 62), none, .cl (.c (.fn 74 [])) [(.t 61)]⟩,
      ⟨(some 63), none, .ia 9 (.t 59) (.t 60)⟩,
      ⟨(some 64), none, .fa 1 (.t 63)⟩,
      ⟨(some 65), none, .fa 5 (.t 64)⟩,
      ⟨none, none, .st 1 (.t 65) (.t 62)⟩])
     (.seq (.reg [⟨(some 66), none, .mv (.t 1)⟩,
      ⟨(some 67), none, .bin .add (.t 66) (.c (.int .i64 1))⟩,
      ⟨(some 1), none, .mv (.t 67)⟩])
     (.seq (.reg [⟨(some 68), none, .mv (.t 0)⟩,
      ⟨(some 69), none, .mv (.t 5)⟩,
      ⟨(some 70), none, .mv (.t 1)⟩,
      ⟨(some 71), none, .cl (.c (.fn 74 [])) [(.t 70)]⟩,
      ⟨(some 72), none, .ia 9 (.t 68) (.t 69)⟩,
      ⟨(some 73), none, .fa 1 (.t 72)⟩,
      ⟨(some 74), none, .fa 6 (.t 73)⟩,
      ⟨none, none, .st 1 (.t 74) (.t 71)⟩])
     (.seq (.reg [⟨(some 75), none, .mv (.t 1)⟩,
      ⟨(some 76), none, .bin .add (.t 75) (.c (.int .i64 1))⟩,
      ⟨(some 1), none, .mv (.t 76)⟩])
     (.seq (.reg [⟨(some 77), none, .mv (.t 0)⟩,
      ⟨(some 78), none, .mv (.t 5)⟩,
      ⟨(some 79), none, .mv (.t 1)⟩,
      ⟨(some 80), none, .cl (.c (.fn 74 [])) [(.t 79)]⟩,
      ⟨(some 81), none, .ia 9 (.t 77) (.t 78)⟩,
      ⟨(some 82), none, .fa 1 (.t 81)⟩,
      ⟨(some 83), none, .fa 7 (.t 82)⟩,
      ⟨none, none, .st 1 (.t 83) (.t 80)⟩])
     (.reg [⟨(some 84), none, .mv (.t 1)⟩,
      ⟨(some 85), none, .bin .add (.t 84) (.c (.int .i64 1))⟩,
      ⟨(some 1), none, .mv (.t 85)⟩])))))))))))))))))))
    (.reg [⟨(some 10), none, .mv (.t 5)⟩,
     ⟨(some 11), none, .bin .add (.t 10) (.c (.int .i64 1))⟩,
     ⟨(some 5), none, .mv (.t 11)⟩]))))))
  (.seq (.reg [⟨(some 86), none, .mv (.t 1)⟩,
   ⟨(some 4), none, .mv (.t 86)⟩])
  .ret)))
theorem k_laws_markItemS : FnOk Try.prog 23 87 rc_laws_markItemS [.t 4] := ⟨Try.f23, _, [], Try.func23, rfl, rfl, by kernel_rfl, by kernel_rfl, follows⟩
theorem ok_laws_markItemS : okF Try.prog 23 = true := by kernel_rfl
def rc_laws_markSeg : RC :=
  (.seq (.reg [⟨(some 2), none, .bx (.t 0)⟩,
   ⟨(some 4), none, .mv (.c (.int .i64 0))⟩])
  (.seq (.reg [⟨(some 5), none, .fa 3 (.t 2)⟩,
   ⟨(some 6), none, .ld false 1 (.t 5)⟩,
   ⟨(some 7), none, .mv (.t 1)⟩,
   ⟨(some 8), none, .cl (.c (.fn 23 [])) [(.t 6), (.t 7)]⟩,
   ⟨(some 1), none, .mv (.t 8)⟩])
  (.seq (.reg [⟨(some 9), none, .mv (.t 1)⟩,
   ⟨(some 4), none, .mv (.t 9)⟩])
  .ret)))
theorem k_laws_markSeg : FnOk Try.prog 54 10 rc_laws_markSeg [.t 4] := ⟨Try.f54, _, [], Try.func54, rfl, rfl, by kernel_rfl, by kernel_rfl, follows⟩
theorem ok_laws_markSeg : okF Try.prog 54 = true := by kernel_rfl
def rc_laws_heldItemS : RC :=
  (.seq (.reg [⟨(some 4), none, .mv (.c (.int .i64 0))⟩])
  (.seq (.seq (.reg [⟨(some 5), none, .mv (.c (.int .i64 0))⟩])
  (.blk 0 (.loop (.seq (.seq (.reg [⟨(some 6), none, .mv (.t 5)⟩,
     ⟨(some 7), none, .mv (.t 0)⟩,
     ⟨(some 8), none, .lenl (.t 7)⟩,
     ⟨(some 9), none, .bin .lss (.t 6) (.t 8)⟩])
    (.cond (.t 9)
      .skip
      (.exit 0)))
    (.seq (.blk 1 (.seq (.seq (.reg [⟨(some 12), none, .mv (.t 0)⟩,
      ⟨(some 13), none, .mv (.t 5)⟩,
      ⟨(some 14), none, .ia 9 (.t 12) (.t 13)⟩,
      ⟨(some 15), none, .fa 0 (.t 14)⟩,
      ⟨(some 16), none, .ld false 1 (.t 15)⟩,
      ⟨(some 17), none, .mv (.t 1)⟩,
      ⟨(some 18), none, .bin .neq (.t 16) (.t 17)⟩])
     (.cond (.t 18)
       (.seq (.reg [⟨(some 4), none, .mv (.c (.int .i64 (-1)))⟩])
       .ret)
       .skip))
     (.seq (.reg [⟨(some 19), none, .mv (.t 1)⟩,
      ⟨(some 20), none, .bin .add (.t 19) (.c (.int .i64 1))⟩,
      ⟨(some 1), none, .mv (.t 20)⟩])
     (.seq (.seq (.reg [⟨(some 21), none, .mv (.t 0)⟩,
      ⟨(some 22), none, .mv (.t 5)⟩,
      ⟨(some 23), none, .ia 9 (.t 21) (.t 22)⟩,
      ⟨(some 24), none, .fa 1 (.t 23)⟩,
      ⟨(some 25), none, .fa 0 (.t 24)⟩,
      ⟨(some 26), none, .ld false 1 (.t 25)⟩,
      ⟨(some 27), none, .mv (.t 1)⟩,
      ⟨(some 28), none, .bin .neq (.t 26) (.t 27)⟩])
     (.cond (.t 28)
       (.seq (.reg [⟨(some 4), none, .mv (.c (.int .i64 (-1)))⟩])
       .ret)
       .skip))
     (.seq (.reg [⟨(some 29), none, .mv (.t 1)⟩,
      ⟨(some 30), none, .bin .add (.t 29) (.c (.int .i64 1))⟩,
      ⟨(some 1), none, .mv (.t 30)⟩])
     (.seq (.seq (.reg [⟨(some 31), none, .mv (.t 0)⟩,
      ⟨(some 32), none, .mv (.t 5)⟩,
      ⟨(some 33), none, .ia 9 (.t 31) (.t 32)⟩,
      ⟨(some 34), none, .fa 1 (.t 33)⟩,
      ⟨(some 35), none, .fa 1 (.t 34)⟩,
      ⟨(some 36), none, .ld false 1 (.t 35)⟩,
      ⟨(some 37), none, .mv (.t 1)⟩,
      ⟨(some 38), none, .bin .neq (.t 36) (.t 37)⟩])
     (.cond (.t 38)
       (.seq (.reg [⟨(some 4), none, .mv (.c (.int .i64 (-1)))⟩])
       .ret)
       .skip))
     (.seq (.reg [⟨(some 39), none, .mv (.t 1)⟩,
      ⟨(some 40), none, .bin .add (.t 39) (.c (.int .i64 1))⟩,
      ⟨(some 1), none, .mv (.t 40)⟩])
     (.seq (.seq (.reg [⟨(some 41), none, .mv (.t 0)⟩,
      ⟨(some 42), none, .mv (.t 5)⟩,
      ⟨(some 43), none, .ia 9 (.t 41) (.t 42)⟩,
      ⟨(some 44), none, .fa 1 (.t 43)⟩,
      ⟨(some 45), none, .fa 2 (.t 44)⟩,
      ⟨(some 46), none, .ld false 1 (.t 45)⟩,
      ⟨(some 47), none, .mv (.t 1)⟩,
      ⟨(some 48), none, .bin .neq (.t 46) (.t 47)⟩])
     (.cond (.t 48)
       (.seq (.reg [⟨(some 4), none, .mv (.c (.int .i64 (-1)))⟩])
       .ret)
       .skip))
     (.seq (.reg [⟨(some 49), none, .mv (.t 1)⟩,
      ⟨(some 50), none, .bin .add (.t 49) (.c (.int .i64 1))⟩,
      ⟨(some 1), none, .mv (.t 50)⟩])
     (.seq (.seq (.reg [⟨(some 51), none, .mv (.t 0)⟩,
      ⟨(some 52), none, .mv (.t 5)⟩,
      ⟨(some 53), none, .ia 9 (.t 51) (.t 52)⟩,
      ⟨(some 54), none, .fa 1 (.t 53)⟩,
      ⟨(some 55), none, .fa 3 (.t 54)⟩,
      ⟨(some 56), none, .ld false 1 (.t 55)⟩,
      ⟨(some 57), none, .mv (.t 1)⟩,
      ⟨(some 58), none, .bin .neq (.t 56) (.t 57)⟩])
     (.cond (.t 58)
       (.seq (.reg [⟨(some 4), none, .mv (.c (.int .i64 (-1)))⟩])
       .ret)
       .skip))
     (.seq (.reg [⟨(some 59), none, .mv (.t 1)⟩,
      ⟨(some 60), none, .bin .add (.t 59) (.c (.int .i64 1))⟩,
      ⟨(some 1), none, .mv (.t 60)⟩])
     (.seq (.seq (.reg [⟨(some 61), none, .mv (.t 0)⟩,
      ⟨(some 62), none, .mv (.t 5)⟩,
      ⟨(some 63), none, .ia 9 (.t 61) (.t 62)⟩,
      ⟨(some 64), none, .fa 1 (.t 63)⟩,
      ⟨(some 65), none, .fa 4 (.t 64)⟩,
      ⟨(some 66), none, .ld false 1 (.t 65)⟩,
      ⟨(some 67), none, .mv (.t 1)⟩,
      ⟨(some 68), none, .bin .neq (.t 66) (.t 67)⟩])
     (.cond (.t 68)
       (.seq (.reg [⟨(some 4), none, .mv (.c (.int .i64 (-1)))⟩])
       .ret)
       .skip))
     (.seq (.reg [⟨(some 69), none, .mv (.t 1)⟩,
      ⟨(some 70), none, .bin .add (.t 69) (.c (.int .i64 1))⟩,
      ⟨(some 1), none, .mv (.t 70)⟩])
     (.seq (.seq (.drw [⟨(some 71), none, .mv (.t 0)⟩,
      ⟨(some 72), none, .mv (.t 5)⟩,
      ⟨(some 73), none, .ia 9 (.t 71) (.t 72)⟩,
      ⟨(some 74), none, .fa 1 (.t 73)⟩,
      ⟨(some 75), none, .fa 5 (.t 74)⟩,
      ⟨(some 76), none, .ld false 1 (.t 75)⟩,
      ⟨(some 77), none, .mv (.t 1)⟩,
      ⟨(some 78), none, .cl (.c (.fn 74 [])) [(.t 77)]⟩,
      ⟨(some 79), none, .bin .neq (.t 76) (.t 78)⟩] [.val [], .val [], .val [], .val [], .val [], .val [], .val [], .val [], .val []])
     (.cond (.t 79)
       (.seq (.reg [⟨(some 4), none, .mv (.c (.int .i64 (-1)))⟩])
       .ret)
       .skip))
     (.seq (.reg [⟨(some 80), none, .mv (.t 1)⟩,
      ⟨(some 81), none, .bin .add (.t 80) (.c (.int .i64 1))⟩,
      ⟨(some 1), none, .mv (.t 81)⟩])
     (.seq (.seq (.drw [⟨(some 82), none, .mv (.t 0)⟩,
      ⟨(some 83), none, .mv (.t 5)⟩,
      ⟨(some 84), none, .ia 9 (.t 82) (.t 83)⟩,
      ⟨(some 85), none, .fa 1 (.t 84)⟩,
      ⟨(some 86), none, .fa 6 (.t 85)⟩,
      ⟨(some 87), none, .ld false 1 (.t 86)⟩,
      ⟨(some 88), none, .mv (.t 1)⟩,
      ⟨(some 89), none, .cl (.c (.fn 74 [])) [(.t 88)]⟩,
      ⟨(some 90), none, .bin .neq (.t 87) (.t 89)⟩] [.val [], .val [], .val [], .val [], .val [], .val [], .val [], .val [], .val []])
     (.cond (.t 90)
       (.seq (.reg [⟨(some 4), none, .mv (.c (.int .i64 (-1)))⟩])
       .ret)
       .skip))
     (.seq (.reg [⟨(some 91), none, .mv (.t 1)⟩,
      ⟨(some 92), none, .bin .add (.t 91) (.c (.int .i64 1))⟩,
      ⟨(some 1), none, .mv (.t 92)⟩])
     (.seq (.seq (.drw [⟨(some 93), none, .mv (.t 0)⟩,
      ⟨(some 94), none, .mv (.t 5)⟩,
      ⟨(some 95), none, .ia 9 (.t 93) (.t 94)⟩,
      ⟨(some 96), none, .fa 1 (.t 95)⟩,
      ⟨(some 97), none, .fa 7 (.t 96)⟩,
      ⟨(some 98), none, .ld false 1 (.t 97)⟩,
      ⟨(some 99), none, .mv (.t 1)⟩,
      ⟨(some 100), none, .cl (.c (.fn 74 [])) [(.t 99)]⟩,
      ⟨(some 101), none, .bin .neq (.t 98) (.t 100)⟩] [.val [], .val [], .val [], .val [], .val [], .val [], .val [], .val [], .val []])
     (.cond (.t 101)
       (.seq (.reg [⟨(some 4), none, .mv (.c (.int .i64 (-1)))⟩])
       .ret)
       .skip))
     (.reg [⟨(some 102), none, .mv (.t 1)⟩,
      ⟨(some 103), none, .bin .add (.t 102) (.c (.int .i64 1))⟩,
      ⟨(some 1), none, .mv (.t 103)⟩])))))))))))))))))))
    (.reg [⟨(some 10), none, .mv (.t 5)⟩,
     ⟨(some 11), none, .bin .add (.t 10) (.c (.int .i64 1))⟩,
     ⟨(some 5), none, .mv (.t 11)⟩]))))))
  (.seq (.reg [⟨(some 104), none, .mv (.t 1)⟩,
   ⟨(some 4), none, .mv (.t 104)⟩])
  .ret)))
theorem k_laws_heldItemS : FnOk Try.prog 29 105 rc_laws_heldItemS [.t 4] := ⟨Try.f29, _, [], Try.func29, rfl, rfl, by kernel_rfl, by kernel_rfl, follows⟩
theorem ok_laws_heldItemS : okF Try.prog 29 = true := by kernel_rfl
def rc_laws_heldSeg : RC :=
  (.seq (.reg [⟨(some 2), none, .bx (.t 0)⟩,
   ⟨(some 4), none, .mv (.c (.int .i64 0))⟩])
  (.seq (.reg [⟨(some 5), none, .fa 3 (.t 2)⟩,
   ⟨(some 6), none, .ld false 1 (.t 5)⟩,
   ⟨(some 7), none, .mv (.t 1)⟩,
   ⟨(some 8), none, .cl (.c (.fn 29 [])) [(.t 6), (.t 7)]⟩,
   ⟨(some 1), none, .mv (.t 8)⟩])
  (.seq (.seq (.reg [⟨(some 9), none, .mv (.t 1)⟩,
   ⟨(some 10), none, .bin .lss (.t 9) (.c (.int .i64 0))⟩])
  (.cond (.t 10)
    (.seq (.reg [⟨(some 4), none, .mv (.c (.int .i64 (-1)))⟩])
    .ret)
    .skip))
  (.seq (.reg [⟨(some 11), none, .mv (.t 1)⟩,
   ⟨(some 4), none, .mv (.t 11)⟩])
  .ret))))
theorem k_laws_heldSeg : FnOk Try.prog 55 12 rc_laws_heldSeg [.t 4] := ⟨Try.f55, _, [], Try.func55, rfl, rfl, by kernel_rfl, by kernel_rfl, follows⟩
theorem ok_laws_heldSeg : okF Try.prog 55 = true := by kernel_rfl
def rc_laws_FnExactSegOf : RC :=
  (.seq (.reg [⟨(some 2), none, .bx (.t 0)⟩,
   ⟨(some 4), none, .mv (.c (.bool false))⟩])
  (.seq (.reg [⟨(some 5), none, .mv (.c (.int .i64 1048576))⟩])
  (.seq (.reg [⟨(some 13), none, .ld true 2 (.t 2)⟩,
   ⟨(some 14), none, .mv (.t 5)⟩,
   ⟨(some 15), none, .cl (.c (.fn 40 [])) [(.t 13), (.t 14)]⟩,
   ⟨(some 5), none, .mv (.t 15)⟩])
  (.seq (.seq (.reg [⟨(some 16), none, .mv (.t 5)⟩,
   ⟨(some 17), none, .bin .lss (.t 16) (.c (.int .i64 0))⟩])
  (.cond (.t 17)
    (.seq (.reg [⟨(some 4), none, .mv (.c (.bool true))⟩])
    .ret)
    .skip))
  (.seq (.reg [⟨(some 18), none, .ld true 2 (.t 2)⟩,
   ⟨(some 19), none, .cl (.c (.fn 42 [])) [(.t 18)]⟩,
   ⟨(some 20), none, .mv (.t 1)⟩,
   ⟨(some 21), none, .cl (.c (.fn 51 [])) [(.t 19), (.t 20)]⟩,
   ⟨(some 6), none, .al [.int .i64 0, .int .i64 0, .int .i64 0, .nils]⟩,
   ⟨none, none, .st 4 (.t 6) (.t 21)⟩])
  (.seq (.reg [⟨(some 22), none, .ld true 2 (.t 2)⟩,
   ⟨(some 23), none, .cl (.c (.fn 42 [])) [(.t 22)]⟩,
   ⟨(some 7), none, .al [.nils, .nils]⟩,
   ⟨none, none, .st 2 (.t 7) (.t 23)⟩])
  (.seq (.reg [⟨(some 24), none, .ld true 2 (.t 7)⟩,
   ⟨(some 25), none, .mv (.t 1)⟩,
   ⟨(some 26), none, .cl (.c (.fn 52 [])) [(.t 24), (.t 25)]⟩,
   ⟨(some 8), none, .al [.int .i64 0, .int .i64 0, .int .i64 0, .nils]⟩,
   ⟨none, none, .st 4 (.t 8) (.t 26)⟩])
  (.seq (.seq (.reg [⟨(some 27), none, .ld true 4 (.t 8)⟩,
   ⟨(some 28), none, .ld true 4 (.t 6)⟩,
   ⟨(some 29), none, .cl (.c (.fn 53 [])) [(.t 27), (.t 28)]⟩,
   ⟨(some 30), none, .un .not (.t 29)⟩])
  (.cond (.t 30)
    (.seq (.reg [⟨(some 4), none, .mv (.c (.bool false))⟩])
    .ret)
    .skip))
  (.seq (.seq (.drw [⟨(some 31), none, .ld true 2 (.t 7)⟩,
   ⟨(some 32), none, .ld true 2 (.t 2)⟩,
   ⟨(some 33), none, .cl (.c (.fn 42 [])) [(.t 32)]⟩,
   ⟨(some 34), none, .cl (.c (.fn 44 [])) [(.t 31), (.t 33)]⟩,
   ⟨(some 35), none, .un .not (.t 34)⟩] [.val [], .val [], .val [], .val [], .val []])
  (.cond (.t 35)
    (.seq (.reg [⟨(some 4), none, .mv (.c (.bool false))⟩])
    .ret)
    .skip))
  (.seq (.reg [⟨(some 9), none, .mv (.c (.int .i64 1))⟩])
  (.seq (.reg [⟨(some 36), none, .ld true 2 (.t 7)⟩,
   ⟨(some 37), none, .mv (.t 9)⟩,
   ⟨(some 38), none, .cl (.c (.fn 45 [])) [(.t 36), (.t 37)]⟩,
   ⟨(some 9), none, .mv (.t 38)⟩])
  (.seq (.seq (.reg [⟨(some 39), none, .mv (.t 9)⟩,
   ⟨(some 40), none, .bin .lss (.t 39) (.c (.int .i64 0))⟩,
   ⟨(some 41), none, .mv (.t 40)⟩,
   ⟨(some 42), (some (41, false)), .ld true 4 (.t 8)⟩,
   ⟨(some 43), (some (41, false)), .ld true 4 (.t 6)⟩,
   ⟨(some 44), (some (41, false)), .cl (.c (.fn 53 [])) [(.t 42), (.t 43)]⟩,
   ⟨(some 45), (some (41, false)), .un .not (.t 44)⟩,
   ⟨(some 46), none, .pick (.t 41) (.c (.bool true)) (.t 45)⟩])
  (.cond (.t 46)
    (.seq (.reg [⟨(some 4), none, .mv (.c (.bool false))⟩])
    .ret)
    .skip))
  (.seq (.reg [⟨(some 10), none, .mv (.c (.int .i64 1))⟩])
  (.seq (.reg [⟨(some 47), none, .ld true 4 (.t 8)⟩,
   ⟨(some 48), none, .mv (.t 10)⟩,
   ⟨(some 49), none, .cl (.c (.fn 54 [])) [(.t 47), (.t 48)]⟩,
   ⟨(some 10), none, .mv (.t 49)⟩])
  (.seq (.reg [⟨(some 11), none, .mv (.c (.int .i64 1))⟩])
  (.seq (.reg [⟨(some 50), none, .ld true 4 (.t 8)⟩,
   ⟨(some 51), none, .mv (.t 11)⟩,
   ⟨(some 52), none, .cl (.c (.fn 55 [])) [(.t 50), (.t 51)]⟩,
   ⟨(some 11), none, .mv (.t 52)⟩])
  (.seq (.seq (.reg [⟨(some 53), none, .mv (.t 11)⟩,
   ⟨(some 54), none, .bin .lss (.t 53) (.c (.int .i64 0))⟩])
  (.cond (.t 54)
    (.seq (.reg [⟨(some 4), none, .mv (.c (.bool false))⟩])
    .ret)
    .skip))
  (.seq (.seq (.reg [⟨(some 55), none, .mv (.t 11)⟩,
   ⟨(some 56), none, .mv (.t 10)⟩,
   ⟨(some 57), none, .bin .neq (.t 55) (.t 56)⟩])
  (.cond (.t 57)
    (.seq (.reg [⟨(some 4), none, .mv (.c (.bool false))⟩])
    .ret)
    .skip))
  (.seq (.reg [⟨(some 58), none, .ld true 2 (.t 2)⟩,
   ⟨(some 59), none, .cl (.c (.fn 42 [])) [(.t 58)]⟩,
   ⟨(some 60), none, .mv (.t 1)⟩,
   ⟨(some 61), none, .cl (.c (.fn 52 [])) [(.t 59), (.t 60)]⟩,
   ⟨(some 12), none, .al [.int .i64 0, .int .i64 0, .int .i64 0, .nils]⟩,
   ⟨none, none, .st 4 (.t 12) (.t 61)⟩])
  (.seq (.seq (.reg [⟨(some 62), none, .ld true 4 (.t 12)⟩,
   ⟨(some 63), none, .ld true 4 (.t 6)⟩,
   ⟨(some 64), none, .cl (.c (.fn 53 [])) [(.t 62), (.t 63)]⟩,
   ⟨(some 65), none, .un .not (.t 64)⟩])
  (.cond (.t 65)
    (.seq (.reg [⟨(some 4), none, .mv (.c (.bool false))⟩])
    .ret)
    .skip))
  (.seq (.reg [⟨(some 11), none, .mv (.c (.int .i64 1))⟩])
  (.seq (.reg [⟨(some 66), none, .ld true 4 (.t 8)⟩,
   ⟨(some 67), none, .mv (.t 11)⟩,
   ⟨(some 68), none, .cl (.c (.fn 55 [])) [(.t 66), (.t 67)]⟩,
   ⟨(some 11), none, .mv (.t 68)⟩])
  (.seq (.seq (.reg [⟨(some 69), none, .mv (.t 11)⟩,
   ⟨(some 70), none, .bin .lss (.t 69) (.c (.int .i64 0))⟩])
  (.cond (.t 70)
    (.seq (.reg [⟨(some 4), none, .mv (.c (.bool false))⟩])
    .ret)
    .skip))
  (.seq (.seq (.reg [⟨(some 71), none, .mv (.t 11)⟩,
   ⟨(some 72), none, .mv (.t 10)⟩,
   ⟨(some 73), none, .bin .neq (.t 71) (.t 72)⟩])
  (.cond (.t 73)
    (.seq (.reg [⟨(some 4), none, .mv (.c (.bool false))⟩])
    .ret)
    .skip))
  (.seq (.reg [⟨(some 4), none, .mv (.c (.bool true))⟩])
  .ret)))))))))))))))))))))))))
theorem k_laws_FnExactSegOf : FnOk Try.prog 10 74 rc_laws_FnExactSegOf [.t 4] := ⟨Try.f10, _, [], Try.func10, rfl, rfl, by kernel_rfl, by kernel_rfl, follows⟩
theorem ok_laws_FnExactSegOf : okF Try.prog 10 = true := by kernel_rfl
end Go.Proofs.Ytgdcbjoaoagbpaa.V
