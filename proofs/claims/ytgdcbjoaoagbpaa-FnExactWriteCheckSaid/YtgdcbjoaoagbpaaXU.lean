/- The functions' texts. -/
import Derived.Test.YtgdcbjoaoagbpaaXE
import Derived.Test.YtgdcbjoaoagbpaaProg
import Derived.KernelRfl
/- The functions' texts. -/
namespace Go.Proofs.Ytgdcbjoaoagbpaa.V
open Go Go.Proofs Go.RowKit
set_option maxRecDepth 100000
theorem follows : Try.prog.follows .mixedOrders = true := by kernel_rfl
def rc_laws_eqRef : RC :=
  (.seq (.reg [⟨(some 2), none, .bx (.t 0)⟩,
   ⟨(some 3), none, .bx (.t 1)⟩,
   ⟨(some 4), none, .mv (.c (.bool false))⟩])
  (.seq (.seq (.reg [⟨(some 5), none, .fa 0 (.t 2)⟩,
   ⟨(some 6), none, .ld false 1 (.t 5)⟩,
   ⟨(some 7), none, .fa 0 (.t 3)⟩,
   ⟨(some 8), none, .ld false 1 (.t 7)⟩,
   ⟨(some 9), none, .bin .neq (.t 6) (.t 8)⟩])
  (.cond (.t 9)
    (.seq (.reg [⟨(some 4), none, .mv (.c (.bool false))⟩])
    .ret)
    .skip))
  (.seq (.seq (.reg [⟨(some 10), none, .fa 1 (.t 2)⟩,
   ⟨(some 11), none, .ld false 1 (.t 10)⟩,
   ⟨(some 12), none, .fa 1 (.t 3)⟩,
   ⟨(some 13), none, .ld false 1 (.t 12)⟩,
   ⟨(some 14), none, .bin .neq (.t 11) (.t 13)⟩])
  (.cond (.t 14)
    (.seq (.reg [⟨(some 4), none, .mv (.c (.bool false))⟩])
    .ret)
    .skip))
  (.seq (.reg [⟨(some 4), none, .mv (.c (.bool true))⟩])
  .ret))))
theorem k_laws_eqRef : FnOk Try.prog 145 15 rc_laws_eqRef [.t 4] := ⟨Try.f145, _, [], Try.func145, rfl, rfl, by kernel_rfl, by kernel_rfl, follows⟩
theorem ok_laws_eqRef : okF Try.prog 145 = true := by kernel_rfl
def rc_laws_eqRefS : RC :=
  (.seq (.reg [⟨(some 4), none, .mv (.c (.bool false))⟩])
  (.seq (.seq (.reg [⟨(some 6), none, .mv (.t 0)⟩,
   ⟨(some 7), none, .lenl (.t 6)⟩,
   ⟨(some 8), none, .mv (.t 1)⟩,
   ⟨(some 9), none, .lenl (.t 8)⟩,
   ⟨(some 10), none, .bin .neq (.t 7) (.t 9)⟩])
  (.cond (.t 10)
    (.seq (.reg [⟨(some 4), none, .mv (.c (.bool false))⟩])
    .ret)
    .skip))
  (.seq (.seq (.reg [⟨(some 5), none, .mv (.c (.int .i64 0))⟩])
  (.blk 0 (.loop (.seq (.seq (.reg [⟨(some 11), none, .mv (.t 5)⟩,
     ⟨(some 12), none, .mv (.t 0)⟩,
     ⟨(some 13), none, .lenl (.t 12)⟩,
     ⟨(some 14), none, .bin .lss (.t 11) (.t 13)⟩])
    (.cond (.t 14)
      .skip
      (.exit 0)))
    (.seq (.blk 1 (.seq (.drw [⟨(some 17), none, .mv (.t 0)⟩,
      ⟨(some 18), none, .mv (.t 5)⟩,
      ⟨(some 19), none, .ia 2 (.t 17) (.t 18)⟩,
      ⟨(some 20), none, .ld true 2 (.t 19)⟩,
      ⟨(some 21), none, .mv (.t 1)⟩,
      ⟨(some 22), none, .mv (.t 5)⟩,
      ⟨(some 23), none, .ia 2 (.t 21) (.t 22)⟩,
      ⟨(some 24), none, .ld true 2 (.t 23)⟩,
      ⟨(some 25), none, .cl (.c (.fn 145 [])) [(.t 20), (.t 24)]⟩,
      ⟨(some 26), none, .un .not (.t 25)⟩] [.val [], .val [], .val [], .val [], .val [], .val [], .val [], .val [], .val [], .val []])
     (.cond (.t 26)
       (.seq (.reg [⟨(some 4), none, .mv (.c (.bool false))⟩])
       .ret)
       .skip)))
    (.reg [⟨(some 15), none, .mv (.t 5)⟩,
     ⟨(some 16), none, .bin .add (.t 15) (.c (.int .i64 1))⟩,
     ⟨(some 5), none, .mv (.t 16)⟩]))))))
  (.seq (.reg [⟨(some 4), none, .mv (.c (.bool true))⟩])
  .ret))))
theorem k_laws_eqRefS : FnOk Try.prog 78 27 rc_laws_eqRefS [.t 4] := ⟨Try.f78, _, [], Try.func78, rfl, rfl, by kernel_rfl, by kernel_rfl, follows⟩
theorem ok_laws_eqRefS : okF Try.prog 78 = true := by kernel_rfl
def rc_laws_eqCheck : RC :=
  (.seq (.reg [⟨(some 2), none, .bx (.t 0)⟩,
   ⟨(some 3), none, .bx (.t 1)⟩,
   ⟨(some 4), none, .mv (.c (.bool false))⟩])
  (.seq (.seq (.reg [⟨(some 5), none, .fa 0 (.t 2)⟩,
   ⟨(some 6), none, .ld false 1 (.t 5)⟩,
   ⟨(some 7), none, .fa 0 (.t 3)⟩,
   ⟨(some 8), none, .ld false 1 (.t 7)⟩,
   ⟨(some 9), none, .bin .neq (.t 6) (.t 8)⟩])
  (.cond (.t 9)
    (.seq (.reg [⟨(some 4), none, .mv (.c (.bool false))⟩])
    .ret)
    .skip))
  (.seq (.seq (.reg [⟨(some 10), none, .fa 1 (.t 2)⟩,
   ⟨(some 11), none, .ld false 1 (.t 10)⟩,
   ⟨(some 12), none, .fa 1 (.t 3)⟩,
   ⟨(some 13), none, .ld false 1 (.t 12)⟩,
   ⟨(some 14), none, .bin .neq (.t 11) (.t 13)⟩])
  (.cond (.t 14)
    (.seq (.reg [⟨(some 4), none, .mv (.c (.bool false))⟩])
    .ret)
    .skip))
  (.seq (.seq (.reg [⟨(some 15), none, .fa 2 (.t 2)⟩,
   ⟨(some 16), none, .ld false 1 (.t 15)⟩,
   ⟨(some 17), none, .fa 2 (.t 3)⟩,
   ⟨(some 18), none, .ld false 1 (.t 17)⟩,
   ⟨(some 19), none, .bin .neq (.t 16) (.t 18)⟩])
  (.cond (.t 19)
    (.seq (.reg [⟨(some 4), none, .mv (.c (.bool false))⟩])
    .ret)
    .skip))
  (.seq (.seq (.reg [⟨(some 20), none, .fa 3 (.t 2)⟩,
   ⟨(some 21), none, .ld false 1 (.t 20)⟩,
   ⟨(some 22), none, .fa 3 (.t 3)⟩,
   ⟨(some 23), none, .ld false 1 (.t 22)⟩,
   ⟨(some 24), none, .bin .neq (.t 21) (.t 23)⟩])
  (.cond (.t 24)
    (.seq (.reg [⟨(some 4), none, .mv (.c (.bool false))⟩])
    .ret)
    .skip))
  (.seq (.seq (.reg [⟨(some 25), none, .fa 4 (.t 2)⟩,
   ⟨(some 26), none, .ld false 1 (.t 25)⟩,
   ⟨(some 27), none, .fa 4 (.t 3)⟩,
   ⟨(some 28), none, .ld false 1 (.t 27)⟩,
   ⟨(some 29), none, .cl (.c (.fn 78 [])) [(.t 26), (.t 28)]⟩,
   ⟨(some 30), none, .un .not (.t 29)⟩])
  (.cond (.t 30)
    (.seq (.reg [⟨(some 4), none, .mv (.c (.bool false))⟩])
    .ret)
    .skip))
  (.seq (.reg [⟨(some 4), none, .mv (.c (.bool true))⟩])
  .ret)))))))
theorem k_laws_eqCheck : FnOk Try.prog 37 31 rc_laws_eqCheck [.t 4] := ⟨Try.f37, _, [], Try.func37, rfl, rfl, by kernel_rfl, by kernel_rfl, follows⟩
theorem ok_laws_eqCheck : okF Try.prog 37 = true := by kernel_rfl
def rc_laws_markRefS : RC :=
  (.seq (.reg [⟨(some 4), none, .mv (.c (.int .i64 0))⟩])
  (.seq (.seq (.reg [⟨(some 5), none, .mv (.c (.int .i64 0))⟩])
  (.blk 0 (.loop (.seq (.seq (.reg [⟨(some 6), none, .mv (.t 5)⟩,
     ⟨(some 7), none, .mv (.t 0)⟩,
     ⟨(some 8), none, .lenl (.t 7)⟩,
     ⟨(some 9), none, .bin .lss (.t 6) (.t 8)⟩])
    (.cond (.t 9)
      .skip
      (.exit 0)))
    (.seq (.blk 1 (.seq (.reg [⟨(some 12), none, .mv (.t 0)⟩,
      ⟨(some 13), none, .mv (.t 5)⟩,
      ⟨(some 14), none, .mv (.t 1)⟩,
      ⟨(some 15), none, .ia 2 (.t 12) (.t 13)⟩,
      ⟨(some 16), none, .fa 0 (.t 15)⟩,
      ⟨none, none, .st 1 (.t 16) (.t 14)⟩])
     (.seq (.reg [⟨(some 17), none, .mv (.t 1)⟩,
      ⟨(some 18), none, .bin .add (.t 17) (.c (.int .i64 1))⟩,
      ⟨(some 1), none, .mv (.t 18)⟩])
     (.seq (.reg [⟨(some 19), none, .mv (.t 0)⟩,
      ⟨(some 20), none, .mv (.t 5)⟩,
      ⟨(some 21), none, .mv (.t 1)⟩,
      ⟨(some 22), none, .ia 2 (.t 19) (.t 20)⟩,
      ⟨(some 23), none, .fa 1 (.t 22)⟩,
      ⟨none, none, .st 1 (.t 23) (.t 21)⟩])
     (.reg [⟨(some 24), none, .mv (.t 1)⟩,
      ⟨(some 25), none, .bin .add (.t 24) (.c (.int .i64 1))⟩,
      ⟨(some 1), none, .mv (.t 25)⟩])))))
    (.reg [⟨(some 10), none, .mv (.t 5)⟩,
     ⟨(some 11), none, .bin .add (.t 10) (.c (.int .i64 1))⟩,
     ⟨(some 5), none, .mv (.t 11)⟩]))))))
  (.seq (.reg [⟨(some 26), none, .mv (.t 1)⟩,
   ⟨(some 4), none, .mv (.t 26)⟩])
  .ret)))
theorem k_laws_markRefS : FnOk Try.prog 79 27 rc_laws_markRefS [.t 4] := ⟨Try.f79, _, [], Try.func79, rfl, rfl, by kernel_rfl, by kernel_rfl, follows⟩
theorem ok_laws_markRefS : okF Try.prog 79 = true := by kernel_rfl
def rc_laws_markCheck : RC :=
  (.seq (.reg [⟨(some 2), none, .bx (.t 0)⟩,
   ⟨(some 4), none, .mv (.c (.int .i64 0))⟩])
  (.seq (.reg [⟨(some 5), none, .fa 4 (.t 2)⟩,
   ⟨(some 6), none, .ld false 1 (.t 5)⟩,
   ⟨(some 7), none, .mv (.t 1)⟩,
   ⟨(some 8), none, .cl (.c (.fn 79 [])) [(.t 6), (.t 7)]⟩,
   ⟨(some 1), none, .mv (.t 8)⟩])
  (.seq (.reg [⟨(some 9), none, .mv (.t 1)⟩,
   ⟨(some 4), none, .mv (.t 9)⟩])
  .ret)))
theorem k_laws_markCheck : FnOk Try.prog 38 10 rc_laws_markCheck [.t 4] := ⟨Try.f38, _, [], Try.func38, rfl, rfl, by kernel_rfl, by kernel_rfl, follows⟩
theorem ok_laws_markCheck : okF Try.prog 38 = true := by kernel_rfl
def rc_laws_szStringS : RC :=
  (.seq (.reg [⟨(some 4), none, .mv (.c (.int .i64 0))⟩])
  (.seq (.reg [⟨(some 6), none, .mv (.t 1)⟩,
   ⟨(some 7), none, .mv (.t 0)⟩,
   ⟨(some 8), none, .lenl (.t 7)⟩,
   ⟨(some 9), none, .bin .sub (.t 6) (.t 8)⟩,
   ⟨(some 1), none, .mv (.t 9)⟩])
  (.seq (.seq (.reg [⟨(some 10), none, .mv (.t 1)⟩,
   ⟨(some 11), none, .bin .lss (.t 10) (.c (.int .i64 0))⟩])
  (.cond (.t 11)
    (.seq (.reg [⟨(some 4), none, .mv (.c (.int .i64 (-1)))⟩])
    .ret)
    .skip))
  (.seq (.seq (.reg [⟨(some 5), none, .mv (.c (.int .i64 0))⟩])
  (.blk 0 (.loop (.seq (.seq (.reg [⟨(some 12), none, .mv (.t 5)⟩,
     ⟨(some 13), none, .mv (.t 0)⟩,
     ⟨(some 14), none, .lenl (.t 13)⟩,
     ⟨(some 15), none, .bin .lss (.t 12) (.t 14)⟩])
    (.cond (.t 15)
      .skip
      (.exit 0)))
    (.seq (.blk 1 (.seq (.reg [⟨(some 18), none, .mv (.t 1)⟩,
      ⟨(some 19), none, .mv (.t 0)⟩,
      ⟨(some 20), none, .mv (.t 5)⟩,
      ⟨(some 21), none, .ia 1 (.t 19) (.t 20)⟩,
      ⟨(some 22), none, .ld false 1 (.t 21)⟩,
      ⟨(some 23), none, .lens (.t 22)⟩,
      ⟨(some 24), none, .bin .sub (.t 18) (.t 23)⟩,
      ⟨(some 1), none, .mv (.t 24)⟩])
     (.seq (.reg [⟨(some 25), none, .mv (.t 1)⟩,
      ⟨(some 26), none, .bin .lss (.t 25) (.c (.int .i64 0))⟩])
     (.cond (.t 26)
       (.seq (.reg [⟨(some 4), none, .mv (.c (.int .i64 (-1)))⟩])
       .ret)
       .skip))))
    (.reg [⟨(some 16), none, .mv (.t 5)⟩,
     ⟨(some 17), none, .bin .add (.t 16) (.c (.int .i64 1))⟩,
     ⟨(some 5), none, .mv (.t 17)⟩]))))))
  (.seq (.reg [⟨(some 27), none, .mv (.t 1)⟩,
   ⟨(some 4), none, .mv (.t 27)⟩])
  .ret)))))
theorem k_laws_szStringS : FnOk Try.prog 81 28 rc_laws_szStringS [.t 4] := ⟨Try.f81, _, [], Try.func81, rfl, rfl, by kernel_rfl, by kernel_rfl, follows⟩
theorem ok_laws_szStringS : okF Try.prog 81 = true := by kernel_rfl
def rc_laws_szWrite : RC :=
  (.seq (.reg [⟨(some 2), none, .bx (.t 0)⟩,
   ⟨(some 4), none, .mv (.c (.int .i64 0))⟩])
  (.seq (.reg [⟨(some 5), none, .mv (.t 1)⟩,
   ⟨(some 6), none, .fa 1 (.t 2)⟩,
   ⟨(some 7), none, .ld false 1 (.t 6)⟩,
   ⟨(some 8), none, .lens (.t 7)⟩,
   ⟨(some 9), none, .bin .sub (.t 5) (.t 8)⟩,
   ⟨(some 1), none, .mv (.t 9)⟩])
  (.seq (.seq (.reg [⟨(some 10), none, .mv (.t 1)⟩,
   ⟨(some 11), none, .bin .lss (.t 10) (.c (.int .i64 0))⟩])
  (.cond (.t 11)
    (.seq (.reg [⟨(some 4), none, .mv (.c (.int .i64 (-1)))⟩])
    .ret)
    .skip))
  (.seq (.reg [⟨(some 12), none, .mv (.t 1)⟩,
   ⟨(some 4), none, .mv (.t 12)⟩])
  .ret))))
theorem k_laws_szWrite : FnOk Try.prog 146 13 rc_laws_szWrite [.t 4] := ⟨Try.f146, _, [], Try.func146, rfl, rfl, by kernel_rfl, by kernel_rfl, follows⟩
theorem ok_laws_szWrite : okF Try.prog 146 = true := by kernel_rfl
def rc_laws_szWriteS : RC :=
  (.seq (.reg [⟨(some 4), none, .mv (.c (.int .i64 0))⟩])
  (.seq (.reg [⟨(some 6), none, .mv (.t 1)⟩,
   ⟨(some 7), none, .mv (.t 0)⟩,
   ⟨(some 8), none, .lenl (.t 7)⟩,
   ⟨(some 9), none, .bin .sub (.t 6) (.t 8)⟩,
   ⟨(some 1), none, .mv (.t 9)⟩])
  (.seq (.seq (.reg [⟨(some 10), none, .mv (.t 1)⟩,
   ⟨(some 11), none, .bin .lss (.t 10) (.c (.int .i64 0))⟩])
  (.cond (.t 11)
    (.seq (.reg [⟨(some 4), none, .mv (.c (.int .i64 (-1)))⟩])
    .ret)
    .skip))
  (.seq (.seq (.reg [⟨(some 5), none, .mv (.c (.int .i64 0))⟩])
  (.blk 0 (.loop (.seq (.seq (.reg [⟨(some 12), none, .mv (.t 5)⟩,
     ⟨(some 13), none, .mv (.t 0)⟩,
     ⟨(some 14), none, .lenl (.t 13)⟩,
     ⟨(some 15), none, .bin .lss (.t 12) (.t 14)⟩])
    (.cond (.t 15)
      .skip
      (.exit 0)))
    (.seq (.blk 1 (.seq (.reg [⟨(some 18), none, .mv (.t 0)⟩,
      ⟨(some 19), none, .mv (.t 5)⟩,
      ⟨(some 20), none, .ia 2 (.t 18) (.t 19)⟩,
      ⟨(some 21), none, .ld true 2 (.t 20)⟩,
      ⟨(some 22), none, .mv (.t 1)⟩,
      ⟨(some 23), none, .cl (.c (.fn 146 [])) [(.t 21), (.t 22)]⟩,
      ⟨(some 1), none, .mv (.t 23)⟩])
     (.seq (.reg [⟨(some 24), none, .mv (.t 1)⟩,
      ⟨(some 25), none, .bin .lss (.t 24) (.c (.int .i64 0))⟩])
     (.cond (.t 25)
       (.seq (.reg [⟨(some 4), none, .mv (.c (.int .i64 (-1)))⟩])
       .ret)
       .skip))))
    (.reg [⟨(some 16), none, .mv (.t 5)⟩,
     ⟨(some 17), none, .bin .add (.t 16) (.c (.int .i64 1))⟩,
     ⟨(some 5), none, .mv (.t 17)⟩]))))))
  (.seq (.reg [⟨(some 26), none, .mv (.t 1)⟩,
   ⟨(some 4), none, .mv (.t 26)⟩])
  .ret)))))
theorem k_laws_szWriteS : FnOk Try.prog 82 27 rc_laws_szWriteS [.t 4] := ⟨Try.f82, _, [], Try.func82, rfl, rfl, by kernel_rfl, by kernel_rfl, follows⟩
theorem ok_laws_szWriteS : okF Try.prog 82 = true := by kernel_rfl
def rc_laws_szDisk : RC :=
  (.seq (.reg [⟨(some 2), none, .bx (.t 0)⟩,
   ⟨(some 4), none, .mv (.c (.int .i64 0))⟩])
  (.seq (.reg [⟨(some 5), none, .fa 0 (.t 2)⟩,
   ⟨(some 6), none, .ld false 1 (.t 5)⟩,
   ⟨(some 7), none, .mv (.t 1)⟩,
   ⟨(some 8), none, .cl (.c (.fn 81 [])) [(.t 6), (.t 7)]⟩,
   ⟨(some 1), none, .mv (.t 8)⟩])
  (.seq (.seq (.reg [⟨(some 9), none, .mv (.t 1)⟩,
   ⟨(some 10), none, .bin .lss (.t 9) (.c (.int .i64 0))⟩])
  (.cond (.t 10)
    (.seq (.reg [⟨(some 4), none, .mv (.c (.int .i64 (-1)))⟩])
    .ret)
    .skip))
  (.seq (.reg [⟨(some 11), none, .fa 1 (.t 2)⟩,
   ⟨(some 12), none, .ld false 1 (.t 11)⟩,
   ⟨(some 13), none, .mv (.t 1)⟩,
   ⟨(some 14), none, .cl (.c (.fn 82 [])) [(.t 12), (.t 13)]⟩,
   ⟨(some 1), none, .mv (.t 14)⟩])
  (.seq (.seq (.reg [⟨(some 15), none, .mv (.t 1)⟩,
   ⟨(some 16), none, .bin .lss (.t 15) (.c (.int .i64 0))⟩])
  (.cond (.t 16)
    (.seq (.reg [⟨(some 4), none, .mv (.c (.int .i64 (-1)))⟩])
    .ret)
    .skip))
  (.seq (.reg [⟨(some 17), none, .mv (.t 1)⟩,
   ⟨(some 4), none, .mv (.t 17)⟩])
  .ret))))))
theorem k_laws_szDisk : FnOk Try.prog 40 18 rc_laws_szDisk [.t 4] := ⟨Try.f40, _, [], Try.func40, rfl, rfl, by kernel_rfl, by kernel_rfl, follows⟩
theorem ok_laws_szDisk : okF Try.prog 40 = true := by kernel_rfl
def rc_laws_toStringS : RC :=
  (.seq (.reg [⟨(some 2), none, .mv (.c (.nils))⟩])
  (.seq (.reg [⟨(some 5), none, .mv (.t 0)⟩,
   ⟨(some 6), none, .lenl (.t 5)⟩,
   ⟨(some 7), none, .ms 1 [.str []] 16 (.t 6) (.t 6)⟩,
   ⟨(some 3), none, .mv (.t 7)⟩])
  (.seq (.seq (.reg [⟨(some 4), none, .mv (.c (.int .i64 0))⟩])
  (.blk 0 (.loop (.seq (.seq (.reg [⟨(some 8), none, .mv (.t 4)⟩,
     ⟨(some 9), none, .mv (.t 0)⟩,
     ⟨(some 10), none, .lenl (.t 9)⟩,
     ⟨(some 11), none, .bin .lss (.t 8) (.t 10)⟩])
    (.cond (.t 11)
      .skip
      (.exit 0)))
    (.seq (.blk 1 (.reg [⟨(some 14), none, .mv (.t 3)⟩,
      ⟨(some 15), none, .mv (.t 4)⟩,
      ⟨(some 16), none, .mv (.t 0)⟩,
      ⟨(some 17), none, .mv (.t 4)⟩,
      ⟨(some 18), none, .ia 1 (.t 16) (.t 17)⟩,
      ⟨(some 19), none, .ld false 1 (.t 18)⟩,
      ⟨(some 20), none, .ia 1 (.t 14) (.t 15)⟩,
      ⟨none, none, .st 1 (.t 20) (.t 19)⟩]))
    (.reg [⟨(some 12), none, .mv (.t 4)⟩,
     ⟨(some 13), none, .bin .add (.t 12) (.c (.int .i64 1))⟩,
     ⟨(some 4), none, .mv (.t 13)⟩]))))))
  (.seq (.reg [⟨(some 21), none, .mv (.t 3)⟩,
   ⟨(some 2), none, .mv (.t 21)⟩])
  .ret))))
theorem k_laws_toStringS : FnOk Try.prog 85 22 rc_laws_toStringS [.t 2] := ⟨Try.f85, _, [], Try.func85, rfl, rfl, by kernel_rfl, by kernel_rfl, follows⟩
theorem ok_laws_toStringS : okF Try.prog 85 = true := by kernel_rfl
def rc_laws_toWrite : RC :=
  (.seq (.reg [⟨(some 1), none, .bx (.t 0)⟩,
   ⟨(some 2), none, .al [.int .i64 0, .str []]⟩])
  (.seq (.reg [⟨(some 3), none, .al [.int .i64 0, .str []]⟩])
  (.seq (.reg [⟨(some 4), none, .fa 0 (.t 1)⟩,
   ⟨(some 5), none, .ld false 1 (.t 4)⟩,
   ⟨(some 6), none, .fa 0 (.t 3)⟩,
   ⟨none, none, .st 1 (.t 6) (.t 5)⟩])
  (.seq (.reg [⟨(some 7), none, .fa 1 (.t 1)⟩,
   ⟨(some 8), none, .ld false 1 (.t 7)⟩,
   ⟨(some 9), none, .fa 1 (.t 3)⟩,
   ⟨none, none, .st 1 (.t 9) (.t 8)⟩])
  (.seq (.reg [⟨(some 10), none, .ld true 2 (.t 3)⟩,
   ⟨none, none, .st 2 (.t 2) (.t 10)⟩])
  .ret)))))
theorem k_laws_toWrite : FnOk Try.prog 151 11 rc_laws_toWrite [.cell 2 true 2] := ⟨Try.f151, _, [], Try.func151, rfl, rfl, by kernel_rfl, by kernel_rfl, follows⟩
theorem ok_laws_toWrite : okF Try.prog 151 = true := by kernel_rfl
def rc_laws_toWriteS : RC :=
  (.seq (.reg [⟨(some 2), none, .mv (.c (.nils))⟩])
  (.seq (.reg [⟨(some 5), none, .mv (.t 0)⟩,
   ⟨(some 6), none, .lenl (.t 5)⟩,
   ⟨(some 7), none, .ms 2 [.int .i64 0, .str []] 24 (.t 6) (.t 6)⟩,
   ⟨(some 3), none, .mv (.t 7)⟩])
  (.seq (.seq (.reg [⟨(some 4), none, .mv (.c (.int .i64 0))⟩])
  (.blk 0 (.loop (.seq (.seq (.reg [⟨(some 8), none, .mv (.t 4)⟩,
     ⟨(some 9), none, .mv (.t 0)⟩,
     ⟨(some 10), none, .lenl (.t 9)⟩,
     ⟨(some 11), none, .bin .lss (.t 8) (.t 10)⟩])
    (.cond (.t 11)
      .skip
      (.exit 0)))
    (.seq (.blk 1 (.reg [⟨(some 14), none, .mv (.t 3)⟩,
      ⟨(some 15), none, .mv (.t 4)⟩,
      ⟨(some 16), none, .mv (.t 0)⟩,
      ⟨(some 17), none, .mv (.t 4)⟩,
      ⟨(some 18), none, .ia 2 (.t 16) (.t 17)⟩,
      ⟨(some 19), none, .ld true 2 (.t 18)⟩,
      ⟨(some 20), none, .cl (.c (.fn 151 [])) [(.t 19)]⟩,
      ⟨(some 21), none, .ia 2 (.t 14) (.t 15)⟩,
      ⟨none, none, .st 2 (.t 21) (.t 20)⟩]))
    (.reg [⟨(some 12), none, .mv (.t 4)⟩,
     ⟨(some 13), none, .bin .add (.t 12) (.c (.int .i64 1))⟩,
     ⟨(some 4), none, .mv (.t 13)⟩]))))))
  (.seq (.reg [⟨(some 22), none, .mv (.t 3)⟩,
   ⟨(some 2), none, .mv (.t 22)⟩])
  .ret))))
theorem k_laws_toWriteS : FnOk Try.prog 86 23 rc_laws_toWriteS [.t 2] := ⟨Try.f86, _, [], Try.func86, rfl, rfl, by kernel_rfl, by kernel_rfl, follows⟩
theorem ok_laws_toWriteS : okF Try.prog 86 = true := by kernel_rfl
def rc_laws_toDisk : RC :=
  (.seq (.reg [⟨(some 1), none, .bx (.t 0)⟩,
   ⟨(some 2), none, .al [.nils, .nils]⟩])
  (.seq (.reg [⟨(some 3), none, .al [.nils, .nils]⟩])
  (.seq (.reg [⟨(some 4), none, .fa 0 (.t 1)⟩,
   ⟨(some 5), none, .ld false 1 (.t 4)⟩,
   ⟨(some 6), none, .cl (.c (.fn 85 [])) [(.t 5)]⟩,
   ⟨(some 7), none, .fa 0 (.t 3)⟩,
   ⟨none, none, .st 1 (.t 7) (.t 6)⟩])
  (.seq (.reg [⟨(some 8), none, .fa 1 (.t 1)⟩,
   ⟨(some 9), none, .ld false 1 (.t 8)⟩,
   ⟨(some 10), none, .cl (.c (.fn 86 [])) [(.t 9)]⟩,
   ⟨(some 11), none, .fa 1 (.t 3)⟩,
   ⟨none, none, .st 1 (.t 11) (.t 10)⟩])
  (.seq (.reg [⟨(some 12), none, .ld true 2 (.t 3)⟩,
   ⟨none, none, .st 2 (.t 2) (.t 12)⟩])
  .ret)))))
theorem k_laws_toDisk : FnOk Try.prog 42 13 rc_laws_toDisk [.cell 2 true 2] := ⟨Try.f42, _, [], Try.func42, rfl, rfl, by kernel_rfl, by kernel_rfl, follows⟩
theorem ok_laws_toDisk : okF Try.prog 42 = true := by kernel_rfl
def rc_laws_eqStringS : RC :=
  (.seq (.reg [⟨(some 4), none, .mv (.c (.bool false))⟩])
  (.seq (.seq (.reg [⟨(some 6), none, .mv (.t 0)⟩,
   ⟨(some 7), none, .lenl (.t 6)⟩,
   ⟨(some 8), none, .mv (.t 1)⟩,
   ⟨(some 9), none, .lenl (.t 8)⟩,
   ⟨(some 10), none, .bin .neq (.t 7) (.t 9)⟩])
  (.cond (.t 10)
    (.seq (.reg [⟨(some 4), none, .mv (.c (.bool false))⟩])
    .ret)
    .skip))
  (.seq (.seq (.reg [⟨(some 5), none, .mv (.c (.int .i64 0))⟩])
  (.blk 0 (.loop (.seq (.seq (.reg [⟨(some 11), none, .mv (.t 5)⟩,
     ⟨(some 12), none, .mv (.t 0)⟩,
     ⟨(some 13), none, .lenl (.t 12)⟩,
     ⟨(some 14), none, .bin .lss (.t 11) (.t 13)⟩])
    (.cond (.t 14)
      .skip
      (.exit 0)))
    (.seq (.blk 1 (.seq (.drw [⟨(some 17), none, .mv (.t 0)⟩,
      ⟨(some 18), none, .mv (.t 5)⟩,
      ⟨(some 19), none, .ia 1 (.t 17) (.t 18)⟩,
      ⟨(some 20), none, .ld false 1 (.t 19)⟩,
      ⟨(some 21), none, .mv (.t 1)⟩,
      ⟨(some 22), none, .mv (.t 5)⟩,
      ⟨(some 23), none, .ia 1 (.t 21) (.t 22)⟩,
      ⟨(some 24), none, .ld false 1 (.t 23)⟩,
      ⟨(some 25), none, .bin .neq (.t 20) (.t 24)⟩] [.val [], .val [], .val [], .val [], .val [], .val [], .val [], .val [], .val []])
     (.cond (.t 25)
       (.seq (.reg [⟨(some 4), none, .mv (.c (.bool false))⟩])
       .ret)
       .skip)))
    (.reg [⟨(some 15), none, .mv (.t 5)⟩,
     ⟨(some 16), none, .bin .add (.t 15) (.c (.int .i64 1))⟩,
     ⟨(some 5), none, .mv (.t 16)⟩]))))))
  (.seq (.reg [⟨(some 4), none, .mv (.c (.bool true))⟩])
  .ret))))
theorem k_laws_eqStringS : FnOk Try.prog 89 26 rc_laws_eqStringS [.t 4] := ⟨Try.f89, _, [], Try.func89, rfl, rfl, by kernel_rfl, by kernel_rfl, follows⟩
theorem ok_laws_eqStringS : okF Try.prog 89 = true := by kernel_rfl
def rc_laws_eqWrite : RC :=
  (.seq (.reg [⟨(some 2), none, .bx (.t 0)⟩,
   ⟨(some 3), none, .bx (.t 1)⟩,
   ⟨(some 4), none, .mv (.c (.bool false))⟩])
  (.seq (.seq (.reg [⟨(some 5), none, .fa 0 (.t 2)⟩,
   ⟨(some 6), none, .ld false 1 (.t 5)⟩,
   ⟨(some 7), none, .fa 0 (.t 3)⟩,
   ⟨(some 8), none, .ld false 1 (.t 7)⟩,
   ⟨(some 9), none, .bin .neq (.t 6) (.t 8)⟩])
  (.cond (.t 9)
    (.seq (.reg [⟨(some 4), none, .mv (.c (.bool false))⟩])
    .ret)
    .skip))
  (.seq (.seq (.reg [⟨(some 10), none, .fa 1 (.t 2)⟩,
   ⟨(some 11), none, .ld false 1 (.t 10)⟩,
   ⟨(some 12), none, .fa 1 (.t 3)⟩,
   ⟨(some 13), none, .ld false 1 (.t 12)⟩,
   ⟨(some 14), none, .bin .neq (.t 11) (.t 13)⟩])
  (.cond (.t 14)
    (.seq (.reg [⟨(some 4), none, .mv (.c (.bool false))⟩])
    .ret)
    .skip))
  (.seq (.reg [⟨(some 4), none, .mv (.c (.bool true))⟩])
  .ret))))
theorem k_laws_eqWrite : FnOk Try.prog 156 15 rc_laws_eqWrite [.t 4] := ⟨Try.f156, _, [], Try.func156, rfl, rfl, by kernel_rfl, by kernel_rfl, follows⟩
theorem ok_laws_eqWrite : okF Try.prog 156 = true := by kernel_rfl
def rc_laws_eqWriteS : RC :=
  (.seq (.reg [⟨(some 4), none, .mv (.c (.bool false))⟩])
  (.seq (.seq (.reg [⟨(some 6), none, .mv (.t 0)⟩,
   ⟨(some 7), none, .lenl (.t 6)⟩,
   ⟨(some 8), none, .mv (.t 1)⟩,
   ⟨(some 9), none, .lenl (.t 8)⟩,
   ⟨(some 10), none, .bin .neq (.t 7) (.t 9)⟩])
  (.cond (.t 10)
    (.seq (.reg [⟨(some 4), none, .mv (.c (.bool false))⟩])
    .ret)
    .skip))
  (.seq (.seq (.reg [⟨(some 5), none, .mv (.c (.int .i64 0))⟩])
  (.blk 0 (.loop (.seq (.seq (.reg [⟨(some 11), none, .mv (.t 5)⟩,
     ⟨(some 12), none, .mv (.t 0)⟩,
     ⟨(some 13), none, .lenl (.t 12)⟩,
     ⟨(some 14), none, .bin .lss (.t 11) (.t 13)⟩])
    (.cond (.t 14)
      .skip
      (.exit 0)))
    (.seq (.blk 1 (.seq (.drw [⟨(some 17), none, .mv (.t 0)⟩,
      ⟨(some 18), none, .mv (.t 5)⟩,
      ⟨(some 19), none, .ia 2 (.t 17) (.t 18)⟩,
      ⟨(some 20), none, .ld true 2 (.t 19)⟩,
      ⟨(some 21), none, .mv (.t 1)⟩,
      ⟨(some 22), none, .mv (.t 5)⟩,
      ⟨(some 23), none, .ia 2 (.t 21) (.t 22)⟩,
      ⟨(some 24), none, .ld true 2 (.t 23)⟩,
      ⟨(some 25), none, .cl (.c (.fn 156 [])) [(.t 20), (.t 24)]⟩,
      ⟨(some 26), none, .un .not (.t 25)⟩] [.val [], .val [], .val [], .val [], .val [], .val [], .val [], .val [], .val [], .val []])
     (.cond (.t 26)
       (.seq (.reg [⟨(some 4), none, .mv (.c (.bool false))⟩])
       .ret)
       .skip)))
    (.reg [⟨(some 15), none, .mv (.t 5)⟩,
     ⟨(some 16), none, .bin .add (.t 15) (.c (.int .i64 1))⟩,
     ⟨(some 5), none, .mv (.t 16)⟩]))))))
  (.seq (.reg [⟨(some 4), none, .mv (.c (.bool true))⟩])
  .ret))))
theorem k_laws_eqWriteS : FnOk Try.prog 90 27 rc_laws_eqWriteS [.t 4] := ⟨Try.f90, _, [], Try.func90, rfl, rfl, by kernel_rfl, by kernel_rfl, follows⟩
theorem ok_laws_eqWriteS : okF Try.prog 90 = true := by kernel_rfl
def rc_laws_eqDisk : RC :=
  (.seq (.reg [⟨(some 2), none, .bx (.t 0)⟩,
   ⟨(some 3), none, .bx (.t 1)⟩,
   ⟨(some 4), none, .mv (.c (.bool false))⟩])
  (.seq (.seq (.reg [⟨(some 5), none, .fa 0 (.t 2)⟩,
   ⟨(some 6), none, .ld false 1 (.t 5)⟩,
   ⟨(some 7), none, .fa 0 (.t 3)⟩,
   ⟨(some 8), none, .ld false 1 (.t 7)⟩,
   ⟨(some 9), none, .cl (.c (.fn 89 [])) [(.t 6), (.t 8)]⟩,
   ⟨(some 10), none, .un .not (.t 9)⟩])
  (.cond (.t 10)
    (.seq (.reg [⟨(some 4), none, .mv (.c (.bool false))⟩])
    .ret)
    .skip))
  (.seq (.seq (.reg [⟨(some 11), none, .fa 1 (.t 2)⟩,
   ⟨(some 12), none, .ld false 1 (.t 11)⟩,
   ⟨(some 13), none, .fa 1 (.t 3)⟩,
   ⟨(some 14), none, .ld false 1 (.t 13)⟩,
   ⟨(some 15), none, .cl (.c (.fn 90 [])) [(.t 12), (.t 14)]⟩,
   ⟨(some 16), none, .un .not (.t 15)⟩])
  (.cond (.t 16)
    (.seq (.reg [⟨(some 4), none, .mv (.c (.bool false))⟩])
    .ret)
    .skip))
  (.seq (.reg [⟨(some 4), none, .mv (.c (.bool true))⟩])
  .ret))))
theorem k_laws_eqDisk : FnOk Try.prog 44 17 rc_laws_eqDisk [.t 4] := ⟨Try.f44, _, [], Try.func44, rfl, rfl, by kernel_rfl, by kernel_rfl, follows⟩
theorem ok_laws_eqDisk : okF Try.prog 44 = true := by kernel_rfl
def rc_laws_markText : RC :=
  (.seq (.reg [⟨(some 2), none, .mv (.c (.str []))⟩])
  (.seq (.seq (.reg [⟨(some 4), none, .mv (.t 0)⟩,
   ⟨(some 5), none, .bin .leq (.t 4) (.c (.int .i64 0))⟩])
  (.cond (.t 5)
    (.seq (.reg [⟨(some 2), none, .mv (.c (.str [109, 48]))⟩])
    .ret)
    .skip))
  (.seq (.reg [⟨(some 3), none, .mv (.c (.str []))⟩])
  (.seq (.blk 0 (.loop (.seq (.seq (.reg [⟨(some 6), none, .mv (.t 0)⟩,
     ⟨(some 7), none, .bin .gtr (.t 6) (.c (.int .i64 0))⟩])
    (.cond (.t 7)
      .skip
      (.exit 0)))
    (.blk 1 (.seq (.reg [⟨(some 8), none, .mv (.t 0)⟩,
      ⟨(some 9), none, .bin .rem (.t 8) (.c (.int .i64 10))⟩,
      ⟨(some 10), none, .bin .add (.c (.int .i64 48)) (.t 9)⟩,
      ⟨(some 11), none, .cvi .u8 (.t 10)⟩,
      ⟨(some 12), none, .bs 1 [.int .u8 0] 1 [(0, (.t 11))]⟩,
      ⟨(some 13), none, .cvb (.t 12)⟩,
      ⟨(some 14), none, .mv (.t 3)⟩,
      ⟨(some 15), none, .bin .add (.t 13) (.t 14)⟩,
      ⟨(some 3), none, .mv (.t 15)⟩])
     (.reg [⟨(some 16), none, .mv (.t 0)⟩,
      ⟨(some 17), none, .bin .quo (.t 16) (.c (.int .i64 10))⟩,
      ⟨(some 0), none, .mv (.t 17)⟩]))))))
  (.seq (.reg [⟨(some 18), none, .mv (.t 3)⟩,
   ⟨(some 19), none, .bin .add (.c (.str [109])) (.t 18)⟩,
   ⟨(some 2), none, .mv (.t 19)⟩])
  .ret)))))
theorem k_laws_markText : FnOk Try.prog 74 20 rc_laws_markText [.t 2] := ⟨Try.f74, _, [], Try.func74, rfl, rfl, by kernel_rfl, by kernel_rfl, follows⟩
theorem ok_laws_markText : okF Try.prog 74 = true := by kernel_rfl
def rc_laws_markStringS : RC :=
  (.seq (.reg [⟨(some 4), none, .mv (.c (.int .i64 0))⟩])
  (.seq (.seq (.reg [⟨(some 5), none, .mv (.c (.int .i64 0))⟩])
  (.blk 0 (.loop (.seq (.seq (.reg [⟨(some 6), none, .mv (.t 5)⟩,
     ⟨(some 7), none, .mv (.t 0)⟩,
     ⟨(some 8), none, .lenl (.t 7)⟩,
     ⟨(some 9), none, .bin .lss (.t 6) (.t 8)⟩])
    (.cond (.t 9)
      .skip
      (.exit 0)))
    (.seq (.blk 1 (.seq (.reg [⟨(some 12), none, .mv (.t 0)⟩,
      ⟨(some 13), none, .mv (.t 5)⟩,
      ⟨(some 14), none, .mv (.t 1)⟩,
      ⟨(some 15), none, .cl (.c (.fn 74 [])) [(.t 14)]⟩,
      ⟨(some 16), none, .ia 1 (.t 12) (.t 13)⟩,
      ⟨none, none, .st 1 (.t 16) (.t 15)⟩])
     (.reg [⟨(some 17), none, .mv (.t 1)⟩,
      ⟨(some 18), none, .bin .add (.t 17) (.c (.int .i64 1))⟩,
      ⟨(some 1), none, .mv (.t 18)⟩])))
    (.reg [⟨(some 10), none, .mv (.t 5)⟩,
     ⟨(some 11), none, .bin .add (.t 10) (.c (.int .i64 1))⟩,
     ⟨(some 5), none, .mv (.t 11)⟩]))))))
  (.seq (.reg [⟨(some 19), none, .mv (.t 1)⟩,
   ⟨(some 4), none, .mv (.t 19)⟩])
  .ret)))
theorem k_laws_markStringS : FnOk Try.prog 91 20 rc_laws_markStringS [.t 4] := ⟨Try.f91, _, [], Try.func91, rfl, rfl, by kernel_rfl, by kernel_rfl, follows⟩
theorem ok_laws_markStringS : okF Try.prog 91 = true := by kernel_rfl
def rc_laws_markWriteS : RC :=
  (.seq (.reg [⟨(some 4), none, .mv (.c (.int .i64 0))⟩])
  (.seq (.seq (.reg [⟨(some 5), none, .mv (.c (.int .i64 0))⟩])
  (.blk 0 (.loop (.seq (.seq (.reg [⟨(some 6), none, .mv (.t 5)⟩,
     ⟨(some 7), none, .mv (.t 0)⟩,
     ⟨(some 8), none, .lenl (.t 7)⟩,
     ⟨(some 9), none, .bin .lss (.t 6) (.t 8)⟩])
    (.cond (.t 9)
      .skip
      (.exit 0)))
    (.seq (.blk 1 (.seq (.reg [⟨(some 12), none, .mv (.t 0)⟩,
      ⟨(some 13), none, .mv (.t 5)⟩,
      ⟨(some 14), none, .mv (.t 1)⟩,
      ⟨(some 15), none, .ia 2 (.t 12) (.t 13)⟩,
      ⟨(some 16), none, .fa 0 (.t 15)⟩,
      ⟨none, none, .st 1 (.t 16) (.t 14)⟩])
     (.seq (.reg [⟨(some 17), none, .mv (.t 1)⟩,
      ⟨(some 18), none, .bin .add (.t 17) (.c (.int .i64 1))⟩,
      ⟨(some 1), none, .mv (.t 18)⟩])
     (.seq (.reg [⟨(some 19), none, .mv (.t 0)⟩,
      ⟨(some 20), none, .mv (.t 5)⟩,
      ⟨(some 21), none, .mv (.t 1)⟩,
      ⟨(some 22), none, .cl (.c (.fn 74 [])) [(.t 21)]⟩,
      ⟨(some 23), none, .ia 2 (.t 19) (.t 20)⟩,
      ⟨(some 24), none, .fa 1 (.t 23)⟩,
      ⟨none, none, .st 1 (.t 24) (.t 22)⟩])
     (.reg [⟨(some 25), none, .mv (.t 1)⟩,
      ⟨(some 26), none, .bin .add (.t 25) (.c (.int .i64 1))⟩,
      ⟨(some 1), none, .mv (.t 26)⟩])))))
    (.reg [⟨(some 10), none, .mv (.t 5)⟩,
     ⟨(some 11), none, .bin .add (.t 10) (.c (.int .i64 1))⟩,
     ⟨(some 5), none, .mv (.t 11)⟩]))))))
  (.seq (.reg [⟨(some 27), none, .mv (.t 1)⟩,
   ⟨(some 4), none, .mv (.t 27)⟩])
  .ret)))
theorem k_laws_markWriteS : FnOk Try.prog 92 28 rc_laws_markWriteS [.t 4] := ⟨Try.f92, _, [], Try.func92, rfl, rfl, by kernel_rfl, by kernel_rfl, follows⟩
theorem ok_laws_markWriteS : okF Try.prog 92 = true := by kernel_rfl
def rc_laws_markDisk : RC :=
  (.seq (.reg [⟨(some 2), none, .bx (.t 0)⟩,
   ⟨(some 4), none, .mv (.c (.int .i64 0))⟩])
  (.seq (.reg [⟨(some 5), none, .fa 0 (.t 2)⟩,
   ⟨(some 6), none, .ld false 1 (.t 5)⟩,
   ⟨(some 7), none, .mv (.t 1)⟩,
   ⟨(some 8), none, .cl (.c (.fn 91 [])) [(.t 6), (.t 7)]⟩,
   ⟨(some 1), none, .mv (.t 8)⟩])
  (.seq (.reg [⟨(some 9), none, .fa 1 (.t 2)⟩,
   ⟨(some 10), none, .ld false 1 (.t 9)⟩,
   ⟨(some 11), none, .mv (.t 1)⟩,
   ⟨(some 12), none, .cl (.c (.fn 92 [])) [(.t 10), (.t 11)]⟩,
   ⟨(some 1), none, .mv (.t 12)⟩])
  (.seq (.reg [⟨(some 13), none, .mv (.t 1)⟩,
   ⟨(some 4), none, .mv (.t 13)⟩])
  .ret))))
theorem k_laws_markDisk : FnOk Try.prog 45 14 rc_laws_markDisk [.t 4] := ⟨Try.f45, _, [], Try.func45, rfl, rfl, by kernel_rfl, by kernel_rfl, follows⟩
theorem ok_laws_markDisk : okF Try.prog 45 = true := by kernel_rfl
def rc_laws_szRefS : RC :=
  (.seq (.reg [⟨(some 4), none, .mv (.c (.int .i64 0))⟩])
  (.seq (.reg [⟨(some 5), none, .mv (.t 1)⟩,
   ⟨(some 6), none, .mv (.t 0)⟩,
   ⟨(some 7), none, .lenl (.t 6)⟩,
   ⟨(some 8), none, .bin .sub (.t 5) (.t 7)⟩,
   ⟨(some 1), none, .mv (.t 8)⟩])
  (.seq (.seq (.reg [⟨(some 9), none, .mv (.t 1)⟩,
   ⟨(some 10), none, .bin .lss (.t 9) (.c (.int .i64 0))⟩])
  (.cond (.t 10)
    (.seq (.reg [⟨(some 4), none, .mv (.c (.int .i64 (-1)))⟩])
    .ret)
    .skip))
  (.seq (.reg [⟨(some 11), none, .mv (.t 1)⟩,
   ⟨(some 4), none, .mv (.t 11)⟩])
  .ret))))
theorem k_laws_szRefS : FnOk Try.prog 93 12 rc_laws_szRefS [.t 4] := ⟨Try.f93, _, [], Try.func93, rfl, rfl, by kernel_rfl, by kernel_rfl, follows⟩
theorem ok_laws_szRefS : okF Try.prog 93 = true := by kernel_rfl
def rc_laws_szCheck : RC :=
  (.seq (.reg [⟨(some 2), none, .bx (.t 0)⟩,
   ⟨(some 4), none, .mv (.c (.int .i64 0))⟩])
  (.seq (.reg [⟨(some 5), none, .fa 4 (.t 2)⟩,
   ⟨(some 6), none, .ld false 1 (.t 5)⟩,
   ⟨(some 7), none, .mv (.t 1)⟩,
   ⟨(some 8), none, .cl (.c (.fn 93 [])) [(.t 6), (.t 7)]⟩,
   ⟨(some 1), none, .mv (.t 8)⟩])
  (.seq (.seq (.reg [⟨(some 9), none, .mv (.t 1)⟩,
   ⟨(some 10), none, .bin .lss (.t 9) (.c (.int .i64 0))⟩])
  (.cond (.t 10)
    (.seq (.reg [⟨(some 4), none, .mv (.c (.int .i64 (-1)))⟩])
    .ret)
    .skip))
  (.seq (.reg [⟨(some 11), none, .mv (.t 1)⟩,
   ⟨(some 4), none, .mv (.t 11)⟩])
  .ret))))
theorem k_laws_szCheck : FnOk Try.prog 46 12 rc_laws_szCheck [.t 4] := ⟨Try.f46, _, [], Try.func46, rfl, rfl, by kernel_rfl, by kernel_rfl, follows⟩
theorem ok_laws_szCheck : okF Try.prog 46 = true := by kernel_rfl
def rc_spec_l01In : RC :=
  (.seq (.reg [⟨(some 6), none, .mv (.c (.bool false))⟩])
  (.seq (.reg [⟨(some 7), none, .mv (.t 0)⟩,
   ⟨(some 8), none, .mv (.t 1)⟩,
   ⟨(some 9), none, .bin .geq (.t 7) (.t 8)⟩,
   ⟨(some 10), none, .mv (.t 9)⟩,
   ⟨(some 11), (some (10, true)), .mv (.t 0)⟩,
   ⟨(some 12), (some (10, true)), .mv (.t 2)⟩,
   ⟨(some 13), (some (10, true)), .bin .leq (.t 11) (.t 12)⟩,
   ⟨(some 14), none, .pick (.t 10) (.t 13) (.c (.bool false))⟩,
   ⟨(some 6), none, .mv (.t 14)⟩])
  .ret))
theorem k_spec_l01In : FnOk Try.prog 113 15 rc_spec_l01In [.t 6] := ⟨Try.f113, _, [], Try.func113, rfl, rfl, by kernel_rfl, by kernel_rfl, follows⟩
theorem ok_spec_l01In : okF Try.prog 113 = true := by kernel_rfl
def rc_spec_CheckOk : RC :=
  (.seq (.reg [⟨(some 1), none, .bx (.t 0)⟩,
   ⟨(some 2), none, .mv (.c (.bool false))⟩])
  (.seq (.seq (.reg [⟨(some 6), none, .fa 0 (.t 1)⟩,
   ⟨(some 7), none, .ld false 1 (.t 6)⟩,
   ⟨(some 8), none, .cl (.c (.fn 113 [])) [(.t 7), (.c (.int .i64 1)), (.c (.int .i64 1000000000))]⟩,
   ⟨(some 9), none, .un .not (.t 8)⟩,
   ⟨(some 10), none, .mv (.t 9)⟩,
   ⟨(some 11), (some (10, false)), .fa 1 (.t 1)⟩,
   ⟨(some 12), (some (10, false)), .ld false 1 (.t 11)⟩,
   ⟨(some 13), (some (10, false)), .cl (.c (.fn 113 [])) [(.t 12), (.c (.int .i64 1)), (.c (.int .i64 1000000000))]⟩,
   ⟨(some 14), (some (10, false)), .un .not (.t 13)⟩,
   ⟨(some 15), none, .pick (.t 10) (.c (.bool true)) (.t 14)⟩,
   ⟨(some 16), none, .mv (.t 15)⟩,
   ⟨(some 17), (some (16, false)), .fa 2 (.t 1)⟩,
   ⟨(some 18), (some (16, false)), .ld false 1 (.t 17)⟩,
   ⟨(some 19), (some (16, false)), .cl (.c (.fn 113 [])) [(.t 18), (.c (.int .i64 1)), (.c (.int .i64 1000000000))]⟩,
   ⟨(some 20), (some (16, false)), .un .not (.t 19)⟩,
   ⟨(some 21), none, .pick (.t 16) (.c (.bool true)) (.t 20)⟩,
   ⟨(some 22), none, .mv (.t 21)⟩,
   ⟨(some 23), (some (22, false)), .fa 3 (.t 1)⟩,
   ⟨(some 24), (some (22, false)), .ld false 1 (.t 23)⟩,
   ⟨(some 25), (some (22, false)), .cl (.c (.fn 113 [])) [(.t 24), (.c (.int .i64 1)), (.c (.int .i64 1000000000))]⟩,
   ⟨(some 26), (some (22, false)), .un .not (.t 25)⟩,
   ⟨(some 27), none, .pick (.t 22) (.c (.bool true)) (.t 26)⟩,
   ⟨(some 28), none, .mv (.t 27)⟩,
   ⟨(some 29), (some (28, false)), .fa 4 (.t 1)⟩,
   ⟨(some 30), (some (28, false)), .ld false 1 (.t 29)⟩,
   ⟨(some 31), (some (28, false)), .lenl (.t 30)⟩,
   ⟨(some 32), (some (28, false)), .cl (.c (.fn 113 [])) [(.t 31), (.c (.int .i64 1)), (.c (.int .i64 11))]⟩,
   ⟨(some 33), (some (28, false)), .un .not (.t 32)⟩,
   ⟨(some 34), none, .pick (.t 28) (.c (.bool true)) (.t 33)⟩])
  (.cond (.t 34)
    (.seq (.reg [⟨(some 2), none, .mv (.c (.bool false))⟩])
    .ret)
    .skip))
  (.seq (.seq (.reg [⟨(some 3), none, .mv (.c (.int .i64 0))⟩])
  (.blk 0 (.loop (.seq (.seq (.reg [⟨(some 35), none, .mv (.t 3)⟩,
     ⟨(some 36), none, .fa 4 (.t 1)⟩,
     ⟨(some 37), none, .ld false 1 (.t 36)⟩,
     ⟨(some 38), none, .lenl (.t 37)⟩,
     ⟨(some 39), none, .bin .lss (.t 35) (.t 38)⟩])
    (.cond (.t 39)
      .skip
      (.exit 0)))
    (.seq (.blk 1 (.seq (.reg [⟨(some 42), none, .fa 4 (.t 1)⟩,
      ⟨(some 43), none, .ld false 1 (.t 42)⟩,
      ⟨(some 44), none, .mv (.t 3)⟩,
      ⟨(some 45), none, .ia 2 (.t 43) (.t 44)⟩,
      ⟨(some 46), none, .ld true 2 (.t 45)⟩,
      ⟨(some 4), none, .al [.int .i64 0, .int .i64 0]⟩,
      ⟨none, none, .st 2 (.t 4) (.t 46)⟩])
     (.seq (.seq (.drw [⟨(some 47), none, .fa 0 (.t 4)⟩,
      ⟨(some 48), none, .ld false 1 (.t 47)⟩,
      ⟨(some 49), none, .cl (.c (.fn 113 [])) [(.t 48), (.c (.int .i64 0)), (.c (.int .i64 10))]⟩,
      ⟨(some 50), none, .un .not (.t 49)⟩,
      ⟨(some 51), none, .mv (.t 50)⟩,
      ⟨(some 52), (some (51, false)), .fa 1 (.t 4)⟩,
      ⟨(some 53), (some (51, false)), .ld false 1 (.t 52)⟩,
      ⟨(some 54), (some (51, false)), .fa 1 (.t 1)⟩,
      ⟨(some 55), (some (51, false)), .ld false 1 (.t 54)⟩,
      ⟨(some 56), (some (51, false)), .bin .sub (.t 55) (.c (.int .i64 1))⟩,
      ⟨(some 57), (some (51, false)), .cl (.c (.fn 113 [])) [(.t 53), (.c (.int .i64 1)), (.t 56)]⟩,
      ⟨(some 58), (some (51, false)), .un .not (.t 57)⟩,
      ⟨(some 59), none, .pick (.t 51) (.c (.bool true)) (.t 58)⟩,
      ⟨(some 60), none, .mv (.t 59)⟩,
      ⟨(some 61), (some (60, false)), .mv (.t 3)⟩,
      ⟨(some 62), (some (60, false)), .bin .gtr (.t 61) (.c (.int .i64 0))⟩,
      ⟨(some 63), (some (60, false)), .mv (.t 62)⟩,
      ⟨(some 64), (some (63, true)), .fa 4 (.t 1)⟩,
      ⟨(some 65), (some (63, true)), .ld false 1 (.t 64)⟩,
      ⟨(some 66), (some (63, true)), .mv (.t 3)⟩,
      ⟨(some 67), (some (63, true)), .bin .sub (.t 66) (.c (.int .i64 1))⟩,
      ⟨(some 68), (some (63, true)), .ia 2 (.t 65) (.t 67)⟩,
      ⟨(some 69), (some (63, true)), .fa 1 (.t 68)⟩,
      ⟨(some 70), (some (63, true)), .ld false 1 (.t 69)⟩,
      ⟨(some 71), (some (63, true)), .fa 1 (.t 4)⟩,
      ⟨(some 72), (some (63, true)), .ld false 1 (.t 71)⟩,
      ⟨(some 73), (some (63, true)), .bin .geq (.t 70) (.t 72)⟩,
      ⟨(some 74), (some (60, false)), .pick (.t 63) (.t 73) (.c (.bool false))⟩,
      ⟨(some 75), none, .pick (.t 60) (.c (.bool true)) (.t 74)⟩] [.val [], .val [], .val [], .val [], .val [], .val [], .val [], .val [], .val [], .val [], .val [], .val [], .val [], .val [], .val [], .val [], .val [], .val [], .val [], .val [], .val [], .val [], .val [], .val [], .val [], .val [], .val [], .val [], .val []])
     (.cond (.t 75)
       (.seq (.reg [⟨(some 2), none, .mv (.c (.bool false))⟩])
       .ret)
       .skip))
     (.seq (.reg [⟨(some 5), none, .mv (.c (.int .i64 0))⟩])
     (.blk 2 (.loop (.seq (.seq (.reg [⟨(some 76), none, .mv (.t 5)⟩,
        ⟨(some 77), none, .mv (.t 3)⟩,
        ⟨(some 78), none, .bin .lss (.t 76) (.t 77)⟩])
       (.cond (.t 78)
         .skip
         (.exit 2)))
       (.seq (.blk 3 (.seq (.drw [⟨(some 81), none, .fa 4 (.t 1)⟩,
         ⟨(some 82), none, .ld false 1 (.t 81)⟩,
         ⟨(some 83), none, .mv (.t 5)⟩,
         ⟨(some 84), none, .ia 2 (.t 82) (.t 83)⟩,
         ⟨(some 85), none, .fa 0 (.t 84)⟩,
         ⟨(some 86), none, .ld false 1 (.t 85)⟩,
         ⟨(some 87), none, .fa 0 (.t 4)⟩,
         ⟨(some 88), none, .ld false 1 (.t 87)⟩,
         ⟨(some 89), none, .bin .eql (.t 86) (.t 88)⟩] [.val [], .val [], .val [], .val [], .val [], .val [], .val [], .val [], .val []])
        (.cond (.t 89)
          (.seq (.reg [⟨(some 2), none, .mv (.c (.bool false))⟩])
          .ret)
          .skip)))
       (.reg [⟨(some 79), none, .mv (.t 5)⟩,
        ⟨(some 80), none, .bin .add (.t 79) (.c (.int .i64 1))⟩,
        ⟨(some 5), none, .mv (.t 80)⟩])))))))))
    (.reg [⟨(some 40), none, .mv (.t 3)⟩,
     ⟨(some 41), none, .bin .add (.t 40) (.c (.int .i64 1))⟩,
     ⟨(some 3), none, .mv (.t 41)⟩]))))))
  (.seq (.reg [⟨(some 2), none, .mv (.c (.bool true))⟩])
  .ret))))
theorem k_spec_CheckOk : FnOk Try.prog 157 90 rc_spec_CheckOk [.t 2] := ⟨Try.f157, _, [], Try.func157, rfl, rfl, by kernel_rfl, by kernel_rfl, follows⟩
theorem ok_spec_CheckOk : okF Try.prog 157 = true := by kernel_rfl
def rc_spec_l01Var : RC :=
  (.seq (.reg [⟨(some 2), none, .mv (.c (.str []))⟩])
  (.seq (.reg [⟨(some 4), none, .mv (.c (.nils))⟩,
   ⟨(some 3), none, .mv (.t 4)⟩])
  (.seq (.blk 0 (.loop (.seq (.seq (.reg [⟨(some 5), none, .mv (.t 0)⟩,
     ⟨(some 6), none, .bin .gtr (.t 5) (.c (.int .i64 127))⟩])
    (.cond (.t 6)
      .skip
      (.exit 0)))
    (.blk 1 (.seq (.reg [⟨(some 7), none, .mv (.t 3)⟩,
      ⟨(some 8), none, .mv (.t 0)⟩,
      ⟨(some 9), none, .bin .rem (.t 8) (.c (.int .i64 128))⟩,
      ⟨(some 10), none, .bin .add (.t 9) (.c (.int .i64 128))⟩,
      ⟨(some 11), none, .cvi .u8 (.t 10)⟩,
      ⟨(some 12), none, .bs 1 [.int .u8 0] 1 [(0, (.t 11))]⟩,
      ⟨(some 13), none, .app 1 1 (.t 7) (.t 12)⟩,
      ⟨(some 3), none, .mv (.t 13)⟩])
     (.reg [⟨(some 14), none, .mv (.t 0)⟩,
      ⟨(some 15), none, .bin .quo (.t 14) (.c (.int .i64 128))⟩,
      ⟨(some 0), none, .mv (.t 15)⟩]))))))
  (.seq (.reg [⟨(some 16), none, .mv (.t 3)⟩,
   ⟨(some 17), none, .mv (.t 0)⟩,
   ⟨(some 18), none, .cvi .u8 (.t 17)⟩,
   ⟨(some 19), none, .bs 1 [.int .u8 0] 1 [(0, (.t 18))]⟩,
   ⟨(some 20), none, .app 1 1 (.t 16) (.t 19)⟩,
   ⟨(some 21), none, .cvb (.t 20)⟩,
   ⟨(some 2), none, .mv (.t 21)⟩])
  .ret))))
theorem k_spec_l01Var : FnOk Try.prog 158 22 rc_spec_l01Var [.t 2] := ⟨Try.f158, _, [], Try.func158, rfl, rfl, by kernel_rfl, by kernel_rfl, follows⟩
theorem ok_spec_l01Var : okF Try.prog 158 = true := by kernel_rfl
def rc_spec_l02Four : RC :=
  (.seq (.reg [⟨(some 2), none, .mv (.c (.str []))⟩])
  (.seq (.reg [⟨(some 3), none, .mv (.t 0)⟩,
   ⟨(some 4), none, .bin .shr (.t 3) (.c (.int .u64 24))⟩,
   ⟨(some 5), none, .cvi .u8 (.t 4)⟩,
   ⟨(some 6), none, .mv (.t 0)⟩,
   ⟨(some 7), none, .bin .shr (.t 6) (.c (.int .u64 16))⟩,
   ⟨(some 8), none, .cvi .u8 (.t 7)⟩,
   ⟨(some 9), none, .mv (.t 0)⟩,
   ⟨(some 10), none, .bin .shr (.t 9) (.c (.int .u64 8))⟩,
   ⟨(some 11), none, .cvi .u8 (.t 10)⟩,
   ⟨(some 12), none, .mv (.t 0)⟩,
   ⟨(some 13), none, .cvi .u8 (.t 12)⟩,
   ⟨(some 14), none, .bs 1 [.int .u8 0] 4 [(0, (.t 5)), (1, (.t 8)), (2, (.t 11)), (3, (.t 13))]⟩,
   ⟨(some 15), none, .cvb (.t 14)⟩,
   ⟨(some 2), none, .mv (.t 15)⟩])
  .ret))
theorem k_spec_l02Four : FnOk Try.prog 197 16 rc_spec_l02Four [.t 2] := ⟨Try.f197, _, [], Try.func197, rfl, rfl, by kernel_rfl, by kernel_rfl, follows⟩
theorem ok_spec_l02Four : okF Try.prog 197 = true := by kernel_rfl
def rc_spec_SumMore : RC :=
  (.seq (.reg [⟨(some 4), none, .mv (.c (.int .u32 0))⟩])
  (.seq (.seq (.reg [⟨(some 5), none, .mv (.c (.int .i64 0))⟩])
  (.blk 0 (.loop (.seq (.seq (.reg [⟨(some 8), none, .mv (.t 5)⟩,
     ⟨(some 9), none, .mv (.t 1)⟩,
     ⟨(some 10), none, .lens (.t 9)⟩,
     ⟨(some 11), none, .bin .lss (.t 8) (.t 10)⟩])
    (.cond (.t 11)
      .skip
      (.exit 0)))
    (.seq (.blk 1 (.seq (.reg [⟨(some 14), none, .mv (.t 0)⟩,
      ⟨(some 15), none, .mv (.t 1)⟩,
      ⟨(some 16), none, .mv (.t 5)⟩,
      ⟨(some 17), none, .idx (.t 15) (.t 16)⟩,
      ⟨(some 18), none, .cvi .u32 (.t 17)⟩,
      ⟨(some 19), none, .bin .xor (.t 14) (.t 18)⟩,
      ⟨(some 0), none, .mv (.t 19)⟩])
     (.seq (.reg [⟨(some 6), none, .mv (.c (.int .i64 0))⟩])
     (.blk 2 (.loop (.seq (.seq (.reg [⟨(some 20), none, .mv (.t 6)⟩,
        ⟨(some 21), none, .bin .lss (.t 20) (.c (.int .i64 8))⟩])
       (.cond (.t 21)
         .skip
         (.exit 2)))
       (.seq (.blk 3 (.seq (.reg [⟨(some 24), none, .mv (.t 0)⟩,
         ⟨(some 25), none, .bin .rem (.t 24) (.c (.int .u32 2))⟩,
         ⟨(some 26), none, .bin .eql (.t 25) (.c (.int .u32 1))⟩,
         ⟨(some 7), none, .mv (.t 26)⟩])
        (.seq (.reg [⟨(some 27), none, .mv (.t 0)⟩,
         ⟨(some 28), none, .bin .quo (.t 27) (.c (.int .u32 2))⟩,
         ⟨(some 0), none, .mv (.t 28)⟩])
        (.seq (.reg [⟨(some 29), none, .mv (.t 7)⟩])
        (.cond (.t 29)
          (.reg [⟨(some 30), none, .mv (.t 0)⟩,
           ⟨(some 31), none, .bin .xor (.t 30) (.c (.int .u32 3558460437))⟩,
           ⟨(some 0), none, .mv (.t 31)⟩])
          .skip)))))
       (.reg [⟨(some 22), none, .mv (.t 6)⟩,
        ⟨(some 23), none, .bin .add (.t 22) (.c (.int .i64 1))⟩,
        ⟨(some 6), none, .mv (.t 23)⟩]))))))))
    (.reg [⟨(some 12), none, .mv (.t 5)⟩,
     ⟨(some 13), none, .bin .add (.t 12) (.c (.int .i64 1))⟩,
     ⟨(some 5), none, .mv (.t 13)⟩]))))))
  (.seq (.reg [⟨(some 32), none, .mv (.t 0)⟩,
   ⟨(some 4), none, .mv (.t 32)⟩])
  .ret)))
theorem k_spec_SumMore : FnOk Try.prog 214 33 rc_spec_SumMore [.t 4] := ⟨Try.f214, _, [], Try.func214, rfl, rfl, by kernel_rfl, by kernel_rfl, follows⟩
theorem ok_spec_SumMore : okF Try.prog 214 = true := by kernel_rfl
def rc_spec_SumOf : RC :=
  (.seq (.reg [⟨(some 2), none, .mv (.c (.int .u32 0))⟩])
  (.seq (.reg [⟨(some 3), none, .mv (.t 0)⟩,
   ⟨(some 4), none, .cl (.c (.fn 214 [])) [(.c (.int .u32 4294967295)), (.t 3)]⟩,
   ⟨(some 2), none, .mv (.t 4)⟩])
  .ret))
theorem k_spec_SumOf : FnOk Try.prog 198 5 rc_spec_SumOf [.t 2] := ⟨Try.f198, _, [], Try.func198, rfl, rfl, by kernel_rfl, by kernel_rfl, follows⟩
theorem ok_spec_SumOf : okF Try.prog 198 = true := by kernel_rfl
def rc_spec_Sealed : RC :=
  (.seq (.reg [⟨(some 2), none, .mv (.c (.str []))⟩,
   ⟨(some 3), none, .mv (.c (.bool false))⟩])
  (.seq (.seq (.reg [⟨(some 4), none, .mv (.t 0)⟩,
   ⟨(some 5), none, .lens (.t 4)⟩,
   ⟨(some 6), none, .bin .gtr (.t 5) (.c (.int .i64 20000))⟩])
  (.cond (.t 6)
    (.seq (.reg [⟨(some 2), none, .mv (.c (.str []))⟩,
     ⟨(some 3), none, .mv (.c (.bool false))⟩])
    .ret)
    .skip))
  (.seq (.reg [⟨(some 7), none, .mv (.t 0)⟩,
   ⟨(some 8), none, .mv (.t 0)⟩,
   ⟨(some 9), none, .cl (.c (.fn 198 [])) [(.t 8)]⟩,
   ⟨(some 10), none, .cl (.c (.fn 197 [])) [(.t 9)]⟩,
   ⟨(some 11), none, .bin .add (.t 7) (.t 10)⟩,
   ⟨(some 2), none, .mv (.t 11)⟩,
   ⟨(some 3), none, .mv (.c (.bool true))⟩])
  .ret)))
theorem k_spec_Sealed : FnOk Try.prog 159 12 rc_spec_Sealed [.t 2, .t 3] := ⟨Try.f159, _, [], Try.func159, rfl, rfl, by kernel_rfl, by kernel_rfl, follows⟩
theorem ok_spec_Sealed : okF Try.prog 159 = true := by kernel_rfl
def rc_spec_l06Short : RC :=
  (.seq (.reg [⟨(some 2), none, .mv (.c (.str []))⟩])
  (.seq (.reg [⟨(some 3), none, .mv (.t 0)⟩,
   ⟨(some 4), none, .lens (.t 3)⟩,
   ⟨(some 5), none, .cl (.c (.fn 158 [])) [(.t 4)]⟩,
   ⟨(some 6), none, .mv (.t 0)⟩,
   ⟨(some 7), none, .bin .add (.t 5) (.t 6)⟩,
   ⟨(some 2), none, .mv (.t 7)⟩])
  .ret))
theorem k_spec_l06Short : FnOk Try.prog 160 8 rc_spec_l06Short [.t 2] := ⟨Try.f160, _, [], Try.func160, rfl, rfl, by kernel_rfl, by kernel_rfl, follows⟩
theorem ok_spec_l06Short : okF Try.prog 160 = true := by kernel_rfl
def rc_spec_CheckText : RC :=
  (.seq (.reg [⟨(some 1), none, .bx (.t 0)⟩,
   ⟨(some 2), none, .mv (.c (.str []))⟩,
   ⟨(some 3), none, .mv (.c (.bool false))⟩])
  (.seq (.seq (.reg [⟨(some 9), none, .ld true 5 (.t 1)⟩,
   ⟨(some 10), none, .cl (.c (.fn 157 [])) [(.t 9)]⟩,
   ⟨(some 11), none, .un .not (.t 10)⟩])
  (.cond (.t 11)
    (.seq (.reg [⟨(some 2), none, .mv (.c (.str []))⟩,
     ⟨(some 3), none, .mv (.c (.bool false))⟩])
    .ret)
    .skip))
  (.seq (.drw [⟨(some 12), none, .fa 0 (.t 1)⟩,
   ⟨(some 13), none, .ld false 1 (.t 12)⟩,
   ⟨(some 14), none, .cl (.c (.fn 158 [])) [(.t 13)]⟩,
   ⟨(some 15), none, .fa 1 (.t 1)⟩,
   ⟨(some 16), none, .ld false 1 (.t 15)⟩,
   ⟨(some 17), none, .cl (.c (.fn 158 [])) [(.t 16)]⟩,
   ⟨(some 18), none, .bin .add (.t 14) (.t 17)⟩,
   ⟨(some 19), none, .fa 2 (.t 1)⟩,
   ⟨(some 20), none, .ld false 1 (.t 19)⟩,
   ⟨(some 21), none, .cl (.c (.fn 158 [])) [(.t 20)]⟩,
   ⟨(some 22), none, .bin .add (.t 18) (.t 21)⟩,
   ⟨(some 23), none, .fa 3 (.t 1)⟩,
   ⟨(some 24), none, .ld false 1 (.t 23)⟩,
   ⟨(some 25), none, .cl (.c (.fn 158 [])) [(.t 24)]⟩,
   ⟨(some 26), none, .bin .add (.t 22) (.t 25)⟩,
   ⟨(some 27), none, .fa 4 (.t 1)⟩,
   ⟨(some 28), none, .ld false 1 (.t 27)⟩,
   ⟨(some 29), none, .lenl (.t 28)⟩,
   ⟨(some 30), none, .cl (.c (.fn 158 [])) [(.t 29)]⟩,
   ⟨(some 31), none, .bin .add (.t 26) (.t 30)⟩,
   ⟨(some 4), none, .mv (.t 31)⟩] [.val [], .val [], .val [], .val [], .val [], .val [], .val [], .val [], .val [], .val [], .val [], .val [], .val [], .val [], .val [], .val [], .val [], .val [], .val [], .val [], .val []])
  (.seq (.seq (.reg [⟨(some 5), none, .mv (.c (.int .i64 0))⟩])
  (.blk 0 (.loop (.seq (.seq (.reg [⟨(some 32), none, .mv (.t 5)⟩,
     ⟨(some 33), none, .fa 4 (.t 1)⟩,
     ⟨(some 34), none, .ld false 1 (.t 33)⟩,
     ⟨(some 35), none, .lenl (.t 34)⟩,
     ⟨(some 36), none, .bin .lss (.t 32) (.t 35)⟩])
    (.cond (.t 36)
      .skip
      (.exit 0)))
    (.seq (.blk 1 (.drw [⟨(some 39), none, .mv (.t 4)⟩,
      ⟨(some 40), none, .fa 4 (.t 1)⟩,
      ⟨(some 41), none, .ld false 1 (.t 40)⟩,
      ⟨(some 42), none, .mv (.t 5)⟩,
      ⟨(some 43), none, .ia 2 (.t 41) (.t 42)⟩,
      ⟨(some 44), none, .fa 0 (.t 43)⟩,
      ⟨(some 45), none, .ld false 1 (.t 44)⟩,
      ⟨(some 46), none, .cl (.c (.fn 158 [])) [(.t 45)]⟩,
      ⟨(some 47), none, .bin .add (.t 39) (.t 46)⟩,
      ⟨(some 48), none, .fa 4 (.t 1)⟩,
      ⟨(some 49), none, .ld false 1 (.t 48)⟩,
      ⟨(some 50), none, .mv (.t 5)⟩,
      ⟨(some 51), none, .ia 2 (.t 49) (.t 50)⟩,
      ⟨(some 52), none, .fa 1 (.t 51)⟩,
      ⟨(some 53), none, .ld false 1 (.t 52)⟩,
      ⟨(some 54), none, .cl (.c (.fn 158 [])) [(.t 53)]⟩,
      ⟨(some 55), none, .bin .add (.t 47) (.t 54)⟩,
      ⟨(some 4), none, .mv (.t 55)⟩] [.val [], .val [], .val [], .val [], .val [], .val [], .val [], .val [], .val [], .val [], .val [], .val [], .val [], .val [], .val [], .val [], .val [], .val []]))
    (.reg [⟨(some 37), none, .mv (.t 5)⟩,
     ⟨(some 38), none, .bin .add (.t 37) (.c (.int .i64 1))⟩,
     ⟨(some 5), none, .mv (.t 38)⟩]))))))
  (.seq (.reg [⟨(some 57), none, .mv (.t 4)⟩,
   ⟨(some 58), none, .cl (.c (.fn 159 [])) [(.t 57)]⟩,
   ⟨(some 56), none, .mv (.t 58)⟩,
   ⟨(some 59), none, .ext (.t 56) 0⟩,
   ⟨(some 60), none, .ext (.t 56) 1⟩,
   ⟨(some 6), none, .mv (.t 59)⟩,
   ⟨(some 7), none, .mv (.t 60)⟩])
  (.seq (.reg [⟨(some 61), none, .mv (.t 6)⟩,
   ⟨(some 62), none, .cl (.c (.fn 160 [])) [(.t 61)]⟩,
   ⟨(some 8), none, .mv (.t 62)⟩])
  (.seq (.seq (.reg [⟨(some 63), none, .mv (.t 7)⟩,
   ⟨(some 64), none, .un .not (.t 63)⟩,
   ⟨(some 65), none, .mv (.t 64)⟩,
   ⟨(some 66), (some (65, false)), .mv (.t 8)⟩,
   ⟨(some 67), (some (65, false)), .lens (.t 66)⟩,
   ⟨(some 68), (some (65, false)), .bin .gtr (.t 67) (.c (.int .i64 128))⟩,
   ⟨(some 69), none, .pick (.t 65) (.c (.bool true)) (.t 68)⟩])
  (.cond (.t 69)
    (.seq (.reg [⟨(some 2), none, .mv (.c (.str []))⟩,
     ⟨(some 3), none, .mv (.c (.bool false))⟩])
    .ret)
    .skip))
  (.seq (.reg [⟨(some 70), none, .mv (.t 8)⟩,
   ⟨(some 2), none, .mv (.t 70)⟩,
   ⟨(some 3), none, .mv (.c (.bool true))⟩])
  .ret))))))))
theorem k_spec_CheckText : FnOk Try.prog 94 71 rc_spec_CheckText [.t 2, .t 3] := ⟨Try.f94, _, [], Try.func94, rfl, rfl, by kernel_rfl, by kernel_rfl, follows⟩
theorem ok_spec_CheckText : okF Try.prog 94 = true := by kernel_rfl
def rc_spec_DiskOk : RC :=
  (.seq (.reg [⟨(some 1), none, .bx (.t 0)⟩,
   ⟨(some 2), none, .mv (.c (.bool false))⟩])
  (.seq (.seq (.reg [⟨(some 5), none, .fa 0 (.t 1)⟩,
   ⟨(some 6), none, .ld false 1 (.t 5)⟩,
   ⟨(some 7), none, .lenl (.t 6)⟩,
   ⟨(some 8), none, .cl (.c (.fn 113 [])) [(.t 7), (.c (.int .i64 1)), (.c (.int .i64 100))]⟩,
   ⟨(some 9), none, .un .not (.t 8)⟩,
   ⟨(some 10), none, .mv (.t 9)⟩,
   ⟨(some 11), (some (10, false)), .fa 1 (.t 1)⟩,
   ⟨(some 12), (some (10, false)), .ld false 1 (.t 11)⟩,
   ⟨(some 13), (some (10, false)), .lenl (.t 12)⟩,
   ⟨(some 14), (some (10, false)), .bin .gtr (.t 13) (.c (.int .i64 60))⟩,
   ⟨(some 15), none, .pick (.t 10) (.c (.bool true)) (.t 14)⟩])
  (.cond (.t 15)
    (.seq (.reg [⟨(some 2), none, .mv (.c (.bool false))⟩])
    .ret)
    .skip))
  (.seq (.seq (.reg [⟨(some 3), none, .mv (.c (.int .i64 0))⟩])
  (.blk 0 (.loop (.seq (.seq (.reg [⟨(some 16), none, .mv (.t 3)⟩,
     ⟨(some 17), none, .fa 0 (.t 1)⟩,
     ⟨(some 18), none, .ld false 1 (.t 17)⟩,
     ⟨(some 19), none, .lenl (.t 18)⟩,
     ⟨(some 20), none, .bin .lss (.t 16) (.t 19)⟩])
    (.cond (.t 20)
      .skip
      (.exit 0)))
    (.seq (.blk 1 (.seq (.reg [⟨(some 23), none, .fa 0 (.t 1)⟩,
      ⟨(some 24), none, .ld false 1 (.t 23)⟩,
      ⟨(some 25), none, .mv (.t 3)⟩,
      ⟨(some 26), none, .ia 1 (.t 24) (.t 25)⟩,
      ⟨(some 27), none, .ld false 1 (.t 26)⟩,
      ⟨(some 28), none, .lens (.t 27)⟩,
      ⟨(some 29), none, .bin .neq (.t 28) (.c (.int .i64 32))⟩])
     (.cond (.t 29)
       (.seq (.reg [⟨(some 2), none, .mv (.c (.bool false))⟩])
       .ret)
       .skip)))
    (.reg [⟨(some 21), none, .mv (.t 3)⟩,
     ⟨(some 22), none, .bin .add (.t 21) (.c (.int .i64 1))⟩,
     ⟨(some 3), none, .mv (.t 22)⟩]))))))
  (.seq (.seq (.reg [⟨(some 4), none, .mv (.c (.int .i64 0))⟩])
  (.blk 2 (.loop (.seq (.seq (.reg [⟨(some 30), none, .mv (.t 4)⟩,
     ⟨(some 31), none, .fa 1 (.t 1)⟩,
     ⟨(some 32), none, .ld false 1 (.t 31)⟩,
     ⟨(some 33), none, .lenl (.t 32)⟩,
     ⟨(some 34), none, .bin .lss (.t 30) (.t 33)⟩])
    (.cond (.t 34)
      .skip
      (.exit 2)))
    (.seq (.blk 3 (.seq (.drw [⟨(some 37), none, .fa 1 (.t 1)⟩,
      ⟨(some 38), none, .ld false 1 (.t 37)⟩,
      ⟨(some 39), none, .mv (.t 4)⟩,
      ⟨(some 40), none, .ia 2 (.t 38) (.t 39)⟩,
      ⟨(some 41), none, .fa 0 (.t 40)⟩,
      ⟨(some 42), none, .ld false 1 (.t 41)⟩,
      ⟨(some 43), none, .fa 0 (.t 1)⟩,
      ⟨(some 44), none, .ld false 1 (.t 43)⟩,
      ⟨(some 45), none, .lenl (.t 44)⟩,
      ⟨(some 46), none, .bin .sub (.t 45) (.c (.int .i64 1))⟩,
      ⟨(some 47), none, .cl (.c (.fn 113 [])) [(.t 42), (.c (.int .i64 0)), (.t 46)]⟩,
      ⟨(some 48), none, .un .not (.t 47)⟩,
      ⟨(some 49), none, .mv (.t 48)⟩,
      ⟨(some 50), (some (49, false)), .fa 1 (.t 1)⟩,
      ⟨(some 51), (some (49, false)), .ld false 1 (.t 50)⟩,
      ⟨(some 52), (some (49, false)), .mv (.t 4)⟩,
      ⟨(some 53), (some (49, false)), .ia 2 (.t 51) (.t 52)⟩,
      ⟨(some 54), (some (49, false)), .fa 1 (.t 53)⟩,
      ⟨(some 55), (some (49, false)), .ld false 1 (.t 54)⟩,
      ⟨(some 56), (some (49, false)), .lens (.t 55)⟩,
      ⟨(some 57), (some (49, false)), .bin .neq (.t 56) (.c (.int .i64 32))⟩,
      ⟨(some 58), none, .pick (.t 49) (.c (.bool true)) (.t 57)⟩] [.val [], .val [], .val [], .val [], .val [], .val [], .val [], .val [], .val [], .val [], .val [], .val [], .val [], .val [], .val [], .val [], .val [], .val [], .val [], .val [], .val [], .val []])
     (.cond (.t 58)
       (.seq (.reg [⟨(some 2), none, .mv (.c (.bool false))⟩])
       .ret)
       .skip)))
    (.reg [⟨(some 35), none, .mv (.t 4)⟩,
     ⟨(some 36), none, .bin .add (.t 35) (.c (.int .i64 1))⟩,
     ⟨(some 4), none, .mv (.t 36)⟩]))))))
  (.seq (.reg [⟨(some 2), none, .mv (.c (.bool true))⟩])
  .ret)))))
theorem k_spec_DiskOk : FnOk Try.prog 95 59 rc_spec_DiskOk [.t 2] := ⟨Try.f95, _, [], Try.func95, rfl, rfl, by kernel_rfl, by kernel_rfl, follows⟩
theorem ok_spec_DiskOk : okF Try.prog 95 = true := by kernel_rfl
def rc_spec_l03Copy : RC :=
  (.seq (.reg [⟨(some 1), none, .bx (.t 0)⟩,
   ⟨(some 2), none, .al [.nils, .nils]⟩])
  (.seq (.drw [⟨(some 3), none, .mv (.c (.nils))⟩,
   ⟨(some 4), none, .fa 0 (.t 1)⟩,
   ⟨(some 5), none, .ld false 1 (.t 4)⟩,
   ⟨(some 6), none, .app 1 16 (.t 3) (.t 5)⟩,
   ⟨(some 7), none, .mv (.c (.nils))⟩,
   ⟨(some 8), none, .fa 1 (.t 1)⟩,
   ⟨(some 9), none, .ld false 1 (.t 8)⟩,
   ⟨(some 10), none, .app 2 24 (.t 7) (.t 9)⟩,
   ⟨(some 11), none, .bld [.nils, .nils] [(0, 1), (1, 1)] [(0, (.t 6)), (1, (.t 10))]⟩,
   ⟨none, none, .st 2 (.t 2) (.t 11)⟩] [.val [], .val [], .val [], .chn [], .val [3], .val [3], .val [3], .chn [], .val [], .chn []])
  .ret))
theorem k_spec_l03Copy : FnOk Try.prog 96 12 rc_spec_l03Copy [.cell 2 true 2] := ⟨Try.f96, _, [], Try.func96, rfl, rfl, by kernel_rfl, by kernel_rfl, follows⟩
theorem ok_spec_l03Copy : okF Try.prog 96 = true := by kernel_rfl
def rc_spec_ReadSector : RC :=
  (.seq (.reg [⟨(some 2), none, .bx (.t 0)⟩,
   ⟨(some 4), none, .mv (.c (.str []))⟩,
   ⟨(some 5), none, .mv (.c (.bool false))⟩])
  (.seq (.seq (.reg [⟨(some 7), none, .mv (.t 1)⟩,
   ⟨(some 8), none, .fa 0 (.t 2)⟩,
   ⟨(some 9), none, .ld false 1 (.t 8)⟩,
   ⟨(some 10), none, .lenl (.t 9)⟩,
   ⟨(some 11), none, .bin .sub (.t 10) (.c (.int .i64 1))⟩,
   ⟨(some 12), none, .cl (.c (.fn 113 [])) [(.t 7), (.c (.int .i64 0)), (.t 11)]⟩,
   ⟨(some 13), none, .un .not (.t 12)⟩])
  (.cond (.t 13)
    (.seq (.reg [⟨(some 4), none, .mv (.c (.str []))⟩,
     ⟨(some 5), none, .mv (.c (.bool false))⟩])
    .ret)
    .skip))
  (.seq (.seq (.reg [⟨(some 14), none, .fa 1 (.t 2)⟩,
   ⟨(some 15), none, .ld false 1 (.t 14)⟩,
   ⟨(some 16), none, .lenl (.t 15)⟩,
   ⟨(some 17), none, .bin .sub (.t 16) (.c (.int .i64 1))⟩,
   ⟨(some 6), none, .mv (.t 17)⟩])
  (.blk 0 (.loop (.seq (.seq (.reg [⟨(some 18), none, .mv (.t 6)⟩,
     ⟨(some 19), none, .bin .geq (.t 18) (.c (.int .i64 0))⟩])
    (.cond (.t 19)
      .skip
      (.exit 0)))
    (.seq (.blk 1 (.seq (.reg [⟨(some 22), none, .fa 1 (.t 2)⟩,
      ⟨(some 23), none, .ld false 1 (.t 22)⟩,
      ⟨(some 24), none, .mv (.t 6)⟩,
      ⟨(some 25), none, .ia 2 (.t 23) (.t 24)⟩,
      ⟨(some 26), none, .fa 0 (.t 25)⟩,
      ⟨(some 27), none, .ld false 1 (.t 26)⟩,
      ⟨(some 28), none, .mv (.t 1)⟩,
      ⟨(some 29), none, .bin .eql (.t 27) (.t 28)⟩])
     (.cond (.t 29)
       (.seq (.reg [⟨(some 30), none, .fa 1 (.t 2)⟩,
        ⟨(some 31), none, .ld false 1 (.t 30)⟩,
        ⟨(some 32), none, .mv (.t 6)⟩,
        ⟨(some 33), none, .ia 2 (.t 31) (.t 32)⟩,
        ⟨(some 34), none, .fa 1 (.t 33)⟩,
        ⟨(some 35), none, .ld false 1 (.t 34)⟩,
        ⟨(some 4), none, .mv (.t 35)⟩,
        ⟨(some 5), none, .mv (.c (.bool true))⟩])
       .ret)
       .skip)))
    (.reg [⟨(some 20), none, .mv (.t 6)⟩,
     ⟨(some 21), none, .bin .sub (.t 20) (.c (.int .i64 1))⟩,
     ⟨(some 6), none, .mv (.t 21)⟩]))))))
  (.seq (.reg [⟨(some 36), none, .fa 0 (.t 2)⟩,
   ⟨(some 37), none, .ld false 1 (.t 36)⟩,
   ⟨(some 38), none, .mv (.t 1)⟩,
   ⟨(some 39), none, .ia 1 (.t 37) (.t 38)⟩,
   ⟨(some 40), none, .ld false 1 (.t 39)⟩,
   ⟨(some 4), none, .mv (.t 40)⟩,
   ⟨(some 5), none, .mv (.c (.bool true))⟩])
  .ret))))
theorem k_spec_ReadSector : FnOk Try.prog 147 41 rc_spec_ReadSector [.t 4, .t 5] := ⟨Try.f147, _, [], Try.func147, rfl, rfl, by kernel_rfl, by kernel_rfl, follows⟩
theorem ok_spec_ReadSector : okF Try.prog 147 = true := by kernel_rfl
def rc_spec_WriteSector : RC :=
  (.seq (.reg [⟨(some 3), none, .bx (.t 0)⟩,
   ⟨(some 6), none, .al [.nils, .nils]⟩,
   ⟨(some 7), none, .mv (.c (.bool false))⟩])
  (.seq (.reg [⟨(some 9), none, .ld true 2 (.t 3)⟩,
   ⟨(some 10), none, .cl (.c (.fn 96 [])) [(.t 9)]⟩,
   ⟨(some 8), none, .al [.nils, .nils]⟩,
   ⟨none, none, .st 2 (.t 8) (.t 10)⟩])
  (.seq (.seq (.reg [⟨(some 11), none, .ld true 2 (.t 3)⟩,
   ⟨(some 12), none, .cl (.c (.fn 95 [])) [(.t 11)]⟩,
   ⟨(some 13), none, .un .not (.t 12)⟩,
   ⟨(some 14), none, .mv (.t 13)⟩,
   ⟨(some 15), (some (14, false)), .mv (.t 1)⟩,
   ⟨(some 16), (some (14, false)), .fa 0 (.t 3)⟩,
   ⟨(some 17), (some (14, false)), .ld false 1 (.t 16)⟩,
   ⟨(some 18), (some (14, false)), .lenl (.t 17)⟩,
   ⟨(some 19), (some (14, false)), .bin .sub (.t 18) (.c (.int .i64 1))⟩,
   ⟨(some 20), (some (14, false)), .cl (.c (.fn 113 [])) [(.t 15), (.c (.int .i64 0)), (.t 19)]⟩,
   ⟨(some 21), (some (14, false)), .un .not (.t 20)⟩,
   ⟨(some 22), none, .pick (.t 14) (.c (.bool true)) (.t 21)⟩,
   ⟨(some 23), none, .mv (.t 22)⟩,
   ⟨(some 24), (some (23, false)), .mv (.t 2)⟩,
   ⟨(some 25), (some (23, false)), .lens (.t 24)⟩,
   ⟨(some 26), (some (23, false)), .bin .neq (.t 25) (.c (.int .i64 32))⟩,
   ⟨(some 27), none, .pick (.t 23) (.c (.bool true)) (.t 26)⟩,
   ⟨(some 28), none, .mv (.t 27)⟩,
   ⟨(some 29), (some (28, false)), .fa 1 (.t 3)⟩,
   ⟨(some 30), (some (28, false)), .ld false 1 (.t 29)⟩,
   ⟨(some 31), (some (28, false)), .lenl (.t 30)⟩,
   ⟨(some 32), (some (28, false)), .bin .geq (.t 31) (.c (.int .i64 60))⟩,
   ⟨(some 33), none, .pick (.t 28) (.c (.bool true)) (.t 32)⟩])
  (.cond (.t 33)
    (.seq (.reg [⟨(some 34), none, .ld true 2 (.t 8)⟩,
     ⟨none, none, .st 2 (.t 6) (.t 34)⟩,
     ⟨(some 7), none, .mv (.c (.bool false))⟩])
    .ret)
    .skip))
  (.seq (.reg [⟨(some 35), none, .fa 1 (.t 8)⟩,
   ⟨(some 36), none, .ld false 1 (.t 35)⟩,
   ⟨(some 37), none, .mv (.t 1)⟩,
   ⟨(some 38), none, .mv (.t 2)⟩,
   ⟨(some 39), none, .bld [.int .i64 0, .str []] [(0, 1), (1, 1)] [(0, (.t 37)), (1, (.t 38))]⟩,
   ⟨(some 40), none, .bs 2 [.int .i64 0, .str []] 1 [(0, (.t 39))]⟩,
   ⟨(some 41), none, .app 2 24 (.t 36) (.t 40)⟩,
   ⟨(some 42), none, .fa 1 (.t 8)⟩,
   ⟨none, none, .st 1 (.t 42) (.t 41)⟩])
  (.seq (.reg [⟨(some 43), none, .ld true 2 (.t 8)⟩,
   ⟨none, none, .st 2 (.t 6) (.t 43)⟩,
   ⟨(some 7), none, .mv (.c (.bool true))⟩])
  .ret)))))
theorem k_spec_WriteSector : FnOk Try.prog 161 44 rc_spec_WriteSector [.cell 6 true 2, .t 7] := ⟨Try.f161, _, [], Try.func161, rfl, rfl, by kernel_rfl, by kernel_rfl, follows⟩
theorem ok_spec_WriteSector : okF Try.prog 161 = true := by kernel_rfl
def rc_spec_WriteBytes : RC :=
  (.seq (.reg [⟨(some 4), none, .bx (.t 0)⟩,
   ⟨(some 8), none, .al [.nils, .nils]⟩,
   ⟨(some 9), none, .mv (.c (.bool false))⟩])
  (.seq (.reg [⟨(some 19), none, .ld true 2 (.t 4)⟩,
   ⟨(some 20), none, .cl (.c (.fn 96 [])) [(.t 19)]⟩,
   ⟨(some 10), none, .al [.nils, .nils]⟩,
   ⟨none, none, .st 2 (.t 10) (.t 20)⟩])
  (.seq (.seq (.reg [⟨(some 21), none, .mv (.t 2)⟩,
   ⟨(some 22), none, .cl (.c (.fn 113 [])) [(.t 21), (.c (.int .i64 0)), (.c (.int .i64 3200))]⟩,
   ⟨(some 23), none, .un .not (.t 22)⟩,
   ⟨(some 24), none, .mv (.t 23)⟩,
   ⟨(some 25), (some (24, false)), .mv (.t 1)⟩,
   ⟨(some 26), (some (24, false)), .fa 0 (.t 4)⟩,
   ⟨(some 27), (some (24, false)), .ld false 1 (.t 26)⟩,
   ⟨(some 28), (some (24, false)), .lenl (.t 27)⟩,
   ⟨(some 29), (some (24, false)), .bin .sub (.t 28) (.c (.int .i64 1))⟩,
   ⟨(some 30), (some (24, false)), .cl (.c (.fn 113 [])) [(.t 25), (.c (.int .i64 0)), (.t 29)]⟩,
   ⟨(some 31), (some (24, false)), .un .not (.t 30)⟩,
   ⟨(some 32), none, .pick (.t 24) (.c (.bool true)) (.t 31)⟩,
   ⟨(some 33), none, .mv (.t 32)⟩,
   ⟨(some 34), (some (33, false)), .ld true 2 (.t 4)⟩,
   ⟨(some 35), (some (33, false)), .cl (.c (.fn 95 [])) [(.t 34)]⟩,
   ⟨(some 36), (some (33, false)), .un .not (.t 35)⟩,
   ⟨(some 37), none, .pick (.t 33) (.c (.bool true)) (.t 36)⟩])
  (.cond (.t 37)
    (.seq (.reg [⟨(some 38), none, .ld true 2 (.t 10)⟩,
     ⟨none, none, .st 2 (.t 8) (.t 38)⟩,
     ⟨(some 9), none, .mv (.c (.bool false))⟩])
    .ret)
    .skip))
  (.seq (.seq (.reg [⟨(some 11), none, .mv (.c (.int .i64 0))⟩])
  (.blk 0 (.loop (.seq (.seq (.reg [⟨(some 39), none, .mv (.t 11)⟩,
     ⟨(some 40), none, .mv (.t 3)⟩,
     ⟨(some 41), none, .lens (.t 40)⟩,
     ⟨(some 42), none, .bin .lss (.t 39) (.t 41)⟩])
    (.cond (.t 42)
      .skip
      (.exit 0)))
    (.blk 1 (.seq (.reg [⟨(some 43), none, .mv (.t 1)⟩,
      ⟨(some 44), none, .mv (.t 2)⟩,
      ⟨(some 45), none, .mv (.t 11)⟩,
      ⟨(some 46), none, .bin .add (.t 44) (.t 45)⟩,
      ⟨(some 47), none, .bin .quo (.t 46) (.c (.int .i64 32))⟩,
      ⟨(some 48), none, .bin .add (.t 43) (.t 47)⟩,
      ⟨(some 12), none, .mv (.t 48)⟩])
     (.seq (.reg [⟨(some 49), none, .mv (.t 2)⟩,
      ⟨(some 50), none, .mv (.t 11)⟩,
      ⟨(some 51), none, .bin .add (.t 49) (.t 50)⟩,
      ⟨(some 52), none, .bin .rem (.t 51) (.c (.int .i64 32))⟩,
      ⟨(some 13), none, .mv (.t 52)⟩])
     (.seq (.reg [⟨(some 53), none, .mv (.t 13)⟩,
      ⟨(some 54), none, .bin .sub (.c (.int .i64 32)) (.t 53)⟩,
      ⟨(some 14), none, .mv (.t 54)⟩])
     (.seq (.seq (.reg [⟨(some 55), none, .mv (.t 14)⟩,
      ⟨(some 56), none, .mv (.t 3)⟩,
      ⟨(some 57), none, .lens (.t 56)⟩,
      ⟨(some 58), none, .mv (.t 11)⟩,
      ⟨(some 59), none, .bin .sub (.t 57) (.t 58)⟩,
      ⟨(some 60), none, .bin .gtr (.t 55) (.t 59)⟩])
     (.cond (.t 60)
       (.reg [⟨(some 61), none, .mv (.t 3)⟩,
        ⟨(some 62), none, .lens (.t 61)⟩,
        ⟨(some 63), none, .mv (.t 11)⟩,
        ⟨(some 64), none, .bin .sub (.t 62) (.t 63)⟩,
        ⟨(some 14), none, .mv (.t 64)⟩])
       .skip))
     (.seq (.reg [⟨(some 66), none, .ld true 2 (.t 10)⟩,
      ⟨(some 67), none, .mv (.t 12)⟩,
      ⟨(some 68), none, .cl (.c (.fn 147 [])) [(.t 66), (.t 67)]⟩,
      ⟨(some 65), none, .mv (.t 68)⟩,
      ⟨(some 69), none, .ext (.t 65) 0⟩,
      ⟨(some 70), none, .ext (.t 65) 1⟩,
      ⟨(some 15), none, .mv (.t 69)⟩,
      ⟨(some 16), none, .mv (.t 70)⟩])
     (.seq (.seq (.reg [⟨(some 71), none, .mv (.t 16)⟩,
      ⟨(some 72), none, .un .not (.t 71)⟩,
      ⟨(some 73), none, .mv (.t 72)⟩,
      ⟨(some 74), (some (73, false)), .mv (.t 15)⟩,
      ⟨(some 75), (some (73, false)), .lens (.t 74)⟩,
      ⟨(some 76), (some (73, false)), .bin .neq (.t 75) (.c (.int .i64 32))⟩,
      ⟨(some 77), none, .pick (.t 73) (.c (.bool true)) (.t 76)⟩])
     (.cond (.t 77)
       (.seq (.reg [⟨(some 78), none, .ld true 2 (.t 4)⟩,
        ⟨(some 79), none, .cl (.c (.fn 96 [])) [(.t 78)]⟩,
        ⟨none, none, .st 2 (.t 8) (.t 79)⟩,
        ⟨(some 9), none, .mv (.c (.bool false))⟩])
       .ret)
       .skip))
     (.seq (.drw [⟨(some 81), none, .ld true 2 (.t 10)⟩,
      ⟨(some 82), none, .mv (.t 12)⟩,
      ⟨(some 83), none, .mv (.t 15)⟩,
      ⟨(some 84), none, .mv (.t 13)⟩,
      ⟨(some 85), none, .sls (.t 83) none (some (.t 84))⟩,
      ⟨(some 86), none, .mv (.t 3)⟩,
      ⟨(some 87), none, .mv (.t 11)⟩,
      ⟨(some 88), none, .mv (.t 11)⟩,
      ⟨(some 89), none, .mv (.t 14)⟩,
      ⟨(some 90), none, .bin .add (.t 88) (.t 89)⟩,
      ⟨(some 91), none, .sls (.t 86) (some (.t 87)) (some (.t 90))⟩,
      ⟨(some 92), none, .bin .add (.t 85) (.t 91)⟩,
      ⟨(some 93), none, .mv (.t 15)⟩,
      ⟨(some 94), none, .mv (.t 13)⟩,
      ⟨(some 95), none, .mv (.t 14)⟩,
      ⟨(some 96), none, .bin .add (.t 94) (.t 95)⟩,
      ⟨(some 97), none, .sls (.t 93) (some (.t 96)) none⟩,
      ⟨(some 98), none, .bin .add (.t 92) (.t 97)⟩,
      ⟨(some 99), none, .cl (.c (.fn 161 [])) [(.t 81), (.t 82), (.t 98)]⟩,
      ⟨(some 80), none, .mv (.t 99)⟩,
      ⟨(some 100), none, .ext (.t 80) 0⟩,
      ⟨(some 101), none, .ext (.t 80) 1⟩,
      ⟨(some 17), none, .al [.nils, .nils]⟩,
      ⟨none, none, .st 2 (.t 17) (.t 100)⟩,
      ⟨(some 18), none, .mv (.t 101)⟩] [.val [], .val [], .val [], .val [], .val [], .val [], .val [], .val [], .val [], .val [], .val [], .val [], .val [], .val [], .val [], .val [], .val [], .val [], .chn [], .val [], .val [], .val [], .flt 0, .chn [21], .val []])
     (.seq (.seq (.reg [⟨(some 102), none, .mv (.t 18)⟩,
      ⟨(some 103), none, .un .not (.t 102)⟩])
     (.cond (.t 103)
       (.seq (.reg [⟨(some 104), none, .ld true 2 (.t 4)⟩,
        ⟨(some 105), none, .cl (.c (.fn 96 [])) [(.t 104)]⟩,
        ⟨none, none, .st 2 (.t 8) (.t 105)⟩,
        ⟨(some 9), none, .mv (.c (.bool false))⟩])
       .ret)
       .skip))
     (.seq (.reg [⟨(some 106), none, .ld true 2 (.t 17)⟩,
      ⟨none, none, .st 2 (.t 10) (.t 106)⟩])
     (.reg [⟨(some 107), none, .mv (.t 11)⟩,
      ⟨(some 108), none, .mv (.t 14)⟩,
      ⟨(some 109), none, .bin .add (.t 107) (.t 108)⟩,
      ⟨(some 11), none, .mv (.t 109)⟩])))))))))))))))
  (.seq (.reg [⟨(some 110), none, .ld true 2 (.t 10)⟩,
   ⟨none, none, .st 2 (.t 8) (.t 110)⟩,
   ⟨(some 9), none, .mv (.c (.bool true))⟩])
  .ret)))))
theorem k_spec_WriteBytes : FnOk Try.prog 97 111 rc_spec_WriteBytes [.cell 8 true 2, .t 9] := ⟨Try.f97, _, [(14, [18, 1000022])], Try.func97, rfl, rfl, by kernel_rfl, by kernel_rfl, follows⟩
theorem ok_spec_WriteBytes : okF Try.prog 97 = true := by kernel_rfl
def rc_spec_FlushDisk : RC :=
  (.seq (.reg [⟨(some 1), none, .bx (.t 0)⟩,
   ⟨(some 2), none, .al [.nils, .nils]⟩])
  (.seq (.reg [⟨(some 5), none, .ld true 2 (.t 1)⟩,
   ⟨(some 6), none, .cl (.c (.fn 96 [])) [(.t 5)]⟩,
   ⟨(some 3), none, .al [.nils, .nils]⟩,
   ⟨none, none, .st 2 (.t 3) (.t 6)⟩])
  (.seq (.seq (.reg [⟨(some 7), none, .ld true 2 (.t 1)⟩,
   ⟨(some 8), none, .cl (.c (.fn 95 [])) [(.t 7)]⟩,
   ⟨(some 9), none, .un .not (.t 8)⟩])
  (.cond (.t 9)
    (.seq (.reg [⟨(some 10), none, .ld true 2 (.t 3)⟩,
     ⟨none, none, .st 2 (.t 2) (.t 10)⟩])
    .ret)
    .skip))
  (.seq (.seq (.reg [⟨(some 4), none, .mv (.c (.int .i64 0))⟩])
  (.blk 0 (.loop (.seq (.seq (.reg [⟨(some 11), none, .mv (.t 4)⟩,
     ⟨(some 12), none, .fa 1 (.t 1)⟩,
     ⟨(some 13), none, .ld false 1 (.t 12)⟩,
     ⟨(some 14), none, .lenl (.t 13)⟩,
     ⟨(some 15), none, .bin .lss (.t 11) (.t 14)⟩])
    (.cond (.t 15)
      .skip
      (.exit 0)))
    (.seq (.blk 1 (.drw [⟨(some 18), none, .fa 0 (.t 3)⟩,
      ⟨(some 19), none, .ld false 1 (.t 18)⟩,
      ⟨(some 20), none, .fa 1 (.t 1)⟩,
      ⟨(some 21), none, .ld false 1 (.t 20)⟩,
      ⟨(some 22), none, .mv (.t 4)⟩,
      ⟨(some 23), none, .ia 2 (.t 21) (.t 22)⟩,
      ⟨(some 24), none, .fa 0 (.t 23)⟩,
      ⟨(some 25), none, .ld false 1 (.t 24)⟩,
      ⟨(some 26), none, .fa 1 (.t 1)⟩,
      ⟨(some 27), none, .ld false 1 (.t 26)⟩,
      ⟨(some 28), none, .mv (.t 4)⟩,
      ⟨(some 29), none, .ia 2 (.t 27) (.t 28)⟩,
      ⟨(some 30), none, .fa 1 (.t 29)⟩,
      ⟨(some 31), none, .ld false 1 (.t 30)⟩,
      ⟨(some 32), none, .ia 1 (.t 19) (.t 25)⟩,
      ⟨none, none, .st 1 (.t 32) (.t 31)⟩] [.val [], .val [], .val [], .val [], .val [], .val [], .val [], .val [], .val [], .val [], .val [], .val [], .val [], .val [], .val [], .chn []]))
    (.reg [⟨(some 16), none, .mv (.t 4)⟩,
     ⟨(some 17), none, .bin .add (.t 16) (.c (.int .i64 1))⟩,
     ⟨(some 4), none, .mv (.t 17)⟩]))))))
  (.seq (.reg [⟨(some 33), none, .mv (.c (.nils))⟩,
   ⟨(some 34), none, .fa 1 (.t 3)⟩,
   ⟨none, none, .st 1 (.t 34) (.t 33)⟩])
  (.seq (.reg [⟨(some 35), none, .ld true 2 (.t 3)⟩,
   ⟨none, none, .st 2 (.t 2) (.t 35)⟩])
  .ret))))))
theorem k_spec_FlushDisk : FnOk Try.prog 98 36 rc_spec_FlushDisk [.cell 2 true 2] := ⟨Try.f98, _, [], Try.func98, rfl, rfl, by kernel_rfl, by kernel_rfl, follows⟩
theorem ok_spec_FlushDisk : okF Try.prog 98 = true := by kernel_rfl
def rc_spec_WriteCheck : RC :=
  (.seq (.reg [⟨(some 2), none, .bx (.t 0)⟩,
   ⟨(some 3), none, .bx (.t 1)⟩,
   ⟨(some 4), none, .al [.nils, .nils]⟩,
   ⟨(some 5), none, .mv (.c (.bool false))⟩])
  (.seq (.reg [⟨(some 11), none, .ld true 5 (.t 3)⟩,
   ⟨(some 12), none, .cl (.c (.fn 94 [])) [(.t 11)]⟩,
   ⟨(some 10), none, .mv (.t 12)⟩,
   ⟨(some 13), none, .ext (.t 10) 0⟩,
   ⟨(some 14), none, .ext (.t 10) 1⟩,
   ⟨(some 6), none, .mv (.t 13)⟩,
   ⟨(some 7), none, .mv (.t 14)⟩])
  (.seq (.seq (.reg [⟨(some 15), none, .mv (.t 7)⟩,
   ⟨(some 16), none, .un .not (.t 15)⟩,
   ⟨(some 17), none, .mv (.t 16)⟩,
   ⟨(some 18), (some (17, false)), .ld true 2 (.t 2)⟩,
   ⟨(some 19), (some (17, false)), .cl (.c (.fn 95 [])) [(.t 18)]⟩,
   ⟨(some 20), (some (17, false)), .un .not (.t 19)⟩,
   ⟨(some 21), none, .pick (.t 17) (.c (.bool true)) (.t 20)⟩])
  (.cond (.t 21)
    (.seq (.reg [⟨(some 22), none, .ld true 2 (.t 2)⟩,
     ⟨(some 23), none, .cl (.c (.fn 96 [])) [(.t 22)]⟩,
     ⟨none, none, .st 2 (.t 4) (.t 23)⟩,
     ⟨(some 5), none, .mv (.c (.bool false))⟩])
    .ret)
    .skip))
  (.seq (.reg [⟨(some 25), none, .ld true 2 (.t 2)⟩,
   ⟨(some 26), none, .fa 0 (.t 3)⟩,
   ⟨(some 27), none, .ld false 1 (.t 26)⟩,
   ⟨(some 28), none, .bin .rem (.t 27) (.c (.int .i64 2))⟩,
   ⟨(some 29), none, .bin .mul (.c (.int .i64 4)) (.t 28)⟩,
   ⟨(some 30), none, .mv (.t 6)⟩,
   ⟨(some 31), none, .cl (.c (.fn 97 [])) [(.t 25), (.t 29), (.c (.int .i64 0)), (.t 30)]⟩,
   ⟨(some 24), none, .mv (.t 31)⟩,
   ⟨(some 32), none, .ext (.t 24) 0⟩,
   ⟨(some 33), none, .ext (.t 24) 1⟩,
   ⟨(some 8), none, .al [.nils, .nils]⟩,
   ⟨none, none, .st 2 (.t 8) (.t 32)⟩,
   ⟨(some 9), none, .mv (.t 33)⟩])
  (.seq (.seq (.reg [⟨(some 34), none, .mv (.t 9)⟩,
   ⟨(some 35), none, .un .not (.t 34)⟩])
  (.cond (.t 35)
    (.seq (.reg [⟨(some 36), none, .ld true 2 (.t 2)⟩,
     ⟨(some 37), none, .cl (.c (.fn 96 [])) [(.t 36)]⟩,
     ⟨none, none, .st 2 (.t 4) (.t 37)⟩,
     ⟨(some 5), none, .mv (.c (.bool false))⟩])
    .ret)
    .skip))
  (.seq (.reg [⟨(some 38), none, .ld true 2 (.t 8)⟩,
   ⟨(some 39), none, .cl (.c (.fn 98 [])) [(.t 38)]⟩,
   ⟨none, none, .st 2 (.t 4) (.t 39)⟩,
   ⟨(some 5), none, .mv (.c (.bool true))⟩])
  .ret))))))
theorem k_spec_WriteCheck : FnOk Try.prog 47 40 rc_spec_WriteCheck [.cell 4 true 2, .t 5] := ⟨Try.f47, _, [], Try.func47, rfl, rfl, by kernel_rfl, by kernel_rfl, follows⟩
theorem ok_spec_WriteCheck : okF Try.prog 47 = true := by kernel_rfl
def rc_laws_toRef : RC :=
  (.seq (.reg [⟨(some 1), none, .bx (.t 0)⟩,
   ⟨(some 2), none, .al [.int .i64 0, .int .i64 0]⟩])
  (.seq (.reg [⟨(some 3), none, .al [.int .i64 0, .int .i64 0]⟩])
  (.seq (.reg [⟨(some 4), none, .fa 0 (.t 1)⟩,
   ⟨(some 5), none, .ld false 1 (.t 4)⟩,
   ⟨(some 6), none, .fa 0 (.t 3)⟩,
   ⟨none, none, .st 1 (.t 6) (.t 5)⟩])
  (.seq (.reg [⟨(some 7), none, .fa 1 (.t 1)⟩,
   ⟨(some 8), none, .ld false 1 (.t 7)⟩,
   ⟨(some 9), none, .fa 1 (.t 3)⟩,
   ⟨none, none, .st 1 (.t 9) (.t 8)⟩])
  (.seq (.reg [⟨(some 10), none, .ld true 2 (.t 3)⟩,
   ⟨none, none, .st 2 (.t 2) (.t 10)⟩])
  .ret)))))
theorem k_laws_toRef : FnOk Try.prog 162 11 rc_laws_toRef [.cell 2 true 2] := ⟨Try.f162, _, [], Try.func162, rfl, rfl, by kernel_rfl, by kernel_rfl, follows⟩
theorem ok_laws_toRef : okF Try.prog 162 = true := by kernel_rfl
def rc_laws_toRefS : RC :=
  (.seq (.reg [⟨(some 2), none, .mv (.c (.nils))⟩])
  (.seq (.reg [⟨(some 5), none, .mv (.t 0)⟩,
   ⟨(some 6), none, .lenl (.t 5)⟩,
   ⟨(some 7), none, .ms 2 [.int .i64 0, .int .i64 0] 16 (.t 6) (.t 6)⟩,
   ⟨(some 3), none, .mv (.t 7)⟩])
  (.seq (.seq (.reg [⟨(some 4), none, .mv (.c (.int .i64 0))⟩])
  (.blk 0 (.loop (.seq (.seq (.reg [⟨(some 8), none, .mv (.t 4)⟩,
     ⟨(some 9), none, .mv (.t 0)⟩,
     ⟨(some 10), none, .lenl (.t 9)⟩,
     ⟨(some 11), none, .bin .lss (.t 8) (.t 10)⟩])
    (.cond (.t 11)
      .skip
      (.exit 0)))
    (.seq (.blk 1 (.reg [⟨(some 14), none, .mv (.t 3)⟩,
      ⟨(some 15), none, .mv (.t 4)⟩,
      ⟨(some 16), none, .mv (.t 0)⟩,
      ⟨(some 17), none, .mv (.t 4)⟩,
      ⟨(some 18), none, .ia 2 (.t 16) (.t 17)⟩,
      ⟨(some 19), none, .ld true 2 (.t 18)⟩,
      ⟨(some 20), none, .cl (.c (.fn 162 [])) [(.t 19)]⟩,
      ⟨(some 21), none, .ia 2 (.t 14) (.t 15)⟩,
      ⟨none, none, .st 2 (.t 21) (.t 20)⟩]))
    (.reg [⟨(some 12), none, .mv (.t 4)⟩,
     ⟨(some 13), none, .bin .add (.t 12) (.c (.int .i64 1))⟩,
     ⟨(some 4), none, .mv (.t 13)⟩]))))))
  (.seq (.reg [⟨(some 22), none, .mv (.t 3)⟩,
   ⟨(some 2), none, .mv (.t 22)⟩])
  .ret))))
theorem k_laws_toRefS : FnOk Try.prog 99 23 rc_laws_toRefS [.t 2] := ⟨Try.f99, _, [], Try.func99, rfl, rfl, by kernel_rfl, by kernel_rfl, follows⟩
theorem ok_laws_toRefS : okF Try.prog 99 = true := by kernel_rfl
def rc_laws_toCheck : RC :=
  (.seq (.reg [⟨(some 1), none, .bx (.t 0)⟩,
   ⟨(some 2), none, .al [.int .i64 0, .int .i64 0, .int .i64 0, .int .i64 0, .nils]⟩])
  (.seq (.reg [⟨(some 3), none, .al [.int .i64 0, .int .i64 0, .int .i64 0, .int .i64 0, .nils]⟩])
  (.seq (.reg [⟨(some 4), none, .fa 0 (.t 1)⟩,
   ⟨(some 5), none, .ld false 1 (.t 4)⟩,
   ⟨(some 6), none, .fa 0 (.t 3)⟩,
   ⟨none, none, .st 1 (.t 6) (.t 5)⟩])
  (.seq (.reg [⟨(some 7), none, .fa 1 (.t 1)⟩,
   ⟨(some 8), none, .ld false 1 (.t 7)⟩,
   ⟨(some 9), none, .fa 1 (.t 3)⟩,
   ⟨none, none, .st 1 (.t 9) (.t 8)⟩])
  (.seq (.reg [⟨(some 10), none, .fa 2 (.t 1)⟩,
   ⟨(some 11), none, .ld false 1 (.t 10)⟩,
   ⟨(some 12), none, .fa 2 (.t 3)⟩,
   ⟨none, none, .st 1 (.t 12) (.t 11)⟩])
  (.seq (.reg [⟨(some 13), none, .fa 3 (.t 1)⟩,
   ⟨(some 14), none, .ld false 1 (.t 13)⟩,
   ⟨(some 15), none, .fa 3 (.t 3)⟩,
   ⟨none, none, .st 1 (.t 15) (.t 14)⟩])
  (.seq (.reg [⟨(some 16), none, .fa 4 (.t 1)⟩,
   ⟨(some 17), none, .ld false 1 (.t 16)⟩,
   ⟨(some 18), none, .cl (.c (.fn 99 [])) [(.t 17)]⟩,
   ⟨(some 19), none, .fa 4 (.t 3)⟩,
   ⟨none, none, .st 1 (.t 19) (.t 18)⟩])
  (.seq (.reg [⟨(some 20), none, .ld true 5 (.t 3)⟩,
   ⟨none, none, .st 5 (.t 2) (.t 20)⟩])
  .ret))))))))
theorem k_laws_toCheck : FnOk Try.prog 48 21 rc_laws_toCheck [.cell 2 true 5] := ⟨Try.f48, _, [], Try.func48, rfl, rfl, by kernel_rfl, by kernel_rfl, follows⟩
theorem ok_laws_toCheck : okF Try.prog 48 = true := by kernel_rfl
def rc_impl_in : RC :=
  (.seq (.reg [⟨(some 6), none, .mv (.c (.bool false))⟩])
  (.seq (.reg [⟨(some 7), none, .mv (.t 0)⟩,
   ⟨(some 8), none, .mv (.t 1)⟩,
   ⟨(some 9), none, .bin .geq (.t 7) (.t 8)⟩,
   ⟨(some 10), none, .mv (.t 9)⟩,
   ⟨(some 11), (some (10, true)), .mv (.t 0)⟩,
   ⟨(some 12), (some (10, true)), .mv (.t 2)⟩,
   ⟨(some 13), (some (10, true)), .bin .leq (.t 11) (.t 12)⟩,
   ⟨(some 14), none, .pick (.t 10) (.t 13) (.c (.bool false))⟩,
   ⟨(some 6), none, .mv (.t 14)⟩])
  .ret))
theorem k_impl_in : FnOk Try.prog 130 15 rc_impl_in [.t 6] := ⟨Try.f130, _, [], Try.func130, rfl, rfl, by kernel_rfl, by kernel_rfl, follows⟩
theorem ok_impl_in : okF Try.prog 130 = true := by kernel_rfl
def rc_impl_CheckOk_1 : RC :=
  (.seq (.reg [⟨(some 2), none, .bx (.t 0)⟩,
   ⟨(some 3), none, .mv (.c (.bool false))⟩])
  (.seq (.reg [⟨(some 4), none, .fa 0 (.t 2)⟩,
   ⟨(some 5), none, .ld false 1 (.t 4)⟩,
   ⟨(some 6), none, .fa 0 (.t 1)⟩,
   ⟨(some 7), none, .ld false 1 (.t 6)⟩,
   ⟨(some 8), none, .bin .eql (.t 5) (.t 7)⟩,
   ⟨(some 3), none, .mv (.t 8)⟩])
  .ret))
theorem k_impl_CheckOk_1 : FnOk Try.prog 200 9 rc_impl_CheckOk_1 [.t 3] := ⟨Try.f200, _, [], Try.func200, rfl, rfl, by kernel_rfl, by kernel_rfl, follows⟩
theorem ok_impl_CheckOk_1 : okF Try.prog 200 = true := by kernel_rfl
def rc_slices_IndexFunc_Ref : RC :=
  (.seq (.reg [⟨(some 4), none, .mv (.c (.int .i64 0))⟩])
  (.seq (.seq (.reg [⟨(some 6), none, .mv (.t 0)⟩,
   ⟨(some 7), none, .lenl (.t 6)⟩,
   ⟨(some 8), none, .mv (.c (.int .i64 0))⟩])
  (.blk 0 (.loop (.seq (.reg [⟨(some 9), none, .bin .lss (.t 8) (.t 7)⟩])
    (.seq (.cond (.t 9)
      .skip
      (.exit 0))
    (.seq (.blk 1 (.seq (.reg [⟨(some 10), none, .mv (.t 8)⟩,
      ⟨(some 5), none, .mv (.t 10)⟩])
     (.seq (.reg [⟨(some 11), none, .mv (.t 1)⟩,
      ⟨(some 12), none, .mv (.t 0)⟩,
      ⟨(some 13), none, .mv (.t 5)⟩,
      ⟨(some 14), none, .ia 2 (.t 12) (.t 13)⟩,
      ⟨(some 15), none, .ld true 2 (.t 14)⟩,
      ⟨(some 16), none, .cl (.t 11) [(.t 15)]⟩])
     (.cond (.t 16)
       (.seq (.reg [⟨(some 17), none, .mv (.t 5)⟩,
        ⟨(some 4), none, .mv (.t 17)⟩])
       .ret)
       .skip))))
    (.reg [⟨(some 18), none, .bin .add (.t 8) (.c (.int .i64 1))⟩,
     ⟨(some 8), none, .mv (.t 18)⟩])))))))
  (.seq (.reg [⟨(some 4), none, .mv (.c (.int .i64 (-1)))⟩])
  .ret)))
theorem k_slices_IndexFunc_Ref : FnOk Try.prog 215 19 rc_slices_IndexFunc_Ref [.t 4] := ⟨Try.f215, _, [], Try.func215, rfl, rfl, by kernel_rfl, by kernel_rfl, follows⟩
theorem ok_slices_IndexFunc_Ref : okF Try.prog 215 = true := by kernel_rfl
def rc_slices_ContainsFunc_Ref : RC :=
  (.seq (.reg [⟨(some 4), none, .mv (.c (.bool false))⟩])
  (.seq (.reg [⟨(some 5), none, .mv (.t 0)⟩,
   ⟨(some 6), none, .mv (.t 1)⟩,
   ⟨(some 7), none, .cl (.c (.fn 215 [])) [(.t 5), (.t 6)]⟩,
   ⟨(some 8), none, .bin .geq (.t 7) (.c (.int .i64 0))⟩,
   ⟨(some 4), none, .mv (.t 8)⟩])
  .ret))
theorem k_slices_ContainsFunc_Ref : FnOk Try.prog 199 9 rc_slices_ContainsFunc_Ref [.t 4] := ⟨Try.f199, _, [], Try.func199, rfl, rfl, by kernel_rfl, by kernel_rfl, follows⟩
theorem ok_slices_ContainsFunc_Ref : okF Try.prog 199 = true := by kernel_rfl
def rc_impl_CheckOk : RC :=
  (.seq (.reg [⟨(some 1), none, .bx (.t 0)⟩,
   ⟨(some 2), none, .mv (.c (.bool false))⟩])
  (.seq (.seq (.reg [⟨(some 8), none, .fa 0 (.t 1)⟩,
   ⟨(some 9), none, .ld false 1 (.t 8)⟩,
   ⟨(some 10), none, .fa 1 (.t 1)⟩,
   ⟨(some 11), none, .ld false 1 (.t 10)⟩,
   ⟨(some 12), none, .fa 2 (.t 1)⟩,
   ⟨(some 13), none, .ld false 1 (.t 12)⟩,
   ⟨(some 14), none, .fa 3 (.t 1)⟩,
   ⟨(some 15), none, .ld false 1 (.t 14)⟩,
   ⟨(some 16), none, .bs 1 [.int .i64 0] 4 [(0, (.t 9)), (1, (.t 11)), (2, (.t 13)), (3, (.t 15))]⟩,
   ⟨(some 17), none, .lenl (.t 16)⟩,
   ⟨(some 18), none, .mv (.c (.int .i64 0))⟩])
  (.blk 0 (.loop (.seq (.reg [⟨(some 19), none, .bin .lss (.t 18) (.t 17)⟩])
    (.seq (.cond (.t 19)
      .skip
      (.exit 0))
    (.seq (.blk 1 (.seq (.reg [⟨(some 20), none, .ia 1 (.t 16) (.t 18)⟩,
      ⟨(some 21), none, .ld false 1 (.t 20)⟩,
      ⟨(some 4), none, .mv (.t 21)⟩])
     (.seq (.reg [⟨(some 22), none, .mv (.t 4)⟩,
      ⟨(some 23), none, .cl (.c (.fn 130 [])) [(.t 22), (.c (.int .i64 1)), (.c (.int .i64 1000000000))]⟩,
      ⟨(some 24), none, .un .not (.t 23)⟩])
     (.cond (.t 24)
       (.seq (.reg [⟨(some 2), none, .mv (.c (.bool false))⟩])
       .ret)
       .skip))))
    (.reg [⟨(some 25), none, .bin .add (.t 18) (.c (.int .i64 1))⟩,
     ⟨(some 18), none, .mv (.t 25)⟩])))))))
  (.seq (.seq (.reg [⟨(some 26), none, .fa 4 (.t 1)⟩,
   ⟨(some 27), none, .ld false 1 (.t 26)⟩,
   ⟨(some 28), none, .lenl (.t 27)⟩,
   ⟨(some 29), none, .cl (.c (.fn 130 [])) [(.t 28), (.c (.int .i64 1)), (.c (.int .i64 11))]⟩,
   ⟨(some 30), none, .un .not (.t 29)⟩])
  (.cond (.t 30)
    (.seq (.reg [⟨(some 2), none, .mv (.c (.bool false))⟩])
    .ret)
    .skip))
  (.seq (.reg [⟨(some 5), none, .mv (.c (.int .i64 0))⟩])
  (.seq (.seq (.reg [⟨(some 31), none, .fa 4 (.t 1)⟩,
   ⟨(some 32), none, .ld false 1 (.t 31)⟩,
   ⟨(some 33), none, .lenl (.t 32)⟩,
   ⟨(some 34), none, .mv (.c (.int .i64 0))⟩])
  (.blk 2 (.loop (.seq (.reg [⟨(some 35), none, .bin .lss (.t 34) (.t 33)⟩])
    (.seq (.cond (.t 35)
      .skip
      (.exit 2))
    (.seq (.blk 3 (.seq (.reg [⟨(some 36), none, .mv (.t 34)⟩,
      ⟨(some 37), none, .ia 2 (.t 32) (.t 34)⟩,
      ⟨(some 38), none, .ld true 2 (.t 37)⟩,
      ⟨(some 7), none, .al [.int .i64 0, .int .i64 0]⟩,
      ⟨(some 6), none, .mv (.t 36)⟩,
      ⟨none, none, .st 2 (.t 7) (.t 38)⟩])
     (.seq (.seq (.reg [⟨(some 39), none, .fa 1 (.t 7)⟩,
      ⟨(some 40), none, .ld false 1 (.t 39)⟩,
      ⟨(some 41), none, .mv (.t 5)⟩,
      ⟨(some 42), none, .bin .add (.t 41) (.c (.int .i64 1))⟩,
      ⟨(some 43), none, .fa 1 (.t 1)⟩,
      ⟨(some 44), none, .ld false 1 (.t 43)⟩,
      ⟨(some 45), none, .bin .sub (.t 44) (.c (.int .i64 1))⟩,
      ⟨(some 46), none, .cl (.c (.fn 130 [])) [(.t 40), (.t 42), (.t 45)]⟩,
      ⟨(some 47), none, .un .not (.t 46)⟩,
      ⟨(some 48), none, .mv (.t 47)⟩,
      ⟨(some 49), (some (48, false)), .fa 0 (.t 7)⟩,
      ⟨(some 50), (some (48, false)), .ld false 1 (.t 49)⟩,
      ⟨(some 51), (some (48, false)), .cl (.c (.fn 130 [])) [(.t 50), (.c (.int .i64 0)), (.c (.int .i64 10))]⟩,
      ⟨(some 52), (some (48, false)), .un .not (.t 51)⟩,
      ⟨(some 53), none, .pick (.t 48) (.c (.bool true)) (.t 52)⟩,
      ⟨(some 54), none, .mv (.t 53)⟩,
      ⟨(some 55), (some (54, false)), .fa 4 (.t 1)⟩,
      ⟨(some 56), (some (54, false)), .ld false 1 (.t 55)⟩,
      ⟨(some 57), (some (54, false)), .mv (.t 6)⟩,
      ⟨(some 58), (some (54, false)), .sle 2 (.t 56) none (some (.t 57))⟩,
      ⟨(some 59), (some (54, false)), .mkf 200 [(.t 7)]⟩,
      ⟨(some 60), (some (54, false)), .cl (.c (.fn 199 [])) [(.t 58), (.t 59)]⟩,
      ⟨(some 61), none, .pick (.t 54) (.c (.bool true)) (.t 60)⟩])
     (.cond (.t 61)
       (.seq (.reg [⟨(some 2), none, .mv (.c (.bool false))⟩])
       .ret)
       .skip))
     (.reg [⟨(some 62), none, .fa 1 (.t 7)⟩,
      ⟨(some 63), none, .ld false 1 (.t 62)⟩,
      ⟨(some 5), none, .mv (.t 63)⟩]))))
    (.reg [⟨(some 64), none, .bin .add (.t 34) (.c (.int .i64 1))⟩,
     ⟨(some 34), none, .mv (.t 64)⟩])))))))
  (.seq (.reg [⟨(some 2), none, .mv (.c (.bool true))⟩])
  .ret))))))
theorem k_impl_CheckOk : FnOk Try.prog 163 65 rc_impl_CheckOk [.t 2] := ⟨Try.f163, _, [], Try.func163, rfl, rfl, by kernel_rfl, by kernel_rfl, follows⟩
theorem ok_impl_CheckOk : okF Try.prog 163 = true := by kernel_rfl
def rc_impl_varText : RC :=
  (.seq (.reg [⟨(some 2), none, .mv (.c (.str []))⟩])
  (.seq (.reg [⟨(some 4), none, .mv (.c (.nils))⟩,
   ⟨(some 3), none, .mv (.t 4)⟩])
  (.seq (.blk 0 (.loop (.seq (.seq (.reg [⟨(some 5), none, .mv (.t 0)⟩,
     ⟨(some 6), none, .bin .gtr (.t 5) (.c (.int .i64 127))⟩])
    (.cond (.t 6)
      .skip
      (.exit 0)))
    (.blk 1 (.seq (.reg [⟨(some 7), none, .mv (.t 3)⟩,
      ⟨(some 8), none, .mv (.t 0)⟩,
      ⟨(some 9), none, .bin .and (.t 8) (.c (.int .i64 127))⟩,
      ⟨(some 10), none, .bin .or (.t 9) (.c (.int .i64 128))⟩,
      ⟨(some 11), none, .cvi .u8 (.t 10)⟩,
      ⟨(some 12), none, .bs 1 [.int .u8 0] 1 [(0, (.t 11))]⟩,
      ⟨(some 13), none, .app 1 1 (.t 7) (.t 12)⟩,
      ⟨(some 3), none, .mv (.t 13)⟩])
     (.reg [⟨(some 14), none, .mv (.t 0)⟩,
      ⟨(some 15), none, .bin .shr (.t 14) (.c (.int .u64 7))⟩,
      ⟨(some 0), none, .mv (.t 15)⟩]))))))
  (.seq (.reg [⟨(some 16), none, .mv (.t 3)⟩,
   ⟨(some 17), none, .mv (.t 0)⟩,
   ⟨(some 18), none, .cvi .u8 (.t 17)⟩,
   ⟨(some 19), none, .bs 1 [.int .u8 0] 1 [(0, (.t 18))]⟩,
   ⟨(some 20), none, .app 1 1 (.t 16) (.t 19)⟩,
   ⟨(some 21), none, .cvb (.t 20)⟩,
   ⟨(some 2), none, .mv (.t 21)⟩])
  .ret))))
theorem k_impl_varText : FnOk Try.prog 164 22 rc_impl_varText [.t 2] := ⟨Try.f164, _, [], Try.func164, rfl, rfl, by kernel_rfl, by kernel_rfl, follows⟩
theorem ok_impl_varText : okF Try.prog 164 = true := by kernel_rfl
def rc_impl_SumMore : RC :=
  (.seq (.reg [⟨(some 4), none, .mv (.c (.int .u32 0))⟩])
  (.seq (.seq (.reg [⟨(some 7), none, .mv (.t 1)⟩,
   ⟨(some 8), none, .lens (.t 7)⟩,
   ⟨(some 9), none, .mv (.c (.int .i64 0))⟩])
  (.blk 0 (.loop (.seq (.reg [⟨(some 10), none, .bin .lss (.t 9) (.t 8)⟩])
    (.seq (.cond (.t 10)
      .skip
      (.exit 0))
    (.seq (.blk 1 (.seq (.reg [⟨(some 11), none, .mv (.t 9)⟩,
      ⟨(some 5), none, .mv (.t 11)⟩])
     (.seq (.reg [⟨(some 12), none, .mv (.t 0)⟩,
      ⟨(some 13), none, .mv (.t 1)⟩,
      ⟨(some 14), none, .mv (.t 5)⟩,
      ⟨(some 15), none, .idx (.t 13) (.t 14)⟩,
      ⟨(some 16), none, .cvi .u32 (.t 15)⟩,
      ⟨(some 17), none, .bin .xor (.t 12) (.t 16)⟩,
      ⟨(some 0), none, .mv (.t 17)⟩])
     (.seq (.reg [⟨(some 18), none, .mv (.c (.int .i64 0))⟩])
     (.blk 2 (.loop (.seq (.reg [⟨(some 19), none, .bin .lss (.t 18) (.c (.int .i64 8))⟩])
       (.seq (.cond (.t 19)
         .skip
         (.exit 2))
       (.seq (.blk 3 (.seq (.reg [⟨(some 20), none, .mv (.t 0)⟩,
         ⟨(some 21), none, .bin .and (.t 20) (.c (.int .u32 1))⟩,
         ⟨(some 22), none, .bin .eql (.t 21) (.c (.int .u32 1))⟩,
         ⟨(some 6), none, .mv (.t 22)⟩])
        (.seq (.reg [⟨(some 23), none, .mv (.t 0)⟩,
         ⟨(some 24), none, .bin .shr (.t 23) (.c (.int .u64 1))⟩,
         ⟨(some 0), none, .mv (.t 24)⟩])
        (.seq (.reg [⟨(some 25), none, .mv (.t 6)⟩])
        (.cond (.t 25)
          (.reg [⟨(some 26), none, .mv (.t 0)⟩,
           ⟨(some 27), none, .bin .xor (.t 26) (.c (.int .u32 3558460437))⟩,
           ⟨(some 0), none, .mv (.t 27)⟩])
          .skip)))))
       (.reg [⟨(some 28), none, .bin .add (.t 18) (.c (.int .i64 1))⟩,
        ⟨(some 18), none, .mv (.t 28)⟩]))))))))))
    (.reg [⟨(some 29), none, .bin .add (.t 9) (.c (.int .i64 1))⟩,
     ⟨(some 9), none, .mv (.t 29)⟩])))))))
  (.seq (.reg [⟨(some 30), none, .mv (.t 0)⟩,
   ⟨(some 4), none, .mv (.t 30)⟩])
  .ret)))
theorem k_impl_SumMore : FnOk Try.prog 216 31 rc_impl_SumMore [.t 4] := ⟨Try.f216, _, [], Try.func216, rfl, rfl, by kernel_rfl, by kernel_rfl, follows⟩
theorem ok_impl_SumMore : okF Try.prog 216 = true := by kernel_rfl
def rc_impl_SumOf : RC :=
  (.seq (.reg [⟨(some 2), none, .mv (.c (.int .u32 0))⟩])
  (.seq (.reg [⟨(some 3), none, .mv (.t 0)⟩,
   ⟨(some 4), none, .cl (.c (.fn 216 [])) [(.c (.int .u32 4294967295)), (.t 3)]⟩,
   ⟨(some 2), none, .mv (.t 4)⟩])
  .ret))
theorem k_impl_SumOf : FnOk Try.prog 201 5 rc_impl_SumOf [.t 2] := ⟨Try.f201, _, [], Try.func201, rfl, rfl, by kernel_rfl, by kernel_rfl, follows⟩
theorem ok_impl_SumOf : okF Try.prog 201 = true := by kernel_rfl
def rc_impl_seal : RC :=
  (.seq (.reg [⟨(some 2), none, .mv (.c (.str []))⟩])
  (.seq (.reg [⟨(some 4), none, .mv (.t 0)⟩,
   ⟨(some 5), none, .cl (.c (.fn 201 [])) [(.t 4)]⟩,
   ⟨(some 3), none, .mv (.t 5)⟩])
  (.seq (.reg [⟨(some 6), none, .mv (.t 3)⟩,
   ⟨(some 7), none, .bin .shr (.t 6) (.c (.int .u64 24))⟩,
   ⟨(some 8), none, .cvi .u8 (.t 7)⟩,
   ⟨(some 9), none, .mv (.t 3)⟩,
   ⟨(some 10), none, .bin .shr (.t 9) (.c (.int .u64 16))⟩,
   ⟨(some 11), none, .cvi .u8 (.t 10)⟩,
   ⟨(some 12), none, .mv (.t 3)⟩,
   ⟨(some 13), none, .bin .shr (.t 12) (.c (.int .u64 8))⟩,
   ⟨(some 14), none, .cvi .u8 (.t 13)⟩,
   ⟨(some 15), none, .mv (.t 3)⟩,
   ⟨(some 16), none, .cvi .u8 (.t 15)⟩,
   ⟨(some 17), none, .bs 1 [.int .u8 0] 4 [(0, (.t 8)), (1, (.t 11)), (2, (.t 14)), (3, (.t 16))]⟩,
   ⟨(some 18), none, .cvb (.t 17)⟩,
   ⟨(some 2), none, .mv (.t 18)⟩])
  .ret)))
theorem k_impl_seal : FnOk Try.prog 165 19 rc_impl_seal [.t 2] := ⟨Try.f165, _, [], Try.func165, rfl, rfl, by kernel_rfl, by kernel_rfl, follows⟩
theorem ok_impl_seal : okF Try.prog 165 = true := by kernel_rfl
def rc_impl_CheckText : RC :=
  (.seq (.reg [⟨(some 1), none, .bx (.t 0)⟩,
   ⟨(some 2), none, .mv (.c (.str []))⟩,
   ⟨(some 3), none, .mv (.c (.bool false))⟩])
  (.seq (.seq (.reg [⟨(some 8), none, .ld true 5 (.t 1)⟩,
   ⟨(some 9), none, .cl (.c (.fn 163 [])) [(.t 8)]⟩,
   ⟨(some 10), none, .un .not (.t 9)⟩])
  (.cond (.t 10)
    (.seq (.reg [⟨(some 2), none, .mv (.c (.str []))⟩,
     ⟨(some 3), none, .mv (.c (.bool false))⟩])
    .ret)
    .skip))
  (.seq (.drw [⟨(some 11), none, .fa 0 (.t 1)⟩,
   ⟨(some 12), none, .ld false 1 (.t 11)⟩,
   ⟨(some 13), none, .cl (.c (.fn 164 [])) [(.t 12)]⟩,
   ⟨(some 14), none, .fa 1 (.t 1)⟩,
   ⟨(some 15), none, .ld false 1 (.t 14)⟩,
   ⟨(some 16), none, .cl (.c (.fn 164 [])) [(.t 15)]⟩,
   ⟨(some 17), none, .bin .add (.t 13) (.t 16)⟩,
   ⟨(some 18), none, .fa 2 (.t 1)⟩,
   ⟨(some 19), none, .ld false 1 (.t 18)⟩,
   ⟨(some 20), none, .cl (.c (.fn 164 [])) [(.t 19)]⟩,
   ⟨(some 21), none, .bin .add (.t 17) (.t 20)⟩,
   ⟨(some 22), none, .fa 3 (.t 1)⟩,
   ⟨(some 23), none, .ld false 1 (.t 22)⟩,
   ⟨(some 24), none, .cl (.c (.fn 164 [])) [(.t 23)]⟩,
   ⟨(some 25), none, .bin .add (.t 21) (.t 24)⟩,
   ⟨(some 26), none, .fa 4 (.t 1)⟩,
   ⟨(some 27), none, .ld false 1 (.t 26)⟩,
   ⟨(some 28), none, .lenl (.t 27)⟩,
   ⟨(some 29), none, .cl (.c (.fn 164 [])) [(.t 28)]⟩,
   ⟨(some 30), none, .bin .add (.t 25) (.t 29)⟩,
   ⟨(some 4), none, .mv (.t 30)⟩] [.val [], .val [], .val [], .val [], .val [], .val [], .val [], .val [], .val [], .val [], .val [], .val [], .val [], .val [], .val [], .val [], .val [], .val [], .val [], .val [], .val []])
  (.seq (.seq (.reg [⟨(some 31), none, .fa 4 (.t 1)⟩,
   ⟨(some 32), none, .ld false 1 (.t 31)⟩,
   ⟨(some 33), none, .lenl (.t 32)⟩,
   ⟨(some 34), none, .mv (.c (.int .i64 0))⟩])
  (.blk 0 (.loop (.seq (.reg [⟨(some 35), none, .bin .lss (.t 34) (.t 33)⟩])
    (.seq (.cond (.t 35)
      .skip
      (.exit 0))
    (.seq (.blk 1 (.seq (.reg [⟨(some 36), none, .ia 2 (.t 32) (.t 34)⟩,
      ⟨(some 37), none, .ld true 2 (.t 36)⟩,
      ⟨(some 6), none, .al [.int .i64 0, .int .i64 0]⟩,
      ⟨none, none, .st 2 (.t 6) (.t 37)⟩])
     (.drw [⟨(some 38), none, .mv (.t 4)⟩,
      ⟨(some 39), none, .fa 0 (.t 6)⟩,
      ⟨(some 40), none, .ld false 1 (.t 39)⟩,
      ⟨(some 41), none, .cl (.c (.fn 164 [])) [(.t 40)]⟩,
      ⟨(some 42), none, .fa 1 (.t 6)⟩,
      ⟨(some 43), none, .ld false 1 (.t 42)⟩,
      ⟨(some 44), none, .cl (.c (.fn 164 [])) [(.t 43)]⟩,
      ⟨(some 45), none, .bin .add (.t 41) (.t 44)⟩,
      ⟨(some 46), none, .bin .add (.t 38) (.t 45)⟩,
      ⟨(some 4), none, .mv (.t 46)⟩] [.val [], .val [], .val [], .val [], .val [], .val [], .val [], .val [], .val [], .val []])))
    (.reg [⟨(some 47), none, .bin .add (.t 34) (.c (.int .i64 1))⟩,
     ⟨(some 34), none, .mv (.t 47)⟩])))))))
  (.seq (.reg [⟨(some 48), none, .mv (.t 4)⟩,
   ⟨(some 49), none, .mv (.t 4)⟩,
   ⟨(some 50), none, .cl (.c (.fn 165 [])) [(.t 49)]⟩,
   ⟨(some 51), none, .bin .add (.t 48) (.t 50)⟩,
   ⟨(some 4), none, .mv (.t 51)⟩])
  (.seq (.reg [⟨(some 52), none, .mv (.t 4)⟩,
   ⟨(some 53), none, .lens (.t 52)⟩,
   ⟨(some 54), none, .cl (.c (.fn 164 [])) [(.t 53)]⟩,
   ⟨(some 55), none, .mv (.t 4)⟩,
   ⟨(some 56), none, .bin .add (.t 54) (.t 55)⟩,
   ⟨(some 7), none, .mv (.t 56)⟩])
  (.seq (.seq (.reg [⟨(some 57), none, .mv (.t 7)⟩,
   ⟨(some 58), none, .lens (.t 57)⟩,
   ⟨(some 59), none, .bin .gtr (.t 58) (.c (.int .i64 128))⟩])
  (.cond (.t 59)
    (.seq (.reg [⟨(some 2), none, .mv (.c (.str []))⟩,
     ⟨(some 3), none, .mv (.c (.bool false))⟩])
    .ret)
    .skip))
  (.seq (.reg [⟨(some 60), none, .mv (.t 7)⟩,
   ⟨(some 2), none, .mv (.t 60)⟩,
   ⟨(some 3), none, .mv (.c (.bool true))⟩])
  .ret))))))))
theorem k_impl_CheckText : FnOk Try.prog 100 61 rc_impl_CheckText [.t 2, .t 3] := ⟨Try.f100, _, [], Try.func100, rfl, rfl, by kernel_rfl, by kernel_rfl, follows⟩
theorem ok_impl_CheckText : okF Try.prog 100 = true := by kernel_rfl
def rc_impl_DiskOk_1 : RC :=
  (.seq (.reg [⟨(some 2), none, .mv (.c (.bool false))⟩])
  (.seq (.reg [⟨(some 3), none, .mv (.t 0)⟩,
   ⟨(some 4), none, .lens (.t 3)⟩,
   ⟨(some 5), none, .bin .neq (.t 4) (.c (.int .i64 32))⟩,
   ⟨(some 2), none, .mv (.t 5)⟩])
  .ret))
theorem k_impl_DiskOk_1 : FnOk Try.prog 167 6 rc_impl_DiskOk_1 [.t 2] := ⟨Try.f167, _, [], Try.func167, rfl, rfl, by kernel_rfl, by kernel_rfl, follows⟩
theorem ok_impl_DiskOk_1 : okF Try.prog 167 = true := by kernel_rfl
def rc_slices_IndexFunc_string : RC :=
  (.seq (.reg [⟨(some 4), none, .mv (.c (.int .i64 0))⟩])
  (.seq (.seq (.reg [⟨(some 6), none, .mv (.t 0)⟩,
   ⟨(some 7), none, .lenl (.t 6)⟩,
   ⟨(some 8), none, .mv (.c (.int .i64 0))⟩])
  (.blk 0 (.loop (.seq (.reg [⟨(some 9), none, .bin .lss (.t 8) (.t 7)⟩])
    (.seq (.cond (.t 9)
      .skip
      (.exit 0))
    (.seq (.blk 1 (.seq (.reg [⟨(some 10), none, .mv (.t 8)⟩,
      ⟨(some 5), none, .mv (.t 10)⟩])
     (.seq (.reg [⟨(some 11), none, .mv (.t 1)⟩,
      ⟨(some 12), none, .mv (.t 0)⟩,
      ⟨(some 13), none, .mv (.t 5)⟩,
      ⟨(some 14), none, .ia 1 (.t 12) (.t 13)⟩,
      ⟨(some 15), none, .ld false 1 (.t 14)⟩,
      ⟨(some 16), none, .cl (.t 11) [(.t 15)]⟩])
     (.cond (.t 16)
       (.seq (.reg [⟨(some 17), none, .mv (.t 5)⟩,
        ⟨(some 4), none, .mv (.t 17)⟩])
       .ret)
       .skip))))
    (.reg [⟨(some 18), none, .bin .add (.t 8) (.c (.int .i64 1))⟩,
     ⟨(some 8), none, .mv (.t 18)⟩])))))))
  (.seq (.reg [⟨(some 4), none, .mv (.c (.int .i64 (-1)))⟩])
  .ret)))
theorem k_slices_IndexFunc_string : FnOk Try.prog 202 19 rc_slices_IndexFunc_string [.t 4] := ⟨Try.f202, _, [], Try.func202, rfl, rfl, by kernel_rfl, by kernel_rfl, follows⟩
theorem ok_slices_IndexFunc_string : okF Try.prog 202 = true := by kernel_rfl
def rc_slices_ContainsFunc_string : RC :=
  (.seq (.reg [⟨(some 4), none, .mv (.c (.bool false))⟩])
  (.seq (.reg [⟨(some 5), none, .mv (.t 0)⟩,
   ⟨(some 6), none, .mv (.t 1)⟩,
   ⟨(some 7), none, .cl (.c (.fn 202 [])) [(.t 5), (.t 6)]⟩,
   ⟨(some 8), none, .bin .geq (.t 7) (.c (.int .i64 0))⟩,
   ⟨(some 4), none, .mv (.t 8)⟩])
  .ret))
theorem k_slices_ContainsFunc_string : FnOk Try.prog 166 9 rc_slices_ContainsFunc_string [.t 4] := ⟨Try.f166, _, [], Try.func166, rfl, rfl, by kernel_rfl, by kernel_rfl, follows⟩
theorem ok_slices_ContainsFunc_string : okF Try.prog 166 = true := by kernel_rfl
def rc_impl_DiskOk_2 : RC :=
  (.seq (.reg [⟨(some 2), none, .bx (.t 0)⟩,
   ⟨(some 3), none, .mv (.c (.bool false))⟩])
  (.seq (.reg [⟨(some 4), none, .fa 0 (.t 2)⟩,
   ⟨(some 5), none, .ld false 1 (.t 4)⟩,
   ⟨(some 6), none, .fa 0 (.t 1)⟩,
   ⟨(some 7), none, .ld false 1 (.t 6)⟩,
   ⟨(some 8), none, .lenl (.t 7)⟩,
   ⟨(some 9), none, .bin .sub (.t 8) (.c (.int .i64 1))⟩,
   ⟨(some 10), none, .cl (.c (.fn 130 [])) [(.t 5), (.c (.int .i64 0)), (.t 9)]⟩,
   ⟨(some 11), none, .un .not (.t 10)⟩,
   ⟨(some 12), none, .mv (.t 11)⟩,
   ⟨(some 13), (some (12, false)), .fa 1 (.t 2)⟩,
   ⟨(some 14), (some (12, false)), .ld false 1 (.t 13)⟩,
   ⟨(some 15), (some (12, false)), .lens (.t 14)⟩,
   ⟨(some 16), (some (12, false)), .bin .neq (.t 15) (.c (.int .i64 32))⟩,
   ⟨(some 17), none, .pick (.t 12) (.c (.bool true)) (.t 16)⟩,
   ⟨(some 3), none, .mv (.t 17)⟩])
  .ret))
theorem k_impl_DiskOk_2 : FnOk Try.prog 169 18 rc_impl_DiskOk_2 [.t 3] := ⟨Try.f169, _, [], Try.func169, rfl, rfl, by kernel_rfl, by kernel_rfl, follows⟩
theorem ok_impl_DiskOk_2 : okF Try.prog 169 = true := by kernel_rfl
def rc_slices_IndexFunc_Write : RC :=
  (.seq (.reg [⟨(some 4), none, .mv (.c (.int .i64 0))⟩])
  (.seq (.seq (.reg [⟨(some 6), none, .mv (.t 0)⟩,
   ⟨(some 7), none, .lenl (.t 6)⟩,
   ⟨(some 8), none, .mv (.c (.int .i64 0))⟩])
  (.blk 0 (.loop (.seq (.reg [⟨(some 9), none, .bin .lss (.t 8) (.t 7)⟩])
    (.seq (.cond (.t 9)
      .skip
      (.exit 0))
    (.seq (.blk 1 (.seq (.reg [⟨(some 10), none, .mv (.t 8)⟩,
      ⟨(some 5), none, .mv (.t 10)⟩])
     (.seq (.reg [⟨(some 11), none, .mv (.t 1)⟩,
      ⟨(some 12), none, .mv (.t 0)⟩,
      ⟨(some 13), none, .mv (.t 5)⟩,
      ⟨(some 14), none, .ia 2 (.t 12) (.t 13)⟩,
      ⟨(some 15), none, .ld true 2 (.t 14)⟩,
      ⟨(some 16), none, .cl (.t 11) [(.t 15)]⟩])
     (.cond (.t 16)
       (.seq (.reg [⟨(some 17), none, .mv (.t 5)⟩,
        ⟨(some 4), none, .mv (.t 17)⟩])
       .ret)
       .skip))))
    (.reg [⟨(some 18), none, .bin .add (.t 8) (.c (.int .i64 1))⟩,
     ⟨(some 8), none, .mv (.t 18)⟩])))))))
  (.seq (.reg [⟨(some 4), none, .mv (.c (.int .i64 (-1)))⟩])
  .ret)))
theorem k_slices_IndexFunc_Write : FnOk Try.prog 203 19 rc_slices_IndexFunc_Write [.t 4] := ⟨Try.f203, _, [], Try.func203, rfl, rfl, by kernel_rfl, by kernel_rfl, follows⟩
theorem ok_slices_IndexFunc_Write : okF Try.prog 203 = true := by kernel_rfl
def rc_slices_ContainsFunc_Write : RC :=
  (.seq (.reg [⟨(some 4), none, .mv (.c (.bool false))⟩])
  (.seq (.reg [⟨(some 5), none, .mv (.t 0)⟩,
   ⟨(some 6), none, .mv (.t 1)⟩,
   ⟨(some 7), none, .cl (.c (.fn 203 [])) [(.t 5), (.t 6)]⟩,
   ⟨(some 8), none, .bin .geq (.t 7) (.c (.int .i64 0))⟩,
   ⟨(some 4), none, .mv (.t 8)⟩])
  .ret))
theorem k_slices_ContainsFunc_Write : FnOk Try.prog 168 9 rc_slices_ContainsFunc_Write [.t 4] := ⟨Try.f168, _, [], Try.func168, rfl, rfl, by kernel_rfl, by kernel_rfl, follows⟩
theorem ok_slices_ContainsFunc_Write : okF Try.prog 168 = true := by kernel_rfl
def rc_impl_DiskOk : RC :=
  (.seq (.reg [⟨(some 1), none, .bx (.t 0)⟩,
   ⟨(some 2), none, .mv (.c (.bool false))⟩])
  (.seq (.seq (.reg [⟨(some 3), none, .fa 0 (.t 1)⟩,
   ⟨(some 4), none, .ld false 1 (.t 3)⟩,
   ⟨(some 5), none, .lenl (.t 4)⟩,
   ⟨(some 6), none, .cl (.c (.fn 130 [])) [(.t 5), (.c (.int .i64 1)), (.c (.int .i64 100))]⟩,
   ⟨(some 7), none, .un .not (.t 6)⟩,
   ⟨(some 8), none, .mv (.t 7)⟩,
   ⟨(some 9), (some (8, false)), .fa 1 (.t 1)⟩,
   ⟨(some 10), (some (8, false)), .ld false 1 (.t 9)⟩,
   ⟨(some 11), (some (8, false)), .lenl (.t 10)⟩,
   ⟨(some 12), (some (8, false)), .bin .gtr (.t 11) (.c (.int .i64 60))⟩,
   ⟨(some 13), none, .pick (.t 8) (.c (.bool true)) (.t 12)⟩])
  (.cond (.t 13)
    (.seq (.reg [⟨(some 2), none, .mv (.c (.bool false))⟩])
    .ret)
    .skip))
  (.seq (.seq (.reg [⟨(some 14), none, .fa 0 (.t 1)⟩,
   ⟨(some 15), none, .ld false 1 (.t 14)⟩,
   ⟨(some 16), none, .cl (.c (.fn 166 [])) [(.t 15), (.c (.fn 167 []))]⟩])
  (.cond (.t 16)
    (.seq (.reg [⟨(some 2), none, .mv (.c (.bool false))⟩])
    .ret)
    .skip))
  (.seq (.reg [⟨(some 17), none, .fa 1 (.t 1)⟩,
   ⟨(some 18), none, .ld false 1 (.t 17)⟩,
   ⟨(some 19), none, .mkf 169 [(.t 1)]⟩,
   ⟨(some 20), none, .cl (.c (.fn 168 [])) [(.t 18), (.t 19)]⟩,
   ⟨(some 21), none, .un .not (.t 20)⟩,
   ⟨(some 2), none, .mv (.t 21)⟩])
  .ret))))
theorem k_impl_DiskOk : FnOk Try.prog 101 22 rc_impl_DiskOk [.t 2] := ⟨Try.f101, _, [], Try.func101, rfl, rfl, by kernel_rfl, by kernel_rfl, follows⟩
theorem ok_impl_DiskOk : okF Try.prog 101 = true := by kernel_rfl
def rc_slices_Clone_string : RC :=
  (.seq (.reg [⟨(some 2), none, .mv (.c (.nils))⟩])
  (.seq (.seq (.reg [⟨(some 3), none, .mv (.t 0)⟩,
   ⟨(some 4), none, .isn false (.t 3)⟩])
  (.cond (.t 4)
    (.seq (.reg [⟨(some 2), none, .mv (.c (.nils))⟩])
    .ret)
    .skip))
  (.seq (.reg [⟨(some 5), none, .mv (.c (.nils))⟩,
   ⟨(some 6), none, .mv (.t 0)⟩,
   ⟨(some 7), none, .app 1 16 (.t 5) (.t 6)⟩,
   ⟨(some 2), none, .mv (.t 7)⟩])
  .ret)))
theorem k_slices_Clone_string : FnOk Try.prog 170 8 rc_slices_Clone_string [.t 2] := ⟨Try.f170, _, [], Try.func170, rfl, rfl, by kernel_rfl, by kernel_rfl, follows⟩
theorem ok_slices_Clone_string : okF Try.prog 170 = true := by kernel_rfl
def rc_slices_Clone_Write : RC :=
  (.seq (.reg [⟨(some 2), none, .mv (.c (.nils))⟩])
  (.seq (.seq (.reg [⟨(some 3), none, .mv (.t 0)⟩,
   ⟨(some 4), none, .isn false (.t 3)⟩])
  (.cond (.t 4)
    (.seq (.reg [⟨(some 2), none, .mv (.c (.nils))⟩])
    .ret)
    .skip))
  (.seq (.reg [⟨(some 5), none, .mv (.c (.nils))⟩,
   ⟨(some 6), none, .mv (.t 0)⟩,
   ⟨(some 7), none, .app 2 24 (.t 5) (.t 6)⟩,
   ⟨(some 2), none, .mv (.t 7)⟩])
  .ret)))
theorem k_slices_Clone_Write : FnOk Try.prog 171 8 rc_slices_Clone_Write [.t 2] := ⟨Try.f171, _, [], Try.func171, rfl, rfl, by kernel_rfl, by kernel_rfl, follows⟩
theorem ok_slices_Clone_Write : okF Try.prog 171 = true := by kernel_rfl
def rc_impl_cloneDisk : RC :=
  (.seq (.reg [⟨(some 1), none, .bx (.t 0)⟩,
   ⟨(some 2), none, .al [.nils, .nils]⟩])
  (.seq (.drw [⟨(some 3), none, .fa 0 (.t 1)⟩,
   ⟨(some 4), none, .ld false 1 (.t 3)⟩,
   ⟨(some 5), none, .cl (.c (.fn 170 [])) [(.t 4)]⟩,
   ⟨(some 6), none, .fa 1 (.t 1)⟩,
   ⟨(some 7), none, .ld false 1 (.t 6)⟩,
   ⟨(some 8), none, .cl (.c (.fn 171 [])) [(.t 7)]⟩,
   ⟨(some 9), none, .bld [.nils, .nils] [(0, 1), (1, 1)] [(0, (.t 5)), (1, (.t 8))]⟩,
   ⟨none, none, .st 2 (.t 2) (.t 9)⟩] [.val [], .val [], .chn [], .val [2], .val [2], .chn [], .val [], .chn []])
  .ret))
theorem k_impl_cloneDisk : FnOk Try.prog 102 10 rc_impl_cloneDisk [.cell 2 true 2] := ⟨Try.f102, _, [(1, [2, 5])], Try.func102, rfl, rfl, by kernel_rfl, by kernel_rfl, follows⟩
theorem ok_impl_cloneDisk : okF Try.prog 102 = true := by kernel_rfl
def rc_impl_ReadSector : RC :=
  (.seq (.reg [⟨(some 2), none, .bx (.t 0)⟩,
   ⟨(some 4), none, .mv (.c (.str []))⟩,
   ⟨(some 5), none, .mv (.c (.bool false))⟩])
  (.seq (.seq (.reg [⟨(some 9), none, .mv (.t 1)⟩,
   ⟨(some 10), none, .fa 0 (.t 2)⟩,
   ⟨(some 11), none, .ld false 1 (.t 10)⟩,
   ⟨(some 12), none, .lenl (.t 11)⟩,
   ⟨(some 13), none, .bin .sub (.t 12) (.c (.int .i64 1))⟩,
   ⟨(some 14), none, .cl (.c (.fn 130 [])) [(.t 9), (.c (.int .i64 0)), (.t 13)]⟩,
   ⟨(some 15), none, .un .not (.t 14)⟩])
  (.cond (.t 15)
    (.seq (.reg [⟨(some 4), none, .mv (.c (.str []))⟩,
     ⟨(some 5), none, .mv (.c (.bool false))⟩])
    .ret)
    .skip))
  (.seq (.reg [⟨(some 16), none, .fa 0 (.t 2)⟩,
   ⟨(some 17), none, .ld false 1 (.t 16)⟩,
   ⟨(some 18), none, .mv (.t 1)⟩,
   ⟨(some 19), none, .ia 1 (.t 17) (.t 18)⟩,
   ⟨(some 20), none, .ld false 1 (.t 19)⟩,
   ⟨(some 6), none, .mv (.t 20)⟩])
  (.seq (.seq (.reg [⟨(some 21), none, .fa 1 (.t 2)⟩,
   ⟨(some 22), none, .ld false 1 (.t 21)⟩,
   ⟨(some 23), none, .lenl (.t 22)⟩,
   ⟨(some 24), none, .mv (.c (.int .i64 0))⟩])
  (.blk 0 (.loop (.seq (.reg [⟨(some 25), none, .bin .lss (.t 24) (.t 23)⟩])
    (.seq (.cond (.t 25)
      .skip
      (.exit 0))
    (.seq (.blk 1 (.seq (.reg [⟨(some 26), none, .ia 2 (.t 22) (.t 24)⟩,
      ⟨(some 27), none, .ld true 2 (.t 26)⟩,
      ⟨(some 8), none, .al [.int .i64 0, .str []]⟩,
      ⟨none, none, .st 2 (.t 8) (.t 27)⟩])
     (.seq (.reg [⟨(some 28), none, .fa 0 (.t 8)⟩,
      ⟨(some 29), none, .ld false 1 (.t 28)⟩,
      ⟨(some 30), none, .mv (.t 1)⟩,
      ⟨(some 31), none, .bin .eql (.t 29) (.t 30)⟩])
     (.cond (.t 31)
       (.reg [⟨(some 32), none, .fa 1 (.t 8)⟩,
        ⟨(some 33), none, .ld false 1 (.t 32)⟩,
        ⟨(some 6), none, .mv (.t 33)⟩])
       .skip))))
    (.reg [⟨(some 34), none, .bin .add (.t 24) (.c (.int .i64 1))⟩,
     ⟨(some 24), none, .mv (.t 34)⟩])))))))
  (.seq (.reg [⟨(some 35), none, .mv (.t 6)⟩,
   ⟨(some 4), none, .mv (.t 35)⟩,
   ⟨(some 5), none, .mv (.c (.bool true))⟩])
  .ret)))))
theorem k_impl_ReadSector : FnOk Try.prog 152 36 rc_impl_ReadSector [.t 4, .t 5] := ⟨Try.f152, _, [], Try.func152, rfl, rfl, by kernel_rfl, by kernel_rfl, follows⟩
theorem ok_impl_ReadSector : okF Try.prog 152 = true := by kernel_rfl
def rc_impl_WriteSector : RC :=
  (.seq (.reg [⟨(some 3), none, .bx (.t 0)⟩,
   ⟨(some 6), none, .al [.nils, .nils]⟩,
   ⟨(some 7), none, .mv (.c (.bool false))⟩])
  (.seq (.reg [⟨(some 9), none, .ld true 2 (.t 3)⟩,
   ⟨(some 10), none, .cl (.c (.fn 102 [])) [(.t 9)]⟩,
   ⟨(some 8), none, .al [.nils, .nils]⟩,
   ⟨none, none, .st 2 (.t 8) (.t 10)⟩])
  (.seq (.reg [⟨(some 11), none, .fa 1 (.t 8)⟩,
   ⟨(some 12), none, .ld false 1 (.t 11)⟩,
   ⟨(some 13), none, .mv (.t 1)⟩,
   ⟨(some 14), none, .mv (.t 2)⟩,
   ⟨(some 15), none, .bld [.int .i64 0, .str []] [(0, 1), (1, 1)] [(0, (.t 13)), (1, (.t 14))]⟩,
   ⟨(some 16), none, .bs 2 [.int .i64 0, .str []] 1 [(0, (.t 15))]⟩,
   ⟨(some 17), none, .app 2 24 (.t 12) (.t 16)⟩,
   ⟨(some 18), none, .fa 1 (.t 8)⟩,
   ⟨none, none, .st 1 (.t 18) (.t 17)⟩])
  (.seq (.seq (.reg [⟨(some 19), none, .ld true 2 (.t 3)⟩,
   ⟨(some 20), none, .cl (.c (.fn 101 [])) [(.t 19)]⟩,
   ⟨(some 21), none, .un .not (.t 20)⟩,
   ⟨(some 22), none, .mv (.t 21)⟩,
   ⟨(some 23), (some (22, false)), .ld true 2 (.t 8)⟩,
   ⟨(some 24), (some (22, false)), .cl (.c (.fn 101 [])) [(.t 23)]⟩,
   ⟨(some 25), (some (22, false)), .un .not (.t 24)⟩,
   ⟨(some 26), none, .pick (.t 22) (.c (.bool true)) (.t 25)⟩])
  (.cond (.t 26)
    (.seq (.reg [⟨(some 27), none, .ld true 2 (.t 3)⟩,
     ⟨(some 28), none, .cl (.c (.fn 102 [])) [(.t 27)]⟩,
     ⟨none, none, .st 2 (.t 6) (.t 28)⟩,
     ⟨(some 7), none, .mv (.c (.bool false))⟩])
    .ret)
    .skip))
  (.seq (.reg [⟨(some 29), none, .ld true 2 (.t 8)⟩,
   ⟨none, none, .st 2 (.t 6) (.t 29)⟩,
   ⟨(some 7), none, .mv (.c (.bool true))⟩])
  .ret)))))
theorem k_impl_WriteSector : FnOk Try.prog 172 30 rc_impl_WriteSector [.cell 6 true 2, .t 7] := ⟨Try.f172, _, [], Try.func172, rfl, rfl, by kernel_rfl, by kernel_rfl, follows⟩
theorem ok_impl_WriteSector : okF Try.prog 172 = true := by kernel_rfl
def rc_impl_WriteBytes : RC :=
  (.seq (.reg [⟨(some 4), none, .bx (.t 0)⟩,
   ⟨(some 8), none, .al [.nils, .nils]⟩,
   ⟨(some 9), none, .mv (.c (.bool false))⟩])
  (.seq (.reg [⟨(some 17), none, .ld true 2 (.t 4)⟩,
   ⟨(some 18), none, .cl (.c (.fn 102 [])) [(.t 17)]⟩,
   ⟨(some 10), none, .al [.nils, .nils]⟩,
   ⟨none, none, .st 2 (.t 10) (.t 18)⟩])
  (.seq (.seq (.reg [⟨(some 19), none, .mv (.t 2)⟩,
   ⟨(some 20), none, .cl (.c (.fn 130 [])) [(.t 19), (.c (.int .i64 0)), (.c (.int .i64 3200))]⟩,
   ⟨(some 21), none, .un .not (.t 20)⟩,
   ⟨(some 22), none, .mv (.t 21)⟩,
   ⟨(some 23), (some (22, false)), .mv (.t 1)⟩,
   ⟨(some 24), (some (22, false)), .fa 0 (.t 4)⟩,
   ⟨(some 25), (some (22, false)), .ld false 1 (.t 24)⟩,
   ⟨(some 26), (some (22, false)), .lenl (.t 25)⟩,
   ⟨(some 27), (some (22, false)), .bin .sub (.t 26) (.c (.int .i64 1))⟩,
   ⟨(some 28), (some (22, false)), .cl (.c (.fn 130 [])) [(.t 23), (.c (.int .i64 0)), (.t 27)]⟩,
   ⟨(some 29), (some (22, false)), .un .not (.t 28)⟩,
   ⟨(some 30), none, .pick (.t 22) (.c (.bool true)) (.t 29)⟩])
  (.cond (.t 30)
    (.seq (.reg [⟨(some 31), none, .ld true 2 (.t 10)⟩,
     ⟨none, none, .st 2 (.t 8) (.t 31)⟩,
     ⟨(some 9), none, .mv (.c (.bool false))⟩])
    .ret)
    .skip))
  (.seq (.reg [⟨(some 32), none, .ld true 2 (.t 4)⟩,
   ⟨(some 33), none, .cl (.c (.fn 102 [])) [(.t 32)]⟩,
   ⟨(some 11), none, .al [.nils, .nils]⟩,
   ⟨none, none, .st 2 (.t 11) (.t 33)⟩])
  (.seq (.blk 0 (.loop (.seq (.seq (.reg [⟨(some 34), none, .mv (.t 3)⟩,
     ⟨(some 35), none, .bin .neq (.t 34) (.c (.str []))⟩])
    (.cond (.t 35)
      .skip
      (.exit 0)))
    (.blk 1 (.seq (.reg [⟨(some 36), none, .mv (.t 1)⟩,
      ⟨(some 37), none, .mv (.t 2)⟩,
      ⟨(some 38), none, .bin .quo (.t 37) (.c (.int .i64 32))⟩,
      ⟨(some 39), none, .bin .add (.t 36) (.t 38)⟩,
      ⟨(some 12), none, .mv (.t 39)⟩])
     (.seq (.reg [⟨(some 40), none, .mv (.t 2)⟩,
      ⟨(some 41), none, .bin .rem (.t 40) (.c (.int .i64 32))⟩,
      ⟨(some 13), none, .mv (.t 41)⟩])
     (.seq (.reg [⟨(some 43), none, .ld true 2 (.t 11)⟩,
      ⟨(some 44), none, .mv (.t 12)⟩,
      ⟨(some 45), none, .cl (.c (.fn 152 [])) [(.t 43), (.t 44)]⟩,
      ⟨(some 42), none, .mv (.t 45)⟩,
      ⟨(some 46), none, .ext (.t 42) 0⟩,
      ⟨(some 47), none, .ext (.t 42) 1⟩,
      ⟨(some 14), none, .mv (.t 46)⟩,
      ⟨(some 15), none, .mv (.t 47)⟩])
     (.seq (.seq (.reg [⟨(some 48), none, .mv (.t 15)⟩,
      ⟨(some 49), none, .un .not (.t 48)⟩,
      ⟨(some 50), none, .mv (.t 49)⟩,
      ⟨(some 51), (some (50, false)), .mv (.t 14)⟩,
      ⟨(some 52), (some (50, false)), .lens (.t 51)⟩,
      ⟨(some 53), (some (50, false)), .bin .neq (.t 52) (.c (.int .i64 32))⟩,
      ⟨(some 54), none, .pick (.t 50) (.c (.bool true)) (.t 53)⟩])
     (.cond (.t 54)
       (.seq (.reg [⟨(some 55), none, .ld true 2 (.t 10)⟩,
        ⟨none, none, .st 2 (.t 8) (.t 55)⟩,
        ⟨(some 9), none, .mv (.c (.bool false))⟩])
       .ret)
       .skip))
     (.seq (.reg [⟨(some 56), none, .mv (.t 3)⟩,
      ⟨(some 57), none, .lens (.t 56)⟩,
      ⟨(some 58), none, .mv (.t 13)⟩,
      ⟨(some 59), none, .bin .sub (.c (.int .i64 32)) (.t 58)⟩,
      ⟨(some 60), none, .mn (.t 57) (.t 59)⟩,
      ⟨(some 16), none, .mv (.t 60)⟩])
     (.seq (.drw [⟨(some 62), none, .ld true 2 (.t 11)⟩,
      ⟨(some 63), none, .mv (.t 12)⟩,
      ⟨(some 64), none, .mv (.t 14)⟩,
      ⟨(some 65), none, .mv (.t 13)⟩,
      ⟨(some 66), none, .sls (.t 64) none (some (.t 65))⟩,
      ⟨(some 67), none, .mv (.t 3)⟩,
      ⟨(some 68), none, .mv (.t 16)⟩,
      ⟨(some 69), none, .sls (.t 67) none (some (.t 68))⟩,
      ⟨(some 70), none, .bin .add (.t 66) (.t 69)⟩,
      ⟨(some 71), none, .mv (.t 14)⟩,
      ⟨(some 72), none, .mv (.t 13)⟩,
      ⟨(some 73), none, .mv (.t 16)⟩,
      ⟨(some 74), none, .bin .add (.t 72) (.t 73)⟩,
      ⟨(some 75), none, .sls (.t 71) (some (.t 74)) none⟩,
      ⟨(some 76), none, .bin .add (.t 70) (.t 75)⟩,
      ⟨(some 77), none, .cl (.c (.fn 172 [])) [(.t 62), (.t 63), (.t 76)]⟩,
      ⟨(some 61), none, .mv (.t 77)⟩,
      ⟨(some 78), none, .ext (.t 61) 0⟩,
      ⟨(some 79), none, .ext (.t 61) 1⟩,
      ⟨none, none, .st 2 (.t 11) (.t 78)⟩,
      ⟨(some 15), none, .mv (.t 79)⟩] [.val [], .val [], .val [], .val [], .val [], .val [], .val [], .val [], .val [], .val [], .val [], .val [], .val [], .val [], .val [], .chn [], .val [], .val [], .val [], .chn [18], .val []])
     (.seq (.seq (.reg [⟨(some 80), none, .mv (.t 15)⟩,
      ⟨(some 81), none, .un .not (.t 80)⟩])
     (.cond (.t 81)
       (.seq (.reg [⟨(some 82), none, .ld true 2 (.t 10)⟩,
        ⟨none, none, .st 2 (.t 8) (.t 82)⟩,
        ⟨(some 9), none, .mv (.c (.bool false))⟩])
       .ret)
       .skip))
     (.seq (.reg [⟨(some 83), none, .mv (.t 3)⟩,
      ⟨(some 84), none, .mv (.t 16)⟩,
      ⟨(some 85), none, .sls (.t 83) (some (.t 84)) none⟩,
      ⟨(some 3), none, .mv (.t 85)⟩])
     (.reg [⟨(some 86), none, .mv (.t 2)⟩,
      ⟨(some 87), none, .mv (.t 16)⟩,
      ⟨(some 88), none, .bin .add (.t 86) (.t 87)⟩,
      ⟨(some 2), none, .mv (.t 88)⟩])))))))))))))
  (.seq (.reg [⟨(some 89), none, .ld true 2 (.t 11)⟩,
   ⟨none, none, .st 2 (.t 8) (.t 89)⟩,
   ⟨(some 9), none, .mv (.c (.bool true))⟩])
  .ret))))))
theorem k_impl_WriteBytes : FnOk Try.prog 103 90 rc_impl_WriteBytes [.cell 8 true 2, .t 9] := ⟨Try.f103, _, [(12, [15])], Try.func103, rfl, rfl, by kernel_rfl, by kernel_rfl, follows⟩
theorem ok_impl_WriteBytes : okF Try.prog 103 = true := by kernel_rfl
def rc_impl_region : RC :=
  (.seq (.reg [⟨(some 2), none, .mv (.c (.int .i64 0))⟩])
  (.seq (.reg [⟨(some 3), none, .mv (.t 0)⟩,
   ⟨(some 4), none, .bin .rem (.t 3) (.c (.int .i64 2))⟩,
   ⟨(some 5), none, .bin .mul (.c (.int .i64 4)) (.t 4)⟩,
   ⟨(some 2), none, .mv (.t 5)⟩])
  .ret))
theorem k_impl_region : FnOk Try.prog 104 6 rc_impl_region [.t 2] := ⟨Try.f104, _, [], Try.func104, rfl, rfl, by kernel_rfl, by kernel_rfl, follows⟩
theorem ok_impl_region : okF Try.prog 104 = true := by kernel_rfl
def rc_impl_FlushDisk : RC :=
  (.seq (.reg [⟨(some 1), none, .bx (.t 0)⟩,
   ⟨(some 2), none, .al [.nils, .nils]⟩])
  (.seq (.reg [⟨(some 6), none, .ld true 2 (.t 1)⟩,
   ⟨(some 7), none, .cl (.c (.fn 102 [])) [(.t 6)]⟩,
   ⟨(some 3), none, .al [.nils, .nils]⟩,
   ⟨none, none, .st 2 (.t 3) (.t 7)⟩])
  (.seq (.seq (.reg [⟨(some 8), none, .ld true 2 (.t 1)⟩,
   ⟨(some 9), none, .cl (.c (.fn 101 [])) [(.t 8)]⟩,
   ⟨(some 10), none, .un .not (.t 9)⟩])
  (.cond (.t 10)
    (.seq (.reg [⟨(some 11), none, .ld true 2 (.t 3)⟩,
     ⟨none, none, .st 2 (.t 2) (.t 11)⟩])
    .ret)
    .skip))
  (.seq (.seq (.reg [⟨(some 12), none, .fa 1 (.t 1)⟩,
   ⟨(some 13), none, .ld false 1 (.t 12)⟩,
   ⟨(some 14), none, .lenl (.t 13)⟩,
   ⟨(some 15), none, .mv (.c (.int .i64 0))⟩])
  (.blk 0 (.loop (.seq (.reg [⟨(some 16), none, .bin .lss (.t 15) (.t 14)⟩])
    (.seq (.cond (.t 16)
      .skip
      (.exit 0))
    (.seq (.blk 1 (.seq (.reg [⟨(some 17), none, .ia 2 (.t 13) (.t 15)⟩,
      ⟨(some 18), none, .ld true 2 (.t 17)⟩,
      ⟨(some 5), none, .al [.int .i64 0, .str []]⟩,
      ⟨none, none, .st 2 (.t 5) (.t 18)⟩])
     (.reg [⟨(some 19), none, .fa 0 (.t 3)⟩,
      ⟨(some 20), none, .ld false 1 (.t 19)⟩,
      ⟨(some 21), none, .fa 0 (.t 5)⟩,
      ⟨(some 22), none, .ld false 1 (.t 21)⟩,
      ⟨(some 23), none, .fa 1 (.t 5)⟩,
      ⟨(some 24), none, .ld false 1 (.t 23)⟩,
      ⟨(some 25), none, .ia 1 (.t 20) (.t 22)⟩,
      ⟨none, none, .st 1 (.t 25) (.t 24)⟩])))
    (.reg [⟨(some 26), none, .bin .add (.t 15) (.c (.int .i64 1))⟩,
     ⟨(some 15), none, .mv (.t 26)⟩])))))))
  (.seq (.reg [⟨(some 27), none, .fa 1 (.t 3)⟩,
   ⟨none, none, .st 1 (.t 27) (.c (.nils))⟩])
  (.seq (.reg [⟨(some 28), none, .ld true 2 (.t 3)⟩,
   ⟨none, none, .st 2 (.t 2) (.t 28)⟩])
  .ret))))))
theorem k_impl_FlushDisk : FnOk Try.prog 105 29 rc_impl_FlushDisk [.cell 2 true 2] := ⟨Try.f105, _, [], Try.func105, rfl, rfl, by kernel_rfl, by kernel_rfl, follows⟩
theorem ok_impl_FlushDisk : okF Try.prog 105 = true := by kernel_rfl
def rc_impl_WriteCheck : RC :=
  (.seq (.reg [⟨(some 2), none, .bx (.t 0)⟩,
   ⟨(some 3), none, .bx (.t 1)⟩,
   ⟨(some 4), none, .al [.nils, .nils]⟩,
   ⟨(some 5), none, .mv (.c (.bool false))⟩])
  (.seq (.reg [⟨(some 11), none, .ld true 5 (.t 3)⟩,
   ⟨(some 12), none, .cl (.c (.fn 100 [])) [(.t 11)]⟩,
   ⟨(some 10), none, .mv (.t 12)⟩,
   ⟨(some 13), none, .ext (.t 10) 0⟩,
   ⟨(some 14), none, .ext (.t 10) 1⟩,
   ⟨(some 6), none, .mv (.t 13)⟩,
   ⟨(some 7), none, .mv (.t 14)⟩])
  (.seq (.seq (.reg [⟨(some 15), none, .ld true 2 (.t 2)⟩,
   ⟨(some 16), none, .cl (.c (.fn 101 [])) [(.t 15)]⟩,
   ⟨(some 17), none, .un .not (.t 16)⟩,
   ⟨(some 18), none, .mv (.t 17)⟩,
   ⟨(some 19), (some (18, false)), .mv (.t 7)⟩,
   ⟨(some 20), (some (18, false)), .un .not (.t 19)⟩,
   ⟨(some 21), none, .pick (.t 18) (.c (.bool true)) (.t 20)⟩])
  (.cond (.t 21)
    (.seq (.reg [⟨(some 22), none, .ld true 2 (.t 2)⟩,
     ⟨(some 23), none, .cl (.c (.fn 102 [])) [(.t 22)]⟩,
     ⟨none, none, .st 2 (.t 4) (.t 23)⟩,
     ⟨(some 5), none, .mv (.c (.bool false))⟩])
    .ret)
    .skip))
  (.seq (.drw [⟨(some 25), none, .ld true 2 (.t 2)⟩,
   ⟨(some 26), none, .fa 0 (.t 3)⟩,
   ⟨(some 27), none, .ld false 1 (.t 26)⟩,
   ⟨(some 28), none, .cl (.c (.fn 104 [])) [(.t 27)]⟩,
   ⟨(some 29), none, .mv (.t 6)⟩,
   ⟨(some 30), none, .cl (.c (.fn 103 [])) [(.t 25), (.t 28), (.c (.int .i64 0)), (.t 29)]⟩,
   ⟨(some 24), none, .mv (.t 30)⟩,
   ⟨(some 31), none, .ext (.t 24) 0⟩,
   ⟨(some 32), none, .ext (.t 24) 1⟩,
   ⟨(some 8), none, .al [.nils, .nils]⟩,
   ⟨none, none, .st 2 (.t 8) (.t 31)⟩,
   ⟨(some 9), none, .mv (.t 32)⟩] [.val [], .val [], .val [], .val [], .val [], .val [], .val [], .val [], .val [], .chn [0, 1, 2, 3, 4, 5, 6, 7, 8], .chn [8], .val []])
  (.seq (.seq (.reg [⟨(some 33), none, .mv (.t 9)⟩,
   ⟨(some 34), none, .un .not (.t 33)⟩])
  (.cond (.t 34)
    (.seq (.reg [⟨(some 35), none, .ld true 2 (.t 2)⟩,
     ⟨(some 36), none, .cl (.c (.fn 102 [])) [(.t 35)]⟩,
     ⟨none, none, .st 2 (.t 4) (.t 36)⟩,
     ⟨(some 5), none, .mv (.c (.bool false))⟩])
    .ret)
    .skip))
  (.seq (.reg [⟨(some 37), none, .ld true 2 (.t 8)⟩,
   ⟨(some 38), none, .cl (.c (.fn 105 [])) [(.t 37)]⟩,
   ⟨none, none, .st 2 (.t 4) (.t 38)⟩,
   ⟨(some 5), none, .mv (.c (.bool true))⟩])
  .ret))))))
theorem k_impl_WriteCheck : FnOk Try.prog 49 39 rc_impl_WriteCheck [.cell 4 true 2, .t 5] := ⟨Try.f49, _, [], Try.func49, rfl, rfl, by kernel_rfl, by kernel_rfl, follows⟩
theorem ok_impl_WriteCheck : okF Try.prog 49 = true := by kernel_rfl
def rc_laws_heldStringS : RC :=
  (.seq (.reg [⟨(some 4), none, .mv (.c (.int .i64 0))⟩])
  (.seq (.seq (.reg [⟨(some 5), none, .mv (.c (.int .i64 0))⟩])
  (.blk 0 (.loop (.seq (.seq (.reg [⟨(some 6), none, .mv (.t 5)⟩,
     ⟨(some 7), none, .mv (.t 0)⟩,
     ⟨(some 8), none, .lenl (.t 7)⟩,
     ⟨(some 9), none, .bin .lss (.t 6) (.t 8)⟩])
    (.cond (.t 9)
      .skip
      (.exit 0)))
    (.seq (.blk 1 (.seq (.seq (.drw [⟨(some 12), none, .mv (.t 0)⟩,
      ⟨(some 13), none, .mv (.t 5)⟩,
      ⟨(some 14), none, .ia 1 (.t 12) (.t 13)⟩,
      ⟨(some 15), none, .ld false 1 (.t 14)⟩,
      ⟨(some 16), none, .mv (.t 1)⟩,
      ⟨(some 17), none, .cl (.c (.fn 74 [])) [(.t 16)]⟩,
      ⟨(some 18), none, .bin .neq (.t 15) (.t 17)⟩] [.val [], .val [], .val [], .val [], .val [], .val [], .val []])
     (.cond (.t 18)
       (.seq (.reg [⟨(some 4), none, .mv (.c (.int .i64 (-1)))⟩])
       .ret)
       .skip))
     (.reg [⟨(some 19), none, .mv (.t 1)⟩,
      ⟨(some 20), none, .bin .add (.t 19) (.c (.int .i64 1))⟩,
      ⟨(some 1), none, .mv (.t 20)⟩])))
    (.reg [⟨(some 10), none, .mv (.t 5)⟩,
     ⟨(some 11), none, .bin .add (.t 10) (.c (.int .i64 1))⟩,
     ⟨(some 5), none, .mv (.t 11)⟩]))))))
  (.seq (.reg [⟨(some 21), none, .mv (.t 1)⟩,
   ⟨(some 4), none, .mv (.t 21)⟩])
  .ret)))
theorem k_laws_heldStringS : FnOk Try.prog 106 22 rc_laws_heldStringS [.t 4] := ⟨Try.f106, _, [], Try.func106, rfl, rfl, by kernel_rfl, by kernel_rfl, follows⟩
theorem ok_laws_heldStringS : okF Try.prog 106 = true := by kernel_rfl
def rc_laws_heldWriteS : RC :=
  (.seq (.reg [⟨(some 4), none, .mv (.c (.int .i64 0))⟩])
  (.seq (.seq (.reg [⟨(some 5), none, .mv (.c (.int .i64 0))⟩])
  (.blk 0 (.loop (.seq (.seq (.reg [⟨(some 6), none, .mv (.t 5)⟩,
     ⟨(some 7), none, .mv (.t 0)⟩,
     ⟨(some 8), none, .lenl (.t 7)⟩,
     ⟨(some 9), none, .bin .lss (.t 6) (.t 8)⟩])
    (.cond (.t 9)
      .skip
      (.exit 0)))
    (.seq (.blk 1 (.seq (.seq (.reg [⟨(some 12), none, .mv (.t 0)⟩,
      ⟨(some 13), none, .mv (.t 5)⟩,
      ⟨(some 14), none, .ia 2 (.t 12) (.t 13)⟩,
      ⟨(some 15), none, .fa 0 (.t 14)⟩,
      ⟨(some 16), none, .ld false 1 (.t 15)⟩,
      ⟨(some 17), none, .mv (.t 1)⟩,
      ⟨(some 18), none, .bin .neq (.t 16) (.t 17)⟩])
     (.cond (.t 18)
       (.seq (.reg [⟨(some 4), none, .mv (.c (.int .i64 (-1)))⟩])
       .ret)
       .skip))
     (.seq (.reg [⟨(some 19), none, .mv (.t 1)⟩,
      ⟨(some 20), none, .bin .add (.t 19) (.c (.int .i64 1))⟩,
      ⟨(some 1), none, .mv (.t 20)⟩])
     (.seq (.seq (.drw [⟨(some 21), none, .mv (.t 0)⟩,
      ⟨(some 22), none, .mv (.t 5)⟩,
      ⟨(some 23), none, .ia 2 (.t 21) (.t 22)⟩,
      ⟨(some 24), none, .fa 1 (.t 23)⟩,
      ⟨(some 25), none, .ld false 1 (.t 24)⟩,
      ⟨(some 26), none, .mv (.t 1)⟩,
      ⟨(some 27), none, .cl (.c (.fn 74 [])) [(.t 26)]⟩,
      ⟨(some 28), none, .bin .neq (.t 25) (.t 27)⟩] [.val [], .val [], .val [], .val [], .val [], .val [], .val [], .val []])
     (.cond (.t 28)
       (.seq (.reg [⟨(some 4), none, .mv (.c (.int .i64 (-1)))⟩])
       .ret)
       .skip))
     (.reg [⟨(some 29), none, .mv (.t 1)⟩,
      ⟨(some 30), none, .bin .add (.t 29) (.c (.int .i64 1))⟩,
      ⟨(some 1), none, .mv (.t 30)⟩])))))
    (.reg [⟨(some 10), none, .mv (.t 5)⟩,
     ⟨(some 11), none, .bin .add (.t 10) (.c (.int .i64 1))⟩,
     ⟨(some 5), none, .mv (.t 11)⟩]))))))
  (.seq (.reg [⟨(some 31), none, .mv (.t 1)⟩,
   ⟨(some 4), none, .mv (.t 31)⟩])
  .ret)))
theorem k_laws_heldWriteS : FnOk Try.prog 107 32 rc_laws_heldWriteS [.t 4] := ⟨Try.f107, _, [], Try.func107, rfl, rfl, by kernel_rfl, by kernel_rfl, follows⟩
theorem ok_laws_heldWriteS : okF Try.prog 107 = true := by kernel_rfl
def rc_laws_heldDisk : RC :=
  (.seq (.reg [⟨(some 2), none, .bx (.t 0)⟩,
   ⟨(some 4), none, .mv (.c (.int .i64 0))⟩])
  (.seq (.reg [⟨(some 5), none, .fa 0 (.t 2)⟩,
   ⟨(some 6), none, .ld false 1 (.t 5)⟩,
   ⟨(some 7), none, .mv (.t 1)⟩,
   ⟨(some 8), none, .cl (.c (.fn 106 [])) [(.t 6), (.t 7)]⟩,
   ⟨(some 1), none, .mv (.t 8)⟩])
  (.seq (.seq (.reg [⟨(some 9), none, .mv (.t 1)⟩,
   ⟨(some 10), none, .bin .lss (.t 9) (.c (.int .i64 0))⟩])
  (.cond (.t 10)
    (.seq (.reg [⟨(some 4), none, .mv (.c (.int .i64 (-1)))⟩])
    .ret)
    .skip))
  (.seq (.reg [⟨(some 11), none, .fa 1 (.t 2)⟩,
   ⟨(some 12), none, .ld false 1 (.t 11)⟩,
   ⟨(some 13), none, .mv (.t 1)⟩,
   ⟨(some 14), none, .cl (.c (.fn 107 [])) [(.t 12), (.t 13)]⟩,
   ⟨(some 1), none, .mv (.t 14)⟩])
  (.seq (.seq (.reg [⟨(some 15), none, .mv (.t 1)⟩,
   ⟨(some 16), none, .bin .lss (.t 15) (.c (.int .i64 0))⟩])
  (.cond (.t 16)
    (.seq (.reg [⟨(some 4), none, .mv (.c (.int .i64 (-1)))⟩])
    .ret)
    .skip))
  (.seq (.reg [⟨(some 17), none, .mv (.t 1)⟩,
   ⟨(some 4), none, .mv (.t 17)⟩])
  .ret))))))
theorem k_laws_heldDisk : FnOk Try.prog 50 18 rc_laws_heldDisk [.t 4] := ⟨Try.f50, _, [], Try.func50, rfl, rfl, by kernel_rfl, by kernel_rfl, follows⟩
theorem ok_laws_heldDisk : okF Try.prog 50 = true := by kernel_rfl
def rc_laws_FnExactWriteCheck : RC :=
  (.seq (.reg [⟨(some 2), none, .bx (.t 0)⟩,
   ⟨(some 3), none, .bx (.t 1)⟩,
   ⟨(some 4), none, .mv (.c (.bool false))⟩])
  (.seq (.reg [⟨(some 5), none, .mv (.c (.int .i64 1048576))⟩])
  (.seq (.reg [⟨(some 17), none, .ld true 2 (.t 2)⟩,
   ⟨(some 18), none, .mv (.t 5)⟩,
   ⟨(some 19), none, .cl (.c (.fn 40 [])) [(.t 17), (.t 18)]⟩,
   ⟨(some 5), none, .mv (.t 19)⟩])
  (.seq (.seq (.reg [⟨(some 20), none, .mv (.t 5)⟩,
   ⟨(some 21), none, .bin .lss (.t 20) (.c (.int .i64 0))⟩])
  (.cond (.t 21)
    (.seq (.reg [⟨(some 4), none, .mv (.c (.bool true))⟩])
    .ret)
    .skip))
  (.seq (.reg [⟨(some 22), none, .ld true 5 (.t 3)⟩,
   ⟨(some 23), none, .mv (.t 5)⟩,
   ⟨(some 24), none, .cl (.c (.fn 46 [])) [(.t 22), (.t 23)]⟩,
   ⟨(some 5), none, .mv (.t 24)⟩])
  (.seq (.seq (.reg [⟨(some 25), none, .mv (.t 5)⟩,
   ⟨(some 26), none, .bin .lss (.t 25) (.c (.int .i64 0))⟩])
  (.cond (.t 26)
    (.seq (.reg [⟨(some 4), none, .mv (.c (.bool true))⟩])
    .ret)
    .skip))
  (.seq (.drw [⟨(some 28), none, .ld true 2 (.t 2)⟩,
   ⟨(some 29), none, .cl (.c (.fn 42 [])) [(.t 28)]⟩,
   ⟨(some 30), none, .ld true 5 (.t 3)⟩,
   ⟨(some 31), none, .cl (.c (.fn 48 [])) [(.t 30)]⟩,
   ⟨(some 32), none, .cl (.c (.fn 47 [])) [(.t 29), (.t 31)]⟩,
   ⟨(some 27), none, .mv (.t 32)⟩,
   ⟨(some 33), none, .ext (.t 27) 0⟩,
   ⟨(some 34), none, .ext (.t 27) 1⟩,
   ⟨(some 6), none, .al [.nils, .nils]⟩,
   ⟨none, none, .st 2 (.t 6) (.t 33)⟩,
   ⟨(some 7), none, .mv (.t 34)⟩] [.val [], .val [], .val [], .val [], .val [], .val [], .val [], .val [], .chn [0, 1, 2, 3, 4, 5, 6, 7], .chn [7], .val []])
  (.seq (.reg [⟨(some 35), none, .ld true 2 (.t 2)⟩,
   ⟨(some 36), none, .cl (.c (.fn 42 [])) [(.t 35)]⟩,
   ⟨(some 8), none, .al [.nils, .nils]⟩,
   ⟨none, none, .st 2 (.t 8) (.t 36)⟩])
  (.seq (.reg [⟨(some 37), none, .ld true 5 (.t 3)⟩,
   ⟨(some 38), none, .cl (.c (.fn 48 [])) [(.t 37)]⟩,
   ⟨(some 9), none, .al [.int .i64 0, .int .i64 0, .int .i64 0, .int .i64 0, .nils]⟩,
   ⟨none, none, .st 5 (.t 9) (.t 38)⟩])
  (.seq (.reg [⟨(some 40), none, .ld true 2 (.t 8)⟩,
   ⟨(some 41), none, .ld true 5 (.t 9)⟩,
   ⟨(some 42), none, .cl (.c (.fn 49 [])) [(.t 40), (.t 41)]⟩,
   ⟨(some 39), none, .mv (.t 42)⟩,
   ⟨(some 43), none, .ext (.t 39) 0⟩,
   ⟨(some 44), none, .ext (.t 39) 1⟩,
   ⟨(some 10), none, .al [.nils, .nils]⟩,
   ⟨none, none, .st 2 (.t 10) (.t 43)⟩,
   ⟨(some 11), none, .mv (.t 44)⟩])
  (.seq (.seq (.reg [⟨(some 45), none, .ld true 2 (.t 10)⟩,
   ⟨(some 46), none, .ld true 2 (.t 6)⟩,
   ⟨(some 47), none, .cl (.c (.fn 44 [])) [(.t 45), (.t 46)]⟩,
   ⟨(some 48), none, .un .not (.t 47)⟩,
   ⟨(some 49), none, .mv (.t 48)⟩,
   ⟨(some 50), (some (49, false)), .mv (.t 11)⟩,
   ⟨(some 51), (some (49, false)), .mv (.t 7)⟩,
   ⟨(some 52), (some (49, false)), .eqb true (.t 50) (.t 51)⟩,
   ⟨(some 53), none, .pick (.t 49) (.c (.bool true)) (.t 52)⟩])
  (.cond (.t 53)
    (.seq (.reg [⟨(some 4), none, .mv (.c (.bool false))⟩])
    .ret)
    .skip))
  (.seq (.seq (.drw [⟨(some 54), none, .ld true 2 (.t 8)⟩,
   ⟨(some 55), none, .ld true 2 (.t 2)⟩,
   ⟨(some 56), none, .cl (.c (.fn 42 [])) [(.t 55)]⟩,
   ⟨(some 57), none, .cl (.c (.fn 44 [])) [(.t 54), (.t 56)]⟩,
   ⟨(some 58), none, .un .not (.t 57)⟩] [.val [], .val [], .val [], .val [], .val []])
  (.cond (.t 58)
    (.seq (.reg [⟨(some 4), none, .mv (.c (.bool false))⟩])
    .ret)
    .skip))
  (.seq (.seq (.drw [⟨(some 59), none, .ld true 5 (.t 9)⟩,
   ⟨(some 60), none, .ld true 5 (.t 3)⟩,
   ⟨(some 61), none, .cl (.c (.fn 48 [])) [(.t 60)]⟩,
   ⟨(some 62), none, .cl (.c (.fn 37 [])) [(.t 59), (.t 61)]⟩,
   ⟨(some 63), none, .un .not (.t 62)⟩] [.val [], .val [], .val [], .val [], .val []])
  (.cond (.t 63)
    (.seq (.reg [⟨(some 4), none, .mv (.c (.bool false))⟩])
    .ret)
    .skip))
  (.seq (.reg [⟨(some 12), none, .mv (.c (.int .i64 1))⟩])
  (.seq (.reg [⟨(some 64), none, .ld true 2 (.t 8)⟩,
   ⟨(some 65), none, .mv (.t 12)⟩,
   ⟨(some 66), none, .cl (.c (.fn 45 [])) [(.t 64), (.t 65)]⟩,
   ⟨(some 12), none, .mv (.t 66)⟩])
  (.seq (.reg [⟨(some 67), none, .ld true 5 (.t 9)⟩,
   ⟨(some 68), none, .mv (.t 12)⟩,
   ⟨(some 69), none, .cl (.c (.fn 38 [])) [(.t 67), (.t 68)]⟩,
   ⟨(some 12), none, .mv (.t 69)⟩])
  (.seq (.seq (.reg [⟨(some 70), none, .mv (.t 12)⟩,
   ⟨(some 71), none, .bin .lss (.t 70) (.c (.int .i64 0))⟩,
   ⟨(some 72), none, .mv (.t 71)⟩,
   ⟨(some 73), (some (72, false)), .ld true 2 (.t 10)⟩,
   ⟨(some 74), (some (72, false)), .ld true 2 (.t 6)⟩,
   ⟨(some 75), (some (72, false)), .cl (.c (.fn 44 [])) [(.t 73), (.t 74)]⟩,
   ⟨(some 76), (some (72, false)), .un .not (.t 75)⟩,
   ⟨(some 77), none, .pick (.t 72) (.c (.bool true)) (.t 76)⟩,
   ⟨(some 78), none, .mv (.t 77)⟩,
   ⟨(some 79), (some (78, false)), .mv (.t 11)⟩,
   ⟨(some 80), (some (78, false)), .mv (.t 7)⟩,
   ⟨(some 81), (some (78, false)), .eqb true (.t 79) (.t 80)⟩,
   ⟨(some 82), none, .pick (.t 78) (.c (.bool true)) (.t 81)⟩])
  (.cond (.t 82)
    (.seq (.reg [⟨(some 4), none, .mv (.c (.bool false))⟩])
    .ret)
    .skip))
  (.seq (.reg [⟨(some 13), none, .mv (.c (.int .i64 1))⟩])
  (.seq (.reg [⟨(some 83), none, .ld true 2 (.t 10)⟩,
   ⟨(some 84), none, .mv (.t 13)⟩,
   ⟨(some 85), none, .cl (.c (.fn 45 [])) [(.t 83), (.t 84)]⟩,
   ⟨(some 13), none, .mv (.t 85)⟩])
  (.seq (.reg [⟨(some 14), none, .mv (.c (.int .i64 1))⟩])
  (.seq (.reg [⟨(some 86), none, .ld true 2 (.t 10)⟩,
   ⟨(some 87), none, .mv (.t 14)⟩,
   ⟨(some 88), none, .cl (.c (.fn 50 [])) [(.t 86), (.t 87)]⟩,
   ⟨(some 14), none, .mv (.t 88)⟩])
  (.seq (.seq (.reg [⟨(some 89), none, .mv (.t 14)⟩,
   ⟨(some 90), none, .bin .lss (.t 89) (.c (.int .i64 0))⟩])
  (.cond (.t 90)
    (.seq (.reg [⟨(some 4), none, .mv (.c (.bool false))⟩])
    .ret)
    .skip))
  (.seq (.seq (.reg [⟨(some 91), none, .mv (.t 14)⟩,
   ⟨(some 92), none, .mv (.t 13)⟩,
   ⟨(some 93), none, .bin .neq (.t 91) (.t 92)⟩])
  (.cond (.t 93)
    (.seq (.reg [⟨(some 4), none, .mv (.c (.bool false))⟩])
    .ret)
    .skip))
  (.seq (.drw [⟨(some 95), none, .ld true 2 (.t 2)⟩,
   ⟨(some 96), none, .cl (.c (.fn 42 [])) [(.t 95)]⟩,
   ⟨(some 97), none, .ld true 5 (.t 3)⟩,
   ⟨(some 98), none, .cl (.c (.fn 48 [])) [(.t 97)]⟩,
   ⟨(some 99), none, .cl (.c (.fn 49 [])) [(.t 96), (.t 98)]⟩,
   ⟨(some 94), none, .mv (.t 99)⟩,
   ⟨(some 100), none, .ext (.t 94) 0⟩,
   ⟨(some 101), none, .ext (.t 94) 1⟩,
   ⟨(some 15), none, .al [.nils, .nils]⟩,
   ⟨none, none, .st 2 (.t 15) (.t 100)⟩,
   ⟨(some 16), none, .mv (.t 101)⟩] [.val [], .val [], .val [], .val [], .val [], .val [], .val [], .val [], .chn [0, 1, 2, 3, 4, 5, 6, 7], .chn [7], .val []])
  (.seq (.seq (.reg [⟨(some 102), none, .ld true 2 (.t 15)⟩,
   ⟨(some 103), none, .ld true 2 (.t 6)⟩,
   ⟨(some 104), none, .cl (.c (.fn 44 [])) [(.t 102), (.t 103)]⟩,
   ⟨(some 105), none, .un .not (.t 104)⟩,
   ⟨(some 106), none, .mv (.t 105)⟩,
   ⟨(some 107), (some (106, false)), .mv (.t 16)⟩,
   ⟨(some 108), (some (106, false)), .mv (.t 7)⟩,
   ⟨(some 109), (some (106, false)), .eqb true (.t 107) (.t 108)⟩,
   ⟨(some 110), none, .pick (.t 106) (.c (.bool true)) (.t 109)⟩])
  (.cond (.t 110)
    (.seq (.reg [⟨(some 4), none, .mv (.c (.bool false))⟩])
    .ret)
    .skip))
  (.seq (.reg [⟨(some 14), none, .mv (.c (.int .i64 1))⟩])
  (.seq (.reg [⟨(some 111), none, .ld true 2 (.t 10)⟩,
   ⟨(some 112), none, .mv (.t 14)⟩,
   ⟨(some 113), none, .cl (.c (.fn 50 [])) [(.t 111), (.t 112)]⟩,
   ⟨(some 14), none, .mv (.t 113)⟩])
  (.seq (.seq (.reg [⟨(some 114), none, .mv (.t 14)⟩,
   ⟨(some 115), none, .bin .lss (.t 114) (.c (.int .i64 0))⟩])
  (.cond (.t 115)
    (.seq (.reg [⟨(some 4), none, .mv (.c (.bool false))⟩])
    .ret)
    .skip))
  (.seq (.seq (.reg [⟨(some 116), none, .mv (.t 14)⟩,
   ⟨(some 117), none, .mv (.t 13)⟩,
   ⟨(some 118), none, .bin .neq (.t 116) (.t 117)⟩])
  (.cond (.t 118)
    (.seq (.reg [⟨(some 4), none, .mv (.c (.bool false))⟩])
    .ret)
    .skip))
  (.seq (.reg [⟨(some 4), none, .mv (.c (.bool true))⟩])
  .ret))))))))))))))))))))))))))))))
theorem k_laws_FnExactWriteCheck : FnOk Try.prog 9 119 rc_laws_FnExactWriteCheck [.t 4] := ⟨Try.f9, _, [], Try.func9, rfl, rfl, by kernel_rfl, by kernel_rfl, follows⟩
theorem ok_laws_FnExactWriteCheck : okF Try.prog 9 = true := by kernel_rfl
end Go.Proofs.Ytgdcbjoaoagbpaa.V
