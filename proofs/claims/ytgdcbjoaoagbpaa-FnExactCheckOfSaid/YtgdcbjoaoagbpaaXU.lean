/- The functions' texts. -/
import Derived.Test.YtgdcbjoaoagbpaaXE
import Derived.Test.YtgdcbjoaoagbpaaProg
import Derived.KernelRfl
/- The functions' texts. -/
namespace Go.Proofs.Ytgdcbjoaoagbpaa.V
open Go Go.Proofs Go.RowKit
set_option maxRecDepth 100000
theorem follows : Try.prog.follows .mixedOrders = true := by kernel_rfl
def rc_laws_szStringS : RC :=
  (.seq (.reg [⟨(some 4), none, .mv (.c (.int .i64 0))⟩])
  (.seq (.reg [⟨(some 6), none, .mv (.t 1)⟩,
   ⟨(some 7), none, .mv (.t 0)⟩,
   ⟨(some 8), none, .lenl (.t 7)⟩,
   ⟨(some 9), none, .bin .sub (.t 6) (.t 8)⟩,
   ⟨(some 1), none, .mv (.t 9)⟩])
  (.seq (.seq (.reg [⟨(some 10), none, .mv (.t 1)⟩,
   ⟨(some 11), none, .bin .lss (.t 10) (.c (.int .i64 0))⟩])
  (.cond (.t 11)
    (.seq (.reg [⟨(some 4), none, .mv (.c (.int .i64 (-1)))⟩])
    .ret)
    .skip))
  (.seq (.seq (.reg [⟨(some 5), none, .mv (.c (.int .i64 0))⟩])
  (.blk 0 (.loop (.seq (.seq (.reg [⟨(some 12), none, .mv (.t 5)⟩,
     ⟨(some 13), none, .mv (.t 0)⟩,
     ⟨(some 14), none, .lenl (.t 13)⟩,
     ⟨(some 15), none, .bin .lss (.t 12) (.t 14)⟩])
    (.cond (.t 15)
      .skip
      (.exit 0)))
    (.seq (.blk 1 (.seq (.reg [⟨(some 18), none, .mv (.t 1)⟩,
      ⟨(some 19), none, .mv (.t 0)⟩,
      ⟨(some 20), none, .mv (.t 5)⟩,
      ⟨(some 21), none, .ia 1 (.t 19) (.t 20)⟩,
      ⟨(some 22), none, .ld false 1 (.t 21)⟩,
      ⟨(some 23), none, .lens (.t 22)⟩,
      ⟨(some 24), none, .bin .sub (.t 18) (.t 23)⟩,
      ⟨(some 1), none, .mv (.t 24)⟩])
     (.seq (.reg [⟨(some 25), none, .mv (.t 1)⟩,
      ⟨(some 26), none, .bin .lss (.t 25) (.c (.int .i64 0))⟩])
     (.cond (.t 26)
       (.seq (.reg [⟨(some 4), none, .mv (.c (.int .i64 (-1)))⟩])
       .ret)
       .skip))))
    (.reg [⟨(some 16), none, .mv (.t 5)⟩,
     ⟨(some 17), none, .bin .add (.t 16) (.c (.int .i64 1))⟩,
     ⟨(some 5), none, .mv (.t 17)⟩]))))))
  (.seq (.reg [⟨(some 27), none, .mv (.t 1)⟩,
   ⟨(some 4), none, .mv (.t 27)⟩])
  .ret)))))
theorem k_laws_szStringS : FnOk Try.prog 81 28 rc_laws_szStringS [.t 4] := ⟨Try.f81, _, [], Try.func81, rfl, rfl, by kernel_rfl, by kernel_rfl, follows⟩
theorem ok_laws_szStringS : okF Try.prog 81 = true := by kernel_rfl
def rc_laws_szWrite : RC :=
  (.seq (.reg [⟨(some 2), none, .bx (.t 0)⟩,
   ⟨(some 4), none, .mv (.c (.int .i64 0))⟩])
  (.seq (.reg [⟨(some 5), none, .mv (.t 1)⟩,
   ⟨(some 6), none, .fa 1 (.t 2)⟩,
   ⟨(some 7), none, .ld false 1 (.t 6)⟩,
   ⟨(some 8), none, .lens (.t 7)⟩,
   ⟨(some 9), none, .bin .sub (.t 5) (.t 8)⟩,
   ⟨(some 1), none, .mv (.t 9)⟩])
  (.seq (.seq (.reg [⟨(some 10), none, .mv (.t 1)⟩,
   ⟨(some 11), none, .bin .lss (.t 10) (.c (.int .i64 0))⟩])
  (.cond (.t 11)
    (.seq (.reg [⟨(some 4), none, .mv (.c (.int .i64 (-1)))⟩])
    .ret)
    .skip))
  (.seq (.reg [⟨(some 12), none, .mv (.t 1)⟩,
   ⟨(some 4), none, .mv (.t 12)⟩])
  .ret))))
theorem k_laws_szWrite : FnOk Try.prog 146 13 rc_laws_szWrite [.t 4] := ⟨Try.f146, _, [], Try.func146, rfl, rfl, by kernel_rfl, by kernel_rfl, follows⟩
theorem ok_laws_szWrite : okF Try.prog 146 = true := by kernel_rfl
def rc_laws_szWriteS : RC :=
  (.seq (.reg [⟨(some 4), none, .mv (.c (.int .i64 0))⟩])
  (.seq (.reg [⟨(some 6), none, .mv (.t 1)⟩,
   ⟨(some 7), none, .mv (.t 0)⟩,
   ⟨(some 8), none, .lenl (.t 7)⟩,
   ⟨(some 9), none, .bin .sub (.t 6) (.t 8)⟩,
   ⟨(some 1), none, .mv (.t 9)⟩])
  (.seq (.seq (.reg [⟨(some 10), none, .mv (.t 1)⟩,
   ⟨(some 11), none, .bin .lss (.t 10) (.c (.int .i64 0))⟩])
  (.cond (.t 11)
    (.seq (.reg [⟨(some 4), none, .mv (.c (.int .i64 (-1)))⟩])
    .ret)
    .skip))
  (.seq (.seq (.reg [⟨(some 5), none, .mv (.c (.int .i64 0))⟩])
  (.blk 0 (.loop (.seq (.seq (.reg [⟨(some 12), none, .mv (.t 5)⟩,
     ⟨(some 13), none, .mv (.t 0)⟩,
     ⟨(some 14), none, .lenl (.t 13)⟩,
     ⟨(some 15), none, .bin .lss (.t 12) (.t 14)⟩])
    (.cond (.t 15)
      .skip
      (.exit 0)))
    (.seq (.blk 1 (.seq (.reg [⟨(some 18), none, .mv (.t 0)⟩,
      ⟨(some 19), none, .mv (.t 5)⟩,
      ⟨(some 20), none, .ia 2 (.t 18) (.t 19)⟩,
      ⟨(some 21), none, .ld true 2 (.t 20)⟩,
      ⟨(some 22), none, .mv (.t 1)⟩,
      ⟨(some 23), none, .cl (.c (.fn 146 [])) [(.t 21), (.t 22)]⟩,
      ⟨(some 1), none, .mv (.t 23)⟩])
     (.seq (.reg [⟨(some 24), none, .mv (.t 1)⟩,
      ⟨(some 25), none, .bin .lss (.t 24) (.c (.int .i64 0))⟩])
     (.cond (.t 25)
       (.seq (.reg [⟨(some 4), none, .mv (.c (.int .i64 (-1)))⟩])
       .ret)
       .skip))))
    (.reg [⟨(some 16), none, .mv (.t 5)⟩,
     ⟨(some 17), none, .bin .add (.t 16) (.c (.int .i64 1))⟩,
     ⟨(some 5), none, .mv (.t 17)⟩]))))))
  (.seq (.reg [⟨(some 26), none, .mv (.t 1)⟩,
   ⟨(some 4), none, .mv (.t 26)⟩])
  .ret)))))
theorem k_laws_szWriteS : FnOk Try.prog 82 27 rc_laws_szWriteS [.t 4] := ⟨Try.f82, _, [], Try.func82, rfl, rfl, by kernel_rfl, by kernel_rfl, follows⟩
theorem ok_laws_szWriteS : okF Try.prog 82 = true := by kernel_rfl
def rc_laws_szDisk : RC :=
  (.seq (.reg [⟨(some 2), none, .bx (.t 0)⟩,
   ⟨(some 4), none, .mv (.c (.int .i64 0))⟩])
  (.seq (.reg [⟨(some 5), none, .fa 0 (.t 2)⟩,
   ⟨(some 6), none, .ld false 1 (.t 5)⟩,
   ⟨(some 7), none, .mv (.t 1)⟩,
   ⟨(some 8), none, .cl (.c (.fn 81 [])) [(.t 6), (.t 7)]⟩,
   ⟨(some 1), none, .mv (.t 8)⟩])
  (.seq (.seq (.reg [⟨(some 9), none, .mv (.t 1)⟩,
   ⟨(some 10), none, .bin .lss (.t 9) (.c (.int .i64 0))⟩])
  (.cond (.t 10)
    (.seq (.reg [⟨(some 4), none, .mv (.c (.int .i64 (-1)))⟩])
    .ret)
    .skip))
  (.seq (.reg [⟨(some 11), none, .fa 1 (.t 2)⟩,
   ⟨(some 12), none, .ld false 1 (.t 11)⟩,
   ⟨(some 13), none, .mv (.t 1)⟩,
   ⟨(some 14), none, .cl (.c (.fn 82 [])) [(.t 12), (.t 13)]⟩,
   ⟨(some 1), none, .mv (.t 14)⟩])
  (.seq (.seq (.reg [⟨(some 15), none, .mv (.t 1)⟩,
   ⟨(some 16), none, .bin .lss (.t 15) (.c (.int .i64 0))⟩])
  (.cond (.t 16)
    (.seq (.reg [⟨(some 4), none, .mv (.c (.int .i64 (-1)))⟩])
    .ret)
    .skip))
  (.seq (.reg [⟨(some 17), none, .mv (.t 1)⟩,
   ⟨(some 4), none, .mv (.t 17)⟩])
  .ret))))))
theorem k_laws_szDisk : FnOk Try.prog 40 18 rc_laws_szDisk [.t 4] := ⟨Try.f40, _, [], Try.func40, rfl, rfl, by kernel_rfl, by kernel_rfl, follows⟩
theorem ok_laws_szDisk : okF Try.prog 40 = true := by kernel_rfl
def rc_laws_szRec : RC :=
  (.seq (.reg [⟨(some 2), none, .bx (.t 0)⟩,
   ⟨(some 4), none, .mv (.c (.int .i64 0))⟩])
  (.seq (.reg [⟨(some 5), none, .mv (.t 1)⟩,
   ⟨(some 6), none, .fa 5 (.t 2)⟩,
   ⟨(some 7), none, .ld false 1 (.t 6)⟩,
   ⟨(some 8), none, .lens (.t 7)⟩,
   ⟨(some 9), none, .bin .sub (.t 5) (.t 8)⟩,
   ⟨(some 1), none, .mv (.t 9)⟩])
  (.seq (.seq (.reg [⟨(some 10), none, .mv (.t 1)⟩,
   ⟨(some 11), none, .bin .lss (.t 10) (.c (.int .i64 0))⟩])
  (.cond (.t 11)
    (.seq (.reg [⟨(some 4), none, .mv (.c (.int .i64 (-1)))⟩])
    .ret)
    .skip))
  (.seq (.reg [⟨(some 12), none, .mv (.t 1)⟩,
   ⟨(some 13), none, .fa 6 (.t 2)⟩,
   ⟨(some 14), none, .ld false 1 (.t 13)⟩,
   ⟨(some 15), none, .lens (.t 14)⟩,
   ⟨(some 16), none, .bin .sub (.t 12) (.t 15)⟩,
   ⟨(some 1), none, .mv (.t 16)⟩])
  (.seq (.seq (.reg [⟨(some 17), none, .mv (.t 1)⟩,
   ⟨(some 18), none, .bin .lss (.t 17) (.c (.int .i64 0))⟩])
  (.cond (.t 18)
    (.seq (.reg [⟨(some 4), none, .mv (.c (.int .i64 (-1)))⟩])
    .ret)
    .skip))
  (.seq (.reg [⟨(some 19), none, .mv (.t 1)⟩,
   ⟨(some 20), none, .fa 7 (.t 2)⟩,
   ⟨(some 21), none, .ld false 1 (.t 20)⟩,
   ⟨(some 22), none, .lens (.t 21)⟩,
   ⟨(some 23), none, .bin .sub (.t 19) (.t 22)⟩,
   ⟨(some 1), none, .mv (.t 23)⟩])
  (.seq (.seq (.reg [⟨(some 24), none, .mv (.t 1)⟩,
   ⟨(some 25), none, .bin .lss (.t 24) (.c (.int .i64 0))⟩])
  (.cond (.t 25)
    (.seq (.reg [⟨(some 4), none, .mv (.c (.int .i64 (-1)))⟩])
    .ret)
    .skip))
  (.seq (.reg [⟨(some 26), none, .mv (.t 1)⟩,
   ⟨(some 4), none, .mv (.t 26)⟩])
  .ret))))))))
theorem k_laws_szRec : FnOk Try.prog 123 27 rc_laws_szRec [.t 4] := ⟨Try.f123, _, [], Try.func123, rfl, rfl, by kernel_rfl, by kernel_rfl, follows⟩
theorem ok_laws_szRec : okF Try.prog 123 = true := by kernel_rfl
def rc_laws_szItem : RC :=
  (.seq (.reg [⟨(some 2), none, .bx (.t 0)⟩,
   ⟨(some 4), none, .mv (.c (.int .i64 0))⟩])
  (.seq (.reg [⟨(some 5), none, .fa 1 (.t 2)⟩,
   ⟨(some 6), none, .ld true 8 (.t 5)⟩,
   ⟨(some 7), none, .mv (.t 1)⟩,
   ⟨(some 8), none, .cl (.c (.fn 123 [])) [(.t 6), (.t 7)]⟩,
   ⟨(some 1), none, .mv (.t 8)⟩])
  (.seq (.seq (.reg [⟨(some 9), none, .mv (.t 1)⟩,
   ⟨(some 10), none, .bin .lss (.t 9) (.c (.int .i64 0))⟩])
  (.cond (.t 10)
    (.seq (.reg [⟨(some 4), none, .mv (.c (.int .i64 (-1)))⟩])
    .ret)
    .skip))
  (.seq (.reg [⟨(some 11), none, .mv (.t 1)⟩,
   ⟨(some 4), none, .mv (.t 11)⟩])
  .ret))))
theorem k_laws_szItem : FnOk Try.prog 67 12 rc_laws_szItem [.t 4] := ⟨Try.f67, _, [], Try.func67, rfl, rfl, by kernel_rfl, by kernel_rfl, follows⟩
theorem ok_laws_szItem : okF Try.prog 67 = true := by kernel_rfl
def rc_laws_szItemS : RC :=
  (.seq (.reg [⟨(some 4), none, .mv (.c (.int .i64 0))⟩])
  (.seq (.reg [⟨(some 6), none, .mv (.t 1)⟩,
   ⟨(some 7), none, .mv (.t 0)⟩,
   ⟨(some 8), none, .lenl (.t 7)⟩,
   ⟨(some 9), none, .bin .sub (.t 6) (.t 8)⟩,
   ⟨(some 1), none, .mv (.t 9)⟩])
  (.seq (.seq (.reg [⟨(some 10), none, .mv (.t 1)⟩,
   ⟨(some 11), none, .bin .lss (.t 10) (.c (.int .i64 0))⟩])
  (.cond (.t 11)
    (.seq (.reg [⟨(some 4), none, .mv (.c (.int .i64 (-1)))⟩])
    .ret)
    .skip))
  (.seq (.seq (.reg [⟨(some 5), none, .mv (.c (.int .i64 0))⟩])
  (.blk 0 (.loop (.seq (.seq (.reg [⟨(some 12), none, .mv (.t 5)⟩,
     ⟨(some 13), none, .mv (.t 0)⟩,
     ⟨(some 14), none, .lenl (.t 13)⟩,
     ⟨(some 15), none, .bin .lss (.t 12) (.t 14)⟩])
    (.cond (.t 15)
      .skip
      (.exit 0)))
    (.seq (.blk 1 (.seq (.reg [⟨(some 18), none, .mv (.t 0)⟩,
      ⟨(some 19), none, .mv (.t 5)⟩,
      ⟨(some 20), none, .ia 9 (.t 18) (.t 19)⟩,
      ⟨(some 21), none, .ld true 9 (.t 20)⟩,
      ⟨(some 22), none, .mv (.t 1)⟩,
      ⟨(some 23), none, .cl (.c (.fn 67 [])) [(.t 21), (.t 22)]⟩,
      ⟨(some 1), none, .mv (.t 23)⟩])
     (.seq (.reg [⟨(some 24), none, .mv (.t 1)⟩,
      ⟨(some 25), none, .bin .lss (.t 24) (.c (.int .i64 0))⟩])
     (.cond (.t 25)
       (.seq (.reg [⟨(some 4), none, .mv (.c (.int .i64 (-1)))⟩])
       .ret)
       .skip))))
    (.reg [⟨(some 16), none, .mv (.t 5)⟩,
     ⟨(some 17), none, .bin .add (.t 16) (.c (.int .i64 1))⟩,
     ⟨(some 5), none, .mv (.t 17)⟩]))))))
  (.seq (.reg [⟨(some 26), none, .mv (.t 1)⟩,
   ⟨(some 4), none, .mv (.t 26)⟩])
  .ret)))))
theorem k_laws_szItemS : FnOk Try.prog 17 27 rc_laws_szItemS [.t 4] := ⟨Try.f17, _, [], Try.func17, rfl, rfl, by kernel_rfl, by kernel_rfl, follows⟩
theorem ok_laws_szItemS : okF Try.prog 17 = true := by kernel_rfl
def rc_laws_szSeg : RC :=
  (.seq (.reg [⟨(some 2), none, .bx (.t 0)⟩,
   ⟨(some 4), none, .mv (.c (.int .i64 0))⟩])
  (.seq (.reg [⟨(some 5), none, .fa 3 (.t 2)⟩,
   ⟨(some 6), none, .ld false 1 (.t 5)⟩,
   ⟨(some 7), none, .mv (.t 1)⟩,
   ⟨(some 8), none, .cl (.c (.fn 17 [])) [(.t 6), (.t 7)]⟩,
   ⟨(some 1), none, .mv (.t 8)⟩])
  (.seq (.seq (.reg [⟨(some 9), none, .mv (.t 1)⟩,
   ⟨(some 10), none, .bin .lss (.t 9) (.c (.int .i64 0))⟩])
  (.cond (.t 10)
    (.seq (.reg [⟨(some 4), none, .mv (.c (.int .i64 (-1)))⟩])
    .ret)
    .skip))
  (.seq (.reg [⟨(some 11), none, .mv (.t 1)⟩,
   ⟨(some 4), none, .mv (.t 11)⟩])
  .ret))))
theorem k_laws_szSeg : FnOk Try.prog 120 12 rc_laws_szSeg [.t 4] := ⟨Try.f120, _, [], Try.func120, rfl, rfl, by kernel_rfl, by kernel_rfl, follows⟩
theorem ok_laws_szSeg : okF Try.prog 120 = true := by kernel_rfl
def rc_laws_szSegS : RC :=
  (.seq (.reg [⟨(some 4), none, .mv (.c (.int .i64 0))⟩])
  (.seq (.reg [⟨(some 6), none, .mv (.t 1)⟩,
   ⟨(some 7), none, .mv (.t 0)⟩,
   ⟨(some 8), none, .lenl (.t 7)⟩,
   ⟨(some 9), none, .bin .sub (.t 6) (.t 8)⟩,
   ⟨(some 1), none, .mv (.t 9)⟩])
  (.seq (.seq (.reg [⟨(some 10), none, .mv (.t 1)⟩,
   ⟨(some 11), none, .bin .lss (.t 10) (.c (.int .i64 0))⟩])
  (.cond (.t 11)
    (.seq (.reg [⟨(some 4), none, .mv (.c (.int .i64 (-1)))⟩])
    .ret)
    .skip))
  (.seq (.seq (.reg [⟨(some 5), none, .mv (.c (.int .i64 0))⟩])
  (.blk 0 (.loop (.seq (.seq (.reg [⟨(some 12), none, .mv (.t 5)⟩,
     ⟨(some 13), none, .mv (.t 0)⟩,
     ⟨(some 14), none, .lenl (.t 13)⟩,
     ⟨(some 15), none, .bin .lss (.t 12) (.t 14)⟩])
    (.cond (.t 15)
      .skip
      (.exit 0)))
    (.seq (.blk 1 (.seq (.reg [⟨(some 18), none, .mv (.t 0)⟩,
      ⟨(some 19), none, .mv (.t 5)⟩,
      ⟨(some 20), none, .ia 4 (.t 18) (.t 19)⟩,
      ⟨(some 21), none, .ld true 4 (.t 20)⟩,
      ⟨(some 22), none, .mv (.t 1)⟩,
      ⟨(some 23), none, .cl (.c (.fn 120 [])) [(.t 21), (.t 22)]⟩,
      ⟨(some 1), none, .mv (.t 23)⟩])
     (.seq (.reg [⟨(some 24), none, .mv (.t 1)⟩,
      ⟨(some 25), none, .bin .lss (.t 24) (.c (.int .i64 0))⟩])
     (.cond (.t 25)
       (.seq (.reg [⟨(some 4), none, .mv (.c (.int .i64 (-1)))⟩])
       .ret)
       .skip))))
    (.reg [⟨(some 16), none, .mv (.t 5)⟩,
     ⟨(some 17), none, .bin .add (.t 16) (.c (.int .i64 1))⟩,
     ⟨(some 5), none, .mv (.t 17)⟩]))))))
  (.seq (.reg [⟨(some 26), none, .mv (.t 1)⟩,
   ⟨(some 4), none, .mv (.t 26)⟩])
  .ret)))))
theorem k_laws_szSegS : FnOk Try.prog 61 27 rc_laws_szSegS [.t 4] := ⟨Try.f61, _, [], Try.func61, rfl, rfl, by kernel_rfl, by kernel_rfl, follows⟩
theorem ok_laws_szSegS : okF Try.prog 61 = true := by kernel_rfl
def rc_laws_szLog : RC :=
  (.seq (.reg [⟨(some 2), none, .bx (.t 0)⟩,
   ⟨(some 4), none, .mv (.c (.int .i64 0))⟩])
  (.seq (.reg [⟨(some 5), none, .fa 0 (.t 2)⟩,
   ⟨(some 6), none, .ld true 2 (.t 5)⟩,
   ⟨(some 7), none, .mv (.t 1)⟩,
   ⟨(some 8), none, .cl (.c (.fn 40 [])) [(.t 6), (.t 7)]⟩,
   ⟨(some 1), none, .mv (.t 8)⟩])
  (.seq (.seq (.reg [⟨(some 9), none, .mv (.t 1)⟩,
   ⟨(some 10), none, .bin .lss (.t 9) (.c (.int .i64 0))⟩])
  (.cond (.t 10)
    (.seq (.reg [⟨(some 4), none, .mv (.c (.int .i64 (-1)))⟩])
    .ret)
    .skip))
  (.seq (.reg [⟨(some 11), none, .fa 3 (.t 2)⟩,
   ⟨(some 12), none, .ld false 1 (.t 11)⟩,
   ⟨(some 13), none, .mv (.t 1)⟩,
   ⟨(some 14), none, .cl (.c (.fn 61 [])) [(.t 12), (.t 13)]⟩,
   ⟨(some 1), none, .mv (.t 14)⟩])
  (.seq (.seq (.reg [⟨(some 15), none, .mv (.t 1)⟩,
   ⟨(some 16), none, .bin .lss (.t 15) (.c (.int .i64 0))⟩])
  (.cond (.t 16)
    (.seq (.reg [⟨(some 4), none, .mv (.c (.int .i64 (-1)))⟩])
    .ret)
    .skip))
  (.seq (.reg [⟨(some 17), none, .mv (.t 1)⟩,
   ⟨(some 4), none, .mv (.t 17)⟩])
  .ret))))))
theorem k_laws_szLog : FnOk Try.prog 12 18 rc_laws_szLog [.t 4] := ⟨Try.f12, _, [], Try.func12, rfl, rfl, by kernel_rfl, by kernel_rfl, follows⟩
theorem ok_laws_szLog : okF Try.prog 12 = true := by kernel_rfl
def rc_laws_toStringS : RC :=
  (.seq (.reg [⟨(some 2), none, .mv (.c (.nils))⟩])
  (.seq (.reg [⟨(some 5), none, .mv (.t 0)⟩,
   ⟨(some 6), none, .lenl (.t 5)⟩,
   ⟨(some 7), none, .ms 1 [.str []] 16 (.t 6) (.t 6)⟩,
   ⟨(some 3), none, .mv (.t 7)⟩])
  (.seq (.seq (.reg [⟨(some 4), none, .mv (.c (.int .i64 0))⟩])
  (.blk 0 (.loop (.seq (.seq (.reg [⟨(some 8), none, .mv (.t 4)⟩,
     ⟨(some 9), none, .mv (.t 0)⟩,
     ⟨(some 10), none, .lenl (.t 9)⟩,
     ⟨(some 11), none, .bin .lss (.t 8) (.t 10)⟩])
    (.cond (.t 11)
      .skip
      (.exit 0)))
    (.seq (.blk 1 (.reg [⟨(some 14), none, .mv (.t 3)⟩,
      ⟨(some 15), none, .mv (.t 4)⟩,
      ⟨(some 16), none, .mv (.t 0)⟩,
      ⟨(some 17), none, .mv (.t 4)⟩,
      ⟨(some 18), none, .ia 1 (.t 16) (.t 17)⟩,
      ⟨(some 19), none, .ld false 1 (.t 18)⟩,
      ⟨(some 20), none, .ia 1 (.t 14) (.t 15)⟩,
      ⟨none, none, .st 1 (.t 20) (.t 19)⟩]))
    (.reg [⟨(some 12), none, .mv (.t 4)⟩,
     ⟨(some 13), none, .bin .add (.t 12) (.c (.int .i64 1))⟩,
     ⟨(some 4), none, .mv (.t 13)⟩]))))))
  (.seq (.reg [⟨(some 21), none, .mv (.t 3)⟩,
   ⟨(some 2), none, .mv (.t 21)⟩])
  .ret))))
theorem k_laws_toStringS : FnOk Try.prog 85 22 rc_laws_toStringS [.t 2] := ⟨Try.f85, _, [], Try.func85, rfl, rfl, by kernel_rfl, by kernel_rfl, follows⟩
theorem ok_laws_toStringS : okF Try.prog 85 = true := by kernel_rfl
def rc_laws_toWrite : RC :=
  (.seq (.reg [⟨(some 1), none, .bx (.t 0)⟩,
   ⟨(some 2), none, .al [.int .i64 0, .str []]⟩])
  (.seq (.reg [⟨(some 3), none, .al [.int .i64 0, .str []]⟩])
  (.seq (.reg [⟨(some 4), none, .fa 0 (.t 1)⟩,
   ⟨(some 5), none, .ld false 1 (.t 4)⟩,
   ⟨(some 6), none, .fa 0 (.t 3)⟩,
   ⟨none, none, .st 1 (.t 6) (.t 5)⟩])
  (.seq (.reg [⟨(some 7), none, .fa 1 (.t 1)⟩,
   ⟨(some 8), none, .ld false 1 (.t 7)⟩,
   ⟨(some 9), none, .fa 1 (.t 3)⟩,
   ⟨none, none, .st 1 (.t 9) (.t 8)⟩])
  (.seq (.reg [⟨(some 10), none, .ld true 2 (.t 3)⟩,
   ⟨none, none, .st 2 (.t 2) (.t 10)⟩])
  .ret)))))
theorem k_laws_toWrite : FnOk Try.prog 151 11 rc_laws_toWrite [.cell 2 true 2] := ⟨Try.f151, _, [], Try.func151, rfl, rfl, by kernel_rfl, by kernel_rfl, follows⟩
theorem ok_laws_toWrite : okF Try.prog 151 = true := by kernel_rfl
def rc_laws_toWriteS : RC :=
  (.seq (.reg [⟨(some 2), none, .mv (.c (.nils))⟩])
  (.seq (.reg [⟨(some 5), none, .mv (.t 0)⟩,
   ⟨(some 6), none, .lenl (.t 5)⟩,
   ⟨(some 7), none, .ms 2 [.int .i64 0, .str []] 24 (.t 6) (.t 6)⟩,
   ⟨(some 3), none, .mv (.t 7)⟩])
  (.seq (.seq (.reg [⟨(some 4), none, .mv (.c (.int .i64 0))⟩])
  (.blk 0 (.loop (.seq (.seq (.reg [⟨(some 8), none, .mv (.t 4)⟩,
     ⟨(some 9), none, .mv (.t 0)⟩,
     ⟨(some 10), none, .lenl (.t 9)⟩,
     ⟨(some 11), none, .bin .lss (.t 8) (.t 10)⟩])
    (.cond (.t 11)
      .skip
      (.exit 0)))
    (.seq (.blk 1 (.reg [⟨(some 14), none, .mv (.t 3)⟩,
      ⟨(some 15), none, .mv (.t 4)⟩,
      ⟨(some 16), none, .mv (.t 0)⟩,
      ⟨(some 17), none, .mv (.t 4)⟩,
      ⟨(some 18), none, .ia 2 (.t 16) (.t 17)⟩,
      ⟨(some 19), none, .ld true 2 (.t 18)⟩,
      ⟨(some 20), none, .cl (.c (.fn 151 [])) [(.t 19)]⟩,
      ⟨(some 21), none, .ia 2 (.t 14) (.t 15)⟩,
      ⟨none, none, .st 2 (.t 21) (.t 20)⟩]))
    (.reg [⟨(some 12), none, .mv (.t 4)⟩,
     ⟨(some 13), none, .bin .add (.t 12) (.c (.int .i64 1))⟩,
     ⟨(some 4), none, .mv (.t 13)⟩]))))))
  (.seq (.reg [⟨(some 22), none, .mv (.t 3)⟩,
   ⟨(some 2), none, .mv (.t 22)⟩])
  .ret))))
theorem k_laws_toWriteS : FnOk Try.prog 86 23 rc_laws_toWriteS [.t 2] := ⟨Try.f86, _, [], Try.func86, rfl, rfl, by kernel_rfl, by kernel_rfl, follows⟩
theorem ok_laws_toWriteS : okF Try.prog 86 = true := by kernel_rfl
def rc_laws_toDisk : RC :=
  (.seq (.reg [⟨(some 1), none, .bx (.t 0)⟩,
   ⟨(some 2), none, .al [.nils, .nils]⟩])
  (.seq (.reg [⟨(some 3), none, .al [.nils, .nils]⟩])
  (.seq (.reg [⟨(some 4), none, .fa 0 (.t 1)⟩,
   ⟨(some 5), none, .ld false 1 (.t 4)⟩,
   ⟨(some 6), none, .cl (.c (.fn 85 [])) [(.t 5)]⟩,
   ⟨(some 7), none, .fa 0 (.t 3)⟩,
   ⟨none, none, .st 1 (.t 7) (.t 6)⟩])
  (.seq (.reg [⟨(some 8), none, .fa 1 (.t 1)⟩,
   ⟨(some 9), none, .ld false 1 (.t 8)⟩,
   ⟨(some 10), none, .cl (.c (.fn 86 [])) [(.t 9)]⟩,
   ⟨(some 11), none, .fa 1 (.t 3)⟩,
   ⟨none, none, .st 1 (.t 11) (.t 10)⟩])
  (.seq (.reg [⟨(some 12), none, .ld true 2 (.t 3)⟩,
   ⟨none, none, .st 2 (.t 2) (.t 12)⟩])
  .ret)))))
theorem k_laws_toDisk : FnOk Try.prog 42 13 rc_laws_toDisk [.cell 2 true 2] := ⟨Try.f42, _, [], Try.func42, rfl, rfl, by kernel_rfl, by kernel_rfl, follows⟩
theorem ok_laws_toDisk : okF Try.prog 42 = true := by kernel_rfl
def rc_laws_toRec : RC :=
  (.seq (.reg [⟨(some 1), none, .bx (.t 0)⟩,
   ⟨(some 2), none, .al [.int .i64 0, .int .i64 0, .int .i64 0, .int .i64 0, .int .i64 0, .str [], .str [], .str []]⟩])
  (.seq (.reg [⟨(some 3), none, .al [.int .i64 0, .int .i64 0, .int .i64 0, .int .i64 0, .int .i64 0, .str [], .str [], .str []]⟩])
  (.seq (.reg [⟨(some 4), none, .fa 0 (.t 1)⟩,
   ⟨(some 5), none, .ld false 1 (.t 4)⟩,
   ⟨(some 6), none, .fa 0 (.t 3)⟩,
   ⟨none, none, .st 1 (.t 6) (.t 5)⟩])
  (.seq (.reg [⟨(some 7), none, .fa 1 (.t 1)⟩,
   ⟨(some 8), none, .ld false 1 (.t 7)⟩,
   ⟨(some 9), none, .fa 1 (.t 3)⟩,
   ⟨none, none, .st 1 (.t 9) (.t 8)⟩])
  (.seq (.reg [⟨(some 10), none, .fa 2 (.t 1)⟩,
   ⟨(some 11), none, .ld false 1 (.t 10)⟩,
   ⟨(some 12), none, .fa 2 (.t 3)⟩,
   ⟨none, none, .st 1 (.t 12) (.t 11)⟩])
  (.seq (.reg [⟨(some 13), none, .fa 3 (.t 1)⟩,
   ⟨(some 14), none, .ld false 1 (.t 13)⟩,
   ⟨(some 15), none, .fa 3 (.t 3)⟩,
   ⟨none, none, .st 1 (.t 15) (.t 14)⟩])
  (.seq (.reg [⟨(some 16), none, .fa 4 (.t 1)⟩,
   ⟨(some 17), none, .ld false 1 (.t 16)⟩,
   ⟨(some 18), none, .fa 4 (.t 3)⟩,
   ⟨none, none, .st 1 (.t 18) (.t 17)⟩])
  (.seq (.reg [⟨(some 19), none, .fa 5 (.t 1)⟩,
   ⟨(some 20), none, .ld false 1 (.t 19)⟩,
   ⟨(some 21), none, .fa 5 (.t 3)⟩,
   ⟨none, none, .st 1 (.t 21) (.t 20)⟩])
  (.seq (.reg [⟨(some 22), none, .fa 6 (.t 1)⟩,
   ⟨(some 23), none, .ld false 1 (.t 22)⟩,
   ⟨(some 24), none, .fa 6 (.t 3)⟩,
   ⟨none, none, .st 1 (.t 24) (.t 23)⟩])
  (.seq (.reg [⟨(some 25), none, .fa 7 (.t 1)⟩,
   ⟨(some 26), none, .ld false 1 (.t 25)⟩,
   ⟨(some 27), none, .fa 7 (.t 3)⟩,
   ⟨none, none, .st 1 (.t 27) (.t 26)⟩])
  (.seq (.reg [⟨(some 28), none, .ld true 8 (.t 3)⟩,
   ⟨none, none, .st 8 (.t 2) (.t 28)⟩])
  .ret)))))))))))
theorem k_laws_toRec : FnOk Try.prog 129 29 rc_laws_toRec [.cell 2 true 8] := ⟨Try.f129, _, [], Try.func129, rfl, rfl, by kernel_rfl, by kernel_rfl, follows⟩
theorem ok_laws_toRec : okF Try.prog 129 = true := by kernel_rfl
def rc_laws_toItem : RC :=
  (.seq (.reg [⟨(some 1), none, .bx (.t 0)⟩,
   ⟨(some 2), none, .al [.int .i64 0, .int .i64 0, .int .i64 0, .int .i64 0, .int .i64 0, .int .i64 0, .str [], .str [], .str []]⟩])
  (.seq (.reg [⟨(some 3), none, .al [.int .i64 0, .int .i64 0, .int .i64 0, .int .i64 0, .int .i64 0, .int .i64 0, .str [], .str [], .str []]⟩])
  (.seq (.reg [⟨(some 4), none, .fa 0 (.t 1)⟩,
   ⟨(some 5), none, .ld false 1 (.t 4)⟩,
   ⟨(some 6), none, .fa 0 (.t 3)⟩,
   ⟨none, none, .st 1 (.t 6) (.t 5)⟩])
  (.seq (.reg [⟨(some 7), none, .fa 1 (.t 1)⟩,
   ⟨(some 8), none, .ld true 8 (.t 7)⟩,
   ⟨(some 9), none, .cl (.c (.fn 129 [])) [(.t 8)]⟩,
   ⟨(some 10), none, .fa 1 (.t 3)⟩,
   ⟨none, none, .st 8 (.t 10) (.t 9)⟩])
  (.seq (.reg [⟨(some 11), none, .ld true 9 (.t 3)⟩,
   ⟨none, none, .st 9 (.t 2) (.t 11)⟩])
  .ret)))))
theorem k_laws_toItem : FnOk Try.prog 70 12 rc_laws_toItem [.cell 2 true 9] := ⟨Try.f70, _, [], Try.func70, rfl, rfl, by kernel_rfl, by kernel_rfl, follows⟩
theorem ok_laws_toItem : okF Try.prog 70 = true := by kernel_rfl
def rc_laws_toItemS : RC :=
  (.seq (.reg [⟨(some 2), none, .mv (.c (.nils))⟩])
  (.seq (.reg [⟨(some 5), none, .mv (.t 0)⟩,
   ⟨(some 6), none, .lenl (.t 5)⟩,
   ⟨(some 7), none, .ms 9 [.int .i64 0, .int .i64 0, .int .i64 0, .int .i64 0, .int .i64 0, .int .i64 0, .str [], .str [], .str []] 96 (.t 6) (.t 6)⟩,
   ⟨(some 3), none, .mv (.t 7)⟩])
  (.seq (.seq (.reg [⟨(some 4), none, .mv (.c (.int .i64 0))⟩])
  (.blk 0 (.loop (.seq (.seq (.reg [⟨(some 8), none, .mv (.t 4)⟩,
     ⟨(some 9), none, .mv (.t 0)⟩,
     ⟨(some 10), none, .lenl (.t 9)⟩,
     ⟨(some 11), none, .bin .lss (.t 8) (.t 10)⟩])
    (.cond (.t 11)
      .skip
      (.exit 0)))
    (.seq (.blk 1 (.reg [⟨(some 14), none, .mv (.t 3)⟩,
      ⟨(some 15), none, .mv (.t 4)⟩,
      ⟨(some 16), none, .mv (.t 0)⟩,
      ⟨(some 17), none, .mv (.t 4)⟩,
      ⟨(some 18), none, .ia 9 (.t 16) (.t 17)⟩,
      ⟨(some 19), none, .ld true 9 (.t 18)⟩,
      ⟨(some 20), none, .cl (.c (.fn 70 [])) [(.t 19)]⟩,
      ⟨(some 21), none, .ia 9 (.t 14) (.t 15)⟩,
      ⟨none, none, .st 9 (.t 21) (.t 20)⟩]))
    (.reg [⟨(some 12), none, .mv (.t 4)⟩,
     ⟨(some 13), none, .bin .add (.t 12) (.c (.int .i64 1))⟩,
     ⟨(some 4), none, .mv (.t 13)⟩]))))))
  (.seq (.reg [⟨(some 22), none, .mv (.t 3)⟩,
   ⟨(some 2), none, .mv (.t 22)⟩])
  .ret))))
theorem k_laws_toItemS : FnOk Try.prog 19 23 rc_laws_toItemS [.t 2] := ⟨Try.f19, _, [], Try.func19, rfl, rfl, by kernel_rfl, by kernel_rfl, follows⟩
theorem ok_laws_toItemS : okF Try.prog 19 = true := by kernel_rfl
def rc_laws_toSeg : RC :=
  (.seq (.reg [⟨(some 1), none, .bx (.t 0)⟩,
   ⟨(some 2), none, .al [.int .i64 0, .int .i64 0, .int .i64 0, .nils]⟩])
  (.seq (.reg [⟨(some 3), none, .al [.int .i64 0, .int .i64 0, .int .i64 0, .nils]⟩])
  (.seq (.reg [⟨(some 4), none, .fa 0 (.t 1)⟩,
   ⟨(some 5), none, .ld false 1 (.t 4)⟩,
   ⟨(some 6), none, .fa 0 (.t 3)⟩,
   ⟨none, none, .st 1 (.t 6) (.t 5)⟩])
  (.seq (.reg [⟨(some 7), none, .fa 1 (.t 1)⟩,
   ⟨(some 8), none, .ld false 1 (.t 7)⟩,
   ⟨(some 9), none, .fa 1 (.t 3)⟩,
   ⟨none, none, .st 1 (.t 9) (.t 8)⟩])
  (.seq (.reg [⟨(some 10), none, .fa 2 (.t 1)⟩,
   ⟨(some 11), none, .ld false 1 (.t 10)⟩,
   ⟨(some 12), none, .fa 2 (.t 3)⟩,
   ⟨none, none, .st 1 (.t 12) (.t 11)⟩])
  (.seq (.reg [⟨(some 13), none, .fa 3 (.t 1)⟩,
   ⟨(some 14), none, .ld false 1 (.t 13)⟩,
   ⟨(some 15), none, .cl (.c (.fn 19 [])) [(.t 14)]⟩,
   ⟨(some 16), none, .fa 3 (.t 3)⟩,
   ⟨none, none, .st 1 (.t 16) (.t 15)⟩])
  (.seq (.reg [⟨(some 17), none, .ld true 4 (.t 3)⟩,
   ⟨none, none, .st 4 (.t 2) (.t 17)⟩])
  .ret)))))))
theorem k_laws_toSeg : FnOk Try.prog 121 18 rc_laws_toSeg [.cell 2 true 4] := ⟨Try.f121, _, [], Try.func121, rfl, rfl, by kernel_rfl, by kernel_rfl, follows⟩
theorem ok_laws_toSeg : okF Try.prog 121 = true := by kernel_rfl
def rc_laws_toSegS : RC :=
  (.seq (.reg [⟨(some 2), none, .mv (.c (.nils))⟩])
  (.seq (.reg [⟨(some 5), none, .mv (.t 0)⟩,
   ⟨(some 6), none, .lenl (.t 5)⟩,
   ⟨(some 7), none, .ms 4 [.int .i64 0, .int .i64 0, .int .i64 0, .nils] 48 (.t 6) (.t 6)⟩,
   ⟨(some 3), none, .mv (.t 7)⟩])
  (.seq (.seq (.reg [⟨(some 4), none, .mv (.c (.int .i64 0))⟩])
  (.blk 0 (.loop (.seq (.seq (.reg [⟨(some 8), none, .mv (.t 4)⟩,
     ⟨(some 9), none, .mv (.t 0)⟩,
     ⟨(some 10), none, .lenl (.t 9)⟩,
     ⟨(some 11), none, .bin .lss (.t 8) (.t 10)⟩])
    (.cond (.t 11)
      .skip
      (.exit 0)))
    (.seq (.blk 1 (.reg [⟨(some 14), none, .mv (.t 3)⟩,
      ⟨(some 15), none, .mv (.t 4)⟩,
      ⟨(some 16), none, .mv (.t 0)⟩,
      ⟨(some 17), none, .mv (.t 4)⟩,
      ⟨(some 18), none, .ia 4 (.t 16) (.t 17)⟩,
      ⟨(some 19), none, .ld true 4 (.t 18)⟩,
      ⟨(some 20), none, .cl (.c (.fn 121 [])) [(.t 19)]⟩,
      ⟨(some 21), none, .ia 4 (.t 14) (.t 15)⟩,
      ⟨none, none, .st 4 (.t 21) (.t 20)⟩]))
    (.reg [⟨(some 12), none, .mv (.t 4)⟩,
     ⟨(some 13), none, .bin .add (.t 12) (.c (.int .i64 1))⟩,
     ⟨(some 4), none, .mv (.t 13)⟩]))))))
  (.seq (.reg [⟨(some 22), none, .mv (.t 3)⟩,
   ⟨(some 2), none, .mv (.t 22)⟩])
  .ret))))
theorem k_laws_toSegS : FnOk Try.prog 63 23 rc_laws_toSegS [.t 2] := ⟨Try.f63, _, [], Try.func63, rfl, rfl, by kernel_rfl, by kernel_rfl, follows⟩
theorem ok_laws_toSegS : okF Try.prog 63 = true := by kernel_rfl
def rc_laws_toLog : RC :=
  (.seq (.reg [⟨(some 1), none, .bx (.t 0)⟩,
   ⟨(some 2), none, .al [.nils, .nils, .int .i64 0, .nils, .int .i64 0, .int .i64 0, .int .i64 0, .int .i64 0]⟩])
  (.seq (.reg [⟨(some 3), none, .al [.nils, .nils, .int .i64 0, .nils, .int .i64 0, .int .i64 0, .int .i64 0, .int .i64 0]⟩])
  (.seq (.reg [⟨(some 4), none, .fa 0 (.t 1)⟩,
   ⟨(some 5), none, .ld true 2 (.t 4)⟩,
   ⟨(some 6), none, .cl (.c (.fn 42 [])) [(.t 5)]⟩,
   ⟨(some 7), none, .fa 0 (.t 3)⟩,
   ⟨none, none, .st 2 (.t 7) (.t 6)⟩])
  (.seq (.reg [⟨(some 8), none, .fa 2 (.t 1)⟩,
   ⟨(some 9), none, .ld false 1 (.t 8)⟩,
   ⟨(some 10), none, .fa 2 (.t 3)⟩,
   ⟨none, none, .st 1 (.t 10) (.t 9)⟩])
  (.seq (.reg [⟨(some 11), none, .fa 3 (.t 1)⟩,
   ⟨(some 12), none, .ld false 1 (.t 11)⟩,
   ⟨(some 13), none, .cl (.c (.fn 63 [])) [(.t 12)]⟩,
   ⟨(some 14), none, .fa 3 (.t 3)⟩,
   ⟨none, none, .st 1 (.t 14) (.t 13)⟩])
  (.seq (.reg [⟨(some 15), none, .fa 4 (.t 1)⟩,
   ⟨(some 16), none, .ld false 1 (.t 15)⟩,
   ⟨(some 17), none, .fa 4 (.t 3)⟩,
   ⟨none, none, .st 1 (.t 17) (.t 16)⟩])
  (.seq (.reg [⟨(some 18), none, .fa 5 (.t 1)⟩,
   ⟨(some 19), none, .ld false 1 (.t 18)⟩,
   ⟨(some 20), none, .fa 5 (.t 3)⟩,
   ⟨none, none, .st 1 (.t 20) (.t 19)⟩])
  (.seq (.reg [⟨(some 21), none, .fa 6 (.t 1)⟩,
   ⟨(some 22), none, .ld false 1 (.t 21)⟩,
   ⟨(some 23), none, .fa 6 (.t 3)⟩,
   ⟨none, none, .st 1 (.t 23) (.t 22)⟩])
  (.seq (.reg [⟨(some 24), none, .fa 7 (.t 1)⟩,
   ⟨(some 25), none, .ld false 1 (.t 24)⟩,
   ⟨(some 26), none, .fa 7 (.t 3)⟩,
   ⟨none, none, .st 1 (.t 26) (.t 25)⟩])
  (.seq (.reg [⟨(some 27), none, .ld true 8 (.t 3)⟩,
   ⟨none, none, .st 8 (.t 2) (.t 27)⟩])
  .ret))))))))))
theorem k_laws_toLog : FnOk Try.prog 14 28 rc_laws_toLog [.cell 2 true 8] := ⟨Try.f14, _, [], Try.func14, rfl, rfl, by kernel_rfl, by kernel_rfl, follows⟩
theorem ok_laws_toLog : okF Try.prog 14 = true := by kernel_rfl
def rc_laws_eqStringS : RC :=
  (.seq (.reg [⟨(some 4), none, .mv (.c (.bool false))⟩])
  (.seq (.seq (.reg [⟨(some 6), none, .mv (.t 0)⟩,
   ⟨(some 7), none, .lenl (.t 6)⟩,
   ⟨(some 8), none, .mv (.t 1)⟩,
   ⟨(some 9), none, .lenl (.t 8)⟩,
   ⟨(some 10), none, .bin .neq (.t 7) (.t 9)⟩])
  (.cond (.t 10)
    (.seq (.reg [⟨(some 4), none, .mv (.c (.bool false))⟩])
    .ret)
    .skip))
  (.seq (.seq (.reg [⟨(some 5), none, .mv (.c (.int .i64 0))⟩])
  (.blk 0 (.loop (.seq (.seq (.reg [⟨(some 11), none, .mv (.t 5)⟩,
     ⟨(some 12), none, .mv (.t 0)⟩,
     ⟨(some 13), none, .lenl (.t 12)⟩,
     ⟨(some 14), none, .bin .lss (.t 11) (.t 13)⟩])
    (.cond (.t 14)
      .skip
      (.exit 0)))
    (.seq (.blk 1 (.seq (.drw [⟨(some 17), none, .mv (.t 0)⟩,
      ⟨(some 18), none, .mv (.t 5)⟩,
      ⟨(some 19), none, .ia 1 (.t 17) (.t 18)⟩,
      ⟨(some 20), none, .ld false 1 (.t 19)⟩,
      ⟨(some 21), none, .mv (.t 1)⟩,
      ⟨(some 22), none, .mv (.t 5)⟩,
      ⟨(some 23), none, .ia 1 (.t 21) (.t 22)⟩,
      ⟨(some 24), none, .ld false 1 (.t 23)⟩,
      ⟨(some 25), none, .bin .neq (.t 20) (.t 24)⟩] [.val [], .val [], .val [], .val [], .val [], .val [], .val [], .val [], .val []])
     (.cond (.t 25)
       (.seq (.reg [⟨(some 4), none, .mv (.c (.bool false))⟩])
       .ret)
       .skip)))
    (.reg [⟨(some 15), none, .mv (.t 5)⟩,
     ⟨(some 16), none, .bin .add (.t 15) (.c (.int .i64 1))⟩,
     ⟨(some 5), none, .mv (.t 16)⟩]))))))
  (.seq (.reg [⟨(some 4), none, .mv (.c (.bool true))⟩])
  .ret))))
theorem k_laws_eqStringS : FnOk Try.prog 89 26 rc_laws_eqStringS [.t 4] := ⟨Try.f89, _, [], Try.func89, rfl, rfl, by kernel_rfl, by kernel_rfl, follows⟩
theorem ok_laws_eqStringS : okF Try.prog 89 = true := by kernel_rfl
def rc_laws_eqWrite : RC :=
  (.seq (.reg [⟨(some 2), none, .bx (.t 0)⟩,
   ⟨(some 3), none, .bx (.t 1)⟩,
   ⟨(some 4), none, .mv (.c (.bool false))⟩])
  (.seq (.seq (.reg [⟨(some 5), none, .fa 0 (.t 2)⟩,
   ⟨(some 6), none, .ld false 1 (.t 5)⟩,
   ⟨(some 7), none, .fa 0 (.t 3)⟩,
   ⟨(some 8), none, .ld false 1 (.t 7)⟩,
   ⟨(some 9), none, .bin .neq (.t 6) (.t 8)⟩])
  (.cond (.t 9)
    (.seq (.reg [⟨(some 4), none, .mv (.c (.bool false))⟩])
    .ret)
    .skip))
  (.seq (.seq (.reg [⟨(some 10), none, .fa 1 (.t 2)⟩,
   ⟨(some 11), none, .ld false 1 (.t 10)⟩,
   ⟨(some 12), none, .fa 1 (.t 3)⟩,
   ⟨(some 13), none, .ld false 1 (.t 12)⟩,
   ⟨(some 14), none, .bin .neq (.t 11) (.t 13)⟩])
  (.cond (.t 14)
    (.seq (.reg [⟨(some 4), none, .mv (.c (.bool false))⟩])
    .ret)
    .skip))
  (.seq (.reg [⟨(some 4), none, .mv (.c (.bool true))⟩])
  .ret))))
theorem k_laws_eqWrite : FnOk Try.prog 156 15 rc_laws_eqWrite [.t 4] := ⟨Try.f156, _, [], Try.func156, rfl, rfl, by kernel_rfl, by kernel_rfl, follows⟩
theorem ok_laws_eqWrite : okF Try.prog 156 = true := by kernel_rfl
def rc_laws_eqWriteS : RC :=
  (.seq (.reg [⟨(some 4), none, .mv (.c (.bool false))⟩])
  (.seq (.seq (.reg [⟨(some 6), none, .mv (.t 0)⟩,
   ⟨(some 7), none, .lenl (.t 6)⟩,
   ⟨(some 8), none, .mv (.t 1)⟩,
   ⟨(some 9), none, .lenl (.t 8)⟩,
   ⟨(some 10), none, .bin .neq (.t 7) (.t 9)⟩])
  (.cond (.t 10)
    (.seq (.reg [⟨(some 4), none, .mv (.c (.bool false))⟩])
    .ret)
    .skip))
  (.seq (.seq (.reg [⟨(some 5), none, .mv (.c (.int .i64 0))⟩])
  (.blk 0 (.loop (.seq (.seq (.reg [⟨(some 11), none, .mv (.t 5)⟩,
     ⟨(some 12), none, .mv (.t 0)⟩,
     ⟨(some 13), none, .lenl (.t 12)⟩,
     ⟨(some 14), none, .bin .lss (.t 11) (.t 13)⟩])
    (.cond (.t 14)
      .skip
      (.exit 0)))
    (.seq (.blk 1 (.seq (.drw [⟨(some 17), none, .mv (.t 0)⟩,
      ⟨(some 18), none, .mv (.t 5)⟩,
      ⟨(some 19), none, .ia 2 (.t 17) (.t 18)⟩,
      ⟨(some 20), none, .ld true 2 (.t 19)⟩,
      ⟨(some 21), none, .mv (.t 1)⟩,
      ⟨(some 22), none, .mv (.t 5)⟩,
      ⟨(some 23), none, .ia 2 (.t 21) (.t 22)⟩,
      ⟨(some 24), none, .ld true 2 (.t 23)⟩,
      ⟨(some 25), none, .cl (.c (.fn 156 [])) [(.t 20), (.t 24)]⟩,
      ⟨(some 26), none, .un .not (.t 25)⟩] [.val [], .val [], .val [], .val [], .val [], .val [], .val [], .val [], .val [], .val []])
     (.cond (.t 26)
       (.seq (.reg [⟨(some 4), none, .mv (.c (.bool false))⟩])
       .ret)
       .skip)))
    (.reg [⟨(some 15), none, .mv (.t 5)⟩,
     ⟨(some 16), none, .bin .add (.t 15) (.c (.int .i64 1))⟩,
     ⟨(some 5), none, .mv (.t 16)⟩]))))))
  (.seq (.reg [⟨(some 4), none, .mv (.c (.bool true))⟩])
  .ret))))
theorem k_laws_eqWriteS : FnOk Try.prog 90 27 rc_laws_eqWriteS [.t 4] := ⟨Try.f90, _, [], Try.func90, rfl, rfl, by kernel_rfl, by kernel_rfl, follows⟩
theorem ok_laws_eqWriteS : okF Try.prog 90 = true := by kernel_rfl
def rc_laws_eqDisk : RC :=
  (.seq (.reg [⟨(some 2), none, .bx (.t 0)⟩,
   ⟨(some 3), none, .bx (.t 1)⟩,
   ⟨(some 4), none, .mv (.c (.bool false))⟩])
  (.seq (.seq (.reg [⟨(some 5), none, .fa 0 (.t 2)⟩,
   ⟨(some 6), none, .ld false 1 (.t 5)⟩,
   ⟨(some 7), none, .fa 0 (.t 3)⟩,
   ⟨(some 8), none, .ld false 1 (.t 7)⟩,
   ⟨(some 9), none, .cl (.c (.fn 89 [])) [(.t 6), (.t 8)]⟩,
   ⟨(some 10), none, .un .not (.t 9)⟩])
  (.cond (.t 10)
    (.seq (.reg [⟨(some 4), none, .mv (.c (.bool false))⟩])
    .ret)
    .skip))
  (.seq (.seq (.reg [⟨(some 11), none, .fa 1 (.t 2)⟩,
   ⟨(some 12), none, .ld false 1 (.t 11)⟩,
   ⟨(some 13), none, .fa 1 (.t 3)⟩,
   ⟨(some 14), none, .ld false 1 (.t 13)⟩,
   ⟨(some 15), none, .cl (.c (.fn 90 [])) [(.t 12), (.t 14)]⟩,
   ⟨(some 16), none, .un .not (.t 15)⟩])
  (.cond (.t 16)
    (.seq (.reg [⟨(some 4), none, .mv (.c (.bool false))⟩])
    .ret)
    .skip))
  (.seq (.reg [⟨(some 4), none, .mv (.c (.bool true))⟩])
  .ret))))
theorem k_laws_eqDisk : FnOk Try.prog 44 17 rc_laws_eqDisk [.t 4] := ⟨Try.f44, _, [], Try.func44, rfl, rfl, by kernel_rfl, by kernel_rfl, follows⟩
theorem ok_laws_eqDisk : okF Try.prog 44 = true := by kernel_rfl
def rc_laws_eqRec : RC :=
  (.seq (.reg [⟨(some 2), none, .bx (.t 0)⟩,
   ⟨(some 3), none, .bx (.t 1)⟩,
   ⟨(some 4), none, .mv (.c (.bool false))⟩])
  (.seq (.seq (.reg [⟨(some 5), none, .fa 0 (.t 2)⟩,
   ⟨(some 6), none, .ld false 1 (.t 5)⟩,
   ⟨(some 7), none, .fa 0 (.t 3)⟩,
   ⟨(some 8), none, .ld false 1 (.t 7)⟩,
   ⟨(some 9), none, .bin .neq (.t 6) (.t 8)⟩])
  (.cond (.t 9)
    (.seq (.reg [⟨(some 4), none, .mv (.c (.bool false))⟩])
    .ret)
    .skip))
  (.seq (.seq (.reg [⟨(some 10), none, .fa 1 (.t 2)⟩,
   ⟨(some 11), none, .ld false 1 (.t 10)⟩,
   ⟨(some 12), none, .fa 1 (.t 3)⟩,
   ⟨(some 13), none, .ld false 1 (.t 12)⟩,
   ⟨(some 14), none, .bin .neq (.t 11) (.t 13)⟩])
  (.cond (.t 14)
    (.seq (.reg [⟨(some 4), none, .mv (.c (.bool false))⟩])
    .ret)
    .skip))
  (.seq (.seq (.reg [⟨(some 15), none, .fa 2 (.t 2)⟩,
   ⟨(some 16), none, .ld false 1 (.t 15)⟩,
   ⟨(some 17), none, .fa 2 (.t 3)⟩,
   ⟨(some 18), none, .ld false 1 (.t 17)⟩,
   ⟨(some 19), none, .bin .neq (.t 16) (.t 18)⟩])
  (.cond (.t 19)
    (.seq (.reg [⟨(some 4), none, .mv (.c (.bool false))⟩])
    .ret)
    .skip))
  (.seq (.seq (.reg [⟨(some 20), none, .fa 3 (.t 2)⟩,
   ⟨(some 21), none, .ld false 1 (.t 20)⟩,
   ⟨(some 22), none, .fa 3 (.t 3)⟩,
   ⟨(some 23), none, .ld false 1 (.t 22)⟩,
   ⟨(some 24), none, .bin .neq (.t 21) (.t 23)⟩])
  (.cond (.t 24)
    (.seq (.reg [⟨(some 4), none, .mv (.c (.bool false))⟩])
    .ret)
    .skip))
  (.seq (.seq (.reg [⟨(some 25), none, .fa 4 (.t 2)⟩,
   ⟨(some 26), none, .ld false 1 (.t 25)⟩,
   ⟨(some 27), none, .fa 4 (.t 3)⟩,
   ⟨(some 28), none, .ld false 1 (.t 27)⟩,
   ⟨(some 29), none, .bin .neq (.t 26) (.t 28)⟩])
  (.cond (.t 29)
    (.seq (.reg [⟨(some 4), none, .mv (.c (.bool false))⟩])
    .ret)
    .skip))
  (.seq (.seq (.reg [⟨(some 30), none, .fa 5 (.t 2)⟩,
   ⟨(some 31), none, .ld false 1 (.t 30)⟩,
   ⟨(some 32), none, .fa 5 (.t 3)⟩,
   ⟨(some 33), none, .ld false 1 (.t 32)⟩,
   ⟨(some 34), none, .bin .neq (.t 31) (.t 33)⟩])
  (.cond (.t 34)
    (.seq (.reg [⟨(some 4), none, .mv (.c (.bool false))⟩])
    .ret)
    .skip))
  (.seq (.seq (.reg [⟨(some 35), none, .fa 6 (.t 2)⟩,
   ⟨(some 36), none, .ld false 1 (.t 35)⟩,
   ⟨(some 37), none, .fa 6 (.t 3)⟩,
   ⟨(some 38), none, .ld false 1 (.t 37)⟩,
   ⟨(some 39), none, .bin .neq (.t 36) (.t 38)⟩])
  (.cond (.t 39)
    (.seq (.reg [⟨(some 4), none, .mv (.c (.bool false))⟩])
    .ret)
    .skip))
  (.seq (.seq (.reg [⟨(some 40), none, .fa 7 (.t 2)⟩,
   ⟨(some 41), none, .ld false 1 (.t 40)⟩,
   ⟨(some 42), none, .fa 7 (.t 3)⟩,
   ⟨(some 43), none, .ld false 1 (.t 42)⟩,
   ⟨(some 44), none, .bin .neq (.t 41) (.t 43)⟩])
  (.cond (.t 44)
    (.seq (.reg [⟨(some 4), none, .mv (.c (.bool false))⟩])
    .ret)
    .skip))
  (.seq (.reg [⟨(some 4), none, .mv (.c (.bool true))⟩])
  .ret))))))))))
theorem k_laws_eqRec : FnOk Try.prog 143 45 rc_laws_eqRec [.t 4] := ⟨Try.f143, _, [], Try.func143, rfl, rfl, by kernel_rfl, by kernel_rfl, follows⟩
theorem ok_laws_eqRec : okF Try.prog 143 = true := by kernel_rfl
def rc_laws_eqItem : RC :=
  (.seq (.reg [⟨(some 2), none, .bx (.t 0)⟩,
   ⟨(some 3), none, .bx (.t 1)⟩,
   ⟨(some 4), none, .mv (.c (.bool false))⟩])
  (.seq (.seq (.reg [⟨(some 5), none, .fa 0 (.t 2)⟩,
   ⟨(some 6), none, .ld false 1 (.t 5)⟩,
   ⟨(some 7), none, .fa 0 (.t 3)⟩,
   ⟨(some 8), none, .ld false 1 (.t 7)⟩,
   ⟨(some 9), none, .bin .neq (.t 6) (.t 8)⟩])
  (.cond (.t 9)
    (.seq (.reg [⟨(some 4), none, .mv (.c (.bool false))⟩])
    .ret)
    .skip))
  (.seq (.seq (.reg [⟨(some 10), none, .fa 1 (.t 2)⟩,
   ⟨(some 11), none, .ld true 8 (.t 10)⟩,
   ⟨(some 12), none, .fa 1 (.t 3)⟩,
   ⟨(some 13), none, .ld true 8 (.t 12)⟩,
   ⟨(some 14), none, .cl (.c (.fn 143 [])) [(.t 11), (.t 13)]⟩,
   ⟨(some 15), none, .un .not (.t 14)⟩])
  (.cond (.t 15)
    (.seq (.reg [⟨(some 4), none, .mv (.c (.bool false))⟩])
    .ret)
    .skip))
  (.seq (.reg [⟨(some 4), none, .mv (.c (.bool true))⟩])
  .ret))))
theorem k_laws_eqItem : FnOk Try.prog 73 16 rc_laws_eqItem [.t 4] := ⟨Try.f73, _, [], Try.func73, rfl, rfl, by kernel_rfl, by kernel_rfl, follows⟩
theorem ok_laws_eqItem : okF Try.prog 73 = true := by kernel_rfl
def rc_laws_eqItemS : RC :=
  (.seq (.reg [⟨(some 4), none, .mv (.c (.bool false))⟩])
  (.seq (.seq (.reg [⟨(some 6), none, .mv (.t 0)⟩,
   ⟨(some 7), none, .lenl (.t 6)⟩,
   ⟨(some 8), none, .mv (.t 1)⟩,
   ⟨(some 9), none, .lenl (.t 8)⟩,
   ⟨(some 10), none, .bin .neq (.t 7) (.t 9)⟩])
  (.cond (.t 10)
    (.seq (.reg [⟨(some 4), none, .mv (.c (.bool false))⟩])
    .ret)
    .skip))
  (.seq (.seq (.reg [⟨(some 5), none, .mv (.c (.int .i64 0))⟩])
  (.blk 0 (.loop (.seq (.seq (.reg [⟨(some 11), none, .mv (.t 5)⟩,
     ⟨(some 12), none, .mv (.t 0)⟩,
     ⟨(some 13), none, .lenl (.t 12)⟩,
     ⟨(some 14), none, .bin .lss (.t 11) (.t 13)⟩])
    (.cond (.t 14)
      .skip
      (.exit 0)))
    (.seq (.blk 1 (.seq (.drw [⟨(some 17), none, .mv (.t 0)⟩,
      ⟨(some 18), none, .mv (.t 5)⟩,
      ⟨(some 19), none, .ia 9 (.t 17) (.t 18)⟩,
      ⟨(some 20), none, .ld true 9 (.t 19)⟩,
      ⟨(some 21), none, .mv (.t 1)⟩,
      ⟨(some 22), none, .mv (.t 5)⟩,
      ⟨(some 23), none, .ia 9 (.t 21) (.t 22)⟩,
      ⟨(some 24), none, .ld true 9 (.t 23)⟩,
      ⟨(some 25), none, .cl (.c (.fn 73 [])) [(.t 20), (.t 24)]⟩,
      ⟨(some 26), none, .un .not (.t 25)⟩] [.val [], .val [], .val [], .val [], .val [], .val [], .val [], .val [], .val [], .val []])
     (.cond (.t 26)
       (.seq (.reg [⟨(some 4), none, .mv (.c (.bool false))⟩])
       .ret)
       .skip)))
    (.reg [⟨(some 15), none, .mv (.t 5)⟩,
     ⟨(some 16), none, .bin .add (.t 15) (.c (.int .i64 1))⟩,
     ⟨(some 5), none, .mv (.t 16)⟩]))))))
  (.seq (.reg [⟨(some 4), none, .mv (.c (.bool true))⟩])
  .ret))))
theorem k_laws_eqItemS : FnOk Try.prog 22 27 rc_laws_eqItemS [.t 4] := ⟨Try.f22, _, [], Try.func22, rfl, rfl, by kernel_rfl, by kernel_rfl, follows⟩
theorem ok_laws_eqItemS : okF Try.prog 22 = true := by kernel_rfl
def rc_laws_eqSeg : RC :=
  (.seq (.reg [⟨(some 2), none, .bx (.t 0)⟩,
   ⟨(some 3), none, .bx (.t 1)⟩,
   ⟨(some 4), none, .mv (.c (.bool false))⟩])
  (.seq (.seq (.reg [⟨(some 5), none, .fa 0 (.t 2)⟩,
   ⟨(some 6), none, .ld false 1 (.t 5)⟩,
   ⟨(some 7), none, .fa 0 (.t 3)⟩,
   ⟨(some 8), none, .ld false 1 (.t 7)⟩,
   ⟨(some 9), none, .bin .neq (.t 6) (.t 8)⟩])
  (.cond (.t 9)
    (.seq (.reg [⟨(some 4), none, .mv (.c (.bool false))⟩])
    .ret)
    .skip))
  (.seq (.seq (.reg [⟨(some 10), none, .fa 1 (.t 2)⟩,
   ⟨(some 11), none, .ld false 1 (.t 10)⟩,
   ⟨(some 12), none, .fa 1 (.t 3)⟩,
   ⟨(some 13), none, .ld false 1 (.t 12)⟩,
   ⟨(some 14), none, .bin .neq (.t 11) (.t 13)⟩])
  (.cond (.t 14)
    (.seq (.reg [⟨(some 4), none, .mv (.c (.bool false))⟩])
    .ret)
    .skip))
  (.seq (.seq (.reg [⟨(some 15), none, .fa 2 (.t 2)⟩,
   ⟨(some 16), none, .ld false 1 (.t 15)⟩,
   ⟨(some 17), none, .fa 2 (.t 3)⟩,
   ⟨(some 18), none, .ld false 1 (.t 17)⟩,
   ⟨(some 19), none, .bin .neq (.t 16) (.t 18)⟩])
  (.cond (.t 19)
    (.seq (.reg [⟨(some 4), none, .mv (.c (.bool false))⟩])
    .ret)
    .skip))
  (.seq (.seq (.reg [⟨(some 20), none, .fa 3 (.t 2)⟩,
   ⟨(some 21), none, .ld false 1 (.t 20)⟩,
   ⟨(some 22), none, .fa 3 (.t 3)⟩,
   ⟨(some 23), none, .ld false 1 (.t 22)⟩,
   ⟨(some 24), none, .cl (.c (.fn 22 [])) [(.t 21), (.t 23)]⟩,
   ⟨(some 25), none, .un .not (.t 24)⟩])
  (.cond (.t 25)
    (.seq (.reg [⟨(some 4), none, .mv (.c (.bool false))⟩])
    .ret)
    .skip))
  (.seq (.reg [⟨(some 4), none, .mv (.c (.bool true))⟩])
  .ret))))))
theorem k_laws_eqSeg : FnOk Try.prog 53 26 rc_laws_eqSeg [.t 4] := ⟨Try.f53, _, [], Try.func53, rfl, rfl, by kernel_rfl, by kernel_rfl, follows⟩
theorem ok_laws_eqSeg : okF Try.prog 53 = true := by kernel_rfl
def rc_laws_eqSegS : RC :=
  (.seq (.reg [⟨(some 4), none, .mv (.c (.bool false))⟩])
  (.seq (.seq (.reg [⟨(some 6), none, .mv (.t 0)⟩,
   ⟨(some 7), none, .lenl (.t 6)⟩,
   ⟨(some 8), none, .mv (.t 1)⟩,
   ⟨(some 9), none, .lenl (.t 8)⟩,
   ⟨(some 10), none, .bin .neq (.t 7) (.t 9)⟩])
  (.cond (.t 10)
    (.seq (.reg [⟨(some 4), none, .mv (.c (.bool false))⟩])
    .ret)
    .skip))
  (.seq (.seq (.reg [⟨(some 5), none, .mv (.c (.int .i64 0))⟩])
  (.blk 0 (.loop (.seq (.seq (.reg [⟨(some 11), none, .mv (.t 5)⟩,
     ⟨(some 12), none, .mv (.t 0)⟩,
     ⟨(some 13), none, .lenl (.t 12)⟩,
     ⟨(some 14), none, .bin .lss (.t 11) (.t 13)⟩])
    (.cond (.t 14)
      .skip
      (.exit 0)))
    (.seq (.blk 1 (.seq (.drw [⟨(some 17), none, .mv (.t 0)⟩,
      ⟨(some 18), none, .mv (.t 5)⟩,
      ⟨(some 19), none, .ia 4 (.t 17) (.t 18)⟩,
      ⟨(some 20), none, .ld true 4 (.t 19)⟩,
      ⟨(some 21), none, .mv (.t 1)⟩,
      ⟨(some 22), none, .mv (.t 5)⟩,
      ⟨(some 23), none, .ia 4 (.t 21) (.t 22)⟩,
      ⟨(some 24), none, .ld true 4 (.t 23)⟩,
      ⟨(some 25), none, .cl (.c (.fn 53 [])) [(.t 20), (.t 24)]⟩,
      ⟨(some 26), none, .un .not (.t 25)⟩] [.val [], .val [], .val [], .val [], .val [], .val [], .val [], .val [], .val [], .val []])
     (.cond (.t 26)
       (.seq (.reg [⟨(some 4), none, .mv (.c (.bool false))⟩])
       .ret)
       .skip)))
    (.reg [⟨(some 15), none, .mv (.t 5)⟩,
     ⟨(some 16), none, .bin .add (.t 15) (.c (.int .i64 1))⟩,
     ⟨(some 5), none, .mv (.t 16)⟩]))))))
  (.seq (.reg [⟨(some 4), none, .mv (.c (.bool true))⟩])
  .ret))))
theorem k_laws_eqSegS : FnOk Try.prog 66 27 rc_laws_eqSegS [.t 4] := ⟨Try.f66, _, [], Try.func66, rfl, rfl, by kernel_rfl, by kernel_rfl, follows⟩
theorem ok_laws_eqSegS : okF Try.prog 66 = true := by kernel_rfl
def rc_laws_eqLog : RC :=
  (.seq (.reg [⟨(some 2), none, .bx (.t 0)⟩,
   ⟨(some 3), none, .bx (.t 1)⟩,
   ⟨(some 4), none, .mv (.c (.bool false))⟩])
  (.seq (.seq (.reg [⟨(some 5), none, .fa 0 (.t 2)⟩,
   ⟨(some 6), none, .ld true 2 (.t 5)⟩,
   ⟨(some 7), none, .fa 0 (.t 3)⟩,
   ⟨(some 8), none, .ld true 2 (.t 7)⟩,
   ⟨(some 9), none, .cl (.c (.fn 44 [])) [(.t 6), (.t 8)]⟩,
   ⟨(some 10), none, .un .not (.t 9)⟩])
  (.cond (.t 10)
    (.seq (.reg [⟨(some 4), none, .mv (.c (.bool false))⟩])
    .ret)
    .skip))
  (.seq (.seq (.reg [⟨(some 11), none, .fa 2 (.t 2)⟩,
   ⟨(some 12), none, .ld false 1 (.t 11)⟩,
   ⟨(some 13), none, .fa 2 (.t 3)⟩,
   ⟨(some 14), none, .ld false 1 (.t 13)⟩,
   ⟨(some 15), none, .bin .neq (.t 12) (.t 14)⟩])
  (.cond (.t 15)
    (.seq (.reg [⟨(some 4), none, .mv (.c (.bool false))⟩])
    .ret)
    .skip))
  (.seq (.seq (.reg [⟨(some 16), none, .fa 3 (.t 2)⟩,
   ⟨(some 17), none, .ld false 1 (.t 16)⟩,
   ⟨(some 18), none, .fa 3 (.t 3)⟩,
   ⟨(some 19), none, .ld false 1 (.t 18)⟩,
   ⟨(some 20), none, .cl (.c (.fn 66 [])) [(.t 17), (.t 19)]⟩,
   ⟨(some 21), none, .un .not (.t 20)⟩])
  (.cond (.t 21)
    (.seq (.reg [⟨(some 4), none, .mv (.c (.bool false))⟩])
    .ret)
    .skip))
  (.seq (.seq (.reg [⟨(some 22), none, .fa 4 (.t 2)⟩,
   ⟨(some 23), none, .ld false 1 (.t 22)⟩,
   ⟨(some 24), none, .fa 4 (.t 3)⟩,
   ⟨(some 25), none, .ld false 1 (.t 24)⟩,
   ⟨(some 26), none, .bin .neq (.t 23) (.t 25)⟩])
  (.cond (.t 26)
    (.seq (.reg [⟨(some 4), none, .mv (.c (.bool false))⟩])
    .ret)
    .skip))
  (.seq (.seq (.reg [⟨(some 27), none, .fa 5 (.t 2)⟩,
   ⟨(some 28), none, .ld false 1 (.t 27)⟩,
   ⟨(some 29), none, .fa 5 (.t 3)⟩,
   ⟨(some 30), none, .ld false 1 (.t 29)⟩,
   ⟨(some 31), none, .bin .neq (.t 28) (.t 30)⟩])
  (.cond (.t 31)
    (.seq (.reg [⟨(some 4), none, .mv (.c (.bool false))⟩])
    .ret)
    .skip))
  (.seq (.seq (.reg [⟨(some 32), none, .fa 6 (.t 2)⟩,
   ⟨(some 33), none, .ld false 1 (.t 32)⟩,
   ⟨(some 34), none, .fa 6 (.t 3)⟩,
   ⟨(some 35), none, .ld false 1 (.t 34)⟩,
   ⟨(some 36), none, .bin .neq (.t 33) (.t 35)⟩])
  (.cond (.t 36)
    (.seq (.reg [⟨(some 4), none, .mv (.c (.bool false))⟩])
    .ret)
    .skip))
  (.seq (.seq (.reg [⟨(some 37), none, .fa 7 (.t 2)⟩,
   ⟨(some 38), none, .ld false 1 (.t 37)⟩,
   ⟨(some 39), none, .fa 7 (.t 3)⟩,
   ⟨(some 40), none, .ld false 1 (.t 39)⟩,
   ⟨(some 41), none, .bin .neq (.t 38) (.t 40)⟩])
  (.cond (.t 41)
    (.seq (.reg [⟨(some 4), none, .mv (.c (.bool false))⟩])
    .ret)
    .skip))
  (.seq (.reg [⟨(some 4), none, .mv (.c (.bool true))⟩])
  .ret)))))))))
theorem k_laws_eqLog : FnOk Try.prog 16 42 rc_laws_eqLog [.t 4] := ⟨Try.f16, _, [], Try.func16, rfl, rfl, by kernel_rfl, by kernel_rfl, follows⟩
theorem ok_laws_eqLog : okF Try.prog 16 = true := by kernel_rfl
def rc_laws_markText : RC :=
  (.seq (.reg [⟨(some 2), none, .mv (.c (.str []))⟩])
  (.seq (.seq (.reg [⟨(some 4), none, .mv (.t 0)⟩,
   ⟨(some 5), none, .bin .leq (.t 4) (.c (.int .i64 0))⟩])
  (.cond (.t 5)
    (.seq (.reg [⟨(some 2), none, .mv (.c (.str [109, 48]))⟩])
    .ret)
    .skip))
  (.seq (.reg [⟨(some 3), none, .mv (.c (.str []))⟩])
  (.seq (.blk 0 (.loop (.seq (.seq (.reg [⟨(some 6), none, .mv (.t 0)⟩,
     ⟨(some 7), none, .bin .gtr (.t 6) (.c (.int .i64 0))⟩])
    (.cond (.t 7)
      .skip
      (.exit 0)))
    (.blk 1 (.seq (.reg [⟨(some 8), none, .mv (.t 0)⟩,
      ⟨(some 9), none, .bin .rem (.t 8) (.c (.int .i64 10))⟩,
      ⟨(some 10), none, .bin .add (.c (.int .i64 48)) (.t 9)⟩,
      ⟨(some 11), none, .cvi .u8 (.t 10)⟩,
      ⟨(some 12), none, .bs 1 [.int .u8 0] 1 [(0, (.t 11))]⟩,
      ⟨(some 13), none, .cvb (.t 12)⟩,
      ⟨(some 14), none, .mv (.t 3)⟩,
      ⟨(some 15), none, .bin .add (.t 13) (.t 14)⟩,
      ⟨(some 3), none, .mv (.t 15)⟩])
     (.reg [⟨(some 16), none, .mv (.t 0)⟩,
      ⟨(some 17), none, .bin .quo (.t 16) (.c (.int .i64 10))⟩,
      ⟨(some 0), none, .mv (.t 17)⟩]))))))
  (.seq (.reg [⟨(some 18), none, .mv (.t 3)⟩,
   ⟨(some 19), none, .bin .add (.c (.str [109])) (.t 18)⟩,
   ⟨(some 2), none, .mv (.t 19)⟩])
  .ret)))))
theorem k_laws_markText : FnOk Try.prog 74 20 rc_laws_markText [.t 2] := ⟨Try.f74, _, [], Try.func74, rfl, rfl, by kernel_rfl, by kernel_rfl, follows⟩
theorem ok_laws_markText : okF Try.prog 74 = true := by kernel_rfl
def rc_laws_markStringS : RC :=
  (.seq (.reg [⟨(some 4), none, .mv (.c (.int .i64 0))⟩])
  (.seq (.seq (.reg [⟨(some 5), none, .mv (.c (.int .i64 0))⟩])
  (.blk 0 (.loop (.seq (.seq (.reg [⟨(some 6), none, .mv (.t 5)⟩,
     ⟨(some 7), none, .mv (.t 0)⟩,
     ⟨(some 8), none, .lenl (.t 7)⟩,
     ⟨(some 9), none, .bin .lss (.t 6) (.t 8)⟩])
    (.cond (.t 9)
      .skip
      (.exit 0)))
    (.seq (.blk 1 (.seq (.reg [⟨(some 12), none, .mv (.t 0)⟩,
      ⟨(some 13), none, .mv (.t 5)⟩,
      ⟨(some 14), none, .mv (.t 1)⟩,
      ⟨(some 15), none, .cl (.c (.fn 74 [])) [(.t 14)]⟩,
      ⟨(some 16), none, .ia 1 (.t 12) (.t 13)⟩,
      ⟨none, none, .st 1 (.t 16) (.t 15)⟩])
     (.reg [⟨(some 17), none, .mv (.t 1)⟩,
      ⟨(some 18), none, .bin .add (.t 17) (.c (.int .i64 1))⟩,
      ⟨(some 1), none, .mv (.t 18)⟩])))
    (.reg [⟨(some 10), none, .mv (.t 5)⟩,
     ⟨(some 11), none, .bin .add (.t 10) (.c (.int .i64 1))⟩,
     ⟨(some 5), none, .mv (.t 11)⟩]))))))
  (.seq (.reg [⟨(some 19), none, .mv (.t 1)⟩,
   ⟨(some 4), none, .mv (.t 19)⟩])
  .ret)))
theorem k_laws_markStringS : FnOk Try.prog 91 20 rc_laws_markStringS [.t 4] := ⟨Try.f91, _, [], Try.func91, rfl, rfl, by kernel_rfl, by kernel_rfl, follows⟩
theorem ok_laws_markStringS : okF Try.prog 91 = true := by kernel_rfl
def rc_laws_markWriteS : RC :=
  (.seq (.reg [⟨(some 4), none, .mv (.c (.int .i64 0))⟩])
  (.seq (.seq (.reg [⟨(some 5), none, .mv (.c (.int .i64 0))⟩])
  (.blk 0 (.loop (.seq (.seq (.reg [⟨(some 6), none, .mv (.t 5)⟩,
     ⟨(some 7), none, .mv (.t 0)⟩,
     ⟨(some 8), none, .lenl (.t 7)⟩,
     ⟨(some 9), none, .bin .lss (.t 6) (.t 8)⟩])
    (.cond (.t 9)
      .skip
      (.exit 0)))
    (.seq (.blk 1 (.seq (.reg [⟨(some 12), none, .mv (.t 0)⟩,
      ⟨(some 13), none, .mv (.t 5)⟩,
      ⟨(some 14), none, .mv (.t 1)⟩,
      ⟨(some 15), none, .ia 2 (.t 12) (.t 13)⟩,
      ⟨(some 16), none, .fa 0 (.t 15)⟩,
      ⟨none, none, .st 1 (.t 16) (.t 14)⟩])
     (.seq (.reg [⟨(some 17), none, .mv (.t 1)⟩,
      ⟨(some 18), none, .bin .add (.t 17) (.c (.int .i64 1))⟩,
      ⟨(some 1), none, .mv (.t 18)⟩])
     (.seq (.reg [⟨(some 19), none, .mv (.t 0)⟩,
      ⟨(some 20), none, .mv (.t 5)⟩,
      ⟨(some 21), none, .mv (.t 1)⟩,
      ⟨(some 22), none, .cl (.c (.fn 74 [])) [(.t 21)]⟩,
      ⟨(some 23), none, .ia 2 (.t 19) (.t 20)⟩,
      ⟨(some 24), none, .fa 1 (.t 23)⟩,
      ⟨none, none, .st 1 (.t 24) (.t 22)⟩])
     (.reg [⟨(some 25), none, .mv (.t 1)⟩,
      ⟨(some 26), none, .bin .add (.t 25) (.c (.int .i64 1))⟩,
      ⟨(some 1), none, .mv (.t 26)⟩])))))
    (.reg [⟨(some 10), none, .mv (.t 5)⟩,
     ⟨(some 11), none, .bin .add (.t 10) (.c (.int .i64 1))⟩,
     ⟨(some 5), none, .mv (.t 11)⟩]))))))
  (.seq (.reg [⟨(some 27), none, .mv (.t 1)⟩,
   ⟨(some 4), none, .mv (.t 27)⟩])
  .ret)))
theorem k_laws_markWriteS : FnOk Try.prog 92 28 rc_laws_markWriteS [.t 4] := ⟨Try.f92, _, [], Try.func92, rfl, rfl, by kernel_rfl, by kernel_rfl, follows⟩
theorem ok_laws_markWriteS : okF Try.prog 92 = true := by kernel_rfl
def rc_laws_markDisk : RC :=
  (.seq (.reg [⟨(some 2), none, .bx (.t 0)⟩,
   ⟨(some 4), none, .mv (.c (.int .i64 0))⟩])
  (.seq (.reg [⟨(some 5), none, .fa 0 (.t 2)⟩,
   ⟨(some 6), none, .ld false 1 (.t 5)⟩,
   ⟨(some 7), none, .mv (.t 1)⟩,
   ⟨(some 8), none, .cl (.c (.fn 91 [])) [(.t 6), (.t 7)]⟩,
   ⟨(some 1), none, .mv (.t 8)⟩])
  (.seq (.reg [⟨(some 9), none, .fa 1 (.t 2)⟩,
   ⟨(some 10), none, .ld false 1 (.t 9)⟩,
   ⟨(some 11), none, .mv (.t 1)⟩,
   ⟨(some 12), none, .cl (.c (.fn 92 [])) [(.t 10), (.t 11)]⟩,
   ⟨(some 1), none, .mv (.t 12)⟩])
  (.seq (.reg [⟨(some 13), none, .mv (.t 1)⟩,
   ⟨(some 4), none, .mv (.t 13)⟩])
  .ret))))
theorem k_laws_markDisk : FnOk Try.prog 45 14 rc_laws_markDisk [.t 4] := ⟨Try.f45, _, [], Try.func45, rfl, rfl, by kernel_rfl, by kernel_rfl, follows⟩
theorem ok_laws_markDisk : okF Try.prog 45 = true := by kernel_rfl
def rc_laws_markItemS : RC :=
  (.seq (.reg [⟨(some 4), none, .mv (.c (.int .i64 0))⟩])
  (.seq (.seq (.reg [⟨(some 5), none, .mv (.c (.int .i64 0))⟩])
  (.blk 0 (.loop (.seq (.seq (.reg [⟨(some 6), none, .mv (.t 5)⟩,
     ⟨(some 7), none, .mv (.t 0)⟩,
     ⟨(some 8), none, .lenl (.t 7)⟩,
     ⟨(some 9), none, .bin .lss (.t 6) (.t 8)⟩])
    (.cond (.t 9)
      .skip
      (.exit 0)))
    (.seq (.blk 1 (.seq (.reg [⟨(some 12), none, .mv (.t 0)⟩,
      ⟨(some 13), none, .mv (.t 5)⟩,
      ⟨(some 14), none, .mv (.t 1)⟩,
      ⟨(some 15), none, .ia 9 (.t 12) (.t 13)⟩,
      ⟨(some 16), none, .fa 0 (.t 15)⟩,
      ⟨none, none, .st 1 (.t 16) (.t 14)⟩])
     (.seq (.reg [⟨(some 17), none, .mv (.t 1)⟩,
      ⟨(some 18), none, .bin .add (.t 17) (.c (.int .i64 1))⟩,
      ⟨(some 1), none, .mv (.t 18)⟩])
     (.seq (.reg [⟨(some 19), none, .mv (.t 0)⟩,
      ⟨(some 20), none, .mv (.t 5)⟩,
      ⟨(some 21), none, .mv (.t 1)⟩,
      ⟨(some 22), none, .ia 9 (.t 19) (.t 20)⟩,
      ⟨(some 23), none, .fa 1 (.t 22)⟩,
      ⟨(some 24), none, .fa 0 (.t 23)⟩,
      ⟨none, none, .st 1 (.t 24) (.t 21)⟩])
     (.seq (.reg [⟨(some 25), none, .mv (.t 1)⟩,
      ⟨(some 26), none, .bin .add (.t 25) (.c (.int .i64 1))⟩,
      ⟨(some 1), none, .mv (.t 26)⟩])
     (.seq (.reg [⟨(some 27), none, .mv (.t 0)⟩,
      ⟨(some 28), none, .mv (.t 5)⟩,
      ⟨(some 29), none, .mv (.t 1)⟩,
      ⟨(some 30), none, .ia 9 (.t 27) (.t 28)⟩,
      ⟨(some 31), none, .fa 1 (.t 30)⟩,
      ⟨(some 32), none, .fa 1 (.t 31)⟩,
      ⟨none, none, .st 1 (.t 32) (.t 29)⟩])
     (.seq (.reg [⟨(some 33), none, .mv (.t 1)⟩,
      ⟨(some 34), none, .bin .add (.t 33) (.c (.int .i64 1))⟩,
      ⟨(some 1), none, .mv (.t 34)⟩])
     (.seq (.reg [⟨(some 35), none, .mv (.t 0)⟩,
      ⟨(some 36), none, .mv (.t 5)⟩,
      ⟨(some 37), none, .mv (.t 1)⟩,
      ⟨(some 38), none, .ia 9 (.t 35) (.t 36)⟩,
      ⟨(some 39), none, .fa 1 (.t 38)⟩,
      ⟨(some 40), none, .fa 2 (.t 39)⟩,
      ⟨none, none, .st 1 (.t 40) (.t 37)⟩])
     (.seq (.reg [⟨(some 41), none, .mv (.t 1)⟩,
      ⟨(some 42), none, .bin .add (.t 41) (.c (.int .i64 1))⟩,
      ⟨(some 1), none, .mv (.t 42)⟩])
     (.seq (.reg [⟨(some 43), none, .mv (.t 0)⟩,
      ⟨(some 44), none, .mv (.t 5)⟩,
      ⟨(some 45), none, .mv (.t 1)⟩,
      ⟨(some 46), none, .ia 9 (.t 43) (.t 44)⟩,
      ⟨(some 47), none, .fa 1 (.t 46)⟩,
      ⟨(some 48), none, .fa 3 (.t 47)⟩,
      ⟨none, none, .st 1 (.t 48) (.t 45)⟩])
     (.seq (.reg [⟨(some 49), none, .mv (.t 1)⟩,
      ⟨(some 50), none, .bin .add (.t 49) (.c (.int .i64 1))⟩,
      ⟨(some 1), none, .mv (.t 50)⟩])
     (.seq (.reg [⟨(some 51), none, .mv (.t 0)⟩,
      ⟨(some 52), none, .mv (.t 5)⟩,
      ⟨(some 53), none, .mv (.t 1)⟩,
      ⟨(some 54), none, .ia 9 (.t 51) (.t 52)⟩,
      ⟨(some 55), none, .fa 1 (.t 54)⟩,
      ⟨(some 56), none, .fa 4 (.t 55)⟩,
      ⟨none, none, .st 1 (.t 56) (.t 53)⟩])
     (.seq (.reg [⟨(some 57), none, .mv (.t 1)⟩,
      ⟨(some 58), none, .bin .add (.t 57) (.c (.int .i64 1))⟩,
      ⟨(some 1), none, .mv (.t 58)⟩])
     (.seq (.reg [⟨(some 59), none, .mv (.t 0)⟩,
      ⟨(some 60), none, .mv (.t 5)⟩,
      ⟨(some 61), none, .mv (.t 1)⟩,
      ⟨(some 62), none, .cl (.c (.fn 74 [])) [(.t 61)]⟩,
      ⟨(some 63), none, .ia 9 (.t 59) (.t 60)⟩,
      ⟨(some 64), none, .fa 1 (.t 63)⟩,
      ⟨(some 65), none, .fa 5 (.t 64)⟩,
      ⟨none, none, .st 1 (.t 65) (.t 62)⟩])
     (.seq (.reg [⟨(some 66), none, .mv (.t 1)⟩,
      ⟨(some 67), none, .bin .add (.t 66) (.c (.int .i64 1))⟩,
      ⟨(some 1), none, .mv (.t 67)⟩])
     (.seq (.reg [⟨(some 68), none, .mv (.t 0)⟩,
      ⟨(some 69), none, .mv (.t 5)⟩,
      ⟨(some 70), none, .mv (.t 1)⟩,
      ⟨(some 71), none, .cl (.c (.fn 74 [])) [(.t 70)]⟩,
      ⟨(some 72), none, .ia 9 (.t 68) (.t 69)⟩,
      ⟨(some 73), none, .fa 1 (.t 72)⟩,
      ⟨(some 74), none, .fa 6 (.t 73)⟩,
      ⟨none, none, .st 1 (.t 74) (.t 71)⟩])
     (.seq (.reg [⟨(some 75), none, .mv (.t 1)⟩,
      ⟨(some 76), none, .bin .add (.t 75) (.c (.int .i64 1))⟩,
      ⟨(some 1), none, .mv (.t 76)⟩])
     (.seq (.reg [⟨(some 77), none, .mv (.t 0)⟩,
      ⟨(some 78), none, .mv (.t 5)⟩,
      ⟨(some 79), none, .mv (.t 1)⟩,
      ⟨(some 80), none, .cl (.c (.fn 74 [])) [(.t 79)]⟩,
      ⟨(some 81), none, .ia 9 (.t 77) (.t 78)⟩,
      ⟨(some 82), none, .fa 1 (.t 81)⟩,
      ⟨(some 83), none, .fa 7 (.t 82)⟩,
      ⟨none, none, .st 1 (.t 83) (.t 80)⟩])
     (.reg [⟨(some 84), none, .mv (.t 1)⟩,
      ⟨(some 85), none, .bin .add (.t 84) (.c (.int .i64 1))⟩,
      ⟨(some 1), none, .mv (.t 85)⟩])))))))))))))))))))
    (.reg [⟨(some 10), none, .mv (.t 5)⟩,
     ⟨(some 11), none, .bin .add (.t 10) (.c (.int .i64 1))⟩,
     ⟨(some 5), none, .mv (.t 11)⟩]))))))
  (.seq (.reg [⟨(some 86), none, .mv (.t 1)⟩,
   ⟨(some 4), none, .mv (.t 86)⟩])
  .ret)))
theorem k_laws_markItemS : FnOk Try.prog 23 87 rc_laws_markItemS [.t 4] := ⟨Try.f23, _, [], Try.func23, rfl, rfl, by kernel_rfl, by kernel_rfl, follows⟩
theorem ok_laws_markItemS : okF Try.prog 23 = true := by kernel_rfl
def rc_laws_markSegS : RC :=
  (.seq (.reg [⟨(some 4), none, .mv (.c (.int .i64 0))⟩])
  (.seq (.seq (.reg [⟨(some 5), none, .mv (.c (.int .i64 0))⟩])
  (.blk 0 (.loop (.seq (.seq (.reg [⟨(some 6), none, .mv (.t 5)⟩,
     ⟨(some 7), none, .mv (.t 0)⟩,
     ⟨(some 8), none, .lenl (.t 7)⟩,
     ⟨(some 9), none, .bin .lss (.t 6) (.t 8)⟩])
    (.cond (.t 9)
      .skip
      (.exit 0)))
    (.seq (.blk 1 (.seq (.reg [⟨(some 12), none, .mv (.t 0)⟩,
      ⟨(some 13), none, .mv (.t 5)⟩,
      ⟨(some 14), none, .mv (.t 1)⟩,
      ⟨(some 15), none, .ia 4 (.t 12) (.t 13)⟩,
      ⟨(some 16), none, .fa 0 (.t 15)⟩,
      ⟨none, none, .st 1 (.t 16) (.t 14)⟩])
     (.seq (.reg [⟨(some 17), none, .mv (.t 1)⟩,
      ⟨(some 18), none, .bin .add (.t 17) (.c (.int .i64 1))⟩,
      ⟨(some 1), none, .mv (.t 18)⟩])
     (.seq (.reg [⟨(some 19), none, .mv (.t 0)⟩,
      ⟨(some 20), none, .mv (.t 5)⟩,
      ⟨(some 21), none, .mv (.t 1)⟩,
      ⟨(some 22), none, .ia 4 (.t 19) (.t 20)⟩,
      ⟨(some 23), none, .fa 1 (.t 22)⟩,
      ⟨none, none, .st 1 (.t 23) (.t 21)⟩])
     (.seq (.reg [⟨(some 24), none, .mv (.t 1)⟩,
      ⟨(some 25), none, .bin .add (.t 24) (.c (.int .i64 1))⟩,
      ⟨(some 1), none, .mv (.t 25)⟩])
     (.seq (.reg [⟨(some 26), none, .mv (.t 0)⟩,
      ⟨(some 27), none, .mv (.t 5)⟩,
      ⟨(some 28), none, .mv (.t 1)⟩,
      ⟨(some 29), none, .ia 4 (.t 26) (.t 27)⟩,
      ⟨(some 30), none, .fa 2 (.t 29)⟩,
      ⟨none, none, .st 1 (.t 30) (.t 28)⟩])
     (.seq (.reg [⟨(some 31), none, .mv (.t 1)⟩,
      ⟨(some 32), none, .bin .add (.t 31) (.c (.int .i64 1))⟩,
      ⟨(some 1), none, .mv (.t 32)⟩])
     (.reg [⟨(some 33), none, .mv (.t 0)⟩,
      ⟨(some 34), none, .mv (.t 5)⟩,
      ⟨(some 35), none, .ia 4 (.t 33) (.t 34)⟩,
      ⟨(some 36), none, .fa 3 (.t 35)⟩,
      ⟨(some 37), none, .ld false 1 (.t 36)⟩,
      ⟨(some 38), none, .mv (.t 1)⟩,
      ⟨(some 39), none, .cl (.c (.fn 23 [])) [(.t 37), (.t 38)]⟩,
      ⟨(some 1), none, .mv (.t 39)⟩]))))))))
    (.reg [⟨(some 10), none, .mv (.t 5)⟩,
     ⟨(some 11), none, .bin .add (.t 10) (.c (.int .i64 1))⟩,
     ⟨(some 5), none, .mv (.t 11)⟩]))))))
  (.seq (.reg [⟨(some 40), none, .mv (.t 1)⟩,
   ⟨(some 4), none, .mv (.t 40)⟩])
  .ret)))
theorem k_laws_markSegS : FnOk Try.prog 75 41 rc_laws_markSegS [.t 4] := ⟨Try.f75, _, [], Try.func75, rfl, rfl, by kernel_rfl, by kernel_rfl, follows⟩
theorem ok_laws_markSegS : okF Try.prog 75 = true := by kernel_rfl
def rc_laws_markLog : RC :=
  (.seq (.reg [⟨(some 2), none, .bx (.t 0)⟩,
   ⟨(some 4), none, .mv (.c (.int .i64 0))⟩])
  (.seq (.reg [⟨(some 5), none, .fa 0 (.t 2)⟩,
   ⟨(some 6), none, .ld true 2 (.t 5)⟩,
   ⟨(some 7), none, .mv (.t 1)⟩,
   ⟨(some 8), none, .cl (.c (.fn 45 [])) [(.t 6), (.t 7)]⟩,
   ⟨(some 1), none, .mv (.t 8)⟩])
  (.seq (.reg [⟨(some 9), none, .fa 3 (.t 2)⟩,
   ⟨(some 10), none, .ld false 1 (.t 9)⟩,
   ⟨(some 11), none, .mv (.t 1)⟩,
   ⟨(some 12), none, .cl (.c (.fn 75 [])) [(.t 10), (.t 11)]⟩,
   ⟨(some 1), none, .mv (.t 12)⟩])
  (.seq (.reg [⟨(some 13), none, .mv (.t 1)⟩,
   ⟨(some 4), none, .mv (.t 13)⟩])
  .ret))))
theorem k_laws_markLog : FnOk Try.prog 28 14 rc_laws_markLog [.t 4] := ⟨Try.f28, _, [], Try.func28, rfl, rfl, by kernel_rfl, by kernel_rfl, follows⟩
theorem ok_laws_markLog : okF Try.prog 28 = true := by kernel_rfl
def rc_spec_CheckOf : RC :=
  (.seq (.reg [⟨(some 1), none, .bx (.t 0)⟩,
   ⟨(some 2), none, .al [.int .i64 0, .int .i64 0, .int .i64 0, .int .i64 0, .nils]⟩])
  (.seq (.reg [⟨(some 5), none, .fa 6 (.t 1)⟩,
   ⟨(some 6), none, .ld false 1 (.t 5)⟩,
   ⟨(some 7), none, .bin .add (.t 6) (.c (.int .i64 1))⟩,
   ⟨(some 8), none, .fa 4 (.t 1)⟩,
   ⟨(some 9), none, .ld false 1 (.t 8)⟩,
   ⟨(some 10), none, .fa 5 (.t 1)⟩,
   ⟨(some 11), none, .ld false 1 (.t 10)⟩,
   ⟨(some 12), none, .fa 7 (.t 1)⟩,
   ⟨(some 13), none, .ld false 1 (.t 12)⟩,
   ⟨(some 14), none, .bld [.int .i64 0, .int .i64 0, .int .i64 0, .int .i64 0, .nils] [(0, 1), (1, 1), (2, 1), (3, 1), (4, 1)] [(0, (.t 7)), (1, (.t 9)), (2, (.t 11)), (3, (.t 13))]⟩,
   ⟨(some 3), none, .al [.int .i64 0, .int .i64 0, .int .i64 0, .int .i64 0, .nils]⟩,
   ⟨none, none, .st 5 (.t 3) (.t 14)⟩])
  (.seq (.seq (.reg [⟨(some 4), none, .mv (.c (.int .i64 0))⟩])
  (.blk 0 (.loop (.seq (.seq (.reg [⟨(some 15), none, .mv (.t 4)⟩,
     ⟨(some 16), none, .fa 3 (.t 1)⟩,
     ⟨(some 17), none, .ld false 1 (.t 16)⟩,
     ⟨(some 18), none, .lenl (.t 17)⟩,
     ⟨(some 19), none, .bin .lss (.t 15) (.t 18)⟩])
    (.cond (.t 19)
      .skip
      (.exit 0)))
    (.seq (.blk 1 (.drw [⟨(some 22), none, .fa 4 (.t 3)⟩,
      ⟨(some 23), none, .ld false 1 (.t 22)⟩,
      ⟨(some 24), none, .fa 3 (.t 1)⟩,
      ⟨(some 25), none, .ld false 1 (.t 24)⟩,
      ⟨(some 26), none, .mv (.t 4)⟩,
      ⟨(some 27), none, .ia 4 (.t 25) (.t 26)⟩,
      ⟨(some 28), none, .fa 0 (.t 27)⟩,
      ⟨(some 29), none, .ld false 1 (.t 28)⟩,
      ⟨(some 30), none, .fa 3 (.t 1)⟩,
      ⟨(some 31), none, .ld false 1 (.t 30)⟩,
      ⟨(some 32), none, .mv (.t 4)⟩,
      ⟨(some 33), none, .ia 4 (.t 31) (.t 32)⟩,
      ⟨(some 34), none, .fa 1 (.t 33)⟩,
      ⟨(some 35), none, .ld false 1 (.t 34)⟩,
      ⟨(some 36), none, .bld [.int .i64 0, .int .i64 0] [(0, 1), (1, 1)] [(0, (.t 29)), (1, (.t 35))]⟩,
      ⟨(some 37), none, .bs 2 [.int .i64 0, .int .i64 0] 1 [(0, (.t 36))]⟩,
      ⟨(some 38), none, .app 2 16 (.t 23) (.t 37)⟩,
      ⟨(some 39), none, .fa 4 (.t 3)⟩,
      ⟨none, none, .st 1 (.t 39) (.t 38)⟩] [.val [], .val [], .val [], .val [], .val [], .val [], .val [], .val [], .val [], .val [], .val [], .val [], .val [], .val [], .val [], .chn [0, 1], .chn [], .val [], .chn []]))
    (.reg [⟨(some 20), none, .mv (.t 4)⟩,
     ⟨(some 21), none, .bin .add (.t 20) (.c (.int .i64 1))⟩,
     ⟨(some 4), none, .mv (.t 21)⟩]))))))
  (.seq (.reg [⟨(some 40), none, .ld true 5 (.t 3)⟩,
   ⟨none, none, .st 5 (.t 2) (.t 40)⟩])
  .ret))))
theorem k_spec_CheckOf : FnOk Try.prog 35 41 rc_spec_CheckOf [.cell 2 true 5] := ⟨Try.f35, _, [], Try.func35, rfl, rfl, by kernel_rfl, by kernel_rfl, follows⟩
theorem ok_spec_CheckOf : okF Try.prog 35 = true := by kernel_rfl
def rc_impl_CheckOf : RC :=
  (.seq (.reg [⟨(some 1), none, .bx (.t 0)⟩,
   ⟨(some 2), none, .al [.int .i64 0, .int .i64 0, .int .i64 0, .int .i64 0, .nils]⟩])
  (.seq (.reg [⟨(some 6), none, .fa 6 (.t 1)⟩,
   ⟨(some 7), none, .ld false 1 (.t 6)⟩,
   ⟨(some 8), none, .bin .add (.t 7) (.c (.int .i64 1))⟩,
   ⟨(some 9), none, .fa 4 (.t 1)⟩,
   ⟨(some 10), none, .ld false 1 (.t 9)⟩,
   ⟨(some 11), none, .fa 5 (.t 1)⟩,
   ⟨(some 12), none, .ld false 1 (.t 11)⟩,
   ⟨(some 13), none, .fa 7 (.t 1)⟩,
   ⟨(some 14), none, .ld false 1 (.t 13)⟩,
   ⟨(some 15), none, .bld [.int .i64 0, .int .i64 0, .int .i64 0, .int .i64 0, .nils] [(0, 1), (1, 1), (2, 1), (3, 1), (4, 1)] [(0, (.t 8)), (1, (.t 10)), (2, (.t 12)), (3, (.t 14))]⟩,
   ⟨(some 3), none, .al [.int .i64 0, .int .i64 0, .int .i64 0, .int .i64 0, .nils]⟩,
   ⟨none, none, .st 5 (.t 3) (.t 15)⟩])
  (.seq (.seq (.reg [⟨(some 16), none, .fa 3 (.t 1)⟩,
   ⟨(some 17), none, .ld false 1 (.t 16)⟩,
   ⟨(some 18), none, .lenl (.t 17)⟩,
   ⟨(some 19), none, .mv (.c (.int .i64 0))⟩])
  (.blk 0 (.loop (.seq (.reg [⟨(some 20), none, .bin .lss (.t 19) (.t 18)⟩])
    (.seq (.cond (.t 20)
      .skip
      (.exit 0))
    (.seq (.blk 1 (.seq (.reg [⟨(some 21), none, .ia 4 (.t 17) (.t 19)⟩,
      ⟨(some 22), none, .ld true 4 (.t 21)⟩,
      ⟨(some 5), none, .al [.int .i64 0, .int .i64 0, .int .i64 0, .nils]⟩,
      ⟨none, none, .st 4 (.t 5) (.t 22)⟩])
     (.reg [⟨(some 23), none, .fa 4 (.t 3)⟩,
      ⟨(some 24), none, .ld false 1 (.t 23)⟩,
      ⟨(some 25), none, .fa 0 (.t 5)⟩,
      ⟨(some 26), none, .ld false 1 (.t 25)⟩,
      ⟨(some 27), none, .fa 1 (.t 5)⟩,
      ⟨(some 28), none, .ld false 1 (.t 27)⟩,
      ⟨(some 29), none, .bld [.int .i64 0, .int .i64 0] [(0, 1), (1, 1)] [(0, (.t 26)), (1, (.t 28))]⟩,
      ⟨(some 30), none, .bs 2 [.int .i64 0, .int .i64 0] 1 [(0, (.t 29))]⟩,
      ⟨(some 31), none, .app 2 16 (.t 24) (.t 30)⟩,
      ⟨(some 32), none, .fa 4 (.t 3)⟩,
      ⟨none, none, .st 1 (.t 32) (.t 31)⟩])))
    (.reg [⟨(some 33), none, .bin .add (.t 19) (.c (.int .i64 1))⟩,
     ⟨(some 19), none, .mv (.t 33)⟩])))))))
  (.seq (.reg [⟨(some 34), none, .ld true 5 (.t 3)⟩,
   ⟨none, none, .st 5 (.t 2) (.t 34)⟩])
  .ret))))
theorem k_impl_CheckOf : FnOk Try.prog 36 35 rc_impl_CheckOf [.cell 2 true 5] := ⟨Try.f36, _, [], Try.func36, rfl, rfl, by kernel_rfl, by kernel_rfl, follows⟩
theorem ok_impl_CheckOf : okF Try.prog 36 = true := by kernel_rfl
def rc_laws_eqRef : RC :=
  (.seq (.reg [⟨(some 2), none, .bx (.t 0)⟩,
   ⟨(some 3), none, .bx (.t 1)⟩,
   ⟨(some 4), none, .mv (.c (.bool false))⟩])
  (.seq (.seq (.reg [⟨(some 5), none, .fa 0 (.t 2)⟩,
   ⟨(some 6), none, .ld false 1 (.t 5)⟩,
   ⟨(some 7), none, .fa 0 (.t 3)⟩,
   ⟨(some 8), none, .ld false 1 (.t 7)⟩,
   ⟨(some 9), none, .bin .neq (.t 6) (.t 8)⟩])
  (.cond (.t 9)
    (.seq (.reg [⟨(some 4), none, .mv (.c (.bool false))⟩])
    .ret)
    .skip))
  (.seq (.seq (.reg [⟨(some 10), none, .fa 1 (.t 2)⟩,
   ⟨(some 11), none, .ld false 1 (.t 10)⟩,
   ⟨(some 12), none, .fa 1 (.t 3)⟩,
   ⟨(some 13), none, .ld false 1 (.t 12)⟩,
   ⟨(some 14), none, .bin .neq (.t 11) (.t 13)⟩])
  (.cond (.t 14)
    (.seq (.reg [⟨(some 4), none, .mv (.c (.bool false))⟩])
    .ret)
    .skip))
  (.seq (.reg [⟨(some 4), none, .mv (.c (.bool true))⟩])
  .ret))))
theorem k_laws_eqRef : FnOk Try.prog 145 15 rc_laws_eqRef [.t 4] := ⟨Try.f145, _, [], Try.func145, rfl, rfl, by kernel_rfl, by kernel_rfl, follows⟩
theorem ok_laws_eqRef : okF Try.prog 145 = true := by kernel_rfl
def rc_laws_eqRefS : RC :=
  (.seq (.reg [⟨(some 4), none, .mv (.c (.bool false))⟩])
  (.seq (.seq (.reg [⟨(some 6), none, .mv (.t 0)⟩,
   ⟨(some 7), none, .lenl (.t 6)⟩,
   ⟨(some 8), none, .mv (.t 1)⟩,
   ⟨(some 9), none, .lenl (.t 8)⟩,
   ⟨(some 10), none, .bin .neq (.t 7) (.t 9)⟩])
  (.cond (.t 10)
    (.seq (.reg [⟨(some 4), none, .mv (.c (.bool false))⟩])
    .ret)
    .skip))
  (.seq (.seq (.reg [⟨(some 5), none, .mv (.c (.int .i64 0))⟩])
  (.blk 0 (.loop (.seq (.seq (.reg [⟨(some 11), none, .mv (.t 5)⟩,
     ⟨(some 12), none, .mv (.t 0)⟩,
     ⟨(some 13), none, .lenl (.t 12)⟩,
     ⟨(some 14), none, .bin .lss (.t 11) (.t 13)⟩])
    (.cond (.t 14)
      .skip
      (.exit 0)))
    (.seq (.blk 1 (.seq (.drw [⟨(some 17), none, .mv (.t 0)⟩,
      ⟨(some 18), none, .mv (.t 5)⟩,
      ⟨(some 19), none, .ia 2 (.t 17) (.t 18)⟩,
      ⟨(some 20), none, .ld true 2 (.t 19)⟩,
      ⟨(some 21), none, .mv (.t 1)⟩,
      ⟨(some 22), none, .mv (.t 5)⟩,
      ⟨(some 23), none, .ia 2 (.t 21) (.t 22)⟩,
      ⟨(some 24), none, .ld true 2 (.t 23)⟩,
      ⟨(some 25), none, .cl (.c (.fn 145 [])) [(.t 20), (.t 24)]⟩,
      ⟨(some 26), none, .un .not (.t 25)⟩] [.val [], .val [], .val [], .val [], .val [], .val [], .val [], .val [], .val [], .val []])
     (.cond (.t 26)
       (.seq (.reg [⟨(some 4), none, .mv (.c (.bool false))⟩])
       .ret)
       .skip)))
    (.reg [⟨(some 15), none, .mv (.t 5)⟩,
     ⟨(some 16), none, .bin .add (.t 15) (.c (.int .i64 1))⟩,
     ⟨(some 5), none, .mv (.t 16)⟩]))))))
  (.seq (.reg [⟨(some 4), none, .mv (.c (.bool true))⟩])
  .ret))))
theorem k_laws_eqRefS : FnOk Try.prog 78 27 rc_laws_eqRefS [.t 4] := ⟨Try.f78, _, [], Try.func78, rfl, rfl, by kernel_rfl, by kernel_rfl, follows⟩
theorem ok_laws_eqRefS : okF Try.prog 78 = true := by kernel_rfl
def rc_laws_eqCheck : RC :=
  (.seq (.reg [⟨(some 2), none, .bx (.t 0)⟩,
   ⟨(some 3), none, .bx (.t 1)⟩,
   ⟨(some 4), none, .mv (.c (.bool false))⟩])
  (.seq (.seq (.reg [⟨(some 5), none, .fa 0 (.t 2)⟩,
   ⟨(some 6), none, .ld false 1 (.t 5)⟩,
   ⟨(some 7), none, .fa 0 (.t 3)⟩,
   ⟨(some 8), none, .ld false 1 (.t 7)⟩,
   ⟨(some 9), none, .bin .neq (.t 6) (.t 8)⟩])
  (.cond (.t 9)
    (.seq (.reg [⟨(some 4), none, .mv (.c (.bool false))⟩])
    .ret)
    .skip))
  (.seq (.seq (.reg [⟨(some 10), none, .fa 1 (.t 2)⟩,
   ⟨(some 11), none, .ld false 1 (.t 10)⟩,
   ⟨(some 12), none, .fa 1 (.t 3)⟩,
   ⟨(some 13), none, .ld false 1 (.t 12)⟩,
   ⟨(some 14), none, .bin .neq (.t 11) (.t 13)⟩])
  (.cond (.t 14)
    (.seq (.reg [⟨(some 4), none, .mv (.c (.bool false))⟩])
    .ret)
    .skip))
  (.seq (.seq (.reg [⟨(some 15), none, .fa 2 (.t 2)⟩,
   ⟨(some 16), none, .ld false 1 (.t 15)⟩,
   ⟨(some 17), none, .fa 2 (.t 3)⟩,
   ⟨(some 18), none, .ld false 1 (.t 17)⟩,
   ⟨(some 19), none, .bin .neq (.t 16) (.t 18)⟩])
  (.cond (.t 19)
    (.seq (.reg [⟨(some 4), none, .mv (.c (.bool false))⟩])
    .ret)
    .skip))
  (.seq (.seq (.reg [⟨(some 20), none, .fa 3 (.t 2)⟩,
   ⟨(some 21), none, .ld false 1 (.t 20)⟩,
   ⟨(some 22), none, .fa 3 (.t 3)⟩,
   ⟨(some 23), none, .ld false 1 (.t 22)⟩,
   ⟨(some 24), none, .bin .neq (.t 21) (.t 23)⟩])
  (.cond (.t 24)
    (.seq (.reg [⟨(some 4), none, .mv (.c (.bool false))⟩])
    .ret)
    .skip))
  (.seq (.seq (.reg [⟨(some 25), none, .fa 4 (.t 2)⟩,
   ⟨(some 26), none, .ld false 1 (.t 25)⟩,
   ⟨(some 27), none, .fa 4 (.t 3)⟩,
   ⟨(some 28), none, .ld false 1 (.t 27)⟩,
   ⟨(some 29), none, .cl (.c (.fn 78 [])) [(.t 26), (.t 28)]⟩,
   ⟨(some 30), none, .un .not (.t 29)⟩])
  (.cond (.t 30)
    (.seq (.reg [⟨(some 4), none, .mv (.c (.bool false))⟩])
    .ret)
    .skip))
  (.seq (.reg [⟨(some 4), none, .mv (.c (.bool true))⟩])
  .ret)))))))
theorem k_laws_eqCheck : FnOk Try.prog 37 31 rc_laws_eqCheck [.t 4] := ⟨Try.f37, _, [], Try.func37, rfl, rfl, by kernel_rfl, by kernel_rfl, follows⟩
theorem ok_laws_eqCheck : okF Try.prog 37 = true := by kernel_rfl
def rc_laws_markRefS : RC :=
  (.seq (.reg [⟨(some 4), none, .mv (.c (.int .i64 0))⟩])
  (.seq (.seq (.reg [⟨(some 5), none, .mv (.c (.int .i64 0))⟩])
  (.blk 0 (.loop (.seq (.seq (.reg [⟨(some 6), none, .mv (.t 5)⟩,
     ⟨(some 7), none, .mv (.t 0)⟩,
     ⟨(some 8), none, .lenl (.t 7)⟩,
     ⟨(some 9), none, .bin .lss (.t 6) (.t 8)⟩])
    (.cond (.t 9)
      .skip
      (.exit 0)))
    (.seq (.blk 1 (.seq (.reg [⟨(some 12), none, .mv (.t 0)⟩,
      ⟨(some 13), none, .mv (.t 5)⟩,
      ⟨(some 14), none, .mv (.t 1)⟩,
      ⟨(some 15), none, .ia 2 (.t 12) (.t 13)⟩,
      ⟨(some 16), none, .fa 0 (.t 15)⟩,
      ⟨none, none, .st 1 (.t 16) (.t 14)⟩])
     (.seq (.reg [⟨(some 17), none, .mv (.t 1)⟩,
      ⟨(some 18), none, .bin .add (.t 17) (.c (.int .i64 1))⟩,
      ⟨(some 1), none, .mv (.t 18)⟩])
     (.seq (.reg [⟨(some 19), none, .mv (.t 0)⟩,
      ⟨(some 20), none, .mv (.t 5)⟩,
      ⟨(some 21), none, .mv (.t 1)⟩,
      ⟨(some 22), none, .ia 2 (.t 19) (.t 20)⟩,
      ⟨(some 23), none, .fa 1 (.t 22)⟩,
      ⟨none, none, .st 1 (.t 23) (.t 21)⟩])
     (.reg [⟨(some 24), none, .mv (.t 1)⟩,
      ⟨(some 25), none, .bin .add (.t 24) (.c (.int .i64 1))⟩,
      ⟨(some 1), none, .mv (.t 25)⟩])))))
    (.reg [⟨(some 10), none, .mv (.t 5)⟩,
     ⟨(some 11), none, .bin .add (.t 10) (.c (.int .i64 1))⟩,
     ⟨(some 5), none, .mv (.t 11)⟩]))))))
  (.seq (.reg [⟨(some 26), none, .mv (.t 1)⟩,
   ⟨(some 4), none, .mv (.t 26)⟩])
  .ret)))
theorem k_laws_markRefS : FnOk Try.prog 79 27 rc_laws_markRefS [.t 4] := ⟨Try.f79, _, [], Try.func79, rfl, rfl, by kernel_rfl, by kernel_rfl, follows⟩
theorem ok_laws_markRefS : okF Try.prog 79 = true := by kernel_rfl
def rc_laws_markCheck : RC :=
  (.seq (.reg [⟨(some 2), none, .bx (.t 0)⟩,
   ⟨(some 4), none, .mv (.c (.int .i64 0))⟩])
  (.seq (.reg [⟨(some 5), none, .fa 4 (.t 2)⟩,
   ⟨(some 6), none, .ld false 1 (.t 5)⟩,
   ⟨(some 7), none, .mv (.t 1)⟩,
   ⟨(some 8), none, .cl (.c (.fn 79 [])) [(.t 6), (.t 7)]⟩,
   ⟨(some 1), none, .mv (.t 8)⟩])
  (.seq (.reg [⟨(some 9), none, .mv (.t 1)⟩,
   ⟨(some 4), none, .mv (.t 9)⟩])
  .ret)))
theorem k_laws_markCheck : FnOk Try.prog 38 10 rc_laws_markCheck [.t 4] := ⟨Try.f38, _, [], Try.func38, rfl, rfl, by kernel_rfl, by kernel_rfl, follows⟩
theorem ok_laws_markCheck : okF Try.prog 38 = true := by kernel_rfl
def rc_laws_heldRefS : RC :=
  (.seq (.reg [⟨(some 4), none, .mv (.c (.int .i64 0))⟩])
  (.seq (.seq (.reg [⟨(some 5), none, .mv (.c (.int .i64 0))⟩])
  (.blk 0 (.loop (.seq (.seq (.reg [⟨(some 6), none, .mv (.t 5)⟩,
     ⟨(some 7), none, .mv (.t 0)⟩,
     ⟨(some 8), none, .lenl (.t 7)⟩,
     ⟨(some 9), none, .bin .lss (.t 6) (.t 8)⟩])
    (.cond (.t 9)
      .skip
      (.exit 0)))
    (.seq (.blk 1 (.seq (.seq (.reg [⟨(some 12), none, .mv (.t 0)⟩,
      ⟨(some 13), none, .mv (.t 5)⟩,
      ⟨(some 14), none, .ia 2 (.t 12) (.t 13)⟩,
      ⟨(some 15), none, .fa 0 (.t 14)⟩,
      ⟨(some 16), none, .ld false 1 (.t 15)⟩,
      ⟨(some 17), none, .mv (.t 1)⟩,
      ⟨(some 18), none, .bin .neq (.t 16) (.t 17)⟩])
     (.cond (.t 18)
       (.seq (.reg [⟨(some 4), none, .mv (.c (.int .i64 (-1)))⟩])
       .ret)
       .skip))
     (.seq (.reg [⟨(some 19), none, .mv (.t 1)⟩,
      ⟨(some 20), none, .bin .add (.t 19) (.c (.int .i64 1))⟩,
      ⟨(some 1), none, .mv (.t 20)⟩])
     (.seq (.seq (.reg [⟨(some 21), none, .mv (.t 0)⟩,
      ⟨(some 22), none, .mv (.t 5)⟩,
      ⟨(some 23), none, .ia 2 (.t 21) (.t 22)⟩,
      ⟨(some 24), none, .fa 1 (.t 23)⟩,
      ⟨(some 25), none, .ld false 1 (.t 24)⟩,
      ⟨(some 26), none, .mv (.t 1)⟩,
      ⟨(some 27), none, .bin .neq (.t 25) (.t 26)⟩])
     (.cond (.t 27)
       (.seq (.reg [⟨(some 4), none, .mv (.c (.int .i64 (-1)))⟩])
       .ret)
       .skip))
     (.reg [⟨(some 28), none, .mv (.t 1)⟩,
      ⟨(some 29), none, .bin .add (.t 28) (.c (.int .i64 1))⟩,
      ⟨(some 1), none, .mv (.t 29)⟩])))))
    (.reg [⟨(some 10), none, .mv (.t 5)⟩,
     ⟨(some 11), none, .bin .add (.t 10) (.c (.int .i64 1))⟩,
     ⟨(some 5), none, .mv (.t 11)⟩]))))))
  (.seq (.reg [⟨(some 30), none, .mv (.t 1)⟩,
   ⟨(some 4), none, .mv (.t 30)⟩])
  .ret)))
theorem k_laws_heldRefS : FnOk Try.prog 80 31 rc_laws_heldRefS [.t 4] := ⟨Try.f80, _, [], Try.func80, rfl, rfl, by kernel_rfl, by kernel_rfl, follows⟩
theorem ok_laws_heldRefS : okF Try.prog 80 = true := by kernel_rfl
def rc_laws_heldCheck : RC :=
  (.seq (.reg [⟨(some 2), none, .bx (.t 0)⟩,
   ⟨(some 4), none, .mv (.c (.int .i64 0))⟩])
  (.seq (.reg [⟨(some 5), none, .fa 4 (.t 2)⟩,
   ⟨(some 6), none, .ld false 1 (.t 5)⟩,
   ⟨(some 7), none, .mv (.t 1)⟩,
   ⟨(some 8), none, .cl (.c (.fn 80 [])) [(.t 6), (.t 7)]⟩,
   ⟨(some 1), none, .mv (.t 8)⟩])
  (.seq (.seq (.reg [⟨(some 9), none, .mv (.t 1)⟩,
   ⟨(some 10), none, .bin .lss (.t 9) (.c (.int .i64 0))⟩])
  (.cond (.t 10)
    (.seq (.reg [⟨(some 4), none, .mv (.c (.int .i64 (-1)))⟩])
    .ret)
    .skip))
  (.seq (.reg [⟨(some 11), none, .mv (.t 1)⟩,
   ⟨(some 4), none, .mv (.t 11)⟩])
  .ret))))
theorem k_laws_heldCheck : FnOk Try.prog 39 12 rc_laws_heldCheck [.t 4] := ⟨Try.f39, _, [], Try.func39, rfl, rfl, by kernel_rfl, by kernel_rfl, follows⟩
theorem ok_laws_heldCheck : okF Try.prog 39 = true := by kernel_rfl
def rc_laws_FnExactCheckOf : RC :=
  (.seq (.reg [⟨(some 1), none, .bx (.t 0)⟩,
   ⟨(some 2), none, .mv (.c (.bool false))⟩])
  (.seq (.reg [⟨(some 3), none, .mv (.c (.int .i64 1048576))⟩])
  (.seq (.reg [⟨(some 11), none, .ld true 8 (.t 1)⟩,
   ⟨(some 12), none, .mv (.t 3)⟩,
   ⟨(some 13), none, .cl (.c (.fn 12 [])) [(.t 11), (.t 12)]⟩,
   ⟨(some 3), none, .mv (.t 13)⟩])
  (.seq (.seq (.reg [⟨(some 14), none, .mv (.t 3)⟩,
   ⟨(some 15), none, .bin .lss (.t 14) (.c (.int .i64 0))⟩])
  (.cond (.t 15)
    (.seq (.reg [⟨(some 2), none, .mv (.c (.bool true))⟩])
    .ret)
    .skip))
  (.seq (.reg [⟨(some 16), none, .ld true 8 (.t 1)⟩,
   ⟨(some 17), none, .cl (.c (.fn 14 [])) [(.t 16)]⟩,
   ⟨(some 18), none, .cl (.c (.fn 35 [])) [(.t 17)]⟩,
   ⟨(some 4), none, .al [.int .i64 0, .int .i64 0, .int .i64 0, .int .i64 0, .nils]⟩,
   ⟨none, none, .st 5 (.t 4) (.t 18)⟩])
  (.seq (.reg [⟨(some 19), none, .ld true 8 (.t 1)⟩,
   ⟨(some 20), none, .cl (.c (.fn 14 [])) [(.t 19)]⟩,
   ⟨(some 5), none, .al [.nils, .nils, .int .i64 0, .nils, .int .i64 0, .int .i64 0, .int .i64 0, .int .i64 0]⟩,
   ⟨none, none, .st 8 (.t 5) (.t 20)⟩])
  (.seq (.reg [⟨(some 21), none, .ld true 8 (.t 5)⟩,
   ⟨(some 22), none, .cl (.c (.fn 36 [])) [(.t 21)]⟩,
   ⟨(some 6), none, .al [.int .i64 0, .int .i64 0, .int .i64 0, .int .i64 0, .nils]⟩,
   ⟨none, none, .st 5 (.t 6) (.t 22)⟩])
  (.seq (.seq (.reg [⟨(some 23), none, .ld true 5 (.t 6)⟩,
   ⟨(some 24), none, .ld true 5 (.t 4)⟩,
   ⟨(some 25), none, .cl (.c (.fn 37 [])) [(.t 23), (.t 24)]⟩,
   ⟨(some 26), none, .un .not (.t 25)⟩])
  (.cond (.t 26)
    (.seq (.reg [⟨(some 2), none, .mv (.c (.bool false))⟩])
    .ret)
    .skip))
  (.seq (.seq (.drw [⟨(some 27), none, .ld true 8 (.t 5)⟩,
   ⟨(some 28), none, .ld true 8 (.t 1)⟩,
   ⟨(some 29), none, .cl (.c (.fn 14 [])) [(.t 28)]⟩,
   ⟨(some 30), none, .cl (.c (.fn 16 [])) [(.t 27), (.t 29)]⟩,
   ⟨(some 31), none, .un .not (.t 30)⟩] [.val [], .val [], .val [], .val [], .val []])
  (.cond (.t 31)
    (.seq (.reg [⟨(some 2), none, .mv (.c (.bool false))⟩])
    .ret)
    .skip))
  (.seq (.reg [⟨(some 7), none, .mv (.c (.int .i64 1))⟩])
  (.seq (.reg [⟨(some 32), none, .ld true 8 (.t 5)⟩,
   ⟨(some 33), none, .mv (.t 7)⟩,
   ⟨(some 34), none, .cl (.c (.fn 28 [])) [(.t 32), (.t 33)]⟩,
   ⟨(some 7), none, .mv (.t 34)⟩])
  (.seq (.seq (.reg [⟨(some 35), none, .mv (.t 7)⟩,
   ⟨(some 36), none, .bin .lss (.t 35) (.c (.int .i64 0))⟩,
   ⟨(some 37), none, .mv (.t 36)⟩,
   ⟨(some 38), (some (37, false)), .ld true 5 (.t 6)⟩,
   ⟨(some 39), (some (37, false)), .ld true 5 (.t 4)⟩,
   ⟨(some 40), (some (37, false)), .cl (.c (.fn 37 [])) [(.t 38), (.t 39)]⟩,
   ⟨(some 41), (some (37, false)), .un .not (.t 40)⟩,
   ⟨(some 42), none, .pick (.t 37) (.c (.bool true)) (.t 41)⟩])
  (.cond (.t 42)
    (.seq (.reg [⟨(some 2), none, .mv (.c (.bool false))⟩])
    .ret)
    .skip))
  (.seq (.reg [⟨(some 8), none, .mv (.c (.int .i64 1))⟩])
  (.seq (.reg [⟨(some 43), none, .ld true 5 (.t 6)⟩,
   ⟨(some 44), none, .mv (.t 8)⟩,
   ⟨(some 45), none, .cl (.c (.fn 38 [])) [(.t 43), (.t 44)]⟩,
   ⟨(some 8), none, .mv (.t 45)⟩])
  (.seq (.reg [⟨(some 9), none, .mv (.c (.int .i64 1))⟩])
  (.seq (.reg [⟨(some 46), none, .ld true 5 (.t 6)⟩,
   ⟨(some 47), none, .mv (.t 9)⟩,
   ⟨(some 48), none, .cl (.c (.fn 39 [])) [(.t 46), (.t 47)]⟩,
   ⟨(some 9), none, .mv (.t 48)⟩])
  (.seq (.seq (.reg [⟨(some 49), none, .mv (.t 9)⟩,
   ⟨(some 50), none, .bin .lss (.t 49) (.c (.int .i64 0))⟩])
  (.cond (.t 50)
    (.seq (.reg [⟨(some 2), none, .mv (.c (.bool false))⟩])
    .ret)
    .skip))
  (.seq (.seq (.reg [⟨(some 51), none, .mv (.t 9)⟩,
   ⟨(some 52), none, .mv (.t 8)⟩,
   ⟨(some 53), none, .bin .neq (.t 51) (.t 52)⟩])
  (.cond (.t 53)
    (.seq (.reg [⟨(some 2), none, .mv (.c (.bool false))⟩])
    .ret)
    .skip))
  (.seq (.reg [⟨(some 54), none, .ld true 8 (.t 1)⟩,
   ⟨(some 55), none, .cl (.c (.fn 14 [])) [(.t 54)]⟩,
   ⟨(some 56), none, .cl (.c (.fn 36 [])) [(.t 55)]⟩,
   ⟨(some 10), none, .al [.int .i64 0, .int .i64 0, .int .i64 0, .int .i64 0, .nils]⟩,
   ⟨none, none, .st 5 (.t 10) (.t 56)⟩])
  (.seq (.seq (.reg [⟨(some 57), none, .ld true 5 (.t 10)⟩,
   ⟨(some 58), none, .ld true 5 (.t 4)⟩,
   ⟨(some 59), none, .cl (.c (.fn 37 [])) [(.t 57), (.t 58)]⟩,
   ⟨(some 60), none, .un .not (.t 59)⟩])
  (.cond (.t 60)
    (.seq (.reg [⟨(some 2), none, .mv (.c (.bool false))⟩])
    .ret)
    .skip))
  (.seq (.reg [⟨(some 9), none, .mv (.c (.int .i64 1))⟩])
  (.seq (.reg [⟨(some 61), none, .ld true 5 (.t 6)⟩,
   ⟨(some 62), none, .mv (.t 9)⟩,
   ⟨(some 63), none, .cl (.c (.fn 39 [])) [(.t 61), (.t 62)]⟩,
   ⟨(some 9), none, .mv (.t 63)⟩])
  (.seq (.seq (.reg [⟨(some 64), none, .mv (.t 9)⟩,
   ⟨(some 65), none, .bin .lss (.t 64) (.c (.int .i64 0))⟩])
  (.cond (.t 65)
    (.seq (.reg [⟨(some 2), none, .mv (.c (.bool false))⟩])
    .ret)
    .skip))
  (.seq (.seq (.reg [⟨(some 66), none, .mv (.t 9)⟩,
   ⟨(some 67), none, .mv (.t 8)⟩,
   ⟨(some 68), none, .bin .neq (.t 66) (.t 67)⟩])
  (.cond (.t 68)
    (.seq (.reg [⟨(some 2), none, .mv (.c (.bool false))⟩])
    .ret)
    .skip))
  (.seq (.reg [⟨(some 2), none, .mv (.c (.bool true))⟩])
  .ret)))))))))))))))))))))))))
theorem k_laws_FnExactCheckOf : FnOk Try.prog 7 69 rc_laws_FnExactCheckOf [.t 2] := ⟨Try.f7, _, [], Try.func7, rfl, rfl, by kernel_rfl, by kernel_rfl, follows⟩
theorem ok_laws_FnExactCheckOf : okF Try.prog 7 = true := by kernel_rfl
end Go.Proofs.Ytgdcbjoaoagbpaa.V
