/- The functions' texts. -/
import Derived.Test.YtcehlicmghnghaaXE
import Derived.Test.YtcehlicmghnghaaProg
import Derived.KernelRfl
import Derived.Shelf.Sort.Plain
import Derived.Shelf.Slices.In.SortNone
import Derived.Shelf.Slices.CompactI
/- The functions' texts. -/
namespace Go.Proofs.Ytcehlicmghnghaa.V
open Go Go.Proofs Go.RowKit
set_option maxRecDepth 100000
theorem follows : Try.prog.follows .mixedOrders = true := by kernel_rfl
def rc_laws_eqRec : RC :=
  (.seq (.reg [⟨(some 2), none, .bx (.t 0)⟩,
   ⟨(some 3), none, .bx (.t 1)⟩,
   ⟨(some 4), none, .mv (.c (.bool false))⟩])
  (.seq (.seq (.reg [⟨(some 5), none, .fa 0 (.t 2)⟩,
   ⟨(some 6), none, .ld false 1 (.t 5)⟩,
   ⟨(some 7), none, .fa 0 (.t 3)⟩,
   ⟨(some 8), none, .ld false 1 (.t 7)⟩,
   ⟨(some 9), none, .bin .neq (.t 6) (.t 8)⟩])
  (.cond (.t 9)
    (.seq (.reg [⟨(some 4), none, .mv (.c (.bool false))⟩])
    .ret)
    .skip))
  (.seq (.seq (.reg [⟨(some 10), none, .fa 1 (.t 2)⟩,
   ⟨(some 11), none, .ld false 1 (.t 10)⟩,
   ⟨(some 12), none, .fa 1 (.t 3)⟩,
   ⟨(some 13), none, .ld false 1 (.t 12)⟩,
   ⟨(some 14), none, .bin .neq (.t 11) (.t 13)⟩])
  (.cond (.t 14)
    (.seq (.reg [⟨(some 4), none, .mv (.c (.bool false))⟩])
    .ret)
    .skip))
  (.seq (.seq (.reg [⟨(some 15), none, .fa 2 (.t 2)⟩,
   ⟨(some 16), none, .ld false 1 (.t 15)⟩,
   ⟨(some 17), none, .fa 2 (.t 3)⟩,
   ⟨(some 18), none, .ld false 1 (.t 17)⟩,
   ⟨(some 19), none, .bin .neq (.t 16) (.t 18)⟩])
  (.cond (.t 19)
    (.seq (.reg [⟨(some 4), none, .mv (.c (.bool false))⟩])
    .ret)
    .skip))
  (.seq (.seq (.reg [⟨(some 20), none, .fa 3 (.t 2)⟩,
   ⟨(some 21), none, .ld false 1 (.t 20)⟩,
   ⟨(some 22), none, .fa 3 (.t 3)⟩,
   ⟨(some 23), none, .ld false 1 (.t 22)⟩,
   ⟨(some 24), none, .bin .neq (.t 21) (.t 23)⟩])
  (.cond (.t 24)
    (.seq (.reg [⟨(some 4), none, .mv (.c (.bool false))⟩])
    .ret)
    .skip))
  (.seq (.seq (.reg [⟨(some 25), none, .fa 4 (.t 2)⟩,
   ⟨(some 26), none, .ld false 1 (.t 25)⟩,
   ⟨(some 27), none, .fa 4 (.t 3)⟩,
   ⟨(some 28), none, .ld false 1 (.t 27)⟩,
   ⟨(some 29), none, .bin .neq (.t 26) (.t 28)⟩])
  (.cond (.t 29)
    (.seq (.reg [⟨(some 4), none, .mv (.c (.bool false))⟩])
    .ret)
    .skip))
  (.seq (.seq (.reg [⟨(some 30), none, .fa 5 (.t 2)⟩,
   ⟨(some 31), none, .ld false 1 (.t 30)⟩,
   ⟨(some 32), none, .fa 5 (.t 3)⟩,
   ⟨(some 33), none, .ld false 1 (.t 32)⟩,
   ⟨(some 34), none, .bin .neq (.t 31) (.t 33)⟩])
  (.cond (.t 34)
    (.seq (.reg [⟨(some 4), none, .mv (.c (.bool false))⟩])
    .ret)
    .skip))
  (.seq (.seq (.reg [⟨(some 35), none, .fa 6 (.t 2)⟩,
   ⟨(some 36), none, .ld false 1 (.t 35)⟩,
   ⟨(some 37), none, .fa 6 (.t 3)⟩,
   ⟨(some 38), none, .ld false 1 (.t 37)⟩,
   ⟨(some 39), none, .bin .neq (.t 36) (.t 38)⟩])
  (.cond (.t 39)
    (.seq (.reg [⟨(some 4), none, .mv (.c (.bool false))⟩])
    .ret)
    .skip))
  (.seq (.seq (.reg [⟨(some 40), none, .fa 7 (.t 2)⟩,
   ⟨(some 41), none, .ld false 1 (.t 40)⟩,
   ⟨(some 42), none, .fa 7 (.t 3)⟩,
   ⟨(some 43), none, .ld false 1 (.t 42)⟩,
   ⟨(some 44), none, .bin .neq (.t 41) (.t 43)⟩])
  (.cond (.t 44)
    (.seq (.reg [⟨(some 4), none, .mv (.c (.bool false))⟩])
    .ret)
    .skip))
  (.seq (.reg [⟨(some 4), none, .mv (.c (.bool true))⟩])
  .ret))))))))))
theorem k_laws_eqRec : FnOk Try.prog 48 45 rc_laws_eqRec [.t 4] := ⟨Try.f48, _, [], Try.func48, rfl, rfl, by kernel_rfl, by kernel_rfl, follows⟩
theorem ok_laws_eqRec : okF Try.prog 48 = true := by kernel_rfl
def rc_laws_eqItem : RC :=
  (.seq (.reg [⟨(some 2), none, .bx (.t 0)⟩,
   ⟨(some 3), none, .bx (.t 1)⟩,
   ⟨(some 4), none, .mv (.c (.bool false))⟩])
  (.seq (.seq (.reg [⟨(some 5), none, .fa 0 (.t 2)⟩,
   ⟨(some 6), none, .ld false 1 (.t 5)⟩,
   ⟨(some 7), none, .fa 0 (.t 3)⟩,
   ⟨(some 8), none, .ld false 1 (.t 7)⟩,
   ⟨(some 9), none, .bin .neq (.t 6) (.t 8)⟩])
  (.cond (.t 9)
    (.seq (.reg [⟨(some 4), none, .mv (.c (.bool false))⟩])
    .ret)
    .skip))
  (.seq (.seq (.reg [⟨(some 10), none, .fa 1 (.t 2)⟩,
   ⟨(some 11), none, .ld true 8 (.t 10)⟩,
   ⟨(some 12), none, .fa 1 (.t 3)⟩,
   ⟨(some 13), none, .ld true 8 (.t 12)⟩,
   ⟨(some 14), none, .cl (.c (.fn 48 [])) [(.t 11), (.t 13)]⟩,
   ⟨(some 15), none, .un .not (.t 14)⟩])
  (.cond (.t 15)
    (.seq (.reg [⟨(some 4), none, .mv (.c (.bool false))⟩])
    .ret)
    .skip))
  (.seq (.reg [⟨(some 4), none, .mv (.c (.bool true))⟩])
  .ret))))
theorem k_laws_eqItem : FnOk Try.prog 40 16 rc_laws_eqItem [.t 4] := ⟨Try.f40, _, [], Try.func40, rfl, rfl, by kernel_rfl, by kernel_rfl, follows⟩
theorem ok_laws_eqItem : okF Try.prog 40 = true := by kernel_rfl
def rc_laws_eqItemS : RC :=
  (.seq (.reg [⟨(some 4), none, .mv (.c (.bool false))⟩])
  (.seq (.seq (.reg [⟨(some 6), none, .mv (.t 0)⟩,
   ⟨(some 7), none, .lenl (.t 6)⟩,
   ⟨(some 8), none, .mv (.t 1)⟩,
   ⟨(some 9), none, .lenl (.t 8)⟩,
   ⟨(some 10), none, .bin .neq (.t 7) (.t 9)⟩])
  (.cond (.t 10)
    (.seq (.reg [⟨(some 4), none, .mv (.c (.bool false))⟩])
    .ret)
    .skip))
  (.seq (.seq (.reg [⟨(some 5), none, .mv (.c (.int .i64 0))⟩])
  (.blk 0 (.loop (.seq (.seq (.reg [⟨(some 11), none, .mv (.t 5)⟩,
     ⟨(some 12), none, .mv (.t 0)⟩,
     ⟨(some 13), none, .lenl (.t 12)⟩,
     ⟨(some 14), none, .bin .lss (.t 11) (.t 13)⟩])
    (.cond (.t 14)
      .skip
      (.exit 0)))
    (.seq (.blk 1 (.seq (.drw [⟨(some 17), none, .mv (.t 0)⟩,
      ⟨(some 18), none, .mv (.t 5)⟩,
      ⟨(some 19), none, .ia 9 (.t 17) (.t 18)⟩,
      ⟨(some 20), none, .ld true 9 (.t 19)⟩,
      ⟨(some 21), none, .mv (.t 1)⟩,
      ⟨(some 22), none, .mv (.t 5)⟩,
      ⟨(some 23), none, .ia 9 (.t 21) (.t 22)⟩,
      ⟨(some 24), none, .ld true 9 (.t 23)⟩,
      ⟨(some 25), none, .cl (.c (.fn 40 [])) [(.t 20), (.t 24)]⟩,
      ⟨(some 26), none, .un .not (.t 25)⟩] [.val [], .val [], .val [], .val [], .val [], .val [], .val [], .val [], .val [], .val []])
     (.cond (.t 26)
       (.seq (.reg [⟨(some 4), none, .mv (.c (.bool false))⟩])
       .ret)
       .skip)))
    (.reg [⟨(some 15), none, .mv (.t 5)⟩,
     ⟨(some 16), none, .bin .add (.t 15) (.c (.int .i64 1))⟩,
     ⟨(some 5), none, .mv (.t 16)⟩]))))))
  (.seq (.reg [⟨(some 4), none, .mv (.c (.bool true))⟩])
  .ret))))
theorem k_laws_eqItemS : FnOk Try.prog 11 27 rc_laws_eqItemS [.t 4] := ⟨Try.f11, _, [], Try.func11, rfl, rfl, by kernel_rfl, by kernel_rfl, follows⟩
theorem ok_laws_eqItemS : okF Try.prog 11 = true := by kernel_rfl
def rc_laws_markText : RC :=
  (.seq (.reg [⟨(some 2), none, .mv (.c (.str []))⟩])
  (.seq (.seq (.reg [⟨(some 4), none, .mv (.t 0)⟩,
   ⟨(some 5), none, .bin .leq (.t 4) (.c (.int .i64 0))⟩])
  (.cond (.t 5)
    (.seq (.reg [⟨(some 2), none, .mv (.c (.str [109, 48]))⟩])
    .ret)
    .skip))
  (.seq (.reg [⟨(some 3), none, .mv (.c (.str []))⟩])
  (.seq (.blk 0 (.loop (.seq (.seq (.reg [⟨(some 6), none, .mv (.t 0)⟩,
     ⟨(some 7), none, .bin .gtr (.t 6) (.c (.int .i64 0))⟩])
    (.cond (.t 7)
      .skip
      (.exit 0)))
    (.blk 1 (.seq (.reg [⟨(some 8), none, .mv (.t 0)⟩,
      ⟨(some 9), none, .bin .rem (.t 8) (.c (.int .i64 10))⟩,
      ⟨(some 10), none, .bin .add (.c (.int .i64 48)) (.t 9)⟩,
      ⟨(some 11), none, .cvi .u8 (.t 10)⟩,
      ⟨(some 12), none, .bs 1 [.int .u8 0] 1 [(0, (.t 11))]⟩,
      ⟨(some 13), none, .cvb (.t 12)⟩,
      ⟨(some 14), none, .mv (.t 3)⟩,
      ⟨(some 15), none, .bin .add (.t 13) (.t 14)⟩,
      ⟨(some 3), none, .mv (.t 15)⟩])
     (.reg [⟨(some 16), none, .mv (.t 0)⟩,
      ⟨(some 17), none, .bin .quo (.t 16) (.c (.int .i64 10))⟩,
      ⟨(some 0), none, .mv (.t 17)⟩]))))))
  (.seq (.reg [⟨(some 18), none, .mv (.t 3)⟩,
   ⟨(some 19), none, .bin .add (.c (.str [109])) (.t 18)⟩,
   ⟨(some 2), none, .mv (.t 19)⟩])
  .ret)))))
theorem k_laws_markText : FnOk Try.prog 41 20 rc_laws_markText [.t 2] := ⟨Try.f41, _, [], Try.func41, rfl, rfl, by kernel_rfl, by kernel_rfl, follows⟩
theorem ok_laws_markText : okF Try.prog 41 = true := by kernel_rfl
def rc_laws_markItemS : RC :=
  (.seq (.reg [⟨(some 4), none, .mv (.c (.int .i64 0))⟩])
  (.seq (.seq (.reg [⟨(some 5), none, .mv (.c (.int .i64 0))⟩])
  (.blk 0 (.loop (.seq (.seq (.reg [⟨(some 6), none, .mv (.t 5)⟩,
     ⟨(some 7), none, .mv (.t 0)⟩,
     ⟨(some 8), none, .lenl (.t 7)⟩,
     ⟨(some 9), none, .bin .lss (.t 6) (.t 8)⟩])
    (.cond (.t 9)
      .skip
      (.exit 0)))
    (.seq (.blk 1 (.seq (.reg [⟨(some 12), none, .mv (.t 0)⟩,
      ⟨(some 13), none, .mv (.t 5)⟩,
      ⟨(some 14), none, .mv (.t 1)⟩,
      ⟨(some 15), none, .ia 9 (.t 12) (.t 13)⟩,
      ⟨(some 16), none, .fa 0 (.t 15)⟩,
      ⟨none, none, .st 1 (.t 16) (.t 14)⟩])
     (.seq (.reg [⟨(some 17), none, .mv (.t 1)⟩,
      ⟨(some 18), none, .bin .add (.t 17) (.c (.int .i64 1))⟩,
      ⟨(some 1), none, .mv (.t 18)⟩])
     (.seq (.reg [⟨(some 19), none, .mv (.t 0)⟩,
      ⟨(some 20), none, .mv (.t 5)⟩,
      ⟨(some 21), none, .mv (.t 1)⟩,
      ⟨(some 22), none, .ia 9 (.t 19) (.t 20)⟩,
      ⟨(some 23), none, .fa 1 (.t 22)⟩,
      ⟨(some 24), none, .fa 0 (.t 23)⟩,
      ⟨none, none, .st 1 (.t 24) (.t 21)⟩])
     (.seq (.reg [⟨(some 25), none, .mv (.t 1)⟩,
      ⟨(some 26), none, .bin .add (.t 25) (.c (.int .i64 1))⟩,
      ⟨(some 1), none, .mv (.t 26)⟩])
     (.seq (.reg [⟨(some 27), none, .mv (.t 0)⟩,
      ⟨(some 28), none, .mv (.t 5)⟩,
      ⟨(some 29), none, .mv (.t 1)⟩,
      ⟨(some 30), none, .ia 9 (.t 27) (.t 28)⟩,
      ⟨(some 31), none, .fa 1 (.t 30)⟩,
      ⟨(some 32), none, .fa 1 (.t 31)⟩,
      ⟨none, none, .st 1 (.t 32) (.t 29)⟩])
     (.seq (.reg [⟨(some 33), none, .mv (.t 1)⟩,
      ⟨(some 34), none, .bin .add (.t 33) (.c (.int .i64 1))⟩,
      ⟨(some 1), none, .mv (.t 34)⟩])
     (.seq (.reg [⟨(some 35), none, .mv (.t 0)⟩,
      ⟨(some 36), none, .mv (.t 5)⟩,
      ⟨(some 37), none, .mv (.t 1)⟩,
      ⟨(some 38), none, .ia 9 (.t 35) (.t 36)⟩,
      ⟨(some 39), none, .fa 1 (.t 38)⟩,
      ⟨(some 40), none, .fa 2 (.t 39)⟩,
      ⟨none, none, .st 1 (.t 40) (.t 37)⟩])
     (.seq (.reg [⟨(some 41), none, .mv (.t 1)⟩,
      ⟨(some 42), none, .bin .add (.t 41) (.c (.int .i64 1))⟩,
      ⟨(some 1), none, .mv (.t 42)⟩])
     (.seq (.reg [⟨(some 43), none, .mv (.t 0)⟩,
      ⟨(some 44), none, .mv (.t 5)⟩,
      ⟨(some 45), none, .mv (.t 1)⟩,
      ⟨(some 46), none, .ia 9 (.t 43) (.t 44)⟩,
      ⟨(some 47), none, .fa 1 (.t 46)⟩,
      ⟨(some 48), none, .fa 3 (.t 47)⟩,
      ⟨none, none, .st 1 (.t 48) (.t 45)⟩])
     (.seq (.reg [⟨(some 49), none, .mv (.t 1)⟩,
      ⟨(some 50), none, .bin .add (.t 49) (.c (.int .i64 1))⟩,
      ⟨(some 1), none, .mv (.t 50)⟩])
     (.seq (.reg [⟨(some 51), none, .mv (.t 0)⟩,
      ⟨(some 52), none, .mv (.t 5)⟩,
      ⟨(some 53), none, .mv (.t 1)⟩,
      ⟨(some 54), none, .ia 9 (.t 51) (.t 52)⟩,
      ⟨(some 55), none, .fa 1 (.t 54)⟩,
      ⟨(some 56), none, .fa 4 (.t 55)⟩,
      ⟨none, none, .st 1 (.t 56) (.t 53)⟩])
     (.seq (.reg [⟨(some 57), none, .mv (.t 1)⟩,
      ⟨(some 58), none, .bin .add (.t 57) (.c (.int .i64 1))⟩,
      ⟨(some 1), none, .mv (.t 58)⟩])
     (.seq (.reg [⟨(some 59), none, .mv (.t 0)⟩,
      ⟨(some 60), none, .mv (.t 5)⟩,
      ⟨(some 61), none, .mv (.t 1)⟩,
      ⟨(some 62), none, .cl (.c (.fn 41 [])) [(.t 61)]⟩,
      ⟨(some 63), none, .ia 9 (.t 59) (.t 60)⟩,
      ⟨(some 64), none, .fa 1 (.t 63)⟩,
      ⟨(some 65), none, .fa 5 (.t 64)⟩,
      ⟨none, none, .st 1 (.t 65) (.t 62)⟩])
     (.seq (.reg [⟨(some 66), none, .mv (.t 1)⟩,
      ⟨(some 67), none, .bin .add (.t 66) (.c (.int .i64 1))⟩,
      ⟨(some 1), none, .mv (.t 67)⟩])
     (.seq (.reg [⟨(some 68), none, .mv (.t 0)⟩,
      ⟨(some 69), none, .mv (.t 5)⟩,
      ⟨(some 70), none, .mv (.t 1)⟩,
      ⟨(some 71), none, .cl (.c (.fn 41 [])) [(.t 70)]⟩,
      ⟨(some 72), none, .ia 9 (.t 68) (.t 69)⟩,
      ⟨(some 73), none, .fa 1 (.t 72)⟩,
      ⟨(some 74), none, .fa 6 (.t 73)⟩,
      ⟨none, none, .st 1 (.t 74) (.t 71)⟩])
     (.seq (.reg [⟨(some 75), none, .mv (.t 1)⟩,
      ⟨(some 76), none, .bin .add (.t 75) (.c (.int .i64 1))⟩,
      ⟨(some 1), none, .mv (.t 76)⟩])
     (.seq (.reg [⟨(some 77), none, .mv (.t 0)⟩,
      ⟨(some 78), none, .mv (.t 5)⟩,
      ⟨(some 79), none, .mv (.t 1)⟩,
      ⟨(some 80), none, .cl (.c (.fn 41 [])) [(.t 79)]⟩,
      ⟨(some 81), none, .ia 9 (.t 77) (.t 78)⟩,
      ⟨(some 82), none, .fa 1 (.t 81)⟩,
      ⟨(some 83), none, .fa 7 (.t 82)⟩,
      ⟨none, none, .st 1 (.t 83) (.t 80)⟩])
     (.reg [⟨(some 84), none, .mv (.t 1)⟩,
      ⟨(some 85), none, .bin .add (.t 84) (.c (.int .i64 1))⟩,
      ⟨(some 1), none, .mv (.t 85)⟩])))))))))))))))))))
    (.reg [⟨(some 10), none, .mv (.t 5)⟩,
     ⟨(some 11), none, .bin .add (.t 10) (.c (.int .i64 1))⟩,
     ⟨(some 5), none, .mv (.t 11)⟩]))))))
  (.seq (.reg [⟨(some 86), none, .mv (.t 1)⟩,
   ⟨(some 4), none, .mv (.t 86)⟩])
  .ret)))
theorem k_laws_markItemS : FnOk Try.prog 12 87 rc_laws_markItemS [.t 4] := ⟨Try.f12, _, [], Try.func12, rfl, rfl, by kernel_rfl, by kernel_rfl, follows⟩
theorem ok_laws_markItemS : okF Try.prog 12 = true := by kernel_rfl
def rc_laws_toBoolS : RC :=
  (.seq (.reg [⟨(some 2), none, .mv (.c (.nils))⟩])
  (.seq (.reg [⟨(some 5), none, .mv (.t 0)⟩,
   ⟨(some 6), none, .lenl (.t 5)⟩,
   ⟨(some 7), none, .ms 1 [.bool false] 1 (.t 6) (.t 6)⟩,
   ⟨(some 3), none, .mv (.t 7)⟩])
  (.seq (.seq (.reg [⟨(some 4), none, .mv (.c (.int .i64 0))⟩])
  (.blk 0 (.loop (.seq (.seq (.reg [⟨(some 8), none, .mv (.t 4)⟩,
     ⟨(some 9), none, .mv (.t 0)⟩,
     ⟨(some 10), none, .lenl (.t 9)⟩,
     ⟨(some 11), none, .bin .lss (.t 8) (.t 10)⟩])
    (.cond (.t 11)
      .skip
      (.exit 0)))
    (.seq (.blk 1 (.reg [⟨(some 14), none, .mv (.t 3)⟩,
      ⟨(some 15), none, .mv (.t 4)⟩,
      ⟨(some 16), none, .mv (.t 0)⟩,
      ⟨(some 17), none, .mv (.t 4)⟩,
      ⟨(some 18), none, .ia 1 (.t 16) (.t 17)⟩,
      ⟨(some 19), none, .ld false 1 (.t 18)⟩,
      ⟨(some 20), none, .ia 1 (.t 14) (.t 15)⟩,
      ⟨none, none, .st 1 (.t 20) (.t 19)⟩]))
    (.reg [⟨(some 12), none, .mv (.t 4)⟩,
     ⟨(some 13), none, .bin .add (.t 12) (.c (.int .i64 1))⟩,
     ⟨(some 4), none, .mv (.t 13)⟩]))))))
  (.seq (.reg [⟨(some 21), none, .mv (.t 3)⟩,
   ⟨(some 2), none, .mv (.t 21)⟩])
  .ret))))
theorem k_laws_toBoolS : FnOk Try.prog 16 22 rc_laws_toBoolS [.t 2] := ⟨Try.f16, _, [], Try.func16, rfl, rfl, by kernel_rfl, by kernel_rfl, follows⟩
theorem ok_laws_toBoolS : okF Try.prog 16 = true := by kernel_rfl
def rc_laws_eqBoolS : RC :=
  (.seq (.reg [⟨(some 4), none, .mv (.c (.bool false))⟩])
  (.seq (.seq (.reg [⟨(some 6), none, .mv (.t 0)⟩,
   ⟨(some 7), none, .lenl (.t 6)⟩,
   ⟨(some 8), none, .mv (.t 1)⟩,
   ⟨(some 9), none, .lenl (.t 8)⟩,
   ⟨(some 10), none, .bin .neq (.t 7) (.t 9)⟩])
  (.cond (.t 10)
    (.seq (.reg [⟨(some 4), none, .mv (.c (.bool false))⟩])
    .ret)
    .skip))
  (.seq (.seq (.reg [⟨(some 5), none, .mv (.c (.int .i64 0))⟩])
  (.blk 0 (.loop (.seq (.seq (.reg [⟨(some 11), none, .mv (.t 5)⟩,
     ⟨(some 12), none, .mv (.t 0)⟩,
     ⟨(some 13), none, .lenl (.t 12)⟩,
     ⟨(some 14), none, .bin .lss (.t 11) (.t 13)⟩])
    (.cond (.t 14)
      .skip
      (.exit 0)))
    (.seq (.blk 1 (.seq (.drw [⟨(some 17), none, .mv (.t 0)⟩,
      ⟨(some 18), none, .mv (.t 5)⟩,
      ⟨(some 19), none, .ia 1 (.t 17) (.t 18)⟩,
      ⟨(some 20), none, .ld false 1 (.t 19)⟩,
      ⟨(some 21), none, .mv (.t 1)⟩,
      ⟨(some 22), none, .mv (.t 5)⟩,
      ⟨(some 23), none, .ia 1 (.t 21) (.t 22)⟩,
      ⟨(some 24), none, .ld false 1 (.t 23)⟩,
      ⟨(some 25), none, .eqb true (.t 20) (.t 24)⟩] [.val [], .val [], .val [], .val [], .val [], .val [], .val [], .val [], .val []])
     (.cond (.t 25)
       (.seq (.reg [⟨(some 4), none, .mv (.c (.bool false))⟩])
       .ret)
       .skip)))
    (.reg [⟨(some 15), none, .mv (.t 5)⟩,
     ⟨(some 16), none, .bin .add (.t 15) (.c (.int .i64 1))⟩,
     ⟨(some 5), none, .mv (.t 16)⟩]))))))
  (.seq (.reg [⟨(some 4), none, .mv (.c (.bool true))⟩])
  .ret))))
theorem k_laws_eqBoolS : FnOk Try.prog 19 26 rc_laws_eqBoolS [.t 4] := ⟨Try.f19, _, [], Try.func19, rfl, rfl, by kernel_rfl, by kernel_rfl, follows⟩
theorem ok_laws_eqBoolS : okF Try.prog 19 = true := by kernel_rfl
def rc_laws_markBoolS : RC :=
  (.seq (.reg [⟨(some 4), none, .mv (.c (.int .i64 0))⟩])
  (.seq (.seq (.reg [⟨(some 5), none, .mv (.c (.int .i64 0))⟩])
  (.blk 0 (.loop (.seq (.seq (.reg [⟨(some 6), none, .mv (.t 5)⟩,
     ⟨(some 7), none, .mv (.t 0)⟩,
     ⟨(some 8), none, .lenl (.t 7)⟩,
     ⟨(some 9), none, .bin .lss (.t 6) (.t 8)⟩])
    (.cond (.t 9)
      .skip
      (.exit 0)))
    (.seq (.blk 1 (.seq (.reg [⟨(some 12), none, .mv (.t 0)⟩,
      ⟨(some 13), none, .mv (.t 5)⟩,
      ⟨(some 14), none, .mv (.t 1)⟩,
      ⟨(some 15), none, .bin .rem (.t 14) (.c (.int .i64 3))⟩,
      ⟨(some 16), none, .bin .eql (.t 15) (.c (.int .i64 0))⟩,
      ⟨(some 17), none, .ia 1 (.t 12) (.t 13)⟩,
      ⟨none, none, .st 1 (.t 17) (.t 16)⟩])
     (.reg [⟨(some 18), none, .mv (.t 1)⟩,
      ⟨(some 19), none, .bin .add (.t 18) (.c (.int .i64 1))⟩,
      ⟨(some 1), none, .mv (.t 19)⟩])))
    (.reg [⟨(some 10), none, .mv (.t 5)⟩,
     ⟨(some 11), none, .bin .add (.t 10) (.c (.int .i64 1))⟩,
     ⟨(some 5), none, .mv (.t 11)⟩]))))))
  (.seq (.reg [⟨(some 20), none, .mv (.t 1)⟩,
   ⟨(some 4), none, .mv (.t 20)⟩])
  .ret)))
theorem k_laws_markBoolS : FnOk Try.prog 20 21 rc_laws_markBoolS [.t 4] := ⟨Try.f20, _, [], Try.func20, rfl, rfl, by kernel_rfl, by kernel_rfl, follows⟩
theorem ok_laws_markBoolS : okF Try.prog 20 = true := by kernel_rfl
def rc_spec_Without : RC :=
  (.seq (.reg [⟨(some 4), none, .mv (.c (.nils))⟩])
  (.seq (.reg [⟨(some 7), none, .mv (.c (.nils))⟩,
   ⟨(some 5), none, .mv (.t 7)⟩])
  (.seq (.seq (.reg [⟨(some 6), none, .mv (.c (.int .i64 0))⟩])
  (.blk 0 (.loop (.seq (.seq (.reg [⟨(some 8), none, .mv (.t 6)⟩,
     ⟨(some 9), none, .mv (.t 0)⟩,
     ⟨(some 10), none, .lenl (.t 9)⟩,
     ⟨(some 11), none, .bin .lss (.t 8) (.t 10)⟩])
    (.cond (.t 11)
      .skip
      (.exit 0)))
    (.seq (.blk 1 (.seq (.reg [⟨(some 14), none, .mv (.t 6)⟩,
      ⟨(some 15), none, .mv (.t 1)⟩,
      ⟨(some 16), none, .lenl (.t 15)⟩,
      ⟨(some 17), none, .bin .geq (.t 14) (.t 16)⟩,
      ⟨(some 18), none, .mv (.t 17)⟩,
      ⟨(some 19), (some (18, false)), .mv (.t 1)⟩,
      ⟨(some 20), (some (18, false)), .mv (.t 6)⟩,
      ⟨(some 21), (some (18, false)), .ia 1 (.t 19) (.t 20)⟩,
      ⟨(some 22), (some (18, false)), .ld false 1 (.t 21)⟩,
      ⟨(some 23), (some (18, false)), .un .not (.t 22)⟩,
      ⟨(some 24), none, .pick (.t 18) (.c (.bool true)) (.t 23)⟩])
     (.cond (.t 24)
       (.reg [⟨(some 25), none, .mv (.t 5)⟩,
        ⟨(some 26), none, .mv (.t 0)⟩,
        ⟨(some 27), none, .mv (.t 6)⟩,
        ⟨(some 28), none, .ia 9 (.t 26) (.t 27)⟩,
        ⟨(some 29), none, .ld true 9 (.t 28)⟩,
        ⟨(some 30), none, .bs 9 [.int .i64 0, .int .i64 0, .int .i64 0, .int .i64 0, .int .i64 0, .int .i64 0, .str [], .str [], .str []] 1 [(0, (.t 29))]⟩,
        ⟨(some 31), none, .app 9 96 (.t 25) (.t 30)⟩,
        ⟨(some 5), none, .mv (.t 31)⟩])
       .skip)))
    (.reg [⟨(some 12), none, .mv (.t 6)⟩,
     ⟨(some 13), none, .bin .add (.t 12) (.c (.int .i64 1))⟩,
     ⟨(some 6), none, .mv (.t 13)⟩]))))))
  (.seq (.reg [⟨(some 32), none, .mv (.t 5)⟩,
   ⟨(some 4), none, .mv (.t 32)⟩])
  .ret))))
theorem k_spec_Without : FnOk Try.prog 44 33 rc_spec_Without [.t 4] := ⟨Try.f44, _, [], Try.func44, rfl, rfl, by kernel_rfl, by kernel_rfl, follows⟩
theorem ok_spec_Without : okF Try.prog 44 = true := by kernel_rfl
def rc_spec_l01In : RC :=
  (.seq (.reg [⟨(some 6), none, .mv (.c (.bool false))⟩])
  (.seq (.reg [⟨(some 7), none, .mv (.t 0)⟩,
   ⟨(some 8), none, .mv (.t 1)⟩,
   ⟨(some 9), none, .bin .geq (.t 7) (.t 8)⟩,
   ⟨(some 10), none, .mv (.t 9)⟩,
   ⟨(some 11), (some (10, true)), .mv (.t 0)⟩,
   ⟨(some 12), (some (10, true)), .mv (.t 2)⟩,
   ⟨(some 13), (some (10, true)), .bin .leq (.t 11) (.t 12)⟩,
   ⟨(some 14), none, .pick (.t 10) (.t 13) (.c (.bool false))⟩,
   ⟨(some 6), none, .mv (.t 14)⟩])
  .ret))
theorem k_spec_l01In : FnOk Try.prog 53 15 rc_spec_l01In [.t 6] := ⟨Try.f53, _, [], Try.func53, rfl, rfl, by kernel_rfl, by kernel_rfl, follows⟩
theorem ok_spec_l01In : okF Try.prog 53 = true := by kernel_rfl
def rc_spec_WordOk : RC :=
  (.seq (.reg [⟨(some 2), none, .mv (.c (.bool false))⟩])
  (.seq (.seq (.reg [⟨(some 3), none, .mv (.c (.int .i64 0))⟩])
  (.blk 0 (.loop (.seq (.seq (.reg [⟨(some 4), none, .mv (.t 3)⟩,
     ⟨(some 5), none, .mv (.t 0)⟩,
     ⟨(some 6), none, .lens (.t 5)⟩,
     ⟨(some 7), none, .bin .lss (.t 4) (.t 6)⟩])
    (.cond (.t 7)
      .skip
      (.exit 0)))
    (.seq (.blk 1 (.seq (.reg [⟨(some 10), none, .mv (.t 0)⟩,
      ⟨(some 11), none, .mv (.t 3)⟩,
      ⟨(some 12), none, .idx (.t 10) (.t 11)⟩,
      ⟨(some 13), none, .bin .lss (.t 12) (.c (.int .u8 97))⟩,
      ⟨(some 14), none, .mv (.t 13)⟩,
      ⟨(some 15), (some (14, false)), .mv (.t 0)⟩,
      ⟨(some 16), (some (14, false)), .mv (.t 3)⟩,
      ⟨(some 17), (some (14, false)), .idx (.t 15) (.t 16)⟩,
      ⟨(some 18), (some (14, false)), .bin .gtr (.t 17) (.c (.int .u8 122))⟩,
      ⟨(some 19), none, .pick (.t 14) (.c (.bool true)) (.t 18)⟩])
     (.cond (.t 19)
       (.seq (.reg [⟨(some 2), none, .mv (.c (.bool false))⟩])
       .ret)
       .skip)))
    (.reg [⟨(some 8), none, .mv (.t 3)⟩,
     ⟨(some 9), none, .bin .add (.t 8) (.c (.int .i64 1))⟩,
     ⟨(some 3), none, .mv (.t 9)⟩]))))))
  (.seq (.reg [⟨(some 20), none, .mv (.t 0)⟩,
   ⟨(some 21), none, .lens (.t 20)⟩,
   ⟨(some 22), none, .cl (.c (.fn 53 [])) [(.t 21), (.c (.int .i64 1)), (.c (.int .i64 8))]⟩,
   ⟨(some 2), none, .mv (.t 22)⟩])
  .ret)))
theorem k_spec_WordOk : FnOk Try.prog 76 23 rc_spec_WordOk [.t 2] := ⟨Try.f76, _, [], Try.func76, rfl, rfl, by kernel_rfl, by kernel_rfl, follows⟩
theorem ok_spec_WordOk : okF Try.prog 76 = true := by kernel_rfl
def rc_spec_RecOk : RC :=
  (.seq (.reg [⟨(some 1), none, .bx (.t 0)⟩,
   ⟨(some 2), none, .mv (.c (.bool false))⟩])
  (.seq (.seq (.reg [⟨(some 6), none, .fa 0 (.t 1)⟩,
   ⟨(some 7), none, .ld false 1 (.t 6)⟩,
   ⟨(some 8), none, .cl (.c (.fn 53 [])) [(.t 7), (.c (.int .i64 1)), (.c (.int .i64 5))]⟩,
   ⟨(some 9), none, .un .not (.t 8)⟩,
   ⟨(some 10), none, .mv (.t 9)⟩,
   ⟨(some 11), (some (10, false)), .fa 1 (.t 1)⟩,
   ⟨(some 12), (some (10, false)), .ld false 1 (.t 11)⟩,
   ⟨(some 13), (some (10, false)), .cl (.c (.fn 53 [])) [(.t 12), (.c (.int .i64 1)), (.c (.int .i64 9999))]⟩,
   ⟨(some 14), (some (10, false)), .un .not (.t 13)⟩,
   ⟨(some 15), none, .pick (.t 10) (.c (.bool true)) (.t 14)⟩])
  (.cond (.t 15)
    (.seq (.reg [⟨(some 2), none, .mv (.c (.bool false))⟩])
    .ret)
    .skip))
  (.seq (.reg [⟨(some 16), none, .fa 0 (.t 1)⟩,
   ⟨(some 17), none, .ld false 1 (.t 16)⟩,
   ⟨(some 18), none, .bin .eql (.t 17) (.c (.int .i64 1))⟩,
   ⟨(some 3), none, .mv (.t 18)⟩])
  (.seq (.reg [⟨(some 19), none, .fa 0 (.t 1)⟩,
   ⟨(some 20), none, .ld false 1 (.t 19)⟩,
   ⟨(some 21), none, .bin .eql (.t 20) (.c (.int .i64 3))⟩,
   ⟨(some 22), none, .mv (.t 21)⟩,
   ⟨(some 23), (some (22, false)), .fa 0 (.t 1)⟩,
   ⟨(some 24), (some (22, false)), .ld false 1 (.t 23)⟩,
   ⟨(some 25), (some (22, false)), .bin .eql (.t 24) (.c (.int .i64 4))⟩,
   ⟨(some 26), none, .pick (.t 22) (.c (.bool true)) (.t 25)⟩,
   ⟨(some 27), none, .mv (.t 26)⟩,
   ⟨(some 28), (some (27, false)), .fa 0 (.t 1)⟩,
   ⟨(some 29), (some (27, false)), .ld false 1 (.t 28)⟩,
   ⟨(some 30), (some (27, false)), .bin .eql (.t 29) (.c (.int .i64 5))⟩,
   ⟨(some 31), none, .pick (.t 27) (.c (.bool true)) (.t 30)⟩,
   ⟨(some 4), none, .mv (.t 31)⟩])
  (.seq (.reg [⟨(some 32), none, .fa 0 (.t 1)⟩,
   ⟨(some 33), none, .ld false 1 (.t 32)⟩,
   ⟨(some 34), none, .bin .eql (.t 33) (.c (.int .i64 3))⟩,
   ⟨(some 35), none, .mv (.t 34)⟩,
   ⟨(some 36), (some (35, false)), .fa 0 (.t 1)⟩,
   ⟨(some 37), (some (35, false)), .ld false 1 (.t 36)⟩,
   ⟨(some 38), (some (35, false)), .bin .eql (.t 37) (.c (.int .i64 4))⟩,
   ⟨(some 39), none, .pick (.t 35) (.c (.bool true)) (.t 38)⟩,
   ⟨(some 5), none, .mv (.t 39)⟩])
  (.seq (.seq (.reg [⟨(some 40), none, .mv (.t 3)⟩,
   ⟨(some 41), none, .mv (.t 40)⟩,
   ⟨(some 42), (some (41, true)), .fa 5 (.t 1)⟩,
   ⟨(some 43), (some (41, true)), .ld false 1 (.t 42)⟩,
   ⟨(some 44), (some (41, true)), .cl (.c (.fn 76 [])) [(.t 43)]⟩,
   ⟨(some 45), (some (41, true)), .un .not (.t 44)⟩,
   ⟨(some 46), (some (41, true)), .mv (.t 45)⟩,
   ⟨(some 47), (some (46, false)), .fa 6 (.t 1)⟩,
   ⟨(some 48), (some (46, false)), .ld false 1 (.t 47)⟩,
   ⟨(some 49), (some (46, false)), .cl (.c (.fn 76 [])) [(.t 48)]⟩,
   ⟨(some 50), (some (46, false)), .un .not (.t 49)⟩,
   ⟨(some 51), (some (41, true)), .pick (.t 46) (.c (.bool true)) (.t 50)⟩,
   ⟨(some 52), (some (41, true)), .mv (.t 51)⟩,
   ⟨(some 53), (some (52, false)), .fa 3 (.t 1)⟩,
   ⟨(some 54), (some (52, false)), .ld false 1 (.t 53)⟩,
   ⟨(some 55), (some (52, false)), .cl (.c (.fn 53 [])) [(.t 54), (.c (.int .i64 1)), (.c (.int .i64 10000))]⟩,
   ⟨(some 56), (some (52, false)), .un .not (.t 55)⟩,
   ⟨(some 57), (some (41, true)), .pick (.t 52) (.c (.bool true)) (.t 56)⟩,
   ⟨(some 58), none, .pick (.t 41) (.t 57) (.c (.bool false))⟩,
   ⟨(some 59), none, .mv (.t 58)⟩,
   ⟨(some 60), (some (59, false)), .mv (.t 3)⟩,
   ⟨(some 61), (some (59, false)), .un .not (.t 60)⟩,
   ⟨(some 62), (some (59, false)), .mv (.t 61)⟩,
   ⟨(some 63), (some (62, true)), .fa 5 (.t 1)⟩,
   ⟨(some 64), (some (62, true)), .ld false 1 (.t 63)⟩,
   ⟨(some 65), (some (62, true)), .bin .neq (.t 64) (.c (.str []))⟩,
   ⟨(some 66), (some (62, true)), .mv (.t 65)⟩,
   ⟨(some 67), (some (66, false)), .fa 6 (.t 1)⟩,
   ⟨(some 68), (some (66, false)), .ld false 1 (.t 67)⟩,
   ⟨(some 69), (some (66, false)), .bin .neq (.t 68) (.c (.str []))⟩,
   ⟨(some 70), (some (62, true)), .pick (.t 66) (.c (.bool true)) (.t 69)⟩,
   ⟨(some 71), (some (62, true)), .mv (.t 70)⟩,
   ⟨(some 72), (some (71, false)), .fa 3 (.t 1)⟩,
   ⟨(some 73), (some (71, false)), .ld false 1 (.t 72)⟩,
   ⟨(some 74), (some (71, false)), .bin .neq (.t 73) (.c (.int .i64 0))⟩,
   ⟨(some 75), (some (62, true)), .pick (.t 71) (.c (.bool true)) (.t 74)⟩,
   ⟨(some 76), (some (59, false)), .pick (.t 62) (.t 75) (.c (.bool false))⟩,
   ⟨(some 77), none, .pick (.t 59) (.c (.bool true)) (.t 76)⟩])
  (.cond (.t 77)
    (.seq (.reg [⟨(some 2), none, .mv (.c (.bool false))⟩])
    .ret)
    .skip))
  (.seq (.seq (.reg [⟨(some 78), none, .mv (.t 4)⟩,
   ⟨(some 79), none, .mv (.t 78)⟩,
   ⟨(some 80), (some (79, true)), .fa 2 (.t 1)⟩,
   ⟨(some 81), (some (79, true)), .ld false 1 (.t 80)⟩,
   ⟨(some 82), (some (79, true)), .cl (.c (.fn 53 [])) [(.t 81), (.c (.int .i64 1)), (.c (.int .i64 9999))]⟩,
   ⟨(some 83), (some (79, true)), .un .not (.t 82)⟩,
   ⟨(some 84), none, .pick (.t 79) (.t 83) (.c (.bool false))⟩,
   ⟨(some 85), none, .mv (.t 84)⟩,
   ⟨(some 86), (some (85, false)), .mv (.t 4)⟩,
   ⟨(some 87), (some (85, false)), .un .not (.t 86)⟩,
   ⟨(some 88), (some (85, false)), .mv (.t 87)⟩,
   ⟨(some 89), (some (88, true)), .fa 2 (.t 1)⟩,
   ⟨(some 90), (some (88, true)), .ld false 1 (.t 89)⟩,
   ⟨(some 91), (some (88, true)), .bin .neq (.t 90) (.c (.int .i64 0))⟩,
   ⟨(some 92), (some (85, false)), .pick (.t 88) (.t 91) (.c (.bool false))⟩,
   ⟨(some 93), none, .pick (.t 85) (.c (.bool true)) (.t 92)⟩])
  (.cond (.t 93)
    (.seq (.reg [⟨(some 2), none, .mv (.c (.bool false))⟩])
    .ret)
    .skip))
  (.seq (.seq (.reg [⟨(some 94), none, .mv (.t 5)⟩,
   ⟨(some 95), none, .mv (.t 94)⟩,
   ⟨(some 96), (some (95, true)), .fa 4 (.t 1)⟩,
   ⟨(some 97), (some (95, true)), .ld false 1 (.t 96)⟩,
   ⟨(some 98), (some (95, true)), .cl (.c (.fn 53 [])) [(.t 97), (.c (.int .i64 0)), (.c (.int .i64 7))]⟩,
   ⟨(some 99), (some (95, true)), .un .not (.t 98)⟩,
   ⟨(some 100), none, .pick (.t 95) (.t 99) (.c (.bool false))⟩,
   ⟨(some 101), none, .mv (.t 100)⟩,
   ⟨(some 102), (some (101, false)), .mv (.t 5)⟩,
   ⟨(some 103), (some (101, false)), .un .not (.t 102)⟩,
   ⟨(some 104), (some (101, false)), .mv (.t 103)⟩,
   ⟨(some 105), (some (104, true)), .fa 4 (.t 1)⟩,
   ⟨(some 106), (some (104, true)), .ld false 1 (.t 105)⟩,
   ⟨(some 107), (some (104, true)), .bin .neq (.t 106) (.c (.int .i64 0))⟩,
   ⟨(some 108), (some (101, false)), .pick (.t 104) (.t 107) (.c (.bool false))⟩,
   ⟨(some 109), none, .pick (.t 101) (.c (.bool true)) (.t 108)⟩])
  (.cond (.t 109)
    (.seq (.reg [⟨(some 2), none, .mv (.c (.bool false))⟩])
    .ret)
    .skip))
  (.seq (.seq (.reg [⟨(some 110), none, .fa 0 (.t 1)⟩,
   ⟨(some 111), none, .ld false 1 (.t 110)⟩,
   ⟨(some 112), none, .bin .eql (.t 111) (.c (.int .i64 3))⟩])
  (.cond (.t 112)
    (.seq (.reg [⟨(some 113), none, .fa 7 (.t 1)⟩,
     ⟨(some 114), none, .ld false 1 (.t 113)⟩,
     ⟨(some 115), none, .lens (.t 114)⟩,
     ⟨(some 116), none, .bin .leq (.t 115) (.c (.int .i64 100))⟩,
     ⟨(some 2), none, .mv (.t 116)⟩])
    .ret)
    .skip))
  (.seq (.reg [⟨(some 117), none, .fa 7 (.t 1)⟩,
   ⟨(some 118), none, .ld false 1 (.t 117)⟩,
   ⟨(some 119), none, .bin .eql (.t 118) (.c (.str []))⟩,
   ⟨(some 2), none, .mv (.t 119)⟩])
  .ret))))))))))
theorem k_spec_RecOk : FnOk Try.prog 54 120 rc_spec_RecOk [.t 2] := ⟨Try.f54, _, [], Try.func54, rfl, rfl, by kernel_rfl, by kernel_rfl, follows⟩
theorem ok_spec_RecOk : okF Try.prog 54 = true := by kernel_rfl
def rc_spec_ItemsOk : RC :=
  (.seq (.reg [⟨(some 2), none, .mv (.c (.bool false))⟩])
  (.seq (.seq (.reg [⟨(some 3), none, .mv (.c (.int .i64 0))⟩])
  (.blk 0 (.loop (.seq (.seq (.reg [⟨(some 5), none, .mv (.t 3)⟩,
     ⟨(some 6), none, .mv (.t 0)⟩,
     ⟨(some 7), none, .lenl (.t 6)⟩,
     ⟨(some 8), none, .bin .lss (.t 5) (.t 7)⟩])
    (.cond (.t 8)
      .skip
      (.exit 0)))
    (.seq (.blk 1 (.seq (.seq (.reg [⟨(some 11), none, .mv (.t 0)⟩,
      ⟨(some 12), none, .mv (.t 3)⟩,
      ⟨(some 13), none, .ia 9 (.t 11) (.t 12)⟩,
      ⟨(some 14), none, .fa 0 (.t 13)⟩,
      ⟨(some 15), none, .ld false 1 (.t 14)⟩,
      ⟨(some 16), none, .cl (.c (.fn 53 [])) [(.t 15), (.c (.int .i64 1)), (.c (.int .i64 1000000000))]⟩,
      ⟨(some 17), none, .un .not (.t 16)⟩,
      ⟨(some 18), none, .mv (.t 17)⟩,
      ⟨(some 19), (some (18, false)), .mv (.t 0)⟩,
      ⟨(some 20), (some (18, false)), .mv (.t 3)⟩,
      ⟨(some 21), (some (18, false)), .ia 9 (.t 19) (.t 20)⟩,
      ⟨(some 22), (some (18, false)), .fa 1 (.t 21)⟩,
      ⟨(some 23), (some (18, false)), .ld true 8 (.t 22)⟩,
      ⟨(some 24), (some (18, false)), .cl (.c (.fn 54 [])) [(.t 23)]⟩,
      ⟨(some 25), (some (18, false)), .un .not (.t 24)⟩,
      ⟨(some 26), none, .pick (.t 18) (.c (.bool true)) (.t 25)⟩])
     (.cond (.t 26)
       (.seq (.reg [⟨(some 2), none, .mv (.c (.bool false))⟩])
       .ret)
       .skip))
     (.seq (.reg [⟨(some 4), none, .mv (.c (.int .i64 0))⟩])
     (.blk 2 (.loop (.seq (.seq (.reg [⟨(some 27), none, .mv (.t 4)⟩,
        ⟨(some 28), none, .mv (.t 3)⟩,
        ⟨(some 29), none, .bin .lss (.t 27) (.t 28)⟩])
       (.cond (.t 29)
         .skip
         (.exit 2)))
       (.seq (.blk 3 (.seq (.drw [⟨(some 32), none, .mv (.t 0)⟩,
         ⟨(some 33), none, .mv (.t 4)⟩,
         ⟨(some 34), none, .ia 9 (.t 32) (.t 33)⟩,
         ⟨(some 35), none, .fa 0 (.t 34)⟩,
         ⟨(some 36), none, .ld false 1 (.t 35)⟩,
         ⟨(some 37), none, .mv (.t 0)⟩,
         ⟨(some 38), none, .mv (.t 3)⟩,
         ⟨(some 39), none, .ia 9 (.t 37) (.t 38)⟩,
         ⟨(some 40), none, .fa 0 (.t 39)⟩,
         ⟨(some 41), none, .ld false 1 (.t 40)⟩,
         ⟨(some 42), none, .bin .eql (.t 36) (.t 41)⟩,
         ⟨(some 43), none, .mv (.t 42)⟩,
         ⟨(some 44), (some (43, true)), .mv (.t 0)⟩,
         ⟨(some 45), (some (43, true)), .mv (.t 4)⟩,
         ⟨(some 46), (some (43, true)), .ia 9 (.t 44) (.t 45)⟩,
         ⟨(some 47), (some (43, true)), .ld true 9 (.t 46)⟩,
         ⟨(some 48), (some (43, true)), .mv (.t 0)⟩,
         ⟨(some 49), (some (43, true)), .mv (.t 3)⟩,
         ⟨(some 50), (some (43, true)), .ia 9 (.t 48) (.t 49)⟩,
         ⟨(some 51), (some (43, true)), .ld true 9 (.t 50)⟩,
         ⟨(some 52), (some (43, true)), .equ true [(0, 1), (1, 1), (2, 1), (3, 1), (4, 1), (5, 1), (6, 2), (7, 2), (8, 2)] (.t 47) (.t 51)⟩,
         ⟨(some 53), none, .pick (.t 43) (.t 52) (.c (.bool false))⟩] [.val [], .val [], .val [], .val [], .val [], .val [], .val [], .val [], .val [], .val [], .val [], .val [], .val [], .val [], .val [], .val [], .val [], .val [], .val [], .val [], .val [], .val []])
        (.cond (.t 53)
          (.seq (.reg [⟨(some 2), none, .mv (.c (.bool false))⟩])
          .ret)
          .skip)))
       (.reg [⟨(some 30), none, .mv (.t 4)⟩,
        ⟨(some 31), none, .bin .add (.t 30) (.c (.int .i64 1))⟩,
        ⟨(some 4), none, .mv (.t 31)⟩]))))))))
    (.reg [⟨(some 9), none, .mv (.t 3)⟩,
     ⟨(some 10), none, .bin .add (.t 9) (.c (.int .i64 1))⟩,
     ⟨(some 3), none, .mv (.t 10)⟩]))))))
  (.seq (.reg [⟨(some 54), none, .mv (.t 0)⟩,
   ⟨(some 55), none, .lenl (.t 54)⟩,
   ⟨(some 56), none, .bin .leq (.t 55) (.c (.int .i64 200))⟩,
   ⟨(some 2), none, .mv (.t 56)⟩])
  .ret)))
theorem k_spec_ItemsOk : FnOk Try.prog 27 57 rc_spec_ItemsOk [.t 2] := ⟨Try.f27, _, [], Try.func27, rfl, rfl, by kernel_rfl, by kernel_rfl, follows⟩
theorem ok_spec_ItemsOk : okF Try.prog 27 = true := by kernel_rfl
def rc_spec_l07Best : RC :=
  (.seq (.reg [⟨(some 8), none, .al [.int .i64 0, .int .i64 0, .int .i64 0, .int .i64 0, .int .i64 0, .int .i64 0, .str [], .str [], .str []]⟩,
   ⟨(some 9), none, .mv (.c (.bool false))⟩])
  (.seq (.reg [⟨(some 14), none, .bld [.int .i64 0, .int .i64 0, .int .i64 0, .int .i64 0, .int .i64 0, .int .i64 0, .str [], .str [], .str []] [(0, 1), (1, 8)] []⟩,
   ⟨(some 10), none, .al [.int .i64 0, .int .i64 0, .int .i64 0, .int .i64 0, .int .i64 0, .int .i64 0, .str [], .str [], .str []]⟩,
   ⟨none, none, .st 9 (.t 10) (.t 14)⟩])
  (.seq (.reg [⟨(some 11), none, .mv (.c (.bool false))⟩])
  (.seq (.seq (.reg [⟨(some 12), none, .mv (.c (.int .i64 0))⟩])
  (.blk 0 (.loop (.seq (.seq (.reg [⟨(some 15), none, .mv (.t 12)⟩,
     ⟨(some 16), none, .mv (.t 0)⟩,
     ⟨(some 17), none, .lenl (.t 16)⟩,
     ⟨(some 18), none, .bin .lss (.t 15) (.t 17)⟩])
    (.cond (.t 18)
      .skip
      (.exit 0)))
    (.seq (.blk 1 (.seq (.reg [⟨(some 21), none, .mv (.t 0)⟩,
      ⟨(some 22), none, .mv (.t 12)⟩,
      ⟨(some 23), none, .ia 9 (.t 21) (.t 22)⟩,
      ⟨(some 24), none, .ld true 9 (.t 23)⟩,
      ⟨(some 13), none, .al [.int .i64 0, .int .i64 0, .int .i64 0, .int .i64 0, .int .i64 0, .int .i64 0, .str [], .str [], .str []]⟩,
      ⟨none, none, .st 9 (.t 13) (.t 24)⟩])
     (.seq (.reg [⟨(some 25), none, .fa 1 (.t 13)⟩,
      ⟨(some 26), none, .fa 0 (.t 25)⟩,
      ⟨(some 27), none, .ld false 1 (.t 26)⟩,
      ⟨(some 28), none, .mv (.t 1)⟩,
      ⟨(some 29), none, .bin .eql (.t 27) (.t 28)⟩,
      ⟨(some 30), none, .mv (.t 29)⟩,
      ⟨(some 31), (some (30, true)), .fa 1 (.t 13)⟩,
      ⟨(some 32), (some (30, true)), .fa 1 (.t 31)⟩,
      ⟨(some 33), (some (30, true)), .ld false 1 (.t 32)⟩,
      ⟨(some 34), (some (30, true)), .mv (.t 2)⟩,
      ⟨(some 35), (some (30, true)), .bin .eql (.t 33) (.t 34)⟩,
      ⟨(some 36), none, .pick (.t 30) (.t 35) (.c (.bool false))⟩,
      ⟨(some 37), none, .mv (.t 36)⟩,
      ⟨(some 38), (some (37, true)), .fa 1 (.t 13)⟩,
      ⟨(some 39), (some (37, true)), .fa 2 (.t 38)⟩,
      ⟨(some 40), (some (37, true)), .ld false 1 (.t 39)⟩,
      ⟨(some 41), (some (37, true)), .mv (.t 3)⟩,
      ⟨(some 42), (some (37, true)), .bin .eql (.t 40) (.t 41)⟩,
      ⟨(some 43), none, .pick (.t 37) (.t 42) (.c (.bool false))⟩,
      ⟨(some 44), none, .mv (.t 43)⟩,
      ⟨(some 45), (some (44, true)), .mv (.t 11)⟩,
      ⟨(some 46), (some (44, true)), .un .not (.t 45)⟩,
      ⟨(some 47), (some (44, true)), .mv (.t 46)⟩,
      ⟨(some 48), (some (47, false)), .fa 0 (.t 13)⟩,
      ⟨(some 49), (some (47, false)), .ld false 1 (.t 48)⟩,
      ⟨(some 50), (some (47, false)), .fa 0 (.t 10)⟩,
      ⟨(some 51), (some (47, false)), .ld false 1 (.t 50)⟩,
      ⟨(some 52), (some (47, false)), .bin .gtr (.t 49) (.t 51)⟩,
      ⟨(some 53), (some (44, true)), .pick (.t 47) (.c (.bool true)) (.t 52)⟩,
      ⟨(some 54), none, .pick (.t 44) (.t 53) (.c (.bool false))⟩])
     (.cond (.t 54)
       (.seq (.reg [⟨(some 55), none, .ld true 9 (.t 13)⟩,
        ⟨none, none, .st 9 (.t 10) (.t 55)⟩])
       (.reg [⟨(some 11), none, .mv (.c (.bool true))⟩]))
       .skip))))
    (.reg [⟨(some 19), none, .mv (.t 12)⟩,
     ⟨(some 20), none, .bin .add (.t 19) (.c (.int .i64 1))⟩,
     ⟨(some 12), none, .mv (.t 20)⟩]))))))
  (.seq (.reg [⟨(some 56), none, .ld true 9 (.t 10)⟩,
   ⟨(some 57), none, .mv (.t 11)⟩,
   ⟨none, none, .st 9 (.t 8) (.t 56)⟩,
   ⟨(some 9), none, .mv (.t 57)⟩])
  .ret)))))
theorem k_spec_l07Best : FnOk Try.prog 28 58 rc_spec_l07Best [.cell 8 true 9, .t 9] := ⟨Try.f28, _, [], Try.func28, rfl, rfl, by kernel_rfl, by kernel_rfl, follows⟩
theorem ok_spec_l07Best : okF Try.prog 28 = true := by kernel_rfl
def rc_spec_l07Sorted : RC :=
  (.seq (.reg [⟨(some 4), none, .mv (.c (.nils))⟩])
  (.seq (.reg [⟨(some 8), none, .mv (.c (.nils))⟩,
   ⟨(some 5), none, .mv (.t 8)⟩])
  (.seq (.seq (.reg [⟨(some 6), none, .mv (.c (.int .i64 0))⟩])
  (.blk 0 (.loop (.seq (.seq (.reg [⟨(some 9), none, .mv (.t 6)⟩,
     ⟨(some 10), none, .mv (.t 0)⟩,
     ⟨(some 11), none, .lenl (.t 10)⟩,
     ⟨(some 12), none, .bin .lss (.t 9) (.t 11)⟩])
    (.cond (.t 12)
      .skip
      (.exit 0)))
    (.seq (.blk 1 (.seq (.reg [⟨(some 15), none, .mv (.t 0)⟩,
      ⟨(some 16), none, .mv (.t 6)⟩,
      ⟨(some 17), none, .ia 1 (.t 15) (.t 16)⟩,
      ⟨(some 18), none, .ld false 1 (.t 17)⟩,
      ⟨(some 19), none, .mv (.t 1)⟩,
      ⟨(some 20), none, .bin .lss (.t 18) (.t 19)⟩])
     (.cond (.t 20)
       (.reg [⟨(some 21), none, .mv (.t 5)⟩,
        ⟨(some 22), none, .mv (.t 0)⟩,
        ⟨(some 23), none, .mv (.t 6)⟩,
        ⟨(some 24), none, .ia 1 (.t 22) (.t 23)⟩,
        ⟨(some 25), none, .ld false 1 (.t 24)⟩,
        ⟨(some 26), none, .bs 1 [.int .i64 0] 1 [(0, (.t 25))]⟩,
        ⟨(some 27), none, .app 1 8 (.t 21) (.t 26)⟩,
        ⟨(some 5), none, .mv (.t 27)⟩])
       .skip)))
    (.reg [⟨(some 13), none, .mv (.t 6)⟩,
     ⟨(some 14), none, .bin .add (.t 13) (.c (.int .i64 1))⟩,
     ⟨(some 6), none, .mv (.t 14)⟩]))))))
  (.seq (.reg [⟨(some 28), none, .mv (.t 5)⟩,
   ⟨(some 29), none, .mv (.t 1)⟩,
   ⟨(some 30), none, .bs 1 [.int .i64 0] 1 [(0, (.t 29))]⟩,
   ⟨(some 31), none, .app 1 8 (.t 28) (.t 30)⟩,
   ⟨(some 5), none, .mv (.t 31)⟩])
  (.seq (.seq (.reg [⟨(some 7), none, .mv (.c (.int .i64 0))⟩])
  (.blk 2 (.loop (.seq (.seq (.reg [⟨(some 32), none, .mv (.t 7)⟩,
     ⟨(some 33), none, .mv (.t 0)⟩,
     ⟨(some 34), none, .lenl (.t 33)⟩,
     ⟨(some 35), none, .bin .lss (.t 32) (.t 34)⟩])
    (.cond (.t 35)
      .skip
      (.exit 2)))
    (.seq (.blk 3 (.seq (.reg [⟨(some 38), none, .mv (.t 0)⟩,
      ⟨(some 39), none, .mv (.t 7)⟩,
      ⟨(some 40), none, .ia 1 (.t 38) (.t 39)⟩,
      ⟨(some 41), none, .ld false 1 (.t 40)⟩,
      ⟨(some 42), none, .mv (.t 1)⟩,
      ⟨(some 43), none, .bin .gtr (.t 41) (.t 42)⟩])
     (.cond (.t 43)
       (.reg [⟨(some 44), none, .mv (.t 5)⟩,
        ⟨(some 45), none, .mv (.t 0)⟩,
        ⟨(some 46), none, .mv (.t 7)⟩,
        ⟨(some 47), none, .ia 1 (.t 45) (.t 46)⟩,
        ⟨(some 48), none, .ld false 1 (.t 47)⟩,
        ⟨(some 49), none, .bs 1 [.int .i64 0] 1 [(0, (.t 48))]⟩,
        ⟨(some 50), none, .app 1 8 (.t 44) (.t 49)⟩,
        ⟨(some 5), none, .mv (.t 50)⟩])
       .skip)))
    (.reg [⟨(some 36), none, .mv (.t 7)⟩,
     ⟨(some 37), none, .bin .add (.t 36) (.c (.int .i64 1))⟩,
     ⟨(some 7), none, .mv (.t 37)⟩]))))))
  (.seq (.reg [⟨(some 51), none, .mv (.t 5)⟩,
   ⟨(some 4), none, .mv (.t 51)⟩])
  .ret))))))
theorem k_spec_l07Sorted : FnOk Try.prog 29 52 rc_spec_l07Sorted [.t 4] := ⟨Try.f29, _, [], Try.func29, rfl, rfl, by kernel_rfl, by kernel_rfl, follows⟩
theorem ok_spec_l07Sorted : okF Try.prog 29 = true := by kernel_rfl
def rc_spec_l07Tell : RC :=
  (.seq (.reg [⟨(some 4), none, .al [.int .i64 0, .int .i64 0, .int .i64 0, .int .i64 0, .int .i64 0, .int .i64 0, .str [], .str [], .str []]⟩])
  (.seq (.reg [⟨(some 8), none, .bld [.int .i64 0, .int .i64 0, .int .i64 0, .int .i64 0, .int .i64 0, .int .i64 0, .str [], .str [], .str []] [(0, 1), (1, 8)] []⟩,
   ⟨(some 5), none, .al [.int .i64 0, .int .i64 0, .int .i64 0, .int .i64 0, .int .i64 0, .int .i64 0, .str [], .str [], .str []]⟩,
   ⟨none, none, .st 9 (.t 5) (.t 8)⟩])
  (.seq (.seq (.reg [⟨(some 6), none, .mv (.c (.int .i64 0))⟩])
  (.blk 0 (.loop (.seq (.seq (.reg [⟨(some 9), none, .mv (.t 6)⟩,
     ⟨(some 10), none, .mv (.t 0)⟩,
     ⟨(some 11), none, .lenl (.t 10)⟩,
     ⟨(some 12), none, .bin .lss (.t 9) (.t 11)⟩])
    (.cond (.t 12)
      .skip
      (.exit 0)))
    (.seq (.blk 1 (.seq (.reg [⟨(some 15), none, .mv (.t 0)⟩,
      ⟨(some 16), none, .mv (.t 6)⟩,
      ⟨(some 17), none, .ia 9 (.t 15) (.t 16)⟩,
      ⟨(some 18), none, .ld true 9 (.t 17)⟩,
      ⟨(some 7), none, .al [.int .i64 0, .int .i64 0, .int .i64 0, .int .i64 0, .int .i64 0, .int .i64 0, .str [], .str [], .str []]⟩,
      ⟨none, none, .st 9 (.t 7) (.t 18)⟩])
     (.seq (.seq (.reg [⟨(some 19), none, .fa 1 (.t 7)⟩,
      ⟨(some 20), none, .fa 0 (.t 19)⟩,
      ⟨(some 21), none, .ld false 1 (.t 20)⟩,
      ⟨(some 22), none, .bin .neq (.t 21) (.c (.int .i64 1))⟩,
      ⟨(some 23), none, .mv (.t 22)⟩,
      ⟨(some 24), (some (23, false)), .fa 1 (.t 7)⟩,
      ⟨(some 25), (some (23, false)), .fa 1 (.t 24)⟩,
      ⟨(some 26), (some (23, false)), .ld false 1 (.t 25)⟩,
      ⟨(some 27), (some (23, false)), .mv (.t 1)⟩,
      ⟨(some 28), (some (23, false)), .bin .neq (.t 26) (.t 27)⟩,
      ⟨(some 29), none, .pick (.t 23) (.c (.bool true)) (.t 28)⟩])
     (.cond (.t 29)
       (.exit 1)
       .skip))
     (.seq (.reg [⟨(some 30), none, .fa 0 (.t 5)⟩,
      ⟨(some 31), none, .ld false 1 (.t 30)⟩,
      ⟨(some 32), none, .bin .eql (.t 31) (.c (.int .i64 0))⟩,
      ⟨(some 33), none, .mv (.t 32)⟩,
      ⟨(some 34), (some (33, false)), .fa 1 (.t 7)⟩,
      ⟨(some 35), (some (33, false)), .fa 3 (.t 34)⟩,
      ⟨(some 36), (some (33, false)), .ld false 1 (.t 35)⟩,
      ⟨(some 37), (some (33, false)), .fa 1 (.t 5)⟩,
      ⟨(some 38), (some (33, false)), .fa 3 (.t 37)⟩,
      ⟨(some 39), (some (33, false)), .ld false 1 (.t 38)⟩,
      ⟨(some 40), (some (33, false)), .bin .gtr (.t 36) (.t 39)⟩,
      ⟨(some 41), none, .pick (.t 33) (.c (.bool true)) (.t 40)⟩,
      ⟨(some 42), none, .mv (.t 41)⟩,
      ⟨(some 43), (some (42, false)), .fa 1 (.t 7)⟩,
      ⟨(some 44), (some (42, false)), .fa 3 (.t 43)⟩,
      ⟨(some 45), (some (42, false)), .ld false 1 (.t 44)⟩,
      ⟨(some 46), (some (42, false)), .fa 1 (.t 5)⟩,
      ⟨(some 47), (some (42, false)), .fa 3 (.t 46)⟩,
      ⟨(some 48), (some (42, false)), .ld false 1 (.t 47)⟩,
      ⟨(some 49), (some (42, false)), .bin .eql (.t 45) (.t 48)⟩,
      ⟨(some 50), (some (42, false)), .mv (.t 49)⟩,
      ⟨(some 51), (some (50, true)), .fa 0 (.t 7)⟩,
      ⟨(some 52), (some (50, true)), .ld false 1 (.t 51)⟩,
      ⟨(some 53), (some (50, true)), .fa 0 (.t 5)⟩,
      ⟨(some 54), (some (50, true)), .ld false 1 (.t 53)⟩,
      ⟨(some 55), (some (50, true)), .bin .gtr (.t 52) (.t 54)⟩,
      ⟨(some 56), (some (42, false)), .pick (.t 50) (.t 55) (.c (.bool false))⟩,
      ⟨(some 57), none, .pick (.t 42) (.c (.bool true)) (.t 56)⟩])
     (.cond (.t 57)
       (.reg [⟨(some 58), none, .ld true 9 (.t 7)⟩,
        ⟨none, none, .st 9 (.t 5) (.t 58)⟩])
       .skip)))))
    (.reg [⟨(some 13), none, .mv (.t 6)⟩,
     ⟨(some 14), none, .bin .add (.t 13) (.c (.int .i64 1))⟩,
     ⟨(some 6), none, .mv (.t 14)⟩]))))))
  (.seq (.reg [⟨(some 59), none, .ld true 9 (.t 5)⟩,
   ⟨none, none, .st 9 (.t 4) (.t 59)⟩])
  .ret))))
theorem k_spec_l07Tell : FnOk Try.prog 30 60 rc_spec_l07Tell [.cell 4 true 9] := ⟨Try.f30, _, [], Try.func30, rfl, rfl, by kernel_rfl, by kernel_rfl, follows⟩
theorem ok_spec_l07Tell : okF Try.prog 30 = true := by kernel_rfl
def rc_spec_l07Next : RC :=
  (.seq (.reg [⟨(some 4), none, .mv (.c (.int .i64 0))⟩])
  (.seq (.reg [⟨(some 5), none, .mv (.c (.int .i64 1))⟩])
  (.seq (.seq (.reg [⟨(some 6), none, .mv (.c (.int .i64 0))⟩])
  (.blk 0 (.loop (.seq (.seq (.reg [⟨(some 9), none, .mv (.t 6)⟩,
     ⟨(some 10), none, .mv (.t 0)⟩,
     ⟨(some 11), none, .lenl (.t 10)⟩,
     ⟨(some 12), none, .bin .lss (.t 9) (.t 11)⟩])
    (.cond (.t 12)
      .skip
      (.exit 0)))
    (.seq (.blk 1 (.seq (.reg [⟨(some 15), none, .mv (.t 0)⟩,
      ⟨(some 16), none, .mv (.t 6)⟩,
      ⟨(some 17), none, .ia 9 (.t 15) (.t 16)⟩,
      ⟨(some 18), none, .fa 1 (.t 17)⟩,
      ⟨(some 19), none, .ld true 8 (.t 18)⟩,
      ⟨(some 7), none, .al [.int .i64 0, .int .i64 0, .int .i64 0, .int .i64 0, .int .i64 0, .str [], .str [], .str []]⟩,
      ⟨none, none, .st 8 (.t 7) (.t 19)⟩])
     (.seq (.seq (.reg [⟨(some 20), none, .fa 1 (.t 7)⟩,
      ⟨(some 21), none, .ld false 1 (.t 20)⟩,
      ⟨(some 22), none, .mv (.t 1)⟩,
      ⟨(some 23), none, .bin .neq (.t 21) (.t 22)⟩])
     (.cond (.t 23)
       (.exit 1)
       .skip))
     (.seq (.reg [⟨(some 8), none, .mv (.c (.int .i64 0))⟩])
     (.seq (.seq (.reg [⟨(some 24), none, .fa 0 (.t 7)⟩,
      ⟨(some 25), none, .ld false 1 (.t 24)⟩])
     (.blk 2 (.seq (.reg [⟨(some 27), none, .bin .eql (.t 25) (.c (.int .i64 1))⟩,
       ⟨(some 26), none, .mv (.t 27)⟩])
      (.cond (.t 26)
        (.reg [⟨(some 28), none, .fa 3 (.t 7)⟩,
         ⟨(some 29), none, .ld false 1 (.t 28)⟩,
         ⟨(some 8), none, .mv (.t 29)⟩])
        (.seq (.seq (.reg [⟨(some 31), none, .bin .eql (.t 25) (.c (.int .i64 3))⟩,
         ⟨(some 30), none, .mv (.t 31)⟩])
        (.cond (.t 30)
          .skip
          (.reg [⟨(some 32), none, .bin .eql (.t 25) (.c (.int .i64 5))⟩,
           ⟨(some 30), none, .mv (.t 32)⟩])))
        (.cond (.t 30)
          (.reg [⟨(some 33), none, .fa 2 (.t 7)⟩,
           ⟨(some 34), none, .ld false 1 (.t 33)⟩,
           ⟨(some 35), none, .bin .add (.t 34) (.c (.int .i64 1))⟩,
           ⟨(some 8), none, .mv (.t 35)⟩])
          .skip))))))
     (.seq (.reg [⟨(some 36), none, .mv (.t 8)⟩,
      ⟨(some 37), none, .mv (.t 5)⟩,
      ⟨(some 38), none, .bin .gtr (.t 36) (.t 37)⟩])
     (.cond (.t 38)
       (.reg [⟨(some 39), none, .mv (.t 8)⟩,
        ⟨(some 5), none, .mv (.t 39)⟩])
       .skip)))))))
    (.reg [⟨(some 13), none, .mv (.t 6)⟩,
     ⟨(some 14), none, .bin .add (.t 13) (.c (.int .i64 1))⟩,
     ⟨(some 6), none, .mv (.t 14)⟩]))))))
  (.seq (.reg [⟨(some 40), none, .mv (.t 5)⟩,
   ⟨(some 4), none, .mv (.t 40)⟩])
  .ret))))
theorem k_spec_l07Next : FnOk Try.prog 31 41 rc_spec_l07Next [.t 4] := ⟨Try.f31, _, [], Try.func31, rfl, rfl, by kernel_rfl, by kernel_rfl, follows⟩
theorem ok_spec_l07Next : okF Try.prog 31 = true := by kernel_rfl
def rc_spec_l07Mails : RC :=
  (.seq (.reg [⟨(some 4), none, .mv (.c (.nils))⟩])
  (.seq (.reg [⟨(some 17), none, .mv (.c (.nils))⟩,
   ⟨(some 5), none, .mv (.t 17)⟩])
  (.seq (.seq (.reg [⟨(some 6), none, .mv (.c (.int .i64 0))⟩])
  (.blk 0 (.loop (.seq (.seq (.reg [⟨(some 18), none, .mv (.t 6)⟩,
     ⟨(some 19), none, .mv (.t 0)⟩,
     ⟨(some 20), none, .lenl (.t 19)⟩,
     ⟨(some 21), none, .bin .lss (.t 18) (.t 20)⟩])
    (.cond (.t 21)
      .skip
      (.exit 0)))
    (.seq (.blk 1 (.seq (.reg [⟨(some 24), none, .mv (.t 0)⟩,
      ⟨(some 25), none, .mv (.t 6)⟩,
      ⟨(some 26), none, .ia 9 (.t 24) (.t 25)⟩,
      ⟨(some 27), none, .fa 1 (.t 26)⟩,
      ⟨(some 28), none, .ld true 8 (.t 27)⟩,
      ⟨(some 7), none, .al [.int .i64 0, .int .i64 0, .int .i64 0, .int .i64 0, .int .i64 0, .str [], .str [], .str []]⟩,
      ⟨none, none, .st 8 (.t 7) (.t 28)⟩])
     (.seq (.reg [⟨(some 30), none, .mv (.t 0)⟩,
      ⟨(some 31), none, .mv (.t 1)⟩,
      ⟨(some 32), none, .fa 2 (.t 7)⟩,
      ⟨(some 33), none, .ld false 1 (.t 32)⟩,
      ⟨(some 34), none, .cl (.c (.fn 28 [])) [(.t 30), (.c (.int .i64 5)), (.t 31), (.t 33)]⟩,
      ⟨(some 29), none, .mv (.t 34)⟩,
      ⟨(some 35), none, .ext (.t 29) 0⟩,
      ⟨(some 36), none, .ext (.t 29) 1⟩,
      ⟨(some 8), none, .al [.int .i64 0, .int .i64 0, .int .i64 0, .int .i64 0, .int .i64 0, .int .i64 0, .str [], .str [], .str []]⟩,
      ⟨none, none, .st 9 (.t 8) (.t 35)⟩,
      ⟨(some 9), none, .mv (.t 36)⟩])
     (.seq (.reg [⟨(some 37), none, .fa 0 (.t 7)⟩,
      ⟨(some 38), none, .ld false 1 (.t 37)⟩,
      ⟨(some 39), none, .bin .eql (.t 38) (.c (.int .i64 3))⟩,
      ⟨(some 40), none, .mv (.t 39)⟩,
      ⟨(some 41), (some (40, true)), .fa 1 (.t 7)⟩,
      ⟨(some 42), (some (40, true)), .ld false 1 (.t 41)⟩,
      ⟨(some 43), (some (40, true)), .mv (.t 1)⟩,
      ⟨(some 44), (some (40, true)), .bin .eql (.t 42) (.t 43)⟩,
      ⟨(some 45), none, .pick (.t 40) (.t 44) (.c (.bool false))⟩,
      ⟨(some 46), none, .mv (.t 45)⟩,
      ⟨(some 47), (some (46, true)), .mv (.t 9)⟩,
      ⟨(some 48), (some (46, true)), .un .not (.t 47)⟩,
      ⟨(some 49), none, .pick (.t 46) (.t 48) (.c (.bool false))⟩])
     (.cond (.t 49)
       (.reg [⟨(some 50), none, .mv (.t 5)⟩,
        ⟨(some 51), none, .fa 2 (.t 7)⟩,
        ⟨(some 52), none, .ld false 1 (.t 51)⟩,
        ⟨(some 53), none, .cl (.c (.fn 29 [])) [(.t 50), (.t 52)]⟩,
        ⟨(some 5), none, .mv (.t 53)⟩])
       .skip)))))
    (.reg [⟨(some 22), none, .mv (.t 6)⟩,
     ⟨(some 23), none, .bin .add (.t 22) (.c (.int .i64 1))⟩,
     ⟨(some 6), none, .mv (.t 23)⟩]))))))
  (.seq (.reg [⟨(some 54), none, .mv (.c (.nils))⟩,
   ⟨(some 10), none, .mv (.t 54)⟩])
  (.seq (.seq (.reg [⟨(some 11), none, .mv (.c (.int .i64 0))⟩])
  (.blk 2 (.loop (.seq (.seq (.reg [⟨(some 55), none, .mv (.t 11)⟩,
     ⟨(some 56), none, .mv (.t 5)⟩,
     ⟨(some 57), none, .lenl (.t 56)⟩,
     ⟨(some 58), none, .bin .lss (.t 55) (.t 57)⟩])
    (.cond (.t 58)
      .skip
      (.exit 2)))
    (.seq (.blk 3 (.seq (.reg [⟨(some 62), none, .mv (.t 0)⟩,
      ⟨(some 63), none, .mv (.t 1)⟩,
      ⟨(some 64), none, .mv (.t 5)⟩,
      ⟨(some 65), none, .mv (.t 11)⟩,
      ⟨(some 66), none, .ia 1 (.t 64) (.t 65)⟩,
      ⟨(some 67), none, .ld false 1 (.t 66)⟩,
      ⟨(some 68), none, .cl (.c (.fn 28 [])) [(.t 62), (.c (.int .i64 3)), (.t 63), (.t 67)]⟩,
      ⟨(some 61), none, .mv (.t 68)⟩,
      ⟨(some 69), none, .ext (.t 61) 0⟩,
      ⟨(some 70), none, .ext (.t 61) 1⟩,
      ⟨(some 12), none, .al [.int .i64 0, .int .i64 0, .int .i64 0, .int .i64 0, .int .i64 0, .int .i64 0, .str [], .str [], .str []]⟩,
      ⟨none, none, .st 9 (.t 12) (.t 69)⟩,
      ⟨(some 13), none, .mv (.t 70)⟩])
     (.seq (.drw [⟨(some 71), none, .mv (.t 5)⟩,
      ⟨(some 72), none, .mv (.t 11)⟩,
      ⟨(some 73), none, .ia 1 (.t 71) (.t 72)⟩,
      ⟨(some 74), none, .ld false 1 (.t 73)⟩,
      ⟨(some 75), none, .fa 1 (.t 12)⟩,
      ⟨(some 76), none, .fa 4 (.t 75)⟩,
      ⟨(some 77), none, .ld false 1 (.t 76)⟩,
      ⟨(some 78), none, .fa 1 (.t 12)⟩,
      ⟨(some 79), none, .fa 7 (.t 78)⟩,
      ⟨(some 80), none, .ld false 1 (.t 79)⟩,
      ⟨(some 81), none, .bld [.int .i64 0, .int .i64 0, .str []] [(0, 1), (1, 1), (2, 1)] [(0, (.t 74)), (1, (.t 77)), (2, (.t 80))]⟩,
      ⟨(some 14), none, .al [.int .i64 0, .int .i64 0, .str []]⟩,
      ⟨none, none, .st 3 (.t 14) (.t 81)⟩] [.val [], .val [], .val [], .val [], .val [], .val [], .val [], .val [], .val [], .val [], .val [], .chn [0, 1, 2, 3, 4, 5, 6, 7, 8, 9, 10], .chn []])
     (.seq (.reg [⟨(some 83), none, .mv (.t 0)⟩,
      ⟨(some 84), none, .mv (.t 1)⟩,
      ⟨(some 85), none, .mv (.t 5)⟩,
      ⟨(some 86), none, .mv (.t 11)⟩,
      ⟨(some 87), none, .ia 1 (.t 85) (.t 86)⟩,
      ⟨(some 88), none, .ld false 1 (.t 87)⟩,
      ⟨(some 89), none, .cl (.c (.fn 28 [])) [(.t 83), (.c (.int .i64 4)), (.t 84), (.t 88)]⟩,
      ⟨(some 82), none, .mv (.t 89)⟩,
      ⟨(some 90), none, .ext (.t 82) 0⟩,
      ⟨(some 91), none, .ext (.t 82) 1⟩,
      ⟨(some 15), none, .al [.int .i64 0, .int .i64 0, .int .i64 0, .int .i64 0, .int .i64 0, .int .i64 0, .str [], .str [], .str []]⟩,
      ⟨none, none, .st 9 (.t 15) (.t 90)⟩,
      ⟨(some 16), none, .mv (.t 91)⟩])
     (.seq (.seq (.reg [⟨(some 92), none, .mv (.t 16)⟩])
     (.cond (.t 92)
       (.reg [⟨(some 93), none, .fa 1 (.t 15)⟩,
        ⟨(some 94), none, .fa 4 (.t 93)⟩,
        ⟨(some 95), none, .ld false 1 (.t 94)⟩,
        ⟨(some 96), none, .fa 1 (.t 14)⟩,
        ⟨none, none, .st 1 (.t 96) (.t 95)⟩])
       .skip))
     (.reg [⟨(some 97), none, .mv (.t 10)⟩,
      ⟨(some 98), none, .ld true 3 (.t 14)⟩,
      ⟨(some 99), none, .bs 3 [.int .i64 0, .int .i64 0, .str []] 1 [(0, (.t 98))]⟩,
      ⟨(some 100), none, .app 3 32 (.t 97) (.t 99)⟩,
      ⟨(some 10), none, .mv (.t 100)⟩]))))))
    (.reg [⟨(some 59), none, .mv (.t 11)⟩,
     ⟨(some 60), none, .bin .add (.t 59) (.c (.int .i64 1))⟩,
     ⟨(some 11), none, .mv (.t 60)⟩]))))))
  (.seq (.reg [⟨(some 101), none, .mv (.t 10)⟩,
   ⟨(some 4), none, .mv (.t 101)⟩])
  .ret))))))
theorem k_spec_l07Mails : FnOk Try.prog 32 102 rc_spec_l07Mails [.t 4] := ⟨Try.f32, _, [], Try.func32, rfl, rfl, by kernel_rfl, by kernel_rfl, follows⟩
theorem ok_spec_l07Mails : okF Try.prog 32 = true := by kernel_rfl
def rc_spec_StateOf : RC :=
  (.seq (.reg [⟨(some 2), none, .al [.nils]⟩])
  (.seq (.reg [⟨(some 11), none, .bld [.nils] [(0, 1)] []⟩,
   ⟨(some 3), none, .al [.nils]⟩,
   ⟨none, none, .st 1 (.t 3) (.t 11)⟩])
  (.seq (.seq (.reg [⟨(some 12), none, .mv (.t 0)⟩,
   ⟨(some 13), none, .cl (.c (.fn 27 [])) [(.t 12)]⟩,
   ⟨(some 14), none, .un .not (.t 13)⟩])
  (.cond (.t 14)
    (.seq (.reg [⟨(some 15), none, .ld true 1 (.t 3)⟩,
     ⟨none, none, .st 1 (.t 2) (.t 15)⟩])
    .ret)
    .skip))
  (.seq (.reg [⟨(some 16), none, .mv (.c (.nils))⟩,
   ⟨(some 4), none, .mv (.t 16)⟩])
  (.seq (.seq (.reg [⟨(some 5), none, .mv (.c (.int .i64 0))⟩])
  (.blk 0 (.loop (.seq (.seq (.reg [⟨(some 17), none, .mv (.t 5)⟩,
     ⟨(some 18), none, .mv (.t 0)⟩,
     ⟨(some 19), none, .lenl (.t 18)⟩,
     ⟨(some 20), none, .bin .lss (.t 17) (.t 19)⟩])
    (.cond (.t 20)
      .skip
      (.exit 0)))
    (.seq (.blk 1 (.seq (.reg [⟨(some 23), none, .mv (.t 0)⟩,
      ⟨(some 24), none, .mv (.t 5)⟩,
      ⟨(some 25), none, .ia 9 (.t 23) (.t 24)⟩,
      ⟨(some 26), none, .fa 1 (.t 25)⟩,
      ⟨(some 27), none, .ld true 8 (.t 26)⟩,
      ⟨(some 6), none, .al [.int .i64 0, .int .i64 0, .int .i64 0, .int .i64 0, .int .i64 0, .str [], .str [], .str []]⟩,
      ⟨none, none, .st 8 (.t 6) (.t 27)⟩])
     (.seq (.reg [⟨(some 29), none, .mv (.t 0)⟩,
      ⟨(some 30), none, .fa 1 (.t 6)⟩,
      ⟨(some 31), none, .ld false 1 (.t 30)⟩,
      ⟨(some 32), none, .cl (.c (.fn 28 [])) [(.t 29), (.c (.int .i64 2)), (.t 31), (.c (.int .i64 0))]⟩,
      ⟨(some 28), none, .mv (.t 32)⟩,
      ⟨(some 33), none, .ext (.t 28) 0⟩,
      ⟨(some 34), none, .ext (.t 28) 1⟩,
      ⟨(some 7), none, .al [.int .i64 0, .int .i64 0, .int .i64 0, .int .i64 0, .int .i64 0, .int .i64 0, .str [], .str [], .str []]⟩,
      ⟨none, none, .st 9 (.t 7) (.t 33)⟩,
      ⟨(some 8), none, .mv (.t 34)⟩])
     (.seq (.reg [⟨(some 35), none, .fa 0 (.t 6)⟩,
      ⟨(some 36), none, .ld false 1 (.t 35)⟩,
      ⟨(some 37), none, .bin .eql (.t 36) (.c (.int .i64 1))⟩,
      ⟨(some 38), none, .mv (.t 37)⟩,
      ⟨(some 39), (some (38, true)), .mv (.t 8)⟩,
      ⟨(some 40), (some (38, true)), .un .not (.t 39)⟩,
      ⟨(some 41), none, .pick (.t 38) (.t 40) (.c (.bool false))⟩])
     (.cond (.t 41)
       (.reg [⟨(some 42), none, .mv (.t 4)⟩,
        ⟨(some 43), none, .fa 1 (.t 6)⟩,
        ⟨(some 44), none, .ld false 1 (.t 43)⟩,
        ⟨(some 45), none, .cl (.c (.fn 29 [])) [(.t 42), (.t 44)]⟩,
        ⟨(some 4), none, .mv (.t 45)⟩])
       .skip)))))
    (.reg [⟨(some 21), none, .mv (.t 5)⟩,
     ⟨(some 22), none, .bin .add (.t 21) (.c (.int .i64 1))⟩,
     ⟨(some 5), none, .mv (.t 22)⟩]))))))
  (.seq (.seq (.reg [⟨(some 9), none, .mv (.c (.int .i64 0))⟩])
  (.blk 2 (.loop (.seq (.seq (.reg [⟨(some 46), none, .mv (.t 9)⟩,
     ⟨(some 47), none, .mv (.t 4)⟩,
     ⟨(some 48), none, .lenl (.t 47)⟩,
     ⟨(some 49), none, .bin .lss (.t 46) (.t 48)⟩])
    (.cond (.t 49)
      .skip
      (.exit 2)))
    (.seq (.blk 3 (.seq (.reg [⟨(some 52), none, .mv (.t 0)⟩,
      ⟨(some 53), none, .mv (.t 4)⟩,
      ⟨(some 54), none, .mv (.t 9)⟩,
      ⟨(some 55), none, .ia 1 (.t 53) (.t 54)⟩,
      ⟨(some 56), none, .ld false 1 (.t 55)⟩,
      ⟨(some 57), none, .cl (.c (.fn 30 [])) [(.t 52), (.t 56)]⟩,
      ⟨(some 10), none, .al [.int .i64 0, .int .i64 0, .int .i64 0, .int .i64 0, .int .i64 0, .int .i64 0, .str [], .str [], .str []]⟩,
      ⟨none, none, .st 9 (.t 10) (.t 57)⟩])
     (.drw [⟨(some 58), none, .fa 0 (.t 3)⟩,
      ⟨(some 59), none, .ld false 1 (.t 58)⟩,
      ⟨(some 60), none, .mv (.t 4)⟩,
      ⟨(some 61), none, .mv (.t 9)⟩,
      ⟨(some 62), none, .ia 1 (.t 60) (.t 61)⟩,
      ⟨(some 63), none, .ld false 1 (.t 62)⟩,
      ⟨(some 64), none, .fa 1 (.t 10)⟩,
      ⟨(some 65), none, .fa 5 (.t 64)⟩,
      ⟨(some 66), none, .ld false 1 (.t 65)⟩,
      ⟨(some 67), none, .fa 1 (.t 10)⟩,
      ⟨(some 68), none, .fa 6 (.t 67)⟩,
      ⟨(some 69), none, .ld false 1 (.t 68)⟩,
      ⟨(some 70), none, .mv (.t 0)⟩,
      ⟨(some 71), none, .mv (.t 4)⟩,
      ⟨(some 72), none, .mv (.t 9)⟩,
      ⟨(some 73), none, .ia 1 (.t 71) (.t 72)⟩,
      ⟨(some 74), none, .ld false 1 (.t 73)⟩,
      ⟨(some 75), none, .cl (.c (.fn 31 [])) [(.t 70), (.t 74)]⟩,
      ⟨(some 76), none, .mv (.t 0)⟩,
      ⟨(some 77), none, .mv (.t 4)⟩,
      ⟨(some 78), none, .mv (.t 9)⟩,
      ⟨(some 79), none, .ia 1 (.t 77) (.t 78)⟩,
      ⟨(some 80), none, .ld false 1 (.t 79)⟩,
      ⟨(some 81), none, .cl (.c (.fn 32 [])) [(.t 76), (.t 80)]⟩,
      ⟨(some 82), none, .bld [.int .i64 0, .str [], .str [], .int .i64 0, .nils] [(0, 1), (1, 1), (2, 1), (3, 1), (4, 1)] [(0, (.t 63)), (1, (.t 66)), (2, (.t 69)), (3, (.t 75)), (4, (.t 81))]⟩,
      ⟨(some 83), none, .bs 5 [.int .i64 0, .str [], .str [], .int .i64 0, .nils] 1 [(0, (.t 82))]⟩,
      ⟨(some 84), none, .app 5 72 (.t 59) (.t 83)⟩,
      ⟨(some 85), none, .fa 0 (.t 3)⟩,
      ⟨none, none, .st 1 (.t 85) (.t 84)⟩] [.val [], .val [], .val [], .val [], .val [], .val [], .val [], .val [], .val [], .val [], .val [], .val [], .val [], .val [], .val [], .val [], .val [], .val [], .val [], .val [], .val [], .val [], .val [], .chn [0, 1, 2, 3, 4, 5, 6, 7, 8, 9, 10, 11], .val [], .chn [0, 1], .chn [], .val [], .chn []])))
    (.reg [⟨(some 50), none, .mv (.t 9)⟩,
     ⟨(some 51), none, .bin .add (.t 50) (.c (.int .i64 1))⟩,
     ⟨(some 9), none, .mv (.t 51)⟩]))))))
  (.seq (.reg [⟨(some 86), none, .ld true 1 (.t 3)⟩,
   ⟨none, none, .st 1 (.t 2) (.t 86)⟩])
  .ret)))))))
theorem k_spec_StateOf : FnOk Try.prog 7 87 rc_spec_StateOf [.cell 2 true 1] := ⟨Try.f7, _, [(16, [23])], Try.func7, rfl, rfl, by kernel_rfl, by kernel_rfl, follows⟩
theorem ok_spec_StateOf : okF Try.prog 7 = true := by kernel_rfl
def rc_spec_NextsOf : RC :=
  (.seq (.reg [⟨(some 4), none, .mv (.c (.nils))⟩])
  (.seq (.reg [⟨(some 12), none, .mv (.c (.nils))⟩,
   ⟨(some 5), none, .mv (.t 12)⟩])
  (.seq (.reg [⟨(some 13), none, .mv (.t 0)⟩,
   ⟨(some 14), none, .cl (.c (.fn 7 [])) [(.t 13)]⟩,
   ⟨(some 6), none, .al [.nils]⟩,
   ⟨none, none, .st 1 (.t 6) (.t 14)⟩])
  (.seq (.reg [⟨(some 15), none, .mv (.t 0)⟩,
   ⟨(some 16), none, .mv (.t 1)⟩,
   ⟨(some 17), none, .cl (.c (.fn 44 [])) [(.t 15), (.t 16)]⟩,
   ⟨(some 18), none, .cl (.c (.fn 7 [])) [(.t 17)]⟩,
   ⟨(some 7), none, .al [.nils]⟩,
   ⟨none, none, .st 1 (.t 7) (.t 18)⟩])
  (.seq (.seq (.reg [⟨(some 8), none, .mv (.c (.int .i64 0))⟩])
  (.blk 0 (.loop (.seq (.seq (.reg [⟨(some 19), none, .mv (.t 8)⟩,
     ⟨(some 20), none, .fa 0 (.t 6)⟩,
     ⟨(some 21), none, .ld false 1 (.t 20)⟩,
     ⟨(some 22), none, .lenl (.t 21)⟩,
     ⟨(some 23), none, .bin .lss (.t 19) (.t 22)⟩])
    (.cond (.t 23)
      .skip
      (.exit 0)))
    (.seq (.blk 1 (.seq (.reg [⟨(some 26), none, .fa 0 (.t 6)⟩,
      ⟨(some 27), none, .ld false 1 (.t 26)⟩,
      ⟨(some 28), none, .mv (.t 8)⟩,
      ⟨(some 29), none, .ia 5 (.t 27) (.t 28)⟩,
      ⟨(some 30), none, .ld true 5 (.t 29)⟩,
      ⟨(some 9), none, .al [.int .i64 0, .str [], .str [], .int .i64 0, .nils]⟩,
      ⟨none, none, .st 5 (.t 9) (.t 30)⟩])
     (.seq (.reg [⟨(some 10), none, .mv (.c (.bool false))⟩])
     (.seq (.seq (.reg [⟨(some 11), none, .mv (.c (.int .i64 0))⟩])
     (.blk 2 (.loop (.seq (.seq (.reg [⟨(some 31), none, .mv (.t 11)⟩,
        ⟨(some 32), none, .fa 0 (.t 7)⟩,
        ⟨(some 33), none, .ld false 1 (.t 32)⟩,
        ⟨(some 34), none, .lenl (.t 33)⟩,
        ⟨(some 35), none, .bin .lss (.t 31) (.t 34)⟩])
       (.cond (.t 35)
         .skip
         (.exit 2)))
       (.seq (.blk 3 (.drw [⟨(some 38), none, .mv (.t 10)⟩,
         ⟨(some 39), none, .mv (.t 38)⟩,
         ⟨(some 40), (some (39, false)), .fa 0 (.t 7)⟩,
         ⟨(some 41), (some (39, false)), .ld false 1 (.t 40)⟩,
         ⟨(some 42), (some (39, false)), .mv (.t 11)⟩,
         ⟨(some 43), (some (39, false)), .ia 5 (.t 41) (.t 42)⟩,
         ⟨(some 44), (some (39, false)), .fa 0 (.t 43)⟩,
         ⟨(some 45), (some (39, false)), .ld false 1 (.t 44)⟩,
         ⟨(some 46), (some (39, false)), .fa 0 (.t 9)⟩,
         ⟨(some 47), (some (39, false)), .ld false 1 (.t 46)⟩,
         ⟨(some 48), (some (39, false)), .bin .eql (.t 45) (.t 47)⟩,
         ⟨(some 49), (some (39, false)), .mv (.t 48)⟩,
         ⟨(some 50), (some (49, true)), .fa 0 (.t 7)⟩,
         ⟨(some 51), (some (49, true)), .ld false 1 (.t 50)⟩,
         ⟨(some 52), (some (49, true)), .mv (.t 11)⟩,
         ⟨(some 53), (some (49, true)), .ia 5 (.t 51) (.t 52)⟩,
         ⟨(some 54), (some (49, true)), .fa 3 (.t 53)⟩,
         ⟨(some 55), (some (49, true)), .ld false 1 (.t 54)⟩,
         ⟨(some 56), (some (49, true)), .fa 3 (.t 9)⟩,
         ⟨(some 57), (some (49, true)), .ld false 1 (.t 56)⟩,
         ⟨(some 58), (some (49, true)), .bin .geq (.t 55) (.t 57)⟩,
         ⟨(some 59), (some (39, false)), .pick (.t 49) (.t 58) (.c (.bool false))⟩,
         ⟨(some 60), none, .pick (.t 39) (.c (.bool true)) (.t 59)⟩,
         ⟨(some 10), none, .mv (.t 60)⟩] [.val [], .val [], .val [], .val [], .val [], .val [], .val [], .val [], .val [], .val [], .val [], .val [], .val [], .val [], .val [], .val [], .val [], .val [], .val [], .val [], .val [], .val [], .val [], .val []]))
       (.reg [⟨(some 36), none, .mv (.t 11)⟩,
        ⟨(some 37), none, .bin .add (.t 36) (.c (.int .i64 1))⟩,
        ⟨(some 11), none, .mv (.t 37)⟩]))))))
     (.seq (.seq (.reg [⟨(some 61), none, .mv (.t 10)⟩])
     (.cond (.t 61)
       (.exit 1)
       .skip))
     (.reg [⟨(some 62), none, .mv (.t 5)⟩,
      ⟨(some 63), none, .fa 0 (.t 9)⟩,
      ⟨(some 64), none, .ld false 1 (.t 63)⟩,
      ⟨(some 65), none, .fa 1 (.t 9)⟩,
      ⟨(some 66), none, .ld false 1 (.t 65)⟩,
      ⟨(some 67), none, .fa 2 (.t 9)⟩,
      ⟨(some 68), none, .ld false 1 (.t 67)⟩,
      ⟨(some 69), none, .fa 3 (.t 9)⟩,
      ⟨(some 70), none, .ld false 1 (.t 69)⟩,
      ⟨(some 71), none, .bld [.int .i64 0, .int .i64 0, .int .i64 0, .int .i64 0, .int .i64 0, .str [], .str [], .str []] [(0, 1), (1, 1), (2, 1), (3, 1), (4, 1), (5, 1), (6, 1), (7, 1)] [(0, (.c (.int .i64 1))), (1, (.t 64)), (5, (.t 66)), (6, (.t 68)), (3, (.t 70))]⟩,
      ⟨(some 72), none, .bs 8 [.int .i64 0, .int .i64 0, .int .i64 0, .int .i64 0, .int .i64 0, .str [], .str [], .str []] 1 [(0, (.t 71))]⟩,
      ⟨(some 73), none, .app 8 88 (.t 62) (.t 72)⟩,
      ⟨(some 5), none, .mv (.t 73)⟩]))))))
    (.reg [⟨(some 24), none, .mv (.t 8)⟩,
     ⟨(some 25), none, .bin .add (.t 24) (.c (.int .i64 1))⟩,
     ⟨(some 8), none, .mv (.t 25)⟩]))))))
  (.seq (.reg [⟨(some 74), none, .mv (.t 5)⟩,
   ⟨(some 4), none, .mv (.t 74)⟩])
  .ret))))))
theorem k_spec_NextsOf : FnOk Try.prog 15 75 rc_spec_NextsOf [.t 4] := ⟨Try.f15, _, [], Try.func15, rfl, rfl, by kernel_rfl, by kernel_rfl, follows⟩
theorem ok_spec_NextsOf : okF Try.prog 15 = true := by kernel_rfl
def rc_spec_l08Bigger : RC :=
  (.seq (.reg [⟨(some 2), none, .bx (.t 0)⟩,
   ⟨(some 3), none, .bx (.t 1)⟩,
   ⟨(some 4), none, .mv (.c (.bool false))⟩])
  (.seq (.reg [⟨(some 5), none, .fa 1 (.t 2)⟩,
   ⟨(some 6), none, .fa 3 (.t 5)⟩,
   ⟨(some 7), none, .ld false 1 (.t 6)⟩,
   ⟨(some 8), none, .fa 1 (.t 3)⟩,
   ⟨(some 9), none, .fa 3 (.t 8)⟩,
   ⟨(some 10), none, .ld false 1 (.t 9)⟩,
   ⟨(some 11), none, .bin .gtr (.t 7) (.t 10)⟩,
   ⟨(some 12), none, .mv (.t 11)⟩,
   ⟨(some 13), (some (12, false)), .fa 1 (.t 2)⟩,
   ⟨(some 14), (some (12, false)), .fa 3 (.t 13)⟩,
   ⟨(some 15), (some (12, false)), .ld false 1 (.t 14)⟩,
   ⟨(some 16), (some (12, false)), .fa 1 (.t 3)⟩,
   ⟨(some 17), (some (12, false)), .fa 3 (.t 16)⟩,
   ⟨(some 18), (some (12, false)), .ld false 1 (.t 17)⟩,
   ⟨(some 19), (some (12, false)), .bin .eql (.t 15) (.t 18)⟩,
   ⟨(some 20), (some (12, false)), .mv (.t 19)⟩,
   ⟨(some 21), (some (20, true)), .fa 0 (.t 2)⟩,
   ⟨(some 22), (some (20, true)), .ld false 1 (.t 21)⟩,
   ⟨(some 23), (some (20, true)), .fa 0 (.t 3)⟩,
   ⟨(some 24), (some (20, true)), .ld false 1 (.t 23)⟩,
   ⟨(some 25), (some (20, true)), .bin .gtr (.t 22) (.t 24)⟩,
   ⟨(some 26), (some (12, false)), .pick (.t 20) (.t 25) (.c (.bool false))⟩,
   ⟨(some 27), none, .pick (.t 12) (.c (.bool true)) (.t 26)⟩,
   ⟨(some 4), none, .mv (.t 27)⟩])
  .ret))
theorem k_spec_l08Bigger : FnOk Try.prog 83 28 rc_spec_l08Bigger [.t 4] := ⟨Try.f83, _, [], Try.func83, rfl, rfl, by kernel_rfl, by kernel_rfl, follows⟩
theorem ok_spec_l08Bigger : okF Try.prog 83 = true := by kernel_rfl
def rc_spec_l08Has : RC :=
  (.seq (.reg [⟨(some 8), none, .mv (.c (.bool false))⟩])
  (.seq (.reg [⟨(some 12), none, .mv (.t 0)⟩,
   ⟨(some 13), none, .mv (.t 1)⟩,
   ⟨(some 14), none, .mv (.t 2)⟩,
   ⟨(some 15), none, .mv (.t 3)⟩,
   ⟨(some 16), none, .cl (.c (.fn 28 [])) [(.t 12), (.t 13), (.t 14), (.t 15)]⟩,
   ⟨(some 11), none, .mv (.t 16)⟩,
   ⟨(some 17), none, .ext (.t 11) 0⟩,
   ⟨(some 18), none, .ext (.t 11) 1⟩,
   ⟨(some 9), none, .al [.int .i64 0, .int .i64 0, .int .i64 0, .int .i64 0, .int .i64 0, .int .i64 0, .str [], .str [], .str []]⟩,
   ⟨none, none, .st 9 (.t 9) (.t 17)⟩,
   ⟨(some 10), none, .mv (.t 18)⟩])
  (.seq (.reg [⟨(some 19), none, .mv (.t 10)⟩,
   ⟨(some 8), none, .mv (.t 19)⟩])
  .ret)))
theorem k_spec_l08Has : FnOk Try.prog 85 20 rc_spec_l08Has [.t 8] := ⟨Try.f85, _, [], Try.func85, rfl, rfl, by kernel_rfl, by kernel_rfl, follows⟩
theorem ok_spec_l08Has : okF Try.prog 85 = true := by kernel_rfl
def rc_spec_l08There : RC :=
  (.seq (.reg [⟨(some 4), none, .mv (.c (.bool false))⟩])
  (.seq (.reg [⟨(some 5), none, .mv (.t 0)⟩,
   ⟨(some 6), none, .mv (.t 1)⟩,
   ⟨(some 7), none, .cl (.c (.fn 85 [])) [(.t 5), (.c (.int .i64 1)), (.t 6), (.c (.int .i64 0))]⟩,
   ⟨(some 8), none, .mv (.t 7)⟩,
   ⟨(some 9), (some (8, true)), .mv (.t 0)⟩,
   ⟨(some 10), (some (8, true)), .mv (.t 1)⟩,
   ⟨(some 11), (some (8, true)), .cl (.c (.fn 85 [])) [(.t 9), (.c (.int .i64 2)), (.t 10), (.c (.int .i64 0))]⟩,
   ⟨(some 12), (some (8, true)), .un .not (.t 11)⟩,
   ⟨(some 13), none, .pick (.t 8) (.t 12) (.c (.bool false))⟩,
   ⟨(some 4), none, .mv (.t 13)⟩])
  .ret))
theorem k_spec_l08There : FnOk Try.prog 84 14 rc_spec_l08There [.t 4] := ⟨Try.f84, _, [], Try.func84, rfl, rfl, by kernel_rfl, by kernel_rfl, follows⟩
theorem ok_spec_l08There : okF Try.prog 84 = true := by kernel_rfl
def rc_spec_l08Need : RC :=
  (.seq (.reg [⟨(some 4), none, .mv (.c (.bool false))⟩])
  (.seq (.reg [⟨(some 16), none, .mv (.t 0)⟩,
   ⟨(some 17), none, .mv (.t 1)⟩,
   ⟨(some 18), none, .ia 9 (.t 16) (.t 17)⟩,
   ⟨(some 19), none, .ld true 9 (.t 18)⟩,
   ⟨(some 5), none, .al [.int .i64 0, .int .i64 0, .int .i64 0, .int .i64 0, .int .i64 0, .int .i64 0, .str [], .str [], .str []]⟩,
   ⟨none, none, .st 9 (.t 5) (.t 19)⟩])
  (.seq (.reg [⟨(some 20), none, .fa 1 (.t 5)⟩,
   ⟨(some 21), none, .ld true 8 (.t 20)⟩,
   ⟨(some 6), none, .al [.int .i64 0, .int .i64 0, .int .i64 0, .int .i64 0, .int .i64 0, .str [], .str [], .str []]⟩,
   ⟨none, none, .st 8 (.t 6) (.t 21)⟩])
  (.seq (.seq (.reg [⟨(some 7), none, .mv (.c (.int .i64 0))⟩])
  (.blk 0 (.loop (.seq (.seq (.reg [⟨(some 22), none, .mv (.t 7)⟩,
     ⟨(some 23), none, .mv (.t 1)⟩,
     ⟨(some 24), none, .bin .lss (.t 22) (.t 23)⟩])
    (.cond (.t 24)
      .skip
      (.exit 0)))
    (.seq (.blk 1 (.seq (.drw [⟨(some 27), none, .mv (.t 0)⟩,
      ⟨(some 28), none, .mv (.t 7)⟩,
      ⟨(some 29), none, .ia 9 (.t 27) (.t 28)⟩,
      ⟨(some 30), none, .fa 0 (.t 29)⟩,
      ⟨(some 31), none, .ld false 1 (.t 30)⟩,
      ⟨(some 32), none, .fa 0 (.t 5)⟩,
      ⟨(some 33), none, .ld false 1 (.t 32)⟩,
      ⟨(some 34), none, .bin .eql (.t 31) (.t 33)⟩] [.val [], .val [], .val [], .val [], .val [], .val [], .val [], .val []])
     (.cond (.t 34)
       (.seq (.reg [⟨(some 4), none, .mv (.c (.bool false))⟩])
       .ret)
       .skip)))
    (.reg [⟨(some 25), none, .mv (.t 7)⟩,
     ⟨(some 26), none, .bin .add (.t 25) (.c (.int .i64 1))⟩,
     ⟨(some 7), none, .mv (.t 26)⟩]))))))
  (.seq (.seq (.reg [⟨(some 35), none, .fa 0 (.t 6)⟩,
   ⟨(some 36), none, .ld false 1 (.t 35)⟩])
  (.blk 2 (.seq (.reg [⟨(some 38), none, .bin .eql (.t 36) (.c (.int .i64 1))⟩,
    ⟨(some 37), none, .mv (.t 38)⟩])
   (.cond (.t 37)
     (.seq (.seq (.reg [⟨(some 8), none, .mv (.c (.int .i64 0))⟩])
     (.blk 3 (.loop (.seq (.seq (.reg [⟨(some 39), none, .mv (.t 8)⟩,
        ⟨(some 40), none, .mv (.t 0)⟩,
        ⟨(some 41), none, .lenl (.t 40)⟩,
        ⟨(some 42), none, .bin .lss (.t 39) (.t 41)⟩])
       (.cond (.t 42)
         .skip
         (.exit 3)))
       (.seq (.blk 4 (.seq (.drw [⟨(some 45), none, .mv (.t 0)⟩,
         ⟨(some 46), none, .mv (.t 8)⟩,
         ⟨(some 47), none, .ia 9 (.t 45) (.t 46)⟩,
         ⟨(some 48), none, .fa 1 (.t 47)⟩,
         ⟨(some 49), none, .fa 0 (.t 48)⟩,
         ⟨(some 50), none, .ld false 1 (.t 49)⟩,
         ⟨(some 51), none, .bin .eql (.t 50) (.c (.int .i64 1))⟩,
         ⟨(some 52), none, .mv (.t 51)⟩,
         ⟨(some 53), (some (52, true)), .mv (.t 0)⟩,
         ⟨(some 54), (some (52, true)), .mv (.t 8)⟩,
         ⟨(some 55), (some (52, true)), .ia 9 (.t 53) (.t 54)⟩,
         ⟨(some 56), (some (52, true)), .fa 1 (.t 55)⟩,
         ⟨(some 57), (some (52, true)), .fa 1 (.t 56)⟩,
         ⟨(some 58), (some (52, true)), .ld false 1 (.t 57)⟩,
         ⟨(some 59), (some (52, true)), .fa 1 (.t 6)⟩,
         ⟨(some 60), (some (52, true)), .ld false 1 (.t 59)⟩,
         ⟨(some 61), (some (52, true)), .bin .eql (.t 58) (.t 60)⟩,
         ⟨(some 62), none, .pick (.t 52) (.t 61) (.c (.bool false))⟩,
         ⟨(some 63), none, .mv (.t 62)⟩,
         ⟨(some 64), (some (63, true)), .mv (.t 0)⟩,
         ⟨(some 65), (some (63, true)), .mv (.t 8)⟩,
         ⟨(some 66), (some (63, true)), .ia 9 (.t 64) (.t 65)⟩,
         ⟨(some 67), (some (63, true)), .ld true 9 (.t 66)⟩,
         ⟨(some 68), (some (63, true)), .ld true 9 (.t 5)⟩,
         ⟨(some 69), (some (63, true)), .cl (.c (.fn 83 [])) [(.t 67), (.t 68)]⟩,
         ⟨(some 70), none, .pick (.t 63) (.t 69) (.c (.bool false))⟩] [.val [], .val [], .val [], .val [], .val [], .val [], .val [], .val [], .val [], .val [], .val [], .val [], .val [], .val [], .val [], .val [], .val [], .val [], .val [], .val [], .val [], .val [], .val [], .val [], .val [], .val []])
        (.cond (.t 70)
          (.seq (.reg [⟨(some 4), none, .mv (.c (.bool false))⟩])
          .ret)
          .skip)))
       (.reg [⟨(some 43), none, .mv (.t 8)⟩,
        ⟨(some 44), none, .bin .add (.t 43) (.c (.int .i64 1))⟩,
        ⟨(some 8), none, .mv (.t 44)⟩]))))))
     (.seq (.reg [⟨(some 71), none, .mv (.t 0)⟩,
      ⟨(some 72), none, .fa 1 (.t 6)⟩,
      ⟨(some 73), none, .ld false 1 (.t 72)⟩,
      ⟨(some 74), none, .cl (.c (.fn 84 [])) [(.t 71), (.t 73)]⟩,
      ⟨(some 4), none, .mv (.t 74)⟩])
     .ret))
     (.seq (.reg [⟨(some 76), none, .bin .eql (.t 36) (.c (.int .i64 2))⟩,
      ⟨(some 75), none, .mv (.t 76)⟩])
     (.cond (.t 75)
       (.seq (.reg [⟨(some 78), none, .mv (.t 0)⟩,
        ⟨(some 79), none, .fa 1 (.t 6)⟩,
        ⟨(some 80), none, .ld false 1 (.t 79)⟩,
        ⟨(some 81), none, .cl (.c (.fn 28 [])) [(.t 78), (.c (.int .i64 2)), (.t 80), (.c (.int .i64 0))]⟩,
        ⟨(some 77), none, .mv (.t 81)⟩,
        ⟨(some 82), none, .ext (.t 77) 0⟩,
        ⟨(some 83), none, .ext (.t 77) 1⟩,
        ⟨(some 9), none, .al [.int .i64 0, .int .i64 0, .int .i64 0, .int .i64 0, .int .i64 0, .int .i64 0, .str [], .str [], .str []]⟩,
        ⟨none, none, .st 9 (.t 9) (.t 82)⟩,
        ⟨(some 10), none, .mv (.t 83)⟩])
       (.seq (.seq (.reg [⟨(some 11), none, .mv (.c (.int .i64 0))⟩])
       (.blk 5 (.loop (.seq (.seq (.reg [⟨(some 84), none, .mv (.t 11)⟩,
          ⟨(some 85), none, .mv (.t 0)⟩,
          ⟨(some 86), none, .lenl (.t 85)⟩,
          ⟨(some 87), none, .bin .lss (.t 84) (.t 86)⟩])
         (.cond (.t 87)
           .skip
           (.exit 5)))
         (.seq (.blk 6 (.seq (.drw [⟨(some 90), none, .mv (.t 0)⟩,
           ⟨(some 91), none, .mv (.t 11)⟩,
           ⟨(some 92), none, .ia 9 (.t 90) (.t 91)⟩,
           ⟨(some 93), none, .fa 1 (.t 92)⟩,
           ⟨(some 94), none, .fa 0 (.t 93)⟩,
           ⟨(some 95), none, .ld false 1 (.t 94)⟩,
           ⟨(some 96), none, .bin .neq (.t 95) (.c (.int .i64 2))⟩,
           ⟨(some 97), none, .mv (.t 96)⟩,
           ⟨(some 98), (some (97, true)), .mv (.t 0)⟩,
           ⟨(some 99), (some (97, true)), .mv (.t 11)⟩,
           ⟨(some 100), (some (97, true)), .ia 9 (.t 98) (.t 99)⟩,
           ⟨(some 101), (some (97, true)), .fa 1 (.t 100)⟩,
           ⟨(some 102), (some (97, true)), .fa 1 (.t 101)⟩,
           ⟨(some 103), (some (97, true)), .ld false 1 (.t 102)⟩,
           ⟨(some 104), (some (97, true)), .fa 1 (.t 6)⟩,
           ⟨(some 105), (some (97, true)), .ld false 1 (.t 104)⟩,
           ⟨(some 106), (some (97, true)), .bin .eql (.t 103) (.t 105)⟩,
           ⟨(some 107), none, .pick (.t 97) (.t 106) (.c (.bool false))⟩] [.val [], .val [], .val [], .val [], .val [], .val [], .val [], .val [], .val [], .val [], .val [], .val [], .val [], .val [], .val [], .val [], .val [], .val []])
          (.cond (.t 107)
            (.seq (.reg [⟨(some 108), none, .fa 0 (.t 9)⟩,
             ⟨(some 109), none, .ld false 1 (.t 108)⟩,
             ⟨(some 110), none, .fa 0 (.t 5)⟩,
             ⟨(some 111), none, .ld false 1 (.t 110)⟩,
             ⟨(some 112), none, .bin .eql (.t 109) (.t 111)⟩,
             ⟨(some 4), none, .mv (.t 112)⟩])
            .ret)
            .skip)))
         (.reg [⟨(some 88), none, .mv (.t 11)⟩,
          ⟨(some 89), none, .bin .add (.t 88) (.c (.int .i64 1))⟩,
          ⟨(some 11), none, .mv (.t 89)⟩]))))))
       (.seq (.reg [⟨(some 4), none, .mv (.c (.bool false))⟩])
       .ret)))
       (.seq (.reg [⟨(some 114), none, .bin .eql (.t 36) (.c (.int .i64 5))⟩,
        ⟨(some 113), none, .mv (.t 114)⟩])
       (.cond (.t 113)
         (.seq (.reg [⟨(some 116), none, .mv (.t 0)⟩,
          ⟨(some 117), none, .fa 1 (.t 6)⟩,
          ⟨(some 118), none, .ld false 1 (.t 117)⟩,
          ⟨(some 119), none, .fa 2 (.t 6)⟩,
          ⟨(some 120), none, .ld false 1 (.t 119)⟩,
          ⟨(some 121), none, .cl (.c (.fn 28 [])) [(.t 116), (.c (.int .i64 5)), (.t 118), (.t 120)]⟩,
          ⟨(some 115), none, .mv (.t 121)⟩,
          ⟨(some 122), none, .ext (.t 115) 0⟩,
          ⟨(some 123), none, .ext (.t 115) 1⟩,
          ⟨(some 12), none, .al [.int .i64 0, .int .i64 0, .int .i64 0, .int .i64 0, .int .i64 0, .int .i64 0, .str [], .str [], .str []]⟩,
          ⟨none, none, .st 9 (.t 12) (.t 122)⟩,
          ⟨(some 13), none, .mv (.t 123)⟩])
         (.seq (.reg [⟨(some 124), none, .mv (.t 0)⟩,
          ⟨(some 125), none, .fa 1 (.t 6)⟩,
          ⟨(some 126), none, .ld false 1 (.t 125)⟩,
          ⟨(some 127), none, .cl (.c (.fn 84 [])) [(.t 124), (.t 126)]⟩,
          ⟨(some 128), none, .mv (.t 127)⟩,
          ⟨(some 129), (some (128, true)), .mv (.t 0)⟩,
          ⟨(some 130), (some (128, true)), .fa 1 (.t 6)⟩,
          ⟨(some 131), (some (128, true)), .ld false 1 (.t 130)⟩,
          ⟨(some 132), (some (128, true)), .fa 2 (.t 6)⟩,
          ⟨(some 133), (some (128, true)), .ld false 1 (.t 132)⟩,
          ⟨(some 134), (some (128, true)), .cl (.c (.fn 85 [])) [(.t 129), (.c (.int .i64 3)), (.t 131), (.t 133)]⟩,
          ⟨(some 135), none, .pick (.t 128) (.t 134) (.c (.bool false))⟩,
          ⟨(some 136), none, .mv (.t 135)⟩,
          ⟨(some 137), (some (136, true)), .fa 0 (.t 12)⟩,
          ⟨(some 138), (some (136, true)), .ld false 1 (.t 137)⟩,
          ⟨(some 139), (some (136, true)), .fa 0 (.t 5)⟩,
          ⟨(some 140), (some (136, true)), .ld false 1 (.t 139)⟩,
          ⟨(some 141), (some (136, true)), .bin .eql (.t 138) (.t 140)⟩,
          ⟨(some 142), none, .pick (.t 136) (.t 141) (.c (.bool false))⟩,
          ⟨(some 4), none, .mv (.t 142)⟩])
         .ret))
         .skip))))))))
  (.seq (.reg [⟨(some 144), none, .mv (.t 0)⟩,
   ⟨(some 145), none, .fa 0 (.t 6)⟩,
   ⟨(some 146), none, .ld false 1 (.t 145)⟩,
   ⟨(some 147), none, .fa 1 (.t 6)⟩,
   ⟨(some 148), none, .ld false 1 (.t 147)⟩,
   ⟨(some 149), none, .fa 2 (.t 6)⟩,
   ⟨(some 150), none, .ld false 1 (.t 149)⟩,
   ⟨(some 151), none, .cl (.c (.fn 28 [])) [(.t 144), (.t 146), (.t 148), (.t 150)]⟩,
   ⟨(some 143), none, .mv (.t 151)⟩,
   ⟨(some 152), none, .ext (.t 143) 0⟩,
   ⟨(some 153), none, .ext (.t 143) 1⟩,
   ⟨(some 14), none, .al [.int .i64 0, .int .i64 0, .int .i64 0, .int .i64 0, .int .i64 0, .int .i64 0, .str [], .str [], .str []]⟩,
   ⟨none, none, .st 9 (.t 14) (.t 152)⟩,
   ⟨(some 15), none, .mv (.t 153)⟩])
  (.seq (.reg [⟨(some 154), none, .mv (.t 0)⟩,
   ⟨(some 155), none, .fa 1 (.t 6)⟩,
   ⟨(some 156), none, .ld false 1 (.t 155)⟩,
   ⟨(some 157), none, .cl (.c (.fn 84 [])) [(.t 154), (.t 156)]⟩,
   ⟨(some 158), none, .mv (.t 157)⟩,
   ⟨(some 159), (some (158, true)), .mv (.t 0)⟩,
   ⟨(some 160), (some (158, true)), .fa 1 (.t 6)⟩,
   ⟨(some 161), (some (158, true)), .ld false 1 (.t 160)⟩,
   ⟨(some 162), (some (158, true)), .fa 2 (.t 6)⟩,
   ⟨(some 163), (some (158, true)), .ld false 1 (.t 162)⟩,
   ⟨(some 164), (some (158, true)), .cl (.c (.fn 85 [])) [(.t 159), (.c (.int .i64 3)), (.t 161), (.t 163)]⟩,
   ⟨(some 165), none, .pick (.t 158) (.t 164) (.c (.bool false))⟩,
   ⟨(some 166), none, .mv (.t 165)⟩,
   ⟨(some 167), (some (166, true)), .mv (.t 0)⟩,
   ⟨(some 168), (some (166, true)), .fa 1 (.t 6)⟩,
   ⟨(some 169), (some (166, true)), .ld false 1 (.t 168)⟩,
   ⟨(some 170), (some (166, true)), .fa 2 (.t 6)⟩,
   ⟨(some 171), (some (166, true)), .ld false 1 (.t 170)⟩,
   ⟨(some 172), (some (166, true)), .cl (.c (.fn 85 [])) [(.t 167), (.c (.int .i64 5)), (.t 169), (.t 171)]⟩,
   ⟨(some 173), (some (166, true)), .un .not (.t 172)⟩,
   ⟨(some 174), none, .pick (.t 166) (.t 173) (.c (.bool false))⟩,
   ⟨(some 175), none, .mv (.t 174)⟩,
   ⟨(some 176), (some (175, true)), .fa 0 (.t 14)⟩,
   ⟨(some 177), (some (175, true)), .ld false 1 (.t 176)⟩,
   ⟨(some 178), (some (175, true)), .fa 0 (.t 5)⟩,
   ⟨(some 179), (some (175, true)), .ld false 1 (.t 178)⟩,
   ⟨(some 180), (some (175, true)), .bin .eql (.t 177) (.t 179)⟩,
   ⟨(some 181), none, .pick (.t 175) (.t 180) (.c (.bool false))⟩,
   ⟨(some 4), none, .mv (.t 181)⟩])
  .ret)))))))
theorem k_spec_l08Need : FnOk Try.prog 74 182 rc_spec_l08Need [.t 4] := ⟨Try.f74, _, [], Try.func74, rfl, rfl, by kernel_rfl, by kernel_rfl, follows⟩
theorem ok_spec_l08Need : okF Try.prog 74 = true := by kernel_rfl
def rc_spec_NeededAll : RC :=
  (.seq (.reg [⟨(some 2), none, .mv (.c (.nils))⟩])
  (.seq (.reg [⟨(some 6), none, .mv (.t 0)⟩,
   ⟨(some 7), none, .cl (.c (.fn 27 [])) [(.t 6)]⟩,
   ⟨(some 3), none, .mv (.t 7)⟩])
  (.seq (.reg [⟨(some 8), none, .mv (.c (.nils))⟩,
   ⟨(some 4), none, .mv (.t 8)⟩])
  (.seq (.seq (.reg [⟨(some 5), none, .mv (.c (.int .i64 0))⟩])
  (.blk 0 (.loop (.seq (.seq (.reg [⟨(some 9), none, .mv (.t 5)⟩,
     ⟨(some 10), none, .mv (.t 0)⟩,
     ⟨(some 11), none, .lenl (.t 10)⟩,
     ⟨(some 12), none, .bin .lss (.t 9) (.t 11)⟩])
    (.cond (.t 12)
      .skip
      (.exit 0)))
    (.seq (.blk 1 (.reg [⟨(some 15), none, .mv (.t 4)⟩,
      ⟨(some 16), none, .mv (.t 3)⟩,
      ⟨(some 17), none, .mv (.t 16)⟩,
      ⟨(some 18), (some (17, true)), .mv (.t 0)⟩,
      ⟨(some 19), (some (17, true)), .mv (.t 5)⟩,
      ⟨(some 20), (some (17, true)), .cl (.c (.fn 74 [])) [(.t 18), (.t 19)]⟩,
      ⟨(some 21), none, .pick (.t 17) (.t 20) (.c (.bool false))⟩,
      ⟨(some 22), none, .bs 1 [.bool false] 1 [(0, (.t 21))]⟩,
      ⟨(some 23), none, .app 1 1 (.t 15) (.t 22)⟩,
      ⟨(some 4), none, .mv (.t 23)⟩]))
    (.reg [⟨(some 13), none, .mv (.t 5)⟩,
     ⟨(some 14), none, .bin .add (.t 13) (.c (.int .i64 1))⟩,
     ⟨(some 5), none, .mv (.t 14)⟩]))))))
  (.seq (.reg [⟨(some 24), none, .mv (.t 4)⟩,
   ⟨(some 2), none, .mv (.t 24)⟩])
  .ret)))))
theorem k_spec_NeededAll : FnOk Try.prog 49 25 rc_spec_NeededAll [.t 2] := ⟨Try.f49, _, [], Try.func49, rfl, rfl, by kernel_rfl, by kernel_rfl, follows⟩
theorem ok_spec_NeededAll : okF Try.prog 49 = true := by kernel_rfl
def rc_spec_Shrunk : RC :=
  (.seq (.reg [⟨(some 6), none, .mv (.c (.nils))⟩])
  (.seq (.reg [⟨(some 13), none, .mv (.t 0)⟩,
   ⟨(some 14), none, .cl (.c (.fn 49 [])) [(.t 13)]⟩,
   ⟨(some 7), none, .mv (.t 14)⟩])
  (.seq (.reg [⟨(some 15), none, .mv (.t 0)⟩,
   ⟨(some 16), none, .lenl (.t 15)⟩,
   ⟨(some 17), none, .ms 1 [.bool false] 1 (.t 16) (.t 16)⟩,
   ⟨(some 8), none, .mv (.t 17)⟩])
  (.seq (.seq (.reg [⟨(some 9), none, .mv (.c (.int .i64 0))⟩])
  (.blk 0 (.loop (.seq (.seq (.reg [⟨(some 18), none, .mv (.t 9)⟩,
     ⟨(some 19), none, .mv (.t 0)⟩,
     ⟨(some 20), none, .lenl (.t 19)⟩,
     ⟨(some 21), none, .bin .lss (.t 18) (.t 20)⟩])
    (.cond (.t 21)
      .skip
      (.exit 0)))
    (.seq (.blk 1 (.reg [⟨(some 24), none, .mv (.t 8)⟩,
      ⟨(some 25), none, .mv (.t 9)⟩,
      ⟨(some 26), none, .mv (.t 9)⟩,
      ⟨(some 27), none, .mv (.t 1)⟩,
      ⟨(some 28), none, .lenl (.t 27)⟩,
      ⟨(some 29), none, .bin .lss (.t 26) (.t 28)⟩,
      ⟨(some 30), none, .mv (.t 29)⟩,
      ⟨(some 31), (some (30, true)), .mv (.t 1)⟩,
      ⟨(some 32), (some (30, true)), .mv (.t 9)⟩,
      ⟨(some 33), (some (30, true)), .ia 1 (.t 31) (.t 32)⟩,
      ⟨(some 34), (some (30, true)), .ld false 1 (.t 33)⟩,
      ⟨(some 35), none, .pick (.t 30) (.t 34) (.c (.bool false))⟩,
      ⟨(some 36), none, .mv (.t 35)⟩,
      ⟨(some 37), (some (36, true)), .mv (.t 7)⟩,
      ⟨(some 38), (some (36, true)), .mv (.t 9)⟩,
      ⟨(some 39), (some (36, true)), .ia 1 (.t 37) (.t 38)⟩,
      ⟨(some 40), (some (36, true)), .ld false 1 (.t 39)⟩,
      ⟨(some 41), (some (36, true)), .un .not (.t 40)⟩,
      ⟨(some 42), none, .pick (.t 36) (.t 41) (.c (.bool false))⟩,
      ⟨(some 43), none, .ia 1 (.t 24) (.t 25)⟩,
      ⟨none, none, .st 1 (.t 43) (.t 42)⟩]))
    (.reg [⟨(some 22), none, .mv (.t 9)⟩,
     ⟨(some 23), none, .bin .add (.t 22) (.c (.int .i64 1))⟩,
     ⟨(some 9), none, .mv (.t 23)⟩]))))))
  (.seq (.reg [⟨(some 44), none, .mv (.t 0)⟩,
   ⟨(some 45), none, .mv (.t 8)⟩,
   ⟨(some 46), none, .cl (.c (.fn 44 [])) [(.t 44), (.t 45)]⟩,
   ⟨(some 10), none, .mv (.t 46)⟩])
  (.seq (.reg [⟨(some 47), none, .mv (.t 0)⟩,
   ⟨(some 48), none, .mv (.t 8)⟩,
   ⟨(some 49), none, .cl (.c (.fn 15 [])) [(.t 47), (.t 48)]⟩,
   ⟨(some 11), none, .mv (.t 49)⟩])
  (.seq (.seq (.reg [⟨(some 12), none, .mv (.c (.int .i64 0))⟩])
  (.blk 2 (.loop (.seq (.seq (.reg [⟨(some 50), none, .mv (.t 12)⟩,
     ⟨(some 51), none, .mv (.t 11)⟩,
     ⟨(some 52), none, .lenl (.t 51)⟩,
     ⟨(some 53), none, .bin .lss (.t 50) (.t 52)⟩])
    (.cond (.t 53)
      .skip
      (.exit 2)))
    (.seq (.blk 3 (.reg [⟨(some 56), none, .mv (.t 10)⟩,
      ⟨(some 57), none, .mv (.t 2)⟩,
      ⟨(some 58), none, .mv (.t 12)⟩,
      ⟨(some 59), none, .bin .add (.t 57) (.t 58)⟩,
      ⟨(some 60), none, .mv (.t 11)⟩,
      ⟨(some 61), none, .mv (.t 12)⟩,
      ⟨(some 62), none, .ia 8 (.t 60) (.t 61)⟩,
      ⟨(some 63), none, .ld true 8 (.t 62)⟩,
      ⟨(some 64), none, .bld [.int .i64 0, .int .i64 0, .int .i64 0, .int .i64 0, .int .i64 0, .int .i64 0, .str [], .str [], .str []] [(0, 1), (1, 8)] [(0, (.t 59)), (1, (.t 63))]⟩,
      ⟨(some 65), none, .bs 9 [.int .i64 0, .int .i64 0, .int .i64 0, .int .i64 0, .int .i64 0, .int .i64 0, .str [], .str [], .str []] 1 [(0, (.t 64))]⟩,
      ⟨(some 66), none, .app 9 96 (.t 56) (.t 65)⟩,
      ⟨(some 10), none, .mv (.t 66)⟩]))
    (.reg [⟨(some 54), none, .mv (.t 12)⟩,
     ⟨(some 55), none, .bin .add (.t 54) (.c (.int .i64 1))⟩,
     ⟨(some 12), none, .mv (.t 55)⟩]))))))
  (.seq (.reg [⟨(some 67), none, .mv (.t 10)⟩,
   ⟨(some 6), none, .mv (.t 67)⟩])
  .ret))))))))
theorem k_spec_Shrunk : FnOk Try.prog 23 68 rc_spec_Shrunk [.t 6] := ⟨Try.f23, _, [], Try.func23, rfl, rfl, by kernel_rfl, by kernel_rfl, follows⟩
theorem ok_spec_Shrunk : okF Try.prog 23 = true := by kernel_rfl
def rc_impl_dropped : RC :=
  (.seq (.reg [⟨(some 4), none, .mv (.c (.bool false))⟩])
  (.seq (.reg [⟨(some 5), none, .mv (.t 1)⟩,
   ⟨(some 6), none, .mv (.t 0)⟩,
   ⟨(some 7), none, .lenl (.t 6)⟩,
   ⟨(some 8), none, .bin .lss (.t 5) (.t 7)⟩,
   ⟨(some 9), none, .mv (.t 8)⟩,
   ⟨(some 10), (some (9, true)), .mv (.t 0)⟩,
   ⟨(some 11), (some (9, true)), .mv (.t 1)⟩,
   ⟨(some 12), (some (9, true)), .ia 1 (.t 10) (.t 11)⟩,
   ⟨(some 13), (some (9, true)), .ld false 1 (.t 12)⟩,
   ⟨(some 14), none, .pick (.t 9) (.t 13) (.c (.bool false))⟩,
   ⟨(some 4), none, .mv (.t 14)⟩])
  .ret))
theorem k_impl_dropped : FnOk Try.prog 51 15 rc_impl_dropped [.t 4] := ⟨Try.f51, _, [], Try.func51, rfl, rfl, by kernel_rfl, by kernel_rfl, follows⟩
theorem ok_impl_dropped : okF Try.prog 51 = true := by kernel_rfl
def rc_impl_Without : RC :=
  (.seq (.reg [⟨(some 4), none, .mv (.c (.nils))⟩])
  (.seq (.reg [⟨(some 8), none, .mv (.c (.nils))⟩,
   ⟨(some 5), none, .mv (.t 8)⟩])
  (.seq (.seq (.reg [⟨(some 9), none, .mv (.t 0)⟩,
   ⟨(some 10), none, .lenl (.t 9)⟩,
   ⟨(some 11), none, .mv (.c (.int .i64 0))⟩])
  (.blk 0 (.loop (.seq (.reg [⟨(some 12), none, .bin .lss (.t 11) (.t 10)⟩])
    (.seq (.cond (.t 12)
      .skip
      (.exit 0))
    (.seq (.blk 1 (.seq (.reg [⟨(some 13), none, .mv (.t 11)⟩,
      ⟨(some 14), none, .ia 9 (.t 9) (.t 11)⟩,
      ⟨(some 15), none, .ld true 9 (.t 14)⟩,
      ⟨(some 7), none, .al [.int .i64 0, .int .i64 0, .int .i64 0, .int .i64 0, .int .i64 0, .int .i64 0, .str [], .str [], .str []]⟩,
      ⟨(some 6), none, .mv (.t 13)⟩,
      ⟨none, none, .st 9 (.t 7) (.t 15)⟩])
     (.seq (.reg [⟨(some 16), none, .mv (.t 1)⟩,
      ⟨(some 17), none, .mv (.t 6)⟩,
      ⟨(some 18), none, .cl (.c (.fn 51 [])) [(.t 16), (.t 17)]⟩,
      ⟨(some 19), none, .un .not (.t 18)⟩])
     (.cond (.t 19)
       (.reg [⟨(some 20), none, .mv (.t 5)⟩,
        ⟨(some 21), none, .ld true 9 (.t 7)⟩,
        ⟨(some 22), none, .bs 9 [.int .i64 0, .int .i64 0, .int .i64 0, .int .i64 0, .int .i64 0, .int .i64 0, .str [], .str [], .str []] 1 [(0, (.t 21))]⟩,
        ⟨(some 23), none, .app 9 96 (.t 20) (.t 22)⟩,
        ⟨(some 5), none, .mv (.t 23)⟩])
       .skip))))
    (.reg [⟨(some 24), none, .bin .add (.t 11) (.c (.int .i64 1))⟩,
     ⟨(some 11), none, .mv (.t 24)⟩])))))))
  (.seq (.reg [⟨(some 25), none, .mv (.t 5)⟩,
   ⟨(some 4), none, .mv (.t 25)⟩])
  .ret))))
theorem k_impl_Without : FnOk Try.prog 45 26 rc_impl_Without [.t 4] := ⟨Try.f45, _, [], Try.func45, rfl, rfl, by kernel_rfl, by kernel_rfl, follows⟩
theorem ok_impl_Without : okF Try.prog 45 = true := by kernel_rfl
def rc_impl_NextsOf_1 : RC :=
  (.seq (.reg [⟨(some 2), none, .bx (.t 0)⟩,
   ⟨(some 3), none, .mv (.c (.bool false))⟩])
  (.seq (.reg [⟨(some 4), none, .fa 0 (.t 2)⟩,
   ⟨(some 5), none, .ld false 1 (.t 4)⟩,
   ⟨(some 6), none, .fa 0 (.t 1)⟩,
   ⟨(some 7), none, .ld false 1 (.t 6)⟩,
   ⟨(some 8), none, .bin .eql (.t 5) (.t 7)⟩,
   ⟨(some 3), none, .mv (.t 8)⟩])
  .ret))
theorem k_impl_NextsOf_1 : FnOk Try.prog 47 9 rc_impl_NextsOf_1 [.t 3] := ⟨Try.f47, _, [], Try.func47, rfl, rfl, by kernel_rfl, by kernel_rfl, follows⟩
theorem ok_impl_NextsOf_1 : okF Try.prog 47 = true := by kernel_rfl
def rc_slices_IndexFunc_Box : RC :=
  (.seq (.reg [⟨(some 4), none, .mv (.c (.int .i64 0))⟩])
  (.seq (.seq (.reg [⟨(some 6), none, .mv (.t 0)⟩,
   ⟨(some 7), none, .lenl (.t 6)⟩,
   ⟨(some 8), none, .mv (.c (.int .i64 0))⟩])
  (.blk 0 (.loop (.seq (.reg [⟨(some 9), none, .bin .lss (.t 8) (.t 7)⟩])
    (.seq (.cond (.t 9)
      .skip
      (.exit 0))
    (.seq (.blk 1 (.seq (.reg [⟨(some 10), none, .mv (.t 8)⟩,
      ⟨(some 5), none, .mv (.t 10)⟩])
     (.seq (.reg [⟨(some 11), none, .mv (.t 1)⟩,
      ⟨(some 12), none, .mv (.t 0)⟩,
      ⟨(some 13), none, .mv (.t 5)⟩,
      ⟨(some 14), none, .ia 5 (.t 12) (.t 13)⟩,
      ⟨(some 15), none, .ld true 5 (.t 14)⟩,
      ⟨(some 16), none, .cl (.t 11) [(.t 15)]⟩])
     (.cond (.t 16)
       (.seq (.reg [⟨(some 17), none, .mv (.t 5)⟩,
        ⟨(some 4), none, .mv (.t 17)⟩])
       .ret)
       .skip))))
    (.reg [⟨(some 18), none, .bin .add (.t 8) (.c (.int .i64 1))⟩,
     ⟨(some 8), none, .mv (.t 18)⟩])))))))
  (.seq (.reg [⟨(some 4), none, .mv (.c (.int .i64 (-1)))⟩])
  .ret)))
theorem k_slices_IndexFunc_Box : FnOk Try.prog 46 19 rc_slices_IndexFunc_Box [.t 4] := ⟨Try.f46, _, [], Try.func46, rfl, rfl, by kernel_rfl, by kernel_rfl, follows⟩
theorem ok_slices_IndexFunc_Box : okF Try.prog 46 = true := by kernel_rfl
def rc_impl_in : RC :=
  (.seq (.reg [⟨(some 6), none, .mv (.c (.bool false))⟩])
  (.seq (.reg [⟨(some 7), none, .mv (.t 0)⟩,
   ⟨(some 8), none, .mv (.t 1)⟩,
   ⟨(some 9), none, .bin .geq (.t 7) (.t 8)⟩,
   ⟨(some 10), none, .mv (.t 9)⟩,
   ⟨(some 11), (some (10, true)), .mv (.t 0)⟩,
   ⟨(some 12), (some (10, true)), .mv (.t 2)⟩,
   ⟨(some 13), (some (10, true)), .bin .leq (.t 11) (.t 12)⟩,
   ⟨(some 14), none, .pick (.t 10) (.t 13) (.c (.bool false))⟩,
   ⟨(some 6), none, .mv (.t 14)⟩])
  .ret))
theorem k_impl_in : FnOk Try.prog 56 15 rc_impl_in [.t 6] := ⟨Try.f56, _, [], Try.func56, rfl, rfl, by kernel_rfl, by kernel_rfl, follows⟩
theorem ok_impl_in : okF Try.prog 56 = true := by kernel_rfl
def rc_impl_WordOk : RC :=
  (.seq (.reg [⟨(some 2), none, .mv (.c (.bool false))⟩])
  (.seq (.seq (.reg [⟨(some 4), none, .mv (.t 0)⟩,
   ⟨(some 5), none, .lens (.t 4)⟩,
   ⟨(some 6), none, .cl (.c (.fn 56 [])) [(.t 5), (.c (.int .i64 1)), (.c (.int .i64 8))]⟩,
   ⟨(some 7), none, .un .not (.t 6)⟩])
  (.cond (.t 7)
    (.seq (.reg [⟨(some 2), none, .mv (.c (.bool false))⟩])
    .ret)
    .skip))
  (.seq (.seq (.reg [⟨(some 8), none, .mv (.t 0)⟩,
   ⟨(some 9), none, .lens (.t 8)⟩,
   ⟨(some 10), none, .mv (.c (.int .i64 0))⟩])
  (.blk 0 (.loop (.seq (.reg [⟨(some 11), none, .bin .lss (.t 10) (.t 9)⟩])
    (.seq (.cond (.t 11)
      .skip
      (.exit 0))
    (.seq (.blk 1 (.seq (.reg [⟨(some 12), none, .mv (.t 10)⟩,
      ⟨(some 3), none, .mv (.t 12)⟩])
     (.seq (.reg [⟨(some 13), none, .mv (.t 0)⟩,
      ⟨(some 14), none, .mv (.t 3)⟩,
      ⟨(some 15), none, .idx (.t 13) (.t 14)⟩,
      ⟨(some 16), none, .bin .lss (.t 15) (.c (.int .u8 97))⟩,
      ⟨(some 17), none, .mv (.t 16)⟩,
      ⟨(some 18), (some (17, false)), .mv (.t 0)⟩,
      ⟨(some 19), (some (17, false)), .mv (.t 3)⟩,
      ⟨(some 20), (some (17, false)), .idx (.t 18) (.t 19)⟩,
      ⟨(some 21), (some (17, false)), .bin .gtr (.t 20) (.c (.int .u8 122))⟩,
      ⟨(some 22), none, .pick (.t 17) (.c (.bool true)) (.t 21)⟩])
     (.cond (.t 22)
       (.seq (.reg [⟨(some 2), none, .mv (.c (.bool false))⟩])
       .ret)
       .skip))))
    (.reg [⟨(some 23), none, .bin .add (.t 10) (.c (.int .i64 1))⟩,
     ⟨(some 10), none, .mv (.t 23)⟩])))))))
  (.seq (.reg [⟨(some 2), none, .mv (.c (.bool true))⟩])
  .ret))))
theorem k_impl_WordOk : FnOk Try.prog 77 24 rc_impl_WordOk [.t 2] := ⟨Try.f77, _, [], Try.func77, rfl, rfl, by kernel_rfl, by kernel_rfl, follows⟩
theorem ok_impl_WordOk : okF Try.prog 77 = true := by kernel_rfl
def rc_impl_RecOk : RC :=
  (.seq (.reg [⟨(some 1), none, .bx (.t 0)⟩,
   ⟨(some 2), none, .mv (.c (.bool false))⟩])
  (.seq (.seq (.reg [⟨(some 5), none, .fa 1 (.t 1)⟩,
   ⟨(some 6), none, .ld false 1 (.t 5)⟩,
   ⟨(some 7), none, .cl (.c (.fn 56 [])) [(.t 6), (.c (.int .i64 1)), (.c (.int .i64 9999))]⟩,
   ⟨(some 8), none, .un .not (.t 7)⟩])
  (.cond (.t 8)
    (.seq (.reg [⟨(some 2), none, .mv (.c (.bool false))⟩])
    .ret)
    .skip))
  (.seq (.reg [⟨(some 9), none, .ld true 8 (.t 1)⟩,
   ⟨(some 3), none, .al [.int .i64 0, .int .i64 0, .int .i64 0, .int .i64 0, .int .i64 0, .str [], .str [], .str []]⟩,
   ⟨none, none, .st 8 (.t 3) (.t 9)⟩])
  (.seq (.reg [⟨(some 10), none, .fa 0 (.t 3)⟩,
   ⟨none, none, .st 1 (.t 10) (.c (.int .i64 0))⟩,
   ⟨(some 11), none, .fa 1 (.t 3)⟩,
   ⟨none, none, .st 1 (.t 11) (.c (.int .i64 0))⟩])
  (.seq (.reg [⟨(some 4), none, .mv (.c (.bool true))⟩])
  (.seq (.seq (.reg [⟨(some 12), none, .fa 0 (.t 1)⟩,
   ⟨(some 13), none, .ld false 1 (.t 12)⟩,
   ⟨(some 14), none, .bin .eql (.t 13) (.c (.int .i64 3))⟩,
   ⟨(some 15), none, .mv (.t 14)⟩,
   ⟨(some 16), (some (15, false)), .fa 0 (.t 1)⟩,
   ⟨(some 17), (some (15, false)), .ld false 1 (.t 16)⟩,
   ⟨(some 18), (some (15, false)), .bin .eql (.t 17) (.c (.int .i64 4))⟩,
   ⟨(some 19), none, .pick (.t 15) (.c (.bool true)) (.t 18)⟩,
   ⟨(some 20), none, .mv (.t 19)⟩,
   ⟨(some 21), (some (20, false)), .fa 0 (.t 1)⟩,
   ⟨(some 22), (some (20, false)), .ld false 1 (.t 21)⟩,
   ⟨(some 23), (some (20, false)), .bin .eql (.t 22) (.c (.int .i64 5))⟩,
   ⟨(some 24), none, .pick (.t 20) (.c (.bool true)) (.t 23)⟩])
  (.cond (.t 24)
    (.seq (.reg [⟨(some 25), none, .fa 2 (.t 1)⟩,
     ⟨(some 26), none, .ld false 1 (.t 25)⟩,
     ⟨(some 27), none, .cl (.c (.fn 56 [])) [(.t 26), (.c (.int .i64 1)), (.c (.int .i64 9999))]⟩,
     ⟨(some 4), none, .mv (.t 27)⟩])
    (.reg [⟨(some 28), none, .fa 2 (.t 3)⟩,
     ⟨none, none, .st 1 (.t 28) (.c (.int .i64 0))⟩]))
    .skip))
  (.seq (.seq (.reg [⟨(some 29), none, .fa 0 (.t 1)⟩,
   ⟨(some 30), none, .ld false 1 (.t 29)⟩,
   ⟨(some 31), none, .bin .eql (.t 30) (.c (.int .i64 3))⟩,
   ⟨(some 32), none, .mv (.t 31)⟩,
   ⟨(some 33), (some (32, false)), .fa 0 (.t 1)⟩,
   ⟨(some 34), (some (32, false)), .ld false 1 (.t 33)⟩,
   ⟨(some 35), (some (32, false)), .bin .eql (.t 34) (.c (.int .i64 4))⟩,
   ⟨(some 36), none, .pick (.t 32) (.c (.bool true)) (.t 35)⟩])
  (.cond (.t 36)
    (.seq (.reg [⟨(some 37), none, .mv (.t 4)⟩,
     ⟨(some 38), none, .mv (.t 37)⟩,
     ⟨(some 39), (some (38, true)), .fa 4 (.t 1)⟩,
     ⟨(some 40), (some (38, true)), .ld false 1 (.t 39)⟩,
     ⟨(some 41), (some (38, true)), .cl (.c (.fn 56 [])) [(.t 40), (.c (.int .i64 0)), (.c (.int .i64 7))]⟩,
     ⟨(some 42), none, .pick (.t 38) (.t 41) (.c (.bool false))⟩,
     ⟨(some 4), none, .mv (.t 42)⟩])
    (.reg [⟨(some 43), none, .fa 4 (.t 3)⟩,
     ⟨none, none, .st 1 (.t 43) (.c (.int .i64 0))⟩]))
    .skip))
  (.seq (.seq (.reg [⟨(some 44), none, .fa 0 (.t 1)⟩,
   ⟨(some 45), none, .ld false 1 (.t 44)⟩])
  (.blk 0 (.seq (.reg [⟨(some 47), none, .bin .eql (.t 45) (.c (.int .i64 1))⟩,
    ⟨(some 46), none, .mv (.t 47)⟩])
   (.cond (.t 46)
     (.seq (.reg [⟨(some 48), none, .fa 5 (.t 1)⟩,
      ⟨(some 49), none, .ld false 1 (.t 48)⟩,
      ⟨(some 50), none, .cl (.c (.fn 77 [])) [(.t 49)]⟩,
      ⟨(some 51), none, .mv (.t 50)⟩,
      ⟨(some 52), (some (51, true)), .fa 6 (.t 1)⟩,
      ⟨(some 53), (some (51, true)), .ld false 1 (.t 52)⟩,
      ⟨(some 54), (some (51, true)), .cl (.c (.fn 77 [])) [(.t 53)]⟩,
      ⟨(some 55), none, .pick (.t 51) (.t 54) (.c (.bool false))⟩,
      ⟨(some 56), none, .mv (.t 55)⟩,
      ⟨(some 57), (some (56, true)), .fa 3 (.t 1)⟩,
      ⟨(some 58), (some (56, true)), .ld false 1 (.t 57)⟩,
      ⟨(some 59), (some (56, true)), .cl (.c (.fn 56 [])) [(.t 58), (.c (.int .i64 1)), (.c (.int .i64 10000))]⟩,
      ⟨(some 60), none, .pick (.t 56) (.t 59) (.c (.bool false))⟩,
      ⟨(some 4), none, .mv (.t 60)⟩])
     (.reg [⟨(some 61), none, .fa 5 (.t 3)⟩,
      ⟨none, none, .st 1 (.t 61) (.c (.str []))⟩,
      ⟨(some 62), none, .fa 6 (.t 3)⟩,
      ⟨none, none, .st 1 (.t 62) (.c (.str []))⟩,
      ⟨(some 63), none, .fa 3 (.t 3)⟩,
      ⟨none, none, .st 1 (.t 63) (.c (.int .i64 0))⟩]))
     (.seq (.reg [⟨(some 65), none, .bin .eql (.t 45) (.c (.int .i64 3))⟩,
      ⟨(some 64), none, .mv (.t 65)⟩])
     (.cond (.t 64)
       (.seq (.reg [⟨(some 66), none, .mv (.t 4)⟩,
        ⟨(some 67), none, .mv (.t 66)⟩,
        ⟨(some 68), (some (67, true)), .fa 7 (.t 1)⟩,
        ⟨(some 69), (some (67, true)), .ld false 1 (.t 68)⟩,
        ⟨(some 70), (some (67, true)), .lens (.t 69)⟩,
        ⟨(some 71), (some (67, true)), .bin .leq (.t 70) (.c (.int .i64 100))⟩,
        ⟨(some 72), none, .pick (.t 67) (.t 71) (.c (.bool false))⟩,
        ⟨(some 4), none, .mv (.t 72)⟩])
       (.reg [⟨(some 73), none, .fa 7 (.t 3)⟩,
        ⟨none, none, .st 1 (.t 73) (.c (.str []))⟩]))
       (.seq (.seq (.reg [⟨(some 75), none, .bin .eql (.t 45) (.c (.int .i64 2))⟩,
        ⟨(some 74), none, .mv (.t 75)⟩])
       (.cond (.t 74)
         .skip
         (.seq (.reg [⟨(some 76), none, .bin .eql (.t 45) (.c (.int .i64 4))⟩,
          ⟨(some 74), none, .mv (.t 76)⟩])
         (.cond (.t 74)
           .skip
           (.reg [⟨(some 77), none, .bin .eql (.t 45) (.c (.int .i64 5))⟩,
            ⟨(some 74), none, .mv (.t 77)⟩])))))
       (.cond (.t 74)
         .skip
         (.seq (.reg [⟨(some 2), none, .mv (.c (.bool false))⟩])
         .ret)))))))))
  (.seq (.reg [⟨(some 78), none, .mv (.t 4)⟩,
   ⟨(some 79), none, .mv (.t 78)⟩,
   ⟨(some 80), (some (79, true)), .ld true 8 (.t 3)⟩,
   ⟨(some 81), (some (79, true)), .bld [.int .i64 0, .int .i64 0, .int .i64 0, .int .i64 0, .int .i64 0, .str [], .str [], .str []] [(0, 1), (1, 1), (2, 1), (3, 1), (4, 1), (5, 1), (6, 1), (7, 1)] []⟩,
   ⟨(some 82), (some (79, true)), .equ false [(0, 1), (1, 1), (2, 1), (3, 1), (4, 1), (5, 2), (6, 2), (7, 2)] (.t 80) (.t 81)⟩,
   ⟨(some 83), none, .pick (.t 79) (.t 82) (.c (.bool false))⟩,
   ⟨(some 2), none, .mv (.t 83)⟩])
  .ret)))))))))
theorem k_impl_RecOk : FnOk Try.prog 57 84 rc_impl_RecOk [.t 2] := ⟨Try.f57, _, [], Try.func57, rfl, rfl, by kernel_rfl, by kernel_rfl, follows⟩
theorem ok_impl_RecOk : okF Try.prog 57 = true := by kernel_rfl
def rc_impl_ItemsOk_1 : RC :=
  (.seq (.reg [⟨(some 2), none, .bx (.t 0)⟩,
   ⟨(some 3), none, .mv (.c (.bool false))⟩])
  (.seq (.reg [⟨(some 4), none, .fa 0 (.t 2)⟩,
   ⟨(some 5), none, .ld false 1 (.t 4)⟩,
   ⟨(some 6), none, .fa 0 (.t 1)⟩,
   ⟨(some 7), none, .ld false 1 (.t 6)⟩,
   ⟨(some 8), none, .bin .eql (.t 5) (.t 7)⟩,
   ⟨(some 9), none, .mv (.t 8)⟩,
   ⟨(some 10), (some (9, true)), .ld true 9 (.t 2)⟩,
   ⟨(some 11), (some (9, true)), .ld true 9 (.t 1)⟩,
   ⟨(some 12), (some (9, true)), .equ true [(0, 1), (1, 1), (2, 1), (3, 1), (4, 1), (5, 1), (6, 2), (7, 2), (8, 2)] (.t 10) (.t 11)⟩,
   ⟨(some 13), none, .pick (.t 9) (.t 12) (.c (.bool false))⟩,
   ⟨(some 3), none, .mv (.t 13)⟩])
  .ret))
theorem k_impl_ItemsOk_1 : FnOk Try.prog 59 14 rc_impl_ItemsOk_1 [.t 3] := ⟨Try.f59, _, [], Try.func59, rfl, rfl, by kernel_rfl, by kernel_rfl, follows⟩
theorem ok_impl_ItemsOk_1 : okF Try.prog 59 = true := by kernel_rfl
def rc_slices_IndexFunc_Item : RC :=
  (.seq (.reg [⟨(some 4), none, .mv (.c (.int .i64 0))⟩])
  (.seq (.seq (.reg [⟨(some 6), none, .mv (.t 0)⟩,
   ⟨(some 7), none, .lenl (.t 6)⟩,
   ⟨(some 8), none, .mv (.c (.int .i64 0))⟩])
  (.blk 0 (.loop (.seq (.reg [⟨(some 9), none, .bin .lss (.t 8) (.t 7)⟩])
    (.seq (.cond (.t 9)
      .skip
      (.exit 0))
    (.seq (.blk 1 (.seq (.reg [⟨(some 10), none, .mv (.t 8)⟩,
      ⟨(some 5), none, .mv (.t 10)⟩])
     (.seq (.reg [⟨(some 11), none, .mv (.t 1)⟩,
      ⟨(some 12), none, .mv (.t 0)⟩,
      ⟨(some 13), none, .mv (.t 5)⟩,
      ⟨(some 14), none, .ia 9 (.t 12) (.t 13)⟩,
      ⟨(some 15), none, .ld true 9 (.t 14)⟩,
      ⟨(some 16), none, .cl (.t 11) [(.t 15)]⟩])
     (.cond (.t 16)
       (.seq (.reg [⟨(some 17), none, .mv (.t 5)⟩,
        ⟨(some 4), none, .mv (.t 17)⟩])
       .ret)
       .skip))))
    (.reg [⟨(some 18), none, .bin .add (.t 8) (.c (.int .i64 1))⟩,
     ⟨(some 8), none, .mv (.t 18)⟩])))))))
  (.seq (.reg [⟨(some 4), none, .mv (.c (.int .i64 (-1)))⟩])
  .ret)))
theorem k_slices_IndexFunc_Item : FnOk Try.prog 78 19 rc_slices_IndexFunc_Item [.t 4] := ⟨Try.f78, _, [], Try.func78, rfl, rfl, by kernel_rfl, by kernel_rfl, follows⟩
theorem ok_slices_IndexFunc_Item : okF Try.prog 78 = true := by kernel_rfl
def rc_slices_ContainsFunc_Item : RC :=
  (.seq (.reg [⟨(some 4), none, .mv (.c (.bool false))⟩])
  (.seq (.reg [⟨(some 5), none, .mv (.t 0)⟩,
   ⟨(some 6), none, .mv (.t 1)⟩,
   ⟨(some 7), none, .cl (.c (.fn 78 [])) [(.t 5), (.t 6)]⟩,
   ⟨(some 8), none, .bin .geq (.t 7) (.c (.int .i64 0))⟩,
   ⟨(some 4), none, .mv (.t 8)⟩])
  .ret))
theorem k_slices_ContainsFunc_Item : FnOk Try.prog 58 9 rc_slices_ContainsFunc_Item [.t 4] := ⟨Try.f58, _, [], Try.func58, rfl, rfl, by kernel_rfl, by kernel_rfl, follows⟩
theorem ok_slices_ContainsFunc_Item : okF Try.prog 58 = true := by kernel_rfl
def rc_impl_ItemsOk : RC :=
  (.seq (.reg [⟨(some 2), none, .mv (.c (.bool false))⟩])
  (.seq (.seq (.reg [⟨(some 5), none, .mv (.t 0)⟩,
   ⟨(some 6), none, .lenl (.t 5)⟩,
   ⟨(some 7), none, .bin .gtr (.t 6) (.c (.int .i64 200))⟩])
  (.cond (.t 7)
    (.seq (.reg [⟨(some 2), none, .mv (.c (.bool false))⟩])
    .ret)
    .skip))
  (.seq (.seq (.reg [⟨(some 8), none, .mv (.t 0)⟩,
   ⟨(some 9), none, .lenl (.t 8)⟩,
   ⟨(some 10), none, .mv (.c (.int .i64 0))⟩])
  (.blk 0 (.loop (.seq (.reg [⟨(some 11), none, .bin .lss (.t 10) (.t 9)⟩])
    (.seq (.cond (.t 11)
      .skip
      (.exit 0))
    (.seq (.blk 1 (.seq (.reg [⟨(some 12), none, .mv (.t 10)⟩,
      ⟨(some 13), none, .ia 9 (.t 8) (.t 10)⟩,
      ⟨(some 14), none, .ld true 9 (.t 13)⟩,
      ⟨(some 4), none, .al [.int .i64 0, .int .i64 0, .int .i64 0, .int .i64 0, .int .i64 0, .int .i64 0, .str [], .str [], .str []]⟩,
      ⟨(some 3), none, .mv (.t 12)⟩,
      ⟨none, none, .st 9 (.t 4) (.t 14)⟩])
     (.seq (.seq (.reg [⟨(some 15), none, .fa 0 (.t 4)⟩,
      ⟨(some 16), none, .ld false 1 (.t 15)⟩,
      ⟨(some 17), none, .cl (.c (.fn 56 [])) [(.t 16), (.c (.int .i64 1)), (.c (.int .i64 1000000000))]⟩,
      ⟨(some 18), none, .un .not (.t 17)⟩,
      ⟨(some 19), none, .mv (.t 18)⟩,
      ⟨(some 20), (some (19, false)), .fa 1 (.t 4)⟩,
      ⟨(some 21), (some (19, false)), .ld true 8 (.t 20)⟩,
      ⟨(some 22), (some (19, false)), .cl (.c (.fn 57 [])) [(.t 21)]⟩,
      ⟨(some 23), (some (19, false)), .un .not (.t 22)⟩,
      ⟨(some 24), none, .pick (.t 19) (.c (.bool true)) (.t 23)⟩])
     (.cond (.t 24)
       (.seq (.reg [⟨(some 2), none, .mv (.c (.bool false))⟩])
       .ret)
       .skip))
     (.seq (.reg [⟨(some 25), none, .mv (.t 0)⟩,
      ⟨(some 26), none, .mv (.t 3)⟩,
      ⟨(some 27), none, .sle 9 (.t 25) none (some (.t 26))⟩,
      ⟨(some 28), none, .mkf 59 [(.t 4)]⟩,
      ⟨(some 29), none, .cl (.c (.fn 58 [])) [(.t 27), (.t 28)]⟩])
     (.cond (.t 29)
       (.seq (.reg [⟨(some 2), none, .mv (.c (.bool false))⟩])
       .ret)
       .skip)))))
    (.reg [⟨(some 30), none, .bin .add (.t 10) (.c (.int .i64 1))⟩,
     ⟨(some 10), none, .mv (.t 30)⟩])))))))
  (.seq (.reg [⟨(some 2), none, .mv (.c (.bool true))⟩])
  .ret))))
theorem k_impl_ItemsOk : FnOk Try.prog 34 31 rc_impl_ItemsOk [.t 2] := ⟨Try.f34, _, [], Try.func34, rfl, rfl, by kernel_rfl, by kernel_rfl, follows⟩
theorem ok_impl_ItemsOk : okF Try.prog 34 = true := by kernel_rfl
def rc_impl_StateOf_1 : RC :=
  (.seq (.reg [⟨(some 1), none, .bx (.t 0)⟩,
   ⟨(some 2), none, .mv (.c (.int .i64 0))⟩,
   ⟨(some 3), none, .mv (.c (.bool false))⟩])
  (.seq (.drw [⟨(some 4), none, .fa 1 (.t 1)⟩,
   ⟨(some 5), none, .ld false 1 (.t 4)⟩,
   ⟨(some 6), none, .fa 0 (.t 1)⟩,
   ⟨(some 7), none, .ld false 1 (.t 6)⟩,
   ⟨(some 8), none, .bin .eql (.t 7) (.c (.int .i64 1))⟩,
   ⟨(some 2), none, .mv (.t 5)⟩,
   ⟨(some 3), none, .mv (.t 8)⟩] [.val [], .val [], .val [], .val [], .val [], .val [], .val []])
  .ret))
theorem k_impl_StateOf_1 : FnOk Try.prog 36 9 rc_impl_StateOf_1 [.t 2, .t 3] := ⟨Try.f36, _, [], Try.func36, rfl, rfl, by kernel_rfl, by kernel_rfl, follows⟩
theorem ok_impl_StateOf_1 : okF Try.prog 36 = true := by kernel_rfl
def rc_impl_numbers : RC :=
  (.seq (.reg [⟨(some 4), none, .mv (.c (.nils))⟩])
  (.seq (.reg [⟨(some 10), none, .mv (.c (.nils))⟩,
   ⟨(some 5), none, .mv (.t 10)⟩])
  (.seq (.seq (.reg [⟨(some 11), none, .mv (.t 0)⟩,
   ⟨(some 12), none, .lenl (.t 11)⟩,
   ⟨(some 13), none, .mv (.c (.int .i64 0))⟩])
  (.blk 0 (.loop (.seq (.reg [⟨(some 14), none, .bin .lss (.t 13) (.t 12)⟩])
    (.seq (.cond (.t 14)
      .skip
      (.exit 0))
    (.seq (.blk 1 (.seq (.reg [⟨(some 15), none, .ia 9 (.t 11) (.t 13)⟩,
      ⟨(some 16), none, .ld true 9 (.t 15)⟩,
      ⟨(some 7), none, .al [.int .i64 0, .int .i64 0, .int .i64 0, .int .i64 0, .int .i64 0, .int .i64 0, .str [], .str [], .str []]⟩,
      ⟨none, none, .st 9 (.t 7) (.t 16)⟩])
     (.seq (.reg [⟨(some 18), none, .mv (.t 1)⟩,
      ⟨(some 19), none, .fa 1 (.t 7)⟩,
      ⟨(some 20), none, .ld true 8 (.t 19)⟩,
      ⟨(some 21), none, .cl (.t 18) [(.t 20)]⟩,
      ⟨(some 17), none, .mv (.t 21)⟩,
      ⟨(some 22), none, .ext (.t 17) 0⟩,
      ⟨(some 23), none, .ext (.t 17) 1⟩,
      ⟨(some 8), none, .mv (.t 22)⟩,
      ⟨(some 9), none, .mv (.t 23)⟩])
     (.seq (.reg [⟨(some 24), none, .mv (.t 9)⟩])
     (.cond (.t 24)
       (.reg [⟨(some 25), none, .mv (.t 5)⟩,
        ⟨(some 26), none, .mv (.t 8)⟩,
        ⟨(some 27), none, .bs 1 [.int .i64 0] 1 [(0, (.t 26))]⟩,
        ⟨(some 28), none, .app 1 8 (.t 25) (.t 27)⟩,
        ⟨(some 5), none, .mv (.t 28)⟩])
       .skip)))))
    (.reg [⟨(some 29), none, .bin .add (.t 13) (.c (.int .i64 1))⟩,
     ⟨(some 13), none, .mv (.t 29)⟩])))))))
  (.seq (.reg [⟨(some 30), none, .mv (.t 5)⟩,
   ⟨(some 31), none, .cl (.c (.fn 60 [])) [(.t 30)]⟩])
  (.seq (.reg [⟨(some 32), none, .mv (.t 5)⟩,
   ⟨(some 33), none, .cl (.c (.fn 61 [])) [(.t 32)]⟩,
   ⟨(some 4), none, .mv (.t 33)⟩])
  .ret)))))
theorem k_impl_numbers : FnOk Try.prog 35 34 rc_impl_numbers [.t 4] := ⟨Try.f35, _, [], Try.func35, rfl, rfl, by kernel_rfl, by kernel_rfl, follows⟩
theorem ok_impl_numbers : okF Try.prog 35 = true := by kernel_rfl
def rc_impl_about : RC :=
  (.seq (.reg [⟨(some 3), none, .bx (.t 0)⟩,
   ⟨(some 6), none, .mv (.c (.bool false))⟩])
  (.seq (.reg [⟨(some 7), none, .fa 0 (.t 3)⟩,
   ⟨(some 8), none, .ld false 1 (.t 7)⟩,
   ⟨(some 9), none, .mv (.t 1)⟩,
   ⟨(some 10), none, .bin .eql (.t 8) (.t 9)⟩,
   ⟨(some 11), none, .mv (.t 10)⟩,
   ⟨(some 12), (some (11, true)), .fa 1 (.t 3)⟩,
   ⟨(some 13), (some (11, true)), .ld false 1 (.t 12)⟩,
   ⟨(some 14), (some (11, true)), .mv (.t 2)⟩,
   ⟨(some 15), (some (11, true)), .bin .eql (.t 13) (.t 14)⟩,
   ⟨(some 16), none, .pick (.t 11) (.t 15) (.c (.bool false))⟩,
   ⟨(some 6), none, .mv (.t 16)⟩])
  .ret))
theorem k_impl_about : FnOk Try.prog 64 17 rc_impl_about [.t 6] := ⟨Try.f64, _, [], Try.func64, rfl, rfl, by kernel_rfl, by kernel_rfl, follows⟩
theorem ok_impl_about : okF Try.prog 64 = true := by kernel_rfl
def rc_impl_boxThere_1 : RC :=
  (.seq (.reg [⟨(some 2), none, .bx (.t 0)⟩,
   ⟨(some 3), none, .mv (.c (.bool false))⟩])
  (.seq (.reg [⟨(some 4), none, .ld true 8 (.t 2)⟩,
   ⟨(some 5), none, .ld false 1 (.t 1)⟩,
   ⟨(some 6), none, .cl (.c (.fn 64 [])) [(.t 4), (.c (.int .i64 2)), (.t 5)]⟩,
   ⟨(some 3), none, .mv (.t 6)⟩])
  .ret))
theorem k_impl_boxThere_1 : FnOk Try.prog 63 7 rc_impl_boxThere_1 [.t 3] := ⟨Try.f63, _, [], Try.func63, rfl, rfl, by kernel_rfl, by kernel_rfl, follows⟩
theorem ok_impl_boxThere_1 : okF Try.prog 63 = true := by kernel_rfl
def rc_impl_bySeq : RC :=
  (.seq (.reg [⟨(some 2), none, .bx (.t 0)⟩,
   ⟨(some 3), none, .bx (.t 1)⟩,
   ⟨(some 4), none, .mv (.c (.bool false))⟩])
  (.seq (.reg [⟨(some 5), none, .fa 0 (.t 2)⟩,
   ⟨(some 6), none, .ld false 1 (.t 5)⟩,
   ⟨(some 7), none, .fa 0 (.t 3)⟩,
   ⟨(some 8), none, .ld false 1 (.t 7)⟩,
   ⟨(some 9), none, .bin .lss (.t 6) (.t 8)⟩,
   ⟨(some 4), none, .mv (.t 9)⟩])
  .ret))
theorem k_impl_bySeq : FnOk Try.prog 65 10 rc_impl_bySeq [.t 4] := ⟨Try.f65, _, [], Try.func65, rfl, rfl, by kernel_rfl, by kernel_rfl, follows⟩
theorem ok_impl_bySeq : okF Try.prog 65 = true := by kernel_rfl
def rc_impl_latest : RC :=
  (.seq (.reg [⟨(some 6), none, .al [.int .i64 0, .int .i64 0, .int .i64 0, .int .i64 0, .int .i64 0, .int .i64 0, .str [], .str [], .str []]⟩,
   ⟨(some 7), none, .mv (.c (.bool false))⟩])
  (.seq (.reg [⟨(some 12), none, .bld [.int .i64 0, .int .i64 0, .int .i64 0, .int .i64 0, .int .i64 0, .int .i64 0, .str [], .str [], .str []] [(0, 1), (1, 8)] []⟩,
   ⟨(some 8), none, .al [.int .i64 0, .int .i64 0, .int .i64 0, .int .i64 0, .int .i64 0, .int .i64 0, .str [], .str [], .str []]⟩,
   ⟨none, none, .st 9 (.t 8) (.t 12)⟩,
   ⟨(some 9), none, .mv (.c (.bool false))⟩])
  (.seq (.seq (.reg [⟨(some 13), none, .mv (.t 0)⟩,
   ⟨(some 14), none, .lenl (.t 13)⟩,
   ⟨(some 15), none, .mv (.c (.int .i64 0))⟩])
  (.blk 0 (.loop (.seq (.reg [⟨(some 16), none, .bin .lss (.t 15) (.t 14)⟩])
    (.seq (.cond (.t 16)
      .skip
      (.exit 0))
    (.seq (.blk 1 (.seq (.reg [⟨(some 17), none, .ia 9 (.t 13) (.t 15)⟩,
      ⟨(some 18), none, .ld true 9 (.t 17)⟩,
      ⟨(some 11), none, .al [.int .i64 0, .int .i64 0, .int .i64 0, .int .i64 0, .int .i64 0, .int .i64 0, .str [], .str [], .str []]⟩,
      ⟨none, none, .st 9 (.t 11) (.t 18)⟩])
     (.seq (.reg [⟨(some 19), none, .mv (.t 1)⟩,
      ⟨(some 20), none, .fa 1 (.t 11)⟩,
      ⟨(some 21), none, .ld true 8 (.t 20)⟩,
      ⟨(some 22), none, .cl (.t 19) [(.t 21)]⟩,
      ⟨(some 23), none, .mv (.t 22)⟩,
      ⟨(some 24), (some (23, true)), .mv (.t 9)⟩,
      ⟨(some 25), (some (23, true)), .un .not (.t 24)⟩,
      ⟨(some 26), (some (23, true)), .mv (.t 25)⟩,
      ⟨(some 27), (some (26, false)), .mv (.t 2)⟩,
      ⟨(some 28), (some (26, false)), .ld true 9 (.t 8)⟩,
      ⟨(some 29), (some (26, false)), .ld true 9 (.t 11)⟩,
      ⟨(some 30), (some (26, false)), .cl (.t 27) [(.t 28), (.t 29)]⟩,
      ⟨(some 31), (some (23, true)), .pick (.t 26) (.c (.bool true)) (.t 30)⟩,
      ⟨(some 32), none, .pick (.t 23) (.t 31) (.c (.bool false))⟩])
     (.cond (.t 32)
       (.reg [⟨(some 33), none, .ld true 9 (.t 11)⟩,
        ⟨none, none, .st 9 (.t 8) (.t 33)⟩,
        ⟨(some 9), none, .mv (.c (.bool true))⟩])
       .skip))))
    (.reg [⟨(some 34), none, .bin .add (.t 15) (.c (.int .i64 1))⟩,
     ⟨(some 15), none, .mv (.t 34)⟩])))))))
  (.seq (.reg [⟨(some 35), none, .ld true 9 (.t 8)⟩,
   ⟨(some 36), none, .mv (.t 9)⟩,
   ⟨none, none, .st 9 (.t 6) (.t 35)⟩,
   ⟨(some 7), none, .mv (.t 36)⟩])
  .ret))))
theorem k_impl_latest : FnOk Try.prog 62 37 rc_impl_latest [.cell 6 true 9, .t 7] := ⟨Try.f62, _, [], Try.func62, rfl, rfl, by kernel_rfl, by kernel_rfl, follows⟩
theorem ok_impl_latest : okF Try.prog 62 = true := by kernel_rfl
def rc_impl_boxThere_2 : RC :=
  (.seq (.reg [⟨(some 2), none, .bx (.t 0)⟩,
   ⟨(some 3), none, .mv (.c (.bool false))⟩])
  (.seq (.reg [⟨(some 4), none, .ld true 8 (.t 2)⟩,
   ⟨(some 5), none, .ld false 1 (.t 1)⟩,
   ⟨(some 6), none, .cl (.c (.fn 64 [])) [(.t 4), (.c (.int .i64 1)), (.t 5)]⟩,
   ⟨(some 3), none, .mv (.t 6)⟩])
  .ret))
theorem k_impl_boxThere_2 : FnOk Try.prog 66 7 rc_impl_boxThere_2 [.t 3] := ⟨Try.f66, _, [], Try.func66, rfl, rfl, by kernel_rfl, by kernel_rfl, follows⟩
theorem ok_impl_boxThere_2 : okF Try.prog 66 = true := by kernel_rfl
def rc_impl_byNext : RC :=
  (.seq (.reg [⟨(some 2), none, .bx (.t 0)⟩,
   ⟨(some 3), none, .bx (.t 1)⟩,
   ⟨(some 4), none, .mv (.c (.bool false))⟩])
  (.seq (.seq (.reg [⟨(some 5), none, .fa 1 (.t 2)⟩,
   ⟨(some 6), none, .fa 3 (.t 5)⟩,
   ⟨(some 7), none, .ld false 1 (.t 6)⟩,
   ⟨(some 8), none, .fa 1 (.t 3)⟩,
   ⟨(some 9), none, .fa 3 (.t 8)⟩,
   ⟨(some 10), none, .ld false 1 (.t 9)⟩,
   ⟨(some 11), none, .bin .neq (.t 7) (.t 10)⟩])
  (.cond (.t 11)
    (.seq (.reg [⟨(some 12), none, .fa 1 (.t 2)⟩,
     ⟨(some 13), none, .fa 3 (.t 12)⟩,
     ⟨(some 14), none, .ld false 1 (.t 13)⟩,
     ⟨(some 15), none, .fa 1 (.t 3)⟩,
     ⟨(some 16), none, .fa 3 (.t 15)⟩,
     ⟨(some 17), none, .ld false 1 (.t 16)⟩,
     ⟨(some 18), none, .bin .lss (.t 14) (.t 17)⟩,
     ⟨(some 4), none, .mv (.t 18)⟩])
    .ret)
    .skip))
  (.seq (.reg [⟨(some 19), none, .fa 0 (.t 2)⟩,
   ⟨(some 20), none, .ld false 1 (.t 19)⟩,
   ⟨(some 21), none, .fa 0 (.t 3)⟩,
   ⟨(some 22), none, .ld false 1 (.t 21)⟩,
   ⟨(some 23), none, .bin .lss (.t 20) (.t 22)⟩,
   ⟨(some 4), none, .mv (.t 23)⟩])
  .ret)))
theorem k_impl_byNext : FnOk Try.prog 67 24 rc_impl_byNext [.t 4] := ⟨Try.f67, _, [], Try.func67, rfl, rfl, by kernel_rfl, by kernel_rfl, follows⟩
theorem ok_impl_byNext : okF Try.prog 67 = true := by kernel_rfl
def rc_impl_boxThere : RC :=
  (.seq (.reg [⟨(some 3), none, .bx (.t 1)⟩,
   ⟨(some 4), none, .al [.int .i64 0, .int .i64 0, .int .i64 0, .int .i64 0, .int .i64 0, .int .i64 0, .str [], .str [], .str []]⟩,
   ⟨(some 5), none, .mv (.c (.bool false))⟩])
  (.seq (.seq (.reg [⟨(some 9), none, .mv (.t 0)⟩,
   ⟨(some 10), none, .mkf 63 [(.t 3)]⟩,
   ⟨(some 11), none, .cl (.c (.fn 62 [])) [(.t 9), (.t 10), (.c (.fn 65 []))]⟩,
   ⟨(some 8), none, .mv (.t 11)⟩,
   ⟨(some 12), none, .ext (.t 8) 0⟩,
   ⟨(some 13), none, .ext (.t 8) 1⟩,
   ⟨(some 6), none, .al [.int .i64 0, .int .i64 0, .int .i64 0, .int .i64 0, .int .i64 0, .int .i64 0, .str [], .str [], .str []]⟩,
   ⟨none, none, .st 9 (.t 6) (.t 12)⟩,
   ⟨(some 7), none, .mv (.t 13)⟩])
  (.seq (.reg [⟨(some 14), none, .mv (.t 7)⟩])
  (.cond (.t 14)
    (.seq (.reg [⟨(some 15), none, .bld [.int .i64 0, .int .i64 0, .int .i64 0, .int .i64 0, .int .i64 0, .int .i64 0, .str [], .str [], .str []] [(0, 1), (1, 8)] []⟩,
     ⟨none, none, .st 9 (.t 4) (.t 15)⟩,
     ⟨(some 5), none, .mv (.c (.bool false))⟩])
    .ret)
    .skip)))
  (.seq (.reg [⟨(some 16), none, .mv (.t 0)⟩,
   ⟨(some 17), none, .mkf 66 [(.t 3)]⟩,
   ⟨(some 18), none, .cl (.c (.fn 62 [])) [(.t 16), (.t 17), (.c (.fn 67 []))]⟩,
   ⟨(some 19), none, .ext (.t 18) 0⟩,
   ⟨(some 20), none, .ext (.t 18) 1⟩,
   ⟨none, none, .st 9 (.t 4) (.t 19)⟩,
   ⟨(some 5), none, .mv (.t 20)⟩])
  .ret)))
theorem k_impl_boxThere : FnOk Try.prog 37 21 rc_impl_boxThere [.cell 4 true 9, .t 5] := ⟨Try.f37, _, [], Try.func37, rfl, rfl, by kernel_rfl, by kernel_rfl, follows⟩
theorem ok_impl_boxThere : okF Try.prog 37 = true := by kernel_rfl
def rc_impl_boxState_1 : RC :=
  (.seq (.reg [⟨(some 2), none, .bx (.t 0)⟩,
   ⟨(some 3), none, .mv (.c (.int .i64 0))⟩,
   ⟨(some 4), none, .mv (.c (.bool false))⟩])
  (.seq (.drw [⟨(some 5), none, .fa 2 (.t 2)⟩,
   ⟨(some 6), none, .ld false 1 (.t 5)⟩,
   ⟨(some 7), none, .ld true 8 (.t 2)⟩,
   ⟨(some 8), none, .ld false 1 (.t 1)⟩,
   ⟨(some 9), none, .cl (.c (.fn 64 [])) [(.t 7), (.c (.int .i64 3)), (.t 8)]⟩,
   ⟨(some 10), none, .mv (.t 9)⟩,
   ⟨(some 11), (some (10, false)), .ld true 8 (.t 2)⟩,
   ⟨(some 12), (some (10, false)), .ld false 1 (.t 1)⟩,
   ⟨(some 13), (some (10, false)), .cl (.c (.fn 64 [])) [(.t 11), (.c (.int .i64 5)), (.t 12)]⟩,
   ⟨(some 14), none, .pick (.t 10) (.c (.bool true)) (.t 13)⟩,
   ⟨(some 3), none, .mv (.t 6)⟩,
   ⟨(some 4), none, .mv (.t 14)⟩] [.val [], .val [], .val [], .val [], .val [], .val [], .val [], .val [], .val [], .val [], .val [], .val []])
  .ret))
theorem k_impl_boxState_1 : FnOk Try.prog 68 15 rc_impl_boxState_1 [.t 3, .t 4] := ⟨Try.f68, _, [], Try.func68, rfl, rfl, by kernel_rfl, by kernel_rfl, follows⟩
theorem ok_impl_boxState_1 : okF Try.prog 68 = true := by kernel_rfl
def rc_impl_mailItem_1 : RC :=
  (.seq (.reg [⟨(some 4), none, .bx (.t 0)⟩,
   ⟨(some 5), none, .mv (.c (.bool false))⟩])
  (.seq (.reg [⟨(some 6), none, .ld true 8 (.t 4)⟩,
   ⟨(some 7), none, .ld false 1 (.t 1)⟩,
   ⟨(some 8), none, .ld false 1 (.t 2)⟩,
   ⟨(some 9), none, .cl (.c (.fn 64 [])) [(.t 6), (.t 7), (.t 8)]⟩,
   ⟨(some 10), none, .mv (.t 9)⟩,
   ⟨(some 11), (some (10, true)), .fa 2 (.t 4)⟩,
   ⟨(some 12), (some (10, true)), .ld false 1 (.t 11)⟩,
   ⟨(some 13), (some (10, true)), .ld false 1 (.t 3)⟩,
   ⟨(some 14), (some (10, true)), .bin .eql (.t 12) (.t 13)⟩,
   ⟨(some 15), none, .pick (.t 10) (.t 14) (.c (.bool false))⟩,
   ⟨(some 5), none, .mv (.t 15)⟩])
  .ret))
theorem k_impl_mailItem_1 : FnOk Try.prog 81 16 rc_impl_mailItem_1 [.t 5] := ⟨Try.f81, _, [], Try.func81, rfl, rfl, by kernel_rfl, by kernel_rfl, follows⟩
theorem ok_impl_mailItem_1 : okF Try.prog 81 = true := by kernel_rfl
def rc_impl_mailItem : RC :=
  (.seq (.reg [⟨(some 5), none, .bx (.t 1)⟩,
   ⟨(some 6), none, .bx (.t 2)⟩,
   ⟨(some 7), none, .bx (.t 3)⟩,
   ⟨(some 8), none, .al [.int .i64 0, .int .i64 0, .int .i64 0, .int .i64 0, .int .i64 0, .int .i64 0, .str [], .str [], .str []]⟩,
   ⟨(some 9), none, .mv (.c (.bool false))⟩])
  (.seq (.reg [⟨(some 10), none, .mv (.t 0)⟩,
   ⟨(some 11), none, .mkf 81 [(.t 5), (.t 6), (.t 7)]⟩,
   ⟨(some 12), none, .cl (.c (.fn 62 [])) [(.t 10), (.t 11), (.c (.fn 65 []))]⟩,
   ⟨(some 13), none, .ext (.t 12) 0⟩,
   ⟨(some 14), none, .ext (.t 12) 1⟩,
   ⟨none, none, .st 9 (.t 8) (.t 13)⟩,
   ⟨(some 9), none, .mv (.t 14)⟩])
  .ret))
theorem k_impl_mailItem : FnOk Try.prog 70 15 rc_impl_mailItem [.cell 8 true 9, .t 9] := ⟨Try.f70, _, [], Try.func70, rfl, rfl, by kernel_rfl, by kernel_rfl, follows⟩
theorem ok_impl_mailItem : okF Try.prog 70 = true := by kernel_rfl
def rc_impl_mailThere : RC :=
  (.seq (.reg [⟨(some 6), none, .al [.int .i64 0, .int .i64 0, .int .i64 0, .int .i64 0, .int .i64 0, .int .i64 0, .str [], .str [], .str []]⟩,
   ⟨(some 7), none, .mv (.c (.bool false))⟩])
  (.seq (.seq (.reg [⟨(some 13), none, .mv (.t 0)⟩,
   ⟨(some 14), none, .mv (.t 1)⟩,
   ⟨(some 15), none, .cl (.c (.fn 37 [])) [(.t 13), (.t 14)]⟩,
   ⟨(some 12), none, .mv (.t 15)⟩,
   ⟨(some 16), none, .ext (.t 12) 0⟩,
   ⟨(some 17), none, .ext (.t 12) 1⟩,
   ⟨(some 8), none, .al [.int .i64 0, .int .i64 0, .int .i64 0, .int .i64 0, .int .i64 0, .int .i64 0, .str [], .str [], .str []]⟩,
   ⟨none, none, .st 9 (.t 8) (.t 16)⟩,
   ⟨(some 9), none, .mv (.t 17)⟩])
  (.seq (.reg [⟨(some 18), none, .mv (.t 9)⟩,
   ⟨(some 19), none, .un .not (.t 18)⟩])
  (.cond (.t 19)
    (.seq (.reg [⟨(some 20), none, .bld [.int .i64 0, .int .i64 0, .int .i64 0, .int .i64 0, .int .i64 0, .int .i64 0, .str [], .str [], .str []] [(0, 1), (1, 8)] []⟩,
     ⟨none, none, .st 9 (.t 6) (.t 20)⟩,
     ⟨(some 7), none, .mv (.c (.bool false))⟩])
    .ret)
    .skip)))
  (.seq (.seq (.reg [⟨(some 22), none, .mv (.t 0)⟩,
   ⟨(some 23), none, .mv (.t 1)⟩,
   ⟨(some 24), none, .mv (.t 2)⟩,
   ⟨(some 25), none, .cl (.c (.fn 70 [])) [(.t 22), (.c (.int .i64 5)), (.t 23), (.t 24)]⟩,
   ⟨(some 21), none, .mv (.t 25)⟩,
   ⟨(some 26), none, .ext (.t 21) 0⟩,
   ⟨(some 27), none, .ext (.t 21) 1⟩,
   ⟨(some 10), none, .al [.int .i64 0, .int .i64 0, .int .i64 0, .int .i64 0, .int .i64 0, .int .i64 0, .str [], .str [], .str []]⟩,
   ⟨none, none, .st 9 (.t 10) (.t 26)⟩,
   ⟨(some 11), none, .mv (.t 27)⟩])
  (.seq (.reg [⟨(some 28), none, .mv (.t 11)⟩])
  (.cond (.t 28)
    (.seq (.reg [⟨(some 29), none, .bld [.int .i64 0, .int .i64 0, .int .i64 0, .int .i64 0, .int .i64 0, .int .i64 0, .str [], .str [], .str []] [(0, 1), (1, 8)] []⟩,
     ⟨none, none, .st 9 (.t 6) (.t 29)⟩,
     ⟨(some 7), none, .mv (.c (.bool false))⟩])
    .ret)
    .skip)))
  (.seq (.reg [⟨(some 30), none, .mv (.t 0)⟩,
   ⟨(some 31), none, .mv (.t 1)⟩,
   ⟨(some 32), none, .mv (.t 2)⟩,
   ⟨(some 33), none, .cl (.c (.fn 70 [])) [(.t 30), (.c (.int .i64 3)), (.t 31), (.t 32)]⟩,
   ⟨(some 34), none, .ext (.t 33) 0⟩,
   ⟨(some 35), none, .ext (.t 33) 1⟩,
   ⟨none, none, .st 9 (.t 6) (.t 34)⟩,
   ⟨(some 7), none, .mv (.t 35)⟩])
  .ret))))
theorem k_impl_mailThere : FnOk Try.prog 69 36 rc_impl_mailThere [.cell 6 true 9, .t 7] := ⟨Try.f69, _, [], Try.func69, rfl, rfl, by kernel_rfl, by kernel_rfl, follows⟩
theorem ok_impl_mailThere : okF Try.prog 69 = true := by kernel_rfl
def rc_impl_boxState : RC :=
  (.seq (.reg [⟨(some 3), none, .bx (.t 1)⟩,
   ⟨(some 4), none, .al [.int .i64 0, .str [], .str [], .int .i64 0, .nils]⟩])
  (.seq (.reg [⟨(some 15), none, .fa 1 (.t 3)⟩,
   ⟨(some 16), none, .fa 1 (.t 15)⟩,
   ⟨(some 17), none, .ld false 1 (.t 16)⟩,
   ⟨(some 5), none, .al [.int .i64 0]⟩,
   ⟨none, none, .st 1 (.t 5) (.t 17)⟩])
  (.seq (.reg [⟨(some 18), none, .ld false 1 (.t 5)⟩,
   ⟨(some 19), none, .fa 1 (.t 3)⟩,
   ⟨(some 20), none, .fa 5 (.t 19)⟩,
   ⟨(some 21), none, .ld false 1 (.t 20)⟩,
   ⟨(some 22), none, .fa 1 (.t 3)⟩,
   ⟨(some 23), none, .fa 6 (.t 22)⟩,
   ⟨(some 24), none, .ld false 1 (.t 23)⟩,
   ⟨(some 25), none, .fa 1 (.t 3)⟩,
   ⟨(some 26), none, .fa 3 (.t 25)⟩,
   ⟨(some 27), none, .ld false 1 (.t 26)⟩,
   ⟨(some 28), none, .bld [.int .i64 0, .str [], .str [], .int .i64 0, .nils] [(0, 1), (1, 1), (2, 1), (3, 1), (4, 1)] [(0, (.t 18)), (1, (.t 21)), (2, (.t 24)), (3, (.t 27))]⟩,
   ⟨(some 6), none, .al [.int .i64 0, .str [], .str [], .int .i64 0, .nils]⟩,
   ⟨none, none, .st 5 (.t 6) (.t 28)⟩])
  (.seq (.reg [⟨(some 29), none, .mv (.t 0)⟩,
   ⟨(some 30), none, .mkf 68 [(.t 5)]⟩,
   ⟨(some 31), none, .cl (.c (.fn 35 [])) [(.t 29), (.t 30)]⟩,
   ⟨(some 7), none, .mv (.t 31)⟩])
  (.seq (.seq (.reg [⟨(some 32), none, .mv (.t 7)⟩,
   ⟨(some 33), none, .lenl (.t 32)⟩,
   ⟨(some 34), none, .mv (.c (.int .i64 0))⟩])
  (.blk 0 (.loop (.seq (.reg [⟨(some 35), none, .bin .lss (.t 34) (.t 33)⟩])
    (.seq (.cond (.t 35)
      .skip
      (.exit 0))
    (.seq (.blk 1 (.seq (.reg [⟨(some 36), none, .ia 1 (.t 32) (.t 34)⟩,
      ⟨(some 37), none, .ld false 1 (.t 36)⟩,
      ⟨(some 9), none, .mv (.t 37)⟩])
     (.seq (.reg [⟨(some 38), none, .fa 3 (.t 6)⟩,
      ⟨(some 39), none, .ld false 1 (.t 38)⟩,
      ⟨(some 40), none, .mv (.t 9)⟩,
      ⟨(some 41), none, .bin .add (.t 40) (.c (.int .i64 1))⟩,
      ⟨(some 42), none, .mx (.t 39) (.t 41)⟩,
      ⟨(some 43), none, .fa 3 (.t 6)⟩,
      ⟨none, none, .st 1 (.t 43) (.t 42)⟩])
     (.seq (.reg [⟨(some 45), none, .mv (.t 0)⟩,
      ⟨(some 46), none, .ld false 1 (.t 5)⟩,
      ⟨(some 47), none, .mv (.t 9)⟩,
      ⟨(some 48), none, .cl (.c (.fn 69 [])) [(.t 45), (.t 46), (.t 47)]⟩,
      ⟨(some 44), none, .mv (.t 48)⟩,
      ⟨(some 49), none, .ext (.t 44) 0⟩,
      ⟨(some 50), none, .ext (.t 44) 1⟩,
      ⟨(some 10), none, .al [.int .i64 0, .int .i64 0, .int .i64 0, .int .i64 0, .int .i64 0, .int .i64 0, .str [], .str [], .str []]⟩,
      ⟨none, none, .st 9 (.t 10) (.t 49)⟩,
      ⟨(some 11), none, .mv (.t 50)⟩])
     (.seq (.seq (.reg [⟨(some 51), none, .mv (.t 11)⟩,
      ⟨(some 52), none, .un .not (.t 51)⟩])
     (.cond (.t 52)
       (.exit 1)
       .skip))
     (.seq (.reg [⟨(some 53), none, .mv (.t 9)⟩,
      ⟨(some 54), none, .fa 1 (.t 10)⟩,
      ⟨(some 55), none, .fa 4 (.t 54)⟩,
      ⟨(some 56), none, .ld false 1 (.t 55)⟩,
      ⟨(some 57), none, .fa 1 (.t 10)⟩,
      ⟨(some 58), none, .fa 7 (.t 57)⟩,
      ⟨(some 59), none, .ld false 1 (.t 58)⟩,
      ⟨(some 60), none, .bld [.int .i64 0, .int .i64 0, .str []] [(0, 1), (1, 1), (2, 1)] [(0, (.t 53)), (1, (.t 56)), (2, (.t 59))]⟩,
      ⟨(some 12), none, .al [.int .i64 0, .int .i64 0, .str []]⟩,
      ⟨none, none, .st 3 (.t 12) (.t 60)⟩])
     (.seq (.seq (.reg [⟨(some 62), none, .mv (.t 0)⟩,
      ⟨(some 63), none, .ld false 1 (.t 5)⟩,
      ⟨(some 64), none, .mv (.t 9)⟩,
      ⟨(some 65), none, .cl (.c (.fn 70 [])) [(.t 62), (.c (.int .i64 4)), (.t 63), (.t 64)]⟩,
      ⟨(some 61), none, .mv (.t 65)⟩,
      ⟨(some 66), none, .ext (.t 61) 0⟩,
      ⟨(some 67), none, .ext (.t 61) 1⟩,
      ⟨(some 13), none, .al [.int .i64 0, .int .i64 0, .int .i64 0, .int .i64 0, .int .i64 0, .int .i64 0, .str [], .str [], .str []]⟩,
      ⟨none, none, .st 9 (.t 13) (.t 66)⟩,
      ⟨(some 14), none, .mv (.t 67)⟩])
     (.seq (.reg [⟨(some 68), none, .mv (.t 14)⟩])
     (.cond (.t 68)
       (.reg [⟨(some 69), none, .fa 1 (.t 13)⟩,
        ⟨(some 70), none, .fa 4 (.t 69)⟩,
        ⟨(some 71), none, .ld false 1 (.t 70)⟩,
        ⟨(some 72), none, .fa 1 (.t 12)⟩,
        ⟨none, none, .st 1 (.t 72) (.t 71)⟩])
       .skip)))
     (.reg [⟨(some 73), none, .fa 4 (.t 6)⟩,
      ⟨(some 74), none, .ld false 1 (.t 73)⟩,
      ⟨(some 75), none, .ld true 3 (.t 12)⟩,
      ⟨(some 76), none, .bs 3 [.int .i64 0, .int .i64 0, .str []] 1 [(0, (.t 75))]⟩,
      ⟨(some 77), none, .app 3 32 (.t 74) (.t 76)⟩,
      ⟨(some 78), none, .fa 4 (.t 6)⟩,
      ⟨none, none, .st 1 (.t 78) (.t 77)⟩]))))))))
    (.reg [⟨(some 79), none, .bin .add (.t 34) (.c (.int .i64 1))⟩,
     ⟨(some 34), none, .mv (.t 79)⟩])))))))
  (.seq (.reg [⟨(some 80), none, .ld true 5 (.t 6)⟩,
   ⟨none, none, .st 5 (.t 4) (.t 80)⟩])
  .ret))))))
theorem k_impl_boxState : FnOk Try.prog 38 81 rc_impl_boxState [.cell 4 true 5] := ⟨Try.f38, _, [], Try.func38, rfl, rfl, by kernel_rfl, by kernel_rfl, follows⟩
theorem ok_impl_boxState : okF Try.prog 38 = true := by kernel_rfl
def rc_impl_StateOf : RC :=
  (.seq (.reg [⟨(some 2), none, .al [.nils]⟩])
  (.seq (.seq (.reg [⟨(some 8), none, .mv (.t 0)⟩,
   ⟨(some 9), none, .cl (.c (.fn 34 [])) [(.t 8)]⟩,
   ⟨(some 10), none, .un .not (.t 9)⟩])
  (.cond (.t 10)
    (.seq (.reg [⟨(some 11), none, .bld [.nils] [(0, 1)] []⟩,
     ⟨none, none, .st 1 (.t 2) (.t 11)⟩])
    .ret)
    .skip))
  (.seq (.reg [⟨(some 12), none, .bld [.nils] [(0, 1)] []⟩,
   ⟨(some 3), none, .al [.nils]⟩,
   ⟨none, none, .st 1 (.t 3) (.t 12)⟩])
  (.seq (.seq (.reg [⟨(some 13), none, .mv (.t 0)⟩,
   ⟨(some 14), none, .cl (.c (.fn 35 [])) [(.t 13), (.c (.fn 36 []))]⟩,
   ⟨(some 15), none, .lenl (.t 14)⟩,
   ⟨(some 16), none, .mv (.c (.int .i64 0))⟩])
  (.blk 0 (.loop (.seq (.reg [⟨(some 17), none, .bin .lss (.t 16) (.t 15)⟩])
    (.seq (.cond (.t 17)
      .skip
      (.exit 0))
    (.seq (.blk 1 (.seq (.reg [⟨(some 18), none, .ia 1 (.t 14) (.t 16)⟩,
      ⟨(some 19), none, .ld false 1 (.t 18)⟩,
      ⟨(some 5), none, .mv (.t 19)⟩])
     (.seq (.reg [⟨(some 21), none, .mv (.t 0)⟩,
      ⟨(some 22), none, .mv (.t 5)⟩,
      ⟨(some 23), none, .cl (.c (.fn 37 [])) [(.t 21), (.t 22)]⟩,
      ⟨(some 20), none, .mv (.t 23)⟩,
      ⟨(some 24), none, .ext (.t 20) 0⟩,
      ⟨(some 25), none, .ext (.t 20) 1⟩,
      ⟨(some 6), none, .al [.int .i64 0, .int .i64 0, .int .i64 0, .int .i64 0, .int .i64 0, .int .i64 0, .str [], .str [], .str []]⟩,
      ⟨none, none, .st 9 (.t 6) (.t 24)⟩,
      ⟨(some 7), none, .mv (.t 25)⟩])
     (.seq (.reg [⟨(some 26), none, .mv (.t 7)⟩])
     (.cond (.t 26)
       (.drw [⟨(some 27), none, .fa 0 (.t 3)⟩,
        ⟨(some 28), none, .ld false 1 (.t 27)⟩,
        ⟨(some 29), none, .mv (.t 0)⟩,
        ⟨(some 30), none, .ld true 9 (.t 6)⟩,
        ⟨(some 31), none, .cl (.c (.fn 38 [])) [(.t 29), (.t 30)]⟩,
        ⟨(some 32), none, .bs 5 [.int .i64 0, .str [], .str [], .int .i64 0, .nils] 1 [(0, (.t 31))]⟩,
        ⟨(some 33), none, .app 5 72 (.t 28) (.t 32)⟩,
        ⟨(some 34), none, .fa 0 (.t 3)⟩,
        ⟨none, none, .st 1 (.t 34) (.t 33)⟩] [.val [], .val [], .val [], .val [], .chn [0, 1], .chn [0, 1], .chn [], .val [], .chn []])
       .skip)))))
    (.reg [⟨(some 35), none, .bin .add (.t 16) (.c (.int .i64 1))⟩,
     ⟨(some 16), none, .mv (.t 35)⟩])))))))
  (.seq (.reg [⟨(some 36), none, .ld true 1 (.t 3)⟩,
   ⟨none, none, .st 1 (.t 2) (.t 36)⟩])
  .ret)))))
theorem k_impl_StateOf : FnOk Try.prog 9 37 rc_impl_StateOf [.cell 2 true 1] := ⟨Try.f9, _, [(9, [4])], Try.func9, rfl, rfl, by kernel_rfl, by kernel_rfl, follows⟩
theorem ok_impl_StateOf : okF Try.prog 9 = true := by kernel_rfl
def rc_impl_NextsOf : RC :=
  (.seq (.reg [⟨(some 4), none, .mv (.c (.nils))⟩])
  (.seq (.reg [⟨(some 10), none, .mv (.t 0)⟩,
   ⟨(some 11), none, .mv (.t 1)⟩,
   ⟨(some 12), none, .cl (.c (.fn 45 [])) [(.t 10), (.t 11)]⟩,
   ⟨(some 13), none, .cl (.c (.fn 9 [])) [(.t 12)]⟩,
   ⟨(some 5), none, .al [.nils]⟩,
   ⟨none, none, .st 1 (.t 5) (.t 13)⟩])
  (.seq (.reg [⟨(some 14), none, .mv (.c (.nils))⟩,
   ⟨(some 6), none, .mv (.t 14)⟩])
  (.seq (.seq (.reg [⟨(some 15), none, .mv (.t 0)⟩,
   ⟨(some 16), none, .cl (.c (.fn 9 [])) [(.t 15)]⟩,
   ⟨(some 17), none, .fld 0 1 false (.t 16)⟩,
   ⟨(some 18), none, .lenl (.t 17)⟩,
   ⟨(some 19), none, .mv (.c (.int .i64 0))⟩])
  (.blk 0 (.loop (.seq (.reg [⟨(some 20), none, .bin .lss (.t 19) (.t 18)⟩])
    (.seq (.cond (.t 20)
      .skip
      (.exit 0))
    (.seq (.blk 1 (.seq (.reg [⟨(some 21), none, .ia 5 (.t 17) (.t 19)⟩,
      ⟨(some 22), none, .ld true 5 (.t 21)⟩,
      ⟨(some 8), none, .al [.int .i64 0, .str [], .str [], .int .i64 0, .nils]⟩,
      ⟨none, none, .st 5 (.t 8) (.t 22)⟩])
     (.seq (.reg [⟨(some 23), none, .fa 0 (.t 5)⟩,
      ⟨(some 24), none, .ld false 1 (.t 23)⟩,
      ⟨(some 25), none, .mkf 47 [(.t 8)]⟩,
      ⟨(some 26), none, .cl (.c (.fn 46 [])) [(.t 24), (.t 25)]⟩,
      ⟨(some 9), none, .mv (.t 26)⟩])
     (.seq (.drw [⟨(some 27), none, .mv (.t 9)⟩,
      ⟨(some 28), none, .bin .lss (.t 27) (.c (.int .i64 0))⟩,
      ⟨(some 29), none, .mv (.t 28)⟩,
      ⟨(some 30), (some (29, false)), .fa 0 (.t 5)⟩,
      ⟨(some 31), (some (29, false)), .ld false 1 (.t 30)⟩,
      ⟨(some 32), (some (29, false)), .mv (.t 9)⟩,
      ⟨(some 33), (some (29, false)), .ia 5 (.t 31) (.t 32)⟩,
      ⟨(some 34), (some (29, false)), .fa 3 (.t 33)⟩,
      ⟨(some 35), (some (29, false)), .ld false 1 (.t 34)⟩,
      ⟨(some 36), (some (29, false)), .fa 3 (.t 8)⟩,
      ⟨(some 37), (some (29, false)), .ld false 1 (.t 36)⟩,
      ⟨(some 38), (some (29, false)), .bin .lss (.t 35) (.t 37)⟩,
      ⟨(some 39), none, .pick (.t 29) (.c (.bool true)) (.t 38)⟩] [.val [], .val [], .val [], .val [], .val [], .val [], .val [], .val [], .val [], .val [], .val [], .val [], .val []])
     (.cond (.t 39)
       (.reg [⟨(some 40), none, .mv (.t 6)⟩,
        ⟨(some 41), none, .fa 0 (.t 8)⟩,
        ⟨(some 42), none, .ld false 1 (.t 41)⟩,
        ⟨(some 43), none, .fa 3 (.t 8)⟩,
        ⟨(some 44), none, .ld false 1 (.t 43)⟩,
        ⟨(some 45), none, .fa 1 (.t 8)⟩,
        ⟨(some 46), none, .ld false 1 (.t 45)⟩,
        ⟨(some 47), none, .fa 2 (.t 8)⟩,
        ⟨(some 48), none, .ld false 1 (.t 47)⟩,
        ⟨(some 49), none, .bld [.int .i64 0, .int .i64 0, .int .i64 0, .int .i64 0, .int .i64 0, .str [], .str [], .str []] [(0, 1), (1, 1), (2, 1), (3, 1), (4, 1), (5, 1), (6, 1), (7, 1)] [(0, (.c (.int .i64 1))), (1, (.t 42)), (3, (.t 44)), (5, (.t 46)), (6, (.t 48))]⟩,
        ⟨(some 50), none, .bs 8 [.int .i64 0, .int .i64 0, .int .i64 0, .int .i64 0, .int .i64 0, .str [], .str [], .str []] 1 [(0, (.t 49))]⟩,
        ⟨(some 51), none, .app 8 88 (.t 40) (.t 50)⟩,
        ⟨(some 6), none, .mv (.t 51)⟩])
       .skip)))))
    (.reg [⟨(some 52), none, .bin .add (.t 19) (.c (.int .i64 1))⟩,
     ⟨(some 19), none, .mv (.t 52)⟩])))))))
  (.seq (.reg [⟨(some 53), none, .mv (.t 6)⟩,
   ⟨(some 4), none, .mv (.t 53)⟩])
  .ret)))))
theorem k_impl_NextsOf : FnOk Try.prog 17 54 rc_impl_NextsOf [.t 4] := ⟨Try.f17, _, [], Try.func17, rfl, rfl, by kernel_rfl, by kernel_rfl, follows⟩
theorem ok_impl_NextsOf : okF Try.prog 17 = true := by kernel_rfl
def rc_impl_needed_1 : RC :=
  (.seq (.reg [⟨(some 2), none, .bx (.t 0)⟩,
   ⟨(some 3), none, .mv (.c (.bool false))⟩])
  (.seq (.reg [⟨(some 4), none, .fa 0 (.t 2)⟩,
   ⟨(some 5), none, .ld false 1 (.t 4)⟩,
   ⟨(some 6), none, .fa 0 (.t 1)⟩,
   ⟨(some 7), none, .ld false 1 (.t 6)⟩,
   ⟨(some 8), none, .bin .eql (.t 5) (.t 7)⟩,
   ⟨(some 3), none, .mv (.t 8)⟩])
  .ret))
theorem k_impl_needed_1 : FnOk Try.prog 86 9 rc_impl_needed_1 [.t 3] := ⟨Try.f86, _, [], Try.func86, rfl, rfl, by kernel_rfl, by kernel_rfl, follows⟩
theorem ok_impl_needed_1 : okF Try.prog 86 = true := by kernel_rfl
def rc_impl_needed_2 : RC :=
  (.seq (.reg [⟨(some 2), none, .bx (.t 0)⟩,
   ⟨(some 3), none, .mv (.c (.bool false))⟩])
  (.seq (.reg [⟨(some 4), none, .fa 1 (.t 2)⟩,
   ⟨(some 5), none, .fa 1 (.t 4)⟩,
   ⟨(some 6), none, .ld false 1 (.t 5)⟩,
   ⟨(some 7), none, .fa 1 (.t 1)⟩,
   ⟨(some 8), none, .ld false 1 (.t 7)⟩,
   ⟨(some 9), none, .bin .eql (.t 6) (.t 8)⟩,
   ⟨(some 10), none, .mv (.t 9)⟩,
   ⟨(some 11), (some (10, true)), .fa 1 (.t 2)⟩,
   ⟨(some 12), (some (10, true)), .fa 0 (.t 11)⟩,
   ⟨(some 13), (some (10, true)), .ld false 1 (.t 12)⟩,
   ⟨(some 14), (some (10, true)), .bin .neq (.t 13) (.c (.int .i64 2))⟩,
   ⟨(some 15), none, .pick (.t 10) (.t 14) (.c (.bool false))⟩,
   ⟨(some 3), none, .mv (.t 15)⟩])
  .ret))
theorem k_impl_needed_2 : FnOk Try.prog 87 16 rc_impl_needed_2 [.t 3] := ⟨Try.f87, _, [], Try.func87, rfl, rfl, by kernel_rfl, by kernel_rfl, follows⟩
theorem ok_impl_needed_2 : okF Try.prog 87 = true := by kernel_rfl
def rc_impl_needed_3 : RC :=
  (.seq (.reg [⟨(some 2), none, .bx (.t 0)⟩,
   ⟨(some 3), none, .mv (.c (.bool false))⟩])
  (.seq (.reg [⟨(some 4), none, .ld true 8 (.t 2)⟩,
   ⟨(some 5), none, .fa 1 (.t 1)⟩,
   ⟨(some 6), none, .ld false 1 (.t 5)⟩,
   ⟨(some 7), none, .cl (.c (.fn 64 [])) [(.t 4), (.c (.int .i64 2)), (.t 6)]⟩,
   ⟨(some 3), none, .mv (.t 7)⟩])
  .ret))
theorem k_impl_needed_3 : FnOk Try.prog 88 8 rc_impl_needed_3 [.t 3] := ⟨Try.f88, _, [], Try.func88, rfl, rfl, by kernel_rfl, by kernel_rfl, follows⟩
theorem ok_impl_needed_3 : okF Try.prog 88 = true := by kernel_rfl
def rc_impl_needed : RC :=
  (.seq (.reg [⟨(some 4), none, .mv (.c (.bool false))⟩])
  (.seq (.reg [⟨(some 15), none, .mv (.t 0)⟩,
   ⟨(some 16), none, .mv (.t 1)⟩,
   ⟨(some 17), none, .ia 9 (.t 15) (.t 16)⟩,
   ⟨(some 18), none, .ld true 9 (.t 17)⟩,
   ⟨(some 5), none, .al [.int .i64 0, .int .i64 0, .int .i64 0, .int .i64 0, .int .i64 0, .int .i64 0, .str [], .str [], .str []]⟩,
   ⟨none, none, .st 9 (.t 5) (.t 18)⟩])
  (.seq (.seq (.reg [⟨(some 19), none, .mv (.t 0)⟩,
   ⟨(some 20), none, .mv (.t 1)⟩,
   ⟨(some 21), none, .sle 9 (.t 19) none (some (.t 20))⟩,
   ⟨(some 22), none, .mkf 86 [(.t 5)]⟩,
   ⟨(some 23), none, .cl (.c (.fn 58 [])) [(.t 21), (.t 22)]⟩])
  (.cond (.t 23)
    (.seq (.reg [⟨(some 4), none, .mv (.c (.bool false))⟩])
    .ret)
    .skip))
  (.seq (.reg [⟨(some 24), none, .fa 1 (.t 5)⟩,
   ⟨(some 25), none, .ld true 8 (.t 24)⟩,
   ⟨(some 6), none, .al [.int .i64 0, .int .i64 0, .int .i64 0, .int .i64 0, .int .i64 0, .str [], .str [], .str []]⟩,
   ⟨none, none, .st 8 (.t 6) (.t 25)⟩])
  (.seq (.reg [⟨(some 26), none, .bld [.int .i64 0, .int .i64 0, .int .i64 0, .int .i64 0, .int .i64 0, .int .i64 0, .str [], .str [], .str []] [(0, 1), (1, 8)] []⟩,
   ⟨(some 7), none, .al [.int .i64 0, .int .i64 0, .int .i64 0, .int .i64 0, .int .i64 0, .int .i64 0, .str [], .str [], .str []]⟩,
   ⟨none, none, .st 9 (.t 7) (.t 26)⟩,
   ⟨(some 8), none, .mv (.c (.bool false))⟩])
  (.seq (.seq (.reg [⟨(some 27), none, .fa 0 (.t 6)⟩,
   ⟨(some 28), none, .ld false 1 (.t 27)⟩])
  (.blk 0 (.seq (.reg [⟨(some 30), none, .bin .eql (.t 28) (.c (.int .i64 1))⟩,
    ⟨(some 29), none, .mv (.t 30)⟩])
   (.cond (.t 29)
     (.reg [⟨(some 32), none, .mv (.t 0)⟩,
      ⟨(some 33), none, .fa 1 (.t 6)⟩,
      ⟨(some 34), none, .ld false 1 (.t 33)⟩,
      ⟨(some 35), none, .cl (.c (.fn 37 [])) [(.t 32), (.t 34)]⟩,
      ⟨(some 31), none, .mv (.t 35)⟩,
      ⟨(some 36), none, .ext (.t 31) 0⟩,
      ⟨(some 37), none, .ext (.t 31) 1⟩,
      ⟨none, none, .st 9 (.t 7) (.t 36)⟩,
      ⟨(some 8), none, .mv (.t 37)⟩])
     (.seq (.reg [⟨(some 39), none, .bin .eql (.t 28) (.c (.int .i64 2))⟩,
      ⟨(some 38), none, .mv (.t 39)⟩])
     (.cond (.t 38)
       (.seq (.seq (.reg [⟨(some 40), none, .mv (.t 0)⟩,
        ⟨(some 41), none, .mkf 87 [(.t 6)]⟩,
        ⟨(some 42), none, .cl (.c (.fn 58 [])) [(.t 40), (.t 41)]⟩,
        ⟨(some 43), none, .un .not (.t 42)⟩])
       (.cond (.t 43)
         (.seq (.reg [⟨(some 4), none, .mv (.c (.bool false))⟩])
         .ret)
         .skip))
       (.reg [⟨(some 45), none, .mv (.t 0)⟩,
        ⟨(some 46), none, .mkf 88 [(.t 6)]⟩,
        ⟨(some 47), none, .cl (.c (.fn 62 [])) [(.t 45), (.t 46), (.c (.fn 65 []))]⟩,
        ⟨(some 44), none, .mv (.t 47)⟩,
        ⟨(some 48), none, .ext (.t 44) 0⟩,
        ⟨(some 49), none, .ext (.t 44) 1⟩,
        ⟨none, none, .st 9 (.t 7) (.t 48)⟩,
        ⟨(some 8), none, .mv (.t 49)⟩]))
       (.seq (.seq (.reg [⟨(some 51), none, .bin .eql (.t 28) (.c (.int .i64 3))⟩,
        ⟨(some 50), none, .mv (.t 51)⟩])
       (.cond (.t 50)
         .skip
         (.reg [⟨(some 52), none, .bin .eql (.t 28) (.c (.int .i64 4))⟩,
          ⟨(some 50), none, .mv (.t 52)⟩])))
       (.cond (.t 50)
         (.seq (.seq (.reg [⟨(some 54), none, .mv (.t 0)⟩,
          ⟨(some 55), none, .fa 1 (.t 6)⟩,
          ⟨(some 56), none, .ld false 1 (.t 55)⟩,
          ⟨(some 57), none, .fa 2 (.t 6)⟩,
          ⟨(some 58), none, .ld false 1 (.t 57)⟩,
          ⟨(some 59), none, .cl (.c (.fn 69 [])) [(.t 54), (.t 56), (.t 58)]⟩,
          ⟨(some 53), none, .mv (.t 59)⟩,
          ⟨(some 60), none, .ext (.t 53) 0⟩,
          ⟨(some 61), none, .ext (.t 53) 1⟩,
          ⟨(some 9), none, .al [.int .i64 0, .int .i64 0, .int .i64 0, .int .i64 0, .int .i64 0, .int .i64 0, .str [], .str [], .str []]⟩,
          ⟨none, none, .st 9 (.t 9) (.t 60)⟩,
          ⟨(some 10), none, .mv (.t 61)⟩])
         (.seq (.reg [⟨(some 62), none, .mv (.t 10)⟩,
          ⟨(some 63), none, .un .not (.t 62)⟩])
         (.cond (.t 63)
           (.seq (.reg [⟨(some 4), none, .mv (.c (.bool false))⟩])
           .ret)
           .skip)))
         (.reg [⟨(some 65), none, .mv (.t 0)⟩,
          ⟨(some 66), none, .fa 0 (.t 6)⟩,
          ⟨(some 67), none, .ld false 1 (.t 66)⟩,
          ⟨(some 68), none, .fa 1 (.t 6)⟩,
          ⟨(some 69), none, .ld false 1 (.t 68)⟩,
          ⟨(some 70), none, .fa 2 (.t 6)⟩,
          ⟨(some 71), none, .ld false 1 (.t 70)⟩,
          ⟨(some 72), none, .cl (.c (.fn 70 [])) [(.t 65), (.t 67), (.t 69), (.t 71)]⟩,
          ⟨(some 64), none, .mv (.t 72)⟩,
          ⟨(some 73), none, .ext (.t 64) 0⟩,
          ⟨(some 74), none, .ext (.t 64) 1⟩,
          ⟨none, none, .st 9 (.t 7) (.t 73)⟩,
          ⟨(some 8), none, .mv (.t 74)⟩]))
         (.seq (.reg [⟨(some 76), none, .bin .eql (.t 28) (.c (.int .i64 5))⟩,
          ⟨(some 75), none, .mv (.t 76)⟩])
         (.cond (.t 75)
           (.seq (.reg [⟨(some 78), none, .mv (.t 0)⟩,
            ⟨(some 79), none, .fa 1 (.t 6)⟩,
            ⟨(some 80), none, .ld false 1 (.t 79)⟩,
            ⟨(some 81), none, .cl (.c (.fn 37 [])) [(.t 78), (.t 80)]⟩,
            ⟨(some 77), none, .mv (.t 81)⟩,
            ⟨(some 82), none, .ext (.t 77) 0⟩,
            ⟨(some 83), none, .ext (.t 77) 1⟩,
            ⟨(some 11), none, .al [.int .i64 0, .int .i64 0, .int .i64 0, .int .i64 0, .int .i64 0, .int .i64 0, .str [], .str [], .str []]⟩,
            ⟨none, none, .st 9 (.t 11) (.t 82)⟩,
            ⟨(some 12), none, .mv (.t 83)⟩])
           (.seq (.reg [⟨(some 85), none, .mv (.t 0)⟩,
            ⟨(some 86), none, .fa 1 (.t 6)⟩,
            ⟨(some 87), none, .ld false 1 (.t 86)⟩,
            ⟨(some 88), none, .fa 2 (.t 6)⟩,
            ⟨(some 89), none, .ld false 1 (.t 88)⟩,
            ⟨(some 90), none, .cl (.c (.fn 70 [])) [(.t 85), (.c (.int .i64 3)), (.t 87), (.t 89)]⟩,
            ⟨(some 84), none, .mv (.t 90)⟩,
            ⟨(some 91), none, .ext (.t 84) 0⟩,
            ⟨(some 92), none, .ext (.t 84) 1⟩,
            ⟨(some 13), none, .al [.int .i64 0, .int .i64 0, .int .i64 0, .int .i64 0, .int .i64 0, .int .i64 0, .str [], .str [], .str []]⟩,
            ⟨none, none, .st 9 (.t 13) (.t 91)⟩,
            ⟨(some 14), none, .mv (.t 92)⟩])
           (.seq (.seq (.reg [⟨(some 93), none, .mv (.t 12)⟩,
            ⟨(some 94), none, .un .not (.t 93)⟩,
            ⟨(some 95), none, .mv (.t 94)⟩,
            ⟨(some 96), (some (95, false)), .mv (.t 14)⟩,
            ⟨(some 97), (some (95, false)), .un .not (.t 96)⟩,
            ⟨(some 98), none, .pick (.t 95) (.c (.bool true)) (.t 97)⟩])
           (.cond (.t 98)
             (.seq (.reg [⟨(some 4), none, .mv (.c (.bool false))⟩])
             .ret)
             .skip))
           (.reg [⟨(some 100), none, .mv (.t 0)⟩,
            ⟨(some 101), none, .fa 1 (.t 6)⟩,
            ⟨(some 102), none, .ld false 1 (.t 101)⟩,
            ⟨(some 103), none, .fa 2 (.t 6)⟩,
            ⟨(some 104), none, .ld false 1 (.t 103)⟩,
            ⟨(some 105), none, .cl (.c (.fn 70 [])) [(.t 100), (.c (.int .i64 5)), (.t 102), (.t 104)]⟩,
            ⟨(some 99), none, .mv (.t 105)⟩,
            ⟨(some 106), none, .ext (.t 99) 0⟩,
            ⟨(some 107), none, .ext (.t 99) 1⟩,
            ⟨none, none, .st 9 (.t 7) (.t 106)⟩,
            ⟨(some 8), none, .mv (.t 107)⟩]))))
           .skip))))))))))
  (.seq (.reg [⟨(some 108), none, .mv (.t 8)⟩,
   ⟨(some 109), none, .mv (.t 108)⟩,
   ⟨(some 110), (some (109, true)), .ld true 9 (.t 7)⟩,
   ⟨(some 111), (some (109, true)), .ld true 9 (.t 5)⟩,
   ⟨(some 112), (some (109, true)), .equ false [(0, 1), (1, 1), (2, 1), (3, 1), (4, 1), (5, 1), (6, 2), (7, 2), (8, 2)] (.t 110) (.t 111)⟩,
   ⟨(some 113), none, .pick (.t 109) (.t 112) (.c (.bool false))⟩,
   ⟨(some 4), none, .mv (.t 113)⟩])
  .ret)))))))
theorem k_impl_needed : FnOk Try.prog 75 114 rc_impl_needed [.t 4] := ⟨Try.f75, _, [], Try.func75, rfl, rfl, by kernel_rfl, by kernel_rfl, follows⟩
theorem ok_impl_needed : okF Try.prog 75 = true := by kernel_rfl
def rc_impl_NeededAll : RC :=
  (.seq (.reg [⟨(some 2), none, .mv (.c (.nils))⟩])
  (.seq (.reg [⟨(some 6), none, .mv (.t 0)⟩,
   ⟨(some 7), none, .cl (.c (.fn 34 [])) [(.t 6)]⟩,
   ⟨(some 3), none, .mv (.t 7)⟩])
  (.seq (.reg [⟨(some 8), none, .mv (.c (.nils))⟩,
   ⟨(some 4), none, .mv (.t 8)⟩])
  (.seq (.seq (.reg [⟨(some 9), none, .mv (.t 0)⟩,
   ⟨(some 10), none, .lenl (.t 9)⟩,
   ⟨(some 11), none, .mv (.c (.int .i64 0))⟩])
  (.blk 0 (.loop (.seq (.reg [⟨(some 12), none, .bin .lss (.t 11) (.t 10)⟩])
    (.seq (.cond (.t 12)
      .skip
      (.exit 0))
    (.seq (.blk 1 (.seq (.reg [⟨(some 13), none, .mv (.t 11)⟩,
      ⟨(some 5), none, .mv (.t 13)⟩])
     (.reg [⟨(some 14), none, .mv (.t 4)⟩,
      ⟨(some 15), none, .mv (.t 3)⟩,
      ⟨(some 16), none, .mv (.t 15)⟩,
      ⟨(some 17), (some (16, true)), .mv (.t 0)⟩,
      ⟨(some 18), (some (16, true)), .mv (.t 5)⟩,
      ⟨(some 19), (some (16, true)), .cl (.c (.fn 75 [])) [(.t 17), (.t 18)]⟩,
      ⟨(some 20), none, .pick (.t 16) (.t 19) (.c (.bool false))⟩,
      ⟨(some 21), none, .bs 1 [.bool false] 1 [(0, (.t 20))]⟩,
      ⟨(some 22), none, .app 1 1 (.t 14) (.t 21)⟩,
      ⟨(some 4), none, .mv (.t 22)⟩])))
    (.reg [⟨(some 23), none, .bin .add (.t 11) (.c (.int .i64 1))⟩,
     ⟨(some 11), none, .mv (.t 23)⟩])))))))
  (.seq (.reg [⟨(some 24), none, .mv (.t 4)⟩,
   ⟨(some 2), none, .mv (.t 24)⟩])
  .ret)))))
theorem k_impl_NeededAll : FnOk Try.prog 50 25 rc_impl_NeededAll [.t 2] := ⟨Try.f50, _, [], Try.func50, rfl, rfl, by kernel_rfl, by kernel_rfl, follows⟩
theorem ok_impl_NeededAll : okF Try.prog 50 = true := by kernel_rfl
def rc_impl_Shrunk : RC :=
  (.seq (.reg [⟨(some 6), none, .mv (.c (.nils))⟩])
  (.seq (.reg [⟨(some 13), none, .mv (.t 0)⟩,
   ⟨(some 14), none, .cl (.c (.fn 50 [])) [(.t 13)]⟩,
   ⟨(some 7), none, .mv (.t 14)⟩])
  (.seq (.reg [⟨(some 15), none, .mv (.c (.nils))⟩,
   ⟨(some 8), none, .mv (.t 15)⟩])
  (.seq (.seq (.reg [⟨(some 16), none, .mv (.t 0)⟩,
   ⟨(some 17), none, .lenl (.t 16)⟩,
   ⟨(some 18), none, .mv (.c (.int .i64 0))⟩])
  (.blk 0 (.loop (.seq (.reg [⟨(some 19), none, .bin .lss (.t 18) (.t 17)⟩])
    (.seq (.cond (.t 19)
      .skip
      (.exit 0))
    (.seq (.blk 1 (.seq (.reg [⟨(some 20), none, .mv (.t 18)⟩,
      ⟨(some 9), none, .mv (.t 20)⟩])
     (.reg [⟨(some 21), none, .mv (.t 8)⟩,
      ⟨(some 22), none, .mv (.t 1)⟩,
      ⟨(some 23), none, .mv (.t 9)⟩,
      ⟨(some 24), none, .cl (.c (.fn 51 [])) [(.t 22), (.t 23)]⟩,
      ⟨(some 25), none, .mv (.t 24)⟩,
      ⟨(some 26), (some (25, true)), .mv (.t 7)⟩,
      ⟨(some 27), (some (25, true)), .mv (.t 9)⟩,
      ⟨(some 28), (some (25, true)), .ia 1 (.t 26) (.t 27)⟩,
      ⟨(some 29), (some (25, true)), .ld false 1 (.t 28)⟩,
      ⟨(some 30), (some (25, true)), .un .not (.t 29)⟩,
      ⟨(some 31), none, .pick (.t 25) (.t 30) (.c (.bool false))⟩,
      ⟨(some 32), none, .bs 1 [.bool false] 1 [(0, (.t 31))]⟩,
      ⟨(some 33), none, .app 1 1 (.t 21) (.t 32)⟩,
      ⟨(some 8), none, .mv (.t 33)⟩])))
    (.reg [⟨(some 34), none, .bin .add (.t 18) (.c (.int .i64 1))⟩,
     ⟨(some 18), none, .mv (.t 34)⟩])))))))
  (.seq (.reg [⟨(some 35), none, .mv (.t 0)⟩,
   ⟨(some 36), none, .mv (.t 8)⟩,
   ⟨(some 37), none, .cl (.c (.fn 45 [])) [(.t 35), (.t 36)]⟩,
   ⟨(some 10), none, .mv (.t 37)⟩])
  (.seq (.seq (.reg [⟨(some 38), none, .mv (.t 0)⟩,
   ⟨(some 39), none, .mv (.t 8)⟩,
   ⟨(some 40), none, .cl (.c (.fn 17 [])) [(.t 38), (.t 39)]⟩,
   ⟨(some 41), none, .lenl (.t 40)⟩,
   ⟨(some 42), none, .mv (.c (.int .i64 0))⟩])
  (.blk 2 (.loop (.seq (.reg [⟨(some 43), none, .bin .lss (.t 42) (.t 41)⟩])
    (.seq (.cond (.t 43)
      .skip
      (.exit 2))
    (.seq (.blk 3 (.seq (.reg [⟨(some 44), none, .mv (.t 42)⟩,
      ⟨(some 45), none, .ia 8 (.t 40) (.t 42)⟩,
      ⟨(some 46), none, .ld true 8 (.t 45)⟩,
      ⟨(some 12), none, .al [.int .i64 0, .int .i64 0, .int .i64 0, .int .i64 0, .int .i64 0, .str [], .str [], .str []]⟩,
      ⟨(some 11), none, .mv (.t 44)⟩,
      ⟨none, none, .st 8 (.t 12) (.t 46)⟩])
     (.reg [⟨(some 47), none, .mv (.t 10)⟩,
      ⟨(some 48), none, .mv (.t 2)⟩,
      ⟨(some 49), none, .mv (.t 11)⟩,
      ⟨(some 50), none, .bin .add (.t 48) (.t 49)⟩,
      ⟨(some 51), none, .ld true 8 (.t 12)⟩,
      ⟨(some 52), none, .bld [.int .i64 0, .int .i64 0, .int .i64 0, .int .i64 0, .int .i64 0, .int .i64 0, .str [], .str [], .str []] [(0, 1), (1, 8)] [(0, (.t 50)), (1, (.t 51))]⟩,
      ⟨(some 53), none, .bs 9 [.int .i64 0, .int .i64 0, .int .i64 0, .int .i64 0, .int .i64 0, .int .i64 0, .str [], .str [], .str []] 1 [(0, (.t 52))]⟩,
      ⟨(some 54), none, .app 9 96 (.t 47) (.t 53)⟩,
      ⟨(some 10), none, .mv (.t 54)⟩])))
    (.reg [⟨(some 55), none, .bin .add (.t 42) (.c (.int .i64 1))⟩,
     ⟨(some 42), none, .mv (.t 55)⟩])))))))
  (.seq (.reg [⟨(some 56), none, .mv (.t 10)⟩,
   ⟨(some 6), none, .mv (.t 56)⟩])
  .ret)))))))
theorem k_impl_Shrunk : FnOk Try.prog 24 57 rc_impl_Shrunk [.t 6] := ⟨Try.f24, _, [], Try.func24, rfl, rfl, by kernel_rfl, by kernel_rfl, follows⟩
theorem ok_impl_Shrunk : okF Try.prog 24 = true := by kernel_rfl
def rc_laws_heldItemS : RC :=
  (.seq (.reg [⟨(some 4), none, .mv (.c (.int .i64 0))⟩])
  (.seq (.seq (.reg [⟨(some 5), none, .mv (.c (.int .i64 0))⟩])
  (.blk 0 (.loop (.seq (.seq (.reg [⟨(some 6), none, .mv (.t 5)⟩,
     ⟨(some 7), none, .mv (.t 0)⟩,
     ⟨(some 8), none, .lenl (.t 7)⟩,
     ⟨(some 9), none, .bin .lss (.t 6) (.t 8)⟩])
    (.cond (.t 9)
      .skip
      (.exit 0)))
    (.seq (.blk 1 (.seq (.seq (.reg [⟨(some 12), none, .mv (.t 0)⟩,
      ⟨(some 13), none, .mv (.t 5)⟩,
      ⟨(some 14), none, .ia 9 (.t 12) (.t 13)⟩,
      ⟨(some 15), none, .fa 0 (.t 14)⟩,
      ⟨(some 16), none, .ld false 1 (.t 15)⟩,
      ⟨(some 17), none, .mv (.t 1)⟩,
      ⟨(some 18), none, .bin .neq (.t 16) (.t 17)⟩])
     (.cond (.t 18)
       (.seq (.reg [⟨(some 4), none, .mv (.c (.int .i64 (-1)))⟩])
       .ret)
       .skip))
     (.seq (.reg [⟨(some 19), none, .mv (.t 1)⟩,
      ⟨(some 20), none, .bin .add (.t 19) (.c (.int .i64 1))⟩,
      ⟨(some 1), none, .mv (.t 20)⟩])
     (.seq (.seq (.reg [⟨(some 21), none, .mv (.t 0)⟩,
      ⟨(some 22), none, .mv (.t 5)⟩,
      ⟨(some 23), none, .ia 9 (.t 21) (.t 22)⟩,
      ⟨(some 24), none, .fa 1 (.t 23)⟩,
      ⟨(some 25), none, .fa 0 (.t 24)⟩,
      ⟨(some 26), none, .ld false 1 (.t 25)⟩,
      ⟨(some 27), none, .mv (.t 1)⟩,
      ⟨(some 28), none, .bin .neq (.t 26) (.t 27)⟩])
     (.cond (.t 28)
       (.seq (.reg [⟨(some 4), none, .mv (.c (.int .i64 (-1)))⟩])
       .ret)
       .skip))
     (.seq (.reg [⟨(some 29), none, .mv (.t 1)⟩,
      ⟨(some 30), none, .bin .add (.t 29) (.c (.int .i64 1))⟩,
      ⟨(some 1), none, .mv (.t 30)⟩])
     (.seq (.seq (.reg [⟨(some 31), none, .mv (.t 0)⟩,
      ⟨(some 32), none, .mv (.t 5)⟩,
      ⟨(some 33), none, .ia 9 (.t 31) (.t 32)⟩,
      ⟨(some 34), none, .fa 1 (.t 33)⟩,
      ⟨(some 35), none, .fa 1 (.t 34)⟩,
      ⟨(some 36), none, .ld false 1 (.t 35)⟩,
      ⟨(some 37), none, .mv (.t 1)⟩,
      ⟨(some 38), none, .bin .neq (.t 36) (.t 37)⟩])
     (.cond (.t 38)
       (.seq (.reg [⟨(some 4), none, .mv (.c (.int .i64 (-1)))⟩])
       .ret)
       .skip))
     (.seq (.reg [⟨(some 39), none, .mv (.t 1)⟩,
      ⟨(some 40), none, .bin .add (.t 39) (.c (.int .i64 1))⟩,
      ⟨(some 1), none, .mv (.t 40)⟩])
     (.seq (.seq (.reg [⟨(some 41), none, .mv (.t 0)⟩,
      ⟨(some 42), none, .mv (.t 5)⟩,
      ⟨(some 43), none, .ia 9 (.t 41) (.t 42)⟩,
      ⟨(some 44), none, .fa 1 (.t 43)⟩,
      ⟨(some 45), none, .fa 2 (.t 44)⟩,
      ⟨(some 46), none, .ld false 1 (.t 45)⟩,
      ⟨(some 47), none, .mv (.t 1)⟩,
      ⟨(some 48), none, .bin .neq (.t 46) (.t 47)⟩])
     (.cond (.t 48)
       (.seq (.reg [⟨(some 4), none, .mv (.c (.int .i64 (-1)))⟩])
       .ret)
       .skip))
     (.seq (.reg [⟨(some 49), none, .mv (.t 1)⟩,
      ⟨(some 50), none, .bin .add (.t 49) (.c (.int .i64 1))⟩,
      ⟨(some 1), none, .mv (.t 50)⟩])
     (.seq (.seq (.reg [⟨(some 51), none, .mv (.t 0)⟩,
      ⟨(some 52), none, .mv (.t 5)⟩,
      ⟨(some 53), none, .ia 9 (.t 51) (.t 52)⟩,
      ⟨(some 54), none, .fa 1 (.t 53)⟩,
      ⟨(some 55), none, .fa 3 (.t 54)⟩,
      ⟨(some 56), none, .ld false 1 (.t 55)⟩,
      ⟨(some 57), none, .mv (.t 1)⟩,
      ⟨(some 58), none, .bin .neq (.t 56) (.t 57)⟩])
     (.cond (.t 58)
       (.seq (.reg [⟨(some 4), none, .mv (.c (.int .i64 (-1)))⟩])
       .ret)
       .skip))
     (.seq (.reg [⟨(some 59), none, .mv (.t 1)⟩,
      ⟨(some 60), none, .bin .add (.t 59) (.c (.int .i64 1))⟩,
      ⟨(some 1), none, .mv (.t 60)⟩])
     (.seq (.seq (.reg [⟨(some 61), none, .mv (.t 0)⟩,
      ⟨(some 62), none, .mv (.t 5)⟩,
      ⟨(some 63), none, .ia 9 (.t 61) (.t 62)⟩,
      ⟨(some 64), none, .fa 1 (.t 63)⟩,
      ⟨(some 65), none, .fa 4 (.t 64)⟩,
      ⟨(some 66), none, .ld false 1 (.t 65)⟩,
      ⟨(some 67), none, .mv (.t 1)⟩,
      ⟨(some 68), none, .bin .neq (.t 66) (.t 67)⟩])
     (.cond (.t 68)
       (.seq (.reg [⟨(some 4), none, .mv (.c (.int .i64 (-1)))⟩])
       .ret)
       .skip))
     (.seq (.reg [⟨(some 69), none, .mv (.t 1)⟩,
      ⟨(some 70), none, .bin .add (.t 69) (.c (.int .i64 1))⟩,
      ⟨(some 1), none, .mv (.t 70)⟩])
     (.seq (.seq (.drw [⟨(some 71), none, .mv (.t 0)⟩,
      ⟨(some 72), none, .mv (.t 5)⟩,
      ⟨(some 73), none, .ia 9 (.t 71) (.t 72)⟩,
      ⟨(some 74), none, .fa 1 (.t 73)⟩,
      ⟨(some 75), none, .fa 5 (.t 74)⟩,
      ⟨(some 76), none, .ld false 1 (.t 75)⟩,
      ⟨(some 77), none, .mv (.t 1)⟩,
      ⟨(some 78), none, .cl (.c (.fn 41 [])) [(.t 77)]⟩,
      ⟨(some 79), none, .bin .neq (.t 76) (.t 78)⟩] [.val [], .val [], .val [], .val [], .val [], .val [], .val [], .val [], .val []])
     (.cond (.t 79)
       (.seq (.reg [⟨(some 4), none, .mv (.c (.int .i64 (-1)))⟩])
       .ret)
       .skip))
     (.seq (.reg [⟨(some 80), none, .mv (.t 1)⟩,
      ⟨(some 81), none, .bin .add (.t 80) (.c (.int .i64 1))⟩,
      ⟨(some 1), none, .mv (.t 81)⟩])
     (.seq (.seq (.drw [⟨(some 82), none, .mv (.t 0)⟩,
      ⟨(some 83), none, .mv (.t 5)⟩,
      ⟨(some 84), none, .ia 9 (.t 82) (.t 83)⟩,
      ⟨(some 85), none, .fa 1 (.t 84)⟩,
      ⟨(some 86), none, .fa 6 (.t 85)⟩,
      ⟨(some 87), none, .ld false 1 (.t 86)⟩,
      ⟨(some 88), none, .mv (.t 1)⟩,
      ⟨(some 89), none, .cl (.c (.fn 41 [])) [(.t 88)]⟩,
      ⟨(some 90), none, .bin .neq (.t 87) (.t 89)⟩] [.val [], .val [], .val [], .val [], .val [], .val [], .val [], .val [], .val []])
     (.cond (.t 90)
       (.seq (.reg [⟨(some 4), none, .mv (.c (.int .i64 (-1)))⟩])
       .ret)
       .skip))
     (.seq (.reg [⟨(some 91), none, .mv (.t 1)⟩,
      ⟨(some 92), none, .bin .add (.t 91) (.c (.int .i64 1))⟩,
      ⟨(some 1), none, .mv (.t 92)⟩])
     (.seq (.seq (.drw [⟨(some 93), none, .mv (.t 0)⟩,
      ⟨(some 94), none, .mv (.t 5)⟩,
      ⟨(some 95), none, .ia 9 (.t 93) (.t 94)⟩,
      ⟨(some 96), none, .fa 1 (.t 95)⟩,
      ⟨(some 97), none, .fa 7 (.t 96)⟩,
      ⟨(some 98), none, .ld false 1 (.t 97)⟩,
      ⟨(some 99), none, .mv (.t 1)⟩,
      ⟨(some 100), none, .cl (.c (.fn 41 [])) [(.t 99)]⟩,
      ⟨(some 101), none, .bin .neq (.t 98) (.t 100)⟩] [.val [], .val [], .val [], .val [], .val [], .val [], .val [], .val [], .val []])
     (.cond (.t 101)
       (.seq (.reg [⟨(some 4), none, .mv (.c (.int .i64 (-1)))⟩])
       .ret)
       .skip))
     (.reg [⟨(some 102), none, .mv (.t 1)⟩,
      ⟨(some 103), none, .bin .add (.t 102) (.c (.int .i64 1))⟩,
      ⟨(some 1), none, .mv (.t 103)⟩])))))))))))))))))))
    (.reg [⟨(some 10), none, .mv (.t 5)⟩,
     ⟨(some 11), none, .bin .add (.t 10) (.c (.int .i64 1))⟩,
     ⟨(some 5), none, .mv (.t 11)⟩]))))))
  (.seq (.reg [⟨(some 104), none, .mv (.t 1)⟩,
   ⟨(some 4), none, .mv (.t 104)⟩])
  .ret)))
theorem k_laws_heldItemS : FnOk Try.prog 25 105 rc_laws_heldItemS [.t 4] := ⟨Try.f25, _, [], Try.func25, rfl, rfl, by kernel_rfl, by kernel_rfl, follows⟩
theorem ok_laws_heldItemS : okF Try.prog 25 = true := by kernel_rfl
def rc_laws_szRec : RC :=
  (.seq (.reg [⟨(some 2), none, .bx (.t 0)⟩,
   ⟨(some 4), none, .mv (.c (.int .i64 0))⟩])
  (.seq (.reg [⟨(some 5), none, .mv (.t 1)⟩,
   ⟨(some 6), none, .fa 5 (.t 2)⟩,
   ⟨(some 7), none, .ld false 1 (.t 6)⟩,
   ⟨(some 8), none, .lens (.t 7)⟩,
   ⟨(some 9), none, .bin .sub (.t 5) (.t 8)⟩,
   ⟨(some 1), none, .mv (.t 9)⟩])
  (.seq (.seq (.reg [⟨(some 10), none, .mv (.t 1)⟩,
   ⟨(some 11), none, .bin .lss (.t 10) (.c (.int .i64 0))⟩])
  (.cond (.t 11)
    (.seq (.reg [⟨(some 4), none, .mv (.c (.int .i64 (-1)))⟩])
    .ret)
    .skip))
  (.seq (.reg [⟨(some 12), none, .mv (.t 1)⟩,
   ⟨(some 13), none, .fa 6 (.t 2)⟩,
   ⟨(some 14), none, .ld false 1 (.t 13)⟩,
   ⟨(some 15), none, .lens (.t 14)⟩,
   ⟨(some 16), none, .bin .sub (.t 12) (.t 15)⟩,
   ⟨(some 1), none, .mv (.t 16)⟩])
  (.seq (.seq (.reg [⟨(some 17), none, .mv (.t 1)⟩,
   ⟨(some 18), none, .bin .lss (.t 17) (.c (.int .i64 0))⟩])
  (.cond (.t 18)
    (.seq (.reg [⟨(some 4), none, .mv (.c (.int .i64 (-1)))⟩])
    .ret)
    .skip))
  (.seq (.reg [⟨(some 19), none, .mv (.t 1)⟩,
   ⟨(some 20), none, .fa 7 (.t 2)⟩,
   ⟨(some 21), none, .ld false 1 (.t 20)⟩,
   ⟨(some 22), none, .lens (.t 21)⟩,
   ⟨(some 23), none, .bin .sub (.t 19) (.t 22)⟩,
   ⟨(some 1), none, .mv (.t 23)⟩])
  (.seq (.seq (.reg [⟨(some 24), none, .mv (.t 1)⟩,
   ⟨(some 25), none, .bin .lss (.t 24) (.c (.int .i64 0))⟩])
  (.cond (.t 25)
    (.seq (.reg [⟨(some 4), none, .mv (.c (.int .i64 (-1)))⟩])
    .ret)
    .skip))
  (.seq (.reg [⟨(some 26), none, .mv (.t 1)⟩,
   ⟨(some 4), none, .mv (.t 26)⟩])
  .ret))))))))
theorem k_laws_szRec : FnOk Try.prog 52 27 rc_laws_szRec [.t 4] := ⟨Try.f52, _, [], Try.func52, rfl, rfl, by kernel_rfl, by kernel_rfl, follows⟩
theorem ok_laws_szRec : okF Try.prog 52 = true := by kernel_rfl
def rc_laws_szItem : RC :=
  (.seq (.reg [⟨(some 2), none, .bx (.t 0)⟩,
   ⟨(some 4), none, .mv (.c (.int .i64 0))⟩])
  (.seq (.reg [⟨(some 5), none, .fa 1 (.t 2)⟩,
   ⟨(some 6), none, .ld true 8 (.t 5)⟩,
   ⟨(some 7), none, .mv (.t 1)⟩,
   ⟨(some 8), none, .cl (.c (.fn 52 [])) [(.t 6), (.t 7)]⟩,
   ⟨(some 1), none, .mv (.t 8)⟩])
  (.seq (.seq (.reg [⟨(some 9), none, .mv (.t 1)⟩,
   ⟨(some 10), none, .bin .lss (.t 9) (.c (.int .i64 0))⟩])
  (.cond (.t 10)
    (.seq (.reg [⟨(some 4), none, .mv (.c (.int .i64 (-1)))⟩])
    .ret)
    .skip))
  (.seq (.reg [⟨(some 11), none, .mv (.t 1)⟩,
   ⟨(some 4), none, .mv (.t 11)⟩])
  .ret))))
theorem k_laws_szItem : FnOk Try.prog 26 12 rc_laws_szItem [.t 4] := ⟨Try.f26, _, [], Try.func26, rfl, rfl, by kernel_rfl, by kernel_rfl, follows⟩
theorem ok_laws_szItem : okF Try.prog 26 = true := by kernel_rfl
def rc_laws_szItemS : RC :=
  (.seq (.reg [⟨(some 4), none, .mv (.c (.int .i64 0))⟩])
  (.seq (.reg [⟨(some 6), none, .mv (.t 1)⟩,
   ⟨(some 7), none, .mv (.t 0)⟩,
   ⟨(some 8), none, .lenl (.t 7)⟩,
   ⟨(some 9), none, .bin .sub (.t 6) (.t 8)⟩,
   ⟨(some 1), none, .mv (.t 9)⟩])
  (.seq (.seq (.reg [⟨(some 10), none, .mv (.t 1)⟩,
   ⟨(some 11), none, .bin .lss (.t 10) (.c (.int .i64 0))⟩])
  (.cond (.t 11)
    (.seq (.reg [⟨(some 4), none, .mv (.c (.int .i64 (-1)))⟩])
    .ret)
    .skip))
  (.seq (.seq (.reg [⟨(some 5), none, .mv (.c (.int .i64 0))⟩])
  (.blk 0 (.loop (.seq (.seq (.reg [⟨(some 12), none, .mv (.t 5)⟩,
     ⟨(some 13), none, .mv (.t 0)⟩,
     ⟨(some 14), none, .lenl (.t 13)⟩,
     ⟨(some 15), none, .bin .lss (.t 12) (.t 14)⟩])
    (.cond (.t 15)
      .skip
      (.exit 0)))
    (.seq (.blk 1 (.seq (.reg [⟨(some 18), none, .mv (.t 0)⟩,
      ⟨(some 19), none, .mv (.t 5)⟩,
      ⟨(some 20), none, .ia 9 (.t 18) (.t 19)⟩,
      ⟨(some 21), none, .ld true 9 (.t 20)⟩,
      ⟨(some 22), none, .mv (.t 1)⟩,
      ⟨(some 23), none, .cl (.c (.fn 26 [])) [(.t 21), (.t 22)]⟩,
      ⟨(some 1), none, .mv (.t 23)⟩])
     (.seq (.reg [⟨(some 24), none, .mv (.t 1)⟩,
      ⟨(some 25), none, .bin .lss (.t 24) (.c (.int .i64 0))⟩])
     (.cond (.t 25)
       (.seq (.reg [⟨(some 4), none, .mv (.c (.int .i64 (-1)))⟩])
       .ret)
       .skip))))
    (.reg [⟨(some 16), none, .mv (.t 5)⟩,
     ⟨(some 17), none, .bin .add (.t 16) (.c (.int .i64 1))⟩,
     ⟨(some 5), none, .mv (.t 17)⟩]))))))
  (.seq (.reg [⟨(some 26), none, .mv (.t 1)⟩,
   ⟨(some 4), none, .mv (.t 26)⟩])
  .ret)))))
theorem k_laws_szItemS : FnOk Try.prog 6 27 rc_laws_szItemS [.t 4] := ⟨Try.f6, _, [], Try.func6, rfl, rfl, by kernel_rfl, by kernel_rfl, follows⟩
theorem ok_laws_szItemS : okF Try.prog 6 = true := by kernel_rfl
def rc_laws_toRec : RC :=
  (.seq (.reg [⟨(some 1), none, .bx (.t 0)⟩,
   ⟨(some 2), none, .al [.int .i64 0, .int .i64 0, .int .i64 0, .int .i64 0, .int .i64 0, .str [], .str [], .str []]⟩])
  (.seq (.reg [⟨(some 3), none, .al [.int .i64 0, .int .i64 0, .int .i64 0, .int .i64 0, .int .i64 0, .str [], .str [], .str []]⟩])
  (.seq (.reg [⟨(some 4), none, .fa 0 (.t 1)⟩,
   ⟨(some 5), none, .ld false 1 (.t 4)⟩,
   ⟨(some 6), none, .fa 0 (.t 3)⟩,
   ⟨none, none, .st 1 (.t 6) (.t 5)⟩])
  (.seq (.reg [⟨(some 7), none, .fa 1 (.t 1)⟩,
   ⟨(some 8), none, .ld false 1 (.t 7)⟩,
   ⟨(some 9), none, .fa 1 (.t 3)⟩,
   ⟨none, none, .st 1 (.t 9) (.t 8)⟩])
  (.seq (.reg [⟨(some 10), none, .fa 2 (.t 1)⟩,
   ⟨(some 11), none, .ld false 1 (.t 10)⟩,
   ⟨(some 12), none, .fa 2 (.t 3)⟩,
   ⟨none, none, .st 1 (.t 12) (.t 11)⟩])
  (.seq (.reg [⟨(some 13), none, .fa 3 (.t 1)⟩,
   ⟨(some 14), none, .ld false 1 (.t 13)⟩,
   ⟨(some 15), none, .fa 3 (.t 3)⟩,
   ⟨none, none, .st 1 (.t 15) (.t 14)⟩])
  (.seq (.reg [⟨(some 16), none, .fa 4 (.t 1)⟩,
   ⟨(some 17), none, .ld false 1 (.t 16)⟩,
   ⟨(some 18), none, .fa 4 (.t 3)⟩,
   ⟨none, none, .st 1 (.t 18) (.t 17)⟩])
  (.seq (.reg [⟨(some 19), none, .fa 5 (.t 1)⟩,
   ⟨(some 20), none, .ld false 1 (.t 19)⟩,
   ⟨(some 21), none, .fa 5 (.t 3)⟩,
   ⟨none, none, .st 1 (.t 21) (.t 20)⟩])
  (.seq (.reg [⟨(some 22), none, .fa 6 (.t 1)⟩,
   ⟨(some 23), none, .ld false 1 (.t 22)⟩,
   ⟨(some 24), none, .fa 6 (.t 3)⟩,
   ⟨none, none, .st 1 (.t 24) (.t 23)⟩])
  (.seq (.reg [⟨(some 25), none, .fa 7 (.t 1)⟩,
   ⟨(some 26), none, .ld false 1 (.t 25)⟩,
   ⟨(some 27), none, .fa 7 (.t 3)⟩,
   ⟨none, none, .st 1 (.t 27) (.t 26)⟩])
  (.seq (.reg [⟨(some 28), none, .ld true 8 (.t 3)⟩,
   ⟨none, none, .st 8 (.t 2) (.t 28)⟩])
  .ret)))))))))))
theorem k_laws_toRec : FnOk Try.prog 55 29 rc_laws_toRec [.cell 2 true 8] := ⟨Try.f55, _, [], Try.func55, rfl, rfl, by kernel_rfl, by kernel_rfl, follows⟩
theorem ok_laws_toRec : okF Try.prog 55 = true := by kernel_rfl
def rc_laws_toItem : RC :=
  (.seq (.reg [⟨(some 1), none, .bx (.t 0)⟩,
   ⟨(some 2), none, .al [.int .i64 0, .int .i64 0, .int .i64 0, .int .i64 0, .int .i64 0, .int .i64 0, .str [], .str [], .str []]⟩])
  (.seq (.reg [⟨(some 3), none, .al [.int .i64 0, .int .i64 0, .int .i64 0, .int .i64 0, .int .i64 0, .int .i64 0, .str [], .str [], .str []]⟩])
  (.seq (.reg [⟨(some 4), none, .fa 0 (.t 1)⟩,
   ⟨(some 5), none, .ld false 1 (.t 4)⟩,
   ⟨(some 6), none, .fa 0 (.t 3)⟩,
   ⟨none, none, .st 1 (.t 6) (.t 5)⟩])
  (.seq (.reg [⟨(some 7), none, .fa 1 (.t 1)⟩,
   ⟨(some 8), none, .ld true 8 (.t 7)⟩,
   ⟨(some 9), none, .cl (.c (.fn 55 [])) [(.t 8)]⟩,
   ⟨(some 10), none, .fa 1 (.t 3)⟩,
   ⟨none, none, .st 8 (.t 10) (.t 9)⟩])
  (.seq (.reg [⟨(some 11), none, .ld true 9 (.t 3)⟩,
   ⟨none, none, .st 9 (.t 2) (.t 11)⟩])
  .ret)))))
theorem k_laws_toItem : FnOk Try.prog 33 12 rc_laws_toItem [.cell 2 true 9] := ⟨Try.f33, _, [], Try.func33, rfl, rfl, by kernel_rfl, by kernel_rfl, follows⟩
theorem ok_laws_toItem : okF Try.prog 33 = true := by kernel_rfl
def rc_laws_toItemS : RC :=
  (.seq (.reg [⟨(some 2), none, .mv (.c (.nils))⟩])
  (.seq (.reg [⟨(some 5), none, .mv (.t 0)⟩,
   ⟨(some 6), none, .lenl (.t 5)⟩,
   ⟨(some 7), none, .ms 9 [.int .i64 0, .int .i64 0, .int .i64 0, .int .i64 0, .int .i64 0, .int .i64 0, .str [], .str [], .str []] 96 (.t 6) (.t 6)⟩,
   ⟨(some 3), none, .mv (.t 7)⟩])
  (.seq (.seq (.reg [⟨(some 4), none, .mv (.c (.int .i64 0))⟩])
  (.blk 0 (.loop (.seq (.seq (.reg [⟨(some 8), none, .mv (.t 4)⟩,
     ⟨(some 9), none, .mv (.t 0)⟩,
     ⟨(some 10), none, .lenl (.t 9)⟩,
     ⟨(some 11), none, .bin .lss (.t 8) (.t 10)⟩])
    (.cond (.t 11)
      .skip
      (.exit 0)))
    (.seq (.blk 1 (.reg [⟨(some 14), none, .mv (.t 3)⟩,
      ⟨(some 15), none, .mv (.t 4)⟩,
      ⟨(some 16), none, .mv (.t 0)⟩,
      ⟨(some 17), none, .mv (.t 4)⟩,
      ⟨(some 18), none, .ia 9 (.t 16) (.t 17)⟩,
      ⟨(some 19), none, .ld true 9 (.t 18)⟩,
      ⟨(some 20), none, .cl (.c (.fn 33 [])) [(.t 19)]⟩,
      ⟨(some 21), none, .ia 9 (.t 14) (.t 15)⟩,
      ⟨none, none, .st 9 (.t 21) (.t 20)⟩]))
    (.reg [⟨(some 12), none, .mv (.t 4)⟩,
     ⟨(some 13), none, .bin .add (.t 12) (.c (.int .i64 1))⟩,
     ⟨(some 4), none, .mv (.t 13)⟩]))))))
  (.seq (.reg [⟨(some 22), none, .mv (.t 3)⟩,
   ⟨(some 2), none, .mv (.t 22)⟩])
  .ret))))
theorem k_laws_toItemS : FnOk Try.prog 8 23 rc_laws_toItemS [.t 2] := ⟨Try.f8, _, [], Try.func8, rfl, rfl, by kernel_rfl, by kernel_rfl, follows⟩
theorem ok_laws_toItemS : okF Try.prog 8 = true := by kernel_rfl
def rc_laws_FnExactShrunk : RC :=
  (.seq (.reg [⟨(some 6), none, .mv (.c (.bool false))⟩])
  (.seq (.seq (.reg [⟨(some 16), none, .mv (.t 1)⟩,
   ⟨(some 17), none, .lenl (.t 16)⟩,
   ⟨(some 18), none, .bin .gtr (.t 17) (.c (.int .i64 1048576))⟩])
  (.cond (.t 18)
    (.seq (.reg [⟨(some 6), none, .mv (.c (.bool true))⟩])
    .ret)
    .skip))
  (.seq (.reg [⟨(some 7), none, .mv (.c (.int .i64 1048576))⟩])
  (.seq (.reg [⟨(some 19), none, .mv (.t 0)⟩,
   ⟨(some 20), none, .mv (.t 7)⟩,
   ⟨(some 21), none, .cl (.c (.fn 6 [])) [(.t 19), (.t 20)]⟩,
   ⟨(some 7), none, .mv (.t 21)⟩])
  (.seq (.seq (.reg [⟨(some 22), none, .mv (.t 7)⟩,
   ⟨(some 23), none, .bin .lss (.t 22) (.c (.int .i64 0))⟩])
  (.cond (.t 23)
    (.seq (.reg [⟨(some 6), none, .mv (.c (.bool true))⟩])
    .ret)
    .skip))
  (.seq (.reg [⟨(some 24), none, .mv (.t 0)⟩,
   ⟨(some 25), none, .cl (.c (.fn 8 [])) [(.t 24)]⟩,
   ⟨(some 26), none, .mv (.t 1)⟩,
   ⟨(some 27), none, .cl (.c (.fn 16 [])) [(.t 26)]⟩,
   ⟨(some 28), none, .mv (.t 2)⟩,
   ⟨(some 29), none, .cl (.c (.fn 23 [])) [(.t 25), (.t 27), (.t 28)]⟩,
   ⟨(some 8), none, .mv (.t 29)⟩])
  (.seq (.reg [⟨(some 30), none, .mv (.t 0)⟩,
   ⟨(some 31), none, .cl (.c (.fn 8 [])) [(.t 30)]⟩,
   ⟨(some 9), none, .mv (.t 31)⟩])
  (.seq (.reg [⟨(some 32), none, .mv (.t 1)⟩,
   ⟨(some 33), none, .cl (.c (.fn 16 [])) [(.t 32)]⟩,
   ⟨(some 10), none, .mv (.t 33)⟩])
  (.seq (.reg [⟨(some 34), none, .mv (.t 9)⟩,
   ⟨(some 35), none, .mv (.t 10)⟩,
   ⟨(some 36), none, .mv (.t 2)⟩,
   ⟨(some 37), none, .cl (.c (.fn 24 [])) [(.t 34), (.t 35), (.t 36)]⟩,
   ⟨(some 11), none, .mv (.t 37)⟩])
  (.seq (.seq (.reg [⟨(some 38), none, .mv (.t 11)⟩,
   ⟨(some 39), none, .mv (.t 8)⟩,
   ⟨(some 40), none, .cl (.c (.fn 11 [])) [(.t 38), (.t 39)]⟩,
   ⟨(some 41), none, .un .not (.t 40)⟩])
  (.cond (.t 41)
    (.seq (.reg [⟨(some 6), none, .mv (.c (.bool false))⟩])
    .ret)
    .skip))
  (.seq (.seq (.reg [⟨(some 42), none, .mv (.t 9)⟩,
   ⟨(some 43), none, .mv (.t 0)⟩,
   ⟨(some 44), none, .cl (.c (.fn 8 [])) [(.t 43)]⟩,
   ⟨(some 45), none, .cl (.c (.fn 11 [])) [(.t 42), (.t 44)]⟩,
   ⟨(some 46), none, .un .not (.t 45)⟩])
  (.cond (.t 46)
    (.seq (.reg [⟨(some 6), none, .mv (.c (.bool false))⟩])
    .ret)
    .skip))
  (.seq (.seq (.reg [⟨(some 47), none, .mv (.t 10)⟩,
   ⟨(some 48), none, .mv (.t 1)⟩,
   ⟨(some 49), none, .cl (.c (.fn 16 [])) [(.t 48)]⟩,
   ⟨(some 50), none, .cl (.c (.fn 19 [])) [(.t 47), (.t 49)]⟩,
   ⟨(some 51), none, .un .not (.t 50)⟩])
  (.cond (.t 51)
    (.seq (.reg [⟨(some 6), none, .mv (.c (.bool false))⟩])
    .ret)
    .skip))
  (.seq (.reg [⟨(some 12), none, .mv (.c (.int .i64 1))⟩])
  (.seq (.reg [⟨(some 52), none, .mv (.t 9)⟩,
   ⟨(some 53), none, .mv (.t 12)⟩,
   ⟨(some 54), none, .cl (.c (.fn 12 [])) [(.t 52), (.t 53)]⟩,
   ⟨(some 12), none, .mv (.t 54)⟩])
  (.seq (.reg [⟨(some 55), none, .mv (.t 10)⟩,
   ⟨(some 56), none, .mv (.t 12)⟩,
   ⟨(some 57), none, .cl (.c (.fn 20 [])) [(.t 55), (.t 56)]⟩,
   ⟨(some 12), none, .mv (.t 57)⟩])
  (.seq (.seq (.reg [⟨(some 58), none, .mv (.t 12)⟩,
   ⟨(some 59), none, .bin .lss (.t 58) (.c (.int .i64 0))⟩,
   ⟨(some 60), none, .mv (.t 59)⟩,
   ⟨(some 61), (some (60, false)), .mv (.t 11)⟩,
   ⟨(some 62), (some (60, false)), .mv (.t 8)⟩,
   ⟨(some 63), (some (60, false)), .cl (.c (.fn 11 [])) [(.t 61), (.t 62)]⟩,
   ⟨(some 64), (some (60, false)), .un .not (.t 63)⟩,
   ⟨(some 65), none, .pick (.t 60) (.c (.bool true)) (.t 64)⟩])
  (.cond (.t 65)
    (.seq (.reg [⟨(some 6), none, .mv (.c (.bool false))⟩])
    .ret)
    .skip))
  (.seq (.reg [⟨(some 13), none, .mv (.c (.int .i64 1))⟩])
  (.seq (.reg [⟨(some 66), none, .mv (.t 11)⟩,
   ⟨(some 67), none, .mv (.t 13)⟩,
   ⟨(some 68), none, .cl (.c (.fn 12 [])) [(.t 66), (.t 67)]⟩,
   ⟨(some 13), none, .mv (.t 68)⟩])
  (.seq (.reg [⟨(some 14), none, .mv (.c (.int .i64 1))⟩])
  (.seq (.reg [⟨(some 69), none, .mv (.t 11)⟩,
   ⟨(some 70), none, .mv (.t 14)⟩,
   ⟨(some 71), none, .cl (.c (.fn 25 [])) [(.t 69), (.t 70)]⟩,
   ⟨(some 14), none, .mv (.t 71)⟩])
  (.seq (.seq (.reg [⟨(some 72), none, .mv (.t 14)⟩,
   ⟨(some 73), none, .bin .lss (.t 72) (.c (.int .i64 0))⟩])
  (.cond (.t 73)
    (.seq (.reg [⟨(some 6), none, .mv (.c (.bool false))⟩])
    .ret)
    .skip))
  (.seq (.seq (.reg [⟨(some 74), none, .mv (.t 14)⟩,
   ⟨(some 75), none, .mv (.t 13)⟩,
   ⟨(some 76), none, .bin .neq (.t 74) (.t 75)⟩])
  (.cond (.t 76)
    (.seq (.reg [⟨(some 6), none, .mv (.c (.bool false))⟩])
    .ret)
    .skip))
  (.seq (.reg [⟨(some 77), none, .mv (.t 0)⟩,
   ⟨(some 78), none, .cl (.c (.fn 8 [])) [(.t 77)]⟩,
   ⟨(some 79), none, .mv (.t 1)⟩,
   ⟨(some 80), none, .cl (.c (.fn 16 [])) [(.t 79)]⟩,
   ⟨(some 81), none, .mv (.t 2)⟩,
   ⟨(some 82), none, .cl (.c (.fn 24 [])) [(.t 78), (.t 80), (.t 81)]⟩,
   ⟨(some 15), none, .mv (.t 82)⟩])
  (.seq (.seq (.reg [⟨(some 83), none, .mv (.t 15)⟩,
   ⟨(some 84), none, .mv (.t 8)⟩,
   ⟨(some 85), none, .cl (.c (.fn 11 [])) [(.t 83), (.t 84)]⟩,
   ⟨(some 86), none, .un .not (.t 85)⟩])
  (.cond (.t 86)
    (.seq (.reg [⟨(some 6), none, .mv (.c (.bool false))⟩])
    .ret)
    .skip))
  (.seq (.reg [⟨(some 14), none, .mv (.c (.int .i64 1))⟩])
  (.seq (.reg [⟨(some 87), none, .mv (.t 11)⟩,
   ⟨(some 88), none, .mv (.t 14)⟩,
   ⟨(some 89), none, .cl (.c (.fn 25 [])) [(.t 87), (.t 88)]⟩,
   ⟨(some 14), none, .mv (.t 89)⟩])
  (.seq (.seq (.reg [⟨(some 90), none, .mv (.t 14)⟩,
   ⟨(some 91), none, .bin .lss (.t 90) (.c (.int .i64 0))⟩])
  (.cond (.t 91)
    (.seq (.reg [⟨(some 6), none, .mv (.c (.bool false))⟩])
    .ret)
    .skip))
  (.seq (.seq (.reg [⟨(some 92), none, .mv (.t 14)⟩,
   ⟨(some 93), none, .mv (.t 13)⟩,
   ⟨(some 94), none, .bin .neq (.t 92) (.t 93)⟩])
  (.cond (.t 94)
    (.seq (.reg [⟨(some 6), none, .mv (.c (.bool false))⟩])
    .ret)
    .skip))
  (.seq (.reg [⟨(some 6), none, .mv (.c (.bool true))⟩])
  .ret)))))))))))))))))))))))))))))
theorem k_laws_FnExactShrunk : FnOk Try.prog 5 95 rc_laws_FnExactShrunk [.t 6] := ⟨Try.f5, _, [], Try.func5, rfl, rfl, by kernel_rfl, by kernel_rfl, follows⟩
theorem ok_laws_FnExactShrunk : okF Try.prog 5 = true := by kernel_rfl
end Go.Proofs.Ytcehlicmghnghaa.V
/- Contracts of the library, laid here. -/
namespace Go.Proofs.Ytcehlicmghnghaa.V
open Go Go.Proofs Go.RowKit Go.Shelf
set_option maxRecDepth 100000
def rn_slices_Sort_int : Go.Shelf.Ren := ⟨fun | 189 => 60 | 125 => 80 | 257 => 79 | 128 => 98 | 129 => 99 | 294 => 89 | 295 => 90 | 296 => 91 | 297 => 92 | 298 => 93 | 299 => 94 | 216 => 95 | 300 => 96 | 301 => 97 | 328 => 101 | 329 => 102 | 330 => 103 | 331 => 104 | 332 => 105 | 215 => 106 | 343 => 107 | n => n, fun | 28 => 52 | 3 => 3 | 46 => 101 | 0 => 0 | 51 => 113 | 53 => 115 | 4 => 4 | 183 => 106 | 182 => 105 | 131 => 87 | 5 => 5 | 9 => 9 | 218 => 117 | 222 => 121 | 228 => 124 | 229 => 125 | n => n, fun | n => n⟩
theorem ly_slices_Sort_int_189 : Go.Proofs.Lays.n189 Try.prog rn_slices_Sort_int := {
  mixed := by kernel_rfl,
  f125 := Try.func80.trans (congrArg some (by kernel_rfl)),
  f128 := Try.func98.trans (congrArg some (by kernel_rfl)),
  f129 := Try.func99.trans (congrArg some (by kernel_rfl)),
  f189 := Try.func60.trans (congrArg some (by kernel_rfl)),
  f215 := Try.func106.trans (congrArg some (by kernel_rfl)),
  f216 := Try.func95.trans (congrArg some (by kernel_rfl)),
  f257 := Try.func79.trans (congrArg some (by kernel_rfl)),
  f294 := Try.func89.trans (congrArg some (by kernel_rfl)),
  f295 := Try.func90.trans (congrArg some (by kernel_rfl)),
  f296 := Try.func91.trans (congrArg some (by kernel_rfl)),
  f297 := Try.func92.trans (congrArg some (by kernel_rfl)),
  f298 := Try.func93.trans (congrArg some (by kernel_rfl)),
  f299 := Try.func94.trans (congrArg some (by kernel_rfl)),
  f300 := Try.func96.trans (congrArg some (by kernel_rfl)),
  f301 := Try.func97.trans (congrArg some (by kernel_rfl)),
  f328 := Try.func101.trans (congrArg some (by kernel_rfl)),
  f329 := Try.func102.trans (congrArg some (by kernel_rfl)),
  f330 := Try.func103.trans (congrArg some (by kernel_rfl)),
  f331 := Try.func104.trans (congrArg some (by kernel_rfl)),
  f332 := Try.func105.trans (congrArg some (by kernel_rfl)),
  f343 := Try.func107.trans (congrArg some (by kernel_rfl)),
  t0 := Try.underlying0,
  a0 := Try.isAgg0,
  z0 := Try.sizeOf0,
  v0 := Try.zeroValue0,
  t3 := Try.underlying3,
  a3 := Try.isAgg3,
  z3 := Try.sizeOf3,
  v3 := Try.zeroValue3,
  t4 := Try.underlying4,
  a4 := Try.isAgg4,
  z4 := Try.sizeOf4,
  v4 := Try.zeroValue4,
  t5 := Try.underlying5,
  a5 := Try.isAgg5,
  z5 := Try.sizeOf5,
  v5 := Try.zeroValue5,
  t9 := Try.underlying9,
  a9 := Try.isAgg9,
  z9 := Try.sizeOf9,
  v9 := Try.zeroValue9,
  t28 := Try.underlying52,
  a28 := Try.isAgg52,
  z28 := Try.sizeOf52,
  v28 := Try.zeroValue52,
  t46 := Try.underlying101,
  a46 := Try.isAgg101,
  z46 := Try.sizeOf101,
  v46 := Try.zeroValue101,
  t51 := Try.underlying113,
  a51 := Try.isAgg113,
  z51 := Try.sizeOf113,
  v51 := Try.zeroValue113,
  t53 := Try.underlying115,
  a53 := Try.isAgg115,
  z53 := Try.sizeOf115,
  v53 := Try.zeroValue115,
  t131 := Try.underlying87,
  a131 := Try.isAgg87,
  z131 := Try.sizeOf87,
  v131 := Try.zeroValue87,
  t182 := Try.underlying105,
  a182 := Try.isAgg105,
  z182 := Try.sizeOf105,
  v182 := Try.zeroValue105,
  t183 := Try.underlying106,
  a183 := Try.isAgg106,
  z183 := Try.sizeOf106,
  v183 := Try.zeroValue106,
  t218 := Try.underlying117,
  a218 := Try.isAgg117,
  z218 := Try.sizeOf117,
  v218 := Try.zeroValue117,
  t222 := Try.underlying121,
  a222 := Try.isAgg121,
  z222 := Try.sizeOf121,
  v222 := Try.zeroValue121,
  t228 := Try.underlying124,
  a228 := Try.isAgg124,
  z228 := Try.sizeOf124,
  v228 := Try.zeroValue124,
  t229 := Try.underlying125,
  a229 := Try.isAgg125,
  z229 := Try.sizeOf125,
  v229 := Try.zeroValue125 }
theorem lay_slices_Sort_int : SortC Try.prog 60 := ⟨by kernel_rfl, fun blk off cap zs w h1 h2 h3 => Any.slices_Sort_int ly_slices_Sort_int_189 blk off cap zs w h1 h2 h3, fun p cap w => Any.slices_Sort_int_none ly_slices_Sort_int_189 p cap w⟩
def rn_slices_Compact_int : Go.Shelf.Ren := ⟨fun | 20 => 61 | n => n, fun | 22 => 52 | 3 => 3 | 4 => 4 | 0 => 0 | n => n, fun | n => n⟩
theorem ly_slices_Compact_int_20 : Go.Proofs.Lays2.n20 Try.prog rn_slices_Compact_int := {
  mixed := by kernel_rfl,
  f20 := Try.func61.trans (congrArg some (by kernel_rfl)),
  t0 := Try.underlying0,
  a0 := Try.isAgg0,
  z0 := Try.sizeOf0,
  v0 := Try.zeroValue0,
  t3 := Try.underlying3,
  a3 := Try.isAgg3,
  z3 := Try.sizeOf3,
  v3 := Try.zeroValue3,
  t4 := Try.underlying4,
  a4 := Try.isAgg4,
  z4 := Try.sizeOf4,
  v4 := Try.zeroValue4,
  t22 := Try.underlying52,
  a22 := Try.isAgg52,
  z22 := Try.sizeOf52,
  v22 := Try.zeroValue52,
  i3 := by kernel_rfl }
theorem lay_slices_Compact_int : CompC Try.prog 61 := ⟨by kernel_rfl, fun blk off cap zs w h1 h2 h3 => Any.slices_Compact_int ly_slices_Compact_int_20 blk off cap zs w h1 h2 h3, fun a cap w => Any.slices_Compact_int_empty ly_slices_Compact_int_20 a cap w⟩
end Go.Proofs.Ytcehlicmghnghaa.V
