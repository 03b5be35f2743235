/- The functions' texts. -/
import Derived.Test.YtcehlicmghnghaaGreatXE
import Derived.Test.YtcehlicmghnghaaGreatProg
import Derived.KernelRfl
import Derived.Shelf.Sort.Plain
import Derived.Shelf.Slices.In.SortNone
import Derived.Shelf.Slices.CompactI
/- The functions' texts. -/
namespace Go.Proofs.YtcehlicmghnghaaGreat.V
open Go Go.Proofs Go.RowKit
set_option maxRecDepth 100000
theorem follows : Tryz.prog.follows .mixedOrders = true := by kernel_rfl
def rc_laws_eqIntS : RC :=
  (.seq (.reg [⟨(some 4), none, .mv (.c (.bool false))⟩])
  (.seq (.seq (.reg [⟨(some 6), none, .mv (.t 0)⟩,
   ⟨(some 7), none, .lenl (.t 6)⟩,
   ⟨(some 8), none, .mv (.t 1)⟩,
   ⟨(some 9), none, .lenl (.t 8)⟩,
   ⟨(some 10), none, .bin .neq (.t 7) (.t 9)⟩])
  (.cond (.t 10)
    (.seq (.reg [⟨(some 4), none, .mv (.c (.bool false))⟩])
    .ret)
    .skip))
  (.seq (.seq (.reg [⟨(some 5), none, .mv (.c (.int .i64 0))⟩])
  (.blk 0 (.loop (.seq (.seq (.reg [⟨(some 11), none, .mv (.t 5)⟩,
     ⟨(some 12), none, .mv (.t 0)⟩,
     ⟨(some 13), none, .lenl (.t 12)⟩,
     ⟨(some 14), none, .bin .lss (.t 11) (.t 13)⟩])
    (.cond (.t 14)
      .skip
      (.exit 0)))
    (.seq (.blk 1 (.seq (.drw [⟨(some 17), none, .mv (.t 0)⟩,
      ⟨(some 18), none, .mv (.t 5)⟩,
      ⟨(some 19), none, .ia 1 (.t 17) (.t 18)⟩,
      ⟨(some 20), none, .ld false 1 (.t 19)⟩,
      ⟨(some 21), none, .mv (.t 1)⟩,
      ⟨(some 22), none, .mv (.t 5)⟩,
      ⟨(some 23), none, .ia 1 (.t 21) (.t 22)⟩,
      ⟨(some 24), none, .ld false 1 (.t 23)⟩,
      ⟨(some 25), none, .bin .neq (.t 20) (.t 24)⟩] [.val [], .val [], .val [], .val [], .val [], .val [], .val [], .val [], .val []])
     (.cond (.t 25)
       (.seq (.reg [⟨(some 4), none, .mv (.c (.bool false))⟩])
       .ret)
       .skip)))
    (.reg [⟨(some 15), none, .mv (.t 5)⟩,
     ⟨(some 16), none, .bin .add (.t 15) (.c (.int .i64 1))⟩,
     ⟨(some 5), none, .mv (.t 16)⟩]))))))
  (.seq (.reg [⟨(some 4), none, .mv (.c (.bool true))⟩])
  .ret))))
theorem k_laws_eqIntS : FnOk Tryz.prog 44 26 rc_laws_eqIntS [.t 4] := ⟨Tryz.f44, _, [], Tryz.func44, rfl, rfl, by kernel_rfl, by kernel_rfl, follows⟩
theorem ok_laws_eqIntS : okF Tryz.prog 44 = true := by kernel_rfl
def rc_laws_eqStringS : RC :=
  (.seq (.reg [⟨(some 4), none, .mv (.c (.bool false))⟩])
  (.seq (.seq (.reg [⟨(some 6), none, .mv (.t 0)⟩,
   ⟨(some 7), none, .lenl (.t 6)⟩,
   ⟨(some 8), none, .mv (.t 1)⟩,
   ⟨(some 9), none, .lenl (.t 8)⟩,
   ⟨(some 10), none, .bin .neq (.t 7) (.t 9)⟩])
  (.cond (.t 10)
    (.seq (.reg [⟨(some 4), none, .mv (.c (.bool false))⟩])
    .ret)
    .skip))
  (.seq (.seq (.reg [⟨(some 5), none, .mv (.c (.int .i64 0))⟩])
  (.blk 0 (.loop (.seq (.seq (.reg [⟨(some 11), none, .mv (.t 5)⟩,
     ⟨(some 12), none, .mv (.t 0)⟩,
     ⟨(some 13), none, .lenl (.t 12)⟩,
     ⟨(some 14), none, .bin .lss (.t 11) (.t 13)⟩])
    (.cond (.t 14)
      .skip
      (.exit 0)))
    (.seq (.blk 1 (.seq (.drw [⟨(some 17), none, .mv (.t 0)⟩,
      ⟨(some 18), none, .mv (.t 5)⟩,
      ⟨(some 19), none, .ia 1 (.t 17) (.t 18)⟩,
      ⟨(some 20), none, .ld false 1 (.t 19)⟩,
      ⟨(some 21), none, .mv (.t 1)⟩,
      ⟨(some 22), none, .mv (.t 5)⟩,
      ⟨(some 23), none, .ia 1 (.t 21) (.t 22)⟩,
      ⟨(some 24), none, .ld false 1 (.t 23)⟩,
      ⟨(some 25), none, .bin .neq (.t 20) (.t 24)⟩] [.val [], .val [], .val [], .val [], .val [], .val [], .val [], .val [], .val []])
     (.cond (.t 25)
       (.seq (.reg [⟨(some 4), none, .mv (.c (.bool false))⟩])
       .ret)
       .skip)))
    (.reg [⟨(some 15), none, .mv (.t 5)⟩,
     ⟨(some 16), none, .bin .add (.t 15) (.c (.int .i64 1))⟩,
     ⟨(some 5), none, .mv (.t 16)⟩]))))))
  (.seq (.reg [⟨(some 4), none, .mv (.c (.bool true))⟩])
  .ret))))
theorem k_laws_eqStringS : FnOk Tryz.prog 82 26 rc_laws_eqStringS [.t 4] := ⟨Tryz.f82, _, [], Tryz.func82, rfl, rfl, by kernel_rfl, by kernel_rfl, follows⟩
theorem ok_laws_eqStringS : okF Tryz.prog 82 = true := by kernel_rfl
def rc_laws_eqWrite : RC :=
  (.seq (.reg [⟨(some 2), none, .bx (.t 0)⟩,
   ⟨(some 3), none, .bx (.t 1)⟩,
   ⟨(some 4), none, .mv (.c (.bool false))⟩])
  (.seq (.seq (.reg [⟨(some 5), none, .fa 0 (.t 2)⟩,
   ⟨(some 6), none, .ld false 1 (.t 5)⟩,
   ⟨(some 7), none, .fa 0 (.t 3)⟩,
   ⟨(some 8), none, .ld false 1 (.t 7)⟩,
   ⟨(some 9), none, .bin .neq (.t 6) (.t 8)⟩])
  (.cond (.t 9)
    (.seq (.reg [⟨(some 4), none, .mv (.c (.bool false))⟩])
    .ret)
    .skip))
  (.seq (.seq (.reg [⟨(some 10), none, .fa 1 (.t 2)⟩,
   ⟨(some 11), none, .ld false 1 (.t 10)⟩,
   ⟨(some 12), none, .fa 1 (.t 3)⟩,
   ⟨(some 13), none, .ld false 1 (.t 12)⟩,
   ⟨(some 14), none, .bin .neq (.t 11) (.t 13)⟩])
  (.cond (.t 14)
    (.seq (.reg [⟨(some 4), none, .mv (.c (.bool false))⟩])
    .ret)
    .skip))
  (.seq (.reg [⟨(some 4), none, .mv (.c (.bool true))⟩])
  .ret))))
theorem k_laws_eqWrite : FnOk Tryz.prog 148 15 rc_laws_eqWrite [.t 4] := ⟨Tryz.f148, _, [], Tryz.func148, rfl, rfl, by kernel_rfl, by kernel_rfl, follows⟩
theorem ok_laws_eqWrite : okF Tryz.prog 148 = true := by kernel_rfl
def rc_laws_eqWriteS : RC :=
  (.seq (.reg [⟨(some 4), none, .mv (.c (.bool false))⟩])
  (.seq (.seq (.reg [⟨(some 6), none, .mv (.t 0)⟩,
   ⟨(some 7), none, .lenl (.t 6)⟩,
   ⟨(some 8), none, .mv (.t 1)⟩,
   ⟨(some 9), none, .lenl (.t 8)⟩,
   ⟨(some 10), none, .bin .neq (.t 7) (.t 9)⟩])
  (.cond (.t 10)
    (.seq (.reg [⟨(some 4), none, .mv (.c (.bool false))⟩])
    .ret)
    .skip))
  (.seq (.seq (.reg [⟨(some 5), none, .mv (.c (.int .i64 0))⟩])
  (.blk 0 (.loop (.seq (.seq (.reg [⟨(some 11), none, .mv (.t 5)⟩,
     ⟨(some 12), none, .mv (.t 0)⟩,
     ⟨(some 13), none, .lenl (.t 12)⟩,
     ⟨(some 14), none, .bin .lss (.t 11) (.t 13)⟩])
    (.cond (.t 14)
      .skip
      (.exit 0)))
    (.seq (.blk 1 (.seq (.drw [⟨(some 17), none, .mv (.t 0)⟩,
      ⟨(some 18), none, .mv (.t 5)⟩,
      ⟨(some 19), none, .ia 2 (.t 17) (.t 18)⟩,
      ⟨(some 20), none, .ld true 2 (.t 19)⟩,
      ⟨(some 21), none, .mv (.t 1)⟩,
      ⟨(some 22), none, .mv (.t 5)⟩,
      ⟨(some 23), none, .ia 2 (.t 21) (.t 22)⟩,
      ⟨(some 24), none, .ld true 2 (.t 23)⟩,
      ⟨(some 25), none, .cl (.c (.fn 148 [])) [(.t 20), (.t 24)]⟩,
      ⟨(some 26), none, .un .not (.t 25)⟩] [.val [], .val [], .val [], .val [], .val [], .val [], .val [], .val [], .val [], .val []])
     (.cond (.t 26)
       (.seq (.reg [⟨(some 4), none, .mv (.c (.bool false))⟩])
       .ret)
       .skip)))
    (.reg [⟨(some 15), none, .mv (.t 5)⟩,
     ⟨(some 16), none, .bin .add (.t 15) (.c (.int .i64 1))⟩,
     ⟨(some 5), none, .mv (.t 16)⟩]))))))
  (.seq (.reg [⟨(some 4), none, .mv (.c (.bool true))⟩])
  .ret))))
theorem k_laws_eqWriteS : FnOk Tryz.prog 83 27 rc_laws_eqWriteS [.t 4] := ⟨Tryz.f83, _, [], Tryz.func83, rfl, rfl, by kernel_rfl, by kernel_rfl, follows⟩
theorem ok_laws_eqWriteS : okF Tryz.prog 83 = true := by kernel_rfl
def rc_laws_eqDisk : RC :=
  (.seq (.reg [⟨(some 2), none, .bx (.t 0)⟩,
   ⟨(some 3), none, .bx (.t 1)⟩,
   ⟨(some 4), none, .mv (.c (.bool false))⟩])
  (.seq (.seq (.reg [⟨(some 5), none, .fa 0 (.t 2)⟩,
   ⟨(some 6), none, .ld false 1 (.t 5)⟩,
   ⟨(some 7), none, .fa 0 (.t 3)⟩,
   ⟨(some 8), none, .ld false 1 (.t 7)⟩,
   ⟨(some 9), none, .cl (.c (.fn 82 [])) [(.t 6), (.t 8)]⟩,
   ⟨(some 10), none, .un .not (.t 9)⟩])
  (.cond (.t 10)
    (.seq (.reg [⟨(some 4), none, .mv (.c (.bool false))⟩])
    .ret)
    .skip))
  (.seq (.seq (.reg [⟨(some 11), none, .fa 1 (.t 2)⟩,
   ⟨(some 12), none, .ld false 1 (.t 11)⟩,
   ⟨(some 13), none, .fa 1 (.t 3)⟩,
   ⟨(some 14), none, .ld false 1 (.t 13)⟩,
   ⟨(some 15), none, .cl (.c (.fn 83 [])) [(.t 12), (.t 14)]⟩,
   ⟨(some 16), none, .un .not (.t 15)⟩])
  (.cond (.t 16)
    (.seq (.reg [⟨(some 4), none, .mv (.c (.bool false))⟩])
    .ret)
    .skip))
  (.seq (.reg [⟨(some 4), none, .mv (.c (.bool true))⟩])
  .ret))))
theorem k_laws_eqDisk : FnOk Tryz.prog 38 17 rc_laws_eqDisk [.t 4] := ⟨Tryz.f38, _, [], Tryz.func38, rfl, rfl, by kernel_rfl, by kernel_rfl, follows⟩
theorem ok_laws_eqDisk : okF Tryz.prog 38 = true := by kernel_rfl
def rc_laws_eqRec : RC :=
  (.seq (.reg [⟨(some 2), none, .bx (.t 0)⟩,
   ⟨(some 3), none, .bx (.t 1)⟩,
   ⟨(some 4), none, .mv (.c (.bool false))⟩])
  (.seq (.seq (.reg [⟨(some 5), none, .fa 0 (.t 2)⟩,
   ⟨(some 6), none, .ld false 1 (.t 5)⟩,
   ⟨(some 7), none, .fa 0 (.t 3)⟩,
   ⟨(some 8), none, .ld false 1 (.t 7)⟩,
   ⟨(some 9), none, .bin .neq (.t 6) (.t 8)⟩])
  (.cond (.t 9)
    (.seq (.reg [⟨(some 4), none, .mv (.c (.bool false))⟩])
    .ret)
    .skip))
  (.seq (.seq (.reg [⟨(some 10), none, .fa 1 (.t 2)⟩,
   ⟨(some 11), none, .ld false 1 (.t 10)⟩,
   ⟨(some 12), none, .fa 1 (.t 3)⟩,
   ⟨(some 13), none, .ld false 1 (.t 12)⟩,
   ⟨(some 14), none, .bin .neq (.t 11) (.t 13)⟩])
  (.cond (.t 14)
    (.seq (.reg [⟨(some 4), none, .mv (.c (.bool false))⟩])
    .ret)
    .skip))
  (.seq (.seq (.reg [⟨(some 15), none, .fa 2 (.t 2)⟩,
   ⟨(some 16), none, .ld false 1 (.t 15)⟩,
   ⟨(some 17), none, .fa 2 (.t 3)⟩,
   ⟨(some 18), none, .ld false 1 (.t 17)⟩,
   ⟨(some 19), none, .bin .neq (.t 16) (.t 18)⟩])
  (.cond (.t 19)
    (.seq (.reg [⟨(some 4), none, .mv (.c (.bool false))⟩])
    .ret)
    .skip))
  (.seq (.seq (.reg [⟨(some 20), none, .fa 3 (.t 2)⟩,
   ⟨(some 21), none, .ld false 1 (.t 20)⟩,
   ⟨(some 22), none, .fa 3 (.t 3)⟩,
   ⟨(some 23), none, .ld false 1 (.t 22)⟩,
   ⟨(some 24), none, .bin .neq (.t 21) (.t 23)⟩])
  (.cond (.t 24)
    (.seq (.reg [⟨(some 4), none, .mv (.c (.bool false))⟩])
    .ret)
    .skip))
  (.seq (.seq (.reg [⟨(some 25), none, .fa 4 (.t 2)⟩,
   ⟨(some 26), none, .ld false 1 (.t 25)⟩,
   ⟨(some 27), none, .fa 4 (.t 3)⟩,
   ⟨(some 28), none, .ld false 1 (.t 27)⟩,
   ⟨(some 29), none, .bin .neq (.t 26) (.t 28)⟩])
  (.cond (.t 29)
    (.seq (.reg [⟨(some 4), none, .mv (.c (.bool false))⟩])
    .ret)
    .skip))
  (.seq (.seq (.reg [⟨(some 30), none, .fa 5 (.t 2)⟩,
   ⟨(some 31), none, .ld false 1 (.t 30)⟩,
   ⟨(some 32), none, .fa 5 (.t 3)⟩,
   ⟨(some 33), none, .ld false 1 (.t 32)⟩,
   ⟨(some 34), none, .bin .neq (.t 31) (.t 33)⟩])
  (.cond (.t 34)
    (.seq (.reg [⟨(some 4), none, .mv (.c (.bool false))⟩])
    .ret)
    .skip))
  (.seq (.seq (.reg [⟨(some 35), none, .fa 6 (.t 2)⟩,
   ⟨(some 36), none, .ld false 1 (.t 35)⟩,
   ⟨(some 37), none, .fa 6 (.t 3)⟩,
   ⟨(some 38), none, .ld false 1 (.t 37)⟩,
   ⟨(some 39), none, .bin .neq (.t 36) (.t 38)⟩])
  (.cond (.t 39)
    (.seq (.reg [⟨(some 4), none, .mv (.c (.bool false))⟩])
    .ret)
    .skip))
  (.seq (.seq (.reg [⟨(some 40), none, .fa 7 (.t 2)⟩,
   ⟨(some 41), none, .ld false 1 (.t 40)⟩,
   ⟨(some 42), none, .fa 7 (.t 3)⟩,
   ⟨(some 43), none, .ld false 1 (.t 42)⟩,
   ⟨(some 44), none, .bin .neq (.t 41) (.t 43)⟩])
  (.cond (.t 44)
    (.seq (.reg [⟨(some 4), none, .mv (.c (.bool false))⟩])
    .ret)
    .skip))
  (.seq (.reg [⟨(some 4), none, .mv (.c (.bool true))⟩])
  .ret))))))))))
theorem k_laws_eqRec : FnOk Tryz.prog 213 45 rc_laws_eqRec [.t 4] := ⟨Tryz.f213, _, [], Tryz.func213, rfl, rfl, by kernel_rfl, by kernel_rfl, follows⟩
theorem ok_laws_eqRec : okF Tryz.prog 213 = true := by kernel_rfl
def rc_laws_eqItem : RC :=
  (.seq (.reg [⟨(some 2), none, .bx (.t 0)⟩,
   ⟨(some 3), none, .bx (.t 1)⟩,
   ⟨(some 4), none, .mv (.c (.bool false))⟩])
  (.seq (.seq (.reg [⟨(some 5), none, .fa 0 (.t 2)⟩,
   ⟨(some 6), none, .ld false 1 (.t 5)⟩,
   ⟨(some 7), none, .fa 0 (.t 3)⟩,
   ⟨(some 8), none, .ld false 1 (.t 7)⟩,
   ⟨(some 9), none, .bin .neq (.t 6) (.t 8)⟩])
  (.cond (.t 9)
    (.seq (.reg [⟨(some 4), none, .mv (.c (.bool false))⟩])
    .ret)
    .skip))
  (.seq (.seq (.reg [⟨(some 10), none, .fa 1 (.t 2)⟩,
   ⟨(some 11), none, .ld true 8 (.t 10)⟩,
   ⟨(some 12), none, .fa 1 (.t 3)⟩,
   ⟨(some 13), none, .ld true 8 (.t 12)⟩,
   ⟨(some 14), none, .cl (.c (.fn 213 [])) [(.t 11), (.t 13)]⟩,
   ⟨(some 15), none, .un .not (.t 14)⟩])
  (.cond (.t 15)
    (.seq (.reg [⟨(some 4), none, .mv (.c (.bool false))⟩])
    .ret)
    .skip))
  (.seq (.reg [⟨(some 4), none, .mv (.c (.bool true))⟩])
  .ret))))
theorem k_laws_eqItem : FnOk Tryz.prog 192 16 rc_laws_eqItem [.t 4] := ⟨Tryz.f192, _, [], Tryz.func192, rfl, rfl, by kernel_rfl, by kernel_rfl, follows⟩
theorem ok_laws_eqItem : okF Tryz.prog 192 = true := by kernel_rfl
def rc_laws_eqItemS : RC :=
  (.seq (.reg [⟨(some 4), none, .mv (.c (.bool false))⟩])
  (.seq (.seq (.reg [⟨(some 6), none, .mv (.t 0)⟩,
   ⟨(some 7), none, .lenl (.t 6)⟩,
   ⟨(some 8), none, .mv (.t 1)⟩,
   ⟨(some 9), none, .lenl (.t 8)⟩,
   ⟨(some 10), none, .bin .neq (.t 7) (.t 9)⟩])
  (.cond (.t 10)
    (.seq (.reg [⟨(some 4), none, .mv (.c (.bool false))⟩])
    .ret)
    .skip))
  (.seq (.seq (.reg [⟨(some 5), none, .mv (.c (.int .i64 0))⟩])
  (.blk 0 (.loop (.seq (.seq (.reg [⟨(some 11), none, .mv (.t 5)⟩,
     ⟨(some 12), none, .mv (.t 0)⟩,
     ⟨(some 13), none, .lenl (.t 12)⟩,
     ⟨(some 14), none, .bin .lss (.t 11) (.t 13)⟩])
    (.cond (.t 14)
      .skip
      (.exit 0)))
    (.seq (.blk 1 (.seq (.drw [⟨(some 17), none, .mv (.t 0)⟩,
      ⟨(some 18), none, .mv (.t 5)⟩,
      ⟨(some 19), none, .ia 9 (.t 17) (.t 18)⟩,
      ⟨(some 20), none, .ld true 9 (.t 19)⟩,
      ⟨(some 21), none, .mv (.t 1)⟩,
      ⟨(some 22), none, .mv (.t 5)⟩,
      ⟨(some 23), none, .ia 9 (.t 21) (.t 22)⟩,
      ⟨(some 24), none, .ld true 9 (.t 23)⟩,
      ⟨(some 25), none, .cl (.c (.fn 192 [])) [(.t 20), (.t 24)]⟩,
      ⟨(some 26), none, .un .not (.t 25)⟩] [.val [], .val [], .val [], .val [], .val [], .val [], .val [], .val [], .val [], .val []])
     (.cond (.t 26)
       (.seq (.reg [⟨(some 4), none, .mv (.c (.bool false))⟩])
       .ret)
       .skip)))
    (.reg [⟨(some 15), none, .mv (.t 5)⟩,
     ⟨(some 16), none, .bin .add (.t 15) (.c (.int .i64 1))⟩,
     ⟨(some 5), none, .mv (.t 16)⟩]))))))
  (.seq (.reg [⟨(some 4), none, .mv (.c (.bool true))⟩])
  .ret))))
theorem k_laws_eqItemS : FnOk Tryz.prog 149 27 rc_laws_eqItemS [.t 4] := ⟨Tryz.f149, _, [], Tryz.func149, rfl, rfl, by kernel_rfl, by kernel_rfl, follows⟩
theorem ok_laws_eqItemS : okF Tryz.prog 149 = true := by kernel_rfl
def rc_laws_eqSeg : RC :=
  (.seq (.reg [⟨(some 2), none, .bx (.t 0)⟩,
   ⟨(some 3), none, .bx (.t 1)⟩,
   ⟨(some 4), none, .mv (.c (.bool false))⟩])
  (.seq (.seq (.reg [⟨(some 5), none, .fa 0 (.t 2)⟩,
   ⟨(some 6), none, .ld false 1 (.t 5)⟩,
   ⟨(some 7), none, .fa 0 (.t 3)⟩,
   ⟨(some 8), none, .ld false 1 (.t 7)⟩,
   ⟨(some 9), none, .bin .neq (.t 6) (.t 8)⟩])
  (.cond (.t 9)
    (.seq (.reg [⟨(some 4), none, .mv (.c (.bool false))⟩])
    .ret)
    .skip))
  (.seq (.seq (.reg [⟨(some 10), none, .fa 1 (.t 2)⟩,
   ⟨(some 11), none, .ld false 1 (.t 10)⟩,
   ⟨(some 12), none, .fa 1 (.t 3)⟩,
   ⟨(some 13), none, .ld false 1 (.t 12)⟩,
   ⟨(some 14), none, .bin .neq (.t 11) (.t 13)⟩])
  (.cond (.t 14)
    (.seq (.reg [⟨(some 4), none, .mv (.c (.bool false))⟩])
    .ret)
    .skip))
  (.seq (.seq (.reg [⟨(some 15), none, .fa 2 (.t 2)⟩,
   ⟨(some 16), none, .ld false 1 (.t 15)⟩,
   ⟨(some 17), none, .fa 2 (.t 3)⟩,
   ⟨(some 18), none, .ld false 1 (.t 17)⟩,
   ⟨(some 19), none, .bin .neq (.t 16) (.t 18)⟩])
  (.cond (.t 19)
    (.seq (.reg [⟨(some 4), none, .mv (.c (.bool false))⟩])
    .ret)
    .skip))
  (.seq (.seq (.reg [⟨(some 20), none, .fa 3 (.t 2)⟩,
   ⟨(some 21), none, .ld false 1 (.t 20)⟩,
   ⟨(some 22), none, .fa 3 (.t 3)⟩,
   ⟨(some 23), none, .ld false 1 (.t 22)⟩,
   ⟨(some 24), none, .cl (.c (.fn 149 [])) [(.t 21), (.t 23)]⟩,
   ⟨(some 25), none, .un .not (.t 24)⟩])
  (.cond (.t 25)
    (.seq (.reg [⟨(some 4), none, .mv (.c (.bool false))⟩])
    .ret)
    .skip))
  (.seq (.reg [⟨(some 4), none, .mv (.c (.bool true))⟩])
  .ret))))))
theorem k_laws_eqSeg : FnOk Tryz.prog 84 26 rc_laws_eqSeg [.t 4] := ⟨Tryz.f84, _, [], Tryz.func84, rfl, rfl, by kernel_rfl, by kernel_rfl, follows⟩
theorem ok_laws_eqSeg : okF Tryz.prog 84 = true := by kernel_rfl
def rc_laws_eqSegS : RC :=
  (.seq (.reg [⟨(some 4), none, .mv (.c (.bool false))⟩])
  (.seq (.seq (.reg [⟨(some 6), none, .mv (.t 0)⟩,
   ⟨(some 7), none, .lenl (.t 6)⟩,
   ⟨(some 8), none, .mv (.t 1)⟩,
   ⟨(some 9), none, .lenl (.t 8)⟩,
   ⟨(some 10), none, .bin .neq (.t 7) (.t 9)⟩])
  (.cond (.t 10)
    (.seq (.reg [⟨(some 4), none, .mv (.c (.bool false))⟩])
    .ret)
    .skip))
  (.seq (.seq (.reg [⟨(some 5), none, .mv (.c (.int .i64 0))⟩])
  (.blk 0 (.loop (.seq (.seq (.reg [⟨(some 11), none, .mv (.t 5)⟩,
     ⟨(some 12), none, .mv (.t 0)⟩,
     ⟨(some 13), none, .lenl (.t 12)⟩,
     ⟨(some 14), none, .bin .lss (.t 11) (.t 13)⟩])
    (.cond (.t 14)
      .skip
      (.exit 0)))
    (.seq (.blk 1 (.seq (.drw [⟨(some 17), none, .mv (.t 0)⟩,
      ⟨(some 18), none, .mv (.t 5)⟩,
      ⟨(some 19), none, .ia 4 (.t 17) (.t 18)⟩,
      ⟨(some 20), none, .ld true 4 (.t 19)⟩,
      ⟨(some 21), none, .mv (.t 1)⟩,
      ⟨(some 22), none, .mv (.t 5)⟩,
      ⟨(some 23), none, .ia 4 (.t 21) (.t 22)⟩,
      ⟨(some 24), none, .ld true 4 (.t 23)⟩,
      ⟨(some 25), none, .cl (.c (.fn 84 [])) [(.t 20), (.t 24)]⟩,
      ⟨(some 26), none, .un .not (.t 25)⟩] [.val [], .val [], .val [], .val [], .val [], .val [], .val [], .val [], .val [], .val []])
     (.cond (.t 26)
       (.seq (.reg [⟨(some 4), none, .mv (.c (.bool false))⟩])
       .ret)
       .skip)))
    (.reg [⟨(some 15), none, .mv (.t 5)⟩,
     ⟨(some 16), none, .bin .add (.t 15) (.c (.int .i64 1))⟩,
     ⟨(some 5), none, .mv (.t 16)⟩]))))))
  (.seq (.reg [⟨(some 4), none, .mv (.c (.bool true))⟩])
  .ret))))
theorem k_laws_eqSegS : FnOk Tryz.prog 39 27 rc_laws_eqSegS [.t 4] := ⟨Tryz.f39, _, [], Tryz.func39, rfl, rfl, by kernel_rfl, by kernel_rfl, follows⟩
theorem ok_laws_eqSegS : okF Tryz.prog 39 = true := by kernel_rfl
def rc_laws_eqLog : RC :=
  (.seq (.reg [⟨(some 2), none, .bx (.t 0)⟩,
   ⟨(some 3), none, .bx (.t 1)⟩,
   ⟨(some 4), none, .mv (.c (.bool false))⟩])
  (.seq (.seq (.reg [⟨(some 5), none, .fa 0 (.t 2)⟩,
   ⟨(some 6), none, .ld true 2 (.t 5)⟩,
   ⟨(some 7), none, .fa 0 (.t 3)⟩,
   ⟨(some 8), none, .ld true 2 (.t 7)⟩,
   ⟨(some 9), none, .cl (.c (.fn 38 [])) [(.t 6), (.t 8)]⟩,
   ⟨(some 10), none, .un .not (.t 9)⟩])
  (.cond (.t 10)
    (.seq (.reg [⟨(some 4), none, .mv (.c (.bool false))⟩])
    .ret)
    .skip))
  (.seq (.seq (.reg [⟨(some 11), none, .fa 2 (.t 2)⟩,
   ⟨(some 12), none, .ld false 1 (.t 11)⟩,
   ⟨(some 13), none, .fa 2 (.t 3)⟩,
   ⟨(some 14), none, .ld false 1 (.t 13)⟩,
   ⟨(some 15), none, .bin .neq (.t 12) (.t 14)⟩])
  (.cond (.t 15)
    (.seq (.reg [⟨(some 4), none, .mv (.c (.bool false))⟩])
    .ret)
    .skip))
  (.seq (.seq (.reg [⟨(some 16), none, .fa 3 (.t 2)⟩,
   ⟨(some 17), none, .ld false 1 (.t 16)⟩,
   ⟨(some 18), none, .fa 3 (.t 3)⟩,
   ⟨(some 19), none, .ld false 1 (.t 18)⟩,
   ⟨(some 20), none, .cl (.c (.fn 39 [])) [(.t 17), (.t 19)]⟩,
   ⟨(some 21), none, .un .not (.t 20)⟩])
  (.cond (.t 21)
    (.seq (.reg [⟨(some 4), none, .mv (.c (.bool false))⟩])
    .ret)
    .skip))
  (.seq (.seq (.reg [⟨(some 22), none, .fa 4 (.t 2)⟩,
   ⟨(some 23), none, .ld false 1 (.t 22)⟩,
   ⟨(some 24), none, .fa 4 (.t 3)⟩,
   ⟨(some 25), none, .ld false 1 (.t 24)⟩,
   ⟨(some 26), none, .bin .neq (.t 23) (.t 25)⟩])
  (.cond (.t 26)
    (.seq (.reg [⟨(some 4), none, .mv (.c (.bool false))⟩])
    .ret)
    .skip))
  (.seq (.seq (.reg [⟨(some 27), none, .fa 5 (.t 2)⟩,
   ⟨(some 28), none, .ld false 1 (.t 27)⟩,
   ⟨(some 29), none, .fa 5 (.t 3)⟩,
   ⟨(some 30), none, .ld false 1 (.t 29)⟩,
   ⟨(some 31), none, .bin .neq (.t 28) (.t 30)⟩])
  (.cond (.t 31)
    (.seq (.reg [⟨(some 4), none, .mv (.c (.bool false))⟩])
    .ret)
    .skip))
  (.seq (.seq (.reg [⟨(some 32), none, .fa 6 (.t 2)⟩,
   ⟨(some 33), none, .ld false 1 (.t 32)⟩,
   ⟨(some 34), none, .fa 6 (.t 3)⟩,
   ⟨(some 35), none, .ld false 1 (.t 34)⟩,
   ⟨(some 36), none, .bin .neq (.t 33) (.t 35)⟩])
  (.cond (.t 36)
    (.seq (.reg [⟨(some 4), none, .mv (.c (.bool false))⟩])
    .ret)
    .skip))
  (.seq (.seq (.reg [⟨(some 37), none, .fa 7 (.t 2)⟩,
   ⟨(some 38), none, .ld false 1 (.t 37)⟩,
   ⟨(some 39), none, .fa 7 (.t 3)⟩,
   ⟨(some 40), none, .ld false 1 (.t 39)⟩,
   ⟨(some 41), none, .bin .neq (.t 38) (.t 40)⟩])
  (.cond (.t 41)
    (.seq (.reg [⟨(some 4), none, .mv (.c (.bool false))⟩])
    .ret)
    .skip))
  (.seq (.reg [⟨(some 4), none, .mv (.c (.bool true))⟩])
  .ret)))))))))
theorem k_laws_eqLog : FnOk Tryz.prog 9 42 rc_laws_eqLog [.t 4] := ⟨Tryz.f9, _, [], Tryz.func9, rfl, rfl, by kernel_rfl, by kernel_rfl, follows⟩
theorem ok_laws_eqLog : okF Tryz.prog 9 = true := by kernel_rfl
def rc_laws_eqStore : RC :=
  (.seq (.reg [⟨(some 2), none, .bx (.t 0)⟩,
   ⟨(some 3), none, .bx (.t 1)⟩,
   ⟨(some 4), none, .mv (.c (.bool false))⟩])
  (.seq (.seq (.reg [⟨(some 5), none, .fa 0 (.t 2)⟩,
   ⟨(some 6), none, .ld true 8 (.t 5)⟩,
   ⟨(some 7), none, .fa 0 (.t 3)⟩,
   ⟨(some 8), none, .ld true 8 (.t 7)⟩,
   ⟨(some 9), none, .cl (.c (.fn 9 [])) [(.t 6), (.t 8)]⟩,
   ⟨(some 10), none, .un .not (.t 9)⟩])
  (.cond (.t 10)
    (.seq (.reg [⟨(some 4), none, .mv (.c (.bool false))⟩])
    .ret)
    .skip))
  (.seq (.seq (.reg [⟨(some 11), none, .fa 8 (.t 2)⟩,
   ⟨(some 12), none, .ld false 1 (.t 11)⟩,
   ⟨(some 13), none, .fa 8 (.t 3)⟩,
   ⟨(some 14), none, .ld false 1 (.t 13)⟩,
   ⟨(some 15), none, .cl (.c (.fn 44 [])) [(.t 12), (.t 14)]⟩,
   ⟨(some 16), none, .un .not (.t 15)⟩])
  (.cond (.t 16)
    (.seq (.reg [⟨(some 4), none, .mv (.c (.bool false))⟩])
    .ret)
    .skip))
  (.seq (.reg [⟨(some 4), none, .mv (.c (.bool true))⟩])
  .ret))))
theorem k_laws_eqStore : FnOk Tryz.prog 14 17 rc_laws_eqStore [.t 4] := ⟨Tryz.f14, _, [], Tryz.func14, rfl, rfl, by kernel_rfl, by kernel_rfl, follows⟩
theorem ok_laws_eqStore : okF Tryz.prog 14 = true := by kernel_rfl
def rc_laws_markText : RC :=
  (.seq (.reg [⟨(some 2), none, .mv (.c (.str []))⟩])
  (.seq (.seq (.reg [⟨(some 4), none, .mv (.t 0)⟩,
   ⟨(some 5), none, .bin .leq (.t 4) (.c (.int .i64 0))⟩])
  (.cond (.t 5)
    (.seq (.reg [⟨(some 2), none, .mv (.c (.str [109, 48]))⟩])
    .ret)
    .skip))
  (.seq (.reg [⟨(some 3), none, .mv (.c (.str []))⟩])
  (.seq (.blk 0 (.loop (.seq (.seq (.reg [⟨(some 6), none, .mv (.t 0)⟩,
     ⟨(some 7), none, .bin .gtr (.t 6) (.c (.int .i64 0))⟩])
    (.cond (.t 7)
      .skip
      (.exit 0)))
    (.blk 1 (.seq (.reg [⟨(some 8), none, .mv (.t 0)⟩,
      ⟨(some 9), none, .bin .rem (.t 8) (.c (.int .i64 10))⟩,
      ⟨(some 10), none, .bin .add (.c (.int .i64 48)) (.t 9)⟩,
      ⟨(some 11), none, .cvi .u8 (.t 10)⟩,
      ⟨(some 12), none, .bs 1 [.int .u8 0] 1 [(0, (.t 11))]⟩,
      ⟨(some 13), none, .cvb (.t 12)⟩,
      ⟨(some 14), none, .mv (.t 3)⟩,
      ⟨(some 15), none, .bin .add (.t 13) (.t 14)⟩,
      ⟨(some 3), none, .mv (.t 15)⟩])
     (.reg [⟨(some 16), none, .mv (.t 0)⟩,
      ⟨(some 17), none, .bin .quo (.t 16) (.c (.int .i64 10))⟩,
      ⟨(some 0), none, .mv (.t 17)⟩]))))))
  (.seq (.reg [⟨(some 18), none, .mv (.t 3)⟩,
   ⟨(some 19), none, .bin .add (.c (.str [109])) (.t 18)⟩,
   ⟨(some 2), none, .mv (.t 19)⟩])
  .ret)))))
theorem k_laws_markText : FnOk Tryz.prog 107 20 rc_laws_markText [.t 2] := ⟨Tryz.f107, _, [], Tryz.func107, rfl, rfl, by kernel_rfl, by kernel_rfl, follows⟩
theorem ok_laws_markText : okF Tryz.prog 107 = true := by kernel_rfl
def rc_laws_markStringS : RC :=
  (.seq (.reg [⟨(some 4), none, .mv (.c (.int .i64 0))⟩])
  (.seq (.seq (.reg [⟨(some 5), none, .mv (.c (.int .i64 0))⟩])
  (.blk 0 (.loop (.seq (.seq (.reg [⟨(some 6), none, .mv (.t 5)⟩,
     ⟨(some 7), none, .mv (.t 0)⟩,
     ⟨(some 8), none, .lenl (.t 7)⟩,
     ⟨(some 9), none, .bin .lss (.t 6) (.t 8)⟩])
    (.cond (.t 9)
      .skip
      (.exit 0)))
    (.seq (.blk 1 (.seq (.reg [⟨(some 12), none, .mv (.t 0)⟩,
      ⟨(some 13), none, .mv (.t 5)⟩,
      ⟨(some 14), none, .mv (.t 1)⟩,
      ⟨(some 15), none, .cl (.c (.fn 107 [])) [(.t 14)]⟩,
      ⟨(some 16), none, .ia 1 (.t 12) (.t 13)⟩,
      ⟨none, none, .st 1 (.t 16) (.t 15)⟩])
     (.reg [⟨(some 17), none, .mv (.t 1)⟩,
      ⟨(some 18), none, .bin .add (.t 17) (.c (.int .i64 1))⟩,
      ⟨(some 1), none, .mv (.t 18)⟩])))
    (.reg [⟨(some 10), none, .mv (.t 5)⟩,
     ⟨(some 11), none, .bin .add (.t 10) (.c (.int .i64 1))⟩,
     ⟨(some 5), none, .mv (.t 11)⟩]))))))
  (.seq (.reg [⟨(some 19), none, .mv (.t 1)⟩,
   ⟨(some 4), none, .mv (.t 19)⟩])
  .ret)))
theorem k_laws_markStringS : FnOk Tryz.prog 85 20 rc_laws_markStringS [.t 4] := ⟨Tryz.f85, _, [], Tryz.func85, rfl, rfl, by kernel_rfl, by kernel_rfl, follows⟩
theorem ok_laws_markStringS : okF Tryz.prog 85 = true := by kernel_rfl
def rc_laws_markWriteS : RC :=
  (.seq (.reg [⟨(some 4), none, .mv (.c (.int .i64 0))⟩])
  (.seq (.seq (.reg [⟨(some 5), none, .mv (.c (.int .i64 0))⟩])
  (.blk 0 (.loop (.seq (.seq (.reg [⟨(some 6), none, .mv (.t 5)⟩,
     ⟨(some 7), none, .mv (.t 0)⟩,
     ⟨(some 8), none, .lenl (.t 7)⟩,
     ⟨(some 9), none, .bin .lss (.t 6) (.t 8)⟩])
    (.cond (.t 9)
      .skip
      (.exit 0)))
    (.seq (.blk 1 (.seq (.reg [⟨(some 12), none, .mv (.t 0)⟩,
      ⟨(some 13), none, .mv (.t 5)⟩,
      ⟨(some 14), none, .mv (.t 1)⟩,
      ⟨(some 15), none, .ia 2 (.t 12) (.t 13)⟩,
      ⟨(some 16), none, .fa 0 (.t 15)⟩,
      ⟨none, none, .st 1 (.t 16) (.t 14)⟩])
     (.seq (.reg [⟨(some 17), none, .mv (.t 1)⟩,
      ⟨(some 18), none, .bin .add (.t 17) (.c (.int .i64 1))⟩,
      ⟨(some 1), none, .mv (.t 18)⟩])
     (.seq (.reg [⟨(some 19), none, .mv (.t 0)⟩,
      ⟨(some 20), none, .mv (.t 5)⟩,
      ⟨(some 21), none, .mv (.t 1)⟩,
      ⟨(some 22), none, .cl (.c (.fn 107 [])) [(.t 21)]⟩,
      ⟨(some 23), none, .ia 2 (.t 19) (.t 20)⟩,
      ⟨(some 24), none, .fa 1 (.t 23)⟩,
      ⟨none, none, .st 1 (.t 24) (.t 22)⟩])
     (.reg [⟨(some 25), none, .mv (.t 1)⟩,
      ⟨(some 26), none, .bin .add (.t 25) (.c (.int .i64 1))⟩,
      ⟨(some 1), none, .mv (.t 26)⟩])))))
    (.reg [⟨(some 10), none, .mv (.t 5)⟩,
     ⟨(some 11), none, .bin .add (.t 10) (.c (.int .i64 1))⟩,
     ⟨(some 5), none, .mv (.t 11)⟩]))))))
  (.seq (.reg [⟨(some 27), none, .mv (.t 1)⟩,
   ⟨(some 4), none, .mv (.t 27)⟩])
  .ret)))
theorem k_laws_markWriteS : FnOk Tryz.prog 86 28 rc_laws_markWriteS [.t 4] := ⟨Tryz.f86, _, [], Tryz.func86, rfl, rfl, by kernel_rfl, by kernel_rfl, follows⟩
theorem ok_laws_markWriteS : okF Tryz.prog 86 = true := by kernel_rfl
def rc_laws_markDisk : RC :=
  (.seq (.reg [⟨(some 2), none, .bx (.t 0)⟩,
   ⟨(some 4), none, .mv (.c (.int .i64 0))⟩])
  (.seq (.reg [⟨(some 5), none, .fa 0 (.t 2)⟩,
   ⟨(some 6), none, .ld false 1 (.t 5)⟩,
   ⟨(some 7), none, .mv (.t 1)⟩,
   ⟨(some 8), none, .cl (.c (.fn 85 [])) [(.t 6), (.t 7)]⟩,
   ⟨(some 1), none, .mv (.t 8)⟩])
  (.seq (.reg [⟨(some 9), none, .fa 1 (.t 2)⟩,
   ⟨(some 10), none, .ld false 1 (.t 9)⟩,
   ⟨(some 11), none, .mv (.t 1)⟩,
   ⟨(some 12), none, .cl (.c (.fn 86 [])) [(.t 10), (.t 11)]⟩,
   ⟨(some 1), none, .mv (.t 12)⟩])
  (.seq (.reg [⟨(some 13), none, .mv (.t 1)⟩,
   ⟨(some 4), none, .mv (.t 13)⟩])
  .ret))))
theorem k_laws_markDisk : FnOk Tryz.prog 40 14 rc_laws_markDisk [.t 4] := ⟨Tryz.f40, _, [], Tryz.func40, rfl, rfl, by kernel_rfl, by kernel_rfl, follows⟩
theorem ok_laws_markDisk : okF Tryz.prog 40 = true := by kernel_rfl
def rc_laws_markItemS : RC :=
  (.seq (.reg [⟨(some 4), none, .mv (.c (.int .i64 0))⟩])
  (.seq (.seq (.reg [⟨(some 5), none, .mv (.c (.int .i64 0))⟩])
  (.blk 0 (.loop (.seq (.seq (.reg [⟨(some 6), none, .mv (.t 5)⟩,
     ⟨(some 7), none, .mv (.t 0)⟩,
     ⟨(some 8), none, .lenl (.t 7)⟩,
     ⟨(some 9), none, .bin .lss (.t 6) (.t 8)⟩])
    (.cond (.t 9)
      .skip
      (.exit 0)))
    (.seq (.blk 1 (.seq (.reg [⟨(some 12), none, .mv (.t 0)⟩,
      ⟨(some 13), none, .mv (.t 5)⟩,
      ⟨(some 14), none, .mv (.t 1)⟩,
      ⟨(some 15), none, .ia 9 (.t 12) (.t 13)⟩,
      ⟨(some 16), none, .fa 0 (.t 15)⟩,
      ⟨none, none, .st 1 (.t 16) (.t 14)⟩])
     (.seq (.reg [⟨(some 17), none, .mv (.t 1)⟩,
      ⟨(some 18), none, .bin .add (.t 17) (.c (.int .i64 1))⟩,
      ⟨(some 1), none, .mv (.t 18)⟩])
     (.seq (.reg [⟨(some 19), none, .mv (.t 0)⟩,
      ⟨(some 20), none, .mv (.t 5)⟩,
      ⟨(some 21), none, .mv (.t 1)⟩,
      ⟨(some 22), none, .ia 9 (.t 19) (.t 20)⟩,
      ⟨(some 23), none, .fa 1 (.t 22)⟩,
      ⟨(some 24), none, .fa 0 (.t 23)⟩,
      ⟨none, none, .st 1 (.t 24) (.t 21)⟩])
     (.seq (.reg [⟨(some 25), none, .mv (.t 1)⟩,
      ⟨(some 26), none, .bin .add (.t 25) (.c (.int .i64 1))⟩,
      ⟨(some 1), none, .mv (.t 26)⟩])
     (.seq (.reg [⟨(some 27), none, .mv (.t 0)⟩,
      ⟨(some 28), none, .mv (.t 5)⟩,
      ⟨(some 29), none, .mv (.t 1)⟩,
      ⟨(some 30), none, .ia 9 (.t 27) (.t 28)⟩,
      ⟨(some 31), none, .fa 1 (.t 30)⟩,
      ⟨(some 32), none, .fa 1 (.t 31)⟩,
      ⟨none, none, .st 1 (.t 32) (.t 29)⟩])
     (.seq (.reg [⟨(some 33), none, .mv (.t 1)⟩,
      ⟨(some 34), none, .bin .add (.t 33) (.c (.int .i64 1))⟩,
      ⟨(some 1), none, .mv (.t 34)⟩])
     (.seq (.reg [⟨(some 35), none, .mv (.t 0)⟩,
      ⟨(some 36), none, .mv (.t 5)⟩,
      ⟨(some 37), none, .mv (.t 1)⟩,
      ⟨(some 38), none, .ia 9 (.t 35) (.t 36)⟩,
      ⟨(some 39), none, .fa 1 (.t 38)⟩,
      ⟨(some 40), none, .fa 2 (.t 39)⟩,
      ⟨none, none, .st 1 (.t 40) (.t 37)⟩])
     (.seq (.reg [⟨(some 41), none, .mv (.t 1)⟩,
      ⟨(some 42), none, .bin .add (.t 41) (.c (.int .i64 1))⟩,
      ⟨(some 1), none, .mv (.t 42)⟩])
     (.seq (.reg [⟨(some 43), none, .mv (.t 0)⟩,
      ⟨(some 44), none, .mv (.t 5)⟩,
      ⟨(some 45), none, .mv (.t 1)⟩,
      ⟨(some 46), none, .ia 9 (.t 43) (.t 44)⟩,
      ⟨(some 47), none, .fa 1 (.t 46)⟩,
      ⟨(some 48), none, .fa 3 (.t 47)⟩,
      ⟨none, none, .st 1 (.t 48) (.t 45)⟩])
     (.seq (.reg [⟨(some 49), none, .mv (.t 1)⟩,
      ⟨(some 50), none, .bin .add (.t 49) (.c (.int .i64 1))⟩,
      ⟨(some 1), none, .mv (.t 50)⟩])
     (.seq (.reg [⟨(some 51), none, .mv (.t 0)⟩,
      ⟨(some 52), none, .mv (.t 5)⟩,
      ⟨(some 53), none, .mv (.t 1)⟩,
      ⟨(some 54), none, .ia 9 (.t 51) (.t 52)⟩,
      ⟨(some 55), none, .fa 1 (.t 54)⟩,
      ⟨(some 56), none, .fa 4 (.t 55)⟩,
      ⟨none, none, .st 1 (.t 56) (.t 53)⟩])
     (.seq (.reg [⟨(some 57), none, .mv (.t 1)⟩,
      ⟨(some 58), none, .bin .add (.t 57) (.c (.int .i64 1))⟩,
      ⟨(some 1), none, .mv (.t 58)⟩])
     (.seq (.reg [⟨(some 59), none, .mv (.t 0)⟩,
      ⟨(some 60), none, .mv (.t 5)⟩,
      ⟨(some 61), none, .mv (.t 1)⟩,
      ⟨(some 62), none, .cl (.c (.fn 107 [])) [(.t 61)]⟩,
      ⟨(some 63), none, .ia 9 (.t 59) (.t 60)⟩,
      ⟨(some 64), none, .fa 1 (.t 63)⟩,
      ⟨(some 65), none, .fa 5 (.t 64)⟩,
      ⟨none, none, .st 1 (.t 65) (.t 62)⟩])
     (.seq (.reg [⟨(some 66), none, .mv (.t 1)⟩,
      ⟨(some 67), none, .bin .add (.t 66) (.c (.int .i64 1))⟩,
      ⟨(some 1), none, .mv (.t 67)⟩])
     (.seq (.reg [⟨(some 68), none, .mv (.t 0)⟩,
      ⟨(some 69), none, .mv (.t 5)⟩,
      ⟨(some 70), none, .mv (.t 1)⟩,
      ⟨(some 71), none, .cl (.c (.fn 107 [])) [(.t 70)]⟩,
      ⟨(some 72), none, .ia 9 (.t 68) (.t 69)⟩,
      ⟨(some 73), none, .fa 1 (.t 72)⟩,
      ⟨(some 74), none, .fa 6 (.t 73)⟩,
      ⟨none, none, .st 1 (.t 74) (.t 71)⟩])
     (.seq (.reg [⟨(some 75), none, .mv (.t 1)⟩,
      ⟨(some 76), none, .bin .add (.t 75) (.c (.int .i64 1))⟩,
      ⟨(some 1), none, .mv (.t 76)⟩])
     (.seq (.reg [⟨(some 77), none, .mv (.t 0)⟩,
      ⟨(some 78), none, .mv (.t 5)⟩,
      ⟨(some 79), none, .mv (.t 1)⟩,
      ⟨(some 80), none, .cl (.c (.fn 107 [])) [(.t 79)]⟩,
      ⟨(some 81), none, .ia 9 (.t 77) (.t 78)⟩,
      ⟨(some 82), none, .fa 1 (.t 81)⟩,
      ⟨(some 83), none, .fa 7 (.t 82)⟩,
      ⟨none, none, .st 1 (.t 83) (.t 80)⟩])
     (.reg [⟨(some 84), none, .mv (.t 1)⟩,
      ⟨(some 85), none, .bin .add (.t 84) (.c (.int .i64 1))⟩,
      ⟨(some 1), none, .mv (.t 85)⟩])))))))))))))))))))
    (.reg [⟨(some 10), none, .mv (.t 5)⟩,
     ⟨(some 11), none, .bin .add (.t 10) (.c (.int .i64 1))⟩,
     ⟨(some 5), none, .mv (.t 11)⟩]))))))
  (.seq (.reg [⟨(some 86), none, .mv (.t 1)⟩,
   ⟨(some 4), none, .mv (.t 86)⟩])
  .ret)))
theorem k_laws_markItemS : FnOk Tryz.prog 87 87 rc_laws_markItemS [.t 4] := ⟨Tryz.f87, _, [], Tryz.func87, rfl, rfl, by kernel_rfl, by kernel_rfl, follows⟩
theorem ok_laws_markItemS : okF Tryz.prog 87 = true := by kernel_rfl
def rc_laws_markSegS : RC :=
  (.seq (.reg [⟨(some 4), none, .mv (.c (.int .i64 0))⟩])
  (.seq (.seq (.reg [⟨(some 5), none, .mv (.c (.int .i64 0))⟩])
  (.blk 0 (.loop (.seq (.seq (.reg [⟨(some 6), none, .mv (.t 5)⟩,
     ⟨(some 7), none, .mv (.t 0)⟩,
     ⟨(some 8), none, .lenl (.t 7)⟩,
     ⟨(some 9), none, .bin .lss (.t 6) (.t 8)⟩])
    (.cond (.t 9)
      .skip
      (.exit 0)))
    (.seq (.blk 1 (.seq (.reg [⟨(some 12), none, .mv (.t 0)⟩,
      ⟨(some 13), none, .mv (.t 5)⟩,
      ⟨(some 14), none, .mv (.t 1)⟩,
      ⟨(some 15), none, .ia 4 (.t 12) (.t 13)⟩,
      ⟨(some 16), none, .fa 0 (.t 15)⟩,
      ⟨none, none, .st 1 (.t 16) (.t 14)⟩])
     (.seq (.reg [⟨(some 17), none, .mv (.t 1)⟩,
      ⟨(some 18), none, .bin .add (.t 17) (.c (.int .i64 1))⟩,
      ⟨(some 1), none, .mv (.t 18)⟩])
     (.seq (.reg [⟨(some 19), none, .mv (.t 0)⟩,
      ⟨(some 20), none, .mv (.t 5)⟩,
      ⟨(some 21), none, .mv (.t 1)⟩,
      ⟨(some 22), none, .ia 4 (.t 19) (.t 20)⟩,
      ⟨(some 23), none, .fa 1 (.t 22)⟩,
      ⟨none, none, .st 1 (.t 23) (.t 21)⟩])
     (.seq (.reg [⟨(some 24), none, .mv (.t 1)⟩,
      ⟨(some 25), none, .bin .add (.t 24) (.c (.int .i64 1))⟩,
      ⟨(some 1), none, .mv (.t 25)⟩])
     (.seq (.reg [⟨(some 26), none, .mv (.t 0)⟩,
      ⟨(some 27), none, .mv (.t 5)⟩,
      ⟨(some 28), none, .mv (.t 1)⟩,
      ⟨(some 29), none, .ia 4 (.t 26) (.t 27)⟩,
      ⟨(some 30), none, .fa 2 (.t 29)⟩,
      ⟨none, none, .st 1 (.t 30) (.t 28)⟩])
     (.seq (.reg [⟨(some 31), none, .mv (.t 1)⟩,
      ⟨(some 32), none, .bin .add (.t 31) (.c (.int .i64 1))⟩,
      ⟨(some 1), none, .mv (.t 32)⟩])
     (.reg [⟨(some 33), none, .mv (.t 0)⟩,
      ⟨(some 34), none, .mv (.t 5)⟩,
      ⟨(some 35), none, .ia 4 (.t 33) (.t 34)⟩,
      ⟨(some 36), none, .fa 3 (.t 35)⟩,
      ⟨(some 37), none, .ld false 1 (.t 36)⟩,
      ⟨(some 38), none, .mv (.t 1)⟩,
      ⟨(some 39), none, .cl (.c (.fn 87 [])) [(.t 37), (.t 38)]⟩,
      ⟨(some 1), none, .mv (.t 39)⟩]))))))))
    (.reg [⟨(some 10), none, .mv (.t 5)⟩,
     ⟨(some 11), none, .bin .add (.t 10) (.c (.int .i64 1))⟩,
     ⟨(some 5), none, .mv (.t 11)⟩]))))))
  (.seq (.reg [⟨(some 40), none, .mv (.t 1)⟩,
   ⟨(some 4), none, .mv (.t 40)⟩])
  .ret)))
theorem k_laws_markSegS : FnOk Tryz.prog 41 41 rc_laws_markSegS [.t 4] := ⟨Tryz.f41, _, [], Tryz.func41, rfl, rfl, by kernel_rfl, by kernel_rfl, follows⟩
theorem ok_laws_markSegS : okF Tryz.prog 41 = true := by kernel_rfl
def rc_laws_markLog : RC :=
  (.seq (.reg [⟨(some 2), none, .bx (.t 0)⟩,
   ⟨(some 4), none, .mv (.c (.int .i64 0))⟩])
  (.seq (.reg [⟨(some 5), none, .fa 0 (.t 2)⟩,
   ⟨(some 6), none, .ld true 2 (.t 5)⟩,
   ⟨(some 7), none, .mv (.t 1)⟩,
   ⟨(some 8), none, .cl (.c (.fn 40 [])) [(.t 6), (.t 7)]⟩,
   ⟨(some 1), none, .mv (.t 8)⟩])
  (.seq (.reg [⟨(some 9), none, .fa 3 (.t 2)⟩,
   ⟨(some 10), none, .ld false 1 (.t 9)⟩,
   ⟨(some 11), none, .mv (.t 1)⟩,
   ⟨(some 12), none, .cl (.c (.fn 41 [])) [(.t 10), (.t 11)]⟩,
   ⟨(some 1), none, .mv (.t 12)⟩])
  (.seq (.reg [⟨(some 13), none, .mv (.t 1)⟩,
   ⟨(some 4), none, .mv (.t 13)⟩])
  .ret))))
theorem k_laws_markLog : FnOk Tryz.prog 10 14 rc_laws_markLog [.t 4] := ⟨Tryz.f10, _, [], Tryz.func10, rfl, rfl, by kernel_rfl, by kernel_rfl, follows⟩
theorem ok_laws_markLog : okF Tryz.prog 10 = true := by kernel_rfl
def rc_laws_markIntS : RC :=
  (.seq (.reg [⟨(some 4), none, .mv (.c (.int .i64 0))⟩])
  (.seq (.seq (.reg [⟨(some 5), none, .mv (.c (.int .i64 0))⟩])
  (.blk 0 (.loop (.seq (.seq (.reg [⟨(some 6), none, .mv (.t 5)⟩,
     ⟨(some 7), none, .mv (.t 0)⟩,
     ⟨(some 8), none, .lenl (.t 7)⟩,
     ⟨(some 9), none, .bin .lss (.t 6) (.t 8)⟩])
    (.cond (.t 9)
      .skip
      (.exit 0)))
    (.seq (.blk 1 (.seq (.reg [⟨(some 12), none, .mv (.t 0)⟩,
      ⟨(some 13), none, .mv (.t 5)⟩,
      ⟨(some 14), none, .mv (.t 1)⟩,
      ⟨(some 15), none, .ia 1 (.t 12) (.t 13)⟩,
      ⟨none, none, .st 1 (.t 15) (.t 14)⟩])
     (.reg [⟨(some 16), none, .mv (.t 1)⟩,
      ⟨(some 17), none, .bin .add (.t 16) (.c (.int .i64 1))⟩,
      ⟨(some 1), none, .mv (.t 17)⟩])))
    (.reg [⟨(some 10), none, .mv (.t 5)⟩,
     ⟨(some 11), none, .bin .add (.t 10) (.c (.int .i64 1))⟩,
     ⟨(some 5), none, .mv (.t 11)⟩]))))))
  (.seq (.reg [⟨(some 18), none, .mv (.t 1)⟩,
   ⟨(some 4), none, .mv (.t 18)⟩])
  .ret)))
theorem k_laws_markIntS : FnOk Tryz.prog 45 19 rc_laws_markIntS [.t 4] := ⟨Tryz.f45, _, [], Tryz.func45, rfl, rfl, by kernel_rfl, by kernel_rfl, follows⟩
theorem ok_laws_markIntS : okF Tryz.prog 45 = true := by kernel_rfl
def rc_laws_markStore : RC :=
  (.seq (.reg [⟨(some 2), none, .bx (.t 0)⟩,
   ⟨(some 4), none, .mv (.c (.int .i64 0))⟩])
  (.seq (.reg [⟨(some 5), none, .fa 0 (.t 2)⟩,
   ⟨(some 6), none, .ld true 8 (.t 5)⟩,
   ⟨(some 7), none, .mv (.t 1)⟩,
   ⟨(some 8), none, .cl (.c (.fn 10 [])) [(.t 6), (.t 7)]⟩,
   ⟨(some 1), none, .mv (.t 8)⟩])
  (.seq (.reg [⟨(some 9), none, .fa 8 (.t 2)⟩,
   ⟨(some 10), none, .ld false 1 (.t 9)⟩,
   ⟨(some 11), none, .mv (.t 1)⟩,
   ⟨(some 12), none, .cl (.c (.fn 45 [])) [(.t 10), (.t 11)]⟩,
   ⟨(some 1), none, .mv (.t 12)⟩])
  (.seq (.reg [⟨(some 13), none, .mv (.t 1)⟩,
   ⟨(some 4), none, .mv (.t 13)⟩])
  .ret))))
theorem k_laws_markStore : FnOk Tryz.prog 15 14 rc_laws_markStore [.t 4] := ⟨Tryz.f15, _, [], Tryz.func15, rfl, rfl, by kernel_rfl, by kernel_rfl, follows⟩
theorem ok_laws_markStore : okF Tryz.prog 15 = true := by kernel_rfl
def rc_laws_szStringS : RC :=
  (.seq (.reg [⟨(some 4), none, .mv (.c (.int .i64 0))⟩])
  (.seq (.reg [⟨(some 6), none, .mv (.t 1)⟩,
   ⟨(some 7), none, .mv (.t 0)⟩,
   ⟨(some 8), none, .lenl (.t 7)⟩,
   ⟨(some 9), none, .bin .sub (.t 6) (.t 8)⟩,
   ⟨(some 1), none, .mv (.t 9)⟩])
  (.seq (.seq (.reg [⟨(some 10), none, .mv (.t 1)⟩,
   ⟨(some 11), none, .bin .lss (.t 10) (.c (.int .i64 0))⟩])
  (.cond (.t 11)
    (.seq (.reg [⟨(some 4), none, .mv (.c (.int .i64 (-1)))⟩])
    .ret)
    .skip))
  (.seq (.seq (.reg [⟨(some 5), none, .mv (.c (.int .i64 0))⟩])
  (.blk 0 (.loop (.seq (.seq (.reg [⟨(some 12), none, .mv (.t 5)⟩,
     ⟨(some 13), none, .mv (.t 0)⟩,
     ⟨(some 14), none, .lenl (.t 13)⟩,
     ⟨(some 15), none, .bin .lss (.t 12) (.t 14)⟩])
    (.cond (.t 15)
      .skip
      (.exit 0)))
    (.seq (.blk 1 (.seq (.reg [⟨(some 18), none, .mv (.t 1)⟩,
      ⟨(some 19), none, .mv (.t 0)⟩,
      ⟨(some 20), none, .mv (.t 5)⟩,
      ⟨(some 21), none, .ia 1 (.t 19) (.t 20)⟩,
      ⟨(some 22), none, .ld false 1 (.t 21)⟩,
      ⟨(some 23), none, .lens (.t 22)⟩,
      ⟨(some 24), none, .bin .sub (.t 18) (.t 23)⟩,
      ⟨(some 1), none, .mv (.t 24)⟩])
     (.seq (.reg [⟨(some 25), none, .mv (.t 1)⟩,
      ⟨(some 26), none, .bin .lss (.t 25) (.c (.int .i64 0))⟩])
     (.cond (.t 26)
       (.seq (.reg [⟨(some 4), none, .mv (.c (.int .i64 (-1)))⟩])
       .ret)
       .skip))))
    (.reg [⟨(some 16), none, .mv (.t 5)⟩,
     ⟨(some 17), none, .bin .add (.t 16) (.c (.int .i64 1))⟩,
     ⟨(some 5), none, .mv (.t 17)⟩]))))))
  (.seq (.reg [⟨(some 27), none, .mv (.t 1)⟩,
   ⟨(some 4), none, .mv (.t 27)⟩])
  .ret)))))
theorem k_laws_szStringS : FnOk Tryz.prog 150 28 rc_laws_szStringS [.t 4] := ⟨Tryz.f150, _, [], Tryz.func150, rfl, rfl, by kernel_rfl, by kernel_rfl, follows⟩
theorem ok_laws_szStringS : okF Tryz.prog 150 = true := by kernel_rfl
def rc_laws_szWrite : RC :=
  (.seq (.reg [⟨(some 2), none, .bx (.t 0)⟩,
   ⟨(some 4), none, .mv (.c (.int .i64 0))⟩])
  (.seq (.reg [⟨(some 5), none, .mv (.t 1)⟩,
   ⟨(some 6), none, .fa 1 (.t 2)⟩,
   ⟨(some 7), none, .ld false 1 (.t 6)⟩,
   ⟨(some 8), none, .lens (.t 7)⟩,
   ⟨(some 9), none, .bin .sub (.t 5) (.t 8)⟩,
   ⟨(some 1), none, .mv (.t 9)⟩])
  (.seq (.seq (.reg [⟨(some 10), none, .mv (.t 1)⟩,
   ⟨(some 11), none, .bin .lss (.t 10) (.c (.int .i64 0))⟩])
  (.cond (.t 11)
    (.seq (.reg [⟨(some 4), none, .mv (.c (.int .i64 (-1)))⟩])
    .ret)
    .skip))
  (.seq (.reg [⟨(some 12), none, .mv (.t 1)⟩,
   ⟨(some 4), none, .mv (.t 12)⟩])
  .ret))))
theorem k_laws_szWrite : FnOk Tryz.prog 193 13 rc_laws_szWrite [.t 4] := ⟨Tryz.f193, _, [], Tryz.func193, rfl, rfl, by kernel_rfl, by kernel_rfl, follows⟩
theorem ok_laws_szWrite : okF Tryz.prog 193 = true := by kernel_rfl
def rc_laws_szWriteS : RC :=
  (.seq (.reg [⟨(some 4), none, .mv (.c (.int .i64 0))⟩])
  (.seq (.reg [⟨(some 6), none, .mv (.t 1)⟩,
   ⟨(some 7), none, .mv (.t 0)⟩,
   ⟨(some 8), none, .lenl (.t 7)⟩,
   ⟨(some 9), none, .bin .sub (.t 6) (.t 8)⟩,
   ⟨(some 1), none, .mv (.t 9)⟩])
  (.seq (.seq (.reg [⟨(some 10), none, .mv (.t 1)⟩,
   ⟨(some 11), none, .bin .lss (.t 10) (.c (.int .i64 0))⟩])
  (.cond (.t 11)
    (.seq (.reg [⟨(some 4), none, .mv (.c (.int .i64 (-1)))⟩])
    .ret)
    .skip))
  (.seq (.seq (.reg [⟨(some 5), none, .mv (.c (.int .i64 0))⟩])
  (.blk 0 (.loop (.seq (.seq (.reg [⟨(some 12), none, .mv (.t 5)⟩,
     ⟨(some 13), none, .mv (.t 0)⟩,
     ⟨(some 14), none, .lenl (.t 13)⟩,
     ⟨(some 15), none, .bin .lss (.t 12) (.t 14)⟩])
    (.cond (.t 15)
      .skip
      (.exit 0)))
    (.seq (.blk 1 (.seq (.reg [⟨(some 18), none, .mv (.t 0)⟩,
      ⟨(some 19), none, .mv (.t 5)⟩,
      ⟨(some 20), none, .ia 2 (.t 18) (.t 19)⟩,
      ⟨(some 21), none, .ld true 2 (.t 20)⟩,
      ⟨(some 22), none, .mv (.t 1)⟩,
      ⟨(some 23), none, .cl (.c (.fn 193 [])) [(.t 21), (.t 22)]⟩,
      ⟨(some 1), none, .mv (.t 23)⟩])
     (.seq (.reg [⟨(some 24), none, .mv (.t 1)⟩,
      ⟨(some 25), none, .bin .lss (.t 24) (.c (.int .i64 0))⟩])
     (.cond (.t 25)
       (.seq (.reg [⟨(some 4), none, .mv (.c (.int .i64 (-1)))⟩])
       .ret)
       .skip))))
    (.reg [⟨(some 16), none, .mv (.t 5)⟩,
     ⟨(some 17), none, .bin .add (.t 16) (.c (.int .i64 1))⟩,
     ⟨(some 5), none, .mv (.t 17)⟩]))))))
  (.seq (.reg [⟨(some 26), none, .mv (.t 1)⟩,
   ⟨(some 4), none, .mv (.t 26)⟩])
  .ret)))))
theorem k_laws_szWriteS : FnOk Tryz.prog 151 27 rc_laws_szWriteS [.t 4] := ⟨Tryz.f151, _, [], Tryz.func151, rfl, rfl, by kernel_rfl, by kernel_rfl, follows⟩
theorem ok_laws_szWriteS : okF Tryz.prog 151 = true := by kernel_rfl
def rc_laws_szDisk : RC :=
  (.seq (.reg [⟨(some 2), none, .bx (.t 0)⟩,
   ⟨(some 4), none, .mv (.c (.int .i64 0))⟩])
  (.seq (.reg [⟨(some 5), none, .fa 0 (.t 2)⟩,
   ⟨(some 6), none, .ld false 1 (.t 5)⟩,
   ⟨(some 7), none, .mv (.t 1)⟩,
   ⟨(some 8), none, .cl (.c (.fn 150 [])) [(.t 6), (.t 7)]⟩,
   ⟨(some 1), none, .mv (.t 8)⟩])
  (.seq (.seq (.reg [⟨(some 9), none, .mv (.t 1)⟩,
   ⟨(some 10), none, .bin .lss (.t 9) (.c (.int .i64 0))⟩])
  (.cond (.t 10)
    (.seq (.reg [⟨(some 4), none, .mv (.c (.int .i64 (-1)))⟩])
    .ret)
    .skip))
  (.seq (.reg [⟨(some 11), none, .fa 1 (.t 2)⟩,
   ⟨(some 12), none, .ld false 1 (.t 11)⟩,
   ⟨(some 13), none, .mv (.t 1)⟩,
   ⟨(some 14), none, .cl (.c (.fn 151 [])) [(.t 12), (.t 13)]⟩,
   ⟨(some 1), none, .mv (.t 14)⟩])
  (.seq (.seq (.reg [⟨(some 15), none, .mv (.t 1)⟩,
   ⟨(some 16), none, .bin .lss (.t 15) (.c (.int .i64 0))⟩])
  (.cond (.t 16)
    (.seq (.reg [⟨(some 4), none, .mv (.c (.int .i64 (-1)))⟩])
    .ret)
    .skip))
  (.seq (.reg [⟨(some 17), none, .mv (.t 1)⟩,
   ⟨(some 4), none, .mv (.t 17)⟩])
  .ret))))))
theorem k_laws_szDisk : FnOk Tryz.prog 91 18 rc_laws_szDisk [.t 4] := ⟨Tryz.f91, _, [], Tryz.func91, rfl, rfl, by kernel_rfl, by kernel_rfl, follows⟩
theorem ok_laws_szDisk : okF Tryz.prog 91 = true := by kernel_rfl
def rc_laws_szRec : RC :=
  (.seq (.reg [⟨(some 2), none, .bx (.t 0)⟩,
   ⟨(some 4), none, .mv (.c (.int .i64 0))⟩])
  (.seq (.reg [⟨(some 5), none, .mv (.t 1)⟩,
   ⟨(some 6), none, .fa 5 (.t 2)⟩,
   ⟨(some 7), none, .ld false 1 (.t 6)⟩,
   ⟨(some 8), none, .lens (.t 7)⟩,
   ⟨(some 9), none, .bin .sub (.t 5) (.t 8)⟩,
   ⟨(some 1), none, .mv (.t 9)⟩])
  (.seq (.seq (.reg [⟨(some 10), none, .mv (.t 1)⟩,
   ⟨(some 11), none, .bin .lss (.t 10) (.c (.int .i64 0))⟩])
  (.cond (.t 11)
    (.seq (.reg [⟨(some 4), none, .mv (.c (.int .i64 (-1)))⟩])
    .ret)
    .skip))
  (.seq (.reg [⟨(some 12), none, .mv (.t 1)⟩,
   ⟨(some 13), none, .fa 6 (.t 2)⟩,
   ⟨(some 14), none, .ld false 1 (.t 13)⟩,
   ⟨(some 15), none, .lens (.t 14)⟩,
   ⟨(some 16), none, .bin .sub (.t 12) (.t 15)⟩,
   ⟨(some 1), none, .mv (.t 16)⟩])
  (.seq (.seq (.reg [⟨(some 17), none, .mv (.t 1)⟩,
   ⟨(some 18), none, .bin .lss (.t 17) (.c (.int .i64 0))⟩])
  (.cond (.t 18)
    (.seq (.reg [⟨(some 4), none, .mv (.c (.int .i64 (-1)))⟩])
    .ret)
    .skip))
  (.seq (.reg [⟨(some 19), none, .mv (.t 1)⟩,
   ⟨(some 20), none, .fa 7 (.t 2)⟩,
   ⟨(some 21), none, .ld false 1 (.t 20)⟩,
   ⟨(some 22), none, .lens (.t 21)⟩,
   ⟨(some 23), none, .bin .sub (.t 19) (.t 22)⟩,
   ⟨(some 1), none, .mv (.t 23)⟩])
  (.seq (.seq (.reg [⟨(some 24), none, .mv (.t 1)⟩,
   ⟨(some 25), none, .bin .lss (.t 24) (.c (.int .i64 0))⟩])
  (.cond (.t 25)
    (.seq (.reg [⟨(some 4), none, .mv (.c (.int .i64 (-1)))⟩])
    .ret)
    .skip))
  (.seq (.reg [⟨(some 26), none, .mv (.t 1)⟩,
   ⟨(some 4), none, .mv (.t 26)⟩])
  .ret))))))))
theorem k_laws_szRec : FnOk Tryz.prog 24 27 rc_laws_szRec [.t 4] := ⟨Tryz.f24, _, [], Tryz.func24, rfl, rfl, by kernel_rfl, by kernel_rfl, follows⟩
theorem ok_laws_szRec : okF Tryz.prog 24 = true := by kernel_rfl
def rc_laws_szItem : RC :=
  (.seq (.reg [⟨(some 2), none, .bx (.t 0)⟩,
   ⟨(some 4), none, .mv (.c (.int .i64 0))⟩])
  (.seq (.reg [⟨(some 5), none, .fa 1 (.t 2)⟩,
   ⟨(some 6), none, .ld true 8 (.t 5)⟩,
   ⟨(some 7), none, .mv (.t 1)⟩,
   ⟨(some 8), none, .cl (.c (.fn 24 [])) [(.t 6), (.t 7)]⟩,
   ⟨(some 1), none, .mv (.t 8)⟩])
  (.seq (.seq (.reg [⟨(some 9), none, .mv (.t 1)⟩,
   ⟨(some 10), none, .bin .lss (.t 9) (.c (.int .i64 0))⟩])
  (.cond (.t 10)
    (.seq (.reg [⟨(some 4), none, .mv (.c (.int .i64 (-1)))⟩])
    .ret)
    .skip))
  (.seq (.reg [⟨(some 11), none, .mv (.t 1)⟩,
   ⟨(some 4), none, .mv (.t 11)⟩])
  .ret))))
theorem k_laws_szItem : FnOk Tryz.prog 214 12 rc_laws_szItem [.t 4] := ⟨Tryz.f214, _, [], Tryz.func214, rfl, rfl, by kernel_rfl, by kernel_rfl, follows⟩
theorem ok_laws_szItem : okF Tryz.prog 214 = true := by kernel_rfl
def rc_laws_szItemS : RC :=
  (.seq (.reg [⟨(some 4), none, .mv (.c (.int .i64 0))⟩])
  (.seq (.reg [⟨(some 6), none, .mv (.t 1)⟩,
   ⟨(some 7), none, .mv (.t 0)⟩,
   ⟨(some 8), none, .lenl (.t 7)⟩,
   ⟨(some 9), none, .bin .sub (.t 6) (.t 8)⟩,
   ⟨(some 1), none, .mv (.t 9)⟩])
  (.seq (.seq (.reg [⟨(some 10), none, .mv (.t 1)⟩,
   ⟨(some 11), none, .bin .lss (.t 10) (.c (.int .i64 0))⟩])
  (.cond (.t 11)
    (.seq (.reg [⟨(some 4), none, .mv (.c (.int .i64 (-1)))⟩])
    .ret)
    .skip))
  (.seq (.seq (.reg [⟨(some 5), none, .mv (.c (.int .i64 0))⟩])
  (.blk 0 (.loop (.seq (.seq (.reg [⟨(some 12), none, .mv (.t 5)⟩,
     ⟨(some 13), none, .mv (.t 0)⟩,
     ⟨(some 14), none, .lenl (.t 13)⟩,
     ⟨(some 15), none, .bin .lss (.t 12) (.t 14)⟩])
    (.cond (.t 15)
      .skip
      (.exit 0)))
    (.seq (.blk 1 (.seq (.reg [⟨(some 18), none, .mv (.t 0)⟩,
      ⟨(some 19), none, .mv (.t 5)⟩,
      ⟨(some 20), none, .ia 9 (.t 18) (.t 19)⟩,
      ⟨(some 21), none, .ld true 9 (.t 20)⟩,
      ⟨(some 22), none, .mv (.t 1)⟩,
      ⟨(some 23), none, .cl (.c (.fn 214 [])) [(.t 21), (.t 22)]⟩,
      ⟨(some 1), none, .mv (.t 23)⟩])
     (.seq (.reg [⟨(some 24), none, .mv (.t 1)⟩,
      ⟨(some 25), none, .bin .lss (.t 24) (.c (.int .i64 0))⟩])
     (.cond (.t 25)
       (.seq (.reg [⟨(some 4), none, .mv (.c (.int .i64 (-1)))⟩])
       .ret)
       .skip))))
    (.reg [⟨(some 16), none, .mv (.t 5)⟩,
     ⟨(some 17), none, .bin .add (.t 16) (.c (.int .i64 1))⟩,
     ⟨(some 5), none, .mv (.t 17)⟩]))))))
  (.seq (.reg [⟨(some 26), none, .mv (.t 1)⟩,
   ⟨(some 4), none, .mv (.t 26)⟩])
  .ret)))))
theorem k_laws_szItemS : FnOk Tryz.prog 194 27 rc_laws_szItemS [.t 4] := ⟨Tryz.f194, _, [], Tryz.func194, rfl, rfl, by kernel_rfl, by kernel_rfl, follows⟩
theorem ok_laws_szItemS : okF Tryz.prog 194 = true := by kernel_rfl
def rc_laws_szSeg : RC :=
  (.seq (.reg [⟨(some 2), none, .bx (.t 0)⟩,
   ⟨(some 4), none, .mv (.c (.int .i64 0))⟩])
  (.seq (.reg [⟨(some 5), none, .fa 3 (.t 2)⟩,
   ⟨(some 6), none, .ld false 1 (.t 5)⟩,
   ⟨(some 7), none, .mv (.t 1)⟩,
   ⟨(some 8), none, .cl (.c (.fn 194 [])) [(.t 6), (.t 7)]⟩,
   ⟨(some 1), none, .mv (.t 8)⟩])
  (.seq (.seq (.reg [⟨(some 9), none, .mv (.t 1)⟩,
   ⟨(some 10), none, .bin .lss (.t 9) (.c (.int .i64 0))⟩])
  (.cond (.t 10)
    (.seq (.reg [⟨(some 4), none, .mv (.c (.int .i64 (-1)))⟩])
    .ret)
    .skip))
  (.seq (.reg [⟨(some 11), none, .mv (.t 1)⟩,
   ⟨(some 4), none, .mv (.t 11)⟩])
  .ret))))
theorem k_laws_szSeg : FnOk Tryz.prog 152 12 rc_laws_szSeg [.t 4] := ⟨Tryz.f152, _, [], Tryz.func152, rfl, rfl, by kernel_rfl, by kernel_rfl, follows⟩
theorem ok_laws_szSeg : okF Tryz.prog 152 = true := by kernel_rfl
def rc_laws_szSegS : RC :=
  (.seq (.reg [⟨(some 4), none, .mv (.c (.int .i64 0))⟩])
  (.seq (.reg [⟨(some 6), none, .mv (.t 1)⟩,
   ⟨(some 7), none, .mv (.t 0)⟩,
   ⟨(some 8), none, .lenl (.t 7)⟩,
   ⟨(some 9), none, .bin .sub (.t 6) (.t 8)⟩,
   ⟨(some 1), none, .mv (.t 9)⟩])
  (.seq (.seq (.reg [⟨(some 10), none, .mv (.t 1)⟩,
   ⟨(some 11), none, .bin .lss (.t 10) (.c (.int .i64 0))⟩])
  (.cond (.t 11)
    (.seq (.reg [⟨(some 4), none, .mv (.c (.int .i64 (-1)))⟩])
    .ret)
    .skip))
  (.seq (.seq (.reg [⟨(some 5), none, .mv (.c (.int .i64 0))⟩])
  (.blk 0 (.loop (.seq (.seq (.reg [⟨(some 12), none, .mv (.t 5)⟩,
     ⟨(some 13), none, .mv (.t 0)⟩,
     ⟨(some 14), none, .lenl (.t 13)⟩,
     ⟨(some 15), none, .bin .lss (.t 12) (.t 14)⟩])
    (.cond (.t 15)
      .skip
      (.exit 0)))
    (.seq (.blk 1 (.seq (.reg [⟨(some 18), none, .mv (.t 0)⟩,
      ⟨(some 19), none, .mv (.t 5)⟩,
      ⟨(some 20), none, .ia 4 (.t 18) (.t 19)⟩,
      ⟨(some 21), none, .ld true 4 (.t 20)⟩,
      ⟨(some 22), none, .mv (.t 1)⟩,
      ⟨(some 23), none, .cl (.c (.fn 152 [])) [(.t 21), (.t 22)]⟩,
      ⟨(some 1), none, .mv (.t 23)⟩])
     (.seq (.reg [⟨(some 24), none, .mv (.t 1)⟩,
      ⟨(some 25), none, .bin .lss (.t 24) (.c (.int .i64 0))⟩])
     (.cond (.t 25)
       (.seq (.reg [⟨(some 4), none, .mv (.c (.int .i64 (-1)))⟩])
       .ret)
       .skip))))
    (.reg [⟨(some 16), none, .mv (.t 5)⟩,
     ⟨(some 17), none, .bin .add (.t 16) (.c (.int .i64 1))⟩,
     ⟨(some 5), none, .mv (.t 17)⟩]))))))
  (.seq (.reg [⟨(some 26), none, .mv (.t 1)⟩,
   ⟨(some 4), none, .mv (.t 26)⟩])
  .ret)))))
theorem k_laws_szSegS : FnOk Tryz.prog 92 27 rc_laws_szSegS [.t 4] := ⟨Tryz.f92, _, [], Tryz.func92, rfl, rfl, by kernel_rfl, by kernel_rfl, follows⟩
theorem ok_laws_szSegS : okF Tryz.prog 92 = true := by kernel_rfl
def rc_laws_szLog : RC :=
  (.seq (.reg [⟨(some 2), none, .bx (.t 0)⟩,
   ⟨(some 4), none, .mv (.c (.int .i64 0))⟩])
  (.seq (.reg [⟨(some 5), none, .fa 0 (.t 2)⟩,
   ⟨(some 6), none, .ld true 2 (.t 5)⟩,
   ⟨(some 7), none, .mv (.t 1)⟩,
   ⟨(some 8), none, .cl (.c (.fn 91 [])) [(.t 6), (.t 7)]⟩,
   ⟨(some 1), none, .mv (.t 8)⟩])
  (.seq (.seq (.reg [⟨(some 9), none, .mv (.t 1)⟩,
   ⟨(some 10), none, .bin .lss (.t 9) (.c (.int .i64 0))⟩])
  (.cond (.t 10)
    (.seq (.reg [⟨(some 4), none, .mv (.c (.int .i64 (-1)))⟩])
    .ret)
    .skip))
  (.seq (.reg [⟨(some 11), none, .fa 3 (.t 2)⟩,
   ⟨(some 12), none, .ld false 1 (.t 11)⟩,
   ⟨(some 13), none, .mv (.t 1)⟩,
   ⟨(some 14), none, .cl (.c (.fn 92 [])) [(.t 12), (.t 13)]⟩,
   ⟨(some 1), none, .mv (.t 14)⟩])
  (.seq (.seq (.reg [⟨(some 15), none, .mv (.t 1)⟩,
   ⟨(some 16), none, .bin .lss (.t 15) (.c (.int .i64 0))⟩])
  (.cond (.t 16)
    (.seq (.reg [⟨(some 4), none, .mv (.c (.int .i64 (-1)))⟩])
    .ret)
    .skip))
  (.seq (.reg [⟨(some 17), none, .mv (.t 1)⟩,
   ⟨(some 4), none, .mv (.t 17)⟩])
  .ret))))))
theorem k_laws_szLog : FnOk Tryz.prog 47 18 rc_laws_szLog [.t 4] := ⟨Tryz.f47, _, [], Tryz.func47, rfl, rfl, by kernel_rfl, by kernel_rfl, follows⟩
theorem ok_laws_szLog : okF Tryz.prog 47 = true := by kernel_rfl
def rc_laws_szIntS : RC :=
  (.seq (.reg [⟨(some 4), none, .mv (.c (.int .i64 0))⟩])
  (.seq (.reg [⟨(some 5), none, .mv (.t 1)⟩,
   ⟨(some 6), none, .mv (.t 0)⟩,
   ⟨(some 7), none, .lenl (.t 6)⟩,
   ⟨(some 8), none, .bin .sub (.t 5) (.t 7)⟩,
   ⟨(some 1), none, .mv (.t 8)⟩])
  (.seq (.seq (.reg [⟨(some 9), none, .mv (.t 1)⟩,
   ⟨(some 10), none, .bin .lss (.t 9) (.c (.int .i64 0))⟩])
  (.cond (.t 10)
    (.seq (.reg [⟨(some 4), none, .mv (.c (.int .i64 (-1)))⟩])
    .ret)
    .skip))
  (.seq (.reg [⟨(some 11), none, .mv (.t 1)⟩,
   ⟨(some 4), none, .mv (.t 11)⟩])
  .ret))))
theorem k_laws_szIntS : FnOk Tryz.prog 48 12 rc_laws_szIntS [.t 4] := ⟨Tryz.f48, _, [], Tryz.func48, rfl, rfl, by kernel_rfl, by kernel_rfl, follows⟩
theorem ok_laws_szIntS : okF Tryz.prog 48 = true := by kernel_rfl
def rc_laws_szStore : RC :=
  (.seq (.reg [⟨(some 2), none, .bx (.t 0)⟩,
   ⟨(some 4), none, .mv (.c (.int .i64 0))⟩])
  (.seq (.reg [⟨(some 5), none, .fa 0 (.t 2)⟩,
   ⟨(some 6), none, .ld true 8 (.t 5)⟩,
   ⟨(some 7), none, .mv (.t 1)⟩,
   ⟨(some 8), none, .cl (.c (.fn 47 [])) [(.t 6), (.t 7)]⟩,
   ⟨(some 1), none, .mv (.t 8)⟩])
  (.seq (.seq (.reg [⟨(some 9), none, .mv (.t 1)⟩,
   ⟨(some 10), none, .bin .lss (.t 9) (.c (.int .i64 0))⟩])
  (.cond (.t 10)
    (.seq (.reg [⟨(some 4), none, .mv (.c (.int .i64 (-1)))⟩])
    .ret)
    .skip))
  (.seq (.reg [⟨(some 11), none, .fa 8 (.t 2)⟩,
   ⟨(some 12), none, .ld false 1 (.t 11)⟩,
   ⟨(some 13), none, .mv (.t 1)⟩,
   ⟨(some 14), none, .cl (.c (.fn 48 [])) [(.t 12), (.t 13)]⟩,
   ⟨(some 1), none, .mv (.t 14)⟩])
  (.seq (.seq (.reg [⟨(some 15), none, .mv (.t 1)⟩,
   ⟨(some 16), none, .bin .lss (.t 15) (.c (.int .i64 0))⟩])
  (.cond (.t 16)
    (.seq (.reg [⟨(some 4), none, .mv (.c (.int .i64 (-1)))⟩])
    .ret)
    .skip))
  (.seq (.reg [⟨(some 17), none, .mv (.t 1)⟩,
   ⟨(some 4), none, .mv (.t 17)⟩])
  .ret))))))
theorem k_laws_szStore : FnOk Tryz.prog 17 18 rc_laws_szStore [.t 4] := ⟨Tryz.f17, _, [], Tryz.func17, rfl, rfl, by kernel_rfl, by kernel_rfl, follows⟩
theorem ok_laws_szStore : okF Tryz.prog 17 = true := by kernel_rfl
def rc_spec_l01In : RC :=
  (.seq (.reg [⟨(some 6), none, .mv (.c (.bool false))⟩])
  (.seq (.reg [⟨(some 7), none, .mv (.t 0)⟩,
   ⟨(some 8), none, .mv (.t 1)⟩,
   ⟨(some 9), none, .bin .geq (.t 7) (.t 8)⟩,
   ⟨(some 10), none, .mv (.t 9)⟩,
   ⟨(some 11), (some (10, true)), .mv (.t 0)⟩,
   ⟨(some 12), (some (10, true)), .mv (.t 2)⟩,
   ⟨(some 13), (some (10, true)), .bin .leq (.t 11) (.t 12)⟩,
   ⟨(some 14), none, .pick (.t 10) (.t 13) (.c (.bool false))⟩,
   ⟨(some 6), none, .mv (.t 14)⟩])
  .ret))
theorem k_spec_l01In : FnOk Tryz.prog 28 15 rc_spec_l01In [.t 6] := ⟨Tryz.f28, _, [], Tryz.func28, rfl, rfl, by kernel_rfl, by kernel_rfl, follows⟩
theorem ok_spec_l01In : okF Tryz.prog 28 = true := by kernel_rfl
def rc_spec_WordOk : RC :=
  (.seq (.reg [⟨(some 2), none, .mv (.c (.bool false))⟩])
  (.seq (.seq (.reg [⟨(some 3), none, .mv (.c (.int .i64 0))⟩])
  (.blk 0 (.loop (.seq (.seq (.reg [⟨(some 4), none, .mv (.t 3)⟩,
     ⟨(some 5), none, .mv (.t 0)⟩,
     ⟨(some 6), none, .lens (.t 5)⟩,
     ⟨(some 7), none, .bin .lss (.t 4) (.t 6)⟩])
    (.cond (.t 7)
      .skip
      (.exit 0)))
    (.seq (.blk 1 (.seq (.reg [⟨(some 10), none, .mv (.t 0)⟩,
      ⟨(some 11), none, .mv (.t 3)⟩,
      ⟨(some 12), none, .idx (.t 10) (.t 11)⟩,
      ⟨(some 13), none, .bin .lss (.t 12) (.c (.int .u8 97))⟩,
      ⟨(some 14), none, .mv (.t 13)⟩,
      ⟨(some 15), (some (14, false)), .mv (.t 0)⟩,
      ⟨(some 16), (some (14, false)), .mv (.t 3)⟩,
      ⟨(some 17), (some (14, false)), .idx (.t 15) (.t 16)⟩,
      ⟨(some 18), (some (14, false)), .bin .gtr (.t 17) (.c (.int .u8 122))⟩,
      ⟨(some 19), none, .pick (.t 14) (.c (.bool true)) (.t 18)⟩])
     (.cond (.t 19)
       (.seq (.reg [⟨(some 2), none, .mv (.c (.bool false))⟩])
       .ret)
       .skip)))
    (.reg [⟨(some 8), none, .mv (.t 3)⟩,
     ⟨(some 9), none, .bin .add (.t 8) (.c (.int .i64 1))⟩,
     ⟨(some 3), none, .mv (.t 9)⟩]))))))
  (.seq (.reg [⟨(some 20), none, .mv (.t 0)⟩,
   ⟨(some 21), none, .lens (.t 20)⟩,
   ⟨(some 22), none, .cl (.c (.fn 28 [])) [(.t 21), (.c (.int .i64 1)), (.c (.int .i64 8))]⟩,
   ⟨(some 2), none, .mv (.t 22)⟩])
  .ret)))
theorem k_spec_WordOk : FnOk Tryz.prog 195 23 rc_spec_WordOk [.t 2] := ⟨Tryz.f195, _, [], Tryz.func195, rfl, rfl, by kernel_rfl, by kernel_rfl, follows⟩
theorem ok_spec_WordOk : okF Tryz.prog 195 = true := by kernel_rfl
def rc_spec_RecOk : RC :=
  (.seq (.reg [⟨(some 1), none, .bx (.t 0)⟩,
   ⟨(some 2), none, .mv (.c (.bool false))⟩])
  (.seq (.seq (.reg [⟨(some 6), none, .fa 0 (.t 1)⟩,
   ⟨(some 7), none, .ld false 1 (.t 6)⟩,
   ⟨(some 8), none, .cl (.c (.fn 28 [])) [(.t 7), (.c (.int .i64 1)), (.c (.int .i64 5))]⟩,
   ⟨(some 9), none, .un .not (.t 8)⟩,
   ⟨(some 10), none, .mv (.t 9)⟩,
   ⟨(some 11), (some (10, false)), .fa 1 (.t 1)⟩,
   ⟨(some 12), (some (10, false)), .ld false 1 (.t 11)⟩,
   ⟨(some 13), (some (10, false)), .cl (.c (.fn 28 [])) [(.t 12), (.c (.int .i64 1)), (.c (.int .i64 9999))]⟩,
   ⟨(some 14), (some (10, false)), .un .not (.t 13)⟩,
   ⟨(some 15), none, .pick (.t 10) (.c (.bool true)) (.t 14)⟩])
  (.cond (.t 15)
    (.seq (.reg [⟨(some 2), none, .mv (.c (.bool false))⟩])
    .ret)
    .skip))
  (.seq (.reg [⟨(some 16), none, .fa 0 (.t 1)⟩,
   ⟨(some 17), none, .ld false 1 (.t 16)⟩,
   ⟨(some 18), none, .bin .eql (.t 17) (.c (.int .i64 1))⟩,
   ⟨(some 3), none, .mv (.t 18)⟩])
  (.seq (.reg [⟨(some 19), none, .fa 0 (.t 1)⟩,
   ⟨(some 20), none, .ld false 1 (.t 19)⟩,
   ⟨(some 21), none, .bin .eql (.t 20) (.c (.int .i64 3))⟩,
   ⟨(some 22), none, .mv (.t 21)⟩,
   ⟨(some 23), (some (22, false)), .fa 0 (.t 1)⟩,
   ⟨(some 24), (some (22, false)), .ld false 1 (.t 23)⟩,
   ⟨(some 25), (some (22, false)), .bin .eql (.t 24) (.c (.int .i64 4))⟩,
   ⟨(some 26), none, .pick (.t 22) (.c (.bool true)) (.t 25)⟩,
   ⟨(some 27), none, .mv (.t 26)⟩,
   ⟨(some 28), (some (27, false)), .fa 0 (.t 1)⟩,
   ⟨(some 29), (some (27, false)), .ld false 1 (.t 28)⟩,
   ⟨(some 30), (some (27, false)), .bin .eql (.t 29) (.c (.int .i64 5))⟩,
   ⟨(some 31), none, .pick (.t 27) (.c (.bool true)) (.t 30)⟩,
   ⟨(some 4), none, .mv (.t 31)⟩])
  (.seq (.reg [⟨(some 32), none, .fa 0 (.t 1)⟩,
   ⟨(some 33), none, .ld false 1 (.t 32)⟩,
   ⟨(some 34), none, .bin .eql (.t 33) (.c (.int .i64 3))⟩,
   ⟨(some 35), none, .mv (.t 34)⟩,
   ⟨(some 36), (some (35, false)), .fa 0 (.t 1)⟩,
   ⟨(some 37), (some (35, false)), .ld false 1 (.t 36)⟩,
   ⟨(some 38), (some (35, false)), .bin .eql (.t 37) (.c (.int .i64 4))⟩,
   ⟨(some 39), none, .pick (.t 35) (.c (.bool true)) (.t 38)⟩,
   ⟨(some 5), none, .mv (.t 39)⟩])
  (.seq (.seq (.reg [⟨(some 40), none, .mv (.t 3)⟩,
   ⟨(some 41), none, .mv (.t 40)⟩,
   ⟨(some 42), (some (41, true)), .fa 5 (.t 1)⟩,
   ⟨(some 43), (some (41, true)), .ld false 1 (.t 42)⟩,
   ⟨(some 44), (some (41, true)), .cl (.c (.fn 195 [])) [(.t 43)]⟩,
   ⟨(some 45), (some (41, true)), .un .not (.t 44)⟩,
   ⟨(some 46), (some (41, true)), .mv (.t 45)⟩,
   ⟨(some 47), (some (46, false)), .fa 6 (.t 1)⟩,
   ⟨(some 48), (some (46, false)), .ld false 1 (.t 47)⟩,
   ⟨(some 49), (some (46, false)), .cl (.c (.fn 195 [])) [(.t 48)]⟩,
   ⟨(some 50), (some (46, false)), .un .not (.t 49)⟩,
   ⟨(some 51), (some (41, true)), .pick (.t 46) (.c (.bool true)) (.t 50)⟩,
   ⟨(some 52), (some (41, true)), .mv (.t 51)⟩,
   ⟨(some 53), (some (52, false)), .fa 3 (.t 1)⟩,
   ⟨(some 54), (some (52, false)), .ld false 1 (.t 53)⟩,
   ⟨(some 55), (some (52, false)), .cl (.c (.fn 28 [])) [(.t 54), (.c (.int .i64 1)), (.c (.int .i64 10000))]⟩,
   ⟨(some 56), (some (52, false)), .un .not (.t 55)⟩,
   ⟨(some 57), (some (41, true)), .pick (.t 52) (.c (.bool true)) (.t 56)⟩,
   ⟨(some 58), none, .pick (.t 41) (.t 57) (.c (.bool false))⟩,
   ⟨(some 59), none, .mv (.t 58)⟩,
   ⟨(some 60), (some (59, false)), .mv (.t 3)⟩,
   ⟨(some 61), (some (59, false)), .un .not (.t 60)⟩,
   ⟨(some 62), (some (59, false)), .mv (.t 61)⟩,
   ⟨(some 63), (some (62, true)), .fa 5 (.t 1)⟩,
   ⟨(some 64), (some (62, true)), .ld false 1 (.t 63)⟩,
   ⟨(some 65), (some (62, true)), .bin .neq (.t 64) (.c (.str []))⟩,
   ⟨(some 66), (some (62, true)), .mv (.t 65)⟩,
   ⟨(some 67), (some (66, false)), .fa 6 (.t 1)⟩,
   ⟨(some 68), (some (66, false)), .ld false 1 (.t 67)⟩,
   ⟨(some 69), (some (66, false)), .bin .neq (.t 68) (.c (.str []))⟩,
   ⟨(some 70), (some (62, true)), .pick (.t 66) (.c (.bool true)) (.t 69)⟩,
   ⟨(some 71), (some (62, true)), .mv (.t 70)⟩,
   ⟨(some 72), (some (71, false)), .fa 3 (.t 1)⟩,
   ⟨(some 73), (some (71, false)), .ld false 1 (.t 72)⟩,
   ⟨(some 74), (some (71, false)), .bin .neq (.t 73) (.c (.int .i64 0))⟩,
   ⟨(some 75), (some (62, true)), .pick (.t 71) (.c (.bool true)) (.t 74)⟩,
   ⟨(some 76), (some (59, false)), .pick (.t 62) (.t 75) (.c (.bool false))⟩,
   ⟨(some 77), none, .pick (.t 59) (.c (.bool true)) (.t 76)⟩])
  (.cond (.t 77)
    (.seq (.reg [⟨(some 2), none, .mv (.c (.bool false))⟩])
    .ret)
    .skip))
  (.seq (.seq (.reg [⟨(some 78), none, .mv (.t 4)⟩,
   ⟨(some 79), none, .mv (.t 78)⟩,
   ⟨(some 80), (some (79, true)), .fa 2 (.t 1)⟩,
   ⟨(some 81), (some (79, true)), .ld false 1 (.t 80)⟩,
   ⟨(some 82), (some (79, true)), .cl (.c (.fn 28 [])) [(.t 81), (.c (.int .i64 1)), (.c (.int .i64 9999))]⟩,
   ⟨(some 83), (some (79, true)), .un .not (.t 82)⟩,
   ⟨(some 84), none, .pick (.t 79) (.t 83) (.c (.bool false))⟩,
   ⟨(some 85), none, .mv (.t 84)⟩,
   ⟨(some 86), (some (85, false)), .mv (.t 4)⟩,
   ⟨(some 87), (some (85, false)), .un .not (.t 86)⟩,
   ⟨(some 88), (some (85, false)), .mv (.t 87)⟩,
   ⟨(some 89), (some (88, true)), .fa 2 (.t 1)⟩,
   ⟨(some 90), (some (88, true)), .ld false 1 (.t 89)⟩,
   ⟨(some 91), (some (88, true)), .bin .neq (.t 90) (.c (.int .i64 0))⟩,
   ⟨(some 92), (some (85, false)), .pick (.t 88) (.t 91) (.c (.bool false))⟩,
   ⟨(some 93), none, .pick (.t 85) (.c (.bool true)) (.t 92)⟩])
  (.cond (.t 93)
    (.seq (.reg [⟨(some 2), none, .mv (.c (.bool false))⟩])
    .ret)
    .skip))
  (.seq (.seq (.reg [⟨(some 94), none, .mv (.t 5)⟩,
   ⟨(some 95), none, .mv (.t 94)⟩,
   ⟨(some 96), (some (95, true)), .fa 4 (.t 1)⟩,
   ⟨(some 97), (some (95, true)), .ld false 1 (.t 96)⟩,
   ⟨(some 98), (some (95, true)), .cl (.c (.fn 28 [])) [(.t 97), (.c (.int .i64 0)), (.c (.int .i64 7))]⟩,
   ⟨(some 99), (some (95, true)), .un .not (.t 98)⟩,
   ⟨(some 100), none, .pick (.t 95) (.t 99) (.c (.bool false))⟩,
   ⟨(some 101), none, .mv (.t 100)⟩,
   ⟨(some 102), (some (101, false)), .mv (.t 5)⟩,
   ⟨(some 103), (some (101, false)), .un .not (.t 102)⟩,
   ⟨(some 104), (some (101, false)), .mv (.t 103)⟩,
   ⟨(some 105), (some (104, true)), .fa 4 (.t 1)⟩,
   ⟨(some 106), (some (104, true)), .ld false 1 (.t 105)⟩,
   ⟨(some 107), (some (104, true)), .bin .neq (.t 106) (.c (.int .i64 0))⟩,
   ⟨(some 108), (some (101, false)), .pick (.t 104) (.t 107) (.c (.bool false))⟩,
   ⟨(some 109), none, .pick (.t 101) (.c (.bool true)) (.t 108)⟩])
  (.cond (.t 109)
    (.seq (.reg [⟨(some 2), none, .mv (.c (.bool false))⟩])
    .ret)
    .skip))
  (.seq (.seq (.reg [⟨(some 110), none, .fa 0 (.t 1)⟩,
   ⟨(some 111), none, .ld false 1 (.t 110)⟩,
   ⟨(some 112), none, .bin .eql (.t 111) (.c (.int .i64 3))⟩])
  (.cond (.t 112)
    (.seq (.reg [⟨(some 113), none, .fa 7 (.t 1)⟩,
     ⟨(some 114), none, .ld false 1 (.t 113)⟩,
     ⟨(some 115), none, .lens (.t 114)⟩,
     ⟨(some 116), none, .bin .leq (.t 115) (.c (.int .i64 100))⟩,
     ⟨(some 2), none, .mv (.t 116)⟩])
    .ret)
    .skip))
  (.seq (.reg [⟨(some 117), none, .fa 7 (.t 1)⟩,
   ⟨(some 118), none, .ld false 1 (.t 117)⟩,
   ⟨(some 119), none, .bin .eql (.t 118) (.c (.str []))⟩,
   ⟨(some 2), none, .mv (.t 119)⟩])
  .ret))))))))))
theorem k_spec_RecOk : FnOk Tryz.prog 153 120 rc_spec_RecOk [.t 2] := ⟨Tryz.f153, _, [], Tryz.func153, rfl, rfl, by kernel_rfl, by kernel_rfl, follows⟩
theorem ok_spec_RecOk : okF Tryz.prog 153 = true := by kernel_rfl
def rc_spec_ItemsOk : RC :=
  (.seq (.reg [⟨(some 2), none, .mv (.c (.bool false))⟩])
  (.seq (.seq (.reg [⟨(some 3), none, .mv (.c (.int .i64 0))⟩])
  (.blk 0 (.loop (.seq (.seq (.reg [⟨(some 5), none, .mv (.t 3)⟩,
     ⟨(some 6), none, .mv (.t 0)⟩,
     ⟨(some 7), none, .lenl (.t 6)⟩,
     ⟨(some 8), none, .bin .lss (.t 5) (.t 7)⟩])
    (.cond (.t 8)
      .skip
      (.exit 0)))
    (.seq (.blk 1 (.seq (.seq (.reg [⟨(some 11), none, .mv (.t 0)⟩,
      ⟨(some 12), none, .mv (.t 3)⟩,
      ⟨(some 13), none, .ia 9 (.t 11) (.t 12)⟩,
      ⟨(some 14), none, .fa 0 (.t 13)⟩,
      ⟨(some 15), none, .ld false 1 (.t 14)⟩,
      ⟨(some 16), none, .cl (.c (.fn 28 [])) [(.t 15), (.c (.int .i64 1)), (.c (.int .i64 1000000000))]⟩,
      ⟨(some 17), none, .un .not (.t 16)⟩,
      ⟨(some 18), none, .mv (.t 17)⟩,
      ⟨(some 19), (some (18, false)), .mv (.t 0)⟩,
      ⟨(some 20), (some (18, false)), .mv (.t 3)⟩,
      ⟨(some 21), (some (18, false)), .ia 9 (.t 19) (.t 20)⟩,
      ⟨(some 22), (some (18, false)), .fa 1 (.t 21)⟩,
      ⟨(some 23), (some (18, false)), .ld true 8 (.t 22)⟩,
      ⟨(some 24), (some (18, false)), .cl (.c (.fn 153 [])) [(.t 23)]⟩,
      ⟨(some 25), (some (18, false)), .un .not (.t 24)⟩,
      ⟨(some 26), none, .pick (.t 18) (.c (.bool true)) (.t 25)⟩])
     (.cond (.t 26)
       (.seq (.reg [⟨(some 2), none, .mv (.c (.bool false))⟩])
       .ret)
       .skip))
     (.seq (.reg [⟨(some 4), none, .mv (.c (.int .i64 0))⟩])
     (.blk 2 (.loop (.seq (.seq (.reg [⟨(some 27), none, .mv (.t 4)⟩,
        ⟨(some 28), none, .mv (.t 3)⟩,
        ⟨(some 29), none, .bin .lss (.t 27) (.t 28)⟩])
       (.cond (.t 29)
         .skip
         (.exit 2)))
       (.seq (.blk 3 (.seq (.drw [⟨(some 32), none, .mv (.t 0)⟩,
         ⟨(some 33), none, .mv (.t 4)⟩,
         ⟨(some 34), none, .ia 9 (.t 32) (.t 33)⟩,
         ⟨(some 35), none, .fa 0 (.t 34)⟩,
         ⟨(some 36), none, .ld false 1 (.t 35)⟩,
         ⟨(some 37), none, .mv (.t 0)⟩,
         ⟨(some 38), none, .mv (.t 3)⟩,
         ⟨(some 39), none, .ia 9 (.t 37) (.t 38)⟩,
         ⟨(some 40), none, .fa 0 (.t 39)⟩,
         ⟨(some 41), none, .ld false 1 (.t 40)⟩,
         ⟨(some 42), none, .bin .eql (.t 36) (.t 41)⟩,
         ⟨(some 43), none, .mv (.t 42)⟩,
         ⟨(some 44), (some (43, true)), .mv (.t 0)⟩,
         ⟨(some 45), (some (43, true)), .mv (.t 4)⟩,
         ⟨(some 46), (some (43, true)), .ia 9 (.t 44) (.t 45)⟩,
         ⟨(some 47), (some (43, true)), .ld true 9 (.t 46)⟩,
         ⟨(some 48), (some (43, true)), .mv (.t 0)⟩,
         ⟨(some 49), (some (43, true)), .mv (.t 3)⟩,
         ⟨(some 50), (some (43, true)), .ia 9 (.t 48) (.t 49)⟩,
         ⟨(some 51), (some (43, true)), .ld true 9 (.t 50)⟩,
         ⟨(some 52), (some (43, true)), .equ true [(0, 1), (1, 1), (2, 1), (3, 1), (4, 1), (5, 1), (6, 2), (7, 2), (8, 2)] (.t 47) (.t 51)⟩,
         ⟨(some 53), none, .pick (.t 43) (.t 52) (.c (.bool false))⟩] [.val [], .val [], .val [], .val [], .val [], .val [], .val [], .val [], .val [], .val [], .val [], .val [], .val [], .val [], .val [], .val [], .val [], .val [], .val [], .val [], .val [], .val []])
        (.cond (.t 53)
          (.seq (.reg [⟨(some 2), none, .mv (.c (.bool false))⟩])
          .ret)
          .skip)))
       (.reg [⟨(some 30), none, .mv (.t 4)⟩,
        ⟨(some 31), none, .bin .add (.t 30) (.c (.int .i64 1))⟩,
        ⟨(some 4), none, .mv (.t 31)⟩]))))))))
    (.reg [⟨(some 9), none, .mv (.t 3)⟩,
     ⟨(some 10), none, .bin .add (.t 9) (.c (.int .i64 1))⟩,
     ⟨(some 3), none, .mv (.t 10)⟩]))))))
  (.seq (.reg [⟨(some 54), none, .mv (.t 0)⟩,
   ⟨(some 55), none, .lenl (.t 54)⟩,
   ⟨(some 56), none, .bin .leq (.t 55) (.c (.int .i64 200))⟩,
   ⟨(some 2), none, .mv (.t 56)⟩])
  .ret)))
theorem k_spec_ItemsOk : FnOk Tryz.prog 93 57 rc_spec_ItemsOk [.t 2] := ⟨Tryz.f93, _, [], Tryz.func93, rfl, rfl, by kernel_rfl, by kernel_rfl, follows⟩
theorem ok_spec_ItemsOk : okF Tryz.prog 93 = true := by kernel_rfl
def rc_spec_l07Best : RC :=
  (.seq (.reg [⟨(some 8), none, .al [.int .i64 0, .int .i64 0, .int .i64 0, .int .i64 0, .int .i64 0, .int .i64 0, .str [], .str [], .str []]⟩,
   ⟨(some 9), none, .mv (.c (.bool false))⟩])
  (.seq (.reg [⟨(some 14), none, .bld [.int .i64 0, .int .i64 0, .int .i64 0, .int .i64 0, .int .i64 0, .int .i64 0, .str [], .str [], .str []] [(0, 1), (1, 8)] []⟩,
   ⟨(some 10), none, .al [.int .i64 0, .int .i64 0, .int .i64 0, .int .i64 0, .int .i64 0, .int .i64 0, .str [], .str [], .str []]⟩,
   ⟨none, none, .st 9 (.t 10) (.t 14)⟩])
  (.seq (.reg [⟨(some 11), none, .mv (.c (.bool false))⟩])
  (.seq (.seq (.reg [⟨(some 12), none, .mv (.c (.int .i64 0))⟩])
  (.blk 0 (.loop (.seq (.seq (.reg [⟨(some 15), none, .mv (.t 12)⟩,
     ⟨(some 16), none, .mv (.t 0)⟩,
     ⟨(some 17), none, .lenl (.t 16)⟩,
     ⟨(some 18), none, .bin .lss (.t 15) (.t 17)⟩])
    (.cond (.t 18)
      .skip
      (.exit 0)))
    (.seq (.blk 1 (.seq (.reg [⟨(some 21), none, .mv (.t 0)⟩,
      ⟨(some 22), none, .mv (.t 12)⟩,
      ⟨(some 23), none, .ia 9 (.t 21) (.t 22)⟩,
      ⟨(some 24), none, .ld true 9 (.t 23)⟩,
      ⟨(some 13), none, .al [.int .i64 0, .int .i64 0, .int .i64 0, .int .i64 0, .int .i64 0, .int .i64 0, .str [], .str [], .str []]⟩,
      ⟨none, none, .st 9 (.t 13) (.t 24)⟩])
     (.seq (.reg [⟨(some 25), none, .fa 1 (.t 13)⟩,
      ⟨(some 26), none, .fa 0 (.t 25)⟩,
      ⟨(some 27), none, .ld false 1 (.t 26)⟩,
      ⟨(some 28), none, .mv (.t 1)⟩,
      ⟨(some 29), none, .bin .eql (.t 27) (.t 28)⟩,
      ⟨(some 30), none, .mv (.t 29)⟩,
      ⟨(some 31), (some (30, true)), .fa 1 (.t 13)⟩,
      ⟨(some 32), (some (30, true)), .fa 1 (.t 31)⟩,
      ⟨(some 33), (some (30, true)), .ld false 1 (.t 32)⟩,
      ⟨(some 34), (some (30, true)), .mv (.t 2)⟩,
      ⟨(some 35), (some (30, true)), .bin .eql (.t 33) (.t 34)⟩,
      ⟨(some 36), none, .pick (.t 30) (.t 35) (.c (.bool false))⟩,
      ⟨(some 37), none, .mv (.t 36)⟩,
      ⟨(some 38), (some (37, true)), .fa 1 (.t 13)⟩,
      ⟨(some 39), (some (37, true)), .fa 2 (.t 38)⟩,
      ⟨(some 40), (some (37, true)), .ld false 1 (.t 39)⟩,
      ⟨(some 41), (some (37, true)), .mv (.t 3)⟩,
      ⟨(some 42), (some (37, true)), .bin .eql (.t 40) (.t 41)⟩,
      ⟨(some 43), none, .pick (.t 37) (.t 42) (.c (.bool false))⟩,
      ⟨(some 44), none, .mv (.t 43)⟩,
      ⟨(some 45), (some (44, true)), .mv (.t 11)⟩,
      ⟨(some 46), (some (44, true)), .un .not (.t 45)⟩,
      ⟨(some 47), (some (44, true)), .mv (.t 46)⟩,
      ⟨(some 48), (some (47, false)), .fa 0 (.t 13)⟩,
      ⟨(some 49), (some (47, false)), .ld false 1 (.t 48)⟩,
      ⟨(some 50), (some (47, false)), .fa 0 (.t 10)⟩,
      ⟨(some 51), (some (47, false)), .ld false 1 (.t 50)⟩,
      ⟨(some 52), (some (47, false)), .bin .gtr (.t 49) (.t 51)⟩,
      ⟨(some 53), (some (44, true)), .pick (.t 47) (.c (.bool true)) (.t 52)⟩,
      ⟨(some 54), none, .pick (.t 44) (.t 53) (.c (.bool false))⟩])
     (.cond (.t 54)
       (.seq (.reg [⟨(some 55), none, .ld true 9 (.t 13)⟩,
        ⟨none, none, .st 9 (.t 10) (.t 55)⟩])
       (.reg [⟨(some 11), none, .mv (.c (.bool true))⟩]))
       .skip))))
    (.reg [⟨(some 19), none, .mv (.t 12)⟩,
     ⟨(some 20), none, .bin .add (.t 19) (.c (.int .i64 1))⟩,
     ⟨(some 12), none, .mv (.t 20)⟩]))))))
  (.seq (.reg [⟨(some 56), none, .ld true 9 (.t 10)⟩,
   ⟨(some 57), none, .mv (.t 11)⟩,
   ⟨none, none, .st 9 (.t 8) (.t 56)⟩,
   ⟨(some 9), none, .mv (.t 57)⟩])
  .ret)))))
theorem k_spec_l07Best : FnOk Tryz.prog 94 58 rc_spec_l07Best [.cell 8 true 9, .t 9] := ⟨Tryz.f94, _, [], Tryz.func94, rfl, rfl, by kernel_rfl, by kernel_rfl, follows⟩
theorem ok_spec_l07Best : okF Tryz.prog 94 = true := by kernel_rfl
def rc_spec_l07Sorted : RC :=
  (.seq (.reg [⟨(some 4), none, .mv (.c (.nils))⟩])
  (.seq (.reg [⟨(some 8), none, .mv (.c (.nils))⟩,
   ⟨(some 5), none, .mv (.t 8)⟩])
  (.seq (.seq (.reg [⟨(some 6), none, .mv (.c (.int .i64 0))⟩])
  (.blk 0 (.loop (.seq (.seq (.reg [⟨(some 9), none, .mv (.t 6)⟩,
     ⟨(some 10), none, .mv (.t 0)⟩,
     ⟨(some 11), none, .lenl (.t 10)⟩,
     ⟨(some 12), none, .bin .lss (.t 9) (.t 11)⟩])
    (.cond (.t 12)
      .skip
      (.exit 0)))
    (.seq (.blk 1 (.seq (.reg [⟨(some 15), none, .mv (.t 0)⟩,
      ⟨(some 16), none, .mv (.t 6)⟩,
      ⟨(some 17), none, .ia 1 (.t 15) (.t 16)⟩,
      ⟨(some 18), none, .ld false 1 (.t 17)⟩,
      ⟨(some 19), none, .mv (.t 1)⟩,
      ⟨(some 20), none, .bin .lss (.t 18) (.t 19)⟩])
     (.cond (.t 20)
       (.reg [⟨(some 21), none, .mv (.t 5)⟩,
        ⟨(some 22), none, .mv (.t 0)⟩,
        ⟨(some 23), none, .mv (.t 6)⟩,
        ⟨(some 24), none, .ia 1 (.t 22) (.t 23)⟩,
        ⟨(some 25), none, .ld false 1 (.t 24)⟩,
        ⟨(some 26), none, .bs 1 [.int .i64 0] 1 [(0, (.t 25))]⟩,
        ⟨(some 27), none, .app 1 8 (.t 21) (.t 26)⟩,
        ⟨(some 5), none, .mv (.t 27)⟩])
       .skip)))
    (.reg [⟨(some 13), none, .mv (.t 6)⟩,
     ⟨(some 14), none, .bin .add (.t 13) (.c (.int .i64 1))⟩,
     ⟨(some 6), none, .mv (.t 14)⟩]))))))
  (.seq (.reg [⟨(some 28), none, .mv (.t 5)⟩,
   ⟨(some 29), none, .mv (.t 1)⟩,
   ⟨(some 30), none, .bs 1 [.int .i64 0] 1 [(0, (.t 29))]⟩,
   ⟨(some 31), none, .app 1 8 (.t 28) (.t 30)⟩,
   ⟨(some 5), none, .mv (.t 31)⟩])
  (.seq (.seq (.reg [⟨(some 7), none, .mv (.c (.int .i64 0))⟩])
  (.blk 2 (.loop (.seq (.seq (.reg [⟨(some 32), none, .mv (.t 7)⟩,
     ⟨(some 33), none, .mv (.t 0)⟩,
     ⟨(some 34), none, .lenl (.t 33)⟩,
     ⟨(some 35), none, .bin .lss (.t 32) (.t 34)⟩])
    (.cond (.t 35)
      .skip
      (.exit 2)))
    (.seq (.blk 3 (.seq (.reg [⟨(some 38), none, .mv (.t 0)⟩,
      ⟨(some 39), none, .mv (.t 7)⟩,
      ⟨(some 40), none, .ia 1 (.t 38) (.t 39)⟩,
      ⟨(some 41), none, .ld false 1 (.t 40)⟩,
      ⟨(some 42), none, .mv (.t 1)⟩,
      ⟨(some 43), none, .bin .gtr (.t 41) (.t 42)⟩])
     (.cond (.t 43)
       (.reg [⟨(some 44), none, .mv (.t 5)⟩,
        ⟨(some 45), none, .mv (.t 0)⟩,
        ⟨(some 46), none, .mv (.t 7)⟩,
        ⟨(some 47), none, .ia 1 (.t 45) (.t 46)⟩,
        ⟨(some 48), none, .ld false 1 (.t 47)⟩,
        ⟨(some 49), none, .bs 1 [.int .i64 0] 1 [(0, (.t 48))]⟩,
        ⟨(some 50), none, .app 1 8 (.t 44) (.t 49)⟩,
        ⟨(some 5), none, .mv (.t 50)⟩])
       .skip)))
    (.reg [⟨(some 36), none, .mv (.t 7)⟩,
     ⟨(some 37), none, .bin .add (.t 36) (.c (.int .i64 1))⟩,
     ⟨(some 7), none, .mv (.t 37)⟩]))))))
  (.seq (.reg [⟨(some 51), none, .mv (.t 5)⟩,
   ⟨(some 4), none, .mv (.t 51)⟩])
  .ret))))))
theorem k_spec_l07Sorted : FnOk Tryz.prog 95 52 rc_spec_l07Sorted [.t 4] := ⟨Tryz.f95, _, [], Tryz.func95, rfl, rfl, by kernel_rfl, by kernel_rfl, follows⟩
theorem ok_spec_l07Sorted : okF Tryz.prog 95 = true := by kernel_rfl
def rc_spec_l07Tell : RC :=
  (.seq (.reg [⟨(some 4), none, .al [.int .i64 0, .int .i64 0, .int .i64 0, .int .i64 0, .int .i64 0, .int .i64 0, .str [], .str [], .str []]⟩])
  (.seq (.reg [⟨(some 8), none, .bld [.int .i64 0, .int .i64 0, .int .i64 0, .int .i64 0, .int .i64 0, .int .i64 0, .str [], .str [], .str []] [(0, 1), (1, 8)] []⟩,
   ⟨(some 5), none, .al [.int .i64 0, .int .i64 0, .int .i64 0, .int .i64 0, .int .i64 0, .int .i64 0, .str [], .str [], .str []]⟩,
   ⟨none, none, .st 9 (.t 5) (.t 8)⟩])
  (.seq (.seq (.reg [⟨(some 6), none, .mv (.c (.int .i64 0))⟩])
  (.blk 0 (.loop (.seq (.seq (.reg [⟨(some 9), none, .mv (.t 6)⟩,
     ⟨(some 10), none, .mv (.t 0)⟩,
     ⟨(some 11), none, .lenl (.t 10)⟩,
     ⟨(some 12), none, .bin .lss (.t 9) (.t 11)⟩])
    (.cond (.t 12)
      .skip
      (.exit 0)))
    (.seq (.blk 1 (.seq (.reg [⟨(some 15), none, .mv (.t 0)⟩,
      ⟨(some 16), none, .mv (.t 6)⟩,
      ⟨(some 17), none, .ia 9 (.t 15) (.t 16)⟩,
      ⟨(some 18), none, .ld true 9 (.t 17)⟩,
      ⟨(some 7), none, .al [.int .i64 0, .int .i64 0, .int .i64 0, .int .i64 0, .int .i64 0, .int .i64 0, .str [], .str [], .str []]⟩,
      ⟨none, none, .st 9 (.t 7) (.t 18)⟩])
     (.seq (.seq (.reg [⟨(some 19), none, .fa 1 (.t 7)⟩,
      ⟨(some 20), none, .fa 0 (.t 19)⟩,
      ⟨(some 21), none, .ld false 1 (.t 20)⟩,
      ⟨(some 22), none, .bin .neq (.t 21) (.c (.int .i64 1))⟩,
      ⟨(some 23), none, .mv (.t 22)⟩,
      ⟨(some 24), (some (23, false)), .fa 1 (.t 7)⟩,
      ⟨(some 25), (some (23, false)), .fa 1 (.t 24)⟩,
      ⟨(some 26), (some (23, false)), .ld false 1 (.t 25)⟩,
      ⟨(some 27), (some (23, false)), .mv (.t 1)⟩,
      ⟨(some 28), (some (23, false)), .bin .neq (.t 26) (.t 27)⟩,
      ⟨(some 29), none, .pick (.t 23) (.c (.bool true)) (.t 28)⟩])
     (.cond (.t 29)
       (.exit 1)
       .skip))
     (.seq (.reg [⟨(some 30), none, .fa 0 (.t 5)⟩,
      ⟨(some 31), none, .ld false 1 (.t 30)⟩,
      ⟨(some 32), none, .bin .eql (.t 31) (.c (.int .i64 0))⟩,
      ⟨(some 33), none, .mv (.t 32)⟩,
      ⟨(some 34), (some (33, false)), .fa 1 (.t 7)⟩,
      ⟨(some 35), (some (33, false)), .fa 3 (.t 34)⟩,
      ⟨(some 36), (some (33, false)), .ld false 1 (.t 35)⟩,
      ⟨(some 37), (some (33, false)), .fa 1 (.t 5)⟩,
      ⟨(some 38), (some (33, false)), .fa 3 (.t 37)⟩,
      ⟨(some 39), (some (33, false)), .ld false 1 (.t 38)⟩,
      ⟨(some 40), (some (33, false)), .bin .gtr (.t 36) (.t 39)⟩,
      ⟨(some 41), none, .pick (.t 33) (.c (.bool true)) (.t 40)⟩,
      ⟨(some 42), none, .mv (.t 41)⟩,
      ⟨(some 43), (some (42, false)), .fa 1 (.t 7)⟩,
      ⟨(some 44), (some (42, false)), .fa 3 (.t 43)⟩,
      ⟨(some 45), (some (42, false)), .ld false 1 (.t 44)⟩,
      ⟨(some 46), (some (42, false)), .fa 1 (.t 5)⟩,
      ⟨(some 47), (some (42, false)), .fa 3 (.t 46)⟩,
      ⟨(some 48), (some (42, false)), .ld false 1 (.t 47)⟩,
      ⟨(some 49), (some (42, false)), .bin .eql (.t 45) (.t 48)⟩,
      ⟨(some 50), (some (42, false)), .mv (.t 49)⟩,
      ⟨(some 51), (some (50, true)), .fa 0 (.t 7)⟩,
      ⟨(some 52), (some (50, true)), .ld false 1 (.t 51)⟩,
      ⟨(some 53), (some (50, true)), .fa 0 (.t 5)⟩,
      ⟨(some 54), (some (50, true)), .ld false 1 (.t 53)⟩,
      ⟨(some 55), (some (50, true)), .bin .gtr (.t 52) (.t 54)⟩,
      ⟨(some 56), (some (42, false)), .pick (.t 50) (.t 55) (.c (.bool false))⟩,
      ⟨(some 57), none, .pick (.t 42) (.c (.bool true)) (.t 56)⟩])
     (.cond (.t 57)
       (.reg [⟨(some 58), none, .ld true 9 (.t 7)⟩,
        ⟨none, none, .st 9 (.t 5) (.t 58)⟩])
       .skip)))))
    (.reg [⟨(some 13), none, .mv (.t 6)⟩,
     ⟨(some 14), none, .bin .add (.t 13) (.c (.int .i64 1))⟩,
     ⟨(some 6), none, .mv (.t 14)⟩]))))))
  (.seq (.reg [⟨(some 59), none, .ld true 9 (.t 5)⟩,
   ⟨none, none, .st 9 (.t 4) (.t 59)⟩])
  .ret))))
theorem k_spec_l07Tell : FnOk Tryz.prog 96 60 rc_spec_l07Tell [.cell 4 true 9] := ⟨Tryz.f96, _, [], Tryz.func96, rfl, rfl, by kernel_rfl, by kernel_rfl, follows⟩
theorem ok_spec_l07Tell : okF Tryz.prog 96 = true := by kernel_rfl
def rc_spec_l07Next : RC :=
  (.seq (.reg [⟨(some 4), none, .mv (.c (.int .i64 0))⟩])
  (.seq (.reg [⟨(some 5), none, .mv (.c (.int .i64 1))⟩])
  (.seq (.seq (.reg [⟨(some 6), none, .mv (.c (.int .i64 0))⟩])
  (.blk 0 (.loop (.seq (.seq (.reg [⟨(some 9), none, .mv (.t 6)⟩,
     ⟨(some 10), none, .mv (.t 0)⟩,
     ⟨(some 11), none, .lenl (.t 10)⟩,
     ⟨(some 12), none, .bin .lss (.t 9) (.t 11)⟩])
    (.cond (.t 12)
      .skip
      (.exit 0)))
    (.seq (.blk 1 (.seq (.reg [⟨(some 15), none, .mv (.t 0)⟩,
      ⟨(some 16), none, .mv (.t 6)⟩,
      ⟨(some 17), none, .ia 9 (.t 15) (.t 16)⟩,
      ⟨(some 18), none, .fa 1 (.t 17)⟩,
      ⟨(some 19), none, .ld true 8 (.t 18)⟩,
      ⟨(some 7), none, .al [.int .i64 0, .int .i64 0, .int .i64 0, .int .i64 0, .int .i64 0, .str [], .str [], .str []]⟩,
      ⟨none, none, .st 8 (.t 7) (.t 19)⟩])
     (.seq (.seq (.reg [⟨(some 20), none, .fa 1 (.t 7)⟩,
      ⟨(some 21), none, .ld false 1 (.t 20)⟩,
      ⟨(some 22), none, .mv (.t 1)⟩,
      ⟨(some 23), none, .bin .neq (.t 21) (.t 22)⟩])
     (.cond (.t 23)
       (.exit 1)
       .skip))
     (.seq (.reg [⟨(some 8), none, .mv (.c (.int .i64 0))⟩])
     (.seq (.seq (.reg [⟨(some 24), none, .fa 0 (.t 7)⟩,
      ⟨(some 25), none, .ld false 1 (.t 24)⟩])
     (.blk 2 (.seq (.reg [⟨(some 27), none, .bin .eql (.t 25) (.c (.int .i64 1))⟩,
       ⟨(some 26), none, .mv (.t 27)⟩])
      (.cond (.t 26)
        (.reg [⟨(some 28), none, .fa 3 (.t 7)⟩,
         ⟨(some 29), none, .ld false 1 (.t 28)⟩,
         ⟨(some 8), none, .mv (.t 29)⟩])
        (.seq (.seq (.reg [⟨(some 31), none, .bin .eql (.t 25) (.c (.int .i64 3))⟩,
         ⟨(some 30), none, .mv (.t 31)⟩])
        (.cond (.t 30)
          .skip
          (.reg [⟨(some 32), none, .bin .eql (.t 25) (.c (.int .i64 5))⟩,
           ⟨(some 30), none, .mv (.t 32)⟩])))
        (.cond (.t 30)
          (.reg [⟨(some 33), none, .fa 2 (.t 7)⟩,
           ⟨(some 34), none, .ld false 1 (.t 33)⟩,
           ⟨(some 35), none, .bin .add (.t 34) (.c (.int .i64 1))⟩,
           ⟨(some 8), none, .mv (.t 35)⟩])
          .skip))))))
     (.seq (.reg [⟨(some 36), none, .mv (.t 8)⟩,
      ⟨(some 37), none, .mv (.t 5)⟩,
      ⟨(some 38), none, .bin .gtr (.t 36) (.t 37)⟩])
     (.cond (.t 38)
       (.reg [⟨(some 39), none, .mv (.t 8)⟩,
        ⟨(some 5), none, .mv (.t 39)⟩])
       .skip)))))))
    (.reg [⟨(some 13), none, .mv (.t 6)⟩,
     ⟨(some 14), none, .bin .add (.t 13) (.c (.int .i64 1))⟩,
     ⟨(some 6), none, .mv (.t 14)⟩]))))))
  (.seq (.reg [⟨(some 40), none, .mv (.t 5)⟩,
   ⟨(some 4), none, .mv (.t 40)⟩])
  .ret))))
theorem k_spec_l07Next : FnOk Tryz.prog 97 41 rc_spec_l07Next [.t 4] := ⟨Tryz.f97, _, [], Tryz.func97, rfl, rfl, by kernel_rfl, by kernel_rfl, follows⟩
theorem ok_spec_l07Next : okF Tryz.prog 97 = true := by kernel_rfl
def rc_spec_l07Mails : RC :=
  (.seq (.reg [⟨(some 4), none, .mv (.c (.nils))⟩])
  (.seq (.reg [⟨(some 17), none, .mv (.c (.nils))⟩,
   ⟨(some 5), none, .mv (.t 17)⟩])
  (.seq (.seq (.reg [⟨(some 6), none, .mv (.c (.int .i64 0))⟩])
  (.blk 0 (.loop (.seq (.seq (.reg [⟨(some 18), none, .mv (.t 6)⟩,
     ⟨(some 19), none, .mv (.t 0)⟩,
     ⟨(some 20), none, .lenl (.t 19)⟩,
     ⟨(some 21), none, .bin .lss (.t 18) (.t 20)⟩])
    (.cond (.t 21)
      .skip
      (.exit 0)))
    (.seq (.blk 1 (.seq (.reg [⟨(some 24), none, .mv (.t 0)⟩,
      ⟨(some 25), none, .mv (.t 6)⟩,
      ⟨(some 26), none, .ia 9 (.t 24) (.t 25)⟩,
      ⟨(some 27), none, .fa 1 (.t 26)⟩,
      ⟨(some 28), none, .ld true 8 (.t 27)⟩,
      ⟨(some 7), none, .al [.int .i64 0, .int .i64 0, .int .i64 0, .int .i64 0, .int .i64 0, .str [], .str [], .str []]⟩,
      ⟨none, none, .st 8 (.t 7) (.t 28)⟩])
     (.seq (.reg [⟨(some 30), none, .mv (.t 0)⟩,
      ⟨(some 31), none, .mv (.t 1)⟩,
      ⟨(some 32), none, .fa 2 (.t 7)⟩,
      ⟨(some 33), none, .ld false 1 (.t 32)⟩,
      ⟨(some 34), none, .cl (.c (.fn 94 [])) [(.t 30), (.c (.int .i64 5)), (.t 31), (.t 33)]⟩,
      ⟨(some 29), none, .mv (.t 34)⟩,
      ⟨(some 35), none, .ext (.t 29) 0⟩,
      ⟨(some 36), none, .ext (.t 29) 1⟩,
      ⟨(some 8), none, .al [.int .i64 0, .int .i64 0, .int .i64 0, .int .i64 0, .int .i64 0, .int .i64 0, .str [], .str [], .str []]⟩,
      ⟨none, none, .st 9 (.t 8) (.t 35)⟩,
      ⟨(some 9), none, .mv (.t 36)⟩])
     (.seq (.reg [⟨(some 37), none, .fa 0 (.t 7)⟩,
      ⟨(some 38), none, .ld false 1 (.t 37)⟩,
      ⟨(some 39), none, .bin .eql (.t 38) (.c (.int .i64 3))⟩,
      ⟨(some 40), none, .mv (.t 39)⟩,
      ⟨(some 41), (some (40, true)), .fa 1 (.t 7)⟩,
      ⟨(some 42), (some (40, true)), .ld false 1 (.t 41)⟩,
      ⟨(some 43), (some (40, true)), .mv (.t 1)⟩,
      ⟨(some 44), (some (40, true)), .bin .eql (.t 42) (.t 43)⟩,
      ⟨(some 45), none, .pick (.t 40) (.t 44) (.c (.bool false))⟩,
      ⟨(some 46), none, .mv (.t 45)⟩,
      ⟨(some 47), (some (46, true)), .mv (.t 9)⟩,
      ⟨(some 48), (some (46, true)), .un .not (.t 47)⟩,
      ⟨(some 49), none, .pick (.t 46) (.t 48) (.c (.bool false))⟩])
     (.cond (.t 49)
       (.reg [⟨(some 50), none, .mv (.t 5)⟩,
        ⟨(some 51), none, .fa 2 (.t 7)⟩,
        ⟨(some 52), none, .ld false 1 (.t 51)⟩,
        ⟨(some 53), none, .cl (.c (.fn 95 [])) [(.t 50), (.t 52)]⟩,
        ⟨(some 5), none, .mv (.t 53)⟩])
       .skip)))))
    (.reg [⟨(some 22), none, .mv (.t 6)⟩,
     ⟨(some 23), none, .bin .add (.t 22) (.c (.int .i64 1))⟩,
     ⟨(some 6), none, .mv (.t 23)⟩]))))))
  (.seq (.reg [⟨(some 54), none, .mv (.c (.nils))⟩,
   ⟨(some 10), none, .mv (.t 54)⟩])
  (.seq (.seq (.reg [⟨(some 11), none, .mv (.c (.int .i64 0))⟩])
  (.blk 2 (.loop (.seq (.seq (.reg [⟨(some 55), none, .mv (.t 11)⟩,
     ⟨(some 56), none, .mv (.t 5)⟩,
     ⟨(some 57), none, .lenl (.t 56)⟩,
     ⟨(some 58), none, .bin .lss (.t 55) (.t 57)⟩])
    (.cond (.t 58)
      .skip
      (.exit 2)))
    (.seq (.blk 3 (.seq (.reg [⟨(some 62), none, .mv (.t 0)⟩,
      ⟨(some 63), none, .mv (.t 1)⟩,
      ⟨(some 64), none, .mv (.t 5)⟩,
      ⟨(some 65), none, .mv (.t 11)⟩,
      ⟨(some 66), none, .ia 1 (.t 64) (.t 65)⟩,
      ⟨(some 67), none, .ld false 1 (.t 66)⟩,
      ⟨(some 68), none, .cl (.c (.fn 94 [])) [(.t 62), (.c (.int .i64 3)), (.t 63), (.t 67)]⟩,
      ⟨(some 61), none, .mv (.t 68)⟩,
      ⟨(some 69), none, .ext (.t 61) 0⟩,
      ⟨(some 70), none, .ext (.t 61) 1⟩,
      ⟨(some 12), none, .al [.int .i64 0, .int .i64 0, .int .i64 0, .int .i64 0, .int .i64 0, .int .i64 0, .str [], .str [], .str []]⟩,
      ⟨none, none, .st 9 (.t 12) (.t 69)⟩,
      ⟨(some 13), none, .mv (.t 70)⟩])
     (.seq (.drw [⟨(some 71), none, .mv (.t 5)⟩,
      ⟨(some 72), none, .mv (.t 11)⟩,
      ⟨(some 73), none, .ia 1 (.t 71) (.t 72)⟩,
      ⟨(some 74), none, .ld false 1 (.t 73)⟩,
      ⟨(some 75), none, .fa 1 (.t 12)⟩,
      ⟨(some 76), none, .fa 4 (.t 75)⟩,
      ⟨(some 77), none, .ld false 1 (.t 76)⟩,
      ⟨(some 78), none, .fa 1 (.t 12)⟩,
      ⟨(some 79), none, .fa 7 (.t 78)⟩,
      ⟨(some 80), none, .ld false 1 (.t 79)⟩,
      ⟨(some 81), none, .bld [.int .i64 0, .int .i64 0, .str []] [(0, 1), (1, 1), (2, 1)] [(0, (.t 74)), (1, (.t 77)), (2, (.t 80))]⟩,
      ⟨(some 14), none, .al [.int .i64 0, .int .i64 0, .str []]⟩,
      ⟨none, none, .st 3 (.t 14) (.t 81)⟩] [.val [], .val [], .val [], .val [], .val [], .val [], .val [], .val [], .val [], .val [], .val [], .chn [0, 1, 2, 3, 4, 5, 6, 7, 8, 9, 10], .chn []])
     (.seq (.reg [⟨(some 83), none, .mv (.t 0)⟩,
      ⟨(some 84), none, .mv (.t 1)⟩,
      ⟨(some 85), none, .mv (.t 5)⟩,
      ⟨(some 86), none, .mv (.t 11)⟩,
      ⟨(some 87), none, .ia 1 (.t 85) (.t 86)⟩,
      ⟨(some 88), none, .ld false 1 (.t 87)⟩,
      ⟨(some 89), none, .cl (.c (.fn 94 [])) [(.t 83), (.c (.int .i64 4)), (.t 84), (.t 88)]⟩,
      ⟨(some 82), none, .mv (.t 89)⟩,
      ⟨(some 90), none, .ext (.t 82) 0⟩,
      ⟨(some 91), none, .ext (.t 82) 1⟩,
      ⟨(some 15), none, .al [.int .i64 0, .int .i64 0, .int .i64 0, .int .i64 0, .int .i64 0, .int .i64 0, .str [], .str [], .str []]⟩,
      ⟨none, none, .st 9 (.t 15) (.t 90)⟩,
      ⟨(some 16), none, .mv (.t 91)⟩])
     (.seq (.seq (.reg [⟨(some 92), none, .mv (.t 16)⟩])
     (.cond (.t 92)
       (.reg [⟨(some 93), none, .fa 1 (.t 15)⟩,
        ⟨(some 94), none, .fa 4 (.t 93)⟩,
        ⟨(some 95), none, .ld false 1 (.t 94)⟩,
        ⟨(some 96), none, .fa 1 (.t 14)⟩,
        ⟨none, none, .st 1 (.t 96) (.t 95)⟩])
       .skip))
     (.reg [⟨(some 97), none, .mv (.t 10)⟩,
      ⟨(some 98), none, .ld true 3 (.t 14)⟩,
      ⟨(some 99), none, .bs 3 [.int .i64 0, .int .i64 0, .str []] 1 [(0, (.t 98))]⟩,
      ⟨(some 100), none, .app 3 32 (.t 97) (.t 99)⟩,
      ⟨(some 10), none, .mv (.t 100)⟩]))))))
    (.reg [⟨(some 59), none, .mv (.t 11)⟩,
     ⟨(some 60), none, .bin .add (.t 59) (.c (.int .i64 1))⟩,
     ⟨(some 11), none, .mv (.t 60)⟩]))))))
  (.seq (.reg [⟨(some 101), none, .mv (.t 10)⟩,
   ⟨(some 4), none, .mv (.t 101)⟩])
  .ret))))))
theorem k_spec_l07Mails : FnOk Tryz.prog 98 102 rc_spec_l07Mails [.t 4] := ⟨Tryz.f98, _, [], Tryz.func98, rfl, rfl, by kernel_rfl, by kernel_rfl, follows⟩
theorem ok_spec_l07Mails : okF Tryz.prog 98 = true := by kernel_rfl
def rc_spec_StateOf : RC :=
  (.seq (.reg [⟨(some 2), none, .al [.nils]⟩])
  (.seq (.reg [⟨(some 11), none, .bld [.nils] [(0, 1)] []⟩,
   ⟨(some 3), none, .al [.nils]⟩,
   ⟨none, none, .st 1 (.t 3) (.t 11)⟩])
  (.seq (.seq (.reg [⟨(some 12), none, .mv (.t 0)⟩,
   ⟨(some 13), none, .cl (.c (.fn 93 [])) [(.t 12)]⟩,
   ⟨(some 14), none, .un .not (.t 13)⟩])
  (.cond (.t 14)
    (.seq (.reg [⟨(some 15), none, .ld true 1 (.t 3)⟩,
     ⟨none, none, .st 1 (.t 2) (.t 15)⟩])
    .ret)
    .skip))
  (.seq (.reg [⟨(some 16), none, .mv (.c (.nils))⟩,
   ⟨(some 4), none, .mv (.t 16)⟩])
  (.seq (.seq (.reg [⟨(some 5), none, .mv (.c (.int .i64 0))⟩])
  (.blk 0 (.loop (.seq (.seq (.reg [⟨(some 17), none, .mv (.t 5)⟩,
     ⟨(some 18), none, .mv (.t 0)⟩,
     ⟨(some 19), none, .lenl (.t 18)⟩,
     ⟨(some 20), none, .bin .lss (.t 17) (.t 19)⟩])
    (.cond (.t 20)
      .skip
      (.exit 0)))
    (.seq (.blk 1 (.seq (.reg [⟨(some 23), none, .mv (.t 0)⟩,
      ⟨(some 24), none, .mv (.t 5)⟩,
      ⟨(some 25), none, .ia 9 (.t 23) (.t 24)⟩,
      ⟨(some 26), none, .fa 1 (.t 25)⟩,
      ⟨(some 27), none, .ld true 8 (.t 26)⟩,
      ⟨(some 6), none, .al [.int .i64 0, .int .i64 0, .int .i64 0, .int .i64 0, .int .i64 0, .str [], .str [], .str []]⟩,
      ⟨none, none, .st 8 (.t 6) (.t 27)⟩])
     (.seq (.reg [⟨(some 29), none, .mv (.t 0)⟩,
      ⟨(some 30), none, .fa 1 (.t 6)⟩,
      ⟨(some 31), none, .ld false 1 (.t 30)⟩,
      ⟨(some 32), none, .cl (.c (.fn 94 [])) [(.t 29), (.c (.int .i64 2)), (.t 31), (.c (.int .i64 0))]⟩,
      ⟨(some 28), none, .mv (.t 32)⟩,
      ⟨(some 33), none, .ext (.t 28) 0⟩,
      ⟨(some 34), none, .ext (.t 28) 1⟩,
      ⟨(some 7), none, .al [.int .i64 0, .int .i64 0, .int .i64 0, .int .i64 0, .int .i64 0, .int .i64 0, .str [], .str [], .str []]⟩,
      ⟨none, none, .st 9 (.t 7) (.t 33)⟩,
      ⟨(some 8), none, .mv (.t 34)⟩])
     (.seq (.reg [⟨(some 35), none, .fa 0 (.t 6)⟩,
      ⟨(some 36), none, .ld false 1 (.t 35)⟩,
      ⟨(some 37), none, .bin .eql (.t 36) (.c (.int .i64 1))⟩,
      ⟨(some 38), none, .mv (.t 37)⟩,
      ⟨(some 39), (some (38, true)), .mv (.t 8)⟩,
      ⟨(some 40), (some (38, true)), .un .not (.t 39)⟩,
      ⟨(some 41), none, .pick (.t 38) (.t 40) (.c (.bool false))⟩])
     (.cond (.t 41)
       (.reg [⟨(some 42), none, .mv (.t 4)⟩,
        ⟨(some 43), none, .fa 1 (.t 6)⟩,
        ⟨(some 44), none, .ld false 1 (.t 43)⟩,
        ⟨(some 45), none, .cl (.c (.fn 95 [])) [(.t 42), (.t 44)]⟩,
        ⟨(some 4), none, .mv (.t 45)⟩])
       .skip)))))
    (.reg [⟨(some 21), none, .mv (.t 5)⟩,
     ⟨(some 22), none, .bin .add (.t 21) (.c (.int .i64 1))⟩,
     ⟨(some 5), none, .mv (.t 22)⟩]))))))
  (.seq (.seq (.reg [⟨(some 9), none, .mv (.c (.int .i64 0))⟩])
  (.blk 2 (.loop (.seq (.seq (.reg [⟨(some 46), none, .mv (.t 9)⟩,
     ⟨(some 47), none, .mv (.t 4)⟩,
     ⟨(some 48), none, .lenl (.t 47)⟩,
     ⟨(some 49), none, .bin .lss (.t 46) (.t 48)⟩])
    (.cond (.t 49)
      .skip
      (.exit 2)))
    (.seq (.blk 3 (.seq (.reg [⟨(some 52), none, .mv (.t 0)⟩,
      ⟨(some 53), none, .mv (.t 4)⟩,
      ⟨(some 54), none, .mv (.t 9)⟩,
      ⟨(some 55), none, .ia 1 (.t 53) (.t 54)⟩,
      ⟨(some 56), none, .ld false 1 (.t 55)⟩,
      ⟨(some 57), none, .cl (.c (.fn 96 [])) [(.t 52), (.t 56)]⟩,
      ⟨(some 10), none, .al [.int .i64 0, .int .i64 0, .int .i64 0, .int .i64 0, .int .i64 0, .int .i64 0, .str [], .str [], .str []]⟩,
      ⟨none, none, .st 9 (.t 10) (.t 57)⟩])
     (.drw [⟨(some 58), none, .fa 0 (.t 3)⟩,
      ⟨(some 59), none, .ld false 1 (.t 58)⟩,
      ⟨(some 60), none, .mv (.t 4)⟩,
      ⟨(some 61), none, .mv (.t 9)⟩,
      ⟨(some 62), none, .ia 1 (.t 60) (.t 61)⟩,
      ⟨(some 63), none, .ld false 1 (.t 62)⟩,
      ⟨(some 64), none, .fa 1 (.t 10)⟩,
      ⟨(some 65), none, .fa 5 (.t 64)⟩,
      ⟨(some 66), none, .ld false 1 (.t 65)⟩,
      ⟨(some 67), none, .fa 1 (.t 10)⟩,
      ⟨(some 68), none, .fa 6 (.t 67)⟩,
      ⟨(some 69), none, .ld false 1 (.t 68)⟩,
      ⟨(some 70), none, .mv (.t 0)⟩,
      ⟨(some 71), none, .mv (.t 4)⟩,
      ⟨(some 72), none, .mv (.t 9)⟩,
      ⟨(some 73), none, .ia 1 (.t 71) (.t 72)⟩,
      ⟨(some 74), none, .ld false 1 (.t 73)⟩,
      ⟨(some 75), none, .cl (.c (.fn 97 [])) [(.t 70), (.t 74)]⟩,
      ⟨(some 76), none, .mv (.t 0)⟩,
      ⟨(some 77), none, .mv (.t 4)⟩,
      ⟨(some 78), none, .mv (.t 9)⟩,
      ⟨(some 79), none, .ia 1 (.t 77) (.t 78)⟩,
      ⟨(some 80), none, .ld false 1 (.t 79)⟩,
      ⟨(some 81), none, .cl (.c (.fn 98 [])) [(.t 76), (.t 80)]⟩,
      ⟨(some 82), none, .bld [.int .i64 0, .str [], .str [], .int .i64 0, .nils] [(0, 1), (1, 1), (2, 1), (3, 1), (4, 1)] [(0, (.t 63)), (1, (.t 66)), (2, (.t 69)), (3, (.t 75)), (4, (.t 81))]⟩,
      ⟨(some 83), none, .bs 5 [.int .i64 0, .str [], .str [], .int .i64 0, .nils] 1 [(0, (.t 82))]⟩,
      ⟨(some 84), none, .app 5 72 (.t 59) (.t 83)⟩,
      ⟨(some 85), none, .fa 0 (.t 3)⟩,
      ⟨none, none, .st 1 (.t 85) (.t 84)⟩] [.val [], .val [], .val [], .val [], .val [], .val [], .val [], .val [], .val [], .val [], .val [], .val [], .val [], .val [], .val [], .val [], .val [], .val [], .val [], .val [], .val [], .val [], .val [], .chn [0, 1, 2, 3, 4, 5, 6, 7, 8, 9, 10, 11], .val [], .chn [0, 1], .chn [], .val [], .chn []])))
    (.reg [⟨(some 50), none, .mv (.t 9)⟩,
     ⟨(some 51), none, .bin .add (.t 50) (.c (.int .i64 1))⟩,
     ⟨(some 9), none, .mv (.t 51)⟩]))))))
  (.seq (.reg [⟨(some 86), none, .ld true 1 (.t 3)⟩,
   ⟨none, none, .st 1 (.t 2) (.t 86)⟩])
  .ret)))))))
theorem k_spec_StateOf : FnOk Tryz.prog 49 87 rc_spec_StateOf [.cell 2 true 1] := ⟨Tryz.f49, _, [(16, [23])], Tryz.func49, rfl, rfl, by kernel_rfl, by kernel_rfl, follows⟩
theorem ok_spec_StateOf : okF Tryz.prog 49 = true := by kernel_rfl
def rc_spec_ItemsOf : RC :=
  (.seq (.reg [⟨(some 1), none, .bx (.t 0)⟩,
   ⟨(some 2), none, .mv (.c (.nils))⟩])
  (.seq (.reg [⟨(some 5), none, .mv (.c (.nils))⟩,
   ⟨(some 3), none, .mv (.t 5)⟩])
  (.seq (.seq (.reg [⟨(some 4), none, .mv (.c (.int .i64 0))⟩])
  (.blk 0 (.loop (.seq (.seq (.reg [⟨(some 6), none, .mv (.t 4)⟩,
     ⟨(some 7), none, .fa 3 (.t 1)⟩,
     ⟨(some 8), none, .ld false 1 (.t 7)⟩,
     ⟨(some 9), none, .lenl (.t 8)⟩,
     ⟨(some 10), none, .bin .lss (.t 6) (.t 9)⟩])
    (.cond (.t 10)
      .skip
      (.exit 0)))
    (.seq (.blk 1 (.reg [⟨(some 13), none, .mv (.t 3)⟩,
      ⟨(some 14), none, .fa 3 (.t 1)⟩,
      ⟨(some 15), none, .ld false 1 (.t 14)⟩,
      ⟨(some 16), none, .mv (.t 4)⟩,
      ⟨(some 17), none, .ia 4 (.t 15) (.t 16)⟩,
      ⟨(some 18), none, .fa 3 (.t 17)⟩,
      ⟨(some 19), none, .ld false 1 (.t 18)⟩,
      ⟨(some 20), none, .app 9 96 (.t 13) (.t 19)⟩,
      ⟨(some 3), none, .mv (.t 20)⟩]))
    (.reg [⟨(some 11), none, .mv (.t 4)⟩,
     ⟨(some 12), none, .bin .add (.t 11) (.c (.int .i64 1))⟩,
     ⟨(some 4), none, .mv (.t 12)⟩]))))))
  (.seq (.reg [⟨(some 21), none, .mv (.t 3)⟩,
   ⟨(some 2), none, .mv (.t 21)⟩])
  .ret))))
theorem k_spec_ItemsOf : FnOk Tryz.prog 50 22 rc_spec_ItemsOf [.t 2] := ⟨Tryz.f50, _, [], Tryz.func50, rfl, rfl, by kernel_rfl, by kernel_rfl, follows⟩
theorem ok_spec_ItemsOf : okF Tryz.prog 50 = true := by kernel_rfl
def rc_spec_StateNow : RC :=
  (.seq (.reg [⟨(some 1), none, .bx (.t 0)⟩,
   ⟨(some 2), none, .al [.nils]⟩])
  (.seq (.reg [⟨(some 3), none, .fa 0 (.t 1)⟩,
   ⟨(some 4), none, .ld true 8 (.t 3)⟩,
   ⟨(some 5), none, .cl (.c (.fn 50 [])) [(.t 4)]⟩,
   ⟨(some 6), none, .cl (.c (.fn 49 [])) [(.t 5)]⟩,
   ⟨none, none, .st 1 (.t 2) (.t 6)⟩])
  .ret))
theorem k_spec_StateNow : FnOk Tryz.prog 18 7 rc_spec_StateNow [.cell 2 true 1] := ⟨Tryz.f18, _, [], Tryz.func18, rfl, rfl, by kernel_rfl, by kernel_rfl, follows⟩
theorem ok_spec_StateNow : okF Tryz.prog 18 = true := by kernel_rfl
def rc_laws_toRec : RC :=
  (.seq (.reg [⟨(some 1), none, .bx (.t 0)⟩,
   ⟨(some 2), none, .al [.int .i64 0, .int .i64 0, .int .i64 0, .int .i64 0, .int .i64 0, .str [], .str [], .str []]⟩])
  (.seq (.reg [⟨(some 3), none, .al [.int .i64 0, .int .i64 0, .int .i64 0, .int .i64 0, .int .i64 0, .str [], .str [], .str []]⟩])
  (.seq (.reg [⟨(some 4), none, .fa 0 (.t 1)⟩,
   ⟨(some 5), none, .ld false 1 (.t 4)⟩,
   ⟨(some 6), none, .fa 0 (.t 3)⟩,
   ⟨none, none, .st 1 (.t 6) (.t 5)⟩])
  (.seq (.reg [⟨(some 7), none, .fa 1 (.t 1)⟩,
   ⟨(some 8), none, .ld false 1 (.t 7)⟩,
   ⟨(some 9), none, .fa 1 (.t 3)⟩,
   ⟨none, none, .st 1 (.t 9) (.t 8)⟩])
  (.seq (.reg [⟨(some 10), none, .fa 2 (.t 1)⟩,
   ⟨(some 11), none, .ld false 1 (.t 10)⟩,
   ⟨(some 12), none, .fa 2 (.t 3)⟩,
   ⟨none, none, .st 1 (.t 12) (.t 11)⟩])
  (.seq (.reg [⟨(some 13), none, .fa 3 (.t 1)⟩,
   ⟨(some 14), none, .ld false 1 (.t 13)⟩,
   ⟨(some 15), none, .fa 3 (.t 3)⟩,
   ⟨none, none, .st 1 (.t 15) (.t 14)⟩])
  (.seq (.reg [⟨(some 16), none, .fa 4 (.t 1)⟩,
   ⟨(some 17), none, .ld false 1 (.t 16)⟩,
   ⟨(some 18), none, .fa 4 (.t 3)⟩,
   ⟨none, none, .st 1 (.t 18) (.t 17)⟩])
  (.seq (.reg [⟨(some 19), none, .fa 5 (.t 1)⟩,
   ⟨(some 20), none, .ld false 1 (.t 19)⟩,
   ⟨(some 21), none, .fa 5 (.t 3)⟩,
   ⟨none, none, .st 1 (.t 21) (.t 20)⟩])
  (.seq (.reg [⟨(some 22), none, .fa 6 (.t 1)⟩,
   ⟨(some 23), none, .ld false 1 (.t 22)⟩,
   ⟨(some 24), none, .fa 6 (.t 3)⟩,
   ⟨none, none, .st 1 (.t 24) (.t 23)⟩])
  (.seq (.reg [⟨(some 25), none, .fa 7 (.t 1)⟩,
   ⟨(some 26), none, .ld false 1 (.t 25)⟩,
   ⟨(some 27), none, .fa 7 (.t 3)⟩,
   ⟨none, none, .st 1 (.t 27) (.t 26)⟩])
  (.seq (.reg [⟨(some 28), none, .ld true 8 (.t 3)⟩,
   ⟨none, none, .st 8 (.t 2) (.t 28)⟩])
  .ret)))))))))))
theorem k_laws_toRec : FnOk Tryz.prog 26 29 rc_laws_toRec [.cell 2 true 8] := ⟨Tryz.f26, _, [], Tryz.func26, rfl, rfl, by kernel_rfl, by kernel_rfl, follows⟩
theorem ok_laws_toRec : okF Tryz.prog 26 = true := by kernel_rfl
def rc_laws_toItem : RC :=
  (.seq (.reg [⟨(some 1), none, .bx (.t 0)⟩,
   ⟨(some 2), none, .al [.int .i64 0, .int .i64 0, .int .i64 0, .int .i64 0, .int .i64 0, .int .i64 0, .str [], .str [], .str []]⟩])
  (.seq (.reg [⟨(some 3), none, .al [.int .i64 0, .int .i64 0, .int .i64 0, .int .i64 0, .int .i64 0, .int .i64 0, .str [], .str [], .str []]⟩])
  (.seq (.reg [⟨(some 4), none, .fa 0 (.t 1)⟩,
   ⟨(some 5), none, .ld false 1 (.t 4)⟩,
   ⟨(some 6), none, .fa 0 (.t 3)⟩,
   ⟨none, none, .st 1 (.t 6) (.t 5)⟩])
  (.seq (.reg [⟨(some 7), none, .fa 1 (.t 1)⟩,
   ⟨(some 8), none, .ld true 8 (.t 7)⟩,
   ⟨(some 9), none, .cl (.c (.fn 26 [])) [(.t 8)]⟩,
   ⟨(some 10), none, .fa 1 (.t 3)⟩,
   ⟨none, none, .st 8 (.t 10) (.t 9)⟩])
  (.seq (.reg [⟨(some 11), none, .ld true 9 (.t 3)⟩,
   ⟨none, none, .st 9 (.t 2) (.t 11)⟩])
  .ret)))))
theorem k_laws_toItem : FnOk Tryz.prog 215 12 rc_laws_toItem [.cell 2 true 9] := ⟨Tryz.f215, _, [], Tryz.func215, rfl, rfl, by kernel_rfl, by kernel_rfl, follows⟩
theorem ok_laws_toItem : okF Tryz.prog 215 = true := by kernel_rfl
def rc_laws_toItemS : RC :=
  (.seq (.reg [⟨(some 2), none, .mv (.c (.nils))⟩])
  (.seq (.reg [⟨(some 5), none, .mv (.t 0)⟩,
   ⟨(some 6), none, .lenl (.t 5)⟩,
   ⟨(some 7), none, .ms 9 [.int .i64 0, .int .i64 0, .int .i64 0, .int .i64 0, .int .i64 0, .int .i64 0, .str [], .str [], .str []] 96 (.t 6) (.t 6)⟩,
   ⟨(some 3), none, .mv (.t 7)⟩])
  (.seq (.seq (.reg [⟨(some 4), none, .mv (.c (.int .i64 0))⟩])
  (.blk 0 (.loop (.seq (.seq (.reg [⟨(some 8), none, .mv (.t 4)⟩,
     ⟨(some 9), none, .mv (.t 0)⟩,
     ⟨(some 10), none, .lenl (.t 9)⟩,
     ⟨(some 11), none, .bin .lss (.t 8) (.t 10)⟩])
    (.cond (.t 11)
      .skip
      (.exit 0)))
    (.seq (.blk 1 (.reg [⟨(some 14), none, .mv (.t 3)⟩,
      ⟨(some 15), none, .mv (.t 4)⟩,
      ⟨(some 16), none, .mv (.t 0)⟩,
      ⟨(some 17), none, .mv (.t 4)⟩,
      ⟨(some 18), none, .ia 9 (.t 16) (.t 17)⟩,
      ⟨(some 19), none, .ld true 9 (.t 18)⟩,
      ⟨(some 20), none, .cl (.c (.fn 215 [])) [(.t 19)]⟩,
      ⟨(some 21), none, .ia 9 (.t 14) (.t 15)⟩,
      ⟨none, none, .st 9 (.t 21) (.t 20)⟩]))
    (.reg [⟨(some 12), none, .mv (.t 4)⟩,
     ⟨(some 13), none, .bin .add (.t 12) (.c (.int .i64 1))⟩,
     ⟨(some 4), none, .mv (.t 13)⟩]))))))
  (.seq (.reg [⟨(some 22), none, .mv (.t 3)⟩,
   ⟨(some 2), none, .mv (.t 22)⟩])
  .ret))))
theorem k_laws_toItemS : FnOk Tryz.prog 197 23 rc_laws_toItemS [.t 2] := ⟨Tryz.f197, _, [], Tryz.func197, rfl, rfl, by kernel_rfl, by kernel_rfl, follows⟩
theorem ok_laws_toItemS : okF Tryz.prog 197 = true := by kernel_rfl
def rc_laws_toSeg : RC :=
  (.seq (.reg [⟨(some 1), none, .bx (.t 0)⟩,
   ⟨(some 2), none, .al [.int .i64 0, .int .i64 0, .int .i64 0, .nils]⟩])
  (.seq (.reg [⟨(some 3), none, .al [.int .i64 0, .int .i64 0, .int .i64 0, .nils]⟩])
  (.seq (.reg [⟨(some 4), none, .fa 0 (.t 1)⟩,
   ⟨(some 5), none, .ld false 1 (.t 4)⟩,
   ⟨(some 6), none, .fa 0 (.t 3)⟩,
   ⟨none, none, .st 1 (.t 6) (.t 5)⟩])
  (.seq (.reg [⟨(some 7), none, .fa 1 (.t 1)⟩,
   ⟨(some 8), none, .ld false 1 (.t 7)⟩,
   ⟨(some 9), none, .fa 1 (.t 3)⟩,
   ⟨none, none, .st 1 (.t 9) (.t 8)⟩])
  (.seq (.reg [⟨(some 10), none, .fa 2 (.t 1)⟩,
   ⟨(some 11), none, .ld false 1 (.t 10)⟩,
   ⟨(some 12), none, .fa 2 (.t 3)⟩,
   ⟨none, none, .st 1 (.t 12) (.t 11)⟩])
  (.seq (.reg [⟨(some 13), none, .fa 3 (.t 1)⟩,
   ⟨(some 14), none, .ld false 1 (.t 13)⟩,
   ⟨(some 15), none, .cl (.c (.fn 197 [])) [(.t 14)]⟩,
   ⟨(some 16), none, .fa 3 (.t 3)⟩,
   ⟨none, none, .st 1 (.t 16) (.t 15)⟩])
  (.seq (.reg [⟨(some 17), none, .ld true 4 (.t 3)⟩,
   ⟨none, none, .st 4 (.t 2) (.t 17)⟩])
  .ret)))))))
theorem k_laws_toSeg : FnOk Tryz.prog 156 18 rc_laws_toSeg [.cell 2 true 4] := ⟨Tryz.f156, _, [], Tryz.func156, rfl, rfl, by kernel_rfl, by kernel_rfl, follows⟩
theorem ok_laws_toSeg : okF Tryz.prog 156 = true := by kernel_rfl
def rc_laws_toSegS : RC :=
  (.seq (.reg [⟨(some 2), none, .mv (.c (.nils))⟩])
  (.seq (.reg [⟨(some 5), none, .mv (.t 0)⟩,
   ⟨(some 6), none, .lenl (.t 5)⟩,
   ⟨(some 7), none, .ms 4 [.int .i64 0, .int .i64 0, .int .i64 0, .nils] 48 (.t 6) (.t 6)⟩,
   ⟨(some 3), none, .mv (.t 7)⟩])
  (.seq (.seq (.reg [⟨(some 4), none, .mv (.c (.int .i64 0))⟩])
  (.blk 0 (.loop (.seq (.seq (.reg [⟨(some 8), none, .mv (.t 4)⟩,
     ⟨(some 9), none, .mv (.t 0)⟩,
     ⟨(some 10), none, .lenl (.t 9)⟩,
     ⟨(some 11), none, .bin .lss (.t 8) (.t 10)⟩])
    (.cond (.t 11)
      .skip
      (.exit 0)))
    (.seq (.blk 1 (.reg [⟨(some 14), none, .mv (.t 3)⟩,
      ⟨(some 15), none, .mv (.t 4)⟩,
      ⟨(some 16), none, .mv (.t 0)⟩,
      ⟨(some 17), none, .mv (.t 4)⟩,
      ⟨(some 18), none, .ia 4 (.t 16) (.t 17)⟩,
      ⟨(some 19), none, .ld true 4 (.t 18)⟩,
      ⟨(some 20), none, .cl (.c (.fn 156 [])) [(.t 19)]⟩,
      ⟨(some 21), none, .ia 4 (.t 14) (.t 15)⟩,
      ⟨none, none, .st 4 (.t 21) (.t 20)⟩]))
    (.reg [⟨(some 12), none, .mv (.t 4)⟩,
     ⟨(some 13), none, .bin .add (.t 12) (.c (.int .i64 1))⟩,
     ⟨(some 4), none, .mv (.t 13)⟩]))))))
  (.seq (.reg [⟨(some 22), none, .mv (.t 3)⟩,
   ⟨(some 2), none, .mv (.t 22)⟩])
  .ret))))
theorem k_laws_toSegS : FnOk Tryz.prog 100 23 rc_laws_toSegS [.t 2] := ⟨Tryz.f100, _, [], Tryz.func100, rfl, rfl, by kernel_rfl, by kernel_rfl, follows⟩
theorem ok_laws_toSegS : okF Tryz.prog 100 = true := by kernel_rfl
def rc_laws_toStringS : RC :=
  (.seq (.reg [⟨(some 2), none, .mv (.c (.nils))⟩])
  (.seq (.reg [⟨(some 5), none, .mv (.t 0)⟩,
   ⟨(some 6), none, .lenl (.t 5)⟩,
   ⟨(some 7), none, .ms 1 [.str []] 16 (.t 6) (.t 6)⟩,
   ⟨(some 3), none, .mv (.t 7)⟩])
  (.seq (.seq (.reg [⟨(some 4), none, .mv (.c (.int .i64 0))⟩])
  (.blk 0 (.loop (.seq (.seq (.reg [⟨(some 8), none, .mv (.t 4)⟩,
     ⟨(some 9), none, .mv (.t 0)⟩,
     ⟨(some 10), none, .lenl (.t 9)⟩,
     ⟨(some 11), none, .bin .lss (.t 8) (.t 10)⟩])
    (.cond (.t 11)
      .skip
      (.exit 0)))
    (.seq (.blk 1 (.reg [⟨(some 14), none, .mv (.t 3)⟩,
      ⟨(some 15), none, .mv (.t 4)⟩,
      ⟨(some 16), none, .mv (.t 0)⟩,
      ⟨(some 17), none, .mv (.t 4)⟩,
      ⟨(some 18), none, .ia 1 (.t 16) (.t 17)⟩,
      ⟨(some 19), none, .ld false 1 (.t 18)⟩,
      ⟨(some 20), none, .ia 1 (.t 14) (.t 15)⟩,
      ⟨none, none, .st 1 (.t 20) (.t 19)⟩]))
    (.reg [⟨(some 12), none, .mv (.t 4)⟩,
     ⟨(some 13), none, .bin .add (.t 12) (.c (.int .i64 1))⟩,
     ⟨(some 4), none, .mv (.t 13)⟩]))))))
  (.seq (.reg [⟨(some 21), none, .mv (.t 3)⟩,
   ⟨(some 2), none, .mv (.t 21)⟩])
  .ret))))
theorem k_laws_toStringS : FnOk Tryz.prog 154 22 rc_laws_toStringS [.t 2] := ⟨Tryz.f154, _, [], Tryz.func154, rfl, rfl, by kernel_rfl, by kernel_rfl, follows⟩
theorem ok_laws_toStringS : okF Tryz.prog 154 = true := by kernel_rfl
def rc_laws_toWrite : RC :=
  (.seq (.reg [⟨(some 1), none, .bx (.t 0)⟩,
   ⟨(some 2), none, .al [.int .i64 0, .str []]⟩])
  (.seq (.reg [⟨(some 3), none, .al [.int .i64 0, .str []]⟩])
  (.seq (.reg [⟨(some 4), none, .fa 0 (.t 1)⟩,
   ⟨(some 5), none, .ld false 1 (.t 4)⟩,
   ⟨(some 6), none, .fa 0 (.t 3)⟩,
   ⟨none, none, .st 1 (.t 6) (.t 5)⟩])
  (.seq (.reg [⟨(some 7), none, .fa 1 (.t 1)⟩,
   ⟨(some 8), none, .ld false 1 (.t 7)⟩,
   ⟨(some 9), none, .fa 1 (.t 3)⟩,
   ⟨none, none, .st 1 (.t 9) (.t 8)⟩])
  (.seq (.reg [⟨(some 10), none, .ld true 2 (.t 3)⟩,
   ⟨none, none, .st 2 (.t 2) (.t 10)⟩])
  .ret)))))
theorem k_laws_toWrite : FnOk Tryz.prog 196 11 rc_laws_toWrite [.cell 2 true 2] := ⟨Tryz.f196, _, [], Tryz.func196, rfl, rfl, by kernel_rfl, by kernel_rfl, follows⟩
theorem ok_laws_toWrite : okF Tryz.prog 196 = true := by kernel_rfl
def rc_laws_toWriteS : RC :=
  (.seq (.reg [⟨(some 2), none, .mv (.c (.nils))⟩])
  (.seq (.reg [⟨(some 5), none, .mv (.t 0)⟩,
   ⟨(some 6), none, .lenl (.t 5)⟩,
   ⟨(some 7), none, .ms 2 [.int .i64 0, .str []] 24 (.t 6) (.t 6)⟩,
   ⟨(some 3), none, .mv (.t 7)⟩])
  (.seq (.seq (.reg [⟨(some 4), none, .mv (.c (.int .i64 0))⟩])
  (.blk 0 (.loop (.seq (.seq (.reg [⟨(some 8), none, .mv (.t 4)⟩,
     ⟨(some 9), none, .mv (.t 0)⟩,
     ⟨(some 10), none, .lenl (.t 9)⟩,
     ⟨(some 11), none, .bin .lss (.t 8) (.t 10)⟩])
    (.cond (.t 11)
      .skip
      (.exit 0)))
    (.seq (.blk 1 (.reg [⟨(some 14), none, .mv (.t 3)⟩,
      ⟨(some 15), none, .mv (.t 4)⟩,
      ⟨(some 16), none, .mv (.t 0)⟩,
      ⟨(some 17), none, .mv (.t 4)⟩,
      ⟨(some 18), none, .ia 2 (.t 16) (.t 17)⟩,
      ⟨(some 19), none, .ld true 2 (.t 18)⟩,
      ⟨(some 20), none, .cl (.c (.fn 196 [])) [(.t 19)]⟩,
      ⟨(some 21), none, .ia 2 (.t 14) (.t 15)⟩,
      ⟨none, none, .st 2 (.t 21) (.t 20)⟩]))
    (.reg [⟨(some 12), none, .mv (.t 4)⟩,
     ⟨(some 13), none, .bin .add (.t 12) (.c (.int .i64 1))⟩,
     ⟨(some 4), none, .mv (.t 13)⟩]))))))
  (.seq (.reg [⟨(some 22), none, .mv (.t 3)⟩,
   ⟨(some 2), none, .mv (.t 22)⟩])
  .ret))))
theorem k_laws_toWriteS : FnOk Tryz.prog 155 23 rc_laws_toWriteS [.t 2] := ⟨Tryz.f155, _, [], Tryz.func155, rfl, rfl, by kernel_rfl, by kernel_rfl, follows⟩
theorem ok_laws_toWriteS : okF Tryz.prog 155 = true := by kernel_rfl
def rc_laws_toDisk : RC :=
  (.seq (.reg [⟨(some 1), none, .bx (.t 0)⟩,
   ⟨(some 2), none, .al [.nils, .nils]⟩])
  (.seq (.reg [⟨(some 3), none, .al [.nils, .nils]⟩])
  (.seq (.reg [⟨(some 4), none, .fa 0 (.t 1)⟩,
   ⟨(some 5), none, .ld false 1 (.t 4)⟩,
   ⟨(some 6), none, .cl (.c (.fn 154 [])) [(.t 5)]⟩,
   ⟨(some 7), none, .fa 0 (.t 3)⟩,
   ⟨none, none, .st 1 (.t 7) (.t 6)⟩])
  (.seq (.reg [⟨(some 8), none, .fa 1 (.t 1)⟩,
   ⟨(some 9), none, .ld false 1 (.t 8)⟩,
   ⟨(some 10), none, .cl (.c (.fn 155 [])) [(.t 9)]⟩,
   ⟨(some 11), none, .fa 1 (.t 3)⟩,
   ⟨none, none, .st 1 (.t 11) (.t 10)⟩])
  (.seq (.reg [⟨(some 12), none, .ld true 2 (.t 3)⟩,
   ⟨none, none, .st 2 (.t 2) (.t 12)⟩])
  .ret)))))
theorem k_laws_toDisk : FnOk Tryz.prog 99 13 rc_laws_toDisk [.cell 2 true 2] := ⟨Tryz.f99, _, [], Tryz.func99, rfl, rfl, by kernel_rfl, by kernel_rfl, follows⟩
theorem ok_laws_toDisk : okF Tryz.prog 99 = true := by kernel_rfl
def rc_laws_toLog : RC :=
  (.seq (.reg [⟨(some 1), none, .bx (.t 0)⟩,
   ⟨(some 2), none, .al [.nils, .nils, .int .i64 0, .nils, .int .i64 0, .int .i64 0, .int .i64 0, .int .i64 0]⟩])
  (.seq (.reg [⟨(some 3), none, .al [.nils, .nils, .int .i64 0, .nils, .int .i64 0, .int .i64 0, .int .i64 0, .int .i64 0]⟩])
  (.seq (.reg [⟨(some 4), none, .fa 0 (.t 1)⟩,
   ⟨(some 5), none, .ld true 2 (.t 4)⟩,
   ⟨(some 6), none, .cl (.c (.fn 99 [])) [(.t 5)]⟩,
   ⟨(some 7), none, .fa 0 (.t 3)⟩,
   ⟨none, none, .st 2 (.t 7) (.t 6)⟩])
  (.seq (.reg [⟨(some 8), none, .fa 2 (.t 1)⟩,
   ⟨(some 9), none, .ld false 1 (.t 8)⟩,
   ⟨(some 10), none, .fa 2 (.t 3)⟩,
   ⟨none, none, .st 1 (.t 10) (.t 9)⟩])
  (.seq (.reg [⟨(some 11), none, .fa 3 (.t 1)⟩,
   ⟨(some 12), none, .ld false 1 (.t 11)⟩,
   ⟨(some 13), none, .cl (.c (.fn 100 [])) [(.t 12)]⟩,
   ⟨(some 14), none, .fa 3 (.t 3)⟩,
   ⟨none, none, .st 1 (.t 14) (.t 13)⟩])
  (.seq (.reg [⟨(some 15), none, .fa 4 (.t 1)⟩,
   ⟨(some 16), none, .ld false 1 (.t 15)⟩,
   ⟨(some 17), none, .fa 4 (.t 3)⟩,
   ⟨none, none, .st 1 (.t 17) (.t 16)⟩])
  (.seq (.reg [⟨(some 18), none, .fa 5 (.t 1)⟩,
   ⟨(some 19), none, .ld false 1 (.t 18)⟩,
   ⟨(some 20), none, .fa 5 (.t 3)⟩,
   ⟨none, none, .st 1 (.t 20) (.t 19)⟩])
  (.seq (.reg [⟨(some 21), none, .fa 6 (.t 1)⟩,
   ⟨(some 22), none, .ld false 1 (.t 21)⟩,
   ⟨(some 23), none, .fa 6 (.t 3)⟩,
   ⟨none, none, .st 1 (.t 23) (.t 22)⟩])
  (.seq (.reg [⟨(some 24), none, .fa 7 (.t 1)⟩,
   ⟨(some 25), none, .ld false 1 (.t 24)⟩,
   ⟨(some 26), none, .fa 7 (.t 3)⟩,
   ⟨none, none, .st 1 (.t 26) (.t 25)⟩])
  (.seq (.reg [⟨(some 27), none, .ld true 8 (.t 3)⟩,
   ⟨none, none, .st 8 (.t 2) (.t 27)⟩])
  .ret))))))))))
theorem k_laws_toLog : FnOk Tryz.prog 51 28 rc_laws_toLog [.cell 2 true 8] := ⟨Tryz.f51, _, [], Tryz.func51, rfl, rfl, by kernel_rfl, by kernel_rfl, follows⟩
theorem ok_laws_toLog : okF Tryz.prog 51 = true := by kernel_rfl
def rc_laws_toIntS : RC :=
  (.seq (.reg [⟨(some 2), none, .mv (.c (.nils))⟩])
  (.seq (.reg [⟨(some 5), none, .mv (.t 0)⟩,
   ⟨(some 6), none, .lenl (.t 5)⟩,
   ⟨(some 7), none, .ms 1 [.int .i64 0] 8 (.t 6) (.t 6)⟩,
   ⟨(some 3), none, .mv (.t 7)⟩])
  (.seq (.seq (.reg [⟨(some 4), none, .mv (.c (.int .i64 0))⟩])
  (.blk 0 (.loop (.seq (.seq (.reg [⟨(some 8), none, .mv (.t 4)⟩,
     ⟨(some 9), none, .mv (.t 0)⟩,
     ⟨(some 10), none, .lenl (.t 9)⟩,
     ⟨(some 11), none, .bin .lss (.t 8) (.t 10)⟩])
    (.cond (.t 11)
      .skip
      (.exit 0)))
    (.seq (.blk 1 (.reg [⟨(some 14), none, .mv (.t 3)⟩,
      ⟨(some 15), none, .mv (.t 4)⟩,
      ⟨(some 16), none, .mv (.t 0)⟩,
      ⟨(some 17), none, .mv (.t 4)⟩,
      ⟨(some 18), none, .ia 1 (.t 16) (.t 17)⟩,
      ⟨(some 19), none, .ld false 1 (.t 18)⟩,
      ⟨(some 20), none, .ia 1 (.t 14) (.t 15)⟩,
      ⟨none, none, .st 1 (.t 20) (.t 19)⟩]))
    (.reg [⟨(some 12), none, .mv (.t 4)⟩,
     ⟨(some 13), none, .bin .add (.t 12) (.c (.int .i64 1))⟩,
     ⟨(some 4), none, .mv (.t 13)⟩]))))))
  (.seq (.reg [⟨(some 21), none, .mv (.t 3)⟩,
   ⟨(some 2), none, .mv (.t 21)⟩])
  .ret))))
theorem k_laws_toIntS : FnOk Tryz.prog 52 22 rc_laws_toIntS [.t 2] := ⟨Tryz.f52, _, [], Tryz.func52, rfl, rfl, by kernel_rfl, by kernel_rfl, follows⟩
theorem ok_laws_toIntS : okF Tryz.prog 52 = true := by kernel_rfl
def rc_laws_toStore : RC :=
  (.seq (.reg [⟨(some 1), none, .bx (.t 0)⟩,
   ⟨(some 2), none, .al [.nils, .nils, .int .i64 0, .nils, .int .i64 0, .int .i64 0, .int .i64 0, .int .i64 0, .nils]⟩])
  (.seq (.reg [⟨(some 3), none, .al [.nils, .nils, .int .i64 0, .nils, .int .i64 0, .int .i64 0, .int .i64 0, .int .i64 0, .nils]⟩])
  (.seq (.reg [⟨(some 4), none, .fa 0 (.t 1)⟩,
   ⟨(some 5), none, .ld true 8 (.t 4)⟩,
   ⟨(some 6), none, .cl (.c (.fn 51 [])) [(.t 5)]⟩,
   ⟨(some 7), none, .fa 0 (.t 3)⟩,
   ⟨none, none, .st 8 (.t 7) (.t 6)⟩])
  (.seq (.reg [⟨(some 8), none, .fa 8 (.t 1)⟩,
   ⟨(some 9), none, .ld false 1 (.t 8)⟩,
   ⟨(some 10), none, .cl (.c (.fn 52 [])) [(.t 9)]⟩,
   ⟨(some 11), none, .fa 8 (.t 3)⟩,
   ⟨none, none, .st 1 (.t 11) (.t 10)⟩])
  (.seq (.reg [⟨(some 12), none, .ld true 9 (.t 3)⟩,
   ⟨none, none, .st 9 (.t 2) (.t 12)⟩])
  .ret)))))
theorem k_laws_toStore : FnOk Tryz.prog 19 13 rc_laws_toStore [.cell 2 true 9] := ⟨Tryz.f19, _, [], Tryz.func19, rfl, rfl, by kernel_rfl, by kernel_rfl, follows⟩
theorem ok_laws_toStore : okF Tryz.prog 19 = true := by kernel_rfl
def rc_impl_in : RC :=
  (.seq (.reg [⟨(some 6), none, .mv (.c (.bool false))⟩])
  (.seq (.reg [⟨(some 7), none, .mv (.t 0)⟩,
   ⟨(some 8), none, .mv (.t 1)⟩,
   ⟨(some 9), none, .bin .geq (.t 7) (.t 8)⟩,
   ⟨(some 10), none, .mv (.t 9)⟩,
   ⟨(some 11), (some (10, true)), .mv (.t 0)⟩,
   ⟨(some 12), (some (10, true)), .mv (.t 2)⟩,
   ⟨(some 13), (some (10, true)), .bin .leq (.t 11) (.t 12)⟩,
   ⟨(some 14), none, .pick (.t 10) (.t 13) (.c (.bool false))⟩,
   ⟨(some 6), none, .mv (.t 14)⟩])
  .ret))
theorem k_impl_in : FnOk Tryz.prog 33 15 rc_impl_in [.t 6] := ⟨Tryz.f33, _, [], Tryz.func33, rfl, rfl, by kernel_rfl, by kernel_rfl, follows⟩
theorem ok_impl_in : okF Tryz.prog 33 = true := by kernel_rfl
def rc_impl_WordOk : RC :=
  (.seq (.reg [⟨(some 2), none, .mv (.c (.bool false))⟩])
  (.seq (.seq (.reg [⟨(some 4), none, .mv (.t 0)⟩,
   ⟨(some 5), none, .lens (.t 4)⟩,
   ⟨(some 6), none, .cl (.c (.fn 33 [])) [(.t 5), (.c (.int .i64 1)), (.c (.int .i64 8))]⟩,
   ⟨(some 7), none, .un .not (.t 6)⟩])
  (.cond (.t 7)
    (.seq (.reg [⟨(some 2), none, .mv (.c (.bool false))⟩])
    .ret)
    .skip))
  (.seq (.seq (.reg [⟨(some 8), none, .mv (.t 0)⟩,
   ⟨(some 9), none, .lens (.t 8)⟩,
   ⟨(some 10), none, .mv (.c (.int .i64 0))⟩])
  (.blk 0 (.loop (.seq (.reg [⟨(some 11), none, .bin .lss (.t 10) (.t 9)⟩])
    (.seq (.cond (.t 11)
      .skip
      (.exit 0))
    (.seq (.blk 1 (.seq (.reg [⟨(some 12), none, .mv (.t 10)⟩,
      ⟨(some 3), none, .mv (.t 12)⟩])
     (.seq (.reg [⟨(some 13), none, .mv (.t 0)⟩,
      ⟨(some 14), none, .mv (.t 3)⟩,
      ⟨(some 15), none, .idx (.t 13) (.t 14)⟩,
      ⟨(some 16), none, .bin .lss (.t 15) (.c (.int .u8 97))⟩,
      ⟨(some 17), none, .mv (.t 16)⟩,
      ⟨(some 18), (some (17, false)), .mv (.t 0)⟩,
      ⟨(some 19), (some (17, false)), .mv (.t 3)⟩,
      ⟨(some 20), (some (17, false)), .idx (.t 18) (.t 19)⟩,
      ⟨(some 21), (some (17, false)), .bin .gtr (.t 20) (.c (.int .u8 122))⟩,
      ⟨(some 22), none, .pick (.t 17) (.c (.bool true)) (.t 21)⟩])
     (.cond (.t 22)
       (.seq (.reg [⟨(some 2), none, .mv (.c (.bool false))⟩])
       .ret)
       .skip))))
    (.reg [⟨(some 23), none, .bin .add (.t 10) (.c (.int .i64 1))⟩,
     ⟨(some 10), none, .mv (.t 23)⟩])))))))
  (.seq (.reg [⟨(some 2), none, .mv (.c (.bool true))⟩])
  .ret))))
theorem k_impl_WordOk : FnOk Tryz.prog 198 24 rc_impl_WordOk [.t 2] := ⟨Tryz.f198, _, [], Tryz.func198, rfl, rfl, by kernel_rfl, by kernel_rfl, follows⟩
theorem ok_impl_WordOk : okF Tryz.prog 198 = true := by kernel_rfl
def rc_impl_RecOk : RC :=
  (.seq (.reg [⟨(some 1), none, .bx (.t 0)⟩,
   ⟨(some 2), none, .mv (.c (.bool false))⟩])
  (.seq (.seq (.reg [⟨(some 5), none, .fa 1 (.t 1)⟩,
   ⟨(some 6), none, .ld false 1 (.t 5)⟩,
   ⟨(some 7), none, .cl (.c (.fn 33 [])) [(.t 6), (.c (.int .i64 1)), (.c (.int .i64 9999))]⟩,
   ⟨(some 8), none, .un .not (.t 7)⟩])
  (.cond (.t 8)
    (.seq (.reg [⟨(some 2), none, .mv (.c (.bool false))⟩])
    .ret)
    .skip))
  (.seq (.reg [⟨(some 9), none, .ld true 8 (.t 1)⟩,
   ⟨(some 3), none, .al [.int .i64 0, .int .i64 0, .int .i64 0, .int .i64 0, .int .i64 0, .str [], .str [], .str []]⟩,
   ⟨none, none, .st 8 (.t 3) (.t 9)⟩])
  (.seq (.reg [⟨(some 10), none, .fa 0 (.t 3)⟩,
   ⟨none, none, .st 1 (.t 10) (.c (.int .i64 0))⟩,
   ⟨(some 11), none, .fa 1 (.t 3)⟩,
   ⟨none, none, .st 1 (.t 11) (.c (.int .i64 0))⟩])
  (.seq (.reg [⟨(some 4), none, .mv (.c (.bool true))⟩])
  (.seq (.seq (.reg [⟨(some 12), none, .fa 0 (.t 1)⟩,
   ⟨(some 13), none, .ld false 1 (.t 12)⟩,
   ⟨(some 14), none, .bin .eql (.t 13) (.c (.int .i64 3))⟩,
   ⟨(some 15), none, .mv (.t 14)⟩,
   ⟨(some 16), (some (15, false)), .fa 0 (.t 1)⟩,
   ⟨(some 17), (some (15, false)), .ld false 1 (.t 16)⟩,
   ⟨(some 18), (some (15, false)), .bin .eql (.t 17) (.c (.int .i64 4))⟩,
   ⟨(some 19), none, .pick (.t 15) (.c (.bool true)) (.t 18)⟩,
   ⟨(some 20), none, .mv (.t 19)⟩,
   ⟨(some 21), (some (20, false)), .fa 0 (.t 1)⟩,
   ⟨(some 22), (some (20, false)), .ld false 1 (.t 21)⟩,
   ⟨(some 23), (some (20, false)), .bin .eql (.t 22) (.c (.int .i64 5))⟩,
   ⟨(some 24), none, .pick (.t 20) (.c (.bool true)) (.t 23)⟩])
  (.cond (.t 24)
    (.seq (.reg [⟨(some 25), none, .fa 2 (.t 1)⟩,
     ⟨(some 26), none, .ld false 1 (.t 25)⟩,
     ⟨(some 27), none, .cl (.c (.fn 33 [])) [(.t 26), (.c (.int .i64 1)), (.c (.int .i64 9999))]⟩,
     ⟨(some 4), none, .mv (.t 27)⟩])
    (.reg [⟨(some 28), none, .fa 2 (.t 3)⟩,
     ⟨none, none, .st 1 (.t 28) (.c (.int .i64 0))⟩]))
    .skip))
  (.seq (.seq (.reg [⟨(some 29), none, .fa 0 (.t 1)⟩,
   ⟨(some 30), none, .ld false 1 (.t 29)⟩,
   ⟨(some 31), none, .bin .eql (.t 30) (.c (.int .i64 3))⟩,
   ⟨(some 32), none, .mv (.t 31)⟩,
   ⟨(some 33), (some (32, false)), .fa 0 (.t 1)⟩,
   ⟨(some 34), (some (32, false)), .ld false 1 (.t 33)⟩,
   ⟨(some 35), (some (32, false)), .bin .eql (.t 34) (.c (.int .i64 4))⟩,
   ⟨(some 36), none, .pick (.t 32) (.c (.bool true)) (.t 35)⟩])
  (.cond (.t 36)
    (.seq (.reg [⟨(some 37), none, .mv (.t 4)⟩,
     ⟨(some 38), none, .mv (.t 37)⟩,
     ⟨(some 39), (some (38, true)), .fa 4 (.t 1)⟩,
     ⟨(some 40), (some (38, true)), .ld false 1 (.t 39)⟩,
     ⟨(some 41), (some (38, true)), .cl (.c (.fn 33 [])) [(.t 40), (.c (.int .i64 0)), (.c (.int .i64 7))]⟩,
     ⟨(some 42), none, .pick (.t 38) (.t 41) (.c (.bool false))⟩,
     ⟨(some 4), none, .mv (.t 42)⟩])
    (.reg [⟨(some 43), none, .fa 4 (.t 3)⟩,
     ⟨none, none, .st 1 (.t 43) (.c (.int .i64 0))⟩]))
    .skip))
  (.seq (.seq (.reg [⟨(some 44), none, .fa 0 (.t 1)⟩,
   ⟨(some 45), none, .ld false 1 (.t 44)⟩])
  (.blk 0 (.seq (.reg [⟨(some 47), none, .bin .eql (.t 45) (.c (.int .i64 1))⟩,
    ⟨(some 46), none, .mv (.t 47)⟩])
   (.cond (.t 46)
     (.seq (.reg [⟨(some 48), none, .fa 5 (.t 1)⟩,
      ⟨(some 49), none, .ld false 1 (.t 48)⟩,
      ⟨(some 50), none, .cl (.c (.fn 198 [])) [(.t 49)]⟩,
      ⟨(some 51), none, .mv (.t 50)⟩,
      ⟨(some 52), (some (51, true)), .fa 6 (.t 1)⟩,
      ⟨(some 53), (some (51, true)), .ld false 1 (.t 52)⟩,
      ⟨(some 54), (some (51, true)), .cl (.c (.fn 198 [])) [(.t 53)]⟩,
      ⟨(some 55), none, .pick (.t 51) (.t 54) (.c (.bool false))⟩,
      ⟨(some 56), none, .mv (.t 55)⟩,
      ⟨(some 57), (some (56, true)), .fa 3 (.t 1)⟩,
      ⟨(some 58), (some (56, true)), .ld false 1 (.t 57)⟩,
      ⟨(some 59), (some (56, true)), .cl (.c (.fn 33 [])) [(.t 58), (.c (.int .i64 1)), (.c (.int .i64 10000))]⟩,
      ⟨(some 60), none, .pick (.t 56) (.t 59) (.c (.bool false))⟩,
      ⟨(some 4), none, .mv (.t 60)⟩])
     (.reg [⟨(some 61), none, .fa 5 (.t 3)⟩,
      ⟨none, none, .st 1 (.t 61) (.c (.str []))⟩,
      ⟨(some 62), none, .fa 6 (.t 3)⟩,
      ⟨none, none, .st 1 (.t 62) (.c (.str []))⟩,
      ⟨(some 63), none, .fa 3 (.t 3)⟩,
      ⟨none, none, .st 1 (.t 63) (.c (.int .i64 0))⟩]))
     (.seq (.reg [⟨(some 65), none, .bin .eql (.t 45) (.c (.int .i64 3))⟩,
      ⟨(some 64), none, .mv (.t 65)⟩])
     (.cond (.t 64)
       (.seq (.reg [⟨(some 66), none, .mv (.t 4)⟩,
        ⟨(some 67), none, .mv (.t 66)⟩,
        ⟨(some 68), (some (67, true)), .fa 7 (.t 1)⟩,
        ⟨(some 69), (some (67, true)), .ld false 1 (.t 68)⟩,
        ⟨(some 70), (some (67, true)), .lens (.t 69)⟩,
        ⟨(some 71), (some (67, true)), .bin .leq (.t 70) (.c (.int .i64 100))⟩,
        ⟨(some 72), none, .pick (.t 67) (.t 71) (.c (.bool false))⟩,
        ⟨(some 4), none, .mv (.t 72)⟩])
       (.reg [⟨(some 73), none, .fa 7 (.t 3)⟩,
        ⟨none, none, .st 1 (.t 73) (.c (.str []))⟩]))
       (.seq (.seq (.reg [⟨(some 75), none, .bin .eql (.t 45) (.c (.int .i64 2))⟩,
        ⟨(some 74), none, .mv (.t 75)⟩])
       (.cond (.t 74)
         .skip
         (.seq (.reg [⟨(some 76), none, .bin .eql (.t 45) (.c (.int .i64 4))⟩,
          ⟨(some 74), none, .mv (.t 76)⟩])
         (.cond (.t 74)
           .skip
           (.reg [⟨(some 77), none, .bin .eql (.t 45) (.c (.int .i64 5))⟩,
            ⟨(some 74), none, .mv (.t 77)⟩])))))
       (.cond (.t 74)
         .skip
         (.seq (.reg [⟨(some 2), none, .mv (.c (.bool false))⟩])
         .ret)))))))))
  (.seq (.reg [⟨(some 78), none, .mv (.t 4)⟩,
   ⟨(some 79), none, .mv (.t 78)⟩,
   ⟨(some 80), (some (79, true)), .ld true 8 (.t 3)⟩,
   ⟨(some 81), (some (79, true)), .bld [.int .i64 0, .int .i64 0, .int .i64 0, .int .i64 0, .int .i64 0, .str [], .str [], .str []] [(0, 1), (1, 1), (2, 1), (3, 1), (4, 1), (5, 1), (6, 1), (7, 1)] []⟩,
   ⟨(some 82), (some (79, true)), .equ false [(0, 1), (1, 1), (2, 1), (3, 1), (4, 1), (5, 2), (6, 2), (7, 2)] (.t 80) (.t 81)⟩,
   ⟨(some 83), none, .pick (.t 79) (.t 82) (.c (.bool false))⟩,
   ⟨(some 2), none, .mv (.t 83)⟩])
  .ret)))))))))
theorem k_impl_RecOk : FnOk Tryz.prog 157 84 rc_impl_RecOk [.t 2] := ⟨Tryz.f157, _, [], Tryz.func157, rfl, rfl, by kernel_rfl, by kernel_rfl, follows⟩
theorem ok_impl_RecOk : okF Tryz.prog 157 = true := by kernel_rfl
def rc_impl_ItemsOk_1 : RC :=
  (.seq (.reg [⟨(some 2), none, .bx (.t 0)⟩,
   ⟨(some 3), none, .mv (.c (.bool false))⟩])
  (.seq (.reg [⟨(some 4), none, .fa 0 (.t 2)⟩,
   ⟨(some 5), none, .ld false 1 (.t 4)⟩,
   ⟨(some 6), none, .fa 0 (.t 1)⟩,
   ⟨(some 7), none, .ld false 1 (.t 6)⟩,
   ⟨(some 8), none, .bin .eql (.t 5) (.t 7)⟩,
   ⟨(some 9), none, .mv (.t 8)⟩,
   ⟨(some 10), (some (9, true)), .ld true 9 (.t 2)⟩,
   ⟨(some 11), (some (9, true)), .ld true 9 (.t 1)⟩,
   ⟨(some 12), (some (9, true)), .equ true [(0, 1), (1, 1), (2, 1), (3, 1), (4, 1), (5, 1), (6, 2), (7, 2), (8, 2)] (.t 10) (.t 11)⟩,
   ⟨(some 13), none, .pick (.t 9) (.t 12) (.c (.bool false))⟩,
   ⟨(some 3), none, .mv (.t 13)⟩])
  .ret))
theorem k_impl_ItemsOk_1 : FnOk Tryz.prog 159 14 rc_impl_ItemsOk_1 [.t 3] := ⟨Tryz.f159, _, [], Tryz.func159, rfl, rfl, by kernel_rfl, by kernel_rfl, follows⟩
theorem ok_impl_ItemsOk_1 : okF Tryz.prog 159 = true := by kernel_rfl
def rc_slices_IndexFunc_Item : RC :=
  (.seq (.reg [⟨(some 4), none, .mv (.c (.int .i64 0))⟩])
  (.seq (.seq (.reg [⟨(some 6), none, .mv (.t 0)⟩,
   ⟨(some 7), none, .lenl (.t 6)⟩,
   ⟨(some 8), none, .mv (.c (.int .i64 0))⟩])
  (.blk 0 (.loop (.seq (.reg [⟨(some 9), none, .bin .lss (.t 8) (.t 7)⟩])
    (.seq (.cond (.t 9)
      .skip
      (.exit 0))
    (.seq (.blk 1 (.seq (.reg [⟨(some 10), none, .mv (.t 8)⟩,
      ⟨(some 5), none, .mv (.t 10)⟩])
     (.seq (.reg [⟨(some 11), none, .mv (.t 1)⟩,
      ⟨(some 12), none, .mv (.t 0)⟩,
      ⟨(some 13), none, .mv (.t 5)⟩,
      ⟨(some 14), none, .ia 9 (.t 12) (.t 13)⟩,
      ⟨(some 15), none, .ld true 9 (.t 14)⟩,
      ⟨(some 16), none, .cl (.t 11) [(.t 15)]⟩])
     (.cond (.t 16)
       (.seq (.reg [⟨(some 17), none, .mv (.t 5)⟩,
        ⟨(some 4), none, .mv (.t 17)⟩])
       .ret)
       .skip))))
    (.reg [⟨(some 18), none, .bin .add (.t 8) (.c (.int .i64 1))⟩,
     ⟨(some 8), none, .mv (.t 18)⟩])))))))
  (.seq (.reg [⟨(some 4), none, .mv (.c (.int .i64 (-1)))⟩])
  .ret)))
theorem k_slices_IndexFunc_Item : FnOk Tryz.prog 199 19 rc_slices_IndexFunc_Item [.t 4] := ⟨Tryz.f199, _, [], Tryz.func199, rfl, rfl, by kernel_rfl, by kernel_rfl, follows⟩
theorem ok_slices_IndexFunc_Item : okF Tryz.prog 199 = true := by kernel_rfl
def rc_slices_ContainsFunc_Item : RC :=
  (.seq (.reg [⟨(some 4), none, .mv (.c (.bool false))⟩])
  (.seq (.reg [⟨(some 5), none, .mv (.t 0)⟩,
   ⟨(some 6), none, .mv (.t 1)⟩,
   ⟨(some 7), none, .cl (.c (.fn 199 [])) [(.t 5), (.t 6)]⟩,
   ⟨(some 8), none, .bin .geq (.t 7) (.c (.int .i64 0))⟩,
   ⟨(some 4), none, .mv (.t 8)⟩])
  .ret))
theorem k_slices_ContainsFunc_Item : FnOk Tryz.prog 158 9 rc_slices_ContainsFunc_Item [.t 4] := ⟨Tryz.f158, _, [], Tryz.func158, rfl, rfl, by kernel_rfl, by kernel_rfl, follows⟩
theorem ok_slices_ContainsFunc_Item : okF Tryz.prog 158 = true := by kernel_rfl
def rc_impl_ItemsOk : RC :=
  (.seq (.reg [⟨(some 2), none, .mv (.c (.bool false))⟩])
  (.seq (.seq (.reg [⟨(some 5), none, .mv (.t 0)⟩,
   ⟨(some 6), none, .lenl (.t 5)⟩,
   ⟨(some 7), none, .bin .gtr (.t 6) (.c (.int .i64 200))⟩])
  (.cond (.t 7)
    (.seq (.reg [⟨(some 2), none, .mv (.c (.bool false))⟩])
    .ret)
    .skip))
  (.seq (.seq (.reg [⟨(some 8), none, .mv (.t 0)⟩,
   ⟨(some 9), none, .lenl (.t 8)⟩,
   ⟨(some 10), none, .mv (.c (.int .i64 0))⟩])
  (.blk 0 (.loop (.seq (.reg [⟨(some 11), none, .bin .lss (.t 10) (.t 9)⟩])
    (.seq (.cond (.t 11)
      .skip
      (.exit 0))
    (.seq (.blk 1 (.seq (.reg [⟨(some 12), none, .mv (.t 10)⟩,
      ⟨(some 13), none, .ia 9 (.t 8) (.t 10)⟩,
      ⟨(some 14), none, .ld true 9 (.t 13)⟩,
      ⟨(some 4), none, .al [.int .i64 0, .int .i64 0, .int .i64 0, .int .i64 0, .int .i64 0, .int .i64 0, .str [], .str [], .str []]⟩,
      ⟨(some 3), none, .mv (.t 12)⟩,
      ⟨none, none, .st 9 (.t 4) (.t 14)⟩])
     (.seq (.seq (.reg [⟨(some 15), none, .fa 0 (.t 4)⟩,
      ⟨(some 16), none, .ld false 1 (.t 15)⟩,
      ⟨(some 17), none, .cl (.c (.fn 33 [])) [(.t 16), (.c (.int .i64 1)), (.c (.int .i64 1000000000))]⟩,
      ⟨(some 18), none, .un .not (.t 17)⟩,
      ⟨(some 19), none, .mv (.t 18)⟩,
      ⟨(some 20), (some (19, false)), .fa 1 (.t 4)⟩,
      ⟨(some 21), (some (19, false)), .ld true 8 (.t 20)⟩,
      ⟨(some 22), (some (19, false)), .cl (.c (.fn 157 [])) [(.t 21)]⟩,
      ⟨(some 23), (some (19, false)), .un .not (.t 22)⟩,
      ⟨(some 24), none, .pick (.t 19) (.c (.bool true)) (.t 23)⟩])
     (.cond (.t 24)
       (.seq (.reg [⟨(some 2), none, .mv (.c (.bool false))⟩])
       .ret)
       .skip))
     (.seq (.reg [⟨(some 25), none, .mv (.t 0)⟩,
      ⟨(some 26), none, .mv (.t 3)⟩,
      ⟨(some 27), none, .sle 9 (.t 25) none (some (.t 26))⟩,
      ⟨(some 28), none, .mkf 159 [(.t 4)]⟩,
      ⟨(some 29), none, .cl (.c (.fn 158 [])) [(.t 27), (.t 28)]⟩])
     (.cond (.t 29)
       (.seq (.reg [⟨(some 2), none, .mv (.c (.bool false))⟩])
       .ret)
       .skip)))))
    (.reg [⟨(some 30), none, .bin .add (.t 10) (.c (.int .i64 1))⟩,
     ⟨(some 10), none, .mv (.t 30)⟩])))))))
  (.seq (.reg [⟨(some 2), none, .mv (.c (.bool true))⟩])
  .ret))))
theorem k_impl_ItemsOk : FnOk Tryz.prog 101 31 rc_impl_ItemsOk [.t 2] := ⟨Tryz.f101, _, [], Tryz.func101, rfl, rfl, by kernel_rfl, by kernel_rfl, follows⟩
theorem ok_impl_ItemsOk : okF Tryz.prog 101 = true := by kernel_rfl
def rc_impl_StateOf_1 : RC :=
  (.seq (.reg [⟨(some 1), none, .bx (.t 0)⟩,
   ⟨(some 2), none, .mv (.c (.int .i64 0))⟩,
   ⟨(some 3), none, .mv (.c (.bool false))⟩])
  (.seq (.drw [⟨(some 4), none, .fa 1 (.t 1)⟩,
   ⟨(some 5), none, .ld false 1 (.t 4)⟩,
   ⟨(some 6), none, .fa 0 (.t 1)⟩,
   ⟨(some 7), none, .ld false 1 (.t 6)⟩,
   ⟨(some 8), none, .bin .eql (.t 7) (.c (.int .i64 1))⟩,
   ⟨(some 2), none, .mv (.t 5)⟩,
   ⟨(some 3), none, .mv (.t 8)⟩] [.val [], .val [], .val [], .val [], .val [], .val [], .val []])
  .ret))
theorem k_impl_StateOf_1 : FnOk Tryz.prog 103 9 rc_impl_StateOf_1 [.t 2, .t 3] := ⟨Tryz.f103, _, [], Tryz.func103, rfl, rfl, by kernel_rfl, by kernel_rfl, follows⟩
theorem ok_impl_StateOf_1 : okF Tryz.prog 103 = true := by kernel_rfl
def rc_impl_numbers : RC :=
  (.seq (.reg [⟨(some 4), none, .mv (.c (.nils))⟩])
  (.seq (.reg [⟨(some 10), none, .mv (.c (.nils))⟩,
   ⟨(some 5), none, .mv (.t 10)⟩])
  (.seq (.seq (.reg [⟨(some 11), none, .mv (.t 0)⟩,
   ⟨(some 12), none, .lenl (.t 11)⟩,
   ⟨(some 13), none, .mv (.c (.int .i64 0))⟩])
  (.blk 0 (.loop (.seq (.reg [⟨(some 14), none, .bin .lss (.t 13) (.t 12)⟩])
    (.seq (.cond (.t 14)
      .skip
      (.exit 0))
    (.seq (.blk 1 (.seq (.reg [⟨(some 15), none, .ia 9 (.t 11) (.t 13)⟩,
      ⟨(some 16), none, .ld true 9 (.t 15)⟩,
      ⟨(some 7), none, .al [.int .i64 0, .int .i64 0, .int .i64 0, .int .i64 0, .int .i64 0, .int .i64 0, .str [], .str [], .str []]⟩,
      ⟨none, none, .st 9 (.t 7) (.t 16)⟩])
     (.seq (.reg [⟨(some 18), none, .mv (.t 1)⟩,
      ⟨(some 19), none, .fa 1 (.t 7)⟩,
      ⟨(some 20), none, .ld true 8 (.t 19)⟩,
      ⟨(some 21), none, .cl (.t 18) [(.t 20)]⟩,
      ⟨(some 17), none, .mv (.t 21)⟩,
      ⟨(some 22), none, .ext (.t 17) 0⟩,
      ⟨(some 23), none, .ext (.t 17) 1⟩,
      ⟨(some 8), none, .mv (.t 22)⟩,
      ⟨(some 9), none, .mv (.t 23)⟩])
     (.seq (.reg [⟨(some 24), none, .mv (.t 9)⟩])
     (.cond (.t 24)
       (.reg [⟨(some 25), none, .mv (.t 5)⟩,
        ⟨(some 26), none, .mv (.t 8)⟩,
        ⟨(some 27), none, .bs 1 [.int .i64 0] 1 [(0, (.t 26))]⟩,
        ⟨(some 28), none, .app 1 8 (.t 25) (.t 27)⟩,
        ⟨(some 5), none, .mv (.t 28)⟩])
       .skip)))))
    (.reg [⟨(some 29), none, .bin .add (.t 13) (.c (.int .i64 1))⟩,
     ⟨(some 13), none, .mv (.t 29)⟩])))))))
  (.seq (.reg [⟨(some 30), none, .mv (.t 5)⟩,
   ⟨(some 31), none, .cl (.c (.fn 160 [])) [(.t 30)]⟩])
  (.seq (.reg [⟨(some 32), none, .mv (.t 5)⟩,
   ⟨(some 33), none, .cl (.c (.fn 161 [])) [(.t 32)]⟩,
   ⟨(some 4), none, .mv (.t 33)⟩])
  .ret)))))
theorem k_impl_numbers : FnOk Tryz.prog 102 34 rc_impl_numbers [.t 4] := ⟨Tryz.f102, _, [], Tryz.func102, rfl, rfl, by kernel_rfl, by kernel_rfl, follows⟩
theorem ok_impl_numbers : okF Tryz.prog 102 = true := by kernel_rfl
def rc_impl_about : RC :=
  (.seq (.reg [⟨(some 3), none, .bx (.t 0)⟩,
   ⟨(some 6), none, .mv (.c (.bool false))⟩])
  (.seq (.reg [⟨(some 7), none, .fa 0 (.t 3)⟩,
   ⟨(some 8), none, .ld false 1 (.t 7)⟩,
   ⟨(some 9), none, .mv (.t 1)⟩,
   ⟨(some 10), none, .bin .eql (.t 8) (.t 9)⟩,
   ⟨(some 11), none, .mv (.t 10)⟩,
   ⟨(some 12), (some (11, true)), .fa 1 (.t 3)⟩,
   ⟨(some 13), (some (11, true)), .ld false 1 (.t 12)⟩,
   ⟨(some 14), (some (11, true)), .mv (.t 2)⟩,
   ⟨(some 15), (some (11, true)), .bin .eql (.t 13) (.t 14)⟩,
   ⟨(some 16), none, .pick (.t 11) (.t 15) (.c (.bool false))⟩,
   ⟨(some 6), none, .mv (.t 16)⟩])
  .ret))
theorem k_impl_about : FnOk Tryz.prog 164 17 rc_impl_about [.t 6] := ⟨Tryz.f164, _, [], Tryz.func164, rfl, rfl, by kernel_rfl, by kernel_rfl, follows⟩
theorem ok_impl_about : okF Tryz.prog 164 = true := by kernel_rfl
def rc_impl_boxThere_1 : RC :=
  (.seq (.reg [⟨(some 2), none, .bx (.t 0)⟩,
   ⟨(some 3), none, .mv (.c (.bool false))⟩])
  (.seq (.reg [⟨(some 4), none, .ld true 8 (.t 2)⟩,
   ⟨(some 5), none, .ld false 1 (.t 1)⟩,
   ⟨(some 6), none, .cl (.c (.fn 164 [])) [(.t 4), (.c (.int .i64 2)), (.t 5)]⟩,
   ⟨(some 3), none, .mv (.t 6)⟩])
  .ret))
theorem k_impl_boxThere_1 : FnOk Tryz.prog 163 7 rc_impl_boxThere_1 [.t 3] := ⟨Tryz.f163, _, [], Tryz.func163, rfl, rfl, by kernel_rfl, by kernel_rfl, follows⟩
theorem ok_impl_boxThere_1 : okF Tryz.prog 163 = true := by kernel_rfl
def rc_impl_bySeq : RC :=
  (.seq (.reg [⟨(some 2), none, .bx (.t 0)⟩,
   ⟨(some 3), none, .bx (.t 1)⟩,
   ⟨(some 4), none, .mv (.c (.bool false))⟩])
  (.seq (.reg [⟨(some 5), none, .fa 0 (.t 2)⟩,
   ⟨(some 6), none, .ld false 1 (.t 5)⟩,
   ⟨(some 7), none, .fa 0 (.t 3)⟩,
   ⟨(some 8), none, .ld false 1 (.t 7)⟩,
   ⟨(some 9), none, .bin .lss (.t 6) (.t 8)⟩,
   ⟨(some 4), none, .mv (.t 9)⟩])
  .ret))
theorem k_impl_bySeq : FnOk Tryz.prog 165 10 rc_impl_bySeq [.t 4] := ⟨Tryz.f165, _, [], Tryz.func165, rfl, rfl, by kernel_rfl, by kernel_rfl, follows⟩
theorem ok_impl_bySeq : okF Tryz.prog 165 = true := by kernel_rfl
def rc_impl_latest : RC :=
  (.seq (.reg [⟨(some 6), none, .al [.int .i64 0, .int .i64 0, .int .i64 0, .int .i64 0, .int .i64 0, .int .i64 0, .str [], .str [], .str []]⟩,
   ⟨(some 7), none, .mv (.c (.bool false))⟩])
  (.seq (.reg [⟨(some 12), none, .bld [.int .i64 0, .int .i64 0, .int .i64 0, .int .i64 0, .int .i64 0, .int .i64 0, .str [], .str [], .str []] [(0, 1), (1, 8)] []⟩,
   ⟨(some 8), none, .al [.int .i64 0, .int .i64 0, .int .i64 0, .int .i64 0, .int .i64 0, .int .i64 0, .str [], .str [], .str []]⟩,
   ⟨none, none, .st 9 (.t 8) (.t 12)⟩,
   ⟨(some 9), none, .mv (.c (.bool false))⟩])
  (.seq (.seq (.reg [⟨(some 13), none, .mv (.t 0)⟩,
   ⟨(some 14), none, .lenl (.t 13)⟩,
   ⟨(some 15), none, .mv (.c (.int .i64 0))⟩])
  (.blk 0 (.loop (.seq (.reg [⟨(some 16), none, .bin .lss (.t 15) (.t 14)⟩])
    (.seq (.cond (.t 16)
      .skip
      (.exit 0))
    (.seq (.blk 1 (.seq (.reg [⟨(some 17), none, .ia 9 (.t 13) (.t 15)⟩,
      ⟨(some 18), none, .ld true 9 (.t 17)⟩,
      ⟨(some 11), none, .al [.int .i64 0, .int .i64 0, .int .i64 0, .int .i64 0, .int .i64 0, .int .i64 0, .str [], .str [], .str []]⟩,
      ⟨none, none, .st 9 (.t 11) (.t 18)⟩])
     (.seq (.reg [⟨(some 19), none, .mv (.t 1)⟩,
      ⟨(some 20), none, .fa 1 (.t 11)⟩,
      ⟨(some 21), none, .ld true 8 (.t 20)⟩,
      ⟨(some 22), none, .cl (.t 19) [(.t 21)]⟩,
      ⟨(some 23), none, .mv (.t 22)⟩,
      ⟨(some 24), (some (23, true)), .mv (.t 9)⟩,
      ⟨(some 25), (some (23, true)), .un .not (.t 24)⟩,
      ⟨(some 26), (some (23, true)), .mv (.t 25)⟩,
      ⟨(some 27), (some (26, false)), .mv (.t 2)⟩,
      ⟨(some 28), (some (26, false)), .ld true 9 (.t 8)⟩,
      ⟨(some 29), (some (26, false)), .ld true 9 (.t 11)⟩,
      ⟨(some 30), (some (26, false)), .cl (.t 27) [(.t 28), (.t 29)]⟩,
      ⟨(some 31), (some (23, true)), .pick (.t 26) (.c (.bool true)) (.t 30)⟩,
      ⟨(some 32), none, .pick (.t 23) (.t 31) (.c (.bool false))⟩])
     (.cond (.t 32)
       (.reg [⟨(some 33), none, .ld true 9 (.t 11)⟩,
        ⟨none, none, .st 9 (.t 8) (.t 33)⟩,
        ⟨(some 9), none, .mv (.c (.bool true))⟩])
       .skip))))
    (.reg [⟨(some 34), none, .bin .add (.t 15) (.c (.int .i64 1))⟩,
     ⟨(some 15), none, .mv (.t 34)⟩])))))))
  (.seq (.reg [⟨(some 35), none, .ld true 9 (.t 8)⟩,
   ⟨(some 36), none, .mv (.t 9)⟩,
   ⟨none, none, .st 9 (.t 6) (.t 35)⟩,
   ⟨(some 7), none, .mv (.t 36)⟩])
  .ret))))
theorem k_impl_latest : FnOk Tryz.prog 162 37 rc_impl_latest [.cell 6 true 9, .t 7] := ⟨Tryz.f162, _, [], Tryz.func162, rfl, rfl, by kernel_rfl, by kernel_rfl, follows⟩
theorem ok_impl_latest : okF Tryz.prog 162 = true := by kernel_rfl
def rc_impl_boxThere_2 : RC :=
  (.seq (.reg [⟨(some 2), none, .bx (.t 0)⟩,
   ⟨(some 3), none, .mv (.c (.bool false))⟩])
  (.seq (.reg [⟨(some 4), none, .ld true 8 (.t 2)⟩,
   ⟨(some 5), none, .ld false 1 (.t 1)⟩,
   ⟨(some 6), none, .cl (.c (.fn 164 [])) [(.t 4), (.c (.int .i64 1)), (.t 5)]⟩,
   ⟨(some 3), none, .mv (.t 6)⟩])
  .ret))
theorem k_impl_boxThere_2 : FnOk Tryz.prog 166 7 rc_impl_boxThere_2 [.t 3] := ⟨Tryz.f166, _, [], Tryz.func166, rfl, rfl, by kernel_rfl, by kernel_rfl, follows⟩
theorem ok_impl_boxThere_2 : okF Tryz.prog 166 = true := by kernel_rfl
def rc_impl_byNext : RC :=
  (.seq (.reg [⟨(some 2), none, .bx (.t 0)⟩,
   ⟨(some 3), none, .bx (.t 1)⟩,
   ⟨(some 4), none, .mv (.c (.bool false))⟩])
  (.seq (.seq (.reg [⟨(some 5), none, .fa 1 (.t 2)⟩,
   ⟨(some 6), none, .fa 3 (.t 5)⟩,
   ⟨(some 7), none, .ld false 1 (.t 6)⟩,
   ⟨(some 8), none, .fa 1 (.t 3)⟩,
   ⟨(some 9), none, .fa 3 (.t 8)⟩,
   ⟨(some 10), none, .ld false 1 (.t 9)⟩,
   ⟨(some 11), none, .bin .neq (.t 7) (.t 10)⟩])
  (.cond (.t 11)
    (.seq (.reg [⟨(some 12), none, .fa 1 (.t 2)⟩,
     ⟨(some 13), none, .fa 3 (.t 12)⟩,
     ⟨(some 14), none, .ld false 1 (.t 13)⟩,
     ⟨(some 15), none, .fa 1 (.t 3)⟩,
     ⟨(some 16), none, .fa 3 (.t 15)⟩,
     ⟨(some 17), none, .ld false 1 (.t 16)⟩,
     ⟨(some 18), none, .bin .lss (.t 14) (.t 17)⟩,
     ⟨(some 4), none, .mv (.t 18)⟩])
    .ret)
    .skip))
  (.seq (.reg [⟨(some 19), none, .fa 0 (.t 2)⟩,
   ⟨(some 20), none, .ld false 1 (.t 19)⟩,
   ⟨(some 21), none, .fa 0 (.t 3)⟩,
   ⟨(some 22), none, .ld false 1 (.t 21)⟩,
   ⟨(some 23), none, .bin .lss (.t 20) (.t 22)⟩,
   ⟨(some 4), none, .mv (.t 23)⟩])
  .ret)))
theorem k_impl_byNext : FnOk Tryz.prog 167 24 rc_impl_byNext [.t 4] := ⟨Tryz.f167, _, [], Tryz.func167, rfl, rfl, by kernel_rfl, by kernel_rfl, follows⟩
theorem ok_impl_byNext : okF Tryz.prog 167 = true := by kernel_rfl
def rc_impl_boxThere : RC :=
  (.seq (.reg [⟨(some 3), none, .bx (.t 1)⟩,
   ⟨(some 4), none, .al [.int .i64 0, .int .i64 0, .int .i64 0, .int .i64 0, .int .i64 0, .int .i64 0, .str [], .str [], .str []]⟩,
   ⟨(some 5), none, .mv (.c (.bool false))⟩])
  (.seq (.seq (.reg [⟨(some 9), none, .mv (.t 0)⟩,
   ⟨(some 10), none, .mkf 163 [(.t 3)]⟩,
   ⟨(some 11), none, .cl (.c (.fn 162 [])) [(.t 9), (.t 10), (.c (.fn 165 []))]⟩,
   ⟨(some 8), none, .mv (.t 11)⟩,
   ⟨(some 12), none, .ext (.t 8) 0⟩,
   ⟨(some 13), none, .ext (.t 8) 1⟩,
   ⟨(some 6), none, .al [.int .i64 0, .int .i64 0, .int .i64 0, .int .i64 0, .int .i64 0, .int .i64 0, .str [], .str [], .str []]⟩,
   ⟨none, none, .st 9 (.t 6) (.t 12)⟩,
   ⟨(some 7), none, .mv (.t 13)⟩])
  (.seq (.reg [⟨(some 14), none, .mv (.t 7)⟩])
  (.cond (.t 14)
    (.seq (.reg [⟨(some 15), none, .bld [.int .i64 0, .int .i64 0, .int .i64 0, .int .i64 0, .int .i64 0, .int .i64 0, .str [], .str [], .str []] [(0, 1), (1, 8)] []⟩,
     ⟨none, none, .st 9 (.t 4) (.t 15)⟩,
     ⟨(some 5), none, .mv (.c (.bool false))⟩])
    .ret)
    .skip)))
  (.seq (.reg [⟨(some 16), none, .mv (.t 0)⟩,
   ⟨(some 17), none, .mkf 166 [(.t 3)]⟩,
   ⟨(some 18), none, .cl (.c (.fn 162 [])) [(.t 16), (.t 17), (.c (.fn 167 []))]⟩,
   ⟨(some 19), none, .ext (.t 18) 0⟩,
   ⟨(some 20), none, .ext (.t 18) 1⟩,
   ⟨none, none, .st 9 (.t 4) (.t 19)⟩,
   ⟨(some 5), none, .mv (.t 20)⟩])
  .ret)))
theorem k_impl_boxThere : FnOk Tryz.prog 104 21 rc_impl_boxThere [.cell 4 true 9, .t 5] := ⟨Tryz.f104, _, [], Tryz.func104, rfl, rfl, by kernel_rfl, by kernel_rfl, follows⟩
theorem ok_impl_boxThere : okF Tryz.prog 104 = true := by kernel_rfl
def rc_impl_boxState_1 : RC :=
  (.seq (.reg [⟨(some 2), none, .bx (.t 0)⟩,
   ⟨(some 3), none, .mv (.c (.int .i64 0))⟩,
   ⟨(some 4), none, .mv (.c (.bool false))⟩])
  (.seq (.drw [⟨(some 5), none, .fa 2 (.t 2)⟩,
   ⟨(some 6), none, .ld false 1 (.t 5)⟩,
   ⟨(some 7), none, .ld true 8 (.t 2)⟩,
   ⟨(some 8), none, .ld false 1 (.t 1)⟩,
   ⟨(some 9), none, .cl (.c (.fn 164 [])) [(.t 7), (.c (.int .i64 3)), (.t 8)]⟩,
   ⟨(some 10), none, .mv (.t 9)⟩,
   ⟨(some 11), (some (10, false)), .ld true 8 (.t 2)⟩,
   ⟨(some 12), (some (10, false)), .ld false 1 (.t 1)⟩,
   ⟨(some 13), (some (10, false)), .cl (.c (.fn 164 [])) [(.t 11), (.c (.int .i64 5)), (.t 12)]⟩,
   ⟨(some 14), none, .pick (.t 10) (.c (.bool true)) (.t 13)⟩,
   ⟨(some 3), none, .mv (.t 6)⟩,
   ⟨(some 4), none, .mv (.t 14)⟩] [.val [], .val [], .val [], .val [], .val [], .val [], .val [], .val [], .val [], .val [], .val [], .val []])
  .ret))
theorem k_impl_boxState_1 : FnOk Tryz.prog 168 15 rc_impl_boxState_1 [.t 3, .t 4] := ⟨Tryz.f168, _, [], Tryz.func168, rfl, rfl, by kernel_rfl, by kernel_rfl, follows⟩
theorem ok_impl_boxState_1 : okF Tryz.prog 168 = true := by kernel_rfl
def rc_impl_mailItem_1 : RC :=
  (.seq (.reg [⟨(some 4), none, .bx (.t 0)⟩,
   ⟨(some 5), none, .mv (.c (.bool false))⟩])
  (.seq (.reg [⟨(some 6), none, .ld true 8 (.t 4)⟩,
   ⟨(some 7), none, .ld false 1 (.t 1)⟩,
   ⟨(some 8), none, .ld false 1 (.t 2)⟩,
   ⟨(some 9), none, .cl (.c (.fn 164 [])) [(.t 6), (.t 7), (.t 8)]⟩,
   ⟨(some 10), none, .mv (.t 9)⟩,
   ⟨(some 11), (some (10, true)), .fa 2 (.t 4)⟩,
   ⟨(some 12), (some (10, true)), .ld false 1 (.t 11)⟩,
   ⟨(some 13), (some (10, true)), .ld false 1 (.t 3)⟩,
   ⟨(some 14), (some (10, true)), .bin .eql (.t 12) (.t 13)⟩,
   ⟨(some 15), none, .pick (.t 10) (.t 14) (.c (.bool false))⟩,
   ⟨(some 5), none, .mv (.t 15)⟩])
  .ret))
theorem k_impl_mailItem_1 : FnOk Tryz.prog 202 16 rc_impl_mailItem_1 [.t 5] := ⟨Tryz.f202, _, [], Tryz.func202, rfl, rfl, by kernel_rfl, by kernel_rfl, follows⟩
theorem ok_impl_mailItem_1 : okF Tryz.prog 202 = true := by kernel_rfl
def rc_impl_mailItem : RC :=
  (.seq (.reg [⟨(some 5), none, .bx (.t 1)⟩,
   ⟨(some 6), none, .bx (.t 2)⟩,
   ⟨(some 7), none, .bx (.t 3)⟩,
   ⟨(some 8), none, .al [.int .i64 0, .int .i64 0, .int .i64 0, .int .i64 0, .int .i64 0, .int .i64 0, .str [], .str [], .str []]⟩,
   ⟨(some 9), none, .mv (.c (.bool false))⟩])
  (.seq (.reg [⟨(some 10), none, .mv (.t 0)⟩,
   ⟨(some 11), none, .mkf 202 [(.t 5), (.t 6), (.t 7)]⟩,
   ⟨(some 12), none, .cl (.c (.fn 162 [])) [(.t 10), (.t 11), (.c (.fn 165 []))]⟩,
   ⟨(some 13), none, .ext (.t 12) 0⟩,
   ⟨(some 14), none, .ext (.t 12) 1⟩,
   ⟨none, none, .st 9 (.t 8) (.t 13)⟩,
   ⟨(some 9), none, .mv (.t 14)⟩])
  .ret))
theorem k_impl_mailItem : FnOk Tryz.prog 170 15 rc_impl_mailItem [.cell 8 true 9, .t 9] := ⟨Tryz.f170, _, [], Tryz.func170, rfl, rfl, by kernel_rfl, by kernel_rfl, follows⟩
theorem ok_impl_mailItem : okF Tryz.prog 170 = true := by kernel_rfl
def rc_impl_mailThere : RC :=
  (.seq (.reg [⟨(some 6), none, .al [.int .i64 0, .int .i64 0, .int .i64 0, .int .i64 0, .int .i64 0, .int .i64 0, .str [], .str [], .str []]⟩,
   ⟨(some 7), none, .mv (.c (.bool false))⟩])
  (.seq (.seq (.reg [⟨(some 13), none, .mv (.t 0)⟩,
   ⟨(some 14), none, .mv (.t 1)⟩,
   ⟨(some 15), none, .cl (.c (.fn 104 [])) [(.t 13), (.t 14)]⟩,
   ⟨(some 12), none, .mv (.t 15)⟩,
   ⟨(some 16), none, .ext (.t 12) 0⟩,
   ⟨(some 17), none, .ext (.t 12) 1⟩,
   ⟨(some 8), none, .al [.int .i64 0, .int .i64 0, .int .i64 0, .int .i64 0, .int .i64 0, .int .i64 0, .str [], .str [], .str []]⟩,
   ⟨none, none, .st 9 (.t 8) (.t 16)⟩,
   ⟨(some 9), none, .mv (.t 17)⟩])
  (.seq (.reg [⟨(some 18), none, .mv (.t 9)⟩,
   ⟨(some 19), none, .un .not (.t 18)⟩])
  (.cond (.t 19)
    (.seq (.reg [⟨(some 20), none, .bld [.int .i64 0, .int .i64 0, .int .i64 0, .int .i64 0, .int .i64 0, .int .i64 0, .str [], .str [], .str []] [(0, 1), (1, 8)] []⟩,
     ⟨none, none, .st 9 (.t 6) (.t 20)⟩,
     ⟨(some 7), none, .mv (.c (.bool false))⟩])
    .ret)
    .skip)))
  (.seq (.seq (.reg [⟨(some 22), none, .mv (.t 0)⟩,
   ⟨(some 23), none, .mv (.t 1)⟩,
   ⟨(some 24), none, .mv (.t 2)⟩,
   ⟨(some 25), none, .cl (.c (.fn 170 [])) [(.t 22), (.c (.int .i64 5)), (.t 23), (.t 24)]⟩,
   ⟨(some 21), none, .mv (.t 25)⟩,
   ⟨(some 26), none, .ext (.t 21) 0⟩,
   ⟨(some 27), none, .ext (.t 21) 1⟩,
   ⟨(some 10), none, .al [.int .i64 0, .int .i64 0, .int .i64 0, .int .i64 0, .int .i64 0, .int .i64 0, .str [], .str [], .str []]⟩,
   ⟨none, none, .st 9 (.t 10) (.t 26)⟩,
   ⟨(some 11), none, .mv (.t 27)⟩])
  (.seq (.reg [⟨(some 28), none, .mv (.t 11)⟩])
  (.cond (.t 28)
    (.seq (.reg [⟨(some 29), none, .bld [.int .i64 0, .int .i64 0, .int .i64 0, .int .i64 0, .int .i64 0, .int .i64 0, .str [], .str [], .str []] [(0, 1), (1, 8)] []⟩,
     ⟨none, none, .st 9 (.t 6) (.t 29)⟩,
     ⟨(some 7), none, .mv (.c (.bool false))⟩])
    .ret)
    .skip)))
  (.seq (.reg [⟨(some 30), none, .mv (.t 0)⟩,
   ⟨(some 31), none, .mv (.t 1)⟩,
   ⟨(some 32), none, .mv (.t 2)⟩,
   ⟨(some 33), none, .cl (.c (.fn 170 [])) [(.t 30), (.c (.int .i64 3)), (.t 31), (.t 32)]⟩,
   ⟨(some 34), none, .ext (.t 33) 0⟩,
   ⟨(some 35), none, .ext (.t 33) 1⟩,
   ⟨none, none, .st 9 (.t 6) (.t 34)⟩,
   ⟨(some 7), none, .mv (.t 35)⟩])
  .ret))))
theorem k_impl_mailThere : FnOk Tryz.prog 169 36 rc_impl_mailThere [.cell 6 true 9, .t 7] := ⟨Tryz.f169, _, [], Tryz.func169, rfl, rfl, by kernel_rfl, by kernel_rfl, follows⟩
theorem ok_impl_mailThere : okF Tryz.prog 169 = true := by kernel_rfl
def rc_impl_boxState : RC :=
  (.seq (.reg [⟨(some 3), none, .bx (.t 1)⟩,
   ⟨(some 4), none, .al [.int .i64 0, .str [], .str [], .int .i64 0, .nils]⟩])
  (.seq (.reg [⟨(some 15), none, .fa 1 (.t 3)⟩,
   ⟨(some 16), none, .fa 1 (.t 15)⟩,
   ⟨(some 17), none, .ld false 1 (.t 16)⟩,
   ⟨(some 5), none, .al [.int .i64 0]⟩,
   ⟨none, none, .st 1 (.t 5) (.t 17)⟩])
  (.seq (.reg [⟨(some 18), none, .ld false 1 (.t 5)⟩,
   ⟨(some 19), none, .fa 1 (.t 3)⟩,
   ⟨(some 20), none, .fa 5 (.t 19)⟩,
   ⟨(some 21), none, .ld false 1 (.t 20)⟩,
   ⟨(some 22), none, .fa 1 (.t 3)⟩,
   ⟨(some 23), none, .fa 6 (.t 22)⟩,
   ⟨(some 24), none, .ld false 1 (.t 23)⟩,
   ⟨(some 25), none, .fa 1 (.t 3)⟩,
   ⟨(some 26), none, .fa 3 (.t 25)⟩,
   ⟨(some 27), none, .ld false 1 (.t 26)⟩,
   ⟨(some 28), none, .bld [.int .i64 0, .str [], .str [], .int .i64 0, .nils] [(0, 1), (1, 1), (2, 1), (3, 1), (4, 1)] [(0, (.t 18)), (1, (.t 21)), (2, (.t 24)), (3, (.t 27))]⟩,
   ⟨(some 6), none, .al [.int .i64 0, .str [], .str [], .int .i64 0, .nils]⟩,
   ⟨none, none, .st 5 (.t 6) (.t 28)⟩])
  (.seq (.reg [⟨(some 29), none, .mv (.t 0)⟩,
   ⟨(some 30), none, .mkf 168 [(.t 5)]⟩,
   ⟨(some 31), none, .cl (.c (.fn 102 [])) [(.t 29), (.t 30)]⟩,
   ⟨(some 7), none, .mv (.t 31)⟩])
  (.seq (.seq (.reg [⟨(some 32), none, .mv (.t 7)⟩,
   ⟨(some 33), none, .lenl (.t 32)⟩,
   ⟨(some 34), none, .mv (.c (.int .i64 0))⟩])
  (.blk 0 (.loop (.seq (.reg [⟨(some 35), none, .bin .lss (.t 34) (.t 33)⟩])
    (.seq (.cond (.t 35)
      .skip
      (.exit 0))
    (.seq (.blk 1 (.seq (.reg [⟨(some 36), none, .ia 1 (.t 32) (.t 34)⟩,
      ⟨(some 37), none, .ld false 1 (.t 36)⟩,
      ⟨(some 9), none, .mv (.t 37)⟩])
     (.seq (.reg [⟨(some 38), none, .fa 3 (.t 6)⟩,
      ⟨(some 39), none, .ld false 1 (.t 38)⟩,
      ⟨(some 40), none, .mv (.t 9)⟩,
      ⟨(some 41), none, .bin .add (.t 40) (.c (.int .i64 1))⟩,
      ⟨(some 42), none, .mx (.t 39) (.t 41)⟩,
      ⟨(some 43), none, .fa 3 (.t 6)⟩,
      ⟨none, none, .st 1 (.t 43) (.t 42)⟩])
     (.seq (.reg [⟨(some 45), none, .mv (.t 0)⟩,
      ⟨(some 46), none, .ld false 1 (.t 5)⟩,
      ⟨(some 47), none, .mv (.t 9)⟩,
      ⟨(some 48), none, .cl (.c (.fn 169 [])) [(.t 45), (.t 46), (.t 47)]⟩,
      ⟨(some 44), none, .mv (.t 48)⟩,
      ⟨(some 49), none, .ext (.t 44) 0⟩,
      ⟨(some 50), none, .ext (.t 44) 1⟩,
      ⟨(some 10), none, .al [.int .i64 0, .int .i64 0, .int .i64 0, .int .i64 0, .int .i64 0, .int .i64 0, .str [], .str [], .str []]⟩,
      ⟨none, none, .st 9 (.t 10) (.t 49)⟩,
      ⟨(some 11), none, .mv (.t 50)⟩])
     (.seq (.seq (.reg [⟨(some 51), none, .mv (.t 11)⟩,
      ⟨(some 52), none, .un .not (.t 51)⟩])
     (.cond (.t 52)
       (.exit 1)
       .skip))
     (.seq (.reg [⟨(some 53), none, .mv (.t 9)⟩,
      ⟨(some 54), none, .fa 1 (.t 10)⟩,
      ⟨(some 55), none, .fa 4 (.t 54)⟩,
      ⟨(some 56), none, .ld false 1 (.t 55)⟩,
      ⟨(some 57), none, .fa 1 (.t 10)⟩,
      ⟨(some 58), none, .fa 7 (.t 57)⟩,
      ⟨(some 59), none, .ld false 1 (.t 58)⟩,
      ⟨(some 60), none, .bld [.int .i64 0, .int .i64 0, .str []] [(0, 1), (1, 1), (2, 1)] [(0, (.t 53)), (1, (.t 56)), (2, (.t 59))]⟩,
      ⟨(some 12), none, .al [.int .i64 0, .int .i64 0, .str []]⟩,
      ⟨none, none, .st 3 (.t 12) (.t 60)⟩])
     (.seq (.seq (.reg [⟨(some 62), none, .mv (.t 0)⟩,
      ⟨(some 63), none, .ld false 1 (.t 5)⟩,
      ⟨(some 64), none, .mv (.t 9)⟩,
      ⟨(some 65), none, .cl (.c (.fn 170 [])) [(.t 62), (.c (.int .i64 4)), (.t 63), (.t 64)]⟩,
      ⟨(some 61), none, .mv (.t 65)⟩,
      ⟨(some 66), none, .ext (.t 61) 0⟩,
      ⟨(some 67), none, .ext (.t 61) 1⟩,
      ⟨(some 13), none, .al [.int .i64 0, .int .i64 0, .int .i64 0, .int .i64 0, .int .i64 0, .int .i64 0, .str [], .str [], .str []]⟩,
      ⟨none, none, .st 9 (.t 13) (.t 66)⟩,
      ⟨(some 14), none, .mv (.t 67)⟩])
     (.seq (.reg [⟨(some 68), none, .mv (.t 14)⟩])
     (.cond (.t 68)
       (.reg [⟨(some 69), none, .fa 1 (.t 13)⟩,
        ⟨(some 70), none, .fa 4 (.t 69)⟩,
        ⟨(some 71), none, .ld false 1 (.t 70)⟩,
        ⟨(some 72), none, .fa 1 (.t 12)⟩,
        ⟨none, none, .st 1 (.t 72) (.t 71)⟩])
       .skip)))
     (.reg [⟨(some 73), none, .fa 4 (.t 6)⟩,
      ⟨(some 74), none, .ld false 1 (.t 73)⟩,
      ⟨(some 75), none, .ld true 3 (.t 12)⟩,
      ⟨(some 76), none, .bs 3 [.int .i64 0, .int .i64 0, .str []] 1 [(0, (.t 75))]⟩,
      ⟨(some 77), none, .app 3 32 (.t 74) (.t 76)⟩,
      ⟨(some 78), none, .fa 4 (.t 6)⟩,
      ⟨none, none, .st 1 (.t 78) (.t 77)⟩]))))))))
    (.reg [⟨(some 79), none, .bin .add (.t 34) (.c (.int .i64 1))⟩,
     ⟨(some 34), none, .mv (.t 79)⟩])))))))
  (.seq (.reg [⟨(some 80), none, .ld true 5 (.t 6)⟩,
   ⟨none, none, .st 5 (.t 4) (.t 80)⟩])
  .ret))))))
theorem k_impl_boxState : FnOk Tryz.prog 105 81 rc_impl_boxState [.cell 4 true 5] := ⟨Tryz.f105, _, [], Tryz.func105, rfl, rfl, by kernel_rfl, by kernel_rfl, follows⟩
theorem ok_impl_boxState : okF Tryz.prog 105 = true := by kernel_rfl
def rc_impl_StateOf : RC :=
  (.seq (.reg [⟨(some 2), none, .al [.nils]⟩])
  (.seq (.seq (.reg [⟨(some 8), none, .mv (.t 0)⟩,
   ⟨(some 9), none, .cl (.c (.fn 101 [])) [(.t 8)]⟩,
   ⟨(some 10), none, .un .not (.t 9)⟩])
  (.cond (.t 10)
    (.seq (.reg [⟨(some 11), none, .bld [.nils] [(0, 1)] []⟩,
     ⟨none, none, .st 1 (.t 2) (.t 11)⟩])
    .ret)
    .skip))
  (.seq (.reg [⟨(some 12), none, .bld [.nils] [(0, 1)] []⟩,
   ⟨(some 3), none, .al [.nils]⟩,
   ⟨none, none, .st 1 (.t 3) (.t 12)⟩])
  (.seq (.seq (.reg [⟨(some 13), none, .mv (.t 0)⟩,
   ⟨(some 14), none, .cl (.c (.fn 102 [])) [(.t 13), (.c (.fn 103 []))]⟩,
   ⟨(some 15), none, .lenl (.t 14)⟩,
   ⟨(some 16), none, .mv (.c (.int .i64 0))⟩])
  (.blk 0 (.loop (.seq (.reg [⟨(some 17), none, .bin .lss (.t 16) (.t 15)⟩])
    (.seq (.cond (.t 17)
      .skip
      (.exit 0))
    (.seq (.blk 1 (.seq (.reg [⟨(some 18), none, .ia 1 (.t 14) (.t 16)⟩,
      ⟨(some 19), none, .ld false 1 (.t 18)⟩,
      ⟨(some 5), none, .mv (.t 19)⟩])
     (.seq (.reg [⟨(some 21), none, .mv (.t 0)⟩,
      ⟨(some 22), none, .mv (.t 5)⟩,
      ⟨(some 23), none, .cl (.c (.fn 104 [])) [(.t 21), (.t 22)]⟩,
      ⟨(some 20), none, .mv (.t 23)⟩,
      ⟨(some 24), none, .ext (.t 20) 0⟩,
      ⟨(some 25), none, .ext (.t 20) 1⟩,
      ⟨(some 6), none, .al [.int .i64 0, .int .i64 0, .int .i64 0, .int .i64 0, .int .i64 0, .int .i64 0, .str [], .str [], .str []]⟩,
      ⟨none, none, .st 9 (.t 6) (.t 24)⟩,
      ⟨(some 7), none, .mv (.t 25)⟩])
     (.seq (.reg [⟨(some 26), none, .mv (.t 7)⟩])
     (.cond (.t 26)
       (.drw [⟨(some 27), none, .fa 0 (.t 3)⟩,
        ⟨(some 28), none, .ld false 1 (.t 27)⟩,
        ⟨(some 29), none, .mv (.t 0)⟩,
        ⟨(some 30), none, .ld true 9 (.t 6)⟩,
        ⟨(some 31), none, .cl (.c (.fn 105 [])) [(.t 29), (.t 30)]⟩,
        ⟨(some 32), none, .bs 5 [.int .i64 0, .str [], .str [], .int .i64 0, .nils] 1 [(0, (.t 31))]⟩,
        ⟨(some 33), none, .app 5 72 (.t 28) (.t 32)⟩,
        ⟨(some 34), none, .fa 0 (.t 3)⟩,
        ⟨none, none, .st 1 (.t 34) (.t 33)⟩] [.val [], .val [], .val [], .val [], .chn [0, 1], .chn [0, 1], .chn [], .val [], .chn []])
       .skip)))))
    (.reg [⟨(some 35), none, .bin .add (.t 16) (.c (.int .i64 1))⟩,
     ⟨(some 16), none, .mv (.t 35)⟩])))))))
  (.seq (.reg [⟨(some 36), none, .ld true 1 (.t 3)⟩,
   ⟨none, none, .st 1 (.t 2) (.t 36)⟩])
  .ret)))))
theorem k_impl_StateOf : FnOk Tryz.prog 53 37 rc_impl_StateOf [.cell 2 true 1] := ⟨Tryz.f53, _, [(9, [4])], Tryz.func53, rfl, rfl, by kernel_rfl, by kernel_rfl, follows⟩
theorem ok_impl_StateOf : okF Tryz.prog 53 = true := by kernel_rfl
def rc_impl_ItemsOf : RC :=
  (.seq (.reg [⟨(some 1), none, .bx (.t 0)⟩,
   ⟨(some 2), none, .mv (.c (.nils))⟩])
  (.seq (.reg [⟨(some 6), none, .mv (.c (.nils))⟩,
   ⟨(some 3), none, .mv (.t 6)⟩])
  (.seq (.seq (.reg [⟨(some 7), none, .fa 3 (.t 1)⟩,
   ⟨(some 8), none, .ld false 1 (.t 7)⟩,
   ⟨(some 9), none, .lenl (.t 8)⟩,
   ⟨(some 10), none, .mv (.c (.int .i64 0))⟩])
  (.blk 0 (.loop (.seq (.reg [⟨(some 11), none, .bin .lss (.t 10) (.t 9)⟩])
    (.seq (.cond (.t 11)
      .skip
      (.exit 0))
    (.seq (.blk 1 (.seq (.reg [⟨(some 12), none, .ia 4 (.t 8) (.t 10)⟩,
      ⟨(some 13), none, .ld true 4 (.t 12)⟩,
      ⟨(some 5), none, .al [.int .i64 0, .int .i64 0, .int .i64 0, .nils]⟩,
      ⟨none, none, .st 4 (.t 5) (.t 13)⟩])
     (.reg [⟨(some 14), none, .mv (.t 3)⟩,
      ⟨(some 15), none, .fa 3 (.t 5)⟩,
      ⟨(some 16), none, .ld false 1 (.t 15)⟩,
      ⟨(some 17), none, .app 9 96 (.t 14) (.t 16)⟩,
      ⟨(some 3), none, .mv (.t 17)⟩])))
    (.reg [⟨(some 18), none, .bin .add (.t 10) (.c (.int .i64 1))⟩,
     ⟨(some 10), none, .mv (.t 18)⟩])))))))
  (.seq (.reg [⟨(some 19), none, .mv (.t 3)⟩,
   ⟨(some 2), none, .mv (.t 19)⟩])
  .ret))))
theorem k_impl_ItemsOf : FnOk Tryz.prog 54 20 rc_impl_ItemsOf [.t 2] := ⟨Tryz.f54, _, [], Tryz.func54, rfl, rfl, by kernel_rfl, by kernel_rfl, follows⟩
theorem ok_impl_ItemsOf : okF Tryz.prog 54 = true := by kernel_rfl
def rc_impl_StateNow : RC :=
  (.seq (.reg [⟨(some 1), none, .bx (.t 0)⟩,
   ⟨(some 2), none, .al [.nils]⟩])
  (.seq (.reg [⟨(some 3), none, .fa 0 (.t 1)⟩,
   ⟨(some 4), none, .ld true 8 (.t 3)⟩,
   ⟨(some 5), none, .cl (.c (.fn 54 [])) [(.t 4)]⟩,
   ⟨(some 6), none, .cl (.c (.fn 53 [])) [(.t 5)]⟩,
   ⟨none, none, .st 1 (.t 2) (.t 6)⟩])
  .ret))
theorem k_impl_StateNow : FnOk Tryz.prog 20 7 rc_impl_StateNow [.cell 2 true 1] := ⟨Tryz.f20, _, [], Tryz.func20, rfl, rfl, by kernel_rfl, by kernel_rfl, follows⟩
theorem ok_impl_StateNow : okF Tryz.prog 20 = true := by kernel_rfl
def rc_laws_eqMail : RC :=
  (.seq (.reg [⟨(some 2), none, .bx (.t 0)⟩,
   ⟨(some 3), none, .bx (.t 1)⟩,
   ⟨(some 4), none, .mv (.c (.bool false))⟩])
  (.seq (.seq (.reg [⟨(some 5), none, .fa 0 (.t 2)⟩,
   ⟨(some 6), none, .ld false 1 (.t 5)⟩,
   ⟨(some 7), none, .fa 0 (.t 3)⟩,
   ⟨(some 8), none, .ld false 1 (.t 7)⟩,
   ⟨(some 9), none, .bin .neq (.t 6) (.t 8)⟩])
  (.cond (.t 9)
    (.seq (.reg [⟨(some 4), none, .mv (.c (.bool false))⟩])
    .ret)
    .skip))
  (.seq (.seq (.reg [⟨(some 10), none, .fa 1 (.t 2)⟩,
   ⟨(some 11), none, .ld false 1 (.t 10)⟩,
   ⟨(some 12), none, .fa 1 (.t 3)⟩,
   ⟨(some 13), none, .ld false 1 (.t 12)⟩,
   ⟨(some 14), none, .bin .neq (.t 11) (.t 13)⟩])
  (.cond (.t 14)
    (.seq (.reg [⟨(some 4), none, .mv (.c (.bool false))⟩])
    .ret)
    .skip))
  (.seq (.seq (.reg [⟨(some 15), none, .fa 2 (.t 2)⟩,
   ⟨(some 16), none, .ld false 1 (.t 15)⟩,
   ⟨(some 17), none, .fa 2 (.t 3)⟩,
   ⟨(some 18), none, .ld false 1 (.t 17)⟩,
   ⟨(some 19), none, .bin .neq (.t 16) (.t 18)⟩])
  (.cond (.t 19)
    (.seq (.reg [⟨(some 4), none, .mv (.c (.bool false))⟩])
    .ret)
    .skip))
  (.seq (.reg [⟨(some 4), none, .mv (.c (.bool true))⟩])
  .ret)))))
theorem k_laws_eqMail : FnOk Tryz.prog 203 20 rc_laws_eqMail [.t 4] := ⟨Tryz.f203, _, [], Tryz.func203, rfl, rfl, by kernel_rfl, by kernel_rfl, follows⟩
theorem ok_laws_eqMail : okF Tryz.prog 203 = true := by kernel_rfl
def rc_laws_eqMailS : RC :=
  (.seq (.reg [⟨(some 4), none, .mv (.c (.bool false))⟩])
  (.seq (.seq (.reg [⟨(some 6), none, .mv (.t 0)⟩,
   ⟨(some 7), none, .lenl (.t 6)⟩,
   ⟨(some 8), none, .mv (.t 1)⟩,
   ⟨(some 9), none, .lenl (.t 8)⟩,
   ⟨(some 10), none, .bin .neq (.t 7) (.t 9)⟩])
  (.cond (.t 10)
    (.seq (.reg [⟨(some 4), none, .mv (.c (.bool false))⟩])
    .ret)
    .skip))
  (.seq (.seq (.reg [⟨(some 5), none, .mv (.c (.int .i64 0))⟩])
  (.blk 0 (.loop (.seq (.seq (.reg [⟨(some 11), none, .mv (.t 5)⟩,
     ⟨(some 12), none, .mv (.t 0)⟩,
     ⟨(some 13), none, .lenl (.t 12)⟩,
     ⟨(some 14), none, .bin .lss (.t 11) (.t 13)⟩])
    (.cond (.t 14)
      .skip
      (.exit 0)))
    (.seq (.blk 1 (.seq (.drw [⟨(some 17), none, .mv (.t 0)⟩,
      ⟨(some 18), none, .mv (.t 5)⟩,
      ⟨(some 19), none, .ia 3 (.t 17) (.t 18)⟩,
      ⟨(some 20), none, .ld true 3 (.t 19)⟩,
      ⟨(some 21), none, .mv (.t 1)⟩,
      ⟨(some 22), none, .mv (.t 5)⟩,
      ⟨(some 23), none, .ia 3 (.t 21) (.t 22)⟩,
      ⟨(some 24), none, .ld true 3 (.t 23)⟩,
      ⟨(some 25), none, .cl (.c (.fn 203 [])) [(.t 20), (.t 24)]⟩,
      ⟨(some 26), none, .un .not (.t 25)⟩] [.val [], .val [], .val [], .val [], .val [], .val [], .val [], .val [], .val [], .val []])
     (.cond (.t 26)
       (.seq (.reg [⟨(some 4), none, .mv (.c (.bool false))⟩])
       .ret)
       .skip)))
    (.reg [⟨(some 15), none, .mv (.t 5)⟩,
     ⟨(some 16), none, .bin .add (.t 15) (.c (.int .i64 1))⟩,
     ⟨(some 5), none, .mv (.t 16)⟩]))))))
  (.seq (.reg [⟨(some 4), none, .mv (.c (.bool true))⟩])
  .ret))))
theorem k_laws_eqMailS : FnOk Tryz.prog 171 27 rc_laws_eqMailS [.t 4] := ⟨Tryz.f171, _, [], Tryz.func171, rfl, rfl, by kernel_rfl, by kernel_rfl, follows⟩
theorem ok_laws_eqMailS : okF Tryz.prog 171 = true := by kernel_rfl
def rc_laws_eqBox : RC :=
  (.seq (.reg [⟨(some 2), none, .bx (.t 0)⟩,
   ⟨(some 3), none, .bx (.t 1)⟩,
   ⟨(some 4), none, .mv (.c (.bool false))⟩])
  (.seq (.seq (.reg [⟨(some 5), none, .fa 0 (.t 2)⟩,
   ⟨(some 6), none, .ld false 1 (.t 5)⟩,
   ⟨(some 7), none, .fa 0 (.t 3)⟩,
   ⟨(some 8), none, .ld false 1 (.t 7)⟩,
   ⟨(some 9), none, .bin .neq (.t 6) (.t 8)⟩])
  (.cond (.t 9)
    (.seq (.reg [⟨(some 4), none, .mv (.c (.bool false))⟩])
    .ret)
    .skip))
  (.seq (.seq (.reg [⟨(some 10), none, .fa 1 (.t 2)⟩,
   ⟨(some 11), none, .ld false 1 (.t 10)⟩,
   ⟨(some 12), none, .fa 1 (.t 3)⟩,
   ⟨(some 13), none, .ld false 1 (.t 12)⟩,
   ⟨(some 14), none, .bin .neq (.t 11) (.t 13)⟩])
  (.cond (.t 14)
    (.seq (.reg [⟨(some 4), none, .mv (.c (.bool false))⟩])
    .ret)
    .skip))
  (.seq (.seq (.reg [⟨(some 15), none, .fa 2 (.t 2)⟩,
   ⟨(some 16), none, .ld false 1 (.t 15)⟩,
   ⟨(some 17), none, .fa 2 (.t 3)⟩,
   ⟨(some 18), none, .ld false 1 (.t 17)⟩,
   ⟨(some 19), none, .bin .neq (.t 16) (.t 18)⟩])
  (.cond (.t 19)
    (.seq (.reg [⟨(some 4), none, .mv (.c (.bool false))⟩])
    .ret)
    .skip))
  (.seq (.seq (.reg [⟨(some 20), none, .fa 3 (.t 2)⟩,
   ⟨(some 21), none, .ld false 1 (.t 20)⟩,
   ⟨(some 22), none, .fa 3 (.t 3)⟩,
   ⟨(some 23), none, .ld false 1 (.t 22)⟩,
   ⟨(some 24), none, .bin .neq (.t 21) (.t 23)⟩])
  (.cond (.t 24)
    (.seq (.reg [⟨(some 4), none, .mv (.c (.bool false))⟩])
    .ret)
    .skip))
  (.seq (.seq (.reg [⟨(some 25), none, .fa 4 (.t 2)⟩,
   ⟨(some 26), none, .ld false 1 (.t 25)⟩,
   ⟨(some 27), none, .fa 4 (.t 3)⟩,
   ⟨(some 28), none, .ld false 1 (.t 27)⟩,
   ⟨(some 29), none, .cl (.c (.fn 171 [])) [(.t 26), (.t 28)]⟩,
   ⟨(some 30), none, .un .not (.t 29)⟩])
  (.cond (.t 30)
    (.seq (.reg [⟨(some 4), none, .mv (.c (.bool false))⟩])
    .ret)
    .skip))
  (.seq (.reg [⟨(some 4), none, .mv (.c (.bool true))⟩])
  .ret)))))))
theorem k_laws_eqBox : FnOk Tryz.prog 106 31 rc_laws_eqBox [.t 4] := ⟨Tryz.f106, _, [], Tryz.func106, rfl, rfl, by kernel_rfl, by kernel_rfl, follows⟩
theorem ok_laws_eqBox : okF Tryz.prog 106 = true := by kernel_rfl
def rc_laws_eqBoxS : RC :=
  (.seq (.reg [⟨(some 4), none, .mv (.c (.bool false))⟩])
  (.seq (.seq (.reg [⟨(some 6), none, .mv (.t 0)⟩,
   ⟨(some 7), none, .lenl (.t 6)⟩,
   ⟨(some 8), none, .mv (.t 1)⟩,
   ⟨(some 9), none, .lenl (.t 8)⟩,
   ⟨(some 10), none, .bin .neq (.t 7) (.t 9)⟩])
  (.cond (.t 10)
    (.seq (.reg [⟨(some 4), none, .mv (.c (.bool false))⟩])
    .ret)
    .skip))
  (.seq (.seq (.reg [⟨(some 5), none, .mv (.c (.int .i64 0))⟩])
  (.blk 0 (.loop (.seq (.seq (.reg [⟨(some 11), none, .mv (.t 5)⟩,
     ⟨(some 12), none, .mv (.t 0)⟩,
     ⟨(some 13), none, .lenl (.t 12)⟩,
     ⟨(some 14), none, .bin .lss (.t 11) (.t 13)⟩])
    (.cond (.t 14)
      .skip
      (.exit 0)))
    (.seq (.blk 1 (.seq (.drw [⟨(some 17), none, .mv (.t 0)⟩,
      ⟨(some 18), none, .mv (.t 5)⟩,
      ⟨(some 19), none, .ia 5 (.t 17) (.t 18)⟩,
      ⟨(some 20), none, .ld true 5 (.t 19)⟩,
      ⟨(some 21), none, .mv (.t 1)⟩,
      ⟨(some 22), none, .mv (.t 5)⟩,
      ⟨(some 23), none, .ia 5 (.t 21) (.t 22)⟩,
      ⟨(some 24), none, .ld true 5 (.t 23)⟩,
      ⟨(some 25), none, .cl (.c (.fn 106 [])) [(.t 20), (.t 24)]⟩,
      ⟨(some 26), none, .un .not (.t 25)⟩] [.val [], .val [], .val [], .val [], .val [], .val [], .val [], .val [], .val [], .val []])
     (.cond (.t 26)
       (.seq (.reg [⟨(some 4), none, .mv (.c (.bool false))⟩])
       .ret)
       .skip)))
    (.reg [⟨(some 15), none, .mv (.t 5)⟩,
     ⟨(some 16), none, .bin .add (.t 15) (.c (.int .i64 1))⟩,
     ⟨(some 5), none, .mv (.t 16)⟩]))))))
  (.seq (.reg [⟨(some 4), none, .mv (.c (.bool true))⟩])
  .ret))))
theorem k_laws_eqBoxS : FnOk Tryz.prog 55 27 rc_laws_eqBoxS [.t 4] := ⟨Tryz.f55, _, [], Tryz.func55, rfl, rfl, by kernel_rfl, by kernel_rfl, follows⟩
theorem ok_laws_eqBoxS : okF Tryz.prog 55 = true := by kernel_rfl
def rc_laws_eqState : RC :=
  (.seq (.reg [⟨(some 2), none, .bx (.t 0)⟩,
   ⟨(some 3), none, .bx (.t 1)⟩,
   ⟨(some 4), none, .mv (.c (.bool false))⟩])
  (.seq (.seq (.reg [⟨(some 5), none, .fa 0 (.t 2)⟩,
   ⟨(some 6), none, .ld false 1 (.t 5)⟩,
   ⟨(some 7), none, .fa 0 (.t 3)⟩,
   ⟨(some 8), none, .ld false 1 (.t 7)⟩,
   ⟨(some 9), none, .cl (.c (.fn 55 [])) [(.t 6), (.t 8)]⟩,
   ⟨(some 10), none, .un .not (.t 9)⟩])
  (.cond (.t 10)
    (.seq (.reg [⟨(some 4), none, .mv (.c (.bool false))⟩])
    .ret)
    .skip))
  (.seq (.reg [⟨(some 4), none, .mv (.c (.bool true))⟩])
  .ret)))
theorem k_laws_eqState : FnOk Tryz.prog 21 11 rc_laws_eqState [.t 4] := ⟨Tryz.f21, _, [], Tryz.func21, rfl, rfl, by kernel_rfl, by kernel_rfl, follows⟩
theorem ok_laws_eqState : okF Tryz.prog 21 = true := by kernel_rfl
def rc_laws_markMailS : RC :=
  (.seq (.reg [⟨(some 4), none, .mv (.c (.int .i64 0))⟩])
  (.seq (.seq (.reg [⟨(some 5), none, .mv (.c (.int .i64 0))⟩])
  (.blk 0 (.loop (.seq (.seq (.reg [⟨(some 6), none, .mv (.t 5)⟩,
     ⟨(some 7), none, .mv (.t 0)⟩,
     ⟨(some 8), none, .lenl (.t 7)⟩,
     ⟨(some 9), none, .bin .lss (.t 6) (.t 8)⟩])
    (.cond (.t 9)
      .skip
      (.exit 0)))
    (.seq (.blk 1 (.seq (.reg [⟨(some 12), none, .mv (.t 0)⟩,
      ⟨(some 13), none, .mv (.t 5)⟩,
      ⟨(some 14), none, .mv (.t 1)⟩,
      ⟨(some 15), none, .ia 3 (.t 12) (.t 13)⟩,
      ⟨(some 16), none, .fa 0 (.t 15)⟩,
      ⟨none, none, .st 1 (.t 16) (.t 14)⟩])
     (.seq (.reg [⟨(some 17), none, .mv (.t 1)⟩,
      ⟨(some 18), none, .bin .add (.t 17) (.c (.int .i64 1))⟩,
      ⟨(some 1), none, .mv (.t 18)⟩])
     (.seq (.reg [⟨(some 19), none, .mv (.t 0)⟩,
      ⟨(some 20), none, .mv (.t 5)⟩,
      ⟨(some 21), none, .mv (.t 1)⟩,
      ⟨(some 22), none, .ia 3 (.t 19) (.t 20)⟩,
      ⟨(some 23), none, .fa 1 (.t 22)⟩,
      ⟨none, none, .st 1 (.t 23) (.t 21)⟩])
     (.seq (.reg [⟨(some 24), none, .mv (.t 1)⟩,
      ⟨(some 25), none, .bin .add (.t 24) (.c (.int .i64 1))⟩,
      ⟨(some 1), none, .mv (.t 25)⟩])
     (.seq (.reg [⟨(some 26), none, .mv (.t 0)⟩,
      ⟨(some 27), none, .mv (.t 5)⟩,
      ⟨(some 28), none, .mv (.t 1)⟩,
      ⟨(some 29), none, .cl (.c (.fn 107 [])) [(.t 28)]⟩,
      ⟨(some 30), none, .ia 3 (.t 26) (.t 27)⟩,
      ⟨(some 31), none, .fa 2 (.t 30)⟩,
      ⟨none, none, .st 1 (.t 31) (.t 29)⟩])
     (.reg [⟨(some 32), none, .mv (.t 1)⟩,
      ⟨(some 33), none, .bin .add (.t 32) (.c (.int .i64 1))⟩,
      ⟨(some 1), none, .mv (.t 33)⟩])))))))
    (.reg [⟨(some 10), none, .mv (.t 5)⟩,
     ⟨(some 11), none, .bin .add (.t 10) (.c (.int .i64 1))⟩,
     ⟨(some 5), none, .mv (.t 11)⟩]))))))
  (.seq (.reg [⟨(some 34), none, .mv (.t 1)⟩,
   ⟨(some 4), none, .mv (.t 34)⟩])
  .ret)))
theorem k_laws_markMailS : FnOk Tryz.prog 108 35 rc_laws_markMailS [.t 4] := ⟨Tryz.f108, _, [], Tryz.func108, rfl, rfl, by kernel_rfl, by kernel_rfl, follows⟩
theorem ok_laws_markMailS : okF Tryz.prog 108 = true := by kernel_rfl
def rc_laws_markBoxS : RC :=
  (.seq (.reg [⟨(some 4), none, .mv (.c (.int .i64 0))⟩])
  (.seq (.seq (.reg [⟨(some 5), none, .mv (.c (.int .i64 0))⟩])
  (.blk 0 (.loop (.seq (.seq (.reg [⟨(some 6), none, .mv (.t 5)⟩,
     ⟨(some 7), none, .mv (.t 0)⟩,
     ⟨(some 8), none, .lenl (.t 7)⟩,
     ⟨(some 9), none, .bin .lss (.t 6) (.t 8)⟩])
    (.cond (.t 9)
      .skip
      (.exit 0)))
    (.seq (.blk 1 (.seq (.reg [⟨(some 12), none, .mv (.t 0)⟩,
      ⟨(some 13), none, .mv (.t 5)⟩,
      ⟨(some 14), none, .mv (.t 1)⟩,
      ⟨(some 15), none, .ia 5 (.t 12) (.t 13)⟩,
      ⟨(some 16), none, .fa 0 (.t 15)⟩,
      ⟨none, none, .st 1 (.t 16) (.t 14)⟩])
     (.seq (.reg [⟨(some 17), none, .mv (.t 1)⟩,
      ⟨(some 18), none, .bin .add (.t 17) (.c (.int .i64 1))⟩,
      ⟨(some 1), none, .mv (.t 18)⟩])
     (.seq (.reg [⟨(some 19), none, .mv (.t 0)⟩,
      ⟨(some 20), none, .mv (.t 5)⟩,
      ⟨(some 21), none, .mv (.t 1)⟩,
      ⟨(some 22), none, .cl (.c (.fn 107 [])) [(.t 21)]⟩,
      ⟨(some 23), none, .ia 5 (.t 19) (.t 20)⟩,
      ⟨(some 24), none, .fa 1 (.t 23)⟩,
      ⟨none, none, .st 1 (.t 24) (.t 22)⟩])
     (.seq (.reg [⟨(some 25), none, .mv (.t 1)⟩,
      ⟨(some 26), none, .bin .add (.t 25) (.c (.int .i64 1))⟩,
      ⟨(some 1), none, .mv (.t 26)⟩])
     (.seq (.reg [⟨(some 27), none, .mv (.t 0)⟩,
      ⟨(some 28), none, .mv (.t 5)⟩,
      ⟨(some 29), none, .mv (.t 1)⟩,
      ⟨(some 30), none, .cl (.c (.fn 107 [])) [(.t 29)]⟩,
      ⟨(some 31), none, .ia 5 (.t 27) (.t 28)⟩,
      ⟨(some 32), none, .fa 2 (.t 31)⟩,
      ⟨none, none, .st 1 (.t 32) (.t 30)⟩])
     (.seq (.reg [⟨(some 33), none, .mv (.t 1)⟩,
      ⟨(some 34), none, .bin .add (.t 33) (.c (.int .i64 1))⟩,
      ⟨(some 1), none, .mv (.t 34)⟩])
     (.seq (.reg [⟨(some 35), none, .mv (.t 0)⟩,
      ⟨(some 36), none, .mv (.t 5)⟩,
      ⟨(some 37), none, .mv (.t 1)⟩,
      ⟨(some 38), none, .ia 5 (.t 35) (.t 36)⟩,
      ⟨(some 39), none, .fa 3 (.t 38)⟩,
      ⟨none, none, .st 1 (.t 39) (.t 37)⟩])
     (.seq (.reg [⟨(some 40), none, .mv (.t 1)⟩,
      ⟨(some 41), none, .bin .add (.t 40) (.c (.int .i64 1))⟩,
      ⟨(some 1), none, .mv (.t 41)⟩])
     (.reg [⟨(some 42), none, .mv (.t 0)⟩,
      ⟨(some 43), none, .mv (.t 5)⟩,
      ⟨(some 44), none, .ia 5 (.t 42) (.t 43)⟩,
      ⟨(some 45), none, .fa 4 (.t 44)⟩,
      ⟨(some 46), none, .ld false 1 (.t 45)⟩,
      ⟨(some 47), none, .mv (.t 1)⟩,
      ⟨(some 48), none, .cl (.c (.fn 108 [])) [(.t 46), (.t 47)]⟩,
      ⟨(some 1), none, .mv (.t 48)⟩]))))))))))
    (.reg [⟨(some 10), none, .mv (.t 5)⟩,
     ⟨(some 11), none, .bin .add (.t 10) (.c (.int .i64 1))⟩,
     ⟨(some 5), none, .mv (.t 11)⟩]))))))
  (.seq (.reg [⟨(some 49), none, .mv (.t 1)⟩,
   ⟨(some 4), none, .mv (.t 49)⟩])
  .ret)))
theorem k_laws_markBoxS : FnOk Tryz.prog 56 50 rc_laws_markBoxS [.t 4] := ⟨Tryz.f56, _, [], Tryz.func56, rfl, rfl, by kernel_rfl, by kernel_rfl, follows⟩
theorem ok_laws_markBoxS : okF Tryz.prog 56 = true := by kernel_rfl
def rc_laws_markState : RC :=
  (.seq (.reg [⟨(some 2), none, .bx (.t 0)⟩,
   ⟨(some 4), none, .mv (.c (.int .i64 0))⟩])
  (.seq (.reg [⟨(some 5), none, .fa 0 (.t 2)⟩,
   ⟨(some 6), none, .ld false 1 (.t 5)⟩,
   ⟨(some 7), none, .mv (.t 1)⟩,
   ⟨(some 8), none, .cl (.c (.fn 56 [])) [(.t 6), (.t 7)]⟩,
   ⟨(some 1), none, .mv (.t 8)⟩])
  (.seq (.reg [⟨(some 9), none, .mv (.t 1)⟩,
   ⟨(some 4), none, .mv (.t 9)⟩])
  .ret)))
theorem k_laws_markState : FnOk Tryz.prog 22 10 rc_laws_markState [.t 4] := ⟨Tryz.f22, _, [], Tryz.func22, rfl, rfl, by kernel_rfl, by kernel_rfl, follows⟩
theorem ok_laws_markState : okF Tryz.prog 22 = true := by kernel_rfl
def rc_laws_heldMailS : RC :=
  (.seq (.reg [⟨(some 4), none, .mv (.c (.int .i64 0))⟩])
  (.seq (.seq (.reg [⟨(some 5), none, .mv (.c (.int .i64 0))⟩])
  (.blk 0 (.loop (.seq (.seq (.reg [⟨(some 6), none, .mv (.t 5)⟩,
     ⟨(some 7), none, .mv (.t 0)⟩,
     ⟨(some 8), none, .lenl (.t 7)⟩,
     ⟨(some 9), none, .bin .lss (.t 6) (.t 8)⟩])
    (.cond (.t 9)
      .skip
      (.exit 0)))
    (.seq (.blk 1 (.seq (.seq (.reg [⟨(some 12), none, .mv (.t 0)⟩,
      ⟨(some 13), none, .mv (.t 5)⟩,
      ⟨(some 14), none, .ia 3 (.t 12) (.t 13)⟩,
      ⟨(some 15), none, .fa 0 (.t 14)⟩,
      ⟨(some 16), none, .ld false 1 (.t 15)⟩,
      ⟨(some 17), none, .mv (.t 1)⟩,
      ⟨(some 18), none, .bin .neq (.t 16) (.t 17)⟩])
     (.cond (.t 18)
       (.seq (.reg [⟨(some 4), none, .mv (.c (.int .i64 (-1)))⟩])
       .ret)
       .skip))
     (.seq (.reg [⟨(some 19), none, .mv (.t 1)⟩,
      ⟨(some 20), none, .bin .add (.t 19) (.c (.int .i64 1))⟩,
      ⟨(some 1), none, .mv (.t 20)⟩])
     (.seq (.seq (.reg [⟨(some 21), none, .mv (.t 0)⟩,
      ⟨(some 22), none, .mv (.t 5)⟩,
      ⟨(some 23), none, .ia 3 (.t 21) (.t 22)⟩,
      ⟨(some 24), none, .fa 1 (.t 23)⟩,
      ⟨(some 25), none, .ld false 1 (.t 24)⟩,
      ⟨(some 26), none, .mv (.t 1)⟩,
      ⟨(some 27), none, .bin .neq (.t 25) (.t 26)⟩])
     (.cond (.t 27)
       (.seq (.reg [⟨(some 4), none, .mv (.c (.int .i64 (-1)))⟩])
       .ret)
       .skip))
     (.seq (.reg [⟨(some 28), none, .mv (.t 1)⟩,
      ⟨(some 29), none, .bin .add (.t 28) (.c (.int .i64 1))⟩,
      ⟨(some 1), none, .mv (.t 29)⟩])
     (.seq (.seq (.drw [⟨(some 30), none, .mv (.t 0)⟩,
      ⟨(some 31), none, .mv (.t 5)⟩,
      ⟨(some 32), none, .ia 3 (.t 30) (.t 31)⟩,
      ⟨(some 33), none, .fa 2 (.t 32)⟩,
      ⟨(some 34), none, .ld false 1 (.t 33)⟩,
      ⟨(some 35), none, .mv (.t 1)⟩,
      ⟨(some 36), none, .cl (.c (.fn 107 [])) [(.t 35)]⟩,
      ⟨(some 37), none, .bin .neq (.t 34) (.t 36)⟩] [.val [], .val [], .val [], .val [], .val [], .val [], .val [], .val []])
     (.cond (.t 37)
       (.seq (.reg [⟨(some 4), none, .mv (.c (.int .i64 (-1)))⟩])
       .ret)
       .skip))
     (.reg [⟨(some 38), none, .mv (.t 1)⟩,
      ⟨(some 39), none, .bin .add (.t 38) (.c (.int .i64 1))⟩,
      ⟨(some 1), none, .mv (.t 39)⟩])))))))
    (.reg [⟨(some 10), none, .mv (.t 5)⟩,
     ⟨(some 11), none, .bin .add (.t 10) (.c (.int .i64 1))⟩,
     ⟨(some 5), none, .mv (.t 11)⟩]))))))
  (.seq (.reg [⟨(some 40), none, .mv (.t 1)⟩,
   ⟨(some 4), none, .mv (.t 40)⟩])
  .ret)))
theorem k_laws_heldMailS : FnOk Tryz.prog 109 41 rc_laws_heldMailS [.t 4] := ⟨Tryz.f109, _, [], Tryz.func109, rfl, rfl, by kernel_rfl, by kernel_rfl, follows⟩
theorem ok_laws_heldMailS : okF Tryz.prog 109 = true := by kernel_rfl
def rc_laws_heldBoxS : RC :=
  (.seq (.reg [⟨(some 4), none, .mv (.c (.int .i64 0))⟩])
  (.seq (.seq (.reg [⟨(some 5), none, .mv (.c (.int .i64 0))⟩])
  (.blk 0 (.loop (.seq (.seq (.reg [⟨(some 6), none, .mv (.t 5)⟩,
     ⟨(some 7), none, .mv (.t 0)⟩,
     ⟨(some 8), none, .lenl (.t 7)⟩,
     ⟨(some 9), none, .bin .lss (.t 6) (.t 8)⟩])
    (.cond (.t 9)
      .skip
      (.exit 0)))
    (.seq (.blk 1 (.seq (.seq (.reg [⟨(some 12), none, .mv (.t 0)⟩,
      ⟨(some 13), none, .mv (.t 5)⟩,
      ⟨(some 14), none, .ia 5 (.t 12) (.t 13)⟩,
      ⟨(some 15), none, .fa 0 (.t 14)⟩,
      ⟨(some 16), none, .ld false 1 (.t 15)⟩,
      ⟨(some 17), none, .mv (.t 1)⟩,
      ⟨(some 18), none, .bin .neq (.t 16) (.t 17)⟩])
     (.cond (.t 18)
       (.seq (.reg [⟨(some 4), none, .mv (.c (.int .i64 (-1)))⟩])
       .ret)
       .skip))
     (.seq (.reg [⟨(some 19), none, .mv (.t 1)⟩,
      ⟨(some 20), none, .bin .add (.t 19) (.c (.int .i64 1))⟩,
      ⟨(some 1), none, .mv (.t 20)⟩])
     (.seq (.seq (.drw [⟨(some 21), none, .mv (.t 0)⟩,
      ⟨(some 22), none, .mv (.t 5)⟩,
      ⟨(some 23), none, .ia 5 (.t 21) (.t 22)⟩,
      ⟨(some 24), none, .fa 1 (.t 23)⟩,
      ⟨(some 25), none, .ld false 1 (.t 24)⟩,
      ⟨(some 26), none, .mv (.t 1)⟩,
      ⟨(some 27), none, .cl (.c (.fn 107 [])) [(.t 26)]⟩,
      ⟨(some 28), none, .bin .neq (.t 25) (.t 27)⟩] [.val [], .val [], .val [], .val [], .val [], .val [], .val [], .val []])
     (.cond (.t 28)
       (.seq (.reg [⟨(some 4), none, .mv (.c (.int .i64 (-1)))⟩])
       .ret)
       .skip))
     (.seq (.reg [⟨(some 29), none, .mv (.t 1)⟩,
      ⟨(some 30), none, .bin .add (.t 29) (.c (.int .i64 1))⟩,
      ⟨(some 1), none, .mv (.t 30)⟩])
     (.seq (.seq (.drw [⟨(some 31), none, .mv (.t 0)⟩,
      ⟨(some 32), none, .mv (.t 5)⟩,
      ⟨(some 33), none, .ia 5 (.t 31) (.t 32)⟩,
      ⟨(some 34), none, .fa 2 (.t 33)⟩,
      ⟨(some 35), none, .ld false 1 (.t 34)⟩,
      ⟨(some 36), none, .mv (.t 1)⟩,
      ⟨(some 37), none, .cl (.c (.fn 107 [])) [(.t 36)]⟩,
      ⟨(some 38), none, .bin .neq (.t 35) (.t 37)⟩] [.val [], .val [], .val [], .val [], .val [], .val [], .val [], .val []])
     (.cond (.t 38)
       (.seq (.reg [⟨(some 4), none, .mv (.c (.int .i64 (-1)))⟩])
       .ret)
       .skip))
     (.seq (.reg [⟨(some 39), none, .mv (.t 1)⟩,
      ⟨(some 40), none, .bin .add (.t 39) (.c (.int .i64 1))⟩,
      ⟨(some 1), none, .mv (.t 40)⟩])
     (.seq (.seq (.reg [⟨(some 41), none, .mv (.t 0)⟩,
      ⟨(some 42), none, .mv (.t 5)⟩,
      ⟨(some 43), none, .ia 5 (.t 41) (.t 42)⟩,
      ⟨(some 44), none, .fa 3 (.t 43)⟩,
      ⟨(some 45), none, .ld false 1 (.t 44)⟩,
      ⟨(some 46), none, .mv (.t 1)⟩,
      ⟨(some 47), none, .bin .neq (.t 45) (.t 46)⟩])
     (.cond (.t 47)
       (.seq (.reg [⟨(some 4), none, .mv (.c (.int .i64 (-1)))⟩])
       .ret)
       .skip))
     (.seq (.reg [⟨(some 48), none, .mv (.t 1)⟩,
      ⟨(some 49), none, .bin .add (.t 48) (.c (.int .i64 1))⟩,
      ⟨(some 1), none, .mv (.t 49)⟩])
     (.seq (.reg [⟨(some 50), none, .mv (.t 0)⟩,
      ⟨(some 51), none, .mv (.t 5)⟩,
      ⟨(some 52), none, .ia 5 (.t 50) (.t 51)⟩,
      ⟨(some 53), none, .fa 4 (.t 52)⟩,
      ⟨(some 54), none, .ld false 1 (.t 53)⟩,
      ⟨(some 55), none, .mv (.t 1)⟩,
      ⟨(some 56), none, .cl (.c (.fn 109 [])) [(.t 54), (.t 55)]⟩,
      ⟨(some 1), none, .mv (.t 56)⟩])
     (.seq (.reg [⟨(some 57), none, .mv (.t 1)⟩,
      ⟨(some 58), none, .bin .lss (.t 57) (.c (.int .i64 0))⟩])
     (.cond (.t 58)
       (.seq (.reg [⟨(some 4), none, .mv (.c (.int .i64 (-1)))⟩])
       .ret)
       .skip))))))))))))
    (.reg [⟨(some 10), none, .mv (.t 5)⟩,
     ⟨(some 11), none, .bin .add (.t 10) (.c (.int .i64 1))⟩,
     ⟨(some 5), none, .mv (.t 11)⟩]))))))
  (.seq (.reg [⟨(some 59), none, .mv (.t 1)⟩,
   ⟨(some 4), none, .mv (.t 59)⟩])
  .ret)))
theorem k_laws_heldBoxS : FnOk Tryz.prog 57 60 rc_laws_heldBoxS [.t 4] := ⟨Tryz.f57, _, [], Tryz.func57, rfl, rfl, by kernel_rfl, by kernel_rfl, follows⟩
theorem ok_laws_heldBoxS : okF Tryz.prog 57 = true := by kernel_rfl
def rc_laws_heldState : RC :=
  (.seq (.reg [⟨(some 2), none, .bx (.t 0)⟩,
   ⟨(some 4), none, .mv (.c (.int .i64 0))⟩])
  (.seq (.reg [⟨(some 5), none, .fa 0 (.t 2)⟩,
   ⟨(some 6), none, .ld false 1 (.t 5)⟩,
   ⟨(some 7), none, .mv (.t 1)⟩,
   ⟨(some 8), none, .cl (.c (.fn 57 [])) [(.t 6), (.t 7)]⟩,
   ⟨(some 1), none, .mv (.t 8)⟩])
  (.seq (.seq (.reg [⟨(some 9), none, .mv (.t 1)⟩,
   ⟨(some 10), none, .bin .lss (.t 9) (.c (.int .i64 0))⟩])
  (.cond (.t 10)
    (.seq (.reg [⟨(some 4), none, .mv (.c (.int .i64 (-1)))⟩])
    .ret)
    .skip))
  (.seq (.reg [⟨(some 11), none, .mv (.t 1)⟩,
   ⟨(some 4), none, .mv (.t 11)⟩])
  .ret))))
theorem k_laws_heldState : FnOk Tryz.prog 23 12 rc_laws_heldState [.t 4] := ⟨Tryz.f23, _, [], Tryz.func23, rfl, rfl, by kernel_rfl, by kernel_rfl, follows⟩
theorem ok_laws_heldState : okF Tryz.prog 23 = true := by kernel_rfl
def rc_laws_FnExactStateNow : RC :=
  (.seq (.reg [⟨(some 1), none, .bx (.t 0)⟩,
   ⟨(some 2), none, .mv (.c (.bool false))⟩])
  (.seq (.reg [⟨(some 3), none, .mv (.c (.int .i64 1048576))⟩])
  (.seq (.reg [⟨(some 11), none, .ld true 9 (.t 1)⟩,
   ⟨(some 12), none, .mv (.t 3)⟩,
   ⟨(some 13), none, .cl (.c (.fn 17 [])) [(.t 11), (.t 12)]⟩,
   ⟨(some 3), none, .mv (.t 13)⟩])
  (.seq (.seq (.reg [⟨(some 14), none, .mv (.t 3)⟩,
   ⟨(some 15), none, .bin .lss (.t 14) (.c (.int .i64 0))⟩])
  (.cond (.t 15)
    (.seq (.reg [⟨(some 2), none, .mv (.c (.bool true))⟩])
    .ret)
    .skip))
  (.seq (.reg [⟨(some 16), none, .ld true 9 (.t 1)⟩,
   ⟨(some 17), none, .cl (.c (.fn 19 [])) [(.t 16)]⟩,
   ⟨(some 18), none, .cl (.c (.fn 18 [])) [(.t 17)]⟩,
   ⟨(some 4), none, .al [.nils]⟩,
   ⟨none, none, .st 1 (.t 4) (.t 18)⟩])
  (.seq (.reg [⟨(some 19), none, .ld true 9 (.t 1)⟩,
   ⟨(some 20), none, .cl (.c (.fn 19 [])) [(.t 19)]⟩,
   ⟨(some 5), none, .al [.nils, .nils, .int .i64 0, .nils, .int .i64 0, .int .i64 0, .int .i64 0, .int .i64 0, .nils]⟩,
   ⟨none, none, .st 9 (.t 5) (.t 20)⟩])
  (.seq (.reg [⟨(some 21), none, .ld true 9 (.t 5)⟩,
   ⟨(some 22), none, .cl (.c (.fn 20 [])) [(.t 21)]⟩,
   ⟨(some 6), none, .al [.nils]⟩,
   ⟨none, none, .st 1 (.t 6) (.t 22)⟩])
  (.seq (.seq (.reg [⟨(some 23), none, .ld true 1 (.t 6)⟩,
   ⟨(some 24), none, .ld true 1 (.t 4)⟩,
   ⟨(some 25), none, .cl (.c (.fn 21 [])) [(.t 23), (.t 24)]⟩,
   ⟨(some 26), none, .un .not (.t 25)⟩])
  (.cond (.t 26)
    (.seq (.reg [⟨(some 2), none, .mv (.c (.bool false))⟩])
    .ret)
    .skip))
  (.seq (.seq (.drw [⟨(some 27), none, .ld true 9 (.t 5)⟩,
   ⟨(some 28), none, .ld true 9 (.t 1)⟩,
   ⟨(some 29), none, .cl (.c (.fn 19 [])) [(.t 28)]⟩,
   ⟨(some 30), none, .cl (.c (.fn 14 [])) [(.t 27), (.t 29)]⟩,
   ⟨(some 31), none, .un .not (.t 30)⟩] [.val [], .val [], .val [], .val [], .val []])
  (.cond (.t 31)
    (.seq (.reg [⟨(some 2), none, .mv (.c (.bool false))⟩])
    .ret)
    .skip))
  (.seq (.reg [⟨(some 7), none, .mv (.c (.int .i64 1))⟩])
  (.seq (.reg [⟨(some 32), none, .ld true 9 (.t 5)⟩,
   ⟨(some 33), none, .mv (.t 7)⟩,
   ⟨(some 34), none, .cl (.c (.fn 15 [])) [(.t 32), (.t 33)]⟩,
   ⟨(some 7), none, .mv (.t 34)⟩])
  (.seq (.seq (.reg [⟨(some 35), none, .mv (.t 7)⟩,
   ⟨(some 36), none, .bin .lss (.t 35) (.c (.int .i64 0))⟩,
   ⟨(some 37), none, .mv (.t 36)⟩,
   ⟨(some 38), (some (37, false)), .ld true 1 (.t 6)⟩,
   ⟨(some 39), (some (37, false)), .ld true 1 (.t 4)⟩,
   ⟨(some 40), (some (37, false)), .cl (.c (.fn 21 [])) [(.t 38), (.t 39)]⟩,
   ⟨(some 41), (some (37, false)), .un .not (.t 40)⟩,
   ⟨(some 42), none, .pick (.t 37) (.c (.bool true)) (.t 41)⟩])
  (.cond (.t 42)
    (.seq (.reg [⟨(some 2), none, .mv (.c (.bool false))⟩])
    .ret)
    .skip))
  (.seq (.reg [⟨(some 8), none, .mv (.c (.int .i64 1))⟩])
  (.seq (.reg [⟨(some 43), none, .ld true 1 (.t 6)⟩,
   ⟨(some 44), none, .mv (.t 8)⟩,
   ⟨(some 45), none, .cl (.c (.fn 22 [])) [(.t 43), (.t 44)]⟩,
   ⟨(some 8), none, .mv (.t 45)⟩])
  (.seq (.reg [⟨(some 9), none, .mv (.c (.int .i64 1))⟩])
  (.seq (.reg [⟨(some 46), none, .ld true 1 (.t 6)⟩,
   ⟨(some 47), none, .mv (.t 9)⟩,
   ⟨(some 48), none, .cl (.c (.fn 23 [])) [(.t 46), (.t 47)]⟩,
   ⟨(some 9), none, .mv (.t 48)⟩])
  (.seq (.seq (.reg [⟨(some 49), none, .mv (.t 9)⟩,
   ⟨(some 50), none, .bin .lss (.t 49) (.c (.int .i64 0))⟩])
  (.cond (.t 50)
    (.seq (.reg [⟨(some 2), none, .mv (.c (.bool false))⟩])
    .ret)
    .skip))
  (.seq (.seq (.reg [⟨(some 51), none, .mv (.t 9)⟩,
   ⟨(some 52), none, .mv (.t 8)⟩,
   ⟨(some 53), none, .bin .neq (.t 51) (.t 52)⟩])
  (.cond (.t 53)
    (.seq (.reg [⟨(some 2), none, .mv (.c (.bool false))⟩])
    .ret)
    .skip))
  (.seq (.reg [⟨(some 54), none, .ld true 9 (.t 1)⟩,
   ⟨(some 55), none, .cl (.c (.fn 19 [])) [(.t 54)]⟩,
   ⟨(some 56), none, .cl (.c (.fn 20 [])) [(.t 55)]⟩,
   ⟨(some 10), none, .al [.nils]⟩,
   ⟨none, none, .st 1 (.t 10) (.t 56)⟩])
  (.seq (.seq (.reg [⟨(some 57), none, .ld true 1 (.t 10)⟩,
   ⟨(some 58), none, .ld true 1 (.t 4)⟩,
   ⟨(some 59), none, .cl (.c (.fn 21 [])) [(.t 57), (.t 58)]⟩,
   ⟨(some 60), none, .un .not (.t 59)⟩])
  (.cond (.t 60)
    (.seq (.reg [⟨(some 2), none, .mv (.c (.bool false))⟩])
    .ret)
    .skip))
  (.seq (.reg [⟨(some 9), none, .mv (.c (.int .i64 1))⟩])
  (.seq (.reg [⟨(some 61), none, .ld true 1 (.t 6)⟩,
   ⟨(some 62), none, .mv (.t 9)⟩,
   ⟨(some 63), none, .cl (.c (.fn 23 [])) [(.t 61), (.t 62)]⟩,
   ⟨(some 9), none, .mv (.t 63)⟩])
  (.seq (.seq (.reg [⟨(some 64), none, .mv (.t 9)⟩,
   ⟨(some 65), none, .bin .lss (.t 64) (.c (.int .i64 0))⟩])
  (.cond (.t 65)
    (.seq (.reg [⟨(some 2), none, .mv (.c (.bool false))⟩])
    .ret)
    .skip))
  (.seq (.seq (.reg [⟨(some 66), none, .mv (.t 9)⟩,
   ⟨(some 67), none, .mv (.t 8)⟩,
   ⟨(some 68), none, .bin .neq (.t 66) (.t 67)⟩])
  (.cond (.t 68)
    (.seq (.reg [⟨(some 2), none, .mv (.c (.bool false))⟩])
    .ret)
    .skip))
  (.seq (.reg [⟨(some 2), none, .mv (.c (.bool true))⟩])
  .ret)))))))))))))))))))))))))
theorem k_laws_FnExactStateNow : FnOk Tryz.prog 5 69 rc_laws_FnExactStateNow [.t 2] := ⟨Tryz.f5, _, [], Tryz.func5, rfl, rfl, by kernel_rfl, by kernel_rfl, follows⟩
theorem ok_laws_FnExactStateNow : okF Tryz.prog 5 = true := by kernel_rfl
end Go.Proofs.YtcehlicmghnghaaGreat.V
/- Contracts of the library, laid here. -/
namespace Go.Proofs.YtcehlicmghnghaaGreat.V
open Go Go.Proofs Go.RowKit Go.Shelf
set_option maxRecDepth 100000
def rn_slices_Sort_int : Go.Shelf.Ren := ⟨fun | 189 => 160 | 125 => 201 | 257 => 200 | 128 => 225 | 129 => 226 | 294 => 216 | 295 => 217 | 296 => 218 | 297 => 219 | 298 => 220 | 299 => 221 | 216 => 222 | 300 => 223 | 301 => 224 | 328 => 232 | 329 => 233 | 330 => 234 | 331 => 235 | 332 => 236 | 215 => 237 | 343 => 242 | n => n, fun | 28 => 34 | 3 => 3 | 46 => 150 | 0 => 0 | 51 => 201 | 53 => 205 | 4 => 4 | 183 => 236 | 182 => 235 | 131 => 187 | 5 => 5 | 9 => 9 | 218 => 246 | 222 => 250 | 228 => 252 | 229 => 253 | n => n, fun | n => n⟩
theorem ly_slices_Sort_int_189 : Go.Proofs.Lays.n189 Tryz.prog rn_slices_Sort_int := {
  mixed := by kernel_rfl,
  f125 := Tryz.func201.trans (congrArg some (by kernel_rfl)),
  f128 := Tryz.func225.trans (congrArg some (by kernel_rfl)),
  f129 := Tryz.func226.trans (congrArg some (by kernel_rfl)),
  f189 := Tryz.func160.trans (congrArg some (by kernel_rfl)),
  f215 := Tryz.func237.trans (congrArg some (by kernel_rfl)),
  f216 := Tryz.func222.trans (congrArg some (by kernel_rfl)),
  f257 := Tryz.func200.trans (congrArg some (by kernel_rfl)),
  f294 := Tryz.func216.trans (congrArg some (by kernel_rfl)),
  f295 := Tryz.func217.trans (congrArg some (by kernel_rfl)),
  f296 := Tryz.func218.trans (congrArg some (by kernel_rfl)),
  f297 := Tryz.func219.trans (congrArg some (by kernel_rfl)),
  f298 := Tryz.func220.trans (congrArg some (by kernel_rfl)),
  f299 := Tryz.func221.trans (congrArg some (by kernel_rfl)),
  f300 := Tryz.func223.trans (congrArg some (by kernel_rfl)),
  f301 := Tryz.func224.trans (congrArg some (by kernel_rfl)),
  f328 := Tryz.func232.trans (congrArg some (by kernel_rfl)),
  f329 := Tryz.func233.trans (congrArg some (by kernel_rfl)),
  f330 := Tryz.func234.trans (congrArg some (by kernel_rfl)),
  f331 := Tryz.func235.trans (congrArg some (by kernel_rfl)),
  f332 := Tryz.func236.trans (congrArg some (by kernel_rfl)),
  f343 := Tryz.func242.trans (congrArg some (by kernel_rfl)),
  t0 := Tryz.underlying0,
  a0 := Tryz.isAgg0,
  z0 := Tryz.sizeOf0,
  v0 := Tryz.zeroValue0,
  t3 := Tryz.underlying3,
  a3 := Tryz.isAgg3,
  z3 := Tryz.sizeOf3,
  v3 := Tryz.zeroValue3,
  t4 := Tryz.underlying4,
  a4 := Tryz.isAgg4,
  z4 := Tryz.sizeOf4,
  v4 := Tryz.zeroValue4,
  t5 := Tryz.underlying5,
  a5 := Tryz.isAgg5,
  z5 := Tryz.sizeOf5,
  v5 := Tryz.zeroValue5,
  t9 := Tryz.underlying9,
  a9 := Tryz.isAgg9,
  z9 := Tryz.sizeOf9,
  v9 := Tryz.zeroValue9,
  t28 := Tryz.underlying34,
  a28 := Tryz.isAgg34,
  z28 := Tryz.sizeOf34,
  v28 := Tryz.zeroValue34,
  t46 := Tryz.underlying150,
  a46 := Tryz.isAgg150,
  z46 := Tryz.sizeOf150,
  v46 := Tryz.zeroValue150,
  t51 := Tryz.underlying201,
  a51 := Tryz.isAgg201,
  z51 := Tryz.sizeOf201,
  v51 := Tryz.zeroValue201,
  t53 := Tryz.underlying205,
  a53 := Tryz.isAgg205,
  z53 := Tryz.sizeOf205,
  v53 := Tryz.zeroValue205,
  t131 := Tryz.underlying187,
  a131 := Tryz.isAgg187,
  z131 := Tryz.sizeOf187,
  v131 := Tryz.zeroValue187,
  t182 := Tryz.underlying235,
  a182 := Tryz.isAgg235,
  z182 := Tryz.sizeOf235,
  v182 := Tryz.zeroValue235,
  t183 := Tryz.underlying236,
  a183 := Tryz.isAgg236,
  z183 := Tryz.sizeOf236,
  v183 := Tryz.zeroValue236,
  t218 := Tryz.underlying246,
  a218 := Tryz.isAgg246,
  z218 := Tryz.sizeOf246,
  v218 := Tryz.zeroValue246,
  t222 := Tryz.underlying250,
  a222 := Tryz.isAgg250,
  z222 := Tryz.sizeOf250,
  v222 := Tryz.zeroValue250,
  t228 := Tryz.underlying252,
  a228 := Tryz.isAgg252,
  z228 := Tryz.sizeOf252,
  v228 := Tryz.zeroValue252,
  t229 := Tryz.underlying253,
  a229 := Tryz.isAgg253,
  z229 := Tryz.sizeOf253,
  v229 := Tryz.zeroValue253 }
theorem lay_slices_Sort_int : SortC Tryz.prog 160 := ⟨by kernel_rfl, fun blk off cap zs w h1 h2 h3 => Any.slices_Sort_int ly_slices_Sort_int_189 blk off cap zs w h1 h2 h3, fun p cap w => Any.slices_Sort_int_none ly_slices_Sort_int_189 p cap w⟩
def rn_slices_Compact_int : Go.Shelf.Ren := ⟨fun | 20 => 161 | n => n, fun | 22 => 34 | 3 => 3 | 4 => 4 | 0 => 0 | n => n, fun | n => n⟩
theorem ly_slices_Compact_int_20 : Go.Proofs.Lays2.n20 Tryz.prog rn_slices_Compact_int := {
  mixed := by kernel_rfl,
  f20 := Tryz.func161.trans (congrArg some (by kernel_rfl)),
  t0 := Tryz.underlying0,
  a0 := Tryz.isAgg0,
  z0 := Tryz.sizeOf0,
  v0 := Tryz.zeroValue0,
  t3 := Tryz.underlying3,
  a3 := Tryz.isAgg3,
  z3 := Tryz.sizeOf3,
  v3 := Tryz.zeroValue3,
  t4 := Tryz.underlying4,
  a4 := Tryz.isAgg4,
  z4 := Tryz.sizeOf4,
  v4 := Tryz.zeroValue4,
  t22 := Tryz.underlying34,
  a22 := Tryz.isAgg34,
  z22 := Tryz.sizeOf34,
  v22 := Tryz.zeroValue34,
  i3 := by kernel_rfl }
theorem lay_slices_Compact_int : CompC Tryz.prog 161 := ⟨by kernel_rfl, fun blk off cap zs w h1 h2 h3 => Any.slices_Compact_int ly_slices_Compact_int_20 blk off cap zs w h1 h2 h3, fun a cap w => Any.slices_Compact_int_empty ly_slices_Compact_int_20 a cap w⟩
end Go.Proofs.YtcehlicmghnghaaGreat.V
