/- The functions' texts. -/
import Derived.Test.YtgdcbjoaoagbpaaGreatXE
import Derived.Test.YtgdcbjoaoagbpaaGreatProg
import Derived.KernelRfl
/- The functions' texts. -/
namespace Go.Proofs.YtgdcbjoaoagbpaaGreat.V
open Go Go.Proofs Go.RowKit
set_option maxRecDepth 100000
theorem follows : Tryz.prog.follows .mixedOrders = true := by kernel_rfl
def rc_laws_eqStringS : RC :=
  (.seq (.reg [⟨(some 4), none, .mv (.c (.bool false))⟩])
  (.seq (.seq (.reg [⟨(some 6), none, .mv (.t 0)⟩,
   ⟨(some 7), none, .lenl (.t 6)⟩,
   ⟨(some 8), none, .mv (.t 1)⟩,
   ⟨(some 9), none, .lenl (.t 8)⟩,
   ⟨(some 10), none, .bin .neq (.t 7) (.t 9)⟩])
  (.cond (.t 10)
    (.seq (.reg [⟨(some 4), none, .mv (.c (.bool false))⟩])
    .ret)
    .skip))
  (.seq (.seq (.reg [⟨(some 5), none, .mv (.c (.int .i64 0))⟩])
  (.blk 0 (.loop (.seq (.seq (.reg [⟨(some 11), none, .mv (.t 5)⟩,
     ⟨(some 12), none, .mv (.t 0)⟩,
     ⟨(some 13), none, .lenl (.t 12)⟩,
     ⟨(some 14), none, .bin .lss (.t 11) (.t 13)⟩])
    (.cond (.t 14)
      .skip
      (.exit 0)))
    (.seq (.blk 1 (.seq (.drw [⟨(some 17), none, .mv (.t 0)⟩,
      ⟨(some 18), none, .mv (.t 5)⟩,
      ⟨(some 19), none, .ia 1 (.t 17) (.t 18)⟩,
      ⟨(some 20), none, .ld false 1 (.t 19)⟩,
      ⟨(some 21), none, .mv (.t 1)⟩,
      ⟨(some 22), none, .mv (.t 5)⟩,
      ⟨(some 23), none, .ia 1 (.t 21) (.t 22)⟩,
      ⟨(some 24), none, .ld false 1 (.t 23)⟩,
      ⟨(some 25), none, .bin .neq (.t 20) (.t 24)⟩] [.val [], .val [], .val [], .val [], .val [], .val [], .val [], .val [], .val []])
     (.cond (.t 25)
       (.seq (.reg [⟨(some 4), none, .mv (.c (.bool false))⟩])
       .ret)
       .skip)))
    (.reg [⟨(some 15), none, .mv (.t 5)⟩,
     ⟨(some 16), none, .bin .add (.t 15) (.c (.int .i64 1))⟩,
     ⟨(some 5), none, .mv (.t 16)⟩]))))))
  (.seq (.reg [⟨(some 4), none, .mv (.c (.bool true))⟩])
  .ret))))
theorem k_laws_eqStringS : FnOk Tryz.prog 59 26 rc_laws_eqStringS [.t 4] := ⟨Tryz.f59, _, [], Tryz.func59, rfl, rfl, by kernel_rfl, by kernel_rfl, follows⟩
theorem ok_laws_eqStringS : okF Tryz.prog 59 = true := by kernel_rfl
def rc_laws_eqWrite : RC :=
  (.seq (.reg [⟨(some 2), none, .bx (.t 0)⟩,
   ⟨(some 3), none, .bx (.t 1)⟩,
   ⟨(some 4), none, .mv (.c (.bool false))⟩])
  (.seq (.seq (.reg [⟨(some 5), none, .fa 0 (.t 2)⟩,
   ⟨(some 6), none, .ld false 1 (.t 5)⟩,
   ⟨(some 7), none, .fa 0 (.t 3)⟩,
   ⟨(some 8), none, .ld false 1 (.t 7)⟩,
   ⟨(some 9), none, .bin .neq (.t 6) (.t 8)⟩])
  (.cond (.t 9)
    (.seq (.reg [⟨(some 4), none, .mv (.c (.bool false))⟩])
    .ret)
    .skip))
  (.seq (.seq (.reg [⟨(some 10), none, .fa 1 (.t 2)⟩,
   ⟨(some 11), none, .ld false 1 (.t 10)⟩,
   ⟨(some 12), none, .fa 1 (.t 3)⟩,
   ⟨(some 13), none, .ld false 1 (.t 12)⟩,
   ⟨(some 14), none, .bin .neq (.t 11) (.t 13)⟩])
  (.cond (.t 14)
    (.seq (.reg [⟨(some 4), none, .mv (.c (.bool false))⟩])
    .ret)
    .skip))
  (.seq (.reg [⟨(some 4), none, .mv (.c (.bool true))⟩])
  .ret))))
theorem k_laws_eqWrite : FnOk Tryz.prog 80 15 rc_laws_eqWrite [.t 4] := ⟨Tryz.f80, _, [], Tryz.func80, rfl, rfl, by kernel_rfl, by kernel_rfl, follows⟩
theorem ok_laws_eqWrite : okF Tryz.prog 80 = true := by kernel_rfl
def rc_laws_eqWriteS : RC :=
  (.seq (.reg [⟨(some 4), none, .mv (.c (.bool false))⟩])
  (.seq (.seq (.reg [⟨(some 6), none, .mv (.t 0)⟩,
   ⟨(some 7), none, .lenl (.t 6)⟩,
   ⟨(some 8), none, .mv (.t 1)⟩,
   ⟨(some 9), none, .lenl (.t 8)⟩,
   ⟨(some 10), none, .bin .neq (.t 7) (.t 9)⟩])
  (.cond (.t 10)
    (.seq (.reg [⟨(some 4), none, .mv (.c (.bool false))⟩])
    .ret)
    .skip))
  (.seq (.seq (.reg [⟨(some 5), none, .mv (.c (.int .i64 0))⟩])
  (.blk 0 (.loop (.seq (.seq (.reg [⟨(some 11), none, .mv (.t 5)⟩,
     ⟨(some 12), none, .mv (.t 0)⟩,
     ⟨(some 13), none, .lenl (.t 12)⟩,
     ⟨(some 14), none, .bin .lss (.t 11) (.t 13)⟩])
    (.cond (.t 14)
      .skip
      (.exit 0)))
    (.seq (.blk 1 (.seq (.drw [⟨(some 17), none, .mv (.t 0)⟩,
      ⟨(some 18), none, .mv (.t 5)⟩,
      ⟨(some 19), none, .ia 2 (.t 17) (.t 18)⟩,
      ⟨(some 20), none, .ld true 2 (.t 19)⟩,
      ⟨(some 21), none, .mv (.t 1)⟩,
      ⟨(some 22), none, .mv (.t 5)⟩,
      ⟨(some 23), none, .ia 2 (.t 21) (.t 22)⟩,
      ⟨(some 24), none, .ld true 2 (.t 23)⟩,
      ⟨(some 25), none, .cl (.c (.fn 80 [])) [(.t 20), (.t 24)]⟩,
      ⟨(some 26), none, .un .not (.t 25)⟩] [.val [], .val [], .val [], .val [], .val [], .val [], .val [], .val [], .val [], .val []])
     (.cond (.t 26)
       (.seq (.reg [⟨(some 4), none, .mv (.c (.bool false))⟩])
       .ret)
       .skip)))
    (.reg [⟨(some 15), none, .mv (.t 5)⟩,
     ⟨(some 16), none, .bin .add (.t 15) (.c (.int .i64 1))⟩,
     ⟨(some 5), none, .mv (.t 16)⟩]))))))
  (.seq (.reg [⟨(some 4), none, .mv (.c (.bool true))⟩])
  .ret))))
theorem k_laws_eqWriteS : FnOk Tryz.prog 60 27 rc_laws_eqWriteS [.t 4] := ⟨Tryz.f60, _, [], Tryz.func60, rfl, rfl, by kernel_rfl, by kernel_rfl, follows⟩
theorem ok_laws_eqWriteS : okF Tryz.prog 60 = true := by kernel_rfl
def rc_laws_eqDisk : RC :=
  (.seq (.reg [⟨(some 2), none, .bx (.t 0)⟩,
   ⟨(some 3), none, .bx (.t 1)⟩,
   ⟨(some 4), none, .mv (.c (.bool false))⟩])
  (.seq (.seq (.reg [⟨(some 5), none, .fa 0 (.t 2)⟩,
   ⟨(some 6), none, .ld false 1 (.t 5)⟩,
   ⟨(some 7), none, .fa 0 (.t 3)⟩,
   ⟨(some 8), none, .ld false 1 (.t 7)⟩,
   ⟨(some 9), none, .cl (.c (.fn 59 [])) [(.t 6), (.t 8)]⟩,
   ⟨(some 10), none, .un .not (.t 9)⟩])
  (.cond (.t 10)
    (.seq (.reg [⟨(some 4), none, .mv (.c (.bool false))⟩])
    .ret)
    .skip))
  (.seq (.seq (.reg [⟨(some 11), none, .fa 1 (.t 2)⟩,
   ⟨(some 12), none, .ld false 1 (.t 11)⟩,
   ⟨(some 13), none, .fa 1 (.t 3)⟩,
   ⟨(some 14), none, .ld false 1 (.t 13)⟩,
   ⟨(some 15), none, .cl (.c (.fn 60 [])) [(.t 12), (.t 14)]⟩,
   ⟨(some 16), none, .un .not (.t 15)⟩])
  (.cond (.t 16)
    (.seq (.reg [⟨(some 4), none, .mv (.c (.bool false))⟩])
    .ret)
    .skip))
  (.seq (.reg [⟨(some 4), none, .mv (.c (.bool true))⟩])
  .ret))))
theorem k_laws_eqDisk : FnOk Tryz.prog 38 17 rc_laws_eqDisk [.t 4] := ⟨Tryz.f38, _, [], Tryz.func38, rfl, rfl, by kernel_rfl, by kernel_rfl, follows⟩
theorem ok_laws_eqDisk : okF Tryz.prog 38 = true := by kernel_rfl
def rc_laws_eqRec : RC :=
  (.seq (.reg [⟨(some 2), none, .bx (.t 0)⟩,
   ⟨(some 3), none, .bx (.t 1)⟩,
   ⟨(some 4), none, .mv (.c (.bool false))⟩])
  (.seq (.seq (.reg [⟨(some 5), none, .fa 0 (.t 2)⟩,
   ⟨(some 6), none, .ld false 1 (.t 5)⟩,
   ⟨(some 7), none, .fa 0 (.t 3)⟩,
   ⟨(some 8), none, .ld false 1 (.t 7)⟩,
   ⟨(some 9), none, .bin .neq (.t 6) (.t 8)⟩])
  (.cond (.t 9)
    (.seq (.reg [⟨(some 4), none, .mv (.c (.bool false))⟩])
    .ret)
    .skip))
  (.seq (.seq (.reg [⟨(some 10), none, .fa 1 (.t 2)⟩,
   ⟨(some 11), none, .ld false 1 (.t 10)⟩,
   ⟨(some 12), none, .fa 1 (.t 3)⟩,
   ⟨(some 13), none, .ld false 1 (.t 12)⟩,
   ⟨(some 14), none, .bin .neq (.t 11) (.t 13)⟩])
  (.cond (.t 14)
    (.seq (.reg [⟨(some 4), none, .mv (.c (.bool false))⟩])
    .ret)
    .skip))
  (.seq (.seq (.reg [⟨(some 15), none, .fa 2 (.t 2)⟩,
   ⟨(some 16), none, .ld false 1 (.t 15)⟩,
   ⟨(some 17), none, .fa 2 (.t 3)⟩,
   ⟨(some 18), none, .ld false 1 (.t 17)⟩,
   ⟨(some 19), none, .bin .neq (.t 16) (.t 18)⟩])
  (.cond (.t 19)
    (.seq (.reg [⟨(some 4), none, .mv (.c (.bool false))⟩])
    .ret)
    .skip))
  (.seq (.seq (.reg [⟨(some 20), none, .fa 3 (.t 2)⟩,
   ⟨(some 21), none, .ld false 1 (.t 20)⟩,
   ⟨(some 22), none, .fa 3 (.t 3)⟩,
   ⟨(some 23), none, .ld false 1 (.t 22)⟩,
   ⟨(some 24), none, .bin .neq (.t 21) (.t 23)⟩])
  (.cond (.t 24)
    (.seq (.reg [⟨(some 4), none, .mv (.c (.bool false))⟩])
    .ret)
    .skip))
  (.seq (.seq (.reg [⟨(some 25), none, .fa 4 (.t 2)⟩,
   ⟨(some 26), none, .ld false 1 (.t 25)⟩,
   ⟨(some 27), none, .fa 4 (.t 3)⟩,
   ⟨(some 28), none, .ld false 1 (.t 27)⟩,
   ⟨(some 29), none, .bin .neq (.t 26) (.t 28)⟩])
  (.cond (.t 29)
    (.seq (.reg [⟨(some 4), none, .mv (.c (.bool false))⟩])
    .ret)
    .skip))
  (.seq (.seq (.reg [⟨(some 30), none, .fa 5 (.t 2)⟩,
   ⟨(some 31), none, .ld false 1 (.t 30)⟩,
   ⟨(some 32), none, .fa 5 (.t 3)⟩,
   ⟨(some 33), none, .ld false 1 (.t 32)⟩,
   ⟨(some 34), none, .bin .neq (.t 31) (.t 33)⟩])
  (.cond (.t 34)
    (.seq (.reg [⟨(some 4), none, .mv (.c (.bool false))⟩])
    .ret)
    .skip))
  (.seq (.seq (.reg [⟨(some 35), none, .fa 6 (.t 2)⟩,
   ⟨(some 36), none, .ld false 1 (.t 35)⟩,
   ⟨(some 37), none, .fa 6 (.t 3)⟩,
   ⟨(some 38), none, .ld false 1 (.t 37)⟩,
   ⟨(some 39), none, .bin .neq (.t 36) (.t 38)⟩])
  (.cond (.t 39)
    (.seq (.reg [⟨(some 4), none, .mv (.c (.bool false))⟩])
    .ret)
    .skip))
  (.seq (.seq (.reg [⟨(some 40), none, .fa 7 (.t 2)⟩,
   ⟨(some 41), none, .ld false 1 (.t 40)⟩,
   ⟨(some 42), none, .fa 7 (.t 3)⟩,
   ⟨(some 43), none, .ld false 1 (.t 42)⟩,
   ⟨(some 44), none, .bin .neq (.t 41) (.t 43)⟩])
  (.cond (.t 44)
    (.seq (.reg [⟨(some 4), none, .mv (.c (.bool false))⟩])
    .ret)
    .skip))
  (.seq (.reg [⟨(some 4), none, .mv (.c (.bool true))⟩])
  .ret))))))))))
theorem k_laws_eqRec : FnOk Tryz.prog 111 45 rc_laws_eqRec [.t 4] := ⟨Tryz.f111, _, [], Tryz.func111, rfl, rfl, by kernel_rfl, by kernel_rfl, follows⟩
theorem ok_laws_eqRec : okF Tryz.prog 111 = true := by kernel_rfl
def rc_laws_eqItem : RC :=
  (.seq (.reg [⟨(some 2), none, .bx (.t 0)⟩,
   ⟨(some 3), none, .bx (.t 1)⟩,
   ⟨(some 4), none, .mv (.c (.bool false))⟩])
  (.seq (.seq (.reg [⟨(some 5), none, .fa 0 (.t 2)⟩,
   ⟨(some 6), none, .ld false 1 (.t 5)⟩,
   ⟨(some 7), none, .fa 0 (.t 3)⟩,
   ⟨(some 8), none, .ld false 1 (.t 7)⟩,
   ⟨(some 9), none, .bin .neq (.t 6) (.t 8)⟩])
  (.cond (.t 9)
    (.seq (.reg [⟨(some 4), none, .mv (.c (.bool false))⟩])
    .ret)
    .skip))
  (.seq (.seq (.reg [⟨(some 10), none, .fa 1 (.t 2)⟩,
   ⟨(some 11), none, .ld true 8 (.t 10)⟩,
   ⟨(some 12), none, .fa 1 (.t 3)⟩,
   ⟨(some 13), none, .ld true 8 (.t 12)⟩,
   ⟨(some 14), none, .cl (.c (.fn 111 [])) [(.t 11), (.t 13)]⟩,
   ⟨(some 15), none, .un .not (.t 14)⟩])
  (.cond (.t 15)
    (.seq (.reg [⟨(some 4), none, .mv (.c (.bool false))⟩])
    .ret)
    .skip))
  (.seq (.reg [⟨(some 4), none, .mv (.c (.bool true))⟩])
  .ret))))
theorem k_laws_eqItem : FnOk Tryz.prog 101 16 rc_laws_eqItem [.t 4] := ⟨Tryz.f101, _, [], Tryz.func101, rfl, rfl, by kernel_rfl, by kernel_rfl, follows⟩
theorem ok_laws_eqItem : okF Tryz.prog 101 = true := by kernel_rfl
def rc_laws_eqItemS : RC :=
  (.seq (.reg [⟨(some 4), none, .mv (.c (.bool false))⟩])
  (.seq (.seq (.reg [⟨(some 6), none, .mv (.t 0)⟩,
   ⟨(some 7), none, .lenl (.t 6)⟩,
   ⟨(some 8), none, .mv (.t 1)⟩,
   ⟨(some 9), none, .lenl (.t 8)⟩,
   ⟨(some 10), none, .bin .neq (.t 7) (.t 9)⟩])
  (.cond (.t 10)
    (.seq (.reg [⟨(some 4), none, .mv (.c (.bool false))⟩])
    .ret)
    .skip))
  (.seq (.seq (.reg [⟨(some 5), none, .mv (.c (.int .i64 0))⟩])
  (.blk 0 (.loop (.seq (.seq (.reg [⟨(some 11), none, .mv (.t 5)⟩,
     ⟨(some 12), none, .mv (.t 0)⟩,
     ⟨(some 13), none, .lenl (.t 12)⟩,
     ⟨(some 14), none, .bin .lss (.t 11) (.t 13)⟩])
    (.cond (.t 14)
      .skip
      (.exit 0)))
    (.seq (.blk 1 (.seq (.drw [⟨(some 17), none, .mv (.t 0)⟩,
      ⟨(some 18), none, .mv (.t 5)⟩,
      ⟨(some 19), none, .ia 9 (.t 17) (.t 18)⟩,
      ⟨(some 20), none, .ld true 9 (.t 19)⟩,
      ⟨(some 21), none, .mv (.t 1)⟩,
      ⟨(some 22), none, .mv (.t 5)⟩,
      ⟨(some 23), none, .ia 9 (.t 21) (.t 22)⟩,
      ⟨(some 24), none, .ld true 9 (.t 23)⟩,
      ⟨(some 25), none, .cl (.c (.fn 101 [])) [(.t 20), (.t 24)]⟩,
      ⟨(some 26), none, .un .not (.t 25)⟩] [.val [], .val [], .val [], .val [], .val [], .val [], .val [], .val [], .val [], .val []])
     (.cond (.t 26)
       (.seq (.reg [⟨(some 4), none, .mv (.c (.bool false))⟩])
       .ret)
       .skip)))
    (.reg [⟨(some 15), none, .mv (.t 5)⟩,
     ⟨(some 16), none, .bin .add (.t 15) (.c (.int .i64 1))⟩,
     ⟨(some 5), none, .mv (.t 16)⟩]))))))
  (.seq (.reg [⟨(some 4), none, .mv (.c (.bool true))⟩])
  .ret))))
theorem k_laws_eqItemS : FnOk Tryz.prog 81 27 rc_laws_eqItemS [.t 4] := ⟨Tryz.f81, _, [], Tryz.func81, rfl, rfl, by kernel_rfl, by kernel_rfl, follows⟩
theorem ok_laws_eqItemS : okF Tryz.prog 81 = true := by kernel_rfl
def rc_laws_eqSeg : RC :=
  (.seq (.reg [⟨(some 2), none, .bx (.t 0)⟩,
   ⟨(some 3), none, .bx (.t 1)⟩,
   ⟨(some 4), none, .mv (.c (.bool false))⟩])
  (.seq (.seq (.reg [⟨(some 5), none, .fa 0 (.t 2)⟩,
   ⟨(some 6), none, .ld false 1 (.t 5)⟩,
   ⟨(some 7), none, .fa 0 (.t 3)⟩,
   ⟨(some 8), none, .ld false 1 (.t 7)⟩,
   ⟨(some 9), none, .bin .neq (.t 6) (.t 8)⟩])
  (.cond (.t 9)
    (.seq (.reg [⟨(some 4), none, .mv (.c (.bool false))⟩])
    .ret)
    .skip))
  (.seq (.seq (.reg [⟨(some 10), none, .fa 1 (.t 2)⟩,
   ⟨(some 11), none, .ld false 1 (.t 10)⟩,
   ⟨(some 12), none, .fa 1 (.t 3)⟩,
   ⟨(some 13), none, .ld false 1 (.t 12)⟩,
   ⟨(some 14), none, .bin .neq (.t 11) (.t 13)⟩])
  (.cond (.t 14)
    (.seq (.reg [⟨(some 4), none, .mv (.c (.bool false))⟩])
    .ret)
    .skip))
  (.seq (.seq (.reg [⟨(some 15), none, .fa 2 (.t 2)⟩,
   ⟨(some 16), none, .ld false 1 (.t 15)⟩,
   ⟨(some 17), none, .fa 2 (.t 3)⟩,
   ⟨(some 18), none, .ld false 1 (.t 17)⟩,
   ⟨(some 19), none, .bin .neq (.t 16) (.t 18)⟩])
  (.cond (.t 19)
    (.seq (.reg [⟨(some 4), none, .mv (.c (.bool false))⟩])
    .ret)
    .skip))
  (.seq (.seq (.reg [⟨(some 20), none, .fa 3 (.t 2)⟩,
   ⟨(some 21), none, .ld false 1 (.t 20)⟩,
   ⟨(some 22), none, .fa 3 (.t 3)⟩,
   ⟨(some 23), none, .ld false 1 (.t 22)⟩,
   ⟨(some 24), none, .cl (.c (.fn 81 [])) [(.t 21), (.t 23)]⟩,
   ⟨(some 25), none, .un .not (.t 24)⟩])
  (.cond (.t 25)
    (.seq (.reg [⟨(some 4), none, .mv (.c (.bool false))⟩])
    .ret)
    .skip))
  (.seq (.reg [⟨(some 4), none, .mv (.c (.bool true))⟩])
  .ret))))))
theorem k_laws_eqSeg : FnOk Tryz.prog 61 26 rc_laws_eqSeg [.t 4] := ⟨Tryz.f61, _, [], Tryz.func61, rfl, rfl, by kernel_rfl, by kernel_rfl, follows⟩
theorem ok_laws_eqSeg : okF Tryz.prog 61 = true := by kernel_rfl
def rc_laws_eqSegS : RC :=
  (.seq (.reg [⟨(some 4), none, .mv (.c (.bool false))⟩])
  (.seq (.seq (.reg [⟨(some 6), none, .mv (.t 0)⟩,
   ⟨(some 7), none, .lenl (.t 6)⟩,
   ⟨(some 8), none, .mv (.t 1)⟩,
   ⟨(some 9), none, .lenl (.t 8)⟩,
   ⟨(some 10), none, .bin .neq (.t 7) (.t 9)⟩])
  (.cond (.t 10)
    (.seq (.reg [⟨(some 4), none, .mv (.c (.bool false))⟩])
    .ret)
    .skip))
  (.seq (.seq (.reg [⟨(some 5), none, .mv (.c (.int .i64 0))⟩])
  (.blk 0 (.loop (.seq (.seq (.reg [⟨(some 11), none, .mv (.t 5)⟩,
     ⟨(some 12), none, .mv (.t 0)⟩,
     ⟨(some 13), none, .lenl (.t 12)⟩,
     ⟨(some 14), none, .bin .lss (.t 11) (.t 13)⟩])
    (.cond (.t 14)
      .skip
      (.exit 0)))
    (.seq (.blk 1 (.seq (.drw [⟨(some 17), none, .mv (.t 0)⟩,
      ⟨(some 18), none, .mv (.t 5)⟩,
      ⟨(some 19), none, .ia 4 (.t 17) (.t 18)⟩,
      ⟨(some 20), none, .ld true 4 (.t 19)⟩,
      ⟨(some 21), none, .mv (.t 1)⟩,
      ⟨(some 22), none, .mv (.t 5)⟩,
      ⟨(some 23), none, .ia 4 (.t 21) (.t 22)⟩,
      ⟨(some 24), none, .ld true 4 (.t 23)⟩,
      ⟨(some 25), none, .cl (.c (.fn 61 [])) [(.t 20), (.t 24)]⟩,
      ⟨(some 26), none, .un .not (.t 25)⟩] [.val [], .val [], .val [], .val [], .val [], .val [], .val [], .val [], .val [], .val []])
     (.cond (.t 26)
       (.seq (.reg [⟨(some 4), none, .mv (.c (.bool false))⟩])
       .ret)
       .skip)))
    (.reg [⟨(some 15), none, .mv (.t 5)⟩,
     ⟨(some 16), none, .bin .add (.t 15) (.c (.int .i64 1))⟩,
     ⟨(some 5), none, .mv (.t 16)⟩]))))))
  (.seq (.reg [⟨(some 4), none, .mv (.c (.bool true))⟩])
  .ret))))
theorem k_laws_eqSegS : FnOk Tryz.prog 39 27 rc_laws_eqSegS [.t 4] := ⟨Tryz.f39, _, [], Tryz.func39, rfl, rfl, by kernel_rfl, by kernel_rfl, follows⟩
theorem ok_laws_eqSegS : okF Tryz.prog 39 = true := by kernel_rfl
def rc_laws_eqLog : RC :=
  (.seq (.reg [⟨(some 2), none, .bx (.t 0)⟩,
   ⟨(some 3), none, .bx (.t 1)⟩,
   ⟨(some 4), none, .mv (.c (.bool false))⟩])
  (.seq (.seq (.reg [⟨(some 5), none, .fa 0 (.t 2)⟩,
   ⟨(some 6), none, .ld true 2 (.t 5)⟩,
   ⟨(some 7), none, .fa 0 (.t 3)⟩,
   ⟨(some 8), none, .ld true 2 (.t 7)⟩,
   ⟨(some 9), none, .cl (.c (.fn 38 [])) [(.t 6), (.t 8)]⟩,
   ⟨(some 10), none, .un .not (.t 9)⟩])
  (.cond (.t 10)
    (.seq (.reg [⟨(some 4), none, .mv (.c (.bool false))⟩])
    .ret)
    .skip))
  (.seq (.seq (.reg [⟨(some 11), none, .fa 2 (.t 2)⟩,
   ⟨(some 12), none, .ld false 1 (.t 11)⟩,
   ⟨(some 13), none, .fa 2 (.t 3)⟩,
   ⟨(some 14), none, .ld false 1 (.t 13)⟩,
   ⟨(some 15), none, .bin .neq (.t 12) (.t 14)⟩])
  (.cond (.t 15)
    (.seq (.reg [⟨(some 4), none, .mv (.c (.bool false))⟩])
    .ret)
    .skip))
  (.seq (.seq (.reg [⟨(some 16), none, .fa 3 (.t 2)⟩,
   ⟨(some 17), none, .ld false 1 (.t 16)⟩,
   ⟨(some 18), none, .fa 3 (.t 3)⟩,
   ⟨(some 19), none, .ld false 1 (.t 18)⟩,
   ⟨(some 20), none, .cl (.c (.fn 39 [])) [(.t 17), (.t 19)]⟩,
   ⟨(some 21), none, .un .not (.t 20)⟩])
  (.cond (.t 21)
    (.seq (.reg [⟨(some 4), none, .mv (.c (.bool false))⟩])
    .ret)
    .skip))
  (.seq (.seq (.reg [⟨(some 22), none, .fa 4 (.t 2)⟩,
   ⟨(some 23), none, .ld false 1 (.t 22)⟩,
   ⟨(some 24), none, .fa 4 (.t 3)⟩,
   ⟨(some 25), none, .ld false 1 (.t 24)⟩,
   ⟨(some 26), none, .bin .neq (.t 23) (.t 25)⟩])
  (.cond (.t 26)
    (.seq (.reg [⟨(some 4), none, .mv (.c (.bool false))⟩])
    .ret)
    .skip))
  (.seq (.seq (.reg [⟨(some 27), none, .fa 5 (.t 2)⟩,
   ⟨(some 28), none, .ld false 1 (.t 27)⟩,
   ⟨(some 29), none, .fa 5 (.t 3)⟩,
   ⟨(some 30), none, .ld false 1 (.t 29)⟩,
   ⟨(some 31), none, .bin .neq (.t 28) (.t 30)⟩])
  (.cond (.t 31)
    (.seq (.reg [⟨(some 4), none, .mv (.c (.bool false))⟩])
    .ret)
    .skip))
  (.seq (.seq (.reg [⟨(some 32), none, .fa 6 (.t 2)⟩,
   ⟨(some 33), none, .ld false 1 (.t 32)⟩,
   ⟨(some 34), none, .fa 6 (.t 3)⟩,
   ⟨(some 35), none, .ld false 1 (.t 34)⟩,
   ⟨(some 36), none, .bin .neq (.t 33) (.t 35)⟩])
  (.cond (.t 36)
    (.seq (.reg [⟨(some 4), none, .mv (.c (.bool false))⟩])
    .ret)
    .skip))
  (.seq (.seq (.reg [⟨(some 37), none, .fa 7 (.t 2)⟩,
   ⟨(some 38), none, .ld false 1 (.t 37)⟩,
   ⟨(some 39), none, .fa 7 (.t 3)⟩,
   ⟨(some 40), none, .ld false 1 (.t 39)⟩,
   ⟨(some 41), none, .bin .neq (.t 38) (.t 40)⟩])
  (.cond (.t 41)
    (.seq (.reg [⟨(some 4), none, .mv (.c (.bool false))⟩])
    .ret)
    .skip))
  (.seq (.reg [⟨(some 4), none, .mv (.c (.bool true))⟩])
  .ret)))))))))
theorem k_laws_eqLog : FnOk Tryz.prog 21 42 rc_laws_eqLog [.t 4] := ⟨Tryz.f21, _, [], Tryz.func21, rfl, rfl, by kernel_rfl, by kernel_rfl, follows⟩
theorem ok_laws_eqLog : okF Tryz.prog 21 = true := by kernel_rfl
def rc_laws_eqIntS : RC :=
  (.seq (.reg [⟨(some 4), none, .mv (.c (.bool false))⟩])
  (.seq (.seq (.reg [⟨(some 6), none, .mv (.t 0)⟩,
   ⟨(some 7), none, .lenl (.t 6)⟩,
   ⟨(some 8), none, .mv (.t 1)⟩,
   ⟨(some 9), none, .lenl (.t 8)⟩,
   ⟨(some 10), none, .bin .neq (.t 7) (.t 9)⟩])
  (.cond (.t 10)
    (.seq (.reg [⟨(some 4), none, .mv (.c (.bool false))⟩])
    .ret)
    .skip))
  (.seq (.seq (.reg [⟨(some 5), none, .mv (.c (.int .i64 0))⟩])
  (.blk 0 (.loop (.seq (.seq (.reg [⟨(some 11), none, .mv (.t 5)⟩,
     ⟨(some 12), none, .mv (.t 0)⟩,
     ⟨(some 13), none, .lenl (.t 12)⟩,
     ⟨(some 14), none, .bin .lss (.t 11) (.t 13)⟩])
    (.cond (.t 14)
      .skip
      (.exit 0)))
    (.seq (.blk 1 (.seq (.drw [⟨(some 17), none, .mv (.t 0)⟩,
      ⟨(some 18), none, .mv (.t 5)⟩,
      ⟨(some 19), none, .ia 1 (.t 17) (.t 18)⟩,
      ⟨(some 20), none, .ld false 1 (.t 19)⟩,
      ⟨(some 21), none, .mv (.t 1)⟩,
      ⟨(some 22), none, .mv (.t 5)⟩,
      ⟨(some 23), none, .ia 1 (.t 21) (.t 22)⟩,
      ⟨(some 24), none, .ld false 1 (.t 23)⟩,
      ⟨(some 25), none, .bin .neq (.t 20) (.t 24)⟩] [.val [], .val [], .val [], .val [], .val [], .val [], .val [], .val [], .val []])
     (.cond (.t 25)
       (.seq (.reg [⟨(some 4), none, .mv (.c (.bool false))⟩])
       .ret)
       .skip)))
    (.reg [⟨(some 15), none, .mv (.t 5)⟩,
     ⟨(some 16), none, .bin .add (.t 15) (.c (.int .i64 1))⟩,
     ⟨(some 5), none, .mv (.t 16)⟩]))))))
  (.seq (.reg [⟨(some 4), none, .mv (.c (.bool true))⟩])
  .ret))))
theorem k_laws_eqIntS : FnOk Tryz.prog 22 26 rc_laws_eqIntS [.t 4] := ⟨Tryz.f22, _, [], Tryz.func22, rfl, rfl, by kernel_rfl, by kernel_rfl, follows⟩
theorem ok_laws_eqIntS : okF Tryz.prog 22 = true := by kernel_rfl
def rc_laws_eqStore : RC :=
  (.seq (.reg [⟨(some 2), none, .bx (.t 0)⟩,
   ⟨(some 3), none, .bx (.t 1)⟩,
   ⟨(some 4), none, .mv (.c (.bool false))⟩])
  (.seq (.seq (.reg [⟨(some 5), none, .fa 0 (.t 2)⟩,
   ⟨(some 6), none, .ld true 8 (.t 5)⟩,
   ⟨(some 7), none, .fa 0 (.t 3)⟩,
   ⟨(some 8), none, .ld true 8 (.t 7)⟩,
   ⟨(some 9), none, .cl (.c (.fn 21 [])) [(.t 6), (.t 8)]⟩,
   ⟨(some 10), none, .un .not (.t 9)⟩])
  (.cond (.t 10)
    (.seq (.reg [⟨(some 4), none, .mv (.c (.bool false))⟩])
    .ret)
    .skip))
  (.seq (.seq (.reg [⟨(some 11), none, .fa 8 (.t 2)⟩,
   ⟨(some 12), none, .ld false 1 (.t 11)⟩,
   ⟨(some 13), none, .fa 8 (.t 3)⟩,
   ⟨(some 14), none, .ld false 1 (.t 13)⟩,
   ⟨(some 15), none, .cl (.c (.fn 22 [])) [(.t 12), (.t 14)]⟩,
   ⟨(some 16), none, .un .not (.t 15)⟩])
  (.cond (.t 16)
    (.seq (.reg [⟨(some 4), none, .mv (.c (.bool false))⟩])
    .ret)
    .skip))
  (.seq (.reg [⟨(some 4), none, .mv (.c (.bool true))⟩])
  .ret))))
theorem k_laws_eqStore : FnOk Tryz.prog 10 17 rc_laws_eqStore [.t 4] := ⟨Tryz.f10, _, [], Tryz.func10, rfl, rfl, by kernel_rfl, by kernel_rfl, follows⟩
theorem ok_laws_eqStore : okF Tryz.prog 10 = true := by kernel_rfl
def rc_laws_szStringS : RC :=
  (.seq (.reg [⟨(some 4), none, .mv (.c (.int .i64 0))⟩])
  (.seq (.reg [⟨(some 6), none, .mv (.t 1)⟩,
   ⟨(some 7), none, .mv (.t 0)⟩,
   ⟨(some 8), none, .lenl (.t 7)⟩,
   ⟨(some 9), none, .bin .sub (.t 6) (.t 8)⟩,
   ⟨(some 1), none, .mv (.t 9)⟩])
  (.seq (.seq (.reg [⟨(some 10), none, .mv (.t 1)⟩,
   ⟨(some 11), none, .bin .lss (.t 10) (.c (.int .i64 0))⟩])
  (.cond (.t 11)
    (.seq (.reg [⟨(some 4), none, .mv (.c (.int .i64 (-1)))⟩])
    .ret)
    .skip))
  (.seq (.seq (.reg [⟨(some 5), none, .mv (.c (.int .i64 0))⟩])
  (.blk 0 (.loop (.seq (.seq (.reg [⟨(some 12), none, .mv (.t 5)⟩,
     ⟨(some 13), none, .mv (.t 0)⟩,
     ⟨(some 14), none, .lenl (.t 13)⟩,
     ⟨(some 15), none, .bin .lss (.t 12) (.t 14)⟩])
    (.cond (.t 15)
      .skip
      (.exit 0)))
    (.seq (.blk 1 (.seq (.reg [⟨(some 18), none, .mv (.t 1)⟩,
      ⟨(some 19), none, .mv (.t 0)⟩,
      ⟨(some 20), none, .mv (.t 5)⟩,
      ⟨(some 21), none, .ia 1 (.t 19) (.t 20)⟩,
      ⟨(some 22), none, .ld false 1 (.t 21)⟩,
      ⟨(some 23), none, .lens (.t 22)⟩,
      ⟨(some 24), none, .bin .sub (.t 18) (.t 23)⟩,
      ⟨(some 1), none, .mv (.t 24)⟩])
     (.seq (.reg [⟨(some 25), none, .mv (.t 1)⟩,
      ⟨(some 26), none, .bin .lss (.t 25) (.c (.int .i64 0))⟩])
     (.cond (.t 26)
       (.seq (.reg [⟨(some 4), none, .mv (.c (.int .i64 (-1)))⟩])
       .ret)
       .skip))))
    (.reg [⟨(some 16), none, .mv (.t 5)⟩,
     ⟨(some 17), none, .bin .add (.t 16) (.c (.int .i64 1))⟩,
     ⟨(some 5), none, .mv (.t 17)⟩]))))))
  (.seq (.reg [⟨(some 27), none, .mv (.t 1)⟩,
   ⟨(some 4), none, .mv (.t 27)⟩])
  .ret)))))
theorem k_laws_szStringS : FnOk Tryz.prog 43 28 rc_laws_szStringS [.t 4] := ⟨Tryz.f43, _, [], Tryz.func43, rfl, rfl, by kernel_rfl, by kernel_rfl, follows⟩
theorem ok_laws_szStringS : okF Tryz.prog 43 = true := by kernel_rfl
def rc_laws_szWrite : RC :=
  (.seq (.reg [⟨(some 2), none, .bx (.t 0)⟩,
   ⟨(some 4), none, .mv (.c (.int .i64 0))⟩])
  (.seq (.reg [⟨(some 5), none, .mv (.t 1)⟩,
   ⟨(some 6), none, .fa 1 (.t 2)⟩,
   ⟨(some 7), none, .ld false 1 (.t 6)⟩,
   ⟨(some 8), none, .lens (.t 7)⟩,
   ⟨(some 9), none, .bin .sub (.t 5) (.t 8)⟩,
   ⟨(some 1), none, .mv (.t 9)⟩])
  (.seq (.seq (.reg [⟨(some 10), none, .mv (.t 1)⟩,
   ⟨(some 11), none, .bin .lss (.t 10) (.c (.int .i64 0))⟩])
  (.cond (.t 11)
    (.seq (.reg [⟨(some 4), none, .mv (.c (.int .i64 (-1)))⟩])
    .ret)
    .skip))
  (.seq (.reg [⟨(some 12), none, .mv (.t 1)⟩,
   ⟨(some 4), none, .mv (.t 12)⟩])
  .ret))))
theorem k_laws_szWrite : FnOk Tryz.prog 63 13 rc_laws_szWrite [.t 4] := ⟨Tryz.f63, _, [], Tryz.func63, rfl, rfl, by kernel_rfl, by kernel_rfl, follows⟩
theorem ok_laws_szWrite : okF Tryz.prog 63 = true := by kernel_rfl
def rc_laws_szWriteS : RC :=
  (.seq (.reg [⟨(some 4), none, .mv (.c (.int .i64 0))⟩])
  (.seq (.reg [⟨(some 6), none, .mv (.t 1)⟩,
   ⟨(some 7), none, .mv (.t 0)⟩,
   ⟨(some 8), none, .lenl (.t 7)⟩,
   ⟨(some 9), none, .bin .sub (.t 6) (.t 8)⟩,
   ⟨(some 1), none, .mv (.t 9)⟩])
  (.seq (.seq (.reg [⟨(some 10), none, .mv (.t 1)⟩,
   ⟨(some 11), none, .bin .lss (.t 10) (.c (.int .i64 0))⟩])
  (.cond (.t 11)
    (.seq (.reg [⟨(some 4), none, .mv (.c (.int .i64 (-1)))⟩])
    .ret)
    .skip))
  (.seq (.seq (.reg [⟨(some 5), none, .mv (.c (.int .i64 0))⟩])
  (.blk 0 (.loop (.seq (.seq (.reg [⟨(some 12), none, .mv (.t 5)⟩,
     ⟨(some 13), none, .mv (.t 0)⟩,
     ⟨(some 14), none, .lenl (.t 13)⟩,
     ⟨(some 15), none, .bin .lss (.t 12) (.t 14)⟩])
    (.cond (.t 15)
      .skip
      (.exit 0)))
    (.seq (.blk 1 (.seq (.reg [⟨(some 18), none, .mv (.t 0)⟩,
      ⟨(some 19), none, .mv (.t 5)⟩,
      ⟨(some 20), none, .ia 2 (.t 18) (.t 19)⟩,
      ⟨(some 21), none, .ld true 2 (.t 20)⟩,
      ⟨(some 22), none, .mv (.t 1)⟩,
      ⟨(some 23), none, .cl (.c (.fn 63 [])) [(.t 21), (.t 22)]⟩,
      ⟨(some 1), none, .mv (.t 23)⟩])
     (.seq (.reg [⟨(some 24), none, .mv (.t 1)⟩,
      ⟨(some 25), none, .bin .lss (.t 24) (.c (.int .i64 0))⟩])
     (.cond (.t 25)
       (.seq (.reg [⟨(some 4), none, .mv (.c (.int .i64 (-1)))⟩])
       .ret)
       .skip))))
    (.reg [⟨(some 16), none, .mv (.t 5)⟩,
     ⟨(some 17), none, .bin .add (.t 16) (.c (.int .i64 1))⟩,
     ⟨(some 5), none, .mv (.t 17)⟩]))))))
  (.seq (.reg [⟨(some 26), none, .mv (.t 1)⟩,
   ⟨(some 4), none, .mv (.t 26)⟩])
  .ret)))))
theorem k_laws_szWriteS : FnOk Tryz.prog 44 27 rc_laws_szWriteS [.t 4] := ⟨Tryz.f44, _, [], Tryz.func44, rfl, rfl, by kernel_rfl, by kernel_rfl, follows⟩
theorem ok_laws_szWriteS : okF Tryz.prog 44 = true := by kernel_rfl
def rc_laws_szDisk : RC :=
  (.seq (.reg [⟨(some 2), none, .bx (.t 0)⟩,
   ⟨(some 4), none, .mv (.c (.int .i64 0))⟩])
  (.seq (.reg [⟨(some 5), none, .fa 0 (.t 2)⟩,
   ⟨(some 6), none, .ld false 1 (.t 5)⟩,
   ⟨(some 7), none, .mv (.t 1)⟩,
   ⟨(some 8), none, .cl (.c (.fn 43 [])) [(.t 6), (.t 7)]⟩,
   ⟨(some 1), none, .mv (.t 8)⟩])
  (.seq (.seq (.reg [⟨(some 9), none, .mv (.t 1)⟩,
   ⟨(some 10), none, .bin .lss (.t 9) (.c (.int .i64 0))⟩])
  (.cond (.t 10)
    (.seq (.reg [⟨(some 4), none, .mv (.c (.int .i64 (-1)))⟩])
    .ret)
    .skip))
  (.seq (.reg [⟨(some 11), none, .fa 1 (.t 2)⟩,
   ⟨(some 12), none, .ld false 1 (.t 11)⟩,
   ⟨(some 13), none, .mv (.t 1)⟩,
   ⟨(some 14), none, .cl (.c (.fn 44 [])) [(.t 12), (.t 13)]⟩,
   ⟨(some 1), none, .mv (.t 14)⟩])
  (.seq (.seq (.reg [⟨(some 15), none, .mv (.t 1)⟩,
   ⟨(some 16), none, .bin .lss (.t 15) (.c (.int .i64 0))⟩])
  (.cond (.t 16)
    (.seq (.reg [⟨(some 4), none, .mv (.c (.int .i64 (-1)))⟩])
    .ret)
    .skip))
  (.seq (.reg [⟨(some 17), none, .mv (.t 1)⟩,
   ⟨(some 4), none, .mv (.t 17)⟩])
  .ret))))))
theorem k_laws_szDisk : FnOk Tryz.prog 26 18 rc_laws_szDisk [.t 4] := ⟨Tryz.f26, _, [], Tryz.func26, rfl, rfl, by kernel_rfl, by kernel_rfl, follows⟩
theorem ok_laws_szDisk : okF Tryz.prog 26 = true := by kernel_rfl
def rc_laws_szRec : RC :=
  (.seq (.reg [⟨(some 2), none, .bx (.t 0)⟩,
   ⟨(some 4), none, .mv (.c (.int .i64 0))⟩])
  (.seq (.reg [⟨(some 5), none, .mv (.t 1)⟩,
   ⟨(some 6), none, .fa 5 (.t 2)⟩,
   ⟨(some 7), none, .ld false 1 (.t 6)⟩,
   ⟨(some 8), none, .lens (.t 7)⟩,
   ⟨(some 9), none, .bin .sub (.t 5) (.t 8)⟩,
   ⟨(some 1), none, .mv (.t 9)⟩])
  (.seq (.seq (.reg [⟨(some 10), none, .mv (.t 1)⟩,
   ⟨(some 11), none, .bin .lss (.t 10) (.c (.int .i64 0))⟩])
  (.cond (.t 11)
    (.seq (.reg [⟨(some 4), none, .mv (.c (.int .i64 (-1)))⟩])
    .ret)
    .skip))
  (.seq (.reg [⟨(some 12), none, .mv (.t 1)⟩,
   ⟨(some 13), none, .fa 6 (.t 2)⟩,
   ⟨(some 14), none, .ld false 1 (.t 13)⟩,
   ⟨(some 15), none, .lens (.t 14)⟩,
   ⟨(some 16), none, .bin .sub (.t 12) (.t 15)⟩,
   ⟨(some 1), none, .mv (.t 16)⟩])
  (.seq (.seq (.reg [⟨(some 17), none, .mv (.t 1)⟩,
   ⟨(some 18), none, .bin .lss (.t 17) (.c (.int .i64 0))⟩])
  (.cond (.t 18)
    (.seq (.reg [⟨(some 4), none, .mv (.c (.int .i64 (-1)))⟩])
    .ret)
    .skip))
  (.seq (.reg [⟨(some 19), none, .mv (.t 1)⟩,
   ⟨(some 20), none, .fa 7 (.t 2)⟩,
   ⟨(some 21), none, .ld false 1 (.t 20)⟩,
   ⟨(some 22), none, .lens (.t 21)⟩,
   ⟨(some 23), none, .bin .sub (.t 19) (.t 22)⟩,
   ⟨(some 1), none, .mv (.t 23)⟩])
  (.seq (.seq (.reg [⟨(some 24), none, .mv (.t 1)⟩,
   ⟨(some 25), none, .bin .lss (.t 24) (.c (.int .i64 0))⟩])
  (.cond (.t 25)
    (.seq (.reg [⟨(some 4), none, .mv (.c (.int .i64 (-1)))⟩])
    .ret)
    .skip))
  (.seq (.reg [⟨(some 26), none, .mv (.t 1)⟩,
   ⟨(some 4), none, .mv (.t 26)⟩])
  .ret))))))))
theorem k_laws_szRec : FnOk Tryz.prog 102 27 rc_laws_szRec [.t 4] := ⟨Tryz.f102, _, [], Tryz.func102, rfl, rfl, by kernel_rfl, by kernel_rfl, follows⟩
theorem ok_laws_szRec : okF Tryz.prog 102 = true := by kernel_rfl
def rc_laws_szItem : RC :=
  (.seq (.reg [⟨(some 2), none, .bx (.t 0)⟩,
   ⟨(some 4), none, .mv (.c (.int .i64 0))⟩])
  (.seq (.reg [⟨(some 5), none, .fa 1 (.t 2)⟩,
   ⟨(some 6), none, .ld true 8 (.t 5)⟩,
   ⟨(some 7), none, .mv (.t 1)⟩,
   ⟨(some 8), none, .cl (.c (.fn 102 [])) [(.t 6), (.t 7)]⟩,
   ⟨(some 1), none, .mv (.t 8)⟩])
  (.seq (.seq (.reg [⟨(some 9), none, .mv (.t 1)⟩,
   ⟨(some 10), none, .bin .lss (.t 9) (.c (.int .i64 0))⟩])
  (.cond (.t 10)
    (.seq (.reg [⟨(some 4), none, .mv (.c (.int .i64 (-1)))⟩])
    .ret)
    .skip))
  (.seq (.reg [⟨(some 11), none, .mv (.t 1)⟩,
   ⟨(some 4), none, .mv (.t 11)⟩])
  .ret))))
theorem k_laws_szItem : FnOk Tryz.prog 83 12 rc_laws_szItem [.t 4] := ⟨Tryz.f83, _, [], Tryz.func83, rfl, rfl, by kernel_rfl, by kernel_rfl, follows⟩
theorem ok_laws_szItem : okF Tryz.prog 83 = true := by kernel_rfl
def rc_laws_szItemS : RC :=
  (.seq (.reg [⟨(some 4), none, .mv (.c (.int .i64 0))⟩])
  (.seq (.reg [⟨(some 6), none, .mv (.t 1)⟩,
   ⟨(some 7), none, .mv (.t 0)⟩,
   ⟨(some 8), none, .lenl (.t 7)⟩,
   ⟨(some 9), none, .bin .sub (.t 6) (.t 8)⟩,
   ⟨(some 1), none, .mv (.t 9)⟩])
  (.seq (.seq (.reg [⟨(some 10), none, .mv (.t 1)⟩,
   ⟨(some 11), none, .bin .lss (.t 10) (.c (.int .i64 0))⟩])
  (.cond (.t 11)
    (.seq (.reg [⟨(some 4), none, .mv (.c (.int .i64 (-1)))⟩])
    .ret)
    .skip))
  (.seq (.seq (.reg [⟨(some 5), none, .mv (.c (.int .i64 0))⟩])
  (.blk 0 (.loop (.seq (.seq (.reg [⟨(some 12), none, .mv (.t 5)⟩,
     ⟨(some 13), none, .mv (.t 0)⟩,
     ⟨(some 14), none, .lenl (.t 13)⟩,
     ⟨(some 15), none, .bin .lss (.t 12) (.t 14)⟩])
    (.cond (.t 15)
      .skip
      (.exit 0)))
    (.seq (.blk 1 (.seq (.reg [⟨(some 18), none, .mv (.t 0)⟩,
      ⟨(some 19), none, .mv (.t 5)⟩,
      ⟨(some 20), none, .ia 9 (.t 18) (.t 19)⟩,
      ⟨(some 21), none, .ld true 9 (.t 20)⟩,
      ⟨(some 22), none, .mv (.t 1)⟩,
      ⟨(some 23), none, .cl (.c (.fn 83 [])) [(.t 21), (.t 22)]⟩,
      ⟨(some 1), none, .mv (.t 23)⟩])
     (.seq (.reg [⟨(some 24), none, .mv (.t 1)⟩,
      ⟨(some 25), none, .bin .lss (.t 24) (.c (.int .i64 0))⟩])
     (.cond (.t 25)
       (.seq (.reg [⟨(some 4), none, .mv (.c (.int .i64 (-1)))⟩])
       .ret)
       .skip))))
    (.reg [⟨(some 16), none, .mv (.t 5)⟩,
     ⟨(some 17), none, .bin .add (.t 16) (.c (.int .i64 1))⟩,
     ⟨(some 5), none, .mv (.t 17)⟩]))))))
  (.seq (.reg [⟨(some 26), none, .mv (.t 1)⟩,
   ⟨(some 4), none, .mv (.t 26)⟩])
  .ret)))))
theorem k_laws_szItemS : FnOk Tryz.prog 64 27 rc_laws_szItemS [.t 4] := ⟨Tryz.f64, _, [], Tryz.func64, rfl, rfl, by kernel_rfl, by kernel_rfl, follows⟩
theorem ok_laws_szItemS : okF Tryz.prog 64 = true := by kernel_rfl
def rc_laws_szSeg : RC :=
  (.seq (.reg [⟨(some 2), none, .bx (.t 0)⟩,
   ⟨(some 4), none, .mv (.c (.int .i64 0))⟩])
  (.seq (.reg [⟨(some 5), none, .fa 3 (.t 2)⟩,
   ⟨(some 6), none, .ld false 1 (.t 5)⟩,
   ⟨(some 7), none, .mv (.t 1)⟩,
   ⟨(some 8), none, .cl (.c (.fn 64 [])) [(.t 6), (.t 7)]⟩,
   ⟨(some 1), none, .mv (.t 8)⟩])
  (.seq (.seq (.reg [⟨(some 9), none, .mv (.t 1)⟩,
   ⟨(some 10), none, .bin .lss (.t 9) (.c (.int .i64 0))⟩])
  (.cond (.t 10)
    (.seq (.reg [⟨(some 4), none, .mv (.c (.int .i64 (-1)))⟩])
    .ret)
    .skip))
  (.seq (.reg [⟨(some 11), none, .mv (.t 1)⟩,
   ⟨(some 4), none, .mv (.t 11)⟩])
  .ret))))
theorem k_laws_szSeg : FnOk Tryz.prog 45 12 rc_laws_szSeg [.t 4] := ⟨Tryz.f45, _, [], Tryz.func45, rfl, rfl, by kernel_rfl, by kernel_rfl, follows⟩
theorem ok_laws_szSeg : okF Tryz.prog 45 = true := by kernel_rfl
def rc_laws_szSegS : RC :=
  (.seq (.reg [⟨(some 4), none, .mv (.c (.int .i64 0))⟩])
  (.seq (.reg [⟨(some 6), none, .mv (.t 1)⟩,
   ⟨(some 7), none, .mv (.t 0)⟩,
   ⟨(some 8), none, .lenl (.t 7)⟩,
   ⟨(some 9), none, .bin .sub (.t 6) (.t 8)⟩,
   ⟨(some 1), none, .mv (.t 9)⟩])
  (.seq (.seq (.reg [⟨(some 10), none, .mv (.t 1)⟩,
   ⟨(some 11), none, .bin .lss (.t 10) (.c (.int .i64 0))⟩])
  (.cond (.t 11)
    (.seq (.reg [⟨(some 4), none, .mv (.c (.int .i64 (-1)))⟩])
    .ret)
    .skip))
  (.seq (.seq (.reg [⟨(some 5), none, .mv (.c (.int .i64 0))⟩])
  (.blk 0 (.loop (.seq (.seq (.reg [⟨(some 12), none, .mv (.t 5)⟩,
     ⟨(some 13), none, .mv (.t 0)⟩,
     ⟨(some 14), none, .lenl (.t 13)⟩,
     ⟨(some 15), none, .bin .lss (.t 12) (.t 14)⟩])
    (.cond (.t 15)
      .skip
      (.exit 0)))
    (.seq (.blk 1 (.seq (.reg [⟨(some 18), none, .mv (.t 0)⟩,
      ⟨(some 19), none, .mv (.t 5)⟩,
      ⟨(some 20), none, .ia 4 (.t 18) (.t 19)⟩,
      ⟨(some 21), none, .ld true 4 (.t 20)⟩,
      ⟨(some 22), none, .mv (.t 1)⟩,
      ⟨(some 23), none, .cl (.c (.fn 45 [])) [(.t 21), (.t 22)]⟩,
      ⟨(some 1), none, .mv (.t 23)⟩])
     (.seq (.reg [⟨(some 24), none, .mv (.t 1)⟩,
      ⟨(some 25), none, .bin .lss (.t 24) (.c (.int .i64 0))⟩])
     (.cond (.t 25)
       (.seq (.reg [⟨(some 4), none, .mv (.c (.int .i64 (-1)))⟩])
       .ret)
       .skip))))
    (.reg [⟨(some 16), none, .mv (.t 5)⟩,
     ⟨(some 17), none, .bin .add (.t 16) (.c (.int .i64 1))⟩,
     ⟨(some 5), none, .mv (.t 17)⟩]))))))
  (.seq (.reg [⟨(some 26), none, .mv (.t 1)⟩,
   ⟨(some 4), none, .mv (.t 26)⟩])
  .ret)))))
theorem k_laws_szSegS : FnOk Tryz.prog 27 27 rc_laws_szSegS [.t 4] := ⟨Tryz.f27, _, [], Tryz.func27, rfl, rfl, by kernel_rfl, by kernel_rfl, follows⟩
theorem ok_laws_szSegS : okF Tryz.prog 27 = true := by kernel_rfl
def rc_laws_szLog : RC :=
  (.seq (.reg [⟨(some 2), none, .bx (.t 0)⟩,
   ⟨(some 4), none, .mv (.c (.int .i64 0))⟩])
  (.seq (.reg [⟨(some 5), none, .fa 0 (.t 2)⟩,
   ⟨(some 6), none, .ld true 2 (.t 5)⟩,
   ⟨(some 7), none, .mv (.t 1)⟩,
   ⟨(some 8), none, .cl (.c (.fn 26 [])) [(.t 6), (.t 7)]⟩,
   ⟨(some 1), none, .mv (.t 8)⟩])
  (.seq (.seq (.reg [⟨(some 9), none, .mv (.t 1)⟩,
   ⟨(some 10), none, .bin .lss (.t 9) (.c (.int .i64 0))⟩])
  (.cond (.t 10)
    (.seq (.reg [⟨(some 4), none, .mv (.c (.int .i64 (-1)))⟩])
    .ret)
    .skip))
  (.seq (.reg [⟨(some 11), none, .fa 3 (.t 2)⟩,
   ⟨(some 12), none, .ld false 1 (.t 11)⟩,
   ⟨(some 13), none, .mv (.t 1)⟩,
   ⟨(some 14), none, .cl (.c (.fn 27 [])) [(.t 12), (.t 13)]⟩,
   ⟨(some 1), none, .mv (.t 14)⟩])
  (.seq (.seq (.reg [⟨(some 15), none, .mv (.t 1)⟩,
   ⟨(some 16), none, .bin .lss (.t 15) (.c (.int .i64 0))⟩])
  (.cond (.t 16)
    (.seq (.reg [⟨(some 4), none, .mv (.c (.int .i64 (-1)))⟩])
    .ret)
    .skip))
  (.seq (.reg [⟨(some 17), none, .mv (.t 1)⟩,
   ⟨(some 4), none, .mv (.t 17)⟩])
  .ret))))))
theorem k_laws_szLog : FnOk Tryz.prog 15 18 rc_laws_szLog [.t 4] := ⟨Tryz.f15, _, [], Tryz.func15, rfl, rfl, by kernel_rfl, by kernel_rfl, follows⟩
theorem ok_laws_szLog : okF Tryz.prog 15 = true := by kernel_rfl
def rc_laws_szIntS : RC :=
  (.seq (.reg [⟨(some 4), none, .mv (.c (.int .i64 0))⟩])
  (.seq (.reg [⟨(some 5), none, .mv (.t 1)⟩,
   ⟨(some 6), none, .mv (.t 0)⟩,
   ⟨(some 7), none, .lenl (.t 6)⟩,
   ⟨(some 8), none, .bin .sub (.t 5) (.t 7)⟩,
   ⟨(some 1), none, .mv (.t 8)⟩])
  (.seq (.seq (.reg [⟨(some 9), none, .mv (.t 1)⟩,
   ⟨(some 10), none, .bin .lss (.t 9) (.c (.int .i64 0))⟩])
  (.cond (.t 10)
    (.seq (.reg [⟨(some 4), none, .mv (.c (.int .i64 (-1)))⟩])
    .ret)
    .skip))
  (.seq (.reg [⟨(some 11), none, .mv (.t 1)⟩,
   ⟨(some 4), none, .mv (.t 11)⟩])
  .ret))))
theorem k_laws_szIntS : FnOk Tryz.prog 16 12 rc_laws_szIntS [.t 4] := ⟨Tryz.f16, _, [], Tryz.func16, rfl, rfl, by kernel_rfl, by kernel_rfl, follows⟩
theorem ok_laws_szIntS : okF Tryz.prog 16 = true := by kernel_rfl
def rc_laws_szStore : RC :=
  (.seq (.reg [⟨(some 2), none, .bx (.t 0)⟩,
   ⟨(some 4), none, .mv (.c (.int .i64 0))⟩])
  (.seq (.reg [⟨(some 5), none, .fa 0 (.t 2)⟩,
   ⟨(some 6), none, .ld true 8 (.t 5)⟩,
   ⟨(some 7), none, .mv (.t 1)⟩,
   ⟨(some 8), none, .cl (.c (.fn 15 [])) [(.t 6), (.t 7)]⟩,
   ⟨(some 1), none, .mv (.t 8)⟩])
  (.seq (.seq (.reg [⟨(some 9), none, .mv (.t 1)⟩,
   ⟨(some 10), none, .bin .lss (.t 9) (.c (.int .i64 0))⟩])
  (.cond (.t 10)
    (.seq (.reg [⟨(some 4), none, .mv (.c (.int .i64 (-1)))⟩])
    .ret)
    .skip))
  (.seq (.reg [⟨(some 11), none, .fa 8 (.t 2)⟩,
   ⟨(some 12), none, .ld false 1 (.t 11)⟩,
   ⟨(some 13), none, .mv (.t 1)⟩,
   ⟨(some 14), none, .cl (.c (.fn 16 [])) [(.t 12), (.t 13)]⟩,
   ⟨(some 1), none, .mv (.t 14)⟩])
  (.seq (.seq (.reg [⟨(some 15), none, .mv (.t 1)⟩,
   ⟨(some 16), none, .bin .lss (.t 15) (.c (.int .i64 0))⟩])
  (.cond (.t 16)
    (.seq (.reg [⟨(some 4), none, .mv (.c (.int .i64 (-1)))⟩])
    .ret)
    .skip))
  (.seq (.reg [⟨(some 17), none, .mv (.t 1)⟩,
   ⟨(some 4), none, .mv (.t 17)⟩])
  .ret))))))
theorem k_laws_szStore : FnOk Tryz.prog 6 18 rc_laws_szStore [.t 4] := ⟨Tryz.f6, _, [], Tryz.func6, rfl, rfl, by kernel_rfl, by kernel_rfl, follows⟩
theorem ok_laws_szStore : okF Tryz.prog 6 = true := by kernel_rfl
def rc_spec_l01In : RC :=
  (.seq (.reg [⟨(some 6), none, .mv (.c (.bool false))⟩])
  (.seq (.reg [⟨(some 7), none, .mv (.t 0)⟩,
   ⟨(some 8), none, .mv (.t 1)⟩,
   ⟨(some 9), none, .bin .geq (.t 7) (.t 8)⟩,
   ⟨(some 10), none, .mv (.t 9)⟩,
   ⟨(some 11), (some (10, true)), .mv (.t 0)⟩,
   ⟨(some 12), (some (10, true)), .mv (.t 2)⟩,
   ⟨(some 13), (some (10, true)), .bin .leq (.t 11) (.t 12)⟩,
   ⟨(some 14), none, .pick (.t 10) (.t 13) (.c (.bool false))⟩,
   ⟨(some 6), none, .mv (.t 14)⟩])
  .ret))
theorem k_spec_l01In : FnOk Tryz.prog 40 15 rc_spec_l01In [.t 6] := ⟨Tryz.f40, _, [], Tryz.func40, rfl, rfl, by kernel_rfl, by kernel_rfl, follows⟩
theorem ok_spec_l01In : okF Tryz.prog 40 = true := by kernel_rfl
def rc_spec_WordOk : RC :=
  (.seq (.reg [⟨(some 2), none, .mv (.c (.bool false))⟩])
  (.seq (.seq (.reg [⟨(some 3), none, .mv (.c (.int .i64 0))⟩])
  (.blk 0 (.loop (.seq (.seq (.reg [⟨(some 4), none, .mv (.t 3)⟩,
     ⟨(some 5), none, .mv (.t 0)⟩,
     ⟨(some 6), none, .lens (.t 5)⟩,
     ⟨(some 7), none, .bin .lss (.t 4) (.t 6)⟩])
    (.cond (.t 7)
      .skip
      (.exit 0)))
    (.seq (.blk 1 (.seq (.reg [⟨(some 10), none, .mv (.t 0)⟩,
      ⟨(some 11), none, .mv (.t 3)⟩,
      ⟨(some 12), none, .idx (.t 10) (.t 11)⟩,
      ⟨(some 13), none, .bin .lss (.t 12) (.c (.int .u8 97))⟩,
      ⟨(some 14), none, .mv (.t 13)⟩,
      ⟨(some 15), (some (14, false)), .mv (.t 0)⟩,
      ⟨(some 16), (some (14, false)), .mv (.t 3)⟩,
      ⟨(some 17), (some (14, false)), .idx (.t 15) (.t 16)⟩,
      ⟨(some 18), (some (14, false)), .bin .gtr (.t 17) (.c (.int .u8 122))⟩,
      ⟨(some 19), none, .pick (.t 14) (.c (.bool true)) (.t 18)⟩])
     (.cond (.t 19)
       (.seq (.reg [⟨(some 2), none, .mv (.c (.bool false))⟩])
       .ret)
       .skip)))
    (.reg [⟨(some 8), none, .mv (.t 3)⟩,
     ⟨(some 9), none, .bin .add (.t 8) (.c (.int .i64 1))⟩,
     ⟨(some 3), none, .mv (.t 9)⟩]))))))
  (.seq (.reg [⟨(some 20), none, .mv (.t 0)⟩,
   ⟨(some 21), none, .lens (.t 20)⟩,
   ⟨(some 22), none, .cl (.c (.fn 40 [])) [(.t 21), (.c (.int .i64 1)), (.c (.int .i64 8))]⟩,
   ⟨(some 2), none, .mv (.t 22)⟩])
  .ret)))
theorem k_spec_WordOk : FnOk Tryz.prog 84 23 rc_spec_WordOk [.t 2] := ⟨Tryz.f84, _, [], Tryz.func84, rfl, rfl, by kernel_rfl, by kernel_rfl, follows⟩
theorem ok_spec_WordOk : okF Tryz.prog 84 = true := by kernel_rfl
def rc_spec_RecOk : RC :=
  (.seq (.reg [⟨(some 1), none, .bx (.t 0)⟩,
   ⟨(some 2), none, .mv (.c (.bool false))⟩])
  (.seq (.seq (.reg [⟨(some 6), none, .fa 0 (.t 1)⟩,
   ⟨(some 7), none, .ld false 1 (.t 6)⟩,
   ⟨(some 8), none, .cl (.c (.fn 40 [])) [(.t 7), (.c (.int .i64 1)), (.c (.int .i64 5))]⟩,
   ⟨(some 9), none, .un .not (.t 8)⟩,
   ⟨(some 10), none, .mv (.t 9)⟩,
   ⟨(some 11), (some (10, false)), .fa 1 (.t 1)⟩,
   ⟨(some 12), (some (10, false)), .ld false 1 (.t 11)⟩,
   ⟨(some 13), (some (10, false)), .cl (.c (.fn 40 [])) [(.t 12), (.c (.int .i64 1)), (.c (.int .i64 9999))]⟩,
   ⟨(some 14), (some (10, false)), .un .not (.t 13)⟩,
   ⟨(some 15), none, .pick (.t 10) (.c (.bool true)) (.t 14)⟩])
  (.cond (.t 15)
    (.seq (.reg [⟨(some 2), none, .mv (.c (.bool false))⟩])
    .ret)
    .skip))
  (.seq (.reg [⟨(some 16), none, .fa 0 (.t 1)⟩,
   ⟨(some 17), none, .ld false 1 (.t 16)⟩,
   ⟨(some 18), none, .bin .eql (.t 17) (.c (.int .i64 1))⟩,
   ⟨(some 3), none, .mv (.t 18)⟩])
  (.seq (.reg [⟨(some 19), none, .fa 0 (.t 1)⟩,
   ⟨(some 20), none, .ld false 1 (.t 19)⟩,
   ⟨(some 21), none, .bin .eql (.t 20) (.c (.int .i64 3))⟩,
   ⟨(some 22), none, .mv (.t 21)⟩,
   ⟨(some 23), (some (22, false)), .fa 0 (.t 1)⟩,
   ⟨(some 24), (some (22, false)), .ld false 1 (.t 23)⟩,
   ⟨(some 25), (some (22, false)), .bin .eql (.t 24) (.c (.int .i64 4))⟩,
   ⟨(some 26), none, .pick (.t 22) (.c (.bool true)) (.t 25)⟩,
   ⟨(some 27), none, .mv (.t 26)⟩,
   ⟨(some 28), (some (27, false)), .fa 0 (.t 1)⟩,
   ⟨(some 29), (some (27, false)), .ld false 1 (.t 28)⟩,
   ⟨(some 30), (some (27, false)), .bin .eql (.t 29) (.c (.int .i64 5))⟩,
   ⟨(some 31), none, .pick (.t 27) (.c (.bool true)) (.t 30)⟩,
   ⟨(some 4), none, .mv (.t 31)⟩])
  (.seq (.reg [⟨(some 32), none, .fa 0 (.t 1)⟩,
   ⟨(some 33), none, .ld false 1 (.t 32)⟩,
   ⟨(some 34), none, .bin .eql (.t 33) (.c (.int .i64 3))⟩,
   ⟨(some 35), none, .mv (.t 34)⟩,
   ⟨(some 36), (some (35, false)), .fa 0 (.t 1)⟩,
   ⟨(some 37), (some (35, false)), .ld false 1 (.t 36)⟩,
   ⟨(some 38), (some (35, false)), .bin .eql (.t 37) (.c (.int .i64 4))⟩,
   ⟨(some 39), none, .pick (.t 35) (.c (.bool true)) (.t 38)⟩,
   ⟨(some 5), none, .mv (.t 39)⟩])
  (.seq (.seq (.reg [⟨(some 40), none, .mv (.t 3)⟩,
   ⟨(some 41), none, .mv (.t 40)⟩,
   ⟨(some 42), (some (41, true)), .fa 5 (.t 1)⟩,
   ⟨(some 43), (some (41, true)), .ld false 1 (.t 42)⟩,
   ⟨(some 44), (some (41, true)), .cl (.c (.fn 84 [])) [(.t 43)]⟩,
   ⟨(some 45), (some (41, true)), .un .not (.t 44)⟩,
   ⟨(some 46), (some (41, true)), .mv (.t 45)⟩,
   ⟨(some 47), (some (46, false)), .fa 6 (.t 1)⟩,
   ⟨(some 48), (some (46, false)), .ld false 1 (.t 47)⟩,
   ⟨(some 49), (some (46, false)), .cl (.c (.fn 84 [])) [(.t 48)]⟩,
   ⟨(some 50), (some (46, false)), .un .not (.t 49)⟩,
   ⟨(some 51), (some (41, true)), .pick (.t 46) (.c (.bool true)) (.t 50)⟩,
   ⟨(some 52), (some (41, true)), .mv (.t 51)⟩,
   ⟨(some 53), (some (52, false)), .fa 3 (.t 1)⟩,
   ⟨(some 54), (some (52, false)), .ld false 1 (.t 53)⟩,
   ⟨(some 55), (some (52, false)), .cl (.c (.fn 40 [])) [(.t 54), (.c (.int .i64 1)), (.c (.int .i64 10000))]⟩,
   ⟨(some 56), (some (52, false)), .un .not (.t 55)⟩,
   ⟨(some 57), (some (41, true)), .pick (.t 52) (.c (.bool true)) (.t 56)⟩,
   ⟨(some 58), none, .pick (.t 41) (.t 57) (.c (.bool false))⟩,
   ⟨(some 59), none, .mv (.t 58)⟩,
   ⟨(some 60), (some (59, false)), .mv (.t 3)⟩,
   ⟨(some 61), (some (59, false)), .un .not (.t 60)⟩,
   ⟨(some 62), (some (59, false)), .mv (.t 61)⟩,
   ⟨(some 63), (some (62, true)), .fa 5 (.t 1)⟩,
   ⟨(some 64), (some (62, true)), .ld false 1 (.t 63)⟩,
   ⟨(some 65), (some (62, true)), .bin .neq (.t 64) (.c (.str []))⟩,
   ⟨(some 66), (some (62, true)), .mv (.t 65)⟩,
   ⟨(some 67), (some (66, false)), .fa 6 (.t 1)⟩,
   ⟨(some 68), (some (66, false)), .ld false 1 (.t 67)⟩,
   ⟨(some 69), (some (66, false)), .bin .neq (.t 68) (.c (.str []))⟩,
   ⟨(some 70), (some (62, true)), .pick (.t 66) (.c (.bool true)) (.t 69)⟩,
   ⟨(some 71), (some (62, true)), .mv (.t 70)⟩,
   ⟨(some 72), (some (71, false)), .fa 3 (.t 1)⟩,
   ⟨(some 73), (some (71, false)), .ld false 1 (.t 72)⟩,
   ⟨(some 74), (some (71, false)), .bin .neq (.t 73) (.c (.int .i64 0))⟩,
   ⟨(some 75), (some (62, true)), .pick (.t 71) (.c (.bool true)) (.t 74)⟩,
   ⟨(some 76), (some (59, false)), .pick (.t 62) (.t 75) (.c (.bool false))⟩,
   ⟨(some 77), none, .pick (.t 59) (.c (.bool true)) (.t 76)⟩])
  (.cond (.t 77)
    (.seq (.reg [⟨(some 2), none, .mv (.c (.bool false))⟩])
    .ret)
    .skip))
  (.seq (.seq (.reg [⟨(some 78), none, .mv (.t 4)⟩,
   ⟨(some 79), none, .mv (.t 78)⟩,
   ⟨(some 80), (some (79, true)), .fa 2 (.t 1)⟩,
   ⟨(some 81), (some (79, true)), .ld false 1 (.t 80)⟩,
   ⟨(some 82), (some (79, true)), .cl (.c (.fn 40 [])) [(.t 81), (.c (.int .i64 1)), (.c (.int .i64 9999))]⟩,
   ⟨(some 83), (some (79, true)), .un .not (.t 82)⟩,
   ⟨(some 84), none, .pick (.t 79) (.t 83) (.c (.bool false))⟩,
   ⟨(some 85), none, .mv (.t 84)⟩,
   ⟨(some 86), (some (85, false)), .mv (.t 4)⟩,
   ⟨(some 87), (some (85, false)), .un .not (.t 86)⟩,
   ⟨(some 88), (some (85, false)), .mv (.t 87)⟩,
   ⟨(some 89), (some (88, true)), .fa 2 (.t 1)⟩,
   ⟨(some 90), (some (88, true)), .ld false 1 (.t 89)⟩,
   ⟨(some 91), (some (88, true)), .bin .neq (.t 90) (.c (.int .i64 0))⟩,
   ⟨(some 92), (some (85, false)), .pick (.t 88) (.t 91) (.c (.bool false))⟩,
   ⟨(some 93), none, .pick (.t 85) (.c (.bool true)) (.t 92)⟩])
  (.cond (.t 93)
    (.seq (.reg [⟨(some 2), none, .mv (.c (.bool false))⟩])
    .ret)
    .skip))
  (.seq (.seq (.reg [⟨(some 94), none, .mv (.t 5)⟩,
   ⟨(some 95), none, .mv (.t 94)⟩,
   ⟨(some 96), (some (95, true)), .fa 4 (.t 1)⟩,
   ⟨(some 97), (some (95, true)), .ld false 1 (.t 96)⟩,
   ⟨(some 98), (some (95, true)), .cl (.c (.fn 40 [])) [(.t 97), (.c (.int .i64 0)), (.c (.int .i64 7))]⟩,
   ⟨(some 99), (some (95, true)), .un .not (.t 98)⟩,
   ⟨(some 100), none, .pick (.t 95) (.t 99) (.c (.bool false))⟩,
   ⟨(some 101), none, .mv (.t 100)⟩,
   ⟨(some 102), (some (101, false)), .mv (.t 5)⟩,
   ⟨(some 103), (some (101, false)), .un .not (.t 102)⟩,
   ⟨(some 104), (some (101, false)), .mv (.t 103)⟩,
   ⟨(some 105), (some (104, true)), .fa 4 (.t 1)⟩,
   ⟨(some 106), (some (104, true)), .ld false 1 (.t 105)⟩,
   ⟨(some 107), (some (104, true)), .bin .neq (.t 106) (.c (.int .i64 0))⟩,
   ⟨(some 108), (some (101, false)), .pick (.t 104) (.t 107) (.c (.bool false))⟩,
   ⟨(some 109), none, .pick (.t 101) (.c (.bool true)) (.t 108)⟩])
  (.cond (.t 109)
    (.seq (.reg [⟨(some 2), none, .mv (.c (.bool false))⟩])
    .ret)
    .skip))
  (.seq (.seq (.reg [⟨(some 110), none, .fa 0 (.t 1)⟩,
   ⟨(some 111), none, .ld false 1 (.t 110)⟩,
   ⟨(some 112), none, .bin .eql (.t 111) (.c (.int .i64 3))⟩])
  (.cond (.t 112)
    (.seq (.reg [⟨(some 113), none, .fa 7 (.t 1)⟩,
     ⟨(some 114), none, .ld false 1 (.t 113)⟩,
     ⟨(some 115), none, .lens (.t 114)⟩,
     ⟨(some 116), none, .bin .leq (.t 115) (.c (.int .i64 100))⟩,
     ⟨(some 2), none, .mv (.t 116)⟩])
    .ret)
    .skip))
  (.seq (.reg [⟨(some 117), none, .fa 7 (.t 1)⟩,
   ⟨(some 118), none, .ld false 1 (.t 117)⟩,
   ⟨(some 119), none, .bin .eql (.t 118) (.c (.str []))⟩,
   ⟨(some 2), none, .mv (.t 119)⟩])
  .ret))))))))))
theorem k_spec_RecOk : FnOk Tryz.prog 65 120 rc_spec_RecOk [.t 2] := ⟨Tryz.f65, _, [], Tryz.func65, rfl, rfl, by kernel_rfl, by kernel_rfl, follows⟩
theorem ok_spec_RecOk : okF Tryz.prog 65 = true := by kernel_rfl
def rc_spec_ItemsOk : RC :=
  (.seq (.reg [⟨(some 2), none, .mv (.c (.bool false))⟩])
  (.seq (.seq (.reg [⟨(some 3), none, .mv (.c (.int .i64 0))⟩])
  (.blk 0 (.loop (.seq (.seq (.reg [⟨(some 5), none, .mv (.t 3)⟩,
     ⟨(some 6), none, .mv (.t 0)⟩,
     ⟨(some 7), none, .lenl (.t 6)⟩,
     ⟨(some 8), none, .bin .lss (.t 5) (.t 7)⟩])
    (.cond (.t 8)
      .skip
      (.exit 0)))
    (.seq (.blk 1 (.seq (.seq (.reg [⟨(some 11), none, .mv (.t 0)⟩,
      ⟨(some 12), none, .mv (.t 3)⟩,
      ⟨(some 13), none, .ia 9 (.t 11) (.t 12)⟩,
      ⟨(some 14), none, .fa 0 (.t 13)⟩,
      ⟨(some 15), none, .ld false 1 (.t 14)⟩,
      ⟨(some 16), none, .cl (.c (.fn 40 [])) [(.t 15), (.c (.int .i64 1)), (.c (.int .i64 1000000000))]⟩,
      ⟨(some 17), none, .un .not (.t 16)⟩,
      ⟨(some 18), none, .mv (.t 17)⟩,
      ⟨(some 19), (some (18, false)), .mv (.t 0)⟩,
      ⟨(some 20), (some (18, false)), .mv (.t 3)⟩,
      ⟨(some 21), (some (18, false)), .ia 9 (.t 19) (.t 20)⟩,
      ⟨(some 22), (some (18, false)), .fa 1 (.t 21)⟩,
      ⟨(some 23), (some (18, false)), .ld true 8 (.t 22)⟩,
      ⟨(some 24), (some (18, false)), .cl (.c (.fn 65 [])) [(.t 23)]⟩,
      ⟨(some 25), (some (18, false)), .un .not (.t 24)⟩,
      ⟨(some 26), none, .pick (.t 18) (.c (.bool true)) (.t 25)⟩])
     (.cond (.t 26)
       (.seq (.reg [⟨(some 2), none, .mv (.c (.bool false))⟩])
       .ret)
       .skip))
     (.seq (.reg [⟨(some 4), none, .mv (.c (.int .i64 0))⟩])
     (.blk 2 (.loop (.seq (.seq (.reg [⟨(some 27), none, .mv (.t 4)⟩,
        ⟨(some 28), none, .mv (.t 3)⟩,
        ⟨(some 29), none, .bin .lss (.t 27) (.t 28)⟩])
       (.cond (.t 29)
         .skip
         (.exit 2)))
       (.seq (.blk 3 (.seq (.drw [⟨(some 32), none, .mv (.t 0)⟩,
         ⟨(some 33), none, .mv (.t 4)⟩,
         ⟨(some 34), none, .ia 9 (.t 32) (.t 33)⟩,
         ⟨(some 35), none, .fa 0 (.t 34)⟩,
         ⟨(some 36), none, .ld false 1 (.t 35)⟩,
         ⟨(some 37), none, .mv (.t 0)⟩,
         ⟨(some 38), none, .mv (.t 3)⟩,
         ⟨(some 39), none, .ia 9 (.t 37) (.t 38)⟩,
         ⟨(some 40), none, .fa 0 (.t 39)⟩,
         ⟨(some 41), none, .ld false 1 (.t 40)⟩,
         ⟨(some 42), none, .bin .eql (.t 36) (.t 41)⟩,
         ⟨(some 43), none, .mv (.t 42)⟩,
         ⟨(some 44), (some (43, true)), .mv (.t 0)⟩,
         ⟨(some 45), (some (43, true)), .mv (.t 4)⟩,
         ⟨(some 46), (some (43, true)), .ia 9 (.t 44) (.t 45)⟩,
         ⟨(some 47), (some (43, true)), .ld true 9 (.t 46)⟩,
         ⟨(some 48), (some (43, true)), .mv (.t 0)⟩,
         ⟨(some 49), (some (43, true)), .mv (.t 3)⟩,
         ⟨(some 50), (some (43, true)), .ia 9 (.t 48) (.t 49)⟩,
         ⟨(some 51), (some (43, true)), .ld true 9 (.t 50)⟩,
         ⟨(some 52), (some (43, true)), .equ true [(0, 1), (1, 1), (2, 1), (3, 1), (4, 1), (5, 1), (6, 2), (7, 2), (8, 2)] (.t 47) (.t 51)⟩,
         ⟨(some 53), none, .pick (.t 43) (.t 52) (.c (.bool false))⟩] [.val [], .val [], .val [], .val [], .val [], .val [], .val [], .val [], .val [], .val [], .val [], .val [], .val [], .val [], .val [], .val [], .val [], .val [], .val [], .val [], .val [], .val []])
        (.cond (.t 53)
          (.seq (.reg [⟨(some 2), none, .mv (.c (.bool false))⟩])
          .ret)
          .skip)))
       (.reg [⟨(some 30), none, .mv (.t 4)⟩,
        ⟨(some 31), none, .bin .add (.t 30) (.c (.int .i64 1))⟩,
        ⟨(some 4), none, .mv (.t 31)⟩]))))))))
    (.reg [⟨(some 9), none, .mv (.t 3)⟩,
     ⟨(some 10), none, .bin .add (.t 9) (.c (.int .i64 1))⟩,
     ⟨(some 3), none, .mv (.t 10)⟩]))))))
  (.seq (.reg [⟨(some 54), none, .mv (.t 0)⟩,
   ⟨(some 55), none, .lenl (.t 54)⟩,
   ⟨(some 56), none, .bin .leq (.t 55) (.c (.int .i64 200))⟩,
   ⟨(some 2), none, .mv (.t 56)⟩])
  .ret)))
theorem k_spec_ItemsOk : FnOk Tryz.prog 46 57 rc_spec_ItemsOk [.t 2] := ⟨Tryz.f46, _, [], Tryz.func46, rfl, rfl, by kernel_rfl, by kernel_rfl, follows⟩
theorem ok_spec_ItemsOk : okF Tryz.prog 46 = true := by kernel_rfl
def rc_spec_l08Bigger : RC :=
  (.seq (.reg [⟨(some 2), none, .bx (.t 0)⟩,
   ⟨(some 3), none, .bx (.t 1)⟩,
   ⟨(some 4), none, .mv (.c (.bool false))⟩])
  (.seq (.reg [⟨(some 5), none, .fa 1 (.t 2)⟩,
   ⟨(some 6), none, .fa 3 (.t 5)⟩,
   ⟨(some 7), none, .ld false 1 (.t 6)⟩,
   ⟨(some 8), none, .fa 1 (.t 3)⟩,
   ⟨(some 9), none, .fa 3 (.t 8)⟩,
   ⟨(some 10), none, .ld false 1 (.t 9)⟩,
   ⟨(some 11), none, .bin .gtr (.t 7) (.t 10)⟩,
   ⟨(some 12), none, .mv (.t 11)⟩,
   ⟨(some 13), (some (12, false)), .fa 1 (.t 2)⟩,
   ⟨(some 14), (some (12, false)), .fa 3 (.t 13)⟩,
   ⟨(some 15), (some (12, false)), .ld false 1 (.t 14)⟩,
   ⟨(some 16), (some (12, false)), .fa 1 (.t 3)⟩,
   ⟨(some 17), (some (12, false)), .fa 3 (.t 16)⟩,
   ⟨(some 18), (some (12, false)), .ld false 1 (.t 17)⟩,
   ⟨(some 19), (some (12, false)), .bin .eql (.t 15) (.t 18)⟩,
   ⟨(some 20), (some (12, false)), .mv (.t 19)⟩,
   ⟨(some 21), (some (20, true)), .fa 0 (.t 2)⟩,
   ⟨(some 22), (some (20, true)), .ld false 1 (.t 21)⟩,
   ⟨(some 23), (some (20, true)), .fa 0 (.t 3)⟩,
   ⟨(some 24), (some (20, true)), .ld false 1 (.t 23)⟩,
   ⟨(some 25), (some (20, true)), .bin .gtr (.t 22) (.t 24)⟩,
   ⟨(some 26), (some (12, false)), .pick (.t 20) (.t 25) (.c (.bool false))⟩,
   ⟨(some 27), none, .pick (.t 12) (.c (.bool true)) (.t 26)⟩,
   ⟨(some 4), none, .mv (.t 27)⟩])
  .ret))
theorem k_spec_l08Bigger : FnOk Tryz.prog 66 28 rc_spec_l08Bigger [.t 4] := ⟨Tryz.f66, _, [], Tryz.func66, rfl, rfl, by kernel_rfl, by kernel_rfl, follows⟩
theorem ok_spec_l08Bigger : okF Tryz.prog 66 = true := by kernel_rfl
def rc_spec_l07Best : RC :=
  (.seq (.reg [⟨(some 8), none, .al [.int .i64 0, .int .i64 0, .int .i64 0, .int .i64 0, .int .i64 0, .int .i64 0, .str [], .str [], .str []]⟩,
   ⟨(some 9), none, .mv (.c (.bool false))⟩])
  (.seq (.reg [⟨(some 14), none, .bld [.int .i64 0, .int .i64 0, .int .i64 0, .int .i64 0, .int .i64 0, .int .i64 0, .str [], .str [], .str []] [(0, 1), (1, 8)] []⟩,
   ⟨(some 10), none, .al [.int .i64 0, .int .i64 0, .int .i64 0, .int .i64 0, .int .i64 0, .int .i64 0, .str [], .str [], .str []]⟩,
   ⟨none, none, .st 9 (.t 10) (.t 14)⟩])
  (.seq (.reg [⟨(some 11), none, .mv (.c (.bool false))⟩])
  (.seq (.seq (.reg [⟨(some 12), none, .mv (.c (.int .i64 0))⟩])
  (.blk 0 (.loop (.seq (.seq (.reg [⟨(some 15), none, .mv (.t 12)⟩,
     ⟨(some 16), none, .mv (.t 0)⟩,
     ⟨(some 17), none, .lenl (.t 16)⟩,
     ⟨(some 18), none, .bin .lss (.t 15) (.t 17)⟩])
    (.cond (.t 18)
      .skip
      (.exit 0)))
    (.seq (.blk 1 (.seq (.reg [⟨(some 21), none, .mv (.t 0)⟩,
      ⟨(some 22), none, .mv (.t 12)⟩,
      ⟨(some 23), none, .ia 9 (.t 21) (.t 22)⟩,
      ⟨(some 24), none, .ld true 9 (.t 23)⟩,
      ⟨(some 13), none, .al [.int .i64 0, .int .i64 0, .int .i64 0, .int .i64 0, .int .i64 0, .int .i64 0, .str [], .str [], .str []]⟩,
      ⟨none, none, .st 9 (.t 13) (.t 24)⟩])
     (.seq (.reg [⟨(some 25), none, .fa 1 (.t 13)⟩,
      ⟨(some 26), none, .fa 0 (.t 25)⟩,
      ⟨(some 27), none, .ld false 1 (.t 26)⟩,
      ⟨(some 28), none, .mv (.t 1)⟩,
      ⟨(some 29), none, .bin .eql (.t 27) (.t 28)⟩,
      ⟨(some 30), none, .mv (.t 29)⟩,
      ⟨(some 31), (some (30, true)), .fa 1 (.t 13)⟩,
      ⟨(some 32), (some (30, true)), .fa 1 (.t 31)⟩,
      ⟨(some 33), (some (30, true)), .ld false 1 (.t 32)⟩,
      ⟨(some 34), (some (30, true)), .mv (.t 2)⟩,
      ⟨(some 35), (some (30, true)), .bin .eql (.t 33) (.t 34)⟩,
      ⟨(some 36), none, .pick (.t 30) (.t 35) (.c (.bool false))⟩,
      ⟨(some 37), none, .mv (.t 36)⟩,
      ⟨(some 38), (some (37, true)), .fa 1 (.t 13)⟩,
      ⟨(some 39), (some (37, true)), .fa 2 (.t 38)⟩,
      ⟨(some 40), (some (37, true)), .ld false 1 (.t 39)⟩,
      ⟨(some 41), (some (37, true)), .mv (.t 3)⟩,
      ⟨(some 42), (some (37, true)), .bin .eql (.t 40) (.t 41)⟩,
      ⟨(some 43), none, .pick (.t 37) (.t 42) (.c (.bool false))⟩,
      ⟨(some 44), none, .mv (.t 43)⟩,
      ⟨(some 45), (some (44, true)), .mv (.t 11)⟩,
      ⟨(some 46), (some (44, true)), .un .not (.t 45)⟩,
      ⟨(some 47), (some (44, true)), .mv (.t 46)⟩,
      ⟨(some 48), (some (47, false)), .fa 0 (.t 13)⟩,
      ⟨(some 49), (some (47, false)), .ld false 1 (.t 48)⟩,
      ⟨(some 50), (some (47, false)), .fa 0 (.t 10)⟩,
      ⟨(some 51), (some (47, false)), .ld false 1 (.t 50)⟩,
      ⟨(some 52), (some (47, false)), .bin .gtr (.t 49) (.t 51)⟩,
      ⟨(some 53), (some (44, true)), .pick (.t 47) (.c (.bool true)) (.t 52)⟩,
      ⟨(some 54), none, .pick (.t 44) (.t 53) (.c (.bool false))⟩])
     (.cond (.t 54)
       (.seq (.reg [⟨(some 55), none, .ld true 9 (.t 13)⟩,
        ⟨none, none, .st 9 (.t 10) (.t 55)⟩])
       (.reg [⟨(some 11), none, .mv (.c (.bool true))⟩]))
       .skip))))
    (.reg [⟨(some 19), none, .mv (.t 12)⟩,
     ⟨(some 20), none, .bin .add (.t 19) (.c (.int .i64 1))⟩,
     ⟨(some 12), none, .mv (.t 20)⟩]))))))
  (.seq (.reg [⟨(some 56), none, .ld true 9 (.t 10)⟩,
   ⟨(some 57), none, .mv (.t 11)⟩,
   ⟨none, none, .st 9 (.t 8) (.t 56)⟩,
   ⟨(some 9), none, .mv (.t 57)⟩])
  .ret)))))
theorem k_spec_l07Best : FnOk Tryz.prog 68 58 rc_spec_l07Best [.cell 8 true 9, .t 9] := ⟨Tryz.f68, _, [], Tryz.func68, rfl, rfl, by kernel_rfl, by kernel_rfl, follows⟩
theorem ok_spec_l07Best : okF Tryz.prog 68 = true := by kernel_rfl
def rc_spec_l08Has : RC :=
  (.seq (.reg [⟨(some 8), none, .mv (.c (.bool false))⟩])
  (.seq (.reg [⟨(some 12), none, .mv (.t 0)⟩,
   ⟨(some 13), none, .mv (.t 1)⟩,
   ⟨(some 14), none, .mv (.t 2)⟩,
   ⟨(some 15), none, .mv (.t 3)⟩,
   ⟨(some 16), none, .cl (.c (.fn 68 [])) [(.t 12), (.t 13), (.t 14), (.t 15)]⟩,
   ⟨(some 11), none, .mv (.t 16)⟩,
   ⟨(some 17), none, .ext (.t 11) 0⟩,
   ⟨(some 18), none, .ext (.t 11) 1⟩,
   ⟨(some 9), none, .al [.int .i64 0, .int .i64 0, .int .i64 0, .int .i64 0, .int .i64 0, .int .i64 0, .str [], .str [], .str []]⟩,
   ⟨none, none, .st 9 (.t 9) (.t 17)⟩,
   ⟨(some 10), none, .mv (.t 18)⟩])
  (.seq (.reg [⟨(some 19), none, .mv (.t 10)⟩,
   ⟨(some 8), none, .mv (.t 19)⟩])
  .ret)))
theorem k_spec_l08Has : FnOk Tryz.prog 69 20 rc_spec_l08Has [.t 8] := ⟨Tryz.f69, _, [], Tryz.func69, rfl, rfl, by kernel_rfl, by kernel_rfl, follows⟩
theorem ok_spec_l08Has : okF Tryz.prog 69 = true := by kernel_rfl
def rc_spec_l08There : RC :=
  (.seq (.reg [⟨(some 4), none, .mv (.c (.bool false))⟩])
  (.seq (.reg [⟨(some 5), none, .mv (.t 0)⟩,
   ⟨(some 6), none, .mv (.t 1)⟩,
   ⟨(some 7), none, .cl (.c (.fn 69 [])) [(.t 5), (.c (.int .i64 1)), (.t 6), (.c (.int .i64 0))]⟩,
   ⟨(some 8), none, .mv (.t 7)⟩,
   ⟨(some 9), (some (8, true)), .mv (.t 0)⟩,
   ⟨(some 10), (some (8, true)), .mv (.t 1)⟩,
   ⟨(some 11), (some (8, true)), .cl (.c (.fn 69 [])) [(.t 9), (.c (.int .i64 2)), (.t 10), (.c (.int .i64 0))]⟩,
   ⟨(some 12), (some (8, true)), .un .not (.t 11)⟩,
   ⟨(some 13), none, .pick (.t 8) (.t 12) (.c (.bool false))⟩,
   ⟨(some 4), none, .mv (.t 13)⟩])
  .ret))
theorem k_spec_l08There : FnOk Tryz.prog 67 14 rc_spec_l08There [.t 4] := ⟨Tryz.f67, _, [], Tryz.func67, rfl, rfl, by kernel_rfl, by kernel_rfl, follows⟩
theorem ok_spec_l08There : okF Tryz.prog 67 = true := by kernel_rfl
def rc_spec_l08Need : RC :=
  (.seq (.reg [⟨(some 4), none, .mv (.c (.bool false))⟩])
  (.seq (.reg [⟨(some 16), none, .mv (.t 0)⟩,
   ⟨(some 17), none, .mv (.t 1)⟩,
   ⟨(some 18), none, .ia 9 (.t 16) (.t 17)⟩,
   ⟨(some 19), none, .ld true 9 (.t 18)⟩,
   ⟨(some 5), none, .al [.int .i64 0, .int .i64 0, .int .i64 0, .int .i64 0, .int .i64 0, .int .i64 0, .str [], .str [], .str []]⟩,
   ⟨none, none, .st 9 (.t 5) (.t 19)⟩])
  (.seq (.reg [⟨(some 20), none, .fa 1 (.t 5)⟩,
   ⟨(some 21), none, .ld true 8 (.t 20)⟩,
   ⟨(some 6), none, .al [.int .i64 0, .int .i64 0, .int .i64 0, .int .i64 0, .int .i64 0, .str [], .str [], .str []]⟩,
   ⟨none, none, .st 8 (.t 6) (.t 21)⟩])
  (.seq (.seq (.reg [⟨(some 7), none, .mv (.c (.int .i64 0))⟩])
  (.blk 0 (.loop (.seq (.seq (.reg [⟨(some 22), none, .mv (.t 7)⟩,
     ⟨(some 23), none, .mv (.t 1)⟩,
     ⟨(some 24), none, .bin .lss (.t 22) (.t 23)⟩])
    (.cond (.t 24)
      .skip
      (.exit 0)))
    (.seq (.blk 1 (.seq (.drw [⟨(some 27), none, .mv (.t 0)⟩,
      ⟨(some 28), none, .mv (.t 7)⟩,
      ⟨(some 29), none, .ia 9 (.t 27) (.t 28)⟩,
      ⟨(some 30), none, .fa 0 (.t 29)⟩,
      ⟨(some 31), none, .ld false 1 (.t 30)⟩,
      ⟨(some 32), none, .fa 0 (.t 5)⟩,
      ⟨(some 33), none, .ld false 1 (.t 32)⟩,
      ⟨(some 34), none, .bin .eql (.t 31) (.t 33)⟩] [.val [], .val [], .val [], .val [], .val [], .val [], .val [], .val []])
     (.cond (.t 34)
       (.seq (.reg [⟨(some 4), none, .mv (.c (.bool false))⟩])
       .ret)
       .skip)))
    (.reg [⟨(some 25), none, .mv (.t 7)⟩,
     ⟨(some 26), none, .bin .add (.t 25) (.c (.int .i64 1))⟩,
     ⟨(some 7), none, .mv (.t 26)⟩]))))))
  (.seq (.seq (.reg [⟨(some 35), none, .fa 0 (.t 6)⟩,
   ⟨(some 36), none, .ld false 1 (.t 35)⟩])
  (.blk 2 (.seq (.reg [⟨(some 38), none, .bin .eql (.t 36) (.c (.int .i64 1))⟩,
    ⟨(some 37), none, .mv (.t 38)⟩])
   (.cond (.t 37)
     (.seq (.seq (.reg [⟨(some 8), none, .mv (.c (.int .i64 0))⟩])
     (.blk 3 (.loop (.seq (.seq (.reg [⟨(some 39), none, .mv (.t 8)⟩,
        ⟨(some 40), none, .mv (.t 0)⟩,
        ⟨(some 41), none, .lenl (.t 40)⟩,
        ⟨(some 42), none, .bin .lss (.t 39) (.t 41)⟩])
       (.cond (.t 42)
         .skip
         (.exit 3)))
       (.seq (.blk 4 (.seq (.drw [⟨(some 45), none, .mv (.t 0)⟩,
         ⟨(some 46), none, .mv (.t 8)⟩,
         ⟨(some 47), none, .ia 9 (.t 45) (.t 46)⟩,
         ⟨(some 48), none, .fa 1 (.t 47)⟩,
         ⟨(some 49), none, .fa 0 (.t 48)⟩,
         ⟨(some 50), none, .ld false 1 (.t 49)⟩,
         ⟨(some 51), none, .bin .eql (.t 50) (.c (.int .i64 1))⟩,
         ⟨(some 52), none, .mv (.t 51)⟩,
         ⟨(some 53), (some (52, true)), .mv (.t 0)⟩,
         ⟨(some 54), (some (52, true)), .mv (.t 8)⟩,
         ⟨(some 55), (some (52, true)), .ia 9 (.t 53) (.t 54)⟩,
         ⟨(some 56), (some (52, true)), .fa 1 (.t 55)⟩,
         ⟨(some 57), (some (52, true)), .fa 1 (.t 56)⟩,
         ⟨(some 58), (some (52, true)), .ld false 1 (.t 57)⟩,
         ⟨(some 59), (some (52, true)), .fa 1 (.t 6)⟩,
         ⟨(some 60), (some (52, true)), .ld false 1 (.t 59)⟩,
         ⟨(some 61), (some (52, true)), .bin .eql (.t 58) (.t 60)⟩,
         ⟨(some 62), none, .pick (.t 52) (.t 61) (.c (.bool false))⟩,
         ⟨(some 63), none, .mv (.t 62)⟩,
         ⟨(some 64), (some (63, true)), .mv (.t 0)⟩,
         ⟨(some 65), (some (63, true)), .mv (.t 8)⟩,
         ⟨(some 66), (some (63, true)), .ia 9 (.t 64) (.t 65)⟩,
         ⟨(some 67), (some (63, true)), .ld true 9 (.t 66)⟩,
         ⟨(some 68), (some (63, true)), .ld true 9 (.t 5)⟩,
         ⟨(some 69), (some (63, true)), .cl (.c (.fn 66 [])) [(.t 67), (.t 68)]⟩,
         ⟨(some 70), none, .pick (.t 63) (.t 69) (.c (.bool false))⟩] [.val [], .val [], .val [], .val [], .val [], .val [], .val [], .val [], .val [], .val [], .val [], .val [], .val [], .val [], .val [], .val [], .val [], .val [], .val [], .val [], .val [], .val [], .val [], .val [], .val [], .val []])
        (.cond (.t 70)
          (.seq (.reg [⟨(some 4), none, .mv (.c (.bool false))⟩])
          .ret)
          .skip)))
       (.reg [⟨(some 43), none, .mv (.t 8)⟩,
        ⟨(some 44), none, .bin .add (.t 43) (.c (.int .i64 1))⟩,
        ⟨(some 8), none, .mv (.t 44)⟩]))))))
     (.seq (.reg [⟨(some 71), none, .mv (.t 0)⟩,
      ⟨(some 72), none, .fa 1 (.t 6)⟩,
      ⟨(some 73), none, .ld false 1 (.t 72)⟩,
      ⟨(some 74), none, .cl (.c (.fn 67 [])) [(.t 71), (.t 73)]⟩,
      ⟨(some 4), none, .mv (.t 74)⟩])
     .ret))
     (.seq (.reg [⟨(some 76), none, .bin .eql (.t 36) (.c (.int .i64 2))⟩,
      ⟨(some 75), none, .mv (.t 76)⟩])
     (.cond (.t 75)
       (.seq (.reg [⟨(some 78), none, .mv (.t 0)⟩,
        ⟨(some 79), none, .fa 1 (.t 6)⟩,
        ⟨(some 80), none, .ld false 1 (.t 79)⟩,
        ⟨(some 81), none, .cl (.c (.fn 68 [])) [(.t 78), (.c (.int .i64 2)), (.t 80), (.c (.int .i64 0))]⟩,
        ⟨(some 77), none, .mv (.t 81)⟩,
        ⟨(some 82), none, .ext (.t 77) 0⟩,
        ⟨(some 83), none, .ext (.t 77) 1⟩,
        ⟨(some 9), none, .al [.int .i64 0, .int .i64 0, .int .i64 0, .int .i64 0, .int .i64 0, .int .i64 0, .str [], .str [], .str []]⟩,
        ⟨none, none, .st 9 (.t 9) (.t 82)⟩,
        ⟨(some 10), none, .mv (.t 83)⟩])
       (.seq (.seq (.reg [⟨(some 11), none, .mv (.c (.int .i64 0))⟩])
       (.blk 5 (.loop (.seq (.seq (.reg [⟨(some 84), none, .mv (.t 11)⟩,
          ⟨(some 85), none, .mv (.t 0)⟩,
          ⟨(some 86), none, .lenl (.t 85)⟩,
          ⟨(some 87), none, .bin .lss (.t 84) (.t 86)⟩])
         (.cond (.t 87)
           .skip
           (.exit 5)))
         (.seq (.blk 6 (.seq (.drw [⟨(some 90), none, .mv (.t 0)⟩,
           ⟨(some 91), none, .mv (.t 11)⟩,
           ⟨(some 92), none, .ia 9 (.t 90) (.t 91)⟩,
           ⟨(some 93), none, .fa 1 (.t 92)⟩,
           ⟨(some 94), none, .fa 0 (.t 93)⟩,
           ⟨(some 95), none, .ld false 1 (.t 94)⟩,
           ⟨(some 96), none, .bin .neq (.t 95) (.c (.int .i64 2))⟩,
           ⟨(some 97), none, .mv (.t 96)⟩,
           ⟨(some 98), (some (97, true)), .mv (.t 0)⟩,
           ⟨(some 99), (some (97, true)), .mv (.t 11)⟩,
           ⟨(some 100), (some (97, true)), .ia 9 (.t 98) (.t 99)⟩,
           ⟨(some 101), (some (97, true)), .fa 1 (.t 100)⟩,
           ⟨(some 102), (some (97, true)), .fa 1 (.t 101)⟩,
           ⟨(some 103), (some (97, true)), .ld false 1 (.t 102)⟩,
           ⟨(some 104), (some (97, true)), .fa 1 (.t 6)⟩,
           ⟨(some 105), (some (97, true)), .ld false 1 (.t 104)⟩,
           ⟨(some 106), (some (97, true)), .bin .eql (.t 103) (.t 105)⟩,
           ⟨(some 107), none, .pick (.t 97) (.t 106) (.c (.bool false))⟩] [.val [], .val [], .val [], .val [], .val [], .val [], .val [], .val [], .val [], .val [], .val [], .val [], .val [], .val [], .val [], .val [], .val [], .val []])
          (.cond (.t 107)
            (.seq (.reg [⟨(some 108), none, .fa 0 (.t 9)⟩,
             ⟨(some 109), none, .ld false 1 (.t 108)⟩,
             ⟨(some 110), none, .fa 0 (.t 5)⟩,
             ⟨(some 111), none, .ld false 1 (.t 110)⟩,
             ⟨(some 112), none, .bin .eql (.t 109) (.t 111)⟩,
             ⟨(some 4), none, .mv (.t 112)⟩])
            .ret)
            .skip)))
         (.reg [⟨(some 88), none, .mv (.t 11)⟩,
          ⟨(some 89), none, .bin .add (.t 88) (.c (.int .i64 1))⟩,
          ⟨(some 11), none, .mv (.t 89)⟩]))))))
       (.seq (.reg [⟨(some 4), none, .mv (.c (.bool false))⟩])
       .ret)))
       (.seq (.reg [⟨(some 114), none, .bin .eql (.t 36) (.c (.int .i64 5))⟩,
        ⟨(some 113), none, .mv (.t 114)⟩])
       (.cond (.t 113)
         (.seq (.reg [⟨(some 116), none, .mv (.t 0)⟩,
          ⟨(some 117), none, .fa 1 (.t 6)⟩,
          ⟨(some 118), none, .ld false 1 (.t 117)⟩,
          ⟨(some 119), none, .fa 2 (.t 6)⟩,
          ⟨(some 120), none, .ld false 1 (.t 119)⟩,
          ⟨(some 121), none, .cl (.c (.fn 68 [])) [(.t 116), (.c (.int .i64 5)), (.t 118), (.t 120)]⟩,
          ⟨(some 115), none, .mv (.t 121)⟩,
          ⟨(some 122), none, .ext (.t 115) 0⟩,
          ⟨(some 123), none, .ext (.t 115) 1⟩,
          ⟨(some 12), none, .al [.int .i64 0, .int .i64 0, .int .i64 0, .int .i64 0, .int .i64 0, .int .i64 0, .str [], .str [], .str []]⟩,
          ⟨none, none, .st 9 (.t 12) (.t 122)⟩,
          ⟨(some 13), none, .mv (.t 123)⟩])
         (.seq (.reg [⟨(some 124), none, .mv (.t 0)⟩,
          ⟨(some 125), none, .fa 1 (.t 6)⟩,
          ⟨(some 126), none, .ld false 1 (.t 125)⟩,
          ⟨(some 127), none, .cl (.c (.fn 67 [])) [(.t 124), (.t 126)]⟩,
          ⟨(some 128), none, .mv (.t 127)⟩,
          ⟨(some 129), (some (128, true)), .mv (.t 0)⟩,
          ⟨(some 130), (some (128, true)), .fa 1 (.t 6)⟩,
          ⟨(some 131), (some (128, true)), .ld false 1 (.t 130)⟩,
          ⟨(some 132), (some (128, true)), .fa 2 (.t 6)⟩,
          ⟨(some 133), (some (128, true)), .ld false 1 (.t 132)⟩,
          ⟨(some 134), (some (128, true)), .cl (.c (.fn 69 [])) [(.t 129), (.c (.int .i64 3)), (.t 131), (.t 133)]⟩,
          ⟨(some 135), none, .pick (.t 128) (.t 134) (.c (.bool false))⟩,
          ⟨(some 136), none, .mv (.t 135)⟩,
          ⟨(some 137), (some (136, true)), .fa 0 (.t 12)⟩,
          ⟨(some 138), (some (136, true)), .ld false 1 (.t 137)⟩,
          ⟨(some 139), (some (136, true)), .fa 0 (.t 5)⟩,
          ⟨(some 140), (some (136, true)), .ld false 1 (.t 139)⟩,
          ⟨(some 141), (some (136, true)), .bin .eql (.t 138) (.t 140)⟩,
          ⟨(some 142), none, .pick (.t 136) (.t 141) (.c (.bool false))⟩,
          ⟨(some 4), none, .mv (.t 142)⟩])
         .ret))
         .skip))))))))
  (.seq (.reg [⟨(some 144), none, .mv (.t 0)⟩,
   ⟨(some 145), none, .fa 0 (.t 6)⟩,
   ⟨(some 146), none, .ld false 1 (.t 145)⟩,
   ⟨(some 147), none, .fa 1 (.t 6)⟩,
   ⟨(some 148), none, .ld false 1 (.t 147)⟩,
   ⟨(some 149), none, .fa 2 (.t 6)⟩,
   ⟨(some 150), none, .ld false 1 (.t 149)⟩,
   ⟨(some 151), none, .cl (.c (.fn 68 [])) [(.t 144), (.t 146), (.t 148), (.t 150)]⟩,
   ⟨(some 143), none, .mv (.t 151)⟩,
   ⟨(some 152), none, .ext (.t 143) 0⟩,
   ⟨(some 153), none, .ext (.t 143) 1⟩,
   ⟨(some 14), none, .al [.int .i64 0, .int .i64 0, .int .i64 0, .int .i64 0, .int .i64 0, .int .i64 0, .str [], .str [], .str []]⟩,
   ⟨none, none, .st 9 (.t 14) (.t 152)⟩,
   ⟨(some 15), none, .mv (.t 153)⟩])
  (.seq (.reg [⟨(some 154), none, .mv (.t 0)⟩,
   ⟨(some 155), none, .fa 1 (.t 6)⟩,
   ⟨(some 156), none, .ld false 1 (.t 155)⟩,
   ⟨(some 157), none, .cl (.c (.fn 67 [])) [(.t 154), (.t 156)]⟩,
   ⟨(some 158), none, .mv (.t 157)⟩,
   ⟨(some 159), (some (158, true)), .mv (.t 0)⟩,
   ⟨(some 160), (some (158, true)), .fa 1 (.t 6)⟩,
   ⟨(some 161), (some (158, true)), .ld false 1 (.t 160)⟩,
   ⟨(some 162), (some (158, true)), .fa 2 (.t 6)⟩,
   ⟨(some 163), (some (158, true)), .ld false 1 (.t 162)⟩,
   ⟨(some 164), (some (158, true)), .cl (.c (.fn 69 [])) [(.t 159), (.c (.int .i64 3)), (.t 161), (.t 163)]⟩,
   ⟨(some 165), none, .pick (.t 158) (.t 164) (.c (.bool false))⟩,
   ⟨(some 166), none, .mv (.t 165)⟩,
   ⟨(some 167), (some (166, true)), .mv (.t 0)⟩,
   ⟨(some 168), (some (166, true)), .fa 1 (.t 6)⟩,
   ⟨(some 169), (some (166, true)), .ld false 1 (.t 168)⟩,
   ⟨(some 170), (some (166, true)), .fa 2 (.t 6)⟩,
   ⟨(some 171), (some (166, true)), .ld false 1 (.t 170)⟩,
   ⟨(some 172), (some (166, true)), .cl (.c (.fn 69 [])) [(.t 167), (.c (.int .i64 5)), (.t 169), (.t 171)]⟩,
   ⟨(some 173), (some (166, true)), .un .not (.t 172)⟩,
   ⟨(some 174), none, .pick (.t 166) (.t 173) (.c (.bool false))⟩,
   ⟨(some 175), none, .mv (.t 174)⟩,
   ⟨(some 176), (some (175, true)), .fa 0 (.t 14)⟩,
   ⟨(some 177), (some (175, true)), .ld false 1 (.t 176)⟩,
   ⟨(some 178), (some (175, true)), .fa 0 (.t 5)⟩,
   ⟨(some 179), (some (175, true)), .ld false 1 (.t 178)⟩,
   ⟨(some 180), (some (175, true)), .bin .eql (.t 177) (.t 179)⟩,
   ⟨(some 181), none, .pick (.t 175) (.t 180) (.c (.bool false))⟩,
   ⟨(some 4), none, .mv (.t 181)⟩])
  .ret)))))))
theorem k_spec_l08Need : FnOk Tryz.prog 47 182 rc_spec_l08Need [.t 4] := ⟨Tryz.f47, _, [], Tryz.func47, rfl, rfl, by kernel_rfl, by kernel_rfl, follows⟩
theorem ok_spec_l08Need : okF Tryz.prog 47 = true := by kernel_rfl
def rc_spec_NeededAll : RC :=
  (.seq (.reg [⟨(some 2), none, .mv (.c (.nils))⟩])
  (.seq (.reg [⟨(some 6), none, .mv (.t 0)⟩,
   ⟨(some 7), none, .cl (.c (.fn 46 [])) [(.t 6)]⟩,
   ⟨(some 3), none, .mv (.t 7)⟩])
  (.seq (.reg [⟨(some 8), none, .mv (.c (.nils))⟩,
   ⟨(some 4), none, .mv (.t 8)⟩])
  (.seq (.seq (.reg [⟨(some 5), none, .mv (.c (.int .i64 0))⟩])
  (.blk 0 (.loop (.seq (.seq (.reg [⟨(some 9), none, .mv (.t 5)⟩,
     ⟨(some 10), none, .mv (.t 0)⟩,
     ⟨(some 11), none, .lenl (.t 10)⟩,
     ⟨(some 12), none, .bin .lss (.t 9) (.t 11)⟩])
    (.cond (.t 12)
      .skip
      (.exit 0)))
    (.seq (.blk 1 (.reg [⟨(some 15), none, .mv (.t 4)⟩,
      ⟨(some 16), none, .mv (.t 3)⟩,
      ⟨(some 17), none, .mv (.t 16)⟩,
      ⟨(some 18), (some (17, true)), .mv (.t 0)⟩,
      ⟨(some 19), (some (17, true)), .mv (.t 5)⟩,
      ⟨(some 20), (some (17, true)), .cl (.c (.fn 47 [])) [(.t 18), (.t 19)]⟩,
      ⟨(some 21), none, .pick (.t 17) (.t 20) (.c (.bool false))⟩,
      ⟨(some 22), none, .bs 1 [.bool false] 1 [(0, (.t 21))]⟩,
      ⟨(some 23), none, .app 1 1 (.t 15) (.t 22)⟩,
      ⟨(some 4), none, .mv (.t 23)⟩]))
    (.reg [⟨(some 13), none, .mv (.t 5)⟩,
     ⟨(some 14), none, .bin .add (.t 13) (.c (.int .i64 1))⟩,
     ⟨(some 5), none, .mv (.t 14)⟩]))))))
  (.seq (.reg [⟨(some 24), none, .mv (.t 4)⟩,
   ⟨(some 2), none, .mv (.t 24)⟩])
  .ret)))))
theorem k_spec_NeededAll : FnOk Tryz.prog 28 25 rc_spec_NeededAll [.t 2] := ⟨Tryz.f28, _, [], Tryz.func28, rfl, rfl, by kernel_rfl, by kernel_rfl, follows⟩
theorem ok_spec_NeededAll : okF Tryz.prog 28 = true := by kernel_rfl
def rc_spec_l12Freed : RC :=
  (.seq (.reg [⟨(some 2), none, .bx (.t 0)⟩,
   ⟨(some 4), none, .mv (.c (.bool false))⟩])
  (.seq (.seq (.reg [⟨(some 5), none, .mv (.c (.int .i64 0))⟩])
  (.blk 0 (.loop (.seq (.seq (.reg [⟨(some 6), none, .mv (.t 5)⟩,
     ⟨(some 7), none, .fa 8 (.t 2)⟩,
     ⟨(some 8), none, .ld false 1 (.t 7)⟩,
     ⟨(some 9), none, .lenl (.t 8)⟩,
     ⟨(some 10), none, .bin .lss (.t 6) (.t 9)⟩])
    (.cond (.t 10)
      .skip
      (.exit 0)))
    (.seq (.blk 1 (.seq (.reg [⟨(some 13), none, .fa 8 (.t 2)⟩,
      ⟨(some 14), none, .ld false 1 (.t 13)⟩,
      ⟨(some 15), none, .mv (.t 5)⟩,
      ⟨(some 16), none, .ia 1 (.t 14) (.t 15)⟩,
      ⟨(some 17), none, .ld false 1 (.t 16)⟩,
      ⟨(some 18), none, .mv (.t 1)⟩,
      ⟨(some 19), none, .bin .eql (.t 17) (.t 18)⟩])
     (.cond (.t 19)
       (.seq (.reg [⟨(some 4), none, .mv (.c (.bool true))⟩])
       .ret)
       .skip)))
    (.reg [⟨(some 11), none, .mv (.t 5)⟩,
     ⟨(some 12), none, .bin .add (.t 11) (.c (.int .i64 1))⟩,
     ⟨(some 5), none, .mv (.t 12)⟩]))))))
  (.seq (.reg [⟨(some 4), none, .mv (.c (.bool false))⟩])
  .ret)))
theorem k_spec_l12Freed : FnOk Tryz.prog 30 20 rc_spec_l12Freed [.t 4] := ⟨Tryz.f30, _, [], Tryz.func30, rfl, rfl, by kernel_rfl, by kernel_rfl, follows⟩
theorem ok_spec_l12Freed : okF Tryz.prog 30 = true := by kernel_rfl
def rc_spec_l12Kept : RC :=
  (.seq (.reg [⟨(some 1), none, .bx (.t 0)⟩,
   ⟨(some 2), none, .mv (.c (.nils))⟩])
  (.seq (.reg [⟨(some 5), none, .mv (.c (.nils))⟩,
   ⟨(some 3), none, .mv (.t 5)⟩])
  (.seq (.seq (.reg [⟨(some 4), none, .mv (.c (.int .i64 0))⟩])
  (.blk 0 (.loop (.seq (.seq (.reg [⟨(some 6), none, .mv (.t 4)⟩,
     ⟨(some 7), none, .fa 0 (.t 1)⟩,
     ⟨(some 8), none, .fa 3 (.t 7)⟩,
     ⟨(some 9), none, .ld false 1 (.t 8)⟩,
     ⟨(some 10), none, .lenl (.t 9)⟩,
     ⟨(some 11), none, .bin .lss (.t 6) (.t 10)⟩])
    (.cond (.t 11)
      .skip
      (.exit 0)))
    (.seq (.blk 1 (.seq (.drw [⟨(some 14), none, .ld true 9 (.t 1)⟩,
      ⟨(some 15), none, .fa 0 (.t 1)⟩,
      ⟨(some 16), none, .fa 3 (.t 15)⟩,
      ⟨(some 17), none, .ld false 1 (.t 16)⟩,
      ⟨(some 18), none, .mv (.t 4)⟩,
      ⟨(some 19), none, .ia 4 (.t 17) (.t 18)⟩,
      ⟨(some 20), none, .fa 0 (.t 19)⟩,
      ⟨(some 21), none, .ld false 1 (.t 20)⟩,
      ⟨(some 22), none, .cl (.c (.fn 30 [])) [(.t 14), (.t 21)]⟩,
      ⟨(some 23), none, .un .not (.t 22)⟩] [.val [], .val [], .val [], .val [], .val [], .val [], .val [], .val [], .val [], .val []])
     (.cond (.t 23)
       (.reg [⟨(some 24), none, .mv (.t 3)⟩,
        ⟨(some 25), none, .fa 0 (.t 1)⟩,
        ⟨(some 26), none, .fa 3 (.t 25)⟩,
        ⟨(some 27), none, .ld false 1 (.t 26)⟩,
        ⟨(some 28), none, .mv (.t 4)⟩,
        ⟨(some 29), none, .ia 4 (.t 27) (.t 28)⟩,
        ⟨(some 30), none, .fa 3 (.t 29)⟩,
        ⟨(some 31), none, .ld false 1 (.t 30)⟩,
        ⟨(some 32), none, .app 9 96 (.t 24) (.t 31)⟩,
        ⟨(some 3), none, .mv (.t 32)⟩])
       .skip)))
    (.reg [⟨(some 12), none, .mv (.t 4)⟩,
     ⟨(some 13), none, .bin .add (.t 12) (.c (.int .i64 1))⟩,
     ⟨(some 4), none, .mv (.t 13)⟩]))))))
  (.seq (.reg [⟨(some 33), none, .mv (.t 3)⟩,
   ⟨(some 2), none, .mv (.t 33)⟩])
  .ret))))
theorem k_spec_l12Kept : FnOk Tryz.prog 29 34 rc_spec_l12Kept [.t 2] := ⟨Tryz.f29, _, [], Tryz.func29, rfl, rfl, by kernel_rfl, by kernel_rfl, follows⟩
theorem ok_spec_l12Kept : okF Tryz.prog 29 = true := by kernel_rfl
def rc_spec_l01Var : RC :=
  (.seq (.reg [⟨(some 2), none, .mv (.c (.str []))⟩])
  (.seq (.reg [⟨(some 4), none, .mv (.c (.nils))⟩,
   ⟨(some 3), none, .mv (.t 4)⟩])
  (.seq (.blk 0 (.loop (.seq (.seq (.reg [⟨(some 5), none, .mv (.t 0)⟩,
     ⟨(some 6), none, .bin .gtr (.t 5) (.c (.int .i64 127))⟩])
    (.cond (.t 6)
      .skip
      (.exit 0)))
    (.blk 1 (.seq (.reg [⟨(some 7), none, .mv (.t 3)⟩,
      ⟨(some 8), none, .mv (.t 0)⟩,
      ⟨(some 9), none, .bin .rem (.t 8) (.c (.int .i64 128))⟩,
      ⟨(some 10), none, .bin .add (.t 9) (.c (.int .i64 128))⟩,
      ⟨(some 11), none, .cvi .u8 (.t 10)⟩,
      ⟨(some 12), none, .bs 1 [.int .u8 0] 1 [(0, (.t 11))]⟩,
      ⟨(some 13), none, .app 1 1 (.t 7) (.t 12)⟩,
      ⟨(some 3), none, .mv (.t 13)⟩])
     (.reg [⟨(some 14), none, .mv (.t 0)⟩,
      ⟨(some 15), none, .bin .quo (.t 14) (.c (.int .i64 128))⟩,
      ⟨(some 0), none, .mv (.t 15)⟩]))))))
  (.seq (.reg [⟨(some 16), none, .mv (.t 3)⟩,
   ⟨(some 17), none, .mv (.t 0)⟩,
   ⟨(some 18), none, .cvi .u8 (.t 17)⟩,
   ⟨(some 19), none, .bs 1 [.int .u8 0] 1 [(0, (.t 18))]⟩,
   ⟨(some 20), none, .app 1 1 (.t 16) (.t 19)⟩,
   ⟨(some 21), none, .cvb (.t 20)⟩,
   ⟨(some 2), none, .mv (.t 21)⟩])
  .ret))))
theorem k_spec_l01Var : FnOk Tryz.prog 70 22 rc_spec_l01Var [.t 2] := ⟨Tryz.f70, _, [], Tryz.func70, rfl, rfl, by kernel_rfl, by kernel_rfl, follows⟩
theorem ok_spec_l01Var : okF Tryz.prog 70 = true := by kernel_rfl
def rc_spec_l06Short : RC :=
  (.seq (.reg [⟨(some 2), none, .mv (.c (.str []))⟩])
  (.seq (.reg [⟨(some 3), none, .mv (.t 0)⟩,
   ⟨(some 4), none, .lens (.t 3)⟩,
   ⟨(some 5), none, .cl (.c (.fn 70 [])) [(.t 4)]⟩,
   ⟨(some 6), none, .mv (.t 0)⟩,
   ⟨(some 7), none, .bin .add (.t 5) (.t 6)⟩,
   ⟨(some 2), none, .mv (.t 7)⟩])
  .ret))
theorem k_spec_l06Short : FnOk Tryz.prog 71 8 rc_spec_l06Short [.t 2] := ⟨Tryz.f71, _, [], Tryz.func71, rfl, rfl, by kernel_rfl, by kernel_rfl, follows⟩
theorem ok_spec_l06Short : okF Tryz.prog 71 = true := by kernel_rfl
def rc_spec_RecText : RC :=
  (.seq (.reg [⟨(some 1), none, .bx (.t 0)⟩,
   ⟨(some 2), none, .mv (.c (.str []))⟩,
   ⟨(some 3), none, .mv (.c (.bool false))⟩])
  (.seq (.seq (.reg [⟨(some 4), none, .ld true 8 (.t 1)⟩,
   ⟨(some 5), none, .cl (.c (.fn 65 [])) [(.t 4)]⟩,
   ⟨(some 6), none, .un .not (.t 5)⟩])
  (.cond (.t 6)
    (.seq (.reg [⟨(some 2), none, .mv (.c (.str []))⟩,
     ⟨(some 3), none, .mv (.c (.bool false))⟩])
    .ret)
    .skip))
  (.seq (.drw [⟨(some 7), none, .fa 0 (.t 1)⟩,
   ⟨(some 8), none, .ld false 1 (.t 7)⟩,
   ⟨(some 9), none, .cvi .u8 (.t 8)⟩,
   ⟨(some 10), none, .bs 1 [.int .u8 0] 1 [(0, (.t 9))]⟩,
   ⟨(some 11), none, .cvb (.t 10)⟩,
   ⟨(some 12), none, .fa 1 (.t 1)⟩,
   ⟨(some 13), none, .ld false 1 (.t 12)⟩,
   ⟨(some 14), none, .cl (.c (.fn 70 [])) [(.t 13)]⟩,
   ⟨(some 15), none, .bin .add (.t 11) (.t 14)⟩,
   ⟨(some 16), none, .fa 2 (.t 1)⟩,
   ⟨(some 17), none, .ld false 1 (.t 16)⟩,
   ⟨(some 18), none, .cl (.c (.fn 70 [])) [(.t 17)]⟩,
   ⟨(some 19), none, .bin .add (.t 15) (.t 18)⟩,
   ⟨(some 20), none, .fa 3 (.t 1)⟩,
   ⟨(some 21), none, .ld false 1 (.t 20)⟩,
   ⟨(some 22), none, .cl (.c (.fn 70 [])) [(.t 21)]⟩,
   ⟨(some 23), none, .bin .add (.t 19) (.t 22)⟩,
   ⟨(some 24), none, .fa 4 (.t 1)⟩,
   ⟨(some 25), none, .ld false 1 (.t 24)⟩,
   ⟨(some 26), none, .cl (.c (.fn 70 [])) [(.t 25)]⟩,
   ⟨(some 27), none, .bin .add (.t 23) (.t 26)⟩,
   ⟨(some 28), none, .fa 5 (.t 1)⟩,
   ⟨(some 29), none, .ld false 1 (.t 28)⟩,
   ⟨(some 30), none, .cl (.c (.fn 71 [])) [(.t 29)]⟩,
   ⟨(some 31), none, .bin .add (.t 27) (.t 30)⟩,
   ⟨(some 32), none, .fa 6 (.t 1)⟩,
   ⟨(some 33), none, .ld false 1 (.t 32)⟩,
   ⟨(some 34), none, .cl (.c (.fn 71 [])) [(.t 33)]⟩,
   ⟨(some 35), none, .bin .add (.t 31) (.t 34)⟩,
   ⟨(some 36), none, .fa 7 (.t 1)⟩,
   ⟨(some 37), none, .ld false 1 (.t 36)⟩,
   ⟨(some 38), none, .cl (.c (.fn 71 [])) [(.t 37)]⟩,
   ⟨(some 39), none, .bin .add (.t 35) (.t 38)⟩,
   ⟨(some 2), none, .mv (.t 39)⟩,
   ⟨(some 3), none, .mv (.c (.bool true))⟩] [.val [], .val [], .val [], .chn [], .val [], .val [3], .val [3], .val [3], .val [], .val [3], .val [3], .val [3], .val [], .val [3], .val [3], .val [3], .val [], .val [3], .val [3], .val [3], .val [], .val [3], .val [3], .val [3], .val [], .val [3], .val [3], .val [3], .val [], .val [3], .val [3], .val [3], .val [], .val [], .val []])
  .ret)))
theorem k_spec_RecText : FnOk Tryz.prog 48 40 rc_spec_RecText [.t 2, .t 3] := ⟨Tryz.f48, _, [], Tryz.func48, rfl, rfl, by kernel_rfl, by kernel_rfl, follows⟩
theorem ok_spec_RecText : okF Tryz.prog 48 = true := by kernel_rfl
def rc_spec_FrameOk : RC :=
  (.seq (.reg [⟨(some 1), none, .bx (.t 0)⟩,
   ⟨(some 2), none, .mv (.c (.bool false))⟩])
  (.seq (.reg [⟨(some 3), none, .fa 0 (.t 1)⟩,
   ⟨(some 4), none, .ld false 1 (.t 3)⟩,
   ⟨(some 5), none, .cl (.c (.fn 40 [])) [(.t 4), (.c (.int .i64 1)), (.c (.int .i64 1000000000))]⟩,
   ⟨(some 6), none, .mv (.t 5)⟩,
   ⟨(some 7), (some (6, true)), .fa 1 (.t 1)⟩,
   ⟨(some 8), (some (6, true)), .ld false 1 (.t 7)⟩,
   ⟨(some 9), (some (6, true)), .cl (.c (.fn 40 [])) [(.t 8), (.c (.int .i64 1)), (.c (.int .i64 1000000000))]⟩,
   ⟨(some 10), none, .pick (.t 6) (.t 9) (.c (.bool false))⟩,
   ⟨(some 11), none, .mv (.t 10)⟩,
   ⟨(some 12), (some (11, true)), .fa 2 (.t 1)⟩,
   ⟨(some 13), (some (11, true)), .ld false 1 (.t 12)⟩,
   ⟨(some 14), (some (11, true)), .lens (.t 13)⟩,
   ⟨(some 15), (some (11, true)), .cl (.c (.fn 40 [])) [(.t 14), (.c (.int .i64 1)), (.c (.int .i64 180))]⟩,
   ⟨(some 16), none, .pick (.t 11) (.t 15) (.c (.bool false))⟩,
   ⟨(some 2), none, .mv (.t 16)⟩])
  .ret))
theorem k_spec_FrameOk : FnOk Tryz.prog 49 17 rc_spec_FrameOk [.t 2] := ⟨Tryz.f49, _, [], Tryz.func49, rfl, rfl, by kernel_rfl, by kernel_rfl, follows⟩
theorem ok_spec_FrameOk : okF Tryz.prog 49 = true := by kernel_rfl
def rc_spec_ItemFrame : RC :=
  (.seq (.reg [⟨(some 2), none, .bx (.t 0)⟩,
   ⟨(some 4), none, .al [.int .i64 0, .int .i64 0, .str []]⟩,
   ⟨(some 5), none, .mv (.c (.bool false))⟩])
  (.seq (.reg [⟨(some 10), none, .fa 1 (.t 2)⟩,
   ⟨(some 11), none, .ld true 8 (.t 10)⟩,
   ⟨(some 12), none, .cl (.c (.fn 48 [])) [(.t 11)]⟩,
   ⟨(some 9), none, .mv (.t 12)⟩,
   ⟨(some 13), none, .ext (.t 9) 0⟩,
   ⟨(some 14), none, .ext (.t 9) 1⟩,
   ⟨(some 6), none, .mv (.t 13)⟩,
   ⟨(some 7), none, .mv (.t 14)⟩])
  (.seq (.reg [⟨(some 15), none, .mv (.t 1)⟩,
   ⟨(some 16), none, .fa 0 (.t 2)⟩,
   ⟨(some 17), none, .ld false 1 (.t 16)⟩,
   ⟨(some 18), none, .mv (.t 6)⟩,
   ⟨(some 19), none, .bld [.int .i64 0, .int .i64 0, .str []] [(0, 1), (1, 1), (2, 1)] [(0, (.t 15)), (1, (.t 17)), (2, (.t 18))]⟩,
   ⟨(some 8), none, .al [.int .i64 0, .int .i64 0, .str []]⟩,
   ⟨none, none, .st 3 (.t 8) (.t 19)⟩])
  (.seq (.seq (.reg [⟨(some 20), none, .mv (.t 7)⟩,
   ⟨(some 21), none, .un .not (.t 20)⟩,
   ⟨(some 22), none, .mv (.t 21)⟩,
   ⟨(some 23), (some (22, false)), .ld true 3 (.t 8)⟩,
   ⟨(some 24), (some (22, false)), .cl (.c (.fn 49 [])) [(.t 23)]⟩,
   ⟨(some 25), (some (22, false)), .un .not (.t 24)⟩,
   ⟨(some 26), none, .pick (.t 22) (.c (.bool true)) (.t 25)⟩])
  (.cond (.t 26)
    (.seq (.reg [⟨(some 27), none, .bld [.int .i64 0, .int .i64 0, .str []] [(0, 1), (1, 1), (2, 1)] []⟩,
     ⟨none, none, .st 3 (.t 4) (.t 27)⟩,
     ⟨(some 5), none, .mv (.c (.bool false))⟩])
    .ret)
    .skip))
  (.seq (.reg [⟨(some 28), none, .ld true 3 (.t 8)⟩,
   ⟨none, none, .st 3 (.t 4) (.t 28)⟩,
   ⟨(some 5), none, .mv (.c (.bool true))⟩])
  .ret)))))
theorem k_spec_ItemFrame : FnOk Tryz.prog 31 29 rc_spec_ItemFrame [.cell 4 true 3, .t 5] := ⟨Tryz.f31, _, [], Tryz.func31, rfl, rfl, by kernel_rfl, by kernel_rfl, follows⟩
theorem ok_spec_ItemFrame : okF Tryz.prog 31 = true := by kernel_rfl
def rc_spec_l02Four : RC :=
  (.seq (.reg [⟨(some 2), none, .mv (.c (.str []))⟩])
  (.seq (.reg [⟨(some 3), none, .mv (.t 0)⟩,
   ⟨(some 4), none, .bin .shr (.t 3) (.c (.int .u64 24))⟩,
   ⟨(some 5), none, .cvi .u8 (.t 4)⟩,
   ⟨(some 6), none, .mv (.t 0)⟩,
   ⟨(some 7), none, .bin .shr (.t 6) (.c (.int .u64 16))⟩,
   ⟨(some 8), none, .cvi .u8 (.t 7)⟩,
   ⟨(some 9), none, .mv (.t 0)⟩,
   ⟨(some 10), none, .bin .shr (.t 9) (.c (.int .u64 8))⟩,
   ⟨(some 11), none, .cvi .u8 (.t 10)⟩,
   ⟨(some 12), none, .mv (.t 0)⟩,
   ⟨(some 13), none, .cvi .u8 (.t 12)⟩,
   ⟨(some 14), none, .bs 1 [.int .u8 0] 4 [(0, (.t 5)), (1, (.t 8)), (2, (.t 11)), (3, (.t 13))]⟩,
   ⟨(some 15), none, .cvb (.t 14)⟩,
   ⟨(some 2), none, .mv (.t 15)⟩])
  .ret))
theorem k_spec_l02Four : FnOk Tryz.prog 85 16 rc_spec_l02Four [.t 2] := ⟨Tryz.f85, _, [], Tryz.func85, rfl, rfl, by kernel_rfl, by kernel_rfl, follows⟩
theorem ok_spec_l02Four : okF Tryz.prog 85 = true := by kernel_rfl
def rc_spec_SumMore : RC :=
  (.seq (.reg [⟨(some 4), none, .mv (.c (.int .u32 0))⟩])
  (.seq (.seq (.reg [⟨(some 5), none, .mv (.c (.int .i64 0))⟩])
  (.blk 0 (.loop (.seq (.seq (.reg [⟨(some 8), none, .mv (.t 5)⟩,
     ⟨(some 9), none, .mv (.t 1)⟩,
     ⟨(some 10), none, .lens (.t 9)⟩,
     ⟨(some 11), none, .bin .lss (.t 8) (.t 10)⟩])
    (.cond (.t 11)
      .skip
      (.exit 0)))
    (.seq (.blk 1 (.seq (.reg [⟨(some 14), none, .mv (.t 0)⟩,
      ⟨(some 15), none, .mv (.t 1)⟩,
      ⟨(some 16), none, .mv (.t 5)⟩,
      ⟨(some 17), none, .idx (.t 15) (.t 16)⟩,
      ⟨(some 18), none, .cvi .u32 (.t 17)⟩,
      ⟨(some 19), none, .bin .xor (.t 14) (.t 18)⟩,
      ⟨(some 0), none, .mv (.t 19)⟩])
     (.seq (.reg [⟨(some 6), none, .mv (.c (.int .i64 0))⟩])
     (.blk 2 (.loop (.seq (.seq (.reg [⟨(some 20), none, .mv (.t 6)⟩,
        ⟨(some 21), none, .bin .lss (.t 20) (.c (.int .i64 8))⟩])
       (.cond (.t 21)
         .skip
         (.exit 2)))
       (.seq (.blk 3 (.seq (.reg [⟨(some 24), none, .mv (.t 0)⟩,
         ⟨(some 25), none, .bin .rem (.t 24) (.c (.int .u32 2))⟩,
         ⟨(some 26), none, .bin .eql (.t 25) (.c (.int .u32 1))⟩,
         ⟨(some 7), none, .mv (.t 26)⟩])
        (.seq (.reg [⟨(some 27), none, .mv (.t 0)⟩,
         ⟨(some 28), none, .bin .quo (.t 27) (.c (.int .u32 2))⟩,
         ⟨(some 0), none, .mv (.t 28)⟩])
        (.seq (.reg [⟨(some 29), none, .mv (.t 7)⟩])
        (.cond (.t 29)
          (.reg [⟨(some 30), none, .mv (.t 0)⟩,
           ⟨(some 31), none, .bin .xor (.t 30) (.c (.int .u32 3558460437))⟩,
           ⟨(some 0), none, .mv (.t 31)⟩])
          .skip)))))
       (.reg [⟨(some 22), none, .mv (.t 6)⟩,
        ⟨(some 23), none, .bin .add (.t 22) (.c (.int .i64 1))⟩,
        ⟨(some 6), none, .mv (.t 23)⟩]))))))))
    (.reg [⟨(some 12), none, .mv (.t 5)⟩,
     ⟨(some 13), none, .bin .add (.t 12) (.c (.int .i64 1))⟩,
     ⟨(some 5), none, .mv (.t 13)⟩]))))))
  (.seq (.reg [⟨(some 32), none, .mv (.t 0)⟩,
   ⟨(some 4), none, .mv (.t 32)⟩])
  .ret)))
theorem k_spec_SumMore : FnOk Tryz.prog 103 33 rc_spec_SumMore [.t 4] := ⟨Tryz.f103, _, [], Tryz.func103, rfl, rfl, by kernel_rfl, by kernel_rfl, follows⟩
theorem ok_spec_SumMore : okF Tryz.prog 103 = true := by kernel_rfl
def rc_spec_SumOf : RC :=
  (.seq (.reg [⟨(some 2), none, .mv (.c (.int .u32 0))⟩])
  (.seq (.reg [⟨(some 3), none, .mv (.t 0)⟩,
   ⟨(some 4), none, .cl (.c (.fn 103 [])) [(.c (.int .u32 4294967295)), (.t 3)]⟩,
   ⟨(some 2), none, .mv (.t 4)⟩])
  .ret))
theorem k_spec_SumOf : FnOk Tryz.prog 86 5 rc_spec_SumOf [.t 2] := ⟨Tryz.f86, _, [], Tryz.func86, rfl, rfl, by kernel_rfl, by kernel_rfl, follows⟩
theorem ok_spec_SumOf : okF Tryz.prog 86 = true := by kernel_rfl
def rc_spec_Sealed : RC :=
  (.seq (.reg [⟨(some 2), none, .mv (.c (.str []))⟩,
   ⟨(some 3), none, .mv (.c (.bool false))⟩])
  (.seq (.seq (.reg [⟨(some 4), none, .mv (.t 0)⟩,
   ⟨(some 5), none, .lens (.t 4)⟩,
   ⟨(some 6), none, .bin .gtr (.t 5) (.c (.int .i64 20000))⟩])
  (.cond (.t 6)
    (.seq (.reg [⟨(some 2), none, .mv (.c (.str []))⟩,
     ⟨(some 3), none, .mv (.c (.bool false))⟩])
    .ret)
    .skip))
  (.seq (.reg [⟨(some 7), none, .mv (.t 0)⟩,
   ⟨(some 8), none, .mv (.t 0)⟩,
   ⟨(some 9), none, .cl (.c (.fn 86 [])) [(.t 8)]⟩,
   ⟨(some 10), none, .cl (.c (.fn 85 [])) [(.t 9)]⟩,
   ⟨(some 11), none, .bin .add (.t 7) (.t 10)⟩,
   ⟨(some 2), none, .mv (.t 11)⟩,
   ⟨(some 3), none, .mv (.c (.bool true))⟩])
  .ret)))
theorem k_spec_Sealed : FnOk Tryz.prog 72 12 rc_spec_Sealed [.t 2, .t 3] := ⟨Tryz.f72, _, [], Tryz.func72, rfl, rfl, by kernel_rfl, by kernel_rfl, follows⟩
theorem ok_spec_Sealed : okF Tryz.prog 72 = true := by kernel_rfl
def rc_spec_FrameText : RC :=
  (.seq (.reg [⟨(some 1), none, .bx (.t 0)⟩,
   ⟨(some 2), none, .mv (.c (.str []))⟩,
   ⟨(some 3), none, .mv (.c (.bool false))⟩])
  (.seq (.seq (.reg [⟨(some 4), none, .ld true 3 (.t 1)⟩,
   ⟨(some 5), none, .cl (.c (.fn 49 [])) [(.t 4)]⟩,
   ⟨(some 6), none, .un .not (.t 5)⟩])
  (.cond (.t 6)
    (.seq (.reg [⟨(some 2), none, .mv (.c (.str []))⟩,
     ⟨(some 3), none, .mv (.c (.bool false))⟩])
    .ret)
    .skip))
  (.seq (.drw [⟨(some 7), none, .fa 0 (.t 1)⟩,
   ⟨(some 8), none, .ld false 1 (.t 7)⟩,
   ⟨(some 9), none, .cl (.c (.fn 70 [])) [(.t 8)]⟩,
   ⟨(some 10), none, .fa 1 (.t 1)⟩,
   ⟨(some 11), none, .ld false 1 (.t 10)⟩,
   ⟨(some 12), none, .cl (.c (.fn 70 [])) [(.t 11)]⟩,
   ⟨(some 13), none, .bin .add (.t 9) (.t 12)⟩,
   ⟨(some 14), none, .fa 2 (.t 1)⟩,
   ⟨(some 15), none, .ld false 1 (.t 14)⟩,
   ⟨(some 16), none, .lens (.t 15)⟩,
   ⟨(some 17), none, .cl (.c (.fn 70 [])) [(.t 16)]⟩,
   ⟨(some 18), none, .bin .add (.t 13) (.t 17)⟩,
   ⟨(some 19), none, .fa 2 (.t 1)⟩,
   ⟨(some 20), none, .ld false 1 (.t 19)⟩,
   ⟨(some 21), none, .bin .add (.t 18) (.t 20)⟩,
   ⟨(some 22), none, .cl (.c (.fn 72 [])) [(.t 21)]⟩,
   ⟨(some 23), none, .ext (.t 22) 0⟩,
   ⟨(some 24), none, .ext (.t 22) 1⟩,
   ⟨(some 2), none, .mv (.t 23)⟩,
   ⟨(some 3), none, .mv (.t 24)⟩] [.val [], .val [], .val [], .val [], .val [], .val [], .val [], .val [], .val [], .val [], .val [], .val [], .val [], .val [], .val [], .val [], .val [], .val [], .val [], .val []])
  .ret)))
theorem k_spec_FrameText : FnOk Tryz.prog 50 25 rc_spec_FrameText [.t 2, .t 3] := ⟨Tryz.f50, _, [], Tryz.func50, rfl, rfl, by kernel_rfl, by kernel_rfl, follows⟩
theorem ok_spec_FrameText : okF Tryz.prog 50 = true := by kernel_rfl
def rc_spec_FrameSize : RC :=
  (.seq (.reg [⟨(some 1), none, .bx (.t 0)⟩,
   ⟨(some 2), none, .mv (.c (.int .i64 0))⟩])
  (.seq (.reg [⟨(some 6), none, .ld true 3 (.t 1)⟩,
   ⟨(some 7), none, .cl (.c (.fn 50 [])) [(.t 6)]⟩,
   ⟨(some 5), none, .mv (.t 7)⟩,
   ⟨(some 8), none, .ext (.t 5) 0⟩,
   ⟨(some 9), none, .ext (.t 5) 1⟩,
   ⟨(some 3), none, .mv (.t 8)⟩,
   ⟨(some 4), none, .mv (.t 9)⟩])
  (.seq (.reg [⟨(some 10), none, .mv (.t 3)⟩,
   ⟨(some 11), none, .lens (.t 10)⟩,
   ⟨(some 2), none, .mv (.t 11)⟩])
  .ret)))
theorem k_spec_FrameSize : FnOk Tryz.prog 32 12 rc_spec_FrameSize [.t 2] := ⟨Tryz.f32, _, [], Tryz.func32, rfl, rfl, by kernel_rfl, by kernel_rfl, follows⟩
theorem ok_spec_FrameSize : okF Tryz.prog 32 = true := by kernel_rfl
def rc_spec_l13Sizes : RC :=
  (.seq (.reg [⟨(some 1), none, .bx (.t 0)⟩,
   ⟨(some 2), none, .mv (.c (.nils))⟩])
  (.seq (.reg [⟨(some 11), none, .ld true 9 (.t 1)⟩,
   ⟨(some 12), none, .cl (.c (.fn 29 [])) [(.t 11)]⟩,
   ⟨(some 13), none, .cl (.c (.fn 28 [])) [(.t 12)]⟩,
   ⟨(some 3), none, .mv (.t 13)⟩])
  (.seq (.reg [⟨(some 14), none, .mv (.c (.nils))⟩,
   ⟨(some 4), none, .mv (.t 14)⟩])
  (.seq (.reg [⟨(some 5), none, .mv (.c (.int .i64 0))⟩])
  (.seq (.seq (.reg [⟨(some 6), none, .mv (.c (.int .i64 0))⟩])
  (.blk 0 (.loop (.seq (.seq (.reg [⟨(some 15), none, .mv (.t 6)⟩,
     ⟨(some 16), none, .fa 0 (.t 1)⟩,
     ⟨(some 17), none, .fa 3 (.t 16)⟩,
     ⟨(some 18), none, .ld false 1 (.t 17)⟩,
     ⟨(some 19), none, .lenl (.t 18)⟩,
     ⟨(some 20), none, .bin .lss (.t 15) (.t 19)⟩])
    (.cond (.t 20)
      .skip
      (.exit 0)))
    (.seq (.blk 1 (.seq (.reg [⟨(some 7), none, .mv (.c (.int .i64 0))⟩])
     (.seq (.seq (.drw [⟨(some 23), none, .ld true 9 (.t 1)⟩,
      ⟨(some 24), none, .fa 0 (.t 1)⟩,
      ⟨(some 25), none, .fa 3 (.t 24)⟩,
      ⟨(some 26), none, .ld false 1 (.t 25)⟩,
      ⟨(some 27), none, .mv (.t 6)⟩,
      ⟨(some 28), none, .ia 4 (.t 26) (.t 27)⟩,
      ⟨(some 29), none, .fa 0 (.t 28)⟩,
      ⟨(some 30), none, .ld false 1 (.t 29)⟩,
      ⟨(some 31), none, .cl (.c (.fn 30 [])) [(.t 23), (.t 30)]⟩] [.val [], .val [], .val [], .val [], .val [], .val [], .val [], .val [], .val []])
     (.cond (.t 31)
       (.seq (.reg [⟨(some 32), none, .mv (.t 4)⟩,
        ⟨(some 33), none, .bs 1 [.int .i64 0] 1 [(0, (.c (.int .i64 0)))]⟩,
        ⟨(some 34), none, .app 1 8 (.t 32) (.t 33)⟩,
        ⟨(some 4), none, .mv (.t 34)⟩])
       (.exit 1))
       .skip))
     (.seq (.seq (.reg [⟨(some 8), none, .mv (.c (.int .i64 0))⟩])
     (.blk 2 (.loop (.seq (.seq (.reg [⟨(some 35), none, .mv (.t 8)⟩,
        ⟨(some 36), none, .fa 0 (.t 1)⟩,
        ⟨(some 37), none, .fa 3 (.t 36)⟩,
        ⟨(some 38), none, .ld false 1 (.t 37)⟩,
        ⟨(some 39), none, .mv (.t 6)⟩,
        ⟨(some 40), none, .ia 4 (.t 38) (.t 39)⟩,
        ⟨(some 41), none, .fa 3 (.t 40)⟩,
        ⟨(some 42), none, .ld false 1 (.t 41)⟩,
        ⟨(some 43), none, .lenl (.t 42)⟩,
        ⟨(some 44), none, .bin .lss (.t 35) (.t 43)⟩])
       (.cond (.t 44)
         .skip
         (.exit 2)))
       (.seq (.blk 3 (.seq (.seq (.reg [⟨(some 47), none, .mv (.t 3)⟩,
         ⟨(some 48), none, .mv (.t 5)⟩,
         ⟨(some 49), none, .ia 1 (.t 47) (.t 48)⟩,
         ⟨(some 50), none, .ld false 1 (.t 49)⟩])
        (.cond (.t 50)
          (.seq (.drw [⟨(some 52), none, .fa 0 (.t 1)⟩,
           ⟨(some 53), none, .fa 3 (.t 52)⟩,
           ⟨(some 54), none, .ld false 1 (.t 53)⟩,
           ⟨(some 55), none, .mv (.t 6)⟩,
           ⟨(some 56), none, .ia 4 (.t 54) (.t 55)⟩,
           ⟨(some 57), none, .fa 3 (.t 56)⟩,
           ⟨(some 58), none, .ld false 1 (.t 57)⟩,
           ⟨(some 59), none, .mv (.t 8)⟩,
           ⟨(some 60), none, .ia 9 (.t 58) (.t 59)⟩,
           ⟨(some 61), none, .ld true 9 (.t 60)⟩,
           ⟨(some 62), none, .fa 0 (.t 1)⟩,
           ⟨(some 63), none, .fa 3 (.t 62)⟩,
           ⟨(some 64), none, .ld false 1 (.t 63)⟩,
           ⟨(some 65), none, .mv (.t 6)⟩,
           ⟨(some 66), none, .ia 4 (.t 64) (.t 65)⟩,
           ⟨(some 67), none, .fa 1 (.t 66)⟩,
           ⟨(some 68), none, .ld false 1 (.t 67)⟩,
           ⟨(some 69), none, .cl (.c (.fn 31 [])) [(.t 61), (.t 68)]⟩,
           ⟨(some 51), none, .mv (.t 69)⟩,
           ⟨(some 70), none, .ext (.t 51) 0⟩,
           ⟨(some 71), none, .ext (.t 51) 1⟩,
           ⟨(some 9), none, .al [.int .i64 0, .int .i64 0, .str []]⟩,
           ⟨none, none, .st 3 (.t 9) (.t 70)⟩,
           ⟨(some 10), none, .mv (.t 71)⟩] [.val [], .val [], .val [], .val [], .val [], .val [], .val [], .val [], .val [], .val [], .val [], .val [], .val [], .val [], .val [], .val [], .val [], .val [], .val [], .val [], .val [], .chn [0, 1, 2, 3, 4, 5, 6, 7, 8, 9, 10, 11, 12, 13, 14, 15, 16, 17, 18, 19, 20], .chn [20], .val []])
          (.reg [⟨(some 72), none, .mv (.t 7)⟩,
           ⟨(some 73), none, .ld true 3 (.t 9)⟩,
           ⟨(some 74), none, .cl (.c (.fn 32 [])) [(.t 73)]⟩,
           ⟨(some 75), none, .bin .add (.t 72) (.t 74)⟩,
           ⟨(some 7), none, .mv (.t 75)⟩]))
          .skip))
        (.reg [⟨(some 76), none, .mv (.t 5)⟩,
         ⟨(some 77), none, .bin .add (.t 76) (.c (.int .i64 1))⟩,
         ⟨(some 5), none, .mv (.t 77)⟩])))
       (.reg [⟨(some 45), none, .mv (.t 8)⟩,
        ⟨(some 46), none, .bin .add (.t 45) (.c (.int .i64 1))⟩,
        ⟨(some 8), none, .mv (.t 46)⟩]))))))
     (.reg [⟨(some 78), none, .mv (.t 4)⟩,
      ⟨(some 79), none, .mv (.t 7)⟩,
      ⟨(some 80), none, .bs 1 [.int .i64 0] 1 [(0, (.t 79))]⟩,
      ⟨(some 81), none, .app 1 8 (.t 78) (.t 80)⟩,
      ⟨(some 4), none, .mv (.t 81)⟩])))))
    (.reg [⟨(some 21), none, .mv (.t 6)⟩,
     ⟨(some 22), none, .bin .add (.t 21) (.c (.int .i64 1))⟩,
     ⟨(some 6), none, .mv (.t 22)⟩]))))))
  (.seq (.reg [⟨(some 82), none, .mv (.t 4)⟩,
   ⟨(some 2), none, .mv (.t 82)⟩])
  .ret))))))
theorem k_spec_l13Sizes : FnOk Tryz.prog 17 83 rc_spec_l13Sizes [.t 2] := ⟨Tryz.f17, _, [], Tryz.func17, rfl, rfl, by kernel_rfl, by kernel_rfl, follows⟩
theorem ok_spec_l13Sizes : okF Tryz.prog 17 = true := by kernel_rfl
def rc_spec_LiveBytes : RC :=
  (.seq (.reg [⟨(some 1), none, .bx (.t 0)⟩,
   ⟨(some 2), none, .mv (.c (.int .i64 0))⟩])
  (.seq (.reg [⟨(some 6), none, .ld true 9 (.t 1)⟩,
   ⟨(some 7), none, .cl (.c (.fn 17 [])) [(.t 6)]⟩,
   ⟨(some 3), none, .mv (.t 7)⟩])
  (.seq (.reg [⟨(some 4), none, .mv (.c (.int .i64 0))⟩])
  (.seq (.seq (.reg [⟨(some 5), none, .mv (.c (.int .i64 0))⟩])
  (.blk 0 (.loop (.seq (.seq (.reg [⟨(some 8), none, .mv (.t 5)⟩,
     ⟨(some 9), none, .mv (.t 3)⟩,
     ⟨(some 10), none, .lenl (.t 9)⟩,
     ⟨(some 11), none, .bin .lss (.t 8) (.t 10)⟩])
    (.cond (.t 11)
      .skip
      (.exit 0)))
    (.seq (.blk 1 (.reg [⟨(some 14), none, .mv (.t 4)⟩,
      ⟨(some 15), none, .mv (.t 3)⟩,
      ⟨(some 16), none, .mv (.t 5)⟩,
      ⟨(some 17), none, .ia 1 (.t 15) (.t 16)⟩,
      ⟨(some 18), none, .ld false 1 (.t 17)⟩,
      ⟨(some 19), none, .bin .add (.t 14) (.t 18)⟩,
      ⟨(some 4), none, .mv (.t 19)⟩]))
    (.reg [⟨(some 12), none, .mv (.t 5)⟩,
     ⟨(some 13), none, .bin .add (.t 12) (.c (.int .i64 1))⟩,
     ⟨(some 5), none, .mv (.t 13)⟩]))))))
  (.seq (.reg [⟨(some 20), none, .mv (.t 4)⟩,
   ⟨(some 2), none, .mv (.t 20)⟩])
  .ret)))))
theorem k_spec_LiveBytes : FnOk Tryz.prog 7 21 rc_spec_LiveBytes [.t 2] := ⟨Tryz.f7, _, [], Tryz.func7, rfl, rfl, by kernel_rfl, by kernel_rfl, follows⟩
theorem ok_spec_LiveBytes : okF Tryz.prog 7 = true := by kernel_rfl
def rc_laws_toStringS : RC :=
  (.seq (.reg [⟨(some 2), none, .mv (.c (.nils))⟩])
  (.seq (.reg [⟨(some 5), none, .mv (.t 0)⟩,
   ⟨(some 6), none, .lenl (.t 5)⟩,
   ⟨(some 7), none, .ms 1 [.str []] 16 (.t 6) (.t 6)⟩,
   ⟨(some 3), none, .mv (.t 7)⟩])
  (.seq (.seq (.reg [⟨(some 4), none, .mv (.c (.int .i64 0))⟩])
  (.blk 0 (.loop (.seq (.seq (.reg [⟨(some 8), none, .mv (.t 4)⟩,
     ⟨(some 9), none, .mv (.t 0)⟩,
     ⟨(some 10), none, .lenl (.t 9)⟩,
     ⟨(some 11), none, .bin .lss (.t 8) (.t 10)⟩])
    (.cond (.t 11)
      .skip
      (.exit 0)))
    (.seq (.blk 1 (.reg [⟨(some 14), none, .mv (.t 3)⟩,
      ⟨(some 15), none, .mv (.t 4)⟩,
      ⟨(some 16), none, .mv (.t 0)⟩,
      ⟨(some 17), none, .mv (.t 4)⟩,
      ⟨(some 18), none, .ia 1 (.t 16) (.t 17)⟩,
      ⟨(some 19), none, .ld false 1 (.t 18)⟩,
      ⟨(some 20), none, .ia 1 (.t 14) (.t 15)⟩,
      ⟨none, none, .st 1 (.t 20) (.t 19)⟩]))
    (.reg [⟨(some 12), none, .mv (.t 4)⟩,
     ⟨(some 13), none, .bin .add (.t 12) (.c (.int .i64 1))⟩,
     ⟨(some 4), none, .mv (.t 13)⟩]))))))
  (.seq (.reg [⟨(some 21), none, .mv (.t 3)⟩,
   ⟨(some 2), none, .mv (.t 21)⟩])
  .ret))))
theorem k_laws_toStringS : FnOk Tryz.prog 51 22 rc_laws_toStringS [.t 2] := ⟨Tryz.f51, _, [], Tryz.func51, rfl, rfl, by kernel_rfl, by kernel_rfl, follows⟩
theorem ok_laws_toStringS : okF Tryz.prog 51 = true := by kernel_rfl
def rc_laws_toWrite : RC :=
  (.seq (.reg [⟨(some 1), none, .bx (.t 0)⟩,
   ⟨(some 2), none, .al [.int .i64 0, .str []]⟩])
  (.seq (.reg [⟨(some 3), none, .al [.int .i64 0, .str []]⟩])
  (.seq (.reg [⟨(some 4), none, .fa 0 (.t 1)⟩,
   ⟨(some 5), none, .ld false 1 (.t 4)⟩,
   ⟨(some 6), none, .fa 0 (.t 3)⟩,
   ⟨none, none, .st 1 (.t 6) (.t 5)⟩])
  (.seq (.reg [⟨(some 7), none, .fa 1 (.t 1)⟩,
   ⟨(some 8), none, .ld false 1 (.t 7)⟩,
   ⟨(some 9), none, .fa 1 (.t 3)⟩,
   ⟨none, none, .st 1 (.t 9) (.t 8)⟩])
  (.seq (.reg [⟨(some 10), none, .ld true 2 (.t 3)⟩,
   ⟨none, none, .st 2 (.t 2) (.t 10)⟩])
  .ret)))))
theorem k_laws_toWrite : FnOk Tryz.prog 73 11 rc_laws_toWrite [.cell 2 true 2] := ⟨Tryz.f73, _, [], Tryz.func73, rfl, rfl, by kernel_rfl, by kernel_rfl, follows⟩
theorem ok_laws_toWrite : okF Tryz.prog 73 = true := by kernel_rfl
def rc_laws_toWriteS : RC :=
  (.seq (.reg [⟨(some 2), none, .mv (.c (.nils))⟩])
  (.seq (.reg [⟨(some 5), none, .mv (.t 0)⟩,
   ⟨(some 6), none, .lenl (.t 5)⟩,
   ⟨(some 7), none, .ms 2 [.int .i64 0, .str []] 24 (.t 6) (.t 6)⟩,
   ⟨(some 3), none, .mv (.t 7)⟩])
  (.seq (.seq (.reg [⟨(some 4), none, .mv (.c (.int .i64 0))⟩])
  (.blk 0 (.loop (.seq (.seq (.reg [⟨(some 8), none, .mv (.t 4)⟩,
     ⟨(some 9), none, .mv (.t 0)⟩,
     ⟨(some 10), none, .lenl (.t 9)⟩,
     ⟨(some 11), none, .bin .lss (.t 8) (.t 10)⟩])
    (.cond (.t 11)
      .skip
      (.exit 0)))
    (.seq (.blk 1 (.reg [⟨(some 14), none, .mv (.t 3)⟩,
      ⟨(some 15), none, .mv (.t 4)⟩,
      ⟨(some 16), none, .mv (.t 0)⟩,
      ⟨(some 17), none, .mv (.t 4)⟩,
      ⟨(some 18), none, .ia 2 (.t 16) (.t 17)⟩,
      ⟨(some 19), none, .ld true 2 (.t 18)⟩,
      ⟨(some 20), none, .cl (.c (.fn 73 [])) [(.t 19)]⟩,
      ⟨(some 21), none, .ia 2 (.t 14) (.t 15)⟩,
      ⟨none, none, .st 2 (.t 21) (.t 20)⟩]))
    (.reg [⟨(some 12), none, .mv (.t 4)⟩,
     ⟨(some 13), none, .bin .add (.t 12) (.c (.int .i64 1))⟩,
     ⟨(some 4), none, .mv (.t 13)⟩]))))))
  (.seq (.reg [⟨(some 22), none, .mv (.t 3)⟩,
   ⟨(some 2), none, .mv (.t 22)⟩])
  .ret))))
theorem k_laws_toWriteS : FnOk Tryz.prog 52 23 rc_laws_toWriteS [.t 2] := ⟨Tryz.f52, _, [], Tryz.func52, rfl, rfl, by kernel_rfl, by kernel_rfl, follows⟩
theorem ok_laws_toWriteS : okF Tryz.prog 52 = true := by kernel_rfl
def rc_laws_toDisk : RC :=
  (.seq (.reg [⟨(some 1), none, .bx (.t 0)⟩,
   ⟨(some 2), none, .al [.nils, .nils]⟩])
  (.seq (.reg [⟨(some 3), none, .al [.nils, .nils]⟩])
  (.seq (.reg [⟨(some 4), none, .fa 0 (.t 1)⟩,
   ⟨(some 5), none, .ld false 1 (.t 4)⟩,
   ⟨(some 6), none, .cl (.c (.fn 51 [])) [(.t 5)]⟩,
   ⟨(some 7), none, .fa 0 (.t 3)⟩,
   ⟨none, none, .st 1 (.t 7) (.t 6)⟩])
  (.seq (.reg [⟨(some 8), none, .fa 1 (.t 1)⟩,
   ⟨(some 9), none, .ld false 1 (.t 8)⟩,
   ⟨(some 10), none, .cl (.c (.fn 52 [])) [(.t 9)]⟩,
   ⟨(some 11), none, .fa 1 (.t 3)⟩,
   ⟨none, none, .st 1 (.t 11) (.t 10)⟩])
  (.seq (.reg [⟨(some 12), none, .ld true 2 (.t 3)⟩,
   ⟨none, none, .st 2 (.t 2) (.t 12)⟩])
  .ret)))))
theorem k_laws_toDisk : FnOk Tryz.prog 33 13 rc_laws_toDisk [.cell 2 true 2] := ⟨Tryz.f33, _, [], Tryz.func33, rfl, rfl, by kernel_rfl, by kernel_rfl, follows⟩
theorem ok_laws_toDisk : okF Tryz.prog 33 = true := by kernel_rfl
def rc_laws_toRec : RC :=
  (.seq (.reg [⟨(some 1), none, .bx (.t 0)⟩,
   ⟨(some 2), none, .al [.int .i64 0, .int .i64 0, .int .i64 0, .int .i64 0, .int .i64 0, .str [], .str [], .str []]⟩])
  (.seq (.reg [⟨(some 3), none, .al [.int .i64 0, .int .i64 0, .int .i64 0, .int .i64 0, .int .i64 0, .str [], .str [], .str []]⟩])
  (.seq (.reg [⟨(some 4), none, .fa 0 (.t 1)⟩,
   ⟨(some 5), none, .ld false 1 (.t 4)⟩,
   ⟨(some 6), none, .fa 0 (.t 3)⟩,
   ⟨none, none, .st 1 (.t 6) (.t 5)⟩])
  (.seq (.reg [⟨(some 7), none, .fa 1 (.t 1)⟩,
   ⟨(some 8), none, .ld false 1 (.t 7)⟩,
   ⟨(some 9), none, .fa 1 (.t 3)⟩,
   ⟨none, none, .st 1 (.t 9) (.t 8)⟩])
  (.seq (.reg [⟨(some 10), none, .fa 2 (.t 1)⟩,
   ⟨(some 11), none, .ld false 1 (.t 10)⟩,
   ⟨(some 12), none, .fa 2 (.t 3)⟩,
   ⟨none, none, .st 1 (.t 12) (.t 11)⟩])
  (.seq (.reg [⟨(some 13), none, .fa 3 (.t 1)⟩,
   ⟨(some 14), none, .ld false 1 (.t 13)⟩,
   ⟨(some 15), none, .fa 3 (.t 3)⟩,
   ⟨none, none, .st 1 (.t 15) (.t 14)⟩])
  (.seq (.reg [⟨(some 16), none, .fa 4 (.t 1)⟩,
   ⟨(some 17), none, .ld false 1 (.t 16)⟩,
   ⟨(some 18), none, .fa 4 (.t 3)⟩,
   ⟨none, none, .st 1 (.t 18) (.t 17)⟩])
  (.seq (.reg [⟨(some 19), none, .fa 5 (.t 1)⟩,
   ⟨(some 20), none, .ld false 1 (.t 19)⟩,
   ⟨(some 21), none, .fa 5 (.t 3)⟩,
   ⟨none, none, .st 1 (.t 21) (.t 20)⟩])
  (.seq (.reg [⟨(some 22), none, .fa 6 (.t 1)⟩,
   ⟨(some 23), none, .ld false 1 (.t 22)⟩,
   ⟨(some 24), none, .fa 6 (.t 3)⟩,
   ⟨none, none, .st 1 (.t 24) (.t 23)⟩])
  (.seq (.reg [⟨(some 25), none, .fa 7 (.t 1)⟩,
   ⟨(some 26), none, .ld false 1 (.t 25)⟩,
   ⟨(some 27), none, .fa 7 (.t 3)⟩,
   ⟨none, none, .st 1 (.t 27) (.t 26)⟩])
  (.seq (.reg [⟨(some 28), none, .ld true 8 (.t 3)⟩,
   ⟨none, none, .st 8 (.t 2) (.t 28)⟩])
  .ret)))))))))))
theorem k_laws_toRec : FnOk Tryz.prog 104 29 rc_laws_toRec [.cell 2 true 8] := ⟨Tryz.f104, _, [], Tryz.func104, rfl, rfl, by kernel_rfl, by kernel_rfl, follows⟩
theorem ok_laws_toRec : okF Tryz.prog 104 = true := by kernel_rfl
def rc_laws_toItem : RC :=
  (.seq (.reg [⟨(some 1), none, .bx (.t 0)⟩,
   ⟨(some 2), none, .al [.int .i64 0, .int .i64 0, .int .i64 0, .int .i64 0, .int .i64 0, .int .i64 0, .str [], .str [], .str []]⟩])
  (.seq (.reg [⟨(some 3), none, .al [.int .i64 0, .int .i64 0, .int .i64 0, .int .i64 0, .int .i64 0, .int .i64 0, .str [], .str [], .str []]⟩])
  (.seq (.reg [⟨(some 4), none, .fa 0 (.t 1)⟩,
   ⟨(some 5), none, .ld false 1 (.t 4)⟩,
   ⟨(some 6), none, .fa 0 (.t 3)⟩,
   ⟨none, none, .st 1 (.t 6) (.t 5)⟩])
  (.seq (.reg [⟨(some 7), none, .fa 1 (.t 1)⟩,
   ⟨(some 8), none, .ld true 8 (.t 7)⟩,
   ⟨(some 9), none, .cl (.c (.fn 104 [])) [(.t 8)]⟩,
   ⟨(some 10), none, .fa 1 (.t 3)⟩,
   ⟨none, none, .st 8 (.t 10) (.t 9)⟩])
  (.seq (.reg [⟨(some 11), none, .ld true 9 (.t 3)⟩,
   ⟨none, none, .st 9 (.t 2) (.t 11)⟩])
  .ret)))))
theorem k_laws_toItem : FnOk Tryz.prog 87 12 rc_laws_toItem [.cell 2 true 9] := ⟨Tryz.f87, _, [], Tryz.func87, rfl, rfl, by kernel_rfl, by kernel_rfl, follows⟩
theorem ok_laws_toItem : okF Tryz.prog 87 = true := by kernel_rfl
def rc_laws_toItemS : RC :=
  (.seq (.reg [⟨(some 2), none, .mv (.c (.nils))⟩])
  (.seq (.reg [⟨(some 5), none, .mv (.t 0)⟩,
   ⟨(some 6), none, .lenl (.t 5)⟩,
   ⟨(some 7), none, .ms 9 [.int .i64 0, .int .i64 0, .int .i64 0, .int .i64 0, .int .i64 0, .int .i64 0, .str [], .str [], .str []] 96 (.t 6) (.t 6)⟩,
   ⟨(some 3), none, .mv (.t 7)⟩])
  (.seq (.seq (.reg [⟨(some 4), none, .mv (.c (.int .i64 0))⟩])
  (.blk 0 (.loop (.seq (.seq (.reg [⟨(some 8), none, .mv (.t 4)⟩,
     ⟨(some 9), none, .mv (.t 0)⟩,
     ⟨(some 10), none, .lenl (.t 9)⟩,
     ⟨(some 11), none, .bin .lss (.t 8) (.t 10)⟩])
    (.cond (.t 11)
      .skip
      (.exit 0)))
    (.seq (.blk 1 (.reg [⟨(some 14), none, .mv (.t 3)⟩,
      ⟨(some 15), none, .mv (.t 4)⟩,
      ⟨(some 16), none, .mv (.t 0)⟩,
      ⟨(some 17), none, .mv (.t 4)⟩,
      ⟨(some 18), none, .ia 9 (.t 16) (.t 17)⟩,
      ⟨(some 19), none, .ld true 9 (.t 18)⟩,
      ⟨(some 20), none, .cl (.c (.fn 87 [])) [(.t 19)]⟩,
      ⟨(some 21), none, .ia 9 (.t 14) (.t 15)⟩,
      ⟨none, none, .st 9 (.t 21) (.t 20)⟩]))
    (.reg [⟨(some 12), none, .mv (.t 4)⟩,
     ⟨(some 13), none, .bin .add (.t 12) (.c (.int .i64 1))⟩,
     ⟨(some 4), none, .mv (.t 13)⟩]))))))
  (.seq (.reg [⟨(some 22), none, .mv (.t 3)⟩,
   ⟨(some 2), none, .mv (.t 22)⟩])
  .ret))))
theorem k_laws_toItemS : FnOk Tryz.prog 74 23 rc_laws_toItemS [.t 2] := ⟨Tryz.f74, _, [], Tryz.func74, rfl, rfl, by kernel_rfl, by kernel_rfl, follows⟩
theorem ok_laws_toItemS : okF Tryz.prog 74 = true := by kernel_rfl
def rc_laws_toSeg : RC :=
  (.seq (.reg [⟨(some 1), none, .bx (.t 0)⟩,
   ⟨(some 2), none, .al [.int .i64 0, .int .i64 0, .int .i64 0, .nils]⟩])
  (.seq (.reg [⟨(some 3), none, .al [.int .i64 0, .int .i64 0, .int .i64 0, .nils]⟩])
  (.seq (.reg [⟨(some 4), none, .fa 0 (.t 1)⟩,
   ⟨(some 5), none, .ld false 1 (.t 4)⟩,
   ⟨(some 6), none, .fa 0 (.t 3)⟩,
   ⟨none, none, .st 1 (.t 6) (.t 5)⟩])
  (.seq (.reg [⟨(some 7), none, .fa 1 (.t 1)⟩,
   ⟨(some 8), none, .ld false 1 (.t 7)⟩,
   ⟨(some 9), none, .fa 1 (.t 3)⟩,
   ⟨none, none, .st 1 (.t 9) (.t 8)⟩])
  (.seq (.reg [⟨(some 10), none, .fa 2 (.t 1)⟩,
   ⟨(some 11), none, .ld false 1 (.t 10)⟩,
   ⟨(some 12), none, .fa 2 (.t 3)⟩,
   ⟨none, none, .st 1 (.t 12) (.t 11)⟩])
  (.seq (.reg [⟨(some 13), none, .fa 3 (.t 1)⟩,
   ⟨(some 14), none, .ld false 1 (.t 13)⟩,
   ⟨(some 15), none, .cl (.c (.fn 74 [])) [(.t 14)]⟩,
   ⟨(some 16), none, .fa 3 (.t 3)⟩,
   ⟨none, none, .st 1 (.t 16) (.t 15)⟩])
  (.seq (.reg [⟨(some 17), none, .ld true 4 (.t 3)⟩,
   ⟨none, none, .st 4 (.t 2) (.t 17)⟩])
  .ret)))))))
theorem k_laws_toSeg : FnOk Tryz.prog 53 18 rc_laws_toSeg [.cell 2 true 4] := ⟨Tryz.f53, _, [], Tryz.func53, rfl, rfl, by kernel_rfl, by kernel_rfl, follows⟩
theorem ok_laws_toSeg : okF Tryz.prog 53 = true := by kernel_rfl
def rc_laws_toSegS : RC :=
  (.seq (.reg [⟨(some 2), none, .mv (.c (.nils))⟩])
  (.seq (.reg [⟨(some 5), none, .mv (.t 0)⟩,
   ⟨(some 6), none, .lenl (.t 5)⟩,
   ⟨(some 7), none, .ms 4 [.int .i64 0, .int .i64 0, .int .i64 0, .nils] 48 (.t 6) (.t 6)⟩,
   ⟨(some 3), none, .mv (.t 7)⟩])
  (.seq (.seq (.reg [⟨(some 4), none, .mv (.c (.int .i64 0))⟩])
  (.blk 0 (.loop (.seq (.seq (.reg [⟨(some 8), none, .mv (.t 4)⟩,
     ⟨(some 9), none, .mv (.t 0)⟩,
     ⟨(some 10), none, .lenl (.t 9)⟩,
     ⟨(some 11), none, .bin .lss (.t 8) (.t 10)⟩])
    (.cond (.t 11)
      .skip
      (.exit 0)))
    (.seq (.blk 1 (.reg [⟨(some 14), none, .mv (.t 3)⟩,
      ⟨(some 15), none, .mv (.t 4)⟩,
      ⟨(some 16), none, .mv (.t 0)⟩,
      ⟨(some 17), none, .mv (.t 4)⟩,
      ⟨(some 18), none, .ia 4 (.t 16) (.t 17)⟩,
      ⟨(some 19), none, .ld true 4 (.t 18)⟩,
      ⟨(some 20), none, .cl (.c (.fn 53 [])) [(.t 19)]⟩,
      ⟨(some 21), none, .ia 4 (.t 14) (.t 15)⟩,
      ⟨none, none, .st 4 (.t 21) (.t 20)⟩]))
    (.reg [⟨(some 12), none, .mv (.t 4)⟩,
     ⟨(some 13), none, .bin .add (.t 12) (.c (.int .i64 1))⟩,
     ⟨(some 4), none, .mv (.t 13)⟩]))))))
  (.seq (.reg [⟨(some 22), none, .mv (.t 3)⟩,
   ⟨(some 2), none, .mv (.t 22)⟩])
  .ret))))
theorem k_laws_toSegS : FnOk Tryz.prog 34 23 rc_laws_toSegS [.t 2] := ⟨Tryz.f34, _, [], Tryz.func34, rfl, rfl, by kernel_rfl, by kernel_rfl, follows⟩
theorem ok_laws_toSegS : okF Tryz.prog 34 = true := by kernel_rfl
def rc_laws_toLog : RC :=
  (.seq (.reg [⟨(some 1), none, .bx (.t 0)⟩,
   ⟨(some 2), none, .al [.nils, .nils, .int .i64 0, .nils, .int .i64 0, .int .i64 0, .int .i64 0, .int .i64 0]⟩])
  (.seq (.reg [⟨(some 3), none, .al [.nils, .nils, .int .i64 0, .nils, .int .i64 0, .int .i64 0, .int .i64 0, .int .i64 0]⟩])
  (.seq (.reg [⟨(some 4), none, .fa 0 (.t 1)⟩,
   ⟨(some 5), none, .ld true 2 (.t 4)⟩,
   ⟨(some 6), none, .cl (.c (.fn 33 [])) [(.t 5)]⟩,
   ⟨(some 7), none, .fa 0 (.t 3)⟩,
   ⟨none, none, .st 2 (.t 7) (.t 6)⟩])
  (.seq (.reg [⟨(some 8), none, .fa 2 (.t 1)⟩,
   ⟨(some 9), none, .ld false 1 (.t 8)⟩,
   ⟨(some 10), none, .fa 2 (.t 3)⟩,
   ⟨none, none, .st 1 (.t 10) (.t 9)⟩])
  (.seq (.reg [⟨(some 11), none, .fa 3 (.t 1)⟩,
   ⟨(some 12), none, .ld false 1 (.t 11)⟩,
   ⟨(some 13), none, .cl (.c (.fn 34 [])) [(.t 12)]⟩,
   ⟨(some 14), none, .fa 3 (.t 3)⟩,
   ⟨none, none, .st 1 (.t 14) (.t 13)⟩])
  (.seq (.reg [⟨(some 15), none, .fa 4 (.t 1)⟩,
   ⟨(some 16), none, .ld false 1 (.t 15)⟩,
   ⟨(some 17), none, .fa 4 (.t 3)⟩,
   ⟨none, none, .st 1 (.t 17) (.t 16)⟩])
  (.seq (.reg [⟨(some 18), none, .fa 5 (.t 1)⟩,
   ⟨(some 19), none, .ld false 1 (.t 18)⟩,
   ⟨(some 20), none, .fa 5 (.t 3)⟩,
   ⟨none, none, .st 1 (.t 20) (.t 19)⟩])
  (.seq (.reg [⟨(some 21), none, .fa 6 (.t 1)⟩,
   ⟨(some 22), none, .ld false 1 (.t 21)⟩,
   ⟨(some 23), none, .fa 6 (.t 3)⟩,
   ⟨none, none, .st 1 (.t 23) (.t 22)⟩])
  (.seq (.reg [⟨(some 24), none, .fa 7 (.t 1)⟩,
   ⟨(some 25), none, .ld false 1 (.t 24)⟩,
   ⟨(some 26), none, .fa 7 (.t 3)⟩,
   ⟨none, none, .st 1 (.t 26) (.t 25)⟩])
  (.seq (.reg [⟨(some 27), none, .ld true 8 (.t 3)⟩,
   ⟨none, none, .st 8 (.t 2) (.t 27)⟩])
  .ret))))))))))
theorem k_laws_toLog : FnOk Tryz.prog 18 28 rc_laws_toLog [.cell 2 true 8] := ⟨Tryz.f18, _, [], Tryz.func18, rfl, rfl, by kernel_rfl, by kernel_rfl, follows⟩
theorem ok_laws_toLog : okF Tryz.prog 18 = true := by kernel_rfl
def rc_laws_toIntS : RC :=
  (.seq (.reg [⟨(some 2), none, .mv (.c (.nils))⟩])
  (.seq (.reg [⟨(some 5), none, .mv (.t 0)⟩,
   ⟨(some 6), none, .lenl (.t 5)⟩,
   ⟨(some 7), none, .ms 1 [.int .i64 0] 8 (.t 6) (.t 6)⟩,
   ⟨(some 3), none, .mv (.t 7)⟩])
  (.seq (.seq (.reg [⟨(some 4), none, .mv (.c (.int .i64 0))⟩])
  (.blk 0 (.loop (.seq (.seq (.reg [⟨(some 8), none, .mv (.t 4)⟩,
     ⟨(some 9), none, .mv (.t 0)⟩,
     ⟨(some 10), none, .lenl (.t 9)⟩,
     ⟨(some 11), none, .bin .lss (.t 8) (.t 10)⟩])
    (.cond (.t 11)
      .skip
      (.exit 0)))
    (.seq (.blk 1 (.reg [⟨(some 14), none, .mv (.t 3)⟩,
      ⟨(some 15), none, .mv (.t 4)⟩,
      ⟨(some 16), none, .mv (.t 0)⟩,
      ⟨(some 17), none, .mv (.t 4)⟩,
      ⟨(some 18), none, .ia 1 (.t 16) (.t 17)⟩,
      ⟨(some 19), none, .ld false 1 (.t 18)⟩,
      ⟨(some 20), none, .ia 1 (.t 14) (.t 15)⟩,
      ⟨none, none, .st 1 (.t 20) (.t 19)⟩]))
    (.reg [⟨(some 12), none, .mv (.t 4)⟩,
     ⟨(some 13), none, .bin .add (.t 12) (.c (.int .i64 1))⟩,
     ⟨(some 4), none, .mv (.t 13)⟩]))))))
  (.seq (.reg [⟨(some 21), none, .mv (.t 3)⟩,
   ⟨(some 2), none, .mv (.t 21)⟩])
  .ret))))
theorem k_laws_toIntS : FnOk Tryz.prog 19 22 rc_laws_toIntS [.t 2] := ⟨Tryz.f19, _, [], Tryz.func19, rfl, rfl, by kernel_rfl, by kernel_rfl, follows⟩
theorem ok_laws_toIntS : okF Tryz.prog 19 = true := by kernel_rfl
def rc_laws_toStore : RC :=
  (.seq (.reg [⟨(some 1), none, .bx (.t 0)⟩,
   ⟨(some 2), none, .al [.nils, .nils, .int .i64 0, .nils, .int .i64 0, .int .i64 0, .int .i64 0, .int .i64 0, .nils]⟩])
  (.seq (.reg [⟨(some 3), none, .al [.nils, .nils, .int .i64 0, .nils, .int .i64 0, .int .i64 0, .int .i64 0, .int .i64 0, .nils]⟩])
  (.seq (.reg [⟨(some 4), none, .fa 0 (.t 1)⟩,
   ⟨(some 5), none, .ld true 8 (.t 4)⟩,
   ⟨(some 6), none, .cl (.c (.fn 18 [])) [(.t 5)]⟩,
   ⟨(some 7), none, .fa 0 (.t 3)⟩,
   ⟨none, none, .st 8 (.t 7) (.t 6)⟩])
  (.seq (.reg [⟨(some 8), none, .fa 8 (.t 1)⟩,
   ⟨(some 9), none, .ld false 1 (.t 8)⟩,
   ⟨(some 10), none, .cl (.c (.fn 19 [])) [(.t 9)]⟩,
   ⟨(some 11), none, .fa 8 (.t 3)⟩,
   ⟨none, none, .st 1 (.t 11) (.t 10)⟩])
  (.seq (.reg [⟨(some 12), none, .ld true 9 (.t 3)⟩,
   ⟨none, none, .st 9 (.t 2) (.t 12)⟩])
  .ret)))))
theorem k_laws_toStore : FnOk Tryz.prog 8 13 rc_laws_toStore [.cell 2 true 9] := ⟨Tryz.f8, _, [], Tryz.func8, rfl, rfl, by kernel_rfl, by kernel_rfl, follows⟩
theorem ok_laws_toStore : okF Tryz.prog 8 = true := by kernel_rfl
def rc_impl_in : RC :=
  (.seq (.reg [⟨(some 6), none, .mv (.c (.bool false))⟩])
  (.seq (.reg [⟨(some 7), none, .mv (.t 0)⟩,
   ⟨(some 8), none, .mv (.t 1)⟩,
   ⟨(some 9), none, .bin .geq (.t 7) (.t 8)⟩,
   ⟨(some 10), none, .mv (.t 9)⟩,
   ⟨(some 11), (some (10, true)), .mv (.t 0)⟩,
   ⟨(some 12), (some (10, true)), .mv (.t 2)⟩,
   ⟨(some 13), (some (10, true)), .bin .leq (.t 11) (.t 12)⟩,
   ⟨(some 14), none, .pick (.t 10) (.t 13) (.c (.bool false))⟩,
   ⟨(some 6), none, .mv (.t 14)⟩])
  .ret))
theorem k_impl_in : FnOk Tryz.prog 41 15 rc_impl_in [.t 6] := ⟨Tryz.f41, _, [], Tryz.func41, rfl, rfl, by kernel_rfl, by kernel_rfl, follows⟩
theorem ok_impl_in : okF Tryz.prog 41 = true := by kernel_rfl
def rc_slices_Index_int : RC :=
  (.seq (.reg [⟨(some 4), none, .mv (.c (.int .i64 0))⟩])
  (.seq (.seq (.reg [⟨(some 6), none, .mv (.t 0)⟩,
   ⟨(some 7), none, .lenl (.t 6)⟩,
   ⟨(some 8), none, .mv (.c (.int .i64 0))⟩])
  (.blk 0 (.loop (.seq (.reg [⟨(some 9), none, .bin .lss (.t 8) (.t 7)⟩])
    (.seq (.cond (.t 9)
      .skip
      (.exit 0))
    (.seq (.blk 1 (.seq (.reg [⟨(some 10), none, .mv (.t 8)⟩,
      ⟨(some 5), none, .mv (.t 10)⟩])
     (.seq (.reg [⟨(some 11), none, .mv (.t 1)⟩,
      ⟨(some 12), none, .mv (.t 0)⟩,
      ⟨(some 13), none, .mv (.t 5)⟩,
      ⟨(some 14), none, .ia 1 (.t 12) (.t 13)⟩,
      ⟨(some 15), none, .ld false 1 (.t 14)⟩,
      ⟨(some 16), none, .bin .eql (.t 11) (.t 15)⟩])
     (.cond (.t 16)
       (.seq (.reg [⟨(some 17), none, .mv (.t 5)⟩,
        ⟨(some 4), none, .mv (.t 17)⟩])
       .ret)
       .skip))))
    (.reg [⟨(some 18), none, .bin .add (.t 8) (.c (.int .i64 1))⟩,
     ⟨(some 8), none, .mv (.t 18)⟩])))))))
  (.seq (.reg [⟨(some 4), none, .mv (.c (.int .i64 (-1)))⟩])
  .ret)))
theorem k_slices_Index_int : FnOk Tryz.prog 82 19 rc_slices_Index_int [.t 4] := ⟨Tryz.f82, _, [], Tryz.func82, rfl, rfl, by kernel_rfl, by kernel_rfl, follows⟩
theorem ok_slices_Index_int : okF Tryz.prog 82 = true := by kernel_rfl
def rc_slices_Contains_int : RC :=
  (.seq (.reg [⟨(some 4), none, .mv (.c (.bool false))⟩])
  (.seq (.reg [⟨(some 5), none, .mv (.t 0)⟩,
   ⟨(some 6), none, .mv (.t 1)⟩,
   ⟨(some 7), none, .cl (.c (.fn 82 [])) [(.t 5), (.t 6)]⟩,
   ⟨(some 8), none, .bin .geq (.t 7) (.c (.int .i64 0))⟩,
   ⟨(some 4), none, .mv (.t 8)⟩])
  .ret))
theorem k_slices_Contains_int : FnOk Tryz.prog 62 9 rc_slices_Contains_int [.t 4] := ⟨Tryz.f62, _, [], Tryz.func62, rfl, rfl, by kernel_rfl, by kernel_rfl, follows⟩
theorem ok_slices_Contains_int : okF Tryz.prog 62 = true := by kernel_rfl
def rc_impl_isFreed : RC :=
  (.seq (.reg [⟨(some 2), none, .bx (.t 0)⟩,
   ⟨(some 4), none, .mv (.c (.bool false))⟩])
  (.seq (.reg [⟨(some 5), none, .fa 8 (.t 2)⟩,
   ⟨(some 6), none, .ld false 1 (.t 5)⟩,
   ⟨(some 7), none, .mv (.t 1)⟩,
   ⟨(some 8), none, .cl (.c (.fn 62 [])) [(.t 6), (.t 7)]⟩,
   ⟨(some 4), none, .mv (.t 8)⟩])
  .ret))
theorem k_impl_isFreed : FnOk Tryz.prog 42 9 rc_impl_isFreed [.t 4] := ⟨Tryz.f42, _, [], Tryz.func42, rfl, rfl, by kernel_rfl, by kernel_rfl, follows⟩
theorem ok_impl_isFreed : okF Tryz.prog 42 = true := by kernel_rfl
def rc_impl_segAt : RC :=
  (.seq (.reg [⟨(some 2), none, .bx (.t 0)⟩,
   ⟨(some 4), none, .mv (.c (.bool false))⟩])
  (.seq (.drw [⟨(some 5), none, .mv (.t 1)⟩,
   ⟨(some 6), none, .fa 0 (.t 2)⟩,
   ⟨(some 7), none, .fa 3 (.t 6)⟩,
   ⟨(some 8), none, .ld false 1 (.t 7)⟩,
   ⟨(some 9), none, .lenl (.t 8)⟩,
   ⟨(some 10), none, .bin .sub (.t 9) (.c (.int .i64 1))⟩,
   ⟨(some 11), none, .cl (.c (.fn 41 [])) [(.t 5), (.c (.int .i64 0)), (.t 10)]⟩,
   ⟨(some 12), none, .mv (.t 11)⟩,
   ⟨(some 13), (some (12, true)), .ld true 9 (.t 2)⟩,
   ⟨(some 14), (some (12, true)), .fa 0 (.t 2)⟩,
   ⟨(some 15), (some (12, true)), .fa 3 (.t 14)⟩,
   ⟨(some 16), (some (12, true)), .ld false 1 (.t 15)⟩,
   ⟨(some 17), (some (12, true)), .mv (.t 1)⟩,
   ⟨(some 18), (some (12, true)), .ia 4 (.t 16) (.t 17)⟩,
   ⟨(some 19), (some (12, true)), .fa 0 (.t 18)⟩,
   ⟨(some 20), (some (12, true)), .ld false 1 (.t 19)⟩,
   ⟨(some 21), (some (12, true)), .cl (.c (.fn 42 [])) [(.t 13), (.t 20)]⟩,
   ⟨(some 22), (some (12, true)), .un .not (.t 21)⟩,
   ⟨(some 23), none, .pick (.t 12) (.t 22) (.c (.bool false))⟩,
   ⟨(some 4), none, .mv (.t 23)⟩] [.val [], .val [], .val [], .val [], .val [], .val [], .val [], .val [], .val [], .val [], .val [], .val [], .val [], .val [], .val [], .val [], .val [], .val [], .val [], .val []])
  .ret))
theorem k_impl_segAt : FnOk Tryz.prog 24 24 rc_impl_segAt [.t 4] := ⟨Tryz.f24, _, [], Tryz.func24, rfl, rfl, by kernel_rfl, by kernel_rfl, follows⟩
theorem ok_impl_segAt : okF Tryz.prog 24 = true := by kernel_rfl
def rc_impl_WordOk : RC :=
  (.seq (.reg [⟨(some 2), none, .mv (.c (.bool false))⟩])
  (.seq (.seq (.reg [⟨(some 4), none, .mv (.t 0)⟩,
   ⟨(some 5), none, .lens (.t 4)⟩,
   ⟨(some 6), none, .cl (.c (.fn 41 [])) [(.t 5), (.c (.int .i64 1)), (.c (.int .i64 8))]⟩,
   ⟨(some 7), none, .un .not (.t 6)⟩])
  (.cond (.t 7)
    (.seq (.reg [⟨(some 2), none, .mv (.c (.bool false))⟩])
    .ret)
    .skip))
  (.seq (.seq (.reg [⟨(some 8), none, .mv (.t 0)⟩,
   ⟨(some 9), none, .lens (.t 8)⟩,
   ⟨(some 10), none, .mv (.c (.int .i64 0))⟩])
  (.blk 0 (.loop (.seq (.reg [⟨(some 11), none, .bin .lss (.t 10) (.t 9)⟩])
    (.seq (.cond (.t 11)
      .skip
      (.exit 0))
    (.seq (.blk 1 (.seq (.reg [⟨(some 12), none, .mv (.t 10)⟩,
      ⟨(some 3), none, .mv (.t 12)⟩])
     (.seq (.reg [⟨(some 13), none, .mv (.t 0)⟩,
      ⟨(some 14), none, .mv (.t 3)⟩,
      ⟨(some 15), none, .idx (.t 13) (.t 14)⟩,
      ⟨(some 16), none, .bin .lss (.t 15) (.c (.int .u8 97))⟩,
      ⟨(some 17), none, .mv (.t 16)⟩,
      ⟨(some 18), (some (17, false)), .mv (.t 0)⟩,
      ⟨(some 19), (some (17, false)), .mv (.t 3)⟩,
      ⟨(some 20), (some (17, false)), .idx (.t 18) (.t 19)⟩,
      ⟨(some 21), (some (17, false)), .bin .gtr (.t 20) (.c (.int .u8 122))⟩,
      ⟨(some 22), none, .pick (.t 17) (.c (.bool true)) (.t 21)⟩])
     (.cond (.t 22)
       (.seq (.reg [⟨(some 2), none, .mv (.c (.bool false))⟩])
       .ret)
       .skip))))
    (.reg [⟨(some 23), none, .bin .add (.t 10) (.c (.int .i64 1))⟩,
     ⟨(some 10), none, .mv (.t 23)⟩])))))))
  (.seq (.reg [⟨(some 2), none, .mv (.c (.bool true))⟩])
  .ret))))
theorem k_impl_WordOk : FnOk Tryz.prog 99 24 rc_impl_WordOk [.t 2] := ⟨Tryz.f99, _, [], Tryz.func99, rfl, rfl, by kernel_rfl, by kernel_rfl, follows⟩
theorem ok_impl_WordOk : okF Tryz.prog 99 = true := by kernel_rfl
def rc_impl_RecOk : RC :=
  (.seq (.reg [⟨(some 1), none, .bx (.t 0)⟩,
   ⟨(some 2), none, .mv (.c (.bool false))⟩])
  (.seq (.seq (.reg [⟨(some 5), none, .fa 1 (.t 1)⟩,
   ⟨(some 6), none, .ld false 1 (.t 5)⟩,
   ⟨(some 7), none, .cl (.c (.fn 41 [])) [(.t 6), (.c (.int .i64 1)), (.c (.int .i64 9999))]⟩,
   ⟨(some 8), none, .un .not (.t 7)⟩])
  (.cond (.t 8)
    (.seq (.reg [⟨(some 2), none, .mv (.c (.bool false))⟩])
    .ret)
    .skip))
  (.seq (.reg [⟨(some 9), none, .ld true 8 (.t 1)⟩,
   ⟨(some 3), none, .al [.int .i64 0, .int .i64 0, .int .i64 0, .int .i64 0, .int .i64 0, .str [], .str [], .str []]⟩,
   ⟨none, none, .st 8 (.t 3) (.t 9)⟩])
  (.seq (.reg [⟨(some 10), none, .fa 0 (.t 3)⟩,
   ⟨none, none, .st 1 (.t 10) (.c (.int .i64 0))⟩,
   ⟨(some 11), none, .fa 1 (.t 3)⟩,
   ⟨none, none, .st 1 (.t 11) (.c (.int .i64 0))⟩])
  (.seq (.reg [⟨(some 4), none, .mv (.c (.bool true))⟩])
  (.seq (.seq (.reg [⟨(some 12), none, .fa 0 (.t 1)⟩,
   ⟨(some 13), none, .ld false 1 (.t 12)⟩,
   ⟨(some 14), none, .bin .eql (.t 13) (.c (.int .i64 3))⟩,
   ⟨(some 15), none, .mv (.t 14)⟩,
   ⟨(some 16), (some (15, false)), .fa 0 (.t 1)⟩,
   ⟨(some 17), (some (15, false)), .ld false 1 (.t 16)⟩,
   ⟨(some 18), (some (15, false)), .bin .eql (.t 17) (.c (.int .i64 4))⟩,
   ⟨(some 19), none, .pick (.t 15) (.c (.bool true)) (.t 18)⟩,
   ⟨(some 20), none, .mv (.t 19)⟩,
   ⟨(some 21), (some (20, false)), .fa 0 (.t 1)⟩,
   ⟨(some 22), (some (20, false)), .ld false 1 (.t 21)⟩,
   ⟨(some 23), (some (20, false)), .bin .eql (.t 22) (.c (.int .i64 5))⟩,
   ⟨(some 24), none, .pick (.t 20) (.c (.bool true)) (.t 23)⟩])
  (.cond (.t 24)
    (.seq (.reg [⟨(some 25), none, .fa 2 (.t 1)⟩,
     ⟨(some 26), none, .ld false 1 (.t 25)⟩,
     ⟨(some 27), none, .cl (.c (.fn 41 [])) [(.t 26), (.c (.int .i64 1)), (.c (.int .i64 9999))]⟩,
     ⟨(some 4), none, .mv (.t 27)⟩])
    (.reg [⟨(some 28), none, .fa 2 (.t 3)⟩,
     ⟨none, none, .st 1 (.t 28) (.c (.int .i64 0))⟩]))
    .skip))
  (.seq (.seq (.reg [⟨(some 29), none, .fa 0 (.t 1)⟩,
   ⟨(some 30), none, .ld false 1 (.t 29)⟩,
   ⟨(some 31), none, .bin .eql (.t 30) (.c (.int .i64 3))⟩,
   ⟨(some 32), none, .mv (.t 31)⟩,
   ⟨(some 33), (some (32, false)), .fa 0 (.t 1)⟩,
   ⟨(some 34), (some (32, false)), .ld false 1 (.t 33)⟩,
   ⟨(some 35), (some (32, false)), .bin .eql (.t 34) (.c (.int .i64 4))⟩,
   ⟨(some 36), none, .pick (.t 32) (.c (.bool true)) (.t 35)⟩])
  (.cond (.t 36)
    (.seq (.reg [⟨(some 37), none, .mv (.t 4)⟩,
     ⟨(some 38), none, .mv (.t 37)⟩,
     ⟨(some 39), (some (38, true)), .fa 4 (.t 1)⟩,
     ⟨(some 40), (some (38, true)), .ld false 1 (.t 39)⟩,
     ⟨(some 41), (some (38, true)), .cl (.c (.fn 41 [])) [(.t 40), (.c (.int .i64 0)), (.c (.int .i64 7))]⟩,
     ⟨(some 42), none, .pick (.t 38) (.t 41) (.c (.bool false))⟩,
     ⟨(some 4), none, .mv (.t 42)⟩])
    (.reg [⟨(some 43), none, .fa 4 (.t 3)⟩,
     ⟨none, none, .st 1 (.t 43) (.c (.int .i64 0))⟩]))
    .skip))
  (.seq (.seq (.reg [⟨(some 44), none, .fa 0 (.t 1)⟩,
   ⟨(some 45), none, .ld false 1 (.t 44)⟩])
  (.blk 0 (.seq (.reg [⟨(some 47), none, .bin .eql (.t 45) (.c (.int .i64 1))⟩,
    ⟨(some 46), none, .mv (.t 47)⟩])
   (.cond (.t 46)
     (.seq (.reg [⟨(some 48), none, .fa 5 (.t 1)⟩,
      ⟨(some 49), none, .ld false 1 (.t 48)⟩,
      ⟨(some 50), none, .cl (.c (.fn 99 [])) [(.t 49)]⟩,
      ⟨(some 51), none, .mv (.t 50)⟩,
      ⟨(some 52), (some (51, true)), .fa 6 (.t 1)⟩,
      ⟨(some 53), (some (51, true)), .ld false 1 (.t 52)⟩,
      ⟨(some 54), (some (51, true)), .cl (.c (.fn 99 [])) [(.t 53)]⟩,
      ⟨(some 55), none, .pick (.t 51) (.t 54) (.c (.bool false))⟩,
      ⟨(some 56), none, .mv (.t 55)⟩,
      ⟨(some 57), (some (56, true)), .fa 3 (.t 1)⟩,
      ⟨(some 58), (some (56, true)), .ld false 1 (.t 57)⟩,
      ⟨(some 59), (some (56, true)), .cl (.c (.fn 41 [])) [(.t 58), (.c (.int .i64 1)), (.c (.int .i64 10000))]⟩,
      ⟨(some 60), none, .pick (.t 56) (.t 59) (.c (.bool false))⟩,
      ⟨(some 4), none, .mv (.t 60)⟩])
     (.reg [⟨(some 61), none, .fa 5 (.t 3)⟩,
      ⟨none, none, .st 1 (.t 61) (.c (.str []))⟩,
      ⟨(some 62), none, .fa 6 (.t 3)⟩,
      ⟨none, none, .st 1 (.t 62) (.c (.str []))⟩,
      ⟨(some 63), none, .fa 3 (.t 3)⟩,
      ⟨none, none, .st 1 (.t 63) (.c (.int .i64 0))⟩]))
     (.seq (.reg [⟨(some 65), none, .bin .eql (.t 45) (.c (.int .i64 3))⟩,
      ⟨(some 64), none, .mv (.t 65)⟩])
     (.cond (.t 64)
       (.seq (.reg [⟨(some 66), none, .mv (.t 4)⟩,
        ⟨(some 67), none, .mv (.t 66)⟩,
        ⟨(some 68), (some (67, true)), .fa 7 (.t 1)⟩,
        ⟨(some 69), (some (67, true)), .ld false 1 (.t 68)⟩,
        ⟨(some 70), (some (67, true)), .lens (.t 69)⟩,
        ⟨(some 71), (some (67, true)), .bin .leq (.t 70) (.c (.int .i64 100))⟩,
        ⟨(some 72), none, .pick (.t 67) (.t 71) (.c (.bool false))⟩,
        ⟨(some 4), none, .mv (.t 72)⟩])
       (.reg [⟨(some 73), none, .fa 7 (.t 3)⟩,
        ⟨none, none, .st 1 (.t 73) (.c (.str []))⟩]))
       (.seq (.seq (.reg [⟨(some 75), none, .bin .eql (.t 45) (.c (.int .i64 2))⟩,
        ⟨(some 74), none, .mv (.t 75)⟩])
       (.cond (.t 74)
         .skip
         (.seq (.reg [⟨(some 76), none, .bin .eql (.t 45) (.c (.int .i64 4))⟩,
          ⟨(some 74), none, .mv (.t 76)⟩])
         (.cond (.t 74)
           .skip
           (.reg [⟨(some 77), none, .bin .eql (.t 45) (.c (.int .i64 5))⟩,
            ⟨(some 74), none, .mv (.t 77)⟩])))))
       (.cond (.t 74)
         .skip
         (.seq (.reg [⟨(some 2), none, .mv (.c (.bool false))⟩])
         .ret)))))))))
  (.seq (.reg [⟨(some 78), none, .mv (.t 4)⟩,
   ⟨(some 79), none, .mv (.t 78)⟩,
   ⟨(some 80), (some (79, true)), .ld true 8 (.t 3)⟩,
   ⟨(some 81), (some (79, true)), .bld [.int .i64 0, .int .i64 0, .int .i64 0, .int .i64 0, .int .i64 0, .str [], .str [], .str []] [(0, 1), (1, 1), (2, 1), (3, 1), (4, 1), (5, 1), (6, 1), (7, 1)] []⟩,
   ⟨(some 82), (some (79, true)), .equ false [(0, 1), (1, 1), (2, 1), (3, 1), (4, 1), (5, 2), (6, 2), (7, 2)] (.t 80) (.t 81)⟩,
   ⟨(some 83), none, .pick (.t 79) (.t 82) (.c (.bool false))⟩,
   ⟨(some 2), none, .mv (.t 83)⟩])
  .ret)))))))))
theorem k_impl_RecOk : FnOk Tryz.prog 77 84 rc_impl_RecOk [.t 2] := ⟨Tryz.f77, _, [], Tryz.func77, rfl, rfl, by kernel_rfl, by kernel_rfl, follows⟩
theorem ok_impl_RecOk : okF Tryz.prog 77 = true := by kernel_rfl
def rc_impl_ItemsOk_1 : RC :=
  (.seq (.reg [⟨(some 2), none, .bx (.t 0)⟩,
   ⟨(some 3), none, .mv (.c (.bool false))⟩])
  (.seq (.reg [⟨(some 4), none, .fa 0 (.t 2)⟩,
   ⟨(some 5), none, .ld false 1 (.t 4)⟩,
   ⟨(some 6), none, .fa 0 (.t 1)⟩,
   ⟨(some 7), none, .ld false 1 (.t 6)⟩,
   ⟨(some 8), none, .bin .eql (.t 5) (.t 7)⟩,
   ⟨(some 9), none, .mv (.t 8)⟩,
   ⟨(some 10), (some (9, true)), .ld true 9 (.t 2)⟩,
   ⟨(some 11), (some (9, true)), .ld true 9 (.t 1)⟩,
   ⟨(some 12), (some (9, true)), .equ true [(0, 1), (1, 1), (2, 1), (3, 1), (4, 1), (5, 1), (6, 2), (7, 2), (8, 2)] (.t 10) (.t 11)⟩,
   ⟨(some 13), none, .pick (.t 9) (.t 12) (.c (.bool false))⟩,
   ⟨(some 3), none, .mv (.t 13)⟩])
  .ret))
theorem k_impl_ItemsOk_1 : FnOk Tryz.prog 89 14 rc_impl_ItemsOk_1 [.t 3] := ⟨Tryz.f89, _, [], Tryz.func89, rfl, rfl, by kernel_rfl, by kernel_rfl, follows⟩
theorem ok_impl_ItemsOk_1 : okF Tryz.prog 89 = true := by kernel_rfl
def rc_slices_IndexFunc_Item : RC :=
  (.seq (.reg [⟨(some 4), none, .mv (.c (.int .i64 0))⟩])
  (.seq (.seq (.reg [⟨(some 6), none, .mv (.t 0)⟩,
   ⟨(some 7), none, .lenl (.t 6)⟩,
   ⟨(some 8), none, .mv (.c (.int .i64 0))⟩])
  (.blk 0 (.loop (.seq (.reg [⟨(some 9), none, .bin .lss (.t 8) (.t 7)⟩])
    (.seq (.cond (.t 9)
      .skip
      (.exit 0))
    (.seq (.blk 1 (.seq (.reg [⟨(some 10), none, .mv (.t 8)⟩,
      ⟨(some 5), none, .mv (.t 10)⟩])
     (.seq (.reg [⟨(some 11), none, .mv (.t 1)⟩,
      ⟨(some 12), none, .mv (.t 0)⟩,
      ⟨(some 13), none, .mv (.t 5)⟩,
      ⟨(some 14), none, .ia 9 (.t 12) (.t 13)⟩,
      ⟨(some 15), none, .ld true 9 (.t 14)⟩,
      ⟨(some 16), none, .cl (.t 11) [(.t 15)]⟩])
     (.cond (.t 16)
       (.seq (.reg [⟨(some 17), none, .mv (.t 5)⟩,
        ⟨(some 4), none, .mv (.t 17)⟩])
       .ret)
       .skip))))
    (.reg [⟨(some 18), none, .bin .add (.t 8) (.c (.int .i64 1))⟩,
     ⟨(some 8), none, .mv (.t 18)⟩])))))))
  (.seq (.reg [⟨(some 4), none, .mv (.c (.int .i64 (-1)))⟩])
  .ret)))
theorem k_slices_IndexFunc_Item : FnOk Tryz.prog 105 19 rc_slices_IndexFunc_Item [.t 4] := ⟨Tryz.f105, _, [], Tryz.func105, rfl, rfl, by kernel_rfl, by kernel_rfl, follows⟩
theorem ok_slices_IndexFunc_Item : okF Tryz.prog 105 = true := by kernel_rfl
def rc_slices_ContainsFunc_Item : RC :=
  (.seq (.reg [⟨(some 4), none, .mv (.c (.bool false))⟩])
  (.seq (.reg [⟨(some 5), none, .mv (.t 0)⟩,
   ⟨(some 6), none, .mv (.t 1)⟩,
   ⟨(some 7), none, .cl (.c (.fn 105 [])) [(.t 5), (.t 6)]⟩,
   ⟨(some 8), none, .bin .geq (.t 7) (.c (.int .i64 0))⟩,
   ⟨(some 4), none, .mv (.t 8)⟩])
  .ret))
theorem k_slices_ContainsFunc_Item : FnOk Tryz.prog 88 9 rc_slices_ContainsFunc_Item [.t 4] := ⟨Tryz.f88, _, [], Tryz.func88, rfl, rfl, by kernel_rfl, by kernel_rfl, follows⟩
theorem ok_slices_ContainsFunc_Item : okF Tryz.prog 88 = true := by kernel_rfl
def rc_impl_ItemsOk : RC :=
  (.seq (.reg [⟨(some 2), none, .mv (.c (.bool false))⟩])
  (.seq (.seq (.reg [⟨(some 5), none, .mv (.t 0)⟩,
   ⟨(some 6), none, .lenl (.t 5)⟩,
   ⟨(some 7), none, .bin .gtr (.t 6) (.c (.int .i64 200))⟩])
  (.cond (.t 7)
    (.seq (.reg [⟨(some 2), none, .mv (.c (.bool false))⟩])
    .ret)
    .skip))
  (.seq (.seq (.reg [⟨(some 8), none, .mv (.t 0)⟩,
   ⟨(some 9), none, .lenl (.t 8)⟩,
   ⟨(some 10), none, .mv (.c (.int .i64 0))⟩])
  (.blk 0 (.loop (.seq (.reg [⟨(some 11), none, .bin .lss (.t 10) (.t 9)⟩])
    (.seq (.cond (.t 11)
      .skip
      (.exit 0))
    (.seq (.blk 1 (.seq (.reg [⟨(some 12), none, .mv (.t 10)⟩,
      ⟨(some 13), none, .ia 9 (.t 8) (.t 10)⟩,
      ⟨(some 14), none, .ld true 9 (.t 13)⟩,
      ⟨(some 4), none, .al [.int .i64 0, .int .i64 0, .int .i64 0, .int .i64 0, .int .i64 0, .int .i64 0, .str [], .str [], .str []]⟩,
      ⟨(some 3), none, .mv (.t 12)⟩,
      ⟨none, none, .st 9 (.t 4) (.t 14)⟩])
     (.seq (.seq (.reg [⟨(some 15), none, .fa 0 (.t 4)⟩,
      ⟨(some 16), none, .ld false 1 (.t 15)⟩,
      ⟨(some 17), none, .cl (.c (.fn 41 [])) [(.t 16), (.c (.int .i64 1)), (.c (.int .i64 1000000000))]⟩,
      ⟨(some 18), none, .un .not (.t 17)⟩,
      ⟨(some 19), none, .mv (.t 18)⟩,
      ⟨(some 20), (some (19, false)), .fa 1 (.t 4)⟩,
      ⟨(some 21), (some (19, false)), .ld true 8 (.t 20)⟩,
      ⟨(some 22), (some (19, false)), .cl (.c (.fn 77 [])) [(.t 21)]⟩,
      ⟨(some 23), (some (19, false)), .un .not (.t 22)⟩,
      ⟨(some 24), none, .pick (.t 19) (.c (.bool true)) (.t 23)⟩])
     (.cond (.t 24)
       (.seq (.reg [⟨(some 2), none, .mv (.c (.bool false))⟩])
       .ret)
       .skip))
     (.seq (.reg [⟨(some 25), none, .mv (.t 0)⟩,
      ⟨(some 26), none, .mv (.t 3)⟩,
      ⟨(some 27), none, .sle 9 (.t 25) none (some (.t 26))⟩,
      ⟨(some 28), none, .mkf 89 [(.t 4)]⟩,
      ⟨(some 29), none, .cl (.c (.fn 88 [])) [(.t 27), (.t 28)]⟩])
     (.cond (.t 29)
       (.seq (.reg [⟨(some 2), none, .mv (.c (.bool false))⟩])
       .ret)
       .skip)))))
    (.reg [⟨(some 30), none, .bin .add (.t 10) (.c (.int .i64 1))⟩,
     ⟨(some 10), none, .mv (.t 30)⟩])))))))
  (.seq (.reg [⟨(some 2), none, .mv (.c (.bool true))⟩])
  .ret))))
theorem k_impl_ItemsOk : FnOk Tryz.prog 75 31 rc_impl_ItemsOk [.t 2] := ⟨Tryz.f75, _, [], Tryz.func75, rfl, rfl, by kernel_rfl, by kernel_rfl, follows⟩
theorem ok_impl_ItemsOk : okF Tryz.prog 75 = true := by kernel_rfl
def rc_impl_needed_1 : RC :=
  (.seq (.reg [⟨(some 2), none, .bx (.t 0)⟩,
   ⟨(some 3), none, .mv (.c (.bool false))⟩])
  (.seq (.reg [⟨(some 4), none, .fa 0 (.t 2)⟩,
   ⟨(some 5), none, .ld false 1 (.t 4)⟩,
   ⟨(some 6), none, .fa 0 (.t 1)⟩,
   ⟨(some 7), none, .ld false 1 (.t 6)⟩,
   ⟨(some 8), none, .bin .eql (.t 5) (.t 7)⟩,
   ⟨(some 3), none, .mv (.t 8)⟩])
  .ret))
theorem k_impl_needed_1 : FnOk Tryz.prog 90 9 rc_impl_needed_1 [.t 3] := ⟨Tryz.f90, _, [], Tryz.func90, rfl, rfl, by kernel_rfl, by kernel_rfl, follows⟩
theorem ok_impl_needed_1 : okF Tryz.prog 90 = true := by kernel_rfl
def rc_impl_needed_2 : RC :=
  (.seq (.reg [⟨(some 2), none, .bx (.t 0)⟩,
   ⟨(some 3), none, .mv (.c (.bool false))⟩])
  (.seq (.reg [⟨(some 4), none, .fa 1 (.t 2)⟩,
   ⟨(some 5), none, .fa 1 (.t 4)⟩,
   ⟨(some 6), none, .ld false 1 (.t 5)⟩,
   ⟨(some 7), none, .fa 1 (.t 1)⟩,
   ⟨(some 8), none, .ld false 1 (.t 7)⟩,
   ⟨(some 9), none, .bin .eql (.t 6) (.t 8)⟩,
   ⟨(some 10), none, .mv (.t 9)⟩,
   ⟨(some 11), (some (10, true)), .fa 1 (.t 2)⟩,
   ⟨(some 12), (some (10, true)), .fa 0 (.t 11)⟩,
   ⟨(some 13), (some (10, true)), .ld false 1 (.t 12)⟩,
   ⟨(some 14), (some (10, true)), .bin .neq (.t 13) (.c (.int .i64 2))⟩,
   ⟨(some 15), none, .pick (.t 10) (.t 14) (.c (.bool false))⟩,
   ⟨(some 3), none, .mv (.t 15)⟩])
  .ret))
theorem k_impl_needed_2 : FnOk Tryz.prog 92 16 rc_impl_needed_2 [.t 3] := ⟨Tryz.f92, _, [], Tryz.func92, rfl, rfl, by kernel_rfl, by kernel_rfl, follows⟩
theorem ok_impl_needed_2 : okF Tryz.prog 92 = true := by kernel_rfl
def rc_impl_about : RC :=
  (.seq (.reg [⟨(some 3), none, .bx (.t 0)⟩,
   ⟨(some 6), none, .mv (.c (.bool false))⟩])
  (.seq (.reg [⟨(some 7), none, .fa 0 (.t 3)⟩,
   ⟨(some 8), none, .ld false 1 (.t 7)⟩,
   ⟨(some 9), none, .mv (.t 1)⟩,
   ⟨(some 10), none, .bin .eql (.t 8) (.t 9)⟩,
   ⟨(some 11), none, .mv (.t 10)⟩,
   ⟨(some 12), (some (11, true)), .fa 1 (.t 3)⟩,
   ⟨(some 13), (some (11, true)), .ld false 1 (.t 12)⟩,
   ⟨(some 14), (some (11, true)), .mv (.t 2)⟩,
   ⟨(some 15), (some (11, true)), .bin .eql (.t 13) (.t 14)⟩,
   ⟨(some 16), none, .pick (.t 11) (.t 15) (.c (.bool false))⟩,
   ⟨(some 6), none, .mv (.t 16)⟩])
  .ret))
theorem k_impl_about : FnOk Tryz.prog 95 17 rc_impl_about [.t 6] := ⟨Tryz.f95, _, [], Tryz.func95, rfl, rfl, by kernel_rfl, by kernel_rfl, follows⟩
theorem ok_impl_about : okF Tryz.prog 95 = true := by kernel_rfl
def rc_impl_boxThere_1 : RC :=
  (.seq (.reg [⟨(some 2), none, .bx (.t 0)⟩,
   ⟨(some 3), none, .mv (.c (.bool false))⟩])
  (.seq (.reg [⟨(some 4), none, .ld true 8 (.t 2)⟩,
   ⟨(some 5), none, .ld false 1 (.t 1)⟩,
   ⟨(some 6), none, .cl (.c (.fn 95 [])) [(.t 4), (.c (.int .i64 2)), (.t 5)]⟩,
   ⟨(some 3), none, .mv (.t 6)⟩])
  .ret))
theorem k_impl_boxThere_1 : FnOk Tryz.prog 106 7 rc_impl_boxThere_1 [.t 3] := ⟨Tryz.f106, _, [], Tryz.func106, rfl, rfl, by kernel_rfl, by kernel_rfl, follows⟩
theorem ok_impl_boxThere_1 : okF Tryz.prog 106 = true := by kernel_rfl
def rc_impl_bySeq : RC :=
  (.seq (.reg [⟨(some 2), none, .bx (.t 0)⟩,
   ⟨(some 3), none, .bx (.t 1)⟩,
   ⟨(some 4), none, .mv (.c (.bool false))⟩])
  (.seq (.reg [⟨(some 5), none, .fa 0 (.t 2)⟩,
   ⟨(some 6), none, .ld false 1 (.t 5)⟩,
   ⟨(some 7), none, .fa 0 (.t 3)⟩,
   ⟨(some 8), none, .ld false 1 (.t 7)⟩,
   ⟨(some 9), none, .bin .lss (.t 6) (.t 8)⟩,
   ⟨(some 4), none, .mv (.t 9)⟩])
  .ret))
theorem k_impl_bySeq : FnOk Tryz.prog 96 10 rc_impl_bySeq [.t 4] := ⟨Tryz.f96, _, [], Tryz.func96, rfl, rfl, by kernel_rfl, by kernel_rfl, follows⟩
theorem ok_impl_bySeq : okF Tryz.prog 96 = true := by kernel_rfl
def rc_impl_latest : RC :=
  (.seq (.reg [⟨(some 6), none, .al [.int .i64 0, .int .i64 0, .int .i64 0, .int .i64 0, .int .i64 0, .int .i64 0, .str [], .str [], .str []]⟩,
   ⟨(some 7), none, .mv (.c (.bool false))⟩])
  (.seq (.reg [⟨(some 12), none, .bld [.int .i64 0, .int .i64 0, .int .i64 0, .int .i64 0, .int .i64 0, .int .i64 0, .str [], .str [], .str []] [(0, 1), (1, 8)] []⟩,
   ⟨(some 8), none, .al [.int .i64 0, .int .i64 0, .int .i64 0, .int .i64 0, .int .i64 0, .int .i64 0, .str [], .str [], .str []]⟩,
   ⟨none, none, .st 9 (.t 8) (.t 12)⟩,
   ⟨(some 9), none, .mv (.c (.bool false))⟩])
  (.seq (.seq (.reg [⟨(some 13), none, .mv (.t 0)⟩,
   ⟨(some 14), none, .lenl (.t 13)⟩,
   ⟨(some 15), none, .mv (.c (.int .i64 0))⟩])
  (.blk 0 (.loop (.seq (.reg [⟨(some 16), none, .bin .lss (.t 15) (.t 14)⟩])
    (.seq (.cond (.t 16)
      .skip
      (.exit 0))
    (.seq (.blk 1 (.seq (.reg [⟨(some 17), none, .ia 9 (.t 13) (.t 15)⟩,
      ⟨(some 18), none, .ld true 9 (.t 17)⟩,
      ⟨(some 11), none, .al [.int .i64 0, .int .i64 0, .int .i64 0, .int .i64 0, .int .i64 0, .int .i64 0, .str [], .str [], .str []]⟩,
      ⟨none, none, .st 9 (.t 11) (.t 18)⟩])
     (.seq (.reg [⟨(some 19), none, .mv (.t 1)⟩,
      ⟨(some 20), none, .fa 1 (.t 11)⟩,
      ⟨(some 21), none, .ld true 8 (.t 20)⟩,
      ⟨(some 22), none, .cl (.t 19) [(.t 21)]⟩,
      ⟨(some 23), none, .mv (.t 22)⟩,
      ⟨(some 24), (some (23, true)), .mv (.t 9)⟩,
      ⟨(some 25), (some (23, true)), .un .not (.t 24)⟩,
      ⟨(some 26), (some (23, true)), .mv (.t 25)⟩,
      ⟨(some 27), (some (26, false)), .mv (.t 2)⟩,
      ⟨(some 28), (some (26, false)), .ld true 9 (.t 8)⟩,
      ⟨(some 29), (some (26, false)), .ld true 9 (.t 11)⟩,
      ⟨(some 30), (some (26, false)), .cl (.t 27) [(.t 28), (.t 29)]⟩,
      ⟨(some 31), (some (23, true)), .pick (.t 26) (.c (.bool true)) (.t 30)⟩,
      ⟨(some 32), none, .pick (.t 23) (.t 31) (.c (.bool false))⟩])
     (.cond (.t 32)
       (.reg [⟨(some 33), none, .ld true 9 (.t 11)⟩,
        ⟨none, none, .st 9 (.t 8) (.t 33)⟩,
        ⟨(some 9), none, .mv (.c (.bool true))⟩])
       .skip))))
    (.reg [⟨(some 34), none, .bin .add (.t 15) (.c (.int .i64 1))⟩,
     ⟨(some 15), none, .mv (.t 34)⟩])))))))
  (.seq (.reg [⟨(some 35), none, .ld true 9 (.t 8)⟩,
   ⟨(some 36), none, .mv (.t 9)⟩,
   ⟨none, none, .st 9 (.t 6) (.t 35)⟩,
   ⟨(some 7), none, .mv (.t 36)⟩])
  .ret))))
theorem k_impl_latest : FnOk Tryz.prog 93 37 rc_impl_latest [.cell 6 true 9, .t 7] := ⟨Tryz.f93, _, [], Tryz.func93, rfl, rfl, by kernel_rfl, by kernel_rfl, follows⟩
theorem ok_impl_latest : okF Tryz.prog 93 = true := by kernel_rfl
def rc_impl_boxThere_2 : RC :=
  (.seq (.reg [⟨(some 2), none, .bx (.t 0)⟩,
   ⟨(some 3), none, .mv (.c (.bool false))⟩])
  (.seq (.reg [⟨(some 4), none, .ld true 8 (.t 2)⟩,
   ⟨(some 5), none, .ld false 1 (.t 1)⟩,
   ⟨(some 6), none, .cl (.c (.fn 95 [])) [(.t 4), (.c (.int .i64 1)), (.t 5)]⟩,
   ⟨(some 3), none, .mv (.t 6)⟩])
  .ret))
theorem k_impl_boxThere_2 : FnOk Tryz.prog 107 7 rc_impl_boxThere_2 [.t 3] := ⟨Tryz.f107, _, [], Tryz.func107, rfl, rfl, by kernel_rfl, by kernel_rfl, follows⟩
theorem ok_impl_boxThere_2 : okF Tryz.prog 107 = true := by kernel_rfl
def rc_impl_byNext : RC :=
  (.seq (.reg [⟨(some 2), none, .bx (.t 0)⟩,
   ⟨(some 3), none, .bx (.t 1)⟩,
   ⟨(some 4), none, .mv (.c (.bool false))⟩])
  (.seq (.seq (.reg [⟨(some 5), none, .fa 1 (.t 2)⟩,
   ⟨(some 6), none, .fa 3 (.t 5)⟩,
   ⟨(some 7), none, .ld false 1 (.t 6)⟩,
   ⟨(some 8), none, .fa 1 (.t 3)⟩,
   ⟨(some 9), none, .fa 3 (.t 8)⟩,
   ⟨(some 10), none, .ld false 1 (.t 9)⟩,
   ⟨(some 11), none, .bin .neq (.t 7) (.t 10)⟩])
  (.cond (.t 11)
    (.seq (.reg [⟨(some 12), none, .fa 1 (.t 2)⟩,
     ⟨(some 13), none, .fa 3 (.t 12)⟩,
     ⟨(some 14), none, .ld false 1 (.t 13)⟩,
     ⟨(some 15), none, .fa 1 (.t 3)⟩,
     ⟨(some 16), none, .fa 3 (.t 15)⟩,
     ⟨(some 17), none, .ld false 1 (.t 16)⟩,
     ⟨(some 18), none, .bin .lss (.t 14) (.t 17)⟩,
     ⟨(some 4), none, .mv (.t 18)⟩])
    .ret)
    .skip))
  (.seq (.reg [⟨(some 19), none, .fa 0 (.t 2)⟩,
   ⟨(some 20), none, .ld false 1 (.t 19)⟩,
   ⟨(some 21), none, .fa 0 (.t 3)⟩,
   ⟨(some 22), none, .ld false 1 (.t 21)⟩,
   ⟨(some 23), none, .bin .lss (.t 20) (.t 22)⟩,
   ⟨(some 4), none, .mv (.t 23)⟩])
  .ret)))
theorem k_impl_byNext : FnOk Tryz.prog 108 24 rc_impl_byNext [.t 4] := ⟨Tryz.f108, _, [], Tryz.func108, rfl, rfl, by kernel_rfl, by kernel_rfl, follows⟩
theorem ok_impl_byNext : okF Tryz.prog 108 = true := by kernel_rfl
def rc_impl_boxThere : RC :=
  (.seq (.reg [⟨(some 3), none, .bx (.t 1)⟩,
   ⟨(some 4), none, .al [.int .i64 0, .int .i64 0, .int .i64 0, .int .i64 0, .int .i64 0, .int .i64 0, .str [], .str [], .str []]⟩,
   ⟨(some 5), none, .mv (.c (.bool false))⟩])
  (.seq (.seq (.reg [⟨(some 9), none, .mv (.t 0)⟩,
   ⟨(some 10), none, .mkf 106 [(.t 3)]⟩,
   ⟨(some 11), none, .cl (.c (.fn 93 [])) [(.t 9), (.t 10), (.c (.fn 96 []))]⟩,
   ⟨(some 8), none, .mv (.t 11)⟩,
   ⟨(some 12), none, .ext (.t 8) 0⟩,
   ⟨(some 13), none, .ext (.t 8) 1⟩,
   ⟨(some 6), none, .al [.int .i64 0, .int .i64 0, .int .i64 0, .int .i64 0, .int .i64 0, .int .i64 0, .str [], .str [], .str []]⟩,
   ⟨none, none, .st 9 (.t 6) (.t 12)⟩,
   ⟨(some 7), none, .mv (.t 13)⟩])
  (.seq (.reg [⟨(some 14), none, .mv (.t 7)⟩])
  (.cond (.t 14)
    (.seq (.reg [⟨(some 15), none, .bld [.int .i64 0, .int .i64 0, .int .i64 0, .int .i64 0, .int .i64 0, .int .i64 0, .str [], .str [], .str []] [(0, 1), (1, 8)] []⟩,
     ⟨none, none, .st 9 (.t 4) (.t 15)⟩,
     ⟨(some 5), none, .mv (.c (.bool false))⟩])
    .ret)
    .skip)))
  (.seq (.reg [⟨(some 16), none, .mv (.t 0)⟩,
   ⟨(some 17), none, .mkf 107 [(.t 3)]⟩,
   ⟨(some 18), none, .cl (.c (.fn 93 [])) [(.t 16), (.t 17), (.c (.fn 108 []))]⟩,
   ⟨(some 19), none, .ext (.t 18) 0⟩,
   ⟨(some 20), none, .ext (.t 18) 1⟩,
   ⟨none, none, .st 9 (.t 4) (.t 19)⟩,
   ⟨(some 5), none, .mv (.t 20)⟩])
  .ret)))
theorem k_impl_boxThere : FnOk Tryz.prog 91 21 rc_impl_boxThere [.cell 4 true 9, .t 5] := ⟨Tryz.f91, _, [], Tryz.func91, rfl, rfl, by kernel_rfl, by kernel_rfl, follows⟩
theorem ok_impl_boxThere : okF Tryz.prog 91 = true := by kernel_rfl
def rc_impl_needed_3 : RC :=
  (.seq (.reg [⟨(some 2), none, .bx (.t 0)⟩,
   ⟨(some 3), none, .mv (.c (.bool false))⟩])
  (.seq (.reg [⟨(some 4), none, .ld true 8 (.t 2)⟩,
   ⟨(some 5), none, .fa 1 (.t 1)⟩,
   ⟨(some 6), none, .ld false 1 (.t 5)⟩,
   ⟨(some 7), none, .cl (.c (.fn 95 [])) [(.t 4), (.c (.int .i64 2)), (.t 6)]⟩,
   ⟨(some 3), none, .mv (.t 7)⟩])
  .ret))
theorem k_impl_needed_3 : FnOk Tryz.prog 94 8 rc_impl_needed_3 [.t 3] := ⟨Tryz.f94, _, [], Tryz.func94, rfl, rfl, by kernel_rfl, by kernel_rfl, follows⟩
theorem ok_impl_needed_3 : okF Tryz.prog 94 = true := by kernel_rfl
def rc_impl_mailItem_1 : RC :=
  (.seq (.reg [⟨(some 4), none, .bx (.t 0)⟩,
   ⟨(some 5), none, .mv (.c (.bool false))⟩])
  (.seq (.reg [⟨(some 6), none, .ld true 8 (.t 4)⟩,
   ⟨(some 7), none, .ld false 1 (.t 1)⟩,
   ⟨(some 8), none, .ld false 1 (.t 2)⟩,
   ⟨(some 9), none, .cl (.c (.fn 95 [])) [(.t 6), (.t 7), (.t 8)]⟩,
   ⟨(some 10), none, .mv (.t 9)⟩,
   ⟨(some 11), (some (10, true)), .fa 2 (.t 4)⟩,
   ⟨(some 12), (some (10, true)), .ld false 1 (.t 11)⟩,
   ⟨(some 13), (some (10, true)), .ld false 1 (.t 3)⟩,
   ⟨(some 14), (some (10, true)), .bin .eql (.t 12) (.t 13)⟩,
   ⟨(some 15), none, .pick (.t 10) (.t 14) (.c (.bool false))⟩,
   ⟨(some 5), none, .mv (.t 15)⟩])
  .ret))
theorem k_impl_mailItem_1 : FnOk Tryz.prog 109 16 rc_impl_mailItem_1 [.t 5] := ⟨Tryz.f109, _, [], Tryz.func109, rfl, rfl, by kernel_rfl, by kernel_rfl, follows⟩
theorem ok_impl_mailItem_1 : okF Tryz.prog 109 = true := by kernel_rfl
def rc_impl_mailItem : RC :=
  (.seq (.reg [⟨(some 5), none, .bx (.t 1)⟩,
   ⟨(some 6), none, .bx (.t 2)⟩,
   ⟨(some 7), none, .bx (.t 3)⟩,
   ⟨(some 8), none, .al [.int .i64 0, .int .i64 0, .int .i64 0, .int .i64 0, .int .i64 0, .int .i64 0, .str [], .str [], .str []]⟩,
   ⟨(some 9), none, .mv (.c (.bool false))⟩])
  (.seq (.reg [⟨(some 10), none, .mv (.t 0)⟩,
   ⟨(some 11), none, .mkf 109 [(.t 5), (.t 6), (.t 7)]⟩,
   ⟨(some 12), none, .cl (.c (.fn 93 [])) [(.t 10), (.t 11), (.c (.fn 96 []))]⟩,
   ⟨(some 13), none, .ext (.t 12) 0⟩,
   ⟨(some 14), none, .ext (.t 12) 1⟩,
   ⟨none, none, .st 9 (.t 8) (.t 13)⟩,
   ⟨(some 9), none, .mv (.t 14)⟩])
  .ret))
theorem k_impl_mailItem : FnOk Tryz.prog 98 15 rc_impl_mailItem [.cell 8 true 9, .t 9] := ⟨Tryz.f98, _, [], Tryz.func98, rfl, rfl, by kernel_rfl, by kernel_rfl, follows⟩
theorem ok_impl_mailItem : okF Tryz.prog 98 = true := by kernel_rfl
def rc_impl_mailThere : RC :=
  (.seq (.reg [⟨(some 6), none, .al [.int .i64 0, .int .i64 0, .int .i64 0, .int .i64 0, .int .i64 0, .int .i64 0, .str [], .str [], .str []]⟩,
   ⟨(some 7), none, .mv (.c (.bool false))⟩])
  (.seq (.seq (.reg [⟨(some 13), none, .mv (.t 0)⟩,
   ⟨(some 14), none, .mv (.t 1)⟩,
   ⟨(some 15), none, .cl (.c (.fn 91 [])) [(.t 13), (.t 14)]⟩,
   ⟨(some 12), none, .mv (.t 15)⟩,
   ⟨(some 16), none, .ext (.t 12) 0⟩,
   ⟨(some 17), none, .ext (.t 12) 1⟩,
   ⟨(some 8), none, .al [.int .i64 0, .int .i64 0, .int .i64 0, .int .i64 0, .int .i64 0, .int .i64 0, .str [], .str [], .str []]⟩,
   ⟨none, none, .st 9 (.t 8) (.t 16)⟩,
   ⟨(some 9), none, .mv (.t 17)⟩])
  (.seq (.reg [⟨(some 18), none, .mv (.t 9)⟩,
   ⟨(some 19), none, .un .not (.t 18)⟩])
  (.cond (.t 19)
    (.seq (.reg [⟨(some 20), none, .bld [.int .i64 0, .int .i64 0, .int .i64 0, .int .i64 0, .int .i64 0, .int .i64 0, .str [], .str [], .str []] [(0, 1), (1, 8)] []⟩,
     ⟨none, none, .st 9 (.t 6) (.t 20)⟩,
     ⟨(some 7), none, .mv (.c (.bool false))⟩])
    .ret)
    .skip)))
  (.seq (.seq (.reg [⟨(some 22), none, .mv (.t 0)⟩,
   ⟨(some 23), none, .mv (.t 1)⟩,
   ⟨(some 24), none, .mv (.t 2)⟩,
   ⟨(some 25), none, .cl (.c (.fn 98 [])) [(.t 22), (.c (.int .i64 5)), (.t 23), (.t 24)]⟩,
   ⟨(some 21), none, .mv (.t 25)⟩,
   ⟨(some 26), none, .ext (.t 21) 0⟩,
   ⟨(some 27), none, .ext (.t 21) 1⟩,
   ⟨(some 10), none, .al [.int .i64 0, .int .i64 0, .int .i64 0, .int .i64 0, .int .i64 0, .int .i64 0, .str [], .str [], .str []]⟩,
   ⟨none, none, .st 9 (.t 10) (.t 26)⟩,
   ⟨(some 11), none, .mv (.t 27)⟩])
  (.seq (.reg [⟨(some 28), none, .mv (.t 11)⟩])
  (.cond (.t 28)
    (.seq (.reg [⟨(some 29), none, .bld [.int .i64 0, .int .i64 0, .int .i64 0, .int .i64 0, .int .i64 0, .int .i64 0, .str [], .str [], .str []] [(0, 1), (1, 8)] []⟩,
     ⟨none, none, .st 9 (.t 6) (.t 29)⟩,
     ⟨(some 7), none, .mv (.c (.bool false))⟩])
    .ret)
    .skip)))
  (.seq (.reg [⟨(some 30), none, .mv (.t 0)⟩,
   ⟨(some 31), none, .mv (.t 1)⟩,
   ⟨(some 32), none, .mv (.t 2)⟩,
   ⟨(some 33), none, .cl (.c (.fn 98 [])) [(.t 30), (.c (.int .i64 3)), (.t 31), (.t 32)]⟩,
   ⟨(some 34), none, .ext (.t 33) 0⟩,
   ⟨(some 35), none, .ext (.t 33) 1⟩,
   ⟨none, none, .st 9 (.t 6) (.t 34)⟩,
   ⟨(some 7), none, .mv (.t 35)⟩])
  .ret))))
theorem k_impl_mailThere : FnOk Tryz.prog 97 36 rc_impl_mailThere [.cell 6 true 9, .t 7] := ⟨Tryz.f97, _, [], Tryz.func97, rfl, rfl, by kernel_rfl, by kernel_rfl, follows⟩
theorem ok_impl_mailThere : okF Tryz.prog 97 = true := by kernel_rfl
def rc_impl_needed : RC :=
  (.seq (.reg [⟨(some 4), none, .mv (.c (.bool false))⟩])
  (.seq (.reg [⟨(some 15), none, .mv (.t 0)⟩,
   ⟨(some 16), none, .mv (.t 1)⟩,
   ⟨(some 17), none, .ia 9 (.t 15) (.t 16)⟩,
   ⟨(some 18), none, .ld true 9 (.t 17)⟩,
   ⟨(some 5), none, .al [.int .i64 0, .int .i64 0, .int .i64 0, .int .i64 0, .int .i64 0, .int .i64 0, .str [], .str [], .str []]⟩,
   ⟨none, none, .st 9 (.t 5) (.t 18)⟩])
  (.seq (.seq (.reg [⟨(some 19), none, .mv (.t 0)⟩,
   ⟨(some 20), none, .mv (.t 1)⟩,
   ⟨(some 21), none, .sle 9 (.t 19) none (some (.t 20))⟩,
   ⟨(some 22), none, .mkf 90 [(.t 5)]⟩,
   ⟨(some 23), none, .cl (.c (.fn 88 [])) [(.t 21), (.t 22)]⟩])
  (.cond (.t 23)
    (.seq (.reg [⟨(some 4), none, .mv (.c (.bool false))⟩])
    .ret)
    .skip))
  (.seq (.reg [⟨(some 24), none, .fa 1 (.t 5)⟩,
   ⟨(some 25), none, .ld true 8 (.t 24)⟩,
   ⟨(some 6), none, .al [.int .i64 0, .int .i64 0, .int .i64 0, .int .i64 0, .int .i64 0, .str [], .str [], .str []]⟩,
   ⟨none, none, .st 8 (.t 6) (.t 25)⟩])
  (.seq (.reg [⟨(some 26), none, .bld [.int .i64 0, .int .i64 0, .int .i64 0, .int .i64 0, .int .i64 0, .int .i64 0, .str [], .str [], .str []] [(0, 1), (1, 8)] []⟩,
   ⟨(some 7), none, .al [.int .i64 0, .int .i64 0, .int .i64 0, .int .i64 0, .int .i64 0, .int .i64 0, .str [], .str [], .str []]⟩,
   ⟨none, none, .st 9 (.t 7) (.t 26)⟩,
   ⟨(some 8), none, .mv (.c (.bool false))⟩])
  (.seq (.seq (.reg [⟨(some 27), none, .fa 0 (.t 6)⟩,
   ⟨(some 28), none, .ld false 1 (.t 27)⟩])
  (.blk 0 (.seq (.reg [⟨(some 30), none, .bin .eql (.t 28) (.c (.int .i64 1))⟩,
    ⟨(some 29), none, .mv (.t 30)⟩])
   (.cond (.t 29)
     (.reg [⟨(some 32), none, .mv (.t 0)⟩,
      ⟨(some 33), none, .fa 1 (.t 6)⟩,
      ⟨(some 34), none, .ld false 1 (.t 33)⟩,
      ⟨(some 35), none, .cl (.c (.fn 91 [])) [(.t 32), (.t 34)]⟩,
      ⟨(some 31), none, .mv (.t 35)⟩,
      ⟨(some 36), none, .ext (.t 31) 0⟩,
      ⟨(some 37), none, .ext (.t 31) 1⟩,
      ⟨none, none, .st 9 (.t 7) (.t 36)⟩,
      ⟨(some 8), none, .mv (.t 37)⟩])
     (.seq (.reg [⟨(some 39), none, .bin .eql (.t 28) (.c (.int .i64 2))⟩,
      ⟨(some 38), none, .mv (.t 39)⟩])
     (.cond (.t 38)
       (.seq (.seq (.reg [⟨(some 40), none, .mv (.t 0)⟩,
        ⟨(some 41), none, .mkf 92 [(.t 6)]⟩,
        ⟨(some 42), none, .cl (.c (.fn 88 [])) [(.t 40), (.t 41)]⟩,
        ⟨(some 43), none, .un .not (.t 42)⟩])
       (.cond (.t 43)
         (.seq (.reg [⟨(some 4), none, .mv (.c (.bool false))⟩])
         .ret)
         .skip))
       (.reg [⟨(some 45), none, .mv (.t 0)⟩,
        ⟨(some 46), none, .mkf 94 [(.t 6)]⟩,
        ⟨(some 47), none, .cl (.c (.fn 93 [])) [(.t 45), (.t 46), (.c (.fn 96 []))]⟩,
        ⟨(some 44), none, .mv (.t 47)⟩,
        ⟨(some 48), none, .ext (.t 44) 0⟩,
        ⟨(some 49), none, .ext (.t 44) 1⟩,
        ⟨none, none, .st 9 (.t 7) (.t 48)⟩,
        ⟨(some 8), none, .mv (.t 49)⟩]))
       (.seq (.seq (.reg [⟨(some 51), none, .bin .eql (.t 28) (.c (.int .i64 3))⟩,
        ⟨(some 50), none, .mv (.t 51)⟩])
       (.cond (.t 50)
         .skip
         (.reg [⟨(some 52), none, .bin .eql (.t 28) (.c (.int .i64 4))⟩,
          ⟨(some 50), none, .mv (.t 52)⟩])))
       (.cond (.t 50)
         (.seq (.seq (.reg [⟨(some 54), none, .mv (.t 0)⟩,
          ⟨(some 55), none, .fa 1 (.t 6)⟩,
          ⟨(some 56), none, .ld false 1 (.t 55)⟩,
          ⟨(some 57), none, .fa 2 (.t 6)⟩,
          ⟨(some 58), none, .ld false 1 (.t 57)⟩,
          ⟨(some 59), none, .cl (.c (.fn 97 [])) [(.t 54), (.t 56), (.t 58)]⟩,
          ⟨(some 53), none, .mv (.t 59)⟩,
          ⟨(some 60), none, .ext (.t 53) 0⟩,
          ⟨(some 61), none, .ext (.t 53) 1⟩,
          ⟨(some 9), none, .al [.int .i64 0, .int .i64 0, .int .i64 0, .int .i64 0, .int .i64 0, .int .i64 0, .str [], .str [], .str []]⟩,
          ⟨none, none, .st 9 (.t 9) (.t 60)⟩,
          ⟨(some 10), none, .mv (.t 61)⟩])
         (.seq (.reg [⟨(some 62), none, .mv (.t 10)⟩,
          ⟨(some 63), none, .un .not (.t 62)⟩])
         (.cond (.t 63)
           (.seq (.reg [⟨(some 4), none, .mv (.c (.bool false))⟩])
           .ret)
           .skip)))
         (.reg [⟨(some 65), none, .mv (.t 0)⟩,
          ⟨(some 66), none, .fa 0 (.t 6)⟩,
          ⟨(some 67), none, .ld false 1 (.t 66)⟩,
          ⟨(some 68), none, .fa 1 (.t 6)⟩,
          ⟨(some 69), none, .ld false 1 (.t 68)⟩,
          ⟨(some 70), none, .fa 2 (.t 6)⟩,
          ⟨(some 71), none, .ld false 1 (.t 70)⟩,
          ⟨(some 72), none, .cl (.c (.fn 98 [])) [(.t 65), (.t 67), (.t 69), (.t 71)]⟩,
          ⟨(some 64), none, .mv (.t 72)⟩,
          ⟨(some 73), none, .ext (.t 64) 0⟩,
          ⟨(some 74), none, .ext (.t 64) 1⟩,
          ⟨none, none, .st 9 (.t 7) (.t 73)⟩,
          ⟨(some 8), none, .mv (.t 74)⟩]))
         (.seq (.reg [⟨(some 76), none, .bin .eql (.t 28) (.c (.int .i64 5))⟩,
          ⟨(some 75), none, .mv (.t 76)⟩])
         (.cond (.t 75)
           (.seq (.reg [⟨(some 78), none, .mv (.t 0)⟩,
            ⟨(some 79), none, .fa 1 (.t 6)⟩,
            ⟨(some 80), none, .ld false 1 (.t 79)⟩,
            ⟨(some 81), none, .cl (.c (.fn 91 [])) [(.t 78), (.t 80)]⟩,
            ⟨(some 77), none, .mv (.t 81)⟩,
            ⟨(some 82), none, .ext (.t 77) 0⟩,
            ⟨(some 83), none, .ext (.t 77) 1⟩,
            ⟨(some 11), none, .al [.int .i64 0, .int .i64 0, .int .i64 0, .int .i64 0, .int .i64 0, .int .i64 0, .str [], .str [], .str []]⟩,
            ⟨none, none, .st 9 (.t 11) (.t 82)⟩,
            ⟨(some 12), none, .mv (.t 83)⟩])
           (.seq (.reg [⟨(some 85), none, .mv (.t 0)⟩,
            ⟨(some 86), none, .fa 1 (.t 6)⟩,
            ⟨(some 87), none, .ld false 1 (.t 86)⟩,
            ⟨(some 88), none, .fa 2 (.t 6)⟩,
            ⟨(some 89), none, .ld false 1 (.t 88)⟩,
            ⟨(some 90), none, .cl (.c (.fn 98 [])) [(.t 85), (.c (.int .i64 3)), (.t 87), (.t 89)]⟩,
            ⟨(some 84), none, .mv (.t 90)⟩,
            ⟨(some 91), none, .ext (.t 84) 0⟩,
            ⟨(some 92), none, .ext (.t 84) 1⟩,
            ⟨(some 13), none, .al [.int .i64 0, .int .i64 0, .int .i64 0, .int .i64 0, .int .i64 0, .int .i64 0, .str [], .str [], .str []]⟩,
            ⟨none, none, .st 9 (.t 13) (.t 91)⟩,
            ⟨(some 14), none, .mv (.t 92)⟩])
           (.seq (.seq (.reg [⟨(some 93), none, .mv (.t 12)⟩,
            ⟨(some 94), none, .un .not (.t 93)⟩,
            ⟨(some 95), none, .mv (.t 94)⟩,
            ⟨(some 96), (some (95, false)), .mv (.t 14)⟩,
            ⟨(some 97), (some (95, false)), .un .not (.t 96)⟩,
            ⟨(some 98), none, .pick (.t 95) (.c (.bool true)) (.t 97)⟩])
           (.cond (.t 98)
             (.seq (.reg [⟨(some 4), none, .mv (.c (.bool false))⟩])
             .ret)
             .skip))
           (.reg [⟨(some 100), none, .mv (.t 0)⟩,
            ⟨(some 101), none, .fa 1 (.t 6)⟩,
            ⟨(some 102), none, .ld false 1 (.t 101)⟩,
            ⟨(some 103), none, .fa 2 (.t 6)⟩,
            ⟨(some 104), none, .ld false 1 (.t 103)⟩,
            ⟨(some 105), none, .cl (.c (.fn 98 [])) [(.t 100), (.c (.int .i64 5)), (.t 102), (.t 104)]⟩,
            ⟨(some 99), none, .mv (.t 105)⟩,
            ⟨(some 106), none, .ext (.t 99) 0⟩,
            ⟨(some 107), none, .ext (.t 99) 1⟩,
            ⟨none, none, .st 9 (.t 7) (.t 106)⟩,
            ⟨(some 8), none, .mv (.t 107)⟩]))))
           .skip))))))))))
  (.seq (.reg [⟨(some 108), none, .mv (.t 8)⟩,
   ⟨(some 109), none, .mv (.t 108)⟩,
   ⟨(some 110), (some (109, true)), .ld true 9 (.t 7)⟩,
   ⟨(some 111), (some (109, true)), .ld true 9 (.t 5)⟩,
   ⟨(some 112), (some (109, true)), .equ false [(0, 1), (1, 1), (2, 1), (3, 1), (4, 1), (5, 1), (6, 2), (7, 2), (8, 2)] (.t 110) (.t 111)⟩,
   ⟨(some 113), none, .pick (.t 109) (.t 112) (.c (.bool false))⟩,
   ⟨(some 4), none, .mv (.t 113)⟩])
  .ret)))))))
theorem k_impl_needed : FnOk Tryz.prog 76 114 rc_impl_needed [.t 4] := ⟨Tryz.f76, _, [], Tryz.func76, rfl, rfl, by kernel_rfl, by kernel_rfl, follows⟩
theorem ok_impl_needed : okF Tryz.prog 76 = true := by kernel_rfl
def rc_impl_NeededAll : RC :=
  (.seq (.reg [⟨(some 2), none, .mv (.c (.nils))⟩])
  (.seq (.reg [⟨(some 6), none, .mv (.t 0)⟩,
   ⟨(some 7), none, .cl (.c (.fn 75 [])) [(.t 6)]⟩,
   ⟨(some 3), none, .mv (.t 7)⟩])
  (.seq (.reg [⟨(some 8), none, .mv (.c (.nils))⟩,
   ⟨(some 4), none, .mv (.t 8)⟩])
  (.seq (.seq (.reg [⟨(some 9), none, .mv (.t 0)⟩,
   ⟨(some 10), none, .lenl (.t 9)⟩,
   ⟨(some 11), none, .mv (.c (.int .i64 0))⟩])
  (.blk 0 (.loop (.seq (.reg [⟨(some 12), none, .bin .lss (.t 11) (.t 10)⟩])
    (.seq (.cond (.t 12)
      .skip
      (.exit 0))
    (.seq (.blk 1 (.seq (.reg [⟨(some 13), none, .mv (.t 11)⟩,
      ⟨(some 5), none, .mv (.t 13)⟩])
     (.reg [⟨(some 14), none, .mv (.t 4)⟩,
      ⟨(some 15), none, .mv (.t 3)⟩,
      ⟨(some 16), none, .mv (.t 15)⟩,
      ⟨(some 17), (some (16, true)), .mv (.t 0)⟩,
      ⟨(some 18), (some (16, true)), .mv (.t 5)⟩,
      ⟨(some 19), (some (16, true)), .cl (.c (.fn 76 [])) [(.t 17), (.t 18)]⟩,
      ⟨(some 20), none, .pick (.t 16) (.t 19) (.c (.bool false))⟩,
      ⟨(some 21), none, .bs 1 [.bool false] 1 [(0, (.t 20))]⟩,
      ⟨(some 22), none, .app 1 1 (.t 14) (.t 21)⟩,
      ⟨(some 4), none, .mv (.t 22)⟩])))
    (.reg [⟨(some 23), none, .bin .add (.t 11) (.c (.int .i64 1))⟩,
     ⟨(some 11), none, .mv (.t 23)⟩])))))))
  (.seq (.reg [⟨(some 24), none, .mv (.t 4)⟩,
   ⟨(some 2), none, .mv (.t 24)⟩])
  .ret)))))
theorem k_impl_NeededAll : FnOk Tryz.prog 54 25 rc_impl_NeededAll [.t 2] := ⟨Tryz.f54, _, [], Tryz.func54, rfl, rfl, by kernel_rfl, by kernel_rfl, follows⟩
theorem ok_impl_NeededAll : okF Tryz.prog 54 = true := by kernel_rfl
def rc_impl_keptItems : RC :=
  (.seq (.reg [⟨(some 1), none, .bx (.t 0)⟩,
   ⟨(some 2), none, .mv (.c (.nils))⟩])
  (.seq (.reg [⟨(some 6), none, .mv (.c (.nils))⟩,
   ⟨(some 3), none, .mv (.t 6)⟩])
  (.seq (.seq (.reg [⟨(some 7), none, .fa 0 (.t 1)⟩,
   ⟨(some 8), none, .fa 3 (.t 7)⟩,
   ⟨(some 9), none, .ld false 1 (.t 8)⟩,
   ⟨(some 10), none, .lenl (.t 9)⟩,
   ⟨(some 11), none, .mv (.c (.int .i64 0))⟩])
  (.blk 0 (.loop (.seq (.reg [⟨(some 12), none, .bin .lss (.t 11) (.t 10)⟩])
    (.seq (.cond (.t 12)
      .skip
      (.exit 0))
    (.seq (.blk 1 (.seq (.reg [⟨(some 13), none, .ia 4 (.t 9) (.t 11)⟩,
      ⟨(some 14), none, .ld true 4 (.t 13)⟩,
      ⟨(some 5), none, .al [.int .i64 0, .int .i64 0, .int .i64 0, .nils]⟩,
      ⟨none, none, .st 4 (.t 5) (.t 14)⟩])
     (.seq (.reg [⟨(some 15), none, .ld true 9 (.t 1)⟩,
      ⟨(some 16), none, .fa 0 (.t 5)⟩,
      ⟨(some 17), none, .ld false 1 (.t 16)⟩,
      ⟨(some 18), none, .cl (.c (.fn 42 [])) [(.t 15), (.t 17)]⟩,
      ⟨(some 19), none, .un .not (.t 18)⟩])
     (.cond (.t 19)
       (.reg [⟨(some 20), none, .mv (.t 3)⟩,
        ⟨(some 21), none, .fa 3 (.t 5)⟩,
        ⟨(some 22), none, .ld false 1 (.t 21)⟩,
        ⟨(some 23), none, .app 9 96 (.t 20) (.t 22)⟩,
        ⟨(some 3), none, .mv (.t 23)⟩])
       .skip))))
    (.reg [⟨(some 24), none, .bin .add (.t 11) (.c (.int .i64 1))⟩,
     ⟨(some 11), none, .mv (.t 24)⟩])))))))
  (.seq (.reg [⟨(some 25), none, .mv (.t 3)⟩,
   ⟨(some 2), none, .mv (.t 25)⟩])
  .ret))))
theorem k_impl_keptItems : FnOk Tryz.prog 55 26 rc_impl_keptItems [.t 2] := ⟨Tryz.f55, _, [], Tryz.func55, rfl, rfl, by kernel_rfl, by kernel_rfl, follows⟩
theorem ok_impl_keptItems : okF Tryz.prog 55 = true := by kernel_rfl
def rc_impl_liveOf : RC :=
  (.seq (.reg [⟨(some 2), none, .bx (.t 0)⟩,
   ⟨(some 4), none, .mv (.c (.nils))⟩])
  (.seq (.reg [⟨(some 5), none, .mv (.c (.int .i64 0))⟩])
  (.seq (.seq (.reg [⟨(some 11), none, .fa 0 (.t 2)⟩,
   ⟨(some 12), none, .fa 3 (.t 11)⟩,
   ⟨(some 13), none, .ld false 1 (.t 12)⟩,
   ⟨(some 14), none, .mv (.t 1)⟩,
   ⟨(some 15), none, .sle 4 (.t 13) none (some (.t 14))⟩,
   ⟨(some 16), none, .lenl (.t 15)⟩,
   ⟨(some 17), none, .mv (.c (.int .i64 0))⟩])
  (.blk 0 (.loop (.seq (.reg [⟨(some 18), none, .bin .lss (.t 17) (.t 16)⟩])
    (.seq (.cond (.t 18)
      .skip
      (.exit 0))
    (.seq (.blk 1 (.seq (.reg [⟨(some 19), none, .ia 4 (.t 15) (.t 17)⟩,
      ⟨(some 20), none, .ld true 4 (.t 19)⟩,
      ⟨(some 7), none, .al [.int .i64 0, .int .i64 0, .int .i64 0, .nils]⟩,
      ⟨none, none, .st 4 (.t 7) (.t 20)⟩])
     (.seq (.reg [⟨(some 21), none, .ld true 9 (.t 2)⟩,
      ⟨(some 22), none, .fa 0 (.t 7)⟩,
      ⟨(some 23), none, .ld false 1 (.t 22)⟩,
      ⟨(some 24), none, .cl (.c (.fn 42 [])) [(.t 21), (.t 23)]⟩,
      ⟨(some 25), none, .un .not (.t 24)⟩])
     (.cond (.t 25)
       (.reg [⟨(some 26), none, .mv (.t 5)⟩,
        ⟨(some 27), none, .fa 3 (.t 7)⟩,
        ⟨(some 28), none, .ld false 1 (.t 27)⟩,
        ⟨(some 29), none, .lenl (.t 28)⟩,
        ⟨(some 30), none, .bin .add (.t 26) (.t 29)⟩,
        ⟨(some 5), none, .mv (.t 30)⟩])
       .skip))))
    (.reg [⟨(some 31), none, .bin .add (.t 17) (.c (.int .i64 1))⟩,
     ⟨(some 17), none, .mv (.t 31)⟩])))))))
  (.seq (.reg [⟨(some 32), none, .ld true 9 (.t 2)⟩,
   ⟨(some 33), none, .cl (.c (.fn 55 [])) [(.t 32)]⟩,
   ⟨(some 34), none, .cl (.c (.fn 54 [])) [(.t 33)]⟩,
   ⟨(some 8), none, .mv (.t 34)⟩])
  (.seq (.reg [⟨(some 35), none, .mv (.c (.nils))⟩,
   ⟨(some 9), none, .mv (.t 35)⟩])
  (.seq (.seq (.reg [⟨(some 36), none, .fa 0 (.t 2)⟩,
   ⟨(some 37), none, .fa 3 (.t 36)⟩,
   ⟨(some 38), none, .ld false 1 (.t 37)⟩,
   ⟨(some 39), none, .mv (.t 1)⟩,
   ⟨(some 40), none, .ia 4 (.t 38) (.t 39)⟩,
   ⟨(some 41), none, .fa 3 (.t 40)⟩,
   ⟨(some 42), none, .ld false 1 (.t 41)⟩,
   ⟨(some 43), none, .lenl (.t 42)⟩,
   ⟨(some 44), none, .mv (.c (.int .i64 0))⟩])
  (.blk 2 (.loop (.seq (.reg [⟨(some 45), none, .bin .lss (.t 44) (.t 43)⟩])
    (.seq (.cond (.t 45)
      .skip
      (.exit 2))
    (.seq (.blk 3 (.seq (.reg [⟨(some 46), none, .mv (.t 44)⟩,
      ⟨(some 10), none, .mv (.t 46)⟩])
     (.seq (.reg [⟨(some 47), none, .mv (.t 8)⟩,
      ⟨(some 48), none, .mv (.t 5)⟩,
      ⟨(some 49), none, .mv (.t 10)⟩,
      ⟨(some 50), none, .bin .add (.t 48) (.t 49)⟩,
      ⟨(some 51), none, .ia 1 (.t 47) (.t 50)⟩,
      ⟨(some 52), none, .ld false 1 (.t 51)⟩])
     (.cond (.t 52)
       (.reg [⟨(some 53), none, .mv (.t 9)⟩,
        ⟨(some 54), none, .mv (.t 10)⟩,
        ⟨(some 55), none, .bs 1 [.int .i64 0] 1 [(0, (.t 54))]⟩,
        ⟨(some 56), none, .app 1 8 (.t 53) (.t 55)⟩,
        ⟨(some 9), none, .mv (.t 56)⟩])
       .skip))))
    (.reg [⟨(some 57), none, .bin .add (.t 44) (.c (.int .i64 1))⟩,
     ⟨(some 44), none, .mv (.t 57)⟩])))))))
  (.seq (.reg [⟨(some 58), none, .mv (.t 9)⟩,
   ⟨(some 4), none, .mv (.t 58)⟩])
  .ret)))))))
theorem k_impl_liveOf : FnOk Tryz.prog 35 59 rc_impl_liveOf [.t 4] := ⟨Tryz.f35, _, [], Tryz.func35, rfl, rfl, by kernel_rfl, by kernel_rfl, follows⟩
theorem ok_impl_liveOf : okF Tryz.prog 35 = true := by kernel_rfl
def rc_impl_varText : RC :=
  (.seq (.reg [⟨(some 2), none, .mv (.c (.str []))⟩])
  (.seq (.reg [⟨(some 4), none, .mv (.c (.nils))⟩,
   ⟨(some 3), none, .mv (.t 4)⟩])
  (.seq (.blk 0 (.loop (.seq (.seq (.reg [⟨(some 5), none, .mv (.t 0)⟩,
     ⟨(some 6), none, .bin .gtr (.t 5) (.c (.int .i64 127))⟩])
    (.cond (.t 6)
      .skip
      (.exit 0)))
    (.blk 1 (.seq (.reg [⟨(some 7), none, .mv (.t 3)⟩,
      ⟨(some 8), none, .mv (.t 0)⟩,
      ⟨(some 9), none, .bin .and (.t 8) (.c (.int .i64 127))⟩,
      ⟨(some 10), none, .bin .or (.t 9) (.c (.int .i64 128))⟩,
      ⟨(some 11), none, .cvi .u8 (.t 10)⟩,
      ⟨(some 12), none, .bs 1 [.int .u8 0] 1 [(0, (.t 11))]⟩,
      ⟨(some 13), none, .app 1 1 (.t 7) (.t 12)⟩,
      ⟨(some 3), none, .mv (.t 13)⟩])
     (.reg [⟨(some 14), none, .mv (.t 0)⟩,
      ⟨(some 15), none, .bin .shr (.t 14) (.c (.int .u64 7))⟩,
      ⟨(some 0), none, .mv (.t 15)⟩]))))))
  (.seq (.reg [⟨(some 16), none, .mv (.t 3)⟩,
   ⟨(some 17), none, .mv (.t 0)⟩,
   ⟨(some 18), none, .cvi .u8 (.t 17)⟩,
   ⟨(some 19), none, .bs 1 [.int .u8 0] 1 [(0, (.t 18))]⟩,
   ⟨(some 20), none, .app 1 1 (.t 16) (.t 19)⟩,
   ⟨(some 21), none, .cvb (.t 20)⟩,
   ⟨(some 2), none, .mv (.t 21)⟩])
  .ret))))
theorem k_impl_varText : FnOk Tryz.prog 78 22 rc_impl_varText [.t 2] := ⟨Tryz.f78, _, [], Tryz.func78, rfl, rfl, by kernel_rfl, by kernel_rfl, follows⟩
theorem ok_impl_varText : okF Tryz.prog 78 = true := by kernel_rfl
def rc_impl_RecText : RC :=
  (.seq (.reg [⟨(some 1), none, .bx (.t 0)⟩,
   ⟨(some 2), none, .mv (.c (.str []))⟩,
   ⟨(some 3), none, .mv (.c (.bool false))⟩])
  (.seq (.seq (.reg [⟨(some 9), none, .ld true 8 (.t 1)⟩,
   ⟨(some 10), none, .cl (.c (.fn 77 [])) [(.t 9)]⟩,
   ⟨(some 11), none, .un .not (.t 10)⟩])
  (.cond (.t 11)
    (.seq (.reg [⟨(some 2), none, .mv (.c (.str []))⟩,
     ⟨(some 3), none, .mv (.c (.bool false))⟩])
    .ret)
    .skip))
  (.seq (.reg [⟨(some 12), none, .fa 0 (.t 1)⟩,
   ⟨(some 13), none, .ld false 1 (.t 12)⟩,
   ⟨(some 14), none, .cvi .u8 (.t 13)⟩,
   ⟨(some 15), none, .bs 1 [.int .u8 0] 1 [(0, (.t 14))]⟩,
   ⟨(some 16), none, .cvb (.t 15)⟩,
   ⟨(some 4), none, .mv (.t 16)⟩])
  (.seq (.seq (.reg [⟨(some 17), none, .fa 1 (.t 1)⟩,
   ⟨(some 18), none, .ld false 1 (.t 17)⟩,
   ⟨(some 19), none, .fa 2 (.t 1)⟩,
   ⟨(some 20), none, .ld false 1 (.t 19)⟩,
   ⟨(some 21), none, .fa 3 (.t 1)⟩,
   ⟨(some 22), none, .ld false 1 (.t 21)⟩,
   ⟨(some 23), none, .fa 4 (.t 1)⟩,
   ⟨(some 24), none, .ld false 1 (.t 23)⟩,
   ⟨(some 25), none, .bs 1 [.int .i64 0] 4 [(0, (.t 18)), (1, (.t 20)), (2, (.t 22)), (3, (.t 24))]⟩,
   ⟨(some 26), none, .lenl (.t 25)⟩,
   ⟨(some 27), none, .mv (.c (.int .i64 0))⟩])
  (.blk 0 (.loop (.seq (.reg [⟨(some 28), none, .bin .lss (.t 27) (.t 26)⟩])
    (.seq (.cond (.t 28)
      .skip
      (.exit 0))
    (.seq (.blk 1 (.seq (.reg [⟨(some 29), none, .ia 1 (.t 25) (.t 27)⟩,
      ⟨(some 30), none, .ld false 1 (.t 29)⟩,
      ⟨(some 6), none, .mv (.t 30)⟩])
     (.reg [⟨(some 31), none, .mv (.t 4)⟩,
      ⟨(some 32), none, .mv (.t 6)⟩,
      ⟨(some 33), none, .cl (.c (.fn 78 [])) [(.t 32)]⟩,
      ⟨(some 34), none, .bin .add (.t 31) (.t 33)⟩,
      ⟨(some 4), none, .mv (.t 34)⟩])))
    (.reg [⟨(some 35), none, .bin .add (.t 27) (.c (.int .i64 1))⟩,
     ⟨(some 27), none, .mv (.t 35)⟩])))))))
  (.seq (.seq (.reg [⟨(some 36), none, .fa 5 (.t 1)⟩,
   ⟨(some 37), none, .ld false 1 (.t 36)⟩,
   ⟨(some 38), none, .fa 6 (.t 1)⟩,
   ⟨(some 39), none, .ld false 1 (.t 38)⟩,
   ⟨(some 40), none, .fa 7 (.t 1)⟩,
   ⟨(some 41), none, .ld false 1 (.t 40)⟩,
   ⟨(some 42), none, .bs 1 [.str []] 3 [(0, (.t 37)), (1, (.t 39)), (2, (.t 41))]⟩,
   ⟨(some 43), none, .lenl (.t 42)⟩,
   ⟨(some 44), none, .mv (.c (.int .i64 0))⟩])
  (.blk 2 (.loop (.seq (.reg [⟨(some 45), none, .bin .lss (.t 44) (.t 43)⟩])
    (.seq (.cond (.t 45)
      .skip
      (.exit 2))
    (.seq (.blk 3 (.seq (.reg [⟨(some 46), none, .ia 1 (.t 42) (.t 44)⟩,
      ⟨(some 47), none, .ld false 1 (.t 46)⟩,
      ⟨(some 8), none, .mv (.t 47)⟩])
     (.reg [⟨(some 48), none, .mv (.t 4)⟩,
      ⟨(some 49), none, .mv (.t 8)⟩,
      ⟨(some 50), none, .lens (.t 49)⟩,
      ⟨(some 51), none, .cl (.c (.fn 78 [])) [(.t 50)]⟩,
      ⟨(some 52), none, .mv (.t 8)⟩,
      ⟨(some 53), none, .bin .add (.t 51) (.t 52)⟩,
      ⟨(some 54), none, .bin .add (.t 48) (.t 53)⟩,
      ⟨(some 4), none, .mv (.t 54)⟩])))
    (.reg [⟨(some 55), none, .bin .add (.t 44) (.c (.int .i64 1))⟩,
     ⟨(some 44), none, .mv (.t 55)⟩])))))))
  (.seq (.reg [⟨(some 56), none, .mv (.t 4)⟩,
   ⟨(some 2), none, .mv (.t 56)⟩,
   ⟨(some 3), none, .mv (.c (.bool true))⟩])
  .ret))))))
theorem k_impl_RecText : FnOk Tryz.prog 56 57 rc_impl_RecText [.t 2, .t 3] := ⟨Tryz.f56, _, [], Tryz.func56, rfl, rfl, by kernel_rfl, by kernel_rfl, follows⟩
theorem ok_impl_RecText : okF Tryz.prog 56 = true := by kernel_rfl
def rc_impl_FrameOk : RC :=
  (.seq (.reg [⟨(some 1), none, .bx (.t 0)⟩,
   ⟨(some 2), none, .mv (.c (.bool false))⟩])
  (.seq (.reg [⟨(some 3), none, .fa 0 (.t 1)⟩,
   ⟨(some 4), none, .ld false 1 (.t 3)⟩,
   ⟨(some 5), none, .cl (.c (.fn 41 [])) [(.t 4), (.c (.int .i64 1)), (.c (.int .i64 1000000000))]⟩,
   ⟨(some 6), none, .mv (.t 5)⟩,
   ⟨(some 7), (some (6, true)), .fa 1 (.t 1)⟩,
   ⟨(some 8), (some (6, true)), .ld false 1 (.t 7)⟩,
   ⟨(some 9), (some (6, true)), .cl (.c (.fn 41 [])) [(.t 8), (.c (.int .i64 1)), (.c (.int .i64 1000000000))]⟩,
   ⟨(some 10), none, .pick (.t 6) (.t 9) (.c (.bool false))⟩,
   ⟨(some 11), none, .mv (.t 10)⟩,
   ⟨(some 12), (some (11, true)), .fa 2 (.t 1)⟩,
   ⟨(some 13), (some (11, true)), .ld false 1 (.t 12)⟩,
   ⟨(some 14), (some (11, true)), .lens (.t 13)⟩,
   ⟨(some 15), (some (11, true)), .cl (.c (.fn 41 [])) [(.t 14), (.c (.int .i64 1)), (.c (.int .i64 180))]⟩,
   ⟨(some 16), none, .pick (.t 11) (.t 15) (.c (.bool false))⟩,
   ⟨(some 2), none, .mv (.t 16)⟩])
  .ret))
theorem k_impl_FrameOk : FnOk Tryz.prog 57 17 rc_impl_FrameOk [.t 2] := ⟨Tryz.f57, _, [], Tryz.func57, rfl, rfl, by kernel_rfl, by kernel_rfl, follows⟩
theorem ok_impl_FrameOk : okF Tryz.prog 57 = true := by kernel_rfl
def rc_impl_ItemFrame : RC :=
  (.seq (.reg [⟨(some 2), none, .bx (.t 0)⟩,
   ⟨(some 4), none, .al [.int .i64 0, .int .i64 0, .str []]⟩,
   ⟨(some 5), none, .mv (.c (.bool false))⟩])
  (.seq (.reg [⟨(some 10), none, .fa 1 (.t 2)⟩,
   ⟨(some 11), none, .ld true 8 (.t 10)⟩,
   ⟨(some 12), none, .cl (.c (.fn 56 [])) [(.t 11)]⟩,
   ⟨(some 9), none, .mv (.t 12)⟩,
   ⟨(some 13), none, .ext (.t 9) 0⟩,
   ⟨(some 14), none, .ext (.t 9) 1⟩,
   ⟨(some 6), none, .mv (.t 13)⟩,
   ⟨(some 7), none, .mv (.t 14)⟩])
  (.seq (.reg [⟨(some 15), none, .mv (.t 1)⟩,
   ⟨(some 16), none, .fa 0 (.t 2)⟩,
   ⟨(some 17), none, .ld false 1 (.t 16)⟩,
   ⟨(some 18), none, .mv (.t 6)⟩,
   ⟨(some 19), none, .bld [.int .i64 0, .int .i64 0, .str []] [(0, 1), (1, 1), (2, 1)] [(0, (.t 15)), (1, (.t 17)), (2, (.t 18))]⟩,
   ⟨(some 8), none, .al [.int .i64 0, .int .i64 0, .str []]⟩,
   ⟨none, none, .st 3 (.t 8) (.t 19)⟩])
  (.seq (.seq (.reg [⟨(some 20), none, .mv (.t 7)⟩,
   ⟨(some 21), none, .un .not (.t 20)⟩,
   ⟨(some 22), none, .mv (.t 21)⟩,
   ⟨(some 23), (some (22, false)), .ld true 3 (.t 8)⟩,
   ⟨(some 24), (some (22, false)), .cl (.c (.fn 57 [])) [(.t 23)]⟩,
   ⟨(some 25), (some (22, false)), .un .not (.t 24)⟩,
   ⟨(some 26), none, .pick (.t 22) (.c (.bool true)) (.t 25)⟩])
  (.cond (.t 26)
    (.seq (.reg [⟨(some 27), none, .bld [.int .i64 0, .int .i64 0, .str []] [(0, 1), (1, 1), (2, 1)] []⟩,
     ⟨none, none, .st 3 (.t 4) (.t 27)⟩,
     ⟨(some 5), none, .mv (.c (.bool false))⟩])
    .ret)
    .skip))
  (.seq (.reg [⟨(some 28), none, .ld true 3 (.t 8)⟩,
   ⟨none, none, .st 3 (.t 4) (.t 28)⟩,
   ⟨(some 5), none, .mv (.c (.bool true))⟩])
  .ret)))))
theorem k_impl_ItemFrame : FnOk Tryz.prog 36 29 rc_impl_ItemFrame [.cell 4 true 3, .t 5] := ⟨Tryz.f36, _, [], Tryz.func36, rfl, rfl, by kernel_rfl, by kernel_rfl, follows⟩
theorem ok_impl_ItemFrame : okF Tryz.prog 36 = true := by kernel_rfl
def rc_impl_SumMore : RC :=
  (.seq (.reg [⟨(some 4), none, .mv (.c (.int .u32 0))⟩])
  (.seq (.seq (.reg [⟨(some 7), none, .mv (.t 1)⟩,
   ⟨(some 8), none, .lens (.t 7)⟩,
   ⟨(some 9), none, .mv (.c (.int .i64 0))⟩])
  (.blk 0 (.loop (.seq (.reg [⟨(some 10), none, .bin .lss (.t 9) (.t 8)⟩])
    (.seq (.cond (.t 10)
      .skip
      (.exit 0))
    (.seq (.blk 1 (.seq (.reg [⟨(some 11), none, .mv (.t 9)⟩,
      ⟨(some 5), none, .mv (.t 11)⟩])
     (.seq (.reg [⟨(some 12), none, .mv (.t 0)⟩,
      ⟨(some 13), none, .mv (.t 1)⟩,
      ⟨(some 14), none, .mv (.t 5)⟩,
      ⟨(some 15), none, .idx (.t 13) (.t 14)⟩,
      ⟨(some 16), none, .cvi .u32 (.t 15)⟩,
      ⟨(some 17), none, .bin .xor (.t 12) (.t 16)⟩,
      ⟨(some 0), none, .mv (.t 17)⟩])
     (.seq (.reg [⟨(some 18), none, .mv (.c (.int .i64 0))⟩])
     (.blk 2 (.loop (.seq (.reg [⟨(some 19), none, .bin .lss (.t 18) (.c (.int .i64 8))⟩])
       (.seq (.cond (.t 19)
         .skip
         (.exit 2))
       (.seq (.blk 3 (.seq (.reg [⟨(some 20), none, .mv (.t 0)⟩,
         ⟨(some 21), none, .bin .and (.t 20) (.c (.int .u32 1))⟩,
         ⟨(some 22), none, .bin .eql (.t 21) (.c (.int .u32 1))⟩,
         ⟨(some 6), none, .mv (.t 22)⟩])
        (.seq (.reg [⟨(some 23), none, .mv (.t 0)⟩,
         ⟨(some 24), none, .bin .shr (.t 23) (.c (.int .u64 1))⟩,
         ⟨(some 0), none, .mv (.t 24)⟩])
        (.seq (.reg [⟨(some 25), none, .mv (.t 6)⟩])
        (.cond (.t 25)
          (.reg [⟨(some 26), none, .mv (.t 0)⟩,
           ⟨(some 27), none, .bin .xor (.t 26) (.c (.int .u32 3558460437))⟩,
           ⟨(some 0), none, .mv (.t 27)⟩])
          .skip)))))
       (.reg [⟨(some 28), none, .bin .add (.t 18) (.c (.int .i64 1))⟩,
        ⟨(some 18), none, .mv (.t 28)⟩]))))))))))
    (.reg [⟨(some 29), none, .bin .add (.t 9) (.c (.int .i64 1))⟩,
     ⟨(some 9), none, .mv (.t 29)⟩])))))))
  (.seq (.reg [⟨(some 30), none, .mv (.t 0)⟩,
   ⟨(some 4), none, .mv (.t 30)⟩])
  .ret)))
theorem k_impl_SumMore : FnOk Tryz.prog 112 31 rc_impl_SumMore [.t 4] := ⟨Tryz.f112, _, [], Tryz.func112, rfl, rfl, by kernel_rfl, by kernel_rfl, follows⟩
theorem ok_impl_SumMore : okF Tryz.prog 112 = true := by kernel_rfl
def rc_impl_SumOf : RC :=
  (.seq (.reg [⟨(some 2), none, .mv (.c (.int .u32 0))⟩])
  (.seq (.reg [⟨(some 3), none, .mv (.t 0)⟩,
   ⟨(some 4), none, .cl (.c (.fn 112 [])) [(.c (.int .u32 4294967295)), (.t 3)]⟩,
   ⟨(some 2), none, .mv (.t 4)⟩])
  .ret))
theorem k_impl_SumOf : FnOk Tryz.prog 110 5 rc_impl_SumOf [.t 2] := ⟨Tryz.f110, _, [], Tryz.func110, rfl, rfl, by kernel_rfl, by kernel_rfl, follows⟩
theorem ok_impl_SumOf : okF Tryz.prog 110 = true := by kernel_rfl
def rc_impl_seal : RC :=
  (.seq (.reg [⟨(some 2), none, .mv (.c (.str []))⟩])
  (.seq (.reg [⟨(some 4), none, .mv (.t 0)⟩,
   ⟨(some 5), none, .cl (.c (.fn 110 [])) [(.t 4)]⟩,
   ⟨(some 3), none, .mv (.t 5)⟩])
  (.seq (.reg [⟨(some 6), none, .mv (.t 3)⟩,
   ⟨(some 7), none, .bin .shr (.t 6) (.c (.int .u64 24))⟩,
   ⟨(some 8), none, .cvi .u8 (.t 7)⟩,
   ⟨(some 9), none, .mv (.t 3)⟩,
   ⟨(some 10), none, .bin .shr (.t 9) (.c (.int .u64 16))⟩,
   ⟨(some 11), none, .cvi .u8 (.t 10)⟩,
   ⟨(some 12), none, .mv (.t 3)⟩,
   ⟨(some 13), none, .bin .shr (.t 12) (.c (.int .u64 8))⟩,
   ⟨(some 14), none, .cvi .u8 (.t 13)⟩,
   ⟨(some 15), none, .mv (.t 3)⟩,
   ⟨(some 16), none, .cvi .u8 (.t 15)⟩,
   ⟨(some 17), none, .bs 1 [.int .u8 0] 4 [(0, (.t 8)), (1, (.t 11)), (2, (.t 14)), (3, (.t 16))]⟩,
   ⟨(some 18), none, .cvb (.t 17)⟩,
   ⟨(some 2), none, .mv (.t 18)⟩])
  .ret)))
theorem k_impl_seal : FnOk Tryz.prog 100 19 rc_impl_seal [.t 2] := ⟨Tryz.f100, _, [], Tryz.func100, rfl, rfl, by kernel_rfl, by kernel_rfl, follows⟩
theorem ok_impl_seal : okF Tryz.prog 100 = true := by kernel_rfl
def rc_impl_Sealed : RC :=
  (.seq (.reg [⟨(some 2), none, .mv (.c (.str []))⟩,
   ⟨(some 3), none, .mv (.c (.bool false))⟩])
  (.seq (.seq (.reg [⟨(some 4), none, .mv (.t 0)⟩,
   ⟨(some 5), none, .lens (.t 4)⟩,
   ⟨(some 6), none, .bin .gtr (.t 5) (.c (.int .i64 20000))⟩])
  (.cond (.t 6)
    (.seq (.reg [⟨(some 2), none, .mv (.c (.str []))⟩,
     ⟨(some 3), none, .mv (.c (.bool false))⟩])
    .ret)
    .skip))
  (.seq (.reg [⟨(some 7), none, .mv (.t 0)⟩,
   ⟨(some 8), none, .mv (.t 0)⟩,
   ⟨(some 9), none, .cl (.c (.fn 100 [])) [(.t 8)]⟩,
   ⟨(some 10), none, .bin .add (.t 7) (.t 9)⟩,
   ⟨(some 2), none, .mv (.t 10)⟩,
   ⟨(some 3), none, .mv (.c (.bool true))⟩])
  .ret)))
theorem k_impl_Sealed : FnOk Tryz.prog 79 11 rc_impl_Sealed [.t 2, .t 3] := ⟨Tryz.f79, _, [], Tryz.func79, rfl, rfl, by kernel_rfl, by kernel_rfl, follows⟩
theorem ok_impl_Sealed : okF Tryz.prog 79 = true := by kernel_rfl
def rc_impl_FrameText : RC :=
  (.seq (.reg [⟨(some 1), none, .bx (.t 0)⟩,
   ⟨(some 2), none, .mv (.c (.str []))⟩,
   ⟨(some 3), none, .mv (.c (.bool false))⟩])
  (.seq (.seq (.reg [⟨(some 4), none, .ld true 3 (.t 1)⟩,
   ⟨(some 5), none, .cl (.c (.fn 57 [])) [(.t 4)]⟩,
   ⟨(some 6), none, .un .not (.t 5)⟩])
  (.cond (.t 6)
    (.seq (.reg [⟨(some 2), none, .mv (.c (.str []))⟩,
     ⟨(some 3), none, .mv (.c (.bool false))⟩])
    .ret)
    .skip))
  (.seq (.drw [⟨(some 7), none, .fa 0 (.t 1)⟩,
   ⟨(some 8), none, .ld false 1 (.t 7)⟩,
   ⟨(some 9), none, .cl (.c (.fn 78 [])) [(.t 8)]⟩,
   ⟨(some 10), none, .fa 1 (.t 1)⟩,
   ⟨(some 11), none, .ld false 1 (.t 10)⟩,
   ⟨(some 12), none, .cl (.c (.fn 78 [])) [(.t 11)]⟩,
   ⟨(some 13), none, .bin .add (.t 9) (.t 12)⟩,
   ⟨(some 14), none, .fa 2 (.t 1)⟩,
   ⟨(some 15), none, .ld false 1 (.t 14)⟩,
   ⟨(some 16), none, .lens (.t 15)⟩,
   ⟨(some 17), none, .cl (.c (.fn 78 [])) [(.t 16)]⟩,
   ⟨(some 18), none, .bin .add (.t 13) (.t 17)⟩,
   ⟨(some 19), none, .fa 2 (.t 1)⟩,
   ⟨(some 20), none, .ld false 1 (.t 19)⟩,
   ⟨(some 21), none, .bin .add (.t 18) (.t 20)⟩,
   ⟨(some 22), none, .cl (.c (.fn 79 [])) [(.t 21)]⟩,
   ⟨(some 23), none, .ext (.t 22) 0⟩,
   ⟨(some 24), none, .ext (.t 22) 1⟩,
   ⟨(some 2), none, .mv (.t 23)⟩,
   ⟨(some 3), none, .mv (.t 24)⟩] [.val [], .val [], .val [], .val [], .val [], .val [], .val [], .val [], .val [], .val [], .val [], .val [], .val [], .val [], .val [], .val [], .val [], .val [], .val [], .val []])
  .ret)))
theorem k_impl_FrameText : FnOk Tryz.prog 58 25 rc_impl_FrameText [.t 2, .t 3] := ⟨Tryz.f58, _, [], Tryz.func58, rfl, rfl, by kernel_rfl, by kernel_rfl, follows⟩
theorem ok_impl_FrameText : okF Tryz.prog 58 = true := by kernel_rfl
def rc_impl_FrameSize : RC :=
  (.seq (.reg [⟨(some 1), none, .bx (.t 0)⟩,
   ⟨(some 2), none, .mv (.c (.int .i64 0))⟩])
  (.seq (.reg [⟨(some 6), none, .ld true 3 (.t 1)⟩,
   ⟨(some 7), none, .cl (.c (.fn 58 [])) [(.t 6)]⟩,
   ⟨(some 5), none, .mv (.t 7)⟩,
   ⟨(some 8), none, .ext (.t 5) 0⟩,
   ⟨(some 9), none, .ext (.t 5) 1⟩,
   ⟨(some 3), none, .mv (.t 8)⟩,
   ⟨(some 4), none, .mv (.t 9)⟩])
  (.seq (.reg [⟨(some 10), none, .mv (.t 3)⟩,
   ⟨(some 11), none, .lens (.t 10)⟩,
   ⟨(some 2), none, .mv (.t 11)⟩])
  .ret)))
theorem k_impl_FrameSize : FnOk Tryz.prog 37 12 rc_impl_FrameSize [.t 2] := ⟨Tryz.f37, _, [], Tryz.func37, rfl, rfl, by kernel_rfl, by kernel_rfl, follows⟩
theorem ok_impl_FrameSize : okF Tryz.prog 37 = true := by kernel_rfl
def rc_impl_LiveOf : RC :=
  (.seq (.reg [⟨(some 2), none, .bx (.t 0)⟩,
   ⟨(some 4), none, .mv (.c (.int .i64 0))⟩])
  (.seq (.seq (.reg [⟨(some 11), none, .ld true 9 (.t 2)⟩,
   ⟨(some 12), none, .mv (.t 1)⟩,
   ⟨(some 13), none, .cl (.c (.fn 24 [])) [(.t 11), (.t 12)]⟩,
   ⟨(some 14), none, .un .not (.t 13)⟩])
  (.cond (.t 14)
    (.seq (.reg [⟨(some 4), none, .mv (.c (.int .i64 0))⟩])
    .ret)
    .skip))
  (.seq (.reg [⟨(some 15), none, .fa 0 (.t 2)⟩,
   ⟨(some 16), none, .fa 3 (.t 15)⟩,
   ⟨(some 17), none, .ld false 1 (.t 16)⟩,
   ⟨(some 18), none, .mv (.t 1)⟩,
   ⟨(some 19), none, .ia 4 (.t 17) (.t 18)⟩,
   ⟨(some 20), none, .ld true 4 (.t 19)⟩,
   ⟨(some 5), none, .al [.int .i64 0, .int .i64 0, .int .i64 0, .nils]⟩,
   ⟨none, none, .st 4 (.t 5) (.t 20)⟩])
  (.seq (.reg [⟨(some 6), none, .mv (.c (.int .i64 0))⟩])
  (.seq (.seq (.reg [⟨(some 21), none, .ld true 9 (.t 2)⟩,
   ⟨(some 22), none, .mv (.t 1)⟩,
   ⟨(some 23), none, .cl (.c (.fn 35 [])) [(.t 21), (.t 22)]⟩,
   ⟨(some 24), none, .lenl (.t 23)⟩,
   ⟨(some 25), none, .mv (.c (.int .i64 0))⟩])
  (.blk 0 (.loop (.seq (.reg [⟨(some 26), none, .bin .lss (.t 25) (.t 24)⟩])
    (.seq (.cond (.t 26)
      .skip
      (.exit 0))
    (.seq (.blk 1 (.seq (.reg [⟨(some 27), none, .ia 1 (.t 23) (.t 25)⟩,
      ⟨(some 28), none, .ld false 1 (.t 27)⟩,
      ⟨(some 8), none, .mv (.t 28)⟩])
     (.seq (.drw [⟨(some 30), none, .fa 3 (.t 5)⟩,
      ⟨(some 31), none, .ld false 1 (.t 30)⟩,
      ⟨(some 32), none, .mv (.t 8)⟩,
      ⟨(some 33), none, .ia 9 (.t 31) (.t 32)⟩,
      ⟨(some 34), none, .ld true 9 (.t 33)⟩,
      ⟨(some 35), none, .fa 1 (.t 5)⟩,
      ⟨(some 36), none, .ld false 1 (.t 35)⟩,
      ⟨(some 37), none, .cl (.c (.fn 36 [])) [(.t 34), (.t 36)]⟩,
      ⟨(some 29), none, .mv (.t 37)⟩,
      ⟨(some 38), none, .ext (.t 29) 0⟩,
      ⟨(some 39), none, .ext (.t 29) 1⟩,
      ⟨(some 9), none, .al [.int .i64 0, .int .i64 0, .str []]⟩,
      ⟨none, none, .st 3 (.t 9) (.t 38)⟩,
      ⟨(some 10), none, .mv (.t 39)⟩] [.val [], .val [], .val [], .val [], .val [], .val [], .val [], .val [], .val [], .val [], .val [], .chn [0, 1, 2, 3, 4, 5, 6, 7, 8, 9, 10], .chn [10], .val []])
     (.reg [⟨(some 40), none, .mv (.t 6)⟩,
      ⟨(some 41), none, .ld true 3 (.t 9)⟩,
      ⟨(some 42), none, .cl (.c (.fn 37 [])) [(.t 41)]⟩,
      ⟨(some 43), none, .bin .add (.t 40) (.t 42)⟩,
      ⟨(some 6), none, .mv (.t 43)⟩]))))
    (.reg [⟨(some 44), none, .bin .add (.t 25) (.c (.int .i64 1))⟩,
     ⟨(some 25), none, .mv (.t 44)⟩])))))))
  (.seq (.reg [⟨(some 45), none, .mv (.t 6)⟩,
   ⟨(some 4), none, .mv (.t 45)⟩])
  .ret))))))
theorem k_impl_LiveOf : FnOk Tryz.prog 20 46 rc_impl_LiveOf [.t 4] := ⟨Tryz.f20, _, [], Tryz.func20, rfl, rfl, by kernel_rfl, by kernel_rfl, follows⟩
theorem ok_impl_LiveOf : okF Tryz.prog 20 = true := by kernel_rfl
def rc_impl_LiveBytes : RC :=
  (.seq (.reg [⟨(some 1), none, .bx (.t 0)⟩,
   ⟨(some 2), none, .mv (.c (.int .i64 0))⟩])
  (.seq (.reg [⟨(some 3), none, .mv (.c (.int .i64 0))⟩])
  (.seq (.seq (.reg [⟨(some 5), none, .fa 0 (.t 1)⟩,
   ⟨(some 6), none, .fa 3 (.t 5)⟩,
   ⟨(some 7), none, .ld false 1 (.t 6)⟩,
   ⟨(some 8), none, .lenl (.t 7)⟩,
   ⟨(some 9), none, .mv (.c (.int .i64 0))⟩])
  (.blk 0 (.loop (.seq (.reg [⟨(some 10), none, .bin .lss (.t 9) (.t 8)⟩])
    (.seq (.cond (.t 10)
      .skip
      (.exit 0))
    (.seq (.blk 1 (.seq (.reg [⟨(some 11), none, .mv (.t 9)⟩,
      ⟨(some 4), none, .mv (.t 11)⟩])
     (.reg [⟨(some 12), none, .mv (.t 3)⟩,
      ⟨(some 13), none, .ld true 9 (.t 1)⟩,
      ⟨(some 14), none, .mv (.t 4)⟩,
      ⟨(some 15), none, .cl (.c (.fn 20 [])) [(.t 13), (.t 14)]⟩,
      ⟨(some 16), none, .bin .add (.t 12) (.t 15)⟩,
      ⟨(some 3), none, .mv (.t 16)⟩])))
    (.reg [⟨(some 17), none, .bin .add (.t 9) (.c (.int .i64 1))⟩,
     ⟨(some 9), none, .mv (.t 17)⟩])))))))
  (.seq (.reg [⟨(some 18), none, .mv (.t 3)⟩,
   ⟨(some 2), none, .mv (.t 18)⟩])
  .ret))))
theorem k_impl_LiveBytes : FnOk Tryz.prog 9 19 rc_impl_LiveBytes [.t 2] := ⟨Tryz.f9, _, [], Tryz.func9, rfl, rfl, by kernel_rfl, by kernel_rfl, follows⟩
theorem ok_impl_LiveBytes : okF Tryz.prog 9 = true := by kernel_rfl
def rc_laws_FnExactLiveBytes : RC :=
  (.seq (.reg [⟨(some 1), none, .bx (.t 0)⟩,
   ⟨(some 2), none, .mv (.c (.bool false))⟩])
  (.seq (.reg [⟨(some 3), none, .mv (.c (.int .i64 1048576))⟩])
  (.seq (.reg [⟨(some 7), none, .ld true 9 (.t 1)⟩,
   ⟨(some 8), none, .mv (.t 3)⟩,
   ⟨(some 9), none, .cl (.c (.fn 6 [])) [(.t 7), (.t 8)]⟩,
   ⟨(some 3), none, .mv (.t 9)⟩])
  (.seq (.seq (.reg [⟨(some 10), none, .mv (.t 3)⟩,
   ⟨(some 11), none, .bin .lss (.t 10) (.c (.int .i64 0))⟩])
  (.cond (.t 11)
    (.seq (.reg [⟨(some 2), none, .mv (.c (.bool true))⟩])
    .ret)
    .skip))
  (.seq (.reg [⟨(some 12), none, .ld true 9 (.t 1)⟩,
   ⟨(some 13), none, .cl (.c (.fn 8 [])) [(.t 12)]⟩,
   ⟨(some 14), none, .cl (.c (.fn 7 [])) [(.t 13)]⟩,
   ⟨(some 4), none, .mv (.t 14)⟩])
  (.seq (.reg [⟨(some 15), none, .ld true 9 (.t 1)⟩,
   ⟨(some 16), none, .cl (.c (.fn 8 [])) [(.t 15)]⟩,
   ⟨(some 5), none, .al [.nils, .nils, .int .i64 0, .nils, .int .i64 0, .int .i64 0, .int .i64 0, .int .i64 0, .nils]⟩,
   ⟨none, none, .st 9 (.t 5) (.t 16)⟩])
  (.seq (.reg [⟨(some 17), none, .ld true 9 (.t 5)⟩,
   ⟨(some 18), none, .cl (.c (.fn 9 [])) [(.t 17)]⟩,
   ⟨(some 6), none, .mv (.t 18)⟩])
  (.seq (.seq (.reg [⟨(some 19), none, .mv (.t 6)⟩,
   ⟨(some 20), none, .mv (.t 4)⟩,
   ⟨(some 21), none, .bin .neq (.t 19) (.t 20)⟩])
  (.cond (.t 21)
    (.seq (.reg [⟨(some 2), none, .mv (.c (.bool false))⟩])
    .ret)
    .skip))
  (.seq (.seq (.drw [⟨(some 22), none, .ld true 9 (.t 5)⟩,
   ⟨(some 23), none, .ld true 9 (.t 1)⟩,
   ⟨(some 24), none, .cl (.c (.fn 8 [])) [(.t 23)]⟩,
   ⟨(some 25), none, .cl (.c (.fn 10 [])) [(.t 22), (.t 24)]⟩,
   ⟨(some 26), none, .un .not (.t 25)⟩] [.val [], .val [], .val [], .val [], .val []])
  (.cond (.t 26)
    (.seq (.reg [⟨(some 2), none, .mv (.c (.bool false))⟩])
    .ret)
    .skip))
  (.seq (.reg [⟨(some 2), none, .mv (.c (.bool true))⟩])
  .ret))))))))))
theorem k_laws_FnExactLiveBytes : FnOk Tryz.prog 3 27 rc_laws_FnExactLiveBytes [.t 2] := ⟨Tryz.f3, _, [], Tryz.func3, rfl, rfl, by kernel_rfl, by kernel_rfl, follows⟩
theorem ok_laws_FnExactLiveBytes : okF Tryz.prog 3 = true := by kernel_rfl
end Go.Proofs.YtgdcbjoaoagbpaaGreat.V
