/- The functions' texts. -/
import Derived.Test.YtpecafogemipmaaXE
import Derived.Test.YtpecafogemipmaaProg
import Derived.KernelRfl
/- The functions' texts. -/
namespace Go.Proofs.Ytpecafogemipmaa.V
open Go Go.Proofs Go.RowKit
set_option maxRecDepth 100000
theorem follows : Try.prog.follows .mixedOrders = true := by kernel_rfl
def rc_laws_szRec : RC :=
  (.seq (.reg [⟨(some 2), none, .bx (.t 0)⟩,
   ⟨(some 4), none, .mv (.c (.int .i64 0))⟩])
  (.seq (.reg [⟨(some 5), none, .mv (.t 1)⟩,
   ⟨(some 6), none, .fa 5 (.t 2)⟩,
   ⟨(some 7), none, .ld false 1 (.t 6)⟩,
   ⟨(some 8), none, .lens (.t 7)⟩,
   ⟨(some 9), none, .bin .sub (.t 5) (.t 8)⟩,
   ⟨(some 1), none, .mv (.t 9)⟩])
  (.seq (.seq (.reg [⟨(some 10), none, .mv (.t 1)⟩,
   ⟨(some 11), none, .bin .lss (.t 10) (.c (.int .i64 0))⟩])
  (.cond (.t 11)
    (.seq (.reg [⟨(some 4), none, .mv (.c (.int .i64 (-1)))⟩])
    .ret)
    .skip))
  (.seq (.reg [⟨(some 12), none, .mv (.t 1)⟩,
   ⟨(some 13), none, .fa 6 (.t 2)⟩,
   ⟨(some 14), none, .ld false 1 (.t 13)⟩,
   ⟨(some 15), none, .lens (.t 14)⟩,
   ⟨(some 16), none, .bin .sub (.t 12) (.t 15)⟩,
   ⟨(some 1), none, .mv (.t 16)⟩])
  (.seq (.seq (.reg [⟨(some 17), none, .mv (.t 1)⟩,
   ⟨(some 18), none, .bin .lss (.t 17) (.c (.int .i64 0))⟩])
  (.cond (.t 18)
    (.seq (.reg [⟨(some 4), none, .mv (.c (.int .i64 (-1)))⟩])
    .ret)
    .skip))
  (.seq (.reg [⟨(some 19), none, .mv (.t 1)⟩,
   ⟨(some 20), none, .fa 7 (.t 2)⟩,
   ⟨(some 21), none, .ld false 1 (.t 20)⟩,
   ⟨(some 22), none, .lens (.t 21)⟩,
   ⟨(some 23), none, .bin .sub (.t 19) (.t 22)⟩,
   ⟨(some 1), none, .mv (.t 23)⟩])
  (.seq (.seq (.reg [⟨(some 24), none, .mv (.t 1)⟩,
   ⟨(some 25), none, .bin .lss (.t 24) (.c (.int .i64 0))⟩])
  (.cond (.t 25)
    (.seq (.reg [⟨(some 4), none, .mv (.c (.int .i64 (-1)))⟩])
    .ret)
    .skip))
  (.seq (.reg [⟨(some 26), none, .mv (.t 1)⟩,
   ⟨(some 4), none, .mv (.t 26)⟩])
  .ret))))))))
theorem k_laws_szRec : FnOk Try.prog 26 27 rc_laws_szRec [.t 4] := ⟨Try.f26, _, [], Try.func26, rfl, rfl, by kernel_rfl, by kernel_rfl, follows⟩
theorem ok_laws_szRec : okF Try.prog 26 = true := by kernel_rfl
def rc_laws_szItem : RC :=
  (.seq (.reg [⟨(some 2), none, .bx (.t 0)⟩,
   ⟨(some 4), none, .mv (.c (.int .i64 0))⟩])
  (.seq (.reg [⟨(some 5), none, .fa 1 (.t 2)⟩,
   ⟨(some 6), none, .ld true 8 (.t 5)⟩,
   ⟨(some 7), none, .mv (.t 1)⟩,
   ⟨(some 8), none, .cl (.c (.fn 26 [])) [(.t 6), (.t 7)]⟩,
   ⟨(some 1), none, .mv (.t 8)⟩])
  (.seq (.seq (.reg [⟨(some 9), none, .mv (.t 1)⟩,
   ⟨(some 10), none, .bin .lss (.t 9) (.c (.int .i64 0))⟩])
  (.cond (.t 10)
    (.seq (.reg [⟨(some 4), none, .mv (.c (.int .i64 (-1)))⟩])
    .ret)
    .skip))
  (.seq (.reg [⟨(some 11), none, .mv (.t 1)⟩,
   ⟨(some 4), none, .mv (.t 11)⟩])
  .ret))))
theorem k_laws_szItem : FnOk Try.prog 48 12 rc_laws_szItem [.t 4] := ⟨Try.f48, _, [], Try.func48, rfl, rfl, by kernel_rfl, by kernel_rfl, follows⟩
theorem ok_laws_szItem : okF Try.prog 48 = true := by kernel_rfl
def rc_laws_szItemS : RC :=
  (.seq (.reg [⟨(some 4), none, .mv (.c (.int .i64 0))⟩])
  (.seq (.reg [⟨(some 6), none, .mv (.t 1)⟩,
   ⟨(some 7), none, .mv (.t 0)⟩,
   ⟨(some 8), none, .lenl (.t 7)⟩,
   ⟨(some 9), none, .bin .sub (.t 6) (.t 8)⟩,
   ⟨(some 1), none, .mv (.t 9)⟩])
  (.seq (.seq (.reg [⟨(some 10), none, .mv (.t 1)⟩,
   ⟨(some 11), none, .bin .lss (.t 10) (.c (.int .i64 0))⟩])
  (.cond (.t 11)
    (.seq (.reg [⟨(some 4), none, .mv (.c (.int .i64 (-1)))⟩])
    .ret)
    .skip))
  (.seq (.seq (.reg [⟨(some 5), none, .mv (.c (.int .i64 0))⟩])
  (.blk 0 (.loop (.seq (.seq (.reg [⟨(some 12), none, .mv (.t 5)⟩,
     ⟨(some 13), none, .mv (.t 0)⟩,
     ⟨(some 14), none, .lenl (.t 13)⟩,
     ⟨(some 15), none, .bin .lss (.t 12) (.t 14)⟩])
    (.cond (.t 15)
      .skip
      (.exit 0)))
    (.seq (.blk 1 (.seq (.reg [⟨(some 18), none, .mv (.t 0)⟩,
      ⟨(some 19), none, .mv (.t 5)⟩,
      ⟨(some 20), none, .ia 9 (.t 18) (.t 19)⟩,
      ⟨(some 21), none, .ld true 9 (.t 20)⟩,
      ⟨(some 22), none, .mv (.t 1)⟩,
      ⟨(some 23), none, .cl (.c (.fn 48 [])) [(.t 21), (.t 22)]⟩,
      ⟨(some 1), none, .mv (.t 23)⟩])
     (.seq (.reg [⟨(some 24), none, .mv (.t 1)⟩,
      ⟨(some 25), none, .bin .lss (.t 24) (.c (.int .i64 0))⟩])
     (.cond (.t 25)
       (.seq (.reg [⟨(some 4), none, .mv (.c (.int .i64 (-1)))⟩])
       .ret)
       .skip))))
    (.reg [⟨(some 16), none, .mv (.t 5)⟩,
     ⟨(some 17), none, .bin .add (.t 16) (.c (.int .i64 1))⟩,
     ⟨(some 5), none, .mv (.t 17)⟩]))))))
  (.seq (.reg [⟨(some 26), none, .mv (.t 1)⟩,
   ⟨(some 4), none, .mv (.t 26)⟩])
  .ret)))))
theorem k_laws_szItemS : FnOk Try.prog 16 27 rc_laws_szItemS [.t 4] := ⟨Try.f16, _, [], Try.func16, rfl, rfl, by kernel_rfl, by kernel_rfl, follows⟩
theorem ok_laws_szItemS : okF Try.prog 16 = true := by kernel_rfl
def rc_spec_Without : RC :=
  (.seq (.reg [⟨(some 4), none, .mv (.c (.nils))⟩])
  (.seq (.reg [⟨(some 7), none, .bs 9 [.int .i64 0, .int .i64 0, .int .i64 0, .int .i64 0, .int .i64 0, .int .i64 0, .str [], .str [], .str []] 0 []⟩,
   ⟨(some 5), none, .mv (.t 7)⟩])
  (.seq (.seq (.reg [⟨(some 6), none, .mv (.c (.int .i64 0))⟩])
  (.blk 0 (.loop (.seq (.seq (.reg [⟨(some 8), none, .mv (.t 6)⟩,
     ⟨(some 9), none, .mv (.t 0)⟩,
     ⟨(some 10), none, .lenl (.t 9)⟩,
     ⟨(some 11), none, .bin .lss (.t 8) (.t 10)⟩])
    (.cond (.t 11)
      .skip
      (.exit 0)))
    (.seq (.blk 1 (.seq (.reg [⟨(some 14), none, .mv (.t 6)⟩,
      ⟨(some 15), none, .mv (.t 1)⟩,
      ⟨(some 16), none, .lenl (.t 15)⟩,
      ⟨(some 17), none, .bin .geq (.t 14) (.t 16)⟩,
      ⟨(some 18), none, .mv (.t 17)⟩,
      ⟨(some 19), (some (18, false)), .mv (.t 1)⟩,
      ⟨(some 20), (some (18, false)), .mv (.t 6)⟩,
      ⟨(some 21), (some (18, false)), .ia 1 (.t 19) (.t 20)⟩,
      ⟨(some 22), (some (18, false)), .ld false 1 (.t 21)⟩,
      ⟨(some 23), (some (18, false)), .un .not (.t 22)⟩,
      ⟨(some 24), none, .pick (.t 18) (.c (.bool true)) (.t 23)⟩])
     (.cond (.t 24)
       (.reg [⟨(some 25), none, .mv (.t 5)⟩,
        ⟨(some 26), none, .mv (.t 0)⟩,
        ⟨(some 27), none, .mv (.t 6)⟩,
        ⟨(some 28), none, .ia 9 (.t 26) (.t 27)⟩,
        ⟨(some 29), none, .ld true 9 (.t 28)⟩,
        ⟨(some 30), none, .bs 9 [.int .i64 0, .int .i64 0, .int .i64 0, .int .i64 0, .int .i64 0, .int .i64 0, .str [], .str [], .str []] 1 [(0, (.t 29))]⟩,
        ⟨(some 31), none, .app 9 96 (.t 25) (.t 30)⟩,
        ⟨(some 5), none, .mv (.t 31)⟩])
       .skip)))
    (.reg [⟨(some 12), none, .mv (.t 6)⟩,
     ⟨(some 13), none, .bin .add (.t 12) (.c (.int .i64 1))⟩,
     ⟨(some 6), none, .mv (.t 13)⟩]))))))
  (.seq (.reg [⟨(some 32), none, .mv (.t 5)⟩,
   ⟨(some 4), none, .mv (.t 32)⟩])
  .ret))))
theorem k_spec_Without : FnOk Try.prog 17 33 rc_spec_Without [.t 4] := ⟨Try.f17, _, [], Try.func17, rfl, rfl, by kernel_rfl, by kernel_rfl, follows⟩
theorem ok_spec_Without : okF Try.prog 17 = true := by kernel_rfl
def rc_laws_toRec : RC :=
  (.seq (.reg [⟨(some 1), none, .bx (.t 0)⟩,
   ⟨(some 2), none, .al [.int .i64 0, .int .i64 0, .int .i64 0, .int .i64 0, .int .i64 0, .str [], .str [], .str []]⟩])
  (.seq (.reg [⟨(some 3), none, .al [.int .i64 0, .int .i64 0, .int .i64 0, .int .i64 0, .int .i64 0, .str [], .str [], .str []]⟩])
  (.seq (.reg [⟨(some 4), none, .fa 0 (.t 1)⟩,
   ⟨(some 5), none, .ld false 1 (.t 4)⟩,
   ⟨(some 6), none, .fa 0 (.t 3)⟩,
   ⟨none, none, .st 1 (.t 6) (.t 5)⟩])
  (.seq (.reg [⟨(some 7), none, .fa 1 (.t 1)⟩,
   ⟨(some 8), none, .ld false 1 (.t 7)⟩,
   ⟨(some 9), none, .fa 1 (.t 3)⟩,
   ⟨none, none, .st 1 (.t 9) (.t 8)⟩])
  (.seq (.reg [⟨(some 10), none, .fa 2 (.t 1)⟩,
   ⟨(some 11), none, .ld false 1 (.t 10)⟩,
   ⟨(some 12), none, .fa 2 (.t 3)⟩,
   ⟨none, none, .st 1 (.t 12) (.t 11)⟩])
  (.seq (.reg [⟨(some 13), none, .fa 3 (.t 1)⟩,
   ⟨(some 14), none, .ld false 1 (.t 13)⟩,
   ⟨(some 15), none, .fa 3 (.t 3)⟩,
   ⟨none, none, .st 1 (.t 15) (.t 14)⟩])
  (.seq (.reg [⟨(some 16), none, .fa 4 (.t 1)⟩,
   ⟨(some 17), none, .ld false 1 (.t 16)⟩,
   ⟨(some 18), none, .fa 4 (.t 3)⟩,
   ⟨none, none, .st 1 (.t 18) (.t 17)⟩])
  (.seq (.reg [⟨(some 19), none, .fa 5 (.t 1)⟩,
   ⟨(some 20), none, .ld false 1 (.t 19)⟩,
   ⟨(some 21), none, .fa 5 (.t 3)⟩,
   ⟨none, none, .st 1 (.t 21) (.t 20)⟩])
  (.seq (.reg [⟨(some 22), none, .fa 6 (.t 1)⟩,
   ⟨(some 23), none, .ld false 1 (.t 22)⟩,
   ⟨(some 24), none, .fa 6 (.t 3)⟩,
   ⟨none, none, .st 1 (.t 24) (.t 23)⟩])
  (.seq (.reg [⟨(some 25), none, .fa 7 (.t 1)⟩,
   ⟨(some 26), none, .ld false 1 (.t 25)⟩,
   ⟨(some 27), none, .fa 7 (.t 3)⟩,
   ⟨none, none, .st 1 (.t 27) (.t 26)⟩])
  (.seq (.reg [⟨(some 28), none, .ld true 8 (.t 3)⟩,
   ⟨none, none, .st 8 (.t 2) (.t 28)⟩])
  .ret)))))))))))
theorem k_laws_toRec : FnOk Try.prog 28 29 rc_laws_toRec [.cell 2 true 8] := ⟨Try.f28, _, [], Try.func28, rfl, rfl, by kernel_rfl, by kernel_rfl, follows⟩
theorem ok_laws_toRec : okF Try.prog 28 = true := by kernel_rfl
def rc_laws_toItem : RC :=
  (.seq (.reg [⟨(some 1), none, .bx (.t 0)⟩,
   ⟨(some 2), none, .al [.int .i64 0, .int .i64 0, .int .i64 0, .int .i64 0, .int .i64 0, .int .i64 0, .str [], .str [], .str []]⟩])
  (.seq (.reg [⟨(some 3), none, .al [.int .i64 0, .int .i64 0, .int .i64 0, .int .i64 0, .int .i64 0, .int .i64 0, .str [], .str [], .str []]⟩])
  (.seq (.reg [⟨(some 4), none, .fa 0 (.t 1)⟩,
   ⟨(some 5), none, .ld false 1 (.t 4)⟩,
   ⟨(some 6), none, .fa 0 (.t 3)⟩,
   ⟨none, none, .st 1 (.t 6) (.t 5)⟩])
  (.seq (.reg [⟨(some 7), none, .fa 1 (.t 1)⟩,
   ⟨(some 8), none, .ld true 8 (.t 7)⟩,
   ⟨(some 9), none, .cl (.c (.fn 28 [])) [(.t 8)]⟩,
   ⟨(some 10), none, .fa 1 (.t 3)⟩,
   ⟨none, none, .st 8 (.t 10) (.t 9)⟩])
  (.seq (.reg [⟨(some 11), none, .ld true 9 (.t 3)⟩,
   ⟨none, none, .st 9 (.t 2) (.t 11)⟩])
  .ret)))))
theorem k_laws_toItem : FnOk Try.prog 49 12 rc_laws_toItem [.cell 2 true 9] := ⟨Try.f49, _, [], Try.func49, rfl, rfl, by kernel_rfl, by kernel_rfl, follows⟩
theorem ok_laws_toItem : okF Try.prog 49 = true := by kernel_rfl
def rc_laws_toItemS : RC :=
  (.seq (.reg [⟨(some 2), none, .mv (.c (.nils))⟩])
  (.seq (.reg [⟨(some 5), none, .mv (.t 0)⟩,
   ⟨(some 6), none, .lenl (.t 5)⟩,
   ⟨(some 7), none, .ms 9 [.int .i64 0, .int .i64 0, .int .i64 0, .int .i64 0, .int .i64 0, .int .i64 0, .str [], .str [], .str []] 96 (.t 6) (.t 6)⟩,
   ⟨(some 3), none, .mv (.t 7)⟩])
  (.seq (.seq (.reg [⟨(some 4), none, .mv (.c (.int .i64 0))⟩])
  (.blk 0 (.loop (.seq (.seq (.reg [⟨(some 8), none, .mv (.t 4)⟩,
     ⟨(some 9), none, .mv (.t 0)⟩,
     ⟨(some 10), none, .lenl (.t 9)⟩,
     ⟨(some 11), none, .bin .lss (.t 8) (.t 10)⟩])
    (.cond (.t 11)
      .skip
      (.exit 0)))
    (.seq (.blk 1 (.reg [⟨(some 14), none, .mv (.t 3)⟩,
      ⟨(some 15), none, .mv (.t 4)⟩,
      ⟨(some 16), none, .mv (.t 0)⟩,
      ⟨(some 17), none, .mv (.t 4)⟩,
      ⟨(some 18), none, .ia 9 (.t 16) (.t 17)⟩,
      ⟨(some 19), none, .ld true 9 (.t 18)⟩,
      ⟨(some 20), none, .cl (.c (.fn 49 [])) [(.t 19)]⟩,
      ⟨(some 21), none, .ia 9 (.t 14) (.t 15)⟩,
      ⟨none, none, .st 9 (.t 21) (.t 20)⟩]))
    (.reg [⟨(some 12), none, .mv (.t 4)⟩,
     ⟨(some 13), none, .bin .add (.t 12) (.c (.int .i64 1))⟩,
     ⟨(some 4), none, .mv (.t 13)⟩]))))))
  (.seq (.reg [⟨(some 22), none, .mv (.t 3)⟩,
   ⟨(some 2), none, .mv (.t 22)⟩])
  .ret))))
theorem k_laws_toItemS : FnOk Try.prog 18 23 rc_laws_toItemS [.t 2] := ⟨Try.f18, _, [], Try.func18, rfl, rfl, by kernel_rfl, by kernel_rfl, follows⟩
theorem ok_laws_toItemS : okF Try.prog 18 = true := by kernel_rfl
def rc_laws_toBoolS : RC :=
  (.seq (.reg [⟨(some 2), none, .mv (.c (.nils))⟩])
  (.seq (.reg [⟨(some 5), none, .mv (.t 0)⟩,
   ⟨(some 6), none, .lenl (.t 5)⟩,
   ⟨(some 7), none, .ms 1 [.bool false] 1 (.t 6) (.t 6)⟩,
   ⟨(some 3), none, .mv (.t 7)⟩])
  (.seq (.seq (.reg [⟨(some 4), none, .mv (.c (.int .i64 0))⟩])
  (.blk 0 (.loop (.seq (.seq (.reg [⟨(some 8), none, .mv (.t 4)⟩,
     ⟨(some 9), none, .mv (.t 0)⟩,
     ⟨(some 10), none, .lenl (.t 9)⟩,
     ⟨(some 11), none, .bin .lss (.t 8) (.t 10)⟩])
    (.cond (.t 11)
      .skip
      (.exit 0)))
    (.seq (.blk 1 (.reg [⟨(some 14), none, .mv (.t 3)⟩,
      ⟨(some 15), none, .mv (.t 4)⟩,
      ⟨(some 16), none, .mv (.t 0)⟩,
      ⟨(some 17), none, .mv (.t 4)⟩,
      ⟨(some 18), none, .ia 1 (.t 16) (.t 17)⟩,
      ⟨(some 19), none, .ld false 1 (.t 18)⟩,
      ⟨(some 20), none, .ia 1 (.t 14) (.t 15)⟩,
      ⟨none, none, .st 1 (.t 20) (.t 19)⟩]))
    (.reg [⟨(some 12), none, .mv (.t 4)⟩,
     ⟨(some 13), none, .bin .add (.t 12) (.c (.int .i64 1))⟩,
     ⟨(some 4), none, .mv (.t 13)⟩]))))))
  (.seq (.reg [⟨(some 21), none, .mv (.t 3)⟩,
   ⟨(some 2), none, .mv (.t 21)⟩])
  .ret))))
theorem k_laws_toBoolS : FnOk Try.prog 19 22 rc_laws_toBoolS [.t 2] := ⟨Try.f19, _, [], Try.func19, rfl, rfl, by kernel_rfl, by kernel_rfl, follows⟩
theorem ok_laws_toBoolS : okF Try.prog 19 = true := by kernel_rfl
def rc_impl_dropped : RC :=
  (.seq (.reg [⟨(some 4), none, .mv (.c (.bool false))⟩])
  (.seq (.reg [⟨(some 5), none, .mv (.t 1)⟩,
   ⟨(some 6), none, .mv (.t 0)⟩,
   ⟨(some 7), none, .lenl (.t 6)⟩,
   ⟨(some 8), none, .bin .lss (.t 5) (.t 7)⟩,
   ⟨(some 9), none, .mv (.t 8)⟩,
   ⟨(some 10), (some (9, true)), .mv (.t 0)⟩,
   ⟨(some 11), (some (9, true)), .mv (.t 1)⟩,
   ⟨(some 12), (some (9, true)), .ia 1 (.t 10) (.t 11)⟩,
   ⟨(some 13), (some (9, true)), .ld false 1 (.t 12)⟩,
   ⟨(some 14), none, .pick (.t 9) (.t 13) (.c (.bool false))⟩,
   ⟨(some 4), none, .mv (.t 14)⟩])
  .ret))
theorem k_impl_dropped : FnOk Try.prog 50 15 rc_impl_dropped [.t 4] := ⟨Try.f50, _, [], Try.func50, rfl, rfl, by kernel_rfl, by kernel_rfl, follows⟩
theorem ok_impl_dropped : okF Try.prog 50 = true := by kernel_rfl
def rc_impl_Without : RC :=
  (.seq (.reg [⟨(some 4), none, .mv (.c (.nils))⟩])
  (.seq (.reg [⟨(some 8), none, .bs 9 [.int .i64 0, .int .i64 0, .int .i64 0, .int .i64 0, .int .i64 0, .int .i64 0, .str [], .str [], .str []] 0 []⟩,
   ⟨(some 5), none, .mv (.t 8)⟩])
  (.seq (.seq (.reg [⟨(some 9), none, .mv (.t 0)⟩,
   ⟨(some 10), none, .lenl (.t 9)⟩,
   ⟨(some 11), none, .mv (.c (.int .i64 0))⟩])
  (.blk 0 (.loop (.seq (.reg [⟨(some 12), none, .bin .lss (.t 11) (.t 10)⟩])
    (.seq (.cond (.t 12)
      .skip
      (.exit 0))
    (.seq (.blk 1 (.seq (.reg [⟨(some 13), none, .mv (.t 11)⟩,
      ⟨(some 14), none, .ia 9 (.t 9) (.t 11)⟩,
      ⟨(some 15), none, .ld true 9 (.t 14)⟩,
      ⟨(some 7), none, .al [.int .i64 0, .int .i64 0, .int .i64 0, .int .i64 0, .int .i64 0, .int .i64 0, .str [], .str [], .str []]⟩,
      ⟨(some 6), none, .mv (.t 13)⟩,
      ⟨none, none, .st 9 (.t 7) (.t 15)⟩])
     (.seq (.reg [⟨(some 16), none, .mv (.t 1)⟩,
      ⟨(some 17), none, .mv (.t 6)⟩,
      ⟨(some 18), none, .cl (.c (.fn 50 [])) [(.t 16), (.t 17)]⟩,
      ⟨(some 19), none, .un .not (.t 18)⟩])
     (.cond (.t 19)
       (.reg [⟨(some 20), none, .mv (.t 5)⟩,
        ⟨(some 21), none, .ld true 9 (.t 7)⟩,
        ⟨(some 22), none, .bs 9 [.int .i64 0, .int .i64 0, .int .i64 0, .int .i64 0, .int .i64 0, .int .i64 0, .str [], .str [], .str []] 1 [(0, (.t 21))]⟩,
        ⟨(some 23), none, .app 9 96 (.t 20) (.t 22)⟩,
        ⟨(some 5), none, .mv (.t 23)⟩])
       .skip))))
    (.reg [⟨(some 24), none, .bin .add (.t 11) (.c (.int .i64 1))⟩,
     ⟨(some 11), none, .mv (.t 24)⟩])))))))
  (.seq (.reg [⟨(some 25), none, .mv (.t 5)⟩,
   ⟨(some 4), none, .mv (.t 25)⟩])
  .ret))))
theorem k_impl_Without : FnOk Try.prog 20 26 rc_impl_Without [.t 4] := ⟨Try.f20, _, [], Try.func20, rfl, rfl, by kernel_rfl, by kernel_rfl, follows⟩
theorem ok_impl_Without : okF Try.prog 20 = true := by kernel_rfl
def rc_laws_eqRec : RC :=
  (.seq (.reg [⟨(some 2), none, .bx (.t 0)⟩,
   ⟨(some 3), none, .bx (.t 1)⟩,
   ⟨(some 4), none, .mv (.c (.bool false))⟩])
  (.seq (.seq (.reg [⟨(some 5), none, .fa 0 (.t 2)⟩,
   ⟨(some 6), none, .ld false 1 (.t 5)⟩,
   ⟨(some 7), none, .fa 0 (.t 3)⟩,
   ⟨(some 8), none, .ld false 1 (.t 7)⟩,
   ⟨(some 9), none, .bin .neq (.t 6) (.t 8)⟩])
  (.cond (.t 9)
    (.seq (.reg [⟨(some 4), none, .mv (.c (.bool false))⟩])
    .ret)
    .skip))
  (.seq (.seq (.reg [⟨(some 10), none, .fa 1 (.t 2)⟩,
   ⟨(some 11), none, .ld false 1 (.t 10)⟩,
   ⟨(some 12), none, .fa 1 (.t 3)⟩,
   ⟨(some 13), none, .ld false 1 (.t 12)⟩,
   ⟨(some 14), none, .bin .neq (.t 11) (.t 13)⟩])
  (.cond (.t 14)
    (.seq (.reg [⟨(some 4), none, .mv (.c (.bool false))⟩])
    .ret)
    .skip))
  (.seq (.seq (.reg [⟨(some 15), none, .fa 2 (.t 2)⟩,
   ⟨(some 16), none, .ld false 1 (.t 15)⟩,
   ⟨(some 17), none, .fa 2 (.t 3)⟩,
   ⟨(some 18), none, .ld false 1 (.t 17)⟩,
   ⟨(some 19), none, .bin .neq (.t 16) (.t 18)⟩])
  (.cond (.t 19)
    (.seq (.reg [⟨(some 4), none, .mv (.c (.bool false))⟩])
    .ret)
    .skip))
  (.seq (.seq (.reg [⟨(some 20), none, .fa 3 (.t 2)⟩,
   ⟨(some 21), none, .ld false 1 (.t 20)⟩,
   ⟨(some 22), none, .fa 3 (.t 3)⟩,
   ⟨(some 23), none, .ld false 1 (.t 22)⟩,
   ⟨(some 24), none, .bin .neq (.t 21) (.t 23)⟩])
  (.cond (.t 24)
    (.seq (.reg [⟨(some 4), none, .mv (.c (.bool false))⟩])
    .ret)
    .skip))
  (.seq (.seq (.reg [⟨(some 25), none, .fa 4 (.t 2)⟩,
   ⟨(some 26), none, .ld false 1 (.t 25)⟩,
   ⟨(some 27), none, .fa 4 (.t 3)⟩,
   ⟨(some 28), none, .ld false 1 (.t 27)⟩,
   ⟨(some 29), none, .bin .neq (.t 26) (.t 28)⟩])
  (.cond (.t 29)
    (.seq (.reg [⟨(some 4), none, .mv (.c (.bool false))⟩])
    .ret)
    .skip))
  (.seq (.seq (.reg [⟨(some 30), none, .fa 5 (.t 2)⟩,
   ⟨(some 31), none, .ld false 1 (.t 30)⟩,
   ⟨(some 32), none, .fa 5 (.t 3)⟩,
   ⟨(some 33), none, .ld false 1 (.t 32)⟩,
   ⟨(some 34), none, .bin .neq (.t 31) (.t 33)⟩])
  (.cond (.t 34)
    (.seq (.reg [⟨(some 4), none, .mv (.c (.bool false))⟩])
    .ret)
    .skip))
  (.seq (.seq (.reg [⟨(some 35), none, .fa 6 (.t 2)⟩,
   ⟨(some 36), none, .ld false 1 (.t 35)⟩,
   ⟨(some 37), none, .fa 6 (.t 3)⟩,
   ⟨(some 38), none, .ld false 1 (.t 37)⟩,
   ⟨(some 39), none, .bin .neq (.t 36) (.t 38)⟩])
  (.cond (.t 39)
    (.seq (.reg [⟨(some 4), none, .mv (.c (.bool false))⟩])
    .ret)
    .skip))
  (.seq (.seq (.reg [⟨(some 40), none, .fa 7 (.t 2)⟩,
   ⟨(some 41), none, .ld false 1 (.t 40)⟩,
   ⟨(some 42), none, .fa 7 (.t 3)⟩,
   ⟨(some 43), none, .ld false 1 (.t 42)⟩,
   ⟨(some 44), none, .bin .neq (.t 41) (.t 43)⟩])
  (.cond (.t 44)
    (.seq (.reg [⟨(some 4), none, .mv (.c (.bool false))⟩])
    .ret)
    .skip))
  (.seq (.reg [⟨(some 4), none, .mv (.c (.bool true))⟩])
  .ret))))))))))
theorem k_laws_eqRec : FnOk Try.prog 75 45 rc_laws_eqRec [.t 4] := ⟨Try.f75, _, [], Try.func75, rfl, rfl, by kernel_rfl, by kernel_rfl, follows⟩
theorem ok_laws_eqRec : okF Try.prog 75 = true := by kernel_rfl
def rc_laws_eqItem : RC :=
  (.seq (.reg [⟨(some 2), none, .bx (.t 0)⟩,
   ⟨(some 3), none, .bx (.t 1)⟩,
   ⟨(some 4), none, .mv (.c (.bool false))⟩])
  (.seq (.seq (.reg [⟨(some 5), none, .fa 0 (.t 2)⟩,
   ⟨(some 6), none, .ld false 1 (.t 5)⟩,
   ⟨(some 7), none, .fa 0 (.t 3)⟩,
   ⟨(some 8), none, .ld false 1 (.t 7)⟩,
   ⟨(some 9), none, .bin .neq (.t 6) (.t 8)⟩])
  (.cond (.t 9)
    (.seq (.reg [⟨(some 4), none, .mv (.c (.bool false))⟩])
    .ret)
    .skip))
  (.seq (.seq (.reg [⟨(some 10), none, .fa 1 (.t 2)⟩,
   ⟨(some 11), none, .ld true 8 (.t 10)⟩,
   ⟨(some 12), none, .fa 1 (.t 3)⟩,
   ⟨(some 13), none, .ld true 8 (.t 12)⟩,
   ⟨(some 14), none, .cl (.c (.fn 75 [])) [(.t 11), (.t 13)]⟩,
   ⟨(some 15), none, .un .not (.t 14)⟩])
  (.cond (.t 15)
    (.seq (.reg [⟨(some 4), none, .mv (.c (.bool false))⟩])
    .ret)
    .skip))
  (.seq (.reg [⟨(some 4), none, .mv (.c (.bool true))⟩])
  .ret))))
theorem k_laws_eqItem : FnOk Try.prog 51 16 rc_laws_eqItem [.t 4] := ⟨Try.f51, _, [], Try.func51, rfl, rfl, by kernel_rfl, by kernel_rfl, follows⟩
theorem ok_laws_eqItem : okF Try.prog 51 = true := by kernel_rfl
def rc_laws_eqItemS : RC :=
  (.seq (.reg [⟨(some 4), none, .mv (.c (.bool false))⟩])
  (.seq (.seq (.reg [⟨(some 6), none, .mv (.t 0)⟩,
   ⟨(some 7), none, .lenl (.t 6)⟩,
   ⟨(some 8), none, .mv (.t 1)⟩,
   ⟨(some 9), none, .lenl (.t 8)⟩,
   ⟨(some 10), none, .bin .neq (.t 7) (.t 9)⟩])
  (.cond (.t 10)
    (.seq (.reg [⟨(some 4), none, .mv (.c (.bool false))⟩])
    .ret)
    .skip))
  (.seq (.seq (.reg [⟨(some 5), none, .mv (.c (.int .i64 0))⟩])
  (.blk 0 (.loop (.seq (.seq (.reg [⟨(some 11), none, .mv (.t 5)⟩,
     ⟨(some 12), none, .mv (.t 0)⟩,
     ⟨(some 13), none, .lenl (.t 12)⟩,
     ⟨(some 14), none, .bin .lss (.t 11) (.t 13)⟩])
    (.cond (.t 14)
      .skip
      (.exit 0)))
    (.seq (.blk 1 (.seq (.drw [⟨(some 17), none, .mv (.t 0)⟩,
      ⟨(some 18), none, .mv (.t 5)⟩,
      ⟨(some 19), none, .ia 9 (.t 17) (.t 18)⟩,
      ⟨(some 20), none, .ld true 9 (.t 19)⟩,
      ⟨(some 21), none, .mv (.t 1)⟩,
      ⟨(some 22), none, .mv (.t 5)⟩,
      ⟨(some 23), none, .ia 9 (.t 21) (.t 22)⟩,
      ⟨(some 24), none, .ld true 9 (.t 23)⟩,
      ⟨(some 25), none, .cl (.c (.fn 51 [])) [(.t 20), (.t 24)]⟩,
      ⟨(some 26), none, .un .not (.t 25)⟩] [.val [], .val [], .val [], .val [], .val [], .val [], .val [], .val [], .val [], .val []])
     (.cond (.t 26)
       (.seq (.reg [⟨(some 4), none, .mv (.c (.bool false))⟩])
       .ret)
       .skip)))
    (.reg [⟨(some 15), none, .mv (.t 5)⟩,
     ⟨(some 16), none, .bin .add (.t 15) (.c (.int .i64 1))⟩,
     ⟨(some 5), none, .mv (.t 16)⟩]))))))
  (.seq (.reg [⟨(some 4), none, .mv (.c (.bool true))⟩])
  .ret))))
theorem k_laws_eqItemS : FnOk Try.prog 21 27 rc_laws_eqItemS [.t 4] := ⟨Try.f21, _, [], Try.func21, rfl, rfl, by kernel_rfl, by kernel_rfl, follows⟩
theorem ok_laws_eqItemS : okF Try.prog 21 = true := by kernel_rfl
def rc_laws_eqBoolS : RC :=
  (.seq (.reg [⟨(some 4), none, .mv (.c (.bool false))⟩])
  (.seq (.seq (.reg [⟨(some 6), none, .mv (.t 0)⟩,
   ⟨(some 7), none, .lenl (.t 6)⟩,
   ⟨(some 8), none, .mv (.t 1)⟩,
   ⟨(some 9), none, .lenl (.t 8)⟩,
   ⟨(some 10), none, .bin .neq (.t 7) (.t 9)⟩])
  (.cond (.t 10)
    (.seq (.reg [⟨(some 4), none, .mv (.c (.bool false))⟩])
    .ret)
    .skip))
  (.seq (.seq (.reg [⟨(some 5), none, .mv (.c (.int .i64 0))⟩])
  (.blk 0 (.loop (.seq (.seq (.reg [⟨(some 11), none, .mv (.t 5)⟩,
     ⟨(some 12), none, .mv (.t 0)⟩,
     ⟨(some 13), none, .lenl (.t 12)⟩,
     ⟨(some 14), none, .bin .lss (.t 11) (.t 13)⟩])
    (.cond (.t 14)
      .skip
      (.exit 0)))
    (.seq (.blk 1 (.seq (.drw [⟨(some 17), none, .mv (.t 0)⟩,
      ⟨(some 18), none, .mv (.t 5)⟩,
      ⟨(some 19), none, .ia 1 (.t 17) (.t 18)⟩,
      ⟨(some 20), none, .ld false 1 (.t 19)⟩,
      ⟨(some 21), none, .mv (.t 1)⟩,
      ⟨(some 22), none, .mv (.t 5)⟩,
      ⟨(some 23), none, .ia 1 (.t 21) (.t 22)⟩,
      ⟨(some 24), none, .ld false 1 (.t 23)⟩,
      ⟨(some 25), none, .eqb true (.t 20) (.t 24)⟩] [.val [], .val [], .val [], .val [], .val [], .val [], .val [], .val [], .val []])
     (.cond (.t 25)
       (.seq (.reg [⟨(some 4), none, .mv (.c (.bool false))⟩])
       .ret)
       .skip)))
    (.reg [⟨(some 15), none, .mv (.t 5)⟩,
     ⟨(some 16), none, .bin .add (.t 15) (.c (.int .i64 1))⟩,
     ⟨(some 5), none, .mv (.t 16)⟩]))))))
  (.seq (.reg [⟨(some 4), none, .mv (.c (.bool true))⟩])
  .ret))))
theorem k_laws_eqBoolS : FnOk Try.prog 22 26 rc_laws_eqBoolS [.t 4] := ⟨Try.f22, _, [], Try.func22, rfl, rfl, by kernel_rfl, by kernel_rfl, follows⟩
theorem ok_laws_eqBoolS : okF Try.prog 22 = true := by kernel_rfl
def rc_laws_markText : RC :=
  (.seq (.reg [⟨(some 2), none, .mv (.c (.str []))⟩])
  (.seq (.seq (.reg [⟨(some 4), none, .mv (.t 0)⟩,
   ⟨(some 5), none, .bin .leq (.t 4) (.c (.int .i64 0))⟩])
  (.cond (.t 5)
    (.seq (.reg [⟨(some 2), none, .mv (.c (.str [109, 48]))⟩])
    .ret)
    .skip))
  (.seq (.reg [⟨(some 3), none, .mv (.c (.str []))⟩])
  (.seq (.blk 0 (.loop (.seq (.seq (.reg [⟨(some 6), none, .mv (.t 0)⟩,
     ⟨(some 7), none, .bin .gtr (.t 6) (.c (.int .i64 0))⟩])
    (.cond (.t 7)
      .skip
      (.exit 0)))
    (.blk 1 (.seq (.reg [⟨(some 8), none, .mv (.t 0)⟩,
      ⟨(some 9), none, .bin .rem (.t 8) (.c (.int .i64 10))⟩,
      ⟨(some 10), none, .bin .add (.c (.int .i64 48)) (.t 9)⟩,
      ⟨(some 11), none, .cvi .u8 (.t 10)⟩,
      ⟨(some 12), none, .bs 1 [.int .u8 0] 1 [(0, (.t 11))]⟩,
      ⟨(some 13), none, .cvb (.t 12)⟩,
      ⟨(some 14), none, .mv (.t 3)⟩,
      ⟨(some 15), none, .bin .add (.t 13) (.t 14)⟩,
      ⟨(some 3), none, .mv (.t 15)⟩])
     (.reg [⟨(some 16), none, .mv (.t 0)⟩,
      ⟨(some 17), none, .bin .quo (.t 16) (.c (.int .i64 10))⟩,
      ⟨(some 0), none, .mv (.t 17)⟩]))))))
  (.seq (.reg [⟨(some 18), none, .mv (.t 3)⟩,
   ⟨(some 19), none, .bin .add (.c (.str [109])) (.t 18)⟩,
   ⟨(some 2), none, .mv (.t 19)⟩])
  .ret)))))
theorem k_laws_markText : FnOk Try.prog 52 20 rc_laws_markText [.t 2] := ⟨Try.f52, _, [], Try.func52, rfl, rfl, by kernel_rfl, by kernel_rfl, follows⟩
theorem ok_laws_markText : okF Try.prog 52 = true := by kernel_rfl
def rc_laws_markItemS : RC :=
  (.seq (.reg [⟨(some 4), none, .mv (.c (.int .i64 0))⟩])
  (.seq (.seq (.reg [⟨(some 5), none, .mv (.c (.int .i64 0))⟩])
  (.blk 0 (.loop (.seq (.seq (.reg [⟨(some 6), none, .mv (.t 5)⟩,
     ⟨(some 7), none, .mv (.t 0)⟩,
     ⟨(some 8), none, .lenl (.t 7)⟩,
     ⟨(some 9), none, .bin .lss (.t 6) (.t 8)⟩])
    (.cond (.t 9)
      .skip
      (.exit 0)))
    (.seq (.blk 1 (.seq (.reg [⟨(some 12), none, .mv (.t 0)⟩,
      ⟨(some 13), none, .mv (.t 5)⟩,
      ⟨(some 14), none, .mv (.t 1)⟩,
      ⟨(some 15), none, .ia 9 (.t 12) (.t 13)⟩,
      ⟨(some 16), none, .fa 0 (.t 15)⟩,
      ⟨none, none, .st 1 (.t 16) (.t 14)⟩])
     (.seq (.reg [⟨(some 17), none, .mv (.t 1)⟩,
      ⟨(some 18), none, .bin .add (.t 17) (.c (.int .i64 1))⟩,
      ⟨(some 1), none, .mv (.t 18)⟩])
     (.seq (.reg [⟨(some 19), none, .mv (.t 0)⟩,
      ⟨(some 20), none, .mv (.t 5)⟩,
      ⟨(some 21), none, .mv (.t 1)⟩,
      ⟨(some 22), none, .ia 9 (.t 19) (.t 20)⟩,
      ⟨(some 23), none, .fa 1 (.t 22)⟩,
      ⟨(some 24), none, .fa 0 (.t 23)⟩,
      ⟨none, none, .st 1 (.t 24) (.t 21)⟩])
     (.seq (.reg [⟨(some 25), none, .mv (.t 1)⟩,
      ⟨(some 26), none, .bin .add (.t 25) (.c (.int .i64 1))⟩,
      ⟨(some 1), none, .mv (.t 26)⟩])
     (.seq (.reg [⟨(some 27), none, .mv (.t 0)⟩,
      ⟨(some 28), none, .mv (.t 5)⟩,
      ⟨(some 29), none, .mv (.t 1)⟩,
      ⟨(some 30), none, .ia 9 (.t 27) (.t 28)⟩,
      ⟨(some 31), none, .fa 1 (.t 30)⟩,
      ⟨(some 32), none, .fa 1 (.t 31)⟩,
      ⟨none, none, .st 1 (.t 32) (.t 29)⟩])
     (.seq (.reg [⟨(some 33), none, .mv (.t 1)⟩,
      ⟨(some 34), none, .bin .add (.t 33) (.c (.int .i64 1))⟩,
      ⟨(some 1), none, .mv (.t 34)⟩])
     (.seq (.reg [⟨(some 35), none, .mv (.t 0)⟩,
      ⟨(some 36), none, .mv (.t 5)⟩,
      ⟨(some 37), none, .mv (.t 1)⟩,
      ⟨(some 38), none, .ia 9 (.t 35) (.t 36)⟩,
      ⟨(some 39), none, .fa 1 (.t 38)⟩,
      ⟨(some 40), none, .fa 2 (.t 39)⟩,
      ⟨none, none, .st 1 (.t 40) (.t 37)⟩])
     (.seq (.reg [⟨(some 41), none, .mv (.t 1)⟩,
      ⟨(some 42), none, .bin .add (.t 41) (.c (.int .i64 1))⟩,
      ⟨(some 1), none, .mv (.t 42)⟩])
     (.seq (.reg [⟨(some 43), none, .mv (.t 0)⟩,
      ⟨(some 44), none, .mv (.t 5)⟩,
      ⟨(some 45), none, .mv (.t 1)⟩,
      ⟨(some 46), none, .ia 9 (.t 43) (.t 44)⟩,
      ⟨(some 47), none, .fa 1 (.t 46)⟩,
      ⟨(some 48), none, .fa 3 (.t 47)⟩,
      ⟨none, none, .st 1 (.t 48) (.t 45)⟩])
     (.seq (.reg [⟨(some 49), none, .mv (.t 1)⟩,
      ⟨(some 50), none, .bin .add (.t 49) (.c (.int .i64 1))⟩,
      ⟨(some 1), none, .mv (.t 50)⟩])
     (.seq (.reg [⟨(some 51), none, .mv (.t 0)⟩,
      ⟨(some 52), none, .mv (.t 5)⟩,
      ⟨(some 53), none, .mv (.t 1)⟩,
      ⟨(some 54), none, .ia 9 (.t 51) (.t 52)⟩,
      ⟨(some 55), none, .fa 1 (.t 54)⟩,
      ⟨(some 56), none, .fa 4 (.t 55)⟩,
      ⟨none, none, .st 1 (.t 56) (.t 53)⟩])
     (.seq (.reg [⟨(some 57), none, .mv (.t 1)⟩,
      ⟨(some 58), none, .bin .add (.t 57) (.c (.int .i64 1))⟩,
      ⟨(some 1), none, .mv (.t 58)⟩])
     (.seq (.reg [⟨(some 59), none, .mv (.t 0)⟩,
      ⟨(some 60), none, .mv (.t 5)⟩,
      ⟨(some 61), none, .mv (.t 1)⟩,
      ⟨(some 62), none, .cl (.c (.fn 52 [])) [(.t 61)]⟩,
      ⟨(some 63), none, .ia 9 (.t 59) (.t 60)⟩,
      ⟨(some 64), none, .fa 1 (.t 63)⟩,
      ⟨(some 65), none, .fa 5 (.t 64)⟩,
      ⟨none, none, .st 1 (.t 65) (.t 62)⟩])
     (.seq (.reg [⟨(some 66), none, .mv (.t 1)⟩,
      ⟨(some 67), none, .bin .add (.t 66) (.c (.int .i64 1))⟩,
      ⟨(some 1), none, .mv (.t 67)⟩])
     (.seq (.reg [⟨(some 68), none, .mv (.t 0)⟩,
      ⟨(some 69), none, .mv (.t 5)⟩,
      ⟨(some 70), none, .mv (.t 1)⟩,
      ⟨(some 71), none, .cl (.c (.fn 52 [])) [(.t 70)]⟩,
      ⟨(some 72), none, .ia 9 (.t 68) (.t 69)⟩,
      ⟨(some 73), none, .fa 1 (.t 72)⟩,
      ⟨(some 74), none, .fa 6 (.t 73)⟩,
      ⟨none, none, .st 1 (.t 74) (.t 71)⟩])
     (.seq (.reg [⟨(some 75), none, .mv (.t 1)⟩,
      ⟨(some 76), none, .bin .add (.t 75) (.c (.int .i64 1))⟩,
      ⟨(some 1), none, .mv (.t 76)⟩])
     (.seq (.reg [⟨(some 77), none, .mv (.t 0)⟩,
      ⟨(some 78), none, .mv (.t 5)⟩,
      ⟨(some 79), none, .mv (.t 1)⟩,
      ⟨(some 80), none, .cl (.c (.fn 52 [])) [(.t 79)]⟩,
      ⟨(some 81), none, .ia 9 (.t 77) (.t 78)⟩,
      ⟨(some 82), none, .fa 1 (.t 81)⟩,
      ⟨(some 83), none, .fa 7 (.t 82)⟩,
      ⟨none, none, .st 1 (.t 83) (.t 80)⟩])
     (.reg [⟨(some 84), none, .mv (.t 1)⟩,
      ⟨(some 85), none, .bin .add (.t 84) (.c (.int .i64 1))⟩,
      ⟨(some 1), none, .mv (.t 85)⟩])))))))))))))))))))
    (.reg [⟨(some 10), none, .mv (.t 5)⟩,
     ⟨(some 11), none, .bin .add (.t 10) (.c (.int .i64 1))⟩,
     ⟨(some 5), none, .mv (.t 11)⟩]))))))
  (.seq (.reg [⟨(some 86), none, .mv (.t 1)⟩,
   ⟨(some 4), none, .mv (.t 86)⟩])
  .ret)))
theorem k_laws_markItemS : FnOk Try.prog 23 87 rc_laws_markItemS [.t 4] := ⟨Try.f23, _, [], Try.func23, rfl, rfl, by kernel_rfl, by kernel_rfl, follows⟩
theorem ok_laws_markItemS : okF Try.prog 23 = true := by kernel_rfl
def rc_laws_markBoolS : RC :=
  (.seq (.reg [⟨(some 4), none, .mv (.c (.int .i64 0))⟩])
  (.seq (.seq (.reg [⟨(some 5), none, .mv (.c (.int .i64 0))⟩])
  (.blk 0 (.loop (.seq (.seq (.reg [⟨(some 6), none, .mv (.t 5)⟩,
     ⟨(some 7), none, .mv (.t 0)⟩,
     ⟨(some 8), none, .lenl (.t 7)⟩,
     ⟨(some 9), none, .bin .lss (.t 6) (.t 8)⟩])
    (.cond (.t 9)
      .skip
      (.exit 0)))
    (.seq (.blk 1 (.seq (.reg [⟨(some 12), none, .mv (.t 0)⟩,
      ⟨(some 13), none, .mv (.t 5)⟩,
      ⟨(some 14), none, .mv (.t 1)⟩,
      ⟨(some 15), none, .bin .rem (.t 14) (.c (.int .i64 3))⟩,
      ⟨(some 16), none, .bin .eql (.t 15) (.c (.int .i64 0))⟩,
      ⟨(some 17), none, .ia 1 (.t 12) (.t 13)⟩,
      ⟨none, none, .st 1 (.t 17) (.t 16)⟩])
     (.reg [⟨(some 18), none, .mv (.t 1)⟩,
      ⟨(some 19), none, .bin .add (.t 18) (.c (.int .i64 1))⟩,
      ⟨(some 1), none, .mv (.t 19)⟩])))
    (.reg [⟨(some 10), none, .mv (.t 5)⟩,
     ⟨(some 11), none, .bin .add (.t 10) (.c (.int .i64 1))⟩,
     ⟨(some 5), none, .mv (.t 11)⟩]))))))
  (.seq (.reg [⟨(some 20), none, .mv (.t 1)⟩,
   ⟨(some 4), none, .mv (.t 20)⟩])
  .ret)))
theorem k_laws_markBoolS : FnOk Try.prog 24 21 rc_laws_markBoolS [.t 4] := ⟨Try.f24, _, [], Try.func24, rfl, rfl, by kernel_rfl, by kernel_rfl, follows⟩
theorem ok_laws_markBoolS : okF Try.prog 24 = true := by kernel_rfl
def rc_laws_heldItemS : RC :=
  (.seq (.reg [⟨(some 4), none, .mv (.c (.int .i64 0))⟩])
  (.seq (.seq (.reg [⟨(some 5), none, .mv (.c (.int .i64 0))⟩])
  (.blk 0 (.loop (.seq (.seq (.reg [⟨(some 6), none, .mv (.t 5)⟩,
     ⟨(some 7), none, .mv (.t 0)⟩,
     ⟨(some 8), none, .lenl (.t 7)⟩,
     ⟨(some 9), none, .bin .lss (.t 6) (.t 8)⟩])
    (.cond (.t 9)
      .skip
      (.exit 0)))
    (.seq (.blk 1 (.seq (.seq (.reg [⟨(some 12), none, .mv (.t 0)⟩,
      ⟨(some 13), none, .mv (.t 5)⟩,
      ⟨(some 14), none, .ia 9 (.t 12) (.t 13)⟩,
      ⟨(some 15), none, .fa 0 (.t 14)⟩,
      ⟨(some 16), none, .ld false 1 (.t 15)⟩,
      ⟨(some 17), none, .mv (.t 1)⟩,
      ⟨(some 18), none, .bin .neq (.t 16) (.t 17)⟩])
     (.cond (.t 18)
       (.seq (.reg [⟨(some 4), none, .mv (.c (.int .i64 (-1)))⟩])
       .ret)
       .skip))
     (.seq (.reg [⟨(some 19), none, .mv (.t 1)⟩,
      ⟨(some 20), none, .bin .add (.t 19) (.c (.int .i64 1))⟩,
      ⟨(some 1), none, .mv (.t 20)⟩])
     (.seq (.seq (.reg [⟨(some 21), none, .mv (.t 0)⟩,
      ⟨(some 22), none, .mv (.t 5)⟩,
      ⟨(some 23), none, .ia 9 (.t 21) (.t 22)⟩,
      ⟨(some 24), none, .fa 1 (.t 23)⟩,
      ⟨(some 25), none, .fa 0 (.t 24)⟩,
      ⟨(some 26), none, .ld false 1 (.t 25)⟩,
      ⟨(some 27), none, .mv (.t 1)⟩,
      ⟨(some 28), none, .bin .neq (.t 26) (.t 27)⟩])
     (.cond (.t 28)
       (.seq (.reg [⟨(some 4), none, .mv (.c (.int .i64 (-1)))⟩])
       .ret)
       .skip))
     (.seq (.reg [⟨(some 29), none, .mv (.t 1)⟩,
      ⟨(some 30), none, .bin .add (.t 29) (.c (.int .i64 1))⟩,
      ⟨(some 1), none, .mv (.t 30)⟩])
     (.seq (.seq (.reg [⟨(some 31), none, .mv (.t 0)⟩,
      ⟨(some 32), none, .mv (.t 5)⟩,
      ⟨(some 33), none, .ia 9 (.t 31) (.t 32)⟩,
      ⟨(some 34), none, .fa 1 (.t 33)⟩,
      ⟨(some 35), none, .fa 1 (.t 34)⟩,
      ⟨(some 36), none, .ld false 1 (.t 35)⟩,
      ⟨(some 37), none, .mv (.t 1)⟩,
      ⟨(some 38), none, .bin .neq (.t 36) (.t 37)⟩])
     (.cond (.t 38)
       (.seq (.reg [⟨(some 4), none, .mv (.c (.int .i64 (-1)))⟩])
       .ret)
       .skip))
     (.seq (.reg [⟨(some 39), none, .mv (.t 1)⟩,
      ⟨(some 40), none, .bin .add (.t 39) (.c (.int .i64 1))⟩,
      ⟨(some 1), none, .mv (.t 40)⟩])
     (.seq (.seq (.reg [⟨(some 41), none, .mv (.t 0)⟩,
      ⟨(some 42), none, .mv (.t 5)⟩,
      ⟨(some 43), none, .ia 9 (.t 41) (.t 42)⟩,
      ⟨(some 44), none, .fa 1 (.t 43)⟩,
      ⟨(some 45), none, .fa 2 (.t 44)⟩,
      ⟨(some 46), none, .ld false 1 (.t 45)⟩,
      ⟨(some 47), none, .mv (.t 1)⟩,
      ⟨(some 48), none, .bin .neq (.t 46) (.t 47)⟩])
     (.cond (.t 48)
       (.seq (.reg [⟨(some 4), none, .mv (.c (.int .i64 (-1)))⟩])
       .ret)
       .skip))
     (.seq (.reg [⟨(some 49), none, .mv (.t 1)⟩,
      ⟨(some 50), none, .bin .add (.t 49) (.c (.int .i64 1))⟩,
      ⟨(some 1), none, .mv (.t 50)⟩])
     (.seq (.seq (.reg [⟨(some 51), none, .mv (.t 0)⟩,
      ⟨(some 52), none, .mv (.t 5)⟩,
      ⟨(some 53), none, .ia 9 (.t 51) (.t 52)⟩,
      ⟨(some 54), none, .fa 1 (.t 53)⟩,
      ⟨(some 55), none, .fa 3 (.t 54)⟩,
      ⟨(some 56), none, .ld false 1 (.t 55)⟩,
      ⟨(some 57), none, .mv (.t 1)⟩,
      ⟨(some 58), none, .bin .neq (.t 56) (.t 57)⟩])
     (.cond (.t 58)
       (.seq (.reg [⟨(some 4), none, .mv (.c (.int .i64 (-1)))⟩])
       .ret)
       .skip))
     (.seq (.reg [⟨(some 59), none, .mv (.t 1)⟩,
      ⟨(some 60), none, .bin .add (.t 59) (.c (.int .i64 1))⟩,
      ⟨(some 1), none, .mv (.t 60)⟩])
     (.seq (.seq (.reg [⟨(some 61), none, .mv (.t 0)⟩,
      ⟨(some 62), none, .mv (.t 5)⟩,
      ⟨(some 63), none, .ia 9 (.t 61) (.t 62)⟩,
      ⟨(some 64), none, .fa 1 (.t 63)⟩,
      ⟨(some 65), none, .fa 4 (.t 64)⟩,
      ⟨(some 66), none, .ld false 1 (.t 65)⟩,
      ⟨(some 67), none, .mv (.t 1)⟩,
      ⟨(some 68), none, .bin .neq (.t 66) (.t 67)⟩])
     (.cond (.t 68)
       (.seq (.reg [⟨(some 4), none, .mv (.c (.int .i64 (-1)))⟩])
       .ret)
       .skip))
     (.seq (.reg [⟨(some 69), none, .mv (.t 1)⟩,
      ⟨(some 70), none, .bin .add (.t 69) (.c (.int .i64 1))⟩,
      ⟨(some 1), none, .mv (.t 70)⟩])
     (.seq (.seq (.drw [⟨(some 71), none, .mv (.t 0)⟩,
      ⟨(some 72), none, .mv (.t 5)⟩,
      ⟨(some 73), none, .ia 9 (.t 71) (.t 72)⟩,
      ⟨(some 74), none, .fa 1 (.t 73)⟩,
      ⟨(some 75), none, .fa 5 (.t 74)⟩,
      ⟨(some 76), none, .ld false 1 (.t 75)⟩,
      ⟨(some 77), none, .mv (.t 1)⟩,
      ⟨(some 78), none, .cl (.c (.fn 52 [])) [(.t 77)]⟩,
      ⟨(some 79), none, .bin .neq (.t 76) (.t 78)⟩] [.val [], .val [], .val [], .val [], .val [], .val [], .val [], .val [], .val []])
     (.cond (.t 79)
       (.seq (.reg [⟨(some 4), none, .mv (.c (.int .i64 (-1)))⟩])
       .ret)
       .skip))
     (.seq (.reg [⟨(some 80), none, .mv (.t 1)⟩,
      ⟨(some 81), none, .bin .add (.t 80) (.c (.int .i64 1))⟩,
      ⟨(some 1), none, .mv (.t 81)⟩])
     (.seq (.seq (.drw [⟨(some 82), none, .mv (.t 0)⟩,
      ⟨(some 83), none, .mv (.t 5)⟩,
      ⟨(some 84), none, .ia 9 (.t 82) (.t 83)⟩,
      ⟨(some 85), none, .fa 1 (.t 84)⟩,
      ⟨(some 86), none, .fa 6 (.t 85)⟩,
      ⟨(some 87), none, .ld false 1 (.t 86)⟩,
      ⟨(some 88), none, .mv (.t 1)⟩,
      ⟨(some 89), none, .cl (.c (.fn 52 [])) [(.t 88)]⟩,
      ⟨(some 90), none, .bin .neq (.t 87) (.t 89)⟩] [.val [], .val [], .val [], .val [], .val [], .val [], .val [], .val [], .val []])
     (.cond (.t 90)
       (.seq (.reg [⟨(some 4), none, .mv (.c (.int .i64 (-1)))⟩])
       .ret)
       .skip))
     (.seq (.reg [⟨(some 91), none, .mv (.t 1)⟩,
      ⟨(some 92), none, .bin .add (.t 91) (.c (.int .i64 1))⟩,
      ⟨(some 1), none, .mv (.t 92)⟩])
     (.seq (.seq (.drw [⟨(some 93), none, .mv (.t 0)⟩,
      ⟨(some 94), none, .mv (.t 5)⟩,
      ⟨(some 95), none, .ia 9 (.t 93) (.t 94)⟩,
      ⟨(some 96), none, .fa 1 (.t 95)⟩,
      ⟨(some 97), none, .fa 7 (.t 96)⟩,
      ⟨(some 98), none, .ld false 1 (.t 97)⟩,
      ⟨(some 99), none, .mv (.t 1)⟩,
      ⟨(some 100), none, .cl (.c (.fn 52 [])) [(.t 99)]⟩,
      ⟨(some 101), none, .bin .neq (.t 98) (.t 100)⟩] [.val [], .val [], .val [], .val [], .val [], .val [], .val [], .val [], .val []])
     (.cond (.t 101)
       (.seq (.reg [⟨(some 4), none, .mv (.c (.int .i64 (-1)))⟩])
       .ret)
       .skip))
     (.reg [⟨(some 102), none, .mv (.t 1)⟩,
      ⟨(some 103), none, .bin .add (.t 102) (.c (.int .i64 1))⟩,
      ⟨(some 1), none, .mv (.t 103)⟩])))))))))))))))))))
    (.reg [⟨(some 10), none, .mv (.t 5)⟩,
     ⟨(some 11), none, .bin .add (.t 10) (.c (.int .i64 1))⟩,
     ⟨(some 5), none, .mv (.t 11)⟩]))))))
  (.seq (.reg [⟨(some 104), none, .mv (.t 1)⟩,
   ⟨(some 4), none, .mv (.t 104)⟩])
  .ret)))
theorem k_laws_heldItemS : FnOk Try.prog 25 105 rc_laws_heldItemS [.t 4] := ⟨Try.f25, _, [], Try.func25, rfl, rfl, by kernel_rfl, by kernel_rfl, follows⟩
theorem ok_laws_heldItemS : okF Try.prog 25 = true := by kernel_rfl
def rc_laws_FnExactWithout : RC :=
  (.seq (.reg [⟨(some 4), none, .mv (.c (.bool false))⟩])
  (.seq (.seq (.reg [⟨(some 14), none, .mv (.t 1)⟩,
   ⟨(some 15), none, .lenl (.t 14)⟩,
   ⟨(some 16), none, .bin .gtr (.t 15) (.c (.int .i64 1048576))⟩])
  (.cond (.t 16)
    (.seq (.reg [⟨(some 4), none, .mv (.c (.bool true))⟩])
    .ret)
    .skip))
  (.seq (.reg [⟨(some 5), none, .mv (.c (.int .i64 1048576))⟩])
  (.seq (.reg [⟨(some 17), none, .mv (.t 0)⟩,
   ⟨(some 18), none, .mv (.t 5)⟩,
   ⟨(some 19), none, .cl (.c (.fn 16 [])) [(.t 17), (.t 18)]⟩,
   ⟨(some 5), none, .mv (.t 19)⟩])
  (.seq (.seq (.reg [⟨(some 20), none, .mv (.t 5)⟩,
   ⟨(some 21), none, .bin .lss (.t 20) (.c (.int .i64 0))⟩])
  (.cond (.t 21)
    (.seq (.reg [⟨(some 4), none, .mv (.c (.bool true))⟩])
    .ret)
    .skip))
  (.seq (.reg [⟨(some 22), none, .mv (.t 0)⟩,
   ⟨(some 23), none, .cl (.c (.fn 18 [])) [(.t 22)]⟩,
   ⟨(some 24), none, .mv (.t 1)⟩,
   ⟨(some 25), none, .cl (.c (.fn 19 [])) [(.t 24)]⟩,
   ⟨(some 26), none, .cl (.c (.fn 17 [])) [(.t 23), (.t 25)]⟩,
   ⟨(some 6), none, .mv (.t 26)⟩])
  (.seq (.reg [⟨(some 27), none, .mv (.t 0)⟩,
   ⟨(some 28), none, .cl (.c (.fn 18 [])) [(.t 27)]⟩,
   ⟨(some 7), none, .mv (.t 28)⟩])
  (.seq (.reg [⟨(some 29), none, .mv (.t 1)⟩,
   ⟨(some 30), none, .cl (.c (.fn 19 [])) [(.t 29)]⟩,
   ⟨(some 8), none, .mv (.t 30)⟩])
  (.seq (.reg [⟨(some 31), none, .mv (.t 7)⟩,
   ⟨(some 32), none, .mv (.t 8)⟩,
   ⟨(some 33), none, .cl (.c (.fn 20 [])) [(.t 31), (.t 32)]⟩,
   ⟨(some 9), none, .mv (.t 33)⟩])
  (.seq (.seq (.reg [⟨(some 34), none, .mv (.t 9)⟩,
   ⟨(some 35), none, .mv (.t 6)⟩,
   ⟨(some 36), none, .cl (.c (.fn 21 [])) [(.t 34), (.t 35)]⟩,
   ⟨(some 37), none, .un .not (.t 36)⟩])
  (.cond (.t 37)
    (.seq (.reg [⟨(some 4), none, .mv (.c (.bool false))⟩])
    .ret)
    .skip))
  (.seq (.seq (.reg [⟨(some 38), none, .mv (.t 7)⟩,
   ⟨(some 39), none, .mv (.t 0)⟩,
   ⟨(some 40), none, .cl (.c (.fn 18 [])) [(.t 39)]⟩,
   ⟨(some 41), none, .cl (.c (.fn 21 [])) [(.t 38), (.t 40)]⟩,
   ⟨(some 42), none, .un .not (.t 41)⟩])
  (.cond (.t 42)
    (.seq (.reg [⟨(some 4), none, .mv (.c (.bool false))⟩])
    .ret)
    .skip))
  (.seq (.seq (.reg [⟨(some 43), none, .mv (.t 8)⟩,
   ⟨(some 44), none, .mv (.t 1)⟩,
   ⟨(some 45), none, .cl (.c (.fn 19 [])) [(.t 44)]⟩,
   ⟨(some 46), none, .cl (.c (.fn 22 [])) [(.t 43), (.t 45)]⟩,
   ⟨(some 47), none, .un .not (.t 46)⟩])
  (.cond (.t 47)
    (.seq (.reg [⟨(some 4), none, .mv (.c (.bool false))⟩])
    .ret)
    .skip))
  (.seq (.reg [⟨(some 10), none, .mv (.c (.int .i64 1))⟩])
  (.seq (.reg [⟨(some 48), none, .mv (.t 7)⟩,
   ⟨(some 49), none, .mv (.t 10)⟩,
   ⟨(some 50), none, .cl (.c (.fn 23 [])) [(.t 48), (.t 49)]⟩,
   ⟨(some 10), none, .mv (.t 50)⟩])
  (.seq (.reg [⟨(some 51), none, .mv (.t 8)⟩,
   ⟨(some 52), none, .mv (.t 10)⟩,
   ⟨(some 53), none, .cl (.c (.fn 24 [])) [(.t 51), (.t 52)]⟩,
   ⟨(some 10), none, .mv (.t 53)⟩])
  (.seq (.seq (.reg [⟨(some 54), none, .mv (.t 10)⟩,
   ⟨(some 55), none, .bin .lss (.t 54) (.c (.int .i64 0))⟩,
   ⟨(some 56), none, .mv (.t 55)⟩,
   ⟨(some 57), (some (56, false)), .mv (.t 9)⟩,
   ⟨(some 58), (some (56, false)), .mv (.t 6)⟩,
   ⟨(some 59), (some (56, false)), .cl (.c (.fn 21 [])) [(.t 57), (.t 58)]⟩,
   ⟨(some 60), (some (56, false)), .un .not (.t 59)⟩,
   ⟨(some 61), none, .pick (.t 56) (.c (.bool true)) (.t 60)⟩])
  (.cond (.t 61)
    (.seq (.reg [⟨(some 4), none, .mv (.c (.bool false))⟩])
    .ret)
    .skip))
  (.seq (.reg [⟨(some 11), none, .mv (.c (.int .i64 1))⟩])
  (.seq (.reg [⟨(some 62), none, .mv (.t 9)⟩,
   ⟨(some 63), none, .mv (.t 11)⟩,
   ⟨(some 64), none, .cl (.c (.fn 23 [])) [(.t 62), (.t 63)]⟩,
   ⟨(some 11), none, .mv (.t 64)⟩])
  (.seq (.reg [⟨(some 12), none, .mv (.c (.int .i64 1))⟩])
  (.seq (.reg [⟨(some 65), none, .mv (.t 9)⟩,
   ⟨(some 66), none, .mv (.t 12)⟩,
   ⟨(some 67), none, .cl (.c (.fn 25 [])) [(.t 65), (.t 66)]⟩,
   ⟨(some 12), none, .mv (.t 67)⟩])
  (.seq (.seq (.reg [⟨(some 68), none, .mv (.t 12)⟩,
   ⟨(some 69), none, .bin .lss (.t 68) (.c (.int .i64 0))⟩])
  (.cond (.t 69)
    (.seq (.reg [⟨(some 4), none, .mv (.c (.bool false))⟩])
    .ret)
    .skip))
  (.seq (.seq (.reg [⟨(some 70), none, .mv (.t 12)⟩,
   ⟨(some 71), none, .mv (.t 11)⟩,
   ⟨(some 72), none, .bin .neq (.t 70) (.t 71)⟩])
  (.cond (.t 72)
    (.seq (.reg [⟨(some 4), none, .mv (.c (.bool false))⟩])
    .ret)
    .skip))
  (.seq (.reg [⟨(some 73), none, .mv (.t 0)⟩,
   ⟨(some 74), none, .cl (.c (.fn 18 [])) [(.t 73)]⟩,
   ⟨(some 75), none, .mv (.t 1)⟩,
   ⟨(some 76), none, .cl (.c (.fn 19 [])) [(.t 75)]⟩,
   ⟨(some 77), none, .cl (.c (.fn 20 [])) [(.t 74), (.t 76)]⟩,
   ⟨(some 13), none, .mv (.t 77)⟩])
  (.seq (.seq (.reg [⟨(some 78), none, .mv (.t 13)⟩,
   ⟨(some 79), none, .mv (.t 6)⟩,
   ⟨(some 80), none, .cl (.c (.fn 21 [])) [(.t 78), (.t 79)]⟩,
   ⟨(some 81), none, .un .not (.t 80)⟩])
  (.cond (.t 81)
    (.seq (.reg [⟨(some 4), none, .mv (.c (.bool false))⟩])
    .ret)
    .skip))
  (.seq (.reg [⟨(some 12), none, .mv (.c (.int .i64 1))⟩])
  (.seq (.reg [⟨(some 82), none, .mv (.t 9)⟩,
   ⟨(some 83), none, .mv (.t 12)⟩,
   ⟨(some 84), none, .cl (.c (.fn 25 [])) [(.t 82), (.t 83)]⟩,
   ⟨(some 12), none, .mv (.t 84)⟩])
  (.seq (.seq (.reg [⟨(some 85), none, .mv (.t 12)⟩,
   ⟨(some 86), none, .bin .lss (.t 85) (.c (.int .i64 0))⟩])
  (.cond (.t 86)
    (.seq (.reg [⟨(some 4), none, .mv (.c (.bool false))⟩])
    .ret)
    .skip))
  (.seq (.seq (.reg [⟨(some 87), none, .mv (.t 12)⟩,
   ⟨(some 88), none, .mv (.t 11)⟩,
   ⟨(some 89), none, .bin .neq (.t 87) (.t 88)⟩])
  (.cond (.t 89)
    (.seq (.reg [⟨(some 4), none, .mv (.c (.bool false))⟩])
    .ret)
    .skip))
  (.seq (.reg [⟨(some 4), none, .mv (.c (.bool true))⟩])
  .ret)))))))))))))))))))))))))))))
theorem k_laws_FnExactWithout : FnOk Try.prog 5 90 rc_laws_FnExactWithout [.t 4] := ⟨Try.f5, _, [], Try.func5, rfl, rfl, by kernel_rfl, by kernel_rfl, follows⟩
theorem ok_laws_FnExactWithout : okF Try.prog 5 = true := by kernel_rfl
end Go.Proofs.Ytpecafogemipmaa.V
