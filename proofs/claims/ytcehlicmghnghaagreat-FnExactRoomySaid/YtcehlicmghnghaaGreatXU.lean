/- The functions' texts. -/
import Derived.Test.YtcehlicmghnghaaGreatXE
import Derived.Test.YtcehlicmghnghaaGreatProg
import Derived.KernelRfl
import Derived.Shelf.Sort.Plain
import Derived.Shelf.Slices.In.SortNone
import Derived.Shelf.Slices.CompactI
/- The functions' texts. -/
namespace Go.Proofs.YtcehlicmghnghaaGreat.V
open Go Go.Proofs Go.RowKit
set_option maxRecDepth 100000
theorem follows : Tryz.prog.follows .mixedOrders = true := by kernel_rfl
def rc_laws_eqIntS : RC :=
 (.seq (.reg [oo 4 (.mv (.c (.bool false)))])
 (.seq (.seq (.reg [om 6 0, oo 7 (.lenl (.t 6)), om 8 1, oo 9 (.lenl (.t 8)), oo 10 (.bin .neq (.t 7) (.t 9))])
 (.cond (.t 10) (.seq (.reg [oo 4 (.mv (.c (.bool false)))])
 .ret)
 .skip))
 (.seq (.seq (.reg [oo 5 (.mv (.c (.j 0)))])
 (.blk 0 (.loop (.seq (.seq (.reg [om 11 5, om 12 0, oo 13 (.lenl (.t 12)), oo 14 (.bin .lss (.t 11) (.t 13))])
 (.cond (.t 14) .skip
 (.exit 0)))
 (.seq (.blk 1 (.seq (.drw [om 17 0, om 18 5, oo 19 (.ia 1 (.t 17) (.t 18)), oo 20 (.ld false 1 (.t 19)), om 21 1, om 22 5, oo 23 (.ia 1 (.t 21) (.t 22)), oo 24 (.ld false 1 (.t 23)), oo 25 (.bin .neq (.t 20) (.t 24))] [.val [], .val [], .val [], .val [], .val [], .val [], .val [], .val [], .val []])
 (.cond (.t 25) (.seq (.reg [oo 4 (.mv (.c (.bool false)))])
 .ret)
 .skip)))
 (.reg [om 15 5, oo 16 (.bin .add (.t 15) (.c (.j 1))), om 5 16]))))))
 (.seq (.reg [oo 4 (.mv (.c (.bool true)))])
 .ret))))
theorem k_laws_eqIntS : FnOk Tryz.prog 44 26 rc_laws_eqIntS [.t 4] := ⟨Tryz.f44, _, [], Tryz.func44, rfl, rfl, by kernel_rfl, by kernel_rfl, follows⟩
theorem ok_laws_eqIntS : okF Tryz.prog 44 = true := by kernel_rfl
def rc_laws_eqStringS : RC :=
 (.seq (.reg [oo 4 (.mv (.c (.bool false)))])
 (.seq (.seq (.reg [om 6 0, oo 7 (.lenl (.t 6)), om 8 1, oo 9 (.lenl (.t 8)), oo 10 (.bin .neq (.t 7) (.t 9))])
 (.cond (.t 10) (.seq (.reg [oo 4 (.mv (.c (.bool false)))])
 .ret)
 .skip))
 (.seq (.seq (.reg [oo 5 (.mv (.c (.j 0)))])
 (.blk 0 (.loop (.seq (.seq (.reg [om 11 5, om 12 0, oo 13 (.lenl (.t 12)), oo 14 (.bin .lss (.t 11) (.t 13))])
 (.cond (.t 14) .skip
 (.exit 0)))
 (.seq (.blk 1 (.seq (.drw [om 17 0, om 18 5, oo 19 (.ia 1 (.t 17) (.t 18)), oo 20 (.ld false 1 (.t 19)), om 21 1, om 22 5, oo 23 (.ia 1 (.t 21) (.t 22)), oo 24 (.ld false 1 (.t 23)), oo 25 (.bin .neq (.t 20) (.t 24))] [.val [], .val [], .val [], .val [], .val [], .val [], .val [], .val [], .val []])
 (.cond (.t 25) (.seq (.reg [oo 4 (.mv (.c (.bool false)))])
 .ret)
 .skip)))
 (.reg [om 15 5, oo 16 (.bin .add (.t 15) (.c (.j 1))), om 5 16]))))))
 (.seq (.reg [oo 4 (.mv (.c (.bool true)))])
 .ret))))
theorem k_laws_eqStringS : FnOk Tryz.prog 82 26 rc_laws_eqStringS [.t 4] := ⟨Tryz.f82, _, [], Tryz.func82, rfl, rfl, by kernel_rfl, by kernel_rfl, follows⟩
theorem ok_laws_eqStringS : okF Tryz.prog 82 = true := by kernel_rfl
def rc_laws_eqWrite : RC :=
 (.seq (.reg [oo 2 (.bx (.t 0)), oo 3 (.bx (.t 1)), oo 4 (.mv (.c (.bool false)))])
 (.seq (.seq (.reg [oo 5 (.fa 0 (.t 2)), oo 6 (.ld false 1 (.t 5)), oo 7 (.fa 0 (.t 3)), oo 8 (.ld false 1 (.t 7)), oo 9 (.bin .neq (.t 6) (.t 8))])
 (.cond (.t 9) (.seq (.reg [oo 4 (.mv (.c (.bool false)))])
 .ret)
 .skip))
 (.seq (.seq (.reg [oo 10 (.fa 1 (.t 2)), oo 11 (.ld false 1 (.t 10)), oo 12 (.fa 1 (.t 3)), oo 13 (.ld false 1 (.t 12)), oo 14 (.bin .neq (.t 11) (.t 13))])
 (.cond (.t 14) (.seq (.reg [oo 4 (.mv (.c (.bool false)))])
 .ret)
 .skip))
 (.seq (.reg [oo 4 (.mv (.c (.bool true)))])
 .ret))))
theorem k_laws_eqWrite : FnOk Tryz.prog 148 15 rc_laws_eqWrite [.t 4] := ⟨Tryz.f148, _, [], Tryz.func148, rfl, rfl, by kernel_rfl, by kernel_rfl, follows⟩
theorem ok_laws_eqWrite : okF Tryz.prog 148 = true := by kernel_rfl
def rc_laws_eqWriteS : RC :=
 (.seq (.reg [oo 4 (.mv (.c (.bool false)))])
 (.seq (.seq (.reg [om 6 0, oo 7 (.lenl (.t 6)), om 8 1, oo 9 (.lenl (.t 8)), oo 10 (.bin .neq (.t 7) (.t 9))])
 (.cond (.t 10) (.seq (.reg [oo 4 (.mv (.c (.bool false)))])
 .ret)
 .skip))
 (.seq (.seq (.reg [oo 5 (.mv (.c (.j 0)))])
 (.blk 0 (.loop (.seq (.seq (.reg [om 11 5, om 12 0, oo 13 (.lenl (.t 12)), oo 14 (.bin .lss (.t 11) (.t 13))])
 (.cond (.t 14) .skip
 (.exit 0)))
 (.seq (.blk 1 (.seq (.drw [om 17 0, om 18 5, oo 19 (.ia 2 (.t 17) (.t 18)), oo 20 (.ld true 2 (.t 19)), om 21 1, om 22 5, oo 23 (.ia 2 (.t 21) (.t 22)), oo 24 (.ld true 2 (.t 23)), oo 25 (.cl (.c (.fn 148 [])) [(.t 20), (.t 24)]), oo 26 (.un .not (.t 25))] [.val [], .val [], .val [], .val [], .val [], .val [], .val [], .val [], .val [], .val []])
 (.cond (.t 26) (.seq (.reg [oo 4 (.mv (.c (.bool false)))])
 .ret)
 .skip)))
 (.reg [om 15 5, oo 16 (.bin .add (.t 15) (.c (.j 1))), om 5 16]))))))
 (.seq (.reg [oo 4 (.mv (.c (.bool true)))])
 .ret))))
theorem k_laws_eqWriteS : FnOk Tryz.prog 83 27 rc_laws_eqWriteS [.t 4] := ⟨Tryz.f83, _, [], Tryz.func83, rfl, rfl, by kernel_rfl, by kernel_rfl, follows⟩
theorem ok_laws_eqWriteS : okF Tryz.prog 83 = true := by kernel_rfl
def rc_laws_eqDisk : RC :=
 (.seq (.reg [oo 2 (.bx (.t 0)), oo 3 (.bx (.t 1)), oo 4 (.mv (.c (.bool false)))])
 (.seq (.seq (.reg [oo 5 (.fa 0 (.t 2)), oo 6 (.ld false 1 (.t 5)), oo 7 (.fa 0 (.t 3)), oo 8 (.ld false 1 (.t 7)), oo 9 (.cl (.c (.fn 82 [])) [(.t 6), (.t 8)]), oo 10 (.un .not (.t 9))])
 (.cond (.t 10) (.seq (.reg [oo 4 (.mv (.c (.bool false)))])
 .ret)
 .skip))
 (.seq (.seq (.reg [oo 11 (.fa 1 (.t 2)), oo 12 (.ld false 1 (.t 11)), oo 13 (.fa 1 (.t 3)), oo 14 (.ld false 1 (.t 13)), oo 15 (.cl (.c (.fn 83 [])) [(.t 12), (.t 14)]), oo 16 (.un .not (.t 15))])
 (.cond (.t 16) (.seq (.reg [oo 4 (.mv (.c (.bool false)))])
 .ret)
 .skip))
 (.seq (.reg [oo 4 (.mv (.c (.bool true)))])
 .ret))))
theorem k_laws_eqDisk : FnOk Tryz.prog 38 17 rc_laws_eqDisk [.t 4] := ⟨Tryz.f38, _, [], Tryz.func38, rfl, rfl, by kernel_rfl, by kernel_rfl, follows⟩
theorem ok_laws_eqDisk : okF Tryz.prog 38 = true := by kernel_rfl
def rc_laws_eqRec : RC :=
 (.seq (.reg [oo 2 (.bx (.t 0)), oo 3 (.bx (.t 1)), oo 4 (.mv (.c (.bool false)))])
 (.seq (.seq (.reg [oo 5 (.fa 0 (.t 2)), oo 6 (.ld false 1 (.t 5)), oo 7 (.fa 0 (.t 3)), oo 8 (.ld false 1 (.t 7)), oo 9 (.bin .neq (.t 6) (.t 8))])
 (.cond (.t 9) (.seq (.reg [oo 4 (.mv (.c (.bool false)))])
 .ret)
 .skip))
 (.seq (.seq (.reg [oo 10 (.fa 1 (.t 2)), oo 11 (.ld false 1 (.t 10)), oo 12 (.fa 1 (.t 3)), oo 13 (.ld false 1 (.t 12)), oo 14 (.bin .neq (.t 11) (.t 13))])
 (.cond (.t 14) (.seq (.reg [oo 4 (.mv (.c (.bool false)))])
 .ret)
 .skip))
 (.seq (.seq (.reg [oo 15 (.fa 2 (.t 2)), oo 16 (.ld false 1 (.t 15)), oo 17 (.fa 2 (.t 3)), oo 18 (.ld false 1 (.t 17)), oo 19 (.bin .neq (.t 16) (.t 18))])
 (.cond (.t 19) (.seq (.reg [oo 4 (.mv (.c (.bool false)))])
 .ret)
 .skip))
 (.seq (.seq (.reg [oo 20 (.fa 3 (.t 2)), oo 21 (.ld false 1 (.t 20)), oo 22 (.fa 3 (.t 3)), oo 23 (.ld false 1 (.t 22)), oo 24 (.bin .neq (.t 21) (.t 23))])
 (.cond (.t 24) (.seq (.reg [oo 4 (.mv (.c (.bool false)))])
 .ret)
 .skip))
 (.seq (.seq (.reg [oo 25 (.fa 4 (.t 2)), oo 26 (.ld false 1 (.t 25)), oo 27 (.fa 4 (.t 3)), oo 28 (.ld false 1 (.t 27)), oo 29 (.bin .neq (.t 26) (.t 28))])
 (.cond (.t 29) (.seq (.reg [oo 4 (.mv (.c (.bool false)))])
 .ret)
 .skip))
 (.seq (.seq (.reg [oo 30 (.fa 5 (.t 2)), oo 31 (.ld false 1 (.t 30)), oo 32 (.fa 5 (.t 3)), oo 33 (.ld false 1 (.t 32)), oo 34 (.bin .neq (.t 31) (.t 33))])
 (.cond (.t 34) (.seq (.reg [oo 4 (.mv (.c (.bool false)))])
 .ret)
 .skip))
 (.seq (.seq (.reg [oo 35 (.fa 6 (.t 2)), oo 36 (.ld false 1 (.t 35)), oo 37 (.fa 6 (.t 3)), oo 38 (.ld false 1 (.t 37)), oo 39 (.bin .neq (.t 36) (.t 38))])
 (.cond (.t 39) (.seq (.reg [oo 4 (.mv (.c (.bool false)))])
 .ret)
 .skip))
 (.seq (.seq (.reg [oo 40 (.fa 7 (.t 2)), oo 41 (.ld false 1 (.t 40)), oo 42 (.fa 7 (.t 3)), oo 43 (.ld false 1 (.t 42)), oo 44 (.bin .neq (.t 41) (.t 43))])
 (.cond (.t 44) (.seq (.reg [oo 4 (.mv (.c (.bool false)))])
 .ret)
 .skip))
 (.seq (.reg [oo 4 (.mv (.c (.bool true)))])
 .ret))))))))))
theorem k_laws_eqRec : FnOk Tryz.prog 213 45 rc_laws_eqRec [.t 4] := ⟨Tryz.f213, _, [], Tryz.func213, rfl, rfl, by kernel_rfl, by kernel_rfl, follows⟩
theorem ok_laws_eqRec : okF Tryz.prog 213 = true := by kernel_rfl
def rc_laws_eqItem : RC :=
 (.seq (.reg [oo 2 (.bx (.t 0)), oo 3 (.bx (.t 1)), oo 4 (.mv (.c (.bool false)))])
 (.seq (.seq (.reg [oo 5 (.fa 0 (.t 2)), oo 6 (.ld false 1 (.t 5)), oo 7 (.fa 0 (.t 3)), oo 8 (.ld false 1 (.t 7)), oo 9 (.bin .neq (.t 6) (.t 8))])
 (.cond (.t 9) (.seq (.reg [oo 4 (.mv (.c (.bool false)))])
 .ret)
 .skip))
 (.seq (.seq (.reg [oo 10 (.fa 1 (.t 2)), oo 11 (.ld true 8 (.t 10)), oo 12 (.fa 1 (.t 3)), oo 13 (.ld true 8 (.t 12)), oo 14 (.cl (.c (.fn 213 [])) [(.t 11), (.t 13)]), oo 15 (.un .not (.t 14))])
 (.cond (.t 15) (.seq (.reg [oo 4 (.mv (.c (.bool false)))])
 .ret)
 .skip))
 (.seq (.reg [oo 4 (.mv (.c (.bool true)))])
 .ret))))
theorem k_laws_eqItem : FnOk Tryz.prog 192 16 rc_laws_eqItem [.t 4] := ⟨Tryz.f192, _, [], Tryz.func192, rfl, rfl, by kernel_rfl, by kernel_rfl, follows⟩
theorem ok_laws_eqItem : okF Tryz.prog 192 = true := by kernel_rfl
def rc_laws_eqItemS : RC :=
 (.seq (.reg [oo 4 (.mv (.c (.bool false)))])
 (.seq (.seq (.reg [om 6 0, oo 7 (.lenl (.t 6)), om 8 1, oo 9 (.lenl (.t 8)), oo 10 (.bin .neq (.t 7) (.t 9))])
 (.cond (.t 10) (.seq (.reg [oo 4 (.mv (.c (.bool false)))])
 .ret)
 .skip))
 (.seq (.seq (.reg [oo 5 (.mv (.c (.j 0)))])
 (.blk 0 (.loop (.seq (.seq (.reg [om 11 5, om 12 0, oo 13 (.lenl (.t 12)), oo 14 (.bin .lss (.t 11) (.t 13))])
 (.cond (.t 14) .skip
 (.exit 0)))
 (.seq (.blk 1 (.seq (.drw [om 17 0, om 18 5, oo 19 (.ia 9 (.t 17) (.t 18)), oo 20 (.ld true 9 (.t 19)), om 21 1, om 22 5, oo 23 (.ia 9 (.t 21) (.t 22)), oo 24 (.ld true 9 (.t 23)), oo 25 (.cl (.c (.fn 192 [])) [(.t 20), (.t 24)]), oo 26 (.un .not (.t 25))] [.val [], .val [], .val [], .val [], .val [], .val [], .val [], .val [], .val [], .val []])
 (.cond (.t 26) (.seq (.reg [oo 4 (.mv (.c (.bool false)))])
 .ret)
 .skip)))
 (.reg [om 15 5, oo 16 (.bin .add (.t 15) (.c (.j 1))), om 5 16]))))))
 (.seq (.reg [oo 4 (.mv (.c (.bool true)))])
 .ret))))
theorem k_laws_eqItemS : FnOk Tryz.prog 149 27 rc_laws_eqItemS [.t 4] := ⟨Tryz.f149, _, [], Tryz.func149, rfl, rfl, by kernel_rfl, by kernel_rfl, follows⟩
theorem ok_laws_eqItemS : okF Tryz.prog 149 = true := by kernel_rfl
def rc_laws_eqSeg : RC :=
 (.seq (.reg [oo 2 (.bx (.t 0)), oo 3 (.bx (.t 1)), oo 4 (.mv (.c (.bool false)))])
 (.seq (.seq (.reg [oo 5 (.fa 0 (.t 2)), oo 6 (.ld false 1 (.t 5)), oo 7 (.fa 0 (.t 3)), oo 8 (.ld false 1 (.t 7)), oo 9 (.bin .neq (.t 6) (.t 8))])
 (.cond (.t 9) (.seq (.reg [oo 4 (.mv (.c (.bool false)))])
 .ret)
 .skip))
 (.seq (.seq (.reg [oo 10 (.fa 1 (.t 2)), oo 11 (.ld false 1 (.t 10)), oo 12 (.fa 1 (.t 3)), oo 13 (.ld false 1 (.t 12)), oo 14 (.bin .neq (.t 11) (.t 13))])
 (.cond (.t 14) (.seq (.reg [oo 4 (.mv (.c (.bool false)))])
 .ret)
 .skip))
 (.seq (.seq (.reg [oo 15 (.fa 2 (.t 2)), oo 16 (.ld false 1 (.t 15)), oo 17 (.fa 2 (.t 3)), oo 18 (.ld false 1 (.t 17)), oo 19 (.bin .neq (.t 16) (.t 18))])
 (.cond (.t 19) (.seq (.reg [oo 4 (.mv (.c (.bool false)))])
 .ret)
 .skip))
 (.seq (.seq (.reg [oo 20 (.fa 3 (.t 2)), oo 21 (.ld false 1 (.t 20)), oo 22 (.fa 3 (.t 3)), oo 23 (.ld false 1 (.t 22)), oo 24 (.cl (.c (.fn 149 [])) [(.t 21), (.t 23)]), oo 25 (.un .not (.t 24))])
 (.cond (.t 25) (.seq (.reg [oo 4 (.mv (.c (.bool false)))])
 .ret)
 .skip))
 (.seq (.reg [oo 4 (.mv (.c (.bool true)))])
 .ret))))))
theorem k_laws_eqSeg : FnOk Tryz.prog 84 26 rc_laws_eqSeg [.t 4] := ⟨Tryz.f84, _, [], Tryz.func84, rfl, rfl, by kernel_rfl, by kernel_rfl, follows⟩
theorem ok_laws_eqSeg : okF Tryz.prog 84 = true := by kernel_rfl
def rc_laws_eqSegS : RC :=
 (.seq (.reg [oo 4 (.mv (.c (.bool false)))])
 (.seq (.seq (.reg [om 6 0, oo 7 (.lenl (.t 6)), om 8 1, oo 9 (.lenl (.t 8)), oo 10 (.bin .neq (.t 7) (.t 9))])
 (.cond (.t 10) (.seq (.reg [oo 4 (.mv (.c (.bool false)))])
 .ret)
 .skip))
 (.seq (.seq (.reg [oo 5 (.mv (.c (.j 0)))])
 (.blk 0 (.loop (.seq (.seq (.reg [om 11 5, om 12 0, oo 13 (.lenl (.t 12)), oo 14 (.bin .lss (.t 11) (.t 13))])
 (.cond (.t 14) .skip
 (.exit 0)))
 (.seq (.blk 1 (.seq (.drw [om 17 0, om 18 5, oo 19 (.ia 4 (.t 17) (.t 18)), oo 20 (.ld true 4 (.t 19)), om 21 1, om 22 5, oo 23 (.ia 4 (.t 21) (.t 22)), oo 24 (.ld true 4 (.t 23)), oo 25 (.cl (.c (.fn 84 [])) [(.t 20), (.t 24)]), oo 26 (.un .not (.t 25))] [.val [], .val [], .val [], .val [], .val [], .val [], .val [], .val [], .val [], .val []])
 (.cond (.t 26) (.seq (.reg [oo 4 (.mv (.c (.bool false)))])
 .ret)
 .skip)))
 (.reg [om 15 5, oo 16 (.bin .add (.t 15) (.c (.j 1))), om 5 16]))))))
 (.seq (.reg [oo 4 (.mv (.c (.bool true)))])
 .ret))))
theorem k_laws_eqSegS : FnOk Tryz.prog 39 27 rc_laws_eqSegS [.t 4] := ⟨Tryz.f39, _, [], Tryz.func39, rfl, rfl, by kernel_rfl, by kernel_rfl, follows⟩
theorem ok_laws_eqSegS : okF Tryz.prog 39 = true := by kernel_rfl
def rc_laws_eqLog : RC :=
 (.seq (.reg [oo 2 (.bx (.t 0)), oo 3 (.bx (.t 1)), oo 4 (.mv (.c (.bool false)))])
 (.seq (.seq (.reg [oo 5 (.fa 0 (.t 2)), oo 6 (.ld true 2 (.t 5)), oo 7 (.fa 0 (.t 3)), oo 8 (.ld true 2 (.t 7)), oo 9 (.cl (.c (.fn 38 [])) [(.t 6), (.t 8)]), oo 10 (.un .not (.t 9))])
 (.cond (.t 10) (.seq (.reg [oo 4 (.mv (.c (.bool false)))])
 .ret)
 .skip))
 (.seq (.seq (.reg [oo 11 (.fa 2 (.t 2)), oo 12 (.ld false 1 (.t 11)), oo 13 (.fa 2 (.t 3)), oo 14 (.ld false 1 (.t 13)), oo 15 (.bin .neq (.t 12) (.t 14))])
 (.cond (.t 15) (.seq (.reg [oo 4 (.mv (.c (.bool false)))])
 .ret)
 .skip))
 (.seq (.seq (.reg [oo 16 (.fa 3 (.t 2)), oo 17 (.ld false 1 (.t 16)), oo 18 (.fa 3 (.t 3)), oo 19 (.ld false 1 (.t 18)), oo 20 (.cl (.c (.fn 39 [])) [(.t 17), (.t 19)]), oo 21 (.un .not (.t 20))])
 (.cond (.t 21) (.seq (.reg [oo 4 (.mv (.c (.bool false)))])
 .ret)
 .skip))
 (.seq (.seq (.reg [oo 22 (.fa 4 (.t 2)), oo 23 (.ld false 1 (.t 22)), oo 24 (.fa 4 (.t 3)), oo 25 (.ld false 1 (.t 24)), oo 26 (.bin .neq (.t 23) (.t 25))])
 (.cond (.t 26) (.seq (.reg [oo 4 (.mv (.c (.bool false)))])
 .ret)
 .skip))
 (.seq (.seq (.reg [oo 27 (.fa 5 (.t 2)), oo 28 (.ld false 1 (.t 27)), oo 29 (.fa 5 (.t 3)), oo 30 (.ld false 1 (.t 29)), oo 31 (.bin .neq (.t 28) (.t 30))])
 (.cond (.t 31) (.seq (.reg [oo 4 (.mv (.c (.bool false)))])
 .ret)
 .skip))
 (.seq (.seq (.reg [oo 32 (.fa 6 (.t 2)), oo 33 (.ld false 1 (.t 32)), oo 34 (.fa 6 (.t 3)), oo 35 (.ld false 1 (.t 34)), oo 36 (.bin .neq (.t 33) (.t 35))])
 (.cond (.t 36) (.seq (.reg [oo 4 (.mv (.c (.bool false)))])
 .ret)
 .skip))
 (.seq (.seq (.reg [oo 37 (.fa 7 (.t 2)), oo 38 (.ld false 1 (.t 37)), oo 39 (.fa 7 (.t 3)), oo 40 (.ld false 1 (.t 39)), oo 41 (.bin .neq (.t 38) (.t 40))])
 (.cond (.t 41) (.seq (.reg [oo 4 (.mv (.c (.bool false)))])
 .ret)
 .skip))
 (.seq (.reg [oo 4 (.mv (.c (.bool true)))])
 .ret)))))))))
theorem k_laws_eqLog : FnOk Tryz.prog 9 42 rc_laws_eqLog [.t 4] := ⟨Tryz.f9, _, [], Tryz.func9, rfl, rfl, by kernel_rfl, by kernel_rfl, follows⟩
theorem ok_laws_eqLog : okF Tryz.prog 9 = true := by kernel_rfl
def rc_laws_eqStore : RC :=
 (.seq (.reg [oo 2 (.bx (.t 0)), oo 3 (.bx (.t 1)), oo 4 (.mv (.c (.bool false)))])
 (.seq (.seq (.reg [oo 5 (.fa 0 (.t 2)), oo 6 (.ld true 8 (.t 5)), oo 7 (.fa 0 (.t 3)), oo 8 (.ld true 8 (.t 7)), oo 9 (.cl (.c (.fn 9 [])) [(.t 6), (.t 8)]), oo 10 (.un .not (.t 9))])
 (.cond (.t 10) (.seq (.reg [oo 4 (.mv (.c (.bool false)))])
 .ret)
 .skip))
 (.seq (.seq (.reg [oo 11 (.fa 8 (.t 2)), oo 12 (.ld false 1 (.t 11)), oo 13 (.fa 8 (.t 3)), oo 14 (.ld false 1 (.t 13)), oo 15 (.cl (.c (.fn 44 [])) [(.t 12), (.t 14)]), oo 16 (.un .not (.t 15))])
 (.cond (.t 16) (.seq (.reg [oo 4 (.mv (.c (.bool false)))])
 .ret)
 .skip))
 (.seq (.reg [oo 4 (.mv (.c (.bool true)))])
 .ret))))
theorem k_laws_eqStore : FnOk Tryz.prog 14 17 rc_laws_eqStore [.t 4] := ⟨Tryz.f14, _, [], Tryz.func14, rfl, rfl, by kernel_rfl, by kernel_rfl, follows⟩
theorem ok_laws_eqStore : okF Tryz.prog 14 = true := by kernel_rfl
def rc_laws_szStringS : RC :=
 (.seq (.reg [oo 4 (.mv (.c (.j 0)))])
 (.seq (.reg [om 6 1, om 7 0, oo 8 (.lenl (.t 7)), oo 9 (.bin .sub (.t 6) (.t 8)), om 1 9])
 (.seq (.seq (.reg [om 10 1, oo 11 (.bin .lss (.t 10) (.c (.j 0)))])
 (.cond (.t 11) (.seq (.reg [oo 4 (.mv (.c (.j (-1))))])
 .ret)
 .skip))
 (.seq (.seq (.reg [oo 5 (.mv (.c (.j 0)))])
 (.blk 0 (.loop (.seq (.seq (.reg [om 12 5, om 13 0, oo 14 (.lenl (.t 13)), oo 15 (.bin .lss (.t 12) (.t 14))])
 (.cond (.t 15) .skip
 (.exit 0)))
 (.seq (.blk 1 (.seq (.reg [om 18 1, om 19 0, om 20 5, oo 21 (.ia 1 (.t 19) (.t 20)), oo 22 (.ld false 1 (.t 21)), oo 23 (.lens (.t 22)), oo 24 (.bin .sub (.t 18) (.t 23)), om 1 24])
 (.seq (.reg [om 25 1, oo 26 (.bin .lss (.t 25) (.c (.j 0)))])
 (.cond (.t 26) (.seq (.reg [oo 4 (.mv (.c (.j (-1))))])
 .ret)
 .skip))))
 (.reg [om 16 5, oo 17 (.bin .add (.t 16) (.c (.j 1))), om 5 17]))))))
 (.seq (.reg [om 27 1, om 4 27])
 .ret)))))
theorem k_laws_szStringS : FnOk Tryz.prog 150 28 rc_laws_szStringS [.t 4] := ⟨Tryz.f150, _, [], Tryz.func150, rfl, rfl, by kernel_rfl, by kernel_rfl, follows⟩
theorem ok_laws_szStringS : okF Tryz.prog 150 = true := by kernel_rfl
def rc_laws_szWrite : RC :=
 (.seq (.reg [oo 2 (.bx (.t 0)), oo 4 (.mv (.c (.j 0)))])
 (.seq (.reg [om 5 1, oo 6 (.fa 1 (.t 2)), oo 7 (.ld false 1 (.t 6)), oo 8 (.lens (.t 7)), oo 9 (.bin .sub (.t 5) (.t 8)), om 1 9])
 (.seq (.seq (.reg [om 10 1, oo 11 (.bin .lss (.t 10) (.c (.j 0)))])
 (.cond (.t 11) (.seq (.reg [oo 4 (.mv (.c (.j (-1))))])
 .ret)
 .skip))
 (.seq (.reg [om 12 1, om 4 12])
 .ret))))
theorem k_laws_szWrite : FnOk Tryz.prog 193 13 rc_laws_szWrite [.t 4] := ⟨Tryz.f193, _, [], Tryz.func193, rfl, rfl, by kernel_rfl, by kernel_rfl, follows⟩
theorem ok_laws_szWrite : okF Tryz.prog 193 = true := by kernel_rfl
def rc_laws_szWriteS : RC :=
 (.seq (.reg [oo 4 (.mv (.c (.j 0)))])
 (.seq (.reg [om 6 1, om 7 0, oo 8 (.lenl (.t 7)), oo 9 (.bin .sub (.t 6) (.t 8)), om 1 9])
 (.seq (.seq (.reg [om 10 1, oo 11 (.bin .lss (.t 10) (.c (.j 0)))])
 (.cond (.t 11) (.seq (.reg [oo 4 (.mv (.c (.j (-1))))])
 .ret)
 .skip))
 (.seq (.seq (.reg [oo 5 (.mv (.c (.j 0)))])
 (.blk 0 (.loop (.seq (.seq (.reg [om 12 5, om 13 0, oo 14 (.lenl (.t 13)), oo 15 (.bin .lss (.t 12) (.t 14))])
 (.cond (.t 15) .skip
 (.exit 0)))
 (.seq (.blk 1 (.seq (.reg [om 18 0, om 19 5, oo 20 (.ia 2 (.t 18) (.t 19)), oo 21 (.ld true 2 (.t 20)), om 22 1, oo 23 (.cl (.c (.fn 193 [])) [(.t 21), (.t 22)]), om 1 23])
 (.seq (.reg [om 24 1, oo 25 (.bin .lss (.t 24) (.c (.j 0)))])
 (.cond (.t 25) (.seq (.reg [oo 4 (.mv (.c (.j (-1))))])
 .ret)
 .skip))))
 (.reg [om 16 5, oo 17 (.bin .add (.t 16) (.c (.j 1))), om 5 17]))))))
 (.seq (.reg [om 26 1, om 4 26])
 .ret)))))
theorem k_laws_szWriteS : FnOk Tryz.prog 151 27 rc_laws_szWriteS [.t 4] := ⟨Tryz.f151, _, [], Tryz.func151, rfl, rfl, by kernel_rfl, by kernel_rfl, follows⟩
theorem ok_laws_szWriteS : okF Tryz.prog 151 = true := by kernel_rfl
def rc_laws_szDisk : RC :=
 (.seq (.reg [oo 2 (.bx (.t 0)), oo 4 (.mv (.c (.j 0)))])
 (.seq (.reg [oo 5 (.fa 0 (.t 2)), oo 6 (.ld false 1 (.t 5)), om 7 1, oo 8 (.cl (.c (.fn 150 [])) [(.t 6), (.t 7)]), om 1 8])
 (.seq (.seq (.reg [om 9 1, oo 10 (.bin .lss (.t 9) (.c (.j 0)))])
 (.cond (.t 10) (.seq (.reg [oo 4 (.mv (.c (.j (-1))))])
 .ret)
 .skip))
 (.seq (.reg [oo 11 (.fa 1 (.t 2)), oo 12 (.ld false 1 (.t 11)), om 13 1, oo 14 (.cl (.c (.fn 151 [])) [(.t 12), (.t 13)]), om 1 14])
 (.seq (.seq (.reg [om 15 1, oo 16 (.bin .lss (.t 15) (.c (.j 0)))])
 (.cond (.t 16) (.seq (.reg [oo 4 (.mv (.c (.j (-1))))])
 .ret)
 .skip))
 (.seq (.reg [om 17 1, om 4 17])
 .ret))))))
theorem k_laws_szDisk : FnOk Tryz.prog 91 18 rc_laws_szDisk [.t 4] := ⟨Tryz.f91, _, [], Tryz.func91, rfl, rfl, by kernel_rfl, by kernel_rfl, follows⟩
theorem ok_laws_szDisk : okF Tryz.prog 91 = true := by kernel_rfl
def rc_laws_szRec : RC :=
 (.seq (.reg [oo 2 (.bx (.t 0)), oo 4 (.mv (.c (.j 0)))])
 (.seq (.reg [om 5 1, oo 6 (.fa 5 (.t 2)), oo 7 (.ld false 1 (.t 6)), oo 8 (.lens (.t 7)), oo 9 (.bin .sub (.t 5) (.t 8)), om 1 9])
 (.seq (.seq (.reg [om 10 1, oo 11 (.bin .lss (.t 10) (.c (.j 0)))])
 (.cond (.t 11) (.seq (.reg [oo 4 (.mv (.c (.j (-1))))])
 .ret)
 .skip))
 (.seq (.reg [om 12 1, oo 13 (.fa 6 (.t 2)), oo 14 (.ld false 1 (.t 13)), oo 15 (.lens (.t 14)), oo 16 (.bin .sub (.t 12) (.t 15)), om 1 16])
 (.seq (.seq (.reg [om 17 1, oo 18 (.bin .lss (.t 17) (.c (.j 0)))])
 (.cond (.t 18) (.seq (.reg [oo 4 (.mv (.c (.j (-1))))])
 .ret)
 .skip))
 (.seq (.reg [om 19 1, oo 20 (.fa 7 (.t 2)), oo 21 (.ld false 1 (.t 20)), oo 22 (.lens (.t 21)), oo 23 (.bin .sub (.t 19) (.t 22)), om 1 23])
 (.seq (.seq (.reg [om 24 1, oo 25 (.bin .lss (.t 24) (.c (.j 0)))])
 (.cond (.t 25) (.seq (.reg [oo 4 (.mv (.c (.j (-1))))])
 .ret)
 .skip))
 (.seq (.reg [om 26 1, om 4 26])
 .ret))))))))
theorem k_laws_szRec : FnOk Tryz.prog 24 27 rc_laws_szRec [.t 4] := ⟨Tryz.f24, _, [], Tryz.func24, rfl, rfl, by kernel_rfl, by kernel_rfl, follows⟩
theorem ok_laws_szRec : okF Tryz.prog 24 = true := by kernel_rfl
def rc_laws_szItem : RC :=
 (.seq (.reg [oo 2 (.bx (.t 0)), oo 4 (.mv (.c (.j 0)))])
 (.seq (.reg [oo 5 (.fa 1 (.t 2)), oo 6 (.ld true 8 (.t 5)), om 7 1, oo 8 (.cl (.c (.fn 24 [])) [(.t 6), (.t 7)]), om 1 8])
 (.seq (.seq (.reg [om 9 1, oo 10 (.bin .lss (.t 9) (.c (.j 0)))])
 (.cond (.t 10) (.seq (.reg [oo 4 (.mv (.c (.j (-1))))])
 .ret)
 .skip))
 (.seq (.reg [om 11 1, om 4 11])
 .ret))))
theorem k_laws_szItem : FnOk Tryz.prog 214 12 rc_laws_szItem [.t 4] := ⟨Tryz.f214, _, [], Tryz.func214, rfl, rfl, by kernel_rfl, by kernel_rfl, follows⟩
theorem ok_laws_szItem : okF Tryz.prog 214 = true := by kernel_rfl
def rc_laws_szItemS : RC :=
 (.seq (.reg [oo 4 (.mv (.c (.j 0)))])
 (.seq (.reg [om 6 1, om 7 0, oo 8 (.lenl (.t 7)), oo 9 (.bin .sub (.t 6) (.t 8)), om 1 9])
 (.seq (.seq (.reg [om 10 1, oo 11 (.bin .lss (.t 10) (.c (.j 0)))])
 (.cond (.t 11) (.seq (.reg [oo 4 (.mv (.c (.j (-1))))])
 .ret)
 .skip))
 (.seq (.seq (.reg [oo 5 (.mv (.c (.j 0)))])
 (.blk 0 (.loop (.seq (.seq (.reg [om 12 5, om 13 0, oo 14 (.lenl (.t 13)), oo 15 (.bin .lss (.t 12) (.t 14))])
 (.cond (.t 15) .skip
 (.exit 0)))
 (.seq (.blk 1 (.seq (.reg [om 18 0, om 19 5, oo 20 (.ia 9 (.t 18) (.t 19)), oo 21 (.ld true 9 (.t 20)), om 22 1, oo 23 (.cl (.c (.fn 214 [])) [(.t 21), (.t 22)]), om 1 23])
 (.seq (.reg [om 24 1, oo 25 (.bin .lss (.t 24) (.c (.j 0)))])
 (.cond (.t 25) (.seq (.reg [oo 4 (.mv (.c (.j (-1))))])
 .ret)
 .skip))))
 (.reg [om 16 5, oo 17 (.bin .add (.t 16) (.c (.j 1))), om 5 17]))))))
 (.seq (.reg [om 26 1, om 4 26])
 .ret)))))
theorem k_laws_szItemS : FnOk Tryz.prog 194 27 rc_laws_szItemS [.t 4] := ⟨Tryz.f194, _, [], Tryz.func194, rfl, rfl, by kernel_rfl, by kernel_rfl, follows⟩
theorem ok_laws_szItemS : okF Tryz.prog 194 = true := by kernel_rfl
def rc_laws_szSeg : RC :=
 (.seq (.reg [oo 2 (.bx (.t 0)), oo 4 (.mv (.c (.j 0)))])
 (.seq (.reg [oo 5 (.fa 3 (.t 2)), oo 6 (.ld false 1 (.t 5)), om 7 1, oo 8 (.cl (.c (.fn 194 [])) [(.t 6), (.t 7)]), om 1 8])
 (.seq (.seq (.reg [om 9 1, oo 10 (.bin .lss (.t 9) (.c (.j 0)))])
 (.cond (.t 10) (.seq (.reg [oo 4 (.mv (.c (.j (-1))))])
 .ret)
 .skip))
 (.seq (.reg [om 11 1, om 4 11])
 .ret))))
theorem k_laws_szSeg : FnOk Tryz.prog 152 12 rc_laws_szSeg [.t 4] := ⟨Tryz.f152, _, [], Tryz.func152, rfl, rfl, by kernel_rfl, by kernel_rfl, follows⟩
theorem ok_laws_szSeg : okF Tryz.prog 152 = true := by kernel_rfl
def rc_laws_szSegS : RC :=
 (.seq (.reg [oo 4 (.mv (.c (.j 0)))])
 (.seq (.reg [om 6 1, om 7 0, oo 8 (.lenl (.t 7)), oo 9 (.bin .sub (.t 6) (.t 8)), om 1 9])
 (.seq (.seq (.reg [om 10 1, oo 11 (.bin .lss (.t 10) (.c (.j 0)))])
 (.cond (.t 11) (.seq (.reg [oo 4 (.mv (.c (.j (-1))))])
 .ret)
 .skip))
 (.seq (.seq (.reg [oo 5 (.mv (.c (.j 0)))])
 (.blk 0 (.loop (.seq (.seq (.reg [om 12 5, om 13 0, oo 14 (.lenl (.t 13)), oo 15 (.bin .lss (.t 12) (.t 14))])
 (.cond (.t 15) .skip
 (.exit 0)))
 (.seq (.blk 1 (.seq (.reg [om 18 0, om 19 5, oo 20 (.ia 4 (.t 18) (.t 19)), oo 21 (.ld true 4 (.t 20)), om 22 1, oo 23 (.cl (.c (.fn 152 [])) [(.t 21), (.t 22)]), om 1 23])
 (.seq (.reg [om 24 1, oo 25 (.bin .lss (.t 24) (.c (.j 0)))])
 (.cond (.t 25) (.seq (.reg [oo 4 (.mv (.c (.j (-1))))])
 .ret)
 .skip))))
 (.reg [om 16 5, oo 17 (.bin .add (.t 16) (.c (.j 1))), om 5 17]))))))
 (.seq (.reg [om 26 1, om 4 26])
 .ret)))))
theorem k_laws_szSegS : FnOk Tryz.prog 92 27 rc_laws_szSegS [.t 4] := ⟨Tryz.f92, _, [], Tryz.func92, rfl, rfl, by kernel_rfl, by kernel_rfl, follows⟩
theorem ok_laws_szSegS : okF Tryz.prog 92 = true := by kernel_rfl
def rc_laws_szLog : RC :=
 (.seq (.reg [oo 2 (.bx (.t 0)), oo 4 (.mv (.c (.j 0)))])
 (.seq (.reg [oo 5 (.fa 0 (.t 2)), oo 6 (.ld true 2 (.t 5)), om 7 1, oo 8 (.cl (.c (.fn 91 [])) [(.t 6), (.t 7)]), om 1 8])
 (.seq (.seq (.reg [om 9 1, oo 10 (.bin .lss (.t 9) (.c (.j 0)))])
 (.cond (.t 10) (.seq (.reg [oo 4 (.mv (.c (.j (-1))))])
 .ret)
 .skip))
 (.seq (.reg [oo 11 (.fa 3 (.t 2)), oo 12 (.ld false 1 (.t 11)), om 13 1, oo 14 (.cl (.c (.fn 92 [])) [(.t 12), (.t 13)]), om 1 14])
 (.seq (.seq (.reg [om 15 1, oo 16 (.bin .lss (.t 15) (.c (.j 0)))])
 (.cond (.t 16) (.seq (.reg [oo 4 (.mv (.c (.j (-1))))])
 .ret)
 .skip))
 (.seq (.reg [om 17 1, om 4 17])
 .ret))))))
theorem k_laws_szLog : FnOk Tryz.prog 47 18 rc_laws_szLog [.t 4] := ⟨Tryz.f47, _, [], Tryz.func47, rfl, rfl, by kernel_rfl, by kernel_rfl, follows⟩
theorem ok_laws_szLog : okF Tryz.prog 47 = true := by kernel_rfl
def rc_laws_szIntS : RC :=
 (.seq (.reg [oo 4 (.mv (.c (.j 0)))])
 (.seq (.reg [om 5 1, om 6 0, oo 7 (.lenl (.t 6)), oo 8 (.bin .sub (.t 5) (.t 7)), om 1 8])
 (.seq (.seq (.reg [om 9 1, oo 10 (.bin .lss (.t 9) (.c (.j 0)))])
 (.cond (.t 10) (.seq (.reg [oo 4 (.mv (.c (.j (-1))))])
 .ret)
 .skip))
 (.seq (.reg [om 11 1, om 4 11])
 .ret))))
theorem k_laws_szIntS : FnOk Tryz.prog 48 12 rc_laws_szIntS [.t 4] := ⟨Tryz.f48, _, [], Tryz.func48, rfl, rfl, by kernel_rfl, by kernel_rfl, follows⟩
theorem ok_laws_szIntS : okF Tryz.prog 48 = true := by kernel_rfl
def rc_laws_szStore : RC :=
 (.seq (.reg [oo 2 (.bx (.t 0)), oo 4 (.mv (.c (.j 0)))])
 (.seq (.reg [oo 5 (.fa 0 (.t 2)), oo 6 (.ld true 8 (.t 5)), om 7 1, oo 8 (.cl (.c (.fn 47 [])) [(.t 6), (.t 7)]), om 1 8])
 (.seq (.seq (.reg [om 9 1, oo 10 (.bin .lss (.t 9) (.c (.j 0)))])
 (.cond (.t 10) (.seq (.reg [oo 4 (.mv (.c (.j (-1))))])
 .ret)
 .skip))
 (.seq (.reg [oo 11 (.fa 8 (.t 2)), oo 12 (.ld false 1 (.t 11)), om 13 1, oo 14 (.cl (.c (.fn 48 [])) [(.t 12), (.t 13)]), om 1 14])
 (.seq (.seq (.reg [om 15 1, oo 16 (.bin .lss (.t 15) (.c (.j 0)))])
 (.cond (.t 16) (.seq (.reg [oo 4 (.mv (.c (.j (-1))))])
 .ret)
 .skip))
 (.seq (.reg [om 17 1, om 4 17])
 .ret))))))
theorem k_laws_szStore : FnOk Tryz.prog 17 18 rc_laws_szStore [.t 4] := ⟨Tryz.f17, _, [], Tryz.func17, rfl, rfl, by kernel_rfl, by kernel_rfl, follows⟩
theorem ok_laws_szStore : okF Tryz.prog 17 = true := by kernel_rfl
def rc_laws_toRec : RC :=
 (.seq (.reg [oo 1 (.bx (.t 0)), oo 2 (.al [.j 0, .j 0, .j 0, .j 0, .j 0, .str [], .str [], .str []])])
 (.seq (.reg [oo 3 (.al [.j 0, .j 0, .j 0, .j 0, .j 0, .str [], .str [], .str []])])
 (.seq (.reg [oo 4 (.fa 0 (.t 1)), oo 5 (.ld false 1 (.t 4)), oo 6 (.fa 0 (.t 3)), on (.st 1 (.t 6) (.t 5))])
 (.seq (.reg [oo 7 (.fa 1 (.t 1)), oo 8 (.ld false 1 (.t 7)), oo 9 (.fa 1 (.t 3)), on (.st 1 (.t 9) (.t 8))])
 (.seq (.reg [oo 10 (.fa 2 (.t 1)), oo 11 (.ld false 1 (.t 10)), oo 12 (.fa 2 (.t 3)), on (.st 1 (.t 12) (.t 11))])
 (.seq (.reg [oo 13 (.fa 3 (.t 1)), oo 14 (.ld false 1 (.t 13)), oo 15 (.fa 3 (.t 3)), on (.st 1 (.t 15) (.t 14))])
 (.seq (.reg [oo 16 (.fa 4 (.t 1)), oo 17 (.ld false 1 (.t 16)), oo 18 (.fa 4 (.t 3)), on (.st 1 (.t 18) (.t 17))])
 (.seq (.reg [oo 19 (.fa 5 (.t 1)), oo 20 (.ld false 1 (.t 19)), oo 21 (.fa 5 (.t 3)), on (.st 1 (.t 21) (.t 20))])
 (.seq (.reg [oo 22 (.fa 6 (.t 1)), oo 23 (.ld false 1 (.t 22)), oo 24 (.fa 6 (.t 3)), on (.st 1 (.t 24) (.t 23))])
 (.seq (.reg [oo 25 (.fa 7 (.t 1)), oo 26 (.ld false 1 (.t 25)), oo 27 (.fa 7 (.t 3)), on (.st 1 (.t 27) (.t 26))])
 (.seq (.reg [oo 28 (.ld true 8 (.t 3)), on (.st 8 (.t 2) (.t 28))])
 .ret)))))))))))
theorem k_laws_toRec : FnOk Tryz.prog 26 29 rc_laws_toRec [.cell 2 true 8] := ⟨Tryz.f26, _, [], Tryz.func26, rfl, rfl, by kernel_rfl, by kernel_rfl, follows⟩
theorem ok_laws_toRec : okF Tryz.prog 26 = true := by kernel_rfl
def rc_laws_toItem : RC :=
 (.seq (.reg [oo 1 (.bx (.t 0)), oo 2 (.al [.j 0, .j 0, .j 0, .j 0, .j 0, .j 0, .str [], .str [], .str []])])
 (.seq (.reg [oo 3 (.al [.j 0, .j 0, .j 0, .j 0, .j 0, .j 0, .str [], .str [], .str []])])
 (.seq (.reg [oo 4 (.fa 0 (.t 1)), oo 5 (.ld false 1 (.t 4)), oo 6 (.fa 0 (.t 3)), on (.st 1 (.t 6) (.t 5))])
 (.seq (.reg [oo 7 (.fa 1 (.t 1)), oo 8 (.ld true 8 (.t 7)), oo 9 (.cl (.c (.fn 26 [])) [(.t 8)]), oo 10 (.fa 1 (.t 3)), on (.st 8 (.t 10) (.t 9))])
 (.seq (.reg [oo 11 (.ld true 9 (.t 3)), on (.st 9 (.t 2) (.t 11))])
 .ret)))))
theorem k_laws_toItem : FnOk Tryz.prog 215 12 rc_laws_toItem [.cell 2 true 9] := ⟨Tryz.f215, _, [], Tryz.func215, rfl, rfl, by kernel_rfl, by kernel_rfl, follows⟩
theorem ok_laws_toItem : okF Tryz.prog 215 = true := by kernel_rfl
def rc_laws_toItemS : RC :=
 (.seq (.reg [oo 2 (.mv (.c (.nils)))])
 (.seq (.reg [om 5 0, oo 6 (.lenl (.t 5)), oo 7 (.ms 9 [.j 0, .j 0, .j 0, .j 0, .j 0, .j 0, .str [], .str [], .str []] 96 (.t 6) (.t 6)), om 3 7])
 (.seq (.seq (.reg [oo 4 (.mv (.c (.j 0)))])
 (.blk 0 (.loop (.seq (.seq (.reg [om 8 4, om 9 0, oo 10 (.lenl (.t 9)), oo 11 (.bin .lss (.t 8) (.t 10))])
 (.cond (.t 11) .skip
 (.exit 0)))
 (.seq (.blk 1 (.reg [om 14 3, om 15 4, om 16 0, om 17 4, oo 18 (.ia 9 (.t 16) (.t 17)), oo 19 (.ld true 9 (.t 18)), oo 20 (.cl (.c (.fn 215 [])) [(.t 19)]), oo 21 (.ia 9 (.t 14) (.t 15)), on (.st 9 (.t 21) (.t 20))]))
 (.reg [om 12 4, oo 13 (.bin .add (.t 12) (.c (.j 1))), om 4 13]))))))
 (.seq (.reg [om 22 3, om 2 22])
 .ret))))
theorem k_laws_toItemS : FnOk Tryz.prog 197 23 rc_laws_toItemS [.t 2] := ⟨Tryz.f197, _, [], Tryz.func197, rfl, rfl, by kernel_rfl, by kernel_rfl, follows⟩
theorem ok_laws_toItemS : okF Tryz.prog 197 = true := by kernel_rfl
def rc_laws_toSeg : RC :=
 (.seq (.reg [oo 1 (.bx (.t 0)), oo 2 (.al [.j 0, .j 0, .j 0, .nils])])
 (.seq (.reg [oo 3 (.al [.j 0, .j 0, .j 0, .nils])])
 (.seq (.reg [oo 4 (.fa 0 (.t 1)), oo 5 (.ld false 1 (.t 4)), oo 6 (.fa 0 (.t 3)), on (.st 1 (.t 6) (.t 5))])
 (.seq (.reg [oo 7 (.fa 1 (.t 1)), oo 8 (.ld false 1 (.t 7)), oo 9 (.fa 1 (.t 3)), on (.st 1 (.t 9) (.t 8))])
 (.seq (.reg [oo 10 (.fa 2 (.t 1)), oo 11 (.ld false 1 (.t 10)), oo 12 (.fa 2 (.t 3)), on (.st 1 (.t 12) (.t 11))])
 (.seq (.reg [oo 13 (.fa 3 (.t 1)), oo 14 (.ld false 1 (.t 13)), oo 15 (.cl (.c (.fn 197 [])) [(.t 14)]), oo 16 (.fa 3 (.t 3)), on (.st 1 (.t 16) (.t 15))])
 (.seq (.reg [oo 17 (.ld true 4 (.t 3)), on (.st 4 (.t 2) (.t 17))])
 .ret)))))))
theorem k_laws_toSeg : FnOk Tryz.prog 156 18 rc_laws_toSeg [.cell 2 true 4] := ⟨Tryz.f156, _, [], Tryz.func156, rfl, rfl, by kernel_rfl, by kernel_rfl, follows⟩
theorem ok_laws_toSeg : okF Tryz.prog 156 = true := by kernel_rfl
def rc_laws_toSegS : RC :=
 (.seq (.reg [oo 2 (.mv (.c (.nils)))])
 (.seq (.reg [om 5 0, oo 6 (.lenl (.t 5)), oo 7 (.ms 4 [.j 0, .j 0, .j 0, .nils] 48 (.t 6) (.t 6)), om 3 7])
 (.seq (.seq (.reg [oo 4 (.mv (.c (.j 0)))])
 (.blk 0 (.loop (.seq (.seq (.reg [om 8 4, om 9 0, oo 10 (.lenl (.t 9)), oo 11 (.bin .lss (.t 8) (.t 10))])
 (.cond (.t 11) .skip
 (.exit 0)))
 (.seq (.blk 1 (.reg [om 14 3, om 15 4, om 16 0, om 17 4, oo 18 (.ia 4 (.t 16) (.t 17)), oo 19 (.ld true 4 (.t 18)), oo 20 (.cl (.c (.fn 156 [])) [(.t 19)]), oo 21 (.ia 4 (.t 14) (.t 15)), on (.st 4 (.t 21) (.t 20))]))
 (.reg [om 12 4, oo 13 (.bin .add (.t 12) (.c (.j 1))), om 4 13]))))))
 (.seq (.reg [om 22 3, om 2 22])
 .ret))))
theorem k_laws_toSegS : FnOk Tryz.prog 100 23 rc_laws_toSegS [.t 2] := ⟨Tryz.f100, _, [], Tryz.func100, rfl, rfl, by kernel_rfl, by kernel_rfl, follows⟩
theorem ok_laws_toSegS : okF Tryz.prog 100 = true := by kernel_rfl
def rc_laws_toStringS : RC :=
 (.seq (.reg [oo 2 (.mv (.c (.nils)))])
 (.seq (.reg [om 5 0, oo 6 (.lenl (.t 5)), oo 7 (.ms 1 [.str []] 16 (.t 6) (.t 6)), om 3 7])
 (.seq (.seq (.reg [oo 4 (.mv (.c (.j 0)))])
 (.blk 0 (.loop (.seq (.seq (.reg [om 8 4, om 9 0, oo 10 (.lenl (.t 9)), oo 11 (.bin .lss (.t 8) (.t 10))])
 (.cond (.t 11) .skip
 (.exit 0)))
 (.seq (.blk 1 (.reg [om 14 3, om 15 4, om 16 0, om 17 4, oo 18 (.ia 1 (.t 16) (.t 17)), oo 19 (.ld false 1 (.t 18)), oo 20 (.ia 1 (.t 14) (.t 15)), on (.st 1 (.t 20) (.t 19))]))
 (.reg [om 12 4, oo 13 (.bin .add (.t 12) (.c (.j 1))), om 4 13]))))))
 (.seq (.reg [om 21 3, om 2 21])
 .ret))))
theorem k_laws_toStringS : FnOk Tryz.prog 154 22 rc_laws_toStringS [.t 2] := ⟨Tryz.f154, _, [], Tryz.func154, rfl, rfl, by kernel_rfl, by kernel_rfl, follows⟩
theorem ok_laws_toStringS : okF Tryz.prog 154 = true := by kernel_rfl
def rc_laws_toWrite : RC :=
 (.seq (.reg [oo 1 (.bx (.t 0)), oo 2 (.al [.j 0, .str []])])
 (.seq (.reg [oo 3 (.al [.j 0, .str []])])
 (.seq (.reg [oo 4 (.fa 0 (.t 1)), oo 5 (.ld false 1 (.t 4)), oo 6 (.fa 0 (.t 3)), on (.st 1 (.t 6) (.t 5))])
 (.seq (.reg [oo 7 (.fa 1 (.t 1)), oo 8 (.ld false 1 (.t 7)), oo 9 (.fa 1 (.t 3)), on (.st 1 (.t 9) (.t 8))])
 (.seq (.reg [oo 10 (.ld true 2 (.t 3)), on (.st 2 (.t 2) (.t 10))])
 .ret)))))
theorem k_laws_toWrite : FnOk Tryz.prog 196 11 rc_laws_toWrite [.cell 2 true 2] := ⟨Tryz.f196, _, [], Tryz.func196, rfl, rfl, by kernel_rfl, by kernel_rfl, follows⟩
theorem ok_laws_toWrite : okF Tryz.prog 196 = true := by kernel_rfl
def rc_laws_toWriteS : RC :=
 (.seq (.reg [oo 2 (.mv (.c (.nils)))])
 (.seq (.reg [om 5 0, oo 6 (.lenl (.t 5)), oo 7 (.ms 2 [.j 0, .str []] 24 (.t 6) (.t 6)), om 3 7])
 (.seq (.seq (.reg [oo 4 (.mv (.c (.j 0)))])
 (.blk 0 (.loop (.seq (.seq (.reg [om 8 4, om 9 0, oo 10 (.lenl (.t 9)), oo 11 (.bin .lss (.t 8) (.t 10))])
 (.cond (.t 11) .skip
 (.exit 0)))
 (.seq (.blk 1 (.reg [om 14 3, om 15 4, om 16 0, om 17 4, oo 18 (.ia 2 (.t 16) (.t 17)), oo 19 (.ld true 2 (.t 18)), oo 20 (.cl (.c (.fn 196 [])) [(.t 19)]), oo 21 (.ia 2 (.t 14) (.t 15)), on (.st 2 (.t 21) (.t 20))]))
 (.reg [om 12 4, oo 13 (.bin .add (.t 12) (.c (.j 1))), om 4 13]))))))
 (.seq (.reg [om 22 3, om 2 22])
 .ret))))
theorem k_laws_toWriteS : FnOk Tryz.prog 155 23 rc_laws_toWriteS [.t 2] := ⟨Tryz.f155, _, [], Tryz.func155, rfl, rfl, by kernel_rfl, by kernel_rfl, follows⟩
theorem ok_laws_toWriteS : okF Tryz.prog 155 = true := by kernel_rfl
def rc_laws_toDisk : RC :=
 (.seq (.reg [oo 1 (.bx (.t 0)), oo 2 (.al [.nils, .nils])])
 (.seq (.reg [oo 3 (.al [.nils, .nils])])
 (.seq (.reg [oo 4 (.fa 0 (.t 1)), oo 5 (.ld false 1 (.t 4)), oo 6 (.cl (.c (.fn 154 [])) [(.t 5)]), oo 7 (.fa 0 (.t 3)), on (.st 1 (.t 7) (.t 6))])
 (.seq (.reg [oo 8 (.fa 1 (.t 1)), oo 9 (.ld false 1 (.t 8)), oo 10 (.cl (.c (.fn 155 [])) [(.t 9)]), oo 11 (.fa 1 (.t 3)), on (.st 1 (.t 11) (.t 10))])
 (.seq (.reg [oo 12 (.ld true 2 (.t 3)), on (.st 2 (.t 2) (.t 12))])
 .ret)))))
theorem k_laws_toDisk : FnOk Tryz.prog 99 13 rc_laws_toDisk [.cell 2 true 2] := ⟨Tryz.f99, _, [], Tryz.func99, rfl, rfl, by kernel_rfl, by kernel_rfl, follows⟩
theorem ok_laws_toDisk : okF Tryz.prog 99 = true := by kernel_rfl
def rc_laws_toLog : RC :=
 (.seq (.reg [oo 1 (.bx (.t 0)), oo 2 (.al [.nils, .nils, .j 0, .nils, .j 0, .j 0, .j 0, .j 0])])
 (.seq (.reg [oo 3 (.al [.nils, .nils, .j 0, .nils, .j 0, .j 0, .j 0, .j 0])])
 (.seq (.reg [oo 4 (.fa 0 (.t 1)), oo 5 (.ld true 2 (.t 4)), oo 6 (.cl (.c (.fn 99 [])) [(.t 5)]), oo 7 (.fa 0 (.t 3)), on (.st 2 (.t 7) (.t 6))])
 (.seq (.reg [oo 8 (.fa 2 (.t 1)), oo 9 (.ld false 1 (.t 8)), oo 10 (.fa 2 (.t 3)), on (.st 1 (.t 10) (.t 9))])
 (.seq (.reg [oo 11 (.fa 3 (.t 1)), oo 12 (.ld false 1 (.t 11)), oo 13 (.cl (.c (.fn 100 [])) [(.t 12)]), oo 14 (.fa 3 (.t 3)), on (.st 1 (.t 14) (.t 13))])
 (.seq (.reg [oo 15 (.fa 4 (.t 1)), oo 16 (.ld false 1 (.t 15)), oo 17 (.fa 4 (.t 3)), on (.st 1 (.t 17) (.t 16))])
 (.seq (.reg [oo 18 (.fa 5 (.t 1)), oo 19 (.ld false 1 (.t 18)), oo 20 (.fa 5 (.t 3)), on (.st 1 (.t 20) (.t 19))])
 (.seq (.reg [oo 21 (.fa 6 (.t 1)), oo 22 (.ld false 1 (.t 21)), oo 23 (.fa 6 (.t 3)), on (.st 1 (.t 23) (.t 22))])
 (.seq (.reg [oo 24 (.fa 7 (.t 1)), oo 25 (.ld false 1 (.t 24)), oo 26 (.fa 7 (.t 3)), on (.st 1 (.t 26) (.t 25))])
 (.seq (.reg [oo 27 (.ld true 8 (.t 3)), on (.st 8 (.t 2) (.t 27))])
 .ret))))))))))
theorem k_laws_toLog : FnOk Tryz.prog 51 28 rc_laws_toLog [.cell 2 true 8] := ⟨Tryz.f51, _, [], Tryz.func51, rfl, rfl, by kernel_rfl, by kernel_rfl, follows⟩
theorem ok_laws_toLog : okF Tryz.prog 51 = true := by kernel_rfl
def rc_laws_toIntS : RC :=
 (.seq (.reg [oo 2 (.mv (.c (.nils)))])
 (.seq (.reg [om 5 0, oo 6 (.lenl (.t 5)), oo 7 (.ms 1 [.j 0] 8 (.t 6) (.t 6)), om 3 7])
 (.seq (.seq (.reg [oo 4 (.mv (.c (.j 0)))])
 (.blk 0 (.loop (.seq (.seq (.reg [om 8 4, om 9 0, oo 10 (.lenl (.t 9)), oo 11 (.bin .lss (.t 8) (.t 10))])
 (.cond (.t 11) .skip
 (.exit 0)))
 (.seq (.blk 1 (.reg [om 14 3, om 15 4, om 16 0, om 17 4, oo 18 (.ia 1 (.t 16) (.t 17)), oo 19 (.ld false 1 (.t 18)), oo 20 (.ia 1 (.t 14) (.t 15)), on (.st 1 (.t 20) (.t 19))]))
 (.reg [om 12 4, oo 13 (.bin .add (.t 12) (.c (.j 1))), om 4 13]))))))
 (.seq (.reg [om 21 3, om 2 21])
 .ret))))
theorem k_laws_toIntS : FnOk Tryz.prog 52 22 rc_laws_toIntS [.t 2] := ⟨Tryz.f52, _, [], Tryz.func52, rfl, rfl, by kernel_rfl, by kernel_rfl, follows⟩
theorem ok_laws_toIntS : okF Tryz.prog 52 = true := by kernel_rfl
def rc_laws_toStore : RC :=
 (.seq (.reg [oo 1 (.bx (.t 0)), oo 2 (.al [.nils, .nils, .j 0, .nils, .j 0, .j 0, .j 0, .j 0, .nils])])
 (.seq (.reg [oo 3 (.al [.nils, .nils, .j 0, .nils, .j 0, .j 0, .j 0, .j 0, .nils])])
 (.seq (.reg [oo 4 (.fa 0 (.t 1)), oo 5 (.ld true 8 (.t 4)), oo 6 (.cl (.c (.fn 51 [])) [(.t 5)]), oo 7 (.fa 0 (.t 3)), on (.st 8 (.t 7) (.t 6))])
 (.seq (.reg [oo 8 (.fa 8 (.t 1)), oo 9 (.ld false 1 (.t 8)), oo 10 (.cl (.c (.fn 52 [])) [(.t 9)]), oo 11 (.fa 8 (.t 3)), on (.st 1 (.t 11) (.t 10))])
 (.seq (.reg [oo 12 (.ld true 9 (.t 3)), on (.st 9 (.t 2) (.t 12))])
 .ret)))))
theorem k_laws_toStore : FnOk Tryz.prog 19 13 rc_laws_toStore [.cell 2 true 9] := ⟨Tryz.f19, _, [], Tryz.func19, rfl, rfl, by kernel_rfl, by kernel_rfl, follows⟩
theorem ok_laws_toStore : okF Tryz.prog 19 = true := by kernel_rfl
def rc_spec_l01In : RC :=
 (.seq (.reg [oo 6 (.mv (.c (.bool false)))])
 (.seq (.reg [om 7 0, om 8 1, oo 9 (.bin .geq (.t 7) (.t 8)), om 10 9, ⟨(some 11), (some (10, true)), .mv (.t 0)⟩, ⟨(some 12), (some (10, true)), .mv (.t 2)⟩, ⟨(some 13), (some (10, true)), .bin .leq (.t 11) (.t 12)⟩, oo 14 (.pick (.t 10) (.t 13) (.c (.bool false))), om 6 14])
 .ret))
theorem k_spec_l01In : FnOk Tryz.prog 28 15 rc_spec_l01In [.t 6] := ⟨Tryz.f28, _, [], Tryz.func28, rfl, rfl, by kernel_rfl, by kernel_rfl, follows⟩
theorem ok_spec_l01In : okF Tryz.prog 28 = true := by kernel_rfl
def rc_spec_WordOk : RC :=
 (.seq (.reg [oo 2 (.mv (.c (.bool false)))])
 (.seq (.seq (.reg [oo 3 (.mv (.c (.j 0)))])
 (.blk 0 (.loop (.seq (.seq (.reg [om 4 3, om 5 0, oo 6 (.lens (.t 5)), oo 7 (.bin .lss (.t 4) (.t 6))])
 (.cond (.t 7) .skip
 (.exit 0)))
 (.seq (.blk 1 (.seq (.reg [om 10 0, om 11 3, oo 12 (.idx (.t 10) (.t 11)), oo 13 (.bin .lss (.t 12) (.c (.int .u8 97))), om 14 13, ⟨(some 15), (some (14, false)), .mv (.t 0)⟩, ⟨(some 16), (some (14, false)), .mv (.t 3)⟩, ⟨(some 17), (some (14, false)), .idx (.t 15) (.t 16)⟩, ⟨(some 18), (some (14, false)), .bin .gtr (.t 17) (.c (.int .u8 122))⟩, oo 19 (.pick (.t 14) (.c (.bool true)) (.t 18))])
 (.cond (.t 19) (.seq (.reg [oo 2 (.mv (.c (.bool false)))])
 .ret)
 .skip)))
 (.reg [om 8 3, oo 9 (.bin .add (.t 8) (.c (.j 1))), om 3 9]))))))
 (.seq (.reg [om 20 0, oo 21 (.lens (.t 20)), oo 22 (.cl (.c (.fn 28 [])) [(.t 21), (.c (.j 1)), (.c (.j 8))]), om 2 22])
 .ret)))
theorem k_spec_WordOk : FnOk Tryz.prog 195 23 rc_spec_WordOk [.t 2] := ⟨Tryz.f195, _, [], Tryz.func195, rfl, rfl, by kernel_rfl, by kernel_rfl, follows⟩
theorem ok_spec_WordOk : okF Tryz.prog 195 = true := by kernel_rfl
def rc_spec_RecOk : RC :=
 (.seq (.reg [oo 1 (.bx (.t 0)), oo 2 (.mv (.c (.bool false)))])
 (.seq (.seq (.reg [oo 6 (.fa 0 (.t 1)), oo 7 (.ld false 1 (.t 6)), oo 8 (.cl (.c (.fn 28 [])) [(.t 7), (.c (.j 1)), (.c (.j 5))]), oo 9 (.un .not (.t 8)), om 10 9, ⟨(some 11), (some (10, false)), .fa 1 (.t 1)⟩, ⟨(some 12), (some (10, false)), .ld false 1 (.t 11)⟩, ⟨(some 13), (some (10, false)), .cl (.c (.fn 28 [])) [(.t 12), (.c (.j 1)), (.c (.j 9999))]⟩, ⟨(some 14), (some (10, false)), .un .not (.t 13)⟩, oo 15 (.pick (.t 10) (.c (.bool true)) (.t 14))])
 (.cond (.t 15) (.seq (.reg [oo 2 (.mv (.c (.bool false)))])
 .ret)
 .skip))
 (.seq (.reg [oo 16 (.fa 0 (.t 1)), oo 17 (.ld false 1 (.t 16)), oo 18 (.bin .eql (.t 17) (.c (.j 1))), om 3 18])
 (.seq (.reg [oo 19 (.fa 0 (.t 1)), oo 20 (.ld false 1 (.t 19)), oo 21 (.bin .eql (.t 20) (.c (.j 3))), om 22 21, ⟨(some 23), (some (22, false)), .fa 0 (.t 1)⟩, ⟨(some 24), (some (22, false)), .ld false 1 (.t 23)⟩, ⟨(some 25), (some (22, false)), .bin .eql (.t 24) (.c (.j 4))⟩, oo 26 (.pick (.t 22) (.c (.bool true)) (.t 25)), om 27 26, ⟨(some 28), (some (27, false)), .fa 0 (.t 1)⟩, ⟨(some 29), (some (27, false)), .ld false 1 (.t 28)⟩, ⟨(some 30), (some (27, false)), .bin .eql (.t 29) (.c (.j 5))⟩, oo 31 (.pick (.t 27) (.c (.bool true)) (.t 30)), om 4 31])
 (.seq (.reg [oo 32 (.fa 0 (.t 1)), oo 33 (.ld false 1 (.t 32)), oo 34 (.bin .eql (.t 33) (.c (.j 3))), om 35 34, ⟨(some 36), (some (35, false)), .fa 0 (.t 1)⟩, ⟨(some 37), (some (35, false)), .ld false 1 (.t 36)⟩, ⟨(some 38), (some (35, false)), .bin .eql (.t 37) (.c (.j 4))⟩, oo 39 (.pick (.t 35) (.c (.bool true)) (.t 38)), om 5 39])
 (.seq (.seq (.reg [om 40 3, om 41 40, ⟨(some 42), (some (41, true)), .fa 5 (.t 1)⟩, ⟨(some 43), (some (41, true)), .ld false 1 (.t 42)⟩, ⟨(some 44), (some (41, true)), .cl (.c (.fn 195 [])) [(.t 43)]⟩, ⟨(some 45), (some (41, true)), .un .not (.t 44)⟩, ⟨(some 46), (some (41, true)), .mv (.t 45)⟩, ⟨(some 47), (some (46, false)), .fa 6 (.t 1)⟩, ⟨(some 48), (some (46, false)), .ld false 1 (.t 47)⟩, ⟨(some 49), (some (46, false)), .cl (.c (.fn 195 [])) [(.t 48)]⟩, ⟨(some 50), (some (46, false)), .un .not (.t 49)⟩, ⟨(some 51), (some (41, true)), .pick (.t 46) (.c (.bool true)) (.t 50)⟩, ⟨(some 52), (some (41, true)), .mv (.t 51)⟩, ⟨(some 53), (some (52, false)), .fa 3 (.t 1)⟩, ⟨(some 54), (some (52, false)), .ld false 1 (.t 53)⟩, ⟨(some 55), (some (52, false)), .cl (.c (.fn 28 [])) [(.t 54), (.c (.j 1)), (.c (.j 10000))]⟩, ⟨(some 56), (some (52, false)), .un .not (.t 55)⟩, ⟨(some 57), (some (41, true)), .pick (.t 52) (.c (.bool true)) (.t 56)⟩, oo 58 (.pick (.t 41) (.t 57) (.c (.bool false))), om 59 58, ⟨(some 60), (some (59, false)), .mv (.t 3)⟩, ⟨(some 61), (some (59, false)), .un .not (.t 60)⟩, ⟨(some 62), (some (59, false)), .mv (.t 61)⟩, ⟨(some 63), (some (62, true)), .fa 5 (.t 1)⟩, ⟨(some 64), (some (62, true)), .ld false 1 (.t 63)⟩, ⟨(some 65), (some (62, true)), .bin .neq (.t 64) (.c (.str []))⟩, ⟨(some 66), (some (62, true)), .mv (.t 65)⟩, ⟨(some 67), (some (66, false)), .fa 6 (.t 1)⟩, ⟨(some 68), (some (66, false)), .ld false 1 (.t 67)⟩, ⟨(some 69), (some (66, false)), .bin .neq (.t 68) (.c (.str []))⟩, ⟨(some 70), (some (62, true)), .pick (.t 66) (.c (.bool true)) (.t 69)⟩, ⟨(some 71), (some (62, true)), .mv (.t 70)⟩, ⟨(some 72), (some (71, false)), .fa 3 (.t 1)⟩, ⟨(some 73), (some (71, false)), .ld false 1 (.t 72)⟩, ⟨(some 74), (some (71, false)), .bin .neq (.t 73) (.c (.j 0))⟩, ⟨(some 75), (some (62, true)), .pick (.t 71) (.c (.bool true)) (.t 74)⟩, ⟨(some 76), (some (59, false)), .pick (.t 62) (.t 75) (.c (.bool false))⟩, oo 77 (.pick (.t 59) (.c (.bool true)) (.t 76))])
 (.cond (.t 77) (.seq (.reg [oo 2 (.mv (.c (.bool false)))])
 .ret)
 .skip))
 (.seq (.seq (.reg [om 78 4, om 79 78, ⟨(some 80), (some (79, true)), .fa 2 (.t 1)⟩, ⟨(some 81), (some (79, true)), .ld false 1 (.t 80)⟩, ⟨(some 82), (some (79, true)), .cl (.c (.fn 28 [])) [(.t 81), (.c (.j 1)), (.c (.j 9999))]⟩, ⟨(some 83), (some (79, true)), .un .not (.t 82)⟩, oo 84 (.pick (.t 79) (.t 83) (.c (.bool false))), om 85 84, ⟨(some 86), (some (85, false)), .mv (.t 4)⟩, ⟨(some 87), (some (85, false)), .un .not (.t 86)⟩, ⟨(some 88), (some (85, false)), .mv (.t 87)⟩, ⟨(some 89), (some (88, true)), .fa 2 (.t 1)⟩, ⟨(some 90), (some (88, true)), .ld false 1 (.t 89)⟩, ⟨(some 91), (some (88, true)), .bin .neq (.t 90) (.c (.j 0))⟩, ⟨(some 92), (some (85, false)), .pick (.t 88) (.t 91) (.c (.bool false))⟩, oo 93 (.pick (.t 85) (.c (.bool true)) (.t 92))])
 (.cond (.t 93) (.seq (.reg [oo 2 (.mv (.c (.bool false)))])
 .ret)
 .skip))
 (.seq (.seq (.reg [om 94 5, om 95 94, ⟨(some 96), (some (95, true)), .fa 4 (.t 1)⟩, ⟨(some 97), (some (95, true)), .ld false 1 (.t 96)⟩, ⟨(some 98), (some (95, true)), .cl (.c (.fn 28 [])) [(.t 97), (.c (.j 0)), (.c (.j 7))]⟩, ⟨(some 99), (some (95, true)), .un .not (.t 98)⟩, oo 100 (.pick (.t 95) (.t 99) (.c (.bool false))), om 101 100, ⟨(some 102), (some (101, false)), .mv (.t 5)⟩, ⟨(some 103), (some (101, false)), .un .not (.t 102)⟩, ⟨(some 104), (some (101, false)), .mv (.t 103)⟩, ⟨(some 105), (some (104, true)), .fa 4 (.t 1)⟩, ⟨(some 106), (some (104, true)), .ld false 1 (.t 105)⟩, ⟨(some 107), (some (104, true)), .bin .neq (.t 106) (.c (.j 0))⟩, ⟨(some 108), (some (101, false)), .pick (.t 104) (.t 107) (.c (.bool false))⟩, oo 109 (.pick (.t 101) (.c (.bool true)) (.t 108))])
 (.cond (.t 109) (.seq (.reg [oo 2 (.mv (.c (.bool false)))])
 .ret)
 .skip))
 (.seq (.seq (.reg [oo 110 (.fa 0 (.t 1)), oo 111 (.ld false 1 (.t 110)), oo 112 (.bin .eql (.t 111) (.c (.j 3)))])
 (.cond (.t 112) (.seq (.reg [oo 113 (.fa 7 (.t 1)), oo 114 (.ld false 1 (.t 113)), oo 115 (.lens (.t 114)), oo 116 (.bin .leq (.t 115) (.c (.j 100))), om 2 116])
 .ret)
 .skip))
 (.seq (.reg [oo 117 (.fa 7 (.t 1)), oo 118 (.ld false 1 (.t 117)), oo 119 (.bin .eql (.t 118) (.c (.str []))), om 2 119])
 .ret))))))))))
theorem k_spec_RecOk : FnOk Tryz.prog 153 120 rc_spec_RecOk [.t 2] := ⟨Tryz.f153, _, [], Tryz.func153, rfl, rfl, by kernel_rfl, by kernel_rfl, follows⟩
theorem ok_spec_RecOk : okF Tryz.prog 153 = true := by kernel_rfl
def rc_spec_ItemsOk : RC :=
 (.seq (.reg [oo 2 (.mv (.c (.bool false)))])
 (.seq (.seq (.reg [oo 3 (.mv (.c (.j 0)))])
 (.blk 0 (.loop (.seq (.seq (.reg [om 5 3, om 6 0, oo 7 (.lenl (.t 6)), oo 8 (.bin .lss (.t 5) (.t 7))])
 (.cond (.t 8) .skip
 (.exit 0)))
 (.seq (.blk 1 (.seq (.seq (.reg [om 11 0, om 12 3, oo 13 (.ia 9 (.t 11) (.t 12)), oo 14 (.fa 0 (.t 13)), oo 15 (.ld false 1 (.t 14)), oo 16 (.cl (.c (.fn 28 [])) [(.t 15), (.c (.j 1)), (.c (.j 1000000000))]), oo 17 (.un .not (.t 16)), om 18 17, ⟨(some 19), (some (18, false)), .mv (.t 0)⟩, ⟨(some 20), (some (18, false)), .mv (.t 3)⟩, ⟨(some 21), (some (18, false)), .ia 9 (.t 19) (.t 20)⟩, ⟨(some 22), (some (18, false)), .fa 1 (.t 21)⟩, ⟨(some 23), (some (18, false)), .ld true 8 (.t 22)⟩, ⟨(some 24), (some (18, false)), .cl (.c (.fn 153 [])) [(.t 23)]⟩, ⟨(some 25), (some (18, false)), .un .not (.t 24)⟩, oo 26 (.pick (.t 18) (.c (.bool true)) (.t 25))])
 (.cond (.t 26) (.seq (.reg [oo 2 (.mv (.c (.bool false)))])
 .ret)
 .skip))
 (.seq (.reg [oo 4 (.mv (.c (.j 0)))])
 (.blk 2 (.loop (.seq (.seq (.reg [om 27 4, om 28 3, oo 29 (.bin .lss (.t 27) (.t 28))])
 (.cond (.t 29) .skip
 (.exit 2)))
 (.seq (.blk 3 (.seq (.drw [om 32 0, om 33 4, oo 34 (.ia 9 (.t 32) (.t 33)), oo 35 (.fa 0 (.t 34)), oo 36 (.ld false 1 (.t 35)), om 37 0, om 38 3, oo 39 (.ia 9 (.t 37) (.t 38)), oo 40 (.fa 0 (.t 39)), oo 41 (.ld false 1 (.t 40)), oo 42 (.bin .eql (.t 36) (.t 41)), om 43 42, ⟨(some 44), (some (43, true)), .mv (.t 0)⟩, ⟨(some 45), (some (43, true)), .mv (.t 4)⟩, ⟨(some 46), (some (43, true)), .ia 9 (.t 44) (.t 45)⟩, ⟨(some 47), (some (43, true)), .ld true 9 (.t 46)⟩, ⟨(some 48), (some (43, true)), .mv (.t 0)⟩, ⟨(some 49), (some (43, true)), .mv (.t 3)⟩, ⟨(some 50), (some (43, true)), .ia 9 (.t 48) (.t 49)⟩, ⟨(some 51), (some (43, true)), .ld true 9 (.t 50)⟩, ⟨(some 52), (some (43, true)), .equ true [(0, 1), (1, 1), (2, 1), (3, 1), (4, 1), (5, 1), (6, 2), (7, 2), (8, 2)] (.t 47) (.t 51)⟩, oo 53 (.pick (.t 43) (.t 52) (.c (.bool false)))] [.val [], .val [], .val [], .val [], .val [], .val [], .val [], .val [], .val [], .val [], .val [], .val [], .val [], .val [], .val [], .val [], .val [], .val [], .val [], .val [], .val [], .val []])
 (.cond (.t 53) (.seq (.reg [oo 2 (.mv (.c (.bool false)))])
 .ret)
 .skip)))
 (.reg [om 30 4, oo 31 (.bin .add (.t 30) (.c (.j 1))), om 4 31]))))))))
 (.reg [om 9 3, oo 10 (.bin .add (.t 9) (.c (.j 1))), om 3 10]))))))
 (.seq (.reg [om 54 0, oo 55 (.lenl (.t 54)), oo 56 (.bin .leq (.t 55) (.c (.j 200))), om 2 56])
 .ret)))
theorem k_spec_ItemsOk : FnOk Tryz.prog 93 57 rc_spec_ItemsOk [.t 2] := ⟨Tryz.f93, _, [], Tryz.func93, rfl, rfl, by kernel_rfl, by kernel_rfl, follows⟩
theorem ok_spec_ItemsOk : okF Tryz.prog 93 = true := by kernel_rfl
def rc_spec_l07Best : RC :=
 (.seq (.reg [oo 8 (.al [.j 0, .j 0, .j 0, .j 0, .j 0, .j 0, .str [], .str [], .str []]), oo 9 (.mv (.c (.bool false)))])
 (.seq (.reg [oo 14 (.bld [.j 0, .j 0, .j 0, .j 0, .j 0, .j 0, .str [], .str [], .str []] [(0, 1), (1, 8)] []), oo 10 (.al [.j 0, .j 0, .j 0, .j 0, .j 0, .j 0, .str [], .str [], .str []]), on (.st 9 (.t 10) (.t 14))])
 (.seq (.reg [oo 11 (.mv (.c (.bool false)))])
 (.seq (.seq (.reg [oo 12 (.mv (.c (.j 0)))])
 (.blk 0 (.loop (.seq (.seq (.reg [om 15 12, om 16 0, oo 17 (.lenl (.t 16)), oo 18 (.bin .lss (.t 15) (.t 17))])
 (.cond (.t 18) .skip
 (.exit 0)))
 (.seq (.blk 1 (.seq (.reg [om 21 0, om 22 12, oo 23 (.ia 9 (.t 21) (.t 22)), oo 24 (.ld true 9 (.t 23)), oo 13 (.al [.j 0, .j 0, .j 0, .j 0, .j 0, .j 0, .str [], .str [], .str []]), on (.st 9 (.t 13) (.t 24))])
 (.seq (.reg [oo 25 (.fa 1 (.t 13)), oo 26 (.fa 0 (.t 25)), oo 27 (.ld false 1 (.t 26)), om 28 1, oo 29 (.bin .eql (.t 27) (.t 28)), om 30 29, ⟨(some 31), (some (30, true)), .fa 1 (.t 13)⟩, ⟨(some 32), (some (30, true)), .fa 1 (.t 31)⟩, ⟨(some 33), (some (30, true)), .ld false 1 (.t 32)⟩, ⟨(some 34), (some (30, true)), .mv (.t 2)⟩, ⟨(some 35), (some (30, true)), .bin .eql (.t 33) (.t 34)⟩, oo 36 (.pick (.t 30) (.t 35) (.c (.bool false))), om 37 36, ⟨(some 38), (some (37, true)), .fa 1 (.t 13)⟩, ⟨(some 39), (some (37, true)), .fa 2 (.t 38)⟩, ⟨(some 40), (some (37, true)), .ld false 1 (.t 39)⟩, ⟨(some 41), (some (37, true)), .mv (.t 3)⟩, ⟨(some 42), (some (37, true)), .bin .eql (.t 40) (.t 41)⟩, oo 43 (.pick (.t 37) (.t 42) (.c (.bool false))), om 44 43, ⟨(some 45), (some (44, true)), .mv (.t 11)⟩, ⟨(some 46), (some (44, true)), .un .not (.t 45)⟩, ⟨(some 47), (some (44, true)), .mv (.t 46)⟩, ⟨(some 48), (some (47, false)), .fa 0 (.t 13)⟩, ⟨(some 49), (some (47, false)), .ld false 1 (.t 48)⟩, ⟨(some 50), (some (47, false)), .fa 0 (.t 10)⟩, ⟨(some 51), (some (47, false)), .ld false 1 (.t 50)⟩, ⟨(some 52), (some (47, false)), .bin .gtr (.t 49) (.t 51)⟩, ⟨(some 53), (some (44, true)), .pick (.t 47) (.c (.bool true)) (.t 52)⟩, oo 54 (.pick (.t 44) (.t 53) (.c (.bool false)))])
 (.cond (.t 54) (.seq (.reg [oo 55 (.ld true 9 (.t 13)), on (.st 9 (.t 10) (.t 55))])
 (.reg [oo 11 (.mv (.c (.bool true)))]))
 .skip))))
 (.reg [om 19 12, oo 20 (.bin .add (.t 19) (.c (.j 1))), om 12 20]))))))
 (.seq (.reg [oo 56 (.ld true 9 (.t 10)), om 57 11, on (.st 9 (.t 8) (.t 56)), om 9 57])
 .ret)))))
theorem k_spec_l07Best : FnOk Tryz.prog 94 58 rc_spec_l07Best [.cell 8 true 9, .t 9] := ⟨Tryz.f94, _, [], Tryz.func94, rfl, rfl, by kernel_rfl, by kernel_rfl, follows⟩
theorem ok_spec_l07Best : okF Tryz.prog 94 = true := by kernel_rfl
def rc_spec_l07Sorted : RC :=
 (.seq (.reg [oo 4 (.mv (.c (.nils)))])
 (.seq (.reg [oo 8 (.mv (.c (.nils))), om 5 8])
 (.seq (.seq (.reg [oo 6 (.mv (.c (.j 0)))])
 (.blk 0 (.loop (.seq (.seq (.reg [om 9 6, om 10 0, oo 11 (.lenl (.t 10)), oo 12 (.bin .lss (.t 9) (.t 11))])
 (.cond (.t 12) .skip
 (.exit 0)))
 (.seq (.blk 1 (.seq (.reg [om 15 0, om 16 6, oo 17 (.ia 1 (.t 15) (.t 16)), oo 18 (.ld false 1 (.t 17)), om 19 1, oo 20 (.bin .lss (.t 18) (.t 19))])
 (.cond (.t 20) (.reg [om 21 5, om 22 0, om 23 6, oo 24 (.ia 1 (.t 22) (.t 23)), oo 25 (.ld false 1 (.t 24)), oo 26 (.bs 1 [.j 0] 1 [(0, (.t 25))]), oo 27 (.app 1 8 (.t 21) (.t 26)), om 5 27])
 .skip)))
 (.reg [om 13 6, oo 14 (.bin .add (.t 13) (.c (.j 1))), om 6 14]))))))
 (.seq (.reg [om 28 5, om 29 1, oo 30 (.bs 1 [.j 0] 1 [(0, (.t 29))]), oo 31 (.app 1 8 (.t 28) (.t 30)), om 5 31])
 (.seq (.seq (.reg [oo 7 (.mv (.c (.j 0)))])
 (.blk 2 (.loop (.seq (.seq (.reg [om 32 7, om 33 0, oo 34 (.lenl (.t 33)), oo 35 (.bin .lss (.t 32) (.t 34))])
 (.cond (.t 35) .skip
 (.exit 2)))
 (.seq (.blk 3 (.seq (.reg [om 38 0, om 39 7, oo 40 (.ia 1 (.t 38) (.t 39)), oo 41 (.ld false 1 (.t 40)), om 42 1, oo 43 (.bin .gtr (.t 41) (.t 42))])
 (.cond (.t 43) (.reg [om 44 5, om 45 0, om 46 7, oo 47 (.ia 1 (.t 45) (.t 46)), oo 48 (.ld false 1 (.t 47)), oo 49 (.bs 1 [.j 0] 1 [(0, (.t 48))]), oo 50 (.app 1 8 (.t 44) (.t 49)), om 5 50])
 .skip)))
 (.reg [om 36 7, oo 37 (.bin .add (.t 36) (.c (.j 1))), om 7 37]))))))
 (.seq (.reg [om 51 5, om 4 51])
 .ret))))))
theorem k_spec_l07Sorted : FnOk Tryz.prog 95 52 rc_spec_l07Sorted [.t 4] := ⟨Tryz.f95, _, [], Tryz.func95, rfl, rfl, by kernel_rfl, by kernel_rfl, follows⟩
theorem ok_spec_l07Sorted : okF Tryz.prog 95 = true := by kernel_rfl
def rc_spec_l07Tell : RC :=
 (.seq (.reg [oo 4 (.al [.j 0, .j 0, .j 0, .j 0, .j 0, .j 0, .str [], .str [], .str []])])
 (.seq (.reg [oo 8 (.bld [.j 0, .j 0, .j 0, .j 0, .j 0, .j 0, .str [], .str [], .str []] [(0, 1), (1, 8)] []), oo 5 (.al [.j 0, .j 0, .j 0, .j 0, .j 0, .j 0, .str [], .str [], .str []]), on (.st 9 (.t 5) (.t 8))])
 (.seq (.seq (.reg [oo 6 (.mv (.c (.j 0)))])
 (.blk 0 (.loop (.seq (.seq (.reg [om 9 6, om 10 0, oo 11 (.lenl (.t 10)), oo 12 (.bin .lss (.t 9) (.t 11))])
 (.cond (.t 12) .skip
 (.exit 0)))
 (.seq (.blk 1 (.seq (.reg [om 15 0, om 16 6, oo 17 (.ia 9 (.t 15) (.t 16)), oo 18 (.ld true 9 (.t 17)), oo 7 (.al [.j 0, .j 0, .j 0, .j 0, .j 0, .j 0, .str [], .str [], .str []]), on (.st 9 (.t 7) (.t 18))])
 (.seq (.seq (.reg [oo 19 (.fa 1 (.t 7)), oo 20 (.fa 0 (.t 19)), oo 21 (.ld false 1 (.t 20)), oo 22 (.bin .neq (.t 21) (.c (.j 1))), om 23 22, ⟨(some 24), (some (23, false)), .fa 1 (.t 7)⟩, ⟨(some 25), (some (23, false)), .fa 1 (.t 24)⟩, ⟨(some 26), (some (23, false)), .ld false 1 (.t 25)⟩, ⟨(some 27), (some (23, false)), .mv (.t 1)⟩, ⟨(some 28), (some (23, false)), .bin .neq (.t 26) (.t 27)⟩, oo 29 (.pick (.t 23) (.c (.bool true)) (.t 28))])
 (.cond (.t 29) (.exit 1)
 .skip))
 (.seq (.reg [oo 30 (.fa 0 (.t 5)), oo 31 (.ld false 1 (.t 30)), oo 32 (.bin .eql (.t 31) (.c (.j 0))), om 33 32, ⟨(some 34), (some (33, false)), .fa 1 (.t 7)⟩, ⟨(some 35), (some (33, false)), .fa 3 (.t 34)⟩, ⟨(some 36), (some (33, false)), .ld false 1 (.t 35)⟩, ⟨(some 37), (some (33, false)), .fa 1 (.t 5)⟩, ⟨(some 38), (some (33, false)), .fa 3 (.t 37)⟩, ⟨(some 39), (some (33, false)), .ld false 1 (.t 38)⟩, ⟨(some 40), (some (33, false)), .bin .gtr (.t 36) (.t 39)⟩, oo 41 (.pick (.t 33) (.c (.bool true)) (.t 40)), om 42 41, ⟨(some 43), (some (42, false)), .fa 1 (.t 7)⟩, ⟨(some 44), (some (42, false)), .fa 3 (.t 43)⟩, ⟨(some 45), (some (42, false)), .ld false 1 (.t 44)⟩, ⟨(some 46), (some (42, false)), .fa 1 (.t 5)⟩, ⟨(some 47), (some (42, false)), .fa 3 (.t 46)⟩, ⟨(some 48), (some (42, false)), .ld false 1 (.t 47)⟩, ⟨(some 49), (some (42, false)), .bin .eql (.t 45) (.t 48)⟩, ⟨(some 50), (some (42, false)), .mv (.t 49)⟩, ⟨(some 51), (some (50, true)), .fa 0 (.t 7)⟩, ⟨(some 52), (some (50, true)), .ld false 1 (.t 51)⟩, ⟨(some 53), (some (50, true)), .fa 0 (.t 5)⟩, ⟨(some 54), (some (50, true)), .ld false 1 (.t 53)⟩, ⟨(some 55), (some (50, true)), .bin .gtr (.t 52) (.t 54)⟩, ⟨(some 56), (some (42, false)), .pick (.t 50) (.t 55) (.c (.bool false))⟩, oo 57 (.pick (.t 42) (.c (.bool true)) (.t 56))])
 (.cond (.t 57) (.reg [oo 58 (.ld true 9 (.t 7)), on (.st 9 (.t 5) (.t 58))])
 .skip)))))
 (.reg [om 13 6, oo 14 (.bin .add (.t 13) (.c (.j 1))), om 6 14]))))))
 (.seq (.reg [oo 59 (.ld true 9 (.t 5)), on (.st 9 (.t 4) (.t 59))])
 .ret))))
theorem k_spec_l07Tell : FnOk Tryz.prog 96 60 rc_spec_l07Tell [.cell 4 true 9] := ⟨Tryz.f96, _, [], Tryz.func96, rfl, rfl, by kernel_rfl, by kernel_rfl, follows⟩
theorem ok_spec_l07Tell : okF Tryz.prog 96 = true := by kernel_rfl
def rc_spec_l07Next : RC :=
 (.seq (.reg [oo 4 (.mv (.c (.j 0)))])
 (.seq (.reg [oo 5 (.mv (.c (.j 1)))])
 (.seq (.seq (.reg [oo 6 (.mv (.c (.j 0)))])
 (.blk 0 (.loop (.seq (.seq (.reg [om 9 6, om 10 0, oo 11 (.lenl (.t 10)), oo 12 (.bin .lss (.t 9) (.t 11))])
 (.cond (.t 12) .skip
 (.exit 0)))
 (.seq (.blk 1 (.seq (.reg [om 15 0, om 16 6, oo 17 (.ia 9 (.t 15) (.t 16)), oo 18 (.fa 1 (.t 17)), oo 19 (.ld true 8 (.t 18)), oo 7 (.al [.j 0, .j 0, .j 0, .j 0, .j 0, .str [], .str [], .str []]), on (.st 8 (.t 7) (.t 19))])
 (.seq (.seq (.reg [oo 20 (.fa 1 (.t 7)), oo 21 (.ld false 1 (.t 20)), om 22 1, oo 23 (.bin .neq (.t 21) (.t 22))])
 (.cond (.t 23) (.exit 1)
 .skip))
 (.seq (.reg [oo 8 (.mv (.c (.j 0)))])
 (.seq (.seq (.reg [oo 24 (.fa 0 (.t 7)), oo 25 (.ld false 1 (.t 24))])
 (.blk 2 (.seq (.reg [oo 27 (.bin .eql (.t 25) (.c (.j 1))), om 26 27])
 (.cond (.t 26) (.reg [oo 28 (.fa 3 (.t 7)), oo 29 (.ld false 1 (.t 28)), om 8 29])
 (.seq (.seq (.reg [oo 31 (.bin .eql (.t 25) (.c (.j 3))), om 30 31])
 (.cond (.t 30) .skip
 (.reg [oo 32 (.bin .eql (.t 25) (.c (.j 5))), om 30 32])))
 (.cond (.t 30) (.reg [oo 33 (.fa 2 (.t 7)), oo 34 (.ld false 1 (.t 33)), oo 35 (.bin .add (.t 34) (.c (.j 1))), om 8 35])
 .skip))))))
 (.seq (.reg [om 36 8, om 37 5, oo 38 (.bin .gtr (.t 36) (.t 37))])
 (.cond (.t 38) (.reg [om 39 8, om 5 39])
 .skip)))))))
 (.reg [om 13 6, oo 14 (.bin .add (.t 13) (.c (.j 1))), om 6 14]))))))
 (.seq (.reg [om 40 5, om 4 40])
 .ret))))
theorem k_spec_l07Next : FnOk Tryz.prog 97 41 rc_spec_l07Next [.t 4] := ⟨Tryz.f97, _, [], Tryz.func97, rfl, rfl, by kernel_rfl, by kernel_rfl, follows⟩
theorem ok_spec_l07Next : okF Tryz.prog 97 = true := by kernel_rfl
def rc_spec_l07Mails : RC :=
 (.seq (.reg [oo 4 (.mv (.c (.nils)))])
 (.seq (.reg [oo 17 (.mv (.c (.nils))), om 5 17])
 (.seq (.seq (.reg [oo 6 (.mv (.c (.j 0)))])
 (.blk 0 (.loop (.seq (.seq (.reg [om 18 6, om 19 0, oo 20 (.lenl (.t 19)), oo 21 (.bin .lss (.t 18) (.t 20))])
 (.cond (.t 21) .skip
 (.exit 0)))
 (.seq (.blk 1 (.seq (.reg [om 24 0, om 25 6, oo 26 (.ia 9 (.t 24) (.t 25)), oo 27 (.fa 1 (.t 26)), oo 28 (.ld true 8 (.t 27)), oo 7 (.al [.j 0, .j 0, .j 0, .j 0, .j 0, .str [], .str [], .str []]), on (.st 8 (.t 7) (.t 28))])
 (.seq (.reg [om 30 0, om 31 1, oo 32 (.fa 2 (.t 7)), oo 33 (.ld false 1 (.t 32)), oo 34 (.cl (.c (.fn 94 [])) [(.t 30), (.c (.j 5)), (.t 31), (.t 33)]), om 29 34, oo 35 (.ext (.t 29) 0), oo 36 (.ext (.t 29) 1), oo 8 (.al [.j 0, .j 0, .j 0, .j 0, .j 0, .j 0, .str [], .str [], .str []]), on (.st 9 (.t 8) (.t 35)), om 9 36])
 (.seq (.reg [oo 37 (.fa 0 (.t 7)), oo 38 (.ld false 1 (.t 37)), oo 39 (.bin .eql (.t 38) (.c (.j 3))), om 40 39, ⟨(some 41), (some (40, true)), .fa 1 (.t 7)⟩, ⟨(some 42), (some (40, true)), .ld false 1 (.t 41)⟩, ⟨(some 43), (some (40, true)), .mv (.t 1)⟩, ⟨(some 44), (some (40, true)), .bin .eql (.t 42) (.t 43)⟩, oo 45 (.pick (.t 40) (.t 44) (.c (.bool false))), om 46 45, ⟨(some 47), (some (46, true)), .mv (.t 9)⟩, ⟨(some 48), (some (46, true)), .un .not (.t 47)⟩, oo 49 (.pick (.t 46) (.t 48) (.c (.bool false)))])
 (.cond (.t 49) (.reg [om 50 5, oo 51 (.fa 2 (.t 7)), oo 52 (.ld false 1 (.t 51)), oo 53 (.cl (.c (.fn 95 [])) [(.t 50), (.t 52)]), om 5 53])
 .skip)))))
 (.reg [om 22 6, oo 23 (.bin .add (.t 22) (.c (.j 1))), om 6 23]))))))
 (.seq (.reg [oo 54 (.mv (.c (.nils))), om 10 54])
 (.seq (.seq (.reg [oo 11 (.mv (.c (.j 0)))])
 (.blk 2 (.loop (.seq (.seq (.reg [om 55 11, om 56 5, oo 57 (.lenl (.t 56)), oo 58 (.bin .lss (.t 55) (.t 57))])
 (.cond (.t 58) .skip
 (.exit 2)))
 (.seq (.blk 3 (.seq (.reg [om 62 0, om 63 1, om 64 5, om 65 11, oo 66 (.ia 1 (.t 64) (.t 65)), oo 67 (.ld false 1 (.t 66)), oo 68 (.cl (.c (.fn 94 [])) [(.t 62), (.c (.j 3)), (.t 63), (.t 67)]), om 61 68, oo 69 (.ext (.t 61) 0), oo 70 (.ext (.t 61) 1), oo 12 (.al [.j 0, .j 0, .j 0, .j 0, .j 0, .j 0, .str [], .str [], .str []]), on (.st 9 (.t 12) (.t 69)), om 13 70])
 (.seq (.drw [om 71 5, om 72 11, oo 73 (.ia 1 (.t 71) (.t 72)), oo 74 (.ld false 1 (.t 73)), oo 75 (.fa 1 (.t 12)), oo 76 (.fa 4 (.t 75)), oo 77 (.ld false 1 (.t 76)), oo 78 (.fa 1 (.t 12)), oo 79 (.fa 7 (.t 78)), oo 80 (.ld false 1 (.t 79)), oo 81 (.bld [.j 0, .j 0, .str []] [(0, 1), (1, 1), (2, 1)] [(0, (.t 74)), (1, (.t 77)), (2, (.t 80))]), oo 14 (.al [.j 0, .j 0, .str []]), on (.st 3 (.t 14) (.t 81))] [.val [], .val [], .val [], .val [], .val [], .val [], .val [], .val [], .val [], .val [], .val [], .chn [0, 1, 2, 3, 4, 5, 6, 7, 8, 9, 10], .chn []])
 (.seq (.reg [om 83 0, om 84 1, om 85 5, om 86 11, oo 87 (.ia 1 (.t 85) (.t 86)), oo 88 (.ld false 1 (.t 87)), oo 89 (.cl (.c (.fn 94 [])) [(.t 83), (.c (.j 4)), (.t 84), (.t 88)]), om 82 89, oo 90 (.ext (.t 82) 0), oo 91 (.ext (.t 82) 1), oo 15 (.al [.j 0, .j 0, .j 0, .j 0, .j 0, .j 0, .str [], .str [], .str []]), on (.st 9 (.t 15) (.t 90)), om 16 91])
 (.seq (.seq (.reg [om 92 16])
 (.cond (.t 92) (.reg [oo 93 (.fa 1 (.t 15)), oo 94 (.fa 4 (.t 93)), oo 95 (.ld false 1 (.t 94)), oo 96 (.fa 1 (.t 14)), on (.st 1 (.t 96) (.t 95))])
 .skip))
 (.reg [om 97 10, oo 98 (.ld true 3 (.t 14)), oo 99 (.bs 3 [.j 0, .j 0, .str []] 1 [(0, (.t 98))]), oo 100 (.app 3 32 (.t 97) (.t 99)), om 10 100]))))))
 (.reg [om 59 11, oo 60 (.bin .add (.t 59) (.c (.j 1))), om 11 60]))))))
 (.seq (.reg [om 101 10, om 4 101])
 .ret))))))
theorem k_spec_l07Mails : FnOk Tryz.prog 98 102 rc_spec_l07Mails [.t 4] := ⟨Tryz.f98, _, [], Tryz.func98, rfl, rfl, by kernel_rfl, by kernel_rfl, follows⟩
theorem ok_spec_l07Mails : okF Tryz.prog 98 = true := by kernel_rfl
def rc_spec_StateOf : RC :=
 (.seq (.reg [oo 2 (.al [.nils])])
 (.seq (.reg [oo 11 (.bld [.nils] [(0, 1)] []), oo 3 (.al [.nils]), on (.st 1 (.t 3) (.t 11))])
 (.seq (.seq (.reg [om 12 0, oo 13 (.cl (.c (.fn 93 [])) [(.t 12)]), oo 14 (.un .not (.t 13))])
 (.cond (.t 14) (.seq (.reg [oo 15 (.ld true 1 (.t 3)), on (.st 1 (.t 2) (.t 15))])
 .ret)
 .skip))
 (.seq (.reg [oo 16 (.mv (.c (.nils))), om 4 16])
 (.seq (.seq (.reg [oo 5 (.mv (.c (.j 0)))])
 (.blk 0 (.loop (.seq (.seq (.reg [om 17 5, om 18 0, oo 19 (.lenl (.t 18)), oo 20 (.bin .lss (.t 17) (.t 19))])
 (.cond (.t 20) .skip
 (.exit 0)))
 (.seq (.blk 1 (.seq (.reg [om 23 0, om 24 5, oo 25 (.ia 9 (.t 23) (.t 24)), oo 26 (.fa 1 (.t 25)), oo 27 (.ld true 8 (.t 26)), oo 6 (.al [.j 0, .j 0, .j 0, .j 0, .j 0, .str [], .str [], .str []]), on (.st 8 (.t 6) (.t 27))])
 (.seq (.reg [om 29 0, oo 30 (.fa 1 (.t 6)), oo 31 (.ld false 1 (.t 30)), oo 32 (.cl (.c (.fn 94 [])) [(.t 29), (.c (.j 2)), (.t 31), (.c (.j 0))]), om 28 32, oo 33 (.ext (.t 28) 0), oo 34 (.ext (.t 28) 1), oo 7 (.al [.j 0, .j 0, .j 0, .j 0, .j 0, .j 0, .str [], .str [], .str []]), on (.st 9 (.t 7) (.t 33)), om 8 34])
 (.seq (.reg [oo 35 (.fa 0 (.t 6)), oo 36 (.ld false 1 (.t 35)), oo 37 (.bin .eql (.t 36) (.c (.j 1))), om 38 37, ⟨(some 39), (some (38, true)), .mv (.t 8)⟩, ⟨(some 40), (some (38, true)), .un .not (.t 39)⟩, oo 41 (.pick (.t 38) (.t 40) (.c (.bool false)))])
 (.cond (.t 41) (.reg [om 42 4, oo 43 (.fa 1 (.t 6)), oo 44 (.ld false 1 (.t 43)), oo 45 (.cl (.c (.fn 95 [])) [(.t 42), (.t 44)]), om 4 45])
 .skip)))))
 (.reg [om 21 5, oo 22 (.bin .add (.t 21) (.c (.j 1))), om 5 22]))))))
 (.seq (.seq (.reg [oo 9 (.mv (.c (.j 0)))])
 (.blk 2 (.loop (.seq (.seq (.reg [om 46 9, om 47 4, oo 48 (.lenl (.t 47)), oo 49 (.bin .lss (.t 46) (.t 48))])
 (.cond (.t 49) .skip
 (.exit 2)))
 (.seq (.blk 3 (.seq (.reg [om 52 0, om 53 4, om 54 9, oo 55 (.ia 1 (.t 53) (.t 54)), oo 56 (.ld false 1 (.t 55)), oo 57 (.cl (.c (.fn 96 [])) [(.t 52), (.t 56)]), oo 10 (.al [.j 0, .j 0, .j 0, .j 0, .j 0, .j 0, .str [], .str [], .str []]), on (.st 9 (.t 10) (.t 57))])
 (.drw [oo 58 (.fa 0 (.t 3)), oo 59 (.ld false 1 (.t 58)), om 60 4, om 61 9, oo 62 (.ia 1 (.t 60) (.t 61)), oo 63 (.ld false 1 (.t 62)), oo 64 (.fa 1 (.t 10)), oo 65 (.fa 5 (.t 64)), oo 66 (.ld false 1 (.t 65)), oo 67 (.fa 1 (.t 10)), oo 68 (.fa 6 (.t 67)), oo 69 (.ld false 1 (.t 68)), om 70 0, om 71 4, om 72 9, oo 73 (.ia 1 (.t 71) (.t 72)), oo 74 (.ld false 1 (.t 73)), oo 75 (.cl (.c (.fn 97 [])) [(.t 70), (.t 74)]), om 76 0, om 77 4, om 78 9, oo 79 (.ia 1 (.t 77) (.t 78)), oo 80 (.ld false 1 (.t 79)), oo 81 (.cl (.c (.fn 98 [])) [(.t 76), (.t 80)]), oo 82 (.bld [.j 0, .str [], .str [], .j 0, .nils] [(0, 1), (1, 1), (2, 1), (3, 1), (4, 1)] [(0, (.t 63)), (1, (.t 66)), (2, (.t 69)), (3, (.t 75)), (4, (.t 81))]), oo 83 (.bs 5 [.j 0, .str [], .str [], .j 0, .nils] 1 [(0, (.t 82))]), oo 84 (.app 5 72 (.t 59) (.t 83)), oo 85 (.fa 0 (.t 3)), on (.st 1 (.t 85) (.t 84))] [.val [], .val [], .val [], .val [], .val [], .val [], .val [], .val [], .val [], .val [], .val [], .val [], .val [], .val [], .val [], .val [], .val [], .val [], .val [], .val [], .val [], .val [], .val [], .chn [0, 1, 2, 3, 4, 5, 6, 7, 8, 9, 10, 11], .val [], .chn [0, 1], .chn [], .val [], .chn []])))
 (.reg [om 50 9, oo 51 (.bin .add (.t 50) (.c (.j 1))), om 9 51]))))))
 (.seq (.reg [oo 86 (.ld true 1 (.t 3)), on (.st 1 (.t 2) (.t 86))])
 .ret)))))))
theorem k_spec_StateOf : FnOk Tryz.prog 49 87 rc_spec_StateOf [.cell 2 true 1] := ⟨Tryz.f49, _, [(16, [23])], Tryz.func49, rfl, rfl, by kernel_rfl, by kernel_rfl, follows⟩
theorem ok_spec_StateOf : okF Tryz.prog 49 = true := by kernel_rfl
def rc_spec_ItemsOf : RC :=
 (.seq (.reg [oo 1 (.bx (.t 0)), oo 2 (.mv (.c (.nils)))])
 (.seq (.reg [oo 5 (.mv (.c (.nils))), om 3 5])
 (.seq (.seq (.reg [oo 4 (.mv (.c (.j 0)))])
 (.blk 0 (.loop (.seq (.seq (.reg [om 6 4, oo 7 (.fa 3 (.t 1)), oo 8 (.ld false 1 (.t 7)), oo 9 (.lenl (.t 8)), oo 10 (.bin .lss (.t 6) (.t 9))])
 (.cond (.t 10) .skip
 (.exit 0)))
 (.seq (.blk 1 (.reg [om 13 3, oo 14 (.fa 3 (.t 1)), oo 15 (.ld false 1 (.t 14)), om 16 4, oo 17 (.ia 4 (.t 15) (.t 16)), oo 18 (.fa 3 (.t 17)), oo 19 (.ld false 1 (.t 18)), oo 20 (.app 9 96 (.t 13) (.t 19)), om 3 20]))
 (.reg [om 11 4, oo 12 (.bin .add (.t 11) (.c (.j 1))), om 4 12]))))))
 (.seq (.reg [om 21 3, om 2 21])
 .ret))))
theorem k_spec_ItemsOf : FnOk Tryz.prog 50 22 rc_spec_ItemsOf [.t 2] := ⟨Tryz.f50, _, [], Tryz.func50, rfl, rfl, by kernel_rfl, by kernel_rfl, follows⟩
theorem ok_spec_ItemsOf : okF Tryz.prog 50 = true := by kernel_rfl
def rc_spec_StateNow : RC :=
 (.seq (.reg [oo 1 (.bx (.t 0)), oo 2 (.al [.nils])])
 (.seq (.reg [oo 3 (.fa 0 (.t 1)), oo 4 (.ld true 8 (.t 3)), oo 5 (.cl (.c (.fn 50 [])) [(.t 4)]), oo 6 (.cl (.c (.fn 49 [])) [(.t 5)]), on (.st 1 (.t 2) (.t 6))])
 .ret))
theorem k_spec_StateNow : FnOk Tryz.prog 18 7 rc_spec_StateNow [.cell 2 true 1] := ⟨Tryz.f18, _, [], Tryz.func18, rfl, rfl, by kernel_rfl, by kernel_rfl, follows⟩
theorem ok_spec_StateNow : okF Tryz.prog 18 = true := by kernel_rfl
def rc_spec_FrameOk : RC :=
 (.seq (.reg [oo 1 (.bx (.t 0)), oo 2 (.mv (.c (.bool false)))])
 (.seq (.reg [oo 3 (.fa 0 (.t 1)), oo 4 (.ld false 1 (.t 3)), oo 5 (.cl (.c (.fn 28 [])) [(.t 4), (.c (.j 1)), (.c (.j 1000000000))]), om 6 5, ⟨(some 7), (some (6, true)), .fa 1 (.t 1)⟩, ⟨(some 8), (some (6, true)), .ld false 1 (.t 7)⟩, ⟨(some 9), (some (6, true)), .cl (.c (.fn 28 [])) [(.t 8), (.c (.j 1)), (.c (.j 1000000000))]⟩, oo 10 (.pick (.t 6) (.t 9) (.c (.bool false))), om 11 10, ⟨(some 12), (some (11, true)), .fa 2 (.t 1)⟩, ⟨(some 13), (some (11, true)), .ld false 1 (.t 12)⟩, ⟨(some 14), (some (11, true)), .lens (.t 13)⟩, ⟨(some 15), (some (11, true)), .cl (.c (.fn 28 [])) [(.t 14), (.c (.j 1)), (.c (.j 180))]⟩, oo 16 (.pick (.t 11) (.t 15) (.c (.bool false))), om 2 16])
 .ret))
theorem k_spec_FrameOk : FnOk Tryz.prog 117 17 rc_spec_FrameOk [.t 2] := ⟨Tryz.f117, _, [], Tryz.func117, rfl, rfl, by kernel_rfl, by kernel_rfl, follows⟩
theorem ok_spec_FrameOk : okF Tryz.prog 117 = true := by kernel_rfl
def rc_spec_l01Var : RC :=
 (.seq (.reg [oo 2 (.mv (.c (.str [])))])
 (.seq (.reg [oo 4 (.mv (.c (.nils))), om 3 4])
 (.seq (.blk 0 (.loop (.seq (.seq (.reg [om 5 0, oo 6 (.bin .gtr (.t 5) (.c (.j 127)))])
 (.cond (.t 6) .skip
 (.exit 0)))
 (.blk 1 (.seq (.reg [om 7 3, om 8 0, oo 9 (.bin .rem (.t 8) (.c (.j 128))), oo 10 (.bin .add (.t 9) (.c (.j 128))), oo 11 (.cvi .u8 (.t 10)), oo 12 (.bs 1 [.int .u8 0] 1 [(0, (.t 11))]), oo 13 (.app 1 1 (.t 7) (.t 12)), om 3 13])
 (.reg [om 14 0, oo 15 (.bin .quo (.t 14) (.c (.j 128))), om 0 15]))))))
 (.seq (.reg [om 16 3, om 17 0, oo 18 (.cvi .u8 (.t 17)), oo 19 (.bs 1 [.int .u8 0] 1 [(0, (.t 18))]), oo 20 (.app 1 1 (.t 16) (.t 19)), oo 21 (.cvb (.t 20)), om 2 21])
 .ret))))
theorem k_spec_l01Var : FnOk Tryz.prog 119 22 rc_spec_l01Var [.t 2] := ⟨Tryz.f119, _, [], Tryz.func119, rfl, rfl, by kernel_rfl, by kernel_rfl, follows⟩
theorem ok_spec_l01Var : okF Tryz.prog 119 = true := by kernel_rfl
def rc_spec_l06Short : RC :=
 (.seq (.reg [oo 2 (.mv (.c (.str [])))])
 (.seq (.reg [om 3 0, oo 4 (.lens (.t 3)), oo 5 (.cl (.c (.fn 119 [])) [(.t 4)]), om 6 0, oo 7 (.bin .add (.t 5) (.t 6)), om 2 7])
 .ret))
theorem k_spec_l06Short : FnOk Tryz.prog 122 8 rc_spec_l06Short [.t 2] := ⟨Tryz.f122, _, [], Tryz.func122, rfl, rfl, by kernel_rfl, by kernel_rfl, follows⟩
theorem ok_spec_l06Short : okF Tryz.prog 122 = true := by kernel_rfl
def rc_spec_RecText : RC :=
 (.seq (.reg [oo 1 (.bx (.t 0)), oo 2 (.mv (.c (.str []))), oo 3 (.mv (.c (.bool false)))])
 (.seq (.seq (.reg [oo 4 (.ld true 8 (.t 1)), oo 5 (.cl (.c (.fn 153 [])) [(.t 4)]), oo 6 (.un .not (.t 5))])
 (.cond (.t 6) (.seq (.reg [oo 2 (.mv (.c (.str []))), oo 3 (.mv (.c (.bool false)))])
 .ret)
 .skip))
 (.seq (.drw [oo 7 (.fa 0 (.t 1)), oo 8 (.ld false 1 (.t 7)), oo 9 (.cvi .u8 (.t 8)), oo 10 (.bs 1 [.int .u8 0] 1 [(0, (.t 9))]), oo 11 (.cvb (.t 10)), oo 12 (.fa 1 (.t 1)), oo 13 (.ld false 1 (.t 12)), oo 14 (.cl (.c (.fn 119 [])) [(.t 13)]), oo 15 (.bin .add (.t 11) (.t 14)), oo 16 (.fa 2 (.t 1)), oo 17 (.ld false 1 (.t 16)), oo 18 (.cl (.c (.fn 119 [])) [(.t 17)]), oo 19 (.bin .add (.t 15) (.t 18)), oo 20 (.fa 3 (.t 1)), oo 21 (.ld false 1 (.t 20)), oo 22 (.cl (.c (.fn 119 [])) [(.t 21)]), oo 23 (.bin .add (.t 19) (.t 22)), oo 24 (.fa 4 (.t 1)), oo 25 (.ld false 1 (.t 24)), oo 26 (.cl (.c (.fn 119 [])) [(.t 25)]), oo 27 (.bin .add (.t 23) (.t 26)), oo 28 (.fa 5 (.t 1)), oo 29 (.ld false 1 (.t 28)), oo 30 (.cl (.c (.fn 122 [])) [(.t 29)]), oo 31 (.bin .add (.t 27) (.t 30)), oo 32 (.fa 6 (.t 1)), oo 33 (.ld false 1 (.t 32)), oo 34 (.cl (.c (.fn 122 [])) [(.t 33)]), oo 35 (.bin .add (.t 31) (.t 34)), oo 36 (.fa 7 (.t 1)), oo 37 (.ld false 1 (.t 36)), oo 38 (.cl (.c (.fn 122 [])) [(.t 37)]), oo 39 (.bin .add (.t 35) (.t 38)), om 2 39, oo 3 (.mv (.c (.bool true)))] [.val [], .val [], .val [], .chn [], .val [], .val [3], .val [3], .val [3], .val [], .val [3], .val [3], .val [3], .val [], .val [3], .val [3], .val [3], .val [], .val [3], .val [3], .val [3], .val [], .val [3], .val [3], .val [3], .val [], .val [3], .val [3], .val [3], .val [], .val [3], .val [3], .val [3], .val [], .val [], .val []])
 .ret)))
theorem k_spec_RecText : FnOk Tryz.prog 175 40 rc_spec_RecText [.t 2, .t 3] := ⟨Tryz.f175, _, [], Tryz.func175, rfl, rfl, by kernel_rfl, by kernel_rfl, follows⟩
theorem ok_spec_RecText : okF Tryz.prog 175 = true := by kernel_rfl
def rc_spec_ItemFrame : RC :=
 (.seq (.reg [oo 2 (.bx (.t 0)), oo 4 (.al [.j 0, .j 0, .str []]), oo 5 (.mv (.c (.bool false)))])
 (.seq (.reg [oo 10 (.fa 1 (.t 2)), oo 11 (.ld true 8 (.t 10)), oo 12 (.cl (.c (.fn 175 [])) [(.t 11)]), om 9 12, oo 13 (.ext (.t 9) 0), oo 14 (.ext (.t 9) 1), om 6 13, om 7 14])
 (.seq (.reg [om 15 1, oo 16 (.fa 0 (.t 2)), oo 17 (.ld false 1 (.t 16)), om 18 6, oo 19 (.bld [.j 0, .j 0, .str []] [(0, 1), (1, 1), (2, 1)] [(0, (.t 15)), (1, (.t 17)), (2, (.t 18))]), oo 8 (.al [.j 0, .j 0, .str []]), on (.st 3 (.t 8) (.t 19))])
 (.seq (.seq (.reg [om 20 7, oo 21 (.un .not (.t 20)), om 22 21, ⟨(some 23), (some (22, false)), .ld true 3 (.t 8)⟩, ⟨(some 24), (some (22, false)), .cl (.c (.fn 117 [])) [(.t 23)]⟩, ⟨(some 25), (some (22, false)), .un .not (.t 24)⟩, oo 26 (.pick (.t 22) (.c (.bool true)) (.t 25))])
 (.cond (.t 26) (.seq (.reg [oo 27 (.bld [.j 0, .j 0, .str []] [(0, 1), (1, 1), (2, 1)] []), on (.st 3 (.t 4) (.t 27)), oo 5 (.mv (.c (.bool false)))])
 .ret)
 .skip))
 (.seq (.reg [oo 28 (.ld true 3 (.t 8)), on (.st 3 (.t 4) (.t 28)), oo 5 (.mv (.c (.bool true)))])
 .ret)))))
theorem k_spec_ItemFrame : FnOk Tryz.prog 111 29 rc_spec_ItemFrame [.cell 4 true 3, .t 5] := ⟨Tryz.f111, _, [], Tryz.func111, rfl, rfl, by kernel_rfl, by kernel_rfl, follows⟩
theorem ok_spec_ItemFrame : okF Tryz.prog 111 = true := by kernel_rfl
def rc_spec_l02Four : RC :=
 (.seq (.reg [oo 2 (.mv (.c (.str [])))])
 (.seq (.reg [om 3 0, oo 4 (.bin .shr (.t 3) (.c (.int .u64 24))), oo 5 (.cvi .u8 (.t 4)), om 6 0, oo 7 (.bin .shr (.t 6) (.c (.int .u64 16))), oo 8 (.cvi .u8 (.t 7)), om 9 0, oo 10 (.bin .shr (.t 9) (.c (.int .u64 8))), oo 11 (.cvi .u8 (.t 10)), om 12 0, oo 13 (.cvi .u8 (.t 12)), oo 14 (.bs 1 [.int .u8 0] 4 [(0, (.t 5)), (1, (.t 8)), (2, (.t 11)), (3, (.t 13))]), oo 15 (.cvb (.t 14)), om 2 15])
 .ret))
theorem k_spec_l02Four : FnOk Tryz.prog 179 16 rc_spec_l02Four [.t 2] := ⟨Tryz.f179, _, [], Tryz.func179, rfl, rfl, by kernel_rfl, by kernel_rfl, follows⟩
theorem ok_spec_l02Four : okF Tryz.prog 179 = true := by kernel_rfl
def rc_spec_SumMore : RC :=
 (.seq (.reg [oo 4 (.mv (.c (.int .u32 0)))])
 (.seq (.seq (.reg [oo 5 (.mv (.c (.j 0)))])
 (.blk 0 (.loop (.seq (.seq (.reg [om 8 5, om 9 1, oo 10 (.lens (.t 9)), oo 11 (.bin .lss (.t 8) (.t 10))])
 (.cond (.t 11) .skip
 (.exit 0)))
 (.seq (.blk 1 (.seq (.reg [om 14 0, om 15 1, om 16 5, oo 17 (.idx (.t 15) (.t 16)), oo 18 (.cvi .u32 (.t 17)), oo 19 (.bin .xor (.t 14) (.t 18)), om 0 19])
 (.seq (.reg [oo 6 (.mv (.c (.j 0)))])
 (.blk 2 (.loop (.seq (.seq (.reg [om 20 6, oo 21 (.bin .lss (.t 20) (.c (.j 8)))])
 (.cond (.t 21) .skip
 (.exit 2)))
 (.seq (.blk 3 (.seq (.reg [om 24 0, oo 25 (.bin .rem (.t 24) (.c (.int .u32 2))), oo 26 (.bin .eql (.t 25) (.c (.int .u32 1))), om 7 26])
 (.seq (.reg [om 27 0, oo 28 (.bin .quo (.t 27) (.c (.int .u32 2))), om 0 28])
 (.seq (.reg [om 29 7])
 (.cond (.t 29) (.reg [om 30 0, oo 31 (.bin .xor (.t 30) (.c (.int .u32 3558460437))), om 0 31])
 .skip)))))
 (.reg [om 22 6, oo 23 (.bin .add (.t 22) (.c (.j 1))), om 6 23]))))))))
 (.reg [om 12 5, oo 13 (.bin .add (.t 12) (.c (.j 1))), om 5 13]))))))
 (.seq (.reg [om 32 0, om 4 32])
 .ret)))
theorem k_spec_SumMore : FnOk Tryz.prog 208 33 rc_spec_SumMore [.t 4] := ⟨Tryz.f208, _, [], Tryz.func208, rfl, rfl, by kernel_rfl, by kernel_rfl, follows⟩
theorem ok_spec_SumMore : okF Tryz.prog 208 = true := by kernel_rfl
def rc_spec_SumOf : RC :=
 (.seq (.reg [oo 2 (.mv (.c (.int .u32 0)))])
 (.seq (.reg [om 3 0, oo 4 (.cl (.c (.fn 208 [])) [(.c (.int .u32 4294967295)), (.t 3)]), om 2 4])
 .ret))
theorem k_spec_SumOf : FnOk Tryz.prog 180 5 rc_spec_SumOf [.t 2] := ⟨Tryz.f180, _, [], Tryz.func180, rfl, rfl, by kernel_rfl, by kernel_rfl, follows⟩
theorem ok_spec_SumOf : okF Tryz.prog 180 = true := by kernel_rfl
def rc_spec_Sealed : RC :=
 (.seq (.reg [oo 2 (.mv (.c (.str []))), oo 3 (.mv (.c (.bool false)))])
 (.seq (.seq (.reg [om 4 0, oo 5 (.lens (.t 4)), oo 6 (.bin .gtr (.t 5) (.c (.j 20000)))])
 (.cond (.t 6) (.seq (.reg [oo 2 (.mv (.c (.str []))), oo 3 (.mv (.c (.bool false)))])
 .ret)
 .skip))
 (.seq (.reg [om 7 0, om 8 0, oo 9 (.cl (.c (.fn 180 [])) [(.t 8)]), oo 10 (.cl (.c (.fn 179 [])) [(.t 9)]), oo 11 (.bin .add (.t 7) (.t 10)), om 2 11, oo 3 (.mv (.c (.bool true)))])
 .ret)))
theorem k_spec_Sealed : FnOk Tryz.prog 118 12 rc_spec_Sealed [.t 2, .t 3] := ⟨Tryz.f118, _, [], Tryz.func118, rfl, rfl, by kernel_rfl, by kernel_rfl, follows⟩
theorem ok_spec_Sealed : okF Tryz.prog 118 = true := by kernel_rfl
def rc_spec_FrameText : RC :=
 (.seq (.reg [oo 1 (.bx (.t 0)), oo 2 (.mv (.c (.str []))), oo 3 (.mv (.c (.bool false)))])
 (.seq (.seq (.reg [oo 4 (.ld true 3 (.t 1)), oo 5 (.cl (.c (.fn 117 [])) [(.t 4)]), oo 6 (.un .not (.t 5))])
 (.cond (.t 6) (.seq (.reg [oo 2 (.mv (.c (.str []))), oo 3 (.mv (.c (.bool false)))])
 .ret)
 .skip))
 (.seq (.drw [oo 7 (.fa 0 (.t 1)), oo 8 (.ld false 1 (.t 7)), oo 9 (.cl (.c (.fn 119 [])) [(.t 8)]), oo 10 (.fa 1 (.t 1)), oo 11 (.ld false 1 (.t 10)), oo 12 (.cl (.c (.fn 119 [])) [(.t 11)]), oo 13 (.bin .add (.t 9) (.t 12)), oo 14 (.fa 2 (.t 1)), oo 15 (.ld false 1 (.t 14)), oo 16 (.lens (.t 15)), oo 17 (.cl (.c (.fn 119 [])) [(.t 16)]), oo 18 (.bin .add (.t 13) (.t 17)), oo 19 (.fa 2 (.t 1)), oo 20 (.ld false 1 (.t 19)), oo 21 (.bin .add (.t 18) (.t 20)), oo 22 (.cl (.c (.fn 118 [])) [(.t 21)]), oo 23 (.ext (.t 22) 0), oo 24 (.ext (.t 22) 1), om 2 23, om 3 24] [.val [], .val [], .val [], .val [], .val [], .val [], .val [], .val [], .val [], .val [], .val [], .val [], .val [], .val [], .val [], .val [], .val [], .val [], .val [], .val []])
 .ret)))
theorem k_spec_FrameText : FnOk Tryz.prog 64 25 rc_spec_FrameText [.t 2, .t 3] := ⟨Tryz.f64, _, [], Tryz.func64, rfl, rfl, by kernel_rfl, by kernel_rfl, follows⟩
theorem ok_spec_FrameText : okF Tryz.prog 64 = true := by kernel_rfl
def rc_spec_FrameSize : RC :=
 (.seq (.reg [oo 1 (.bx (.t 0)), oo 2 (.mv (.c (.j 0)))])
 (.seq (.reg [oo 6 (.ld true 3 (.t 1)), oo 7 (.cl (.c (.fn 64 [])) [(.t 6)]), om 5 7, oo 8 (.ext (.t 5) 0), oo 9 (.ext (.t 5) 1), om 3 8, om 4 9])
 (.seq (.reg [om 10 3, oo 11 (.lens (.t 10)), om 2 11])
 .ret)))
theorem k_spec_FrameSize : FnOk Tryz.prog 112 12 rc_spec_FrameSize [.t 2] := ⟨Tryz.f112, _, [], Tryz.func112, rfl, rfl, by kernel_rfl, by kernel_rfl, follows⟩
theorem ok_spec_FrameSize : okF Tryz.prog 112 = true := by kernel_rfl
def rc_spec_l08Bigger : RC :=
 (.seq (.reg [oo 2 (.bx (.t 0)), oo 3 (.bx (.t 1)), oo 4 (.mv (.c (.bool false)))])
 (.seq (.reg [oo 5 (.fa 1 (.t 2)), oo 6 (.fa 3 (.t 5)), oo 7 (.ld false 1 (.t 6)), oo 8 (.fa 1 (.t 3)), oo 9 (.fa 3 (.t 8)), oo 10 (.ld false 1 (.t 9)), oo 11 (.bin .gtr (.t 7) (.t 10)), om 12 11, ⟨(some 13), (some (12, false)), .fa 1 (.t 2)⟩, ⟨(some 14), (some (12, false)), .fa 3 (.t 13)⟩, ⟨(some 15), (some (12, false)), .ld false 1 (.t 14)⟩, ⟨(some 16), (some (12, false)), .fa 1 (.t 3)⟩, ⟨(some 17), (some (12, false)), .fa 3 (.t 16)⟩, ⟨(some 18), (some (12, false)), .ld false 1 (.t 17)⟩, ⟨(some 19), (some (12, false)), .bin .eql (.t 15) (.t 18)⟩, ⟨(some 20), (some (12, false)), .mv (.t 19)⟩, ⟨(some 21), (some (20, true)), .fa 0 (.t 2)⟩, ⟨(some 22), (some (20, true)), .ld false 1 (.t 21)⟩, ⟨(some 23), (some (20, true)), .fa 0 (.t 3)⟩, ⟨(some 24), (some (20, true)), .ld false 1 (.t 23)⟩, ⟨(some 25), (some (20, true)), .bin .gtr (.t 22) (.t 24)⟩, ⟨(some 26), (some (12, false)), .pick (.t 20) (.t 25) (.c (.bool false))⟩, oo 27 (.pick (.t 12) (.c (.bool true)) (.t 26)), om 4 27])
 .ret))
theorem k_spec_l08Bigger : FnOk Tryz.prog 227 28 rc_spec_l08Bigger [.t 4] := ⟨Tryz.f227, _, [], Tryz.func227, rfl, rfl, by kernel_rfl, by kernel_rfl, follows⟩
theorem ok_spec_l08Bigger : okF Tryz.prog 227 = true := by kernel_rfl
def rc_spec_l08Has : RC :=
 (.seq (.reg [oo 8 (.mv (.c (.bool false)))])
 (.seq (.reg [om 12 0, om 13 1, om 14 2, om 15 3, oo 16 (.cl (.c (.fn 94 [])) [(.t 12), (.t 13), (.t 14), (.t 15)]), om 11 16, oo 17 (.ext (.t 11) 0), oo 18 (.ext (.t 11) 1), oo 9 (.al [.j 0, .j 0, .j 0, .j 0, .j 0, .j 0, .str [], .str [], .str []]), on (.st 9 (.t 9) (.t 17)), om 10 18])
 (.seq (.reg [om 19 10, om 8 19])
 .ret)))
theorem k_spec_l08Has : FnOk Tryz.prog 229 20 rc_spec_l08Has [.t 8] := ⟨Tryz.f229, _, [], Tryz.func229, rfl, rfl, by kernel_rfl, by kernel_rfl, follows⟩
theorem ok_spec_l08Has : okF Tryz.prog 229 = true := by kernel_rfl
def rc_spec_l08There : RC :=
 (.seq (.reg [oo 4 (.mv (.c (.bool false)))])
 (.seq (.reg [om 5 0, om 6 1, oo 7 (.cl (.c (.fn 229 [])) [(.t 5), (.c (.j 1)), (.t 6), (.c (.j 0))]), om 8 7, ⟨(some 9), (some (8, true)), .mv (.t 0)⟩, ⟨(some 10), (some (8, true)), .mv (.t 1)⟩, ⟨(some 11), (some (8, true)), .cl (.c (.fn 229 [])) [(.t 9), (.c (.j 2)), (.t 10), (.c (.j 0))]⟩, ⟨(some 12), (some (8, true)), .un .not (.t 11)⟩, oo 13 (.pick (.t 8) (.t 12) (.c (.bool false))), om 4 13])
 .ret))
theorem k_spec_l08There : FnOk Tryz.prog 228 14 rc_spec_l08There [.t 4] := ⟨Tryz.f228, _, [], Tryz.func228, rfl, rfl, by kernel_rfl, by kernel_rfl, follows⟩
theorem ok_spec_l08There : okF Tryz.prog 228 = true := by kernel_rfl
def rc_spec_l08Need : RC :=
 (.seq (.reg [oo 4 (.mv (.c (.bool false)))])
 (.seq (.reg [om 16 0, om 17 1, oo 18 (.ia 9 (.t 16) (.t 17)), oo 19 (.ld true 9 (.t 18)), oo 5 (.al [.j 0, .j 0, .j 0, .j 0, .j 0, .j 0, .str [], .str [], .str []]), on (.st 9 (.t 5) (.t 19))])
 (.seq (.reg [oo 20 (.fa 1 (.t 5)), oo 21 (.ld true 8 (.t 20)), oo 6 (.al [.j 0, .j 0, .j 0, .j 0, .j 0, .str [], .str [], .str []]), on (.st 8 (.t 6) (.t 21))])
 (.seq (.seq (.reg [oo 7 (.mv (.c (.j 0)))])
 (.blk 0 (.loop (.seq (.seq (.reg [om 22 7, om 23 1, oo 24 (.bin .lss (.t 22) (.t 23))])
 (.cond (.t 24) .skip
 (.exit 0)))
 (.seq (.blk 1 (.seq (.drw [om 27 0, om 28 7, oo 29 (.ia 9 (.t 27) (.t 28)), oo 30 (.fa 0 (.t 29)), oo 31 (.ld false 1 (.t 30)), oo 32 (.fa 0 (.t 5)), oo 33 (.ld false 1 (.t 32)), oo 34 (.bin .eql (.t 31) (.t 33))] [.val [], .val [], .val [], .val [], .val [], .val [], .val [], .val []])
 (.cond (.t 34) (.seq (.reg [oo 4 (.mv (.c (.bool false)))])
 .ret)
 .skip)))
 (.reg [om 25 7, oo 26 (.bin .add (.t 25) (.c (.j 1))), om 7 26]))))))
 (.seq (.seq (.reg [oo 35 (.fa 0 (.t 6)), oo 36 (.ld false 1 (.t 35))])
 (.blk 2 (.seq (.reg [oo 38 (.bin .eql (.t 36) (.c (.j 1))), om 37 38])
 (.cond (.t 37) (.seq (.seq (.reg [oo 8 (.mv (.c (.j 0)))])
 (.blk 3 (.loop (.seq (.seq (.reg [om 39 8, om 40 0, oo 41 (.lenl (.t 40)), oo 42 (.bin .lss (.t 39) (.t 41))])
 (.cond (.t 42) .skip
 (.exit 3)))
 (.seq (.blk 4 (.seq (.drw [om 45 0, om 46 8, oo 47 (.ia 9 (.t 45) (.t 46)), oo 48 (.fa 1 (.t 47)), oo 49 (.fa 0 (.t 48)), oo 50 (.ld false 1 (.t 49)), oo 51 (.bin .eql (.t 50) (.c (.j 1))), om 52 51, ⟨(some 53), (some (52, true)), .mv (.t 0)⟩, ⟨(some 54), (some (52, true)), .mv (.t 8)⟩, ⟨(some 55), (some (52, true)), .ia 9 (.t 53) (.t 54)⟩, ⟨(some 56), (some (52, true)), .fa 1 (.t 55)⟩, ⟨(some 57), (some (52, true)), .fa 1 (.t 56)⟩, ⟨(some 58), (some (52, true)), .ld false 1 (.t 57)⟩, ⟨(some 59), (some (52, true)), .fa 1 (.t 6)⟩, ⟨(some 60), (some (52, true)), .ld false 1 (.t 59)⟩, ⟨(some 61), (some (52, true)), .bin .eql (.t 58) (.t 60)⟩, oo 62 (.pick (.t 52) (.t 61) (.c (.bool false))), om 63 62, ⟨(some 64), (some (63, true)), .mv (.t 0)⟩, ⟨(some 65), (some (63, true)), .mv (.t 8)⟩, ⟨(some 66), (some (63, true)), .ia 9 (.t 64) (.t 65)⟩, ⟨(some 67), (some (63, true)), .ld true 9 (.t 66)⟩, ⟨(some 68), (some (63, true)), .ld true 9 (.t 5)⟩, ⟨(some 69), (some (63, true)), .cl (.c (.fn 227 [])) [(.t 67), (.t 68)]⟩, oo 70 (.pick (.t 63) (.t 69) (.c (.bool false)))] [.val [], .val [], .val [], .val [], .val [], .val [], .val [], .val [], .val [], .val [], .val [], .val [], .val [], .val [], .val [], .val [], .val [], .val [], .val [], .val [], .val [], .val [], .val [], .val [], .val [], .val []])
 (.cond (.t 70) (.seq (.reg [oo 4 (.mv (.c (.bool false)))])
 .ret)
 .skip)))
 (.reg [om 43 8, oo 44 (.bin .add (.t 43) (.c (.j 1))), om 8 44]))))))
 (.seq (.reg [om 71 0, oo 72 (.fa 1 (.t 6)), oo 73 (.ld false 1 (.t 72)), oo 74 (.cl (.c (.fn 228 [])) [(.t 71), (.t 73)]), om 4 74])
 .ret))
 (.seq (.reg [oo 76 (.bin .eql (.t 36) (.c (.j 2))), om 75 76])
 (.cond (.t 75) (.seq (.reg [om 78 0, oo 79 (.fa 1 (.t 6)), oo 80 (.ld false 1 (.t 79)), oo 81 (.cl (.c (.fn 94 [])) [(.t 78), (.c (.j 2)), (.t 80), (.c (.j 0))]), om 77 81, oo 82 (.ext (.t 77) 0), oo 83 (.ext (.t 77) 1), oo 9 (.al [.j 0, .j 0, .j 0, .j 0, .j 0, .j 0, .str [], .str [], .str []]), on (.st 9 (.t 9) (.t 82)), om 10 83])
 (.seq (.seq (.reg [oo 11 (.mv (.c (.j 0)))])
 (.blk 5 (.loop (.seq (.seq (.reg [om 84 11, om 85 0, oo 86 (.lenl (.t 85)), oo 87 (.bin .lss (.t 84) (.t 86))])
 (.cond (.t 87) .skip
 (.exit 5)))
 (.seq (.blk 6 (.seq (.drw [om 90 0, om 91 11, oo 92 (.ia 9 (.t 90) (.t 91)), oo 93 (.fa 1 (.t 92)), oo 94 (.fa 0 (.t 93)), oo 95 (.ld false 1 (.t 94)), oo 96 (.bin .neq (.t 95) (.c (.j 2))), om 97 96, ⟨(some 98), (some (97, true)), .mv (.t 0)⟩, ⟨(some 99), (some (97, true)), .mv (.t 11)⟩, ⟨(some 100), (some (97, true)), .ia 9 (.t 98) (.t 99)⟩, ⟨(some 101), (some (97, true)), .fa 1 (.t 100)⟩, ⟨(some 102), (some (97, true)), .fa 1 (.t 101)⟩, ⟨(some 103), (some (97, true)), .ld false 1 (.t 102)⟩, ⟨(some 104), (some (97, true)), .fa 1 (.t 6)⟩, ⟨(some 105), (some (97, true)), .ld false 1 (.t 104)⟩, ⟨(some 106), (some (97, true)), .bin .eql (.t 103) (.t 105)⟩, oo 107 (.pick (.t 97) (.t 106) (.c (.bool false)))] [.val [], .val [], .val [], .val [], .val [], .val [], .val [], .val [], .val [], .val [], .val [], .val [], .val [], .val [], .val [], .val [], .val [], .val []])
 (.cond (.t 107) (.seq (.reg [oo 108 (.fa 0 (.t 9)), oo 109 (.ld false 1 (.t 108)), oo 110 (.fa 0 (.t 5)), oo 111 (.ld false 1 (.t 110)), oo 112 (.bin .eql (.t 109) (.t 111)), om 4 112])
 .ret)
 .skip)))
 (.reg [om 88 11, oo 89 (.bin .add (.t 88) (.c (.j 1))), om 11 89]))))))
 (.seq (.reg [oo 4 (.mv (.c (.bool false)))])
 .ret)))
 (.seq (.reg [oo 114 (.bin .eql (.t 36) (.c (.j 5))), om 113 114])
 (.cond (.t 113) (.seq (.reg [om 116 0, oo 117 (.fa 1 (.t 6)), oo 118 (.ld false 1 (.t 117)), oo 119 (.fa 2 (.t 6)), oo 120 (.ld false 1 (.t 119)), oo 121 (.cl (.c (.fn 94 [])) [(.t 116), (.c (.j 5)), (.t 118), (.t 120)]), om 115 121, oo 122 (.ext (.t 115) 0), oo 123 (.ext (.t 115) 1), oo 12 (.al [.j 0, .j 0, .j 0, .j 0, .j 0, .j 0, .str [], .str [], .str []]), on (.st 9 (.t 12) (.t 122)), om 13 123])
 (.seq (.reg [om 124 0, oo 125 (.fa 1 (.t 6)), oo 126 (.ld false 1 (.t 125)), oo 127 (.cl (.c (.fn 228 [])) [(.t 124), (.t 126)]), om 128 127, ⟨(some 129), (some (128, true)), .mv (.t 0)⟩, ⟨(some 130), (some (128, true)), .fa 1 (.t 6)⟩, ⟨(some 131), (some (128, true)), .ld false 1 (.t 130)⟩, ⟨(some 132), (some (128, true)), .fa 2 (.t 6)⟩, ⟨(some 133), (some (128, true)), .ld false 1 (.t 132)⟩, ⟨(some 134), (some (128, true)), .cl (.c (.fn 229 [])) [(.t 129), (.c (.j 3)), (.t 131), (.t 133)]⟩, oo 135 (.pick (.t 128) (.t 134) (.c (.bool false))), om 136 135, ⟨(some 137), (some (136, true)), .fa 0 (.t 12)⟩, ⟨(some 138), (some (136, true)), .ld false 1 (.t 137)⟩, ⟨(some 139), (some (136, true)), .fa 0 (.t 5)⟩, ⟨(some 140), (some (136, true)), .ld false 1 (.t 139)⟩, ⟨(some 141), (some (136, true)), .bin .eql (.t 138) (.t 140)⟩, oo 142 (.pick (.t 136) (.t 141) (.c (.bool false))), om 4 142])
 .ret))
 .skip))))))))
 (.seq (.reg [om 144 0, oo 145 (.fa 0 (.t 6)), oo 146 (.ld false 1 (.t 145)), oo 147 (.fa 1 (.t 6)), oo 148 (.ld false 1 (.t 147)), oo 149 (.fa 2 (.t 6)), oo 150 (.ld false 1 (.t 149)), oo 151 (.cl (.c (.fn 94 [])) [(.t 144), (.t 146), (.t 148), (.t 150)]), om 143 151, oo 152 (.ext (.t 143) 0), oo 153 (.ext (.t 143) 1), oo 14 (.al [.j 0, .j 0, .j 0, .j 0, .j 0, .j 0, .str [], .str [], .str []]), on (.st 9 (.t 14) (.t 152)), om 15 153])
 (.seq (.reg [om 154 0, oo 155 (.fa 1 (.t 6)), oo 156 (.ld false 1 (.t 155)), oo 157 (.cl (.c (.fn 228 [])) [(.t 154), (.t 156)]), om 158 157, ⟨(some 159), (some (158, true)), .mv (.t 0)⟩, ⟨(some 160), (some (158, true)), .fa 1 (.t 6)⟩, ⟨(some 161), (some (158, true)), .ld false 1 (.t 160)⟩, ⟨(some 162), (some (158, true)), .fa 2 (.t 6)⟩, ⟨(some 163), (some (158, true)), .ld false 1 (.t 162)⟩, ⟨(some 164), (some (158, true)), .cl (.c (.fn 229 [])) [(.t 159), (.c (.j 3)), (.t 161), (.t 163)]⟩, oo 165 (.pick (.t 158) (.t 164) (.c (.bool false))), om 166 165, ⟨(some 167), (some (166, true)), .mv (.t 0)⟩, ⟨(some 168), (some (166, true)), .fa 1 (.t 6)⟩, ⟨(some 169), (some (166, true)), .ld false 1 (.t 168)⟩, ⟨(some 170), (some (166, true)), .fa 2 (.t 6)⟩, ⟨(some 171), (some (166, true)), .ld false 1 (.t 170)⟩, ⟨(some 172), (some (166, true)), .cl (.c (.fn 229 [])) [(.t 167), (.c (.j 5)), (.t 169), (.t 171)]⟩, ⟨(some 173), (some (166, true)), .un .not (.t 172)⟩, oo 174 (.pick (.t 166) (.t 173) (.c (.bool false))), om 175 174, ⟨(some 176), (some (175, true)), .fa 0 (.t 14)⟩, ⟨(some 177), (some (175, true)), .ld false 1 (.t 176)⟩, ⟨(some 178), (some (175, true)), .fa 0 (.t 5)⟩, ⟨(some 179), (some (175, true)), .ld false 1 (.t 178)⟩, ⟨(some 180), (some (175, true)), .bin .eql (.t 177) (.t 179)⟩, oo 181 (.pick (.t 175) (.t 180) (.c (.bool false))), om 4 181])
 .ret)))))))
theorem k_spec_l08Need : FnOk Tryz.prog 204 182 rc_spec_l08Need [.t 4] := ⟨Tryz.f204, _, [], Tryz.func204, rfl, rfl, by kernel_rfl, by kernel_rfl, follows⟩
theorem ok_spec_l08Need : okF Tryz.prog 204 = true := by kernel_rfl
def rc_spec_NeededAll : RC :=
 (.seq (.reg [oo 2 (.mv (.c (.nils)))])
 (.seq (.reg [om 6 0, oo 7 (.cl (.c (.fn 93 [])) [(.t 6)]), om 3 7])
 (.seq (.reg [oo 8 (.mv (.c (.nils))), om 4 8])
 (.seq (.seq (.reg [oo 5 (.mv (.c (.j 0)))])
 (.blk 0 (.loop (.seq (.seq (.reg [om 9 5, om 10 0, oo 11 (.lenl (.t 10)), oo 12 (.bin .lss (.t 9) (.t 11))])
 (.cond (.t 12) .skip
 (.exit 0)))
 (.seq (.blk 1 (.reg [om 15 4, om 16 3, om 17 16, ⟨(some 18), (some (17, true)), .mv (.t 0)⟩, ⟨(some 19), (some (17, true)), .mv (.t 5)⟩, ⟨(some 20), (some (17, true)), .cl (.c (.fn 204 [])) [(.t 18), (.t 19)]⟩, oo 21 (.pick (.t 17) (.t 20) (.c (.bool false))), oo 22 (.bs 1 [.bool false] 1 [(0, (.t 21))]), oo 23 (.app 1 1 (.t 15) (.t 22)), om 4 23]))
 (.reg [om 13 5, oo 14 (.bin .add (.t 13) (.c (.j 1))), om 5 14]))))))
 (.seq (.reg [om 24 4, om 2 24])
 .ret)))))
theorem k_spec_NeededAll : FnOk Tryz.prog 172 25 rc_spec_NeededAll [.t 2] := ⟨Tryz.f172, _, [], Tryz.func172, rfl, rfl, by kernel_rfl, by kernel_rfl, follows⟩
theorem ok_spec_NeededAll : okF Tryz.prog 172 = true := by kernel_rfl
def rc_spec_l12Freed : RC :=
 (.seq (.reg [oo 2 (.bx (.t 0)), oo 4 (.mv (.c (.bool false)))])
 (.seq (.seq (.reg [oo 5 (.mv (.c (.j 0)))])
 (.blk 0 (.loop (.seq (.seq (.reg [om 6 5, oo 7 (.fa 8 (.t 2)), oo 8 (.ld false 1 (.t 7)), oo 9 (.lenl (.t 8)), oo 10 (.bin .lss (.t 6) (.t 9))])
 (.cond (.t 10) .skip
 (.exit 0)))
 (.seq (.blk 1 (.seq (.reg [oo 13 (.fa 8 (.t 2)), oo 14 (.ld false 1 (.t 13)), om 15 5, oo 16 (.ia 1 (.t 14) (.t 15)), oo 17 (.ld false 1 (.t 16)), om 18 1, oo 19 (.bin .eql (.t 17) (.t 18))])
 (.cond (.t 19) (.seq (.reg [oo 4 (.mv (.c (.bool true)))])
 .ret)
 .skip)))
 (.reg [om 11 5, oo 12 (.bin .add (.t 11) (.c (.j 1))), om 5 12]))))))
 (.seq (.reg [oo 4 (.mv (.c (.bool false)))])
 .ret)))
theorem k_spec_l12Freed : FnOk Tryz.prog 174 20 rc_spec_l12Freed [.t 4] := ⟨Tryz.f174, _, [], Tryz.func174, rfl, rfl, by kernel_rfl, by kernel_rfl, follows⟩
theorem ok_spec_l12Freed : okF Tryz.prog 174 = true := by kernel_rfl
def rc_spec_l12Kept : RC :=
 (.seq (.reg [oo 1 (.bx (.t 0)), oo 2 (.mv (.c (.nils)))])
 (.seq (.reg [oo 5 (.mv (.c (.nils))), om 3 5])
 (.seq (.seq (.reg [oo 4 (.mv (.c (.j 0)))])
 (.blk 0 (.loop (.seq (.seq (.reg [om 6 4, oo 7 (.fa 0 (.t 1)), oo 8 (.fa 3 (.t 7)), oo 9 (.ld false 1 (.t 8)), oo 10 (.lenl (.t 9)), oo 11 (.bin .lss (.t 6) (.t 10))])
 (.cond (.t 11) .skip
 (.exit 0)))
 (.seq (.blk 1 (.seq (.drw [oo 14 (.ld true 9 (.t 1)), oo 15 (.fa 0 (.t 1)), oo 16 (.fa 3 (.t 15)), oo 17 (.ld false 1 (.t 16)), om 18 4, oo 19 (.ia 4 (.t 17) (.t 18)), oo 20 (.fa 0 (.t 19)), oo 21 (.ld false 1 (.t 20)), oo 22 (.cl (.c (.fn 174 [])) [(.t 14), (.t 21)]), oo 23 (.un .not (.t 22))] [.val [], .val [], .val [], .val [], .val [], .val [], .val [], .val [], .val [], .val []])
 (.cond (.t 23) (.reg [om 24 3, oo 25 (.fa 0 (.t 1)), oo 26 (.fa 3 (.t 25)), oo 27 (.ld false 1 (.t 26)), om 28 4, oo 29 (.ia 4 (.t 27) (.t 28)), oo 30 (.fa 3 (.t 29)), oo 31 (.ld false 1 (.t 30)), oo 32 (.app 9 96 (.t 24) (.t 31)), om 3 32])
 .skip)))
 (.reg [om 12 4, oo 13 (.bin .add (.t 12) (.c (.j 1))), om 4 13]))))))
 (.seq (.reg [om 33 3, om 2 33])
 .ret))))
theorem k_spec_l12Kept : FnOk Tryz.prog 173 34 rc_spec_l12Kept [.t 2] := ⟨Tryz.f173, _, [], Tryz.func173, rfl, rfl, by kernel_rfl, by kernel_rfl, follows⟩
theorem ok_spec_l12Kept : okF Tryz.prog 173 = true := by kernel_rfl
def rc_spec_l13Sizes : RC :=
 (.seq (.reg [oo 1 (.bx (.t 0)), oo 2 (.mv (.c (.nils)))])
 (.seq (.reg [oo 11 (.ld true 9 (.t 1)), oo 12 (.cl (.c (.fn 173 [])) [(.t 11)]), oo 13 (.cl (.c (.fn 172 [])) [(.t 12)]), om 3 13])
 (.seq (.reg [oo 14 (.mv (.c (.nils))), om 4 14])
 (.seq (.reg [oo 5 (.mv (.c (.j 0)))])
 (.seq (.seq (.reg [oo 6 (.mv (.c (.j 0)))])
 (.blk 0 (.loop (.seq (.seq (.reg [om 15 6, oo 16 (.fa 0 (.t 1)), oo 17 (.fa 3 (.t 16)), oo 18 (.ld false 1 (.t 17)), oo 19 (.lenl (.t 18)), oo 20 (.bin .lss (.t 15) (.t 19))])
 (.cond (.t 20) .skip
 (.exit 0)))
 (.seq (.blk 1 (.seq (.reg [oo 7 (.mv (.c (.j 0)))])
 (.seq (.seq (.drw [oo 23 (.ld true 9 (.t 1)), oo 24 (.fa 0 (.t 1)), oo 25 (.fa 3 (.t 24)), oo 26 (.ld false 1 (.t 25)), om 27 6, oo 28 (.ia 4 (.t 26) (.t 27)), oo 29 (.fa 0 (.t 28)), oo 30 (.ld false 1 (.t 29)), oo 31 (.cl (.c (.fn 174 [])) [(.t 23), (.t 30)])] [.val [], .val [], .val [], .val [], .val [], .val [], .val [], .val [], .val []])
 (.cond (.t 31) (.seq (.reg [om 32 4, oo 33 (.bs 1 [.j 0] 1 [(0, (.c (.j 0)))]), oo 34 (.app 1 8 (.t 32) (.t 33)), om 4 34])
 (.exit 1))
 .skip))
 (.seq (.seq (.reg [oo 8 (.mv (.c (.j 0)))])
 (.blk 2 (.loop (.seq (.seq (.reg [om 35 8, oo 36 (.fa 0 (.t 1)), oo 37 (.fa 3 (.t 36)), oo 38 (.ld false 1 (.t 37)), om 39 6, oo 40 (.ia 4 (.t 38) (.t 39)), oo 41 (.fa 3 (.t 40)), oo 42 (.ld false 1 (.t 41)), oo 43 (.lenl (.t 42)), oo 44 (.bin .lss (.t 35) (.t 43))])
 (.cond (.t 44) .skip
 (.exit 2)))
 (.seq (.blk 3 (.seq (.seq (.reg [om 47 3, om 48 5, oo 49 (.ia 1 (.t 47) (.t 48)), oo 50 (.ld false 1 (.t 49))])
 (.cond (.t 50) (.seq (.drw [oo 52 (.fa 0 (.t 1)), oo 53 (.fa 3 (.t 52)), oo 54 (.ld false 1 (.t 53)), om 55 6, oo 56 (.ia 4 (.t 54) (.t 55)), oo 57 (.fa 3 (.t 56)), oo 58 (.ld false 1 (.t 57)), om 59 8, oo 60 (.ia 9 (.t 58) (.t 59)), oo 61 (.ld true 9 (.t 60)), oo 62 (.fa 0 (.t 1)), oo 63 (.fa 3 (.t 62)), oo 64 (.ld false 1 (.t 63)), om 65 6, oo 66 (.ia 4 (.t 64) (.t 65)), oo 67 (.fa 1 (.t 66)), oo 68 (.ld false 1 (.t 67)), oo 69 (.cl (.c (.fn 111 [])) [(.t 61), (.t 68)]), om 51 69, oo 70 (.ext (.t 51) 0), oo 71 (.ext (.t 51) 1), oo 9 (.al [.j 0, .j 0, .str []]), on (.st 3 (.t 9) (.t 70)), om 10 71] [.val [], .val [], .val [], .val [], .val [], .val [], .val [], .val [], .val [], .val [], .val [], .val [], .val [], .val [], .val [], .val [], .val [], .val [], .val [], .val [], .val [], .chn [0, 1, 2, 3, 4, 5, 6, 7, 8, 9, 10, 11, 12, 13, 14, 15, 16, 17, 18, 19, 20], .chn [20], .val []])
 (.reg [om 72 7, oo 73 (.ld true 3 (.t 9)), oo 74 (.cl (.c (.fn 112 [])) [(.t 73)]), oo 75 (.bin .add (.t 72) (.t 74)), om 7 75]))
 .skip))
 (.reg [om 76 5, oo 77 (.bin .add (.t 76) (.c (.j 1))), om 5 77])))
 (.reg [om 45 8, oo 46 (.bin .add (.t 45) (.c (.j 1))), om 8 46]))))))
 (.reg [om 78 4, om 79 7, oo 80 (.bs 1 [.j 0] 1 [(0, (.t 79))]), oo 81 (.app 1 8 (.t 78) (.t 80)), om 4 81])))))
 (.reg [om 21 6, oo 22 (.bin .add (.t 21) (.c (.j 1))), om 6 22]))))))
 (.seq (.reg [om 82 4, om 2 82])
 .ret))))))
theorem k_spec_l13Sizes : FnOk Tryz.prog 110 83 rc_spec_l13Sizes [.t 2] := ⟨Tryz.f110, _, [], Tryz.func110, rfl, rfl, by kernel_rfl, by kernel_rfl, follows⟩
theorem ok_spec_l13Sizes : okF Tryz.prog 110 = true := by kernel_rfl
def rc_spec_LiveBytes : RC :=
 (.seq (.reg [oo 1 (.bx (.t 0)), oo 2 (.mv (.c (.j 0)))])
 (.seq (.reg [oo 6 (.ld true 9 (.t 1)), oo 7 (.cl (.c (.fn 110 [])) [(.t 6)]), om 3 7])
 (.seq (.reg [oo 4 (.mv (.c (.j 0)))])
 (.seq (.seq (.reg [oo 5 (.mv (.c (.j 0)))])
 (.blk 0 (.loop (.seq (.seq (.reg [om 8 5, om 9 3, oo 10 (.lenl (.t 9)), oo 11 (.bin .lss (.t 8) (.t 10))])
 (.cond (.t 11) .skip
 (.exit 0)))
 (.seq (.blk 1 (.reg [om 14 4, om 15 3, om 16 5, oo 17 (.ia 1 (.t 15) (.t 16)), oo 18 (.ld false 1 (.t 17)), oo 19 (.bin .add (.t 14) (.t 18)), om 4 19]))
 (.reg [om 12 5, oo 13 (.bin .add (.t 12) (.c (.j 1))), om 5 13]))))))
 (.seq (.reg [om 20 4, om 2 20])
 .ret)))))
theorem k_spec_LiveBytes : FnOk Tryz.prog 58 21 rc_spec_LiveBytes [.t 2] := ⟨Tryz.f58, _, [], Tryz.func58, rfl, rfl, by kernel_rfl, by kernel_rfl, follows⟩
theorem ok_spec_LiveBytes : okF Tryz.prog 58 = true := by kernel_rfl
def rc_spec_RecSize : RC :=
 (.seq (.reg [oo 1 (.bx (.t 0)), oo 2 (.mv (.c (.j 0)))])
 (.seq (.reg [oo 6 (.ld true 8 (.t 1)), oo 7 (.bld [.j 0, .j 0, .j 0, .j 0, .j 0, .j 0, .str [], .str [], .str []] [(0, 1), (1, 8)] [(0, (.c (.j 1000000000))), (1, (.t 6))]), oo 8 (.cl (.c (.fn 111 [])) [(.t 7), (.c (.j 1000000000))]), om 5 8, oo 9 (.ext (.t 5) 0), oo 10 (.ext (.t 5) 1), oo 3 (.al [.j 0, .j 0, .str []]), on (.st 3 (.t 3) (.t 9)), om 4 10])
 (.seq (.seq (.reg [om 11 4, oo 12 (.un .not (.t 11))])
 (.cond (.t 12) (.seq (.reg [oo 2 (.mv (.c (.j 0)))])
 .ret)
 .skip))
 (.seq (.reg [oo 13 (.ld true 3 (.t 3)), oo 14 (.cl (.c (.fn 112 [])) [(.t 13)]), om 2 14])
 .ret))))
theorem k_spec_RecSize : FnOk Tryz.prog 59 15 rc_spec_RecSize [.t 2] := ⟨Tryz.f59, _, [], Tryz.func59, rfl, rfl, by kernel_rfl, by kernel_rfl, follows⟩
theorem ok_spec_RecSize : okF Tryz.prog 59 = true := by kernel_rfl
def rc_spec_Roomy : RC :=
 (.seq (.reg [oo 2 (.bx (.t 0)), oo 3 (.bx (.t 1)), oo 4 (.mv (.c (.bool false)))])
 (.seq (.reg [oo 6 (.ld true 9 (.t 2)), oo 7 (.cl (.c (.fn 18 [])) [(.t 6)]), oo 5 (.al [.nils]), on (.st 1 (.t 5) (.t 7))])
 (.seq (.drw [oo 8 (.ld true 9 (.t 2)), oo 9 (.cl (.c (.fn 58 [])) [(.t 8)]), oo 10 (.ld true 8 (.t 3)), oo 11 (.cl (.c (.fn 59 [])) [(.t 10)]), oo 12 (.bin .add (.t 9) (.t 11)), oo 13 (.fa 0 (.t 5)), oo 14 (.ld false 1 (.t 13)), oo 15 (.lenl (.t 14)), oo 16 (.bin .mul (.c (.j 40)) (.t 15)), oo 17 (.bin .add (.t 12) (.t 16)), oo 18 (.fa 0 (.t 2)), oo 19 (.fa 2 (.t 18)), oo 20 (.ld false 1 (.t 19)), oo 21 (.bin .sub (.t 20) (.c (.j 5))), oo 22 (.bin .mul (.c (.j 80)) (.t 21)), oo 23 (.bin .leq (.t 17) (.t 22)), om 4 23] [.val [], .val [], .val [], .val [], .val [], .val [], .val [], .val [], .val [], .val [], .val [], .val [], .val [], .val [], .val [], .val [], .val []])
 .ret)))
theorem k_spec_Roomy : FnOk Tryz.prog 25 24 rc_spec_Roomy [.t 4] := ⟨Tryz.f25, _, [], Tryz.func25, rfl, rfl, by kernel_rfl, by kernel_rfl, follows⟩
theorem ok_spec_Roomy : okF Tryz.prog 25 = true := by kernel_rfl
def rc_impl_in : RC :=
 (.seq (.reg [oo 6 (.mv (.c (.bool false)))])
 (.seq (.reg [om 7 0, om 8 1, oo 9 (.bin .geq (.t 7) (.t 8)), om 10 9, ⟨(some 11), (some (10, true)), .mv (.t 0)⟩, ⟨(some 12), (some (10, true)), .mv (.t 2)⟩, ⟨(some 13), (some (10, true)), .bin .leq (.t 11) (.t 12)⟩, oo 14 (.pick (.t 10) (.t 13) (.c (.bool false))), om 6 14])
 .ret))
theorem k_impl_in : FnOk Tryz.prog 33 15 rc_impl_in [.t 6] := ⟨Tryz.f33, _, [], Tryz.func33, rfl, rfl, by kernel_rfl, by kernel_rfl, follows⟩
theorem ok_impl_in : okF Tryz.prog 33 = true := by kernel_rfl
def rc_impl_WordOk : RC :=
 (.seq (.reg [oo 2 (.mv (.c (.bool false)))])
 (.seq (.seq (.reg [om 4 0, oo 5 (.lens (.t 4)), oo 6 (.cl (.c (.fn 33 [])) [(.t 5), (.c (.j 1)), (.c (.j 8))]), oo 7 (.un .not (.t 6))])
 (.cond (.t 7) (.seq (.reg [oo 2 (.mv (.c (.bool false)))])
 .ret)
 .skip))
 (.seq (.seq (.reg [om 8 0, oo 9 (.lens (.t 8)), oo 10 (.mv (.c (.j 0)))])
 (.blk 0 (.loop (.seq (.reg [oo 11 (.bin .lss (.t 10) (.t 9))])
 (.seq (.cond (.t 11) .skip
 (.exit 0))
 (.seq (.blk 1 (.seq (.reg [om 12 10, om 3 12])
 (.seq (.reg [om 13 0, om 14 3, oo 15 (.idx (.t 13) (.t 14)), oo 16 (.bin .lss (.t 15) (.c (.int .u8 97))), om 17 16, ⟨(some 18), (some (17, false)), .mv (.t 0)⟩, ⟨(some 19), (some (17, false)), .mv (.t 3)⟩, ⟨(some 20), (some (17, false)), .idx (.t 18) (.t 19)⟩, ⟨(some 21), (some (17, false)), .bin .gtr (.t 20) (.c (.int .u8 122))⟩, oo 22 (.pick (.t 17) (.c (.bool true)) (.t 21))])
 (.cond (.t 22) (.seq (.reg [oo 2 (.mv (.c (.bool false)))])
 .ret)
 .skip))))
 (.reg [oo 23 (.bin .add (.t 10) (.c (.j 1))), om 10 23])))))))
 (.seq (.reg [oo 2 (.mv (.c (.bool true)))])
 .ret))))
theorem k_impl_WordOk : FnOk Tryz.prog 198 24 rc_impl_WordOk [.t 2] := ⟨Tryz.f198, _, [], Tryz.func198, rfl, rfl, by kernel_rfl, by kernel_rfl, follows⟩
theorem ok_impl_WordOk : okF Tryz.prog 198 = true := by kernel_rfl
def rc_impl_RecOk : RC :=
 (.seq (.reg [oo 1 (.bx (.t 0)), oo 2 (.mv (.c (.bool false)))])
 (.seq (.seq (.reg [oo 5 (.fa 1 (.t 1)), oo 6 (.ld false 1 (.t 5)), oo 7 (.cl (.c (.fn 33 [])) [(.t 6), (.c (.j 1)), (.c (.j 9999))]), oo 8 (.un .not (.t 7))])
 (.cond (.t 8) (.seq (.reg [oo 2 (.mv (.c (.bool false)))])
 .ret)
 .skip))
 (.seq (.reg [oo 9 (.ld true 8 (.t 1)), oo 3 (.al [.j 0, .j 0, .j 0, .j 0, .j 0, .str [], .str [], .str []]), on (.st 8 (.t 3) (.t 9))])
 (.seq (.reg [oo 10 (.fa 0 (.t 3)), on (.st 1 (.t 10) (.c (.j 0))), oo 11 (.fa 1 (.t 3)), on (.st 1 (.t 11) (.c (.j 0)))])
 (.seq (.reg [oo 4 (.mv (.c (.bool true)))])
 (.seq (.seq (.reg [oo 12 (.fa 0 (.t 1)), oo 13 (.ld false 1 (.t 12)), oo 14 (.bin .eql (.t 13) (.c (.j 3))), om 15 14, ⟨(some 16), (some (15, false)), .fa 0 (.t 1)⟩, ⟨(some 17), (some (15, false)), .ld false 1 (.t 16)⟩, ⟨(some 18), (some (15, false)), .bin .eql (.t 17) (.c (.j 4))⟩, oo 19 (.pick (.t 15) (.c (.bool true)) (.t 18)), om 20 19, ⟨(some 21), (some (20, false)), .fa 0 (.t 1)⟩, ⟨(some 22), (some (20, false)), .ld false 1 (.t 21)⟩, ⟨(some 23), (some (20, false)), .bin .eql (.t 22) (.c (.j 5))⟩, oo 24 (.pick (.t 20) (.c (.bool true)) (.t 23))])
 (.cond (.t 24) (.seq (.reg [oo 25 (.fa 2 (.t 1)), oo 26 (.ld false 1 (.t 25)), oo 27 (.cl (.c (.fn 33 [])) [(.t 26), (.c (.j 1)), (.c (.j 9999))]), om 4 27])
 (.reg [oo 28 (.fa 2 (.t 3)), on (.st 1 (.t 28) (.c (.j 0)))]))
 .skip))
 (.seq (.seq (.reg [oo 29 (.fa 0 (.t 1)), oo 30 (.ld false 1 (.t 29)), oo 31 (.bin .eql (.t 30) (.c (.j 3))), om 32 31, ⟨(some 33), (some (32, false)), .fa 0 (.t 1)⟩, ⟨(some 34), (some (32, false)), .ld false 1 (.t 33)⟩, ⟨(some 35), (some (32, false)), .bin .eql (.t 34) (.c (.j 4))⟩, oo 36 (.pick (.t 32) (.c (.bool true)) (.t 35))])
 (.cond (.t 36) (.seq (.reg [om 37 4, om 38 37, ⟨(some 39), (some (38, true)), .fa 4 (.t 1)⟩, ⟨(some 40), (some (38, true)), .ld false 1 (.t 39)⟩, ⟨(some 41), (some (38, true)), .cl (.c (.fn 33 [])) [(.t 40), (.c (.j 0)), (.c (.j 7))]⟩, oo 42 (.pick (.t 38) (.t 41) (.c (.bool false))), om 4 42])
 (.reg [oo 43 (.fa 4 (.t 3)), on (.st 1 (.t 43) (.c (.j 0)))]))
 .skip))
 (.seq (.seq (.reg [oo 44 (.fa 0 (.t 1)), oo 45 (.ld false 1 (.t 44))])
 (.blk 0 (.seq (.reg [oo 47 (.bin .eql (.t 45) (.c (.j 1))), om 46 47])
 (.cond (.t 46) (.seq (.reg [oo 48 (.fa 5 (.t 1)), oo 49 (.ld false 1 (.t 48)), oo 50 (.cl (.c (.fn 198 [])) [(.t 49)]), om 51 50, ⟨(some 52), (some (51, true)), .fa 6 (.t 1)⟩, ⟨(some 53), (some (51, true)), .ld false 1 (.t 52)⟩, ⟨(some 54), (some (51, true)), .cl (.c (.fn 198 [])) [(.t 53)]⟩, oo 55 (.pick (.t 51) (.t 54) (.c (.bool false))), om 56 55, ⟨(some 57), (some (56, true)), .fa 3 (.t 1)⟩, ⟨(some 58), (some (56, true)), .ld false 1 (.t 57)⟩, ⟨(some 59), (some (56, true)), .cl (.c (.fn 33 [])) [(.t 58), (.c (.j 1)), (.c (.j 10000))]⟩, oo 60 (.pick (.t 56) (.t 59) (.c (.bool false))), om 4 60])
 (.reg [oo 61 (.fa 5 (.t 3)), on (.st 1 (.t 61) (.c (.str []))), oo 62 (.fa 6 (.t 3)), on (.st 1 (.t 62) (.c (.str []))), oo 63 (.fa 3 (.t 3)), on (.st 1 (.t 63) (.c (.j 0)))]))
 (.seq (.reg [oo 65 (.bin .eql (.t 45) (.c (.j 3))), om 64 65])
 (.cond (.t 64) (.seq (.reg [om 66 4, om 67 66, ⟨(some 68), (some (67, true)), .fa 7 (.t 1)⟩, ⟨(some 69), (some (67, true)), .ld false 1 (.t 68)⟩, ⟨(some 70), (some (67, true)), .lens (.t 69)⟩, ⟨(some 71), (some (67, true)), .bin .leq (.t 70) (.c (.j 100))⟩, oo 72 (.pick (.t 67) (.t 71) (.c (.bool false))), om 4 72])
 (.reg [oo 73 (.fa 7 (.t 3)), on (.st 1 (.t 73) (.c (.str [])))]))
 (.seq (.seq (.reg [oo 75 (.bin .eql (.t 45) (.c (.j 2))), om 74 75])
 (.cond (.t 74) .skip
 (.seq (.reg [oo 76 (.bin .eql (.t 45) (.c (.j 4))), om 74 76])
 (.cond (.t 74) .skip
 (.reg [oo 77 (.bin .eql (.t 45) (.c (.j 5))), om 74 77])))))
 (.cond (.t 74) .skip
 (.seq (.reg [oo 2 (.mv (.c (.bool false)))])
 .ret)))))))))
 (.seq (.reg [om 78 4, om 79 78, ⟨(some 80), (some (79, true)), .ld true 8 (.t 3)⟩, ⟨(some 81), (some (79, true)), .bld [.j 0, .j 0, .j 0, .j 0, .j 0, .str [], .str [], .str []] [(0, 1), (1, 1), (2, 1), (3, 1), (4, 1), (5, 1), (6, 1), (7, 1)] []⟩, ⟨(some 82), (some (79, true)), .equ false [(0, 1), (1, 1), (2, 1), (3, 1), (4, 1), (5, 2), (6, 2), (7, 2)] (.t 80) (.t 81)⟩, oo 83 (.pick (.t 79) (.t 82) (.c (.bool false))), om 2 83])
 .ret)))))))))
theorem k_impl_RecOk : FnOk Tryz.prog 157 84 rc_impl_RecOk [.t 2] := ⟨Tryz.f157, _, [], Tryz.func157, rfl, rfl, by kernel_rfl, by kernel_rfl, follows⟩
theorem ok_impl_RecOk : okF Tryz.prog 157 = true := by kernel_rfl
def rc_impl_ItemsOk_1 : RC :=
 (.seq (.reg [oo 2 (.bx (.t 0)), oo 3 (.mv (.c (.bool false)))])
 (.seq (.reg [oo 4 (.fa 0 (.t 2)), oo 5 (.ld false 1 (.t 4)), oo 6 (.fa 0 (.t 1)), oo 7 (.ld false 1 (.t 6)), oo 8 (.bin .eql (.t 5) (.t 7)), om 9 8, ⟨(some 10), (some (9, true)), .ld true 9 (.t 2)⟩, ⟨(some 11), (some (9, true)), .ld true 9 (.t 1)⟩, ⟨(some 12), (some (9, true)), .equ true [(0, 1), (1, 1), (2, 1), (3, 1), (4, 1), (5, 1), (6, 2), (7, 2), (8, 2)] (.t 10) (.t 11)⟩, oo 13 (.pick (.t 9) (.t 12) (.c (.bool false))), om 3 13])
 .ret))
theorem k_impl_ItemsOk_1 : FnOk Tryz.prog 159 14 rc_impl_ItemsOk_1 [.t 3] := ⟨Tryz.f159, _, [], Tryz.func159, rfl, rfl, by kernel_rfl, by kernel_rfl, follows⟩
theorem ok_impl_ItemsOk_1 : okF Tryz.prog 159 = true := by kernel_rfl
def rc_slices_IndexFunc_Item : RC :=
 (.seq (.reg [oo 4 (.mv (.c (.j 0)))])
 (.seq (.seq (.reg [om 6 0, oo 7 (.lenl (.t 6)), oo 8 (.mv (.c (.j 0)))])
 (.blk 0 (.loop (.seq (.reg [oo 9 (.bin .lss (.t 8) (.t 7))])
 (.seq (.cond (.t 9) .skip
 (.exit 0))
 (.seq (.blk 1 (.seq (.reg [om 10 8, om 5 10])
 (.seq (.reg [om 11 1, om 12 0, om 13 5, oo 14 (.ia 9 (.t 12) (.t 13)), oo 15 (.ld true 9 (.t 14)), oo 16 (.cl (.t 11) [(.t 15)])])
 (.cond (.t 16) (.seq (.reg [om 17 5, om 4 17])
 .ret)
 .skip))))
 (.reg [oo 18 (.bin .add (.t 8) (.c (.j 1))), om 8 18])))))))
 (.seq (.reg [oo 4 (.mv (.c (.j (-1))))])
 .ret)))
theorem k_slices_IndexFunc_Item : FnOk Tryz.prog 199 19 rc_slices_IndexFunc_Item [.t 4] := ⟨Tryz.f199, _, [], Tryz.func199, rfl, rfl, by kernel_rfl, by kernel_rfl, follows⟩
theorem ok_slices_IndexFunc_Item : okF Tryz.prog 199 = true := by kernel_rfl
def rc_slices_ContainsFunc_Item : RC :=
 (.seq (.reg [oo 4 (.mv (.c (.bool false)))])
 (.seq (.reg [om 5 0, om 6 1, oo 7 (.cl (.c (.fn 199 [])) [(.t 5), (.t 6)]), oo 8 (.bin .geq (.t 7) (.c (.j 0))), om 4 8])
 .ret))
theorem k_slices_ContainsFunc_Item : FnOk Tryz.prog 158 9 rc_slices_ContainsFunc_Item [.t 4] := ⟨Tryz.f158, _, [], Tryz.func158, rfl, rfl, by kernel_rfl, by kernel_rfl, follows⟩
theorem ok_slices_ContainsFunc_Item : okF Tryz.prog 158 = true := by kernel_rfl
def rc_impl_ItemsOk : RC :=
 (.seq (.reg [oo 2 (.mv (.c (.bool false)))])
 (.seq (.seq (.reg [om 5 0, oo 6 (.lenl (.t 5)), oo 7 (.bin .gtr (.t 6) (.c (.j 200)))])
 (.cond (.t 7) (.seq (.reg [oo 2 (.mv (.c (.bool false)))])
 .ret)
 .skip))
 (.seq (.seq (.reg [om 8 0, oo 9 (.lenl (.t 8)), oo 10 (.mv (.c (.j 0)))])
 (.blk 0 (.loop (.seq (.reg [oo 11 (.bin .lss (.t 10) (.t 9))])
 (.seq (.cond (.t 11) .skip
 (.exit 0))
 (.seq (.blk 1 (.seq (.reg [om 12 10, oo 13 (.ia 9 (.t 8) (.t 10)), oo 14 (.ld true 9 (.t 13)), oo 4 (.al [.j 0, .j 0, .j 0, .j 0, .j 0, .j 0, .str [], .str [], .str []]), om 3 12, on (.st 9 (.t 4) (.t 14))])
 (.seq (.seq (.reg [oo 15 (.fa 0 (.t 4)), oo 16 (.ld false 1 (.t 15)), oo 17 (.cl (.c (.fn 33 [])) [(.t 16), (.c (.j 1)), (.c (.j 1000000000))]), oo 18 (.un .not (.t 17)), om 19 18, ⟨(some 20), (some (19, false)), .fa 1 (.t 4)⟩, ⟨(some 21), (some (19, false)), .ld true 8 (.t 20)⟩, ⟨(some 22), (some (19, false)), .cl (.c (.fn 157 [])) [(.t 21)]⟩, ⟨(some 23), (some (19, false)), .un .not (.t 22)⟩, oo 24 (.pick (.t 19) (.c (.bool true)) (.t 23))])
 (.cond (.t 24) (.seq (.reg [oo 2 (.mv (.c (.bool false)))])
 .ret)
 .skip))
 (.seq (.reg [om 25 0, om 26 3, oo 27 (.sle 9 (.t 25) none (some (.t 26))), oo 28 (.mkf 159 [(.t 4)]), oo 29 (.cl (.c (.fn 158 [])) [(.t 27), (.t 28)])])
 (.cond (.t 29) (.seq (.reg [oo 2 (.mv (.c (.bool false)))])
 .ret)
 .skip)))))
 (.reg [oo 30 (.bin .add (.t 10) (.c (.j 1))), om 10 30])))))))
 (.seq (.reg [oo 2 (.mv (.c (.bool true)))])
 .ret))))
theorem k_impl_ItemsOk : FnOk Tryz.prog 101 31 rc_impl_ItemsOk [.t 2] := ⟨Tryz.f101, _, [], Tryz.func101, rfl, rfl, by kernel_rfl, by kernel_rfl, follows⟩
theorem ok_impl_ItemsOk : okF Tryz.prog 101 = true := by kernel_rfl
def rc_impl_StateOf_1 : RC :=
 (.seq (.reg [oo 1 (.bx (.t 0)), oo 2 (.mv (.c (.j 0))), oo 3 (.mv (.c (.bool false)))])
 (.seq (.drw [oo 4 (.fa 1 (.t 1)), oo 5 (.ld false 1 (.t 4)), oo 6 (.fa 0 (.t 1)), oo 7 (.ld false 1 (.t 6)), oo 8 (.bin .eql (.t 7) (.c (.j 1))), om 2 5, om 3 8] [.val [], .val [], .val [], .val [], .val [], .val [], .val []])
 .ret))
theorem k_impl_StateOf_1 : FnOk Tryz.prog 103 9 rc_impl_StateOf_1 [.t 2, .t 3] := ⟨Tryz.f103, _, [], Tryz.func103, rfl, rfl, by kernel_rfl, by kernel_rfl, follows⟩
theorem ok_impl_StateOf_1 : okF Tryz.prog 103 = true := by kernel_rfl
def rc_impl_numbers : RC :=
 (.seq (.reg [oo 4 (.mv (.c (.nils)))])
 (.seq (.reg [oo 10 (.mv (.c (.nils))), om 5 10])
 (.seq (.seq (.reg [om 11 0, oo 12 (.lenl (.t 11)), oo 13 (.mv (.c (.j 0)))])
 (.blk 0 (.loop (.seq (.reg [oo 14 (.bin .lss (.t 13) (.t 12))])
 (.seq (.cond (.t 14) .skip
 (.exit 0))
 (.seq (.blk 1 (.seq (.reg [oo 15 (.ia 9 (.t 11) (.t 13)), oo 16 (.ld true 9 (.t 15)), oo 7 (.al [.j 0, .j 0, .j 0, .j 0, .j 0, .j 0, .str [], .str [], .str []]), on (.st 9 (.t 7) (.t 16))])
 (.seq (.reg [om 18 1, oo 19 (.fa 1 (.t 7)), oo 20 (.ld true 8 (.t 19)), oo 21 (.cl (.t 18) [(.t 20)]), om 17 21, oo 22 (.ext (.t 17) 0), oo 23 (.ext (.t 17) 1), om 8 22, om 9 23])
 (.seq (.reg [om 24 9])
 (.cond (.t 24) (.reg [om 25 5, om 26 8, oo 27 (.bs 1 [.j 0] 1 [(0, (.t 26))]), oo 28 (.app 1 8 (.t 25) (.t 27)), om 5 28])
 .skip)))))
 (.reg [oo 29 (.bin .add (.t 13) (.c (.j 1))), om 13 29])))))))
 (.seq (.reg [om 30 5, oo 31 (.cl (.c (.fn 160 [])) [(.t 30)])])
 (.seq (.reg [om 32 5, oo 33 (.cl (.c (.fn 161 [])) [(.t 32)]), om 4 33])
 .ret)))))
theorem k_impl_numbers : FnOk Tryz.prog 102 34 rc_impl_numbers [.t 4] := ⟨Tryz.f102, _, [], Tryz.func102, rfl, rfl, by kernel_rfl, by kernel_rfl, follows⟩
theorem ok_impl_numbers : okF Tryz.prog 102 = true := by kernel_rfl
def rc_impl_about : RC :=
 (.seq (.reg [oo 3 (.bx (.t 0)), oo 6 (.mv (.c (.bool false)))])
 (.seq (.reg [oo 7 (.fa 0 (.t 3)), oo 8 (.ld false 1 (.t 7)), om 9 1, oo 10 (.bin .eql (.t 8) (.t 9)), om 11 10, ⟨(some 12), (some (11, true)), .fa 1 (.t 3)⟩, ⟨(some 13), (some (11, true)), .ld false 1 (.t 12)⟩, ⟨(some 14), (some (11, true)), .mv (.t 2)⟩, ⟨(some 15), (some (11, true)), .bin .eql (.t 13) (.t 14)⟩, oo 16 (.pick (.t 11) (.t 15) (.c (.bool false))), om 6 16])
 .ret))
theorem k_impl_about : FnOk Tryz.prog 164 17 rc_impl_about [.t 6] := ⟨Tryz.f164, _, [], Tryz.func164, rfl, rfl, by kernel_rfl, by kernel_rfl, follows⟩
theorem ok_impl_about : okF Tryz.prog 164 = true := by kernel_rfl
def rc_impl_boxThere_1 : RC :=
 (.seq (.reg [oo 2 (.bx (.t 0)), oo 3 (.mv (.c (.bool false)))])
 (.seq (.reg [oo 4 (.ld true 8 (.t 2)), oo 5 (.ld false 1 (.t 1)), oo 6 (.cl (.c (.fn 164 [])) [(.t 4), (.c (.j 2)), (.t 5)]), om 3 6])
 .ret))
theorem k_impl_boxThere_1 : FnOk Tryz.prog 163 7 rc_impl_boxThere_1 [.t 3] := ⟨Tryz.f163, _, [], Tryz.func163, rfl, rfl, by kernel_rfl, by kernel_rfl, follows⟩
theorem ok_impl_boxThere_1 : okF Tryz.prog 163 = true := by kernel_rfl
def rc_impl_bySeq : RC :=
 (.seq (.reg [oo 2 (.bx (.t 0)), oo 3 (.bx (.t 1)), oo 4 (.mv (.c (.bool false)))])
 (.seq (.reg [oo 5 (.fa 0 (.t 2)), oo 6 (.ld false 1 (.t 5)), oo 7 (.fa 0 (.t 3)), oo 8 (.ld false 1 (.t 7)), oo 9 (.bin .lss (.t 6) (.t 8)), om 4 9])
 .ret))
theorem k_impl_bySeq : FnOk Tryz.prog 165 10 rc_impl_bySeq [.t 4] := ⟨Tryz.f165, _, [], Tryz.func165, rfl, rfl, by kernel_rfl, by kernel_rfl, follows⟩
theorem ok_impl_bySeq : okF Tryz.prog 165 = true := by kernel_rfl
def rc_impl_latest : RC :=
 (.seq (.reg [oo 6 (.al [.j 0, .j 0, .j 0, .j 0, .j 0, .j 0, .str [], .str [], .str []]), oo 7 (.mv (.c (.bool false)))])
 (.seq (.reg [oo 12 (.bld [.j 0, .j 0, .j 0, .j 0, .j 0, .j 0, .str [], .str [], .str []] [(0, 1), (1, 8)] []), oo 8 (.al [.j 0, .j 0, .j 0, .j 0, .j 0, .j 0, .str [], .str [], .str []]), on (.st 9 (.t 8) (.t 12)), oo 9 (.mv (.c (.bool false)))])
 (.seq (.seq (.reg [om 13 0, oo 14 (.lenl (.t 13)), oo 15 (.mv (.c (.j 0)))])
 (.blk 0 (.loop (.seq (.reg [oo 16 (.bin .lss (.t 15) (.t 14))])
 (.seq (.cond (.t 16) .skip
 (.exit 0))
 (.seq (.blk 1 (.seq (.reg [oo 17 (.ia 9 (.t 13) (.t 15)), oo 18 (.ld true 9 (.t 17)), oo 11 (.al [.j 0, .j 0, .j 0, .j 0, .j 0, .j 0, .str [], .str [], .str []]), on (.st 9 (.t 11) (.t 18))])
 (.seq (.reg [om 19 1, oo 20 (.fa 1 (.t 11)), oo 21 (.ld true 8 (.t 20)), oo 22 (.cl (.t 19) [(.t 21)]), om 23 22, ⟨(some 24), (some (23, true)), .mv (.t 9)⟩, ⟨(some 25), (some (23, true)), .un .not (.t 24)⟩, ⟨(some 26), (some (23, true)), .mv (.t 25)⟩, ⟨(some 27), (some (26, false)), .mv (.t 2)⟩, ⟨(some 28), (some (26, false)), .ld true 9 (.t 8)⟩, ⟨(some 29), (some (26, false)), .ld true 9 (.t 11)⟩, ⟨(some 30), (some (26, false)), .cl (.t 27) [(.t 28), (.t 29)]⟩, ⟨(some 31), (some (23, true)), .pick (.t 26) (.c (.bool true)) (.t 30)⟩, oo 32 (.pick (.t 23) (.t 31) (.c (.bool false)))])
 (.cond (.t 32) (.reg [oo 33 (.ld true 9 (.t 11)), on (.st 9 (.t 8) (.t 33)), oo 9 (.mv (.c (.bool true)))])
 .skip))))
 (.reg [oo 34 (.bin .add (.t 15) (.c (.j 1))), om 15 34])))))))
 (.seq (.reg [oo 35 (.ld true 9 (.t 8)), om 36 9, on (.st 9 (.t 6) (.t 35)), om 7 36])
 .ret))))
theorem k_impl_latest : FnOk Tryz.prog 162 37 rc_impl_latest [.cell 6 true 9, .t 7] := ⟨Tryz.f162, _, [], Tryz.func162, rfl, rfl, by kernel_rfl, by kernel_rfl, follows⟩
theorem ok_impl_latest : okF Tryz.prog 162 = true := by kernel_rfl
def rc_impl_boxThere_2 : RC :=
 (.seq (.reg [oo 2 (.bx (.t 0)), oo 3 (.mv (.c (.bool false)))])
 (.seq (.reg [oo 4 (.ld true 8 (.t 2)), oo 5 (.ld false 1 (.t 1)), oo 6 (.cl (.c (.fn 164 [])) [(.t 4), (.c (.j 1)), (.t 5)]), om 3 6])
 .ret))
theorem k_impl_boxThere_2 : FnOk Tryz.prog 166 7 rc_impl_boxThere_2 [.t 3] := ⟨Tryz.f166, _, [], Tryz.func166, rfl, rfl, by kernel_rfl, by kernel_rfl, follows⟩
theorem ok_impl_boxThere_2 : okF Tryz.prog 166 = true := by kernel_rfl
def rc_impl_byNext : RC :=
 (.seq (.reg [oo 2 (.bx (.t 0)), oo 3 (.bx (.t 1)), oo 4 (.mv (.c (.bool false)))])
 (.seq (.seq (.reg [oo 5 (.fa 1 (.t 2)), oo 6 (.fa 3 (.t 5)), oo 7 (.ld false 1 (.t 6)), oo 8 (.fa 1 (.t 3)), oo 9 (.fa 3 (.t 8)), oo 10 (.ld false 1 (.t 9)), oo 11 (.bin .neq (.t 7) (.t 10))])
 (.cond (.t 11) (.seq (.reg [oo 12 (.fa 1 (.t 2)), oo 13 (.fa 3 (.t 12)), oo 14 (.ld false 1 (.t 13)), oo 15 (.fa 1 (.t 3)), oo 16 (.fa 3 (.t 15)), oo 17 (.ld false 1 (.t 16)), oo 18 (.bin .lss (.t 14) (.t 17)), om 4 18])
 .ret)
 .skip))
 (.seq (.reg [oo 19 (.fa 0 (.t 2)), oo 20 (.ld false 1 (.t 19)), oo 21 (.fa 0 (.t 3)), oo 22 (.ld false 1 (.t 21)), oo 23 (.bin .lss (.t 20) (.t 22)), om 4 23])
 .ret)))
theorem k_impl_byNext : FnOk Tryz.prog 167 24 rc_impl_byNext [.t 4] := ⟨Tryz.f167, _, [], Tryz.func167, rfl, rfl, by kernel_rfl, by kernel_rfl, follows⟩
theorem ok_impl_byNext : okF Tryz.prog 167 = true := by kernel_rfl
def rc_impl_boxThere : RC :=
 (.seq (.reg [oo 3 (.bx (.t 1)), oo 4 (.al [.j 0, .j 0, .j 0, .j 0, .j 0, .j 0, .str [], .str [], .str []]), oo 5 (.mv (.c (.bool false)))])
 (.seq (.seq (.reg [om 9 0, oo 10 (.mkf 163 [(.t 3)]), oo 11 (.cl (.c (.fn 162 [])) [(.t 9), (.t 10), (.c (.fn 165 []))]), om 8 11, oo 12 (.ext (.t 8) 0), oo 13 (.ext (.t 8) 1), oo 6 (.al [.j 0, .j 0, .j 0, .j 0, .j 0, .j 0, .str [], .str [], .str []]), on (.st 9 (.t 6) (.t 12)), om 7 13])
 (.seq (.reg [om 14 7])
 (.cond (.t 14) (.seq (.reg [oo 15 (.bld [.j 0, .j 0, .j 0, .j 0, .j 0, .j 0, .str [], .str [], .str []] [(0, 1), (1, 8)] []), on (.st 9 (.t 4) (.t 15)), oo 5 (.mv (.c (.bool false)))])
 .ret)
 .skip)))
 (.seq (.reg [om 16 0, oo 17 (.mkf 166 [(.t 3)]), oo 18 (.cl (.c (.fn 162 [])) [(.t 16), (.t 17), (.c (.fn 167 []))]), oo 19 (.ext (.t 18) 0), oo 20 (.ext (.t 18) 1), on (.st 9 (.t 4) (.t 19)), om 5 20])
 .ret)))
theorem k_impl_boxThere : FnOk Tryz.prog 104 21 rc_impl_boxThere [.cell 4 true 9, .t 5] := ⟨Tryz.f104, _, [], Tryz.func104, rfl, rfl, by kernel_rfl, by kernel_rfl, follows⟩
theorem ok_impl_boxThere : okF Tryz.prog 104 = true := by kernel_rfl
def rc_impl_boxState_1 : RC :=
 (.seq (.reg [oo 2 (.bx (.t 0)), oo 3 (.mv (.c (.j 0))), oo 4 (.mv (.c (.bool false)))])
 (.seq (.drw [oo 5 (.fa 2 (.t 2)), oo 6 (.ld false 1 (.t 5)), oo 7 (.ld true 8 (.t 2)), oo 8 (.ld false 1 (.t 1)), oo 9 (.cl (.c (.fn 164 [])) [(.t 7), (.c (.j 3)), (.t 8)]), om 10 9, ⟨(some 11), (some (10, false)), .ld true 8 (.t 2)⟩, ⟨(some 12), (some (10, false)), .ld false 1 (.t 1)⟩, ⟨(some 13), (some (10, false)), .cl (.c (.fn 164 [])) [(.t 11), (.c (.j 5)), (.t 12)]⟩, oo 14 (.pick (.t 10) (.c (.bool true)) (.t 13)), om 3 6, om 4 14] [.val [], .val [], .val [], .val [], .val [], .val [], .val [], .val [], .val [], .val [], .val [], .val []])
 .ret))
theorem k_impl_boxState_1 : FnOk Tryz.prog 168 15 rc_impl_boxState_1 [.t 3, .t 4] := ⟨Tryz.f168, _, [], Tryz.func168, rfl, rfl, by kernel_rfl, by kernel_rfl, follows⟩
theorem ok_impl_boxState_1 : okF Tryz.prog 168 = true := by kernel_rfl
def rc_impl_mailItem_1 : RC :=
 (.seq (.reg [oo 4 (.bx (.t 0)), oo 5 (.mv (.c (.bool false)))])
 (.seq (.reg [oo 6 (.ld true 8 (.t 4)), oo 7 (.ld false 1 (.t 1)), oo 8 (.ld false 1 (.t 2)), oo 9 (.cl (.c (.fn 164 [])) [(.t 6), (.t 7), (.t 8)]), om 10 9, ⟨(some 11), (some (10, true)), .fa 2 (.t 4)⟩, ⟨(some 12), (some (10, true)), .ld false 1 (.t 11)⟩, ⟨(some 13), (some (10, true)), .ld false 1 (.t 3)⟩, ⟨(some 14), (some (10, true)), .bin .eql (.t 12) (.t 13)⟩, oo 15 (.pick (.t 10) (.t 14) (.c (.bool false))), om 5 15])
 .ret))
theorem k_impl_mailItem_1 : FnOk Tryz.prog 202 16 rc_impl_mailItem_1 [.t 5] := ⟨Tryz.f202, _, [], Tryz.func202, rfl, rfl, by kernel_rfl, by kernel_rfl, follows⟩
theorem ok_impl_mailItem_1 : okF Tryz.prog 202 = true := by kernel_rfl
def rc_impl_mailItem : RC :=
 (.seq (.reg [oo 5 (.bx (.t 1)), oo 6 (.bx (.t 2)), oo 7 (.bx (.t 3)), oo 8 (.al [.j 0, .j 0, .j 0, .j 0, .j 0, .j 0, .str [], .str [], .str []]), oo 9 (.mv (.c (.bool false)))])
 (.seq (.reg [om 10 0, oo 11 (.mkf 202 [(.t 5), (.t 6), (.t 7)]), oo 12 (.cl (.c (.fn 162 [])) [(.t 10), (.t 11), (.c (.fn 165 []))]), oo 13 (.ext (.t 12) 0), oo 14 (.ext (.t 12) 1), on (.st 9 (.t 8) (.t 13)), om 9 14])
 .ret))
theorem k_impl_mailItem : FnOk Tryz.prog 170 15 rc_impl_mailItem [.cell 8 true 9, .t 9] := ⟨Tryz.f170, _, [], Tryz.func170, rfl, rfl, by kernel_rfl, by kernel_rfl, follows⟩
theorem ok_impl_mailItem : okF Tryz.prog 170 = true := by kernel_rfl
def rc_impl_mailThere : RC :=
 (.seq (.reg [oo 6 (.al [.j 0, .j 0, .j 0, .j 0, .j 0, .j 0, .str [], .str [], .str []]), oo 7 (.mv (.c (.bool false)))])
 (.seq (.seq (.reg [om 13 0, om 14 1, oo 15 (.cl (.c (.fn 104 [])) [(.t 13), (.t 14)]), om 12 15, oo 16 (.ext (.t 12) 0), oo 17 (.ext (.t 12) 1), oo 8 (.al [.j 0, .j 0, .j 0, .j 0, .j 0, .j 0, .str [], .str [], .str []]), on (.st 9 (.t 8) (.t 16)), om 9 17])
 (.seq (.reg [om 18 9, oo 19 (.un .not (.t 18))])
 (.cond (.t 19) (.seq (.reg [oo 20 (.bld [.j 0, .j 0, .j 0, .j 0, .j 0, .j 0, .str [], .str [], .str []] [(0, 1), (1, 8)] []), on (.st 9 (.t 6) (.t 20)), oo 7 (.mv (.c (.bool false)))])
 .ret)
 .skip)))
 (.seq (.seq (.reg [om 22 0, om 23 1, om 24 2, oo 25 (.cl (.c (.fn 170 [])) [(.t 22), (.c (.j 5)), (.t 23), (.t 24)]), om 21 25, oo 26 (.ext (.t 21) 0), oo 27 (.ext (.t 21) 1), oo 10 (.al [.j 0, .j 0, .j 0, .j 0, .j 0, .j 0, .str [], .str [], .str []]), on (.st 9 (.t 10) (.t 26)), om 11 27])
 (.seq (.reg [om 28 11])
 (.cond (.t 28) (.seq (.reg [oo 29 (.bld [.j 0, .j 0, .j 0, .j 0, .j 0, .j 0, .str [], .str [], .str []] [(0, 1), (1, 8)] []), on (.st 9 (.t 6) (.t 29)), oo 7 (.mv (.c (.bool false)))])
 .ret)
 .skip)))
 (.seq (.reg [om 30 0, om 31 1, om 32 2, oo 33 (.cl (.c (.fn 170 [])) [(.t 30), (.c (.j 3)), (.t 31), (.t 32)]), oo 34 (.ext (.t 33) 0), oo 35 (.ext (.t 33) 1), on (.st 9 (.t 6) (.t 34)), om 7 35])
 .ret))))
theorem k_impl_mailThere : FnOk Tryz.prog 169 36 rc_impl_mailThere [.cell 6 true 9, .t 7] := ⟨Tryz.f169, _, [], Tryz.func169, rfl, rfl, by kernel_rfl, by kernel_rfl, follows⟩
theorem ok_impl_mailThere : okF Tryz.prog 169 = true := by kernel_rfl
def rc_impl_boxState : RC :=
 (.seq (.reg [oo 3 (.bx (.t 1)), oo 4 (.al [.j 0, .str [], .str [], .j 0, .nils])])
 (.seq (.reg [oo 15 (.fa 1 (.t 3)), oo 16 (.fa 1 (.t 15)), oo 17 (.ld false 1 (.t 16)), oo 5 (.al [.j 0]), on (.st 1 (.t 5) (.t 17))])
 (.seq (.reg [oo 18 (.ld false 1 (.t 5)), oo 19 (.fa 1 (.t 3)), oo 20 (.fa 5 (.t 19)), oo 21 (.ld false 1 (.t 20)), oo 22 (.fa 1 (.t 3)), oo 23 (.fa 6 (.t 22)), oo 24 (.ld false 1 (.t 23)), oo 25 (.fa 1 (.t 3)), oo 26 (.fa 3 (.t 25)), oo 27 (.ld false 1 (.t 26)), oo 28 (.bld [.j 0, .str [], .str [], .j 0, .nils] [(0, 1), (1, 1), (2, 1), (3, 1), (4, 1)] [(0, (.t 18)), (1, (.t 21)), (2, (.t 24)), (3, (.t 27))]), oo 6 (.al [.j 0, .str [], .str [], .j 0, .nils]), on (.st 5 (.t 6) (.t 28))])
 (.seq (.reg [om 29 0, oo 30 (.mkf 168 [(.t 5)]), oo 31 (.cl (.c (.fn 102 [])) [(.t 29), (.t 30)]), om 7 31])
 (.seq (.seq (.reg [om 32 7, oo 33 (.lenl (.t 32)), oo 34 (.mv (.c (.j 0)))])
 (.blk 0 (.loop (.seq (.reg [oo 35 (.bin .lss (.t 34) (.t 33))])
 (.seq (.cond (.t 35) .skip
 (.exit 0))
 (.seq (.blk 1 (.seq (.reg [oo 36 (.ia 1 (.t 32) (.t 34)), oo 37 (.ld false 1 (.t 36)), om 9 37])
 (.seq (.reg [oo 38 (.fa 3 (.t 6)), oo 39 (.ld false 1 (.t 38)), om 40 9, oo 41 (.bin .add (.t 40) (.c (.j 1))), oo 42 (.mx (.t 39) (.t 41)), oo 43 (.fa 3 (.t 6)), on (.st 1 (.t 43) (.t 42))])
 (.seq (.reg [om 45 0, oo 46 (.ld false 1 (.t 5)), om 47 9, oo 48 (.cl (.c (.fn 169 [])) [(.t 45), (.t 46), (.t 47)]), om 44 48, oo 49 (.ext (.t 44) 0), oo 50 (.ext (.t 44) 1), oo 10 (.al [.j 0, .j 0, .j 0, .j 0, .j 0, .j 0, .str [], .str [], .str []]), on (.st 9 (.t 10) (.t 49)), om 11 50])
 (.seq (.seq (.reg [om 51 11, oo 52 (.un .not (.t 51))])
 (.cond (.t 52) (.exit 1)
 .skip))
 (.seq (.reg [om 53 9, oo 54 (.fa 1 (.t 10)), oo 55 (.fa 4 (.t 54)), oo 56 (.ld false 1 (.t 55)), oo 57 (.fa 1 (.t 10)), oo 58 (.fa 7 (.t 57)), oo 59 (.ld false 1 (.t 58)), oo 60 (.bld [.j 0, .j 0, .str []] [(0, 1), (1, 1), (2, 1)] [(0, (.t 53)), (1, (.t 56)), (2, (.t 59))]), oo 12 (.al [.j 0, .j 0, .str []]), on (.st 3 (.t 12) (.t 60))])
 (.seq (.seq (.reg [om 62 0, oo 63 (.ld false 1 (.t 5)), om 64 9, oo 65 (.cl (.c (.fn 170 [])) [(.t 62), (.c (.j 4)), (.t 63), (.t 64)]), om 61 65, oo 66 (.ext (.t 61) 0), oo 67 (.ext (.t 61) 1), oo 13 (.al [.j 0, .j 0, .j 0, .j 0, .j 0, .j 0, .str [], .str [], .str []]), on (.st 9 (.t 13) (.t 66)), om 14 67])
 (.seq (.reg [om 68 14])
 (.cond (.t 68) (.reg [oo 69 (.fa 1 (.t 13)), oo 70 (.fa 4 (.t 69)), oo 71 (.ld false 1 (.t 70)), oo 72 (.fa 1 (.t 12)), on (.st 1 (.t 72) (.t 71))])
 .skip)))
 (.reg [oo 73 (.fa 4 (.t 6)), oo 74 (.ld false 1 (.t 73)), oo 75 (.ld true 3 (.t 12)), oo 76 (.bs 3 [.j 0, .j 0, .str []] 1 [(0, (.t 75))]), oo 77 (.app 3 32 (.t 74) (.t 76)), oo 78 (.fa 4 (.t 6)), on (.st 1 (.t 78) (.t 77))]))))))))
 (.reg [oo 79 (.bin .add (.t 34) (.c (.j 1))), om 34 79])))))))
 (.seq (.reg [oo 80 (.ld true 5 (.t 6)), on (.st 5 (.t 4) (.t 80))])
 .ret))))))
theorem k_impl_boxState : FnOk Tryz.prog 105 81 rc_impl_boxState [.cell 4 true 5] := ⟨Tryz.f105, _, [], Tryz.func105, rfl, rfl, by kernel_rfl, by kernel_rfl, follows⟩
theorem ok_impl_boxState : okF Tryz.prog 105 = true := by kernel_rfl
def rc_impl_StateOf : RC :=
 (.seq (.reg [oo 2 (.al [.nils])])
 (.seq (.seq (.reg [om 8 0, oo 9 (.cl (.c (.fn 101 [])) [(.t 8)]), oo 10 (.un .not (.t 9))])
 (.cond (.t 10) (.seq (.reg [oo 11 (.bld [.nils] [(0, 1)] []), on (.st 1 (.t 2) (.t 11))])
 .ret)
 .skip))
 (.seq (.reg [oo 12 (.bld [.nils] [(0, 1)] []), oo 3 (.al [.nils]), on (.st 1 (.t 3) (.t 12))])
 (.seq (.seq (.reg [om 13 0, oo 14 (.cl (.c (.fn 102 [])) [(.t 13), (.c (.fn 103 []))]), oo 15 (.lenl (.t 14)), oo 16 (.mv (.c (.j 0)))])
 (.blk 0 (.loop (.seq (.reg [oo 17 (.bin .lss (.t 16) (.t 15))])
 (.seq (.cond (.t 17) .skip
 (.exit 0))
 (.seq (.blk 1 (.seq (.reg [oo 18 (.ia 1 (.t 14) (.t 16)), oo 19 (.ld false 1 (.t 18)), om 5 19])
 (.seq (.reg [om 21 0, om 22 5, oo 23 (.cl (.c (.fn 104 [])) [(.t 21), (.t 22)]), om 20 23, oo 24 (.ext (.t 20) 0), oo 25 (.ext (.t 20) 1), oo 6 (.al [.j 0, .j 0, .j 0, .j 0, .j 0, .j 0, .str [], .str [], .str []]), on (.st 9 (.t 6) (.t 24)), om 7 25])
 (.seq (.reg [om 26 7])
 (.cond (.t 26) (.drw [oo 27 (.fa 0 (.t 3)), oo 28 (.ld false 1 (.t 27)), om 29 0, oo 30 (.ld true 9 (.t 6)), oo 31 (.cl (.c (.fn 105 [])) [(.t 29), (.t 30)]), oo 32 (.bs 5 [.j 0, .str [], .str [], .j 0, .nils] 1 [(0, (.t 31))]), oo 33 (.app 5 72 (.t 28) (.t 32)), oo 34 (.fa 0 (.t 3)), on (.st 1 (.t 34) (.t 33))] [.val [], .val [], .val [], .val [], .chn [0, 1], .chn [0, 1], .chn [], .val [], .chn []])
 .skip)))))
 (.reg [oo 35 (.bin .add (.t 16) (.c (.j 1))), om 16 35])))))))
 (.seq (.reg [oo 36 (.ld true 1 (.t 3)), on (.st 1 (.t 2) (.t 36))])
 .ret)))))
theorem k_impl_StateOf : FnOk Tryz.prog 53 37 rc_impl_StateOf [.cell 2 true 1] := ⟨Tryz.f53, _, [(9, [4])], Tryz.func53, rfl, rfl, by kernel_rfl, by kernel_rfl, follows⟩
theorem ok_impl_StateOf : okF Tryz.prog 53 = true := by kernel_rfl
def rc_impl_ItemsOf : RC :=
 (.seq (.reg [oo 1 (.bx (.t 0)), oo 2 (.mv (.c (.nils)))])
 (.seq (.reg [oo 6 (.mv (.c (.nils))), om 3 6])
 (.seq (.seq (.reg [oo 7 (.fa 3 (.t 1)), oo 8 (.ld false 1 (.t 7)), oo 9 (.lenl (.t 8)), oo 10 (.mv (.c (.j 0)))])
 (.blk 0 (.loop (.seq (.reg [oo 11 (.bin .lss (.t 10) (.t 9))])
 (.seq (.cond (.t 11) .skip
 (.exit 0))
 (.seq (.blk 1 (.seq (.reg [oo 12 (.ia 4 (.t 8) (.t 10)), oo 13 (.ld true 4 (.t 12)), oo 5 (.al [.j 0, .j 0, .j 0, .nils]), on (.st 4 (.t 5) (.t 13))])
 (.reg [om 14 3, oo 15 (.fa 3 (.t 5)), oo 16 (.ld false 1 (.t 15)), oo 17 (.app 9 96 (.t 14) (.t 16)), om 3 17])))
 (.reg [oo 18 (.bin .add (.t 10) (.c (.j 1))), om 10 18])))))))
 (.seq (.reg [om 19 3, om 2 19])
 .ret))))
theorem k_impl_ItemsOf : FnOk Tryz.prog 54 20 rc_impl_ItemsOf [.t 2] := ⟨Tryz.f54, _, [], Tryz.func54, rfl, rfl, by kernel_rfl, by kernel_rfl, follows⟩
theorem ok_impl_ItemsOf : okF Tryz.prog 54 = true := by kernel_rfl
def rc_impl_StateNow : RC :=
 (.seq (.reg [oo 1 (.bx (.t 0)), oo 2 (.al [.nils])])
 (.seq (.reg [oo 3 (.fa 0 (.t 1)), oo 4 (.ld true 8 (.t 3)), oo 5 (.cl (.c (.fn 54 [])) [(.t 4)]), oo 6 (.cl (.c (.fn 53 [])) [(.t 5)]), on (.st 1 (.t 2) (.t 6))])
 .ret))
theorem k_impl_StateNow : FnOk Tryz.prog 20 7 rc_impl_StateNow [.cell 2 true 1] := ⟨Tryz.f20, _, [], Tryz.func20, rfl, rfl, by kernel_rfl, by kernel_rfl, follows⟩
theorem ok_impl_StateNow : okF Tryz.prog 20 = true := by kernel_rfl
def rc_impl_FrameOk : RC :=
 (.seq (.reg [oo 1 (.bx (.t 0)), oo 2 (.mv (.c (.bool false)))])
 (.seq (.reg [oo 3 (.fa 0 (.t 1)), oo 4 (.ld false 1 (.t 3)), oo 5 (.cl (.c (.fn 33 [])) [(.t 4), (.c (.j 1)), (.c (.j 1000000000))]), om 6 5, ⟨(some 7), (some (6, true)), .fa 1 (.t 1)⟩, ⟨(some 8), (some (6, true)), .ld false 1 (.t 7)⟩, ⟨(some 9), (some (6, true)), .cl (.c (.fn 33 [])) [(.t 8), (.c (.j 1)), (.c (.j 1000000000))]⟩, oo 10 (.pick (.t 6) (.t 9) (.c (.bool false))), om 11 10, ⟨(some 12), (some (11, true)), .fa 2 (.t 1)⟩, ⟨(some 13), (some (11, true)), .ld false 1 (.t 12)⟩, ⟨(some 14), (some (11, true)), .lens (.t 13)⟩, ⟨(some 15), (some (11, true)), .cl (.c (.fn 33 [])) [(.t 14), (.c (.j 1)), (.c (.j 180))]⟩, oo 16 (.pick (.t 11) (.t 15) (.c (.bool false))), om 2 16])
 .ret))
theorem k_impl_FrameOk : FnOk Tryz.prog 133 17 rc_impl_FrameOk [.t 2] := ⟨Tryz.f133, _, [], Tryz.func133, rfl, rfl, by kernel_rfl, by kernel_rfl, follows⟩
theorem ok_impl_FrameOk : okF Tryz.prog 133 = true := by kernel_rfl
def rc_impl_varText : RC :=
 (.seq (.reg [oo 2 (.mv (.c (.str [])))])
 (.seq (.reg [oo 4 (.mv (.c (.nils))), om 3 4])
 (.seq (.blk 0 (.loop (.seq (.seq (.reg [om 5 0, oo 6 (.bin .gtr (.t 5) (.c (.j 127)))])
 (.cond (.t 6) .skip
 (.exit 0)))
 (.blk 1 (.seq (.reg [om 7 3, om 8 0, oo 9 (.bin .and (.t 8) (.c (.j 127))), oo 10 (.bin .or (.t 9) (.c (.j 128))), oo 11 (.cvi .u8 (.t 10)), oo 12 (.bs 1 [.int .u8 0] 1 [(0, (.t 11))]), oo 13 (.app 1 1 (.t 7) (.t 12)), om 3 13])
 (.reg [om 14 0, oo 15 (.bin .shr (.t 14) (.c (.int .u64 7))), om 0 15]))))))
 (.seq (.reg [om 16 3, om 17 0, oo 18 (.cvi .u8 (.t 17)), oo 19 (.bs 1 [.int .u8 0] 1 [(0, (.t 18))]), oo 20 (.app 1 1 (.t 16) (.t 19)), oo 21 (.cvb (.t 20)), om 2 21])
 .ret))))
theorem k_impl_varText : FnOk Tryz.prog 135 22 rc_impl_varText [.t 2] := ⟨Tryz.f135, _, [], Tryz.func135, rfl, rfl, by kernel_rfl, by kernel_rfl, follows⟩
theorem ok_impl_varText : okF Tryz.prog 135 = true := by kernel_rfl
def rc_impl_RecText : RC :=
 (.seq (.reg [oo 1 (.bx (.t 0)), oo 2 (.mv (.c (.str []))), oo 3 (.mv (.c (.bool false)))])
 (.seq (.seq (.reg [oo 9 (.ld true 8 (.t 1)), oo 10 (.cl (.c (.fn 157 [])) [(.t 9)]), oo 11 (.un .not (.t 10))])
 (.cond (.t 11) (.seq (.reg [oo 2 (.mv (.c (.str []))), oo 3 (.mv (.c (.bool false)))])
 .ret)
 .skip))
 (.seq (.reg [oo 12 (.fa 0 (.t 1)), oo 13 (.ld false 1 (.t 12)), oo 14 (.cvi .u8 (.t 13)), oo 15 (.bs 1 [.int .u8 0] 1 [(0, (.t 14))]), oo 16 (.cvb (.t 15)), om 4 16])
 (.seq (.seq (.reg [oo 17 (.fa 1 (.t 1)), oo 18 (.ld false 1 (.t 17)), oo 19 (.fa 2 (.t 1)), oo 20 (.ld false 1 (.t 19)), oo 21 (.fa 3 (.t 1)), oo 22 (.ld false 1 (.t 21)), oo 23 (.fa 4 (.t 1)), oo 24 (.ld false 1 (.t 23)), oo 25 (.bs 1 [.j 0] 4 [(0, (.t 18)), (1, (.t 20)), (2, (.t 22)), (3, (.t 24))]), oo 26 (.lenl (.t 25)), oo 27 (.mv (.c (.j 0)))])
 (.blk 0 (.loop (.seq (.reg [oo 28 (.bin .lss (.t 27) (.t 26))])
 (.seq (.cond (.t 28) .skip
 (.exit 0))
 (.seq (.blk 1 (.seq (.reg [oo 29 (.ia 1 (.t 25) (.t 27)), oo 30 (.ld false 1 (.t 29)), om 6 30])
 (.reg [om 31 4, om 32 6, oo 33 (.cl (.c (.fn 135 [])) [(.t 32)]), oo 34 (.bin .add (.t 31) (.t 33)), om 4 34])))
 (.reg [oo 35 (.bin .add (.t 27) (.c (.j 1))), om 27 35])))))))
 (.seq (.seq (.reg [oo 36 (.fa 5 (.t 1)), oo 37 (.ld false 1 (.t 36)), oo 38 (.fa 6 (.t 1)), oo 39 (.ld false 1 (.t 38)), oo 40 (.fa 7 (.t 1)), oo 41 (.ld false 1 (.t 40)), oo 42 (.bs 1 [.str []] 3 [(0, (.t 37)), (1, (.t 39)), (2, (.t 41))]), oo 43 (.lenl (.t 42)), oo 44 (.mv (.c (.j 0)))])
 (.blk 2 (.loop (.seq (.reg [oo 45 (.bin .lss (.t 44) (.t 43))])
 (.seq (.cond (.t 45) .skip
 (.exit 2))
 (.seq (.blk 3 (.seq (.reg [oo 46 (.ia 1 (.t 42) (.t 44)), oo 47 (.ld false 1 (.t 46)), om 8 47])
 (.reg [om 48 4, om 49 8, oo 50 (.lens (.t 49)), oo 51 (.cl (.c (.fn 135 [])) [(.t 50)]), om 52 8, oo 53 (.bin .add (.t 51) (.t 52)), oo 54 (.bin .add (.t 48) (.t 53)), om 4 54])))
 (.reg [oo 55 (.bin .add (.t 44) (.c (.j 1))), om 44 55])))))))
 (.seq (.reg [om 56 4, om 2 56, oo 3 (.mv (.c (.bool true)))])
 .ret))))))
theorem k_impl_RecText : FnOk Tryz.prog 178 57 rc_impl_RecText [.t 2, .t 3] := ⟨Tryz.f178, _, [], Tryz.func178, rfl, rfl, by kernel_rfl, by kernel_rfl, follows⟩
theorem ok_impl_RecText : okF Tryz.prog 178 = true := by kernel_rfl
def rc_impl_ItemFrame : RC :=
 (.seq (.reg [oo 2 (.bx (.t 0)), oo 4 (.al [.j 0, .j 0, .str []]), oo 5 (.mv (.c (.bool false)))])
 (.seq (.reg [oo 10 (.fa 1 (.t 2)), oo 11 (.ld true 8 (.t 10)), oo 12 (.cl (.c (.fn 178 [])) [(.t 11)]), om 9 12, oo 13 (.ext (.t 9) 0), oo 14 (.ext (.t 9) 1), om 6 13, om 7 14])
 (.seq (.reg [om 15 1, oo 16 (.fa 0 (.t 2)), oo 17 (.ld false 1 (.t 16)), om 18 6, oo 19 (.bld [.j 0, .j 0, .str []] [(0, 1), (1, 1), (2, 1)] [(0, (.t 15)), (1, (.t 17)), (2, (.t 18))]), oo 8 (.al [.j 0, .j 0, .str []]), on (.st 3 (.t 8) (.t 19))])
 (.seq (.seq (.reg [om 20 7, oo 21 (.un .not (.t 20)), om 22 21, ⟨(some 23), (some (22, false)), .ld true 3 (.t 8)⟩, ⟨(some 24), (some (22, false)), .cl (.c (.fn 133 [])) [(.t 23)]⟩, ⟨(some 25), (some (22, false)), .un .not (.t 24)⟩, oo 26 (.pick (.t 22) (.c (.bool true)) (.t 25))])
 (.cond (.t 26) (.seq (.reg [oo 27 (.bld [.j 0, .j 0, .str []] [(0, 1), (1, 1), (2, 1)] []), on (.st 3 (.t 4) (.t 27)), oo 5 (.mv (.c (.bool false)))])
 .ret)
 .skip))
 (.seq (.reg [oo 28 (.ld true 3 (.t 8)), on (.st 3 (.t 4) (.t 28)), oo 5 (.mv (.c (.bool true)))])
 .ret)))))
theorem k_impl_ItemFrame : FnOk Tryz.prog 114 29 rc_impl_ItemFrame [.cell 4 true 3, .t 5] := ⟨Tryz.f114, _, [], Tryz.func114, rfl, rfl, by kernel_rfl, by kernel_rfl, follows⟩
theorem ok_impl_ItemFrame : okF Tryz.prog 114 = true := by kernel_rfl
def rc_impl_SumMore : RC :=
 (.seq (.reg [oo 4 (.mv (.c (.int .u32 0)))])
 (.seq (.seq (.reg [om 7 1, oo 8 (.lens (.t 7)), oo 9 (.mv (.c (.j 0)))])
 (.blk 0 (.loop (.seq (.reg [oo 10 (.bin .lss (.t 9) (.t 8))])
 (.seq (.cond (.t 10) .skip
 (.exit 0))
 (.seq (.blk 1 (.seq (.reg [om 11 9, om 5 11])
 (.seq (.reg [om 12 0, om 13 1, om 14 5, oo 15 (.idx (.t 13) (.t 14)), oo 16 (.cvi .u32 (.t 15)), oo 17 (.bin .xor (.t 12) (.t 16)), om 0 17])
 (.seq (.reg [oo 18 (.mv (.c (.j 0)))])
 (.blk 2 (.loop (.seq (.reg [oo 19 (.bin .lss (.t 18) (.c (.j 8)))])
 (.seq (.cond (.t 19) .skip
 (.exit 2))
 (.seq (.blk 3 (.seq (.reg [om 20 0, oo 21 (.bin .and (.t 20) (.c (.int .u32 1))), oo 22 (.bin .eql (.t 21) (.c (.int .u32 1))), om 6 22])
 (.seq (.reg [om 23 0, oo 24 (.bin .shr (.t 23) (.c (.int .u64 1))), om 0 24])
 (.seq (.reg [om 25 6])
 (.cond (.t 25) (.reg [om 26 0, oo 27 (.bin .xor (.t 26) (.c (.int .u32 3558460437))), om 0 27])
 .skip)))))
 (.reg [oo 28 (.bin .add (.t 18) (.c (.j 1))), om 18 28]))))))))))
 (.reg [oo 29 (.bin .add (.t 9) (.c (.j 1))), om 9 29])))))))
 (.seq (.reg [om 30 0, om 4 30])
 .ret)))
theorem k_impl_SumMore : FnOk Tryz.prog 212 31 rc_impl_SumMore [.t 4] := ⟨Tryz.f212, _, [], Tryz.func212, rfl, rfl, by kernel_rfl, by kernel_rfl, follows⟩
theorem ok_impl_SumMore : okF Tryz.prog 212 = true := by kernel_rfl
def rc_impl_SumOf : RC :=
 (.seq (.reg [oo 2 (.mv (.c (.int .u32 0)))])
 (.seq (.reg [om 3 0, oo 4 (.cl (.c (.fn 212 [])) [(.c (.int .u32 4294967295)), (.t 3)]), om 2 4])
 .ret))
theorem k_impl_SumOf : FnOk Tryz.prog 189 5 rc_impl_SumOf [.t 2] := ⟨Tryz.f189, _, [], Tryz.func189, rfl, rfl, by kernel_rfl, by kernel_rfl, follows⟩
theorem ok_impl_SumOf : okF Tryz.prog 189 = true := by kernel_rfl
def rc_impl_seal : RC :=
 (.seq (.reg [oo 2 (.mv (.c (.str [])))])
 (.seq (.reg [om 4 0, oo 5 (.cl (.c (.fn 189 [])) [(.t 4)]), om 3 5])
 (.seq (.reg [om 6 3, oo 7 (.bin .shr (.t 6) (.c (.int .u64 24))), oo 8 (.cvi .u8 (.t 7)), om 9 3, oo 10 (.bin .shr (.t 9) (.c (.int .u64 16))), oo 11 (.cvi .u8 (.t 10)), om 12 3, oo 13 (.bin .shr (.t 12) (.c (.int .u64 8))), oo 14 (.cvi .u8 (.t 13)), om 15 3, oo 16 (.cvi .u8 (.t 15)), oo 17 (.bs 1 [.int .u8 0] 4 [(0, (.t 8)), (1, (.t 11)), (2, (.t 14)), (3, (.t 16))]), oo 18 (.cvb (.t 17)), om 2 18])
 .ret)))
theorem k_impl_seal : FnOk Tryz.prog 139 19 rc_impl_seal [.t 2] := ⟨Tryz.f139, _, [], Tryz.func139, rfl, rfl, by kernel_rfl, by kernel_rfl, follows⟩
theorem ok_impl_seal : okF Tryz.prog 139 = true := by kernel_rfl
def rc_impl_Sealed : RC :=
 (.seq (.reg [oo 2 (.mv (.c (.str []))), oo 3 (.mv (.c (.bool false)))])
 (.seq (.seq (.reg [om 4 0, oo 5 (.lens (.t 4)), oo 6 (.bin .gtr (.t 5) (.c (.j 20000)))])
 (.cond (.t 6) (.seq (.reg [oo 2 (.mv (.c (.str []))), oo 3 (.mv (.c (.bool false)))])
 .ret)
 .skip))
 (.seq (.reg [om 7 0, om 8 0, oo 9 (.cl (.c (.fn 139 [])) [(.t 8)]), oo 10 (.bin .add (.t 7) (.t 9)), om 2 10, oo 3 (.mv (.c (.bool true)))])
 .ret)))
theorem k_impl_Sealed : FnOk Tryz.prog 134 11 rc_impl_Sealed [.t 2, .t 3] := ⟨Tryz.f134, _, [], Tryz.func134, rfl, rfl, by kernel_rfl, by kernel_rfl, follows⟩
theorem ok_impl_Sealed : okF Tryz.prog 134 = true := by kernel_rfl
def rc_impl_FrameText : RC :=
 (.seq (.reg [oo 1 (.bx (.t 0)), oo 2 (.mv (.c (.str []))), oo 3 (.mv (.c (.bool false)))])
 (.seq (.seq (.reg [oo 4 (.ld true 3 (.t 1)), oo 5 (.cl (.c (.fn 133 [])) [(.t 4)]), oo 6 (.un .not (.t 5))])
 (.cond (.t 6) (.seq (.reg [oo 2 (.mv (.c (.str []))), oo 3 (.mv (.c (.bool false)))])
 .ret)
 .skip))
 (.seq (.drw [oo 7 (.fa 0 (.t 1)), oo 8 (.ld false 1 (.t 7)), oo 9 (.cl (.c (.fn 135 [])) [(.t 8)]), oo 10 (.fa 1 (.t 1)), oo 11 (.ld false 1 (.t 10)), oo 12 (.cl (.c (.fn 135 [])) [(.t 11)]), oo 13 (.bin .add (.t 9) (.t 12)), oo 14 (.fa 2 (.t 1)), oo 15 (.ld false 1 (.t 14)), oo 16 (.lens (.t 15)), oo 17 (.cl (.c (.fn 135 [])) [(.t 16)]), oo 18 (.bin .add (.t 13) (.t 17)), oo 19 (.fa 2 (.t 1)), oo 20 (.ld false 1 (.t 19)), oo 21 (.bin .add (.t 18) (.t 20)), oo 22 (.cl (.c (.fn 134 [])) [(.t 21)]), oo 23 (.ext (.t 22) 0), oo 24 (.ext (.t 22) 1), om 2 23, om 3 24] [.val [], .val [], .val [], .val [], .val [], .val [], .val [], .val [], .val [], .val [], .val [], .val [], .val [], .val [], .val [], .val [], .val [], .val [], .val [], .val []])
 .ret)))
theorem k_impl_FrameText : FnOk Tryz.prog 73 25 rc_impl_FrameText [.t 2, .t 3] := ⟨Tryz.f73, _, [], Tryz.func73, rfl, rfl, by kernel_rfl, by kernel_rfl, follows⟩
theorem ok_impl_FrameText : okF Tryz.prog 73 = true := by kernel_rfl
def rc_impl_FrameSize : RC :=
 (.seq (.reg [oo 1 (.bx (.t 0)), oo 2 (.mv (.c (.j 0)))])
 (.seq (.reg [oo 6 (.ld true 3 (.t 1)), oo 7 (.cl (.c (.fn 73 [])) [(.t 6)]), om 5 7, oo 8 (.ext (.t 5) 0), oo 9 (.ext (.t 5) 1), om 3 8, om 4 9])
 (.seq (.reg [om 10 3, oo 11 (.lens (.t 10)), om 2 11])
 .ret)))
theorem k_impl_FrameSize : FnOk Tryz.prog 115 12 rc_impl_FrameSize [.t 2] := ⟨Tryz.f115, _, [], Tryz.func115, rfl, rfl, by kernel_rfl, by kernel_rfl, follows⟩
theorem ok_impl_FrameSize : okF Tryz.prog 115 = true := by kernel_rfl
def rc_slices_Index_int : RC :=
 (.seq (.reg [oo 4 (.mv (.c (.j 0)))])
 (.seq (.seq (.reg [om 6 0, oo 7 (.lenl (.t 6)), oo 8 (.mv (.c (.j 0)))])
 (.blk 0 (.loop (.seq (.reg [oo 9 (.bin .lss (.t 8) (.t 7))])
 (.seq (.cond (.t 9) .skip
 (.exit 0))
 (.seq (.blk 1 (.seq (.reg [om 10 8, om 5 10])
 (.seq (.reg [om 11 1, om 12 0, om 13 5, oo 14 (.ia 1 (.t 12) (.t 13)), oo 15 (.ld false 1 (.t 14)), oo 16 (.bin .eql (.t 11) (.t 15))])
 (.cond (.t 16) (.seq (.reg [om 17 5, om 4 17])
 .ret)
 .skip))))
 (.reg [oo 18 (.bin .add (.t 8) (.c (.j 1))), om 8 18])))))))
 (.seq (.reg [oo 4 (.mv (.c (.j (-1))))])
 .ret)))
theorem k_slices_Index_int : FnOk Tryz.prog 238 19 rc_slices_Index_int [.t 4] := ⟨Tryz.f238, _, [], Tryz.func238, rfl, rfl, by kernel_rfl, by kernel_rfl, follows⟩
theorem ok_slices_Index_int : okF Tryz.prog 238 = true := by kernel_rfl
def rc_slices_Contains_int : RC :=
 (.seq (.reg [oo 4 (.mv (.c (.bool false)))])
 (.seq (.reg [om 5 0, om 6 1, oo 7 (.cl (.c (.fn 238 [])) [(.t 5), (.t 6)]), oo 8 (.bin .geq (.t 7) (.c (.j 0))), om 4 8])
 .ret))
theorem k_slices_Contains_int : FnOk Tryz.prog 230 9 rc_slices_Contains_int [.t 4] := ⟨Tryz.f230, _, [], Tryz.func230, rfl, rfl, by kernel_rfl, by kernel_rfl, follows⟩
theorem ok_slices_Contains_int : okF Tryz.prog 230 = true := by kernel_rfl
def rc_impl_isFreed : RC :=
 (.seq (.reg [oo 2 (.bx (.t 0)), oo 4 (.mv (.c (.bool false)))])
 (.seq (.reg [oo 5 (.fa 8 (.t 2)), oo 6 (.ld false 1 (.t 5)), om 7 1, oo 8 (.cl (.c (.fn 230 [])) [(.t 6), (.t 7)]), om 4 8])
 .ret))
theorem k_impl_isFreed : FnOk Tryz.prog 205 9 rc_impl_isFreed [.t 4] := ⟨Tryz.f205, _, [], Tryz.func205, rfl, rfl, by kernel_rfl, by kernel_rfl, follows⟩
theorem ok_impl_isFreed : okF Tryz.prog 205 = true := by kernel_rfl
def rc_impl_segAt : RC :=
 (.seq (.reg [oo 2 (.bx (.t 0)), oo 4 (.mv (.c (.bool false)))])
 (.seq (.drw [om 5 1, oo 6 (.fa 0 (.t 2)), oo 7 (.fa 3 (.t 6)), oo 8 (.ld false 1 (.t 7)), oo 9 (.lenl (.t 8)), oo 10 (.bin .sub (.t 9) (.c (.j 1))), oo 11 (.cl (.c (.fn 33 [])) [(.t 5), (.c (.j 0)), (.t 10)]), om 12 11, ⟨(some 13), (some (12, true)), .ld true 9 (.t 2)⟩, ⟨(some 14), (some (12, true)), .fa 0 (.t 2)⟩, ⟨(some 15), (some (12, true)), .fa 3 (.t 14)⟩, ⟨(some 16), (some (12, true)), .ld false 1 (.t 15)⟩, ⟨(some 17), (some (12, true)), .mv (.t 1)⟩, ⟨(some 18), (some (12, true)), .ia 4 (.t 16) (.t 17)⟩, ⟨(some 19), (some (12, true)), .fa 0 (.t 18)⟩, ⟨(some 20), (some (12, true)), .ld false 1 (.t 19)⟩, ⟨(some 21), (some (12, true)), .cl (.c (.fn 205 [])) [(.t 13), (.t 20)]⟩, ⟨(some 22), (some (12, true)), .un .not (.t 21)⟩, oo 23 (.pick (.t 12) (.t 22) (.c (.bool false))), om 4 23] [.val [], .val [], .val [], .val [], .val [], .val [], .val [], .val [], .val [], .val [], .val [], .val [], .val [], .val [], .val [], .val [], .val [], .val [], .val [], .val []])
 .ret))
theorem k_impl_segAt : FnOk Tryz.prog 176 24 rc_impl_segAt [.t 4] := ⟨Tryz.f176, _, [], Tryz.func176, rfl, rfl, by kernel_rfl, by kernel_rfl, follows⟩
theorem ok_impl_segAt : okF Tryz.prog 176 = true := by kernel_rfl
def rc_impl_needed_1 : RC :=
 (.seq (.reg [oo 2 (.bx (.t 0)), oo 3 (.mv (.c (.bool false)))])
 (.seq (.reg [oo 4 (.fa 0 (.t 2)), oo 5 (.ld false 1 (.t 4)), oo 6 (.fa 0 (.t 1)), oo 7 (.ld false 1 (.t 6)), oo 8 (.bin .eql (.t 5) (.t 7)), om 3 8])
 .ret))
theorem k_impl_needed_1 : FnOk Tryz.prog 239 9 rc_impl_needed_1 [.t 3] := ⟨Tryz.f239, _, [], Tryz.func239, rfl, rfl, by kernel_rfl, by kernel_rfl, follows⟩
theorem ok_impl_needed_1 : okF Tryz.prog 239 = true := by kernel_rfl
def rc_impl_needed_2 : RC :=
 (.seq (.reg [oo 2 (.bx (.t 0)), oo 3 (.mv (.c (.bool false)))])
 (.seq (.reg [oo 4 (.fa 1 (.t 2)), oo 5 (.fa 1 (.t 4)), oo 6 (.ld false 1 (.t 5)), oo 7 (.fa 1 (.t 1)), oo 8 (.ld false 1 (.t 7)), oo 9 (.bin .eql (.t 6) (.t 8)), om 10 9, ⟨(some 11), (some (10, true)), .fa 1 (.t 2)⟩, ⟨(some 12), (some (10, true)), .fa 0 (.t 11)⟩, ⟨(some 13), (some (10, true)), .ld false 1 (.t 12)⟩, ⟨(some 14), (some (10, true)), .bin .neq (.t 13) (.c (.j 2))⟩, oo 15 (.pick (.t 10) (.t 14) (.c (.bool false))), om 3 15])
 .ret))
theorem k_impl_needed_2 : FnOk Tryz.prog 240 16 rc_impl_needed_2 [.t 3] := ⟨Tryz.f240, _, [], Tryz.func240, rfl, rfl, by kernel_rfl, by kernel_rfl, follows⟩
theorem ok_impl_needed_2 : okF Tryz.prog 240 = true := by kernel_rfl
def rc_impl_needed_3 : RC :=
 (.seq (.reg [oo 2 (.bx (.t 0)), oo 3 (.mv (.c (.bool false)))])
 (.seq (.reg [oo 4 (.ld true 8 (.t 2)), oo 5 (.fa 1 (.t 1)), oo 6 (.ld false 1 (.t 5)), oo 7 (.cl (.c (.fn 164 [])) [(.t 4), (.c (.j 2)), (.t 6)]), om 3 7])
 .ret))
theorem k_impl_needed_3 : FnOk Tryz.prog 241 8 rc_impl_needed_3 [.t 3] := ⟨Tryz.f241, _, [], Tryz.func241, rfl, rfl, by kernel_rfl, by kernel_rfl, follows⟩
theorem ok_impl_needed_3 : okF Tryz.prog 241 = true := by kernel_rfl
def rc_impl_needed : RC :=
 (.seq (.reg [oo 4 (.mv (.c (.bool false)))])
 (.seq (.reg [om 15 0, om 16 1, oo 17 (.ia 9 (.t 15) (.t 16)), oo 18 (.ld true 9 (.t 17)), oo 5 (.al [.j 0, .j 0, .j 0, .j 0, .j 0, .j 0, .str [], .str [], .str []]), on (.st 9 (.t 5) (.t 18))])
 (.seq (.seq (.reg [om 19 0, om 20 1, oo 21 (.sle 9 (.t 19) none (some (.t 20))), oo 22 (.mkf 239 [(.t 5)]), oo 23 (.cl (.c (.fn 158 [])) [(.t 21), (.t 22)])])
 (.cond (.t 23) (.seq (.reg [oo 4 (.mv (.c (.bool false)))])
 .ret)
 .skip))
 (.seq (.reg [oo 24 (.fa 1 (.t 5)), oo 25 (.ld true 8 (.t 24)), oo 6 (.al [.j 0, .j 0, .j 0, .j 0, .j 0, .str [], .str [], .str []]), on (.st 8 (.t 6) (.t 25))])
 (.seq (.reg [oo 26 (.bld [.j 0, .j 0, .j 0, .j 0, .j 0, .j 0, .str [], .str [], .str []] [(0, 1), (1, 8)] []), oo 7 (.al [.j 0, .j 0, .j 0, .j 0, .j 0, .j 0, .str [], .str [], .str []]), on (.st 9 (.t 7) (.t 26)), oo 8 (.mv (.c (.bool false)))])
 (.seq (.seq (.reg [oo 27 (.fa 0 (.t 6)), oo 28 (.ld false 1 (.t 27))])
 (.blk 0 (.seq (.reg [oo 30 (.bin .eql (.t 28) (.c (.j 1))), om 29 30])
 (.cond (.t 29) (.reg [om 32 0, oo 33 (.fa 1 (.t 6)), oo 34 (.ld false 1 (.t 33)), oo 35 (.cl (.c (.fn 104 [])) [(.t 32), (.t 34)]), om 31 35, oo 36 (.ext (.t 31) 0), oo 37 (.ext (.t 31) 1), on (.st 9 (.t 7) (.t 36)), om 8 37])
 (.seq (.reg [oo 39 (.bin .eql (.t 28) (.c (.j 2))), om 38 39])
 (.cond (.t 38) (.seq (.seq (.reg [om 40 0, oo 41 (.mkf 240 [(.t 6)]), oo 42 (.cl (.c (.fn 158 [])) [(.t 40), (.t 41)]), oo 43 (.un .not (.t 42))])
 (.cond (.t 43) (.seq (.reg [oo 4 (.mv (.c (.bool false)))])
 .ret)
 .skip))
 (.reg [om 45 0, oo 46 (.mkf 241 [(.t 6)]), oo 47 (.cl (.c (.fn 162 [])) [(.t 45), (.t 46), (.c (.fn 165 []))]), om 44 47, oo 48 (.ext (.t 44) 0), oo 49 (.ext (.t 44) 1), on (.st 9 (.t 7) (.t 48)), om 8 49]))
 (.seq (.seq (.reg [oo 51 (.bin .eql (.t 28) (.c (.j 3))), om 50 51])
 (.cond (.t 50) .skip
 (.reg [oo 52 (.bin .eql (.t 28) (.c (.j 4))), om 50 52])))
 (.cond (.t 50) (.seq (.seq (.reg [om 54 0, oo 55 (.fa 1 (.t 6)), oo 56 (.ld false 1 (.t 55)), oo 57 (.fa 2 (.t 6)), oo 58 (.ld false 1 (.t 57)), oo 59 (.cl (.c (.fn 169 [])) [(.t 54), (.t 56), (.t 58)]), om 53 59, oo 60 (.ext (.t 53) 0), oo 61 (.ext (.t 53) 1), oo 9 (.al [.j 0, .j 0, .j 0, .j 0, .j 0, .j 0, .str [], .str [], .str []]), on (.st 9 (.t 9) (.t 60)), om 10 61])
 (.seq (.reg [om 62 10, oo 63 (.un .not (.t 62))])
 (.cond (.t 63) (.seq (.reg [oo 4 (.mv (.c (.bool false)))])
 .ret)
 .skip)))
 (.reg [om 65 0, oo 66 (.fa 0 (.t 6)), oo 67 (.ld false 1 (.t 66)), oo 68 (.fa 1 (.t 6)), oo 69 (.ld false 1 (.t 68)), oo 70 (.fa 2 (.t 6)), oo 71 (.ld false 1 (.t 70)), oo 72 (.cl (.c (.fn 170 [])) [(.t 65), (.t 67), (.t 69), (.t 71)]), om 64 72, oo 73 (.ext (.t 64) 0), oo 74 (.ext (.t 64) 1), on (.st 9 (.t 7) (.t 73)), om 8 74]))
 (.seq (.reg [oo 76 (.bin .eql (.t 28) (.c (.j 5))), om 75 76])
 (.cond (.t 75) (.seq (.reg [om 78 0, oo 79 (.fa 1 (.t 6)), oo 80 (.ld false 1 (.t 79)), oo 81 (.cl (.c (.fn 104 [])) [(.t 78), (.t 80)]), om 77 81, oo 82 (.ext (.t 77) 0), oo 83 (.ext (.t 77) 1), oo 11 (.al [.j 0, .j 0, .j 0, .j 0, .j 0, .j 0, .str [], .str [], .str []]), on (.st 9 (.t 11) (.t 82)), om 12 83])
 (.seq (.reg [om 85 0, oo 86 (.fa 1 (.t 6)), oo 87 (.ld false 1 (.t 86)), oo 88 (.fa 2 (.t 6)), oo 89 (.ld false 1 (.t 88)), oo 90 (.cl (.c (.fn 170 [])) [(.t 85), (.c (.j 3)), (.t 87), (.t 89)]), om 84 90, oo 91 (.ext (.t 84) 0), oo 92 (.ext (.t 84) 1), oo 13 (.al [.j 0, .j 0, .j 0, .j 0, .j 0, .j 0, .str [], .str [], .str []]), on (.st 9 (.t 13) (.t 91)), om 14 92])
 (.seq (.seq (.reg [om 93 12, oo 94 (.un .not (.t 93)), om 95 94, ⟨(some 96), (some (95, false)), .mv (.t 14)⟩, ⟨(some 97), (some (95, false)), .un .not (.t 96)⟩, oo 98 (.pick (.t 95) (.c (.bool true)) (.t 97))])
 (.cond (.t 98) (.seq (.reg [oo 4 (.mv (.c (.bool false)))])
 .ret)
 .skip))
 (.reg [om 100 0, oo 101 (.fa 1 (.t 6)), oo 102 (.ld false 1 (.t 101)), oo 103 (.fa 2 (.t 6)), oo 104 (.ld false 1 (.t 103)), oo 105 (.cl (.c (.fn 170 [])) [(.t 100), (.c (.j 5)), (.t 102), (.t 104)]), om 99 105, oo 106 (.ext (.t 99) 0), oo 107 (.ext (.t 99) 1), on (.st 9 (.t 7) (.t 106)), om 8 107]))))
 .skip))))))))))
 (.seq (.reg [om 108 8, om 109 108, ⟨(some 110), (some (109, true)), .ld true 9 (.t 7)⟩, ⟨(some 111), (some (109, true)), .ld true 9 (.t 5)⟩, ⟨(some 112), (some (109, true)), .equ false [(0, 1), (1, 1), (2, 1), (3, 1), (4, 1), (5, 1), (6, 2), (7, 2), (8, 2)] (.t 110) (.t 111)⟩, oo 113 (.pick (.t 109) (.t 112) (.c (.bool false))), om 4 113])
 .ret)))))))
theorem k_impl_needed : FnOk Tryz.prog 231 114 rc_impl_needed [.t 4] := ⟨Tryz.f231, _, [], Tryz.func231, rfl, rfl, by kernel_rfl, by kernel_rfl, follows⟩
theorem ok_impl_needed : okF Tryz.prog 231 = true := by kernel_rfl
def rc_impl_NeededAll : RC :=
 (.seq (.reg [oo 2 (.mv (.c (.nils)))])
 (.seq (.reg [om 6 0, oo 7 (.cl (.c (.fn 101 [])) [(.t 6)]), om 3 7])
 (.seq (.reg [oo 8 (.mv (.c (.nils))), om 4 8])
 (.seq (.seq (.reg [om 9 0, oo 10 (.lenl (.t 9)), oo 11 (.mv (.c (.j 0)))])
 (.blk 0 (.loop (.seq (.reg [oo 12 (.bin .lss (.t 11) (.t 10))])
 (.seq (.cond (.t 12) .skip
 (.exit 0))
 (.seq (.blk 1 (.seq (.reg [om 13 11, om 5 13])
 (.reg [om 14 4, om 15 3, om 16 15, ⟨(some 17), (some (16, true)), .mv (.t 0)⟩, ⟨(some 18), (some (16, true)), .mv (.t 5)⟩, ⟨(some 19), (some (16, true)), .cl (.c (.fn 231 [])) [(.t 17), (.t 18)]⟩, oo 20 (.pick (.t 16) (.t 19) (.c (.bool false))), oo 21 (.bs 1 [.bool false] 1 [(0, (.t 20))]), oo 22 (.app 1 1 (.t 14) (.t 21)), om 4 22])))
 (.reg [oo 23 (.bin .add (.t 11) (.c (.j 1))), om 11 23])))))))
 (.seq (.reg [om 24 4, om 2 24])
 .ret)))))
theorem k_impl_NeededAll : FnOk Tryz.prog 206 25 rc_impl_NeededAll [.t 2] := ⟨Tryz.f206, _, [], Tryz.func206, rfl, rfl, by kernel_rfl, by kernel_rfl, follows⟩
theorem ok_impl_NeededAll : okF Tryz.prog 206 = true := by kernel_rfl
def rc_impl_keptItems : RC :=
 (.seq (.reg [oo 1 (.bx (.t 0)), oo 2 (.mv (.c (.nils)))])
 (.seq (.reg [oo 6 (.mv (.c (.nils))), om 3 6])
 (.seq (.seq (.reg [oo 7 (.fa 0 (.t 1)), oo 8 (.fa 3 (.t 7)), oo 9 (.ld false 1 (.t 8)), oo 10 (.lenl (.t 9)), oo 11 (.mv (.c (.j 0)))])
 (.blk 0 (.loop (.seq (.reg [oo 12 (.bin .lss (.t 11) (.t 10))])
 (.seq (.cond (.t 12) .skip
 (.exit 0))
 (.seq (.blk 1 (.seq (.reg [oo 13 (.ia 4 (.t 9) (.t 11)), oo 14 (.ld true 4 (.t 13)), oo 5 (.al [.j 0, .j 0, .j 0, .nils]), on (.st 4 (.t 5) (.t 14))])
 (.seq (.reg [oo 15 (.ld true 9 (.t 1)), oo 16 (.fa 0 (.t 5)), oo 17 (.ld false 1 (.t 16)), oo 18 (.cl (.c (.fn 205 [])) [(.t 15), (.t 17)]), oo 19 (.un .not (.t 18))])
 (.cond (.t 19) (.reg [om 20 3, oo 21 (.fa 3 (.t 5)), oo 22 (.ld false 1 (.t 21)), oo 23 (.app 9 96 (.t 20) (.t 22)), om 3 23])
 .skip))))
 (.reg [oo 24 (.bin .add (.t 11) (.c (.j 1))), om 11 24])))))))
 (.seq (.reg [om 25 3, om 2 25])
 .ret))))
theorem k_impl_keptItems : FnOk Tryz.prog 207 26 rc_impl_keptItems [.t 2] := ⟨Tryz.f207, _, [], Tryz.func207, rfl, rfl, by kernel_rfl, by kernel_rfl, follows⟩
theorem ok_impl_keptItems : okF Tryz.prog 207 = true := by kernel_rfl
def rc_impl_liveOf : RC :=
 (.seq (.reg [oo 2 (.bx (.t 0)), oo 4 (.mv (.c (.nils)))])
 (.seq (.reg [oo 5 (.mv (.c (.j 0)))])
 (.seq (.seq (.reg [oo 11 (.fa 0 (.t 2)), oo 12 (.fa 3 (.t 11)), oo 13 (.ld false 1 (.t 12)), om 14 1, oo 15 (.sle 4 (.t 13) none (some (.t 14))), oo 16 (.lenl (.t 15)), oo 17 (.mv (.c (.j 0)))])
 (.blk 0 (.loop (.seq (.reg [oo 18 (.bin .lss (.t 17) (.t 16))])
 (.seq (.cond (.t 18) .skip
 (.exit 0))
 (.seq (.blk 1 (.seq (.reg [oo 19 (.ia 4 (.t 15) (.t 17)), oo 20 (.ld true 4 (.t 19)), oo 7 (.al [.j 0, .j 0, .j 0, .nils]), on (.st 4 (.t 7) (.t 20))])
 (.seq (.reg [oo 21 (.ld true 9 (.t 2)), oo 22 (.fa 0 (.t 7)), oo 23 (.ld false 1 (.t 22)), oo 24 (.cl (.c (.fn 205 [])) [(.t 21), (.t 23)]), oo 25 (.un .not (.t 24))])
 (.cond (.t 25) (.reg [om 26 5, oo 27 (.fa 3 (.t 7)), oo 28 (.ld false 1 (.t 27)), oo 29 (.lenl (.t 28)), oo 30 (.bin .add (.t 26) (.t 29)), om 5 30])
 .skip))))
 (.reg [oo 31 (.bin .add (.t 17) (.c (.j 1))), om 17 31])))))))
 (.seq (.reg [oo 32 (.ld true 9 (.t 2)), oo 33 (.cl (.c (.fn 207 [])) [(.t 32)]), oo 34 (.cl (.c (.fn 206 [])) [(.t 33)]), om 8 34])
 (.seq (.reg [oo 35 (.mv (.c (.nils))), om 9 35])
 (.seq (.seq (.reg [oo 36 (.fa 0 (.t 2)), oo 37 (.fa 3 (.t 36)), oo 38 (.ld false 1 (.t 37)), om 39 1, oo 40 (.ia 4 (.t 38) (.t 39)), oo 41 (.fa 3 (.t 40)), oo 42 (.ld false 1 (.t 41)), oo 43 (.lenl (.t 42)), oo 44 (.mv (.c (.j 0)))])
 (.blk 2 (.loop (.seq (.reg [oo 45 (.bin .lss (.t 44) (.t 43))])
 (.seq (.cond (.t 45) .skip
 (.exit 2))
 (.seq (.blk 3 (.seq (.reg [om 46 44, om 10 46])
 (.seq (.reg [om 47 8, om 48 5, om 49 10, oo 50 (.bin .add (.t 48) (.t 49)), oo 51 (.ia 1 (.t 47) (.t 50)), oo 52 (.ld false 1 (.t 51))])
 (.cond (.t 52) (.reg [om 53 9, om 54 10, oo 55 (.bs 1 [.j 0] 1 [(0, (.t 54))]), oo 56 (.app 1 8 (.t 53) (.t 55)), om 9 56])
 .skip))))
 (.reg [oo 57 (.bin .add (.t 44) (.c (.j 1))), om 44 57])))))))
 (.seq (.reg [om 58 9, om 4 58])
 .ret)))))))
theorem k_impl_liveOf : FnOk Tryz.prog 177 59 rc_impl_liveOf [.t 4] := ⟨Tryz.f177, _, [], Tryz.func177, rfl, rfl, by kernel_rfl, by kernel_rfl, follows⟩
theorem ok_impl_liveOf : okF Tryz.prog 177 = true := by kernel_rfl
def rc_impl_LiveOf : RC :=
 (.seq (.reg [oo 2 (.bx (.t 0)), oo 4 (.mv (.c (.j 0)))])
 (.seq (.seq (.reg [oo 11 (.ld true 9 (.t 2)), om 12 1, oo 13 (.cl (.c (.fn 176 [])) [(.t 11), (.t 12)]), oo 14 (.un .not (.t 13))])
 (.cond (.t 14) (.seq (.reg [oo 4 (.mv (.c (.j 0)))])
 .ret)
 .skip))
 (.seq (.reg [oo 15 (.fa 0 (.t 2)), oo 16 (.fa 3 (.t 15)), oo 17 (.ld false 1 (.t 16)), om 18 1, oo 19 (.ia 4 (.t 17) (.t 18)), oo 20 (.ld true 4 (.t 19)), oo 5 (.al [.j 0, .j 0, .j 0, .nils]), on (.st 4 (.t 5) (.t 20))])
 (.seq (.reg [oo 6 (.mv (.c (.j 0)))])
 (.seq (.seq (.reg [oo 21 (.ld true 9 (.t 2)), om 22 1, oo 23 (.cl (.c (.fn 177 [])) [(.t 21), (.t 22)]), oo 24 (.lenl (.t 23)), oo 25 (.mv (.c (.j 0)))])
 (.blk 0 (.loop (.seq (.reg [oo 26 (.bin .lss (.t 25) (.t 24))])
 (.seq (.cond (.t 26) .skip
 (.exit 0))
 (.seq (.blk 1 (.seq (.reg [oo 27 (.ia 1 (.t 23) (.t 25)), oo 28 (.ld false 1 (.t 27)), om 8 28])
 (.seq (.drw [oo 30 (.fa 3 (.t 5)), oo 31 (.ld false 1 (.t 30)), om 32 8, oo 33 (.ia 9 (.t 31) (.t 32)), oo 34 (.ld true 9 (.t 33)), oo 35 (.fa 1 (.t 5)), oo 36 (.ld false 1 (.t 35)), oo 37 (.cl (.c (.fn 114 [])) [(.t 34), (.t 36)]), om 29 37, oo 38 (.ext (.t 29) 0), oo 39 (.ext (.t 29) 1), oo 9 (.al [.j 0, .j 0, .str []]), on (.st 3 (.t 9) (.t 38)), om 10 39] [.val [], .val [], .val [], .val [], .val [], .val [], .val [], .val [], .val [], .val [], .val [], .chn [0, 1, 2, 3, 4, 5, 6, 7, 8, 9, 10], .chn [10], .val []])
 (.reg [om 40 6, oo 41 (.ld true 3 (.t 9)), oo 42 (.cl (.c (.fn 115 [])) [(.t 41)]), oo 43 (.bin .add (.t 40) (.t 42)), om 6 43]))))
 (.reg [oo 44 (.bin .add (.t 25) (.c (.j 1))), om 25 44])))))))
 (.seq (.reg [om 45 6, om 4 45])
 .ret))))))
theorem k_impl_LiveOf : FnOk Tryz.prog 113 46 rc_impl_LiveOf [.t 4] := ⟨Tryz.f113, _, [], Tryz.func113, rfl, rfl, by kernel_rfl, by kernel_rfl, follows⟩
theorem ok_impl_LiveOf : okF Tryz.prog 113 = true := by kernel_rfl
def rc_impl_LiveBytes : RC :=
 (.seq (.reg [oo 1 (.bx (.t 0)), oo 2 (.mv (.c (.j 0)))])
 (.seq (.reg [oo 3 (.mv (.c (.j 0)))])
 (.seq (.seq (.reg [oo 5 (.fa 0 (.t 1)), oo 6 (.fa 3 (.t 5)), oo 7 (.ld false 1 (.t 6)), oo 8 (.lenl (.t 7)), oo 9 (.mv (.c (.j 0)))])
 (.blk 0 (.loop (.seq (.reg [oo 10 (.bin .lss (.t 9) (.t 8))])
 (.seq (.cond (.t 10) .skip
 (.exit 0))
 (.seq (.blk 1 (.seq (.reg [om 11 9, om 4 11])
 (.reg [om 12 3, oo 13 (.ld true 9 (.t 1)), om 14 4, oo 15 (.cl (.c (.fn 113 [])) [(.t 13), (.t 14)]), oo 16 (.bin .add (.t 12) (.t 15)), om 3 16])))
 (.reg [oo 17 (.bin .add (.t 9) (.c (.j 1))), om 9 17])))))))
 (.seq (.reg [om 18 3, om 2 18])
 .ret))))
theorem k_impl_LiveBytes : FnOk Tryz.prog 60 19 rc_impl_LiveBytes [.t 2] := ⟨Tryz.f60, _, [], Tryz.func60, rfl, rfl, by kernel_rfl, by kernel_rfl, follows⟩
theorem ok_impl_LiveBytes : okF Tryz.prog 60 = true := by kernel_rfl
def rc_impl_RecSize : RC :=
 (.seq (.reg [oo 1 (.bx (.t 0)), oo 2 (.mv (.c (.j 0)))])
 (.seq (.reg [oo 6 (.ld true 8 (.t 1)), oo 7 (.bld [.j 0, .j 0, .j 0, .j 0, .j 0, .j 0, .str [], .str [], .str []] [(0, 1), (1, 8)] [(0, (.c (.j 1000000000))), (1, (.t 6))]), oo 8 (.cl (.c (.fn 114 [])) [(.t 7), (.c (.j 1000000000))]), om 5 8, oo 9 (.ext (.t 5) 0), oo 10 (.ext (.t 5) 1), oo 3 (.al [.j 0, .j 0, .str []]), on (.st 3 (.t 3) (.t 9)), om 4 10])
 (.seq (.seq (.reg [om 11 4, oo 12 (.un .not (.t 11))])
 (.cond (.t 12) (.seq (.reg [oo 2 (.mv (.c (.j 0)))])
 .ret)
 .skip))
 (.seq (.reg [oo 13 (.ld true 3 (.t 3)), oo 14 (.cl (.c (.fn 115 [])) [(.t 13)]), om 2 14])
 .ret))))
theorem k_impl_RecSize : FnOk Tryz.prog 61 15 rc_impl_RecSize [.t 2] := ⟨Tryz.f61, _, [], Tryz.func61, rfl, rfl, by kernel_rfl, by kernel_rfl, follows⟩
theorem ok_impl_RecSize : okF Tryz.prog 61 = true := by kernel_rfl
def rc_impl_Roomy : RC :=
 (.seq (.reg [oo 2 (.bx (.t 0)), oo 3 (.bx (.t 1)), oo 4 (.mv (.c (.bool false)))])
 (.seq (.drw [oo 5 (.ld true 9 (.t 2)), oo 6 (.cl (.c (.fn 60 [])) [(.t 5)]), oo 7 (.ld true 8 (.t 3)), oo 8 (.cl (.c (.fn 61 [])) [(.t 7)]), oo 9 (.bin .add (.t 6) (.t 8)), oo 10 (.ld true 9 (.t 2)), oo 11 (.cl (.c (.fn 20 [])) [(.t 10)]), oo 12 (.fld 0 1 false (.t 11)), oo 13 (.lenl (.t 12)), oo 14 (.bin .mul (.c (.j 40)) (.t 13)), oo 15 (.bin .add (.t 9) (.t 14)), oo 16 (.fa 0 (.t 2)), oo 17 (.fa 2 (.t 16)), oo 18 (.ld false 1 (.t 17)), oo 19 (.bin .sub (.t 18) (.c (.j 5))), oo 20 (.bin .mul (.c (.j 80)) (.t 19)), oo 21 (.bin .leq (.t 15) (.t 20)), om 4 21] [.val [], .val [], .val [], .val [], .val [], .val [], .val [], .val [], .val [], .val [], .val [], .val [], .val [], .val [], .val [], .val [], .val [], .val []])
 .ret))
theorem k_impl_Roomy : FnOk Tryz.prog 27 22 rc_impl_Roomy [.t 4] := ⟨Tryz.f27, _, [], Tryz.func27, rfl, rfl, by kernel_rfl, by kernel_rfl, follows⟩
theorem ok_impl_Roomy : okF Tryz.prog 27 = true := by kernel_rfl
def rc_laws_FnExactRoomy : RC :=
 (.seq (.reg [oo 2 (.bx (.t 0)), oo 3 (.bx (.t 1)), oo 4 (.mv (.c (.bool false)))])
 (.seq (.reg [oo 5 (.mv (.c (.j 1048576)))])
 (.seq (.reg [oo 9 (.ld true 9 (.t 2)), om 10 5, oo 11 (.cl (.c (.fn 17 [])) [(.t 9), (.t 10)]), om 5 11])
 (.seq (.seq (.reg [om 12 5, oo 13 (.bin .lss (.t 12) (.c (.j 0)))])
 (.cond (.t 13) (.seq (.reg [oo 4 (.mv (.c (.bool true)))])
 .ret)
 .skip))
 (.seq (.reg [oo 14 (.ld true 8 (.t 3)), om 15 5, oo 16 (.cl (.c (.fn 24 [])) [(.t 14), (.t 15)]), om 5 16])
 (.seq (.seq (.reg [om 17 5, oo 18 (.bin .lss (.t 17) (.c (.j 0)))])
 (.cond (.t 18) (.seq (.reg [oo 4 (.mv (.c (.bool true)))])
 .ret)
 .skip))
 (.seq (.drw [oo 19 (.ld true 9 (.t 2)), oo 20 (.cl (.c (.fn 19 [])) [(.t 19)]), oo 21 (.ld true 8 (.t 3)), oo 22 (.cl (.c (.fn 26 [])) [(.t 21)]), oo 23 (.cl (.c (.fn 25 [])) [(.t 20), (.t 22)]), om 6 23] [.val [], .val [], .val [], .val [], .val [], .val []])
 (.seq (.reg [oo 24 (.ld true 9 (.t 2)), oo 25 (.cl (.c (.fn 19 [])) [(.t 24)]), oo 7 (.al [.nils, .nils, .j 0, .nils, .j 0, .j 0, .j 0, .j 0, .nils]), on (.st 9 (.t 7) (.t 25))])
 (.seq (.drw [oo 26 (.ld true 9 (.t 7)), oo 27 (.ld true 8 (.t 3)), oo 28 (.cl (.c (.fn 26 [])) [(.t 27)]), oo 29 (.cl (.c (.fn 27 [])) [(.t 26), (.t 28)]), om 8 29] [.val [], .val [], .val [], .val [], .val []])
 (.seq (.seq (.reg [om 30 8, om 31 6, oo 32 (.eqb true (.t 30) (.t 31))])
 (.cond (.t 32) (.seq (.reg [oo 4 (.mv (.c (.bool false)))])
 .ret)
 .skip))
 (.seq (.seq (.drw [oo 33 (.ld true 9 (.t 7)), oo 34 (.ld true 9 (.t 2)), oo 35 (.cl (.c (.fn 19 [])) [(.t 34)]), oo 36 (.cl (.c (.fn 14 [])) [(.t 33), (.t 35)]), oo 37 (.un .not (.t 36))] [.val [], .val [], .val [], .val [], .val []])
 (.cond (.t 37) (.seq (.reg [oo 4 (.mv (.c (.bool false)))])
 .ret)
 .skip))
 (.seq (.reg [oo 4 (.mv (.c (.bool true)))])
 .ret))))))))))))
theorem k_laws_FnExactRoomy : FnOk Tryz.prog 6 38 rc_laws_FnExactRoomy [.t 4] := ⟨Tryz.f6, _, [], Tryz.func6, rfl, rfl, by kernel_rfl, by kernel_rfl, follows⟩
theorem ok_laws_FnExactRoomy : okF Tryz.prog 6 = true := by kernel_rfl
end Go.Proofs.YtcehlicmghnghaaGreat.V
/- Contracts of the library, laid here. -/
namespace Go.Proofs.YtcehlicmghnghaaGreat.V
open Go Go.Proofs Go.RowKit Go.Shelf
set_option maxRecDepth 100000
def rn_slices_Sort_int : Go.Shelf.Ren := ⟨fun | 189 => 160 | 125 => 201 | 257 => 200 | 128 => 225 | 129 => 226 | 294 => 216 | 295 => 217 | 296 => 218 | 297 => 219 | 298 => 220 | 299 => 221 | 216 => 222 | 300 => 223 | 301 => 224 | 328 => 232 | 329 => 233 | 330 => 234 | 331 => 235 | 332 => 236 | 215 => 237 | 343 => 242 | n => n, fun | 28 => 34 | 3 => 3 | 46 => 150 | 0 => 0 | 51 => 201 | 53 => 205 | 4 => 4 | 183 => 236 | 182 => 235 | 131 => 187 | 5 => 5 | 9 => 9 | 218 => 246 | 222 => 250 | 228 => 252 | 229 => 253 | n => n, fun | n => n⟩
theorem ly_slices_Sort_int_189 : Go.Proofs.Lays.n189 Tryz.prog rn_slices_Sort_int := {
 mixed := by kernel_rfl,
 f125 := Tryz.func201.trans (congrArg some (by kernel_rfl)),
 f128 := Tryz.func225.trans (congrArg some (by kernel_rfl)),
 f129 := Tryz.func226.trans (congrArg some (by kernel_rfl)),
 f189 := Tryz.func160.trans (congrArg some (by kernel_rfl)),
 f215 := Tryz.func237.trans (congrArg some (by kernel_rfl)),
 f216 := Tryz.func222.trans (congrArg some (by kernel_rfl)),
 f257 := Tryz.func200.trans (congrArg some (by kernel_rfl)),
 f294 := Tryz.func216.trans (congrArg some (by kernel_rfl)),
 f295 := Tryz.func217.trans (congrArg some (by kernel_rfl)),
 f296 := Tryz.func218.trans (congrArg some (by kernel_rfl)),
 f297 := Tryz.func219.trans (congrArg some (by kernel_rfl)),
 f298 := Tryz.func220.trans (congrArg some (by kernel_rfl)),
 f299 := Tryz.func221.trans (congrArg some (by kernel_rfl)),
 f300 := Tryz.func223.trans (congrArg some (by kernel_rfl)),
 f301 := Tryz.func224.trans (congrArg some (by kernel_rfl)),
 f328 := Tryz.func232.trans (congrArg some (by kernel_rfl)),
 f329 := Tryz.func233.trans (congrArg some (by kernel_rfl)),
 f330 := Tryz.func234.trans (congrArg some (by kernel_rfl)),
 f331 := Tryz.func235.trans (congrArg some (by kernel_rfl)),
 f332 := Tryz.func236.trans (congrArg some (by kernel_rfl)),
 f343 := Tryz.func242.trans (congrArg some (by kernel_rfl)),
 t0 := Tryz.underlying0,
 a0 := Tryz.isAgg0,
 z0 := Tryz.sizeOf0,
 v0 := Tryz.zeroValue0,
 t3 := Tryz.underlying3,
 a3 := Tryz.isAgg3,
 z3 := Tryz.sizeOf3,
 v3 := Tryz.zeroValue3,
 t4 := Tryz.underlying4,
 a4 := Tryz.isAgg4,
 z4 := Tryz.sizeOf4,
 v4 := Tryz.zeroValue4,
 t5 := Tryz.underlying5,
 a5 := Tryz.isAgg5,
 z5 := Tryz.sizeOf5,
 v5 := Tryz.zeroValue5,
 t9 := Tryz.underlying9,
 a9 := Tryz.isAgg9,
 z9 := Tryz.sizeOf9,
 v9 := Tryz.zeroValue9,
 t28 := Tryz.underlying34,
 a28 := Tryz.isAgg34,
 z28 := Tryz.sizeOf34,
 v28 := Tryz.zeroValue34,
 t46 := Tryz.underlying150,
 a46 := Tryz.isAgg150,
 z46 := Tryz.sizeOf150,
 v46 := Tryz.zeroValue150,
 t51 := Tryz.underlying201,
 a51 := Tryz.isAgg201,
 z51 := Tryz.sizeOf201,
 v51 := Tryz.zeroValue201,
 t53 := Tryz.underlying205,
 a53 := Tryz.isAgg205,
 z53 := Tryz.sizeOf205,
 v53 := Tryz.zeroValue205,
 t131 := Tryz.underlying187,
 a131 := Tryz.isAgg187,
 z131 := Tryz.sizeOf187,
 v131 := Tryz.zeroValue187,
 t182 := Tryz.underlying235,
 a182 := Tryz.isAgg235,
 z182 := Tryz.sizeOf235,
 v182 := Tryz.zeroValue235,
 t183 := Tryz.underlying236,
 a183 := Tryz.isAgg236,
 z183 := Tryz.sizeOf236,
 v183 := Tryz.zeroValue236,
 t218 := Tryz.underlying246,
 a218 := Tryz.isAgg246,
 z218 := Tryz.sizeOf246,
 v218 := Tryz.zeroValue246,
 t222 := Tryz.underlying250,
 a222 := Tryz.isAgg250,
 z222 := Tryz.sizeOf250,
 v222 := Tryz.zeroValue250,
 t228 := Tryz.underlying252,
 a228 := Tryz.isAgg252,
 z228 := Tryz.sizeOf252,
 v228 := Tryz.zeroValue252,
 t229 := Tryz.underlying253,
 a229 := Tryz.isAgg253,
 z229 := Tryz.sizeOf253,
 v229 := Tryz.zeroValue253 }
theorem lay_slices_Sort_int : SortC Tryz.prog 160 := ⟨by kernel_rfl, fun blk off cap zs w h1 h2 h3 => Any.slices_Sort_int ly_slices_Sort_int_189 blk off cap zs w h1 h2 h3, fun p cap w => Any.slices_Sort_int_none ly_slices_Sort_int_189 p cap w⟩
def rn_slices_Compact_int : Go.Shelf.Ren := ⟨fun | 20 => 161 | n => n, fun | 22 => 34 | 3 => 3 | 4 => 4 | 0 => 0 | n => n, fun | n => n⟩
theorem ly_slices_Compact_int_20 : Go.Proofs.Lays2.n20 Tryz.prog rn_slices_Compact_int := {
 mixed := by kernel_rfl,
 f20 := Tryz.func161.trans (congrArg some (by kernel_rfl)),
 t0 := Tryz.underlying0,
 a0 := Tryz.isAgg0,
 z0 := Tryz.sizeOf0,
 v0 := Tryz.zeroValue0,
 t3 := Tryz.underlying3,
 a3 := Tryz.isAgg3,
 z3 := Tryz.sizeOf3,
 v3 := Tryz.zeroValue3,
 t4 := Tryz.underlying4,
 a4 := Tryz.isAgg4,
 z4 := Tryz.sizeOf4,
 v4 := Tryz.zeroValue4,
 t22 := Tryz.underlying34,
 a22 := Tryz.isAgg34,
 z22 := Tryz.sizeOf34,
 v22 := Tryz.zeroValue34,
 i3 := by kernel_rfl }
theorem lay_slices_Compact_int : CompC Tryz.prog 161 := ⟨by kernel_rfl, fun blk off cap zs w h1 h2 h3 => Any.slices_Compact_int ly_slices_Compact_int_20 blk off cap zs w h1 h2 h3, fun a cap w => Any.slices_Compact_int_empty ly_slices_Compact_int_20 a cap w⟩
end Go.Proofs.YtcehlicmghnghaaGreat.V
