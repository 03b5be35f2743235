/- The functions' texts. -/
import Derived.Test.YtldndhdohlfpgaaXE
import Derived.Test.YtldndhdohlfpgaaProg
import Derived.KernelRfl
import Derived.Shelf.Sort.Plain
import Derived.Shelf.Slices.In.SortNone
import Derived.Shelf.Slices.CompactI
/- The functions' texts. -/
namespace Go.Proofs.Ytldndhdohlfpgaa.V
open Go Go.Proofs Go.RowKit
set_option maxRecDepth 100000
theorem follows : Try.prog.follows .mixedOrders = true := by kernel_rfl
def rc_spec_l01New : RC :=
 (.seq (.reg [oo 2 (.mv (.c (.und)))])
 (.seq (.reg [om 5 0, oo 6 (.lenl (.t 5)), oo 7 (.bin .add (.c (.j 76001)) (.t 6)), om 3 7])
 (.seq (.seq (.reg [oo 4 (.mv (.c (.j 0)))])
 (.blk 0 (.loop (.seq (.seq (.reg [om 8 4, om 9 0, oo 10 (.lenl (.t 9)), oo 11 (.bin .lss (.t 8) (.t 10)), om 12 11, ⟨(some 13), (some (12, true)), .mv (.t 4)⟩, ⟨(some 14), (some (12, true)), .bin .lss (.t 13) (.c (.j 4000))⟩, oo 15 (.pick (.t 12) (.t 14) (.c (.bool false)))])
 (.cond (.t 15) .skip
 (.exit 0)))
 (.seq (.blk 1 (.reg [om 18 3, oo 19 (.bin .mul (.t 18) (.c (.j 131))), om 20 0, om 21 4, oo 22 (.ia 1 (.t 20) (.t 21)), oo 23 (.ld false 1 (.t 22)), oo 24 (.cvi .i64 (.t 23)), oo 25 (.bin .add (.t 19) (.t 24)), oo 26 (.bin .add (.t 25) (.c (.j 7))), oo 27 (.bin .and (.t 26) (.c (.j 1073741823))), om 3 27]))
 (.reg [om 16 4, oo 17 (.bin .add (.t 16) (.c (.j 1))), om 4 17]))))))
 (.seq (.reg [om 28 0, om 29 3, oo 30 (.bld [.nils, .j 0, .j 0] [(0, 1), (1, 1), (2, 1)] [(0, (.t 28)), (2, (.t 29))]), oo 31 (.bx (.t 30)), om 2 31])
 .ret))))
theorem k_spec_l01New : FnOk Try.prog 47 32 rc_spec_l01New [.t 2] := ⟨Try.f47, _, [], Try.func47, rfl, rfl, by kernel_rfl, by kernel_rfl, follows⟩
theorem ok_spec_l01New : okF Try.prog 47 = true := by kernel_rfl
def rc_spec_l01Byte : RC :=
 (.seq (.reg [oo 2 (.mv (.c (.j 0)))])
 (.seq (.reg [om 4 0, om 5 0, oo 6 (.nc (.t 5)), oo 7 (.fa 2 (.t 6)), oo 8 (.ld false 1 (.t 7)), oo 9 (.bin .mul (.t 8) (.c (.j 6364136223846793005))), oo 10 (.bin .add (.t 9) (.c (.j 1442695040888963407))), oo 11 (.nc (.t 4)), oo 12 (.fa 2 (.t 11)), on (.st 1 (.t 12) (.t 10))])
 (.seq (.drw [om 13 0, oo 14 (.nc (.t 13)), oo 15 (.fa 2 (.t 14)), oo 16 (.ld false 1 (.t 15)), oo 17 (.bin .shr (.t 16) (.c (.int .u64 33))), om 18 0, oo 19 (.nc (.t 18)), oo 20 (.fa 2 (.t 19)), oo 21 (.ld false 1 (.t 20)), oo 22 (.bin .shr (.t 21) (.c (.int .u64 45))), oo 23 (.bin .xor (.t 17) (.t 22)), oo 24 (.bin .and (.t 23) (.c (.j 255))), om 3 24] [.val [], .val [], .val [], .val [], .val [], .val [], .val [], .val [], .val [], .val [], .val [], .val [], .val []])
 (.seq (.seq (.drw [om 25 0, oo 26 (.nc (.t 25)), oo 27 (.fa 1 (.t 26)), oo 28 (.ld false 1 (.t 27)), om 29 0, oo 30 (.nc (.t 29)), oo 31 (.fa 0 (.t 30)), oo 32 (.ld false 1 (.t 31)), oo 33 (.lenl (.t 32)), oo 34 (.bin .lss (.t 28) (.t 33))] [.val [], .val [], .val [], .val [], .val [], .val [], .val [], .val [], .val [], .val []])
 (.cond (.t 34) (.seq (.drw [om 35 3, om 36 0, oo 37 (.nc (.t 36)), oo 38 (.fa 0 (.t 37)), oo 39 (.ld false 1 (.t 38)), om 40 0, oo 41 (.nc (.t 40)), oo 42 (.fa 1 (.t 41)), oo 43 (.ld false 1 (.t 42)), oo 44 (.ia 1 (.t 39) (.t 43)), oo 45 (.ld false 1 (.t 44)), oo 46 (.cvi .i64 (.t 45)), oo 47 (.bin .add (.t 35) (.t 46)), oo 48 (.bin .and (.t 47) (.c (.j 255))), om 3 48] [.val [], .val [], .val [], .val [], .val [], .val [], .val [], .val [], .val [], .val [], .val [], .val [], .val [], .val [], .val []])
 (.reg [om 49 0, om 50 0, oo 51 (.nc (.t 50)), oo 52 (.fa 1 (.t 51)), oo 53 (.ld false 1 (.t 52)), oo 54 (.bin .add (.t 53) (.c (.j 1))), oo 55 (.nc (.t 49)), oo 56 (.fa 1 (.t 55)), on (.st 1 (.t 56) (.t 54))]))
 .skip))
 (.seq (.reg [om 57 3, om 2 57])
 .ret)))))
theorem k_spec_l01Byte : FnOk Try.prog 71 58 rc_spec_l01Byte [.t 2] := ⟨Try.f71, _, [], Try.func71, rfl, rfl, by kernel_rfl, by kernel_rfl, follows⟩
theorem ok_spec_l01Byte : okF Try.prog 71 = true := by kernel_rfl
def rc_spec_l01Below : RC :=
 (.seq (.reg [oo 4 (.mv (.c (.j 0)))])
 (.seq (.seq (.reg [om 9 1, oo 10 (.bin .leq (.t 9) (.c (.j 0)))])
 (.cond (.t 10) (.seq (.reg [oo 4 (.mv (.c (.j 0)))])
 .ret)
 .skip))
 (.seq (.seq (.reg [om 11 1, oo 12 (.bin .leq (.t 11) (.c (.j 256)))])
 (.cond (.t 12) (.seq (.reg [om 13 0, oo 14 (.cl (.c (.fn 71 [])) [(.t 13)]), om 15 1, oo 16 (.bin .rem (.t 14) (.t 15)), om 4 16])
 .ret)
 .skip))
 (.seq (.reg [om 17 0, oo 18 (.cl (.c (.fn 71 [])) [(.t 17)]), om 5 18])
 (.seq (.reg [om 19 0, oo 20 (.cl (.c (.fn 71 [])) [(.t 19)]), om 6 20])
 (.seq (.reg [om 21 0, oo 22 (.cl (.c (.fn 71 [])) [(.t 21)]), om 7 22])
 (.seq (.reg [om 23 0, oo 24 (.cl (.c (.fn 71 [])) [(.t 23)]), om 8 24])
 (.seq (.reg [om 25 5, oo 26 (.bin .mul (.t 25) (.c (.j 16777216))), om 27 6, oo 28 (.bin .mul (.t 27) (.c (.j 65536))), oo 29 (.bin .add (.t 26) (.t 28)), om 30 7, oo 31 (.bin .mul (.t 30) (.c (.j 256))), oo 32 (.bin .add (.t 29) (.t 31)), om 33 8, oo 34 (.bin .add (.t 32) (.t 33)), om 35 1, oo 36 (.bin .rem (.t 34) (.t 35)), om 4 36])
 .ret))))))))
theorem k_spec_l01Below : FnOk Try.prog 72 37 rc_spec_l01Below [.t 4] := ⟨Try.f72, _, [], Try.func72, rfl, rfl, by kernel_rfl, by kernel_rfl, follows⟩
theorem ok_spec_l01Below : okF Try.prog 72 = true := by kernel_rfl
def rc_spec_DrawPlaces : RC :=
 (.seq (.reg [oo 2 (.mv (.c (.nils)))])
 (.seq (.reg [om 6 0, oo 7 (.cl (.c (.fn 47 [])) [(.t 6)]), om 3 7])
 (.seq (.reg [om 8 3, oo 9 (.cl (.c (.fn 71 [])) [(.t 8)])])
 (.seq (.reg [oo 10 (.mv (.c (.nils))), om 4 10])
 (.seq (.seq (.reg [oo 5 (.mv (.c (.j 0)))])
 (.blk 0 (.loop (.seq (.seq (.reg [om 11 5, oo 12 (.bin .lss (.t 11) (.c (.j 12)))])
 (.cond (.t 12) .skip
 (.exit 0)))
 (.seq (.blk 1 (.reg [om 15 4, om 16 3, oo 17 (.cl (.c (.fn 72 [])) [(.t 16), (.c (.j 10000))]), oo 18 (.bs 1 [.j 0] 1 [(0, (.t 17))]), oo 19 (.app 1 8 (.t 15) (.t 18)), om 4 19]))
 (.reg [om 13 5, oo 14 (.bin .add (.t 13) (.c (.j 1))), om 5 14]))))))
 (.seq (.reg [om 20 4, om 2 20])
 .ret))))))
theorem k_spec_DrawPlaces : FnOk Try.prog 20 21 rc_spec_DrawPlaces [.t 2] := ⟨Try.f20, _, [], Try.func20, rfl, rfl, by kernel_rfl, by kernel_rfl, follows⟩
theorem ok_spec_DrawPlaces : okF Try.prog 20 = true := by kernel_rfl
def rc_spec_l01Once : RC :=
 (.seq (.reg [oo 4 (.mv (.c (.bool false)))])
 (.seq (.reg [om 5 0, om 6 1, oo 7 (.cl (.c (.fn 72 [])) [(.t 5), (.t 6)]), oo 8 (.bin .eql (.t 7) (.c (.j 0))), om 4 8])
 .ret))
theorem k_spec_l01Once : FnOk Try.prog 111 9 rc_spec_l01Once [.t 4] := ⟨Try.f111, _, [], Try.func111, rfl, rfl, by kernel_rfl, by kernel_rfl, follows⟩
theorem ok_spec_l01Once : okF Try.prog 111 = true := by kernel_rfl
def rc_spec_l01PickInt : RC :=
 (.seq (.reg [oo 4 (.mv (.c (.j 0)))])
 (.seq (.reg [om 5 1, om 6 0, om 7 1, oo 8 (.lenl (.t 7)), oo 9 (.cl (.c (.fn 72 [])) [(.t 6), (.t 8)]), oo 10 (.ia 1 (.t 5) (.t 9)), oo 11 (.ld false 1 (.t 10)), om 4 11])
 .ret))
theorem k_spec_l01PickInt : FnOk Try.prog 125 12 rc_spec_l01PickInt [.t 4] := ⟨Try.f125, _, [], Try.func125, rfl, rfl, by kernel_rfl, by kernel_rfl, follows⟩
theorem ok_spec_l01PickInt : okF Try.prog 125 = true := by kernel_rfl
def rc_spec_l01Pick : RC :=
 (.seq (.reg [oo 4 (.mv (.c (.str [])))])
 (.seq (.reg [om 5 1, om 6 0, om 7 1, oo 8 (.lenl (.t 7)), oo 9 (.cl (.c (.fn 72 [])) [(.t 6), (.t 8)]), oo 10 (.ia 1 (.t 5) (.t 9)), oo 11 (.ld false 1 (.t 10)), om 4 11])
 .ret))
theorem k_spec_l01Pick : FnOk Try.prog 137 12 rc_spec_l01Pick [.t 4] := ⟨Try.f137, _, [], Try.func137, rfl, rfl, by kernel_rfl, by kernel_rfl, follows⟩
theorem ok_spec_l01Pick : okF Try.prog 137 = true := by kernel_rfl
def rc_spec_l06Text : RC :=
 (.seq (.reg [oo 2 (.mv (.c (.str [])))])
 (.seq (.reg [om 3 0, oo 4 (.bs 1 [.str []] 5 [(0, (.c (.str [104, 101, 108, 108, 111]))), (1, (.c (.str [102, 114, 111, 109, 58, 32, 97, 110, 110, 10, 10, 104, 105]))), (2, (.c (.str [115, 117, 98, 106, 101, 99, 116, 58, 32, 120, 10, 10, 98, 111, 100, 121, 32, 111, 102, 32, 105, 116, 10, 46, 100, 111, 116, 10]))), (3, (.c (.str []))), (4, (.c (.str [120, 10, 46, 46, 10])))]), oo 5 (.cl (.c (.fn 137 [])) [(.t 3), (.t 4)]), om 2 5])
 .ret))
theorem k_spec_l06Text : FnOk Try.prog 138 6 rc_spec_l06Text [.t 2] := ⟨Try.f138, _, [], Try.func138, rfl, rfl, by kernel_rfl, by kernel_rfl, follows⟩
theorem ok_spec_l06Text : okF Try.prog 138 = true := by kernel_rfl
def rc_spec_l06Rec : RC :=
 (.seq (.reg [oo 2 (.al [.j 0, .j 0, .j 0, .j 0, .j 0, .str [], .str [], .str []])])
 (.seq (.reg [om 4 0, oo 5 (.bs 1 [.j 0] 11 [(0, (.c (.j 1))), (1, (.c (.j 1))), (2, (.c (.j 2))), (3, (.c (.j 3))), (4, (.c (.j 3))), (5, (.c (.j 3))), (6, (.c (.j 3))), (7, (.c (.j 4))), (8, (.c (.j 4))), (9, (.c (.j 5))), (10, (.c (.j 5)))]), oo 6 (.cl (.c (.fn 125 [])) [(.t 4), (.t 5)]), om 7 0, oo 8 (.cl (.c (.fn 72 [])) [(.t 7), (.c (.j 3))]), oo 9 (.bin .add (.c (.j 1)) (.t 8)), oo 10 (.bld [.j 0, .j 0, .j 0, .j 0, .j 0, .str [], .str [], .str []] [(0, 1), (1, 1), (2, 1), (3, 1), (4, 1), (5, 1), (6, 1), (7, 1)] [(0, (.t 6)), (1, (.t 9))]), oo 3 (.al [.j 0, .j 0, .j 0, .j 0, .j 0, .str [], .str [], .str []]), on (.st 8 (.t 3) (.t 10))])
 (.seq (.seq (.reg [oo 11 (.fa 0 (.t 3)), oo 12 (.ld false 1 (.t 11))])
 (.blk 0 (.seq (.reg [oo 14 (.bin .eql (.t 12) (.c (.j 1))), om 13 14])
 (.cond (.t 13) (.seq (.reg [om 15 0, oo 16 (.bs 1 [.str []] 2 [(0, (.c (.str [97, 110, 110]))), (1, (.c (.str [98, 111, 98])))]), oo 17 (.cl (.c (.fn 137 [])) [(.t 15), (.t 16)]), oo 18 (.fa 5 (.t 3)), on (.st 1 (.t 18) (.t 17))])
 (.seq (.reg [om 19 0, oo 20 (.bs 1 [.str []] 2 [(0, (.c (.str [105, 110, 98, 111, 120]))), (1, (.c (.str [119, 111, 114, 107])))]), oo 21 (.cl (.c (.fn 137 [])) [(.t 19), (.t 20)]), oo 22 (.fa 6 (.t 3)), on (.st 1 (.t 22) (.t 21))])
 (.reg [om 23 0, oo 24 (.cl (.c (.fn 72 [])) [(.t 23), (.c (.j 6))]), oo 25 (.bin .add (.c (.j 1)) (.t 24)), oo 26 (.fa 3 (.t 3)), on (.st 1 (.t 26) (.t 25))])))
 (.seq (.reg [oo 28 (.bin .eql (.t 12) (.c (.j 3))), om 27 28])
 (.cond (.t 27) (.seq (.reg [om 29 0, oo 30 (.cl (.c (.fn 72 [])) [(.t 29), (.c (.j 5))]), oo 31 (.bin .add (.c (.j 1)) (.t 30)), oo 32 (.fa 2 (.t 3)), on (.st 1 (.t 32) (.t 31))])
 (.seq (.reg [om 33 0, oo 34 (.cl (.c (.fn 72 [])) [(.t 33), (.c (.j 8))]), oo 35 (.fa 4 (.t 3)), on (.st 1 (.t 35) (.t 34))])
 (.reg [om 36 0, oo 37 (.cl (.c (.fn 138 [])) [(.t 36)]), oo 38 (.fa 7 (.t 3)), on (.st 1 (.t 38) (.t 37))])))
 (.seq (.reg [oo 40 (.bin .eql (.t 12) (.c (.j 4))), om 39 40])
 (.cond (.t 39) (.seq (.reg [om 41 0, oo 42 (.cl (.c (.fn 72 [])) [(.t 41), (.c (.j 5))]), oo 43 (.bin .add (.c (.j 1)) (.t 42)), oo 44 (.fa 2 (.t 3)), on (.st 1 (.t 44) (.t 43))])
 (.reg [om 45 0, oo 46 (.cl (.c (.fn 72 [])) [(.t 45), (.c (.j 8))]), oo 47 (.fa 4 (.t 3)), on (.st 1 (.t 47) (.t 46))]))
 (.seq (.reg [oo 49 (.bin .eql (.t 12) (.c (.j 5))), om 48 49])
 (.cond (.t 48) (.reg [om 50 0, oo 51 (.cl (.c (.fn 72 [])) [(.t 50), (.c (.j 5))]), oo 52 (.bin .add (.c (.j 1)) (.t 51)), oo 53 (.fa 2 (.t 3)), on (.st 1 (.t 53) (.t 52))])
 .skip))))))))))
 (.seq (.reg [oo 54 (.ld true 8 (.t 3)), on (.st 8 (.t 2) (.t 54))])
 .ret))))
theorem k_spec_l06Rec : FnOk Try.prog 95 55 rc_spec_l06Rec [.cell 2 true 8] := ⟨Try.f95, _, [], Try.func95, rfl, rfl, by kernel_rfl, by kernel_rfl, follows⟩
theorem ok_spec_l06Rec : okF Try.prog 95 = true := by kernel_rfl
def rc_spec_l07Items : RC :=
 (.seq (.reg [oo 2 (.mv (.c (.nils)))])
 (.seq (.reg [oo 5 (.mv (.c (.nils))), om 3 5])
 (.seq (.seq (.reg [oo 4 (.mv (.c (.j 0)))])
 (.blk 0 (.loop (.seq (.seq (.reg [om 6 4, om 7 0, oo 8 (.cl (.c (.fn 72 [])) [(.t 7), (.c (.j 22))]), oo 9 (.bin .lss (.t 6) (.t 8))])
 (.cond (.t 9) .skip
 (.exit 0)))
 (.seq (.blk 1 (.reg [om 12 3, om 13 4, oo 14 (.bin .add (.c (.j 2)) (.t 13)), om 15 0, oo 16 (.cl (.c (.fn 95 [])) [(.t 15)]), oo 17 (.bld [.j 0, .j 0, .j 0, .j 0, .j 0, .j 0, .str [], .str [], .str []] [(0, 1), (1, 8)] [(0, (.t 14)), (1, (.t 16))]), oo 18 (.bs 9 [.j 0, .j 0, .j 0, .j 0, .j 0, .j 0, .str [], .str [], .str []] 1 [(0, (.t 17))]), oo 19 (.app 9 96 (.t 12) (.t 18)), om 3 19]))
 (.reg [om 10 4, oo 11 (.bin .add (.t 10) (.c (.j 1))), om 4 11]))))))
 (.seq (.seq (.reg [om 20 3, oo 21 (.lenl (.t 20)), oo 22 (.bin .gtr (.t 21) (.c (.j 1))), om 23 22, ⟨(some 24), (some (23, true)), .mv (.t 0)⟩, ⟨(some 25), (some (23, true)), .cl (.c (.fn 111 [])) [(.t 24), (.c (.j 3))]⟩, oo 26 (.pick (.t 23) (.t 25) (.c (.bool false)))])
 (.cond (.t 26) (.reg [om 27 3, om 28 3, om 29 0, om 30 3, oo 31 (.lenl (.t 30)), oo 32 (.cl (.c (.fn 72 [])) [(.t 29), (.t 31)]), oo 33 (.ia 9 (.t 28) (.t 32)), oo 34 (.ld true 9 (.t 33)), oo 35 (.bs 9 [.j 0, .j 0, .j 0, .j 0, .j 0, .j 0, .str [], .str [], .str []] 1 [(0, (.t 34))]), oo 36 (.app 9 96 (.t 27) (.t 35)), om 3 36])
 .skip))
 (.seq (.reg [om 37 3, om 2 37])
 .ret)))))
theorem k_spec_l07Items : FnOk Try.prog 77 38 rc_spec_l07Items [.t 2] := ⟨Try.f77, _, [], Try.func77, rfl, rfl, by kernel_rfl, by kernel_rfl, follows⟩
theorem ok_spec_l07Items : okF Try.prog 77 = true := by kernel_rfl
def rc_spec_DrawItems : RC :=
 (.seq (.reg [oo 2 (.mv (.c (.nils)))])
 (.seq (.reg [om 3 0, oo 4 (.cl (.c (.fn 47 [])) [(.t 3)]), oo 5 (.cl (.c (.fn 77 [])) [(.t 4)]), om 2 5])
 .ret))
theorem k_spec_DrawItems : FnOk Try.prog 26 6 rc_spec_DrawItems [.t 2] := ⟨Try.f26, _, [], Try.func26, rfl, rfl, by kernel_rfl, by kernel_rfl, follows⟩
theorem ok_spec_DrawItems : okF Try.prog 26 = true := by kernel_rfl
def rc_impl_in : RC :=
 (.seq (.reg [oo 6 (.mv (.c (.bool false)))])
 (.seq (.reg [om 7 0, om 8 1, oo 9 (.bin .geq (.t 7) (.t 8)), om 10 9, ⟨(some 11), (some (10, true)), .mv (.t 0)⟩, ⟨(some 12), (some (10, true)), .mv (.t 2)⟩, ⟨(some 13), (some (10, true)), .bin .leq (.t 11) (.t 12)⟩, oo 14 (.pick (.t 10) (.t 13) (.c (.bool false))), om 6 14])
 .ret))
theorem k_impl_in : FnOk Try.prog 59 15 rc_impl_in [.t 6] := ⟨Try.f59, _, [], Try.func59, rfl, rfl, by kernel_rfl, by kernel_rfl, follows⟩
theorem ok_impl_in : okF Try.prog 59 = true := by kernel_rfl
def rc_impl_WordOk : RC :=
 (.seq (.reg [oo 2 (.mv (.c (.bool false)))])
 (.seq (.seq (.reg [om 4 0, oo 5 (.lens (.t 4)), oo 6 (.cl (.c (.fn 59 [])) [(.t 5), (.c (.j 1)), (.c (.j 8))]), oo 7 (.un .not (.t 6))])
 (.cond (.t 7) (.seq (.reg [oo 2 (.mv (.c (.bool false)))])
 .ret)
 .skip))
 (.seq (.seq (.reg [om 8 0, oo 9 (.lens (.t 8)), oo 10 (.mv (.c (.j 0)))])
 (.blk 0 (.loop (.seq (.reg [oo 11 (.bin .lss (.t 10) (.t 9))])
 (.seq (.cond (.t 11) .skip
 (.exit 0))
 (.seq (.blk 1 (.seq (.reg [om 12 10, om 3 12])
 (.seq (.reg [om 13 0, om 14 3, oo 15 (.idx (.t 13) (.t 14)), oo 16 (.bin .lss (.t 15) (.c (.int .u8 97))), om 17 16, ⟨(some 18), (some (17, false)), .mv (.t 0)⟩, ⟨(some 19), (some (17, false)), .mv (.t 3)⟩, ⟨(some 20), (some (17, false)), .idx (.t 18) (.t 19)⟩, ⟨(some 21), (some (17, false)), .bin .gtr (.t 20) (.c (.int .u8 122))⟩, oo 22 (.pick (.t 17) (.c (.bool true)) (.t 21))])
 (.cond (.t 22) (.seq (.reg [oo 2 (.mv (.c (.bool false)))])
 .ret)
 .skip))))
 (.reg [oo 23 (.bin .add (.t 10) (.c (.j 1))), om 10 23])))))))
 (.seq (.reg [oo 2 (.mv (.c (.bool true)))])
 .ret))))
theorem k_impl_WordOk : FnOk Try.prog 148 24 rc_impl_WordOk [.t 2] := ⟨Try.f148, _, [], Try.func148, rfl, rfl, by kernel_rfl, by kernel_rfl, follows⟩
theorem ok_impl_WordOk : okF Try.prog 148 = true := by kernel_rfl
def rc_impl_RecOk : RC :=
 (.seq (.reg [oo 1 (.bx (.t 0)), oo 2 (.mv (.c (.bool false)))])
 (.seq (.seq (.reg [oo 5 (.fa 1 (.t 1)), oo 6 (.ld false 1 (.t 5)), oo 7 (.cl (.c (.fn 59 [])) [(.t 6), (.c (.j 1)), (.c (.j 9999))]), oo 8 (.un .not (.t 7))])
 (.cond (.t 8) (.seq (.reg [oo 2 (.mv (.c (.bool false)))])
 .ret)
 .skip))
 (.seq (.reg [oo 9 (.ld true 8 (.t 1)), oo 3 (.al [.j 0, .j 0, .j 0, .j 0, .j 0, .str [], .str [], .str []]), on (.st 8 (.t 3) (.t 9))])
 (.seq (.reg [oo 10 (.fa 0 (.t 3)), on (.st 1 (.t 10) (.c (.j 0))), oo 11 (.fa 1 (.t 3)), on (.st 1 (.t 11) (.c (.j 0)))])
 (.seq (.reg [oo 4 (.mv (.c (.bool true)))])
 (.seq (.seq (.reg [oo 12 (.fa 0 (.t 1)), oo 13 (.ld false 1 (.t 12)), oo 14 (.bin .eql (.t 13) (.c (.j 3))), om 15 14, ⟨(some 16), (some (15, false)), .fa 0 (.t 1)⟩, ⟨(some 17), (some (15, false)), .ld false 1 (.t 16)⟩, ⟨(some 18), (some (15, false)), .bin .eql (.t 17) (.c (.j 4))⟩, oo 19 (.pick (.t 15) (.c (.bool true)) (.t 18)), om 20 19, ⟨(some 21), (some (20, false)), .fa 0 (.t 1)⟩, ⟨(some 22), (some (20, false)), .ld false 1 (.t 21)⟩, ⟨(some 23), (some (20, false)), .bin .eql (.t 22) (.c (.j 5))⟩, oo 24 (.pick (.t 20) (.c (.bool true)) (.t 23))])
 (.cond (.t 24) (.seq (.reg [oo 25 (.fa 2 (.t 1)), oo 26 (.ld false 1 (.t 25)), oo 27 (.cl (.c (.fn 59 [])) [(.t 26), (.c (.j 1)), (.c (.j 9999))]), om 4 27])
 (.reg [oo 28 (.fa 2 (.t 3)), on (.st 1 (.t 28) (.c (.j 0)))]))
 .skip))
 (.seq (.seq (.reg [oo 29 (.fa 0 (.t 1)), oo 30 (.ld false 1 (.t 29)), oo 31 (.bin .eql (.t 30) (.c (.j 3))), om 32 31, ⟨(some 33), (some (32, false)), .fa 0 (.t 1)⟩, ⟨(some 34), (some (32, false)), .ld false 1 (.t 33)⟩, ⟨(some 35), (some (32, false)), .bin .eql (.t 34) (.c (.j 4))⟩, oo 36 (.pick (.t 32) (.c (.bool true)) (.t 35))])
 (.cond (.t 36) (.seq (.reg [om 37 4, om 38 37, ⟨(some 39), (some (38, true)), .fa 4 (.t 1)⟩, ⟨(some 40), (some (38, true)), .ld false 1 (.t 39)⟩, ⟨(some 41), (some (38, true)), .cl (.c (.fn 59 [])) [(.t 40), (.c (.j 0)), (.c (.j 7))]⟩, oo 42 (.pick (.t 38) (.t 41) (.c (.bool false))), om 4 42])
 (.reg [oo 43 (.fa 4 (.t 3)), on (.st 1 (.t 43) (.c (.j 0)))]))
 .skip))
 (.seq (.seq (.reg [oo 44 (.fa 0 (.t 1)), oo 45 (.ld false 1 (.t 44))])
 (.blk 0 (.seq (.reg [oo 47 (.bin .eql (.t 45) (.c (.j 1))), om 46 47])
 (.cond (.t 46) (.seq (.reg [oo 48 (.fa 5 (.t 1)), oo 49 (.ld false 1 (.t 48)), oo 50 (.cl (.c (.fn 148 [])) [(.t 49)]), om 51 50, ⟨(some 52), (some (51, true)), .fa 6 (.t 1)⟩, ⟨(some 53), (some (51, true)), .ld false 1 (.t 52)⟩, ⟨(some 54), (some (51, true)), .cl (.c (.fn 148 [])) [(.t 53)]⟩, oo 55 (.pick (.t 51) (.t 54) (.c (.bool false))), om 56 55, ⟨(some 57), (some (56, true)), .fa 3 (.t 1)⟩, ⟨(some 58), (some (56, true)), .ld false 1 (.t 57)⟩, ⟨(some 59), (some (56, true)), .cl (.c (.fn 59 [])) [(.t 58), (.c (.j 1)), (.c (.j 10000))]⟩, oo 60 (.pick (.t 56) (.t 59) (.c (.bool false))), om 4 60])
 (.reg [oo 61 (.fa 5 (.t 3)), on (.st 1 (.t 61) (.c (.str []))), oo 62 (.fa 6 (.t 3)), on (.st 1 (.t 62) (.c (.str []))), oo 63 (.fa 3 (.t 3)), on (.st 1 (.t 63) (.c (.j 0)))]))
 (.seq (.reg [oo 65 (.bin .eql (.t 45) (.c (.j 3))), om 64 65])
 (.cond (.t 64) (.seq (.reg [om 66 4, om 67 66, ⟨(some 68), (some (67, true)), .fa 7 (.t 1)⟩, ⟨(some 69), (some (67, true)), .ld false 1 (.t 68)⟩, ⟨(some 70), (some (67, true)), .lens (.t 69)⟩, ⟨(some 71), (some (67, true)), .bin .leq (.t 70) (.c (.j 100))⟩, oo 72 (.pick (.t 67) (.t 71) (.c (.bool false))), om 4 72])
 (.reg [oo 73 (.fa 7 (.t 3)), on (.st 1 (.t 73) (.c (.str [])))]))
 (.seq (.seq (.reg [oo 75 (.bin .eql (.t 45) (.c (.j 2))), om 74 75])
 (.cond (.t 74) .skip
 (.seq (.reg [oo 76 (.bin .eql (.t 45) (.c (.j 4))), om 74 76])
 (.cond (.t 74) .skip
 (.reg [oo 77 (.bin .eql (.t 45) (.c (.j 5))), om 74 77])))))
 (.cond (.t 74) .skip
 (.seq (.reg [oo 2 (.mv (.c (.bool false)))])
 .ret)))))))))
 (.seq (.reg [om 78 4, om 79 78, ⟨(some 80), (some (79, true)), .ld true 8 (.t 3)⟩, ⟨(some 81), (some (79, true)), .bld [.j 0, .j 0, .j 0, .j 0, .j 0, .str [], .str [], .str []] [(0, 1), (1, 1), (2, 1), (3, 1), (4, 1), (5, 1), (6, 1), (7, 1)] []⟩, ⟨(some 82), (some (79, true)), .equ false [(0, 1), (1, 1), (2, 1), (3, 1), (4, 1), (5, 2), (6, 2), (7, 2)] (.t 80) (.t 81)⟩, oo 83 (.pick (.t 79) (.t 82) (.c (.bool false))), om 2 83])
 .ret)))))))))
theorem k_impl_RecOk : FnOk Try.prog 112 84 rc_impl_RecOk [.t 2] := ⟨Try.f112, _, [], Try.func112, rfl, rfl, by kernel_rfl, by kernel_rfl, follows⟩
theorem ok_impl_RecOk : okF Try.prog 112 = true := by kernel_rfl
def rc_impl_ItemsOk_1 : RC :=
 (.seq (.reg [oo 2 (.bx (.t 0)), oo 3 (.mv (.c (.bool false)))])
 (.seq (.reg [oo 4 (.fa 0 (.t 2)), oo 5 (.ld false 1 (.t 4)), oo 6 (.fa 0 (.t 1)), oo 7 (.ld false 1 (.t 6)), oo 8 (.bin .eql (.t 5) (.t 7)), om 9 8, ⟨(some 10), (some (9, true)), .ld true 9 (.t 2)⟩, ⟨(some 11), (some (9, true)), .ld true 9 (.t 1)⟩, ⟨(some 12), (some (9, true)), .equ true [(0, 1), (1, 1), (2, 1), (3, 1), (4, 1), (5, 1), (6, 2), (7, 2), (8, 2)] (.t 10) (.t 11)⟩, oo 13 (.pick (.t 9) (.t 12) (.c (.bool false))), om 3 13])
 .ret))
theorem k_impl_ItemsOk_1 : FnOk Try.prog 114 14 rc_impl_ItemsOk_1 [.t 3] := ⟨Try.f114, _, [], Try.func114, rfl, rfl, by kernel_rfl, by kernel_rfl, follows⟩
theorem ok_impl_ItemsOk_1 : okF Try.prog 114 = true := by kernel_rfl
def rc_slices_IndexFunc_Item : RC :=
 (.seq (.reg [oo 4 (.mv (.c (.j 0)))])
 (.seq (.seq (.reg [om 6 0, oo 7 (.lenl (.t 6)), oo 8 (.mv (.c (.j 0)))])
 (.blk 0 (.loop (.seq (.reg [oo 9 (.bin .lss (.t 8) (.t 7))])
 (.seq (.cond (.t 9) .skip
 (.exit 0))
 (.seq (.blk 1 (.seq (.reg [om 10 8, om 5 10])
 (.seq (.reg [om 11 1, om 12 0, om 13 5, oo 14 (.ia 9 (.t 12) (.t 13)), oo 15 (.ld true 9 (.t 14)), oo 16 (.cl (.t 11) [(.t 15)])])
 (.cond (.t 16) (.seq (.reg [om 17 5, om 4 17])
 .ret)
 .skip))))
 (.reg [oo 18 (.bin .add (.t 8) (.c (.j 1))), om 8 18])))))))
 (.seq (.reg [oo 4 (.mv (.c (.j (-1))))])
 .ret)))
theorem k_slices_IndexFunc_Item : FnOk Try.prog 149 19 rc_slices_IndexFunc_Item [.t 4] := ⟨Try.f149, _, [], Try.func149, rfl, rfl, by kernel_rfl, by kernel_rfl, follows⟩
theorem ok_slices_IndexFunc_Item : okF Try.prog 149 = true := by kernel_rfl
def rc_slices_ContainsFunc_Item : RC :=
 (.seq (.reg [oo 4 (.mv (.c (.bool false)))])
 (.seq (.reg [om 5 0, om 6 1, oo 7 (.cl (.c (.fn 149 [])) [(.t 5), (.t 6)]), oo 8 (.bin .geq (.t 7) (.c (.j 0))), om 4 8])
 .ret))
theorem k_slices_ContainsFunc_Item : FnOk Try.prog 113 9 rc_slices_ContainsFunc_Item [.t 4] := ⟨Try.f113, _, [], Try.func113, rfl, rfl, by kernel_rfl, by kernel_rfl, follows⟩
theorem ok_slices_ContainsFunc_Item : okF Try.prog 113 = true := by kernel_rfl
def rc_impl_ItemsOk : RC :=
 (.seq (.reg [oo 2 (.mv (.c (.bool false)))])
 (.seq (.seq (.reg [om 5 0, oo 6 (.lenl (.t 5)), oo 7 (.bin .gtr (.t 6) (.c (.j 200)))])
 (.cond (.t 7) (.seq (.reg [oo 2 (.mv (.c (.bool false)))])
 .ret)
 .skip))
 (.seq (.seq (.reg [om 8 0, oo 9 (.lenl (.t 8)), oo 10 (.mv (.c (.j 0)))])
 (.blk 0 (.loop (.seq (.reg [oo 11 (.bin .lss (.t 10) (.t 9))])
 (.seq (.cond (.t 11) .skip
 (.exit 0))
 (.seq (.blk 1 (.seq (.reg [om 12 10, oo 13 (.ia 9 (.t 8) (.t 10)), oo 14 (.ld true 9 (.t 13)), oo 4 (.al [.j 0, .j 0, .j 0, .j 0, .j 0, .j 0, .str [], .str [], .str []]), om 3 12, on (.st 9 (.t 4) (.t 14))])
 (.seq (.seq (.reg [oo 15 (.fa 0 (.t 4)), oo 16 (.ld false 1 (.t 15)), oo 17 (.cl (.c (.fn 59 [])) [(.t 16), (.c (.j 1)), (.c (.j 1000000000))]), oo 18 (.un .not (.t 17)), om 19 18, ⟨(some 20), (some (19, false)), .fa 1 (.t 4)⟩, ⟨(some 21), (some (19, false)), .ld true 8 (.t 20)⟩, ⟨(some 22), (some (19, false)), .cl (.c (.fn 112 [])) [(.t 21)]⟩, ⟨(some 23), (some (19, false)), .un .not (.t 22)⟩, oo 24 (.pick (.t 19) (.c (.bool true)) (.t 23))])
 (.cond (.t 24) (.seq (.reg [oo 2 (.mv (.c (.bool false)))])
 .ret)
 .skip))
 (.seq (.reg [om 25 0, om 26 3, oo 27 (.sle 9 (.t 25) none (some (.t 26))), oo 28 (.mkf 114 [(.t 4)]), oo 29 (.cl (.c (.fn 113 [])) [(.t 27), (.t 28)])])
 (.cond (.t 29) (.seq (.reg [oo 2 (.mv (.c (.bool false)))])
 .ret)
 .skip)))))
 (.reg [oo 30 (.bin .add (.t 10) (.c (.j 1))), om 10 30])))))))
 (.seq (.reg [oo 2 (.mv (.c (.bool true)))])
 .ret))))
theorem k_impl_ItemsOk : FnOk Try.prog 84 31 rc_impl_ItemsOk [.t 2] := ⟨Try.f84, _, [], Try.func84, rfl, rfl, by kernel_rfl, by kernel_rfl, follows⟩
theorem ok_impl_ItemsOk : okF Try.prog 84 = true := by kernel_rfl
def rc_impl_needed_1 : RC :=
 (.seq (.reg [oo 2 (.bx (.t 0)), oo 3 (.mv (.c (.bool false)))])
 (.seq (.reg [oo 4 (.fa 0 (.t 2)), oo 5 (.ld false 1 (.t 4)), oo 6 (.fa 0 (.t 1)), oo 7 (.ld false 1 (.t 6)), oo 8 (.bin .eql (.t 5) (.t 7)), om 3 8])
 .ret))
theorem k_impl_needed_1 : FnOk Try.prog 115 9 rc_impl_needed_1 [.t 3] := ⟨Try.f115, _, [], Try.func115, rfl, rfl, by kernel_rfl, by kernel_rfl, follows⟩
theorem ok_impl_needed_1 : okF Try.prog 115 = true := by kernel_rfl
def rc_impl_needed_2 : RC :=
 (.seq (.reg [oo 2 (.bx (.t 0)), oo 3 (.mv (.c (.bool false)))])
 (.seq (.reg [oo 4 (.fa 1 (.t 2)), oo 5 (.fa 1 (.t 4)), oo 6 (.ld false 1 (.t 5)), oo 7 (.fa 1 (.t 1)), oo 8 (.ld false 1 (.t 7)), oo 9 (.bin .eql (.t 6) (.t 8)), om 10 9, ⟨(some 11), (some (10, true)), .fa 1 (.t 2)⟩, ⟨(some 12), (some (10, true)), .fa 0 (.t 11)⟩, ⟨(some 13), (some (10, true)), .ld false 1 (.t 12)⟩, ⟨(some 14), (some (10, true)), .bin .neq (.t 13) (.c (.j 2))⟩, oo 15 (.pick (.t 10) (.t 14) (.c (.bool false))), om 3 15])
 .ret))
theorem k_impl_needed_2 : FnOk Try.prog 117 16 rc_impl_needed_2 [.t 3] := ⟨Try.f117, _, [], Try.func117, rfl, rfl, by kernel_rfl, by kernel_rfl, follows⟩
theorem ok_impl_needed_2 : okF Try.prog 117 = true := by kernel_rfl
def rc_impl_bySeq : RC :=
 (.seq (.reg [oo 2 (.bx (.t 0)), oo 3 (.bx (.t 1)), oo 4 (.mv (.c (.bool false)))])
 (.seq (.reg [oo 5 (.fa 0 (.t 2)), oo 6 (.ld false 1 (.t 5)), oo 7 (.fa 0 (.t 3)), oo 8 (.ld false 1 (.t 7)), oo 9 (.bin .lss (.t 6) (.t 8)), om 4 9])
 .ret))
theorem k_impl_bySeq : FnOk Try.prog 121 10 rc_impl_bySeq [.t 4] := ⟨Try.f121, _, [], Try.func121, rfl, rfl, by kernel_rfl, by kernel_rfl, follows⟩
theorem ok_impl_bySeq : okF Try.prog 121 = true := by kernel_rfl
def rc_impl_about : RC :=
 (.seq (.reg [oo 3 (.bx (.t 0)), oo 6 (.mv (.c (.bool false)))])
 (.seq (.reg [oo 7 (.fa 0 (.t 3)), oo 8 (.ld false 1 (.t 7)), om 9 1, oo 10 (.bin .eql (.t 8) (.t 9)), om 11 10, ⟨(some 12), (some (11, true)), .fa 1 (.t 3)⟩, ⟨(some 13), (some (11, true)), .ld false 1 (.t 12)⟩, ⟨(some 14), (some (11, true)), .mv (.t 2)⟩, ⟨(some 15), (some (11, true)), .bin .eql (.t 13) (.t 14)⟩, oo 16 (.pick (.t 11) (.t 15) (.c (.bool false))), om 6 16])
 .ret))
theorem k_impl_about : FnOk Try.prog 120 17 rc_impl_about [.t 6] := ⟨Try.f120, _, [], Try.func120, rfl, rfl, by kernel_rfl, by kernel_rfl, follows⟩
theorem ok_impl_about : okF Try.prog 120 = true := by kernel_rfl
def rc_impl_boxThere_1 : RC :=
 (.seq (.reg [oo 2 (.bx (.t 0)), oo 3 (.mv (.c (.bool false)))])
 (.seq (.reg [oo 4 (.ld true 8 (.t 2)), oo 5 (.ld false 1 (.t 1)), oo 6 (.cl (.c (.fn 120 [])) [(.t 4), (.c (.j 2)), (.t 5)]), om 3 6])
 .ret))
theorem k_impl_boxThere_1 : FnOk Try.prog 150 7 rc_impl_boxThere_1 [.t 3] := ⟨Try.f150, _, [], Try.func150, rfl, rfl, by kernel_rfl, by kernel_rfl, follows⟩
theorem ok_impl_boxThere_1 : okF Try.prog 150 = true := by kernel_rfl
def rc_impl_latest : RC :=
 (.seq (.reg [oo 6 (.al [.j 0, .j 0, .j 0, .j 0, .j 0, .j 0, .str [], .str [], .str []]), oo 7 (.mv (.c (.bool false)))])
 (.seq (.reg [oo 12 (.bld [.j 0, .j 0, .j 0, .j 0, .j 0, .j 0, .str [], .str [], .str []] [(0, 1), (1, 8)] []), oo 8 (.al [.j 0, .j 0, .j 0, .j 0, .j 0, .j 0, .str [], .str [], .str []]), on (.st 9 (.t 8) (.t 12)), oo 9 (.mv (.c (.bool false)))])
 (.seq (.seq (.reg [om 13 0, oo 14 (.lenl (.t 13)), oo 15 (.mv (.c (.j 0)))])
 (.blk 0 (.loop (.seq (.reg [oo 16 (.bin .lss (.t 15) (.t 14))])
 (.seq (.cond (.t 16) .skip
 (.exit 0))
 (.seq (.blk 1 (.seq (.reg [oo 17 (.ia 9 (.t 13) (.t 15)), oo 18 (.ld true 9 (.t 17)), oo 11 (.al [.j 0, .j 0, .j 0, .j 0, .j 0, .j 0, .str [], .str [], .str []]), on (.st 9 (.t 11) (.t 18))])
 (.seq (.reg [om 19 1, oo 20 (.fa 1 (.t 11)), oo 21 (.ld true 8 (.t 20)), oo 22 (.cl (.t 19) [(.t 21)]), om 23 22, ⟨(some 24), (some (23, true)), .mv (.t 9)⟩, ⟨(some 25), (some (23, true)), .un .not (.t 24)⟩, ⟨(some 26), (some (23, true)), .mv (.t 25)⟩, ⟨(some 27), (some (26, false)), .mv (.t 2)⟩, ⟨(some 28), (some (26, false)), .ld true 9 (.t 8)⟩, ⟨(some 29), (some (26, false)), .ld true 9 (.t 11)⟩, ⟨(some 30), (some (26, false)), .cl (.t 27) [(.t 28), (.t 29)]⟩, ⟨(some 31), (some (23, true)), .pick (.t 26) (.c (.bool true)) (.t 30)⟩, oo 32 (.pick (.t 23) (.t 31) (.c (.bool false)))])
 (.cond (.t 32) (.reg [oo 33 (.ld true 9 (.t 11)), on (.st 9 (.t 8) (.t 33)), oo 9 (.mv (.c (.bool true)))])
 .skip))))
 (.reg [oo 34 (.bin .add (.t 15) (.c (.j 1))), om 15 34])))))))
 (.seq (.reg [oo 35 (.ld true 9 (.t 8)), om 36 9, on (.st 9 (.t 6) (.t 35)), om 7 36])
 .ret))))
theorem k_impl_latest : FnOk Try.prog 118 37 rc_impl_latest [.cell 6 true 9, .t 7] := ⟨Try.f118, _, [], Try.func118, rfl, rfl, by kernel_rfl, by kernel_rfl, follows⟩
theorem ok_impl_latest : okF Try.prog 118 = true := by kernel_rfl
def rc_impl_boxThere_2 : RC :=
 (.seq (.reg [oo 2 (.bx (.t 0)), oo 3 (.mv (.c (.bool false)))])
 (.seq (.reg [oo 4 (.ld true 8 (.t 2)), oo 5 (.ld false 1 (.t 1)), oo 6 (.cl (.c (.fn 120 [])) [(.t 4), (.c (.j 1)), (.t 5)]), om 3 6])
 .ret))
theorem k_impl_boxThere_2 : FnOk Try.prog 151 7 rc_impl_boxThere_2 [.t 3] := ⟨Try.f151, _, [], Try.func151, rfl, rfl, by kernel_rfl, by kernel_rfl, follows⟩
theorem ok_impl_boxThere_2 : okF Try.prog 151 = true := by kernel_rfl
def rc_impl_byNext : RC :=
 (.seq (.reg [oo 2 (.bx (.t 0)), oo 3 (.bx (.t 1)), oo 4 (.mv (.c (.bool false)))])
 (.seq (.seq (.reg [oo 5 (.fa 1 (.t 2)), oo 6 (.fa 3 (.t 5)), oo 7 (.ld false 1 (.t 6)), oo 8 (.fa 1 (.t 3)), oo 9 (.fa 3 (.t 8)), oo 10 (.ld false 1 (.t 9)), oo 11 (.bin .neq (.t 7) (.t 10))])
 (.cond (.t 11) (.seq (.reg [oo 12 (.fa 1 (.t 2)), oo 13 (.fa 3 (.t 12)), oo 14 (.ld false 1 (.t 13)), oo 15 (.fa 1 (.t 3)), oo 16 (.fa 3 (.t 15)), oo 17 (.ld false 1 (.t 16)), oo 18 (.bin .lss (.t 14) (.t 17)), om 4 18])
 .ret)
 .skip))
 (.seq (.reg [oo 19 (.fa 0 (.t 2)), oo 20 (.ld false 1 (.t 19)), oo 21 (.fa 0 (.t 3)), oo 22 (.ld false 1 (.t 21)), oo 23 (.bin .lss (.t 20) (.t 22)), om 4 23])
 .ret)))
theorem k_impl_byNext : FnOk Try.prog 152 24 rc_impl_byNext [.t 4] := ⟨Try.f152, _, [], Try.func152, rfl, rfl, by kernel_rfl, by kernel_rfl, follows⟩
theorem ok_impl_byNext : okF Try.prog 152 = true := by kernel_rfl
def rc_impl_boxThere : RC :=
 (.seq (.reg [oo 3 (.bx (.t 1)), oo 4 (.al [.j 0, .j 0, .j 0, .j 0, .j 0, .j 0, .str [], .str [], .str []]), oo 5 (.mv (.c (.bool false)))])
 (.seq (.seq (.reg [om 9 0, oo 10 (.mkf 150 [(.t 3)]), oo 11 (.cl (.c (.fn 118 [])) [(.t 9), (.t 10), (.c (.fn 121 []))]), om 8 11, oo 12 (.ext (.t 8) 0), oo 13 (.ext (.t 8) 1), oo 6 (.al [.j 0, .j 0, .j 0, .j 0, .j 0, .j 0, .str [], .str [], .str []]), on (.st 9 (.t 6) (.t 12)), om 7 13])
 (.seq (.reg [om 14 7])
 (.cond (.t 14) (.seq (.reg [oo 15 (.bld [.j 0, .j 0, .j 0, .j 0, .j 0, .j 0, .str [], .str [], .str []] [(0, 1), (1, 8)] []), on (.st 9 (.t 4) (.t 15)), oo 5 (.mv (.c (.bool false)))])
 .ret)
 .skip)))
 (.seq (.reg [om 16 0, oo 17 (.mkf 151 [(.t 3)]), oo 18 (.cl (.c (.fn 118 [])) [(.t 16), (.t 17), (.c (.fn 152 []))]), oo 19 (.ext (.t 18) 0), oo 20 (.ext (.t 18) 1), on (.st 9 (.t 4) (.t 19)), om 5 20])
 .ret)))
theorem k_impl_boxThere : FnOk Try.prog 116 21 rc_impl_boxThere [.cell 4 true 9, .t 5] := ⟨Try.f116, _, [], Try.func116, rfl, rfl, by kernel_rfl, by kernel_rfl, follows⟩
theorem ok_impl_boxThere : okF Try.prog 116 = true := by kernel_rfl
def rc_impl_needed_3 : RC :=
 (.seq (.reg [oo 2 (.bx (.t 0)), oo 3 (.mv (.c (.bool false)))])
 (.seq (.reg [oo 4 (.ld true 8 (.t 2)), oo 5 (.fa 1 (.t 1)), oo 6 (.ld false 1 (.t 5)), oo 7 (.cl (.c (.fn 120 [])) [(.t 4), (.c (.j 2)), (.t 6)]), om 3 7])
 .ret))
theorem k_impl_needed_3 : FnOk Try.prog 119 8 rc_impl_needed_3 [.t 3] := ⟨Try.f119, _, [], Try.func119, rfl, rfl, by kernel_rfl, by kernel_rfl, follows⟩
theorem ok_impl_needed_3 : okF Try.prog 119 = true := by kernel_rfl
def rc_impl_mailItem_1 : RC :=
 (.seq (.reg [oo 4 (.bx (.t 0)), oo 5 (.mv (.c (.bool false)))])
 (.seq (.reg [oo 6 (.ld true 8 (.t 4)), oo 7 (.ld false 1 (.t 1)), oo 8 (.ld false 1 (.t 2)), oo 9 (.cl (.c (.fn 120 [])) [(.t 6), (.t 7), (.t 8)]), om 10 9, ⟨(some 11), (some (10, true)), .fa 2 (.t 4)⟩, ⟨(some 12), (some (10, true)), .ld false 1 (.t 11)⟩, ⟨(some 13), (some (10, true)), .ld false 1 (.t 3)⟩, ⟨(some 14), (some (10, true)), .bin .eql (.t 12) (.t 13)⟩, oo 15 (.pick (.t 10) (.t 14) (.c (.bool false))), om 5 15])
 .ret))
theorem k_impl_mailItem_1 : FnOk Try.prog 153 16 rc_impl_mailItem_1 [.t 5] := ⟨Try.f153, _, [], Try.func153, rfl, rfl, by kernel_rfl, by kernel_rfl, follows⟩
theorem ok_impl_mailItem_1 : okF Try.prog 153 = true := by kernel_rfl
def rc_impl_mailItem : RC :=
 (.seq (.reg [oo 5 (.bx (.t 1)), oo 6 (.bx (.t 2)), oo 7 (.bx (.t 3)), oo 8 (.al [.j 0, .j 0, .j 0, .j 0, .j 0, .j 0, .str [], .str [], .str []]), oo 9 (.mv (.c (.bool false)))])
 (.seq (.reg [om 10 0, oo 11 (.mkf 153 [(.t 5), (.t 6), (.t 7)]), oo 12 (.cl (.c (.fn 118 [])) [(.t 10), (.t 11), (.c (.fn 121 []))]), oo 13 (.ext (.t 12) 0), oo 14 (.ext (.t 12) 1), on (.st 9 (.t 8) (.t 13)), om 9 14])
 .ret))
theorem k_impl_mailItem : FnOk Try.prog 123 15 rc_impl_mailItem [.cell 8 true 9, .t 9] := ⟨Try.f123, _, [], Try.func123, rfl, rfl, by kernel_rfl, by kernel_rfl, follows⟩
theorem ok_impl_mailItem : okF Try.prog 123 = true := by kernel_rfl
def rc_impl_mailThere : RC :=
 (.seq (.reg [oo 6 (.al [.j 0, .j 0, .j 0, .j 0, .j 0, .j 0, .str [], .str [], .str []]), oo 7 (.mv (.c (.bool false)))])
 (.seq (.seq (.reg [om 13 0, om 14 1, oo 15 (.cl (.c (.fn 116 [])) [(.t 13), (.t 14)]), om 12 15, oo 16 (.ext (.t 12) 0), oo 17 (.ext (.t 12) 1), oo 8 (.al [.j 0, .j 0, .j 0, .j 0, .j 0, .j 0, .str [], .str [], .str []]), on (.st 9 (.t 8) (.t 16)), om 9 17])
 (.seq (.reg [om 18 9, oo 19 (.un .not (.t 18))])
 (.cond (.t 19) (.seq (.reg [oo 20 (.bld [.j 0, .j 0, .j 0, .j 0, .j 0, .j 0, .str [], .str [], .str []] [(0, 1), (1, 8)] []), on (.st 9 (.t 6) (.t 20)), oo 7 (.mv (.c (.bool false)))])
 .ret)
 .skip)))
 (.seq (.seq (.reg [om 22 0, om 23 1, om 24 2, oo 25 (.cl (.c (.fn 123 [])) [(.t 22), (.c (.j 5)), (.t 23), (.t 24)]), om 21 25, oo 26 (.ext (.t 21) 0), oo 27 (.ext (.t 21) 1), oo 10 (.al [.j 0, .j 0, .j 0, .j 0, .j 0, .j 0, .str [], .str [], .str []]), on (.st 9 (.t 10) (.t 26)), om 11 27])
 (.seq (.reg [om 28 11])
 (.cond (.t 28) (.seq (.reg [oo 29 (.bld [.j 0, .j 0, .j 0, .j 0, .j 0, .j 0, .str [], .str [], .str []] [(0, 1), (1, 8)] []), on (.st 9 (.t 6) (.t 29)), oo 7 (.mv (.c (.bool false)))])
 .ret)
 .skip)))
 (.seq (.reg [om 30 0, om 31 1, om 32 2, oo 33 (.cl (.c (.fn 123 [])) [(.t 30), (.c (.j 3)), (.t 31), (.t 32)]), oo 34 (.ext (.t 33) 0), oo 35 (.ext (.t 33) 1), on (.st 9 (.t 6) (.t 34)), om 7 35])
 .ret))))
theorem k_impl_mailThere : FnOk Try.prog 122 36 rc_impl_mailThere [.cell 6 true 9, .t 7] := ⟨Try.f122, _, [], Try.func122, rfl, rfl, by kernel_rfl, by kernel_rfl, follows⟩
theorem ok_impl_mailThere : okF Try.prog 122 = true := by kernel_rfl
def rc_impl_needed : RC :=
 (.seq (.reg [oo 4 (.mv (.c (.bool false)))])
 (.seq (.reg [om 15 0, om 16 1, oo 17 (.ia 9 (.t 15) (.t 16)), oo 18 (.ld true 9 (.t 17)), oo 5 (.al [.j 0, .j 0, .j 0, .j 0, .j 0, .j 0, .str [], .str [], .str []]), on (.st 9 (.t 5) (.t 18))])
 (.seq (.seq (.reg [om 19 0, om 20 1, oo 21 (.sle 9 (.t 19) none (some (.t 20))), oo 22 (.mkf 115 [(.t 5)]), oo 23 (.cl (.c (.fn 113 [])) [(.t 21), (.t 22)])])
 (.cond (.t 23) (.seq (.reg [oo 4 (.mv (.c (.bool false)))])
 .ret)
 .skip))
 (.seq (.reg [oo 24 (.fa 1 (.t 5)), oo 25 (.ld true 8 (.t 24)), oo 6 (.al [.j 0, .j 0, .j 0, .j 0, .j 0, .str [], .str [], .str []]), on (.st 8 (.t 6) (.t 25))])
 (.seq (.reg [oo 26 (.bld [.j 0, .j 0, .j 0, .j 0, .j 0, .j 0, .str [], .str [], .str []] [(0, 1), (1, 8)] []), oo 7 (.al [.j 0, .j 0, .j 0, .j 0, .j 0, .j 0, .str [], .str [], .str []]), on (.st 9 (.t 7) (.t 26)), oo 8 (.mv (.c (.bool false)))])
 (.seq (.seq (.reg [oo 27 (.fa 0 (.t 6)), oo 28 (.ld false 1 (.t 27))])
 (.blk 0 (.seq (.reg [oo 30 (.bin .eql (.t 28) (.c (.j 1))), om 29 30])
 (.cond (.t 29) (.reg [om 32 0, oo 33 (.fa 1 (.t 6)), oo 34 (.ld false 1 (.t 33)), oo 35 (.cl (.c (.fn 116 [])) [(.t 32), (.t 34)]), om 31 35, oo 36 (.ext (.t 31) 0), oo 37 (.ext (.t 31) 1), on (.st 9 (.t 7) (.t 36)), om 8 37])
 (.seq (.reg [oo 39 (.bin .eql (.t 28) (.c (.j 2))), om 38 39])
 (.cond (.t 38) (.seq (.seq (.reg [om 40 0, oo 41 (.mkf 117 [(.t 6)]), oo 42 (.cl (.c (.fn 113 [])) [(.t 40), (.t 41)]), oo 43 (.un .not (.t 42))])
 (.cond (.t 43) (.seq (.reg [oo 4 (.mv (.c (.bool false)))])
 .ret)
 .skip))
 (.reg [om 45 0, oo 46 (.mkf 119 [(.t 6)]), oo 47 (.cl (.c (.fn 118 [])) [(.t 45), (.t 46), (.c (.fn 121 []))]), om 44 47, oo 48 (.ext (.t 44) 0), oo 49 (.ext (.t 44) 1), on (.st 9 (.t 7) (.t 48)), om 8 49]))
 (.seq (.seq (.reg [oo 51 (.bin .eql (.t 28) (.c (.j 3))), om 50 51])
 (.cond (.t 50) .skip
 (.reg [oo 52 (.bin .eql (.t 28) (.c (.j 4))), om 50 52])))
 (.cond (.t 50) (.seq (.seq (.reg [om 54 0, oo 55 (.fa 1 (.t 6)), oo 56 (.ld false 1 (.t 55)), oo 57 (.fa 2 (.t 6)), oo 58 (.ld false 1 (.t 57)), oo 59 (.cl (.c (.fn 122 [])) [(.t 54), (.t 56), (.t 58)]), om 53 59, oo 60 (.ext (.t 53) 0), oo 61 (.ext (.t 53) 1), oo 9 (.al [.j 0, .j 0, .j 0, .j 0, .j 0, .j 0, .str [], .str [], .str []]), on (.st 9 (.t 9) (.t 60)), om 10 61])
 (.seq (.reg [om 62 10, oo 63 (.un .not (.t 62))])
 (.cond (.t 63) (.seq (.reg [oo 4 (.mv (.c (.bool false)))])
 .ret)
 .skip)))
 (.reg [om 65 0, oo 66 (.fa 0 (.t 6)), oo 67 (.ld false 1 (.t 66)), oo 68 (.fa 1 (.t 6)), oo 69 (.ld false 1 (.t 68)), oo 70 (.fa 2 (.t 6)), oo 71 (.ld false 1 (.t 70)), oo 72 (.cl (.c (.fn 123 [])) [(.t 65), (.t 67), (.t 69), (.t 71)]), om 64 72, oo 73 (.ext (.t 64) 0), oo 74 (.ext (.t 64) 1), on (.st 9 (.t 7) (.t 73)), om 8 74]))
 (.seq (.reg [oo 76 (.bin .eql (.t 28) (.c (.j 5))), om 75 76])
 (.cond (.t 75) (.seq (.reg [om 78 0, oo 79 (.fa 1 (.t 6)), oo 80 (.ld false 1 (.t 79)), oo 81 (.cl (.c (.fn 116 [])) [(.t 78), (.t 80)]), om 77 81, oo 82 (.ext (.t 77) 0), oo 83 (.ext (.t 77) 1), oo 11 (.al [.j 0, .j 0, .j 0, .j 0, .j 0, .j 0, .str [], .str [], .str []]), on (.st 9 (.t 11) (.t 82)), om 12 83])
 (.seq (.reg [om 85 0, oo 86 (.fa 1 (.t 6)), oo 87 (.ld false 1 (.t 86)), oo 88 (.fa 2 (.t 6)), oo 89 (.ld false 1 (.t 88)), oo 90 (.cl (.c (.fn 123 [])) [(.t 85), (.c (.j 3)), (.t 87), (.t 89)]), om 84 90, oo 91 (.ext (.t 84) 0), oo 92 (.ext (.t 84) 1), oo 13 (.al [.j 0, .j 0, .j 0, .j 0, .j 0, .j 0, .str [], .str [], .str []]), on (.st 9 (.t 13) (.t 91)), om 14 92])
 (.seq (.seq (.reg [om 93 12, oo 94 (.un .not (.t 93)), om 95 94, ⟨(some 96), (some (95, false)), .mv (.t 14)⟩, ⟨(some 97), (some (95, false)), .un .not (.t 96)⟩, oo 98 (.pick (.t 95) (.c (.bool true)) (.t 97))])
 (.cond (.t 98) (.seq (.reg [oo 4 (.mv (.c (.bool false)))])
 .ret)
 .skip))
 (.reg [om 100 0, oo 101 (.fa 1 (.t 6)), oo 102 (.ld false 1 (.t 101)), oo 103 (.fa 2 (.t 6)), oo 104 (.ld false 1 (.t 103)), oo 105 (.cl (.c (.fn 123 [])) [(.t 100), (.c (.j 5)), (.t 102), (.t 104)]), om 99 105, oo 106 (.ext (.t 99) 0), oo 107 (.ext (.t 99) 1), on (.st 9 (.t 7) (.t 106)), om 8 107]))))
 .skip))))))))))
 (.seq (.reg [om 108 8, om 109 108, ⟨(some 110), (some (109, true)), .ld true 9 (.t 7)⟩, ⟨(some 111), (some (109, true)), .ld true 9 (.t 5)⟩, ⟨(some 112), (some (109, true)), .equ false [(0, 1), (1, 1), (2, 1), (3, 1), (4, 1), (5, 1), (6, 2), (7, 2), (8, 2)] (.t 110) (.t 111)⟩, oo 113 (.pick (.t 109) (.t 112) (.c (.bool false))), om 4 113])
 .ret)))))))
theorem k_impl_needed : FnOk Try.prog 85 114 rc_impl_needed [.t 4] := ⟨Try.f85, _, [], Try.func85, rfl, rfl, by kernel_rfl, by kernel_rfl, follows⟩
theorem ok_impl_needed : okF Try.prog 85 = true := by kernel_rfl
def rc_impl_NeededAll : RC :=
 (.seq (.reg [oo 2 (.mv (.c (.nils)))])
 (.seq (.reg [om 6 0, oo 7 (.cl (.c (.fn 84 [])) [(.t 6)]), om 3 7])
 (.seq (.reg [oo 8 (.mv (.c (.nils))), om 4 8])
 (.seq (.seq (.reg [om 9 0, oo 10 (.lenl (.t 9)), oo 11 (.mv (.c (.j 0)))])
 (.blk 0 (.loop (.seq (.reg [oo 12 (.bin .lss (.t 11) (.t 10))])
 (.seq (.cond (.t 12) .skip
 (.exit 0))
 (.seq (.blk 1 (.seq (.reg [om 13 11, om 5 13])
 (.reg [om 14 4, om 15 3, om 16 15, ⟨(some 17), (some (16, true)), .mv (.t 0)⟩, ⟨(some 18), (some (16, true)), .mv (.t 5)⟩, ⟨(some 19), (some (16, true)), .cl (.c (.fn 85 [])) [(.t 17), (.t 18)]⟩, oo 20 (.pick (.t 16) (.t 19) (.c (.bool false))), oo 21 (.bs 1 [.bool false] 1 [(0, (.t 20))]), oo 22 (.app 1 1 (.t 14) (.t 21)), om 4 22])))
 (.reg [oo 23 (.bin .add (.t 11) (.c (.j 1))), om 11 23])))))))
 (.seq (.reg [om 24 4, om 2 24])
 .ret)))))
theorem k_impl_NeededAll : FnOk Try.prog 30 25 rc_impl_NeededAll [.t 2] := ⟨Try.f30, _, [], Try.func30, rfl, rfl, by kernel_rfl, by kernel_rfl, follows⟩
theorem ok_impl_NeededAll : okF Try.prog 30 = true := by kernel_rfl
def rc_impl_dropped : RC :=
 (.seq (.reg [oo 4 (.mv (.c (.bool false)))])
 (.seq (.reg [om 5 1, om 6 0, oo 7 (.lenl (.t 6)), oo 8 (.bin .lss (.t 5) (.t 7)), om 9 8, ⟨(some 10), (some (9, true)), .mv (.t 0)⟩, ⟨(some 11), (some (9, true)), .mv (.t 1)⟩, ⟨(some 12), (some (9, true)), .ia 1 (.t 10) (.t 11)⟩, ⟨(some 13), (some (9, true)), .ld false 1 (.t 12)⟩, oo 14 (.pick (.t 9) (.t 13) (.c (.bool false))), om 4 14])
 .ret))
theorem k_impl_dropped : FnOk Try.prog 78 15 rc_impl_dropped [.t 4] := ⟨Try.f78, _, [], Try.func78, rfl, rfl, by kernel_rfl, by kernel_rfl, follows⟩
theorem ok_impl_dropped : okF Try.prog 78 = true := by kernel_rfl
def rc_impl_Without : RC :=
 (.seq (.reg [oo 4 (.mv (.c (.nils)))])
 (.seq (.reg [oo 8 (.mv (.c (.nils))), om 5 8])
 (.seq (.seq (.reg [om 9 0, oo 10 (.lenl (.t 9)), oo 11 (.mv (.c (.j 0)))])
 (.blk 0 (.loop (.seq (.reg [oo 12 (.bin .lss (.t 11) (.t 10))])
 (.seq (.cond (.t 12) .skip
 (.exit 0))
 (.seq (.blk 1 (.seq (.reg [om 13 11, oo 14 (.ia 9 (.t 9) (.t 11)), oo 15 (.ld true 9 (.t 14)), oo 7 (.al [.j 0, .j 0, .j 0, .j 0, .j 0, .j 0, .str [], .str [], .str []]), om 6 13, on (.st 9 (.t 7) (.t 15))])
 (.seq (.reg [om 16 1, om 17 6, oo 18 (.cl (.c (.fn 78 [])) [(.t 16), (.t 17)]), oo 19 (.un .not (.t 18))])
 (.cond (.t 19) (.reg [om 20 5, oo 21 (.ld true 9 (.t 7)), oo 22 (.bs 9 [.j 0, .j 0, .j 0, .j 0, .j 0, .j 0, .str [], .str [], .str []] 1 [(0, (.t 21))]), oo 23 (.app 9 96 (.t 20) (.t 22)), om 5 23])
 .skip))))
 (.reg [oo 24 (.bin .add (.t 11) (.c (.j 1))), om 11 24])))))))
 (.seq (.reg [om 25 5, om 4 25])
 .ret))))
theorem k_impl_Without : FnOk Try.prog 33 26 rc_impl_Without [.t 4] := ⟨Try.f33, _, [], Try.func33, rfl, rfl, by kernel_rfl, by kernel_rfl, follows⟩
theorem ok_impl_Without : okF Try.prog 33 = true := by kernel_rfl
def rc_impl_StateOf_1 : RC :=
 (.seq (.reg [oo 1 (.bx (.t 0)), oo 2 (.mv (.c (.j 0))), oo 3 (.mv (.c (.bool false)))])
 (.seq (.drw [oo 4 (.fa 1 (.t 1)), oo 5 (.ld false 1 (.t 4)), oo 6 (.fa 0 (.t 1)), oo 7 (.ld false 1 (.t 6)), oo 8 (.bin .eql (.t 7) (.c (.j 1))), om 2 5, om 3 8] [.val [], .val [], .val [], .val [], .val [], .val [], .val []])
 .ret))
theorem k_impl_StateOf_1 : FnOk Try.prog 132 9 rc_impl_StateOf_1 [.t 2, .t 3] := ⟨Try.f132, _, [], Try.func132, rfl, rfl, by kernel_rfl, by kernel_rfl, follows⟩
theorem ok_impl_StateOf_1 : okF Try.prog 132 = true := by kernel_rfl
def rc_impl_numbers : RC :=
 (.seq (.reg [oo 4 (.mv (.c (.nils)))])
 (.seq (.reg [oo 10 (.mv (.c (.nils))), om 5 10])
 (.seq (.seq (.reg [om 11 0, oo 12 (.lenl (.t 11)), oo 13 (.mv (.c (.j 0)))])
 (.blk 0 (.loop (.seq (.reg [oo 14 (.bin .lss (.t 13) (.t 12))])
 (.seq (.cond (.t 14) .skip
 (.exit 0))
 (.seq (.blk 1 (.seq (.reg [oo 15 (.ia 9 (.t 11) (.t 13)), oo 16 (.ld true 9 (.t 15)), oo 7 (.al [.j 0, .j 0, .j 0, .j 0, .j 0, .j 0, .str [], .str [], .str []]), on (.st 9 (.t 7) (.t 16))])
 (.seq (.reg [om 18 1, oo 19 (.fa 1 (.t 7)), oo 20 (.ld true 8 (.t 19)), oo 21 (.cl (.t 18) [(.t 20)]), om 17 21, oo 22 (.ext (.t 17) 0), oo 23 (.ext (.t 17) 1), om 8 22, om 9 23])
 (.seq (.reg [om 24 9])
 (.cond (.t 24) (.reg [om 25 5, om 26 8, oo 27 (.bs 1 [.j 0] 1 [(0, (.t 26))]), oo 28 (.app 1 8 (.t 25) (.t 27)), om 5 28])
 .skip)))))
 (.reg [oo 29 (.bin .add (.t 13) (.c (.j 1))), om 13 29])))))))
 (.seq (.reg [om 30 5, oo 31 (.cl (.c (.fn 155 [])) [(.t 30)])])
 (.seq (.reg [om 32 5, oo 33 (.cl (.c (.fn 156 [])) [(.t 32)]), om 4 33])
 .ret)))))
theorem k_impl_numbers : FnOk Try.prog 131 34 rc_impl_numbers [.t 4] := ⟨Try.f131, _, [], Try.func131, rfl, rfl, by kernel_rfl, by kernel_rfl, follows⟩
theorem ok_impl_numbers : okF Try.prog 131 = true := by kernel_rfl
def rc_impl_boxState_1 : RC :=
 (.seq (.reg [oo 2 (.bx (.t 0)), oo 3 (.mv (.c (.j 0))), oo 4 (.mv (.c (.bool false)))])
 (.seq (.drw [oo 5 (.fa 2 (.t 2)), oo 6 (.ld false 1 (.t 5)), oo 7 (.ld true 8 (.t 2)), oo 8 (.ld false 1 (.t 1)), oo 9 (.cl (.c (.fn 120 [])) [(.t 7), (.c (.j 3)), (.t 8)]), om 10 9, ⟨(some 11), (some (10, false)), .ld true 8 (.t 2)⟩, ⟨(some 12), (some (10, false)), .ld false 1 (.t 1)⟩, ⟨(some 13), (some (10, false)), .cl (.c (.fn 120 [])) [(.t 11), (.c (.j 5)), (.t 12)]⟩, oo 14 (.pick (.t 10) (.c (.bool true)) (.t 13)), om 3 6, om 4 14] [.val [], .val [], .val [], .val [], .val [], .val [], .val [], .val [], .val [], .val [], .val [], .val []])
 .ret))
theorem k_impl_boxState_1 : FnOk Try.prog 157 15 rc_impl_boxState_1 [.t 3, .t 4] := ⟨Try.f157, _, [], Try.func157, rfl, rfl, by kernel_rfl, by kernel_rfl, follows⟩
theorem ok_impl_boxState_1 : okF Try.prog 157 = true := by kernel_rfl
def rc_impl_boxState : RC :=
 (.seq (.reg [oo 3 (.bx (.t 1)), oo 4 (.al [.j 0, .str [], .str [], .j 0, .nils])])
 (.seq (.reg [oo 15 (.fa 1 (.t 3)), oo 16 (.fa 1 (.t 15)), oo 17 (.ld false 1 (.t 16)), oo 5 (.al [.j 0]), on (.st 1 (.t 5) (.t 17))])
 (.seq (.reg [oo 18 (.ld false 1 (.t 5)), oo 19 (.fa 1 (.t 3)), oo 20 (.fa 5 (.t 19)), oo 21 (.ld false 1 (.t 20)), oo 22 (.fa 1 (.t 3)), oo 23 (.fa 6 (.t 22)), oo 24 (.ld false 1 (.t 23)), oo 25 (.fa 1 (.t 3)), oo 26 (.fa 3 (.t 25)), oo 27 (.ld false 1 (.t 26)), oo 28 (.bld [.j 0, .str [], .str [], .j 0, .nils] [(0, 1), (1, 1), (2, 1), (3, 1), (4, 1)] [(0, (.t 18)), (1, (.t 21)), (2, (.t 24)), (3, (.t 27))]), oo 6 (.al [.j 0, .str [], .str [], .j 0, .nils]), on (.st 5 (.t 6) (.t 28))])
 (.seq (.reg [om 29 0, oo 30 (.mkf 157 [(.t 5)]), oo 31 (.cl (.c (.fn 131 [])) [(.t 29), (.t 30)]), om 7 31])
 (.seq (.seq (.reg [om 32 7, oo 33 (.lenl (.t 32)), oo 34 (.mv (.c (.j 0)))])
 (.blk 0 (.loop (.seq (.reg [oo 35 (.bin .lss (.t 34) (.t 33))])
 (.seq (.cond (.t 35) .skip
 (.exit 0))
 (.seq (.blk 1 (.seq (.reg [oo 36 (.ia 1 (.t 32) (.t 34)), oo 37 (.ld false 1 (.t 36)), om 9 37])
 (.seq (.reg [oo 38 (.fa 3 (.t 6)), oo 39 (.ld false 1 (.t 38)), om 40 9, oo 41 (.bin .add (.t 40) (.c (.j 1))), oo 42 (.mx (.t 39) (.t 41)), oo 43 (.fa 3 (.t 6)), on (.st 1 (.t 43) (.t 42))])
 (.seq (.reg [om 45 0, oo 46 (.ld false 1 (.t 5)), om 47 9, oo 48 (.cl (.c (.fn 122 [])) [(.t 45), (.t 46), (.t 47)]), om 44 48, oo 49 (.ext (.t 44) 0), oo 50 (.ext (.t 44) 1), oo 10 (.al [.j 0, .j 0, .j 0, .j 0, .j 0, .j 0, .str [], .str [], .str []]), on (.st 9 (.t 10) (.t 49)), om 11 50])
 (.seq (.seq (.reg [om 51 11, oo 52 (.un .not (.t 51))])
 (.cond (.t 52) (.exit 1)
 .skip))
 (.seq (.reg [om 53 9, oo 54 (.fa 1 (.t 10)), oo 55 (.fa 4 (.t 54)), oo 56 (.ld false 1 (.t 55)), oo 57 (.fa 1 (.t 10)), oo 58 (.fa 7 (.t 57)), oo 59 (.ld false 1 (.t 58)), oo 60 (.bld [.j 0, .j 0, .str []] [(0, 1), (1, 1), (2, 1)] [(0, (.t 53)), (1, (.t 56)), (2, (.t 59))]), oo 12 (.al [.j 0, .j 0, .str []]), on (.st 3 (.t 12) (.t 60))])
 (.seq (.seq (.reg [om 62 0, oo 63 (.ld false 1 (.t 5)), om 64 9, oo 65 (.cl (.c (.fn 123 [])) [(.t 62), (.c (.j 4)), (.t 63), (.t 64)]), om 61 65, oo 66 (.ext (.t 61) 0), oo 67 (.ext (.t 61) 1), oo 13 (.al [.j 0, .j 0, .j 0, .j 0, .j 0, .j 0, .str [], .str [], .str []]), on (.st 9 (.t 13) (.t 66)), om 14 67])
 (.seq (.reg [om 68 14])
 (.cond (.t 68) (.reg [oo 69 (.fa 1 (.t 13)), oo 70 (.fa 4 (.t 69)), oo 71 (.ld false 1 (.t 70)), oo 72 (.fa 1 (.t 12)), on (.st 1 (.t 72) (.t 71))])
 .skip)))
 (.reg [oo 73 (.fa 4 (.t 6)), oo 74 (.ld false 1 (.t 73)), oo 75 (.ld true 3 (.t 12)), oo 76 (.bs 3 [.j 0, .j 0, .str []] 1 [(0, (.t 75))]), oo 77 (.app 3 32 (.t 74) (.t 76)), oo 78 (.fa 4 (.t 6)), on (.st 1 (.t 78) (.t 77))]))))))))
 (.reg [oo 79 (.bin .add (.t 34) (.c (.j 1))), om 34 79])))))))
 (.seq (.reg [oo 80 (.ld true 5 (.t 6)), on (.st 5 (.t 4) (.t 80))])
 .ret))))))
theorem k_impl_boxState : FnOk Try.prog 133 81 rc_impl_boxState [.cell 4 true 5] := ⟨Try.f133, _, [], Try.func133, rfl, rfl, by kernel_rfl, by kernel_rfl, follows⟩
theorem ok_impl_boxState : okF Try.prog 133 = true := by kernel_rfl
def rc_impl_StateOf : RC :=
 (.seq (.reg [oo 2 (.al [.nils])])
 (.seq (.seq (.reg [om 8 0, oo 9 (.cl (.c (.fn 84 [])) [(.t 8)]), oo 10 (.un .not (.t 9))])
 (.cond (.t 10) (.seq (.reg [oo 11 (.bld [.nils] [(0, 1)] []), on (.st 1 (.t 2) (.t 11))])
 .ret)
 .skip))
 (.seq (.reg [oo 12 (.bld [.nils] [(0, 1)] []), oo 3 (.al [.nils]), on (.st 1 (.t 3) (.t 12))])
 (.seq (.seq (.reg [om 13 0, oo 14 (.cl (.c (.fn 131 [])) [(.t 13), (.c (.fn 132 []))]), oo 15 (.lenl (.t 14)), oo 16 (.mv (.c (.j 0)))])
 (.blk 0 (.loop (.seq (.reg [oo 17 (.bin .lss (.t 16) (.t 15))])
 (.seq (.cond (.t 17) .skip
 (.exit 0))
 (.seq (.blk 1 (.seq (.reg [oo 18 (.ia 1 (.t 14) (.t 16)), oo 19 (.ld false 1 (.t 18)), om 5 19])
 (.seq (.reg [om 21 0, om 22 5, oo 23 (.cl (.c (.fn 116 [])) [(.t 21), (.t 22)]), om 20 23, oo 24 (.ext (.t 20) 0), oo 25 (.ext (.t 20) 1), oo 6 (.al [.j 0, .j 0, .j 0, .j 0, .j 0, .j 0, .str [], .str [], .str []]), on (.st 9 (.t 6) (.t 24)), om 7 25])
 (.seq (.reg [om 26 7])
 (.cond (.t 26) (.drw [oo 27 (.fa 0 (.t 3)), oo 28 (.ld false 1 (.t 27)), om 29 0, oo 30 (.ld true 9 (.t 6)), oo 31 (.cl (.c (.fn 133 [])) [(.t 29), (.t 30)]), oo 32 (.bs 5 [.j 0, .str [], .str [], .j 0, .nils] 1 [(0, (.t 31))]), oo 33 (.app 5 72 (.t 28) (.t 32)), oo 34 (.fa 0 (.t 3)), on (.st 1 (.t 34) (.t 33))] [.val [], .val [], .val [], .val [], .chn [0, 1], .chn [0, 1], .chn [], .val [], .chn []])
 .skip)))))
 (.reg [oo 35 (.bin .add (.t 16) (.c (.j 1))), om 16 35])))))))
 (.seq (.reg [oo 36 (.ld true 1 (.t 3)), on (.st 1 (.t 2) (.t 36))])
 .ret)))))
theorem k_impl_StateOf : FnOk Try.prog 91 37 rc_impl_StateOf [.cell 2 true 1] := ⟨Try.f91, _, [(9, [4])], Try.func91, rfl, rfl, by kernel_rfl, by kernel_rfl, follows⟩
theorem ok_impl_StateOf : okF Try.prog 91 = true := by kernel_rfl
def rc_impl_NextsOf_1 : RC :=
 (.seq (.reg [oo 2 (.bx (.t 0)), oo 3 (.mv (.c (.bool false)))])
 (.seq (.reg [oo 4 (.fa 0 (.t 2)), oo 5 (.ld false 1 (.t 4)), oo 6 (.fa 0 (.t 1)), oo 7 (.ld false 1 (.t 6)), oo 8 (.bin .eql (.t 5) (.t 7)), om 3 8])
 .ret))
theorem k_impl_NextsOf_1 : FnOk Try.prog 93 9 rc_impl_NextsOf_1 [.t 3] := ⟨Try.f93, _, [], Try.func93, rfl, rfl, by kernel_rfl, by kernel_rfl, follows⟩
theorem ok_impl_NextsOf_1 : okF Try.prog 93 = true := by kernel_rfl
def rc_slices_IndexFunc_Box : RC :=
 (.seq (.reg [oo 4 (.mv (.c (.j 0)))])
 (.seq (.seq (.reg [om 6 0, oo 7 (.lenl (.t 6)), oo 8 (.mv (.c (.j 0)))])
 (.blk 0 (.loop (.seq (.reg [oo 9 (.bin .lss (.t 8) (.t 7))])
 (.seq (.cond (.t 9) .skip
 (.exit 0))
 (.seq (.blk 1 (.seq (.reg [om 10 8, om 5 10])
 (.seq (.reg [om 11 1, om 12 0, om 13 5, oo 14 (.ia 5 (.t 12) (.t 13)), oo 15 (.ld true 5 (.t 14)), oo 16 (.cl (.t 11) [(.t 15)])])
 (.cond (.t 16) (.seq (.reg [om 17 5, om 4 17])
 .ret)
 .skip))))
 (.reg [oo 18 (.bin .add (.t 8) (.c (.j 1))), om 8 18])))))))
 (.seq (.reg [oo 4 (.mv (.c (.j (-1))))])
 .ret)))
theorem k_slices_IndexFunc_Box : FnOk Try.prog 92 19 rc_slices_IndexFunc_Box [.t 4] := ⟨Try.f92, _, [], Try.func92, rfl, rfl, by kernel_rfl, by kernel_rfl, follows⟩
theorem ok_slices_IndexFunc_Box : okF Try.prog 92 = true := by kernel_rfl
def rc_impl_NextsOf : RC :=
 (.seq (.reg [oo 4 (.mv (.c (.nils)))])
 (.seq (.reg [om 10 0, om 11 1, oo 12 (.cl (.c (.fn 33 [])) [(.t 10), (.t 11)]), oo 13 (.cl (.c (.fn 91 [])) [(.t 12)]), oo 5 (.al [.nils]), on (.st 1 (.t 5) (.t 13))])
 (.seq (.reg [oo 14 (.mv (.c (.nils))), om 6 14])
 (.seq (.seq (.reg [om 15 0, oo 16 (.cl (.c (.fn 91 [])) [(.t 15)]), oo 17 (.fld 0 1 false (.t 16)), oo 18 (.lenl (.t 17)), oo 19 (.mv (.c (.j 0)))])
 (.blk 0 (.loop (.seq (.reg [oo 20 (.bin .lss (.t 19) (.t 18))])
 (.seq (.cond (.t 20) .skip
 (.exit 0))
 (.seq (.blk 1 (.seq (.reg [oo 21 (.ia 5 (.t 17) (.t 19)), oo 22 (.ld true 5 (.t 21)), oo 8 (.al [.j 0, .str [], .str [], .j 0, .nils]), on (.st 5 (.t 8) (.t 22))])
 (.seq (.reg [oo 23 (.fa 0 (.t 5)), oo 24 (.ld false 1 (.t 23)), oo 25 (.mkf 93 [(.t 8)]), oo 26 (.cl (.c (.fn 92 [])) [(.t 24), (.t 25)]), om 9 26])
 (.seq (.drw [om 27 9, oo 28 (.bin .lss (.t 27) (.c (.j 0))), om 29 28, ⟨(some 30), (some (29, false)), .fa 0 (.t 5)⟩, ⟨(some 31), (some (29, false)), .ld false 1 (.t 30)⟩, ⟨(some 32), (some (29, false)), .mv (.t 9)⟩, ⟨(some 33), (some (29, false)), .ia 5 (.t 31) (.t 32)⟩, ⟨(some 34), (some (29, false)), .fa 3 (.t 33)⟩, ⟨(some 35), (some (29, false)), .ld false 1 (.t 34)⟩, ⟨(some 36), (some (29, false)), .fa 3 (.t 8)⟩, ⟨(some 37), (some (29, false)), .ld false 1 (.t 36)⟩, ⟨(some 38), (some (29, false)), .bin .lss (.t 35) (.t 37)⟩, oo 39 (.pick (.t 29) (.c (.bool true)) (.t 38))] [.val [], .val [], .val [], .val [], .val [], .val [], .val [], .val [], .val [], .val [], .val [], .val [], .val []])
 (.cond (.t 39) (.reg [om 40 6, oo 41 (.fa 0 (.t 8)), oo 42 (.ld false 1 (.t 41)), oo 43 (.fa 3 (.t 8)), oo 44 (.ld false 1 (.t 43)), oo 45 (.fa 1 (.t 8)), oo 46 (.ld false 1 (.t 45)), oo 47 (.fa 2 (.t 8)), oo 48 (.ld false 1 (.t 47)), oo 49 (.bld [.j 0, .j 0, .j 0, .j 0, .j 0, .str [], .str [], .str []] [(0, 1), (1, 1), (2, 1), (3, 1), (4, 1), (5, 1), (6, 1), (7, 1)] [(0, (.c (.j 1))), (1, (.t 42)), (3, (.t 44)), (5, (.t 46)), (6, (.t 48))]), oo 50 (.bs 8 [.j 0, .j 0, .j 0, .j 0, .j 0, .str [], .str [], .str []] 1 [(0, (.t 49))]), oo 51 (.app 8 88 (.t 40) (.t 50)), om 6 51])
 .skip)))))
 (.reg [oo 52 (.bin .add (.t 19) (.c (.j 1))), om 19 52])))))))
 (.seq (.reg [om 53 6, om 4 53])
 .ret)))))
theorem k_impl_NextsOf : FnOk Try.prog 43 54 rc_impl_NextsOf [.t 4] := ⟨Try.f43, _, [], Try.func43, rfl, rfl, by kernel_rfl, by kernel_rfl, follows⟩
theorem ok_impl_NextsOf : okF Try.prog 43 = true := by kernel_rfl
def rc_impl_Shrunk : RC :=
 (.seq (.reg [oo 6 (.mv (.c (.nils)))])
 (.seq (.reg [om 13 0, oo 14 (.cl (.c (.fn 30 [])) [(.t 13)]), om 7 14])
 (.seq (.reg [oo 15 (.mv (.c (.nils))), om 8 15])
 (.seq (.seq (.reg [om 16 0, oo 17 (.lenl (.t 16)), oo 18 (.mv (.c (.j 0)))])
 (.blk 0 (.loop (.seq (.reg [oo 19 (.bin .lss (.t 18) (.t 17))])
 (.seq (.cond (.t 19) .skip
 (.exit 0))
 (.seq (.blk 1 (.seq (.reg [om 20 18, om 9 20])
 (.reg [om 21 8, om 22 1, om 23 9, oo 24 (.cl (.c (.fn 78 [])) [(.t 22), (.t 23)]), om 25 24, ⟨(some 26), (some (25, true)), .mv (.t 7)⟩, ⟨(some 27), (some (25, true)), .mv (.t 9)⟩, ⟨(some 28), (some (25, true)), .ia 1 (.t 26) (.t 27)⟩, ⟨(some 29), (some (25, true)), .ld false 1 (.t 28)⟩, ⟨(some 30), (some (25, true)), .un .not (.t 29)⟩, oo 31 (.pick (.t 25) (.t 30) (.c (.bool false))), oo 32 (.bs 1 [.bool false] 1 [(0, (.t 31))]), oo 33 (.app 1 1 (.t 21) (.t 32)), om 8 33])))
 (.reg [oo 34 (.bin .add (.t 18) (.c (.j 1))), om 18 34])))))))
 (.seq (.reg [om 35 0, om 36 8, oo 37 (.cl (.c (.fn 33 [])) [(.t 35), (.t 36)]), om 10 37])
 (.seq (.seq (.reg [om 38 0, om 39 8, oo 40 (.cl (.c (.fn 43 [])) [(.t 38), (.t 39)]), oo 41 (.lenl (.t 40)), oo 42 (.mv (.c (.j 0)))])
 (.blk 2 (.loop (.seq (.reg [oo 43 (.bin .lss (.t 42) (.t 41))])
 (.seq (.cond (.t 43) .skip
 (.exit 2))
 (.seq (.blk 3 (.seq (.reg [om 44 42, oo 45 (.ia 8 (.t 40) (.t 42)), oo 46 (.ld true 8 (.t 45)), oo 12 (.al [.j 0, .j 0, .j 0, .j 0, .j 0, .str [], .str [], .str []]), om 11 44, on (.st 8 (.t 12) (.t 46))])
 (.reg [om 47 10, om 48 2, om 49 11, oo 50 (.bin .add (.t 48) (.t 49)), oo 51 (.ld true 8 (.t 12)), oo 52 (.bld [.j 0, .j 0, .j 0, .j 0, .j 0, .j 0, .str [], .str [], .str []] [(0, 1), (1, 8)] [(0, (.t 50)), (1, (.t 51))]), oo 53 (.bs 9 [.j 0, .j 0, .j 0, .j 0, .j 0, .j 0, .str [], .str [], .str []] 1 [(0, (.t 52))]), oo 54 (.app 9 96 (.t 47) (.t 53)), om 10 54])))
 (.reg [oo 55 (.bin .add (.t 42) (.c (.j 1))), om 42 55])))))))
 (.seq (.reg [om 56 10, om 6 56])
 .ret)))))))
theorem k_impl_Shrunk : FnOk Try.prog 27 57 rc_impl_Shrunk [.t 6] := ⟨Try.f27, _, [], Try.func27, rfl, rfl, by kernel_rfl, by kernel_rfl, follows⟩
theorem ok_impl_Shrunk : okF Try.prog 27 = true := by kernel_rfl
def rc_laws_chosen : RC :=
 (.seq (.reg [oo 4 (.mv (.c (.nils)))])
 (.seq (.reg [oo 7 (.mv (.c (.nils))), om 5 7])
 (.seq (.seq (.reg [oo 6 (.mv (.c (.j 0)))])
 (.blk 0 (.loop (.seq (.seq (.reg [om 8 6, om 9 0, oo 10 (.bin .lss (.t 8) (.t 9))])
 (.cond (.t 10) .skip
 (.exit 0)))
 (.seq (.blk 1 (.reg [om 13 5, om 14 1, om 15 6, om 16 1, oo 17 (.lenl (.t 16)), oo 18 (.bin .rem (.t 15) (.t 17)), oo 19 (.ia 1 (.t 14) (.t 18)), oo 20 (.ld false 1 (.t 19)), oo 21 (.bin .rem (.t 20) (.c (.j 2))), oo 22 (.bin .eql (.t 21) (.c (.j 1))), oo 23 (.bs 1 [.bool false] 1 [(0, (.t 22))]), oo 24 (.app 1 1 (.t 13) (.t 23)), om 5 24]))
 (.reg [om 11 6, oo 12 (.bin .add (.t 11) (.c (.j 1))), om 6 12]))))))
 (.seq (.reg [om 25 5, om 4 25])
 .ret))))
theorem k_laws_chosen : FnOk Try.prog 28 26 rc_laws_chosen [.t 4] := ⟨Try.f28, _, [], Try.func28, rfl, rfl, by kernel_rfl, by kernel_rfl, follows⟩
theorem ok_laws_chosen : okF Try.prog 28 = true := by kernel_rfl
def rc_spec_l01In : RC :=
 (.seq (.reg [oo 6 (.mv (.c (.bool false)))])
 (.seq (.reg [om 7 0, om 8 1, oo 9 (.bin .geq (.t 7) (.t 8)), om 10 9, ⟨(some 11), (some (10, true)), .mv (.t 0)⟩, ⟨(some 12), (some (10, true)), .mv (.t 2)⟩, ⟨(some 13), (some (10, true)), .bin .leq (.t 11) (.t 12)⟩, oo 14 (.pick (.t 10) (.t 13) (.c (.bool false))), om 6 14])
 .ret))
theorem k_spec_l01In : FnOk Try.prog 67 15 rc_spec_l01In [.t 6] := ⟨Try.f67, _, [], Try.func67, rfl, rfl, by kernel_rfl, by kernel_rfl, follows⟩
theorem ok_spec_l01In : okF Try.prog 67 = true := by kernel_rfl
def rc_spec_WordOk : RC :=
 (.seq (.reg [oo 2 (.mv (.c (.bool false)))])
 (.seq (.seq (.reg [oo 3 (.mv (.c (.j 0)))])
 (.blk 0 (.loop (.seq (.seq (.reg [om 4 3, om 5 0, oo 6 (.lens (.t 5)), oo 7 (.bin .lss (.t 4) (.t 6))])
 (.cond (.t 7) .skip
 (.exit 0)))
 (.seq (.blk 1 (.seq (.reg [om 10 0, om 11 3, oo 12 (.idx (.t 10) (.t 11)), oo 13 (.bin .lss (.t 12) (.c (.int .u8 97))), om 14 13, ⟨(some 15), (some (14, false)), .mv (.t 0)⟩, ⟨(some 16), (some (14, false)), .mv (.t 3)⟩, ⟨(some 17), (some (14, false)), .idx (.t 15) (.t 16)⟩, ⟨(some 18), (some (14, false)), .bin .gtr (.t 17) (.c (.int .u8 122))⟩, oo 19 (.pick (.t 14) (.c (.bool true)) (.t 18))])
 (.cond (.t 19) (.seq (.reg [oo 2 (.mv (.c (.bool false)))])
 .ret)
 .skip)))
 (.reg [om 8 3, oo 9 (.bin .add (.t 8) (.c (.j 1))), om 3 9]))))))
 (.seq (.reg [om 20 0, oo 21 (.lens (.t 20)), oo 22 (.cl (.c (.fn 67 [])) [(.t 21), (.c (.j 1)), (.c (.j 8))]), om 2 22])
 .ret)))
theorem k_spec_WordOk : FnOk Try.prog 124 23 rc_spec_WordOk [.t 2] := ⟨Try.f124, _, [], Try.func124, rfl, rfl, by kernel_rfl, by kernel_rfl, follows⟩
theorem ok_spec_WordOk : okF Try.prog 124 = true := by kernel_rfl
def rc_spec_RecOk : RC :=
 (.seq (.reg [oo 1 (.bx (.t 0)), oo 2 (.mv (.c (.bool false)))])
 (.seq (.seq (.reg [oo 6 (.fa 0 (.t 1)), oo 7 (.ld false 1 (.t 6)), oo 8 (.cl (.c (.fn 67 [])) [(.t 7), (.c (.j 1)), (.c (.j 5))]), oo 9 (.un .not (.t 8)), om 10 9, ⟨(some 11), (some (10, false)), .fa 1 (.t 1)⟩, ⟨(some 12), (some (10, false)), .ld false 1 (.t 11)⟩, ⟨(some 13), (some (10, false)), .cl (.c (.fn 67 [])) [(.t 12), (.c (.j 1)), (.c (.j 9999))]⟩, ⟨(some 14), (some (10, false)), .un .not (.t 13)⟩, oo 15 (.pick (.t 10) (.c (.bool true)) (.t 14))])
 (.cond (.t 15) (.seq (.reg [oo 2 (.mv (.c (.bool false)))])
 .ret)
 .skip))
 (.seq (.reg [oo 16 (.fa 0 (.t 1)), oo 17 (.ld false 1 (.t 16)), oo 18 (.bin .eql (.t 17) (.c (.j 1))), om 3 18])
 (.seq (.reg [oo 19 (.fa 0 (.t 1)), oo 20 (.ld false 1 (.t 19)), oo 21 (.bin .eql (.t 20) (.c (.j 3))), om 22 21, ⟨(some 23), (some (22, false)), .fa 0 (.t 1)⟩, ⟨(some 24), (some (22, false)), .ld false 1 (.t 23)⟩, ⟨(some 25), (some (22, false)), .bin .eql (.t 24) (.c (.j 4))⟩, oo 26 (.pick (.t 22) (.c (.bool true)) (.t 25)), om 27 26, ⟨(some 28), (some (27, false)), .fa 0 (.t 1)⟩, ⟨(some 29), (some (27, false)), .ld false 1 (.t 28)⟩, ⟨(some 30), (some (27, false)), .bin .eql (.t 29) (.c (.j 5))⟩, oo 31 (.pick (.t 27) (.c (.bool true)) (.t 30)), om 4 31])
 (.seq (.reg [oo 32 (.fa 0 (.t 1)), oo 33 (.ld false 1 (.t 32)), oo 34 (.bin .eql (.t 33) (.c (.j 3))), om 35 34, ⟨(some 36), (some (35, false)), .fa 0 (.t 1)⟩, ⟨(some 37), (some (35, false)), .ld false 1 (.t 36)⟩, ⟨(some 38), (some (35, false)), .bin .eql (.t 37) (.c (.j 4))⟩, oo 39 (.pick (.t 35) (.c (.bool true)) (.t 38)), om 5 39])
 (.seq (.seq (.reg [om 40 3, om 41 40, ⟨(some 42), (some (41, true)), .fa 5 (.t 1)⟩, ⟨(some 43), (some (41, true)), .ld false 1 (.t 42)⟩, ⟨(some 44), (some (41, true)), .cl (.c (.fn 124 [])) [(.t 43)]⟩, ⟨(some 45), (some (41, true)), .un .not (.t 44)⟩, ⟨(some 46), (some (41, true)), .mv (.t 45)⟩, ⟨(some 47), (some (46, false)), .fa 6 (.t 1)⟩, ⟨(some 48), (some (46, false)), .ld false 1 (.t 47)⟩, ⟨(some 49), (some (46, false)), .cl (.c (.fn 124 [])) [(.t 48)]⟩, ⟨(some 50), (some (46, false)), .un .not (.t 49)⟩, ⟨(some 51), (some (41, true)), .pick (.t 46) (.c (.bool true)) (.t 50)⟩, ⟨(some 52), (some (41, true)), .mv (.t 51)⟩, ⟨(some 53), (some (52, false)), .fa 3 (.t 1)⟩, ⟨(some 54), (some (52, false)), .ld false 1 (.t 53)⟩, ⟨(some 55), (some (52, false)), .cl (.c (.fn 67 [])) [(.t 54), (.c (.j 1)), (.c (.j 10000))]⟩, ⟨(some 56), (some (52, false)), .un .not (.t 55)⟩, ⟨(some 57), (some (41, true)), .pick (.t 52) (.c (.bool true)) (.t 56)⟩, oo 58 (.pick (.t 41) (.t 57) (.c (.bool false))), om 59 58, ⟨(some 60), (some (59, false)), .mv (.t 3)⟩, ⟨(some 61), (some (59, false)), .un .not (.t 60)⟩, ⟨(some 62), (some (59, false)), .mv (.t 61)⟩, ⟨(some 63), (some (62, true)), .fa 5 (.t 1)⟩, ⟨(some 64), (some (62, true)), .ld false 1 (.t 63)⟩, ⟨(some 65), (some (62, true)), .bin .neq (.t 64) (.c (.str []))⟩, ⟨(some 66), (some (62, true)), .mv (.t 65)⟩, ⟨(some 67), (some (66, false)), .fa 6 (.t 1)⟩, ⟨(some 68), (some (66, false)), .ld false 1 (.t 67)⟩, ⟨(some 69), (some (66, false)), .bin .neq (.t 68) (.c (.str []))⟩, ⟨(some 70), (some (62, true)), .pick (.t 66) (.c (.bool true)) (.t 69)⟩, ⟨(some 71), (some (62, true)), .mv (.t 70)⟩, ⟨(some 72), (some (71, false)), .fa 3 (.t 1)⟩, ⟨(some 73), (some (71, false)), .ld false 1 (.t 72)⟩, ⟨(some 74), (some (71, false)), .bin .neq (.t 73) (.c (.j 0))⟩, ⟨(some 75), (some (62, true)), .pick (.t 71) (.c (.bool true)) (.t 74)⟩, ⟨(some 76), (some (59, false)), .pick (.t 62) (.t 75) (.c (.bool false))⟩, oo 77 (.pick (.t 59) (.c (.bool true)) (.t 76))])
 (.cond (.t 77) (.seq (.reg [oo 2 (.mv (.c (.bool false)))])
 .ret)
 .skip))
 (.seq (.seq (.reg [om 78 4, om 79 78, ⟨(some 80), (some (79, true)), .fa 2 (.t 1)⟩, ⟨(some 81), (some (79, true)), .ld false 1 (.t 80)⟩, ⟨(some 82), (some (79, true)), .cl (.c (.fn 67 [])) [(.t 81), (.c (.j 1)), (.c (.j 9999))]⟩, ⟨(some 83), (some (79, true)), .un .not (.t 82)⟩, oo 84 (.pick (.t 79) (.t 83) (.c (.bool false))), om 85 84, ⟨(some 86), (some (85, false)), .mv (.t 4)⟩, ⟨(some 87), (some (85, false)), .un .not (.t 86)⟩, ⟨(some 88), (some (85, false)), .mv (.t 87)⟩, ⟨(some 89), (some (88, true)), .fa 2 (.t 1)⟩, ⟨(some 90), (some (88, true)), .ld false 1 (.t 89)⟩, ⟨(some 91), (some (88, true)), .bin .neq (.t 90) (.c (.j 0))⟩, ⟨(some 92), (some (85, false)), .pick (.t 88) (.t 91) (.c (.bool false))⟩, oo 93 (.pick (.t 85) (.c (.bool true)) (.t 92))])
 (.cond (.t 93) (.seq (.reg [oo 2 (.mv (.c (.bool false)))])
 .ret)
 .skip))
 (.seq (.seq (.reg [om 94 5, om 95 94, ⟨(some 96), (some (95, true)), .fa 4 (.t 1)⟩, ⟨(some 97), (some (95, true)), .ld false 1 (.t 96)⟩, ⟨(some 98), (some (95, true)), .cl (.c (.fn 67 [])) [(.t 97), (.c (.j 0)), (.c (.j 7))]⟩, ⟨(some 99), (some (95, true)), .un .not (.t 98)⟩, oo 100 (.pick (.t 95) (.t 99) (.c (.bool false))), om 101 100, ⟨(some 102), (some (101, false)), .mv (.t 5)⟩, ⟨(some 103), (some (101, false)), .un .not (.t 102)⟩, ⟨(some 104), (some (101, false)), .mv (.t 103)⟩, ⟨(some 105), (some (104, true)), .fa 4 (.t 1)⟩, ⟨(some 106), (some (104, true)), .ld false 1 (.t 105)⟩, ⟨(some 107), (some (104, true)), .bin .neq (.t 106) (.c (.j 0))⟩, ⟨(some 108), (some (101, false)), .pick (.t 104) (.t 107) (.c (.bool false))⟩, oo 109 (.pick (.t 101) (.c (.bool true)) (.t 108))])
 (.cond (.t 109) (.seq (.reg [oo 2 (.mv (.c (.bool false)))])
 .ret)
 .skip))
 (.seq (.seq (.reg [oo 110 (.fa 0 (.t 1)), oo 111 (.ld false 1 (.t 110)), oo 112 (.bin .eql (.t 111) (.c (.j 3)))])
 (.cond (.t 112) (.seq (.reg [oo 113 (.fa 7 (.t 1)), oo 114 (.ld false 1 (.t 113)), oo 115 (.lens (.t 114)), oo 116 (.bin .leq (.t 115) (.c (.j 100))), om 2 116])
 .ret)
 .skip))
 (.seq (.reg [oo 117 (.fa 7 (.t 1)), oo 118 (.ld false 1 (.t 117)), oo 119 (.bin .eql (.t 118) (.c (.str []))), om 2 119])
 .ret))))))))))
theorem k_spec_RecOk : FnOk Try.prog 86 120 rc_spec_RecOk [.t 2] := ⟨Try.f86, _, [], Try.func86, rfl, rfl, by kernel_rfl, by kernel_rfl, follows⟩
theorem ok_spec_RecOk : okF Try.prog 86 = true := by kernel_rfl
def rc_spec_ItemsOk : RC :=
 (.seq (.reg [oo 2 (.mv (.c (.bool false)))])
 (.seq (.seq (.reg [oo 3 (.mv (.c (.j 0)))])
 (.blk 0 (.loop (.seq (.seq (.reg [om 5 3, om 6 0, oo 7 (.lenl (.t 6)), oo 8 (.bin .lss (.t 5) (.t 7))])
 (.cond (.t 8) .skip
 (.exit 0)))
 (.seq (.blk 1 (.seq (.seq (.reg [om 11 0, om 12 3, oo 13 (.ia 9 (.t 11) (.t 12)), oo 14 (.fa 0 (.t 13)), oo 15 (.ld false 1 (.t 14)), oo 16 (.cl (.c (.fn 67 [])) [(.t 15), (.c (.j 1)), (.c (.j 1000000000))]), oo 17 (.un .not (.t 16)), om 18 17, ⟨(some 19), (some (18, false)), .mv (.t 0)⟩, ⟨(some 20), (some (18, false)), .mv (.t 3)⟩, ⟨(some 21), (some (18, false)), .ia 9 (.t 19) (.t 20)⟩, ⟨(some 22), (some (18, false)), .fa 1 (.t 21)⟩, ⟨(some 23), (some (18, false)), .ld true 8 (.t 22)⟩, ⟨(some 24), (some (18, false)), .cl (.c (.fn 86 [])) [(.t 23)]⟩, ⟨(some 25), (some (18, false)), .un .not (.t 24)⟩, oo 26 (.pick (.t 18) (.c (.bool true)) (.t 25))])
 (.cond (.t 26) (.seq (.reg [oo 2 (.mv (.c (.bool false)))])
 .ret)
 .skip))
 (.seq (.reg [oo 4 (.mv (.c (.j 0)))])
 (.blk 2 (.loop (.seq (.seq (.reg [om 27 4, om 28 3, oo 29 (.bin .lss (.t 27) (.t 28))])
 (.cond (.t 29) .skip
 (.exit 2)))
 (.seq (.blk 3 (.seq (.drw [om 32 0, om 33 4, oo 34 (.ia 9 (.t 32) (.t 33)), oo 35 (.fa 0 (.t 34)), oo 36 (.ld false 1 (.t 35)), om 37 0, om 38 3, oo 39 (.ia 9 (.t 37) (.t 38)), oo 40 (.fa 0 (.t 39)), oo 41 (.ld false 1 (.t 40)), oo 42 (.bin .eql (.t 36) (.t 41)), om 43 42, ⟨(some 44), (some (43, true)), .mv (.t 0)⟩, ⟨(some 45), (some (43, true)), .mv (.t 4)⟩, ⟨(some 46), (some (43, true)), .ia 9 (.t 44) (.t 45)⟩, ⟨(some 47), (some (43, true)), .ld true 9 (.t 46)⟩, ⟨(some 48), (some (43, true)), .mv (.t 0)⟩, ⟨(some 49), (some (43, true)), .mv (.t 3)⟩, ⟨(some 50), (some (43, true)), .ia 9 (.t 48) (.t 49)⟩, ⟨(some 51), (some (43, true)), .ld true 9 (.t 50)⟩, ⟨(some 52), (some (43, true)), .equ true [(0, 1), (1, 1), (2, 1), (3, 1), (4, 1), (5, 1), (6, 2), (7, 2), (8, 2)] (.t 47) (.t 51)⟩, oo 53 (.pick (.t 43) (.t 52) (.c (.bool false)))] [.val [], .val [], .val [], .val [], .val [], .val [], .val [], .val [], .val [], .val [], .val [], .val [], .val [], .val [], .val [], .val [], .val [], .val [], .val [], .val [], .val [], .val []])
 (.cond (.t 53) (.seq (.reg [oo 2 (.mv (.c (.bool false)))])
 .ret)
 .skip)))
 (.reg [om 30 4, oo 31 (.bin .add (.t 30) (.c (.j 1))), om 4 31]))))))))
 (.reg [om 9 3, oo 10 (.bin .add (.t 9) (.c (.j 1))), om 3 10]))))))
 (.seq (.reg [om 54 0, oo 55 (.lenl (.t 54)), oo 56 (.bin .leq (.t 55) (.c (.j 200))), om 2 56])
 .ret)))
theorem k_spec_ItemsOk : FnOk Try.prog 35 57 rc_spec_ItemsOk [.t 2] := ⟨Try.f35, _, [], Try.func35, rfl, rfl, by kernel_rfl, by kernel_rfl, follows⟩
theorem ok_spec_ItemsOk : okF Try.prog 35 = true := by kernel_rfl
def rc_spec_l07Best : RC :=
 (.seq (.reg [oo 8 (.al [.j 0, .j 0, .j 0, .j 0, .j 0, .j 0, .str [], .str [], .str []]), oo 9 (.mv (.c (.bool false)))])
 (.seq (.reg [oo 14 (.bld [.j 0, .j 0, .j 0, .j 0, .j 0, .j 0, .str [], .str [], .str []] [(0, 1), (1, 8)] []), oo 10 (.al [.j 0, .j 0, .j 0, .j 0, .j 0, .j 0, .str [], .str [], .str []]), on (.st 9 (.t 10) (.t 14))])
 (.seq (.reg [oo 11 (.mv (.c (.bool false)))])
 (.seq (.seq (.reg [oo 12 (.mv (.c (.j 0)))])
 (.blk 0 (.loop (.seq (.seq (.reg [om 15 12, om 16 0, oo 17 (.lenl (.t 16)), oo 18 (.bin .lss (.t 15) (.t 17))])
 (.cond (.t 18) .skip
 (.exit 0)))
 (.seq (.blk 1 (.seq (.reg [om 21 0, om 22 12, oo 23 (.ia 9 (.t 21) (.t 22)), oo 24 (.ld true 9 (.t 23)), oo 13 (.al [.j 0, .j 0, .j 0, .j 0, .j 0, .j 0, .str [], .str [], .str []]), on (.st 9 (.t 13) (.t 24))])
 (.seq (.reg [oo 25 (.fa 1 (.t 13)), oo 26 (.fa 0 (.t 25)), oo 27 (.ld false 1 (.t 26)), om 28 1, oo 29 (.bin .eql (.t 27) (.t 28)), om 30 29, ⟨(some 31), (some (30, true)), .fa 1 (.t 13)⟩, ⟨(some 32), (some (30, true)), .fa 1 (.t 31)⟩, ⟨(some 33), (some (30, true)), .ld false 1 (.t 32)⟩, ⟨(some 34), (some (30, true)), .mv (.t 2)⟩, ⟨(some 35), (some (30, true)), .bin .eql (.t 33) (.t 34)⟩, oo 36 (.pick (.t 30) (.t 35) (.c (.bool false))), om 37 36, ⟨(some 38), (some (37, true)), .fa 1 (.t 13)⟩, ⟨(some 39), (some (37, true)), .fa 2 (.t 38)⟩, ⟨(some 40), (some (37, true)), .ld false 1 (.t 39)⟩, ⟨(some 41), (some (37, true)), .mv (.t 3)⟩, ⟨(some 42), (some (37, true)), .bin .eql (.t 40) (.t 41)⟩, oo 43 (.pick (.t 37) (.t 42) (.c (.bool false))), om 44 43, ⟨(some 45), (some (44, true)), .mv (.t 11)⟩, ⟨(some 46), (some (44, true)), .un .not (.t 45)⟩, ⟨(some 47), (some (44, true)), .mv (.t 46)⟩, ⟨(some 48), (some (47, false)), .fa 0 (.t 13)⟩, ⟨(some 49), (some (47, false)), .ld false 1 (.t 48)⟩, ⟨(some 50), (some (47, false)), .fa 0 (.t 10)⟩, ⟨(some 51), (some (47, false)), .ld false 1 (.t 50)⟩, ⟨(some 52), (some (47, false)), .bin .gtr (.t 49) (.t 51)⟩, ⟨(some 53), (some (44, true)), .pick (.t 47) (.c (.bool true)) (.t 52)⟩, oo 54 (.pick (.t 44) (.t 53) (.c (.bool false)))])
 (.cond (.t 54) (.seq (.reg [oo 55 (.ld true 9 (.t 13)), on (.st 9 (.t 10) (.t 55))])
 (.reg [oo 11 (.mv (.c (.bool true)))]))
 .skip))))
 (.reg [om 19 12, oo 20 (.bin .add (.t 19) (.c (.j 1))), om 12 20]))))))
 (.seq (.reg [oo 56 (.ld true 9 (.t 10)), om 57 11, on (.st 9 (.t 8) (.t 56)), om 9 57])
 .ret)))))
theorem k_spec_l07Best : FnOk Try.prog 79 58 rc_spec_l07Best [.cell 8 true 9, .t 9] := ⟨Try.f79, _, [], Try.func79, rfl, rfl, by kernel_rfl, by kernel_rfl, follows⟩
theorem ok_spec_l07Best : okF Try.prog 79 = true := by kernel_rfl
def rc_spec_l07Sorted : RC :=
 (.seq (.reg [oo 4 (.mv (.c (.nils)))])
 (.seq (.reg [oo 8 (.mv (.c (.nils))), om 5 8])
 (.seq (.seq (.reg [oo 6 (.mv (.c (.j 0)))])
 (.blk 0 (.loop (.seq (.seq (.reg [om 9 6, om 10 0, oo 11 (.lenl (.t 10)), oo 12 (.bin .lss (.t 9) (.t 11))])
 (.cond (.t 12) .skip
 (.exit 0)))
 (.seq (.blk 1 (.seq (.reg [om 15 0, om 16 6, oo 17 (.ia 1 (.t 15) (.t 16)), oo 18 (.ld false 1 (.t 17)), om 19 1, oo 20 (.bin .lss (.t 18) (.t 19))])
 (.cond (.t 20) (.reg [om 21 5, om 22 0, om 23 6, oo 24 (.ia 1 (.t 22) (.t 23)), oo 25 (.ld false 1 (.t 24)), oo 26 (.bs 1 [.j 0] 1 [(0, (.t 25))]), oo 27 (.app 1 8 (.t 21) (.t 26)), om 5 27])
 .skip)))
 (.reg [om 13 6, oo 14 (.bin .add (.t 13) (.c (.j 1))), om 6 14]))))))
 (.seq (.reg [om 28 5, om 29 1, oo 30 (.bs 1 [.j 0] 1 [(0, (.t 29))]), oo 31 (.app 1 8 (.t 28) (.t 30)), om 5 31])
 (.seq (.seq (.reg [oo 7 (.mv (.c (.j 0)))])
 (.blk 2 (.loop (.seq (.seq (.reg [om 32 7, om 33 0, oo 34 (.lenl (.t 33)), oo 35 (.bin .lss (.t 32) (.t 34))])
 (.cond (.t 35) .skip
 (.exit 2)))
 (.seq (.blk 3 (.seq (.reg [om 38 0, om 39 7, oo 40 (.ia 1 (.t 38) (.t 39)), oo 41 (.ld false 1 (.t 40)), om 42 1, oo 43 (.bin .gtr (.t 41) (.t 42))])
 (.cond (.t 43) (.reg [om 44 5, om 45 0, om 46 7, oo 47 (.ia 1 (.t 45) (.t 46)), oo 48 (.ld false 1 (.t 47)), oo 49 (.bs 1 [.j 0] 1 [(0, (.t 48))]), oo 50 (.app 1 8 (.t 44) (.t 49)), om 5 50])
 .skip)))
 (.reg [om 36 7, oo 37 (.bin .add (.t 36) (.c (.j 1))), om 7 37]))))))
 (.seq (.reg [om 51 5, om 4 51])
 .ret))))))
theorem k_spec_l07Sorted : FnOk Try.prog 80 52 rc_spec_l07Sorted [.t 4] := ⟨Try.f80, _, [], Try.func80, rfl, rfl, by kernel_rfl, by kernel_rfl, follows⟩
theorem ok_spec_l07Sorted : okF Try.prog 80 = true := by kernel_rfl
def rc_spec_l07Tell : RC :=
 (.seq (.reg [oo 4 (.al [.j 0, .j 0, .j 0, .j 0, .j 0, .j 0, .str [], .str [], .str []])])
 (.seq (.reg [oo 8 (.bld [.j 0, .j 0, .j 0, .j 0, .j 0, .j 0, .str [], .str [], .str []] [(0, 1), (1, 8)] []), oo 5 (.al [.j 0, .j 0, .j 0, .j 0, .j 0, .j 0, .str [], .str [], .str []]), on (.st 9 (.t 5) (.t 8))])
 (.seq (.seq (.reg [oo 6 (.mv (.c (.j 0)))])
 (.blk 0 (.loop (.seq (.seq (.reg [om 9 6, om 10 0, oo 11 (.lenl (.t 10)), oo 12 (.bin .lss (.t 9) (.t 11))])
 (.cond (.t 12) .skip
 (.exit 0)))
 (.seq (.blk 1 (.seq (.reg [om 15 0, om 16 6, oo 17 (.ia 9 (.t 15) (.t 16)), oo 18 (.ld true 9 (.t 17)), oo 7 (.al [.j 0, .j 0, .j 0, .j 0, .j 0, .j 0, .str [], .str [], .str []]), on (.st 9 (.t 7) (.t 18))])
 (.seq (.seq (.reg [oo 19 (.fa 1 (.t 7)), oo 20 (.fa 0 (.t 19)), oo 21 (.ld false 1 (.t 20)), oo 22 (.bin .neq (.t 21) (.c (.j 1))), om 23 22, ⟨(some 24), (some (23, false)), .fa 1 (.t 7)⟩, ⟨(some 25), (some (23, false)), .fa 1 (.t 24)⟩, ⟨(some 26), (some (23, false)), .ld false 1 (.t 25)⟩, ⟨(some 27), (some (23, false)), .mv (.t 1)⟩, ⟨(some 28), (some (23, false)), .bin .neq (.t 26) (.t 27)⟩, oo 29 (.pick (.t 23) (.c (.bool true)) (.t 28))])
 (.cond (.t 29) (.exit 1)
 .skip))
 (.seq (.reg [oo 30 (.fa 0 (.t 5)), oo 31 (.ld false 1 (.t 30)), oo 32 (.bin .eql (.t 31) (.c (.j 0))), om 33 32, ⟨(some 34), (some (33, false)), .fa 1 (.t 7)⟩, ⟨(some 35), (some (33, false)), .fa 3 (.t 34)⟩, ⟨(some 36), (some (33, false)), .ld false 1 (.t 35)⟩, ⟨(some 37), (some (33, false)), .fa 1 (.t 5)⟩, ⟨(some 38), (some (33, false)), .fa 3 (.t 37)⟩, ⟨(some 39), (some (33, false)), .ld false 1 (.t 38)⟩, ⟨(some 40), (some (33, false)), .bin .gtr (.t 36) (.t 39)⟩, oo 41 (.pick (.t 33) (.c (.bool true)) (.t 40)), om 42 41, ⟨(some 43), (some (42, false)), .fa 1 (.t 7)⟩, ⟨(some 44), (some (42, false)), .fa 3 (.t 43)⟩, ⟨(some 45), (some (42, false)), .ld false 1 (.t 44)⟩, ⟨(some 46), (some (42, false)), .fa 1 (.t 5)⟩, ⟨(some 47), (some (42, false)), .fa 3 (.t 46)⟩, ⟨(some 48), (some (42, false)), .ld false 1 (.t 47)⟩, ⟨(some 49), (some (42, false)), .bin .eql (.t 45) (.t 48)⟩, ⟨(some 50), (some (42, false)), .mv (.t 49)⟩, ⟨(some 51), (some (50, true)), .fa 0 (.t 7)⟩, ⟨(some 52), (some (50, true)), .ld false 1 (.t 51)⟩, ⟨(some 53), (some (50, true)), .fa 0 (.t 5)⟩, ⟨(some 54), (some (50, true)), .ld false 1 (.t 53)⟩, ⟨(some 55), (some (50, true)), .bin .gtr (.t 52) (.t 54)⟩, ⟨(some 56), (some (42, false)), .pick (.t 50) (.t 55) (.c (.bool false))⟩, oo 57 (.pick (.t 42) (.c (.bool true)) (.t 56))])
 (.cond (.t 57) (.reg [oo 58 (.ld true 9 (.t 7)), on (.st 9 (.t 5) (.t 58))])
 .skip)))))
 (.reg [om 13 6, oo 14 (.bin .add (.t 13) (.c (.j 1))), om 6 14]))))))
 (.seq (.reg [oo 59 (.ld true 9 (.t 5)), on (.st 9 (.t 4) (.t 59))])
 .ret))))
theorem k_spec_l07Tell : FnOk Try.prog 81 60 rc_spec_l07Tell [.cell 4 true 9] := ⟨Try.f81, _, [], Try.func81, rfl, rfl, by kernel_rfl, by kernel_rfl, follows⟩
theorem ok_spec_l07Tell : okF Try.prog 81 = true := by kernel_rfl
def rc_spec_l07Next : RC :=
 (.seq (.reg [oo 4 (.mv (.c (.j 0)))])
 (.seq (.reg [oo 5 (.mv (.c (.j 1)))])
 (.seq (.seq (.reg [oo 6 (.mv (.c (.j 0)))])
 (.blk 0 (.loop (.seq (.seq (.reg [om 9 6, om 10 0, oo 11 (.lenl (.t 10)), oo 12 (.bin .lss (.t 9) (.t 11))])
 (.cond (.t 12) .skip
 (.exit 0)))
 (.seq (.blk 1 (.seq (.reg [om 15 0, om 16 6, oo 17 (.ia 9 (.t 15) (.t 16)), oo 18 (.fa 1 (.t 17)), oo 19 (.ld true 8 (.t 18)), oo 7 (.al [.j 0, .j 0, .j 0, .j 0, .j 0, .str [], .str [], .str []]), on (.st 8 (.t 7) (.t 19))])
 (.seq (.seq (.reg [oo 20 (.fa 1 (.t 7)), oo 21 (.ld false 1 (.t 20)), om 22 1, oo 23 (.bin .neq (.t 21) (.t 22))])
 (.cond (.t 23) (.exit 1)
 .skip))
 (.seq (.reg [oo 8 (.mv (.c (.j 0)))])
 (.seq (.seq (.reg [oo 24 (.fa 0 (.t 7)), oo 25 (.ld false 1 (.t 24))])
 (.blk 2 (.seq (.reg [oo 27 (.bin .eql (.t 25) (.c (.j 1))), om 26 27])
 (.cond (.t 26) (.reg [oo 28 (.fa 3 (.t 7)), oo 29 (.ld false 1 (.t 28)), om 8 29])
 (.seq (.seq (.reg [oo 31 (.bin .eql (.t 25) (.c (.j 3))), om 30 31])
 (.cond (.t 30) .skip
 (.reg [oo 32 (.bin .eql (.t 25) (.c (.j 5))), om 30 32])))
 (.cond (.t 30) (.reg [oo 33 (.fa 2 (.t 7)), oo 34 (.ld false 1 (.t 33)), oo 35 (.bin .add (.t 34) (.c (.j 1))), om 8 35])
 .skip))))))
 (.seq (.reg [om 36 8, om 37 5, oo 38 (.bin .gtr (.t 36) (.t 37))])
 (.cond (.t 38) (.reg [om 39 8, om 5 39])
 .skip)))))))
 (.reg [om 13 6, oo 14 (.bin .add (.t 13) (.c (.j 1))), om 6 14]))))))
 (.seq (.reg [om 40 5, om 4 40])
 .ret))))
theorem k_spec_l07Next : FnOk Try.prog 82 41 rc_spec_l07Next [.t 4] := ⟨Try.f82, _, [], Try.func82, rfl, rfl, by kernel_rfl, by kernel_rfl, follows⟩
theorem ok_spec_l07Next : okF Try.prog 82 = true := by kernel_rfl
def rc_spec_l07Mails : RC :=
 (.seq (.reg [oo 4 (.mv (.c (.nils)))])
 (.seq (.reg [oo 17 (.mv (.c (.nils))), om 5 17])
 (.seq (.seq (.reg [oo 6 (.mv (.c (.j 0)))])
 (.blk 0 (.loop (.seq (.seq (.reg [om 18 6, om 19 0, oo 20 (.lenl (.t 19)), oo 21 (.bin .lss (.t 18) (.t 20))])
 (.cond (.t 21) .skip
 (.exit 0)))
 (.seq (.blk 1 (.seq (.reg [om 24 0, om 25 6, oo 26 (.ia 9 (.t 24) (.t 25)), oo 27 (.fa 1 (.t 26)), oo 28 (.ld true 8 (.t 27)), oo 7 (.al [.j 0, .j 0, .j 0, .j 0, .j 0, .str [], .str [], .str []]), on (.st 8 (.t 7) (.t 28))])
 (.seq (.reg [om 30 0, om 31 1, oo 32 (.fa 2 (.t 7)), oo 33 (.ld false 1 (.t 32)), oo 34 (.cl (.c (.fn 79 [])) [(.t 30), (.c (.j 5)), (.t 31), (.t 33)]), om 29 34, oo 35 (.ext (.t 29) 0), oo 36 (.ext (.t 29) 1), oo 8 (.al [.j 0, .j 0, .j 0, .j 0, .j 0, .j 0, .str [], .str [], .str []]), on (.st 9 (.t 8) (.t 35)), om 9 36])
 (.seq (.reg [oo 37 (.fa 0 (.t 7)), oo 38 (.ld false 1 (.t 37)), oo 39 (.bin .eql (.t 38) (.c (.j 3))), om 40 39, ⟨(some 41), (some (40, true)), .fa 1 (.t 7)⟩, ⟨(some 42), (some (40, true)), .ld false 1 (.t 41)⟩, ⟨(some 43), (some (40, true)), .mv (.t 1)⟩, ⟨(some 44), (some (40, true)), .bin .eql (.t 42) (.t 43)⟩, oo 45 (.pick (.t 40) (.t 44) (.c (.bool false))), om 46 45, ⟨(some 47), (some (46, true)), .mv (.t 9)⟩, ⟨(some 48), (some (46, true)), .un .not (.t 47)⟩, oo 49 (.pick (.t 46) (.t 48) (.c (.bool false)))])
 (.cond (.t 49) (.reg [om 50 5, oo 51 (.fa 2 (.t 7)), oo 52 (.ld false 1 (.t 51)), oo 53 (.cl (.c (.fn 80 [])) [(.t 50), (.t 52)]), om 5 53])
 .skip)))))
 (.reg [om 22 6, oo 23 (.bin .add (.t 22) (.c (.j 1))), om 6 23]))))))
 (.seq (.reg [oo 54 (.mv (.c (.nils))), om 10 54])
 (.seq (.seq (.reg [oo 11 (.mv (.c (.j 0)))])
 (.blk 2 (.loop (.seq (.seq (.reg [om 55 11, om 56 5, oo 57 (.lenl (.t 56)), oo 58 (.bin .lss (.t 55) (.t 57))])
 (.cond (.t 58) .skip
 (.exit 2)))
 (.seq (.blk 3 (.seq (.reg [om 62 0, om 63 1, om 64 5, om 65 11, oo 66 (.ia 1 (.t 64) (.t 65)), oo 67 (.ld false 1 (.t 66)), oo 68 (.cl (.c (.fn 79 [])) [(.t 62), (.c (.j 3)), (.t 63), (.t 67)]), om 61 68, oo 69 (.ext (.t 61) 0), oo 70 (.ext (.t 61) 1), oo 12 (.al [.j 0, .j 0, .j 0, .j 0, .j 0, .j 0, .str [], .str [], .str []]), on (.st 9 (.t 12) (.t 69)), om 13 70])
 (.seq (.drw [om 71 5, om 72 11, oo 73 (.ia 1 (.t 71) (.t 72)), oo 74 (.ld false 1 (.t 73)), oo 75 (.fa 1 (.t 12)), oo 76 (.fa 4 (.t 75)), oo 77 (.ld false 1 (.t 76)), oo 78 (.fa 1 (.t 12)), oo 79 (.fa 7 (.t 78)), oo 80 (.ld false 1 (.t 79)), oo 81 (.bld [.j 0, .j 0, .str []] [(0, 1), (1, 1), (2, 1)] [(0, (.t 74)), (1, (.t 77)), (2, (.t 80))]), oo 14 (.al [.j 0, .j 0, .str []]), on (.st 3 (.t 14) (.t 81))] [.val [], .val [], .val [], .val [], .val [], .val [], .val [], .val [], .val [], .val [], .val [], .chn [0, 1, 2, 3, 4, 5, 6, 7, 8, 9, 10], .chn []])
 (.seq (.reg [om 83 0, om 84 1, om 85 5, om 86 11, oo 87 (.ia 1 (.t 85) (.t 86)), oo 88 (.ld false 1 (.t 87)), oo 89 (.cl (.c (.fn 79 [])) [(.t 83), (.c (.j 4)), (.t 84), (.t 88)]), om 82 89, oo 90 (.ext (.t 82) 0), oo 91 (.ext (.t 82) 1), oo 15 (.al [.j 0, .j 0, .j 0, .j 0, .j 0, .j 0, .str [], .str [], .str []]), on (.st 9 (.t 15) (.t 90)), om 16 91])
 (.seq (.seq (.reg [om 92 16])
 (.cond (.t 92) (.reg [oo 93 (.fa 1 (.t 15)), oo 94 (.fa 4 (.t 93)), oo 95 (.ld false 1 (.t 94)), oo 96 (.fa 1 (.t 14)), on (.st 1 (.t 96) (.t 95))])
 .skip))
 (.reg [om 97 10, oo 98 (.ld true 3 (.t 14)), oo 99 (.bs 3 [.j 0, .j 0, .str []] 1 [(0, (.t 98))]), oo 100 (.app 3 32 (.t 97) (.t 99)), om 10 100]))))))
 (.reg [om 59 11, oo 60 (.bin .add (.t 59) (.c (.j 1))), om 11 60]))))))
 (.seq (.reg [om 101 10, om 4 101])
 .ret))))))
theorem k_spec_l07Mails : FnOk Try.prog 83 102 rc_spec_l07Mails [.t 4] := ⟨Try.f83, _, [], Try.func83, rfl, rfl, by kernel_rfl, by kernel_rfl, follows⟩
theorem ok_spec_l07Mails : okF Try.prog 83 = true := by kernel_rfl
def rc_spec_StateOf : RC :=
 (.seq (.reg [oo 2 (.al [.nils])])
 (.seq (.reg [oo 11 (.bld [.nils] [(0, 1)] []), oo 3 (.al [.nils]), on (.st 1 (.t 3) (.t 11))])
 (.seq (.seq (.reg [om 12 0, oo 13 (.cl (.c (.fn 35 [])) [(.t 12)]), oo 14 (.un .not (.t 13))])
 (.cond (.t 14) (.seq (.reg [oo 15 (.ld true 1 (.t 3)), on (.st 1 (.t 2) (.t 15))])
 .ret)
 .skip))
 (.seq (.reg [oo 16 (.mv (.c (.nils))), om 4 16])
 (.seq (.seq (.reg [oo 5 (.mv (.c (.j 0)))])
 (.blk 0 (.loop (.seq (.seq (.reg [om 17 5, om 18 0, oo 19 (.lenl (.t 18)), oo 20 (.bin .lss (.t 17) (.t 19))])
 (.cond (.t 20) .skip
 (.exit 0)))
 (.seq (.blk 1 (.seq (.reg [om 23 0, om 24 5, oo 25 (.ia 9 (.t 23) (.t 24)), oo 26 (.fa 1 (.t 25)), oo 27 (.ld true 8 (.t 26)), oo 6 (.al [.j 0, .j 0, .j 0, .j 0, .j 0, .str [], .str [], .str []]), on (.st 8 (.t 6) (.t 27))])
 (.seq (.reg [om 29 0, oo 30 (.fa 1 (.t 6)), oo 31 (.ld false 1 (.t 30)), oo 32 (.cl (.c (.fn 79 [])) [(.t 29), (.c (.j 2)), (.t 31), (.c (.j 0))]), om 28 32, oo 33 (.ext (.t 28) 0), oo 34 (.ext (.t 28) 1), oo 7 (.al [.j 0, .j 0, .j 0, .j 0, .j 0, .j 0, .str [], .str [], .str []]), on (.st 9 (.t 7) (.t 33)), om 8 34])
 (.seq (.reg [oo 35 (.fa 0 (.t 6)), oo 36 (.ld false 1 (.t 35)), oo 37 (.bin .eql (.t 36) (.c (.j 1))), om 38 37, ⟨(some 39), (some (38, true)), .mv (.t 8)⟩, ⟨(some 40), (some (38, true)), .un .not (.t 39)⟩, oo 41 (.pick (.t 38) (.t 40) (.c (.bool false)))])
 (.cond (.t 41) (.reg [om 42 4, oo 43 (.fa 1 (.t 6)), oo 44 (.ld false 1 (.t 43)), oo 45 (.cl (.c (.fn 80 [])) [(.t 42), (.t 44)]), om 4 45])
 .skip)))))
 (.reg [om 21 5, oo 22 (.bin .add (.t 21) (.c (.j 1))), om 5 22]))))))
 (.seq (.seq (.reg [oo 9 (.mv (.c (.j 0)))])
 (.blk 2 (.loop (.seq (.seq (.reg [om 46 9, om 47 4, oo 48 (.lenl (.t 47)), oo 49 (.bin .lss (.t 46) (.t 48))])
 (.cond (.t 49) .skip
 (.exit 2)))
 (.seq (.blk 3 (.seq (.reg [om 52 0, om 53 4, om 54 9, oo 55 (.ia 1 (.t 53) (.t 54)), oo 56 (.ld false 1 (.t 55)), oo 57 (.cl (.c (.fn 81 [])) [(.t 52), (.t 56)]), oo 10 (.al [.j 0, .j 0, .j 0, .j 0, .j 0, .j 0, .str [], .str [], .str []]), on (.st 9 (.t 10) (.t 57))])
 (.drw [oo 58 (.fa 0 (.t 3)), oo 59 (.ld false 1 (.t 58)), om 60 4, om 61 9, oo 62 (.ia 1 (.t 60) (.t 61)), oo 63 (.ld false 1 (.t 62)), oo 64 (.fa 1 (.t 10)), oo 65 (.fa 5 (.t 64)), oo 66 (.ld false 1 (.t 65)), oo 67 (.fa 1 (.t 10)), oo 68 (.fa 6 (.t 67)), oo 69 (.ld false 1 (.t 68)), om 70 0, om 71 4, om 72 9, oo 73 (.ia 1 (.t 71) (.t 72)), oo 74 (.ld false 1 (.t 73)), oo 75 (.cl (.c (.fn 82 [])) [(.t 70), (.t 74)]), om 76 0, om 77 4, om 78 9, oo 79 (.ia 1 (.t 77) (.t 78)), oo 80 (.ld false 1 (.t 79)), oo 81 (.cl (.c (.fn 83 [])) [(.t 76), (.t 80)]), oo 82 (.bld [.j 0, .str [], .str [], .j 0, .nils] [(0, 1), (1, 1), (2, 1), (3, 1), (4, 1)] [(0, (.t 63)), (1, (.t 66)), (2, (.t 69)), (3, (.t 75)), (4, (.t 81))]), oo 83 (.bs 5 [.j 0, .str [], .str [], .j 0, .nils] 1 [(0, (.t 82))]), oo 84 (.app 5 72 (.t 59) (.t 83)), oo 85 (.fa 0 (.t 3)), on (.st 1 (.t 85) (.t 84))] [.val [], .val [], .val [], .val [], .val [], .val [], .val [], .val [], .val [], .val [], .val [], .val [], .val [], .val [], .val [], .val [], .val [], .val [], .val [], .val [], .val [], .val [], .val [], .chn [0, 1, 2, 3, 4, 5, 6, 7, 8, 9, 10, 11], .val [], .chn [0, 1], .chn [], .val [], .chn []])))
 (.reg [om 50 9, oo 51 (.bin .add (.t 50) (.c (.j 1))), om 9 51]))))))
 (.seq (.reg [oo 86 (.ld true 1 (.t 3)), on (.st 1 (.t 2) (.t 86))])
 .ret)))))))
theorem k_spec_StateOf : FnOk Try.prog 29 87 rc_spec_StateOf [.cell 2 true 1] := ⟨Try.f29, _, [(16, [23])], Try.func29, rfl, rfl, by kernel_rfl, by kernel_rfl, follows⟩
theorem ok_spec_StateOf : okF Try.prog 29 = true := by kernel_rfl
def rc_impl_Needed : RC :=
 (.seq (.reg [oo 4 (.mv (.c (.bool false)))])
 (.seq (.reg [om 5 0, oo 6 (.cl (.c (.fn 84 [])) [(.t 5)]), om 7 6, ⟨(some 8), (some (7, true)), .mv (.t 1)⟩, ⟨(some 9), (some (7, true)), .mv (.t 0)⟩, ⟨(some 10), (some (7, true)), .lenl (.t 9)⟩, ⟨(some 11), (some (7, true)), .bin .sub (.t 10) (.c (.j 1))⟩, ⟨(some 12), (some (7, true)), .cl (.c (.fn 59 [])) [(.t 8), (.c (.j 0)), (.t 11)]⟩, oo 13 (.pick (.t 7) (.t 12) (.c (.bool false))), om 14 13, ⟨(some 15), (some (14, true)), .mv (.t 0)⟩, ⟨(some 16), (some (14, true)), .mv (.t 1)⟩, ⟨(some 17), (some (14, true)), .cl (.c (.fn 85 [])) [(.t 15), (.t 16)]⟩, oo 18 (.pick (.t 14) (.t 17) (.c (.bool false))), om 4 18])
 .ret))
theorem k_impl_Needed : FnOk Try.prog 31 19 rc_impl_Needed [.t 4] := ⟨Try.f31, _, [], Try.func31, rfl, rfl, by kernel_rfl, by kernel_rfl, follows⟩
theorem ok_impl_Needed : okF Try.prog 31 = true := by kernel_rfl
def rc_spec_SameState : RC :=
 (.seq (.reg [oo 2 (.bx (.t 0)), oo 3 (.bx (.t 1)), oo 4 (.mv (.c (.bool false)))])
 (.seq (.seq (.reg [oo 9 (.fa 0 (.t 2)), oo 10 (.ld false 1 (.t 9)), oo 11 (.lenl (.t 10)), oo 12 (.fa 0 (.t 3)), oo 13 (.ld false 1 (.t 12)), oo 14 (.lenl (.t 13)), oo 15 (.bin .neq (.t 11) (.t 14))])
 (.cond (.t 15) (.seq (.reg [oo 4 (.mv (.c (.bool false)))])
 .ret)
 .skip))
 (.seq (.seq (.reg [oo 5 (.mv (.c (.j 0)))])
 (.blk 0 (.loop (.seq (.seq (.reg [om 16 5, oo 17 (.fa 0 (.t 2)), oo 18 (.ld false 1 (.t 17)), oo 19 (.lenl (.t 18)), oo 20 (.bin .lss (.t 16) (.t 19))])
 (.cond (.t 20) .skip
 (.exit 0)))
 (.seq (.blk 1 (.seq (.reg [oo 23 (.fa 0 (.t 2)), oo 24 (.ld false 1 (.t 23)), om 25 5, oo 26 (.ia 5 (.t 24) (.t 25)), oo 27 (.ld true 5 (.t 26)), oo 6 (.al [.j 0, .str [], .str [], .j 0, .nils]), on (.st 5 (.t 6) (.t 27))])
 (.seq (.reg [oo 28 (.fa 0 (.t 3)), oo 29 (.ld false 1 (.t 28)), om 30 5, oo 31 (.ia 5 (.t 29) (.t 30)), oo 32 (.ld true 5 (.t 31)), oo 7 (.al [.j 0, .str [], .str [], .j 0, .nils]), on (.st 5 (.t 7) (.t 32))])
 (.seq (.seq (.reg [oo 33 (.fa 0 (.t 6)), oo 34 (.ld false 1 (.t 33)), oo 35 (.fa 0 (.t 7)), oo 36 (.ld false 1 (.t 35)), oo 37 (.bin .neq (.t 34) (.t 36)), om 38 37, ⟨(some 39), (some (38, false)), .fa 1 (.t 6)⟩, ⟨(some 40), (some (38, false)), .ld false 1 (.t 39)⟩, ⟨(some 41), (some (38, false)), .fa 1 (.t 7)⟩, ⟨(some 42), (some (38, false)), .ld false 1 (.t 41)⟩, ⟨(some 43), (some (38, false)), .bin .neq (.t 40) (.t 42)⟩, oo 44 (.pick (.t 38) (.c (.bool true)) (.t 43)), om 45 44, ⟨(some 46), (some (45, false)), .fa 2 (.t 6)⟩, ⟨(some 47), (some (45, false)), .ld false 1 (.t 46)⟩, ⟨(some 48), (some (45, false)), .fa 2 (.t 7)⟩, ⟨(some 49), (some (45, false)), .ld false 1 (.t 48)⟩, ⟨(some 50), (some (45, false)), .bin .neq (.t 47) (.t 49)⟩, oo 51 (.pick (.t 45) (.c (.bool true)) (.t 50)), om 52 51, ⟨(some 53), (some (52, false)), .fa 3 (.t 6)⟩, ⟨(some 54), (some (52, false)), .ld false 1 (.t 53)⟩, ⟨(some 55), (some (52, false)), .fa 3 (.t 7)⟩, ⟨(some 56), (some (52, false)), .ld false 1 (.t 55)⟩, ⟨(some 57), (some (52, false)), .bin .neq (.t 54) (.t 56)⟩, oo 58 (.pick (.t 52) (.c (.bool true)) (.t 57)), om 59 58, ⟨(some 60), (some (59, false)), .fa 4 (.t 6)⟩, ⟨(some 61), (some (59, false)), .ld false 1 (.t 60)⟩, ⟨(some 62), (some (59, false)), .lenl (.t 61)⟩, ⟨(some 63), (some (59, false)), .fa 4 (.t 7)⟩, ⟨(some 64), (some (59, false)), .ld false 1 (.t 63)⟩, ⟨(some 65), (some (59, false)), .lenl (.t 64)⟩, ⟨(some 66), (some (59, false)), .bin .neq (.t 62) (.t 65)⟩, oo 67 (.pick (.t 59) (.c (.bool true)) (.t 66))])
 (.cond (.t 67) (.seq (.reg [oo 4 (.mv (.c (.bool false)))])
 .ret)
 .skip))
 (.seq (.reg [oo 8 (.mv (.c (.j 0)))])
 (.blk 2 (.loop (.seq (.seq (.reg [om 68 8, oo 69 (.fa 4 (.t 6)), oo 70 (.ld false 1 (.t 69)), oo 71 (.lenl (.t 70)), oo 72 (.bin .lss (.t 68) (.t 71))])
 (.cond (.t 72) .skip
 (.exit 2)))
 (.seq (.blk 3 (.seq (.drw [oo 75 (.fa 4 (.t 6)), oo 76 (.ld false 1 (.t 75)), om 77 8, oo 78 (.ia 3 (.t 76) (.t 77)), oo 79 (.ld true 3 (.t 78)), oo 80 (.fa 4 (.t 7)), oo 81 (.ld false 1 (.t 80)), om 82 8, oo 83 (.ia 3 (.t 81) (.t 82)), oo 84 (.ld true 3 (.t 83)), oo 85 (.equ true [(0, 1), (1, 1), (2, 2)] (.t 79) (.t 84))] [.val [], .val [], .val [], .val [], .val [], .val [], .val [], .val [], .val [], .val [], .val []])
 (.cond (.t 85) (.seq (.reg [oo 4 (.mv (.c (.bool false)))])
 .ret)
 .skip)))
 (.reg [om 73 8, oo 74 (.bin .add (.t 73) (.c (.j 1))), om 8 74]))))))))))
 (.reg [om 21 5, oo 22 (.bin .add (.t 21) (.c (.j 1))), om 5 22]))))))
 (.seq (.reg [oo 4 (.mv (.c (.bool true)))])
 .ret))))
theorem k_spec_SameState : FnOk Try.prog 32 86 rc_spec_SameState [.t 4] := ⟨Try.f32, _, [], Try.func32, rfl, rfl, by kernel_rfl, by kernel_rfl, follows⟩
theorem ok_spec_SameState : okF Try.prog 32 = true := by kernel_rfl
def rc_laws_flip : RC :=
 (.seq (.reg [oo 2 (.mv (.c (.nils)))])
 (.seq (.reg [oo 5 (.mv (.c (.nils))), om 3 5])
 (.seq (.seq (.reg [oo 4 (.mv (.c (.j 0)))])
 (.blk 0 (.loop (.seq (.seq (.reg [om 6 4, om 7 0, oo 8 (.lenl (.t 7)), oo 9 (.bin .lss (.t 6) (.t 8))])
 (.cond (.t 9) .skip
 (.exit 0)))
 (.seq (.blk 1 (.reg [om 12 3, om 13 0, om 14 4, oo 15 (.ia 1 (.t 13) (.t 14)), oo 16 (.ld false 1 (.t 15)), oo 17 (.un .not (.t 16)), oo 18 (.bs 1 [.bool false] 1 [(0, (.t 17))]), oo 19 (.app 1 1 (.t 12) (.t 18)), om 3 19]))
 (.reg [om 10 4, oo 11 (.bin .add (.t 10) (.c (.j 1))), om 4 11]))))))
 (.seq (.reg [om 20 3, om 2 20])
 .ret))))
theorem k_laws_flip : FnOk Try.prog 34 21 rc_laws_flip [.t 2] := ⟨Try.f34, _, [], Try.func34, rfl, rfl, by kernel_rfl, by kernel_rfl, follows⟩
theorem ok_laws_flip : okF Try.prog 34 = true := by kernel_rfl
def rc_laws_big : RC :=
 (.seq (.reg [oo 2 (.mv (.c (.bool false)))])
 (.seq (.reg [om 3 0, oo 4 (.lenl (.t 3)), oo 5 (.bin .gtr (.t 4) (.c (.j 1048576))), om 2 5])
 .ret))
theorem k_laws_big : FnOk Try.prog 8 6 rc_laws_big [.t 2] := ⟨Try.f8, _, [], Try.func8, rfl, rfl, by kernel_rfl, by kernel_rfl, follows⟩
theorem ok_laws_big : okF Try.prog 8 = true := by kernel_rfl
def rc_laws_FnShrinksTwice : RC :=
 (.seq (.reg [oo 2 (.mv (.c (.bool false)))])
 (.seq (.seq (.reg [om 11 0, oo 12 (.cl (.c (.fn 8 [])) [(.t 11)])])
 (.cond (.t 12) (.seq (.reg [oo 2 (.mv (.c (.bool true)))])
 .ret)
 .skip))
 (.seq (.reg [om 13 0, oo 14 (.cl (.c (.fn 26 [])) [(.t 13)]), om 3 14])
 (.seq (.reg [om 15 0, oo 16 (.cl (.c (.fn 20 [])) [(.t 15)]), om 4 16])
 (.seq (.reg [om 17 3, om 18 3, oo 19 (.lenl (.t 18)), om 20 4, oo 21 (.cl (.c (.fn 28 [])) [(.t 19), (.t 20)]), oo 22 (.cl (.c (.fn 27 [])) [(.t 17), (.t 21), (.c (.j 500))]), om 5 22])
 (.seq (.reg [om 23 5, om 24 5, oo 25 (.lenl (.t 24)), om 26 4, oo 27 (.sle 1 (.t 26) (some (.c (.j 3))) none), oo 28 (.cl (.c (.fn 28 [])) [(.t 25), (.t 27)]), oo 29 (.cl (.c (.fn 27 [])) [(.t 23), (.t 28), (.c (.j 600))]), om 6 29])
 (.seq (.reg [om 30 6, om 31 6, oo 32 (.lenl (.t 31)), om 33 4, oo 34 (.sle 1 (.t 33) (some (.c (.j 5))) none), oo 35 (.cl (.c (.fn 28 [])) [(.t 32), (.t 34)]), oo 36 (.cl (.c (.fn 27 [])) [(.t 30), (.t 35), (.c (.j 700))]), om 7 36])
 (.seq (.reg [om 37 3, oo 38 (.cl (.c (.fn 29 [])) [(.t 37)]), oo 8 (.al [.nils]), on (.st 1 (.t 8) (.t 38))])
 (.seq (.reg [om 39 3, oo 40 (.cl (.c (.fn 30 [])) [(.t 39)]), om 9 40])
 (.seq (.seq (.reg [oo 10 (.mv (.c (.j 0)))])
 (.blk 0 (.loop (.seq (.seq (.reg [om 41 10, om 42 9, oo 43 (.lenl (.t 42)), oo 44 (.bin .lss (.t 41) (.t 43))])
 (.cond (.t 44) .skip
 (.exit 0)))
 (.seq (.blk 1 (.seq (.drw [om 47 9, om 48 10, oo 49 (.ia 1 (.t 47) (.t 48)), oo 50 (.ld false 1 (.t 49)), om 51 3, om 52 10, oo 53 (.cl (.c (.fn 31 [])) [(.t 51), (.t 52)]), oo 54 (.eqb true (.t 50) (.t 53))] [.val [], .val [], .val [], .val [], .val [], .val [], .val [], .val []])
 (.cond (.t 54) (.seq (.reg [oo 2 (.mv (.c (.bool false)))])
 .ret)
 .skip)))
 (.reg [om 45 10, oo 46 (.bin .add (.t 45) (.c (.j 1))), om 10 46]))))))
 (.seq (.drw [om 55 6, oo 56 (.cl (.c (.fn 29 [])) [(.t 55)]), oo 57 (.ld true 1 (.t 8)), oo 58 (.cl (.c (.fn 32 [])) [(.t 56), (.t 57)]), om 59 58, ⟨(some 60), (some (59, true)), .mv (.t 7)⟩, ⟨(some 61), (some (59, true)), .cl (.c (.fn 29 [])) [(.t 60)]⟩, ⟨(some 62), (some (59, true)), .ld true 1 (.t 8)⟩, ⟨(some 63), (some (59, true)), .cl (.c (.fn 32 [])) [(.t 61), (.t 62)]⟩, oo 64 (.pick (.t 59) (.t 63) (.c (.bool false))), om 65 64, ⟨(some 66), (some (65, true)), .mv (.t 9)⟩, ⟨(some 67), (some (65, true)), .lenl (.t 66)⟩, ⟨(some 68), (some (65, true)), .mv (.t 3)⟩, ⟨(some 69), (some (65, true)), .lenl (.t 68)⟩, ⟨(some 70), (some (65, true)), .bin .eql (.t 67) (.t 69)⟩, oo 71 (.pick (.t 65) (.t 70) (.c (.bool false))), om 72 71, ⟨(some 73), (some (72, true)), .mv (.t 3)⟩, ⟨(some 74), (some (72, true)), .mv (.t 9)⟩, ⟨(some 75), (some (72, true)), .cl (.c (.fn 33 [])) [(.t 73), (.t 74)]⟩, ⟨(some 76), (some (72, true)), .lenl (.t 75)⟩, ⟨(some 77), (some (72, true)), .mv (.t 3)⟩, ⟨(some 78), (some (72, true)), .mv (.t 9)⟩, ⟨(some 79), (some (72, true)), .cl (.c (.fn 34 [])) [(.t 78)]⟩, ⟨(some 80), (some (72, true)), .cl (.c (.fn 33 [])) [(.t 77), (.t 79)]⟩, ⟨(some 81), (some (72, true)), .lenl (.t 80)⟩, ⟨(some 82), (some (72, true)), .bin .add (.t 76) (.t 81)⟩, ⟨(some 83), (some (72, true)), .mv (.t 3)⟩, ⟨(some 84), (some (72, true)), .lenl (.t 83)⟩, ⟨(some 85), (some (72, true)), .bin .eql (.t 82) (.t 84)⟩, oo 86 (.pick (.t 72) (.t 85) (.c (.bool false))), om 2 86] [.val [], .val [], .val [], .val [], .val [], .val [], .val [], .val [], .val [], .val [], .val [], .val [], .val [], .val [], .val [], .val [], .val [], .val [], .val [], .val [], .val [], .val [], .val [], .val [], .val [], .val [], .val [], .val [], .val [], .val [], .val [], .val [], .val []])
 .ret)))))))))))
theorem k_laws_FnShrinksTwice : FnOk Try.prog 5 87 rc_laws_FnShrinksTwice [.t 2] := ⟨Try.f5, _, [], Try.func5, rfl, rfl, by kernel_rfl, by kernel_rfl, follows⟩
theorem ok_laws_FnShrinksTwice : okF Try.prog 5 = true := by kernel_rfl
end Go.Proofs.Ytldndhdohlfpgaa.V
/- Contracts of the library, laid here. -/
namespace Go.Proofs.Ytldndhdohlfpgaa.V
open Go Go.Proofs Go.RowKit Go.Shelf
set_option maxRecDepth 100000
def rn_slices_Sort_int : Go.Shelf.Ren := ⟨fun | 189 => 155 | 125 => 164 | 257 => 163 | 128 => 174 | 129 => 175 | 294 => 165 | 295 => 166 | 296 => 167 | 297 => 168 | 298 => 169 | 299 => 170 | 216 => 171 | 300 => 172 | 301 => 173 | 328 => 176 | 329 => 177 | 330 => 178 | 331 => 179 | 332 => 180 | 215 => 181 | 343 => 182 | n => n, fun | 28 => 46 | 3 => 3 | 46 => 132 | 0 => 0 | 51 => 133 | 53 => 191 | 4 => 4 | 183 => 183 | 182 => 182 | 131 => 172 | 5 => 5 | 9 => 9 | 218 => 192 | 222 => 196 | 228 => 199 | 229 => 200 | n => n, fun | n => n⟩
theorem ly_slices_Sort_int_189 : Go.Proofs.Lays.n189 Try.prog rn_slices_Sort_int := {
 mixed := by kernel_rfl,
 f125 := Try.func164.trans (congrArg some (by kernel_rfl)),
 f128 := Try.func174.trans (congrArg some (by kernel_rfl)),
 f129 := Try.func175.trans (congrArg some (by kernel_rfl)),
 f189 := Try.func155.trans (congrArg some (by kernel_rfl)),
 f215 := Try.func181.trans (congrArg some (by kernel_rfl)),
 f216 := Try.func171.trans (congrArg some (by kernel_rfl)),
 f257 := Try.func163.trans (congrArg some (by kernel_rfl)),
 f294 := Try.func165.trans (congrArg some (by kernel_rfl)),
 f295 := Try.func166.trans (congrArg some (by kernel_rfl)),
 f296 := Try.func167.trans (congrArg some (by kernel_rfl)),
 f297 := Try.func168.trans (congrArg some (by kernel_rfl)),
 f298 := Try.func169.trans (congrArg some (by kernel_rfl)),
 f299 := Try.func170.trans (congrArg some (by kernel_rfl)),
 f300 := Try.func172.trans (congrArg some (by kernel_rfl)),
 f301 := Try.func173.trans (congrArg some (by kernel_rfl)),
 f328 := Try.func176.trans (congrArg some (by kernel_rfl)),
 f329 := Try.func177.trans (congrArg some (by kernel_rfl)),
 f330 := Try.func178.trans (congrArg some (by kernel_rfl)),
 f331 := Try.func179.trans (congrArg some (by kernel_rfl)),
 f332 := Try.func180.trans (congrArg some (by kernel_rfl)),
 f343 := Try.func182.trans (congrArg some (by kernel_rfl)),
 t0 := Try.underlying0,
 a0 := Try.isAgg0,
 z0 := Try.sizeOf0,
 v0 := Try.zeroValue0,
 t3 := Try.underlying3,
 a3 := Try.isAgg3,
 z3 := Try.sizeOf3,
 v3 := Try.zeroValue3,
 t4 := Try.underlying4,
 a4 := Try.isAgg4,
 z4 := Try.sizeOf4,
 v4 := Try.zeroValue4,
 t5 := Try.underlying5,
 a5 := Try.isAgg5,
 z5 := Try.sizeOf5,
 v5 := Try.zeroValue5,
 t9 := Try.underlying9,
 a9 := Try.isAgg9,
 z9 := Try.sizeOf9,
 v9 := Try.zeroValue9,
 t28 := Try.underlying46,
 a28 := Try.isAgg46,
 z28 := Try.sizeOf46,
 v28 := Try.zeroValue46,
 t46 := Try.underlying132,
 a46 := Try.isAgg132,
 z46 := Try.sizeOf132,
 v46 := Try.zeroValue132,
 t51 := Try.underlying133,
 a51 := Try.isAgg133,
 z51 := Try.sizeOf133,
 v51 := Try.zeroValue133,
 t53 := Try.underlying191,
 a53 := Try.isAgg191,
 z53 := Try.sizeOf191,
 v53 := Try.zeroValue191,
 t131 := Try.underlying172,
 a131 := Try.isAgg172,
 z131 := Try.sizeOf172,
 v131 := Try.zeroValue172,
 t182 := Try.underlying182,
 a182 := Try.isAgg182,
 z182 := Try.sizeOf182,
 v182 := Try.zeroValue182,
 t183 := Try.underlying183,
 a183 := Try.isAgg183,
 z183 := Try.sizeOf183,
 v183 := Try.zeroValue183,
 t218 := Try.underlying192,
 a218 := Try.isAgg192,
 z218 := Try.sizeOf192,
 v218 := Try.zeroValue192,
 t222 := Try.underlying196,
 a222 := Try.isAgg196,
 z222 := Try.sizeOf196,
 v222 := Try.zeroValue196,
 t228 := Try.underlying199,
 a228 := Try.isAgg199,
 z228 := Try.sizeOf199,
 v228 := Try.zeroValue199,
 t229 := Try.underlying200,
 a229 := Try.isAgg200,
 z229 := Try.sizeOf200,
 v229 := Try.zeroValue200 }
theorem lay_slices_Sort_int : SortC Try.prog 155 := ⟨by kernel_rfl, fun blk off cap zs w h1 h2 h3 => Any.slices_Sort_int ly_slices_Sort_int_189 blk off cap zs w h1 h2 h3, fun p cap w => Any.slices_Sort_int_none ly_slices_Sort_int_189 p cap w⟩
def rn_slices_Compact_int : Go.Shelf.Ren := ⟨fun | 20 => 156 | n => n, fun | 22 => 46 | 3 => 3 | 4 => 4 | 0 => 0 | n => n, fun | n => n⟩
theorem ly_slices_Compact_int_20 : Go.Proofs.Lays2.n20 Try.prog rn_slices_Compact_int := {
 mixed := by kernel_rfl,
 f20 := Try.func156.trans (congrArg some (by kernel_rfl)),
 t0 := Try.underlying0,
 a0 := Try.isAgg0,
 z0 := Try.sizeOf0,
 v0 := Try.zeroValue0,
 t3 := Try.underlying3,
 a3 := Try.isAgg3,
 z3 := Try.sizeOf3,
 v3 := Try.zeroValue3,
 t4 := Try.underlying4,
 a4 := Try.isAgg4,
 z4 := Try.sizeOf4,
 v4 := Try.zeroValue4,
 t22 := Try.underlying46,
 a22 := Try.isAgg46,
 z22 := Try.sizeOf46,
 v22 := Try.zeroValue46,
 i3 := by kernel_rfl }
theorem lay_slices_Compact_int : CompC Try.prog 156 := ⟨by kernel_rfl, fun blk off cap zs w h1 h2 h3 => Any.slices_Compact_int ly_slices_Compact_int_20 blk off cap zs w h1 h2 h3, fun a cap w => Any.slices_Compact_int_empty ly_slices_Compact_int_20 a cap w⟩
end Go.Proofs.Ytldndhdohlfpgaa.V
