/- The functions' texts. -/
import Derived.Test.YtldndhdohlfpgaaXE
import Derived.Test.YtldndhdohlfpgaaProg
import Derived.KernelRfl
/- The functions' texts. -/
namespace Go.Proofs.Ytldndhdohlfpgaa.V
open Go Go.Proofs Go.RowKit
set_option maxRecDepth 100000
theorem follows : Try.prog.follows .mixedOrders = true:=by kernel_rfl
def rc_impl_in : RC :=
 (.seq (.reg [oo 6 (.mv (.c (.bool false)))])
 (.seq (.reg [om 7 0,om 8 1,oo 9 (.bin .geq (.t 7) (.t 8)),om 10 9,⟨(some 11),(some (10,true)),.mv (.t 0)⟩,⟨(some 12),(some (10,true)),.mv (.t 2)⟩,⟨(some 13),(some (10,true)),.bin .leq (.t 11) (.t 12)⟩,oo 14 (.pick (.t 10) (.t 13) (.c (.bool false))),om 6 14])
 .ret))
theorem k_impl_in : FnOk Try.prog 59 15 rc_impl_in [.t 6]:=⟨Try.f59,_,[],Try.func59,rfl,rfl,by kernel_rfl,by kernel_rfl,follows⟩
theorem ok_impl_in : okF Try.prog 59 = true:=by kernel_rfl
def rc_impl_CheckOk_1 : RC :=
 (.seq (.reg [oo 2 (.bx (.t 0)),oo 3 (.mv (.c (.bool false)))])
 (.seq (.reg [oo 4 (.fa 0 (.t 2)),oo 5 (.ld false 1 (.t 4)),oo 6 (.fa 0 (.t 1)),oo 7 (.ld false 1 (.t 6)),oo 8 (.bin .eql (.t 5) (.t 7)),om 3 8])
 .ret))
theorem k_impl_CheckOk_1 : FnOk Try.prog 61 9 rc_impl_CheckOk_1 [.t 3]:=⟨Try.f61,_,[],Try.func61,rfl,rfl,by kernel_rfl,by kernel_rfl,follows⟩
theorem ok_impl_CheckOk_1 : okF Try.prog 61 = true:=by kernel_rfl
def rc_slices_IndexFunc_Ref : RC :=
 (.seq (.reg [oo 4 (.mv (.c (.j 0)))])
 (.seq (.seq (.reg [om 6 0,oo 7 (.lenl (.t 6)),oo 8 (.mv (.c (.j 0)))])
 (.blk 0 (.loop (.seq (.reg [oo 9 (.bin .lss (.t 8) (.t 7))])
 (.seq (.cond (.t 9) .skip
 (.exit 0))
 (.seq (.blk 1 (.seq (.reg [om 10 8,om 5 10])
 (.seq (.reg [om 11 1,om 12 0,om 13 5,oo 14 (.ia 2 (.t 12) (.t 13)),oo 15 (.ld true 2 (.t 14)),oo 16 (.cl (.t 11) [(.t 15)])])
 (.cond (.t 16) (.seq (.reg [om 17 5,om 4 17])
 .ret)
 .skip))))
 (.reg [oo 18 (.bin .add (.t 8) (.c (.j 1))),om 8 18])))))))
 (.seq (.reg [oo 4 (.mv (.c (.j (-1))))])
 .ret)))
theorem k_slices_IndexFunc_Ref : FnOk Try.prog 107 19 rc_slices_IndexFunc_Ref [.t 4]:=⟨Try.f107,_,[],Try.func107,rfl,rfl,by kernel_rfl,by kernel_rfl,follows⟩
theorem ok_slices_IndexFunc_Ref : okF Try.prog 107 = true:=by kernel_rfl
def rc_slices_ContainsFunc_Ref : RC :=
 (.seq (.reg [oo 4 (.mv (.c (.bool false)))])
 (.seq (.reg [om 5 0,om 6 1,oo 7 (.cl (.c (.fn 107 [])) [(.t 5),(.t 6)]),oo 8 (.bin .geq (.t 7) (.c (.j 0))),om 4 8])
 .ret))
theorem k_slices_ContainsFunc_Ref : FnOk Try.prog 60 9 rc_slices_ContainsFunc_Ref [.t 4]:=⟨Try.f60,_,[],Try.func60,rfl,rfl,by kernel_rfl,by kernel_rfl,follows⟩
theorem ok_slices_ContainsFunc_Ref : okF Try.prog 60 = true:=by kernel_rfl
def rc_impl_CheckOk : RC :=
 (.seq (.reg [oo 1 (.bx (.t 0)),oo 2 (.mv (.c (.bool false)))])
 (.seq (.seq (.reg [oo 8 (.fa 0 (.t 1)),oo 9 (.ld false 1 (.t 8)),oo 10 (.fa 1 (.t 1)),oo 11 (.ld false 1 (.t 10)),oo 12 (.fa 2 (.t 1)),oo 13 (.ld false 1 (.t 12)),oo 14 (.fa 3 (.t 1)),oo 15 (.ld false 1 (.t 14)),oo 16 (.bs 1 [.j 0] 4 [(0,(.t 9)),(1,(.t 11)),(2,(.t 13)),(3,(.t 15))]),oo 17 (.lenl (.t 16)),oo 18 (.mv (.c (.j 0)))])
 (.blk 0 (.loop (.seq (.reg [oo 19 (.bin .lss (.t 18) (.t 17))])
 (.seq (.cond (.t 19) .skip
 (.exit 0))
 (.seq (.blk 1 (.seq (.reg [oo 20 (.ia 1 (.t 16) (.t 18)),oo 21 (.ld false 1 (.t 20)),om 4 21])
 (.seq (.reg [om 22 4,oo 23 (.cl (.c (.fn 59 [])) [(.t 22),(.c (.j 1)),(.c (.j 1000000000))]),oo 24 (.un .not (.t 23))])
 (.cond (.t 24) (.seq (.reg [oo 2 (.mv (.c (.bool false)))])
 .ret)
 .skip))))
 (.reg [oo 25 (.bin .add (.t 18) (.c (.j 1))),om 18 25])))))))
 (.seq (.seq (.reg [oo 26 (.fa 4 (.t 1)),oo 27 (.ld false 1 (.t 26)),oo 28 (.lenl (.t 27)),oo 29 (.cl (.c (.fn 59 [])) [(.t 28),(.c (.j 1)),(.c (.j 11))]),oo 30 (.un .not (.t 29))])
 (.cond (.t 30) (.seq (.reg [oo 2 (.mv (.c (.bool false)))])
 .ret)
 .skip))
 (.seq (.reg [oo 5 (.mv (.c (.j 0)))])
 (.seq (.seq (.reg [oo 31 (.fa 4 (.t 1)),oo 32 (.ld false 1 (.t 31)),oo 33 (.lenl (.t 32)),oo 34 (.mv (.c (.j 0)))])
 (.blk 2 (.loop (.seq (.reg [oo 35 (.bin .lss (.t 34) (.t 33))])
 (.seq (.cond (.t 35) .skip
 (.exit 2))
 (.seq (.blk 3 (.seq (.reg [om 36 34,oo 37 (.ia 2 (.t 32) (.t 34)),oo 38 (.ld true 2 (.t 37)),oo 7 (.al [.j 0,.j 0]),om 6 36,on (.st 2 (.t 7) (.t 38))])
 (.seq (.seq (.reg [oo 39 (.fa 1 (.t 7)),oo 40 (.ld false 1 (.t 39)),om 41 5,oo 42 (.bin .add (.t 41) (.c (.j 1))),oo 43 (.fa 1 (.t 1)),oo 44 (.ld false 1 (.t 43)),oo 45 (.bin .sub (.t 44) (.c (.j 1))),oo 46 (.cl (.c (.fn 59 [])) [(.t 40),(.t 42),(.t 45)]),oo 47 (.un .not (.t 46)),om 48 47,⟨(some 49),(some (48,false)),.fa 0 (.t 7)⟩,⟨(some 50),(some (48,false)),.ld false 1 (.t 49)⟩,⟨(some 51),(some (48,false)),.cl (.c (.fn 59 [])) [(.t 50),(.c (.j 0)),(.c (.j 10))]⟩,⟨(some 52),(some (48,false)),.un .not (.t 51)⟩,oo 53 (.pick (.t 48) (.c (.bool true)) (.t 52)),om 54 53,⟨(some 55),(some (54,false)),.fa 4 (.t 1)⟩,⟨(some 56),(some (54,false)),.ld false 1 (.t 55)⟩,⟨(some 57),(some (54,false)),.mv (.t 6)⟩,⟨(some 58),(some (54,false)),.sle 2 (.t 56) none (some (.t 57))⟩,⟨(some 59),(some (54,false)),.mkf 61 [(.t 7)]⟩,⟨(some 60),(some (54,false)),.cl (.c (.fn 60 [])) [(.t 58),(.t 59)]⟩,oo 61 (.pick (.t 54) (.c (.bool true)) (.t 60))])
 (.cond (.t 61) (.seq (.reg [oo 2 (.mv (.c (.bool false)))])
 .ret)
 .skip))
 (.reg [oo 62 (.fa 1 (.t 7)),oo 63 (.ld false 1 (.t 62)),om 5 63]))))
 (.reg [oo 64 (.bin .add (.t 34) (.c (.j 1))),om 34 64])))))))
 (.seq (.reg [oo 2 (.mv (.c (.bool true)))])
 .ret))))))
theorem k_impl_CheckOk : FnOk Try.prog 15 65 rc_impl_CheckOk [.t 2]:=⟨Try.f15,_,[],Try.func15,rfl,rfl,by kernel_rfl,by kernel_rfl,follows⟩
theorem ok_impl_CheckOk : okF Try.prog 15 = true:=by kernel_rfl
def rc_impl_varText : RC :=
 (.seq (.reg [oo 2 (.mv (.c (.str [])))])
 (.seq (.reg [oo 4 (.mv (.c (.nils))),om 3 4])
 (.seq (.blk 0 (.loop (.seq (.seq (.reg [om 5 0,oo 6 (.bin .gtr (.t 5) (.c (.j 127)))])
 (.cond (.t 6) .skip
 (.exit 0)))
 (.blk 1 (.seq (.reg [om 7 3,om 8 0,oo 9 (.bin .and (.t 8) (.c (.j 127))),oo 10 (.bin .or (.t 9) (.c (.j 128))),oo 11 (.cvi .u8 (.t 10)),oo 12 (.bs 1 [.int .u8 0] 1 [(0,(.t 11))]),oo 13 (.app 1 1 (.t 7) (.t 12)),om 3 13])
 (.reg [om 14 0,oo 15 (.bin .shr (.t 14) (.c (.int .u64 7))),om 0 15]))))))
 (.seq (.reg [om 16 3,om 17 0,oo 18 (.cvi .u8 (.t 17)),oo 19 (.bs 1 [.int .u8 0] 1 [(0,(.t 18))]),oo 20 (.app 1 1 (.t 16) (.t 19)),oo 21 (.cvb (.t 20)),om 2 21])
 .ret))))
theorem k_impl_varText : FnOk Try.prog 48 22 rc_impl_varText [.t 2]:=⟨Try.f48,_,[],Try.func48,rfl,rfl,by kernel_rfl,by kernel_rfl,follows⟩
theorem ok_impl_varText : okF Try.prog 48 = true:=by kernel_rfl
def rc_impl_SumMore : RC :=
 (.seq (.reg [oo 4 (.mv (.c (.int .u32 0)))])
 (.seq (.seq (.reg [om 7 1,oo 8 (.lens (.t 7)),oo 9 (.mv (.c (.j 0)))])
 (.blk 0 (.loop (.seq (.reg [oo 10 (.bin .lss (.t 9) (.t 8))])
 (.seq (.cond (.t 10) .skip
 (.exit 0))
 (.seq (.blk 1 (.seq (.reg [om 11 9,om 5 11])
 (.seq (.reg [om 12 0,om 13 1,om 14 5,oo 15 (.idx (.t 13) (.t 14)),oo 16 (.cvi .u32 (.t 15)),oo 17 (.bin .xor (.t 12) (.t 16)),om 0 17])
 (.seq (.reg [oo 18 (.mv (.c (.j 0)))])
 (.blk 2 (.loop (.seq (.reg [oo 19 (.bin .lss (.t 18) (.c (.j 8)))])
 (.seq (.cond (.t 19) .skip
 (.exit 2))
 (.seq (.blk 3 (.seq (.reg [om 20 0,oo 21 (.bin .and (.t 20) (.c (.int .u32 1))),oo 22 (.bin .eql (.t 21) (.c (.int .u32 1))),om 6 22])
 (.seq (.reg [om 23 0,oo 24 (.bin .shr (.t 23) (.c (.int .u64 1))),om 0 24])
 (.seq (.reg [om 25 6])
 (.cond (.t 25) (.reg [om 26 0,oo 27 (.bin .xor (.t 26) (.c (.int .u32 3558460437))),om 0 27])
 .skip)))))
 (.reg [oo 28 (.bin .add (.t 18) (.c (.j 1))),om 18 28]))))))))))
 (.reg [oo 29 (.bin .add (.t 9) (.c (.j 1))),om 9 29])))))))
 (.seq (.reg [om 30 0,om 4 30])
 .ret)))
theorem k_impl_SumMore : FnOk Try.prog 144 31 rc_impl_SumMore [.t 4]:=⟨Try.f144,_,[],Try.func144,rfl,rfl,by kernel_rfl,by kernel_rfl,follows⟩
theorem ok_impl_SumMore : okF Try.prog 144 = true:=by kernel_rfl
def rc_impl_SumOf : RC :=
 (.seq (.reg [oo 2 (.mv (.c (.int .u32 0)))])
 (.seq (.reg [om 3 0,oo 4 (.cl (.c (.fn 144 [])) [(.c (.int .u32 4294967295)),(.t 3)]),om 2 4])
 .ret))
theorem k_impl_SumOf : FnOk Try.prog 98 5 rc_impl_SumOf [.t 2]:=⟨Try.f98,_,[],Try.func98,rfl,rfl,by kernel_rfl,by kernel_rfl,follows⟩
theorem ok_impl_SumOf : okF Try.prog 98 = true:=by kernel_rfl
def rc_impl_seal : RC :=
 (.seq (.reg [oo 2 (.mv (.c (.str [])))])
 (.seq (.reg [om 4 0,oo 5 (.cl (.c (.fn 98 [])) [(.t 4)]),om 3 5])
 (.seq (.reg [om 6 3,oo 7 (.bin .shr (.t 6) (.c (.int .u64 24))),oo 8 (.cvi .u8 (.t 7)),om 9 3,oo 10 (.bin .shr (.t 9) (.c (.int .u64 16))),oo 11 (.cvi .u8 (.t 10)),om 12 3,oo 13 (.bin .shr (.t 12) (.c (.int .u64 8))),oo 14 (.cvi .u8 (.t 13)),om 15 3,oo 16 (.cvi .u8 (.t 15)),oo 17 (.bs 1 [.int .u8 0] 4 [(0,(.t 8)),(1,(.t 11)),(2,(.t 14)),(3,(.t 16))]),oo 18 (.cvb (.t 17)),om 2 18])
 .ret)))
theorem k_impl_seal : FnOk Try.prog 49 19 rc_impl_seal [.t 2]:=⟨Try.f49,_,[],Try.func49,rfl,rfl,by kernel_rfl,by kernel_rfl,follows⟩
theorem ok_impl_seal : okF Try.prog 49 = true:=by kernel_rfl
def rc_impl_CheckText : RC :=
 (.seq (.reg [oo 1 (.bx (.t 0)),oo 2 (.mv (.c (.str []))),oo 3 (.mv (.c (.bool false)))])
 (.seq (.seq (.reg [oo 8 (.ld true 5 (.t 1)),oo 9 (.cl (.c (.fn 15 [])) [(.t 8)]),oo 10 (.un .not (.t 9))])
 (.cond (.t 10) (.seq (.reg [oo 2 (.mv (.c (.str []))),oo 3 (.mv (.c (.bool false)))])
 .ret)
 .skip))
 (.seq (.drw [oo 11 (.fa 0 (.t 1)),oo 12 (.ld false 1 (.t 11)),oo 13 (.cl (.c (.fn 48 [])) [(.t 12)]),oo 14 (.fa 1 (.t 1)),oo 15 (.ld false 1 (.t 14)),oo 16 (.cl (.c (.fn 48 [])) [(.t 15)]),oo 17 (.bin .add (.t 13) (.t 16)),oo 18 (.fa 2 (.t 1)),oo 19 (.ld false 1 (.t 18)),oo 20 (.cl (.c (.fn 48 [])) [(.t 19)]),oo 21 (.bin .add (.t 17) (.t 20)),oo 22 (.fa 3 (.t 1)),oo 23 (.ld false 1 (.t 22)),oo 24 (.cl (.c (.fn 48 [])) [(.t 23)]),oo 25 (.bin .add (.t 21) (.t 24)),oo 26 (.fa 4 (.t 1)),oo 27 (.ld false 1 (.t 26)),oo 28 (.lenl (.t 27)),oo 29 (.cl (.c (.fn 48 [])) [(.t 28)]),oo 30 (.bin .add (.t 25) (.t 29)),om 4 30] [.val [],.val [],.val [],.val [],.val [],.val [],.val [],.val [],.val [],.val [],.val [],.val [],.val [],.val [],.val [],.val [],.val [],.val [],.val [],.val [],.val []])
 (.seq (.seq (.reg [oo 31 (.fa 4 (.t 1)),oo 32 (.ld false 1 (.t 31)),oo 33 (.lenl (.t 32)),oo 34 (.mv (.c (.j 0)))])
 (.blk 0 (.loop (.seq (.reg [oo 35 (.bin .lss (.t 34) (.t 33))])
 (.seq (.cond (.t 35) .skip
 (.exit 0))
 (.seq (.blk 1 (.seq (.reg [oo 36 (.ia 2 (.t 32) (.t 34)),oo 37 (.ld true 2 (.t 36)),oo 6 (.al [.j 0,.j 0]),on (.st 2 (.t 6) (.t 37))])
 (.drw [om 38 4,oo 39 (.fa 0 (.t 6)),oo 40 (.ld false 1 (.t 39)),oo 41 (.cl (.c (.fn 48 [])) [(.t 40)]),oo 42 (.fa 1 (.t 6)),oo 43 (.ld false 1 (.t 42)),oo 44 (.cl (.c (.fn 48 [])) [(.t 43)]),oo 45 (.bin .add (.t 41) (.t 44)),oo 46 (.bin .add (.t 38) (.t 45)),om 4 46] [.val [],.val [],.val [],.val [],.val [],.val [],.val [],.val [],.val [],.val []])))
 (.reg [oo 47 (.bin .add (.t 34) (.c (.j 1))),om 34 47])))))))
 (.seq (.reg [om 48 4,om 49 4,oo 50 (.cl (.c (.fn 49 [])) [(.t 49)]),oo 51 (.bin .add (.t 48) (.t 50)),om 4 51])
 (.seq (.reg [om 52 4,oo 53 (.lens (.t 52)),oo 54 (.cl (.c (.fn 48 [])) [(.t 53)]),om 55 4,oo 56 (.bin .add (.t 54) (.t 55)),om 7 56])
 (.seq (.seq (.reg [om 57 7,oo 58 (.lens (.t 57)),oo 59 (.bin .gtr (.t 58) (.c (.j 128)))])
 (.cond (.t 59) (.seq (.reg [oo 2 (.mv (.c (.str []))),oo 3 (.mv (.c (.bool false)))])
 .ret)
 .skip))
 (.seq (.reg [om 60 7,om 2 60,oo 3 (.mv (.c (.bool true)))])
 .ret))))))))
theorem k_impl_CheckText : FnOk Try.prog 11 61 rc_impl_CheckText [.t 2,.t 3]:=⟨Try.f11,_,[],Try.func11,rfl,rfl,by kernel_rfl,by kernel_rfl,follows⟩
theorem ok_impl_CheckText : okF Try.prog 11 = true:=by kernel_rfl
def rc_impl_ReadVar : RC :=
 (.seq (.reg [oo 4 (.mv (.c (.j 0))),oo 5 (.mv (.c (.j 0))),oo 6 (.mv (.c (.bool false)))])
 (.seq (.seq (.reg [om 10 1,om 11 0,oo 12 (.lens (.t 11)),oo 13 (.cl (.c (.fn 59 [])) [(.t 10),(.c (.j 0)),(.t 12)]),oo 14 (.un .not (.t 13))])
 (.cond (.t 14) (.seq (.reg [oo 4 (.mv (.c (.j 0))),oo 5 (.mv (.c (.j 0))),oo 6 (.mv (.c (.bool false)))])
 .ret)
 .skip))
 (.seq (.reg [oo 7 (.mv (.c (.j 0)))])
 (.seq (.seq (.reg [oo 8 (.mv (.c (.j 0)))])
 (.blk 0 (.loop (.seq (.seq (.reg [om 15 8,oo 16 (.bin .lss (.t 15) (.c (.j 5))),om 17 16,⟨(some 18),(some (17,true)),.mv (.t 1)⟩,⟨(some 19),(some (17,true)),.mv (.t 8)⟩,⟨(some 20),(some (17,true)),.bin .add (.t 18) (.t 19)⟩,⟨(some 21),(some (17,true)),.mv (.t 0)⟩,⟨(some 22),(some (17,true)),.lens (.t 21)⟩,⟨(some 23),(some (17,true)),.bin .lss (.t 20) (.t 22)⟩,oo 24 (.pick (.t 17) (.t 23) (.c (.bool false)))])
 (.cond (.t 24) .skip
 (.exit 0)))
 (.seq (.blk 1 (.seq (.reg [om 27 0,om 28 1,om 29 8,oo 30 (.bin .add (.t 28) (.t 29)),oo 31 (.idx (.t 27) (.t 30)),oo 32 (.cvi .i64 (.t 31)),om 9 32])
 (.seq (.reg [om 33 7,om 34 9,oo 35 (.bin .and (.t 34) (.c (.j 127))),om 36 8,oo 37 (.bin .mul (.c (.j 7)) (.t 36)),oo 38 (.bin .shl (.t 35) (.t 37)),oo 39 (.bin .or (.t 33) (.t 38)),om 7 39])
 (.seq (.seq (.reg [om 40 9,oo 41 (.bin .gtr (.t 40) (.c (.j 127)))])
 (.cond (.t 41) (.exit 1)
 .skip))
 (.seq (.seq (.reg [om 42 9,oo 43 (.bin .eql (.t 42) (.c (.j 0))),om 44 43,⟨(some 45),(some (44,true)),.mv (.t 8)⟩,⟨(some 46),(some (44,true)),.bin .gtr (.t 45) (.c (.j 0))⟩,oo 47 (.pick (.t 44) (.t 46) (.c (.bool false))),om 48 47,⟨(some 49),(some (48,false)),.mv (.t 7)⟩,⟨(some 50),(some (48,false)),.bin .gtr (.t 49) (.c (.j 1000000000))⟩,oo 51 (.pick (.t 48) (.c (.bool true)) (.t 50))])
 (.cond (.t 51) (.seq (.reg [oo 4 (.mv (.c (.j 0))),oo 5 (.mv (.c (.j 0))),oo 6 (.mv (.c (.bool false)))])
 .ret)
 .skip))
 (.seq (.reg [om 52 7,om 53 1,om 54 8,oo 55 (.bin .add (.t 53) (.t 54)),oo 56 (.bin .add (.t 55) (.c (.j 1))),om 4 52,om 5 56,oo 6 (.mv (.c (.bool true)))])
 .ret))))))
 (.reg [om 25 8,oo 26 (.bin .add (.t 25) (.c (.j 1))),om 8 26]))))))
 (.seq (.reg [oo 4 (.mv (.c (.j 0))),oo 5 (.mv (.c (.j 0))),oo 6 (.mv (.c (.bool false)))])
 .ret)))))
theorem k_impl_ReadVar : FnOk Try.prog 52 57 rc_impl_ReadVar [.t 4,.t 5,.t 6]:=⟨Try.f52,_,[],Try.func52,rfl,rfl,by kernel_rfl,by kernel_rfl,follows⟩
theorem ok_impl_ReadVar : okF Try.prog 52 = true:=by kernel_rfl
def rc_impl_ReadShort : RC :=
 (.seq (.reg [oo 4 (.mv (.c (.str []))),oo 5 (.mv (.c (.j 0))),oo 6 (.mv (.c (.bool false)))])
 (.seq (.reg [om 11 0,om 12 1,oo 13 (.cl (.c (.fn 52 [])) [(.t 11),(.t 12)]),om 10 13,oo 14 (.ext (.t 10) 0),oo 15 (.ext (.t 10) 1),oo 16 (.ext (.t 10) 2),om 7 14,om 8 15,om 9 16])
 (.seq (.seq (.reg [om 17 9,oo 18 (.un .not (.t 17)),om 19 18,⟨(some 20),(some (19,false)),.mv (.t 7)⟩,⟨(some 21),(some (19,false)),.bin .gtr (.t 20) (.c (.j 20000))⟩,oo 22 (.pick (.t 19) (.c (.bool true)) (.t 21)),om 23 22,⟨(some 24),(some (23,false)),.mv (.t 7)⟩,⟨(some 25),(some (23,false)),.mv (.t 0)⟩,⟨(some 26),(some (23,false)),.lens (.t 25)⟩,⟨(some 27),(some (23,false)),.mv (.t 8)⟩,⟨(some 28),(some (23,false)),.bin .sub (.t 26) (.t 27)⟩,⟨(some 29),(some (23,false)),.bin .gtr (.t 24) (.t 28)⟩,oo 30 (.pick (.t 23) (.c (.bool true)) (.t 29))])
 (.cond (.t 30) (.seq (.reg [oo 4 (.mv (.c (.str []))),oo 5 (.mv (.c (.j 0))),oo 6 (.mv (.c (.bool false)))])
 .ret)
 .skip))
 (.seq (.reg [om 31 0,om 32 8,om 33 8,om 34 7,oo 35 (.bin .add (.t 33) (.t 34)),oo 36 (.sls (.t 31) (some (.t 32)) (some (.t 35))),om 37 8,om 38 7,oo 39 (.bin .add (.t 37) (.t 38)),om 4 36,om 5 39,oo 6 (.mv (.c (.bool true)))])
 .ret))))
theorem k_impl_ReadShort : FnOk Try.prog 50 40 rc_impl_ReadShort [.t 4,.t 5,.t 6]:=⟨Try.f50,_,[],Try.func50,rfl,rfl,by kernel_rfl,by kernel_rfl,follows⟩
theorem ok_impl_ReadShort : okF Try.prog 50 = true:=by kernel_rfl
def rc_impl_Unsealed : RC :=
 (.seq (.reg [oo 2 (.mv (.c (.str []))),oo 3 (.mv (.c (.bool false)))])
 (.seq (.reg [om 5 0,oo 6 (.lens (.t 5)),oo 7 (.bin .sub (.t 6) (.c (.j 4))),om 4 7])
 (.seq (.seq (.drw [om 8 4,oo 9 (.cl (.c (.fn 59 [])) [(.t 8),(.c (.j 0)),(.c (.j 20000))]),oo 10 (.un .not (.t 9)),om 11 10,⟨(some 12),(some (11,false)),.mv (.t 0)⟩,⟨(some 13),(some (11,false)),.mv (.t 4)⟩,⟨(some 14),(some (11,false)),.sls (.t 12) (some (.t 13)) none⟩,⟨(some 15),(some (11,false)),.mv (.t 0)⟩,⟨(some 16),(some (11,false)),.mv (.t 4)⟩,⟨(some 17),(some (11,false)),.sls (.t 15) none (some (.t 16))⟩,⟨(some 18),(some (11,false)),.cl (.c (.fn 49 [])) [(.t 17)]⟩,⟨(some 19),(some (11,false)),.bin .neq (.t 14) (.t 18)⟩,oo 20 (.pick (.t 11) (.c (.bool true)) (.t 19))] [.val [],.val [],.val [],.val [],.val [],.val [],.val [],.val [],.val [],.val [],.val [],.val [],.val []])
 (.cond (.t 20) (.seq (.reg [oo 2 (.mv (.c (.str []))),oo 3 (.mv (.c (.bool false)))])
 .ret)
 .skip))
 (.seq (.reg [om 21 0,om 22 4,oo 23 (.sls (.t 21) none (some (.t 22))),om 2 23,oo 3 (.mv (.c (.bool true)))])
 .ret))))
theorem k_impl_Unsealed : FnOk Try.prog 51 24 rc_impl_Unsealed [.t 2,.t 3]:=⟨Try.f51,_,[],Try.func51,rfl,rfl,by kernel_rfl,by kernel_rfl,follows⟩
theorem ok_impl_Unsealed : okF Try.prog 51 = true:=by kernel_rfl
def rc_impl_ReadCheck : RC :=
 (.seq (.reg [oo 2 (.al [.j 0,.j 0,.j 0,.j 0,.nils]),oo 3 (.mv (.c (.bool false)))])
 (.seq (.reg [om 19 0,oo 20 (.cl (.c (.fn 50 [])) [(.t 19),(.c (.j 0))]),om 18 20,oo 21 (.ext (.t 18) 0),oo 22 (.ext (.t 18) 1),oo 23 (.ext (.t 18) 2),om 4 21,om 5 22,om 6 23])
 (.seq (.reg [om 25 4,oo 26 (.cl (.c (.fn 51 [])) [(.t 25)]),om 24 26,oo 27 (.ext (.t 24) 0),oo 28 (.ext (.t 24) 1),om 7 27,om 8 28])
 (.seq (.seq (.reg [om 29 6,oo 30 (.un .not (.t 29)),om 31 30,⟨(some 32),(some (31,false)),.mv (.t 8)⟩,⟨(some 33),(some (31,false)),.un .not (.t 32)⟩,oo 34 (.pick (.t 31) (.c (.bool true)) (.t 33))])
 (.cond (.t 34) (.seq (.reg [oo 35 (.bld [.j 0,.j 0,.j 0,.j 0,.nils] [(0,1),(1,1),(2,1),(3,1),(4,1)] []),on (.st 5 (.t 2) (.t 35)),oo 3 (.mv (.c (.bool false)))])
 .ret)
 .skip))
 (.seq (.reg [oo 36 (.mv (.c (.nils))),om 9 36])
 (.seq (.seq (.reg [oo 10 (.mv (.c (.j 0)))])
 (.blk 0 (.loop (.seq (.seq (.reg [om 37 10,om 38 7,oo 39 (.lens (.t 38)),oo 40 (.bin .lss (.t 37) (.t 39))])
 (.cond (.t 40) .skip
 (.exit 0)))
 (.blk 1 (.seq (.reg [om 42 7,om 43 10,oo 44 (.cl (.c (.fn 52 [])) [(.t 42),(.t 43)]),om 41 44,oo 45 (.ext (.t 41) 0),oo 46 (.ext (.t 41) 1),oo 47 (.ext (.t 41) 2),om 11 45,om 12 46,om 13 47])
 (.seq (.seq (.reg [om 48 13,oo 49 (.un .not (.t 48))])
 (.cond (.t 49) (.seq (.reg [oo 50 (.bld [.j 0,.j 0,.j 0,.j 0,.nils] [(0,1),(1,1),(2,1),(3,1),(4,1)] []),on (.st 5 (.t 2) (.t 50)),oo 3 (.mv (.c (.bool false)))])
 .ret)
 .skip))
 (.seq (.reg [om 51 9,om 52 11,oo 53 (.bs 1 [.j 0] 1 [(0,(.t 52))]),oo 54 (.app 1 8 (.t 51) (.t 53)),om 9 54])
 (.reg [om 55 12,om 10 55])))))))))
 (.seq (.seq (.reg [om 56 9,oo 57 (.lenl (.t 56)),oo 58 (.bin .lss (.t 57) (.c (.j 5)))])
 (.cond (.t 58) (.seq (.reg [oo 59 (.bld [.j 0,.j 0,.j 0,.j 0,.nils] [(0,1),(1,1),(2,1),(3,1),(4,1)] []),on (.st 5 (.t 2) (.t 59)),oo 3 (.mv (.c (.bool false)))])
 .ret)
 .skip))
 (.seq (.drw [om 60 9,oo 61 (.ia 1 (.t 60) (.c (.j 0))),oo 62 (.ld false 1 (.t 61)),om 63 9,oo 64 (.ia 1 (.t 63) (.c (.j 1))),oo 65 (.ld false 1 (.t 64)),om 66 9,oo 67 (.ia 1 (.t 66) (.c (.j 2))),oo 68 (.ld false 1 (.t 67)),om 69 9,oo 70 (.ia 1 (.t 69) (.c (.j 3))),oo 71 (.ld false 1 (.t 70)),oo 72 (.bld [.j 0,.j 0,.j 0,.j 0,.nils] [(0,1),(1,1),(2,1),(3,1),(4,1)] [(0,(.t 62)),(1,(.t 65)),(2,(.t 68)),(3,(.t 71))]),oo 14 (.al [.j 0,.j 0,.j 0,.j 0,.nils]),on (.st 5 (.t 14) (.t 72))] [.val [],.val [],.val [],.val [],.val [],.val [],.val [],.val [],.val [],.val [],.val [],.val [],.val [],.chn [0,1,2,3,4,5,6,7,8,9,10,11,12],.chn []])
 (.seq (.seq (.reg [oo 15 (.mv (.c (.j 5)))])
 (.blk 2 (.loop (.seq (.seq (.reg [om 73 15,oo 74 (.bin .add (.t 73) (.c (.j 1))),om 75 9,oo 76 (.lenl (.t 75)),oo 77 (.bin .lss (.t 74) (.t 76))])
 (.cond (.t 77) .skip
 (.exit 2)))
 (.seq (.blk 3 (.drw [oo 80 (.fa 4 (.t 14)),oo 81 (.ld false 1 (.t 80)),om 82 9,om 83 15,oo 84 (.ia 1 (.t 82) (.t 83)),oo 85 (.ld false 1 (.t 84)),om 86 9,om 87 15,oo 88 (.bin .add (.t 87) (.c (.j 1))),oo 89 (.ia 1 (.t 86) (.t 88)),oo 90 (.ld false 1 (.t 89)),oo 91 (.bld [.j 0,.j 0] [(0,1),(1,1)] [(0,(.t 85)),(1,(.t 90))]),oo 92 (.bs 2 [.j 0,.j 0] 1 [(0,(.t 91))]),oo 93 (.app 2 16 (.t 81) (.t 92)),oo 94 (.fa 4 (.t 14)),on (.st 1 (.t 94) (.t 93))] [.val [],.val [],.val [],.val [],.val [],.val [],.val [],.val [],.val [],.val [],.val [],.val [],.chn [0,1],.chn [],.val [],.chn []]))
 (.reg [om 78 15,oo 79 (.bin .add (.t 78) (.c (.j 2))),om 15 79]))))))
 (.seq (.seq (.reg [oo 96 (.ld true 5 (.t 14)),oo 97 (.cl (.c (.fn 11 [])) [(.t 96)]),om 95 97,oo 98 (.ext (.t 95) 0),oo 99 (.ext (.t 95) 1),om 16 98,om 17 99])
 (.seq (.reg [om 100 17,oo 101 (.un .not (.t 100)),om 102 101,⟨(some 103),(some (102,false)),.mv (.t 16)⟩,⟨(some 104),(some (102,false)),.mv (.t 0)⟩,⟨(some 105),(some (102,false)),.mv (.t 5)⟩,⟨(some 106),(some (102,false)),.sls (.t 104) none (some (.t 105))⟩,⟨(some 107),(some (102,false)),.bin .neq (.t 103) (.t 106)⟩,oo 108 (.pick (.t 102) (.c (.bool true)) (.t 107))])
 (.cond (.t 108) (.seq (.reg [oo 109 (.bld [.j 0,.j 0,.j 0,.j 0,.nils] [(0,1),(1,1),(2,1),(3,1),(4,1)] []),on (.st 5 (.t 2) (.t 109)),oo 3 (.mv (.c (.bool false)))])
 .ret)
 .skip)))
 (.seq (.reg [oo 110 (.ld true 5 (.t 14)),on (.st 5 (.t 2) (.t 110)),oo 3 (.mv (.c (.bool true)))])
 .ret)))))))))))
theorem k_impl_ReadCheck : FnOk Try.prog 12 111 rc_impl_ReadCheck [.cell 2 true 5,.t 3]:=⟨Try.f12,_,[],Try.func12,rfl,rfl,by kernel_rfl,by kernel_rfl,follows⟩
theorem ok_impl_ReadCheck : okF Try.prog 12 = true:=by kernel_rfl
def rc_impl_ReadSector : RC :=
 (.seq (.reg [oo 2 (.bx (.t 0)),oo 4 (.mv (.c (.str []))),oo 5 (.mv (.c (.bool false)))])
 (.seq (.seq (.reg [om 9 1,oo 10 (.fa 0 (.t 2)),oo 11 (.ld false 1 (.t 10)),oo 12 (.lenl (.t 11)),oo 13 (.bin .sub (.t 12) (.c (.j 1))),oo 14 (.cl (.c (.fn 59 [])) [(.t 9),(.c (.j 0)),(.t 13)]),oo 15 (.un .not (.t 14))])
 (.cond (.t 15) (.seq (.reg [oo 4 (.mv (.c (.str []))),oo 5 (.mv (.c (.bool false)))])
 .ret)
 .skip))
 (.seq (.reg [oo 16 (.fa 0 (.t 2)),oo 17 (.ld false 1 (.t 16)),om 18 1,oo 19 (.ia 1 (.t 17) (.t 18)),oo 20 (.ld false 1 (.t 19)),om 6 20])
 (.seq (.seq (.reg [oo 21 (.fa 1 (.t 2)),oo 22 (.ld false 1 (.t 21)),oo 23 (.lenl (.t 22)),oo 24 (.mv (.c (.j 0)))])
 (.blk 0 (.loop (.seq (.reg [oo 25 (.bin .lss (.t 24) (.t 23))])
 (.seq (.cond (.t 25) .skip
 (.exit 0))
 (.seq (.blk 1 (.seq (.reg [oo 26 (.ia 2 (.t 22) (.t 24)),oo 27 (.ld true 2 (.t 26)),oo 8 (.al [.j 0,.str []]),on (.st 2 (.t 8) (.t 27))])
 (.seq (.reg [oo 28 (.fa 0 (.t 8)),oo 29 (.ld false 1 (.t 28)),om 30 1,oo 31 (.bin .eql (.t 29) (.t 30))])
 (.cond (.t 31) (.reg [oo 32 (.fa 1 (.t 8)),oo 33 (.ld false 1 (.t 32)),om 6 33])
 .skip))))
 (.reg [oo 34 (.bin .add (.t 24) (.c (.j 1))),om 24 34])))))))
 (.seq (.reg [om 35 6,om 4 35,oo 5 (.mv (.c (.bool true)))])
 .ret)))))
theorem k_impl_ReadSector : FnOk Try.prog 105 36 rc_impl_ReadSector [.t 4,.t 5]:=⟨Try.f105,_,[],Try.func105,rfl,rfl,by kernel_rfl,by kernel_rfl,follows⟩
theorem ok_impl_ReadSector : okF Try.prog 105 = true:=by kernel_rfl
def rc_impl_SectorText : RC :=
 (.seq (.reg [oo 3 (.bx (.t 0)),oo 6 (.mv (.c (.str []))),oo 7 (.mv (.c (.bool false)))])
 (.seq (.seq (.reg [om 12 2,oo 13 (.cl (.c (.fn 59 [])) [(.t 12),(.c (.j 0)),(.c (.j 100))]),oo 14 (.un .not (.t 13))])
 (.cond (.t 14) (.seq (.reg [oo 6 (.mv (.c (.str []))),oo 7 (.mv (.c (.bool false)))])
 .ret)
 .skip))
 (.seq (.reg [oo 8 (.mv (.c (.str [])))])
 (.seq (.seq (.reg [om 15 2,oo 16 (.mv (.c (.j 0)))])
 (.blk 0 (.loop (.seq (.reg [oo 17 (.bin .lss (.t 16) (.t 15))])
 (.seq (.cond (.t 17) .skip
 (.exit 0))
 (.seq (.blk 1 (.seq (.reg [om 18 16,om 9 18])
 (.seq (.reg [oo 20 (.ld true 2 (.t 3)),om 21 1,om 22 9,oo 23 (.bin .add (.t 21) (.t 22)),oo 24 (.cl (.c (.fn 105 [])) [(.t 20),(.t 23)]),om 19 24,oo 25 (.ext (.t 19) 0),oo 26 (.ext (.t 19) 1),om 10 25,om 11 26])
 (.seq (.seq (.reg [om 27 11,oo 28 (.un .not (.t 27))])
 (.cond (.t 28) (.seq (.reg [oo 6 (.mv (.c (.str []))),oo 7 (.mv (.c (.bool false)))])
 .ret)
 .skip))
 (.reg [om 29 8,om 30 10,oo 31 (.bin .add (.t 29) (.t 30)),om 8 31])))))
 (.reg [oo 32 (.bin .add (.t 16) (.c (.j 1))),om 16 32])))))))
 (.seq (.reg [om 33 8,om 6 33,oo 7 (.mv (.c (.bool true)))])
 .ret)))))
theorem k_impl_SectorText : FnOk Try.prog 58 34 rc_impl_SectorText [.t 6,.t 7]:=⟨Try.f58,_,[],Try.func58,rfl,rfl,by kernel_rfl,by kernel_rfl,follows⟩
theorem ok_impl_SectorText : okF Try.prog 58 = true:=by kernel_rfl
def rc_impl_NewestCheck : RC :=
 (.seq (.reg [oo 1 (.bx (.t 0)),oo 2 (.al [.j 0,.j 0,.j 0,.j 0,.nils]),oo 3 (.mv (.c (.bool false)))])
 (.seq (.reg [oo 12 (.bld [.j 0,.j 0,.j 0,.j 0,.nils] [(0,1),(1,1),(2,1),(3,1),(4,1)] []),oo 4 (.al [.j 0,.j 0,.j 0,.j 0,.nils]),on (.st 5 (.t 4) (.t 12)),oo 5 (.mv (.c (.bool false)))])
 (.seq (.seq (.reg [oo 13 (.bs 1 [.j 0] 2 [(0,(.c (.j 0))),(1,(.c (.j 4)))]),oo 14 (.lenl (.t 13)),oo 15 (.mv (.c (.j 0)))])
 (.blk 0 (.loop (.seq (.reg [oo 16 (.bin .lss (.t 15) (.t 14))])
 (.seq (.cond (.t 16) .skip
 (.exit 0))
 (.seq (.blk 1 (.seq (.reg [oo 17 (.ia 1 (.t 13) (.t 15)),oo 18 (.ld false 1 (.t 17)),om 7 18])
 (.seq (.reg [oo 20 (.ld true 2 (.t 1)),om 21 7,oo 22 (.cl (.c (.fn 58 [])) [(.t 20),(.t 21),(.c (.j 4))]),om 19 22,oo 23 (.ext (.t 19) 0),oo 24 (.ext (.t 19) 1),om 8 23,om 9 24])
 (.seq (.reg [om 26 8,oo 27 (.cl (.c (.fn 12 [])) [(.t 26)]),om 25 27,oo 28 (.ext (.t 25) 0),oo 29 (.ext (.t 25) 1),oo 10 (.al [.j 0,.j 0,.j 0,.j 0,.nils]),on (.st 5 (.t 10) (.t 28)),om 11 29])
 (.seq (.reg [om 30 11,om 31 30,⟨(some 32),(some (31,true)),.mv (.t 5)⟩,⟨(some 33),(some (31,true)),.un .not (.t 32)⟩,⟨(some 34),(some (31,true)),.mv (.t 33)⟩,⟨(some 35),(some (34,false)),.fa 0 (.t 10)⟩,⟨(some 36),(some (34,false)),.ld false 1 (.t 35)⟩,⟨(some 37),(some (34,false)),.fa 0 (.t 4)⟩,⟨(some 38),(some (34,false)),.ld false 1 (.t 37)⟩,⟨(some 39),(some (34,false)),.bin .gtr (.t 36) (.t 38)⟩,⟨(some 40),(some (31,true)),.pick (.t 34) (.c (.bool true)) (.t 39)⟩,oo 41 (.pick (.t 31) (.t 40) (.c (.bool false)))])
 (.cond (.t 41) (.reg [oo 42 (.ld true 5 (.t 10)),on (.st 5 (.t 4) (.t 42)),oo 5 (.mv (.c (.bool true)))])
 .skip))))))
 (.reg [oo 43 (.bin .add (.t 15) (.c (.j 1))),om 15 43])))))))
 (.seq (.reg [oo 44 (.ld true 5 (.t 4)),om 45 5,on (.st 5 (.t 2) (.t 44)),om 3 45])
 .ret))))
theorem k_impl_NewestCheck : FnOk Try.prog 14 46 rc_impl_NewestCheck [.cell 2 true 5,.t 3]:=⟨Try.f14,_,[],Try.func14,rfl,rfl,by kernel_rfl,by kernel_rfl,follows⟩
theorem ok_impl_NewestCheck : okF Try.prog 14 = true:=by kernel_rfl
def rc_spec_CheckOf : RC :=
 (.seq (.reg [oo 1 (.bx (.t 0)),oo 2 (.al [.j 0,.j 0,.j 0,.j 0,.nils])])
 (.seq (.reg [oo 5 (.fa 6 (.t 1)),oo 6 (.ld false 1 (.t 5)),oo 7 (.bin .add (.t 6) (.c (.j 1))),oo 8 (.fa 4 (.t 1)),oo 9 (.ld false 1 (.t 8)),oo 10 (.fa 5 (.t 1)),oo 11 (.ld false 1 (.t 10)),oo 12 (.fa 7 (.t 1)),oo 13 (.ld false 1 (.t 12)),oo 14 (.bld [.j 0,.j 0,.j 0,.j 0,.nils] [(0,1),(1,1),(2,1),(3,1),(4,1)] [(0,(.t 7)),(1,(.t 9)),(2,(.t 11)),(3,(.t 13))]),oo 3 (.al [.j 0,.j 0,.j 0,.j 0,.nils]),on (.st 5 (.t 3) (.t 14))])
 (.seq (.seq (.reg [oo 4 (.mv (.c (.j 0)))])
 (.blk 0 (.loop (.seq (.seq (.reg [om 15 4,oo 16 (.fa 3 (.t 1)),oo 17 (.ld false 1 (.t 16)),oo 18 (.lenl (.t 17)),oo 19 (.bin .lss (.t 15) (.t 18))])
 (.cond (.t 19) .skip
 (.exit 0)))
 (.seq (.blk 1 (.drw [oo 22 (.fa 4 (.t 3)),oo 23 (.ld false 1 (.t 22)),oo 24 (.fa 3 (.t 1)),oo 25 (.ld false 1 (.t 24)),om 26 4,oo 27 (.ia 4 (.t 25) (.t 26)),oo 28 (.fa 0 (.t 27)),oo 29 (.ld false 1 (.t 28)),oo 30 (.fa 3 (.t 1)),oo 31 (.ld false 1 (.t 30)),om 32 4,oo 33 (.ia 4 (.t 31) (.t 32)),oo 34 (.fa 1 (.t 33)),oo 35 (.ld false 1 (.t 34)),oo 36 (.bld [.j 0,.j 0] [(0,1),(1,1)] [(0,(.t 29)),(1,(.t 35))]),oo 37 (.bs 2 [.j 0,.j 0] 1 [(0,(.t 36))]),oo 38 (.app 2 16 (.t 23) (.t 37)),oo 39 (.fa 4 (.t 3)),on (.st 1 (.t 39) (.t 38))] [.val [],.val [],.val [],.val [],.val [],.val [],.val [],.val [],.val [],.val [],.val [],.val [],.val [],.val [],.val [],.chn [0,1],.chn [],.val [],.chn []]))
 (.reg [om 20 4,oo 21 (.bin .add (.t 20) (.c (.j 1))),om 4 21]))))))
 (.seq (.reg [oo 40 (.ld true 5 (.t 3)),on (.st 5 (.t 2) (.t 40))])
 .ret))))
theorem k_spec_CheckOf : FnOk Try.prog 17 41 rc_spec_CheckOf [.cell 2 true 5]:=⟨Try.f17,_,[],Try.func17,rfl,rfl,by kernel_rfl,by kernel_rfl,follows⟩
theorem ok_spec_CheckOf : okF Try.prog 17 = true:=by kernel_rfl
def rc_spec_l01In : RC :=
 (.seq (.reg [oo 6 (.mv (.c (.bool false)))])
 (.seq (.reg [om 7 0,om 8 1,oo 9 (.bin .geq (.t 7) (.t 8)),om 10 9,⟨(some 11),(some (10,true)),.mv (.t 0)⟩,⟨(some 12),(some (10,true)),.mv (.t 2)⟩,⟨(some 13),(some (10,true)),.bin .leq (.t 11) (.t 12)⟩,oo 14 (.pick (.t 10) (.t 13) (.c (.bool false))),om 6 14])
 .ret))
theorem k_spec_l01In : FnOk Try.prog 67 15 rc_spec_l01In [.t 6]:=⟨Try.f67,_,[],Try.func67,rfl,rfl,by kernel_rfl,by kernel_rfl,follows⟩
theorem ok_spec_l01In : okF Try.prog 67 = true:=by kernel_rfl
def rc_spec_CheckOk : RC :=
 (.seq (.reg [oo 1 (.bx (.t 0)),oo 2 (.mv (.c (.bool false)))])
 (.seq (.seq (.reg [oo 6 (.fa 0 (.t 1)),oo 7 (.ld false 1 (.t 6)),oo 8 (.cl (.c (.fn 67 [])) [(.t 7),(.c (.j 1)),(.c (.j 1000000000))]),oo 9 (.un .not (.t 8)),om 10 9,⟨(some 11),(some (10,false)),.fa 1 (.t 1)⟩,⟨(some 12),(some (10,false)),.ld false 1 (.t 11)⟩,⟨(some 13),(some (10,false)),.cl (.c (.fn 67 [])) [(.t 12),(.c (.j 1)),(.c (.j 1000000000))]⟩,⟨(some 14),(some (10,false)),.un .not (.t 13)⟩,oo 15 (.pick (.t 10) (.c (.bool true)) (.t 14)),om 16 15,⟨(some 17),(some (16,false)),.fa 2 (.t 1)⟩,⟨(some 18),(some (16,false)),.ld false 1 (.t 17)⟩,⟨(some 19),(some (16,false)),.cl (.c (.fn 67 [])) [(.t 18),(.c (.j 1)),(.c (.j 1000000000))]⟩,⟨(some 20),(some (16,false)),.un .not (.t 19)⟩,oo 21 (.pick (.t 16) (.c (.bool true)) (.t 20)),om 22 21,⟨(some 23),(some (22,false)),.fa 3 (.t 1)⟩,⟨(some 24),(some (22,false)),.ld false 1 (.t 23)⟩,⟨(some 25),(some (22,false)),.cl (.c (.fn 67 [])) [(.t 24),(.c (.j 1)),(.c (.j 1000000000))]⟩,⟨(some 26),(some (22,false)),.un .not (.t 25)⟩,oo 27 (.pick (.t 22) (.c (.bool true)) (.t 26)),om 28 27,⟨(some 29),(some (28,false)),.fa 4 (.t 1)⟩,⟨(some 30),(some (28,false)),.ld false 1 (.t 29)⟩,⟨(some 31),(some (28,false)),.lenl (.t 30)⟩,⟨(some 32),(some (28,false)),.cl (.c (.fn 67 [])) [(.t 31),(.c (.j 1)),(.c (.j 11))]⟩,⟨(some 33),(some (28,false)),.un .not (.t 32)⟩,oo 34 (.pick (.t 28) (.c (.bool true)) (.t 33))])
 (.cond (.t 34) (.seq (.reg [oo 2 (.mv (.c (.bool false)))])
 .ret)
 .skip))
 (.seq (.seq (.reg [oo 3 (.mv (.c (.j 0)))])
 (.blk 0 (.loop (.seq (.seq (.reg [om 35 3,oo 36 (.fa 4 (.t 1)),oo 37 (.ld false 1 (.t 36)),oo 38 (.lenl (.t 37)),oo 39 (.bin .lss (.t 35) (.t 38))])
 (.cond (.t 39) .skip
 (.exit 0)))
 (.seq (.blk 1 (.seq (.reg [oo 42 (.fa 4 (.t 1)),oo 43 (.ld false 1 (.t 42)),om 44 3,oo 45 (.ia 2 (.t 43) (.t 44)),oo 46 (.ld true 2 (.t 45)),oo 4 (.al [.j 0,.j 0]),on (.st 2 (.t 4) (.t 46))])
 (.seq (.seq (.drw [oo 47 (.fa 0 (.t 4)),oo 48 (.ld false 1 (.t 47)),oo 49 (.cl (.c (.fn 67 [])) [(.t 48),(.c (.j 0)),(.c (.j 10))]),oo 50 (.un .not (.t 49)),om 51 50,⟨(some 52),(some (51,false)),.fa 1 (.t 4)⟩,⟨(some 53),(some (51,false)),.ld false 1 (.t 52)⟩,⟨(some 54),(some (51,false)),.fa 1 (.t 1)⟩,⟨(some 55),(some (51,false)),.ld false 1 (.t 54)⟩,⟨(some 56),(some (51,false)),.bin .sub (.t 55) (.c (.j 1))⟩,⟨(some 57),(some (51,false)),.cl (.c (.fn 67 [])) [(.t 53),(.c (.j 1)),(.t 56)]⟩,⟨(some 58),(some (51,false)),.un .not (.t 57)⟩,oo 59 (.pick (.t 51) (.c (.bool true)) (.t 58)),om 60 59,⟨(some 61),(some (60,false)),.mv (.t 3)⟩,⟨(some 62),(some (60,false)),.bin .gtr (.t 61) (.c (.j 0))⟩,⟨(some 63),(some (60,false)),.mv (.t 62)⟩,⟨(some 64),(some (63,true)),.fa 4 (.t 1)⟩,⟨(some 65),(some (63,true)),.ld false 1 (.t 64)⟩,⟨(some 66),(some (63,true)),.mv (.t 3)⟩,⟨(some 67),(some (63,true)),.bin .sub (.t 66) (.c (.j 1))⟩,⟨(some 68),(some (63,true)),.ia 2 (.t 65) (.t 67)⟩,⟨(some 69),(some (63,true)),.fa 1 (.t 68)⟩,⟨(some 70),(some (63,true)),.ld false 1 (.t 69)⟩,⟨(some 71),(some (63,true)),.fa 1 (.t 4)⟩,⟨(some 72),(some (63,true)),.ld false 1 (.t 71)⟩,⟨(some 73),(some (63,true)),.bin .geq (.t 70) (.t 72)⟩,⟨(some 74),(some (60,false)),.pick (.t 63) (.t 73) (.c (.bool false))⟩,oo 75 (.pick (.t 60) (.c (.bool true)) (.t 74))] [.val [],.val [],.val [],.val [],.val [],.val [],.val [],.val [],.val [],.val [],.val [],.val [],.val [],.val [],.val [],.val [],.val [],.val [],.val [],.val [],.val [],.val [],.val [],.val [],.val [],.val [],.val [],.val [],.val []])
 (.cond (.t 75) (.seq (.reg [oo 2 (.mv (.c (.bool false)))])
 .ret)
 .skip))
 (.seq (.reg [oo 5 (.mv (.c (.j 0)))])
 (.blk 2 (.loop (.seq (.seq (.reg [om 76 5,om 77 3,oo 78 (.bin .lss (.t 76) (.t 77))])
 (.cond (.t 78) .skip
 (.exit 2)))
 (.seq (.blk 3 (.seq (.drw [oo 81 (.fa 4 (.t 1)),oo 82 (.ld false 1 (.t 81)),om 83 5,oo 84 (.ia 2 (.t 82) (.t 83)),oo 85 (.fa 0 (.t 84)),oo 86 (.ld false 1 (.t 85)),oo 87 (.fa 0 (.t 4)),oo 88 (.ld false 1 (.t 87)),oo 89 (.bin .eql (.t 86) (.t 88))] [.val [],.val [],.val [],.val [],.val [],.val [],.val [],.val [],.val []])
 (.cond (.t 89) (.seq (.reg [oo 2 (.mv (.c (.bool false)))])
 .ret)
 .skip)))
 (.reg [om 79 5,oo 80 (.bin .add (.t 79) (.c (.j 1))),om 5 80])))))))))
 (.reg [om 40 3,oo 41 (.bin .add (.t 40) (.c (.j 1))),om 3 41]))))))
 (.seq (.reg [oo 2 (.mv (.c (.bool true)))])
 .ret))))
theorem k_spec_CheckOk : FnOk Try.prog 62 90 rc_spec_CheckOk [.t 2]:=⟨Try.f62,_,[],Try.func62,rfl,rfl,by kernel_rfl,by kernel_rfl,follows⟩
theorem ok_spec_CheckOk : okF Try.prog 62 = true:=by kernel_rfl
def rc_spec_l01Var : RC :=
 (.seq (.reg [oo 2 (.mv (.c (.str [])))])
 (.seq (.reg [oo 4 (.mv (.c (.nils))),om 3 4])
 (.seq (.blk 0 (.loop (.seq (.seq (.reg [om 5 0,oo 6 (.bin .gtr (.t 5) (.c (.j 127)))])
 (.cond (.t 6) .skip
 (.exit 0)))
 (.blk 1 (.seq (.reg [om 7 3,om 8 0,oo 9 (.bin .rem (.t 8) (.c (.j 128))),oo 10 (.bin .add (.t 9) (.c (.j 128))),oo 11 (.cvi .u8 (.t 10)),oo 12 (.bs 1 [.int .u8 0] 1 [(0,(.t 11))]),oo 13 (.app 1 1 (.t 7) (.t 12)),om 3 13])
 (.reg [om 14 0,oo 15 (.bin .quo (.t 14) (.c (.j 128))),om 0 15]))))))
 (.seq (.reg [om 16 3,om 17 0,oo 18 (.cvi .u8 (.t 17)),oo 19 (.bs 1 [.int .u8 0] 1 [(0,(.t 18))]),oo 20 (.app 1 1 (.t 16) (.t 19)),oo 21 (.cvb (.t 20)),om 2 21])
 .ret))))
theorem k_spec_l01Var : FnOk Try.prog 63 22 rc_spec_l01Var [.t 2]:=⟨Try.f63,_,[],Try.func63,rfl,rfl,by kernel_rfl,by kernel_rfl,follows⟩
theorem ok_spec_l01Var : okF Try.prog 63 = true:=by kernel_rfl
def rc_spec_l02Four : RC :=
 (.seq (.reg [oo 2 (.mv (.c (.str [])))])
 (.seq (.reg [om 3 0,oo 4 (.bin .shr (.t 3) (.c (.int .u64 24))),oo 5 (.cvi .u8 (.t 4)),om 6 0,oo 7 (.bin .shr (.t 6) (.c (.int .u64 16))),oo 8 (.cvi .u8 (.t 7)),om 9 0,oo 10 (.bin .shr (.t 9) (.c (.int .u64 8))),oo 11 (.cvi .u8 (.t 10)),om 12 0,oo 13 (.cvi .u8 (.t 12)),oo 14 (.bs 1 [.int .u8 0] 4 [(0,(.t 5)),(1,(.t 8)),(2,(.t 11)),(3,(.t 13))]),oo 15 (.cvb (.t 14)),om 2 15])
 .ret))
theorem k_spec_l02Four : FnOk Try.prog 108 16 rc_spec_l02Four [.t 2]:=⟨Try.f108,_,[],Try.func108,rfl,rfl,by kernel_rfl,by kernel_rfl,follows⟩
theorem ok_spec_l02Four : okF Try.prog 108 = true:=by kernel_rfl
def rc_spec_SumMore : RC :=
 (.seq (.reg [oo 4 (.mv (.c (.int .u32 0)))])
 (.seq (.seq (.reg [oo 5 (.mv (.c (.j 0)))])
 (.blk 0 (.loop (.seq (.seq (.reg [om 8 5,om 9 1,oo 10 (.lens (.t 9)),oo 11 (.bin .lss (.t 8) (.t 10))])
 (.cond (.t 11) .skip
 (.exit 0)))
 (.seq (.blk 1 (.seq (.reg [om 14 0,om 15 1,om 16 5,oo 17 (.idx (.t 15) (.t 16)),oo 18 (.cvi .u32 (.t 17)),oo 19 (.bin .xor (.t 14) (.t 18)),om 0 19])
 (.seq (.reg [oo 6 (.mv (.c (.j 0)))])
 (.blk 2 (.loop (.seq (.seq (.reg [om 20 6,oo 21 (.bin .lss (.t 20) (.c (.j 8)))])
 (.cond (.t 21) .skip
 (.exit 2)))
 (.seq (.blk 3 (.seq (.reg [om 24 0,oo 25 (.bin .rem (.t 24) (.c (.int .u32 2))),oo 26 (.bin .eql (.t 25) (.c (.int .u32 1))),om 7 26])
 (.seq (.reg [om 27 0,oo 28 (.bin .quo (.t 27) (.c (.int .u32 2))),om 0 28])
 (.seq (.reg [om 29 7])
 (.cond (.t 29) (.reg [om 30 0,oo 31 (.bin .xor (.t 30) (.c (.int .u32 3558460437))),om 0 31])
 .skip)))))
 (.reg [om 22 6,oo 23 (.bin .add (.t 22) (.c (.j 1))),om 6 23]))))))))
 (.reg [om 12 5,oo 13 (.bin .add (.t 12) (.c (.j 1))),om 5 13]))))))
 (.seq (.reg [om 32 0,om 4 32])
 .ret)))
theorem k_spec_SumMore : FnOk Try.prog 147 33 rc_spec_SumMore [.t 4]:=⟨Try.f147,_,[],Try.func147,rfl,rfl,by kernel_rfl,by kernel_rfl,follows⟩
theorem ok_spec_SumMore : okF Try.prog 147 = true:=by kernel_rfl
def rc_spec_SumOf : RC :=
 (.seq (.reg [oo 2 (.mv (.c (.int .u32 0)))])
 (.seq (.reg [om 3 0,oo 4 (.cl (.c (.fn 147 [])) [(.c (.int .u32 4294967295)),(.t 3)]),om 2 4])
 .ret))
theorem k_spec_SumOf : FnOk Try.prog 109 5 rc_spec_SumOf [.t 2]:=⟨Try.f109,_,[],Try.func109,rfl,rfl,by kernel_rfl,by kernel_rfl,follows⟩
theorem ok_spec_SumOf : okF Try.prog 109 = true:=by kernel_rfl
def rc_spec_Sealed : RC :=
 (.seq (.reg [oo 2 (.mv (.c (.str []))),oo 3 (.mv (.c (.bool false)))])
 (.seq (.seq (.reg [om 4 0,oo 5 (.lens (.t 4)),oo 6 (.bin .gtr (.t 5) (.c (.j 20000)))])
 (.cond (.t 6) (.seq (.reg [oo 2 (.mv (.c (.str []))),oo 3 (.mv (.c (.bool false)))])
 .ret)
 .skip))
 (.seq (.reg [om 7 0,om 8 0,oo 9 (.cl (.c (.fn 109 [])) [(.t 8)]),oo 10 (.cl (.c (.fn 108 [])) [(.t 9)]),oo 11 (.bin .add (.t 7) (.t 10)),om 2 11,oo 3 (.mv (.c (.bool true)))])
 .ret)))
theorem k_spec_Sealed : FnOk Try.prog 64 12 rc_spec_Sealed [.t 2,.t 3]:=⟨Try.f64,_,[],Try.func64,rfl,rfl,by kernel_rfl,by kernel_rfl,follows⟩
theorem ok_spec_Sealed : okF Try.prog 64 = true:=by kernel_rfl
def rc_spec_l06Short : RC :=
 (.seq (.reg [oo 2 (.mv (.c (.str [])))])
 (.seq (.reg [om 3 0,oo 4 (.lens (.t 3)),oo 5 (.cl (.c (.fn 63 [])) [(.t 4)]),om 6 0,oo 7 (.bin .add (.t 5) (.t 6)),om 2 7])
 .ret))
theorem k_spec_l06Short : FnOk Try.prog 65 8 rc_spec_l06Short [.t 2]:=⟨Try.f65,_,[],Try.func65,rfl,rfl,by kernel_rfl,by kernel_rfl,follows⟩
theorem ok_spec_l06Short : okF Try.prog 65 = true:=by kernel_rfl
def rc_spec_CheckText : RC :=
 (.seq (.reg [oo 1 (.bx (.t 0)),oo 2 (.mv (.c (.str []))),oo 3 (.mv (.c (.bool false)))])
 (.seq (.seq (.reg [oo 9 (.ld true 5 (.t 1)),oo 10 (.cl (.c (.fn 62 [])) [(.t 9)]),oo 11 (.un .not (.t 10))])
 (.cond (.t 11) (.seq (.reg [oo 2 (.mv (.c (.str []))),oo 3 (.mv (.c (.bool false)))])
 .ret)
 .skip))
 (.seq (.drw [oo 12 (.fa 0 (.t 1)),oo 13 (.ld false 1 (.t 12)),oo 14 (.cl (.c (.fn 63 [])) [(.t 13)]),oo 15 (.fa 1 (.t 1)),oo 16 (.ld false 1 (.t 15)),oo 17 (.cl (.c (.fn 63 [])) [(.t 16)]),oo 18 (.bin .add (.t 14) (.t 17)),oo 19 (.fa 2 (.t 1)),oo 20 (.ld false 1 (.t 19)),oo 21 (.cl (.c (.fn 63 [])) [(.t 20)]),oo 22 (.bin .add (.t 18) (.t 21)),oo 23 (.fa 3 (.t 1)),oo 24 (.ld false 1 (.t 23)),oo 25 (.cl (.c (.fn 63 [])) [(.t 24)]),oo 26 (.bin .add (.t 22) (.t 25)),oo 27 (.fa 4 (.t 1)),oo 28 (.ld false 1 (.t 27)),oo 29 (.lenl (.t 28)),oo 30 (.cl (.c (.fn 63 [])) [(.t 29)]),oo 31 (.bin .add (.t 26) (.t 30)),om 4 31] [.val [],.val [],.val [],.val [],.val [],.val [],.val [],.val [],.val [],.val [],.val [],.val [],.val [],.val [],.val [],.val [],.val [],.val [],.val [],.val [],.val []])
 (.seq (.seq (.reg [oo 5 (.mv (.c (.j 0)))])
 (.blk 0 (.loop (.seq (.seq (.reg [om 32 5,oo 33 (.fa 4 (.t 1)),oo 34 (.ld false 1 (.t 33)),oo 35 (.lenl (.t 34)),oo 36 (.bin .lss (.t 32) (.t 35))])
 (.cond (.t 36) .skip
 (.exit 0)))
 (.seq (.blk 1 (.drw [om 39 4,oo 40 (.fa 4 (.t 1)),oo 41 (.ld false 1 (.t 40)),om 42 5,oo 43 (.ia 2 (.t 41) (.t 42)),oo 44 (.fa 0 (.t 43)),oo 45 (.ld false 1 (.t 44)),oo 46 (.cl (.c (.fn 63 [])) [(.t 45)]),oo 47 (.bin .add (.t 39) (.t 46)),oo 48 (.fa 4 (.t 1)),oo 49 (.ld false 1 (.t 48)),om 50 5,oo 51 (.ia 2 (.t 49) (.t 50)),oo 52 (.fa 1 (.t 51)),oo 53 (.ld false 1 (.t 52)),oo 54 (.cl (.c (.fn 63 [])) [(.t 53)]),oo 55 (.bin .add (.t 47) (.t 54)),om 4 55] [.val [],.val [],.val [],.val [],.val [],.val [],.val [],.val [],.val [],.val [],.val [],.val [],.val [],.val [],.val [],.val [],.val [],.val []]))
 (.reg [om 37 5,oo 38 (.bin .add (.t 37) (.c (.j 1))),om 5 38]))))))
 (.seq (.reg [om 57 4,oo 58 (.cl (.c (.fn 64 [])) [(.t 57)]),om 56 58,oo 59 (.ext (.t 56) 0),oo 60 (.ext (.t 56) 1),om 6 59,om 7 60])
 (.seq (.reg [om 61 6,oo 62 (.cl (.c (.fn 65 [])) [(.t 61)]),om 8 62])
 (.seq (.seq (.reg [om 63 7,oo 64 (.un .not (.t 63)),om 65 64,⟨(some 66),(some (65,false)),.mv (.t 8)⟩,⟨(some 67),(some (65,false)),.lens (.t 66)⟩,⟨(some 68),(some (65,false)),.bin .gtr (.t 67) (.c (.j 128))⟩,oo 69 (.pick (.t 65) (.c (.bool true)) (.t 68))])
 (.cond (.t 69) (.seq (.reg [oo 2 (.mv (.c (.str []))),oo 3 (.mv (.c (.bool false)))])
 .ret)
 .skip))
 (.seq (.reg [om 70 8,om 2 70,oo 3 (.mv (.c (.bool true)))])
 .ret))))))))
theorem k_spec_CheckText : FnOk Try.prog 18 71 rc_spec_CheckText [.t 2,.t 3]:=⟨Try.f18,_,[],Try.func18,rfl,rfl,by kernel_rfl,by kernel_rfl,follows⟩
theorem ok_spec_CheckText : okF Try.prog 18 = true:=by kernel_rfl
def rc_spec_l03Copy : RC :=
 (.seq (.reg [oo 1 (.bx (.t 0)),oo 2 (.al [.nils,.nils])])
 (.seq (.drw [oo 3 (.mv (.c (.nils))),oo 4 (.fa 0 (.t 1)),oo 5 (.ld false 1 (.t 4)),oo 6 (.app 1 16 (.t 3) (.t 5)),oo 7 (.mv (.c (.nils))),oo 8 (.fa 1 (.t 1)),oo 9 (.ld false 1 (.t 8)),oo 10 (.app 2 24 (.t 7) (.t 9)),oo 11 (.bld [.nils,.nils] [(0,1),(1,1)] [(0,(.t 6)),(1,(.t 10))]),on (.st 2 (.t 2) (.t 11))] [.val [],.val [],.val [],.chn [],.val [3],.val [3],.val [3],.chn [],.val [],.chn []])
 .ret))
theorem k_spec_l03Copy : FnOk Try.prog 66 12 rc_spec_l03Copy [.cell 2 true 2]:=⟨Try.f66,_,[],Try.func66,rfl,rfl,by kernel_rfl,by kernel_rfl,follows⟩
theorem ok_spec_l03Copy : okF Try.prog 66 = true:=by kernel_rfl
def rc_spec_DiskOk : RC :=
 (.seq (.reg [oo 1 (.bx (.t 0)),oo 2 (.mv (.c (.bool false)))])
 (.seq (.seq (.reg [oo 5 (.fa 0 (.t 1)),oo 6 (.ld false 1 (.t 5)),oo 7 (.lenl (.t 6)),oo 8 (.cl (.c (.fn 67 [])) [(.t 7),(.c (.j 1)),(.c (.j 100))]),oo 9 (.un .not (.t 8)),om 10 9,⟨(some 11),(some (10,false)),.fa 1 (.t 1)⟩,⟨(some 12),(some (10,false)),.ld false 1 (.t 11)⟩,⟨(some 13),(some (10,false)),.lenl (.t 12)⟩,⟨(some 14),(some (10,false)),.bin .gtr (.t 13) (.c (.j 60))⟩,oo 15 (.pick (.t 10) (.c (.bool true)) (.t 14))])
 (.cond (.t 15) (.seq (.reg [oo 2 (.mv (.c (.bool false)))])
 .ret)
 .skip))
 (.seq (.seq (.reg [oo 3 (.mv (.c (.j 0)))])
 (.blk 0 (.loop (.seq (.seq (.reg [om 16 3,oo 17 (.fa 0 (.t 1)),oo 18 (.ld false 1 (.t 17)),oo 19 (.lenl (.t 18)),oo 20 (.bin .lss (.t 16) (.t 19))])
 (.cond (.t 20) .skip
 (.exit 0)))
 (.seq (.blk 1 (.seq (.reg [oo 23 (.fa 0 (.t 1)),oo 24 (.ld false 1 (.t 23)),om 25 3,oo 26 (.ia 1 (.t 24) (.t 25)),oo 27 (.ld false 1 (.t 26)),oo 28 (.lens (.t 27)),oo 29 (.bin .neq (.t 28) (.c (.j 32)))])
 (.cond (.t 29) (.seq (.reg [oo 2 (.mv (.c (.bool false)))])
 .ret)
 .skip)))
 (.reg [om 21 3,oo 22 (.bin .add (.t 21) (.c (.j 1))),om 3 22]))))))
 (.seq (.seq (.reg [oo 4 (.mv (.c (.j 0)))])
 (.blk 2 (.loop (.seq (.seq (.reg [om 30 4,oo 31 (.fa 1 (.t 1)),oo 32 (.ld false 1 (.t 31)),oo 33 (.lenl (.t 32)),oo 34 (.bin .lss (.t 30) (.t 33))])
 (.cond (.t 34) .skip
 (.exit 2)))
 (.seq (.blk 3 (.seq (.drw [oo 37 (.fa 1 (.t 1)),oo 38 (.ld false 1 (.t 37)),om 39 4,oo 40 (.ia 2 (.t 38) (.t 39)),oo 41 (.fa 0 (.t 40)),oo 42 (.ld false 1 (.t 41)),oo 43 (.fa 0 (.t 1)),oo 44 (.ld false 1 (.t 43)),oo 45 (.lenl (.t 44)),oo 46 (.bin .sub (.t 45) (.c (.j 1))),oo 47 (.cl (.c (.fn 67 [])) [(.t 42),(.c (.j 0)),(.t 46)]),oo 48 (.un .not (.t 47)),om 49 48,⟨(some 50),(some (49,false)),.fa 1 (.t 1)⟩,⟨(some 51),(some (49,false)),.ld false 1 (.t 50)⟩,⟨(some 52),(some (49,false)),.mv (.t 4)⟩,⟨(some 53),(some (49,false)),.ia 2 (.t 51) (.t 52)⟩,⟨(some 54),(some (49,false)),.fa 1 (.t 53)⟩,⟨(some 55),(some (49,false)),.ld false 1 (.t 54)⟩,⟨(some 56),(some (49,false)),.lens (.t 55)⟩,⟨(some 57),(some (49,false)),.bin .neq (.t 56) (.c (.j 32))⟩,oo 58 (.pick (.t 49) (.c (.bool true)) (.t 57))] [.val [],.val [],.val [],.val [],.val [],.val [],.val [],.val [],.val [],.val [],.val [],.val [],.val [],.val [],.val [],.val [],.val [],.val [],.val [],.val [],.val [],.val []])
 (.cond (.t 58) (.seq (.reg [oo 2 (.mv (.c (.bool false)))])
 .ret)
 .skip)))
 (.reg [om 35 4,oo 36 (.bin .add (.t 35) (.c (.j 1))),om 4 36]))))))
 (.seq (.reg [oo 2 (.mv (.c (.bool true)))])
 .ret)))))
theorem k_spec_DiskOk : FnOk Try.prog 68 59 rc_spec_DiskOk [.t 2]:=⟨Try.f68,_,[],Try.func68,rfl,rfl,by kernel_rfl,by kernel_rfl,follows⟩
theorem ok_spec_DiskOk : okF Try.prog 68 = true:=by kernel_rfl
def rc_spec_ReadSector : RC :=
 (.seq (.reg [oo 2 (.bx (.t 0)),oo 4 (.mv (.c (.str []))),oo 5 (.mv (.c (.bool false)))])
 (.seq (.seq (.reg [om 7 1,oo 8 (.fa 0 (.t 2)),oo 9 (.ld false 1 (.t 8)),oo 10 (.lenl (.t 9)),oo 11 (.bin .sub (.t 10) (.c (.j 1))),oo 12 (.cl (.c (.fn 67 [])) [(.t 7),(.c (.j 0)),(.t 11)]),oo 13 (.un .not (.t 12))])
 (.cond (.t 13) (.seq (.reg [oo 4 (.mv (.c (.str []))),oo 5 (.mv (.c (.bool false)))])
 .ret)
 .skip))
 (.seq (.seq (.reg [oo 14 (.fa 1 (.t 2)),oo 15 (.ld false 1 (.t 14)),oo 16 (.lenl (.t 15)),oo 17 (.bin .sub (.t 16) (.c (.j 1))),om 6 17])
 (.blk 0 (.loop (.seq (.seq (.reg [om 18 6,oo 19 (.bin .geq (.t 18) (.c (.j 0)))])
 (.cond (.t 19) .skip
 (.exit 0)))
 (.seq (.blk 1 (.seq (.reg [oo 22 (.fa 1 (.t 2)),oo 23 (.ld false 1 (.t 22)),om 24 6,oo 25 (.ia 2 (.t 23) (.t 24)),oo 26 (.fa 0 (.t 25)),oo 27 (.ld false 1 (.t 26)),om 28 1,oo 29 (.bin .eql (.t 27) (.t 28))])
 (.cond (.t 29) (.seq (.reg [oo 30 (.fa 1 (.t 2)),oo 31 (.ld false 1 (.t 30)),om 32 6,oo 33 (.ia 2 (.t 31) (.t 32)),oo 34 (.fa 1 (.t 33)),oo 35 (.ld false 1 (.t 34)),om 4 35,oo 5 (.mv (.c (.bool true)))])
 .ret)
 .skip)))
 (.reg [om 20 6,oo 21 (.bin .sub (.t 20) (.c (.j 1))),om 6 21]))))))
 (.seq (.reg [oo 36 (.fa 0 (.t 2)),oo 37 (.ld false 1 (.t 36)),om 38 1,oo 39 (.ia 1 (.t 37) (.t 38)),oo 40 (.ld false 1 (.t 39)),om 4 40,oo 5 (.mv (.c (.bool true)))])
 .ret))))
theorem k_spec_ReadSector : FnOk Try.prog 69 41 rc_spec_ReadSector [.t 4,.t 5]:=⟨Try.f69,_,[],Try.func69,rfl,rfl,by kernel_rfl,by kernel_rfl,follows⟩
theorem ok_spec_ReadSector : okF Try.prog 69 = true:=by kernel_rfl
def rc_spec_WriteSector : RC :=
 (.seq (.reg [oo 3 (.bx (.t 0)),oo 6 (.al [.nils,.nils]),oo 7 (.mv (.c (.bool false)))])
 (.seq (.reg [oo 9 (.ld true 2 (.t 3)),oo 10 (.cl (.c (.fn 66 [])) [(.t 9)]),oo 8 (.al [.nils,.nils]),on (.st 2 (.t 8) (.t 10))])
 (.seq (.seq (.reg [oo 11 (.ld true 2 (.t 3)),oo 12 (.cl (.c (.fn 68 [])) [(.t 11)]),oo 13 (.un .not (.t 12)),om 14 13,⟨(some 15),(some (14,false)),.mv (.t 1)⟩,⟨(some 16),(some (14,false)),.fa 0 (.t 3)⟩,⟨(some 17),(some (14,false)),.ld false 1 (.t 16)⟩,⟨(some 18),(some (14,false)),.lenl (.t 17)⟩,⟨(some 19),(some (14,false)),.bin .sub (.t 18) (.c (.j 1))⟩,⟨(some 20),(some (14,false)),.cl (.c (.fn 67 [])) [(.t 15),(.c (.j 0)),(.t 19)]⟩,⟨(some 21),(some (14,false)),.un .not (.t 20)⟩,oo 22 (.pick (.t 14) (.c (.bool true)) (.t 21)),om 23 22,⟨(some 24),(some (23,false)),.mv (.t 2)⟩,⟨(some 25),(some (23,false)),.lens (.t 24)⟩,⟨(some 26),(some (23,false)),.bin .neq (.t 25) (.c (.j 32))⟩,oo 27 (.pick (.t 23) (.c (.bool true)) (.t 26)),om 28 27,⟨(some 29),(some (28,false)),.fa 1 (.t 3)⟩,⟨(some 30),(some (28,false)),.ld false 1 (.t 29)⟩,⟨(some 31),(some (28,false)),.lenl (.t 30)⟩,⟨(some 32),(some (28,false)),.bin .geq (.t 31) (.c (.j 60))⟩,oo 33 (.pick (.t 28) (.c (.bool true)) (.t 32))])
 (.cond (.t 33) (.seq (.reg [oo 34 (.ld true 2 (.t 8)),on (.st 2 (.t 6) (.t 34)),oo 7 (.mv (.c (.bool false)))])
 .ret)
 .skip))
 (.seq (.reg [oo 35 (.fa 1 (.t 8)),oo 36 (.ld false 1 (.t 35)),om 37 1,om 38 2,oo 39 (.bld [.j 0,.str []] [(0,1),(1,1)] [(0,(.t 37)),(1,(.t 38))]),oo 40 (.bs 2 [.j 0,.str []] 1 [(0,(.t 39))]),oo 41 (.app 2 24 (.t 36) (.t 40)),oo 42 (.fa 1 (.t 8)),on (.st 1 (.t 42) (.t 41))])
 (.seq (.reg [oo 43 (.ld true 2 (.t 8)),on (.st 2 (.t 6) (.t 43)),oo 7 (.mv (.c (.bool true)))])
 .ret)))))
theorem k_spec_WriteSector : FnOk Try.prog 70 44 rc_spec_WriteSector [.cell 6 true 2,.t 7]:=⟨Try.f70,_,[],Try.func70,rfl,rfl,by kernel_rfl,by kernel_rfl,follows⟩
theorem ok_spec_WriteSector : okF Try.prog 70 = true:=by kernel_rfl
def rc_spec_WriteBytes : RC :=
 (.seq (.reg [oo 4 (.bx (.t 0)),oo 8 (.al [.nils,.nils]),oo 9 (.mv (.c (.bool false)))])
 (.seq (.reg [oo 19 (.ld true 2 (.t 4)),oo 20 (.cl (.c (.fn 66 [])) [(.t 19)]),oo 10 (.al [.nils,.nils]),on (.st 2 (.t 10) (.t 20))])
 (.seq (.seq (.reg [om 21 2,oo 22 (.cl (.c (.fn 67 [])) [(.t 21),(.c (.j 0)),(.c (.j 3200))]),oo 23 (.un .not (.t 22)),om 24 23,⟨(some 25),(some (24,false)),.mv (.t 1)⟩,⟨(some 26),(some (24,false)),.fa 0 (.t 4)⟩,⟨(some 27),(some (24,false)),.ld false 1 (.t 26)⟩,⟨(some 28),(some (24,false)),.lenl (.t 27)⟩,⟨(some 29),(some (24,false)),.bin .sub (.t 28) (.c (.j 1))⟩,⟨(some 30),(some (24,false)),.cl (.c (.fn 67 [])) [(.t 25),(.c (.j 0)),(.t 29)]⟩,⟨(some 31),(some (24,false)),.un .not (.t 30)⟩,oo 32 (.pick (.t 24) (.c (.bool true)) (.t 31)),om 33 32,⟨(some 34),(some (33,false)),.ld true 2 (.t 4)⟩,⟨(some 35),(some (33,false)),.cl (.c (.fn 68 [])) [(.t 34)]⟩,⟨(some 36),(some (33,false)),.un .not (.t 35)⟩,oo 37 (.pick (.t 33) (.c (.bool true)) (.t 36))])
 (.cond (.t 37) (.seq (.reg [oo 38 (.ld true 2 (.t 10)),on (.st 2 (.t 8) (.t 38)),oo 9 (.mv (.c (.bool false)))])
 .ret)
 .skip))
 (.seq (.seq (.reg [oo 11 (.mv (.c (.j 0)))])
 (.blk 0 (.loop (.seq (.seq (.reg [om 39 11,om 40 3,oo 41 (.lens (.t 40)),oo 42 (.bin .lss (.t 39) (.t 41))])
 (.cond (.t 42) .skip
 (.exit 0)))
 (.blk 1 (.seq (.reg [om 43 1,om 44 2,om 45 11,oo 46 (.bin .add (.t 44) (.t 45)),oo 47 (.bin .quo (.t 46) (.c (.j 32))),oo 48 (.bin .add (.t 43) (.t 47)),om 12 48])
 (.seq (.reg [om 49 2,om 50 11,oo 51 (.bin .add (.t 49) (.t 50)),oo 52 (.bin .rem (.t 51) (.c (.j 32))),om 13 52])
 (.seq (.reg [om 53 13,oo 54 (.bin .sub (.c (.j 32)) (.t 53)),om 14 54])
 (.seq (.seq (.reg [om 55 14,om 56 3,oo 57 (.lens (.t 56)),om 58 11,oo 59 (.bin .sub (.t 57) (.t 58)),oo 60 (.bin .gtr (.t 55) (.t 59))])
 (.cond (.t 60) (.reg [om 61 3,oo 62 (.lens (.t 61)),om 63 11,oo 64 (.bin .sub (.t 62) (.t 63)),om 14 64])
 .skip))
 (.seq (.reg [oo 66 (.ld true 2 (.t 10)),om 67 12,oo 68 (.cl (.c (.fn 69 [])) [(.t 66),(.t 67)]),om 65 68,oo 69 (.ext (.t 65) 0),oo 70 (.ext (.t 65) 1),om 15 69,om 16 70])
 (.seq (.seq (.reg [om 71 16,oo 72 (.un .not (.t 71)),om 73 72,⟨(some 74),(some (73,false)),.mv (.t 15)⟩,⟨(some 75),(some (73,false)),.lens (.t 74)⟩,⟨(some 76),(some (73,false)),.bin .neq (.t 75) (.c (.j 32))⟩,oo 77 (.pick (.t 73) (.c (.bool true)) (.t 76))])
 (.cond (.t 77) (.seq (.reg [oo 78 (.ld true 2 (.t 4)),oo 79 (.cl (.c (.fn 66 [])) [(.t 78)]),on (.st 2 (.t 8) (.t 79)),oo 9 (.mv (.c (.bool false)))])
 .ret)
 .skip))
 (.seq (.drw [oo 81 (.ld true 2 (.t 10)),om 82 12,om 83 15,om 84 13,oo 85 (.sls (.t 83) none (some (.t 84))),om 86 3,om 87 11,om 88 11,om 89 14,oo 90 (.bin .add (.t 88) (.t 89)),oo 91 (.sls (.t 86) (some (.t 87)) (some (.t 90))),oo 92 (.bin .add (.t 85) (.t 91)),om 93 15,om 94 13,om 95 14,oo 96 (.bin .add (.t 94) (.t 95)),oo 97 (.sls (.t 93) (some (.t 96)) none),oo 98 (.bin .add (.t 92) (.t 97)),oo 99 (.cl (.c (.fn 70 [])) [(.t 81),(.t 82),(.t 98)]),om 80 99,oo 100 (.ext (.t 80) 0),oo 101 (.ext (.t 80) 1),oo 17 (.al [.nils,.nils]),on (.st 2 (.t 17) (.t 100)),om 18 101] [.val [],.val [],.val [],.val [],.val [],.val [],.val [],.val [],.val [],.val [],.val [],.val [],.val [],.val [],.val [],.val [],.val [],.val [],.chn [],.val [],.val [],.val [],.flt 0,.chn [21],.val []])
 (.seq (.seq (.reg [om 102 18,oo 103 (.un .not (.t 102))])
 (.cond (.t 103) (.seq (.reg [oo 104 (.ld true 2 (.t 4)),oo 105 (.cl (.c (.fn 66 [])) [(.t 104)]),on (.st 2 (.t 8) (.t 105)),oo 9 (.mv (.c (.bool false)))])
 .ret)
 .skip))
 (.seq (.reg [oo 106 (.ld true 2 (.t 17)),on (.st 2 (.t 10) (.t 106))])
 (.reg [om 107 11,om 108 14,oo 109 (.bin .add (.t 107) (.t 108)),om 11 109])))))))))))))))
 (.seq (.reg [oo 110 (.ld true 2 (.t 10)),on (.st 2 (.t 8) (.t 110)),oo 9 (.mv (.c (.bool true)))])
 .ret)))))
theorem k_spec_WriteBytes : FnOk Try.prog 19 111 rc_spec_WriteBytes [.cell 8 true 2,.t 9]:=⟨Try.f19,_,[(14,[18,1000022])],Try.func19,rfl,rfl,by kernel_rfl,by kernel_rfl,follows⟩
theorem ok_spec_WriteBytes : okF Try.prog 19 = true:=by kernel_rfl
def rc_spec_l01New : RC :=
 (.seq (.reg [oo 2 (.mv (.c (.und)))])
 (.seq (.reg [om 5 0,oo 6 (.lenl (.t 5)),oo 7 (.bin .add (.c (.j 76001)) (.t 6)),om 3 7])
 (.seq (.seq (.reg [oo 4 (.mv (.c (.j 0)))])
 (.blk 0 (.loop (.seq (.seq (.reg [om 8 4,om 9 0,oo 10 (.lenl (.t 9)),oo 11 (.bin .lss (.t 8) (.t 10)),om 12 11,⟨(some 13),(some (12,true)),.mv (.t 4)⟩,⟨(some 14),(some (12,true)),.bin .lss (.t 13) (.c (.j 4000))⟩,oo 15 (.pick (.t 12) (.t 14) (.c (.bool false)))])
 (.cond (.t 15) .skip
 (.exit 0)))
 (.seq (.blk 1 (.reg [om 18 3,oo 19 (.bin .mul (.t 18) (.c (.j 131))),om 20 0,om 21 4,oo 22 (.ia 1 (.t 20) (.t 21)),oo 23 (.ld false 1 (.t 22)),oo 24 (.cvi .i64 (.t 23)),oo 25 (.bin .add (.t 19) (.t 24)),oo 26 (.bin .add (.t 25) (.c (.j 7))),oo 27 (.bin .and (.t 26) (.c (.j 1073741823))),om 3 27]))
 (.reg [om 16 4,oo 17 (.bin .add (.t 16) (.c (.j 1))),om 4 17]))))))
 (.seq (.reg [om 28 0,om 29 3,oo 30 (.bld [.nils,.j 0,.j 0] [(0,1),(1,1),(2,1)] [(0,(.t 28)),(2,(.t 29))]),oo 31 (.bx (.t 30)),om 2 31])
 .ret))))
theorem k_spec_l01New : FnOk Try.prog 47 32 rc_spec_l01New [.t 2]:=⟨Try.f47,_,[],Try.func47,rfl,rfl,by kernel_rfl,by kernel_rfl,follows⟩
theorem ok_spec_l01New : okF Try.prog 47 = true:=by kernel_rfl
def rc_spec_l01Byte : RC :=
 (.seq (.reg [oo 2 (.mv (.c (.j 0)))])
 (.seq (.reg [om 4 0,om 5 0,oo 6 (.nc (.t 5)),oo 7 (.fa 2 (.t 6)),oo 8 (.ld false 1 (.t 7)),oo 9 (.bin .mul (.t 8) (.c (.j 6364136223846793005))),oo 10 (.bin .add (.t 9) (.c (.j 1442695040888963407))),oo 11 (.nc (.t 4)),oo 12 (.fa 2 (.t 11)),on (.st 1 (.t 12) (.t 10))])
 (.seq (.drw [om 13 0,oo 14 (.nc (.t 13)),oo 15 (.fa 2 (.t 14)),oo 16 (.ld false 1 (.t 15)),oo 17 (.bin .shr (.t 16) (.c (.int .u64 33))),om 18 0,oo 19 (.nc (.t 18)),oo 20 (.fa 2 (.t 19)),oo 21 (.ld false 1 (.t 20)),oo 22 (.bin .shr (.t 21) (.c (.int .u64 45))),oo 23 (.bin .xor (.t 17) (.t 22)),oo 24 (.bin .and (.t 23) (.c (.j 255))),om 3 24] [.val [],.val [],.val [],.val [],.val [],.val [],.val [],.val [],.val [],.val [],.val [],.val [],.val []])
 (.seq (.seq (.drw [om 25 0,oo 26 (.nc (.t 25)),oo 27 (.fa 1 (.t 26)),oo 28 (.ld false 1 (.t 27)),om 29 0,oo 30 (.nc (.t 29)),oo 31 (.fa 0 (.t 30)),oo 32 (.ld false 1 (.t 31)),oo 33 (.lenl (.t 32)),oo 34 (.bin .lss (.t 28) (.t 33))] [.val [],.val [],.val [],.val [],.val [],.val [],.val [],.val [],.val [],.val []])
 (.cond (.t 34) (.seq (.drw [om 35 3,om 36 0,oo 37 (.nc (.t 36)),oo 38 (.fa 0 (.t 37)),oo 39 (.ld false 1 (.t 38)),om 40 0,oo 41 (.nc (.t 40)),oo 42 (.fa 1 (.t 41)),oo 43 (.ld false 1 (.t 42)),oo 44 (.ia 1 (.t 39) (.t 43)),oo 45 (.ld false 1 (.t 44)),oo 46 (.cvi .i64 (.t 45)),oo 47 (.bin .add (.t 35) (.t 46)),oo 48 (.bin .and (.t 47) (.c (.j 255))),om 3 48] [.val [],.val [],.val [],.val [],.val [],.val [],.val [],.val [],.val [],.val [],.val [],.val [],.val [],.val [],.val []])
 (.reg [om 49 0,om 50 0,oo 51 (.nc (.t 50)),oo 52 (.fa 1 (.t 51)),oo 53 (.ld false 1 (.t 52)),oo 54 (.bin .add (.t 53) (.c (.j 1))),oo 55 (.nc (.t 49)),oo 56 (.fa 1 (.t 55)),on (.st 1 (.t 56) (.t 54))]))
 .skip))
 (.seq (.reg [om 57 3,om 2 57])
 .ret)))))
theorem k_spec_l01Byte : FnOk Try.prog 71 58 rc_spec_l01Byte [.t 2]:=⟨Try.f71,_,[],Try.func71,rfl,rfl,by kernel_rfl,by kernel_rfl,follows⟩
theorem ok_spec_l01Byte : okF Try.prog 71 = true:=by kernel_rfl
def rc_spec_l01Below : RC :=
 (.seq (.reg [oo 4 (.mv (.c (.j 0)))])
 (.seq (.seq (.reg [om 9 1,oo 10 (.bin .leq (.t 9) (.c (.j 0)))])
 (.cond (.t 10) (.seq (.reg [oo 4 (.mv (.c (.j 0)))])
 .ret)
 .skip))
 (.seq (.seq (.reg [om 11 1,oo 12 (.bin .leq (.t 11) (.c (.j 256)))])
 (.cond (.t 12) (.seq (.reg [om 13 0,oo 14 (.cl (.c (.fn 71 [])) [(.t 13)]),om 15 1,oo 16 (.bin .rem (.t 14) (.t 15)),om 4 16])
 .ret)
 .skip))
 (.seq (.reg [om 17 0,oo 18 (.cl (.c (.fn 71 [])) [(.t 17)]),om 5 18])
 (.seq (.reg [om 19 0,oo 20 (.cl (.c (.fn 71 [])) [(.t 19)]),om 6 20])
 (.seq (.reg [om 21 0,oo 22 (.cl (.c (.fn 71 [])) [(.t 21)]),om 7 22])
 (.seq (.reg [om 23 0,oo 24 (.cl (.c (.fn 71 [])) [(.t 23)]),om 8 24])
 (.seq (.reg [om 25 5,oo 26 (.bin .mul (.t 25) (.c (.j 16777216))),om 27 6,oo 28 (.bin .mul (.t 27) (.c (.j 65536))),oo 29 (.bin .add (.t 26) (.t 28)),om 30 7,oo 31 (.bin .mul (.t 30) (.c (.j 256))),oo 32 (.bin .add (.t 29) (.t 31)),om 33 8,oo 34 (.bin .add (.t 32) (.t 33)),om 35 1,oo 36 (.bin .rem (.t 34) (.t 35)),om 4 36])
 .ret))))))))
theorem k_spec_l01Below : FnOk Try.prog 72 37 rc_spec_l01Below [.t 4]:=⟨Try.f72,_,[],Try.func72,rfl,rfl,by kernel_rfl,by kernel_rfl,follows⟩
theorem ok_spec_l01Below : okF Try.prog 72 = true:=by kernel_rfl
def rc_spec_DrawPlaces : RC :=
 (.seq (.reg [oo 2 (.mv (.c (.nils)))])
 (.seq (.reg [om 6 0,oo 7 (.cl (.c (.fn 47 [])) [(.t 6)]),om 3 7])
 (.seq (.reg [om 8 3,oo 9 (.cl (.c (.fn 71 [])) [(.t 8)])])
 (.seq (.reg [oo 10 (.mv (.c (.nils))),om 4 10])
 (.seq (.seq (.reg [oo 5 (.mv (.c (.j 0)))])
 (.blk 0 (.loop (.seq (.seq (.reg [om 11 5,oo 12 (.bin .lss (.t 11) (.c (.j 12)))])
 (.cond (.t 12) .skip
 (.exit 0)))
 (.seq (.blk 1 (.reg [om 15 4,om 16 3,oo 17 (.cl (.c (.fn 72 [])) [(.t 16),(.c (.j 10000))]),oo 18 (.bs 1 [.j 0] 1 [(0,(.t 17))]),oo 19 (.app 1 8 (.t 15) (.t 18)),om 4 19]))
 (.reg [om 13 5,oo 14 (.bin .add (.t 13) (.c (.j 1))),om 5 14]))))))
 (.seq (.reg [om 20 4,om 2 20])
 .ret))))))
theorem k_spec_DrawPlaces : FnOk Try.prog 20 21 rc_spec_DrawPlaces [.t 2]:=⟨Try.f20,_,[],Try.func20,rfl,rfl,by kernel_rfl,by kernel_rfl,follows⟩
theorem ok_spec_DrawPlaces : okF Try.prog 20 = true:=by kernel_rfl
def rc_impl_DiskOk_2 : RC :=
 (.seq (.reg [oo 2 (.bx (.t 0)),oo 3 (.mv (.c (.bool false)))])
 (.seq (.reg [oo 4 (.fa 0 (.t 2)),oo 5 (.ld false 1 (.t 4)),oo 6 (.fa 0 (.t 1)),oo 7 (.ld false 1 (.t 6)),oo 8 (.lenl (.t 7)),oo 9 (.bin .sub (.t 8) (.c (.j 1))),oo 10 (.cl (.c (.fn 59 [])) [(.t 5),(.c (.j 0)),(.t 9)]),oo 11 (.un .not (.t 10)),om 12 11,⟨(some 13),(some (12,false)),.fa 1 (.t 2)⟩,⟨(some 14),(some (12,false)),.ld false 1 (.t 13)⟩,⟨(some 15),(some (12,false)),.lens (.t 14)⟩,⟨(some 16),(some (12,false)),.bin .neq (.t 15) (.c (.j 32))⟩,oo 17 (.pick (.t 12) (.c (.bool true)) (.t 16)),om 3 17])
 .ret))
theorem k_impl_DiskOk_2 : FnOk Try.prog 102 18 rc_impl_DiskOk_2 [.t 3]:=⟨Try.f102,_,[],Try.func102,rfl,rfl,by kernel_rfl,by kernel_rfl,follows⟩
theorem ok_impl_DiskOk_2 : okF Try.prog 102 = true:=by kernel_rfl
def rc_slices_IndexFunc_Write : RC :=
 (.seq (.reg [oo 4 (.mv (.c (.j 0)))])
 (.seq (.seq (.reg [om 6 0,oo 7 (.lenl (.t 6)),oo 8 (.mv (.c (.j 0)))])
 (.blk 0 (.loop (.seq (.reg [oo 9 (.bin .lss (.t 8) (.t 7))])
 (.seq (.cond (.t 9) .skip
 (.exit 0))
 (.seq (.blk 1 (.seq (.reg [om 10 8,om 5 10])
 (.seq (.reg [om 11 1,om 12 0,om 13 5,oo 14 (.ia 2 (.t 12) (.t 13)),oo 15 (.ld true 2 (.t 14)),oo 16 (.cl (.t 11) [(.t 15)])])
 (.cond (.t 16) (.seq (.reg [om 17 5,om 4 17])
 .ret)
 .skip))))
 (.reg [oo 18 (.bin .add (.t 8) (.c (.j 1))),om 8 18])))))))
 (.seq (.reg [oo 4 (.mv (.c (.j (-1))))])
 .ret)))
theorem k_slices_IndexFunc_Write : FnOk Try.prog 146 19 rc_slices_IndexFunc_Write [.t 4]:=⟨Try.f146,_,[],Try.func146,rfl,rfl,by kernel_rfl,by kernel_rfl,follows⟩
theorem ok_slices_IndexFunc_Write : okF Try.prog 146 = true:=by kernel_rfl
def rc_slices_ContainsFunc_Write : RC :=
 (.seq (.reg [oo 4 (.mv (.c (.bool false)))])
 (.seq (.reg [om 5 0,om 6 1,oo 7 (.cl (.c (.fn 146 [])) [(.t 5),(.t 6)]),oo 8 (.bin .geq (.t 7) (.c (.j 0))),om 4 8])
 .ret))
theorem k_slices_ContainsFunc_Write : FnOk Try.prog 101 9 rc_slices_ContainsFunc_Write [.t 4]:=⟨Try.f101,_,[],Try.func101,rfl,rfl,by kernel_rfl,by kernel_rfl,follows⟩
theorem ok_slices_ContainsFunc_Write : okF Try.prog 101 = true:=by kernel_rfl
def rc_impl_DiskOk_1 : RC :=
 (.seq (.reg [oo 2 (.mv (.c (.bool false)))])
 (.seq (.reg [om 3 0,oo 4 (.lens (.t 3)),oo 5 (.bin .neq (.t 4) (.c (.j 32))),om 2 5])
 .ret))
theorem k_impl_DiskOk_1 : FnOk Try.prog 100 6 rc_impl_DiskOk_1 [.t 2]:=⟨Try.f100,_,[],Try.func100,rfl,rfl,by kernel_rfl,by kernel_rfl,follows⟩
theorem ok_impl_DiskOk_1 : okF Try.prog 100 = true:=by kernel_rfl
def rc_slices_IndexFunc_string : RC :=
 (.seq (.reg [oo 4 (.mv (.c (.j 0)))])
 (.seq (.seq (.reg [om 6 0,oo 7 (.lenl (.t 6)),oo 8 (.mv (.c (.j 0)))])
 (.blk 0 (.loop (.seq (.reg [oo 9 (.bin .lss (.t 8) (.t 7))])
 (.seq (.cond (.t 9) .skip
 (.exit 0))
 (.seq (.blk 1 (.seq (.reg [om 10 8,om 5 10])
 (.seq (.reg [om 11 1,om 12 0,om 13 5,oo 14 (.ia 1 (.t 12) (.t 13)),oo 15 (.ld false 1 (.t 14)),oo 16 (.cl (.t 11) [(.t 15)])])
 (.cond (.t 16) (.seq (.reg [om 17 5,om 4 17])
 .ret)
 .skip))))
 (.reg [oo 18 (.bin .add (.t 8) (.c (.j 1))),om 8 18])))))))
 (.seq (.reg [oo 4 (.mv (.c (.j (-1))))])
 .ret)))
theorem k_slices_IndexFunc_string : FnOk Try.prog 145 19 rc_slices_IndexFunc_string [.t 4]:=⟨Try.f145,_,[],Try.func145,rfl,rfl,by kernel_rfl,by kernel_rfl,follows⟩
theorem ok_slices_IndexFunc_string : okF Try.prog 145 = true:=by kernel_rfl
def rc_slices_ContainsFunc_string : RC :=
 (.seq (.reg [oo 4 (.mv (.c (.bool false)))])
 (.seq (.reg [om 5 0,om 6 1,oo 7 (.cl (.c (.fn 145 [])) [(.t 5),(.t 6)]),oo 8 (.bin .geq (.t 7) (.c (.j 0))),om 4 8])
 .ret))
theorem k_slices_ContainsFunc_string : FnOk Try.prog 99 9 rc_slices_ContainsFunc_string [.t 4]:=⟨Try.f99,_,[],Try.func99,rfl,rfl,by kernel_rfl,by kernel_rfl,follows⟩
theorem ok_slices_ContainsFunc_string : okF Try.prog 99 = true:=by kernel_rfl
def rc_impl_DiskOk : RC :=
 (.seq (.reg [oo 1 (.bx (.t 0)),oo 2 (.mv (.c (.bool false)))])
 (.seq (.seq (.reg [oo 3 (.fa 0 (.t 1)),oo 4 (.ld false 1 (.t 3)),oo 5 (.lenl (.t 4)),oo 6 (.cl (.c (.fn 59 [])) [(.t 5),(.c (.j 1)),(.c (.j 100))]),oo 7 (.un .not (.t 6)),om 8 7,⟨(some 9),(some (8,false)),.fa 1 (.t 1)⟩,⟨(some 10),(some (8,false)),.ld false 1 (.t 9)⟩,⟨(some 11),(some (8,false)),.lenl (.t 10)⟩,⟨(some 12),(some (8,false)),.bin .gtr (.t 11) (.c (.j 60))⟩,oo 13 (.pick (.t 8) (.c (.bool true)) (.t 12))])
 (.cond (.t 13) (.seq (.reg [oo 2 (.mv (.c (.bool false)))])
 .ret)
 .skip))
 (.seq (.seq (.reg [oo 14 (.fa 0 (.t 1)),oo 15 (.ld false 1 (.t 14)),oo 16 (.cl (.c (.fn 99 [])) [(.t 15),(.c (.fn 100 []))])])
 (.cond (.t 16) (.seq (.reg [oo 2 (.mv (.c (.bool false)))])
 .ret)
 .skip))
 (.seq (.reg [oo 17 (.fa 1 (.t 1)),oo 18 (.ld false 1 (.t 17)),oo 19 (.mkf 102 [(.t 1)]),oo 20 (.cl (.c (.fn 101 [])) [(.t 18),(.t 19)]),oo 21 (.un .not (.t 20)),om 2 21])
 .ret))))
theorem k_impl_DiskOk : FnOk Try.prog 53 22 rc_impl_DiskOk [.t 2]:=⟨Try.f53,_,[],Try.func53,rfl,rfl,by kernel_rfl,by kernel_rfl,follows⟩
theorem ok_impl_DiskOk : okF Try.prog 53 = true:=by kernel_rfl
def rc_slices_Clone_string : RC :=
 (.seq (.reg [oo 2 (.mv (.c (.nils)))])
 (.seq (.seq (.reg [om 3 0,oo 4 (.isn false (.t 3))])
 (.cond (.t 4) (.seq (.reg [oo 2 (.mv (.c (.nils)))])
 .ret)
 .skip))
 (.seq (.reg [oo 5 (.mv (.c (.nils))),om 6 0,oo 7 (.app 1 16 (.t 5) (.t 6)),om 2 7])
 .ret)))
theorem k_slices_Clone_string : FnOk Try.prog 103 8 rc_slices_Clone_string [.t 2]:=⟨Try.f103,_,[],Try.func103,rfl,rfl,by kernel_rfl,by kernel_rfl,follows⟩
theorem ok_slices_Clone_string : okF Try.prog 103 = true:=by kernel_rfl
def rc_slices_Clone_Write : RC :=
 (.seq (.reg [oo 2 (.mv (.c (.nils)))])
 (.seq (.seq (.reg [om 3 0,oo 4 (.isn false (.t 3))])
 (.cond (.t 4) (.seq (.reg [oo 2 (.mv (.c (.nils)))])
 .ret)
 .skip))
 (.seq (.reg [oo 5 (.mv (.c (.nils))),om 6 0,oo 7 (.app 2 24 (.t 5) (.t 6)),om 2 7])
 .ret)))
theorem k_slices_Clone_Write : FnOk Try.prog 104 8 rc_slices_Clone_Write [.t 2]:=⟨Try.f104,_,[],Try.func104,rfl,rfl,by kernel_rfl,by kernel_rfl,follows⟩
theorem ok_slices_Clone_Write : okF Try.prog 104 = true:=by kernel_rfl
def rc_impl_cloneDisk : RC :=
 (.seq (.reg [oo 1 (.bx (.t 0)),oo 2 (.al [.nils,.nils])])
 (.seq (.drw [oo 3 (.fa 0 (.t 1)),oo 4 (.ld false 1 (.t 3)),oo 5 (.cl (.c (.fn 103 [])) [(.t 4)]),oo 6 (.fa 1 (.t 1)),oo 7 (.ld false 1 (.t 6)),oo 8 (.cl (.c (.fn 104 [])) [(.t 7)]),oo 9 (.bld [.nils,.nils] [(0,1),(1,1)] [(0,(.t 5)),(1,(.t 8))]),on (.st 2 (.t 2) (.t 9))] [.val [],.val [],.chn [],.val [2],.val [2],.chn [],.val [],.chn []])
 .ret))
theorem k_impl_cloneDisk : FnOk Try.prog 54 10 rc_impl_cloneDisk [.cell 2 true 2]:=⟨Try.f54,_,[(1,[2,5])],Try.func54,rfl,rfl,by kernel_rfl,by kernel_rfl,follows⟩
theorem ok_impl_cloneDisk : okF Try.prog 54 = true:=by kernel_rfl
def rc_impl_CrashDisk : RC :=
 (.seq (.reg [oo 3 (.bx (.t 0)),oo 6 (.al [.nils,.nils])])
 (.seq (.reg [oo 14 (.ld true 2 (.t 3)),oo 15 (.cl (.c (.fn 54 [])) [(.t 14)]),oo 7 (.al [.nils,.nils]),on (.st 2 (.t 7) (.t 15))])
 (.seq (.seq (.reg [oo 16 (.ld true 2 (.t 3)),oo 17 (.cl (.c (.fn 53 [])) [(.t 16)]),oo 18 (.un .not (.t 17))])
 (.cond (.t 18) (.seq (.reg [oo 19 (.ld true 2 (.t 7)),on (.st 2 (.t 6) (.t 19))])
 .ret)
 .skip))
 (.seq (.reg [oo 20 (.mv (.c (.nils))),om 8 20])
 (.seq (.seq (.reg [oo 21 (.fa 1 (.t 3)),oo 22 (.ld false 1 (.t 21)),oo 23 (.lenl (.t 22)),oo 24 (.mv (.c (.j 0)))])
 (.blk 0 (.loop (.seq (.reg [oo 25 (.bin .lss (.t 24) (.t 23))])
 (.seq (.cond (.t 25) .skip
 (.exit 0))
 (.seq (.blk 1 (.seq (.reg [om 26 24,oo 27 (.ia 2 (.t 22) (.t 24)),oo 28 (.ld true 2 (.t 27)),oo 10 (.al [.j 0,.str []]),om 9 26,on (.st 2 (.t 10) (.t 28))])
 (.seq (.reg [om 29 9,om 30 1,oo 31 (.lenl (.t 30)),oo 32 (.bin .lss (.t 29) (.t 31)),om 33 32,⟨(some 34),(some (33,true)),.mv (.t 1)⟩,⟨(some 35),(some (33,true)),.mv (.t 9)⟩,⟨(some 36),(some (33,true)),.ia 1 (.t 34) (.t 35)⟩,⟨(some 37),(some (33,true)),.ld false 1 (.t 36)⟩,⟨(some 38),(some (33,true)),.bin .rem (.t 37) (.c (.j 2))⟩,⟨(some 39),(some (33,true)),.bin .neq (.t 38) (.c (.j 0))⟩,oo 40 (.pick (.t 33) (.t 39) (.c (.bool false)))])
 (.cond (.t 40) (.reg [om 41 8,oo 42 (.ld true 2 (.t 10)),oo 43 (.bs 2 [.j 0,.str []] 1 [(0,(.t 42))]),oo 44 (.app 2 24 (.t 41) (.t 43)),om 8 44])
 .skip))))
 (.reg [oo 45 (.bin .add (.t 24) (.c (.j 1))),om 24 45])))))))
 (.seq (.seq (.reg [om 46 8,oo 47 (.lenl (.t 46)),oo 48 (.mv (.c (.j 0)))])
 (.blk 2 (.loop (.seq (.reg [oo 49 (.bin .lss (.t 48) (.t 47))])
 (.seq (.cond (.t 49) .skip
 (.exit 2))
 (.seq (.blk 3 (.seq (.reg [om 50 48,oo 51 (.ia 2 (.t 46) (.t 48)),oo 52 (.ld true 2 (.t 51)),oo 12 (.al [.j 0,.str []]),om 11 50,on (.st 2 (.t 12) (.t 52))])
 (.seq (.reg [oo 13 (.mv (.c (.j 32)))])
 (.seq (.seq (.reg [om 53 11,om 54 8,oo 55 (.lenl (.t 54)),oo 56 (.bin .sub (.t 55) (.c (.j 1))),oo 57 (.bin .eql (.t 53) (.t 56))])
 (.cond (.t 57) (.reg [om 58 2,oo 59 (.bin .rem (.t 58) (.c (.j 33))),oo 60 (.bin .add (.t 59) (.c (.j 32))),oo 61 (.bin .add (.t 60) (.c (.j 1))),oo 62 (.bin .rem (.t 61) (.c (.j 33))),om 13 62])
 .skip))
 (.drw [oo 63 (.fa 0 (.t 7)),oo 64 (.ld false 1 (.t 63)),oo 65 (.fa 0 (.t 12)),oo 66 (.ld false 1 (.t 65)),oo 67 (.fa 1 (.t 12)),oo 68 (.ld false 1 (.t 67)),om 69 13,oo 70 (.sls (.t 68) none (some (.t 69))),oo 71 (.fa 0 (.t 7)),oo 72 (.ld false 1 (.t 71)),oo 73 (.fa 0 (.t 12)),oo 74 (.ld false 1 (.t 73)),oo 75 (.ia 1 (.t 72) (.t 74)),oo 76 (.ld false 1 (.t 75)),om 77 13,oo 78 (.sls (.t 76) (some (.t 77)) none),oo 79 (.bin .add (.t 70) (.t 78)),oo 80 (.ia 1 (.t 64) (.t 66)),on (.st 1 (.t 80) (.t 79))] [.val [],.val [],.val [],.val [],.val [],.val [],.val [],.val [],.val [],.val [],.val [],.val [],.val [],.val [],.val [],.val [],.val [],.val [],.chn []])))))
 (.reg [oo 81 (.bin .add (.t 48) (.c (.j 1))),om 48 81])))))))
 (.seq (.reg [oo 82 (.fa 1 (.t 7)),on (.st 1 (.t 82) (.c (.nils)))])
 (.seq (.reg [oo 83 (.ld true 2 (.t 7)),on (.st 2 (.t 6) (.t 83))])
 .ret))))))))
theorem k_impl_CrashDisk : FnOk Try.prog 21 84 rc_impl_CrashDisk [.cell 6 true 2]:=⟨Try.f21,_,[],Try.func21,rfl,rfl,by kernel_rfl,by kernel_rfl,follows⟩
theorem ok_impl_CrashDisk : okF Try.prog 21 = true:=by kernel_rfl
def rc_spec_l03Keep : RC :=
 (.seq (.reg [oo 2 (.mv (.c (.nils)))])
 (.seq (.reg [oo 5 (.mv (.c (.nils))),om 3 5])
 (.seq (.seq (.reg [oo 4 (.mv (.c (.j 0)))])
 (.blk 0 (.loop (.seq (.seq (.reg [om 6 4,om 7 0,oo 8 (.cl (.c (.fn 72 [])) [(.t 7),(.c (.j 14))]),oo 9 (.bin .lss (.t 6) (.t 8))])
 (.cond (.t 9) .skip
 (.exit 0)))
 (.seq (.blk 1 (.reg [om 12 3,om 13 0,oo 14 (.cl (.c (.fn 72 [])) [(.t 13),(.c (.j 3))]),oo 15 (.bin .sub (.t 14) (.c (.j 1))),oo 16 (.bs 1 [.j 0] 1 [(0,(.t 15))]),oo 17 (.app 1 8 (.t 12) (.t 16)),om 3 17]))
 (.reg [om 10 4,oo 11 (.bin .add (.t 10) (.c (.j 1))),om 4 11]))))))
 (.seq (.reg [om 18 3,om 2 18])
 .ret))))
theorem k_spec_l03Keep : FnOk Try.prog 73 19 rc_spec_l03Keep [.t 2]:=⟨Try.f73,_,[],Try.func73,rfl,rfl,by kernel_rfl,by kernel_rfl,follows⟩
theorem ok_spec_l03Keep : okF Try.prog 73 = true:=by kernel_rfl
def rc_spec_DrawKeep : RC :=
 (.seq (.reg [oo 2 (.mv (.c (.nils)))])
 (.seq (.reg [om 3 0,oo 4 (.cl (.c (.fn 47 [])) [(.t 3)]),oo 5 (.cl (.c (.fn 73 [])) [(.t 4)]),om 2 5])
 .ret))
theorem k_spec_DrawKeep : FnOk Try.prog 22 6 rc_spec_DrawKeep [.t 2]:=⟨Try.f22,_,[],Try.func22,rfl,rfl,by kernel_rfl,by kernel_rfl,follows⟩
theorem ok_spec_DrawKeep : okF Try.prog 22 = true:=by kernel_rfl
def rc_spec_SectorText : RC :=
 (.seq (.reg [oo 3 (.bx (.t 0)),oo 6 (.mv (.c (.str []))),oo 7 (.mv (.c (.bool false)))])
 (.seq (.seq (.reg [om 12 2,oo 13 (.cl (.c (.fn 67 [])) [(.t 12),(.c (.j 0)),(.c (.j 100))]),oo 14 (.un .not (.t 13))])
 (.cond (.t 14) (.seq (.reg [oo 6 (.mv (.c (.str []))),oo 7 (.mv (.c (.bool false)))])
 .ret)
 .skip))
 (.seq (.reg [oo 8 (.mv (.c (.str [])))])
 (.seq (.seq (.reg [oo 9 (.mv (.c (.j 0)))])
 (.blk 0 (.loop (.seq (.seq (.reg [om 15 9,om 16 2,oo 17 (.bin .lss (.t 15) (.t 16))])
 (.cond (.t 17) .skip
 (.exit 0)))
 (.seq (.blk 1 (.seq (.seq (.reg [om 20 1,oo 21 (.bin .lss (.t 20) (.c (.j 0))),om 22 21,⟨(some 23),(some (22,false)),.mv (.t 1)⟩,⟨(some 24),(some (22,false)),.fa 0 (.t 3)⟩,⟨(some 25),(some (22,false)),.ld false 1 (.t 24)⟩,⟨(some 26),(some (22,false)),.lenl (.t 25)⟩,⟨(some 27),(some (22,false)),.bin .gtr (.t 23) (.t 26)⟩,oo 28 (.pick (.t 22) (.c (.bool true)) (.t 27))])
 (.cond (.t 28) (.seq (.reg [oo 6 (.mv (.c (.str []))),oo 7 (.mv (.c (.bool false)))])
 .ret)
 .skip))
 (.seq (.reg [oo 30 (.ld true 2 (.t 3)),om 31 1,om 32 9,oo 33 (.bin .add (.t 31) (.t 32)),oo 34 (.cl (.c (.fn 69 [])) [(.t 30),(.t 33)]),om 29 34,oo 35 (.ext (.t 29) 0),oo 36 (.ext (.t 29) 1),om 10 35,om 11 36])
 (.seq (.seq (.reg [om 37 11,oo 38 (.un .not (.t 37))])
 (.cond (.t 38) (.seq (.reg [oo 6 (.mv (.c (.str []))),oo 7 (.mv (.c (.bool false)))])
 .ret)
 .skip))
 (.reg [om 39 8,om 40 10,oo 41 (.bin .add (.t 39) (.t 40)),om 8 41])))))
 (.reg [om 18 9,oo 19 (.bin .add (.t 18) (.c (.j 1))),om 9 19]))))))
 (.seq (.reg [om 42 8,om 6 42,oo 7 (.mv (.c (.bool true)))])
 .ret)))))
theorem k_spec_SectorText : FnOk Try.prog 24 43 rc_spec_SectorText [.t 6,.t 7]:=⟨Try.f24,_,[],Try.func24,rfl,rfl,by kernel_rfl,by kernel_rfl,follows⟩
theorem ok_spec_SectorText : okF Try.prog 24 = true:=by kernel_rfl
def rc_spec_ReadVar : RC :=
 (.seq (.reg [oo 4 (.mv (.c (.j 0))),oo 5 (.mv (.c (.j 0))),oo 6 (.mv (.c (.bool false)))])
 (.seq (.seq (.reg [om 10 1,om 11 0,oo 12 (.lens (.t 11)),oo 13 (.cl (.c (.fn 67 [])) [(.t 10),(.c (.j 0)),(.t 12)]),oo 14 (.un .not (.t 13))])
 (.cond (.t 14) (.seq (.reg [oo 4 (.mv (.c (.j 0))),oo 5 (.mv (.c (.j 0))),oo 6 (.mv (.c (.bool false)))])
 .ret)
 .skip))
 (.seq (.reg [oo 7 (.mv (.c (.j 0)))])
 (.seq (.reg [oo 8 (.mv (.c (.j 1)))])
 (.seq (.seq (.reg [om 15 1,om 9 15])
 (.blk 0 (.loop (.seq (.seq (.reg [om 16 9,om 17 0,oo 18 (.lens (.t 17)),oo 19 (.bin .lss (.t 16) (.t 18)),om 20 19,⟨(some 21),(some (20,true)),.mv (.t 9)⟩,⟨(some 22),(some (20,true)),.mv (.t 1)⟩,⟨(some 23),(some (20,true)),.bin .add (.t 22) (.c (.j 5))⟩,⟨(some 24),(some (20,true)),.bin .lss (.t 21) (.t 23)⟩,oo 25 (.pick (.t 20) (.t 24) (.c (.bool false)))])
 (.cond (.t 25) .skip
 (.exit 0)))
 (.seq (.blk 1 (.seq (.reg [om 28 7,om 29 0,om 30 9,oo 31 (.idx (.t 29) (.t 30)),oo 32 (.cvi .i64 (.t 31)),oo 33 (.bin .rem (.t 32) (.c (.j 128))),om 34 8,oo 35 (.bin .mul (.t 33) (.t 34)),oo 36 (.bin .add (.t 28) (.t 35)),om 7 36])
 (.seq (.reg [om 37 8,oo 38 (.bin .mul (.t 37) (.c (.j 128))),om 8 38])
 (.seq (.reg [om 39 0,om 40 9,oo 41 (.idx (.t 39) (.t 40)),oo 42 (.bin .lss (.t 41) (.c (.int .u8 128)))])
 (.cond (.t 42) (.seq (.seq (.drw [om 43 7,oo 44 (.bin .gtr (.t 43) (.c (.j 1000000000))),om 45 44,⟨(some 46),(some (45,false)),.mv (.t 7)⟩,⟨(some 47),(some (45,false)),.cl (.c (.fn 63 [])) [(.t 46)]⟩,⟨(some 48),(some (45,false)),.mv (.t 0)⟩,⟨(some 49),(some (45,false)),.mv (.t 1)⟩,⟨(some 50),(some (45,false)),.mv (.t 9)⟩,⟨(some 51),(some (45,false)),.bin .add (.t 50) (.c (.j 1))⟩,⟨(some 52),(some (45,false)),.sls (.t 48) (some (.t 49)) (some (.t 51))⟩,⟨(some 53),(some (45,false)),.bin .neq (.t 47) (.t 52)⟩,oo 54 (.pick (.t 45) (.c (.bool true)) (.t 53))] [.val [],.val [],.val [],.val [],.val [],.val [],.val [],.val [],.val [],.val [],.val [],.val []])
 (.cond (.t 54) (.seq (.reg [oo 4 (.mv (.c (.j 0))),oo 5 (.mv (.c (.j 0))),oo 6 (.mv (.c (.bool false)))])
 .ret)
 .skip))
 (.seq (.reg [om 55 7,om 56 9,oo 57 (.bin .add (.t 56) (.c (.j 1))),om 4 55,om 5 57,oo 6 (.mv (.c (.bool true)))])
 .ret))
 .skip)))))
 (.reg [om 26 9,oo 27 (.bin .add (.t 26) (.c (.j 1))),om 9 27]))))))
 (.seq (.reg [oo 4 (.mv (.c (.j 0))),oo 5 (.mv (.c (.j 0))),oo 6 (.mv (.c (.bool false)))])
 .ret))))))
theorem k_spec_ReadVar : FnOk Try.prog 110 58 rc_spec_ReadVar [.t 4,.t 5,.t 6]:=⟨Try.f110,_,[],Try.func110,rfl,rfl,by kernel_rfl,by kernel_rfl,follows⟩
theorem ok_spec_ReadVar : okF Try.prog 110 = true:=by kernel_rfl
def rc_spec_ReadShort : RC :=
 (.seq (.reg [oo 4 (.mv (.c (.str []))),oo 5 (.mv (.c (.j 0))),oo 6 (.mv (.c (.bool false)))])
 (.seq (.reg [om 11 0,om 12 1,oo 13 (.cl (.c (.fn 110 [])) [(.t 11),(.t 12)]),om 10 13,oo 14 (.ext (.t 10) 0),oo 15 (.ext (.t 10) 1),oo 16 (.ext (.t 10) 2),om 7 14,om 8 15,om 9 16])
 (.seq (.seq (.reg [om 17 9,oo 18 (.un .not (.t 17)),om 19 18,⟨(some 20),(some (19,false)),.mv (.t 7)⟩,⟨(some 21),(some (19,false)),.bin .gtr (.t 20) (.c (.j 20000))⟩,oo 22 (.pick (.t 19) (.c (.bool true)) (.t 21)),om 23 22,⟨(some 24),(some (23,false)),.mv (.t 7)⟩,⟨(some 25),(some (23,false)),.mv (.t 0)⟩,⟨(some 26),(some (23,false)),.lens (.t 25)⟩,⟨(some 27),(some (23,false)),.mv (.t 8)⟩,⟨(some 28),(some (23,false)),.bin .sub (.t 26) (.t 27)⟩,⟨(some 29),(some (23,false)),.bin .gtr (.t 24) (.t 28)⟩,oo 30 (.pick (.t 23) (.c (.bool true)) (.t 29))])
 (.cond (.t 30) (.seq (.reg [oo 4 (.mv (.c (.str []))),oo 5 (.mv (.c (.j 0))),oo 6 (.mv (.c (.bool false)))])
 .ret)
 .skip))
 (.seq (.reg [om 31 0,om 32 8,om 33 8,om 34 7,oo 35 (.bin .add (.t 33) (.t 34)),oo 36 (.sls (.t 31) (some (.t 32)) (some (.t 35))),om 37 8,om 38 7,oo 39 (.bin .add (.t 37) (.t 38)),om 4 36,om 5 39,oo 6 (.mv (.c (.bool true)))])
 .ret))))
theorem k_spec_ReadShort : FnOk Try.prog 74 40 rc_spec_ReadShort [.t 4,.t 5,.t 6]:=⟨Try.f74,_,[],Try.func74,rfl,rfl,by kernel_rfl,by kernel_rfl,follows⟩
theorem ok_spec_ReadShort : okF Try.prog 74 = true:=by kernel_rfl
def rc_spec_Unsealed : RC :=
 (.seq (.reg [oo 2 (.mv (.c (.str []))),oo 3 (.mv (.c (.bool false)))])
 (.seq (.reg [om 5 0,oo 6 (.lens (.t 5)),oo 7 (.bin .sub (.t 6) (.c (.j 4))),om 4 7])
 (.seq (.seq (.drw [om 8 4,oo 9 (.bin .lss (.t 8) (.c (.j 0))),om 10 9,⟨(some 11),(some (10,false)),.mv (.t 4)⟩,⟨(some 12),(some (10,false)),.bin .gtr (.t 11) (.c (.j 20000))⟩,oo 13 (.pick (.t 10) (.c (.bool true)) (.t 12)),om 14 13,⟨(some 15),(some (14,false)),.mv (.t 0)⟩,⟨(some 16),(some (14,false)),.mv (.t 4)⟩,⟨(some 17),(some (14,false)),.sls (.t 15) (some (.t 16)) none⟩,⟨(some 18),(some (14,false)),.mv (.t 0)⟩,⟨(some 19),(some (14,false)),.mv (.t 4)⟩,⟨(some 20),(some (14,false)),.sls (.t 18) none (some (.t 19))⟩,⟨(some 21),(some (14,false)),.cl (.c (.fn 109 [])) [(.t 20)]⟩,⟨(some 22),(some (14,false)),.cl (.c (.fn 108 [])) [(.t 21)]⟩,⟨(some 23),(some (14,false)),.bin .neq (.t 17) (.t 22)⟩,oo 24 (.pick (.t 14) (.c (.bool true)) (.t 23))] [.val [],.val [],.val [],.val [],.val [],.val [],.val [],.val [],.val [],.val [],.val [],.val [],.val [],.val [],.val [],.val [],.val []])
 (.cond (.t 24) (.seq (.reg [oo 2 (.mv (.c (.str []))),oo 3 (.mv (.c (.bool false)))])
 .ret)
 .skip))
 (.seq (.reg [om 25 0,om 26 4,oo 27 (.sls (.t 25) none (some (.t 26))),om 2 27,oo 3 (.mv (.c (.bool true)))])
 .ret))))
theorem k_spec_Unsealed : FnOk Try.prog 75 28 rc_spec_Unsealed [.t 2,.t 3]:=⟨Try.f75,_,[],Try.func75,rfl,rfl,by kernel_rfl,by kernel_rfl,follows⟩
theorem ok_spec_Unsealed : okF Try.prog 75 = true:=by kernel_rfl
def rc_spec_l06Var : RC :=
 (.seq (.reg [oo 2 (.mv (.c (.j 0)))])
 (.seq (.drw [om 7 0,oo 8 (.nc (.t 7)),oo 9 (.fa 0 (.t 8)),oo 10 (.ld false 1 (.t 9)),om 11 0,oo 12 (.nc (.t 11)),oo 13 (.fa 1 (.t 12)),oo 14 (.ld false 1 (.t 13)),oo 15 (.cl (.c (.fn 110 [])) [(.t 10),(.t 14)]),om 6 15,oo 16 (.ext (.t 6) 0),oo 17 (.ext (.t 6) 1),oo 18 (.ext (.t 6) 2),om 3 16,om 4 17,om 5 18] [.val [],.val [],.val [],.val [],.val [],.val [],.val [],.val [],.val [],.val [],.val [],.val [],.val [],.val [],.val [],.val []])
 (.seq (.seq (.reg [om 19 0,oo 20 (.nc (.t 19)),oo 21 (.fa 2 (.t 20)),oo 22 (.ld false 1 (.t 21)),om 23 22,⟨(some 24),(some (23,false)),.mv (.t 5)⟩,⟨(some 25),(some (23,false)),.un .not (.t 24)⟩,oo 26 (.pick (.t 23) (.c (.bool true)) (.t 25))])
 (.cond (.t 26) (.seq (.reg [om 27 0,oo 28 (.nc (.t 27)),oo 29 (.fa 2 (.t 28)),on (.st 1 (.t 29) (.c (.bool true)))])
 (.seq (.reg [oo 2 (.mv (.c (.j 0)))])
 .ret))
 .skip))
 (.seq (.reg [om 30 0,om 31 4,oo 32 (.nc (.t 30)),oo 33 (.fa 1 (.t 32)),on (.st 1 (.t 33) (.t 31))])
 (.seq (.reg [om 34 3,om 2 34])
 .ret)))))
theorem k_spec_l06Var : FnOk Try.prog 76 35 rc_spec_l06Var [.t 2]:=⟨Try.f76,_,[],Try.func76,rfl,rfl,by kernel_rfl,by kernel_rfl,follows⟩
theorem ok_spec_l06Var : okF Try.prog 76 = true:=by kernel_rfl
def rc_spec_ReadCheck : RC :=
 (.seq (.reg [oo 2 (.al [.j 0,.j 0,.j 0,.j 0,.nils]),oo 3 (.mv (.c (.bool false)))])
 (.seq (.reg [om 17 0,oo 18 (.cl (.c (.fn 74 [])) [(.t 17),(.c (.j 0))]),om 16 18,oo 19 (.ext (.t 16) 0),oo 20 (.ext (.t 16) 1),oo 21 (.ext (.t 16) 2),om 4 19,om 5 20,om 6 21])
 (.seq (.reg [om 23 4,oo 24 (.cl (.c (.fn 75 [])) [(.t 23)]),om 22 24,oo 25 (.ext (.t 22) 0),oo 26 (.ext (.t 22) 1),om 7 25,om 8 26])
 (.seq (.seq (.reg [om 27 6,oo 28 (.un .not (.t 27)),om 29 28,⟨(some 30),(some (29,false)),.mv (.t 8)⟩,⟨(some 31),(some (29,false)),.un .not (.t 30)⟩,oo 32 (.pick (.t 29) (.c (.bool true)) (.t 31))])
 (.cond (.t 32) (.seq (.reg [oo 33 (.bld [.j 0,.j 0,.j 0,.j 0,.nils] [(0,1),(1,1),(2,1),(3,1),(4,1)] []),on (.st 5 (.t 2) (.t 33)),oo 3 (.mv (.c (.bool false)))])
 .ret)
 .skip))
 (.seq (.reg [om 34 7,oo 35 (.bld [.str [],.j 0,.bool false] [(0,1),(1,1),(2,1)] [(0,(.t 34))]),oo 36 (.bx (.t 35)),om 9 36])
 (.seq (.reg [om 37 9,oo 38 (.cl (.c (.fn 76 [])) [(.t 37)]),oo 39 (.bld [.j 0,.j 0,.j 0,.j 0,.nils] [(0,1),(1,1),(2,1),(3,1),(4,1)] [(0,(.t 38))]),oo 10 (.al [.j 0,.j 0,.j 0,.j 0,.nils]),on (.st 5 (.t 10) (.t 39))])
 (.seq (.reg [om 40 9,oo 41 (.cl (.c (.fn 76 [])) [(.t 40)]),oo 42 (.fa 1 (.t 10)),on (.st 1 (.t 42) (.t 41))])
 (.seq (.reg [om 43 9,oo 44 (.cl (.c (.fn 76 [])) [(.t 43)]),oo 45 (.fa 2 (.t 10)),on (.st 1 (.t 45) (.t 44))])
 (.seq (.reg [om 46 9,oo 47 (.cl (.c (.fn 76 [])) [(.t 46)]),oo 48 (.fa 3 (.t 10)),on (.st 1 (.t 48) (.t 47))])
 (.seq (.reg [om 49 9,oo 50 (.cl (.c (.fn 76 [])) [(.t 49)]),om 11 50])
 (.seq (.seq (.reg [oo 12 (.mv (.c (.j 0)))])
 (.blk 0 (.loop (.seq (.seq (.reg [om 51 12,om 52 11,oo 53 (.bin .lss (.t 51) (.t 52)),om 54 53,⟨(some 55),(some (54,true)),.mv (.t 12)⟩,⟨(some 56),(some (54,true)),.bin .lss (.t 55) (.c (.j 20))⟩,oo 57 (.pick (.t 54) (.t 56) (.c (.bool false))),om 58 57,⟨(some 59),(some (58,true)),.mv (.t 9)⟩,⟨(some 60),(some (58,true)),.nc (.t 59)⟩,⟨(some 61),(some (58,true)),.fa 2 (.t 60)⟩,⟨(some 62),(some (58,true)),.ld false 1 (.t 61)⟩,⟨(some 63),(some (58,true)),.un .not (.t 62)⟩,oo 64 (.pick (.t 58) (.t 63) (.c (.bool false)))])
 (.cond (.t 64) .skip
 (.exit 0)))
 (.seq (.blk 1 (.seq (.reg [om 67 9,oo 68 (.cl (.c (.fn 76 [])) [(.t 67)]),oo 69 (.bld [.j 0,.j 0] [(0,1),(1,1)] [(0,(.t 68))]),oo 13 (.al [.j 0,.j 0]),on (.st 2 (.t 13) (.t 69))])
 (.seq (.reg [om 70 9,oo 71 (.cl (.c (.fn 76 [])) [(.t 70)]),oo 72 (.fa 1 (.t 13)),on (.st 1 (.t 72) (.t 71))])
 (.reg [oo 73 (.fa 4 (.t 10)),oo 74 (.ld false 1 (.t 73)),oo 75 (.ld true 2 (.t 13)),oo 76 (.bs 2 [.j 0,.j 0] 1 [(0,(.t 75))]),oo 77 (.app 2 16 (.t 74) (.t 76)),oo 78 (.fa 4 (.t 10)),on (.st 1 (.t 78) (.t 77))]))))
 (.reg [om 65 12,oo 66 (.bin .add (.t 65) (.c (.j 1))),om 12 66]))))))
 (.seq (.reg [oo 80 (.ld true 5 (.t 10)),oo 81 (.cl (.c (.fn 18 [])) [(.t 80)]),om 79 81,oo 82 (.ext (.t 79) 0),oo 83 (.ext (.t 79) 1),om 14 82,om 15 83])
 (.seq (.seq (.reg [om 84 9,oo 85 (.nc (.t 84)),oo 86 (.fa 2 (.t 85)),oo 87 (.ld false 1 (.t 86)),om 88 87,⟨(some 89),(some (88,false)),.mv (.t 15)⟩,⟨(some 90),(some (88,false)),.un .not (.t 89)⟩,oo 91 (.pick (.t 88) (.c (.bool true)) (.t 90)),om 92 91,⟨(some 93),(some (92,false)),.mv (.t 14)⟩,⟨(some 94),(some (92,false)),.mv (.t 0)⟩,⟨(some 95),(some (92,false)),.mv (.t 5)⟩,⟨(some 96),(some (92,false)),.sls (.t 94) none (some (.t 95))⟩,⟨(some 97),(some (92,false)),.bin .neq (.t 93) (.t 96)⟩,oo 98 (.pick (.t 92) (.c (.bool true)) (.t 97))])
 (.cond (.t 98) (.seq (.reg [oo 99 (.bld [.j 0,.j 0,.j 0,.j 0,.nils] [(0,1),(1,1),(2,1),(3,1),(4,1)] []),on (.st 5 (.t 2) (.t 99)),oo 3 (.mv (.c (.bool false)))])
 .ret)
 .skip))
 (.seq (.reg [oo 100 (.ld true 5 (.t 10)),on (.st 5 (.t 2) (.t 100)),oo 3 (.mv (.c (.bool true)))])
 .ret))))))))))))))
theorem k_spec_ReadCheck : FnOk Try.prog 25 101 rc_spec_ReadCheck [.cell 2 true 5,.t 3]:=⟨Try.f25,_,[],Try.func25,rfl,rfl,by kernel_rfl,by kernel_rfl,follows⟩
theorem ok_spec_ReadCheck : okF Try.prog 25 = true:=by kernel_rfl
def rc_spec_NewestCheck : RC :=
 (.seq (.reg [oo 1 (.bx (.t 0)),oo 2 (.al [.j 0,.j 0,.j 0,.j 0,.nils]),oo 3 (.mv (.c (.bool false)))])
 (.seq (.reg [oo 11 (.bld [.j 0,.j 0,.j 0,.j 0,.nils] [(0,1),(1,1),(2,1),(3,1),(4,1)] []),oo 4 (.al [.j 0,.j 0,.j 0,.j 0,.nils]),on (.st 5 (.t 4) (.t 11))])
 (.seq (.reg [oo 5 (.mv (.c (.bool false)))])
 (.seq (.seq (.reg [oo 6 (.mv (.c (.j 0)))])
 (.blk 0 (.loop (.seq (.seq (.reg [om 12 6,oo 13 (.bin .lss (.t 12) (.c (.j 2)))])
 (.cond (.t 13) .skip
 (.exit 0)))
 (.seq (.blk 1 (.seq (.reg [oo 17 (.ld true 2 (.t 1)),om 18 6,oo 19 (.bin .mul (.t 18) (.c (.j 4))),oo 20 (.cl (.c (.fn 24 [])) [(.t 17),(.t 19),(.c (.j 4))]),om 16 20,oo 21 (.ext (.t 16) 0),oo 22 (.ext (.t 16) 1),om 7 21,om 8 22])
 (.seq (.reg [om 24 7,oo 25 (.cl (.c (.fn 25 [])) [(.t 24)]),om 23 25,oo 26 (.ext (.t 23) 0),oo 27 (.ext (.t 23) 1),oo 9 (.al [.j 0,.j 0,.j 0,.j 0,.nils]),on (.st 5 (.t 9) (.t 26)),om 10 27])
 (.seq (.reg [om 28 8,om 29 28,⟨(some 30),(some (29,true)),.mv (.t 10)⟩,oo 31 (.pick (.t 29) (.t 30) (.c (.bool false))),om 32 31,⟨(some 33),(some (32,true)),.fa 0 (.t 9)⟩,⟨(some 34),(some (32,true)),.ld false 1 (.t 33)⟩,⟨(some 35),(some (32,true)),.fa 0 (.t 4)⟩,⟨(some 36),(some (32,true)),.ld false 1 (.t 35)⟩,⟨(some 37),(some (32,true)),.bin .gtr (.t 34) (.t 36)⟩,oo 38 (.pick (.t 32) (.t 37) (.c (.bool false)))])
 (.cond (.t 38) (.seq (.reg [oo 39 (.ld true 5 (.t 9)),on (.st 5 (.t 4) (.t 39))])
 (.reg [oo 5 (.mv (.c (.bool true)))]))
 .skip)))))
 (.reg [om 14 6,oo 15 (.bin .add (.t 14) (.c (.j 1))),om 6 15]))))))
 (.seq (.reg [oo 40 (.ld true 5 (.t 4)),om 41 5,on (.st 5 (.t 2) (.t 40)),om 3 41])
 .ret)))))
theorem k_spec_NewestCheck : FnOk Try.prog 23 42 rc_spec_NewestCheck [.cell 2 true 5,.t 3]:=⟨Try.f23,_,[],Try.func23,rfl,rfl,by kernel_rfl,by kernel_rfl,follows⟩
theorem ok_spec_NewestCheck : okF Try.prog 23 = true:=by kernel_rfl
def rc_laws_big : RC :=
 (.seq (.reg [oo 2 (.mv (.c (.bool false)))])
 (.seq (.reg [om 3 0,oo 4 (.lenl (.t 3)),oo 5 (.bin .gtr (.t 4) (.c (.j 1048576))),om 2 5])
 .ret))
theorem k_laws_big : FnOk Try.prog 8 6 rc_laws_big [.t 2]:=⟨Try.f8,_,[],Try.func8,rfl,rfl,by kernel_rfl,by kernel_rfl,follows⟩
theorem ok_laws_big : okF Try.prog 8 = true:=by kernel_rfl
def rc_spec_l01Long : RC :=
 (.seq (.reg [oo 4 (.mv (.c (.str [])))])
 (.seq (.reg [om 7 0,oo 8 (.ms 1 [.int .u8 0] 1 (.t 7) (.t 7)),om 5 8])
 (.seq (.seq (.reg [oo 6 (.mv (.c (.j 0)))])
 (.blk 0 (.loop (.seq (.seq (.reg [om 9 6,om 10 0,oo 11 (.bin .lss (.t 9) (.t 10))])
 (.cond (.t 11) .skip
 (.exit 0)))
 (.seq (.blk 1 (.reg [om 14 5,om 15 6,om 16 1,oo 17 (.ia 1 (.t 14) (.t 15)),on (.st 1 (.t 17) (.t 16))]))
 (.reg [om 12 6,oo 13 (.bin .add (.t 12) (.c (.j 1))),om 6 13]))))))
 (.seq (.reg [om 18 5,oo 19 (.cvb (.t 18)),om 4 19])
 .ret))))
theorem k_spec_l01Long : FnOk Try.prog 154 20 rc_spec_l01Long [.t 4]:=⟨Try.f154,_,[],Try.func154,rfl,rfl,by kernel_rfl,by kernel_rfl,follows⟩
theorem ok_spec_l01Long : okF Try.prog 154 = true:=by kernel_rfl
def rc_spec_l03Zero : RC :=
 (.seq (.reg [oo 0 (.mv (.c (.str [])))])
 (.seq (.reg [oo 1 (.cl (.c (.fn 154 [])) [(.c (.j 32)),(.c (.int .u8 0))]),om 0 1])
 .ret))
theorem k_spec_l03Zero : FnOk Try.prog 158 2 rc_spec_l03Zero [.t 0]:=⟨Try.f158,_,[],Try.func158,rfl,rfl,by kernel_rfl,by kernel_rfl,follows⟩
theorem ok_spec_l03Zero : okF Try.prog 158 = true:=by kernel_rfl
def rc_spec_DiskNew : RC :=
 (.seq (.reg [oo 2 (.al [.nils,.nils]),oo 3 (.mv (.c (.bool false)))])
 (.seq (.seq (.reg [om 6 0,oo 7 (.cl (.c (.fn 67 [])) [(.t 6),(.c (.j 1)),(.c (.j 100))]),oo 8 (.un .not (.t 7))])
 (.cond (.t 8) (.seq (.reg [oo 9 (.bld [.nils,.nils] [(0,1),(1,1)] []),on (.st 2 (.t 2) (.t 9)),oo 3 (.mv (.c (.bool false)))])
 .ret)
 .skip))
 (.seq (.reg [oo 10 (.bld [.nils,.nils] [(0,1),(1,1)] []),oo 4 (.al [.nils,.nils]),on (.st 2 (.t 4) (.t 10))])
 (.seq (.seq (.reg [oo 5 (.mv (.c (.j 0)))])
 (.blk 0 (.loop (.seq (.seq (.reg [om 11 5,om 12 0,oo 13 (.bin .lss (.t 11) (.t 12))])
 (.cond (.t 13) .skip
 (.exit 0)))
 (.seq (.blk 1 (.drw [oo 16 (.fa 0 (.t 4)),oo 17 (.ld false 1 (.t 16)),oo 18 (.cl (.c (.fn 158 [])) []),oo 19 (.bs 1 [.str []] 1 [(0,(.t 18))]),oo 20 (.app 1 16 (.t 17) (.t 19)),oo 21 (.fa 0 (.t 4)),on (.st 1 (.t 21) (.t 20))] [.val [],.val [],.val [],.chn [0,1],.chn [],.val [],.chn []]))
 (.reg [om 14 5,oo 15 (.bin .add (.t 14) (.c (.j 1))),om 5 15]))))))
 (.seq (.reg [oo 22 (.ld true 2 (.t 4)),on (.st 2 (.t 2) (.t 22)),oo 3 (.mv (.c (.bool true)))])
 .ret)))))
theorem k_spec_DiskNew : FnOk Try.prog 134 23 rc_spec_DiskNew [.cell 2 true 2,.t 3]:=⟨Try.f134,_,[],Try.func134,rfl,rfl,by kernel_rfl,by kernel_rfl,follows⟩
theorem ok_spec_DiskNew : okF Try.prog 134 = true:=by kernel_rfl
def rc_spec_FrameOk : RC :=
 (.seq (.reg [oo 1 (.bx (.t 0)),oo 2 (.mv (.c (.bool false)))])
 (.seq (.reg [oo 3 (.fa 0 (.t 1)),oo 4 (.ld false 1 (.t 3)),oo 5 (.cl (.c (.fn 67 [])) [(.t 4),(.c (.j 1)),(.c (.j 1000000000))]),om 6 5,⟨(some 7),(some (6,true)),.fa 1 (.t 1)⟩,⟨(some 8),(some (6,true)),.ld false 1 (.t 7)⟩,⟨(some 9),(some (6,true)),.cl (.c (.fn 67 [])) [(.t 8),(.c (.j 1)),(.c (.j 1000000000))]⟩,oo 10 (.pick (.t 6) (.t 9) (.c (.bool false))),om 11 10,⟨(some 12),(some (11,true)),.fa 2 (.t 1)⟩,⟨(some 13),(some (11,true)),.ld false 1 (.t 12)⟩,⟨(some 14),(some (11,true)),.lens (.t 13)⟩,⟨(some 15),(some (11,true)),.cl (.c (.fn 67 [])) [(.t 14),(.c (.j 1)),(.c (.j 180))]⟩,oo 16 (.pick (.t 11) (.t 15) (.c (.bool false))),om 2 16])
 .ret))
theorem k_spec_FrameOk : FnOk Try.prog 161 17 rc_spec_FrameOk [.t 2]:=⟨Try.f161,_,[],Try.func161,rfl,rfl,by kernel_rfl,by kernel_rfl,follows⟩
theorem ok_spec_FrameOk : okF Try.prog 161 = true:=by kernel_rfl
def rc_spec_FrameText : RC :=
 (.seq (.reg [oo 1 (.bx (.t 0)),oo 2 (.mv (.c (.str []))),oo 3 (.mv (.c (.bool false)))])
 (.seq (.seq (.reg [oo 4 (.ld true 3 (.t 1)),oo 5 (.cl (.c (.fn 161 [])) [(.t 4)]),oo 6 (.un .not (.t 5))])
 (.cond (.t 6) (.seq (.reg [oo 2 (.mv (.c (.str []))),oo 3 (.mv (.c (.bool false)))])
 .ret)
 .skip))
 (.seq (.drw [oo 7 (.fa 0 (.t 1)),oo 8 (.ld false 1 (.t 7)),oo 9 (.cl (.c (.fn 63 [])) [(.t 8)]),oo 10 (.fa 1 (.t 1)),oo 11 (.ld false 1 (.t 10)),oo 12 (.cl (.c (.fn 63 [])) [(.t 11)]),oo 13 (.bin .add (.t 9) (.t 12)),oo 14 (.fa 2 (.t 1)),oo 15 (.ld false 1 (.t 14)),oo 16 (.lens (.t 15)),oo 17 (.cl (.c (.fn 63 [])) [(.t 16)]),oo 18 (.bin .add (.t 13) (.t 17)),oo 19 (.fa 2 (.t 1)),oo 20 (.ld false 1 (.t 19)),oo 21 (.bin .add (.t 18) (.t 20)),oo 22 (.cl (.c (.fn 64 [])) [(.t 21)]),oo 23 (.ext (.t 22) 0),oo 24 (.ext (.t 22) 1),om 2 23,om 3 24] [.val [],.val [],.val [],.val [],.val [],.val [],.val [],.val [],.val [],.val [],.val [],.val [],.val [],.val [],.val [],.val [],.val [],.val [],.val [],.val []])
 .ret)))
theorem k_spec_FrameText : FnOk Try.prog 141 25 rc_spec_FrameText [.t 2,.t 3]:=⟨Try.f141,_,[],Try.func141,rfl,rfl,by kernel_rfl,by kernel_rfl,follows⟩
theorem ok_spec_FrameText : okF Try.prog 141 = true:=by kernel_rfl
def rc_spec_SegFirst : RC :=
 (.seq (.reg [oo 2 (.mv (.c (.j 0)))])
 (.seq (.seq (.reg [om 3 0,oo 4 (.cl (.c (.fn 67 [])) [(.t 3),(.c (.j 0)),(.c (.j 10))]),oo 5 (.un .not (.t 4))])
 (.cond (.t 5) (.seq (.reg [oo 2 (.mv (.c (.j 0)))])
 .ret)
 .skip))
 (.seq (.reg [om 6 0,oo 7 (.bin .mul (.t 6) (.c (.j 8))),oo 8 (.bin .add (.c (.j 8)) (.t 7)),om 2 8])
 .ret)))
theorem k_spec_SegFirst : FnOk Try.prog 162 9 rc_spec_SegFirst [.t 2]:=⟨Try.f162,_,[],Try.func162,rfl,rfl,by kernel_rfl,by kernel_rfl,follows⟩
theorem ok_spec_SegFirst : okF Try.prog 162 = true:=by kernel_rfl
def rc_spec_SegWrite : RC :=
 (.seq (.reg [oo 4 (.bx (.t 0)),oo 8 (.al [.nils,.nils]),oo 9 (.mv (.c (.bool false)))])
 (.seq (.seq (.reg [om 10 1,oo 11 (.cl (.c (.fn 67 [])) [(.t 10),(.c (.j 0)),(.c (.j 10))]),oo 12 (.un .not (.t 11)),om 13 12,⟨(some 14),(some (13,false)),.mv (.t 2)⟩,⟨(some 15),(some (13,false)),.cl (.c (.fn 67 [])) [(.t 14),(.c (.j 0)),(.c (.j 256))]⟩,⟨(some 16),(some (13,false)),.un .not (.t 15)⟩,oo 17 (.pick (.t 13) (.c (.bool true)) (.t 16)),om 18 17,⟨(some 19),(some (18,false)),.mv (.t 3)⟩,⟨(some 20),(some (18,false)),.lens (.t 19)⟩,⟨(some 21),(some (18,false)),.mv (.t 2)⟩,⟨(some 22),(some (18,false)),.bin .sub (.c (.j 256)) (.t 21)⟩,⟨(some 23),(some (18,false)),.bin .gtr (.t 20) (.t 22)⟩,oo 24 (.pick (.t 18) (.c (.bool true)) (.t 23))])
 (.cond (.t 24) (.seq (.reg [oo 25 (.ld true 2 (.t 4)),oo 26 (.cl (.c (.fn 66 [])) [(.t 25)]),on (.st 2 (.t 8) (.t 26)),oo 9 (.mv (.c (.bool false)))])
 .ret)
 .skip))
 (.seq (.drw [oo 27 (.ld true 2 (.t 4)),om 28 1,oo 29 (.cl (.c (.fn 162 [])) [(.t 28)]),om 30 2,om 31 3,oo 32 (.cl (.c (.fn 19 [])) [(.t 27),(.t 29),(.t 30),(.t 31)]),oo 33 (.ext (.t 32) 0),oo 34 (.ext (.t 32) 1),on (.st 2 (.t 8) (.t 33)),om 9 34] [.val [],.val [],.val [],.val [],.val [],.chn [],.val [],.val [],.chn [],.val []])
 .ret)))
theorem k_spec_SegWrite : FnOk Try.prog 142 35 rc_spec_SegWrite [.cell 8 true 2,.t 9]:=⟨Try.f142,_,[(3,[5])],Try.func142,rfl,rfl,by kernel_rfl,by kernel_rfl,follows⟩
theorem ok_spec_SegWrite : okF Try.prog 142 = true:=by kernel_rfl
def rc_spec_FlushDisk : RC :=
 (.seq (.reg [oo 1 (.bx (.t 0)),oo 2 (.al [.nils,.nils])])
 (.seq (.reg [oo 5 (.ld true 2 (.t 1)),oo 6 (.cl (.c (.fn 66 [])) [(.t 5)]),oo 3 (.al [.nils,.nils]),on (.st 2 (.t 3) (.t 6))])
 (.seq (.seq (.reg [oo 7 (.ld true 2 (.t 1)),oo 8 (.cl (.c (.fn 68 [])) [(.t 7)]),oo 9 (.un .not (.t 8))])
 (.cond (.t 9) (.seq (.reg [oo 10 (.ld true 2 (.t 3)),on (.st 2 (.t 2) (.t 10))])
 .ret)
 .skip))
 (.seq (.seq (.reg [oo 4 (.mv (.c (.j 0)))])
 (.blk 0 (.loop (.seq (.seq (.reg [om 11 4,oo 12 (.fa 1 (.t 1)),oo 13 (.ld false 1 (.t 12)),oo 14 (.lenl (.t 13)),oo 15 (.bin .lss (.t 11) (.t 14))])
 (.cond (.t 15) .skip
 (.exit 0)))
 (.seq (.blk 1 (.drw [oo 18 (.fa 0 (.t 3)),oo 19 (.ld false 1 (.t 18)),oo 20 (.fa 1 (.t 1)),oo 21 (.ld false 1 (.t 20)),om 22 4,oo 23 (.ia 2 (.t 21) (.t 22)),oo 24 (.fa 0 (.t 23)),oo 25 (.ld false 1 (.t 24)),oo 26 (.fa 1 (.t 1)),oo 27 (.ld false 1 (.t 26)),om 28 4,oo 29 (.ia 2 (.t 27) (.t 28)),oo 30 (.fa 1 (.t 29)),oo 31 (.ld false 1 (.t 30)),oo 32 (.ia 1 (.t 19) (.t 25)),on (.st 1 (.t 32) (.t 31))] [.val [],.val [],.val [],.val [],.val [],.val [],.val [],.val [],.val [],.val [],.val [],.val [],.val [],.val [],.val [],.chn []]))
 (.reg [om 16 4,oo 17 (.bin .add (.t 16) (.c (.j 1))),om 4 17]))))))
 (.seq (.reg [oo 33 (.mv (.c (.nils))),oo 34 (.fa 1 (.t 3)),on (.st 1 (.t 34) (.t 33))])
 (.seq (.reg [oo 35 (.ld true 2 (.t 3)),on (.st 2 (.t 2) (.t 35))])
 .ret))))))
theorem k_spec_FlushDisk : FnOk Try.prog 143 36 rc_spec_FlushDisk [.cell 2 true 2]:=⟨Try.f143,_,[],Try.func143,rfl,rfl,by kernel_rfl,by kernel_rfl,follows⟩
theorem ok_spec_FlushDisk : okF Try.prog 143 = true:=by kernel_rfl
def rc_spec_FreeSegs : RC :=
 (.seq (.reg [oo 1 (.bx (.t 0)),oo 2 (.mv (.c (.nils)))])
 (.seq (.reg [oo 7 (.mv (.c (.nils))),om 3 7])
 (.seq (.seq (.reg [oo 4 (.mv (.c (.j 0)))])
 (.blk 0 (.loop (.seq (.seq (.reg [om 8 4,oo 9 (.fa 2 (.t 1)),oo 10 (.ld false 1 (.t 9)),oo 11 (.bin .lss (.t 8) (.t 10)),om 12 11,⟨(some 13),(some (12,true)),.mv (.t 4)⟩,⟨(some 14),(some (12,true)),.bin .lss (.t 13) (.c (.j 11))⟩,oo 15 (.pick (.t 12) (.t 14) (.c (.bool false)))])
 (.cond (.t 15) .skip
 (.exit 0)))
 (.seq (.blk 1 (.seq (.reg [oo 5 (.mv (.c (.bool false)))])
 (.seq (.seq (.reg [oo 6 (.mv (.c (.j 0)))])
 (.blk 2 (.loop (.seq (.seq (.reg [om 18 6,oo 19 (.fa 3 (.t 1)),oo 20 (.ld false 1 (.t 19)),oo 21 (.lenl (.t 20)),oo 22 (.bin .lss (.t 18) (.t 21))])
 (.cond (.t 22) .skip
 (.exit 2)))
 (.seq (.blk 3 (.reg [om 25 5,om 26 25,⟨(some 27),(some (26,false)),.fa 3 (.t 1)⟩,⟨(some 28),(some (26,false)),.ld false 1 (.t 27)⟩,⟨(some 29),(some (26,false)),.mv (.t 6)⟩,⟨(some 30),(some (26,false)),.ia 4 (.t 28) (.t 29)⟩,⟨(some 31),(some (26,false)),.fa 0 (.t 30)⟩,⟨(some 32),(some (26,false)),.ld false 1 (.t 31)⟩,⟨(some 33),(some (26,false)),.mv (.t 4)⟩,⟨(some 34),(some (26,false)),.bin .eql (.t 32) (.t 33)⟩,oo 35 (.pick (.t 26) (.c (.bool true)) (.t 34)),om 5 35]))
 (.reg [om 23 6,oo 24 (.bin .add (.t 23) (.c (.j 1))),om 6 24]))))))
 (.seq (.reg [om 36 5,oo 37 (.un .not (.t 36))])
 (.cond (.t 37) (.reg [om 38 3,om 39 4,oo 40 (.bs 1 [.j 0] 1 [(0,(.t 39))]),oo 41 (.app 1 8 (.t 38) (.t 40)),om 3 41])
 .skip)))))
 (.reg [om 16 4,oo 17 (.bin .add (.t 16) (.c (.j 1))),om 4 17]))))))
 (.seq (.reg [om 42 3,om 2 42])
 .ret))))
theorem k_spec_FreeSegs : FnOk Try.prog 159 43 rc_spec_FreeSegs [.t 2]:=⟨Try.f159,_,[],Try.func159,rfl,rfl,by kernel_rfl,by kernel_rfl,follows⟩
theorem ok_spec_FreeSegs : okF Try.prog 159 = true:=by kernel_rfl
def rc_spec_l09Open : RC :=
 (.seq (.reg [oo 4 (.mv (.c (.bool false)))])
 (.seq (.reg [om 10 0,oo 11 (.nc (.t 10)),oo 12 (.ld true 8 (.t 11)),oo 13 (.cl (.c (.fn 159 [])) [(.t 12)]),om 5 13])
 (.seq (.seq (.reg [om 14 1,oo 15 (.bin .lss (.t 14) (.c (.j 0))),om 16 15,⟨(some 17),(some (16,false)),.mv (.t 5)⟩,⟨(some 18),(some (16,false)),.lenl (.t 17)⟩,⟨(some 19),(some (16,false)),.mv (.t 1)⟩,⟨(some 20),(some (16,false)),.bin .leq (.t 18) (.t 19)⟩,oo 21 (.pick (.t 16) (.c (.bool true)) (.t 20))])
 (.cond (.t 21) (.seq (.reg [oo 4 (.mv (.c (.bool false)))])
 .ret)
 .skip))
 (.seq (.reg [om 23 0,oo 24 (.nc (.t 23)),oo 25 (.fa 4 (.t 24)),oo 26 (.ld false 1 (.t 25)),oo 27 (.bld [.j 0,.j 0,.str []] [(0,1),(1,1),(2,1)] [(0,(.t 26)),(1,(.c (.j 1))),(2,(.c (.str [115,101,103])))]),oo 28 (.cl (.c (.fn 141 [])) [(.t 27)]),om 22 28,oo 29 (.ext (.t 22) 0),oo 30 (.ext (.t 22) 1),om 6 29,om 7 30])
 (.seq (.drw [om 32 0,oo 33 (.nc (.t 32)),oo 34 (.fa 0 (.t 33)),oo 35 (.ld true 2 (.t 34)),om 36 5,oo 37 (.ia 1 (.t 36) (.c (.j 0))),oo 38 (.ld false 1 (.t 37)),om 39 6,oo 40 (.cl (.c (.fn 142 [])) [(.t 35),(.t 38),(.c (.j 0)),(.t 39)]),om 31 40,oo 41 (.ext (.t 31) 0),oo 42 (.ext (.t 31) 1),oo 8 (.al [.nils,.nils]),on (.st 2 (.t 8) (.t 41)),om 9 42] [.val [],.val [],.val [],.val [],.val [],.val [],.val [],.val [],.val [],.val [],.val [],.val [],.chn [0,1,2,3,4,5,6,7,8,9,10,11],.chn [11],.val []])
 (.seq (.seq (.reg [om 43 7,oo 44 (.un .not (.t 43)),om 45 44,⟨(some 46),(some (45,false)),.mv (.t 9)⟩,⟨(some 47),(some (45,false)),.un .not (.t 46)⟩,oo 48 (.pick (.t 45) (.c (.bool true)) (.t 47)),om 49 48,⟨(some 50),(some (49,false)),.mv (.t 0)⟩,⟨(some 51),(some (49,false)),.nc (.t 50)⟩,⟨(some 52),(some (49,false)),.fa 4 (.t 51)⟩,⟨(some 53),(some (49,false)),.ld false 1 (.t 52)⟩,⟨(some 54),(some (49,false)),.bin .geq (.t 53) (.c (.j 1000000000))⟩,oo 55 (.pick (.t 49) (.c (.bool true)) (.t 54))])
 (.cond (.t 55) (.seq (.reg [oo 4 (.mv (.c (.bool false)))])
 .ret)
 .skip))
 (.seq (.reg [om 56 0,oo 57 (.ld true 2 (.t 8)),oo 58 (.cl (.c (.fn 143 [])) [(.t 57)]),oo 59 (.nc (.t 56)),oo 60 (.fa 0 (.t 59)),on (.st 2 (.t 60) (.t 58))])
 (.seq (.drw [om 61 0,oo 62 (.mv (.c (.nils))),om 63 0,oo 64 (.nc (.t 63)),oo 65 (.fa 3 (.t 64)),oo 66 (.ld false 1 (.t 65)),oo 67 (.app 4 48 (.t 62) (.t 66)),om 68 5,oo 69 (.ia 1 (.t 68) (.c (.j 0))),oo 70 (.ld false 1 (.t 69)),om 71 0,oo 72 (.nc (.t 71)),oo 73 (.fa 4 (.t 72)),oo 74 (.ld false 1 (.t 73)),om 75 6,oo 76 (.lens (.t 75)),oo 77 (.bld [.j 0,.j 0,.j 0,.nils] [(0,1),(1,1),(2,1),(3,1)] [(0,(.t 70)),(1,(.t 74)),(2,(.t 76))]),oo 78 (.bs 4 [.j 0,.j 0,.j 0,.nils] 1 [(0,(.t 77))]),oo 79 (.app 4 48 (.t 67) (.t 78)),oo 80 (.nc (.t 61)),oo 81 (.fa 3 (.t 80)),on (.st 1 (.t 81) (.t 79))] [.val [],.val [],.val [],.val [],.val [],.val [],.chn [0],.val [6],.val [6],.val [6],.val [6],.val [6],.val [6],.val [6],.val [6],.val [6],.val [6],.val [6],.chn [0],.val [],.val [],.chn []])
 (.seq (.reg [om 82 0,oo 83 (.nc (.t 82)),oo 84 (.fa 4 (.t 83)),oo 85 (.ld false 1 (.t 84)),oo 86 (.bin .add (.t 85) (.c (.j 1))),oo 87 (.nc (.t 82)),oo 88 (.fa 4 (.t 87)),on (.st 1 (.t 88) (.t 86))])
 (.seq (.reg [oo 4 (.mv (.c (.bool true)))])
 .ret))))))))))
theorem k_spec_l09Open : FnOk Try.prog 135 89 rc_spec_l09Open [.t 4]:=⟨Try.f135,_,[(9,[2000017])],Try.func135,rfl,rfl,by kernel_rfl,by kernel_rfl,follows⟩
theorem ok_spec_l09Open : okF Try.prog 135 = true:=by kernel_rfl
def rc_spec_WriteCheck : RC :=
 (.seq (.reg [oo 2 (.bx (.t 0)),oo 3 (.bx (.t 1)),oo 4 (.al [.nils,.nils]),oo 5 (.mv (.c (.bool false)))])
 (.seq (.reg [oo 11 (.ld true 5 (.t 3)),oo 12 (.cl (.c (.fn 18 [])) [(.t 11)]),om 10 12,oo 13 (.ext (.t 10) 0),oo 14 (.ext (.t 10) 1),om 6 13,om 7 14])
 (.seq (.seq (.reg [om 15 7,oo 16 (.un .not (.t 15)),om 17 16,⟨(some 18),(some (17,false)),.ld true 2 (.t 2)⟩,⟨(some 19),(some (17,false)),.cl (.c (.fn 68 [])) [(.t 18)]⟩,⟨(some 20),(some (17,false)),.un .not (.t 19)⟩,oo 21 (.pick (.t 17) (.c (.bool true)) (.t 20))])
 (.cond (.t 21) (.seq (.reg [oo 22 (.ld true 2 (.t 2)),oo 23 (.cl (.c (.fn 66 [])) [(.t 22)]),on (.st 2 (.t 4) (.t 23)),oo 5 (.mv (.c (.bool false)))])
 .ret)
 .skip))
 (.seq (.reg [oo 25 (.ld true 2 (.t 2)),oo 26 (.fa 0 (.t 3)),oo 27 (.ld false 1 (.t 26)),oo 28 (.bin .rem (.t 27) (.c (.j 2))),oo 29 (.bin .mul (.c (.j 4)) (.t 28)),om 30 6,oo 31 (.cl (.c (.fn 19 [])) [(.t 25),(.t 29),(.c (.j 0)),(.t 30)]),om 24 31,oo 32 (.ext (.t 24) 0),oo 33 (.ext (.t 24) 1),oo 8 (.al [.nils,.nils]),on (.st 2 (.t 8) (.t 32)),om 9 33])
 (.seq (.seq (.reg [om 34 9,oo 35 (.un .not (.t 34))])
 (.cond (.t 35) (.seq (.reg [oo 36 (.ld true 2 (.t 2)),oo 37 (.cl (.c (.fn 66 [])) [(.t 36)]),on (.st 2 (.t 4) (.t 37)),oo 5 (.mv (.c (.bool false)))])
 .ret)
 .skip))
 (.seq (.reg [oo 38 (.ld true 2 (.t 8)),oo 39 (.cl (.c (.fn 143 [])) [(.t 38)]),on (.st 2 (.t 4) (.t 39)),oo 5 (.mv (.c (.bool true)))])
 .ret))))))
theorem k_spec_WriteCheck : FnOk Try.prog 136 40 rc_spec_WriteCheck [.cell 4 true 2,.t 5]:=⟨Try.f136,_,[],Try.func136,rfl,rfl,by kernel_rfl,by kernel_rfl,follows⟩
theorem ok_spec_WriteCheck : okF Try.prog 136 = true:=by kernel_rfl
def rc_spec_FormatDisk : RC :=
 (.seq (.reg [oo 2 (.al [.nils,.nils,.j 0,.nils,.j 0,.j 0,.j 0,.j 0]),oo 3 (.mv (.c (.bool false)))])
 (.seq (.seq (.reg [om 9 0,oo 10 (.cl (.c (.fn 67 [])) [(.t 9),(.c (.j 5)),(.c (.j 11))]),oo 11 (.un .not (.t 10))])
 (.cond (.t 11) (.seq (.reg [oo 12 (.bld [.nils,.nils,.j 0,.nils,.j 0,.j 0,.j 0,.j 0] [(0,2),(2,1),(3,1),(4,1),(5,1),(6,1),(7,1)] []),on (.st 8 (.t 2) (.t 12)),oo 3 (.mv (.c (.bool false)))])
 .ret)
 .skip))
 (.seq (.reg [om 14 0,oo 15 (.bin .mul (.t 14) (.c (.j 8))),oo 16 (.bin .add (.c (.j 8)) (.t 15)),oo 17 (.cl (.c (.fn 134 [])) [(.t 16)]),om 13 17,oo 18 (.ext (.t 13) 0),oo 19 (.ext (.t 13) 1),oo 4 (.al [.nils,.nils]),on (.st 2 (.t 4) (.t 18)),om 5 19])
 (.seq (.reg [oo 20 (.ld true 2 (.t 4)),om 21 0,oo 22 (.bld [.nils,.nils,.j 0,.nils,.j 0,.j 0,.j 0,.j 0] [(0,2),(2,1),(3,1),(4,1),(5,1),(6,1),(7,1)] [(0,(.t 20)),(1,(.t 21)),(3,(.c (.j 1))),(4,(.c (.j 1))),(6,(.c (.j 1)))]),oo 6 (.al [.nils,.nils,.j 0,.nils,.j 0,.j 0,.j 0,.j 0]),on (.st 8 (.t 6) (.t 22))])
 (.seq (.seq (.reg [oo 23 (.cl (.c (.fn 135 [])) [(.t 6),(.c (.j 0))]),oo 24 (.un .not (.t 23))])
 (.cond (.t 24) (.seq (.reg [oo 25 (.bld [.nils,.nils,.j 0,.nils,.j 0,.j 0,.j 0,.j 0] [(0,2),(2,1),(3,1),(4,1),(5,1),(6,1),(7,1)] []),on (.st 8 (.t 2) (.t 25)),oo 3 (.mv (.c (.bool false)))])
 .ret)
 .skip))
 (.seq (.drw [oo 27 (.fa 0 (.t 6)),oo 28 (.ld true 2 (.t 27)),oo 29 (.ld true 8 (.t 6)),oo 30 (.cl (.c (.fn 17 [])) [(.t 29)]),oo 31 (.cl (.c (.fn 136 [])) [(.t 28),(.t 30)]),om 26 31,oo 32 (.ext (.t 26) 0),oo 33 (.ext (.t 26) 1),oo 7 (.al [.nils,.nils]),on (.st 2 (.t 7) (.t 32)),om 8 33] [.val [],.val [],.val [],.val [],.chn [],.val [],.val [],.val [],.flt 0,.chn [7],.val []])
 (.seq (.seq (.reg [om 34 8,oo 35 (.un .not (.t 34))])
 (.cond (.t 35) (.seq (.reg [oo 36 (.bld [.nils,.nils,.j 0,.nils,.j 0,.j 0,.j 0,.j 0] [(0,2),(2,1),(3,1),(4,1),(5,1),(6,1),(7,1)] []),on (.st 8 (.t 2) (.t 36)),oo 3 (.mv (.c (.bool false)))])
 .ret)
 .skip))
 (.seq (.reg [oo 37 (.ld true 2 (.t 7)),oo 38 (.fa 0 (.t 6)),on (.st 2 (.t 38) (.t 37))])
 (.seq (.reg [oo 39 (.fa 6 (.t 6)),on (.st 1 (.t 39) (.c (.j 1)))])
 (.seq (.reg [oo 40 (.ld true 8 (.t 6)),on (.st 8 (.t 2) (.t 40)),oo 3 (.mv (.c (.bool true)))])
 .ret))))))))))
theorem k_spec_FormatDisk : FnOk Try.prog 94 41 rc_spec_FormatDisk [.cell 2 true 8,.t 3]:=⟨Try.f94,_,[(7,[4,1000008])],Try.func94,rfl,rfl,by kernel_rfl,by kernel_rfl,follows⟩
theorem ok_spec_FormatDisk : okF Try.prog 94 = true:=by kernel_rfl
def rc_spec_l01PickInt : RC :=
 (.seq (.reg [oo 4 (.mv (.c (.j 0)))])
 (.seq (.reg [om 5 1,om 6 0,om 7 1,oo 8 (.lenl (.t 7)),oo 9 (.cl (.c (.fn 72 [])) [(.t 6),(.t 8)]),oo 10 (.ia 1 (.t 5) (.t 9)),oo 11 (.ld false 1 (.t 10)),om 4 11])
 .ret))
theorem k_spec_l01PickInt : FnOk Try.prog 125 12 rc_spec_l01PickInt [.t 4]:=⟨Try.f125,_,[],Try.func125,rfl,rfl,by kernel_rfl,by kernel_rfl,follows⟩
theorem ok_spec_l01PickInt : okF Try.prog 125 = true:=by kernel_rfl
def rc_spec_l01Pick : RC :=
 (.seq (.reg [oo 4 (.mv (.c (.str [])))])
 (.seq (.reg [om 5 1,om 6 0,om 7 1,oo 8 (.lenl (.t 7)),oo 9 (.cl (.c (.fn 72 [])) [(.t 6),(.t 8)]),oo 10 (.ia 1 (.t 5) (.t 9)),oo 11 (.ld false 1 (.t 10)),om 4 11])
 .ret))
theorem k_spec_l01Pick : FnOk Try.prog 137 12 rc_spec_l01Pick [.t 4]:=⟨Try.f137,_,[],Try.func137,rfl,rfl,by kernel_rfl,by kernel_rfl,follows⟩
theorem ok_spec_l01Pick : okF Try.prog 137 = true:=by kernel_rfl
def rc_spec_l06Text : RC :=
 (.seq (.reg [oo 2 (.mv (.c (.str [])))])
 (.seq (.reg [om 3 0,oo 4 (.bs 1 [.str []] 5 [(0,(.c (.str [104,101,108,108,111]))),(1,(.c (.str [102,114,111,109,58,32,97,110,110,10,10,104,105]))),(2,(.c (.str [115,117,98,106,101,99,116,58,32,120,10,10,98,111,100,121,32,111,102,32,105,116,10,46,100,111,116,10]))),(3,(.c (.str []))),(4,(.c (.str [120,10,46,46,10])))]),oo 5 (.cl (.c (.fn 137 [])) [(.t 3),(.t 4)]),om 2 5])
 .ret))
theorem k_spec_l06Text : FnOk Try.prog 138 6 rc_spec_l06Text [.t 2]:=⟨Try.f138,_,[],Try.func138,rfl,rfl,by kernel_rfl,by kernel_rfl,follows⟩
theorem ok_spec_l06Text : okF Try.prog 138 = true:=by kernel_rfl
def rc_spec_l06Rec : RC :=
 (.seq (.reg [oo 2 (.al [.j 0,.j 0,.j 0,.j 0,.j 0,.str [],.str [],.str []])])
 (.seq (.reg [om 4 0,oo 5 (.bs 1 [.j 0] 11 [(0,(.c (.j 1))),(1,(.c (.j 1))),(2,(.c (.j 2))),(3,(.c (.j 3))),(4,(.c (.j 3))),(5,(.c (.j 3))),(6,(.c (.j 3))),(7,(.c (.j 4))),(8,(.c (.j 4))),(9,(.c (.j 5))),(10,(.c (.j 5)))]),oo 6 (.cl (.c (.fn 125 [])) [(.t 4),(.t 5)]),om 7 0,oo 8 (.cl (.c (.fn 72 [])) [(.t 7),(.c (.j 3))]),oo 9 (.bin .add (.c (.j 1)) (.t 8)),oo 10 (.bld [.j 0,.j 0,.j 0,.j 0,.j 0,.str [],.str [],.str []] [(0,1),(1,1),(2,1),(3,1),(4,1),(5,1),(6,1),(7,1)] [(0,(.t 6)),(1,(.t 9))]),oo 3 (.al [.j 0,.j 0,.j 0,.j 0,.j 0,.str [],.str [],.str []]),on (.st 8 (.t 3) (.t 10))])
 (.seq (.seq (.reg [oo 11 (.fa 0 (.t 3)),oo 12 (.ld false 1 (.t 11))])
 (.blk 0 (.seq (.reg [oo 14 (.bin .eql (.t 12) (.c (.j 1))),om 13 14])
 (.cond (.t 13) (.seq (.reg [om 15 0,oo 16 (.bs 1 [.str []] 2 [(0,(.c (.str [97,110,110]))),(1,(.c (.str [98,111,98])))]),oo 17 (.cl (.c (.fn 137 [])) [(.t 15),(.t 16)]),oo 18 (.fa 5 (.t 3)),on (.st 1 (.t 18) (.t 17))])
 (.seq (.reg [om 19 0,oo 20 (.bs 1 [.str []] 2 [(0,(.c (.str [105,110,98,111,120]))),(1,(.c (.str [119,111,114,107])))]),oo 21 (.cl (.c (.fn 137 [])) [(.t 19),(.t 20)]),oo 22 (.fa 6 (.t 3)),on (.st 1 (.t 22) (.t 21))])
 (.reg [om 23 0,oo 24 (.cl (.c (.fn 72 [])) [(.t 23),(.c (.j 6))]),oo 25 (.bin .add (.c (.j 1)) (.t 24)),oo 26 (.fa 3 (.t 3)),on (.st 1 (.t 26) (.t 25))])))
 (.seq (.reg [oo 28 (.bin .eql (.t 12) (.c (.j 3))),om 27 28])
 (.cond (.t 27) (.seq (.reg [om 29 0,oo 30 (.cl (.c (.fn 72 [])) [(.t 29),(.c (.j 5))]),oo 31 (.bin .add (.c (.j 1)) (.t 30)),oo 32 (.fa 2 (.t 3)),on (.st 1 (.t 32) (.t 31))])
 (.seq (.reg [om 33 0,oo 34 (.cl (.c (.fn 72 [])) [(.t 33),(.c (.j 8))]),oo 35 (.fa 4 (.t 3)),on (.st 1 (.t 35) (.t 34))])
 (.reg [om 36 0,oo 37 (.cl (.c (.fn 138 [])) [(.t 36)]),oo 38 (.fa 7 (.t 3)),on (.st 1 (.t 38) (.t 37))])))
 (.seq (.reg [oo 40 (.bin .eql (.t 12) (.c (.j 4))),om 39 40])
 (.cond (.t 39) (.seq (.reg [om 41 0,oo 42 (.cl (.c (.fn 72 [])) [(.t 41),(.c (.j 5))]),oo 43 (.bin .add (.c (.j 1)) (.t 42)),oo 44 (.fa 2 (.t 3)),on (.st 1 (.t 44) (.t 43))])
 (.reg [om 45 0,oo 46 (.cl (.c (.fn 72 [])) [(.t 45),(.c (.j 8))]),oo 47 (.fa 4 (.t 3)),on (.st 1 (.t 47) (.t 46))]))
 (.seq (.reg [oo 49 (.bin .eql (.t 12) (.c (.j 5))),om 48 49])
 (.cond (.t 48) (.reg [om 50 0,oo 51 (.cl (.c (.fn 72 [])) [(.t 50),(.c (.j 5))]),oo 52 (.bin .add (.c (.j 1)) (.t 51)),oo 53 (.fa 2 (.t 3)),on (.st 1 (.t 53) (.t 52))])
 .skip))))))))))
 (.seq (.reg [oo 54 (.ld true 8 (.t 3)),on (.st 8 (.t 2) (.t 54))])
 .ret))))
theorem k_spec_l06Rec : FnOk Try.prog 95 55 rc_spec_l06Rec [.cell 2 true 8]:=⟨Try.f95,_,[],Try.func95,rfl,rfl,by kernel_rfl,by kernel_rfl,follows⟩
theorem ok_spec_l06Rec : okF Try.prog 95 = true:=by kernel_rfl
def rc_spec_ItemsOf : RC :=
 (.seq (.reg [oo 1 (.bx (.t 0)),oo 2 (.mv (.c (.nils)))])
 (.seq (.reg [oo 5 (.mv (.c (.nils))),om 3 5])
 (.seq (.seq (.reg [oo 4 (.mv (.c (.j 0)))])
 (.blk 0 (.loop (.seq (.seq (.reg [om 6 4,oo 7 (.fa 3 (.t 1)),oo 8 (.ld false 1 (.t 7)),oo 9 (.lenl (.t 8)),oo 10 (.bin .lss (.t 6) (.t 9))])
 (.cond (.t 10) .skip
 (.exit 0)))
 (.seq (.blk 1 (.reg [om 13 3,oo 14 (.fa 3 (.t 1)),oo 15 (.ld false 1 (.t 14)),om 16 4,oo 17 (.ia 4 (.t 15) (.t 16)),oo 18 (.fa 3 (.t 17)),oo 19 (.ld false 1 (.t 18)),oo 20 (.app 9 96 (.t 13) (.t 19)),om 3 20]))
 (.reg [om 11 4,oo 12 (.bin .add (.t 11) (.c (.j 1))),om 4 12]))))))
 (.seq (.reg [om 21 3,om 2 21])
 .ret))))
theorem k_spec_ItemsOf : FnOk Try.prog 139 22 rc_spec_ItemsOf [.t 2]:=⟨Try.f139,_,[],Try.func139,rfl,rfl,by kernel_rfl,by kernel_rfl,follows⟩
theorem ok_spec_ItemsOf : okF Try.prog 139 = true:=by kernel_rfl
def rc_spec_l09Fits : RC :=
 (.seq (.reg [oo 2 (.bx (.t 0)),oo 3 (.bx (.t 1)),oo 4 (.mv (.c (.bool false)))])
 (.seq (.reg [oo 7 (.ld true 8 (.t 2)),oo 8 (.cl (.c (.fn 139 [])) [(.t 7)]),om 5 8])
 (.seq (.seq (.reg [oo 6 (.mv (.c (.j 0)))])
 (.blk 0 (.loop (.seq (.seq (.reg [om 9 6,om 10 5,oo 11 (.lenl (.t 10)),oo 12 (.bin .lss (.t 9) (.t 11))])
 (.cond (.t 12) .skip
 (.exit 0)))
 (.seq (.blk 1 (.seq (.drw [om 15 5,om 16 6,oo 17 (.ia 9 (.t 15) (.t 16)),oo 18 (.fa 0 (.t 17)),oo 19 (.ld false 1 (.t 18)),oo 20 (.fa 0 (.t 3)),oo 21 (.ld false 1 (.t 20)),oo 22 (.bin .eql (.t 19) (.t 21)),om 23 22,⟨(some 24),(some (23,true)),.mv (.t 5)⟩,⟨(some 25),(some (23,true)),.mv (.t 6)⟩,⟨(some 26),(some (23,true)),.ia 9 (.t 24) (.t 25)⟩,⟨(some 27),(some (23,true)),.ld true 9 (.t 26)⟩,⟨(some 28),(some (23,true)),.ld true 9 (.t 3)⟩,⟨(some 29),(some (23,true)),.equ true [(0,1),(1,1),(2,1),(3,1),(4,1),(5,1),(6,2),(7,2),(8,2)] (.t 27) (.t 28)⟩,oo 30 (.pick (.t 23) (.t 29) (.c (.bool false)))] [.val [],.val [],.val [],.val [],.val [],.val [],.val [],.val [],.val [],.val [],.val [],.val [],.val [],.val [],.val [],.val []])
 (.cond (.t 30) (.seq (.reg [oo 4 (.mv (.c (.bool false)))])
 .ret)
 .skip)))
 (.reg [om 13 6,oo 14 (.bin .add (.t 13) (.c (.j 1))),om 6 14]))))))
 (.seq (.reg [om 31 5,oo 32 (.lenl (.t 31)),oo 33 (.bin .lss (.t 32) (.c (.j 200))),om 4 33])
 .ret))))
theorem k_spec_l09Fits : FnOk Try.prog 96 34 rc_spec_l09Fits [.t 4]:=⟨Try.f96,_,[],Try.func96,rfl,rfl,by kernel_rfl,by kernel_rfl,follows⟩
theorem ok_spec_l09Fits : okF Try.prog 96 = true:=by kernel_rfl
def rc_spec_WordOk : RC :=
 (.seq (.reg [oo 2 (.mv (.c (.bool false)))])
 (.seq (.seq (.reg [oo 3 (.mv (.c (.j 0)))])
 (.blk 0 (.loop (.seq (.seq (.reg [om 4 3,om 5 0,oo 6 (.lens (.t 5)),oo 7 (.bin .lss (.t 4) (.t 6))])
 (.cond (.t 7) .skip
 (.exit 0)))
 (.seq (.blk 1 (.seq (.reg [om 10 0,om 11 3,oo 12 (.idx (.t 10) (.t 11)),oo 13 (.bin .lss (.t 12) (.c (.int .u8 97))),om 14 13,⟨(some 15),(some (14,false)),.mv (.t 0)⟩,⟨(some 16),(some (14,false)),.mv (.t 3)⟩,⟨(some 17),(some (14,false)),.idx (.t 15) (.t 16)⟩,⟨(some 18),(some (14,false)),.bin .gtr (.t 17) (.c (.int .u8 122))⟩,oo 19 (.pick (.t 14) (.c (.bool true)) (.t 18))])
 (.cond (.t 19) (.seq (.reg [oo 2 (.mv (.c (.bool false)))])
 .ret)
 .skip)))
 (.reg [om 8 3,oo 9 (.bin .add (.t 8) (.c (.j 1))),om 3 9]))))))
 (.seq (.reg [om 20 0,oo 21 (.lens (.t 20)),oo 22 (.cl (.c (.fn 67 [])) [(.t 21),(.c (.j 1)),(.c (.j 8))]),om 2 22])
 .ret)))
theorem k_spec_WordOk : FnOk Try.prog 124 23 rc_spec_WordOk [.t 2]:=⟨Try.f124,_,[],Try.func124,rfl,rfl,by kernel_rfl,by kernel_rfl,follows⟩
theorem ok_spec_WordOk : okF Try.prog 124 = true:=by kernel_rfl
def rc_spec_RecOk : RC :=
 (.seq (.reg [oo 1 (.bx (.t 0)),oo 2 (.mv (.c (.bool false)))])
 (.seq (.seq (.reg [oo 6 (.fa 0 (.t 1)),oo 7 (.ld false 1 (.t 6)),oo 8 (.cl (.c (.fn 67 [])) [(.t 7),(.c (.j 1)),(.c (.j 5))]),oo 9 (.un .not (.t 8)),om 10 9,⟨(some 11),(some (10,false)),.fa 1 (.t 1)⟩,⟨(some 12),(some (10,false)),.ld false 1 (.t 11)⟩,⟨(some 13),(some (10,false)),.cl (.c (.fn 67 [])) [(.t 12),(.c (.j 1)),(.c (.j 9999))]⟩,⟨(some 14),(some (10,false)),.un .not (.t 13)⟩,oo 15 (.pick (.t 10) (.c (.bool true)) (.t 14))])
 (.cond (.t 15) (.seq (.reg [oo 2 (.mv (.c (.bool false)))])
 .ret)
 .skip))
 (.seq (.reg [oo 16 (.fa 0 (.t 1)),oo 17 (.ld false 1 (.t 16)),oo 18 (.bin .eql (.t 17) (.c (.j 1))),om 3 18])
 (.seq (.reg [oo 19 (.fa 0 (.t 1)),oo 20 (.ld false 1 (.t 19)),oo 21 (.bin .eql (.t 20) (.c (.j 3))),om 22 21,⟨(some 23),(some (22,false)),.fa 0 (.t 1)⟩,⟨(some 24),(some (22,false)),.ld false 1 (.t 23)⟩,⟨(some 25),(some (22,false)),.bin .eql (.t 24) (.c (.j 4))⟩,oo 26 (.pick (.t 22) (.c (.bool true)) (.t 25)),om 27 26,⟨(some 28),(some (27,false)),.fa 0 (.t 1)⟩,⟨(some 29),(some (27,false)),.ld false 1 (.t 28)⟩,⟨(some 30),(some (27,false)),.bin .eql (.t 29) (.c (.j 5))⟩,oo 31 (.pick (.t 27) (.c (.bool true)) (.t 30)),om 4 31])
 (.seq (.reg [oo 32 (.fa 0 (.t 1)),oo 33 (.ld false 1 (.t 32)),oo 34 (.bin .eql (.t 33) (.c (.j 3))),om 35 34,⟨(some 36),(some (35,false)),.fa 0 (.t 1)⟩,⟨(some 37),(some (35,false)),.ld false 1 (.t 36)⟩,⟨(some 38),(some (35,false)),.bin .eql (.t 37) (.c (.j 4))⟩,oo 39 (.pick (.t 35) (.c (.bool true)) (.t 38)),om 5 39])
 (.seq (.seq (.reg [om 40 3,om 41 40,⟨(some 42),(some (41,true)),.fa 5 (.t 1)⟩,⟨(some 43),(some (41,true)),.ld false 1 (.t 42)⟩,⟨(some 44),(some (41,true)),.cl (.c (.fn 124 [])) [(.t 43)]⟩,⟨(some 45),(some (41,true)),.un .not (.t 44)⟩,⟨(some 46),(some (41,true)),.mv (.t 45)⟩,⟨(some 47),(some (46,false)),.fa 6 (.t 1)⟩,⟨(some 48),(some (46,false)),.ld false 1 (.t 47)⟩,⟨(some 49),(some (46,false)),.cl (.c (.fn 124 [])) [(.t 48)]⟩,⟨(some 50),(some (46,false)),.un .not (.t 49)⟩,⟨(some 51),(some (41,true)),.pick (.t 46) (.c (.bool true)) (.t 50)⟩,⟨(some 52),(some (41,true)),.mv (.t 51)⟩,⟨(some 53),(some (52,false)),.fa 3 (.t 1)⟩,⟨(some 54),(some (52,false)),.ld false 1 (.t 53)⟩,⟨(some 55),(some (52,false)),.cl (.c (.fn 67 [])) [(.t 54),(.c (.j 1)),(.c (.j 10000))]⟩,⟨(some 56),(some (52,false)),.un .not (.t 55)⟩,⟨(some 57),(some (41,true)),.pick (.t 52) (.c (.bool true)) (.t 56)⟩,oo 58 (.pick (.t 41) (.t 57) (.c (.bool false))),om 59 58,⟨(some 60),(some (59,false)),.mv (.t 3)⟩,⟨(some 61),(some (59,false)),.un .not (.t 60)⟩,⟨(some 62),(some (59,false)),.mv (.t 61)⟩,⟨(some 63),(some (62,true)),.fa 5 (.t 1)⟩,⟨(some 64),(some (62,true)),.ld false 1 (.t 63)⟩,⟨(some 65),(some (62,true)),.bin .neq (.t 64) (.c (.str []))⟩,⟨(some 66),(some (62,true)),.mv (.t 65)⟩,⟨(some 67),(some (66,false)),.fa 6 (.t 1)⟩,⟨(some 68),(some (66,false)),.ld false 1 (.t 67)⟩,⟨(some 69),(some (66,false)),.bin .neq (.t 68) (.c (.str []))⟩,⟨(some 70),(some (62,true)),.pick (.t 66) (.c (.bool true)) (.t 69)⟩,⟨(some 71),(some (62,true)),.mv (.t 70)⟩,⟨(some 72),(some (71,false)),.fa 3 (.t 1)⟩,⟨(some 73),(some (71,false)),.ld false 1 (.t 72)⟩,⟨(some 74),(some (71,false)),.bin .neq (.t 73) (.c (.j 0))⟩,⟨(some 75),(some (62,true)),.pick (.t 71) (.c (.bool true)) (.t 74)⟩,⟨(some 76),(some (59,false)),.pick (.t 62) (.t 75) (.c (.bool false))⟩,oo 77 (.pick (.t 59) (.c (.bool true)) (.t 76))])
 (.cond (.t 77) (.seq (.reg [oo 2 (.mv (.c (.bool false)))])
 .ret)
 .skip))
 (.seq (.seq (.reg [om 78 4,om 79 78,⟨(some 80),(some (79,true)),.fa 2 (.t 1)⟩,⟨(some 81),(some (79,true)),.ld false 1 (.t 80)⟩,⟨(some 82),(some (79,true)),.cl (.c (.fn 67 [])) [(.t 81),(.c (.j 1)),(.c (.j 9999))]⟩,⟨(some 83),(some (79,true)),.un .not (.t 82)⟩,oo 84 (.pick (.t 79) (.t 83) (.c (.bool false))),om 85 84,⟨(some 86),(some (85,false)),.mv (.t 4)⟩,⟨(some 87),(some (85,false)),.un .not (.t 86)⟩,⟨(some 88),(some (85,false)),.mv (.t 87)⟩,⟨(some 89),(some (88,true)),.fa 2 (.t 1)⟩,⟨(some 90),(some (88,true)),.ld false 1 (.t 89)⟩,⟨(some 91),(some (88,true)),.bin .neq (.t 90) (.c (.j 0))⟩,⟨(some 92),(some (85,false)),.pick (.t 88) (.t 91) (.c (.bool false))⟩,oo 93 (.pick (.t 85) (.c (.bool true)) (.t 92))])
 (.cond (.t 93) (.seq (.reg [oo 2 (.mv (.c (.bool false)))])
 .ret)
 .skip))
 (.seq (.seq (.reg [om 94 5,om 95 94,⟨(some 96),(some (95,true)),.fa 4 (.t 1)⟩,⟨(some 97),(some (95,true)),.ld false 1 (.t 96)⟩,⟨(some 98),(some (95,true)),.cl (.c (.fn 67 [])) [(.t 97),(.c (.j 0)),(.c (.j 7))]⟩,⟨(some 99),(some (95,true)),.un .not (.t 98)⟩,oo 100 (.pick (.t 95) (.t 99) (.c (.bool false))),om 101 100,⟨(some 102),(some (101,false)),.mv (.t 5)⟩,⟨(some 103),(some (101,false)),.un .not (.t 102)⟩,⟨(some 104),(some (101,false)),.mv (.t 103)⟩,⟨(some 105),(some (104,true)),.fa 4 (.t 1)⟩,⟨(some 106),(some (104,true)),.ld false 1 (.t 105)⟩,⟨(some 107),(some (104,true)),.bin .neq (.t 106) (.c (.j 0))⟩,⟨(some 108),(some (101,false)),.pick (.t 104) (.t 107) (.c (.bool false))⟩,oo 109 (.pick (.t 101) (.c (.bool true)) (.t 108))])
 (.cond (.t 109) (.seq (.reg [oo 2 (.mv (.c (.bool false)))])
 .ret)
 .skip))
 (.seq (.seq (.reg [oo 110 (.fa 0 (.t 1)),oo 111 (.ld false 1 (.t 110)),oo 112 (.bin .eql (.t 111) (.c (.j 3)))])
 (.cond (.t 112) (.seq (.reg [oo 113 (.fa 7 (.t 1)),oo 114 (.ld false 1 (.t 113)),oo 115 (.lens (.t 114)),oo 116 (.bin .leq (.t 115) (.c (.j 100))),om 2 116])
 .ret)
 .skip))
 (.seq (.reg [oo 117 (.fa 7 (.t 1)),oo 118 (.ld false 1 (.t 117)),oo 119 (.bin .eql (.t 118) (.c (.str []))),om 2 119])
 .ret))))))))))
theorem k_spec_RecOk : FnOk Try.prog 86 120 rc_spec_RecOk [.t 2]:=⟨Try.f86,_,[],Try.func86,rfl,rfl,by kernel_rfl,by kernel_rfl,follows⟩
theorem ok_spec_RecOk : okF Try.prog 86 = true:=by kernel_rfl
def rc_spec_RecText : RC :=
 (.seq (.reg [oo 1 (.bx (.t 0)),oo 2 (.mv (.c (.str []))),oo 3 (.mv (.c (.bool false)))])
 (.seq (.seq (.reg [oo 4 (.ld true 8 (.t 1)),oo 5 (.cl (.c (.fn 86 [])) [(.t 4)]),oo 6 (.un .not (.t 5))])
 (.cond (.t 6) (.seq (.reg [oo 2 (.mv (.c (.str []))),oo 3 (.mv (.c (.bool false)))])
 .ret)
 .skip))
 (.seq (.drw [oo 7 (.fa 0 (.t 1)),oo 8 (.ld false 1 (.t 7)),oo 9 (.cvi .u8 (.t 8)),oo 10 (.bs 1 [.int .u8 0] 1 [(0,(.t 9))]),oo 11 (.cvb (.t 10)),oo 12 (.fa 1 (.t 1)),oo 13 (.ld false 1 (.t 12)),oo 14 (.cl (.c (.fn 63 [])) [(.t 13)]),oo 15 (.bin .add (.t 11) (.t 14)),oo 16 (.fa 2 (.t 1)),oo 17 (.ld false 1 (.t 16)),oo 18 (.cl (.c (.fn 63 [])) [(.t 17)]),oo 19 (.bin .add (.t 15) (.t 18)),oo 20 (.fa 3 (.t 1)),oo 21 (.ld false 1 (.t 20)),oo 22 (.cl (.c (.fn 63 [])) [(.t 21)]),oo 23 (.bin .add (.t 19) (.t 22)),oo 24 (.fa 4 (.t 1)),oo 25 (.ld false 1 (.t 24)),oo 26 (.cl (.c (.fn 63 [])) [(.t 25)]),oo 27 (.bin .add (.t 23) (.t 26)),oo 28 (.fa 5 (.t 1)),oo 29 (.ld false 1 (.t 28)),oo 30 (.cl (.c (.fn 65 [])) [(.t 29)]),oo 31 (.bin .add (.t 27) (.t 30)),oo 32 (.fa 6 (.t 1)),oo 33 (.ld false 1 (.t 32)),oo 34 (.cl (.c (.fn 65 [])) [(.t 33)]),oo 35 (.bin .add (.t 31) (.t 34)),oo 36 (.fa 7 (.t 1)),oo 37 (.ld false 1 (.t 36)),oo 38 (.cl (.c (.fn 65 [])) [(.t 37)]),oo 39 (.bin .add (.t 35) (.t 38)),om 2 39,oo 3 (.mv (.c (.bool true)))] [.val [],.val [],.val [],.chn [],.val [],.val [3],.val [3],.val [3],.val [],.val [3],.val [3],.val [3],.val [],.val [3],.val [3],.val [3],.val [],.val [3],.val [3],.val [3],.val [],.val [3],.val [3],.val [3],.val [],.val [3],.val [3],.val [3],.val [],.val [3],.val [3],.val [3],.val [],.val [],.val []])
 .ret)))
theorem k_spec_RecText : FnOk Try.prog 160 40 rc_spec_RecText [.t 2,.t 3]:=⟨Try.f160,_,[],Try.func160,rfl,rfl,by kernel_rfl,by kernel_rfl,follows⟩
theorem ok_spec_RecText : okF Try.prog 160 = true:=by kernel_rfl
def rc_spec_ItemFrame : RC :=
 (.seq (.reg [oo 2 (.bx (.t 0)),oo 4 (.al [.j 0,.j 0,.str []]),oo 5 (.mv (.c (.bool false)))])
 (.seq (.reg [oo 10 (.fa 1 (.t 2)),oo 11 (.ld true 8 (.t 10)),oo 12 (.cl (.c (.fn 160 [])) [(.t 11)]),om 9 12,oo 13 (.ext (.t 9) 0),oo 14 (.ext (.t 9) 1),om 6 13,om 7 14])
 (.seq (.reg [om 15 1,oo 16 (.fa 0 (.t 2)),oo 17 (.ld false 1 (.t 16)),om 18 6,oo 19 (.bld [.j 0,.j 0,.str []] [(0,1),(1,1),(2,1)] [(0,(.t 15)),(1,(.t 17)),(2,(.t 18))]),oo 8 (.al [.j 0,.j 0,.str []]),on (.st 3 (.t 8) (.t 19))])
 (.seq (.seq (.reg [om 20 7,oo 21 (.un .not (.t 20)),om 22 21,⟨(some 23),(some (22,false)),.ld true 3 (.t 8)⟩,⟨(some 24),(some (22,false)),.cl (.c (.fn 161 [])) [(.t 23)]⟩,⟨(some 25),(some (22,false)),.un .not (.t 24)⟩,oo 26 (.pick (.t 22) (.c (.bool true)) (.t 25))])
 (.cond (.t 26) (.seq (.reg [oo 27 (.bld [.j 0,.j 0,.str []] [(0,1),(1,1),(2,1)] []),on (.st 3 (.t 4) (.t 27)),oo 5 (.mv (.c (.bool false)))])
 .ret)
 .skip))
 (.seq (.reg [oo 28 (.ld true 3 (.t 8)),on (.st 3 (.t 4) (.t 28)),oo 5 (.mv (.c (.bool true)))])
 .ret)))))
theorem k_spec_ItemFrame : FnOk Try.prog 140 29 rc_spec_ItemFrame [.cell 4 true 3,.t 5]:=⟨Try.f140,_,[],Try.func140,rfl,rfl,by kernel_rfl,by kernel_rfl,follows⟩
theorem ok_spec_ItemFrame : okF Try.prog 140 = true:=by kernel_rfl
def rc_spec_l09Append : RC :=
 (.seq (.reg [oo 4 (.bx (.t 1)),oo 6 (.mv (.c (.bool false)))])
 (.seq (.drw [om 14 0,oo 15 (.nc (.t 14)),oo 16 (.fa 3 (.t 15)),oo 17 (.ld false 1 (.t 16)),om 18 0,oo 19 (.nc (.t 18)),oo 20 (.fa 3 (.t 19)),oo 21 (.ld false 1 (.t 20)),oo 22 (.lenl (.t 21)),oo 23 (.bin .sub (.t 22) (.c (.j 1))),oo 24 (.ia 4 (.t 17) (.t 23)),oo 25 (.ld true 4 (.t 24)),oo 7 (.al [.j 0,.j 0,.j 0,.nils]),on (.st 4 (.t 7) (.t 25))] [.val [],.val [],.val [],.val [],.val [],.val [],.val [],.val [],.val [],.val [],.val [],.val [],.chn [0,1,2,3,4,5,6,7,8,9,10,11],.chn []])
 (.seq (.reg [oo 27 (.ld true 9 (.t 4)),oo 28 (.fa 1 (.t 7)),oo 29 (.ld false 1 (.t 28)),oo 30 (.cl (.c (.fn 140 [])) [(.t 27),(.t 29)]),om 26 30,oo 31 (.ext (.t 26) 0),oo 32 (.ext (.t 26) 1),oo 8 (.al [.j 0,.j 0,.str []]),on (.st 3 (.t 8) (.t 31)),om 9 32])
 (.seq (.reg [oo 34 (.ld true 3 (.t 8)),oo 35 (.cl (.c (.fn 141 [])) [(.t 34)]),om 33 35,oo 36 (.ext (.t 33) 0),oo 37 (.ext (.t 33) 1),om 10 36,om 11 37])
 (.seq (.seq (.reg [om 38 9,oo 39 (.un .not (.t 38)),om 40 39,⟨(some 41),(some (40,false)),.mv (.t 11)⟩,⟨(some 42),(some (40,false)),.un .not (.t 41)⟩,oo 43 (.pick (.t 40) (.c (.bool true)) (.t 42)),om 44 43,⟨(some 45),(some (44,false)),.fa 0 (.t 4)⟩,⟨(some 46),(some (44,false)),.ld false 1 (.t 45)⟩,⟨(some 47),(some (44,false)),.bin .geq (.t 46) (.c (.j 1000000000))⟩,oo 48 (.pick (.t 44) (.c (.bool true)) (.t 47))])
 (.cond (.t 48) (.seq (.reg [oo 6 (.mv (.c (.bool false)))])
 .ret)
 .skip))
 (.seq (.seq (.reg [oo 49 (.fa 2 (.t 7)),oo 50 (.ld false 1 (.t 49)),om 51 10,oo 52 (.lens (.t 51)),oo 53 (.bin .add (.t 50) (.t 52)),oo 54 (.bin .gtr (.t 53) (.c (.j 256)))])
 (.cond (.t 54) (.seq (.seq (.reg [om 55 0,om 56 2,oo 57 (.cl (.c (.fn 135 [])) [(.t 55),(.t 56)]),oo 58 (.un .not (.t 57))])
 (.cond (.t 58) (.seq (.reg [oo 6 (.mv (.c (.bool false)))])
 .ret)
 .skip))
 (.seq (.drw [om 59 0,oo 60 (.nc (.t 59)),oo 61 (.fa 3 (.t 60)),oo 62 (.ld false 1 (.t 61)),om 63 0,oo 64 (.nc (.t 63)),oo 65 (.fa 3 (.t 64)),oo 66 (.ld false 1 (.t 65)),oo 67 (.lenl (.t 66)),oo 68 (.bin .sub (.t 67) (.c (.j 1))),oo 69 (.ia 4 (.t 62) (.t 68)),oo 70 (.ld true 4 (.t 69)),on (.st 4 (.t 7) (.t 70))] [.val [],.val [],.val [],.val [],.val [],.val [],.val [],.val [],.val [],.val [],.val [],.val [],.chn []])
 (.seq (.reg [oo 71 (.fa 1 (.t 7)),oo 72 (.ld false 1 (.t 71)),oo 73 (.fa 0 (.t 8)),on (.st 1 (.t 73) (.t 72))])
 (.seq (.reg [oo 75 (.ld true 3 (.t 8)),oo 76 (.cl (.c (.fn 141 [])) [(.t 75)]),om 74 76,oo 77 (.ext (.t 74) 0),oo 78 (.ext (.t 74) 1),om 10 77,om 11 78])
 (.seq (.reg [om 79 11,oo 80 (.un .not (.t 79)),om 81 80,⟨(some 82),(some (81,false)),.fa 2 (.t 7)⟩,⟨(some 83),(some (81,false)),.ld false 1 (.t 82)⟩,⟨(some 84),(some (81,false)),.mv (.t 10)⟩,⟨(some 85),(some (81,false)),.lens (.t 84)⟩,⟨(some 86),(some (81,false)),.bin .add (.t 83) (.t 85)⟩,⟨(some 87),(some (81,false)),.bin .gtr (.t 86) (.c (.j 256))⟩,oo 88 (.pick (.t 81) (.c (.bool true)) (.t 87))])
 (.cond (.t 88) (.seq (.reg [oo 6 (.mv (.c (.bool false)))])
 .ret)
 .skip))))))
 .skip))
 (.seq (.drw [om 90 0,oo 91 (.nc (.t 90)),oo 92 (.fa 0 (.t 91)),oo 93 (.ld true 2 (.t 92)),oo 94 (.fa 0 (.t 7)),oo 95 (.ld false 1 (.t 94)),oo 96 (.fa 2 (.t 7)),oo 97 (.ld false 1 (.t 96)),om 98 10,oo 99 (.cl (.c (.fn 142 [])) [(.t 93),(.t 95),(.t 97),(.t 98)]),om 89 99,oo 100 (.ext (.t 89) 0),oo 101 (.ext (.t 89) 1),oo 12 (.al [.nils,.nils]),on (.st 2 (.t 12) (.t 100)),om 13 101] [.val [],.val [],.val [],.val [],.val [],.val [],.val [],.val [],.val [],.val [],.val [],.val [],.val [],.chn [0,1,2,3,4,5,6,7,8,9,10,11,12],.chn [12],.val []])
 (.seq (.seq (.reg [om 102 13,oo 103 (.un .not (.t 102))])
 (.cond (.t 103) (.seq (.reg [oo 6 (.mv (.c (.bool false)))])
 .ret)
 .skip))
 (.seq (.reg [om 104 0,oo 105 (.ld true 2 (.t 12)),oo 106 (.cl (.c (.fn 143 [])) [(.t 105)]),oo 107 (.nc (.t 104)),oo 108 (.fa 0 (.t 107)),on (.st 2 (.t 108) (.t 106))])
 (.seq (.reg [oo 109 (.fa 2 (.t 7)),oo 110 (.ld false 1 (.t 109)),om 111 10,oo 112 (.lens (.t 111)),oo 113 (.bin .add (.t 110) (.t 112)),oo 114 (.fa 2 (.t 7)),on (.st 1 (.t 114) (.t 113))])
 (.seq (.drw [oo 115 (.mv (.c (.nils))),oo 116 (.fa 3 (.t 7)),oo 117 (.ld false 1 (.t 116)),oo 118 (.app 9 96 (.t 115) (.t 117)),oo 119 (.ld true 9 (.t 4)),oo 120 (.bs 9 [.j 0,.j 0,.j 0,.j 0,.j 0,.j 0,.str [],.str [],.str []] 1 [(0,(.t 119))]),oo 121 (.app 9 96 (.t 118) (.t 120)),oo 122 (.fa 3 (.t 7)),on (.st 1 (.t 122) (.t 121))] [.val [],.val [],.val [],.chn [],.val [3],.val [3],.chn [],.val [],.chn []])
 (.seq (.drw [om 123 0,oo 124 (.nc (.t 123)),oo 125 (.fa 3 (.t 124)),oo 126 (.ld false 1 (.t 125)),om 127 0,oo 128 (.nc (.t 127)),oo 129 (.fa 3 (.t 128)),oo 130 (.ld false 1 (.t 129)),oo 131 (.lenl (.t 130)),oo 132 (.bin .sub (.t 131) (.c (.j 1))),oo 133 (.ld true 4 (.t 7)),oo 134 (.ia 4 (.t 126) (.t 132)),on (.st 4 (.t 134) (.t 133))] [.val [],.val [],.val [],.val [],.val [],.val [],.val [],.val [],.val [],.val [],.val [],.val [],.chn []])
 (.seq (.seq (.drw [oo 135 (.fa 0 (.t 4)),oo 136 (.ld false 1 (.t 135)),om 137 0,oo 138 (.nc (.t 137)),oo 139 (.fa 5 (.t 138)),oo 140 (.ld false 1 (.t 139)),oo 141 (.bin .geq (.t 136) (.t 140))] [.val [],.val [],.val [],.val [],.val [],.val [],.val []])
 (.cond (.t 141) (.reg [om 142 0,oo 143 (.fa 0 (.t 4)),oo 144 (.ld false 1 (.t 143)),oo 145 (.bin .add (.t 144) (.c (.j 1))),oo 146 (.nc (.t 142)),oo 147 (.fa 5 (.t 146)),on (.st 1 (.t 147) (.t 145))])
 .skip))
 (.seq (.seq (.drw [oo 148 (.fa 1 (.t 4)),oo 149 (.fa 1 (.t 148)),oo 150 (.ld false 1 (.t 149)),om 151 0,oo 152 (.nc (.t 151)),oo 153 (.fa 7 (.t 152)),oo 154 (.ld false 1 (.t 153)),oo 155 (.bin .geq (.t 150) (.t 154))] [.val [],.val [],.val [],.val [],.val [],.val [],.val [],.val []])
 (.cond (.t 155) (.reg [om 156 0,oo 157 (.fa 1 (.t 4)),oo 158 (.fa 1 (.t 157)),oo 159 (.ld false 1 (.t 158)),oo 160 (.bin .add (.t 159) (.c (.j 1))),oo 161 (.nc (.t 156)),oo 162 (.fa 7 (.t 161)),on (.st 1 (.t 162) (.t 160))])
 .skip))
 (.seq (.reg [oo 6 (.mv (.c (.bool true)))])
 .ret)))))))))))))))
theorem k_spec_l09Append : FnOk Try.prog 97 163 rc_spec_l09Append [.t 6]:=⟨Try.f97,_,[(19,[2000005])],Try.func97,rfl,rfl,by kernel_rfl,by kernel_rfl,follows⟩
theorem ok_spec_l09Append : okF Try.prog 97 = true:=by kernel_rfl
def rc_spec_l09Log : RC :=
 (.seq (.reg [oo 2 (.al [.nils,.nils,.j 0,.nils,.j 0,.j 0,.j 0,.j 0])])
 (.seq (.reg [om 8 0,oo 9 (.cl (.c (.fn 72 [])) [(.t 8),(.c (.j 4))]),oo 10 (.bin .add (.c (.j 5)) (.t 9)),oo 11 (.cl (.c (.fn 94 [])) [(.t 10)]),om 7 11,oo 12 (.ext (.t 7) 0),oo 13 (.ext (.t 7) 1),oo 3 (.al [.nils,.nils,.j 0,.nils,.j 0,.j 0,.j 0,.j 0]),on (.st 8 (.t 3) (.t 12)),om 4 13])
 (.seq (.seq (.reg [oo 5 (.mv (.c (.j 0)))])
 (.blk 0 (.loop (.seq (.seq (.reg [om 14 5,om 15 0,oo 16 (.cl (.c (.fn 72 [])) [(.t 15),(.c (.j 34))]),oo 17 (.bin .lss (.t 14) (.t 16))])
 (.cond (.t 17) .skip
 (.exit 0)))
 (.seq (.blk 1 (.seq (.drw [oo 20 (.fa 5 (.t 3)),oo 21 (.ld false 1 (.t 20)),om 22 0,oo 23 (.cl (.c (.fn 95 [])) [(.t 22)]),oo 24 (.bld [.j 0,.j 0,.j 0,.j 0,.j 0,.j 0,.str [],.str [],.str []] [(0,1),(1,8)] [(0,(.t 21)),(1,(.t 23))]),oo 6 (.al [.j 0,.j 0,.j 0,.j 0,.j 0,.j 0,.str [],.str [],.str []]),on (.st 9 (.t 6) (.t 24))] [.val [],.val [],.val [],.chn [0,1],.val [],.flt 0,.chn []])
 (.seq (.reg [oo 25 (.ld true 8 (.t 3)),oo 26 (.ld true 9 (.t 6)),oo 27 (.cl (.c (.fn 96 [])) [(.t 25),(.t 26)])])
 (.cond (.t 27) (.reg [oo 28 (.ld true 9 (.t 6)),oo 29 (.cl (.c (.fn 97 [])) [(.t 3),(.t 28),(.c (.j 1))])])
 .skip))))
 (.reg [om 18 5,oo 19 (.bin .add (.t 18) (.c (.j 1))),om 5 19]))))))
 (.seq (.reg [oo 30 (.ld true 8 (.t 3)),on (.st 8 (.t 2) (.t 30))])
 .ret))))
theorem k_spec_l09Log : FnOk Try.prog 46 31 rc_spec_l09Log [.cell 2 true 8]:=⟨Try.f46,_,[(5,[3,1000005])],Try.func46,rfl,rfl,by kernel_rfl,by kernel_rfl,follows⟩
theorem ok_spec_l09Log : okF Try.prog 46 = true:=by kernel_rfl
def rc_spec_DrawLog : RC :=
 (.seq (.reg [oo 2 (.al [.nils,.nils,.j 0,.nils,.j 0,.j 0,.j 0,.j 0])])
 (.seq (.reg [om 3 0,oo 4 (.cl (.c (.fn 47 [])) [(.t 3)]),oo 5 (.cl (.c (.fn 46 [])) [(.t 4)]),on (.st 8 (.t 2) (.t 5))])
 .ret))
theorem k_spec_DrawLog : FnOk Try.prog 9 6 rc_spec_DrawLog [.cell 2 true 8]:=⟨Try.f9,_,[],Try.func9,rfl,rfl,by kernel_rfl,by kernel_rfl,follows⟩
theorem ok_spec_DrawLog : okF Try.prog 9 = true:=by kernel_rfl
def rc_laws_FnChecksTorn : RC :=
 (.seq (.reg [oo 2 (.mv (.c (.bool false)))])
 (.seq (.seq (.reg [om 25 0,oo 26 (.cl (.c (.fn 8 [])) [(.t 25)])])
 (.cond (.t 26) (.seq (.reg [oo 2 (.mv (.c (.bool true)))])
 .ret)
 .skip))
 (.seq (.reg [om 27 0,oo 28 (.cl (.c (.fn 9 [])) [(.t 27)]),oo 3 (.al [.nils,.nils,.j 0,.nils,.j 0,.j 0,.j 0,.j 0]),on (.st 8 (.t 3) (.t 28))])
 (.seq (.reg [oo 29 (.ld true 8 (.t 3)),oo 30 (.cl (.c (.fn 17 [])) [(.t 29)]),oo 4 (.al [.j 0,.j 0,.j 0,.j 0,.nils]),on (.st 5 (.t 4) (.t 30))])
 (.seq (.reg [oo 32 (.ld true 5 (.t 4)),oo 33 (.cl (.c (.fn 18 [])) [(.t 32)]),om 31 33,oo 34 (.ext (.t 31) 0),oo 35 (.ext (.t 31) 1),om 5 34,om 6 35])
 (.seq (.reg [oo 37 (.fa 0 (.t 3)),oo 38 (.ld true 2 (.t 37)),oo 39 (.fa 0 (.t 4)),oo 40 (.ld false 1 (.t 39)),oo 41 (.bin .rem (.t 40) (.c (.j 2))),oo 42 (.bin .mul (.c (.j 4)) (.t 41)),om 43 5,oo 44 (.cl (.c (.fn 19 [])) [(.t 38),(.t 42),(.c (.j 0)),(.t 43)]),om 36 44,oo 45 (.ext (.t 36) 0),oo 46 (.ext (.t 36) 1),oo 7 (.al [.nils,.nils]),on (.st 2 (.t 7) (.t 45)),om 8 46])
 (.seq (.reg [om 47 0,oo 48 (.cl (.c (.fn 20 [])) [(.t 47)]),om 9 48])
 (.seq (.drw [oo 49 (.ld true 2 (.t 7)),om 50 0,oo 51 (.cl (.c (.fn 22 [])) [(.t 50)]),om 52 9,oo 53 (.ia 1 (.t 52) (.c (.j 0))),oo 54 (.ld false 1 (.t 53)),oo 55 (.cl (.c (.fn 21 [])) [(.t 49),(.t 51),(.t 54)]),oo 10 (.al [.nils,.nils]),on (.st 2 (.t 10) (.t 55))] [.val [],.val [],.val [],.val [],.val [],.val [],.val [],.chn [0,1,2,3,4,5,6],.chn []])
 (.seq (.reg [oo 57 (.ld true 2 (.t 10)),oo 58 (.cl (.c (.fn 14 [])) [(.t 57)]),om 56 58,oo 59 (.ext (.t 56) 0),oo 60 (.ext (.t 56) 1),oo 11 (.al [.j 0,.j 0,.j 0,.j 0,.nils]),on (.st 5 (.t 11) (.t 59)),om 12 60])
 (.seq (.reg [oo 62 (.fa 0 (.t 3)),oo 63 (.ld true 2 (.t 62)),oo 64 (.cl (.c (.fn 23 [])) [(.t 63)]),om 61 64,oo 65 (.ext (.t 61) 0),oo 66 (.ext (.t 61) 1),oo 13 (.al [.j 0,.j 0,.j 0,.j 0,.nils]),on (.st 5 (.t 13) (.t 65)),om 14 66])
 (.seq (.reg [oo 68 (.ld true 5 (.t 11)),oo 69 (.cl (.c (.fn 18 [])) [(.t 68)]),om 67 69,oo 70 (.ext (.t 67) 0),oo 71 (.ext (.t 67) 1),om 15 70,om 16 71])
 (.seq (.reg [oo 73 (.ld true 5 (.t 13)),oo 74 (.cl (.c (.fn 18 [])) [(.t 73)]),om 72 74,oo 75 (.ext (.t 72) 0),oo 76 (.ext (.t 72) 1),om 17 75,om 18 76])
 (.seq (.reg [oo 78 (.ld true 2 (.t 10)),oo 79 (.fa 0 (.t 4)),oo 80 (.ld false 1 (.t 79)),oo 81 (.bin .rem (.t 80) (.c (.j 2))),oo 82 (.bin .mul (.c (.j 4)) (.t 81)),oo 83 (.cl (.c (.fn 24 [])) [(.t 78),(.t 82),(.c (.j 4))]),om 77 83,oo 84 (.ext (.t 77) 0),oo 85 (.ext (.t 77) 1),om 19 84,om 20 85])
 (.seq (.reg [om 87 19,oo 88 (.cl (.c (.fn 25 [])) [(.t 87)]),om 86 88,oo 89 (.ext (.t 86) 0),oo 90 (.ext (.t 86) 1),oo 21 (.al [.j 0,.j 0,.j 0,.j 0,.nils]),on (.st 5 (.t 21) (.t 89)),om 22 90])
 (.seq (.reg [oo 92 (.ld true 5 (.t 21)),oo 93 (.cl (.c (.fn 18 [])) [(.t 92)]),om 91 93,oo 94 (.ext (.t 91) 0),oo 95 (.ext (.t 91) 1),om 23 94,om 24 95])
 (.seq (.reg [om 96 8,om 97 96,⟨(some 98),(some (97,true)),.mv (.t 12)⟩,oo 99 (.pick (.t 97) (.t 98) (.c (.bool false))),om 100 99,⟨(some 101),(some (100,true)),.mv (.t 15)⟩,⟨(some 102),(some (100,true)),.mv (.t 5)⟩,⟨(some 103),(some (100,true)),.bin .eql (.t 101) (.t 102)⟩,⟨(some 104),(some (100,true)),.mv (.t 103)⟩,⟨(some 105),(some (104,false)),.mv (.t 15)⟩,⟨(some 106),(some (104,false)),.mv (.t 17)⟩,⟨(some 107),(some (104,false)),.bin .eql (.t 105) (.t 106)⟩,⟨(some 108),(some (100,true)),.pick (.t 104) (.c (.bool true)) (.t 107)⟩,⟨(some 109),(some (100,true)),.mv (.t 108)⟩,⟨(some 110),(some (109,false)),.mv (.t 22)⟩,⟨(some 111),(some (109,false)),.mv (.t 110)⟩,⟨(some 112),(some (111,true)),.mv (.t 15)⟩,⟨(some 113),(some (111,true)),.mv (.t 23)⟩,⟨(some 114),(some (111,true)),.bin .eql (.t 112) (.t 113)⟩,⟨(some 115),(some (109,false)),.pick (.t 111) (.t 114) (.c (.bool false))⟩,⟨(some 116),(some (100,true)),.pick (.t 109) (.c (.bool true)) (.t 115)⟩,oo 117 (.pick (.t 100) (.t 116) (.c (.bool false))),om 2 117])
 .ret))))))))))))))))
theorem k_laws_FnChecksTorn : FnOk Try.prog 4 118 rc_laws_FnChecksTorn [.t 2]:=⟨Try.f4,_,[],Try.func4,rfl,rfl,by kernel_rfl,by kernel_rfl,follows⟩
theorem ok_laws_FnChecksTorn : okF Try.prog 4 = true:=by kernel_rfl
end Go.Proofs.Ytldndhdohlfpgaa.V
