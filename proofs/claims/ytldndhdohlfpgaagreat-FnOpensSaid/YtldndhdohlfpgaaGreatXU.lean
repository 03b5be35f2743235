/- The functions' texts. -/
import Derived.Test.YtldndhdohlfpgaaGreatXE
import Derived.Test.YtldndhdohlfpgaaGreatProg
import Derived.KernelRfl
/- The functions' texts. -/
namespace Go.Proofs.YtldndhdohlfpgaaGreat.V
open Go Go.Proofs Go.RowKit
set_option maxRecDepth 100000
theorem follows : Tryz.prog.follows .mixedOrders = true:=by kernel_rfl
def A1p : RC :=
 (.seq (.reg [oo 2 (.mv (.c (.und)))])
 (.seq (.reg [om 5 0,oo 6 (.lenl (.t 5)),oo 7 (.bin .add (.c (.j 76001)) (.t 6)),om 3 7])
 (.seq (.seq (.reg [oo 4 (.mv (.c (.j 0)))])
 (.blk 0 (.loop (.seq (.seq (.reg [om 8 4,om 9 0,oo 10 (.lenl (.t 9)),oo 11 (.bin .lss (.t 8) (.t 10)),om 12 11,⟨(some 13),(some (12,true)),.mv (.t 4)⟩,⟨(some 14),(some (12,true)),.bin .lss (.t 13) (.c (.j 4000))⟩,oo 15 (.pick (.t 12) (.t 14) (.c (.bool false)))])
 (.cond (.t 15) .skip
 (.exit 0)))
 (.seq (.blk 1 (.reg [om 18 3,oo 19 (.bin .mul (.t 18) (.c (.j 131))),om 20 0,om 21 4,oo 22 (.ia 1 (.t 20) (.t 21)),oo 23 (.ld false 1 (.t 22)),oo 24 (.cvi .i64 (.t 23)),oo 25 (.bin .add (.t 19) (.t 24)),oo 26 (.bin .add (.t 25) (.c (.j 7))),oo 27 (.bin .and (.t 26) (.c (.j 1073741823))),om 3 27]))
 (.reg [om 16 4,oo 17 (.bin .add (.t 16) (.c (.j 1))),om 4 17]))))))
 (.seq (.reg [om 28 0,om 29 3,oo 30 (.bld [.nils,.j 0,.j 0] [(0,1),(1,1),(2,1)] [(0,(.t 28)),(2,(.t 29))]),oo 31 (.bx (.t 30)),om 2 31])
 .ret))))
theorem A37 : FnOk Tryz.prog 47 32 A1p [.t 2]:=⟨Tryz.f47,_,[],Tryz.func47,rfl,rfl,by kernel_rfl,by kernel_rfl,follows⟩
theorem Ld : okF Tryz.prog 47 = true:=by kernel_rfl
def Zw : RC :=
 (.seq (.reg [oo 2 (.mv (.c (.j 0)))])
 (.seq (.reg [om 4 0,om 5 0,oo 6 (.nc (.t 5)),oo 7 (.fa 2 (.t 6)),oo 8 (.ld false 1 (.t 7)),oo 9 (.bin .mul (.t 8) (.c (.j 6364136223846793005))),oo 10 (.bin .add (.t 9) (.c (.j 1442695040888963407))),oo 11 (.nc (.t 4)),oo 12 (.fa 2 (.t 11)),on (.st 1 (.t 12) (.t 10))])
 (.seq (.drw [om 13 0,oo 14 (.nc (.t 13)),oo 15 (.fa 2 (.t 14)),oo 16 (.ld false 1 (.t 15)),oo 17 (.bin .shr (.t 16) (.c (.int .u64 33))),om 18 0,oo 19 (.nc (.t 18)),oo 20 (.fa 2 (.t 19)),oo 21 (.ld false 1 (.t 20)),oo 22 (.bin .shr (.t 21) (.c (.int .u64 45))),oo 23 (.bin .xor (.t 17) (.t 22)),oo 24 (.bin .and (.t 23) (.c (.j 255))),om 3 24] [.val [],.val [],.val [],.val [],.val [],.val [],.val [],.val [],.val [],.val [],.val [],.val [],.val []])
 (.seq (.seq (.drw [om 25 0,oo 26 (.nc (.t 25)),oo 27 (.fa 1 (.t 26)),oo 28 (.ld false 1 (.t 27)),om 29 0,oo 30 (.nc (.t 29)),oo 31 (.fa 0 (.t 30)),oo 32 (.ld false 1 (.t 31)),oo 33 (.lenl (.t 32)),oo 34 (.bin .lss (.t 28) (.t 33))] [.val [],.val [],.val [],.val [],.val [],.val [],.val [],.val [],.val [],.val []])
 (.cond (.t 34) (.seq (.drw [om 35 3,om 36 0,oo 37 (.nc (.t 36)),oo 38 (.fa 0 (.t 37)),oo 39 (.ld false 1 (.t 38)),om 40 0,oo 41 (.nc (.t 40)),oo 42 (.fa 1 (.t 41)),oo 43 (.ld false 1 (.t 42)),oo 44 (.ia 1 (.t 39) (.t 43)),oo 45 (.ld false 1 (.t 44)),oo 46 (.cvi .i64 (.t 45)),oo 47 (.bin .add (.t 35) (.t 46)),oo 48 (.bin .and (.t 47) (.c (.j 255))),om 3 48] [.val [],.val [],.val [],.val [],.val [],.val [],.val [],.val [],.val [],.val [],.val [],.val [],.val [],.val [],.val []])
 (.reg [om 49 0,om 50 0,oo 51 (.nc (.t 50)),oo 52 (.fa 1 (.t 51)),oo 53 (.ld false 1 (.t 52)),oo 54 (.bin .add (.t 53) (.c (.j 1))),oo 55 (.nc (.t 49)),oo 56 (.fa 1 (.t 55)),on (.st 1 (.t 56) (.t 54))]))
 .skip))
 (.seq (.reg [om 57 3,om 2 57])
 .ret)))))
theorem A1e : FnOk Tryz.prog 48 58 Zw [.t 2]:=⟨Tryz.f48,_,[],Tryz.func48,rfl,rfl,by kernel_rfl,by kernel_rfl,follows⟩
theorem U0 : okF Tryz.prog 48 = true:=by kernel_rfl
def Vz : RC :=
 (.seq (.reg [oo 4 (.mv (.c (.j 0)))])
 (.seq (.seq (.reg [om 9 1,oo 10 (.bin .leq (.t 9) (.c (.j 0)))])
 (.cond (.t 10) (.seq (.reg [oo 4 (.mv (.c (.j 0)))])
 .ret)
 .skip))
 (.seq (.seq (.reg [om 11 1,oo 12 (.bin .leq (.t 11) (.c (.j 256)))])
 (.cond (.t 12) (.seq (.reg [om 13 0,oo 14 (.cl (.c (.fn 48 [])) [(.t 13)]),om 15 1,oo 16 (.bin .rem (.t 14) (.t 15)),om 4 16])
 .ret)
 .skip))
 (.seq (.reg [om 17 0,oo 18 (.cl (.c (.fn 48 [])) [(.t 17)]),om 5 18])
 (.seq (.reg [om 19 0,oo 20 (.cl (.c (.fn 48 [])) [(.t 19)]),om 6 20])
 (.seq (.reg [om 21 0,oo 22 (.cl (.c (.fn 48 [])) [(.t 21)]),om 7 22])
 (.seq (.reg [om 23 0,oo 24 (.cl (.c (.fn 48 [])) [(.t 23)]),om 8 24])
 (.seq (.reg [om 25 5,oo 26 (.bin .mul (.t 25) (.c (.j 16777216))),om 27 6,oo 28 (.bin .mul (.t 27) (.c (.j 65536))),oo 29 (.bin .add (.t 26) (.t 28)),om 30 7,oo 31 (.bin .mul (.t 30) (.c (.j 256))),oo 32 (.bin .add (.t 29) (.t 31)),om 33 8,oo 34 (.bin .add (.t 32) (.t 33)),om 35 1,oo 36 (.bin .rem (.t 34) (.t 35)),om 4 36])
 .ret))))))))
theorem Yo : FnOk Tryz.prog 49 37 Vz [.t 4]:=⟨Tryz.f49,_,[],Tryz.func49,rfl,rfl,by kernel_rfl,by kernel_rfl,follows⟩
theorem G3 : okF Tryz.prog 49 = true:=by kernel_rfl
def Qn : RC :=
 (.seq (.reg [oo 2 (.mv (.c (.nils)))])
 (.seq (.reg [om 6 0,oo 7 (.cl (.c (.fn 47 [])) [(.t 6)]),om 3 7])
 (.seq (.reg [om 8 3,oo 9 (.cl (.c (.fn 48 [])) [(.t 8)])])
 (.seq (.reg [oo 10 (.mv (.c (.nils))),om 4 10])
 (.seq (.seq (.reg [oo 5 (.mv (.c (.j 0)))])
 (.blk 0 (.loop (.seq (.seq (.reg [om 11 5,oo 12 (.bin .lss (.t 11) (.c (.j 12)))])
 (.cond (.t 12) .skip
 (.exit 0)))
 (.seq (.blk 1 (.reg [om 15 4,om 16 3,oo 17 (.cl (.c (.fn 49 [])) [(.t 16),(.c (.j 10000))]),oo 18 (.bs 1 [.j 0] 1 [(0,(.t 17))]),oo 19 (.app 1 8 (.t 15) (.t 18)),om 4 19]))
 (.reg [om 13 5,oo 14 (.bin .add (.t 13) (.c (.j 1))),om 5 14]))))))
 (.seq (.reg [om 20 4,om 2 20])
 .ret))))))
theorem Tj : FnOk Tryz.prog 10 21 Qn [.t 2]:=⟨Tryz.f10,_,[],Tryz.func10,rfl,rfl,by kernel_rfl,by kernel_rfl,follows⟩
theorem Ql : okF Tryz.prog 10 = true:=by kernel_rfl
def Pe : RC :=
 (.seq (.reg [oo 2 (.bx (.t 0)),oo 3 (.mv (.c (.bool false)))])
 (.seq (.reg [oo 4 (.fa 0 (.t 2)),oo 5 (.ld false 1 (.t 4)),oo 6 (.ld false 1 (.t 1)),oo 7 (.bin .eql (.t 5) (.t 6)),om 3 7])
 .ret))
theorem Tl : FnOk Tryz.prog 51 8 Pe [.t 3]:=⟨Tryz.f51,_,[],Tryz.func51,rfl,rfl,by kernel_rfl,by kernel_rfl,follows⟩
theorem Pg : okF Tryz.prog 51 = true:=by kernel_rfl
def Ht : RC :=
 (.seq (.reg [oo 4 (.mv (.c (.j 0)))])
 (.seq (.seq (.reg [om 6 0,oo 7 (.lenl (.t 6)),oo 8 (.mv (.c (.j 0)))])
 (.blk 0 (.loop (.seq (.reg [oo 9 (.bin .lss (.t 8) (.t 7))])
 (.seq (.cond (.t 9) .skip
 (.exit 0))
 (.seq (.blk 1 (.seq (.reg [om 10 8,om 5 10])
 (.seq (.reg [om 11 1,om 12 0,om 13 5,oo 14 (.ia 4 (.t 12) (.t 13)),oo 15 (.ld true 4 (.t 14)),oo 16 (.cl (.t 11) [(.t 15)])])
 (.cond (.t 16) (.seq (.reg [om 17 5,om 4 17])
 .ret)
 .skip))))
 (.reg [oo 18 (.bin .add (.t 8) (.c (.j 1))),om 8 18])))))))
 (.seq (.reg [oo 4 (.mv (.c (.j (-1))))])
 .ret)))
theorem Dh : FnOk Tryz.prog 117 19 Ht [.t 4]:=⟨Tryz.f117,_,[],Tryz.func117,rfl,rfl,by kernel_rfl,by kernel_rfl,follows⟩
theorem Cy : okF Tryz.prog 117 = true:=by kernel_rfl
def Gg : RC :=
 (.seq (.reg [oo 4 (.mv (.c (.bool false)))])
 (.seq (.reg [om 5 0,om 6 1,oo 7 (.cl (.c (.fn 117 [])) [(.t 5),(.t 6)]),oo 8 (.bin .geq (.t 7) (.c (.j 0))),om 4 8])
 .ret))
theorem Ca : FnOk Tryz.prog 50 9 Gg [.t 4]:=⟨Tryz.f50,_,[],Tryz.func50,rfl,rfl,by kernel_rfl,by kernel_rfl,follows⟩
theorem Av : okF Tryz.prog 50 = true:=by kernel_rfl
def Vv : RC :=
 (.seq (.reg [oo 1 (.bx (.t 0)),oo 2 (.mv (.c (.nils)))])
 (.seq (.reg [oo 5 (.mv (.c (.nils))),om 3 5])
 (.seq (.seq (.reg [oo 6 (.fa 2 (.t 1)),oo 7 (.ld false 1 (.t 6)),oo 8 (.mn (.t 7) (.c (.j 11))),oo 9 (.mv (.c (.j 0)))])
 (.blk 0 (.loop (.seq (.reg [oo 10 (.bin .lss (.t 9) (.t 8))])
 (.seq (.cond (.t 10) .skip
 (.exit 0))
 (.seq (.blk 1 (.seq (.reg [om 11 9,oo 4 (.al [.j 0]),on (.st 1 (.t 4) (.t 11))])
 (.seq (.reg [oo 12 (.fa 3 (.t 1)),oo 13 (.ld false 1 (.t 12)),oo 14 (.mkf 51 [(.t 4)]),oo 15 (.cl (.c (.fn 50 [])) [(.t 13),(.t 14)]),oo 16 (.un .not (.t 15))])
 (.cond (.t 16) (.reg [om 17 3,oo 18 (.ld false 1 (.t 4)),oo 19 (.bs 1 [.j 0] 1 [(0,(.t 18))]),oo 20 (.app 1 8 (.t 17) (.t 19)),om 3 20])
 .skip))))
 (.reg [oo 21 (.bin .add (.t 9) (.c (.j 1))),om 9 21])))))))
 (.seq (.reg [om 22 3,om 2 22])
 .ret))))
theorem Xy : FnOk Tryz.prog 11 23 Vv [.t 2]:=⟨Tryz.f11,_,[],Tryz.func11,rfl,rfl,by kernel_rfl,by kernel_rfl,follows⟩
theorem Em : okF Tryz.prog 11 = true:=by kernel_rfl
def Zg : RC :=
 (.seq (.reg [oo 1 (.bx (.t 0)),oo 2 (.mv (.c (.nils)))])
 (.seq (.reg [oo 6 (.mv (.c (.nils))),om 3 6])
 (.seq (.seq (.reg [oo 7 (.fa 3 (.t 1)),oo 8 (.ld false 1 (.t 7)),oo 9 (.lenl (.t 8)),oo 10 (.mv (.c (.j 0)))])
 (.blk 0 (.loop (.seq (.reg [oo 11 (.bin .lss (.t 10) (.t 9))])
 (.seq (.cond (.t 11) .skip
 (.exit 0))
 (.seq (.blk 1 (.seq (.reg [oo 12 (.ia 4 (.t 8) (.t 10)),oo 13 (.ld true 4 (.t 12)),oo 5 (.al [.j 0,.j 0,.j 0,.nils]),on (.st 4 (.t 5) (.t 13))])
 (.reg [om 14 3,oo 15 (.fa 3 (.t 5)),oo 16 (.ld false 1 (.t 15)),oo 17 (.app 9 96 (.t 14) (.t 16)),om 3 17])))
 (.reg [oo 18 (.bin .add (.t 10) (.c (.j 1))),om 10 18])))))))
 (.seq (.reg [om 19 3,om 2 19])
 .ret))))
theorem A1j : FnOk Tryz.prog 16 20 Zg [.t 2]:=⟨Tryz.f16,_,[],Tryz.func16,rfl,rfl,by kernel_rfl,by kernel_rfl,follows⟩
theorem Jz : okF Tryz.prog 16 = true:=by kernel_rfl
def Ze : RC :=
 (.seq (.reg [oo 2 (.bx (.t 0)),oo 3 (.mv (.c (.bool false)))])
 (.seq (.reg [oo 4 (.fa 0 (.t 2)),oo 5 (.ld false 1 (.t 4)),oo 6 (.fa 0 (.t 1)),oo 7 (.ld false 1 (.t 6)),oo 8 (.bin .eql (.t 5) (.t 7)),om 3 8])
 .ret))
theorem A1u : FnOk Tryz.prog 59 9 Ze [.t 3]:=⟨Tryz.f59,_,[],Tryz.func59,rfl,rfl,by kernel_rfl,by kernel_rfl,follows⟩
theorem Yh : okF Tryz.prog 59 = true:=by kernel_rfl
def Wl : RC :=
 (.seq (.reg [oo 2 (.mv (.c (.bool false)))])
 (.seq (.reg [om 3 0,oo 4 (.lens (.t 3)),oo 5 (.bin .neq (.t 4) (.c (.j 32))),om 2 5])
 .ret))
theorem Zs : FnOk Tryz.prog 120 6 Wl [.t 2]:=⟨Tryz.f120,_,[],Tryz.func120,rfl,rfl,by kernel_rfl,by kernel_rfl,follows⟩
theorem Wj : okF Tryz.prog 120 = true:=by kernel_rfl
def Gd : RC :=
 (.seq (.reg [oo 4 (.mv (.c (.j 0)))])
 (.seq (.seq (.reg [om 6 0,oo 7 (.lenl (.t 6)),oo 8 (.mv (.c (.j 0)))])
 (.blk 0 (.loop (.seq (.reg [oo 9 (.bin .lss (.t 8) (.t 7))])
 (.seq (.cond (.t 9) .skip
 (.exit 0))
 (.seq (.blk 1 (.seq (.reg [om 10 8,om 5 10])
 (.seq (.reg [om 11 1,om 12 0,om 13 5,oo 14 (.ia 1 (.t 12) (.t 13)),oo 15 (.ld false 1 (.t 14)),oo 16 (.cl (.t 11) [(.t 15)])])
 (.cond (.t 16) (.seq (.reg [om 17 5,om 4 17])
 .ret)
 .skip))))
 (.reg [oo 18 (.bin .add (.t 8) (.c (.j 1))),om 8 18])))))))
 (.seq (.reg [oo 4 (.mv (.c (.j (-1))))])
 .ret)))
theorem Gm : FnOk Tryz.prog 164 19 Gd [.t 4]:=⟨Tryz.f164,_,[],Tryz.func164,rfl,rfl,by kernel_rfl,by kernel_rfl,follows⟩
theorem Fv : okF Tryz.prog 164 = true:=by kernel_rfl
def Ep : RC :=
 (.seq (.reg [oo 4 (.mv (.c (.bool false)))])
 (.seq (.reg [om 5 0,om 6 1,oo 7 (.cl (.c (.fn 164 [])) [(.t 5),(.t 6)]),oo 8 (.bin .geq (.t 7) (.c (.j 0))),om 4 8])
 .ret))
theorem Fb : FnOk Tryz.prog 119 9 Ep [.t 4]:=⟨Tryz.f119,_,[],Tryz.func119,rfl,rfl,by kernel_rfl,by kernel_rfl,follows⟩
theorem Es : okF Tryz.prog 119 = true:=by kernel_rfl
def A6m : RC :=
 (.seq (.reg [oo 6 (.mv (.c (.bool false)))])
 (.seq (.reg [om 7 0,om 8 1,oo 9 (.bin .geq (.t 7) (.t 8)),om 10 9,⟨(some 11),(some (10,true)),.mv (.t 0)⟩,⟨(some 12),(some (10,true)),.mv (.t 2)⟩,⟨(some 13),(some (10,true)),.bin .leq (.t 11) (.t 12)⟩,oo 14 (.pick (.t 10) (.t 13) (.c (.bool false))),om 6 14])
 .ret))
theorem A9g : FnOk Tryz.prog 57 15 A6m [.t 6]:=⟨Tryz.f57,_,[],Tryz.func57,rfl,rfl,by kernel_rfl,by kernel_rfl,follows⟩
theorem D8 : okF Tryz.prog 57 = true:=by kernel_rfl
def Uq : RC :=
 (.seq (.reg [oo 2 (.bx (.t 0)),oo 3 (.mv (.c (.bool false)))])
 (.seq (.reg [oo 4 (.fa 0 (.t 2)),oo 5 (.ld false 1 (.t 4)),oo 6 (.fa 0 (.t 1)),oo 7 (.ld false 1 (.t 6)),oo 8 (.lenl (.t 7)),oo 9 (.bin .sub (.t 8) (.c (.j 1))),oo 10 (.cl (.c (.fn 57 [])) [(.t 5),(.c (.j 0)),(.t 9)]),oo 11 (.un .not (.t 10)),om 12 11,⟨(some 13),(some (12,false)),.fa 1 (.t 2)⟩,⟨(some 14),(some (12,false)),.ld false 1 (.t 13)⟩,⟨(some 15),(some (12,false)),.lens (.t 14)⟩,⟨(some 16),(some (12,false)),.bin .neq (.t 15) (.c (.j 32))⟩,oo 17 (.pick (.t 12) (.c (.bool true)) (.t 16)),om 3 17])
 .ret))
theorem Zu : FnOk Tryz.prog 122 18 Uq [.t 3]:=⟨Tryz.f122,_,[],Tryz.func122,rfl,rfl,by kernel_rfl,by kernel_rfl,follows⟩
theorem Wo : okF Tryz.prog 122 = true:=by kernel_rfl
def Gn : RC :=
 (.seq (.reg [oo 4 (.mv (.c (.j 0)))])
 (.seq (.seq (.reg [om 6 0,oo 7 (.lenl (.t 6)),oo 8 (.mv (.c (.j 0)))])
 (.blk 0 (.loop (.seq (.reg [oo 9 (.bin .lss (.t 8) (.t 7))])
 (.seq (.cond (.t 9) .skip
 (.exit 0))
 (.seq (.blk 1 (.seq (.reg [om 10 8,om 5 10])
 (.seq (.reg [om 11 1,om 12 0,om 13 5,oo 14 (.ia 2 (.t 12) (.t 13)),oo 15 (.ld true 2 (.t 14)),oo 16 (.cl (.t 11) [(.t 15)])])
 (.cond (.t 16) (.seq (.reg [om 17 5,om 4 17])
 .ret)
 .skip))))
 (.reg [oo 18 (.bin .add (.t 8) (.c (.j 1))),om 8 18])))))))
 (.seq (.reg [oo 4 (.mv (.c (.j (-1))))])
 .ret)))
theorem Hk : FnOk Tryz.prog 165 19 Gn [.t 4]:=⟨Tryz.f165,_,[],Tryz.func165,rfl,rfl,by kernel_rfl,by kernel_rfl,follows⟩
theorem Gp : okF Tryz.prog 165 = true:=by kernel_rfl
def Ff : RC :=
 (.seq (.reg [oo 4 (.mv (.c (.bool false)))])
 (.seq (.reg [om 5 0,om 6 1,oo 7 (.cl (.c (.fn 165 [])) [(.t 5),(.t 6)]),oo 8 (.bin .geq (.t 7) (.c (.j 0))),om 4 8])
 .ret))
theorem Fo : FnOk Tryz.prog 121 9 Ff [.t 4]:=⟨Tryz.f121,_,[],Tryz.func121,rfl,rfl,by kernel_rfl,by kernel_rfl,follows⟩
theorem Fh : okF Tryz.prog 121 = true:=by kernel_rfl
def A2i : RC :=
 (.seq (.reg [oo 1 (.bx (.t 0)),oo 2 (.mv (.c (.bool false)))])
 (.seq (.seq (.reg [oo 3 (.fa 0 (.t 1)),oo 4 (.ld false 1 (.t 3)),oo 5 (.lenl (.t 4)),oo 6 (.cl (.c (.fn 57 [])) [(.t 5),(.c (.j 1)),(.c (.j 100))]),oo 7 (.un .not (.t 6)),om 8 7,⟨(some 9),(some (8,false)),.fa 1 (.t 1)⟩,⟨(some 10),(some (8,false)),.ld false 1 (.t 9)⟩,⟨(some 11),(some (8,false)),.lenl (.t 10)⟩,⟨(some 12),(some (8,false)),.bin .gtr (.t 11) (.c (.j 60))⟩,oo 13 (.pick (.t 8) (.c (.bool true)) (.t 12))])
 (.cond (.t 13) (.seq (.reg [oo 2 (.mv (.c (.bool false)))])
 .ret)
 .skip))
 (.seq (.seq (.reg [oo 14 (.fa 0 (.t 1)),oo 15 (.ld false 1 (.t 14)),oo 16 (.cl (.c (.fn 119 [])) [(.t 15),(.c (.fn 120 []))])])
 (.cond (.t 16) (.seq (.reg [oo 2 (.mv (.c (.bool false)))])
 .ret)
 .skip))
 (.seq (.reg [oo 17 (.fa 1 (.t 1)),oo 18 (.ld false 1 (.t 17)),oo 19 (.mkf 122 [(.t 1)]),oo 20 (.cl (.c (.fn 121 [])) [(.t 18),(.t 19)]),oo 21 (.un .not (.t 20)),om 2 21])
 .ret))))
theorem A38 : FnOk Tryz.prog 55 22 A2i [.t 2]:=⟨Tryz.f55,_,[],Tryz.func55,rfl,rfl,by kernel_rfl,by kernel_rfl,follows⟩
theorem Dq : okF Tryz.prog 55 = true:=by kernel_rfl
def A1n : RC :=
 (.seq (.reg [oo 1 (.bx (.t 0)),oo 2 (.mv (.c (.j 0)))])
 (.seq (.reg [oo 4 (.fa 0 (.t 1)),oo 5 (.ld false 1 (.t 4)),oo 6 (.lenl (.t 5)),oo 7 (.bin .sub (.t 6) (.c (.j 8))),oo 8 (.bin .quo (.t 7) (.c (.j 8))),om 3 8])
 (.seq (.seq (.reg [om 9 3,oo 10 (.cl (.c (.fn 57 [])) [(.t 9),(.c (.j 5)),(.c (.j 11))]),oo 11 (.un .not (.t 10))])
 (.cond (.t 11) (.seq (.reg [oo 2 (.mv (.c (.j 0)))])
 .ret)
 .skip))
 (.seq (.reg [om 12 3,om 2 12])
 .ret))))
theorem A3k : FnOk Tryz.prog 56 13 A1n [.t 2]:=⟨Tryz.f56,_,[],Tryz.func56,rfl,rfl,by kernel_rfl,by kernel_rfl,follows⟩
theorem A0r : okF Tryz.prog 56 = true:=by kernel_rfl
def Xn : RC :=
 (.seq (.reg [oo 4 (.mv (.c (.j 0))),oo 5 (.mv (.c (.j 0))),oo 6 (.mv (.c (.bool false)))])
 (.seq (.seq (.reg [om 10 1,om 11 0,oo 12 (.lens (.t 11)),oo 13 (.cl (.c (.fn 57 [])) [(.t 10),(.c (.j 0)),(.t 12)]),oo 14 (.un .not (.t 13))])
 (.cond (.t 14) (.seq (.reg [oo 4 (.mv (.c (.j 0))),oo 5 (.mv (.c (.j 0))),oo 6 (.mv (.c (.bool false)))])
 .ret)
 .skip))
 (.seq (.reg [oo 7 (.mv (.c (.j 0)))])
 (.seq (.seq (.reg [oo 8 (.mv (.c (.j 0)))])
 (.blk 0 (.loop (.seq (.seq (.reg [om 15 8,oo 16 (.bin .lss (.t 15) (.c (.j 5))),om 17 16,⟨(some 18),(some (17,true)),.mv (.t 1)⟩,⟨(some 19),(some (17,true)),.mv (.t 8)⟩,⟨(some 20),(some (17,true)),.bin .add (.t 18) (.t 19)⟩,⟨(some 21),(some (17,true)),.mv (.t 0)⟩,⟨(some 22),(some (17,true)),.lens (.t 21)⟩,⟨(some 23),(some (17,true)),.bin .lss (.t 20) (.t 22)⟩,oo 24 (.pick (.t 17) (.t 23) (.c (.bool false)))])
 (.cond (.t 24) .skip
 (.exit 0)))
 (.seq (.blk 1 (.seq (.reg [om 27 0,om 28 1,om 29 8,oo 30 (.bin .add (.t 28) (.t 29)),oo 31 (.idx (.t 27) (.t 30)),oo 32 (.cvi .i64 (.t 31)),om 9 32])
 (.seq (.reg [om 33 7,om 34 9,oo 35 (.bin .and (.t 34) (.c (.j 127))),om 36 8,oo 37 (.bin .mul (.c (.j 7)) (.t 36)),oo 38 (.bin .shl (.t 35) (.t 37)),oo 39 (.bin .or (.t 33) (.t 38)),om 7 39])
 (.seq (.seq (.reg [om 40 9,oo 41 (.bin .gtr (.t 40) (.c (.j 127)))])
 (.cond (.t 41) (.exit 1)
 .skip))
 (.seq (.seq (.reg [om 42 9,oo 43 (.bin .eql (.t 42) (.c (.j 0))),om 44 43,⟨(some 45),(some (44,true)),.mv (.t 8)⟩,⟨(some 46),(some (44,true)),.bin .gtr (.t 45) (.c (.j 0))⟩,oo 47 (.pick (.t 44) (.t 46) (.c (.bool false))),om 48 47,⟨(some 49),(some (48,false)),.mv (.t 7)⟩,⟨(some 50),(some (48,false)),.bin .gtr (.t 49) (.c (.j 1000000000))⟩,oo 51 (.pick (.t 48) (.c (.bool true)) (.t 50))])
 (.cond (.t 51) (.seq (.reg [oo 4 (.mv (.c (.j 0))),oo 5 (.mv (.c (.j 0))),oo 6 (.mv (.c (.bool false)))])
 .ret)
 .skip))
 (.seq (.reg [om 52 7,om 53 1,om 54 8,oo 55 (.bin .add (.t 53) (.t 54)),oo 56 (.bin .add (.t 55) (.c (.j 1))),om 4 52,om 5 56,oo 6 (.mv (.c (.bool true)))])
 .ret))))))
 (.reg [om 25 8,oo 26 (.bin .add (.t 25) (.c (.j 1))),om 8 26]))))))
 (.seq (.reg [oo 4 (.mv (.c (.j 0))),oo 5 (.mv (.c (.j 0))),oo 6 (.mv (.c (.bool false)))])
 .ret)))))
theorem A0d : FnOk Tryz.prog 103 57 Xn [.t 4,.t 5,.t 6]:=⟨Tryz.f103,_,[],Tryz.func103,rfl,rfl,by kernel_rfl,by kernel_rfl,follows⟩
theorem Q3 : okF Tryz.prog 103 = true:=by kernel_rfl
def Ug : RC :=
 (.seq (.reg [oo 4 (.mv (.c (.str []))),oo 5 (.mv (.c (.j 0))),oo 6 (.mv (.c (.bool false)))])
 (.seq (.reg [om 11 0,om 12 1,oo 13 (.cl (.c (.fn 103 [])) [(.t 11),(.t 12)]),om 10 13,oo 14 (.ext (.t 10) 0),oo 15 (.ext (.t 10) 1),oo 16 (.ext (.t 10) 2),om 7 14,om 8 15,om 9 16])
 (.seq (.seq (.reg [om 17 9,oo 18 (.un .not (.t 17)),om 19 18,⟨(some 20),(some (19,false)),.mv (.t 7)⟩,⟨(some 21),(some (19,false)),.bin .gtr (.t 20) (.c (.j 20000))⟩,oo 22 (.pick (.t 19) (.c (.bool true)) (.t 21)),om 23 22,⟨(some 24),(some (23,false)),.mv (.t 7)⟩,⟨(some 25),(some (23,false)),.mv (.t 0)⟩,⟨(some 26),(some (23,false)),.lens (.t 25)⟩,⟨(some 27),(some (23,false)),.mv (.t 8)⟩,⟨(some 28),(some (23,false)),.bin .sub (.t 26) (.t 27)⟩,⟨(some 29),(some (23,false)),.bin .gtr (.t 24) (.t 28)⟩,oo 30 (.pick (.t 23) (.c (.bool true)) (.t 29))])
 (.cond (.t 30) (.seq (.reg [oo 4 (.mv (.c (.str []))),oo 5 (.mv (.c (.j 0))),oo 6 (.mv (.c (.bool false)))])
 .ret)
 .skip))
 (.seq (.reg [om 31 0,om 32 8,om 33 8,om 34 7,oo 35 (.bin .add (.t 33) (.t 34)),oo 36 (.sls (.t 31) (some (.t 32)) (some (.t 35))),om 37 8,om 38 7,oo 39 (.bin .add (.t 37) (.t 38)),om 4 36,om 5 39,oo 6 (.mv (.c (.bool true)))])
 .ret))))
theorem Vc : FnOk Tryz.prog 101 40 Ug [.t 4,.t 5,.t 6]:=⟨Tryz.f101,_,[],Tryz.func101,rfl,rfl,by kernel_rfl,by kernel_rfl,follows⟩
theorem Ak : okF Tryz.prog 101 = true:=by kernel_rfl
def Yl : RC :=
 (.seq (.reg [oo 1 (.bx (.t 0)),oo 2 (.mv (.c (.bool false)))])
 (.seq (.reg [oo 3 (.fa 0 (.t 1)),oo 4 (.ld false 1 (.t 3)),oo 5 (.cl (.c (.fn 57 [])) [(.t 4),(.c (.j 1)),(.c (.j 1000000000))]),om 6 5,⟨(some 7),(some (6,true)),.fa 1 (.t 1)⟩,⟨(some 8),(some (6,true)),.ld false 1 (.t 7)⟩,⟨(some 9),(some (6,true)),.cl (.c (.fn 57 [])) [(.t 8),(.c (.j 1)),(.c (.j 1000000000))]⟩,oo 10 (.pick (.t 6) (.t 9) (.c (.bool false))),om 11 10,⟨(some 12),(some (11,true)),.fa 2 (.t 1)⟩,⟨(some 13),(some (11,true)),.ld false 1 (.t 12)⟩,⟨(some 14),(some (11,true)),.lens (.t 13)⟩,⟨(some 15),(some (11,true)),.cl (.c (.fn 57 [])) [(.t 14),(.c (.j 1)),(.c (.j 180))]⟩,oo 16 (.pick (.t 11) (.t 15) (.c (.bool false))),om 2 16])
 .ret))
theorem A0n : FnOk Tryz.prog 136 17 Yl [.t 2]:=⟨Tryz.f136,_,[],Tryz.func136,rfl,rfl,by kernel_rfl,by kernel_rfl,follows⟩
theorem Fg : okF Tryz.prog 136 = true:=by kernel_rfl
def Yd : RC :=
 (.seq (.reg [oo 4 (.mv (.c (.int .u32 0)))])
 (.seq (.seq (.reg [om 7 1,oo 8 (.lens (.t 7)),oo 9 (.mv (.c (.j 0)))])
 (.blk 0 (.loop (.seq (.reg [oo 10 (.bin .lss (.t 9) (.t 8))])
 (.seq (.cond (.t 10) .skip
 (.exit 0))
 (.seq (.blk 1 (.seq (.reg [om 11 9,om 5 11])
 (.seq (.reg [om 12 0,om 13 1,om 14 5,oo 15 (.idx (.t 13) (.t 14)),oo 16 (.cvi .u32 (.t 15)),oo 17 (.bin .xor (.t 12) (.t 16)),om 0 17])
 (.seq (.reg [oo 18 (.mv (.c (.j 0)))])
 (.blk 2 (.loop (.seq (.reg [oo 19 (.bin .lss (.t 18) (.c (.j 8)))])
 (.seq (.cond (.t 19) .skip
 (.exit 2))
 (.seq (.blk 3 (.seq (.reg [om 20 0,oo 21 (.bin .and (.t 20) (.c (.int .u32 1))),oo 22 (.bin .eql (.t 21) (.c (.int .u32 1))),om 6 22])
 (.seq (.reg [om 23 0,oo 24 (.bin .shr (.t 23) (.c (.int .u64 1))),om 0 24])
 (.seq (.reg [om 25 6])
 (.cond (.t 25) (.reg [om 26 0,oo 27 (.bin .xor (.t 26) (.c (.int .u32 3558460437))),om 0 27])
 .skip)))))
 (.reg [oo 28 (.bin .add (.t 18) (.c (.j 1))),om 18 28]))))))))))
 (.reg [oo 29 (.bin .add (.t 9) (.c (.j 1))),om 9 29])))))))
 (.seq (.reg [om 30 0,om 4 30])
 .ret)))
theorem A29 : FnOk Tryz.prog 177 31 Yd [.t 4]:=⟨Tryz.f177,_,[],Tryz.func177,rfl,rfl,by kernel_rfl,by kernel_rfl,follows⟩
theorem Zi : okF Tryz.prog 177 = true:=by kernel_rfl
def A34 : RC :=
 (.seq (.reg [oo 2 (.mv (.c (.int .u32 0)))])
 (.seq (.reg [om 3 0,oo 4 (.cl (.c (.fn 177 [])) [(.c (.int .u32 4294967295)),(.t 3)]),om 2 4])
 .ret))
theorem A50 : FnOk Tryz.prog 152 5 A34 [.t 2]:=⟨Tryz.f152,_,[],Tryz.func152,rfl,rfl,by kernel_rfl,by kernel_rfl,follows⟩
theorem A3c : okF Tryz.prog 152 = true:=by kernel_rfl
def A4t : RC :=
 (.seq (.reg [oo 2 (.mv (.c (.str [])))])
 (.seq (.reg [om 4 0,oo 5 (.cl (.c (.fn 152 [])) [(.t 4)]),om 3 5])
 (.seq (.reg [om 6 3,oo 7 (.bin .shr (.t 6) (.c (.int .u64 24))),oo 8 (.cvi .u8 (.t 7)),om 9 3,oo 10 (.bin .shr (.t 9) (.c (.int .u64 16))),oo 11 (.cvi .u8 (.t 10)),om 12 3,oo 13 (.bin .shr (.t 12) (.c (.int .u64 8))),oo 14 (.cvi .u8 (.t 13)),om 15 3,oo 16 (.cvi .u8 (.t 15)),oo 17 (.bs 1 [.int .u8 0] 4 [(0,(.t 8)),(1,(.t 11)),(2,(.t 14)),(3,(.t 16))]),oo 18 (.cvb (.t 17)),om 2 18])
 .ret)))
theorem A6g : FnOk Tryz.prog 96 19 A4t [.t 2]:=⟨Tryz.f96,_,[],Tryz.func96,rfl,rfl,by kernel_rfl,by kernel_rfl,follows⟩
theorem A4q : okF Tryz.prog 96 = true:=by kernel_rfl
def A1x : RC :=
 (.seq (.reg [oo 2 (.mv (.c (.str []))),oo 3 (.mv (.c (.bool false)))])
 (.seq (.seq (.reg [om 4 0,oo 5 (.lens (.t 4)),oo 6 (.bin .gtr (.t 5) (.c (.j 20000)))])
 (.cond (.t 6) (.seq (.reg [oo 2 (.mv (.c (.str []))),oo 3 (.mv (.c (.bool false)))])
 .ret)
 .skip))
 (.seq (.reg [om 7 0,om 8 0,oo 9 (.cl (.c (.fn 96 [])) [(.t 8)]),oo 10 (.bin .add (.t 7) (.t 9)),om 2 10,oo 3 (.mv (.c (.bool true)))])
 .ret)))
theorem A3d : FnOk Tryz.prog 143 11 A1x [.t 2,.t 3]:=⟨Tryz.f143,_,[],Tryz.func143,rfl,rfl,by kernel_rfl,by kernel_rfl,follows⟩
theorem A0g : okF Tryz.prog 143 = true:=by kernel_rfl
def Xz : RC :=
 (.seq (.reg [oo 2 (.mv (.c (.str [])))])
 (.seq (.reg [oo 4 (.mv (.c (.nils))),om 3 4])
 (.seq (.blk 0 (.loop (.seq (.seq (.reg [om 5 0,oo 6 (.bin .gtr (.t 5) (.c (.j 127)))])
 (.cond (.t 6) .skip
 (.exit 0)))
 (.blk 1 (.seq (.reg [om 7 3,om 8 0,oo 9 (.bin .and (.t 8) (.c (.j 127))),oo 10 (.bin .or (.t 9) (.c (.j 128))),oo 11 (.cvi .u8 (.t 10)),oo 12 (.bs 1 [.int .u8 0] 1 [(0,(.t 11))]),oo 13 (.app 1 1 (.t 7) (.t 12)),om 3 13])
 (.reg [om 14 0,oo 15 (.bin .shr (.t 14) (.c (.int .u64 7))),om 0 15]))))))
 (.seq (.reg [om 16 3,om 17 0,oo 18 (.cvi .u8 (.t 17)),oo 19 (.bs 1 [.int .u8 0] 1 [(0,(.t 18))]),oo 20 (.app 1 1 (.t 16) (.t 19)),oo 21 (.cvb (.t 20)),om 2 21])
 .ret))))
theorem A18 : FnOk Tryz.prog 95 22 Xz [.t 2]:=⟨Tryz.f95,_,[],Tryz.func95,rfl,rfl,by kernel_rfl,by kernel_rfl,follows⟩
theorem Fd : okF Tryz.prog 95 = true:=by kernel_rfl
def Re : RC :=
 (.seq (.reg [oo 1 (.bx (.t 0)),oo 2 (.mv (.c (.str []))),oo 3 (.mv (.c (.bool false)))])
 (.seq (.seq (.reg [oo 4 (.ld true 3 (.t 1)),oo 5 (.cl (.c (.fn 136 [])) [(.t 4)]),oo 6 (.un .not (.t 5))])
 (.cond (.t 6) (.seq (.reg [oo 2 (.mv (.c (.str []))),oo 3 (.mv (.c (.bool false)))])
 .ret)
 .skip))
 (.seq (.drw [oo 7 (.fa 0 (.t 1)),oo 8 (.ld false 1 (.t 7)),oo 9 (.cl (.c (.fn 95 [])) [(.t 8)]),oo 10 (.fa 1 (.t 1)),oo 11 (.ld false 1 (.t 10)),oo 12 (.cl (.c (.fn 95 [])) [(.t 11)]),oo 13 (.bin .add (.t 9) (.t 12)),oo 14 (.fa 2 (.t 1)),oo 15 (.ld false 1 (.t 14)),oo 16 (.lens (.t 15)),oo 17 (.cl (.c (.fn 95 [])) [(.t 16)]),oo 18 (.bin .add (.t 13) (.t 17)),oo 19 (.fa 2 (.t 1)),oo 20 (.ld false 1 (.t 19)),oo 21 (.bin .add (.t 18) (.t 20)),oo 22 (.cl (.c (.fn 143 [])) [(.t 21)]),oo 23 (.ext (.t 22) 0),oo 24 (.ext (.t 22) 1),om 2 23,om 3 24] [.val [],.val [],.val [],.val [],.val [],.val [],.val [],.val [],.val [],.val [],.val [],.val [],.val [],.val [],.val [],.val [],.val [],.val [],.val [],.val []])
 .ret)))
theorem Va : FnOk Tryz.prog 83 25 Re [.t 2,.t 3]:=⟨Tryz.f83,_,[],Tryz.func83,rfl,rfl,by kernel_rfl,by kernel_rfl,follows⟩
theorem Gy : okF Tryz.prog 83 = true:=by kernel_rfl
def Rf : RC :=
 (.seq (.reg [oo 4 (.al [.j 0,.j 0,.str []]),oo 5 (.mv (.c (.j 0))),oo 6 (.mv (.c (.bool false)))])
 (.seq (.reg [om 18 0,om 19 1,oo 20 (.cl (.c (.fn 103 [])) [(.t 18),(.t 19)]),om 17 20,oo 21 (.ext (.t 17) 0),oo 22 (.ext (.t 17) 1),oo 23 (.ext (.t 17) 2),om 7 21,om 8 22,om 9 23])
 (.seq (.reg [om 25 0,om 26 8,oo 27 (.cl (.c (.fn 103 [])) [(.t 25),(.t 26)]),om 24 27,oo 28 (.ext (.t 24) 0),oo 29 (.ext (.t 24) 1),oo 30 (.ext (.t 24) 2),om 10 28,om 8 29,om 11 30])
 (.seq (.reg [om 32 0,om 33 8,oo 34 (.cl (.c (.fn 101 [])) [(.t 32),(.t 33)]),om 31 34,oo 35 (.ext (.t 31) 0),oo 36 (.ext (.t 31) 1),oo 37 (.ext (.t 31) 2),om 12 35,om 8 36,om 13 37])
 (.seq (.reg [om 38 7,om 39 10,om 40 12,oo 41 (.bld [.j 0,.j 0,.str []] [(0,1),(1,1),(2,1)] [(0,(.t 38)),(1,(.t 39)),(2,(.t 40))]),oo 14 (.al [.j 0,.j 0,.str []]),on (.st 3 (.t 14) (.t 41))])
 (.seq (.seq (.reg [om 42 9,oo 43 (.un .not (.t 42)),om 44 43,⟨(some 45),(some (44,false)),.mv (.t 11)⟩,⟨(some 46),(some (44,false)),.un .not (.t 45)⟩,oo 47 (.pick (.t 44) (.c (.bool true)) (.t 46)),om 48 47,⟨(some 49),(some (48,false)),.mv (.t 13)⟩,⟨(some 50),(some (48,false)),.un .not (.t 49)⟩,oo 51 (.pick (.t 48) (.c (.bool true)) (.t 50)),om 52 51,⟨(some 53),(some (52,false)),.ld true 3 (.t 14)⟩,⟨(some 54),(some (52,false)),.cl (.c (.fn 136 [])) [(.t 53)]⟩,⟨(some 55),(some (52,false)),.un .not (.t 54)⟩,oo 56 (.pick (.t 52) (.c (.bool true)) (.t 55)),om 57 56,⟨(some 58),(some (57,false)),.mv (.t 0)⟩,⟨(some 59),(some (57,false)),.lens (.t 58)⟩,⟨(some 60),(some (57,false)),.mv (.t 8)⟩,⟨(some 61),(some (57,false)),.bin .sub (.t 59) (.t 60)⟩,⟨(some 62),(some (57,false)),.bin .lss (.t 61) (.c (.j 4))⟩,oo 63 (.pick (.t 57) (.c (.bool true)) (.t 62))])
 (.cond (.t 63) (.seq (.reg [oo 64 (.bld [.j 0,.j 0,.str []] [(0,1),(1,1),(2,1)] []),on (.st 3 (.t 4) (.t 64)),oo 5 (.mv (.c (.j 0))),oo 6 (.mv (.c (.bool false)))])
 .ret)
 .skip))
 (.seq (.seq (.reg [oo 66 (.ld true 3 (.t 14)),oo 67 (.cl (.c (.fn 83 [])) [(.t 66)]),om 65 67,oo 68 (.ext (.t 65) 0),oo 69 (.ext (.t 65) 1),om 15 68,om 16 69])
 (.seq (.reg [om 70 0,om 71 1,om 72 8,oo 73 (.bin .add (.t 72) (.c (.j 4))),oo 74 (.sls (.t 70) (some (.t 71)) (some (.t 73))),om 75 15,oo 76 (.bin .neq (.t 74) (.t 75))])
 (.cond (.t 76) (.seq (.reg [oo 77 (.bld [.j 0,.j 0,.str []] [(0,1),(1,1),(2,1)] []),on (.st 3 (.t 4) (.t 77)),oo 5 (.mv (.c (.j 0))),oo 6 (.mv (.c (.bool false)))])
 .ret)
 .skip)))
 (.seq (.reg [oo 78 (.ld true 3 (.t 14)),om 79 8,oo 80 (.bin .add (.t 79) (.c (.j 4))),on (.st 3 (.t 4) (.t 78)),om 5 80,oo 6 (.mv (.c (.bool true)))])
 .ret))))))))
theorem Wu : FnOk Tryz.prog 129 81 Rf [.cell 4 true 3,.t 5,.t 6]:=⟨Tryz.f129,_,[],Tryz.func129,rfl,rfl,by kernel_rfl,by kernel_rfl,follows⟩
theorem Hd : okF Tryz.prog 129 = true:=by kernel_rfl
def Qc : RC :=
 (.seq (.reg [oo 2 (.bx (.t 0)),oo 4 (.mv (.c (.str []))),oo 5 (.mv (.c (.bool false)))])
 (.seq (.seq (.reg [om 9 1,oo 10 (.fa 0 (.t 2)),oo 11 (.ld false 1 (.t 10)),oo 12 (.lenl (.t 11)),oo 13 (.bin .sub (.t 12) (.c (.j 1))),oo 14 (.cl (.c (.fn 57 [])) [(.t 9),(.c (.j 0)),(.t 13)]),oo 15 (.un .not (.t 14))])
 (.cond (.t 15) (.seq (.reg [oo 4 (.mv (.c (.str []))),oo 5 (.mv (.c (.bool false)))])
 .ret)
 .skip))
 (.seq (.reg [oo 16 (.fa 0 (.t 2)),oo 17 (.ld false 1 (.t 16)),om 18 1,oo 19 (.ia 1 (.t 17) (.t 18)),oo 20 (.ld false 1 (.t 19)),om 6 20])
 (.seq (.seq (.reg [oo 21 (.fa 1 (.t 2)),oo 22 (.ld false 1 (.t 21)),oo 23 (.lenl (.t 22)),oo 24 (.mv (.c (.j 0)))])
 (.blk 0 (.loop (.seq (.reg [oo 25 (.bin .lss (.t 24) (.t 23))])
 (.seq (.cond (.t 25) .skip
 (.exit 0))
 (.seq (.blk 1 (.seq (.reg [oo 26 (.ia 2 (.t 22) (.t 24)),oo 27 (.ld true 2 (.t 26)),oo 8 (.al [.j 0,.str []]),on (.st 2 (.t 8) (.t 27))])
 (.seq (.reg [oo 28 (.fa 0 (.t 8)),oo 29 (.ld false 1 (.t 28)),om 30 1,oo 31 (.bin .eql (.t 29) (.t 30))])
 (.cond (.t 31) (.reg [oo 32 (.fa 1 (.t 8)),oo 33 (.ld false 1 (.t 32)),om 6 33])
 .skip))))
 (.reg [oo 34 (.bin .add (.t 24) (.c (.j 1))),om 24 34])))))))
 (.seq (.reg [om 35 6,om 4 35,oo 5 (.mv (.c (.bool true)))])
 .ret)))))
theorem Qx : FnOk Tryz.prog 132 36 Qc [.t 4,.t 5]:=⟨Tryz.f132,_,[],Tryz.func132,rfl,rfl,by kernel_rfl,by kernel_rfl,follows⟩
theorem Fw : okF Tryz.prog 132 = true:=by kernel_rfl
def Qk : RC :=
 (.seq (.reg [oo 3 (.bx (.t 0)),oo 6 (.mv (.c (.str []))),oo 7 (.mv (.c (.bool false)))])
 (.seq (.seq (.reg [om 12 2,oo 13 (.cl (.c (.fn 57 [])) [(.t 12),(.c (.j 0)),(.c (.j 100))]),oo 14 (.un .not (.t 13))])
 (.cond (.t 14) (.seq (.reg [oo 6 (.mv (.c (.str []))),oo 7 (.mv (.c (.bool false)))])
 .ret)
 .skip))
 (.seq (.reg [oo 8 (.mv (.c (.str [])))])
 (.seq (.seq (.reg [om 15 2,oo 16 (.mv (.c (.j 0)))])
 (.blk 0 (.loop (.seq (.reg [oo 17 (.bin .lss (.t 16) (.t 15))])
 (.seq (.cond (.t 17) .skip
 (.exit 0))
 (.seq (.blk 1 (.seq (.reg [om 18 16,om 9 18])
 (.seq (.reg [oo 20 (.ld true 2 (.t 3)),om 21 1,om 22 9,oo 23 (.bin .add (.t 21) (.t 22)),oo 24 (.cl (.c (.fn 132 [])) [(.t 20),(.t 23)]),om 19 24,oo 25 (.ext (.t 19) 0),oo 26 (.ext (.t 19) 1),om 10 25,om 11 26])
 (.seq (.seq (.reg [om 27 11,oo 28 (.un .not (.t 27))])
 (.cond (.t 28) (.seq (.reg [oo 6 (.mv (.c (.str []))),oo 7 (.mv (.c (.bool false)))])
 .ret)
 .skip))
 (.reg [om 29 8,om 30 10,oo 31 (.bin .add (.t 29) (.t 30)),om 8 31])))))
 (.reg [oo 32 (.bin .add (.t 16) (.c (.j 1))),om 16 32])))))))
 (.seq (.reg [om 33 8,om 6 33,oo 7 (.mv (.c (.bool true)))])
 .ret)))))
theorem Tu : FnOk Tryz.prog 126 34 Qk [.t 6,.t 7]:=⟨Tryz.f126,_,[],Tryz.func126,rfl,rfl,by kernel_rfl,by kernel_rfl,follows⟩
theorem Pb : okF Tryz.prog 126 = true:=by kernel_rfl
def Wi : RC :=
 (.seq (.reg [oo 2 (.mv (.c (.j 0)))])
 (.seq (.seq (.reg [om 3 0,oo 4 (.cl (.c (.fn 57 [])) [(.t 3),(.c (.j 0)),(.c (.j 10))]),oo 5 (.un .not (.t 4))])
 (.cond (.t 5) (.seq (.reg [oo 2 (.mv (.c (.j 0)))])
 .ret)
 .skip))
 (.seq (.reg [om 6 0,oo 7 (.bin .mul (.t 6) (.c (.j 8))),oo 8 (.bin .add (.c (.j 8)) (.t 7)),om 2 8])
 .ret)))
theorem Yc : FnOk Tryz.prog 144 9 Wi [.t 2]:=⟨Tryz.f144,_,[],Tryz.func144,rfl,rfl,by kernel_rfl,by kernel_rfl,follows⟩
theorem Je : okF Tryz.prog 144 = true:=by kernel_rfl
def Xm : RC :=
 (.seq (.reg [oo 2 (.bx (.t 0)),oo 4 (.mv (.c (.str [])))])
 (.seq (.seq (.reg [om 7 1,oo 8 (.cl (.c (.fn 57 [])) [(.t 7),(.c (.j 0)),(.c (.j 10))]),oo 9 (.un .not (.t 8))])
 (.cond (.t 9) (.seq (.reg [oo 4 (.mv (.c (.str [])))])
 .ret)
 .skip))
 (.seq (.drw [oo 11 (.ld true 2 (.t 2)),om 12 1,oo 13 (.cl (.c (.fn 144 [])) [(.t 12)]),oo 14 (.cl (.c (.fn 126 [])) [(.t 11),(.t 13),(.c (.j 8))]),om 10 14,oo 15 (.ext (.t 10) 0),oo 16 (.ext (.t 10) 1),om 5 15,om 6 16] [.val [],.val [],.val [],.val [],.val [],.val [],.val [],.val [],.val []])
 (.seq (.reg [om 17 5,om 4 17])
 .ret))))
theorem A2n : FnOk Tryz.prog 130 18 Xm [.t 4]:=⟨Tryz.f130,_,[],Tryz.func130,rfl,rfl,by kernel_rfl,by kernel_rfl,follows⟩
theorem Jw : okF Tryz.prog 130 = true:=by kernel_rfl
def A2g : RC :=
 (.seq (.reg [oo 2 (.bx (.t 0)),oo 4 (.mv (.c (.j 0)))])
 (.seq (.reg [oo 9 (.ld true 2 (.t 2)),om 10 1,oo 11 (.cl (.c (.fn 130 [])) [(.t 9),(.t 10)]),oo 12 (.cl (.c (.fn 129 [])) [(.t 11),(.c (.j 0))]),om 8 12,oo 13 (.ext (.t 8) 0),oo 14 (.ext (.t 8) 1),oo 15 (.ext (.t 8) 2),oo 5 (.al [.j 0,.j 0,.str []]),on (.st 3 (.t 5) (.t 13)),om 6 14,om 7 15])
 (.seq (.seq (.reg [oo 16 (.fa 2 (.t 5)),oo 17 (.ld false 1 (.t 16)),oo 18 (.bin .neq (.t 17) (.c (.str [115,101,103])))])
 (.cond (.t 18) (.seq (.reg [oo 4 (.mv (.c (.j 0)))])
 .ret)
 .skip))
 (.seq (.reg [oo 19 (.fa 0 (.t 5)),oo 20 (.ld false 1 (.t 19)),om 4 20])
 .ret))))
theorem A2z : FnOk Tryz.prog 65 21 A2g [.t 4]:=⟨Tryz.f65,_,[],Tryz.func65,rfl,rfl,by kernel_rfl,by kernel_rfl,follows⟩
theorem Lg : okF Tryz.prog 65 = true:=by kernel_rfl
def Qj : RC :=
 (.seq (.reg [oo 4 (.mv (.c (.nils))),oo 5 (.mv (.c (.j 0)))])
 (.seq (.reg [oo 11 (.mv (.c (.nils))),om 6 11])
 (.seq (.reg [oo 7 (.mv (.c (.j 0)))])
 (.blk 0 (.loop (.blk 1 (.seq (.reg [om 13 0,om 14 7,oo 15 (.cl (.c (.fn 129 [])) [(.t 13),(.t 14)]),om 12 15,oo 16 (.ext (.t 12) 0),oo 17 (.ext (.t 12) 1),oo 18 (.ext (.t 12) 2),oo 8 (.al [.j 0,.j 0,.str []]),on (.st 3 (.t 8) (.t 16)),om 9 17,om 10 18])
 (.seq (.seq (.reg [om 19 10,oo 20 (.un .not (.t 19)),om 21 20,⟨(some 22),(some (21,false)),.fa 0 (.t 8)⟩,⟨(some 23),(some (21,false)),.ld false 1 (.t 22)⟩,⟨(some 24),(some (21,false)),.mv (.t 1)⟩,⟨(some 25),(some (21,false)),.bin .neq (.t 23) (.t 24)⟩,oo 26 (.pick (.t 21) (.c (.bool true)) (.t 25))])
 (.cond (.t 26) (.seq (.reg [om 27 6,om 28 7,om 4 27,om 5 28])
 .ret)
 .skip))
 (.seq (.reg [om 29 6,oo 30 (.ld true 3 (.t 8)),oo 31 (.bs 3 [.j 0,.j 0,.str []] 1 [(0,(.t 30))]),oo 32 (.app 3 32 (.t 29) (.t 31)),om 6 32])
 (.reg [om 33 9,om 7 33]))))))))))
theorem Qp : FnOk Tryz.prog 134 34 Qj [.t 4,.t 5]:=⟨Tryz.f134,_,[],Tryz.func134,rfl,rfl,by kernel_rfl,by kernel_rfl,follows⟩
theorem Qa : okF Tryz.prog 134 = true:=by kernel_rfl
def Qs : RC :=
 (.seq (.reg [oo 2 (.bx (.t 0)),oo 4 (.mv (.c (.nils))),oo 5 (.mv (.c (.j 0)))])
 (.seq (.reg [oo 9 (.ld true 2 (.t 2)),om 10 1,oo 11 (.cl (.c (.fn 65 [])) [(.t 9),(.t 10)]),om 6 11])
 (.seq (.seq (.reg [om 12 6,oo 13 (.bin .eql (.t 12) (.c (.j 0)))])
 (.cond (.t 13) (.seq (.reg [oo 4 (.mv (.c (.nils))),oo 5 (.mv (.c (.j 0)))])
 .ret)
 .skip))
 (.seq (.reg [oo 15 (.ld true 2 (.t 2)),om 16 1,oo 17 (.cl (.c (.fn 130 [])) [(.t 15),(.t 16)]),om 18 6,oo 19 (.cl (.c (.fn 134 [])) [(.t 17),(.t 18)]),om 14 19,oo 20 (.ext (.t 14) 0),oo 21 (.ext (.t 14) 1),om 7 20,om 8 21])
 (.seq (.reg [om 22 7,oo 23 (.sle 3 (.t 22) (some (.c (.j 1))) none),om 24 8,om 4 23,om 5 24])
 .ret)))))
theorem Vk : FnOk Tryz.prog 71 25 Qs [.t 4,.t 5]:=⟨Tryz.f71,_,[],Tryz.func71,rfl,rfl,by kernel_rfl,by kernel_rfl,follows⟩
theorem Qv : okF Tryz.prog 71 = true:=by kernel_rfl
def A0v : RC :=
 (.seq (.reg [oo 2 (.mv (.c (.bool false)))])
 (.seq (.seq (.reg [om 4 0,oo 5 (.lens (.t 4)),oo 6 (.cl (.c (.fn 57 [])) [(.t 5),(.c (.j 1)),(.c (.j 8))]),oo 7 (.un .not (.t 6))])
 (.cond (.t 7) (.seq (.reg [oo 2 (.mv (.c (.bool false)))])
 .ret)
 .skip))
 (.seq (.seq (.reg [om 8 0,oo 9 (.lens (.t 8)),oo 10 (.mv (.c (.j 0)))])
 (.blk 0 (.loop (.seq (.reg [oo 11 (.bin .lss (.t 10) (.t 9))])
 (.seq (.cond (.t 11) .skip
 (.exit 0))
 (.seq (.blk 1 (.seq (.reg [om 12 10,om 3 12])
 (.seq (.reg [om 13 0,om 14 3,oo 15 (.idx (.t 13) (.t 14)),oo 16 (.bin .lss (.t 15) (.c (.int .u8 97))),om 17 16,⟨(some 18),(some (17,false)),.mv (.t 0)⟩,⟨(some 19),(some (17,false)),.mv (.t 3)⟩,⟨(some 20),(some (17,false)),.idx (.t 18) (.t 19)⟩,⟨(some 21),(some (17,false)),.bin .gtr (.t 20) (.c (.int .u8 122))⟩,oo 22 (.pick (.t 17) (.c (.bool true)) (.t 21))])
 (.cond (.t 22) (.seq (.reg [oo 2 (.mv (.c (.bool false)))])
 .ret)
 .skip))))
 (.reg [oo 23 (.bin .add (.t 10) (.c (.j 1))),om 10 23])))))))
 (.seq (.reg [oo 2 (.mv (.c (.bool true)))])
 .ret))))
theorem A31 : FnOk Tryz.prog 166 24 A0v [.t 2]:=⟨Tryz.f166,_,[],Tryz.func166,rfl,rfl,by kernel_rfl,by kernel_rfl,follows⟩
theorem Ll : okF Tryz.prog 166 = true:=by kernel_rfl
def A2y : RC :=
 (.seq (.reg [oo 1 (.bx (.t 0)),oo 2 (.mv (.c (.bool false)))])
 (.seq (.seq (.reg [oo 5 (.fa 1 (.t 1)),oo 6 (.ld false 1 (.t 5)),oo 7 (.cl (.c (.fn 57 [])) [(.t 6),(.c (.j 1)),(.c (.j 9999))]),oo 8 (.un .not (.t 7))])
 (.cond (.t 8) (.seq (.reg [oo 2 (.mv (.c (.bool false)))])
 .ret)
 .skip))
 (.seq (.reg [oo 9 (.ld true 8 (.t 1)),oo 3 (.al [.j 0,.j 0,.j 0,.j 0,.j 0,.str [],.str [],.str []]),on (.st 8 (.t 3) (.t 9))])
 (.seq (.reg [oo 10 (.fa 0 (.t 3)),on (.st 1 (.t 10) (.c (.j 0))),oo 11 (.fa 1 (.t 3)),on (.st 1 (.t 11) (.c (.j 0)))])
 (.seq (.reg [oo 4 (.mv (.c (.bool true)))])
 (.seq (.seq (.reg [oo 12 (.fa 0 (.t 1)),oo 13 (.ld false 1 (.t 12)),oo 14 (.bin .eql (.t 13) (.c (.j 3))),om 15 14,⟨(some 16),(some (15,false)),.fa 0 (.t 1)⟩,⟨(some 17),(some (15,false)),.ld false 1 (.t 16)⟩,⟨(some 18),(some (15,false)),.bin .eql (.t 17) (.c (.j 4))⟩,oo 19 (.pick (.t 15) (.c (.bool true)) (.t 18)),om 20 19,⟨(some 21),(some (20,false)),.fa 0 (.t 1)⟩,⟨(some 22),(some (20,false)),.ld false 1 (.t 21)⟩,⟨(some 23),(some (20,false)),.bin .eql (.t 22) (.c (.j 5))⟩,oo 24 (.pick (.t 20) (.c (.bool true)) (.t 23))])
 (.cond (.t 24) (.seq (.reg [oo 25 (.fa 2 (.t 1)),oo 26 (.ld false 1 (.t 25)),oo 27 (.cl (.c (.fn 57 [])) [(.t 26),(.c (.j 1)),(.c (.j 9999))]),om 4 27])
 (.reg [oo 28 (.fa 2 (.t 3)),on (.st 1 (.t 28) (.c (.j 0)))]))
 .skip))
 (.seq (.seq (.reg [oo 29 (.fa 0 (.t 1)),oo 30 (.ld false 1 (.t 29)),oo 31 (.bin .eql (.t 30) (.c (.j 3))),om 32 31,⟨(some 33),(some (32,false)),.fa 0 (.t 1)⟩,⟨(some 34),(some (32,false)),.ld false 1 (.t 33)⟩,⟨(some 35),(some (32,false)),.bin .eql (.t 34) (.c (.j 4))⟩,oo 36 (.pick (.t 32) (.c (.bool true)) (.t 35))])
 (.cond (.t 36) (.seq (.reg [om 37 4,om 38 37,⟨(some 39),(some (38,true)),.fa 4 (.t 1)⟩,⟨(some 40),(some (38,true)),.ld false 1 (.t 39)⟩,⟨(some 41),(some (38,true)),.cl (.c (.fn 57 [])) [(.t 40),(.c (.j 0)),(.c (.j 7))]⟩,oo 42 (.pick (.t 38) (.t 41) (.c (.bool false))),om 4 42])
 (.reg [oo 43 (.fa 4 (.t 3)),on (.st 1 (.t 43) (.c (.j 0)))]))
 .skip))
 (.seq (.seq (.reg [oo 44 (.fa 0 (.t 1)),oo 45 (.ld false 1 (.t 44))])
 (.blk 0 (.seq (.reg [oo 47 (.bin .eql (.t 45) (.c (.j 1))),om 46 47])
 (.cond (.t 46) (.seq (.reg [oo 48 (.fa 5 (.t 1)),oo 49 (.ld false 1 (.t 48)),oo 50 (.cl (.c (.fn 166 [])) [(.t 49)]),om 51 50,⟨(some 52),(some (51,true)),.fa 6 (.t 1)⟩,⟨(some 53),(some (51,true)),.ld false 1 (.t 52)⟩,⟨(some 54),(some (51,true)),.cl (.c (.fn 166 [])) [(.t 53)]⟩,oo 55 (.pick (.t 51) (.t 54) (.c (.bool false))),om 56 55,⟨(some 57),(some (56,true)),.fa 3 (.t 1)⟩,⟨(some 58),(some (56,true)),.ld false 1 (.t 57)⟩,⟨(some 59),(some (56,true)),.cl (.c (.fn 57 [])) [(.t 58),(.c (.j 1)),(.c (.j 10000))]⟩,oo 60 (.pick (.t 56) (.t 59) (.c (.bool false))),om 4 60])
 (.reg [oo 61 (.fa 5 (.t 3)),on (.st 1 (.t 61) (.c (.str []))),oo 62 (.fa 6 (.t 3)),on (.st 1 (.t 62) (.c (.str []))),oo 63 (.fa 3 (.t 3)),on (.st 1 (.t 63) (.c (.j 0)))]))
 (.seq (.reg [oo 65 (.bin .eql (.t 45) (.c (.j 3))),om 64 65])
 (.cond (.t 64) (.seq (.reg [om 66 4,om 67 66,⟨(some 68),(some (67,true)),.fa 7 (.t 1)⟩,⟨(some 69),(some (67,true)),.ld false 1 (.t 68)⟩,⟨(some 70),(some (67,true)),.lens (.t 69)⟩,⟨(some 71),(some (67,true)),.bin .leq (.t 70) (.c (.j 100))⟩,oo 72 (.pick (.t 67) (.t 71) (.c (.bool false))),om 4 72])
 (.reg [oo 73 (.fa 7 (.t 3)),on (.st 1 (.t 73) (.c (.str [])))]))
 (.seq (.seq (.reg [oo 75 (.bin .eql (.t 45) (.c (.j 2))),om 74 75])
 (.cond (.t 74) .skip
 (.seq (.reg [oo 76 (.bin .eql (.t 45) (.c (.j 4))),om 74 76])
 (.cond (.t 74) .skip
 (.reg [oo 77 (.bin .eql (.t 45) (.c (.j 5))),om 74 77])))))
 (.cond (.t 74) .skip
 (.seq (.reg [oo 2 (.mv (.c (.bool false)))])
 .ret)))))))))
 (.seq (.reg [om 78 4,om 79 78,⟨(some 80),(some (79,true)),.ld true 8 (.t 3)⟩,⟨(some 81),(some (79,true)),.bld [.j 0,.j 0,.j 0,.j 0,.j 0,.str [],.str [],.str []] [(0,1),(1,1),(2,1),(3,1),(4,1),(5,1),(6,1),(7,1)] []⟩,⟨(some 82),(some (79,true)),.equ false [(0,1),(1,1),(2,1),(3,1),(4,1),(5,2),(6,2),(7,2)] (.t 80) (.t 81)⟩,oo 83 (.pick (.t 79) (.t 82) (.c (.bool false))),om 2 83])
 .ret)))))))))
theorem A56 : FnOk Tryz.prog 124 84 A2y [.t 2]:=⟨Tryz.f124,_,[],Tryz.func124,rfl,rfl,by kernel_rfl,by kernel_rfl,follows⟩
theorem Mq : okF Tryz.prog 124 = true:=by kernel_rfl
def Za : RC :=
 (.seq (.reg [oo 2 (.al [.j 0,.j 0,.j 0,.j 0,.j 0,.str [],.str [],.str []]),oo 3 (.mv (.c (.bool false)))])
 (.seq (.seq (.reg [om 16 0,oo 17 (.bin .eql (.t 16) (.c (.str [])))])
 (.cond (.t 17) (.seq (.reg [oo 18 (.bld [.j 0,.j 0,.j 0,.j 0,.j 0,.str [],.str [],.str []] [(0,1),(1,1),(2,1),(3,1),(4,1),(5,1),(6,1),(7,1)] []),on (.st 8 (.t 2) (.t 18)),oo 3 (.mv (.c (.bool false)))])
 .ret)
 .skip))
 (.seq (.reg [om 19 0,oo 20 (.idx (.t 19) (.c (.j 0))),oo 21 (.cvi .i64 (.t 20)),oo 22 (.bld [.j 0,.j 0,.j 0,.j 0,.j 0,.str [],.str [],.str []] [(0,1),(1,1),(2,1),(3,1),(4,1),(5,1),(6,1),(7,1)] [(0,(.t 21))]),oo 4 (.al [.j 0,.j 0,.j 0,.j 0,.j 0,.str [],.str [],.str []]),on (.st 8 (.t 4) (.t 22))])
 (.seq (.reg [oo 5 (.mv (.c (.j 1)))])
 (.seq (.seq (.reg [oo 23 (.fa 1 (.t 4)),oo 24 (.fa 2 (.t 4)),oo 25 (.fa 3 (.t 4)),oo 26 (.fa 4 (.t 4)),oo 27 (.bs 1 [.und] 4 [(0,(.t 23)),(1,(.t 24)),(2,(.t 25)),(3,(.t 26))]),oo 28 (.lenl (.t 27)),oo 29 (.mv (.c (.j 0)))])
 (.blk 0 (.loop (.seq (.reg [oo 30 (.bin .lss (.t 29) (.t 28))])
 (.seq (.cond (.t 30) .skip
 (.exit 0))
 (.seq (.blk 1 (.seq (.reg [oo 31 (.ia 1 (.t 27) (.t 29)),oo 32 (.ld false 1 (.t 31)),om 7 32])
 (.seq (.reg [om 34 0,om 35 5,oo 36 (.cl (.c (.fn 103 [])) [(.t 34),(.t 35)]),om 33 36,oo 37 (.ext (.t 33) 0),oo 38 (.ext (.t 33) 1),oo 39 (.ext (.t 33) 2),om 8 37,om 9 38,om 10 39])
 (.seq (.seq (.reg [om 40 10,oo 41 (.un .not (.t 40))])
 (.cond (.t 41) (.seq (.reg [oo 42 (.bld [.j 0,.j 0,.j 0,.j 0,.j 0,.str [],.str [],.str []] [(0,1),(1,1),(2,1),(3,1),(4,1),(5,1),(6,1),(7,1)] []),on (.st 8 (.t 2) (.t 42)),oo 3 (.mv (.c (.bool false)))])
 .ret)
 .skip))
 (.seq (.reg [om 43 7,om 44 8,oo 45 (.nc (.t 43)),on (.st 1 (.t 45) (.t 44))])
 (.reg [om 46 9,om 5 46]))))))
 (.reg [oo 47 (.bin .add (.t 29) (.c (.j 1))),om 29 47])))))))
 (.seq (.seq (.reg [oo 48 (.fa 5 (.t 4)),oo 49 (.fa 6 (.t 4)),oo 50 (.fa 7 (.t 4)),oo 51 (.bs 1 [.und] 3 [(0,(.t 48)),(1,(.t 49)),(2,(.t 50))]),oo 52 (.lenl (.t 51)),oo 53 (.mv (.c (.j 0)))])
 (.blk 2 (.loop (.seq (.reg [oo 54 (.bin .lss (.t 53) (.t 52))])
 (.seq (.cond (.t 54) .skip
 (.exit 2))
 (.seq (.blk 3 (.seq (.reg [oo 55 (.ia 1 (.t 51) (.t 53)),oo 56 (.ld false 1 (.t 55)),om 12 56])
 (.seq (.reg [om 58 0,om 59 5,oo 60 (.cl (.c (.fn 101 [])) [(.t 58),(.t 59)]),om 57 60,oo 61 (.ext (.t 57) 0),oo 62 (.ext (.t 57) 1),oo 63 (.ext (.t 57) 2),om 13 61,om 14 62,om 15 63])
 (.seq (.seq (.reg [om 64 15,oo 65 (.un .not (.t 64))])
 (.cond (.t 65) (.seq (.reg [oo 66 (.bld [.j 0,.j 0,.j 0,.j 0,.j 0,.str [],.str [],.str []] [(0,1),(1,1),(2,1),(3,1),(4,1),(5,1),(6,1),(7,1)] []),on (.st 8 (.t 2) (.t 66)),oo 3 (.mv (.c (.bool false)))])
 .ret)
 .skip))
 (.seq (.reg [om 67 12,om 68 13,oo 69 (.nc (.t 67)),on (.st 1 (.t 69) (.t 68))])
 (.reg [om 70 14,om 5 70]))))))
 (.reg [oo 71 (.bin .add (.t 53) (.c (.j 1))),om 53 71])))))))
 (.seq (.seq (.reg [om 72 5,om 73 0,oo 74 (.lens (.t 73)),oo 75 (.bin .neq (.t 72) (.t 74)),om 76 75,⟨(some 77),(some (76,false)),.ld true 8 (.t 4)⟩,⟨(some 78),(some (76,false)),.cl (.c (.fn 124 [])) [(.t 77)]⟩,⟨(some 79),(some (76,false)),.un .not (.t 78)⟩,oo 80 (.pick (.t 76) (.c (.bool true)) (.t 79))])
 (.cond (.t 80) (.seq (.reg [oo 81 (.bld [.j 0,.j 0,.j 0,.j 0,.j 0,.str [],.str [],.str []] [(0,1),(1,1),(2,1),(3,1),(4,1),(5,1),(6,1),(7,1)] []),on (.st 8 (.t 2) (.t 81)),oo 3 (.mv (.c (.bool false)))])
 .ret)
 .skip))
 (.seq (.reg [oo 82 (.ld true 8 (.t 4)),on (.st 8 (.t 2) (.t 82)),oo 3 (.mv (.c (.bool true)))])
 .ret))))))))
theorem A0o : FnOk Tryz.prog 135 83 Za [.cell 2 true 8,.t 3]:=⟨Tryz.f135,_,[],Tryz.func135,rfl,rfl,by kernel_rfl,by kernel_rfl,follows⟩
theorem Zr : okF Tryz.prog 135 = true:=by kernel_rfl
def Tr : RC :=
 (.seq (.reg [oo 1 (.bx (.t 0)),oo 2 (.al [.j 0,.j 0,.j 0,.j 0,.j 0,.j 0,.str [],.str [],.str []]),oo 3 (.mv (.c (.bool false)))])
 (.seq (.reg [oo 7 (.fa 2 (.t 1)),oo 8 (.ld false 1 (.t 7)),oo 9 (.cl (.c (.fn 135 [])) [(.t 8)]),om 6 9,oo 10 (.ext (.t 6) 0),oo 11 (.ext (.t 6) 1),oo 4 (.al [.j 0,.j 0,.j 0,.j 0,.j 0,.str [],.str [],.str []]),on (.st 8 (.t 4) (.t 10)),om 5 11])
 (.seq (.seq (.reg [om 12 5,oo 13 (.un .not (.t 12)),om 14 13,⟨(some 15),(some (14,false)),.ld true 3 (.t 1)⟩,⟨(some 16),(some (14,false)),.cl (.c (.fn 136 [])) [(.t 15)]⟩,⟨(some 17),(some (14,false)),.un .not (.t 16)⟩,oo 18 (.pick (.t 14) (.c (.bool true)) (.t 17))])
 (.cond (.t 18) (.seq (.reg [oo 19 (.bld [.j 0,.j 0,.j 0,.j 0,.j 0,.j 0,.str [],.str [],.str []] [(0,1),(1,8)] []),on (.st 9 (.t 2) (.t 19)),oo 3 (.mv (.c (.bool false)))])
 .ret)
 .skip))
 (.seq (.reg [oo 20 (.fa 1 (.t 1)),oo 21 (.ld false 1 (.t 20)),oo 22 (.ld true 8 (.t 4)),oo 23 (.bld [.j 0,.j 0,.j 0,.j 0,.j 0,.j 0,.str [],.str [],.str []] [(0,1),(1,8)] [(0,(.t 21)),(1,(.t 22))]),on (.st 9 (.t 2) (.t 23)),oo 3 (.mv (.c (.bool true)))])
 .ret))))
theorem Vo : FnOk Tryz.prog 72 24 Tr [.cell 2 true 9,.t 3]:=⟨Tryz.f72,_,[],Tryz.func72,rfl,rfl,by kernel_rfl,by kernel_rfl,follows⟩
theorem Rb : okF Tryz.prog 72 = true:=by kernel_rfl
def A1l : RC :=
 (.seq (.reg [oo 2 (.bx (.t 0)),oo 3 (.bx (.t 1)),oo 4 (.mv (.c (.bool false)))])
 (.seq (.reg [oo 12 (.ld true 2 (.t 2)),oo 13 (.fa 0 (.t 3)),oo 14 (.ld false 1 (.t 13)),oo 15 (.cl (.c (.fn 71 [])) [(.t 12),(.t 14)]),om 11 15,oo 16 (.ext (.t 11) 0),oo 17 (.ext (.t 11) 1),om 5 16,om 6 17])
 (.seq (.seq (.drw [oo 18 (.ld true 2 (.t 2)),oo 19 (.fa 0 (.t 3)),oo 20 (.ld false 1 (.t 19)),oo 21 (.cl (.c (.fn 65 [])) [(.t 18),(.t 20)]),oo 22 (.fa 1 (.t 3)),oo 23 (.ld false 1 (.t 22)),oo 24 (.bin .neq (.t 21) (.t 23)),om 25 24,⟨(some 26),(some (25,false)),.fa 1 (.t 3)⟩,⟨(some 27),(some (25,false)),.ld false 1 (.t 26)⟩,⟨(some 28),(some (25,false)),.bin .eql (.t 27) (.c (.j 0))⟩,oo 29 (.pick (.t 25) (.c (.bool true)) (.t 28)),om 30 29,⟨(some 31),(some (30,false)),.mv (.t 6)⟩,⟨(some 32),(some (30,false)),.fa 2 (.t 3)⟩,⟨(some 33),(some (30,false)),.ld false 1 (.t 32)⟩,⟨(some 34),(some (30,false)),.bin .neq (.t 31) (.t 33)⟩,oo 35 (.pick (.t 30) (.c (.bool true)) (.t 34)),om 36 35,⟨(some 37),(some (36,false)),.mv (.t 5)⟩,⟨(some 38),(some (36,false)),.lenl (.t 37)⟩,⟨(some 39),(some (36,false)),.fa 3 (.t 3)⟩,⟨(some 40),(some (36,false)),.ld false 1 (.t 39)⟩,⟨(some 41),(some (36,false)),.lenl (.t 40)⟩,⟨(some 42),(some (36,false)),.bin .neq (.t 38) (.t 41)⟩,oo 43 (.pick (.t 36) (.c (.bool true)) (.t 42))] [.val [],.val [],.val [],.val [],.val [],.val [],.val [],.val [],.val [],.val [],.val [],.val [],.val [],.val [],.val [],.val [],.val [],.val [],.val [],.val [],.val [],.val [],.val [],.val [],.val [],.val []])
 (.cond (.t 43) (.seq (.reg [oo 4 (.mv (.c (.bool false)))])
 .ret)
 .skip))
 (.seq (.seq (.reg [om 44 5,oo 45 (.lenl (.t 44)),oo 46 (.mv (.c (.j 0)))])
 (.blk 0 (.loop (.seq (.reg [oo 47 (.bin .lss (.t 46) (.t 45))])
 (.seq (.cond (.t 47) .skip
 (.exit 0))
 (.seq (.blk 1 (.seq (.reg [om 48 46,oo 49 (.ia 3 (.t 44) (.t 46)),oo 50 (.ld true 3 (.t 49)),oo 8 (.al [.j 0,.j 0,.str []]),om 7 48,on (.st 3 (.t 8) (.t 50))])
 (.seq (.reg [oo 52 (.ld true 3 (.t 8)),oo 53 (.cl (.c (.fn 72 [])) [(.t 52)]),om 51 53,oo 54 (.ext (.t 51) 0),oo 55 (.ext (.t 51) 1),oo 9 (.al [.j 0,.j 0,.j 0,.j 0,.j 0,.j 0,.str [],.str [],.str []]),on (.st 9 (.t 9) (.t 54)),om 10 55])
 (.seq (.drw [om 56 10,oo 57 (.un .not (.t 56)),om 58 57,⟨(some 59),(some (58,false)),.ld true 9 (.t 9)⟩,⟨(some 60),(some (58,false)),.fa 3 (.t 3)⟩,⟨(some 61),(some (58,false)),.ld false 1 (.t 60)⟩,⟨(some 62),(some (58,false)),.mv (.t 7)⟩,⟨(some 63),(some (58,false)),.ia 9 (.t 61) (.t 62)⟩,⟨(some 64),(some (58,false)),.ld true 9 (.t 63)⟩,⟨(some 65),(some (58,false)),.equ true [(0,1),(1,1),(2,1),(3,1),(4,1),(5,1),(6,2),(7,2),(8,2)] (.t 59) (.t 64)⟩,oo 66 (.pick (.t 58) (.c (.bool true)) (.t 65))] [.val [],.val [],.val [],.val [],.val [],.val [],.val [],.val [],.val [],.val [],.val []])
 (.cond (.t 66) (.seq (.reg [oo 4 (.mv (.c (.bool false)))])
 .ret)
 .skip)))))
 (.reg [oo 67 (.bin .add (.t 46) (.c (.j 1))),om 46 67])))))))
 (.seq (.reg [oo 4 (.mv (.c (.bool true)))])
 .ret)))))
theorem A36 : FnOk Tryz.prog 58 68 A1l [.t 4]:=⟨Tryz.f58,_,[],Tryz.func58,rfl,rfl,by kernel_rfl,by kernel_rfl,follows⟩
theorem Lf : okF Tryz.prog 58 = true:=by kernel_rfl
def Xs : RC :=
 (.seq (.reg [oo 2 (.bx (.t 0)),oo 3 (.mv (.c (.bool false)))])
 (.seq (.reg [oo 4 (.fa 0 (.t 2)),oo 5 (.ld false 1 (.t 4)),oo 6 (.fa 5 (.t 1)),oo 7 (.ld false 1 (.t 6)),oo 8 (.bin .geq (.t 5) (.t 7)),om 9 8,⟨(some 10),(some (9,false)),.fa 1 (.t 2)⟩,⟨(some 11),(some (9,false)),.fa 1 (.t 10)⟩,⟨(some 12),(some (9,false)),.ld false 1 (.t 11)⟩,⟨(some 13),(some (9,false)),.fa 7 (.t 1)⟩,⟨(some 14),(some (9,false)),.ld false 1 (.t 13)⟩,⟨(some 15),(some (9,false)),.bin .geq (.t 12) (.t 14)⟩,oo 16 (.pick (.t 9) (.c (.bool true)) (.t 15)),om 3 16])
 .ret))
theorem A0c : FnOk Tryz.prog 61 17 Xs [.t 3]:=⟨Tryz.f61,_,[],Tryz.func61,rfl,rfl,by kernel_rfl,by kernel_rfl,follows⟩
theorem Zm : okF Tryz.prog 61 = true:=by kernel_rfl
def Hg : RC :=
 (.seq (.reg [oo 4 (.mv (.c (.j 0)))])
 (.seq (.seq (.reg [om 6 0,oo 7 (.lenl (.t 6)),oo 8 (.mv (.c (.j 0)))])
 (.blk 0 (.loop (.seq (.reg [oo 9 (.bin .lss (.t 8) (.t 7))])
 (.seq (.cond (.t 9) .skip
 (.exit 0))
 (.seq (.blk 1 (.seq (.reg [om 10 8,om 5 10])
 (.seq (.reg [om 11 1,om 12 0,om 13 5,oo 14 (.ia 9 (.t 12) (.t 13)),oo 15 (.ld true 9 (.t 14)),oo 16 (.cl (.t 11) [(.t 15)])])
 (.cond (.t 16) (.seq (.reg [om 17 5,om 4 17])
 .ret)
 .skip))))
 (.reg [oo 18 (.bin .add (.t 8) (.c (.j 1))),om 8 18])))))))
 (.seq (.reg [oo 4 (.mv (.c (.j (-1))))])
 .ret)))
theorem Cz : FnOk Tryz.prog 123 19 Hg [.t 4]:=⟨Tryz.f123,_,[],Tryz.func123,rfl,rfl,by kernel_rfl,by kernel_rfl,follows⟩
theorem Ck : okF Tryz.prog 123 = true:=by kernel_rfl
def Fr : RC :=
 (.seq (.reg [oo 4 (.mv (.c (.bool false)))])
 (.seq (.reg [om 5 0,om 6 1,oo 7 (.cl (.c (.fn 123 [])) [(.t 5),(.t 6)]),oo 8 (.bin .geq (.t 7) (.c (.j 0))),om 4 8])
 .ret))
theorem Bg : FnOk Tryz.prog 60 9 Fr [.t 4]:=⟨Tryz.f60,_,[],Tryz.func60,rfl,rfl,by kernel_rfl,by kernel_rfl,follows⟩
theorem Ai : okF Tryz.prog 60 = true:=by kernel_rfl
def Qy : RC :=
 (.seq (.reg [oo 2 (.bx (.t 0)),oo 3 (.mv (.c (.bool false)))])
 (.seq (.reg [oo 4 (.fa 0 (.t 2)),oo 5 (.ld false 1 (.t 4)),oo 6 (.fa 0 (.t 1)),oo 7 (.ld false 1 (.t 6)),oo 8 (.bin .eql (.t 5) (.t 7)),om 9 8,⟨(some 10),(some (9,true)),.ld true 9 (.t 2)⟩,⟨(some 11),(some (9,true)),.ld true 9 (.t 1)⟩,⟨(some 12),(some (9,true)),.equ true [(0,1),(1,1),(2,1),(3,1),(4,1),(5,1),(6,2),(7,2),(8,2)] (.t 10) (.t 11)⟩,oo 13 (.pick (.t 9) (.t 12) (.c (.bool false))),om 3 13])
 .ret))
theorem Vt : FnOk Tryz.prog 125 14 Qy [.t 3]:=⟨Tryz.f125,_,[],Tryz.func125,rfl,rfl,by kernel_rfl,by kernel_rfl,follows⟩
theorem Rq : okF Tryz.prog 125 = true:=by kernel_rfl
def Yf : RC :=
 (.seq (.reg [oo 2 (.mv (.c (.bool false)))])
 (.seq (.seq (.reg [om 5 0,oo 6 (.lenl (.t 5)),oo 7 (.bin .gtr (.t 6) (.c (.j 200)))])
 (.cond (.t 7) (.seq (.reg [oo 2 (.mv (.c (.bool false)))])
 .ret)
 .skip))
 (.seq (.seq (.reg [om 8 0,oo 9 (.lenl (.t 8)),oo 10 (.mv (.c (.j 0)))])
 (.blk 0 (.loop (.seq (.reg [oo 11 (.bin .lss (.t 10) (.t 9))])
 (.seq (.cond (.t 11) .skip
 (.exit 0))
 (.seq (.blk 1 (.seq (.reg [om 12 10,oo 13 (.ia 9 (.t 8) (.t 10)),oo 14 (.ld true 9 (.t 13)),oo 4 (.al [.j 0,.j 0,.j 0,.j 0,.j 0,.j 0,.str [],.str [],.str []]),om 3 12,on (.st 9 (.t 4) (.t 14))])
 (.seq (.seq (.reg [oo 15 (.fa 0 (.t 4)),oo 16 (.ld false 1 (.t 15)),oo 17 (.cl (.c (.fn 57 [])) [(.t 16),(.c (.j 1)),(.c (.j 1000000000))]),oo 18 (.un .not (.t 17)),om 19 18,⟨(some 20),(some (19,false)),.fa 1 (.t 4)⟩,⟨(some 21),(some (19,false)),.ld true 8 (.t 20)⟩,⟨(some 22),(some (19,false)),.cl (.c (.fn 124 [])) [(.t 21)]⟩,⟨(some 23),(some (19,false)),.un .not (.t 22)⟩,oo 24 (.pick (.t 19) (.c (.bool true)) (.t 23))])
 (.cond (.t 24) (.seq (.reg [oo 2 (.mv (.c (.bool false)))])
 .ret)
 .skip))
 (.seq (.reg [om 25 0,om 26 3,oo 27 (.sle 9 (.t 25) none (some (.t 26))),oo 28 (.mkf 125 [(.t 4)]),oo 29 (.cl (.c (.fn 60 [])) [(.t 27),(.t 28)])])
 (.cond (.t 29) (.seq (.reg [oo 2 (.mv (.c (.bool false)))])
 .ret)
 .skip)))))
 (.reg [oo 30 (.bin .add (.t 10) (.c (.j 1))),om 10 30])))))))
 (.seq (.reg [oo 2 (.mv (.c (.bool true)))])
 .ret))))
theorem A0h : FnOk Tryz.prog 62 31 Yf [.t 2]:=⟨Tryz.f62,_,[],Tryz.func62,rfl,rfl,by kernel_rfl,by kernel_rfl,follows⟩
theorem Xu : okF Tryz.prog 62 = true:=by kernel_rfl
def A3b : RC :=
 (.seq (.reg [oo 1 (.bx (.t 0)),oo 2 (.mv (.c (.bool false)))])
 (.seq (.seq (.drw [oo 5 (.fa 0 (.t 1)),oo 6 (.ld true 2 (.t 5)),oo 7 (.cl (.c (.fn 55 [])) [(.t 6)]),oo 8 (.un .not (.t 7)),om 9 8,⟨(some 10),(some (9,false)),.fa 0 (.t 1)⟩,⟨(some 11),(some (9,false)),.fa 1 (.t 10)⟩,⟨(some 12),(some (9,false)),.ld false 1 (.t 11)⟩,⟨(some 13),(some (9,false)),.lenl (.t 12)⟩,⟨(some 14),(some (9,false)),.bin .neq (.t 13) (.c (.j 0))⟩,oo 15 (.pick (.t 9) (.c (.bool true)) (.t 14)),om 16 15,⟨(some 17),(some (16,false)),.fa 2 (.t 1)⟩,⟨(some 18),(some (16,false)),.ld false 1 (.t 17)⟩,⟨(some 19),(some (16,false)),.bin .eql (.t 18) (.c (.j 0))⟩,oo 20 (.pick (.t 16) (.c (.bool true)) (.t 19)),om 21 20,⟨(some 22),(some (21,false)),.fa 2 (.t 1)⟩,⟨(some 23),(some (21,false)),.ld false 1 (.t 22)⟩,⟨(some 24),(some (21,false)),.fa 0 (.t 1)⟩,⟨(some 25),(some (21,false)),.ld true 2 (.t 24)⟩,⟨(some 26),(some (21,false)),.cl (.c (.fn 56 [])) [(.t 25)]⟩,⟨(some 27),(some (21,false)),.bin .neq (.t 23) (.t 26)⟩,oo 28 (.pick (.t 21) (.c (.bool true)) (.t 27)),om 29 28,⟨(some 30),(some (29,false)),.fa 3 (.t 1)⟩,⟨(some 31),(some (29,false)),.ld false 1 (.t 30)⟩,⟨(some 32),(some (29,false)),.lenl (.t 31)⟩,⟨(some 33),(some (29,false)),.fa 2 (.t 1)⟩,⟨(some 34),(some (29,false)),.ld false 1 (.t 33)⟩,⟨(some 35),(some (29,false)),.cl (.c (.fn 57 [])) [(.t 32),(.c (.j 1)),(.t 34)]⟩,⟨(some 36),(some (29,false)),.un .not (.t 35)⟩,oo 37 (.pick (.t 29) (.c (.bool true)) (.t 36))] [.val [],.val [],.val [],.val [],.val [],.val [],.val [],.val [],.val [],.val [],.val [],.val [],.val [],.val [],.val [],.val [],.val [],.val [],.val [],.val [],.val [],.val [],.val [],.val [],.val [],.val [],.val [],.val [],.val [],.val [],.val [],.val [],.val []])
 (.cond (.t 37) (.seq (.reg [oo 2 (.mv (.c (.bool false)))])
 .ret)
 .skip))
 (.seq (.seq (.reg [oo 38 (.fa 4 (.t 1)),oo 39 (.ld false 1 (.t 38)),oo 40 (.cl (.c (.fn 57 [])) [(.t 39),(.c (.j 1)),(.c (.j 1000000000))]),oo 41 (.un .not (.t 40)),om 42 41,⟨(some 43),(some (42,false)),.fa 5 (.t 1)⟩,⟨(some 44),(some (42,false)),.ld false 1 (.t 43)⟩,⟨(some 45),(some (42,false)),.cl (.c (.fn 57 [])) [(.t 44),(.c (.j 1)),(.c (.j 1000000000))]⟩,⟨(some 46),(some (42,false)),.un .not (.t 45)⟩,oo 47 (.pick (.t 42) (.c (.bool true)) (.t 46)),om 48 47,⟨(some 49),(some (48,false)),.fa 7 (.t 1)⟩,⟨(some 50),(some (48,false)),.ld false 1 (.t 49)⟩,⟨(some 51),(some (48,false)),.cl (.c (.fn 57 [])) [(.t 50),(.c (.j 1)),(.c (.j 1000000000))]⟩,⟨(some 52),(some (48,false)),.un .not (.t 51)⟩,oo 53 (.pick (.t 48) (.c (.bool true)) (.t 52)),om 54 53,⟨(some 55),(some (54,false)),.fa 6 (.t 1)⟩,⟨(some 56),(some (54,false)),.ld false 1 (.t 55)⟩,⟨(some 57),(some (54,false)),.cl (.c (.fn 57 [])) [(.t 56),(.c (.j 1)),(.c (.j 1000000000))]⟩,⟨(some 58),(some (54,false)),.un .not (.t 57)⟩,oo 59 (.pick (.t 54) (.c (.bool true)) (.t 58))])
 (.cond (.t 59) (.seq (.reg [oo 2 (.mv (.c (.bool false)))])
 .ret)
 .skip))
 (.seq (.seq (.reg [oo 60 (.fa 3 (.t 1)),oo 61 (.ld false 1 (.t 60)),oo 62 (.lenl (.t 61)),oo 63 (.mv (.c (.j 0)))])
 (.blk 0 (.loop (.seq (.reg [oo 64 (.bin .lss (.t 63) (.t 62))])
 (.seq (.cond (.t 64) .skip
 (.exit 0))
 (.seq (.blk 1 (.seq (.reg [om 65 63,oo 66 (.ia 4 (.t 61) (.t 63)),oo 67 (.ld true 4 (.t 66)),oo 4 (.al [.j 0,.j 0,.j 0,.nils]),om 3 65,on (.st 4 (.t 4) (.t 67))])
 (.seq (.seq (.drw [oo 68 (.fa 0 (.t 4)),oo 69 (.ld false 1 (.t 68)),oo 70 (.fa 2 (.t 1)),oo 71 (.ld false 1 (.t 70)),oo 72 (.bin .sub (.t 71) (.c (.j 1))),oo 73 (.cl (.c (.fn 57 [])) [(.t 69),(.c (.j 0)),(.t 72)]),oo 74 (.un .not (.t 73)),om 75 74,⟨(some 76),(some (75,false)),.fa 1 (.t 4)⟩,⟨(some 77),(some (75,false)),.ld false 1 (.t 76)⟩,⟨(some 78),(some (75,false)),.fa 4 (.t 1)⟩,⟨(some 79),(some (75,false)),.ld false 1 (.t 78)⟩,⟨(some 80),(some (75,false)),.bin .geq (.t 77) (.t 79)⟩,oo 81 (.pick (.t 75) (.c (.bool true)) (.t 80)),om 82 81,⟨(some 83),(some (82,false)),.mv (.t 3)⟩,⟨(some 84),(some (82,false)),.bin .gtr (.t 83) (.c (.j 0))⟩,⟨(some 85),(some (82,false)),.mv (.t 84)⟩,⟨(some 86),(some (85,true)),.fa 3 (.t 1)⟩,⟨(some 87),(some (85,true)),.ld false 1 (.t 86)⟩,⟨(some 88),(some (85,true)),.mv (.t 3)⟩,⟨(some 89),(some (85,true)),.bin .sub (.t 88) (.c (.j 1))⟩,⟨(some 90),(some (85,true)),.ia 4 (.t 87) (.t 89)⟩,⟨(some 91),(some (85,true)),.fa 1 (.t 90)⟩,⟨(some 92),(some (85,true)),.ld false 1 (.t 91)⟩,⟨(some 93),(some (85,true)),.fa 1 (.t 4)⟩,⟨(some 94),(some (85,true)),.ld false 1 (.t 93)⟩,⟨(some 95),(some (85,true)),.bin .geq (.t 92) (.t 94)⟩,⟨(some 96),(some (82,false)),.pick (.t 85) (.t 95) (.c (.bool false))⟩,oo 97 (.pick (.t 82) (.c (.bool true)) (.t 96)),om 98 97,⟨(some 99),(some (98,false)),.fa 0 (.t 1)⟩,⟨(some 100),(some (98,false)),.ld true 2 (.t 99)⟩,⟨(some 101),(some (98,false)),.ld true 4 (.t 4)⟩,⟨(some 102),(some (98,false)),.cl (.c (.fn 58 [])) [(.t 100),(.t 101)]⟩,⟨(some 103),(some (98,false)),.un .not (.t 102)⟩,oo 104 (.pick (.t 98) (.c (.bool true)) (.t 103))] [.val [],.val [],.val [],.val [],.val [],.val [],.val [],.val [],.val [],.val [],.val [],.val [],.val [],.val [],.val [],.val [],.val [],.val [],.val [],.val [],.val [],.val [],.val [],.val [],.val [],.val [],.val [],.val [],.val [],.val [],.val [],.val [],.val [],.val [],.val [],.val [],.val []])
 (.cond (.t 104) (.seq (.reg [oo 2 (.mv (.c (.bool false)))])
 .ret)
 .skip))
 (.seq (.seq (.reg [oo 105 (.fa 3 (.t 1)),oo 106 (.ld false 1 (.t 105)),om 107 3,oo 108 (.sle 4 (.t 106) none (some (.t 107))),oo 109 (.mkf 59 [(.t 4)]),oo 110 (.cl (.c (.fn 50 [])) [(.t 108),(.t 109)])])
 (.cond (.t 110) (.seq (.reg [oo 2 (.mv (.c (.bool false)))])
 .ret)
 .skip))
 (.seq (.reg [oo 111 (.fa 3 (.t 4)),oo 112 (.ld false 1 (.t 111)),oo 113 (.mkf 61 [(.t 1)]),oo 114 (.cl (.c (.fn 60 [])) [(.t 112),(.t 113)])])
 (.cond (.t 114) (.seq (.reg [oo 2 (.mv (.c (.bool false)))])
 .ret)
 .skip))))))
 (.reg [oo 115 (.bin .add (.t 63) (.c (.j 1))),om 63 115])))))))
 (.seq (.reg [oo 116 (.ld true 8 (.t 1)),oo 117 (.cl (.c (.fn 16 [])) [(.t 116)]),oo 118 (.cl (.c (.fn 62 [])) [(.t 117)]),om 2 118])
 .ret)))))
theorem A4v : FnOk Tryz.prog 14 119 A3b [.t 2]:=⟨Tryz.f14,_,[],Tryz.func14,rfl,rfl,by kernel_rfl,by kernel_rfl,follows⟩
theorem Mu : okF Tryz.prog 14 = true:=by kernel_rfl
def Kz : RC :=
 (.seq (.reg [oo 2 (.mv (.c (.nils)))])
 (.seq (.seq (.reg [om 3 0,oo 4 (.isn false (.t 3))])
 (.cond (.t 4) (.seq (.reg [oo 2 (.mv (.c (.nils)))])
 .ret)
 .skip))
 (.seq (.reg [oo 5 (.mv (.c (.nils))),om 6 0,oo 7 (.app 9 96 (.t 5) (.t 6)),om 2 7])
 .ret)))
theorem Mn : FnOk Tryz.prog 118 8 Kz [.t 2]:=⟨Tryz.f118,_,[],Tryz.func118,rfl,rfl,by kernel_rfl,by kernel_rfl,follows⟩
theorem Lo : okF Tryz.prog 118 = true:=by kernel_rfl
def Jk : RC :=
 (.seq (.reg [oo 2 (.mv (.c (.nils)))])
 (.seq (.seq (.reg [om 3 0,oo 4 (.isn false (.t 3))])
 (.cond (.t 4) (.seq (.reg [oo 2 (.mv (.c (.nils)))])
 .ret)
 .skip))
 (.seq (.reg [oo 5 (.mv (.c (.nils))),om 6 0,oo 7 (.app 1 16 (.t 5) (.t 6)),om 2 7])
 .ret)))
theorem Kh : FnOk Tryz.prog 127 8 Jk [.t 2]:=⟨Tryz.f127,_,[],Tryz.func127,rfl,rfl,by kernel_rfl,by kernel_rfl,follows⟩
theorem Ji : okF Tryz.prog 127 = true:=by kernel_rfl
def Kk : RC :=
 (.seq (.reg [oo 2 (.mv (.c (.nils)))])
 (.seq (.seq (.reg [om 3 0,oo 4 (.isn false (.t 3))])
 (.cond (.t 4) (.seq (.reg [oo 2 (.mv (.c (.nils)))])
 .ret)
 .skip))
 (.seq (.reg [oo 5 (.mv (.c (.nils))),om 6 0,oo 7 (.app 2 24 (.t 5) (.t 6)),om 2 7])
 .ret)))
theorem Lj : FnOk Tryz.prog 128 8 Kk [.t 2]:=⟨Tryz.f128,_,[],Tryz.func128,rfl,rfl,by kernel_rfl,by kernel_rfl,follows⟩
theorem Ki : okF Tryz.prog 128 = true:=by kernel_rfl
def Tf : RC :=
 (.seq (.reg [oo 1 (.bx (.t 0)),oo 2 (.al [.nils,.nils])])
 (.seq (.drw [oo 3 (.fa 0 (.t 1)),oo 4 (.ld false 1 (.t 3)),oo 5 (.cl (.c (.fn 127 [])) [(.t 4)]),oo 6 (.fa 1 (.t 1)),oo 7 (.ld false 1 (.t 6)),oo 8 (.cl (.c (.fn 128 [])) [(.t 7)]),oo 9 (.bld [.nils,.nils] [(0,1),(1,1)] [(0,(.t 5)),(1,(.t 8))]),on (.st 2 (.t 2) (.t 9))] [.val [],.val [],.chn [],.val [2],.val [2],.chn [],.val [],.chn []])
 .ret))
theorem Wh : FnOk Tryz.prog 64 10 Tf [.cell 2 true 2]:=⟨Tryz.f64,_,[(1,[2,5])],Tryz.func64,rfl,rfl,by kernel_rfl,by kernel_rfl,follows⟩
theorem L5 : okF Tryz.prog 64 = true:=by kernel_rfl
def Wb : RC :=
 (.seq (.reg [oo 1 (.bx (.t 0)),oo 2 (.al [.nils,.nils,.j 0,.nils,.j 0,.j 0,.j 0,.j 0])])
 (.seq (.reg [oo 6 (.ld true 8 (.t 1)),oo 3 (.al [.nils,.nils,.j 0,.nils,.j 0,.j 0,.j 0,.j 0]),on (.st 8 (.t 3) (.t 6))])
 (.seq (.reg [oo 7 (.fa 0 (.t 1)),oo 8 (.ld true 2 (.t 7)),oo 9 (.cl (.c (.fn 64 [])) [(.t 8)]),oo 10 (.fa 0 (.t 3)),on (.st 2 (.t 10) (.t 9))])
 (.seq (.reg [oo 11 (.fa 3 (.t 3)),on (.st 1 (.t 11) (.c (.nils)))])
 (.seq (.seq (.reg [oo 12 (.fa 3 (.t 1)),oo 13 (.ld false 1 (.t 12)),oo 14 (.lenl (.t 13)),oo 15 (.mv (.c (.j 0)))])
 (.blk 0 (.loop (.seq (.reg [oo 16 (.bin .lss (.t 15) (.t 14))])
 (.seq (.cond (.t 16) .skip
 (.exit 0))
 (.seq (.blk 1 (.seq (.reg [oo 17 (.ia 4 (.t 13) (.t 15)),oo 18 (.ld true 4 (.t 17)),oo 5 (.al [.j 0,.j 0,.j 0,.nils]),on (.st 4 (.t 5) (.t 18))])
 (.seq (.reg [oo 19 (.fa 3 (.t 5)),oo 20 (.ld false 1 (.t 19)),oo 21 (.cl (.c (.fn 118 [])) [(.t 20)]),oo 22 (.fa 3 (.t 5)),on (.st 1 (.t 22) (.t 21))])
 (.reg [oo 23 (.fa 3 (.t 3)),oo 24 (.ld false 1 (.t 23)),oo 25 (.ld true 4 (.t 5)),oo 26 (.bs 4 [.j 0,.j 0,.j 0,.nils] 1 [(0,(.t 25))]),oo 27 (.app 4 48 (.t 24) (.t 26)),oo 28 (.fa 3 (.t 3)),on (.st 1 (.t 28) (.t 27))]))))
 (.reg [oo 29 (.bin .add (.t 15) (.c (.j 1))),om 15 29])))))))
 (.seq (.reg [oo 30 (.ld true 8 (.t 3)),on (.st 8 (.t 2) (.t 30))])
 .ret))))))
theorem Zv : FnOk Tryz.prog 53 31 Wb [.cell 2 true 8]:=⟨Tryz.f53,_,[],Tryz.func53,rfl,rfl,by kernel_rfl,by kernel_rfl,follows⟩
theorem Eb : okF Tryz.prog 53 = true:=by kernel_rfl
def Tb : RC :=
 (.seq (.reg [oo 1 (.bx (.t 0)),oo 2 (.al [.nils,.nils])])
 (.seq (.reg [oo 6 (.ld true 2 (.t 1)),oo 7 (.cl (.c (.fn 64 [])) [(.t 6)]),oo 3 (.al [.nils,.nils]),on (.st 2 (.t 3) (.t 7))])
 (.seq (.seq (.reg [oo 8 (.ld true 2 (.t 1)),oo 9 (.cl (.c (.fn 55 [])) [(.t 8)]),oo 10 (.un .not (.t 9))])
 (.cond (.t 10) (.seq (.reg [oo 11 (.ld true 2 (.t 3)),on (.st 2 (.t 2) (.t 11))])
 .ret)
 .skip))
 (.seq (.seq (.reg [oo 12 (.fa 1 (.t 1)),oo 13 (.ld false 1 (.t 12)),oo 14 (.lenl (.t 13)),oo 15 (.mv (.c (.j 0)))])
 (.blk 0 (.loop (.seq (.reg [oo 16 (.bin .lss (.t 15) (.t 14))])
 (.seq (.cond (.t 16) .skip
 (.exit 0))
 (.seq (.blk 1 (.seq (.reg [oo 17 (.ia 2 (.t 13) (.t 15)),oo 18 (.ld true 2 (.t 17)),oo 5 (.al [.j 0,.str []]),on (.st 2 (.t 5) (.t 18))])
 (.reg [oo 19 (.fa 0 (.t 3)),oo 20 (.ld false 1 (.t 19)),oo 21 (.fa 0 (.t 5)),oo 22 (.ld false 1 (.t 21)),oo 23 (.fa 1 (.t 5)),oo 24 (.ld false 1 (.t 23)),oo 25 (.ia 1 (.t 20) (.t 22)),on (.st 1 (.t 25) (.t 24))])))
 (.reg [oo 26 (.bin .add (.t 15) (.c (.j 1))),om 15 26])))))))
 (.seq (.reg [oo 27 (.fa 1 (.t 3)),on (.st 1 (.t 27) (.c (.nils)))])
 (.seq (.reg [oo 28 (.ld true 2 (.t 3)),on (.st 2 (.t 2) (.t 28))])
 .ret))))))
theorem Uw : FnOk Tryz.prog 70 29 Tb [.cell 2 true 2]:=⟨Tryz.f70,_,[],Tryz.func70,rfl,rfl,by kernel_rfl,by kernel_rfl,follows⟩
theorem Rz : okF Tryz.prog 70 = true:=by kernel_rfl
def Md : RC :=
 (.seq (.reg [oo 3 (.bx (.t 0)),oo 6 (.al [.nils,.nils]),oo 7 (.mv (.c (.bool false)))])
 (.seq (.reg [oo 9 (.ld true 2 (.t 3)),oo 10 (.cl (.c (.fn 64 [])) [(.t 9)]),oo 8 (.al [.nils,.nils]),on (.st 2 (.t 8) (.t 10))])
 (.seq (.reg [oo 11 (.fa 1 (.t 8)),oo 12 (.ld false 1 (.t 11)),om 13 1,om 14 2,oo 15 (.bld [.j 0,.str []] [(0,1),(1,1)] [(0,(.t 13)),(1,(.t 14))]),oo 16 (.bs 2 [.j 0,.str []] 1 [(0,(.t 15))]),oo 17 (.app 2 24 (.t 12) (.t 16)),oo 18 (.fa 1 (.t 8)),on (.st 1 (.t 18) (.t 17))])
 (.seq (.seq (.reg [oo 19 (.ld true 2 (.t 3)),oo 20 (.cl (.c (.fn 55 [])) [(.t 19)]),oo 21 (.un .not (.t 20)),om 22 21,⟨(some 23),(some (22,false)),.ld true 2 (.t 8)⟩,⟨(some 24),(some (22,false)),.cl (.c (.fn 55 [])) [(.t 23)]⟩,⟨(some 25),(some (22,false)),.un .not (.t 24)⟩,oo 26 (.pick (.t 22) (.c (.bool true)) (.t 25))])
 (.cond (.t 26) (.seq (.reg [oo 27 (.ld true 2 (.t 3)),oo 28 (.cl (.c (.fn 64 [])) [(.t 27)]),on (.st 2 (.t 6) (.t 28)),oo 7 (.mv (.c (.bool false)))])
 .ret)
 .skip))
 (.seq (.reg [oo 29 (.ld true 2 (.t 8)),on (.st 2 (.t 6) (.t 29)),oo 7 (.mv (.c (.bool true)))])
 .ret)))))
theorem Ps : FnOk Tryz.prog 133 30 Md [.cell 6 true 2,.t 7]:=⟨Tryz.f133,_,[],Tryz.func133,rfl,rfl,by kernel_rfl,by kernel_rfl,follows⟩
theorem Ml : okF Tryz.prog 133 = true:=by kernel_rfl
def Qf : RC :=
 (.seq (.reg [oo 4 (.bx (.t 0)),oo 8 (.al [.nils,.nils]),oo 9 (.mv (.c (.bool false)))])
 (.seq (.reg [oo 17 (.ld true 2 (.t 4)),oo 18 (.cl (.c (.fn 64 [])) [(.t 17)]),oo 10 (.al [.nils,.nils]),on (.st 2 (.t 10) (.t 18))])
 (.seq (.seq (.reg [om 19 2,oo 20 (.cl (.c (.fn 57 [])) [(.t 19),(.c (.j 0)),(.c (.j 3200))]),oo 21 (.un .not (.t 20)),om 22 21,⟨(some 23),(some (22,false)),.mv (.t 1)⟩,⟨(some 24),(some (22,false)),.fa 0 (.t 4)⟩,⟨(some 25),(some (22,false)),.ld false 1 (.t 24)⟩,⟨(some 26),(some (22,false)),.lenl (.t 25)⟩,⟨(some 27),(some (22,false)),.bin .sub (.t 26) (.c (.j 1))⟩,⟨(some 28),(some (22,false)),.cl (.c (.fn 57 [])) [(.t 23),(.c (.j 0)),(.t 27)]⟩,⟨(some 29),(some (22,false)),.un .not (.t 28)⟩,oo 30 (.pick (.t 22) (.c (.bool true)) (.t 29))])
 (.cond (.t 30) (.seq (.reg [oo 31 (.ld true 2 (.t 10)),on (.st 2 (.t 8) (.t 31)),oo 9 (.mv (.c (.bool false)))])
 .ret)
 .skip))
 (.seq (.reg [oo 32 (.ld true 2 (.t 4)),oo 33 (.cl (.c (.fn 64 [])) [(.t 32)]),oo 11 (.al [.nils,.nils]),on (.st 2 (.t 11) (.t 33))])
 (.seq (.blk 0 (.loop (.seq (.seq (.reg [om 34 3,oo 35 (.bin .neq (.t 34) (.c (.str [])))])
 (.cond (.t 35) .skip
 (.exit 0)))
 (.blk 1 (.seq (.reg [om 36 1,om 37 2,oo 38 (.bin .quo (.t 37) (.c (.j 32))),oo 39 (.bin .add (.t 36) (.t 38)),om 12 39])
 (.seq (.reg [om 40 2,oo 41 (.bin .rem (.t 40) (.c (.j 32))),om 13 41])
 (.seq (.reg [oo 43 (.ld true 2 (.t 11)),om 44 12,oo 45 (.cl (.c (.fn 132 [])) [(.t 43),(.t 44)]),om 42 45,oo 46 (.ext (.t 42) 0),oo 47 (.ext (.t 42) 1),om 14 46,om 15 47])
 (.seq (.seq (.reg [om 48 15,oo 49 (.un .not (.t 48)),om 50 49,⟨(some 51),(some (50,false)),.mv (.t 14)⟩,⟨(some 52),(some (50,false)),.lens (.t 51)⟩,⟨(some 53),(some (50,false)),.bin .neq (.t 52) (.c (.j 32))⟩,oo 54 (.pick (.t 50) (.c (.bool true)) (.t 53))])
 (.cond (.t 54) (.seq (.reg [oo 55 (.ld true 2 (.t 10)),on (.st 2 (.t 8) (.t 55)),oo 9 (.mv (.c (.bool false)))])
 .ret)
 .skip))
 (.seq (.reg [om 56 3,oo 57 (.lens (.t 56)),om 58 13,oo 59 (.bin .sub (.c (.j 32)) (.t 58)),oo 60 (.mn (.t 57) (.t 59)),om 16 60])
 (.seq (.drw [oo 62 (.ld true 2 (.t 11)),om 63 12,om 64 14,om 65 13,oo 66 (.sls (.t 64) none (some (.t 65))),om 67 3,om 68 16,oo 69 (.sls (.t 67) none (some (.t 68))),oo 70 (.bin .add (.t 66) (.t 69)),om 71 14,om 72 13,om 73 16,oo 74 (.bin .add (.t 72) (.t 73)),oo 75 (.sls (.t 71) (some (.t 74)) none),oo 76 (.bin .add (.t 70) (.t 75)),oo 77 (.cl (.c (.fn 133 [])) [(.t 62),(.t 63),(.t 76)]),om 61 77,oo 78 (.ext (.t 61) 0),oo 79 (.ext (.t 61) 1),on (.st 2 (.t 11) (.t 78)),om 15 79] [.val [],.val [],.val [],.val [],.val [],.val [],.val [],.val [],.val [],.val [],.val [],.val [],.val [],.val [],.val [],.chn [],.val [],.val [],.val [],.chn [18],.val []])
 (.seq (.seq (.reg [om 80 15,oo 81 (.un .not (.t 80))])
 (.cond (.t 81) (.seq (.reg [oo 82 (.ld true 2 (.t 10)),on (.st 2 (.t 8) (.t 82)),oo 9 (.mv (.c (.bool false)))])
 .ret)
 .skip))
 (.seq (.reg [om 83 3,om 84 16,oo 85 (.sls (.t 83) (some (.t 84)) none),om 3 85])
 (.reg [om 86 2,om 87 16,oo 88 (.bin .add (.t 86) (.t 87)),om 2 88])))))))))))))
 (.seq (.reg [oo 89 (.ld true 2 (.t 11)),on (.st 2 (.t 8) (.t 89)),oo 9 (.mv (.c (.bool true)))])
 .ret))))))
theorem Uf : FnOk Tryz.prog 68 90 Qf [.cell 8 true 2,.t 9]:=⟨Tryz.f68,_,[(12,[15])],Tryz.func68,rfl,rfl,by kernel_rfl,by kernel_rfl,follows⟩
theorem Pj : okF Tryz.prog 68 = true:=by kernel_rfl
def Ui : RC :=
 (.seq (.reg [oo 4 (.bx (.t 0)),oo 8 (.al [.nils,.nils]),oo 9 (.mv (.c (.bool false)))])
 (.seq (.seq (.reg [om 10 1,oo 11 (.cl (.c (.fn 57 [])) [(.t 10),(.c (.j 0)),(.c (.j 10))]),oo 12 (.un .not (.t 11)),om 13 12,⟨(some 14),(some (13,false)),.mv (.t 2)⟩,⟨(some 15),(some (13,false)),.cl (.c (.fn 57 [])) [(.t 14),(.c (.j 0)),(.c (.j 256))]⟩,⟨(some 16),(some (13,false)),.un .not (.t 15)⟩,oo 17 (.pick (.t 13) (.c (.bool true)) (.t 16)),om 18 17,⟨(some 19),(some (18,false)),.mv (.t 3)⟩,⟨(some 20),(some (18,false)),.lens (.t 19)⟩,⟨(some 21),(some (18,false)),.mv (.t 2)⟩,⟨(some 22),(some (18,false)),.bin .sub (.c (.j 256)) (.t 21)⟩,⟨(some 23),(some (18,false)),.bin .gtr (.t 20) (.t 22)⟩,oo 24 (.pick (.t 18) (.c (.bool true)) (.t 23))])
 (.cond (.t 24) (.seq (.reg [oo 25 (.ld true 2 (.t 4)),oo 26 (.cl (.c (.fn 64 [])) [(.t 25)]),on (.st 2 (.t 8) (.t 26)),oo 9 (.mv (.c (.bool false)))])
 .ret)
 .skip))
 (.seq (.drw [oo 27 (.ld true 2 (.t 4)),om 28 1,oo 29 (.cl (.c (.fn 144 [])) [(.t 28)]),om 30 2,om 31 3,oo 32 (.cl (.c (.fn 68 [])) [(.t 27),(.t 29),(.t 30),(.t 31)]),oo 33 (.ext (.t 32) 0),oo 34 (.ext (.t 32) 1),on (.st 2 (.t 8) (.t 33)),om 9 34] [.val [],.val [],.val [],.val [],.val [],.chn [],.val [],.val [],.chn [],.val []])
 .ret)))
theorem Yr : FnOk Tryz.prog 84 35 Ui [.cell 8 true 2,.t 9]:=⟨Tryz.f84,_,[(3,[5])],Tryz.func84,rfl,rfl,by kernel_rfl,by kernel_rfl,follows⟩
theorem Jg : okF Tryz.prog 84 = true:=by kernel_rfl
def Zd : RC :=
 (.seq (.reg [oo 2 (.bx (.t 0)),oo 4 (.al [.nils,.nils,.j 0,.nils,.j 0,.j 0,.j 0,.j 0]),oo 5 (.mv (.c (.bool false)))])
 (.seq (.reg [oo 12 (.ld true 8 (.t 2)),oo 13 (.cl (.c (.fn 11 [])) [(.t 12)]),om 6 13])
 (.seq (.seq (.reg [om 14 1,oo 15 (.bin .lss (.t 14) (.c (.j 0))),om 16 15,⟨(some 17),(some (16,false)),.mv (.t 6)⟩,⟨(some 18),(some (16,false)),.lenl (.t 17)⟩,⟨(some 19),(some (16,false)),.mv (.t 1)⟩,⟨(some 20),(some (16,false)),.bin .leq (.t 18) (.t 19)⟩,oo 21 (.pick (.t 16) (.c (.bool true)) (.t 20)),om 22 21,⟨(some 23),(some (22,false)),.fa 4 (.t 2)⟩,⟨(some 24),(some (22,false)),.ld false 1 (.t 23)⟩,⟨(some 25),(some (22,false)),.bin .eql (.t 24) (.c (.j 1000000000))⟩,oo 26 (.pick (.t 22) (.c (.bool true)) (.t 25))])
 (.cond (.t 26) (.seq (.reg [oo 27 (.bld [.nils,.nils,.j 0,.nils,.j 0,.j 0,.j 0,.j 0] [(0,2),(2,1),(3,1),(4,1),(5,1),(6,1),(7,1)] []),on (.st 8 (.t 4) (.t 27)),oo 5 (.mv (.c (.bool false)))])
 .ret)
 .skip))
 (.seq (.reg [oo 29 (.fa 4 (.t 2)),oo 30 (.ld false 1 (.t 29)),oo 31 (.bld [.j 0,.j 0,.str []] [(0,1),(1,1),(2,1)] [(0,(.t 30)),(1,(.c (.j 1))),(2,(.c (.str [115,101,103])))]),oo 32 (.cl (.c (.fn 83 [])) [(.t 31)]),om 28 32,oo 33 (.ext (.t 28) 0),oo 34 (.ext (.t 28) 1),om 7 33,om 8 34])
 (.seq (.drw [oo 36 (.fa 0 (.t 2)),oo 37 (.ld true 2 (.t 36)),om 38 6,oo 39 (.ia 1 (.t 38) (.c (.j 0))),oo 40 (.ld false 1 (.t 39)),om 41 7,oo 42 (.cl (.c (.fn 84 [])) [(.t 37),(.t 40),(.c (.j 0)),(.t 41)]),om 35 42,oo 43 (.ext (.t 35) 0),oo 44 (.ext (.t 35) 1),oo 9 (.al [.nils,.nils]),on (.st 2 (.t 9) (.t 43)),om 10 44] [.val [],.val [],.val [],.val [],.val [],.val [],.val [],.val [],.val [],.val [],.chn [0,1,2,3,4,5,6,7,8,9],.chn [9],.val []])
 (.seq (.seq (.reg [om 45 10,oo 46 (.un .not (.t 45))])
 (.cond (.t 46) (.seq (.reg [oo 47 (.bld [.nils,.nils,.j 0,.nils,.j 0,.j 0,.j 0,.j 0] [(0,2),(2,1),(3,1),(4,1),(5,1),(6,1),(7,1)] []),on (.st 8 (.t 4) (.t 47)),oo 5 (.mv (.c (.bool false)))])
 .ret)
 .skip))
 (.seq (.reg [oo 48 (.ld true 8 (.t 2)),oo 49 (.cl (.c (.fn 53 [])) [(.t 48)]),oo 11 (.al [.nils,.nils,.j 0,.nils,.j 0,.j 0,.j 0,.j 0]),on (.st 8 (.t 11) (.t 49))])
 (.seq (.reg [oo 50 (.ld true 2 (.t 9)),oo 51 (.cl (.c (.fn 70 [])) [(.t 50)]),oo 52 (.fa 0 (.t 11)),on (.st 2 (.t 52) (.t 51))])
 (.seq (.drw [oo 53 (.fa 3 (.t 11)),oo 54 (.ld false 1 (.t 53)),om 55 6,oo 56 (.ia 1 (.t 55) (.c (.j 0))),oo 57 (.ld false 1 (.t 56)),oo 58 (.fa 4 (.t 2)),oo 59 (.ld false 1 (.t 58)),om 60 7,oo 61 (.lens (.t 60)),oo 62 (.bld [.j 0,.j 0,.j 0,.nils] [(0,1),(1,1),(2,1),(3,1)] [(0,(.t 57)),(1,(.t 59)),(2,(.t 61))]),oo 63 (.bs 4 [.j 0,.j 0,.j 0,.nils] 1 [(0,(.t 62))]),oo 64 (.app 4 48 (.t 54) (.t 63)),oo 65 (.fa 3 (.t 11)),on (.st 1 (.t 65) (.t 64))] [.val [],.val [],.val [],.val [],.val [],.val [],.val [],.val [],.val [],.val [],.chn [0,1],.chn [],.val [],.chn []])
 (.seq (.reg [oo 66 (.fa 4 (.t 11)),oo 67 (.ld false 1 (.t 66)),oo 68 (.bin .add (.t 67) (.c (.j 1))),oo 69 (.fa 4 (.t 11)),on (.st 1 (.t 69) (.t 68))])
 (.seq (.reg [oo 70 (.ld true 8 (.t 11)),on (.st 8 (.t 4) (.t 70)),oo 5 (.mv (.c (.bool true)))])
 .ret)))))))))))
theorem A1v : FnOk Tryz.prog 52 71 Zd [.cell 4 true 8,.t 5]:=⟨Tryz.f52,_,[],Tryz.func52,rfl,rfl,by kernel_rfl,by kernel_rfl,follows⟩
theorem Yt : okF Tryz.prog 52 = true:=by kernel_rfl
def Xv : RC :=
 (.seq (.reg [oo 2 (.bx (.t 0)),oo 4 (.al [.nils,.nils,.j 0,.nils,.j 0,.j 0,.j 0,.j 0]),oo 5 (.mv (.c (.bool false)))])
 (.seq (.seq (.reg [oo 8 (.ld true 8 (.t 2)),oo 9 (.cl (.c (.fn 14 [])) [(.t 8)])])
 (.cond (.t 9) (.seq (.reg [oo 11 (.ld true 8 (.t 2)),om 12 1,oo 13 (.cl (.c (.fn 52 [])) [(.t 11),(.t 12)]),om 10 13,oo 14 (.ext (.t 10) 0),oo 15 (.ext (.t 10) 1),oo 6 (.al [.nils,.nils,.j 0,.nils,.j 0,.j 0,.j 0,.j 0]),on (.st 8 (.t 6) (.t 14)),om 7 15])
 (.seq (.reg [om 16 7])
 (.cond (.t 16) (.seq (.reg [oo 17 (.ld true 8 (.t 6)),on (.st 8 (.t 4) (.t 17)),oo 5 (.mv (.c (.bool true)))])
 .ret)
 .skip)))
 .skip))
 (.seq (.reg [oo 18 (.ld true 8 (.t 2)),oo 19 (.cl (.c (.fn 53 [])) [(.t 18)]),on (.st 8 (.t 4) (.t 19)),oo 5 (.mv (.c (.bool false)))])
 .ret)))
theorem A1y : FnOk Tryz.prog 12 20 Xv [.cell 4 true 8,.t 5]:=⟨Tryz.f12,_,[],Tryz.func12,rfl,rfl,by kernel_rfl,by kernel_rfl,follows⟩
theorem Zk : okF Tryz.prog 12 = true:=by kernel_rfl
def Zl : RC :=
 (.seq (.reg [oo 2 (.bx (.t 0)),oo 3 (.bx (.t 1)),oo 4 (.mv (.c (.bool false)))])
 (.seq (.seq (.reg [oo 6 (.fa 0 (.t 2)),oo 7 (.ld false 1 (.t 6)),oo 8 (.fa 0 (.t 3)),oo 9 (.ld false 1 (.t 8)),oo 10 (.bin .neq (.t 7) (.t 9)),om 11 10,⟨(some 12),(some (11,false)),.fa 1 (.t 2)⟩,⟨(some 13),(some (11,false)),.ld false 1 (.t 12)⟩,⟨(some 14),(some (11,false)),.fa 1 (.t 3)⟩,⟨(some 15),(some (11,false)),.ld false 1 (.t 14)⟩,⟨(some 16),(some (11,false)),.bin .neq (.t 13) (.t 15)⟩,oo 17 (.pick (.t 11) (.c (.bool true)) (.t 16)),om 18 17,⟨(some 19),(some (18,false)),.fa 2 (.t 2)⟩,⟨(some 20),(some (18,false)),.ld false 1 (.t 19)⟩,⟨(some 21),(some (18,false)),.fa 2 (.t 3)⟩,⟨(some 22),(some (18,false)),.ld false 1 (.t 21)⟩,⟨(some 23),(some (18,false)),.bin .neq (.t 20) (.t 22)⟩,oo 24 (.pick (.t 18) (.c (.bool true)) (.t 23)),om 25 24,⟨(some 26),(some (25,false)),.fa 3 (.t 2)⟩,⟨(some 27),(some (25,false)),.ld false 1 (.t 26)⟩,⟨(some 28),(some (25,false)),.lenl (.t 27)⟩,⟨(some 29),(some (25,false)),.fa 3 (.t 3)⟩,⟨(some 30),(some (25,false)),.ld false 1 (.t 29)⟩,⟨(some 31),(some (25,false)),.lenl (.t 30)⟩,⟨(some 32),(some (25,false)),.bin .neq (.t 28) (.t 31)⟩,oo 33 (.pick (.t 25) (.c (.bool true)) (.t 32))])
 (.cond (.t 33) (.seq (.reg [oo 4 (.mv (.c (.bool false)))])
 .ret)
 .skip))
 (.seq (.seq (.reg [oo 5 (.mv (.c (.j 0)))])
 (.blk 0 (.loop (.seq (.seq (.reg [om 34 5,oo 35 (.fa 3 (.t 2)),oo 36 (.ld false 1 (.t 35)),oo 37 (.lenl (.t 36)),oo 38 (.bin .lss (.t 34) (.t 37))])
 (.cond (.t 38) .skip
 (.exit 0)))
 (.seq (.blk 1 (.seq (.drw [oo 41 (.fa 3 (.t 2)),oo 42 (.ld false 1 (.t 41)),om 43 5,oo 44 (.ia 9 (.t 42) (.t 43)),oo 45 (.ld true 9 (.t 44)),oo 46 (.fa 3 (.t 3)),oo 47 (.ld false 1 (.t 46)),om 48 5,oo 49 (.ia 9 (.t 47) (.t 48)),oo 50 (.ld true 9 (.t 49)),oo 51 (.equ true [(0,1),(1,1),(2,1),(3,1),(4,1),(5,1),(6,2),(7,2),(8,2)] (.t 45) (.t 50))] [.val [],.val [],.val [],.val [],.val [],.val [],.val [],.val [],.val [],.val [],.val []])
 (.cond (.t 51) (.seq (.reg [oo 4 (.mv (.c (.bool false)))])
 .ret)
 .skip)))
 (.reg [om 39 5,oo 40 (.bin .add (.t 39) (.c (.j 1))),om 5 40]))))))
 (.seq (.reg [oo 4 (.mv (.c (.bool true)))])
 .ret))))
theorem A2q : FnOk Tryz.prog 54 52 Zl [.t 4]:=⟨Tryz.f54,_,[],Tryz.func54,rfl,rfl,by kernel_rfl,by kernel_rfl,follows⟩
theorem Zc : okF Tryz.prog 54 = true:=by kernel_rfl
def Zz : RC :=
 (.seq (.reg [oo 2 (.bx (.t 0)),oo 3 (.bx (.t 1)),oo 4 (.mv (.c (.bool false)))])
 (.seq (.seq (.reg [oo 6 (.fa 3 (.t 2)),oo 7 (.ld false 1 (.t 6)),oo 8 (.lenl (.t 7)),oo 9 (.fa 3 (.t 3)),oo 10 (.ld false 1 (.t 9)),oo 11 (.lenl (.t 10)),oo 12 (.bin .neq (.t 8) (.t 11)),om 13 12,⟨(some 14),(some (13,false)),.fa 4 (.t 2)⟩,⟨(some 15),(some (13,false)),.ld false 1 (.t 14)⟩,⟨(some 16),(some (13,false)),.fa 4 (.t 3)⟩,⟨(some 17),(some (13,false)),.ld false 1 (.t 16)⟩,⟨(some 18),(some (13,false)),.bin .neq (.t 15) (.t 17)⟩,oo 19 (.pick (.t 13) (.c (.bool true)) (.t 18)),om 20 19,⟨(some 21),(some (20,false)),.fa 5 (.t 2)⟩,⟨(some 22),(some (20,false)),.ld false 1 (.t 21)⟩,⟨(some 23),(some (20,false)),.fa 5 (.t 3)⟩,⟨(some 24),(some (20,false)),.ld false 1 (.t 23)⟩,⟨(some 25),(some (20,false)),.bin .neq (.t 22) (.t 24)⟩,oo 26 (.pick (.t 20) (.c (.bool true)) (.t 25)),om 27 26,⟨(some 28),(some (27,false)),.fa 7 (.t 2)⟩,⟨(some 29),(some (27,false)),.ld false 1 (.t 28)⟩,⟨(some 30),(some (27,false)),.fa 7 (.t 3)⟩,⟨(some 31),(some (27,false)),.ld false 1 (.t 30)⟩,⟨(some 32),(some (27,false)),.bin .neq (.t 29) (.t 31)⟩,oo 33 (.pick (.t 27) (.c (.bool true)) (.t 32))])
 (.cond (.t 33) (.seq (.reg [oo 4 (.mv (.c (.bool false)))])
 .ret)
 .skip))
 (.seq (.seq (.reg [oo 5 (.mv (.c (.j 0)))])
 (.blk 0 (.loop (.seq (.seq (.reg [om 34 5,oo 35 (.fa 3 (.t 2)),oo 36 (.ld false 1 (.t 35)),oo 37 (.lenl (.t 36)),oo 38 (.bin .lss (.t 34) (.t 37))])
 (.cond (.t 38) .skip
 (.exit 0)))
 (.seq (.blk 1 (.seq (.drw [oo 41 (.fa 3 (.t 2)),oo 42 (.ld false 1 (.t 41)),om 43 5,oo 44 (.ia 4 (.t 42) (.t 43)),oo 45 (.ld true 4 (.t 44)),oo 46 (.fa 3 (.t 3)),oo 47 (.ld false 1 (.t 46)),om 48 5,oo 49 (.ia 4 (.t 47) (.t 48)),oo 50 (.ld true 4 (.t 49)),oo 51 (.cl (.c (.fn 54 [])) [(.t 45),(.t 50)]),oo 52 (.un .not (.t 51))] [.val [],.val [],.val [],.val [],.val [],.val [],.val [],.val [],.val [],.val [],.val [],.val []])
 (.cond (.t 52) (.seq (.reg [oo 4 (.mv (.c (.bool false)))])
 .ret)
 .skip)))
 (.reg [om 39 5,oo 40 (.bin .add (.t 39) (.c (.j 1))),om 5 40]))))))
 (.seq (.reg [oo 4 (.mv (.c (.bool true)))])
 .ret))))
theorem A16 : FnOk Tryz.prog 13 53 Zz [.t 4]:=⟨Tryz.f13,_,[],Tryz.func13,rfl,rfl,by kernel_rfl,by kernel_rfl,follows⟩
theorem Xr : okF Tryz.prog 13 = true:=by kernel_rfl
def Ta : RC :=
 (.seq (.reg [oo 4 (.mv (.c (.bool false)))])
 (.seq (.seq (.reg [om 6 0,oo 7 (.lenl (.t 6)),om 8 1,oo 9 (.lenl (.t 8)),oo 10 (.bin .neq (.t 7) (.t 9))])
 (.cond (.t 10) (.seq (.reg [oo 4 (.mv (.c (.bool false)))])
 .ret)
 .skip))
 (.seq (.seq (.reg [oo 5 (.mv (.c (.j 0)))])
 (.blk 0 (.loop (.seq (.seq (.reg [om 11 5,om 12 0,oo 13 (.lenl (.t 12)),oo 14 (.bin .lss (.t 11) (.t 13))])
 (.cond (.t 14) .skip
 (.exit 0)))
 (.seq (.blk 1 (.seq (.drw [om 17 0,om 18 5,oo 19 (.ia 9 (.t 17) (.t 18)),oo 20 (.ld true 9 (.t 19)),om 21 1,om 22 5,oo 23 (.ia 9 (.t 21) (.t 22)),oo 24 (.ld true 9 (.t 23)),oo 25 (.equ true [(0,1),(1,1),(2,1),(3,1),(4,1),(5,1),(6,2),(7,2),(8,2)] (.t 20) (.t 24))] [.val [],.val [],.val [],.val [],.val [],.val [],.val [],.val [],.val []])
 (.cond (.t 25) (.seq (.reg [oo 4 (.mv (.c (.bool false)))])
 .ret)
 .skip)))
 (.reg [om 15 5,oo 16 (.bin .add (.t 15) (.c (.j 1))),om 5 16]))))))
 (.seq (.reg [oo 4 (.mv (.c (.bool true)))])
 .ret))))
theorem Uk : FnOk Tryz.prog 15 26 Ta [.t 4]:=⟨Tryz.f15,_,[],Tryz.func15,rfl,rfl,by kernel_rfl,by kernel_rfl,follows⟩
theorem Ua : okF Tryz.prog 15 = true:=by kernel_rfl
def Zh : RC :=
 (.seq (.reg [oo 1 (.bx (.t 0)),oo 2 (.mv (.c (.nils)))])
 (.seq (.reg [oo 5 (.mv (.c (.nils))),om 3 5])
 (.seq (.seq (.reg [oo 4 (.mv (.c (.j 0)))])
 (.blk 0 (.loop (.seq (.seq (.reg [om 6 4,oo 7 (.fa 3 (.t 1)),oo 8 (.ld false 1 (.t 7)),oo 9 (.lenl (.t 8)),oo 10 (.bin .lss (.t 6) (.t 9))])
 (.cond (.t 10) .skip
 (.exit 0)))
 (.seq (.blk 1 (.reg [om 13 3,oo 14 (.fa 3 (.t 1)),oo 15 (.ld false 1 (.t 14)),om 16 4,oo 17 (.ia 4 (.t 15) (.t 16)),oo 18 (.fa 3 (.t 17)),oo 19 (.ld false 1 (.t 18)),oo 20 (.app 9 96 (.t 13) (.t 19)),om 3 20]))
 (.reg [om 11 4,oo 12 (.bin .add (.t 11) (.c (.j 1))),om 4 12]))))))
 (.seq (.reg [om 21 3,om 2 21])
 .ret))))
theorem A21 : FnOk Tryz.prog 17 22 Zh [.t 2]:=⟨Tryz.f17,_,[],Tryz.func17,rfl,rfl,by kernel_rfl,by kernel_rfl,follows⟩
theorem Ka : okF Tryz.prog 17 = true:=by kernel_rfl
def A6i : RC :=
 (.seq (.reg [oo 2 (.mv (.c (.bool false)))])
 (.seq (.reg [om 3 0,oo 4 (.lenl (.t 3)),oo 5 (.bin .gtr (.t 4) (.c (.j 1048576))),om 2 5])
 .ret))
theorem A70 : FnOk Tryz.prog 8 6 A6i [.t 2]:=⟨Tryz.f8,_,[],Tryz.func8,rfl,rfl,by kernel_rfl,by kernel_rfl,follows⟩
theorem A5x : okF Tryz.prog 8 = true:=by kernel_rfl
def Zn : RC :=
 (.seq (.reg [oo 4 (.mv (.c (.str [])))])
 (.seq (.reg [om 7 0,oo 8 (.ms 1 [.int .u8 0] 1 (.t 7) (.t 7)),om 5 8])
 (.seq (.seq (.reg [oo 6 (.mv (.c (.j 0)))])
 (.blk 0 (.loop (.seq (.seq (.reg [om 9 6,om 10 0,oo 11 (.bin .lss (.t 9) (.t 10))])
 (.cond (.t 11) .skip
 (.exit 0)))
 (.seq (.blk 1 (.reg [om 14 5,om 15 6,om 16 1,oo 17 (.ia 1 (.t 14) (.t 15)),on (.st 1 (.t 17) (.t 16))]))
 (.reg [om 12 6,oo 13 (.bin .add (.t 12) (.c (.j 1))),om 6 13]))))))
 (.seq (.reg [om 18 5,oo 19 (.cvb (.t 18)),om 4 19])
 .ret))))
theorem A1w : FnOk Tryz.prog 140 20 Zn [.t 4]:=⟨Tryz.f140,_,[],Tryz.func140,rfl,rfl,by kernel_rfl,by kernel_rfl,follows⟩
theorem Yz : okF Tryz.prog 140 = true:=by kernel_rfl
def Zp : RC :=
 (.seq (.reg [oo 0 (.mv (.c (.str [])))])
 (.seq (.reg [oo 1 (.cl (.c (.fn 140 [])) [(.c (.j 32)),(.c (.int .u8 0))]),om 0 1])
 .ret))
theorem A0j : FnOk Tryz.prog 158 2 Zp [.t 0]:=⟨Tryz.f158,_,[],Tryz.func158,rfl,rfl,by kernel_rfl,by kernel_rfl,follows⟩
theorem Yw : okF Tryz.prog 158 = true:=by kernel_rfl
def A2w : RC :=
 (.seq (.reg [oo 6 (.mv (.c (.bool false)))])
 (.seq (.reg [om 7 0,om 8 1,oo 9 (.bin .geq (.t 7) (.t 8)),om 10 9,⟨(some 11),(some (10,true)),.mv (.t 0)⟩,⟨(some 12),(some (10,true)),.mv (.t 2)⟩,⟨(some 13),(some (10,true)),.bin .leq (.t 11) (.t 12)⟩,oo 14 (.pick (.t 10) (.t 13) (.c (.bool false))),om 6 14])
 .ret))
theorem A4w : FnOk Tryz.prog 91 15 A2w [.t 6]:=⟨Tryz.f91,_,[],Tryz.func91,rfl,rfl,by kernel_rfl,by kernel_rfl,follows⟩
theorem C2 : okF Tryz.prog 91 = true:=by kernel_rfl
def Ym : RC :=
 (.seq (.reg [oo 2 (.al [.nils,.nils]),oo 3 (.mv (.c (.bool false)))])
 (.seq (.seq (.reg [om 6 0,oo 7 (.cl (.c (.fn 91 [])) [(.t 6),(.c (.j 1)),(.c (.j 100))]),oo 8 (.un .not (.t 7))])
 (.cond (.t 8) (.seq (.reg [oo 9 (.bld [.nils,.nils] [(0,1),(1,1)] []),on (.st 2 (.t 2) (.t 9)),oo 3 (.mv (.c (.bool false)))])
 .ret)
 .skip))
 (.seq (.reg [oo 10 (.bld [.nils,.nils] [(0,1),(1,1)] []),oo 4 (.al [.nils,.nils]),on (.st 2 (.t 4) (.t 10))])
 (.seq (.seq (.reg [oo 5 (.mv (.c (.j 0)))])
 (.blk 0 (.loop (.seq (.seq (.reg [om 11 5,om 12 0,oo 13 (.bin .lss (.t 11) (.t 12))])
 (.cond (.t 13) .skip
 (.exit 0)))
 (.seq (.blk 1 (.drw [oo 16 (.fa 0 (.t 4)),oo 17 (.ld false 1 (.t 16)),oo 18 (.cl (.c (.fn 158 [])) []),oo 19 (.bs 1 [.str []] 1 [(0,(.t 18))]),oo 20 (.app 1 16 (.t 17) (.t 19)),oo 21 (.fa 0 (.t 4)),on (.st 1 (.t 21) (.t 20))] [.val [],.val [],.val [],.chn [0,1],.chn [],.val [],.chn []]))
 (.reg [om 14 5,oo 15 (.bin .add (.t 14) (.c (.j 1))),om 5 15]))))))
 (.seq (.reg [oo 22 (.ld true 2 (.t 4)),on (.st 2 (.t 2) (.t 22)),oo 3 (.mv (.c (.bool true)))])
 .ret)))))
theorem A0i : FnOk Tryz.prog 163 23 Ym [.cell 2 true 2,.t 3]:=⟨Tryz.f163,_,[],Tryz.func163,rfl,rfl,by kernel_rfl,by kernel_rfl,follows⟩
theorem Yp : okF Tryz.prog 163 = true:=by kernel_rfl
def Zy : RC :=
 (.seq (.reg [oo 1 (.bx (.t 0)),oo 2 (.al [.j 0,.j 0,.j 0,.j 0,.nils])])
 (.seq (.reg [oo 5 (.fa 6 (.t 1)),oo 6 (.ld false 1 (.t 5)),oo 7 (.bin .add (.t 6) (.c (.j 1))),oo 8 (.fa 4 (.t 1)),oo 9 (.ld false 1 (.t 8)),oo 10 (.fa 5 (.t 1)),oo 11 (.ld false 1 (.t 10)),oo 12 (.fa 7 (.t 1)),oo 13 (.ld false 1 (.t 12)),oo 14 (.bld [.j 0,.j 0,.j 0,.j 0,.nils] [(0,1),(1,1),(2,1),(3,1),(4,1)] [(0,(.t 7)),(1,(.t 9)),(2,(.t 11)),(3,(.t 13))]),oo 3 (.al [.j 0,.j 0,.j 0,.j 0,.nils]),on (.st 5 (.t 3) (.t 14))])
 (.seq (.seq (.reg [oo 4 (.mv (.c (.j 0)))])
 (.blk 0 (.loop (.seq (.seq (.reg [om 15 4,oo 16 (.fa 3 (.t 1)),oo 17 (.ld false 1 (.t 16)),oo 18 (.lenl (.t 17)),oo 19 (.bin .lss (.t 15) (.t 18))])
 (.cond (.t 19) .skip
 (.exit 0)))
 (.seq (.blk 1 (.drw [oo 22 (.fa 4 (.t 3)),oo 23 (.ld false 1 (.t 22)),oo 24 (.fa 3 (.t 1)),oo 25 (.ld false 1 (.t 24)),om 26 4,oo 27 (.ia 4 (.t 25) (.t 26)),oo 28 (.fa 0 (.t 27)),oo 29 (.ld false 1 (.t 28)),oo 30 (.fa 3 (.t 1)),oo 31 (.ld false 1 (.t 30)),om 32 4,oo 33 (.ia 4 (.t 31) (.t 32)),oo 34 (.fa 1 (.t 33)),oo 35 (.ld false 1 (.t 34)),oo 36 (.bld [.j 0,.j 0] [(0,1),(1,1)] [(0,(.t 29)),(1,(.t 35))]),oo 37 (.bs 2 [.j 0,.j 0] 1 [(0,(.t 36))]),oo 38 (.app 2 16 (.t 23) (.t 37)),oo 39 (.fa 4 (.t 3)),on (.st 1 (.t 39) (.t 38))] [.val [],.val [],.val [],.val [],.val [],.val [],.val [],.val [],.val [],.val [],.val [],.val [],.val [],.val [],.val [],.chn [0,1],.chn [],.val [],.chn []]))
 (.reg [om 20 4,oo 21 (.bin .add (.t 20) (.c (.j 1))),om 4 21]))))))
 (.seq (.reg [oo 40 (.ld true 5 (.t 3)),on (.st 5 (.t 2) (.t 40))])
 .ret))))
theorem A1g : FnOk Tryz.prog 20 41 Zy [.cell 2 true 5]:=⟨Tryz.f20,_,[],Tryz.func20,rfl,rfl,by kernel_rfl,by kernel_rfl,follows⟩
theorem Xo : okF Tryz.prog 20 = true:=by kernel_rfl
def Xq : RC :=
 (.seq (.reg [oo 1 (.bx (.t 0)),oo 2 (.al [.nils,.nils])])
 (.seq (.drw [oo 3 (.mv (.c (.nils))),oo 4 (.fa 0 (.t 1)),oo 5 (.ld false 1 (.t 4)),oo 6 (.app 1 16 (.t 3) (.t 5)),oo 7 (.mv (.c (.nils))),oo 8 (.fa 1 (.t 1)),oo 9 (.ld false 1 (.t 8)),oo 10 (.app 2 24 (.t 7) (.t 9)),oo 11 (.bld [.nils,.nils] [(0,1),(1,1)] [(0,(.t 6)),(1,(.t 10))]),on (.st 2 (.t 2) (.t 11))] [.val [],.val [],.val [],.chn [],.val [3],.val [3],.val [3],.chn [],.val [],.chn []])
 .ret))
theorem A22 : FnOk Tryz.prog 109 12 Xq [.cell 2 true 2]:=⟨Tryz.f109,_,[],Tryz.func109,rfl,rfl,by kernel_rfl,by kernel_rfl,follows⟩
theorem K2 : okF Tryz.prog 109 = true:=by kernel_rfl
def A0u : RC :=
 (.seq (.reg [oo 1 (.bx (.t 0)),oo 2 (.mv (.c (.bool false)))])
 (.seq (.seq (.reg [oo 5 (.fa 0 (.t 1)),oo 6 (.ld false 1 (.t 5)),oo 7 (.lenl (.t 6)),oo 8 (.cl (.c (.fn 91 [])) [(.t 7),(.c (.j 1)),(.c (.j 100))]),oo 9 (.un .not (.t 8)),om 10 9,⟨(some 11),(some (10,false)),.fa 1 (.t 1)⟩,⟨(some 12),(some (10,false)),.ld false 1 (.t 11)⟩,⟨(some 13),(some (10,false)),.lenl (.t 12)⟩,⟨(some 14),(some (10,false)),.bin .gtr (.t 13) (.c (.j 60))⟩,oo 15 (.pick (.t 10) (.c (.bool true)) (.t 14))])
 (.cond (.t 15) (.seq (.reg [oo 2 (.mv (.c (.bool false)))])
 .ret)
 .skip))
 (.seq (.seq (.reg [oo 3 (.mv (.c (.j 0)))])
 (.blk 0 (.loop (.seq (.seq (.reg [om 16 3,oo 17 (.fa 0 (.t 1)),oo 18 (.ld false 1 (.t 17)),oo 19 (.lenl (.t 18)),oo 20 (.bin .lss (.t 16) (.t 19))])
 (.cond (.t 20) .skip
 (.exit 0)))
 (.seq (.blk 1 (.seq (.reg [oo 23 (.fa 0 (.t 1)),oo 24 (.ld false 1 (.t 23)),om 25 3,oo 26 (.ia 1 (.t 24) (.t 25)),oo 27 (.ld false 1 (.t 26)),oo 28 (.lens (.t 27)),oo 29 (.bin .neq (.t 28) (.c (.j 32)))])
 (.cond (.t 29) (.seq (.reg [oo 2 (.mv (.c (.bool false)))])
 .ret)
 .skip)))
 (.reg [om 21 3,oo 22 (.bin .add (.t 21) (.c (.j 1))),om 3 22]))))))
 (.seq (.seq (.reg [oo 4 (.mv (.c (.j 0)))])
 (.blk 2 (.loop (.seq (.seq (.reg [om 30 4,oo 31 (.fa 1 (.t 1)),oo 32 (.ld false 1 (.t 31)),oo 33 (.lenl (.t 32)),oo 34 (.bin .lss (.t 30) (.t 33))])
 (.cond (.t 34) .skip
 (.exit 2)))
 (.seq (.blk 3 (.seq (.drw [oo 37 (.fa 1 (.t 1)),oo 38 (.ld false 1 (.t 37)),om 39 4,oo 40 (.ia 2 (.t 38) (.t 39)),oo 41 (.fa 0 (.t 40)),oo 42 (.ld false 1 (.t 41)),oo 43 (.fa 0 (.t 1)),oo 44 (.ld false 1 (.t 43)),oo 45 (.lenl (.t 44)),oo 46 (.bin .sub (.t 45) (.c (.j 1))),oo 47 (.cl (.c (.fn 91 [])) [(.t 42),(.c (.j 0)),(.t 46)]),oo 48 (.un .not (.t 47)),om 49 48,⟨(some 50),(some (49,false)),.fa 1 (.t 1)⟩,⟨(some 51),(some (49,false)),.ld false 1 (.t 50)⟩,⟨(some 52),(some (49,false)),.mv (.t 4)⟩,⟨(some 53),(some (49,false)),.ia 2 (.t 51) (.t 52)⟩,⟨(some 54),(some (49,false)),.fa 1 (.t 53)⟩,⟨(some 55),(some (49,false)),.ld false 1 (.t 54)⟩,⟨(some 56),(some (49,false)),.lens (.t 55)⟩,⟨(some 57),(some (49,false)),.bin .neq (.t 56) (.c (.j 32))⟩,oo 58 (.pick (.t 49) (.c (.bool true)) (.t 57))] [.val [],.val [],.val [],.val [],.val [],.val [],.val [],.val [],.val [],.val [],.val [],.val [],.val [],.val [],.val [],.val [],.val [],.val [],.val [],.val [],.val [],.val []])
 (.cond (.t 58) (.seq (.reg [oo 2 (.mv (.c (.bool false)))])
 .ret)
 .skip)))
 (.reg [om 35 4,oo 36 (.bin .add (.t 35) (.c (.j 1))),om 4 36]))))))
 (.seq (.reg [oo 2 (.mv (.c (.bool true)))])
 .ret)))))
theorem A2x : FnOk Tryz.prog 89 59 A0u [.t 2]:=⟨Tryz.f89,_,[],Tryz.func89,rfl,rfl,by kernel_rfl,by kernel_rfl,follows⟩
theorem Dk : okF Tryz.prog 89 = true:=by kernel_rfl
def Mg : RC :=
 (.seq (.reg [oo 3 (.bx (.t 0)),oo 6 (.al [.nils,.nils]),oo 7 (.mv (.c (.bool false)))])
 (.seq (.reg [oo 9 (.ld true 2 (.t 3)),oo 10 (.cl (.c (.fn 109 [])) [(.t 9)]),oo 8 (.al [.nils,.nils]),on (.st 2 (.t 8) (.t 10))])
 (.seq (.seq (.reg [oo 11 (.ld true 2 (.t 3)),oo 12 (.cl (.c (.fn 89 [])) [(.t 11)]),oo 13 (.un .not (.t 12)),om 14 13,⟨(some 15),(some (14,false)),.mv (.t 1)⟩,⟨(some 16),(some (14,false)),.fa 0 (.t 3)⟩,⟨(some 17),(some (14,false)),.ld false 1 (.t 16)⟩,⟨(some 18),(some (14,false)),.lenl (.t 17)⟩,⟨(some 19),(some (14,false)),.bin .sub (.t 18) (.c (.j 1))⟩,⟨(some 20),(some (14,false)),.cl (.c (.fn 91 [])) [(.t 15),(.c (.j 0)),(.t 19)]⟩,⟨(some 21),(some (14,false)),.un .not (.t 20)⟩,oo 22 (.pick (.t 14) (.c (.bool true)) (.t 21)),om 23 22,⟨(some 24),(some (23,false)),.mv (.t 2)⟩,⟨(some 25),(some (23,false)),.lens (.t 24)⟩,⟨(some 26),(some (23,false)),.bin .neq (.t 25) (.c (.j 32))⟩,oo 27 (.pick (.t 23) (.c (.bool true)) (.t 26)),om 28 27,⟨(some 29),(some (28,false)),.fa 1 (.t 3)⟩,⟨(some 30),(some (28,false)),.ld false 1 (.t 29)⟩,⟨(some 31),(some (28,false)),.lenl (.t 30)⟩,⟨(some 32),(some (28,false)),.bin .geq (.t 31) (.c (.j 60))⟩,oo 33 (.pick (.t 28) (.c (.bool true)) (.t 32))])
 (.cond (.t 33) (.seq (.reg [oo 34 (.ld true 2 (.t 8)),on (.st 2 (.t 6) (.t 34)),oo 7 (.mv (.c (.bool false)))])
 .ret)
 .skip))
 (.seq (.reg [oo 35 (.fa 1 (.t 8)),oo 36 (.ld false 1 (.t 35)),om 37 1,om 38 2,oo 39 (.bld [.j 0,.str []] [(0,1),(1,1)] [(0,(.t 37)),(1,(.t 38))]),oo 40 (.bs 2 [.j 0,.str []] 1 [(0,(.t 39))]),oo 41 (.app 2 24 (.t 36) (.t 40)),oo 42 (.fa 1 (.t 8)),on (.st 1 (.t 42) (.t 41))])
 (.seq (.reg [oo 43 (.ld true 2 (.t 8)),on (.st 2 (.t 6) (.t 43)),oo 7 (.mv (.c (.bool true)))])
 .ret)))))
theorem Pi : FnOk Tryz.prog 141 44 Mg [.cell 6 true 2,.t 7]:=⟨Tryz.f141,_,[],Tryz.func141,rfl,rfl,by kernel_rfl,by kernel_rfl,follows⟩
theorem Fj : okF Tryz.prog 141 = true:=by kernel_rfl
def Pf : RC :=
 (.seq (.reg [oo 2 (.bx (.t 0)),oo 4 (.mv (.c (.str []))),oo 5 (.mv (.c (.bool false)))])
 (.seq (.seq (.reg [om 7 1,oo 8 (.fa 0 (.t 2)),oo 9 (.ld false 1 (.t 8)),oo 10 (.lenl (.t 9)),oo 11 (.bin .sub (.t 10) (.c (.j 1))),oo 12 (.cl (.c (.fn 91 [])) [(.t 7),(.c (.j 0)),(.t 11)]),oo 13 (.un .not (.t 12))])
 (.cond (.t 13) (.seq (.reg [oo 4 (.mv (.c (.str []))),oo 5 (.mv (.c (.bool false)))])
 .ret)
 .skip))
 (.seq (.seq (.reg [oo 14 (.fa 1 (.t 2)),oo 15 (.ld false 1 (.t 14)),oo 16 (.lenl (.t 15)),oo 17 (.bin .sub (.t 16) (.c (.j 1))),om 6 17])
 (.blk 0 (.loop (.seq (.seq (.reg [om 18 6,oo 19 (.bin .geq (.t 18) (.c (.j 0)))])
 (.cond (.t 19) .skip
 (.exit 0)))
 (.seq (.blk 1 (.seq (.reg [oo 22 (.fa 1 (.t 2)),oo 23 (.ld false 1 (.t 22)),om 24 6,oo 25 (.ia 2 (.t 23) (.t 24)),oo 26 (.fa 0 (.t 25)),oo 27 (.ld false 1 (.t 26)),om 28 1,oo 29 (.bin .eql (.t 27) (.t 28))])
 (.cond (.t 29) (.seq (.reg [oo 30 (.fa 1 (.t 2)),oo 31 (.ld false 1 (.t 30)),om 32 6,oo 33 (.ia 2 (.t 31) (.t 32)),oo 34 (.fa 1 (.t 33)),oo 35 (.ld false 1 (.t 34)),om 4 35,oo 5 (.mv (.c (.bool true)))])
 .ret)
 .skip)))
 (.reg [om 20 6,oo 21 (.bin .sub (.t 20) (.c (.j 1))),om 6 21]))))))
 (.seq (.reg [oo 36 (.fa 0 (.t 2)),oo 37 (.ld false 1 (.t 36)),om 38 1,oo 39 (.ia 1 (.t 37) (.t 38)),oo 40 (.ld false 1 (.t 39)),om 4 40,oo 5 (.mv (.c (.bool true)))])
 .ret))))
theorem Qu : FnOk Tryz.prog 160 41 Pf [.t 4,.t 5]:=⟨Tryz.f160,_,[],Tryz.func160,rfl,rfl,by kernel_rfl,by kernel_rfl,follows⟩
theorem Ga : okF Tryz.prog 160 = true:=by kernel_rfl
def Qh : RC :=
 (.seq (.reg [oo 4 (.bx (.t 0)),oo 8 (.al [.nils,.nils]),oo 9 (.mv (.c (.bool false)))])
 (.seq (.reg [oo 19 (.ld true 2 (.t 4)),oo 20 (.cl (.c (.fn 109 [])) [(.t 19)]),oo 10 (.al [.nils,.nils]),on (.st 2 (.t 10) (.t 20))])
 (.seq (.seq (.reg [om 21 2,oo 22 (.cl (.c (.fn 91 [])) [(.t 21),(.c (.j 0)),(.c (.j 3200))]),oo 23 (.un .not (.t 22)),om 24 23,⟨(some 25),(some (24,false)),.mv (.t 1)⟩,⟨(some 26),(some (24,false)),.fa 0 (.t 4)⟩,⟨(some 27),(some (24,false)),.ld false 1 (.t 26)⟩,⟨(some 28),(some (24,false)),.lenl (.t 27)⟩,⟨(some 29),(some (24,false)),.bin .sub (.t 28) (.c (.j 1))⟩,⟨(some 30),(some (24,false)),.cl (.c (.fn 91 [])) [(.t 25),(.c (.j 0)),(.t 29)]⟩,⟨(some 31),(some (24,false)),.un .not (.t 30)⟩,oo 32 (.pick (.t 24) (.c (.bool true)) (.t 31)),om 33 32,⟨(some 34),(some (33,false)),.ld true 2 (.t 4)⟩,⟨(some 35),(some (33,false)),.cl (.c (.fn 89 [])) [(.t 34)]⟩,⟨(some 36),(some (33,false)),.un .not (.t 35)⟩,oo 37 (.pick (.t 33) (.c (.bool true)) (.t 36))])
 (.cond (.t 37) (.seq (.reg [oo 38 (.ld true 2 (.t 10)),on (.st 2 (.t 8) (.t 38)),oo 9 (.mv (.c (.bool false)))])
 .ret)
 .skip))
 (.seq (.seq (.reg [oo 11 (.mv (.c (.j 0)))])
 (.blk 0 (.loop (.seq (.seq (.reg [om 39 11,om 40 3,oo 41 (.lens (.t 40)),oo 42 (.bin .lss (.t 39) (.t 41))])
 (.cond (.t 42) .skip
 (.exit 0)))
 (.blk 1 (.seq (.reg [om 43 1,om 44 2,om 45 11,oo 46 (.bin .add (.t 44) (.t 45)),oo 47 (.bin .quo (.t 46) (.c (.j 32))),oo 48 (.bin .add (.t 43) (.t 47)),om 12 48])
 (.seq (.reg [om 49 2,om 50 11,oo 51 (.bin .add (.t 49) (.t 50)),oo 52 (.bin .rem (.t 51) (.c (.j 32))),om 13 52])
 (.seq (.reg [om 53 13,oo 54 (.bin .sub (.c (.j 32)) (.t 53)),om 14 54])
 (.seq (.seq (.reg [om 55 14,om 56 3,oo 57 (.lens (.t 56)),om 58 11,oo 59 (.bin .sub (.t 57) (.t 58)),oo 60 (.bin .gtr (.t 55) (.t 59))])
 (.cond (.t 60) (.reg [om 61 3,oo 62 (.lens (.t 61)),om 63 11,oo 64 (.bin .sub (.t 62) (.t 63)),om 14 64])
 .skip))
 (.seq (.reg [oo 66 (.ld true 2 (.t 10)),om 67 12,oo 68 (.cl (.c (.fn 160 [])) [(.t 66),(.t 67)]),om 65 68,oo 69 (.ext (.t 65) 0),oo 70 (.ext (.t 65) 1),om 15 69,om 16 70])
 (.seq (.seq (.reg [om 71 16,oo 72 (.un .not (.t 71)),om 73 72,⟨(some 74),(some (73,false)),.mv (.t 15)⟩,⟨(some 75),(some (73,false)),.lens (.t 74)⟩,⟨(some 76),(some (73,false)),.bin .neq (.t 75) (.c (.j 32))⟩,oo 77 (.pick (.t 73) (.c (.bool true)) (.t 76))])
 (.cond (.t 77) (.seq (.reg [oo 78 (.ld true 2 (.t 4)),oo 79 (.cl (.c (.fn 109 [])) [(.t 78)]),on (.st 2 (.t 8) (.t 79)),oo 9 (.mv (.c (.bool false)))])
 .ret)
 .skip))
 (.seq (.drw [oo 81 (.ld true 2 (.t 10)),om 82 12,om 83 15,om 84 13,oo 85 (.sls (.t 83) none (some (.t 84))),om 86 3,om 87 11,om 88 11,om 89 14,oo 90 (.bin .add (.t 88) (.t 89)),oo 91 (.sls (.t 86) (some (.t 87)) (some (.t 90))),oo 92 (.bin .add (.t 85) (.t 91)),om 93 15,om 94 13,om 95 14,oo 96 (.bin .add (.t 94) (.t 95)),oo 97 (.sls (.t 93) (some (.t 96)) none),oo 98 (.bin .add (.t 92) (.t 97)),oo 99 (.cl (.c (.fn 141 [])) [(.t 81),(.t 82),(.t 98)]),om 80 99,oo 100 (.ext (.t 80) 0),oo 101 (.ext (.t 80) 1),oo 17 (.al [.nils,.nils]),on (.st 2 (.t 17) (.t 100)),om 18 101] [.val [],.val [],.val [],.val [],.val [],.val [],.val [],.val [],.val [],.val [],.val [],.val [],.val [],.val [],.val [],.val [],.val [],.val [],.chn [],.val [],.val [],.val [],.flt 0,.chn [21],.val []])
 (.seq (.seq (.reg [om 102 18,oo 103 (.un .not (.t 102))])
 (.cond (.t 103) (.seq (.reg [oo 104 (.ld true 2 (.t 4)),oo 105 (.cl (.c (.fn 109 [])) [(.t 104)]),on (.st 2 (.t 8) (.t 105)),oo 9 (.mv (.c (.bool false)))])
 .ret)
 .skip))
 (.seq (.reg [oo 106 (.ld true 2 (.t 17)),on (.st 2 (.t 10) (.t 106))])
 (.reg [om 107 11,om 108 14,oo 109 (.bin .add (.t 107) (.t 108)),om 11 109])))))))))))))))
 (.seq (.reg [oo 110 (.ld true 2 (.t 10)),on (.st 2 (.t 8) (.t 110)),oo 9 (.mv (.c (.bool true)))])
 .ret)))))
theorem Th : FnOk Tryz.prog 110 111 Qh [.cell 8 true 2,.t 9]:=⟨Tryz.f110,_,[(14,[18,1000022])],Tryz.func110,rfl,rfl,by kernel_rfl,by kernel_rfl,follows⟩
theorem Fz : okF Tryz.prog 110 = true:=by kernel_rfl
def Tq : RC :=
 (.seq (.reg [oo 1 (.bx (.t 0)),oo 2 (.al [.nils,.nils])])
 (.seq (.reg [oo 5 (.ld true 2 (.t 1)),oo 6 (.cl (.c (.fn 109 [])) [(.t 5)]),oo 3 (.al [.nils,.nils]),on (.st 2 (.t 3) (.t 6))])
 (.seq (.seq (.reg [oo 7 (.ld true 2 (.t 1)),oo 8 (.cl (.c (.fn 89 [])) [(.t 7)]),oo 9 (.un .not (.t 8))])
 (.cond (.t 9) (.seq (.reg [oo 10 (.ld true 2 (.t 3)),on (.st 2 (.t 2) (.t 10))])
 .ret)
 .skip))
 (.seq (.seq (.reg [oo 4 (.mv (.c (.j 0)))])
 (.blk 0 (.loop (.seq (.seq (.reg [om 11 4,oo 12 (.fa 1 (.t 1)),oo 13 (.ld false 1 (.t 12)),oo 14 (.lenl (.t 13)),oo 15 (.bin .lss (.t 11) (.t 14))])
 (.cond (.t 15) .skip
 (.exit 0)))
 (.seq (.blk 1 (.drw [oo 18 (.fa 0 (.t 3)),oo 19 (.ld false 1 (.t 18)),oo 20 (.fa 1 (.t 1)),oo 21 (.ld false 1 (.t 20)),om 22 4,oo 23 (.ia 2 (.t 21) (.t 22)),oo 24 (.fa 0 (.t 23)),oo 25 (.ld false 1 (.t 24)),oo 26 (.fa 1 (.t 1)),oo 27 (.ld false 1 (.t 26)),om 28 4,oo 29 (.ia 2 (.t 27) (.t 28)),oo 30 (.fa 1 (.t 29)),oo 31 (.ld false 1 (.t 30)),oo 32 (.ia 1 (.t 19) (.t 25)),on (.st 1 (.t 32) (.t 31))] [.val [],.val [],.val [],.val [],.val [],.val [],.val [],.val [],.val [],.val [],.val [],.val [],.val [],.val [],.val [],.chn []]))
 (.reg [om 16 4,oo 17 (.bin .add (.t 16) (.c (.j 1))),om 4 17]))))))
 (.seq (.reg [oo 33 (.mv (.c (.nils))),oo 34 (.fa 1 (.t 3)),on (.st 1 (.t 34) (.t 33))])
 (.seq (.reg [oo 35 (.ld true 2 (.t 3)),on (.st 2 (.t 2) (.t 35))])
 .ret))))))
theorem Wq : FnOk Tryz.prog 111 36 Tq [.cell 2 true 2]:=⟨Tryz.f111,_,[],Tryz.func111,rfl,rfl,by kernel_rfl,by kernel_rfl,follows⟩
theorem U4 : okF Tryz.prog 111 = true:=by kernel_rfl
def Zo : RC :=
 (.seq (.reg [oo 1 (.bx (.t 0)),oo 2 (.mv (.c (.bool false)))])
 (.seq (.seq (.reg [oo 6 (.fa 0 (.t 1)),oo 7 (.ld false 1 (.t 6)),oo 8 (.cl (.c (.fn 91 [])) [(.t 7),(.c (.j 1)),(.c (.j 1000000000))]),oo 9 (.un .not (.t 8)),om 10 9,⟨(some 11),(some (10,false)),.fa 1 (.t 1)⟩,⟨(some 12),(some (10,false)),.ld false 1 (.t 11)⟩,⟨(some 13),(some (10,false)),.cl (.c (.fn 91 [])) [(.t 12),(.c (.j 1)),(.c (.j 1000000000))]⟩,⟨(some 14),(some (10,false)),.un .not (.t 13)⟩,oo 15 (.pick (.t 10) (.c (.bool true)) (.t 14)),om 16 15,⟨(some 17),(some (16,false)),.fa 2 (.t 1)⟩,⟨(some 18),(some (16,false)),.ld false 1 (.t 17)⟩,⟨(some 19),(some (16,false)),.cl (.c (.fn 91 [])) [(.t 18),(.c (.j 1)),(.c (.j 1000000000))]⟩,⟨(some 20),(some (16,false)),.un .not (.t 19)⟩,oo 21 (.pick (.t 16) (.c (.bool true)) (.t 20)),om 22 21,⟨(some 23),(some (22,false)),.fa 3 (.t 1)⟩,⟨(some 24),(some (22,false)),.ld false 1 (.t 23)⟩,⟨(some 25),(some (22,false)),.cl (.c (.fn 91 [])) [(.t 24),(.c (.j 1)),(.c (.j 1000000000))]⟩,⟨(some 26),(some (22,false)),.un .not (.t 25)⟩,oo 27 (.pick (.t 22) (.c (.bool true)) (.t 26)),om 28 27,⟨(some 29),(some (28,false)),.fa 4 (.t 1)⟩,⟨(some 30),(some (28,false)),.ld false 1 (.t 29)⟩,⟨(some 31),(some (28,false)),.lenl (.t 30)⟩,⟨(some 32),(some (28,false)),.cl (.c (.fn 91 [])) [(.t 31),(.c (.j 1)),(.c (.j 11))]⟩,⟨(some 33),(some (28,false)),.un .not (.t 32)⟩,oo 34 (.pick (.t 28) (.c (.bool true)) (.t 33))])
 (.cond (.t 34) (.seq (.reg [oo 2 (.mv (.c (.bool false)))])
 .ret)
 .skip))
 (.seq (.seq (.reg [oo 3 (.mv (.c (.j 0)))])
 (.blk 0 (.loop (.seq (.seq (.reg [om 35 3,oo 36 (.fa 4 (.t 1)),oo 37 (.ld false 1 (.t 36)),oo 38 (.lenl (.t 37)),oo 39 (.bin .lss (.t 35) (.t 38))])
 (.cond (.t 39) .skip
 (.exit 0)))
 (.seq (.blk 1 (.seq (.reg [oo 42 (.fa 4 (.t 1)),oo 43 (.ld false 1 (.t 42)),om 44 3,oo 45 (.ia 2 (.t 43) (.t 44)),oo 46 (.ld true 2 (.t 45)),oo 4 (.al [.j 0,.j 0]),on (.st 2 (.t 4) (.t 46))])
 (.seq (.seq (.drw [oo 47 (.fa 0 (.t 4)),oo 48 (.ld false 1 (.t 47)),oo 49 (.cl (.c (.fn 91 [])) [(.t 48),(.c (.j 0)),(.c (.j 10))]),oo 50 (.un .not (.t 49)),om 51 50,⟨(some 52),(some (51,false)),.fa 1 (.t 4)⟩,⟨(some 53),(some (51,false)),.ld false 1 (.t 52)⟩,⟨(some 54),(some (51,false)),.fa 1 (.t 1)⟩,⟨(some 55),(some (51,false)),.ld false 1 (.t 54)⟩,⟨(some 56),(some (51,false)),.bin .sub (.t 55) (.c (.j 1))⟩,⟨(some 57),(some (51,false)),.cl (.c (.fn 91 [])) [(.t 53),(.c (.j 1)),(.t 56)]⟩,⟨(some 58),(some (51,false)),.un .not (.t 57)⟩,oo 59 (.pick (.t 51) (.c (.bool true)) (.t 58)),om 60 59,⟨(some 61),(some (60,false)),.mv (.t 3)⟩,⟨(some 62),(some (60,false)),.bin .gtr (.t 61) (.c (.j 0))⟩,⟨(some 63),(some (60,false)),.mv (.t 62)⟩,⟨(some 64),(some (63,true)),.fa 4 (.t 1)⟩,⟨(some 65),(some (63,true)),.ld false 1 (.t 64)⟩,⟨(some 66),(some (63,true)),.mv (.t 3)⟩,⟨(some 67),(some (63,true)),.bin .sub (.t 66) (.c (.j 1))⟩,⟨(some 68),(some (63,true)),.ia 2 (.t 65) (.t 67)⟩,⟨(some 69),(some (63,true)),.fa 1 (.t 68)⟩,⟨(some 70),(some (63,true)),.ld false 1 (.t 69)⟩,⟨(some 71),(some (63,true)),.fa 1 (.t 4)⟩,⟨(some 72),(some (63,true)),.ld false 1 (.t 71)⟩,⟨(some 73),(some (63,true)),.bin .geq (.t 70) (.t 72)⟩,⟨(some 74),(some (60,false)),.pick (.t 63) (.t 73) (.c (.bool false))⟩,oo 75 (.pick (.t 60) (.c (.bool true)) (.t 74))] [.val [],.val [],.val [],.val [],.val [],.val [],.val [],.val [],.val [],.val [],.val [],.val [],.val [],.val [],.val [],.val [],.val [],.val [],.val [],.val [],.val [],.val [],.val [],.val [],.val [],.val [],.val [],.val [],.val []])
 (.cond (.t 75) (.seq (.reg [oo 2 (.mv (.c (.bool false)))])
 .ret)
 .skip))
 (.seq (.reg [oo 5 (.mv (.c (.j 0)))])
 (.blk 2 (.loop (.seq (.seq (.reg [om 76 5,om 77 3,oo 78 (.bin .lss (.t 76) (.t 77))])
 (.cond (.t 78) .skip
 (.exit 2)))
 (.seq (.blk 3 (.seq (.drw [oo 81 (.fa 4 (.t 1)),oo 82 (.ld false 1 (.t 81)),om 83 5,oo 84 (.ia 2 (.t 82) (.t 83)),oo 85 (.fa 0 (.t 84)),oo 86 (.ld false 1 (.t 85)),oo 87 (.fa 0 (.t 4)),oo 88 (.ld false 1 (.t 87)),oo 89 (.bin .eql (.t 86) (.t 88))] [.val [],.val [],.val [],.val [],.val [],.val [],.val [],.val [],.val []])
 (.cond (.t 89) (.seq (.reg [oo 2 (.mv (.c (.bool false)))])
 .ret)
 .skip)))
 (.reg [om 79 5,oo 80 (.bin .add (.t 79) (.c (.j 1))),om 5 80])))))))))
 (.reg [om 40 3,oo 41 (.bin .add (.t 40) (.c (.j 1))),om 3 41]))))))
 (.seq (.reg [oo 2 (.mv (.c (.bool true)))])
 .ret))))
theorem A2a : FnOk Tryz.prog 45 90 Zo [.t 2]:=⟨Tryz.f45,_,[],Tryz.func45,rfl,rfl,by kernel_rfl,by kernel_rfl,follows⟩
theorem Yb : okF Tryz.prog 45 = true:=by kernel_rfl
def A1k : RC :=
 (.seq (.reg [oo 2 (.mv (.c (.str [])))])
 (.seq (.reg [oo 4 (.mv (.c (.nils))),om 3 4])
 (.seq (.blk 0 (.loop (.seq (.seq (.reg [om 5 0,oo 6 (.bin .gtr (.t 5) (.c (.j 127)))])
 (.cond (.t 6) .skip
 (.exit 0)))
 (.blk 1 (.seq (.reg [om 7 3,om 8 0,oo 9 (.bin .rem (.t 8) (.c (.j 128))),oo 10 (.bin .add (.t 9) (.c (.j 128))),oo 11 (.cvi .u8 (.t 10)),oo 12 (.bs 1 [.int .u8 0] 1 [(0,(.t 11))]),oo 13 (.app 1 1 (.t 7) (.t 12)),om 3 13])
 (.reg [om 14 0,oo 15 (.bin .quo (.t 14) (.c (.j 128))),om 0 15]))))))
 (.seq (.reg [om 16 3,om 17 0,oo 18 (.cvi .u8 (.t 17)),oo 19 (.bs 1 [.int .u8 0] 1 [(0,(.t 18))]),oo 20 (.app 1 1 (.t 16) (.t 19)),oo 21 (.cvb (.t 20)),om 2 21])
 .ret))))
theorem A3a : FnOk Tryz.prog 97 22 A1k [.t 2]:=⟨Tryz.f97,_,[],Tryz.func97,rfl,rfl,by kernel_rfl,by kernel_rfl,follows⟩
theorem D1 : okF Tryz.prog 97 = true:=by kernel_rfl
def Yk : RC :=
 (.seq (.reg [oo 2 (.mv (.c (.str [])))])
 (.seq (.reg [om 3 0,oo 4 (.bin .shr (.t 3) (.c (.int .u64 24))),oo 5 (.cvi .u8 (.t 4)),om 6 0,oo 7 (.bin .shr (.t 6) (.c (.int .u64 16))),oo 8 (.cvi .u8 (.t 7)),om 9 0,oo 10 (.bin .shr (.t 9) (.c (.int .u64 8))),oo 11 (.cvi .u8 (.t 10)),om 12 0,oo 13 (.cvi .u8 (.t 12)),oo 14 (.bs 1 [.int .u8 0] 4 [(0,(.t 5)),(1,(.t 8)),(2,(.t 11)),(3,(.t 13))]),oo 15 (.cvb (.t 14)),om 2 15])
 .ret))
theorem A0k : FnOk Tryz.prog 153 16 Yk [.t 2]:=⟨Tryz.f153,_,[],Tryz.func153,rfl,rfl,by kernel_rfl,by kernel_rfl,follows⟩
theorem Xw : okF Tryz.prog 153 = true:=by kernel_rfl
def Yu : RC :=
 (.seq (.reg [oo 4 (.mv (.c (.int .u32 0)))])
 (.seq (.seq (.reg [oo 5 (.mv (.c (.j 0)))])
 (.blk 0 (.loop (.seq (.seq (.reg [om 8 5,om 9 1,oo 10 (.lens (.t 9)),oo 11 (.bin .lss (.t 8) (.t 10))])
 (.cond (.t 11) .skip
 (.exit 0)))
 (.seq (.blk 1 (.seq (.reg [om 14 0,om 15 1,om 16 5,oo 17 (.idx (.t 15) (.t 16)),oo 18 (.cvi .u32 (.t 17)),oo 19 (.bin .xor (.t 14) (.t 18)),om 0 19])
 (.seq (.reg [oo 6 (.mv (.c (.j 0)))])
 (.blk 2 (.loop (.seq (.seq (.reg [om 20 6,oo 21 (.bin .lss (.t 20) (.c (.j 8)))])
 (.cond (.t 21) .skip
 (.exit 2)))
 (.seq (.blk 3 (.seq (.reg [om 24 0,oo 25 (.bin .rem (.t 24) (.c (.int .u32 2))),oo 26 (.bin .eql (.t 25) (.c (.int .u32 1))),om 7 26])
 (.seq (.reg [om 27 0,oo 28 (.bin .quo (.t 27) (.c (.int .u32 2))),om 0 28])
 (.seq (.reg [om 29 7])
 (.cond (.t 29) (.reg [om 30 0,oo 31 (.bin .xor (.t 30) (.c (.int .u32 3558460437))),om 0 31])
 .skip)))))
 (.reg [om 22 6,oo 23 (.bin .add (.t 22) (.c (.j 1))),om 6 23]))))))))
 (.reg [om 12 5,oo 13 (.bin .add (.t 12) (.c (.j 1))),om 5 13]))))))
 (.seq (.reg [om 32 0,om 4 32])
 .ret)))
theorem A1o : FnOk Tryz.prog 178 33 Yu [.t 4]:=⟨Tryz.f178,_,[],Tryz.func178,rfl,rfl,by kernel_rfl,by kernel_rfl,follows⟩
theorem Ys : okF Tryz.prog 178 = true:=by kernel_rfl
def A2t : RC :=
 (.seq (.reg [oo 2 (.mv (.c (.int .u32 0)))])
 (.seq (.reg [om 3 0,oo 4 (.cl (.c (.fn 178 [])) [(.c (.int .u32 4294967295)),(.t 3)]),om 2 4])
 .ret))
theorem A58 : FnOk Tryz.prog 154 5 A2t [.t 2]:=⟨Tryz.f154,_,[],Tryz.func154,rfl,rfl,by kernel_rfl,by kernel_rfl,follows⟩
theorem A3l : okF Tryz.prog 154 = true:=by kernel_rfl
def A0s : RC :=
 (.seq (.reg [oo 2 (.mv (.c (.str []))),oo 3 (.mv (.c (.bool false)))])
 (.seq (.seq (.reg [om 4 0,oo 5 (.lens (.t 4)),oo 6 (.bin .gtr (.t 5) (.c (.j 20000)))])
 (.cond (.t 6) (.seq (.reg [oo 2 (.mv (.c (.str []))),oo 3 (.mv (.c (.bool false)))])
 .ret)
 .skip))
 (.seq (.reg [om 7 0,om 8 0,oo 9 (.cl (.c (.fn 154 [])) [(.t 8)]),oo 10 (.cl (.c (.fn 153 [])) [(.t 9)]),oo 11 (.bin .add (.t 7) (.t 10)),om 2 11,oo 3 (.mv (.c (.bool true)))])
 .ret)))
theorem A3e : FnOk Tryz.prog 98 12 A0s [.t 2,.t 3]:=⟨Tryz.f98,_,[],Tryz.func98,rfl,rfl,by kernel_rfl,by kernel_rfl,follows⟩
theorem Km : okF Tryz.prog 98 = true:=by kernel_rfl
def Ur : RC :=
 (.seq (.reg [oo 2 (.mv (.c (.str [])))])
 (.seq (.reg [om 3 0,oo 4 (.lens (.t 3)),oo 5 (.cl (.c (.fn 97 [])) [(.t 4)]),om 6 0,oo 7 (.bin .add (.t 5) (.t 6)),om 2 7])
 .ret))
theorem Yg : FnOk Tryz.prog 99 8 Ur [.t 2]:=⟨Tryz.f99,_,[],Tryz.func99,rfl,rfl,by kernel_rfl,by kernel_rfl,follows⟩
theorem M3 : okF Tryz.prog 99 = true:=by kernel_rfl
def Tw : RC :=
 (.seq (.reg [oo 1 (.bx (.t 0)),oo 2 (.mv (.c (.str []))),oo 3 (.mv (.c (.bool false)))])
 (.seq (.seq (.reg [oo 9 (.ld true 5 (.t 1)),oo 10 (.cl (.c (.fn 45 [])) [(.t 9)]),oo 11 (.un .not (.t 10))])
 (.cond (.t 11) (.seq (.reg [oo 2 (.mv (.c (.str []))),oo 3 (.mv (.c (.bool false)))])
 .ret)
 .skip))
 (.seq (.drw [oo 12 (.fa 0 (.t 1)),oo 13 (.ld false 1 (.t 12)),oo 14 (.cl (.c (.fn 97 [])) [(.t 13)]),oo 15 (.fa 1 (.t 1)),oo 16 (.ld false 1 (.t 15)),oo 17 (.cl (.c (.fn 97 [])) [(.t 16)]),oo 18 (.bin .add (.t 14) (.t 17)),oo 19 (.fa 2 (.t 1)),oo 20 (.ld false 1 (.t 19)),oo 21 (.cl (.c (.fn 97 [])) [(.t 20)]),oo 22 (.bin .add (.t 18) (.t 21)),oo 23 (.fa 3 (.t 1)),oo 24 (.ld false 1 (.t 23)),oo 25 (.cl (.c (.fn 97 [])) [(.t 24)]),oo 26 (.bin .add (.t 22) (.t 25)),oo 27 (.fa 4 (.t 1)),oo 28 (.ld false 1 (.t 27)),oo 29 (.lenl (.t 28)),oo 30 (.cl (.c (.fn 97 [])) [(.t 29)]),oo 31 (.bin .add (.t 26) (.t 30)),om 4 31] [.val [],.val [],.val [],.val [],.val [],.val [],.val [],.val [],.val [],.val [],.val [],.val [],.val [],.val [],.val [],.val [],.val [],.val [],.val [],.val [],.val []])
 (.seq (.seq (.reg [oo 5 (.mv (.c (.j 0)))])
 (.blk 0 (.loop (.seq (.seq (.reg [om 32 5,oo 33 (.fa 4 (.t 1)),oo 34 (.ld false 1 (.t 33)),oo 35 (.lenl (.t 34)),oo 36 (.bin .lss (.t 32) (.t 35))])
 (.cond (.t 36) .skip
 (.exit 0)))
 (.seq (.blk 1 (.drw [om 39 4,oo 40 (.fa 4 (.t 1)),oo 41 (.ld false 1 (.t 40)),om 42 5,oo 43 (.ia 2 (.t 41) (.t 42)),oo 44 (.fa 0 (.t 43)),oo 45 (.ld false 1 (.t 44)),oo 46 (.cl (.c (.fn 97 [])) [(.t 45)]),oo 47 (.bin .add (.t 39) (.t 46)),oo 48 (.fa 4 (.t 1)),oo 49 (.ld false 1 (.t 48)),om 50 5,oo 51 (.ia 2 (.t 49) (.t 50)),oo 52 (.fa 1 (.t 51)),oo 53 (.ld false 1 (.t 52)),oo 54 (.cl (.c (.fn 97 [])) [(.t 53)]),oo 55 (.bin .add (.t 47) (.t 54)),om 4 55] [.val [],.val [],.val [],.val [],.val [],.val [],.val [],.val [],.val [],.val [],.val [],.val [],.val [],.val [],.val [],.val [],.val [],.val []]))
 (.reg [om 37 5,oo 38 (.bin .add (.t 37) (.c (.j 1))),om 5 38]))))))
 (.seq (.reg [om 57 4,oo 58 (.cl (.c (.fn 98 [])) [(.t 57)]),om 56 58,oo 59 (.ext (.t 56) 0),oo 60 (.ext (.t 56) 1),om 6 59,om 7 60])
 (.seq (.reg [om 61 6,oo 62 (.cl (.c (.fn 99 [])) [(.t 61)]),om 8 62])
 (.seq (.seq (.reg [om 63 7,oo 64 (.un .not (.t 63)),om 65 64,⟨(some 66),(some (65,false)),.mv (.t 8)⟩,⟨(some 67),(some (65,false)),.lens (.t 66)⟩,⟨(some 68),(some (65,false)),.bin .gtr (.t 67) (.c (.j 128))⟩,oo 69 (.pick (.t 65) (.c (.bool true)) (.t 68))])
 (.cond (.t 69) (.seq (.reg [oo 2 (.mv (.c (.str []))),oo 3 (.mv (.c (.bool false)))])
 .ret)
 .skip))
 (.seq (.reg [om 70 8,om 2 70,oo 3 (.mv (.c (.bool true)))])
 .ret))))))))
theorem Wa : FnOk Tryz.prog 37 71 Tw [.t 2,.t 3]:=⟨Tryz.f37,_,[],Tryz.func37,rfl,rfl,by kernel_rfl,by kernel_rfl,follows⟩
theorem Tg : okF Tryz.prog 37 = true:=by kernel_rfl
def Pz : RC :=
 (.seq (.reg [oo 2 (.bx (.t 0)),oo 3 (.bx (.t 1)),oo 4 (.al [.nils,.nils]),oo 5 (.mv (.c (.bool false)))])
 (.seq (.reg [oo 11 (.ld true 5 (.t 3)),oo 12 (.cl (.c (.fn 37 [])) [(.t 11)]),om 10 12,oo 13 (.ext (.t 10) 0),oo 14 (.ext (.t 10) 1),om 6 13,om 7 14])
 (.seq (.seq (.reg [om 15 7,oo 16 (.un .not (.t 15)),om 17 16,⟨(some 18),(some (17,false)),.ld true 2 (.t 2)⟩,⟨(some 19),(some (17,false)),.cl (.c (.fn 89 [])) [(.t 18)]⟩,⟨(some 20),(some (17,false)),.un .not (.t 19)⟩,oo 21 (.pick (.t 17) (.c (.bool true)) (.t 20))])
 (.cond (.t 21) (.seq (.reg [oo 22 (.ld true 2 (.t 2)),oo 23 (.cl (.c (.fn 109 [])) [(.t 22)]),on (.st 2 (.t 4) (.t 23)),oo 5 (.mv (.c (.bool false)))])
 .ret)
 .skip))
 (.seq (.reg [oo 25 (.ld true 2 (.t 2)),oo 26 (.fa 0 (.t 3)),oo 27 (.ld false 1 (.t 26)),oo 28 (.bin .rem (.t 27) (.c (.j 2))),oo 29 (.bin .mul (.c (.j 4)) (.t 28)),om 30 6,oo 31 (.cl (.c (.fn 110 [])) [(.t 25),(.t 29),(.c (.j 0)),(.t 30)]),om 24 31,oo 32 (.ext (.t 24) 0),oo 33 (.ext (.t 24) 1),oo 8 (.al [.nils,.nils]),on (.st 2 (.t 8) (.t 32)),om 9 33])
 (.seq (.seq (.reg [om 34 9,oo 35 (.un .not (.t 34))])
 (.cond (.t 35) (.seq (.reg [oo 36 (.ld true 2 (.t 2)),oo 37 (.cl (.c (.fn 109 [])) [(.t 36)]),on (.st 2 (.t 4) (.t 37)),oo 5 (.mv (.c (.bool false)))])
 .ret)
 .skip))
 (.seq (.reg [oo 38 (.ld true 2 (.t 8)),oo 39 (.cl (.c (.fn 111 [])) [(.t 38)]),on (.st 2 (.t 4) (.t 39)),oo 5 (.mv (.c (.bool true)))])
 .ret))))))
theorem Tk : FnOk Tryz.prog 42 40 Pz [.cell 4 true 2,.t 5]:=⟨Tryz.f42,_,[],Tryz.func42,rfl,rfl,by kernel_rfl,by kernel_rfl,follows⟩
theorem Ph : okF Tryz.prog 42 = true:=by kernel_rfl
def Ya : RC :=
 (.seq (.reg [oo 1 (.bx (.t 0)),oo 2 (.mv (.c (.bool false)))])
 (.seq (.reg [oo 3 (.fa 0 (.t 1)),oo 4 (.ld false 1 (.t 3)),oo 5 (.cl (.c (.fn 91 [])) [(.t 4),(.c (.j 1)),(.c (.j 1000000000))]),om 6 5,⟨(some 7),(some (6,true)),.fa 1 (.t 1)⟩,⟨(some 8),(some (6,true)),.ld false 1 (.t 7)⟩,⟨(some 9),(some (6,true)),.cl (.c (.fn 91 [])) [(.t 8),(.c (.j 1)),(.c (.j 1000000000))]⟩,oo 10 (.pick (.t 6) (.t 9) (.c (.bool false))),om 11 10,⟨(some 12),(some (11,true)),.fa 2 (.t 1)⟩,⟨(some 13),(some (11,true)),.ld false 1 (.t 12)⟩,⟨(some 14),(some (11,true)),.lens (.t 13)⟩,⟨(some 15),(some (11,true)),.cl (.c (.fn 91 [])) [(.t 14),(.c (.j 1)),(.c (.j 180))]⟩,oo 16 (.pick (.t 11) (.t 15) (.c (.bool false))),om 2 16])
 .ret))
theorem A2d : FnOk Tryz.prog 170 17 Ya [.t 2]:=⟨Tryz.f170,_,[],Tryz.func170,rfl,rfl,by kernel_rfl,by kernel_rfl,follows⟩
theorem Jv : okF Tryz.prog 170 = true:=by kernel_rfl
def Rh : RC :=
 (.seq (.reg [oo 1 (.bx (.t 0)),oo 2 (.mv (.c (.str []))),oo 3 (.mv (.c (.bool false)))])
 (.seq (.seq (.reg [oo 4 (.ld true 3 (.t 1)),oo 5 (.cl (.c (.fn 170 [])) [(.t 4)]),oo 6 (.un .not (.t 5))])
 (.cond (.t 6) (.seq (.reg [oo 2 (.mv (.c (.str []))),oo 3 (.mv (.c (.bool false)))])
 .ret)
 .skip))
 (.seq (.drw [oo 7 (.fa 0 (.t 1)),oo 8 (.ld false 1 (.t 7)),oo 9 (.cl (.c (.fn 97 [])) [(.t 8)]),oo 10 (.fa 1 (.t 1)),oo 11 (.ld false 1 (.t 10)),oo 12 (.cl (.c (.fn 97 [])) [(.t 11)]),oo 13 (.bin .add (.t 9) (.t 12)),oo 14 (.fa 2 (.t 1)),oo 15 (.ld false 1 (.t 14)),oo 16 (.lens (.t 15)),oo 17 (.cl (.c (.fn 97 [])) [(.t 16)]),oo 18 (.bin .add (.t 13) (.t 17)),oo 19 (.fa 2 (.t 1)),oo 20 (.ld false 1 (.t 19)),oo 21 (.bin .add (.t 18) (.t 20)),oo 22 (.cl (.c (.fn 98 [])) [(.t 21)]),oo 23 (.ext (.t 22) 0),oo 24 (.ext (.t 22) 1),om 2 23,om 3 24] [.val [],.val [],.val [],.val [],.val [],.val [],.val [],.val [],.val [],.val [],.val [],.val [],.val [],.val [],.val [],.val [],.val [],.val [],.val [],.val []])
 .ret)))
theorem Uy : FnOk Tryz.prog 146 25 Rh [.t 2,.t 3]:=⟨Tryz.f146,_,[],Tryz.func146,rfl,rfl,by kernel_rfl,by kernel_rfl,follows⟩
theorem Ag : okF Tryz.prog 146 = true:=by kernel_rfl
def Vm : RC :=
 (.seq (.reg [oo 2 (.mv (.c (.j 0)))])
 (.seq (.seq (.reg [om 3 0,oo 4 (.cl (.c (.fn 91 [])) [(.t 3),(.c (.j 0)),(.c (.j 10))]),oo 5 (.un .not (.t 4))])
 (.cond (.t 5) (.seq (.reg [oo 2 (.mv (.c (.j 0)))])
 .ret)
 .skip))
 (.seq (.reg [om 6 0,oo 7 (.bin .mul (.t 6) (.c (.j 8))),oo 8 (.bin .add (.c (.j 8)) (.t 7)),om 2 8])
 .ret)))
theorem Zt : FnOk Tryz.prog 171 9 Vm [.t 2]:=⟨Tryz.f171,_,[],Tryz.func171,rfl,rfl,by kernel_rfl,by kernel_rfl,follows⟩
theorem Vf : okF Tryz.prog 171 = true:=by kernel_rfl
def Uj : RC :=
 (.seq (.reg [oo 4 (.bx (.t 0)),oo 8 (.al [.nils,.nils]),oo 9 (.mv (.c (.bool false)))])
 (.seq (.seq (.reg [om 10 1,oo 11 (.cl (.c (.fn 91 [])) [(.t 10),(.c (.j 0)),(.c (.j 10))]),oo 12 (.un .not (.t 11)),om 13 12,⟨(some 14),(some (13,false)),.mv (.t 2)⟩,⟨(some 15),(some (13,false)),.cl (.c (.fn 91 [])) [(.t 14),(.c (.j 0)),(.c (.j 256))]⟩,⟨(some 16),(some (13,false)),.un .not (.t 15)⟩,oo 17 (.pick (.t 13) (.c (.bool true)) (.t 16)),om 18 17,⟨(some 19),(some (18,false)),.mv (.t 3)⟩,⟨(some 20),(some (18,false)),.lens (.t 19)⟩,⟨(some 21),(some (18,false)),.mv (.t 2)⟩,⟨(some 22),(some (18,false)),.bin .sub (.c (.j 256)) (.t 21)⟩,⟨(some 23),(some (18,false)),.bin .gtr (.t 20) (.t 22)⟩,oo 24 (.pick (.t 18) (.c (.bool true)) (.t 23))])
 (.cond (.t 24) (.seq (.reg [oo 25 (.ld true 2 (.t 4)),oo 26 (.cl (.c (.fn 109 [])) [(.t 25)]),on (.st 2 (.t 8) (.t 26)),oo 9 (.mv (.c (.bool false)))])
 .ret)
 .skip))
 (.seq (.drw [oo 27 (.ld true 2 (.t 4)),om 28 1,oo 29 (.cl (.c (.fn 171 [])) [(.t 28)]),om 30 2,om 31 3,oo 32 (.cl (.c (.fn 110 [])) [(.t 27),(.t 29),(.t 30),(.t 31)]),oo 33 (.ext (.t 32) 0),oo 34 (.ext (.t 32) 1),on (.st 2 (.t 8) (.t 33)),om 9 34] [.val [],.val [],.val [],.val [],.val [],.chn [],.val [],.val [],.chn [],.val []])
 .ret)))
theorem Ye : FnOk Tryz.prog 147 35 Uj [.cell 8 true 2,.t 9]:=⟨Tryz.f147,_,[(3,[5])],Tryz.func147,rfl,rfl,by kernel_rfl,by kernel_rfl,follows⟩
theorem L3 : okF Tryz.prog 147 = true:=by kernel_rfl
def Uo : RC :=
 (.seq (.reg [oo 1 (.bx (.t 0)),oo 2 (.mv (.c (.nils)))])
 (.seq (.reg [oo 7 (.mv (.c (.nils))),om 3 7])
 (.seq (.seq (.reg [oo 4 (.mv (.c (.j 0)))])
 (.blk 0 (.loop (.seq (.seq (.reg [om 8 4,oo 9 (.fa 2 (.t 1)),oo 10 (.ld false 1 (.t 9)),oo 11 (.bin .lss (.t 8) (.t 10)),om 12 11,⟨(some 13),(some (12,true)),.mv (.t 4)⟩,⟨(some 14),(some (12,true)),.bin .lss (.t 13) (.c (.j 11))⟩,oo 15 (.pick (.t 12) (.t 14) (.c (.bool false)))])
 (.cond (.t 15) .skip
 (.exit 0)))
 (.seq (.blk 1 (.seq (.reg [oo 5 (.mv (.c (.bool false)))])
 (.seq (.seq (.reg [oo 6 (.mv (.c (.j 0)))])
 (.blk 2 (.loop (.seq (.seq (.reg [om 18 6,oo 19 (.fa 3 (.t 1)),oo 20 (.ld false 1 (.t 19)),oo 21 (.lenl (.t 20)),oo 22 (.bin .lss (.t 18) (.t 21))])
 (.cond (.t 22) .skip
 (.exit 2)))
 (.seq (.blk 3 (.reg [om 25 5,om 26 25,⟨(some 27),(some (26,false)),.fa 3 (.t 1)⟩,⟨(some 28),(some (26,false)),.ld false 1 (.t 27)⟩,⟨(some 29),(some (26,false)),.mv (.t 6)⟩,⟨(some 30),(some (26,false)),.ia 4 (.t 28) (.t 29)⟩,⟨(some 31),(some (26,false)),.fa 0 (.t 30)⟩,⟨(some 32),(some (26,false)),.ld false 1 (.t 31)⟩,⟨(some 33),(some (26,false)),.mv (.t 4)⟩,⟨(some 34),(some (26,false)),.bin .eql (.t 32) (.t 33)⟩,oo 35 (.pick (.t 26) (.c (.bool true)) (.t 34)),om 5 35]))
 (.reg [om 23 6,oo 24 (.bin .add (.t 23) (.c (.j 1))),om 6 24]))))))
 (.seq (.reg [om 36 5,oo 37 (.un .not (.t 36))])
 (.cond (.t 37) (.reg [om 38 3,om 39 4,oo 40 (.bs 1 [.j 0] 1 [(0,(.t 39))]),oo 41 (.app 1 8 (.t 38) (.t 40)),om 3 41])
 .skip)))))
 (.reg [om 16 4,oo 17 (.bin .add (.t 16) (.c (.j 1))),om 4 17]))))))
 (.seq (.reg [om 42 3,om 2 42])
 .ret))))
theorem Zf : FnOk Tryz.prog 34 43 Uo [.t 2]:=⟨Tryz.f34,_,[],Tryz.func34,rfl,rfl,by kernel_rfl,by kernel_rfl,follows⟩
theorem Hs : okF Tryz.prog 34 = true:=by kernel_rfl
def Zx : RC :=
 (.seq (.reg [oo 4 (.mv (.c (.bool false)))])
 (.seq (.reg [om 10 0,oo 11 (.nc (.t 10)),oo 12 (.ld true 8 (.t 11)),oo 13 (.cl (.c (.fn 34 [])) [(.t 12)]),om 5 13])
 (.seq (.seq (.reg [om 14 1,oo 15 (.bin .lss (.t 14) (.c (.j 0))),om 16 15,⟨(some 17),(some (16,false)),.mv (.t 5)⟩,⟨(some 18),(some (16,false)),.lenl (.t 17)⟩,⟨(some 19),(some (16,false)),.mv (.t 1)⟩,⟨(some 20),(some (16,false)),.bin .leq (.t 18) (.t 19)⟩,oo 21 (.pick (.t 16) (.c (.bool true)) (.t 20))])
 (.cond (.t 21) (.seq (.reg [oo 4 (.mv (.c (.bool false)))])
 .ret)
 .skip))
 (.seq (.reg [om 23 0,oo 24 (.nc (.t 23)),oo 25 (.fa 4 (.t 24)),oo 26 (.ld false 1 (.t 25)),oo 27 (.bld [.j 0,.j 0,.str []] [(0,1),(1,1),(2,1)] [(0,(.t 26)),(1,(.c (.j 1))),(2,(.c (.str [115,101,103])))]),oo 28 (.cl (.c (.fn 146 [])) [(.t 27)]),om 22 28,oo 29 (.ext (.t 22) 0),oo 30 (.ext (.t 22) 1),om 6 29,om 7 30])
 (.seq (.drw [om 32 0,oo 33 (.nc (.t 32)),oo 34 (.fa 0 (.t 33)),oo 35 (.ld true 2 (.t 34)),om 36 5,oo 37 (.ia 1 (.t 36) (.c (.j 0))),oo 38 (.ld false 1 (.t 37)),om 39 6,oo 40 (.cl (.c (.fn 147 [])) [(.t 35),(.t 38),(.c (.j 0)),(.t 39)]),om 31 40,oo 41 (.ext (.t 31) 0),oo 42 (.ext (.t 31) 1),oo 8 (.al [.nils,.nils]),on (.st 2 (.t 8) (.t 41)),om 9 42] [.val [],.val [],.val [],.val [],.val [],.val [],.val [],.val [],.val [],.val [],.val [],.val [],.chn [0,1,2,3,4,5,6,7,8,9,10,11],.chn [11],.val []])
 (.seq (.seq (.reg [om 43 7,oo 44 (.un .not (.t 43)),om 45 44,⟨(some 46),(some (45,false)),.mv (.t 9)⟩,⟨(some 47),(some (45,false)),.un .not (.t 46)⟩,oo 48 (.pick (.t 45) (.c (.bool true)) (.t 47)),om 49 48,⟨(some 50),(some (49,false)),.mv (.t 0)⟩,⟨(some 51),(some (49,false)),.nc (.t 50)⟩,⟨(some 52),(some (49,false)),.fa 4 (.t 51)⟩,⟨(some 53),(some (49,false)),.ld false 1 (.t 52)⟩,⟨(some 54),(some (49,false)),.bin .geq (.t 53) (.c (.j 1000000000))⟩,oo 55 (.pick (.t 49) (.c (.bool true)) (.t 54))])
 (.cond (.t 55) (.seq (.reg [oo 4 (.mv (.c (.bool false)))])
 .ret)
 .skip))
 (.seq (.reg [om 56 0,oo 57 (.ld true 2 (.t 8)),oo 58 (.cl (.c (.fn 111 [])) [(.t 57)]),oo 59 (.nc (.t 56)),oo 60 (.fa 0 (.t 59)),on (.st 2 (.t 60) (.t 58))])
 (.seq (.drw [om 61 0,oo 62 (.mv (.c (.nils))),om 63 0,oo 64 (.nc (.t 63)),oo 65 (.fa 3 (.t 64)),oo 66 (.ld false 1 (.t 65)),oo 67 (.app 4 48 (.t 62) (.t 66)),om 68 5,oo 69 (.ia 1 (.t 68) (.c (.j 0))),oo 70 (.ld false 1 (.t 69)),om 71 0,oo 72 (.nc (.t 71)),oo 73 (.fa 4 (.t 72)),oo 74 (.ld false 1 (.t 73)),om 75 6,oo 76 (.lens (.t 75)),oo 77 (.bld [.j 0,.j 0,.j 0,.nils] [(0,1),(1,1),(2,1),(3,1)] [(0,(.t 70)),(1,(.t 74)),(2,(.t 76))]),oo 78 (.bs 4 [.j 0,.j 0,.j 0,.nils] 1 [(0,(.t 77))]),oo 79 (.app 4 48 (.t 67) (.t 78)),oo 80 (.nc (.t 61)),oo 81 (.fa 3 (.t 80)),on (.st 1 (.t 81) (.t 79))] [.val [],.val [],.val [],.val [],.val [],.val [],.chn [0],.val [6],.val [6],.val [6],.val [6],.val [6],.val [6],.val [6],.val [6],.val [6],.val [6],.val [6],.chn [0],.val [],.val [],.chn []])
 (.seq (.reg [om 82 0,oo 83 (.nc (.t 82)),oo 84 (.fa 4 (.t 83)),oo 85 (.ld false 1 (.t 84)),oo 86 (.bin .add (.t 85) (.c (.j 1))),oo 87 (.nc (.t 82)),oo 88 (.fa 4 (.t 87)),on (.st 1 (.t 88) (.t 86))])
 (.seq (.reg [oo 4 (.mv (.c (.bool true)))])
 .ret))))))))))
theorem Ks : FnOk Tryz.prog 88 89 Zx [.t 4]:=⟨Tryz.f88,_,[(9,[2000017])],Tryz.func88,rfl,rfl,by kernel_rfl,by kernel_rfl,follows⟩
theorem Kc : okF Tryz.prog 88 = true:=by kernel_rfl
def Py : RC :=
 (.seq (.reg [oo 2 (.al [.nils,.nils,.j 0,.nils,.j 0,.j 0,.j 0,.j 0]),oo 3 (.mv (.c (.bool false)))])
 (.seq (.seq (.reg [om 9 0,oo 10 (.cl (.c (.fn 91 [])) [(.t 9),(.c (.j 5)),(.c (.j 11))]),oo 11 (.un .not (.t 10))])
 (.cond (.t 11) (.seq (.reg [oo 12 (.bld [.nils,.nils,.j 0,.nils,.j 0,.j 0,.j 0,.j 0] [(0,2),(2,1),(3,1),(4,1),(5,1),(6,1),(7,1)] []),on (.st 8 (.t 2) (.t 12)),oo 3 (.mv (.c (.bool false)))])
 .ret)
 .skip))
 (.seq (.reg [om 14 0,oo 15 (.bin .mul (.t 14) (.c (.j 8))),oo 16 (.bin .add (.c (.j 8)) (.t 15)),oo 17 (.cl (.c (.fn 163 [])) [(.t 16)]),om 13 17,oo 18 (.ext (.t 13) 0),oo 19 (.ext (.t 13) 1),oo 4 (.al [.nils,.nils]),on (.st 2 (.t 4) (.t 18)),om 5 19])
 (.seq (.reg [oo 20 (.ld true 2 (.t 4)),om 21 0,oo 22 (.bld [.nils,.nils,.j 0,.nils,.j 0,.j 0,.j 0,.j 0] [(0,2),(2,1),(3,1),(4,1),(5,1),(6,1),(7,1)] [(0,(.t 20)),(1,(.t 21)),(3,(.c (.j 1))),(4,(.c (.j 1))),(6,(.c (.j 1)))]),oo 6 (.al [.nils,.nils,.j 0,.nils,.j 0,.j 0,.j 0,.j 0]),on (.st 8 (.t 6) (.t 22))])
 (.seq (.seq (.reg [oo 23 (.cl (.c (.fn 88 [])) [(.t 6),(.c (.j 0))]),oo 24 (.un .not (.t 23))])
 (.cond (.t 24) (.seq (.reg [oo 25 (.bld [.nils,.nils,.j 0,.nils,.j 0,.j 0,.j 0,.j 0] [(0,2),(2,1),(3,1),(4,1),(5,1),(6,1),(7,1)] []),on (.st 8 (.t 2) (.t 25)),oo 3 (.mv (.c (.bool false)))])
 .ret)
 .skip))
 (.seq (.drw [oo 27 (.fa 0 (.t 6)),oo 28 (.ld true 2 (.t 27)),oo 29 (.ld true 8 (.t 6)),oo 30 (.cl (.c (.fn 20 [])) [(.t 29)]),oo 31 (.cl (.c (.fn 42 [])) [(.t 28),(.t 30)]),om 26 31,oo 32 (.ext (.t 26) 0),oo 33 (.ext (.t 26) 1),oo 7 (.al [.nils,.nils]),on (.st 2 (.t 7) (.t 32)),om 8 33] [.val [],.val [],.val [],.val [],.chn [],.val [],.val [],.val [],.flt 0,.chn [7],.val []])
 (.seq (.seq (.reg [om 34 8,oo 35 (.un .not (.t 34))])
 (.cond (.t 35) (.seq (.reg [oo 36 (.bld [.nils,.nils,.j 0,.nils,.j 0,.j 0,.j 0,.j 0] [(0,2),(2,1),(3,1),(4,1),(5,1),(6,1),(7,1)] []),on (.st 8 (.t 2) (.t 36)),oo 3 (.mv (.c (.bool false)))])
 .ret)
 .skip))
 (.seq (.reg [oo 37 (.ld true 2 (.t 7)),oo 38 (.fa 0 (.t 6)),on (.st 2 (.t 38) (.t 37))])
 (.seq (.reg [oo 39 (.fa 6 (.t 6)),on (.st 1 (.t 39) (.c (.j 1)))])
 (.seq (.reg [oo 40 (.ld true 8 (.t 6)),on (.st 8 (.t 2) (.t 40)),oo 3 (.mv (.c (.bool true)))])
 .ret))))))))))
theorem Rp : FnOk Tryz.prog 116 41 Py [.cell 2 true 8,.t 3]:=⟨Tryz.f116,_,[(7,[4,1000008])],Tryz.func116,rfl,rfl,by kernel_rfl,by kernel_rfl,follows⟩
theorem Pp : okF Tryz.prog 116 = true:=by kernel_rfl
def Yx : RC :=
 (.seq (.reg [oo 4 (.mv (.c (.str [])))])
 (.seq (.reg [om 5 1,om 6 0,om 7 1,oo 8 (.lenl (.t 7)),oo 9 (.cl (.c (.fn 49 [])) [(.t 6),(.t 8)]),oo 10 (.ia 1 (.t 5) (.t 9)),oo 11 (.ld false 1 (.t 10)),om 4 11])
 .ret))
theorem A2f : FnOk Tryz.prog 138 12 Yx [.t 4]:=⟨Tryz.f138,_,[],Tryz.func138,rfl,rfl,by kernel_rfl,by kernel_rfl,follows⟩
theorem Fi : okF Tryz.prog 138 = true:=by kernel_rfl
def Xp : RC :=
 (.seq (.reg [oo 2 (.mv (.c (.str [])))])
 (.seq (.reg [om 3 0,oo 4 (.bs 1 [.str []] 5 [(0,(.c (.str [104,101,108,108,111]))),(1,(.c (.str [102,114,111,109,58,32,97,110,110,10,10,104,105]))),(2,(.c (.str [115,117,98,106,101,99,116,58,32,120,10,10,98,111,100,121,32,111,102,32,105,116,10,46,100,111,116,10]))),(3,(.c (.str []))),(4,(.c (.str [120,10,46,46,10])))]),oo 5 (.cl (.c (.fn 138 [])) [(.t 3),(.t 4)]),om 2 5])
 .ret))
theorem A19 : FnOk Tryz.prog 139 6 Xp [.t 2]:=⟨Tryz.f139,_,[],Tryz.func139,rfl,rfl,by kernel_rfl,by kernel_rfl,follows⟩
theorem Xt : okF Tryz.prog 139 = true:=by kernel_rfl
def Mz : RC :=
 (.seq (.reg [oo 4 (.mv (.c (.j 0)))])
 (.seq (.reg [om 5 1,om 6 0,om 7 1,oo 8 (.lenl (.t 7)),oo 9 (.cl (.c (.fn 49 [])) [(.t 6),(.t 8)]),oo 10 (.ia 1 (.t 5) (.t 9)),oo 11 (.ld false 1 (.t 10)),om 4 11])
 .ret))
theorem Ra : FnOk Tryz.prog 77 12 Mz [.t 4]:=⟨Tryz.f77,_,[],Tryz.func77,rfl,rfl,by kernel_rfl,by kernel_rfl,follows⟩
theorem Pc : okF Tryz.prog 77 = true:=by kernel_rfl
def A1d : RC :=
 (.seq (.reg [oo 2 (.al [.j 0,.j 0,.j 0,.j 0,.j 0,.str [],.str [],.str []])])
 (.seq (.reg [om 4 0,oo 5 (.bs 1 [.j 0] 11 [(0,(.c (.j 1))),(1,(.c (.j 1))),(2,(.c (.j 2))),(3,(.c (.j 3))),(4,(.c (.j 3))),(5,(.c (.j 3))),(6,(.c (.j 3))),(7,(.c (.j 4))),(8,(.c (.j 4))),(9,(.c (.j 5))),(10,(.c (.j 5)))]),oo 6 (.cl (.c (.fn 77 [])) [(.t 4),(.t 5)]),om 7 0,oo 8 (.cl (.c (.fn 49 [])) [(.t 7),(.c (.j 3))]),oo 9 (.bin .add (.c (.j 1)) (.t 8)),oo 10 (.bld [.j 0,.j 0,.j 0,.j 0,.j 0,.str [],.str [],.str []] [(0,1),(1,1),(2,1),(3,1),(4,1),(5,1),(6,1),(7,1)] [(0,(.t 6)),(1,(.t 9))]),oo 3 (.al [.j 0,.j 0,.j 0,.j 0,.j 0,.str [],.str [],.str []]),on (.st 8 (.t 3) (.t 10))])
 (.seq (.seq (.reg [oo 11 (.fa 0 (.t 3)),oo 12 (.ld false 1 (.t 11))])
 (.blk 0 (.seq (.reg [oo 14 (.bin .eql (.t 12) (.c (.j 1))),om 13 14])
 (.cond (.t 13) (.seq (.reg [om 15 0,oo 16 (.bs 1 [.str []] 2 [(0,(.c (.str [97,110,110]))),(1,(.c (.str [98,111,98])))]),oo 17 (.cl (.c (.fn 138 [])) [(.t 15),(.t 16)]),oo 18 (.fa 5 (.t 3)),on (.st 1 (.t 18) (.t 17))])
 (.seq (.reg [om 19 0,oo 20 (.bs 1 [.str []] 2 [(0,(.c (.str [105,110,98,111,120]))),(1,(.c (.str [119,111,114,107])))]),oo 21 (.cl (.c (.fn 138 [])) [(.t 19),(.t 20)]),oo 22 (.fa 6 (.t 3)),on (.st 1 (.t 22) (.t 21))])
 (.reg [om 23 0,oo 24 (.cl (.c (.fn 49 [])) [(.t 23),(.c (.j 6))]),oo 25 (.bin .add (.c (.j 1)) (.t 24)),oo 26 (.fa 3 (.t 3)),on (.st 1 (.t 26) (.t 25))])))
 (.seq (.reg [oo 28 (.bin .eql (.t 12) (.c (.j 3))),om 27 28])
 (.cond (.t 27) (.seq (.reg [om 29 0,oo 30 (.cl (.c (.fn 49 [])) [(.t 29),(.c (.j 5))]),oo 31 (.bin .add (.c (.j 1)) (.t 30)),oo 32 (.fa 2 (.t 3)),on (.st 1 (.t 32) (.t 31))])
 (.seq (.reg [om 33 0,oo 34 (.cl (.c (.fn 49 [])) [(.t 33),(.c (.j 8))]),oo 35 (.fa 4 (.t 3)),on (.st 1 (.t 35) (.t 34))])
 (.reg [om 36 0,oo 37 (.cl (.c (.fn 139 [])) [(.t 36)]),oo 38 (.fa 7 (.t 3)),on (.st 1 (.t 38) (.t 37))])))
 (.seq (.reg [oo 40 (.bin .eql (.t 12) (.c (.j 4))),om 39 40])
 (.cond (.t 39) (.seq (.reg [om 41 0,oo 42 (.cl (.c (.fn 49 [])) [(.t 41),(.c (.j 5))]),oo 43 (.bin .add (.c (.j 1)) (.t 42)),oo 44 (.fa 2 (.t 3)),on (.st 1 (.t 44) (.t 43))])
 (.reg [om 45 0,oo 46 (.cl (.c (.fn 49 [])) [(.t 45),(.c (.j 8))]),oo 47 (.fa 4 (.t 3)),on (.st 1 (.t 47) (.t 46))]))
 (.seq (.reg [oo 49 (.bin .eql (.t 12) (.c (.j 5))),om 48 49])
 (.cond (.t 48) (.reg [om 50 0,oo 51 (.cl (.c (.fn 49 [])) [(.t 50),(.c (.j 5))]),oo 52 (.bin .add (.c (.j 1)) (.t 51)),oo 53 (.fa 2 (.t 3)),on (.st 1 (.t 53) (.t 52))])
 .skip))))))))))
 (.seq (.reg [oo 54 (.ld true 8 (.t 3)),on (.st 8 (.t 2) (.t 54))])
 .ret))))
theorem A2v : FnOk Tryz.prog 75 55 A1d [.cell 2 true 8]:=⟨Tryz.f75,_,[],Tryz.func75,rfl,rfl,by kernel_rfl,by kernel_rfl,follows⟩
theorem A26 : okF Tryz.prog 75 = true:=by kernel_rfl
def Xx : RC :=
 (.seq (.reg [oo 2 (.bx (.t 0)),oo 3 (.bx (.t 1)),oo 4 (.mv (.c (.bool false)))])
 (.seq (.reg [oo 7 (.ld true 8 (.t 2)),oo 8 (.cl (.c (.fn 17 [])) [(.t 7)]),om 5 8])
 (.seq (.seq (.reg [oo 6 (.mv (.c (.j 0)))])
 (.blk 0 (.loop (.seq (.seq (.reg [om 9 6,om 10 5,oo 11 (.lenl (.t 10)),oo 12 (.bin .lss (.t 9) (.t 11))])
 (.cond (.t 12) .skip
 (.exit 0)))
 (.seq (.blk 1 (.seq (.drw [om 15 5,om 16 6,oo 17 (.ia 9 (.t 15) (.t 16)),oo 18 (.fa 0 (.t 17)),oo 19 (.ld false 1 (.t 18)),oo 20 (.fa 0 (.t 3)),oo 21 (.ld false 1 (.t 20)),oo 22 (.bin .eql (.t 19) (.t 21)),om 23 22,⟨(some 24),(some (23,true)),.mv (.t 5)⟩,⟨(some 25),(some (23,true)),.mv (.t 6)⟩,⟨(some 26),(some (23,true)),.ia 9 (.t 24) (.t 25)⟩,⟨(some 27),(some (23,true)),.ld true 9 (.t 26)⟩,⟨(some 28),(some (23,true)),.ld true 9 (.t 3)⟩,⟨(some 29),(some (23,true)),.equ true [(0,1),(1,1),(2,1),(3,1),(4,1),(5,1),(6,2),(7,2),(8,2)] (.t 27) (.t 28)⟩,oo 30 (.pick (.t 23) (.t 29) (.c (.bool false)))] [.val [],.val [],.val [],.val [],.val [],.val [],.val [],.val [],.val [],.val [],.val [],.val [],.val [],.val [],.val [],.val []])
 (.cond (.t 30) (.seq (.reg [oo 4 (.mv (.c (.bool false)))])
 .ret)
 .skip)))
 (.reg [om 13 6,oo 14 (.bin .add (.t 13) (.c (.j 1))),om 6 14]))))))
 (.seq (.reg [om 31 5,oo 32 (.lenl (.t 31)),oo 33 (.bin .lss (.t 32) (.c (.j 200))),om 4 33])
 .ret))))
theorem A0b : FnOk Tryz.prog 86 34 Xx [.t 4]:=⟨Tryz.f86,_,[],Tryz.func86,rfl,rfl,by kernel_rfl,by kernel_rfl,follows⟩
theorem Yj : okF Tryz.prog 86 = true:=by kernel_rfl
def A10 : RC :=
 (.seq (.reg [oo 2 (.mv (.c (.bool false)))])
 (.seq (.seq (.reg [oo 3 (.mv (.c (.j 0)))])
 (.blk 0 (.loop (.seq (.seq (.reg [om 4 3,om 5 0,oo 6 (.lens (.t 5)),oo 7 (.bin .lss (.t 4) (.t 6))])
 (.cond (.t 7) .skip
 (.exit 0)))
 (.seq (.blk 1 (.seq (.reg [om 10 0,om 11 3,oo 12 (.idx (.t 10) (.t 11)),oo 13 (.bin .lss (.t 12) (.c (.int .u8 97))),om 14 13,⟨(some 15),(some (14,false)),.mv (.t 0)⟩,⟨(some 16),(some (14,false)),.mv (.t 3)⟩,⟨(some 17),(some (14,false)),.idx (.t 15) (.t 16)⟩,⟨(some 18),(some (14,false)),.bin .gtr (.t 17) (.c (.int .u8 122))⟩,oo 19 (.pick (.t 14) (.c (.bool true)) (.t 18))])
 (.cond (.t 19) (.seq (.reg [oo 2 (.mv (.c (.bool false)))])
 .ret)
 .skip)))
 (.reg [om 8 3,oo 9 (.bin .add (.t 8) (.c (.j 1))),om 3 9]))))))
 (.seq (.reg [om 20 0,oo 21 (.lens (.t 20)),oo 22 (.cl (.c (.fn 91 [])) [(.t 21),(.c (.j 1)),(.c (.j 8))]),om 2 22])
 .ret)))
theorem A2u : FnOk Tryz.prog 176 23 A10 [.t 2]:=⟨Tryz.f176,_,[],Tryz.func176,rfl,rfl,by kernel_rfl,by kernel_rfl,follows⟩
theorem Lb : okF Tryz.prog 176 = true:=by kernel_rfl
def A3g : RC :=
 (.seq (.reg [oo 1 (.bx (.t 0)),oo 2 (.mv (.c (.bool false)))])
 (.seq (.seq (.reg [oo 6 (.fa 0 (.t 1)),oo 7 (.ld false 1 (.t 6)),oo 8 (.cl (.c (.fn 91 [])) [(.t 7),(.c (.j 1)),(.c (.j 5))]),oo 9 (.un .not (.t 8)),om 10 9,⟨(some 11),(some (10,false)),.fa 1 (.t 1)⟩,⟨(some 12),(some (10,false)),.ld false 1 (.t 11)⟩,⟨(some 13),(some (10,false)),.cl (.c (.fn 91 [])) [(.t 12),(.c (.j 1)),(.c (.j 9999))]⟩,⟨(some 14),(some (10,false)),.un .not (.t 13)⟩,oo 15 (.pick (.t 10) (.c (.bool true)) (.t 14))])
 (.cond (.t 15) (.seq (.reg [oo 2 (.mv (.c (.bool false)))])
 .ret)
 .skip))
 (.seq (.reg [oo 16 (.fa 0 (.t 1)),oo 17 (.ld false 1 (.t 16)),oo 18 (.bin .eql (.t 17) (.c (.j 1))),om 3 18])
 (.seq (.reg [oo 19 (.fa 0 (.t 1)),oo 20 (.ld false 1 (.t 19)),oo 21 (.bin .eql (.t 20) (.c (.j 3))),om 22 21,⟨(some 23),(some (22,false)),.fa 0 (.t 1)⟩,⟨(some 24),(some (22,false)),.ld false 1 (.t 23)⟩,⟨(some 25),(some (22,false)),.bin .eql (.t 24) (.c (.j 4))⟩,oo 26 (.pick (.t 22) (.c (.bool true)) (.t 25)),om 27 26,⟨(some 28),(some (27,false)),.fa 0 (.t 1)⟩,⟨(some 29),(some (27,false)),.ld false 1 (.t 28)⟩,⟨(some 30),(some (27,false)),.bin .eql (.t 29) (.c (.j 5))⟩,oo 31 (.pick (.t 27) (.c (.bool true)) (.t 30)),om 4 31])
 (.seq (.reg [oo 32 (.fa 0 (.t 1)),oo 33 (.ld false 1 (.t 32)),oo 34 (.bin .eql (.t 33) (.c (.j 3))),om 35 34,⟨(some 36),(some (35,false)),.fa 0 (.t 1)⟩,⟨(some 37),(some (35,false)),.ld false 1 (.t 36)⟩,⟨(some 38),(some (35,false)),.bin .eql (.t 37) (.c (.j 4))⟩,oo 39 (.pick (.t 35) (.c (.bool true)) (.t 38)),om 5 39])
 (.seq (.seq (.reg [om 40 3,om 41 40,⟨(some 42),(some (41,true)),.fa 5 (.t 1)⟩,⟨(some 43),(some (41,true)),.ld false 1 (.t 42)⟩,⟨(some 44),(some (41,true)),.cl (.c (.fn 176 [])) [(.t 43)]⟩,⟨(some 45),(some (41,true)),.un .not (.t 44)⟩,⟨(some 46),(some (41,true)),.mv (.t 45)⟩,⟨(some 47),(some (46,false)),.fa 6 (.t 1)⟩,⟨(some 48),(some (46,false)),.ld false 1 (.t 47)⟩,⟨(some 49),(some (46,false)),.cl (.c (.fn 176 [])) [(.t 48)]⟩,⟨(some 50),(some (46,false)),.un .not (.t 49)⟩,⟨(some 51),(some (41,true)),.pick (.t 46) (.c (.bool true)) (.t 50)⟩,⟨(some 52),(some (41,true)),.mv (.t 51)⟩,⟨(some 53),(some (52,false)),.fa 3 (.t 1)⟩,⟨(some 54),(some (52,false)),.ld false 1 (.t 53)⟩,⟨(some 55),(some (52,false)),.cl (.c (.fn 91 [])) [(.t 54),(.c (.j 1)),(.c (.j 10000))]⟩,⟨(some 56),(some (52,false)),.un .not (.t 55)⟩,⟨(some 57),(some (41,true)),.pick (.t 52) (.c (.bool true)) (.t 56)⟩,oo 58 (.pick (.t 41) (.t 57) (.c (.bool false))),om 59 58,⟨(some 60),(some (59,false)),.mv (.t 3)⟩,⟨(some 61),(some (59,false)),.un .not (.t 60)⟩,⟨(some 62),(some (59,false)),.mv (.t 61)⟩,⟨(some 63),(some (62,true)),.fa 5 (.t 1)⟩,⟨(some 64),(some (62,true)),.ld false 1 (.t 63)⟩,⟨(some 65),(some (62,true)),.bin .neq (.t 64) (.c (.str []))⟩,⟨(some 66),(some (62,true)),.mv (.t 65)⟩,⟨(some 67),(some (66,false)),.fa 6 (.t 1)⟩,⟨(some 68),(some (66,false)),.ld false 1 (.t 67)⟩,⟨(some 69),(some (66,false)),.bin .neq (.t 68) (.c (.str []))⟩,⟨(some 70),(some (62,true)),.pick (.t 66) (.c (.bool true)) (.t 69)⟩,⟨(some 71),(some (62,true)),.mv (.t 70)⟩,⟨(some 72),(some (71,false)),.fa 3 (.t 1)⟩,⟨(some 73),(some (71,false)),.ld false 1 (.t 72)⟩,⟨(some 74),(some (71,false)),.bin .neq (.t 73) (.c (.j 0))⟩,⟨(some 75),(some (62,true)),.pick (.t 71) (.c (.bool true)) (.t 74)⟩,⟨(some 76),(some (59,false)),.pick (.t 62) (.t 75) (.c (.bool false))⟩,oo 77 (.pick (.t 59) (.c (.bool true)) (.t 76))])
 (.cond (.t 77) (.seq (.reg [oo 2 (.mv (.c (.bool false)))])
 .ret)
 .skip))
 (.seq (.seq (.reg [om 78 4,om 79 78,⟨(some 80),(some (79,true)),.fa 2 (.t 1)⟩,⟨(some 81),(some (79,true)),.ld false 1 (.t 80)⟩,⟨(some 82),(some (79,true)),.cl (.c (.fn 91 [])) [(.t 81),(.c (.j 1)),(.c (.j 9999))]⟩,⟨(some 83),(some (79,true)),.un .not (.t 82)⟩,oo 84 (.pick (.t 79) (.t 83) (.c (.bool false))),om 85 84,⟨(some 86),(some (85,false)),.mv (.t 4)⟩,⟨(some 87),(some (85,false)),.un .not (.t 86)⟩,⟨(some 88),(some (85,false)),.mv (.t 87)⟩,⟨(some 89),(some (88,true)),.fa 2 (.t 1)⟩,⟨(some 90),(some (88,true)),.ld false 1 (.t 89)⟩,⟨(some 91),(some (88,true)),.bin .neq (.t 90) (.c (.j 0))⟩,⟨(some 92),(some (85,false)),.pick (.t 88) (.t 91) (.c (.bool false))⟩,oo 93 (.pick (.t 85) (.c (.bool true)) (.t 92))])
 (.cond (.t 93) (.seq (.reg [oo 2 (.mv (.c (.bool false)))])
 .ret)
 .skip))
 (.seq (.seq (.reg [om 94 5,om 95 94,⟨(some 96),(some (95,true)),.fa 4 (.t 1)⟩,⟨(some 97),(some (95,true)),.ld false 1 (.t 96)⟩,⟨(some 98),(some (95,true)),.cl (.c (.fn 91 [])) [(.t 97),(.c (.j 0)),(.c (.j 7))]⟩,⟨(some 99),(some (95,true)),.un .not (.t 98)⟩,oo 100 (.pick (.t 95) (.t 99) (.c (.bool false))),om 101 100,⟨(some 102),(some (101,false)),.mv (.t 5)⟩,⟨(some 103),(some (101,false)),.un .not (.t 102)⟩,⟨(some 104),(some (101,false)),.mv (.t 103)⟩,⟨(some 105),(some (104,true)),.fa 4 (.t 1)⟩,⟨(some 106),(some (104,true)),.ld false 1 (.t 105)⟩,⟨(some 107),(some (104,true)),.bin .neq (.t 106) (.c (.j 0))⟩,⟨(some 108),(some (101,false)),.pick (.t 104) (.t 107) (.c (.bool false))⟩,oo 109 (.pick (.t 101) (.c (.bool true)) (.t 108))])
 (.cond (.t 109) (.seq (.reg [oo 2 (.mv (.c (.bool false)))])
 .ret)
 .skip))
 (.seq (.seq (.reg [oo 110 (.fa 0 (.t 1)),oo 111 (.ld false 1 (.t 110)),oo 112 (.bin .eql (.t 111) (.c (.j 3)))])
 (.cond (.t 112) (.seq (.reg [oo 113 (.fa 7 (.t 1)),oo 114 (.ld false 1 (.t 113)),oo 115 (.lens (.t 114)),oo 116 (.bin .leq (.t 115) (.c (.j 100))),om 2 116])
 .ret)
 .skip))
 (.seq (.reg [oo 117 (.fa 7 (.t 1)),oo 118 (.ld false 1 (.t 117)),oo 119 (.bin .eql (.t 118) (.c (.str []))),om 2 119])
 .ret))))))))))
theorem A4h : FnOk Tryz.prog 151 120 A3g [.t 2]:=⟨Tryz.f151,_,[],Tryz.func151,rfl,rfl,by kernel_rfl,by kernel_rfl,follows⟩
theorem A3f : okF Tryz.prog 151 = true:=by kernel_rfl
def A00 : RC :=
 (.seq (.reg [oo 1 (.bx (.t 0)),oo 2 (.mv (.c (.str []))),oo 3 (.mv (.c (.bool false)))])
 (.seq (.seq (.reg [oo 4 (.ld true 8 (.t 1)),oo 5 (.cl (.c (.fn 151 [])) [(.t 4)]),oo 6 (.un .not (.t 5))])
 (.cond (.t 6) (.seq (.reg [oo 2 (.mv (.c (.str []))),oo 3 (.mv (.c (.bool false)))])
 .ret)
 .skip))
 (.seq (.drw [oo 7 (.fa 0 (.t 1)),oo 8 (.ld false 1 (.t 7)),oo 9 (.cvi .u8 (.t 8)),oo 10 (.bs 1 [.int .u8 0] 1 [(0,(.t 9))]),oo 11 (.cvb (.t 10)),oo 12 (.fa 1 (.t 1)),oo 13 (.ld false 1 (.t 12)),oo 14 (.cl (.c (.fn 97 [])) [(.t 13)]),oo 15 (.bin .add (.t 11) (.t 14)),oo 16 (.fa 2 (.t 1)),oo 17 (.ld false 1 (.t 16)),oo 18 (.cl (.c (.fn 97 [])) [(.t 17)]),oo 19 (.bin .add (.t 15) (.t 18)),oo 20 (.fa 3 (.t 1)),oo 21 (.ld false 1 (.t 20)),oo 22 (.cl (.c (.fn 97 [])) [(.t 21)]),oo 23 (.bin .add (.t 19) (.t 22)),oo 24 (.fa 4 (.t 1)),oo 25 (.ld false 1 (.t 24)),oo 26 (.cl (.c (.fn 97 [])) [(.t 25)]),oo 27 (.bin .add (.t 23) (.t 26)),oo 28 (.fa 5 (.t 1)),oo 29 (.ld false 1 (.t 28)),oo 30 (.cl (.c (.fn 99 [])) [(.t 29)]),oo 31 (.bin .add (.t 27) (.t 30)),oo 32 (.fa 6 (.t 1)),oo 33 (.ld false 1 (.t 32)),oo 34 (.cl (.c (.fn 99 [])) [(.t 33)]),oo 35 (.bin .add (.t 31) (.t 34)),oo 36 (.fa 7 (.t 1)),oo 37 (.ld false 1 (.t 36)),oo 38 (.cl (.c (.fn 99 [])) [(.t 37)]),oo 39 (.bin .add (.t 35) (.t 38)),om 2 39,oo 3 (.mv (.c (.bool true)))] [.val [],.val [],.val [],.chn [],.val [],.val [3],.val [3],.val [3],.val [],.val [3],.val [3],.val [3],.val [],.val [3],.val [3],.val [3],.val [],.val [3],.val [3],.val [3],.val [],.val [3],.val [3],.val [3],.val [],.val [3],.val [3],.val [3],.val [],.val [3],.val [3],.val [3],.val [],.val [],.val []])
 .ret)))
theorem A1h : FnOk Tryz.prog 169 40 A00 [.t 2,.t 3]:=⟨Tryz.f169,_,[],Tryz.func169,rfl,rfl,by kernel_rfl,by kernel_rfl,follows⟩
theorem Yq : okF Tryz.prog 169 = true:=by kernel_rfl
def Rv : RC :=
 (.seq (.reg [oo 2 (.bx (.t 0)),oo 4 (.al [.j 0,.j 0,.str []]),oo 5 (.mv (.c (.bool false)))])
 (.seq (.reg [oo 10 (.fa 1 (.t 2)),oo 11 (.ld true 8 (.t 10)),oo 12 (.cl (.c (.fn 169 [])) [(.t 11)]),om 9 12,oo 13 (.ext (.t 9) 0),oo 14 (.ext (.t 9) 1),om 6 13,om 7 14])
 (.seq (.reg [om 15 1,oo 16 (.fa 0 (.t 2)),oo 17 (.ld false 1 (.t 16)),om 18 6,oo 19 (.bld [.j 0,.j 0,.str []] [(0,1),(1,1),(2,1)] [(0,(.t 15)),(1,(.t 17)),(2,(.t 18))]),oo 8 (.al [.j 0,.j 0,.str []]),on (.st 3 (.t 8) (.t 19))])
 (.seq (.seq (.reg [om 20 7,oo 21 (.un .not (.t 20)),om 22 21,⟨(some 23),(some (22,false)),.ld true 3 (.t 8)⟩,⟨(some 24),(some (22,false)),.cl (.c (.fn 170 [])) [(.t 23)]⟩,⟨(some 25),(some (22,false)),.un .not (.t 24)⟩,oo 26 (.pick (.t 22) (.c (.bool true)) (.t 25))])
 (.cond (.t 26) (.seq (.reg [oo 27 (.bld [.j 0,.j 0,.str []] [(0,1),(1,1),(2,1)] []),on (.st 3 (.t 4) (.t 27)),oo 5 (.mv (.c (.bool false)))])
 .ret)
 .skip))
 (.seq (.reg [oo 28 (.ld true 3 (.t 8)),on (.st 3 (.t 4) (.t 28)),oo 5 (.mv (.c (.bool true)))])
 .ret)))))
theorem Wt : FnOk Tryz.prog 145 29 Rv [.cell 4 true 3,.t 5]:=⟨Tryz.f145,_,[],Tryz.func145,rfl,rfl,by kernel_rfl,by kernel_rfl,follows⟩
theorem Qz : okF Tryz.prog 145 = true:=by kernel_rfl
def Qt : RC :=
 (.seq (.reg [oo 4 (.bx (.t 1)),oo 6 (.mv (.c (.bool false)))])
 (.seq (.drw [om 14 0,oo 15 (.nc (.t 14)),oo 16 (.fa 3 (.t 15)),oo 17 (.ld false 1 (.t 16)),om 18 0,oo 19 (.nc (.t 18)),oo 20 (.fa 3 (.t 19)),oo 21 (.ld false 1 (.t 20)),oo 22 (.lenl (.t 21)),oo 23 (.bin .sub (.t 22) (.c (.j 1))),oo 24 (.ia 4 (.t 17) (.t 23)),oo 25 (.ld true 4 (.t 24)),oo 7 (.al [.j 0,.j 0,.j 0,.nils]),on (.st 4 (.t 7) (.t 25))] [.val [],.val [],.val [],.val [],.val [],.val [],.val [],.val [],.val [],.val [],.val [],.val [],.chn [0,1,2,3,4,5,6,7,8,9,10,11],.chn []])
 (.seq (.reg [oo 27 (.ld true 9 (.t 4)),oo 28 (.fa 1 (.t 7)),oo 29 (.ld false 1 (.t 28)),oo 30 (.cl (.c (.fn 145 [])) [(.t 27),(.t 29)]),om 26 30,oo 31 (.ext (.t 26) 0),oo 32 (.ext (.t 26) 1),oo 8 (.al [.j 0,.j 0,.str []]),on (.st 3 (.t 8) (.t 31)),om 9 32])
 (.seq (.reg [oo 34 (.ld true 3 (.t 8)),oo 35 (.cl (.c (.fn 146 [])) [(.t 34)]),om 33 35,oo 36 (.ext (.t 33) 0),oo 37 (.ext (.t 33) 1),om 10 36,om 11 37])
 (.seq (.seq (.reg [om 38 9,oo 39 (.un .not (.t 38)),om 40 39,⟨(some 41),(some (40,false)),.mv (.t 11)⟩,⟨(some 42),(some (40,false)),.un .not (.t 41)⟩,oo 43 (.pick (.t 40) (.c (.bool true)) (.t 42)),om 44 43,⟨(some 45),(some (44,false)),.fa 0 (.t 4)⟩,⟨(some 46),(some (44,false)),.ld false 1 (.t 45)⟩,⟨(some 47),(some (44,false)),.bin .geq (.t 46) (.c (.j 1000000000))⟩,oo 48 (.pick (.t 44) (.c (.bool true)) (.t 47))])
 (.cond (.t 48) (.seq (.reg [oo 6 (.mv (.c (.bool false)))])
 .ret)
 .skip))
 (.seq (.seq (.reg [oo 49 (.fa 2 (.t 7)),oo 50 (.ld false 1 (.t 49)),om 51 10,oo 52 (.lens (.t 51)),oo 53 (.bin .add (.t 50) (.t 52)),oo 54 (.bin .gtr (.t 53) (.c (.j 256)))])
 (.cond (.t 54) (.seq (.seq (.reg [om 55 0,om 56 2,oo 57 (.cl (.c (.fn 88 [])) [(.t 55),(.t 56)]),oo 58 (.un .not (.t 57))])
 (.cond (.t 58) (.seq (.reg [oo 6 (.mv (.c (.bool false)))])
 .ret)
 .skip))
 (.seq (.drw [om 59 0,oo 60 (.nc (.t 59)),oo 61 (.fa 3 (.t 60)),oo 62 (.ld false 1 (.t 61)),om 63 0,oo 64 (.nc (.t 63)),oo 65 (.fa 3 (.t 64)),oo 66 (.ld false 1 (.t 65)),oo 67 (.lenl (.t 66)),oo 68 (.bin .sub (.t 67) (.c (.j 1))),oo 69 (.ia 4 (.t 62) (.t 68)),oo 70 (.ld true 4 (.t 69)),on (.st 4 (.t 7) (.t 70))] [.val [],.val [],.val [],.val [],.val [],.val [],.val [],.val [],.val [],.val [],.val [],.val [],.chn []])
 (.seq (.reg [oo 71 (.fa 1 (.t 7)),oo 72 (.ld false 1 (.t 71)),oo 73 (.fa 0 (.t 8)),on (.st 1 (.t 73) (.t 72))])
 (.seq (.reg [oo 75 (.ld true 3 (.t 8)),oo 76 (.cl (.c (.fn 146 [])) [(.t 75)]),om 74 76,oo 77 (.ext (.t 74) 0),oo 78 (.ext (.t 74) 1),om 10 77,om 11 78])
 (.seq (.reg [om 79 11,oo 80 (.un .not (.t 79)),om 81 80,⟨(some 82),(some (81,false)),.fa 2 (.t 7)⟩,⟨(some 83),(some (81,false)),.ld false 1 (.t 82)⟩,⟨(some 84),(some (81,false)),.mv (.t 10)⟩,⟨(some 85),(some (81,false)),.lens (.t 84)⟩,⟨(some 86),(some (81,false)),.bin .add (.t 83) (.t 85)⟩,⟨(some 87),(some (81,false)),.bin .gtr (.t 86) (.c (.j 256))⟩,oo 88 (.pick (.t 81) (.c (.bool true)) (.t 87))])
 (.cond (.t 88) (.seq (.reg [oo 6 (.mv (.c (.bool false)))])
 .ret)
 .skip))))))
 .skip))
 (.seq (.drw [om 90 0,oo 91 (.nc (.t 90)),oo 92 (.fa 0 (.t 91)),oo 93 (.ld true 2 (.t 92)),oo 94 (.fa 0 (.t 7)),oo 95 (.ld false 1 (.t 94)),oo 96 (.fa 2 (.t 7)),oo 97 (.ld false 1 (.t 96)),om 98 10,oo 99 (.cl (.c (.fn 147 [])) [(.t 93),(.t 95),(.t 97),(.t 98)]),om 89 99,oo 100 (.ext (.t 89) 0),oo 101 (.ext (.t 89) 1),oo 12 (.al [.nils,.nils]),on (.st 2 (.t 12) (.t 100)),om 13 101] [.val [],.val [],.val [],.val [],.val [],.val [],.val [],.val [],.val [],.val [],.val [],.val [],.val [],.chn [0,1,2,3,4,5,6,7,8,9,10,11,12],.chn [12],.val []])
 (.seq (.seq (.reg [om 102 13,oo 103 (.un .not (.t 102))])
 (.cond (.t 103) (.seq (.reg [oo 6 (.mv (.c (.bool false)))])
 .ret)
 .skip))
 (.seq (.reg [om 104 0,oo 105 (.ld true 2 (.t 12)),oo 106 (.cl (.c (.fn 111 [])) [(.t 105)]),oo 107 (.nc (.t 104)),oo 108 (.fa 0 (.t 107)),on (.st 2 (.t 108) (.t 106))])
 (.seq (.reg [oo 109 (.fa 2 (.t 7)),oo 110 (.ld false 1 (.t 109)),om 111 10,oo 112 (.lens (.t 111)),oo 113 (.bin .add (.t 110) (.t 112)),oo 114 (.fa 2 (.t 7)),on (.st 1 (.t 114) (.t 113))])
 (.seq (.drw [oo 115 (.mv (.c (.nils))),oo 116 (.fa 3 (.t 7)),oo 117 (.ld false 1 (.t 116)),oo 118 (.app 9 96 (.t 115) (.t 117)),oo 119 (.ld true 9 (.t 4)),oo 120 (.bs 9 [.j 0,.j 0,.j 0,.j 0,.j 0,.j 0,.str [],.str [],.str []] 1 [(0,(.t 119))]),oo 121 (.app 9 96 (.t 118) (.t 120)),oo 122 (.fa 3 (.t 7)),on (.st 1 (.t 122) (.t 121))] [.val [],.val [],.val [],.chn [],.val [3],.val [3],.chn [],.val [],.chn []])
 (.seq (.drw [om 123 0,oo 124 (.nc (.t 123)),oo 125 (.fa 3 (.t 124)),oo 126 (.ld false 1 (.t 125)),om 127 0,oo 128 (.nc (.t 127)),oo 129 (.fa 3 (.t 128)),oo 130 (.ld false 1 (.t 129)),oo 131 (.lenl (.t 130)),oo 132 (.bin .sub (.t 131) (.c (.j 1))),oo 133 (.ld true 4 (.t 7)),oo 134 (.ia 4 (.t 126) (.t 132)),on (.st 4 (.t 134) (.t 133))] [.val [],.val [],.val [],.val [],.val [],.val [],.val [],.val [],.val [],.val [],.val [],.val [],.chn []])
 (.seq (.seq (.drw [oo 135 (.fa 0 (.t 4)),oo 136 (.ld false 1 (.t 135)),om 137 0,oo 138 (.nc (.t 137)),oo 139 (.fa 5 (.t 138)),oo 140 (.ld false 1 (.t 139)),oo 141 (.bin .geq (.t 136) (.t 140))] [.val [],.val [],.val [],.val [],.val [],.val [],.val []])
 (.cond (.t 141) (.reg [om 142 0,oo 143 (.fa 0 (.t 4)),oo 144 (.ld false 1 (.t 143)),oo 145 (.bin .add (.t 144) (.c (.j 1))),oo 146 (.nc (.t 142)),oo 147 (.fa 5 (.t 146)),on (.st 1 (.t 147) (.t 145))])
 .skip))
 (.seq (.seq (.drw [oo 148 (.fa 1 (.t 4)),oo 149 (.fa 1 (.t 148)),oo 150 (.ld false 1 (.t 149)),om 151 0,oo 152 (.nc (.t 151)),oo 153 (.fa 7 (.t 152)),oo 154 (.ld false 1 (.t 153)),oo 155 (.bin .geq (.t 150) (.t 154))] [.val [],.val [],.val [],.val [],.val [],.val [],.val [],.val []])
 (.cond (.t 155) (.reg [om 156 0,oo 157 (.fa 1 (.t 4)),oo 158 (.fa 1 (.t 157)),oo 159 (.ld false 1 (.t 158)),oo 160 (.bin .add (.t 159) (.c (.j 1))),oo 161 (.nc (.t 156)),oo 162 (.fa 7 (.t 161)),on (.st 1 (.t 162) (.t 160))])
 .skip))
 (.seq (.reg [oo 6 (.mv (.c (.bool true)))])
 .ret)))))))))))))))
theorem Ww : FnOk Tryz.prog 87 163 Qt [.t 6]:=⟨Tryz.f87,_,[(19,[2000005])],Tryz.func87,rfl,rfl,by kernel_rfl,by kernel_rfl,follows⟩
theorem Ty : okF Tryz.prog 87 = true:=by kernel_rfl
def A2b : RC :=
 (.seq (.reg [oo 2 (.al [.nils,.nils,.j 0,.nils,.j 0,.j 0,.j 0,.j 0])])
 (.seq (.reg [om 8 0,oo 9 (.cl (.c (.fn 49 [])) [(.t 8),(.c (.j 4))]),oo 10 (.bin .add (.c (.j 5)) (.t 9)),oo 11 (.cl (.c (.fn 116 [])) [(.t 10)]),om 7 11,oo 12 (.ext (.t 7) 0),oo 13 (.ext (.t 7) 1),oo 3 (.al [.nils,.nils,.j 0,.nils,.j 0,.j 0,.j 0,.j 0]),on (.st 8 (.t 3) (.t 12)),om 4 13])
 (.seq (.seq (.reg [oo 5 (.mv (.c (.j 0)))])
 (.blk 0 (.loop (.seq (.seq (.reg [om 14 5,om 15 0,oo 16 (.cl (.c (.fn 49 [])) [(.t 15),(.c (.j 34))]),oo 17 (.bin .lss (.t 14) (.t 16))])
 (.cond (.t 17) .skip
 (.exit 0)))
 (.seq (.blk 1 (.seq (.drw [oo 20 (.fa 5 (.t 3)),oo 21 (.ld false 1 (.t 20)),om 22 0,oo 23 (.cl (.c (.fn 75 [])) [(.t 22)]),oo 24 (.bld [.j 0,.j 0,.j 0,.j 0,.j 0,.j 0,.str [],.str [],.str []] [(0,1),(1,8)] [(0,(.t 21)),(1,(.t 23))]),oo 6 (.al [.j 0,.j 0,.j 0,.j 0,.j 0,.j 0,.str [],.str [],.str []]),on (.st 9 (.t 6) (.t 24))] [.val [],.val [],.val [],.chn [0,1],.val [],.flt 0,.chn []])
 (.seq (.reg [oo 25 (.ld true 8 (.t 3)),oo 26 (.ld true 9 (.t 6)),oo 27 (.cl (.c (.fn 86 [])) [(.t 25),(.t 26)])])
 (.cond (.t 27) (.reg [oo 28 (.ld true 9 (.t 6)),oo 29 (.cl (.c (.fn 87 [])) [(.t 3),(.t 28),(.c (.j 1))])])
 .skip))))
 (.reg [om 18 5,oo 19 (.bin .add (.t 18) (.c (.j 1))),om 5 19]))))))
 (.seq (.reg [oo 30 (.ld true 8 (.t 3)),on (.st 8 (.t 2) (.t 30))])
 .ret))))
theorem A3j : FnOk Tryz.prog 46 31 A2b [.cell 2 true 8]:=⟨Tryz.f46,_,[(5,[3,1000005])],Tryz.func46,rfl,rfl,by kernel_rfl,by kernel_rfl,follows⟩
theorem A2c : okF Tryz.prog 46 = true:=by kernel_rfl
def Zb : RC :=
 (.seq (.reg [oo 2 (.al [.nils,.nils,.j 0,.nils,.j 0,.j 0,.j 0,.j 0])])
 (.seq (.reg [om 3 0,oo 4 (.cl (.c (.fn 47 [])) [(.t 3)]),oo 5 (.cl (.c (.fn 46 [])) [(.t 4)]),on (.st 8 (.t 2) (.t 5))])
 .ret))
theorem A2e : FnOk Tryz.prog 9 6 Zb [.cell 2 true 8]:=⟨Tryz.f9,_,[],Tryz.func9,rfl,rfl,by kernel_rfl,by kernel_rfl,follows⟩
theorem Yi : okF Tryz.prog 9 = true:=by kernel_rfl
def A01 : RC :=
 (.seq (.reg [oo 2 (.mv (.c (.bool false)))])
 (.seq (.seq (.reg [om 10 0,oo 11 (.cl (.c (.fn 8 [])) [(.t 10)])])
 (.cond (.t 11) (.seq (.reg [oo 2 (.mv (.c (.bool true)))])
 .ret)
 .skip))
 (.seq (.reg [om 12 0,oo 13 (.cl (.c (.fn 9 [])) [(.t 12)]),oo 3 (.al [.nils,.nils,.j 0,.nils,.j 0,.j 0,.j 0,.j 0]),on (.st 8 (.t 3) (.t 13))])
 (.seq (.reg [om 14 0,oo 15 (.cl (.c (.fn 10 [])) [(.t 14)]),om 4 15])
 (.seq (.reg [om 16 4,oo 17 (.ia 1 (.t 16) (.c (.j 0))),oo 18 (.ld false 1 (.t 17)),oo 19 (.bin .rem (.t 18) (.c (.j 4))),om 5 19])
 (.seq (.reg [oo 20 (.ld true 8 (.t 3)),oo 21 (.cl (.c (.fn 11 [])) [(.t 20)]),om 6 21])
 (.seq (.reg [oo 23 (.ld true 8 (.t 3)),om 24 5,oo 25 (.cl (.c (.fn 12 [])) [(.t 23),(.t 24)]),om 22 25,oo 26 (.ext (.t 22) 0),oo 27 (.ext (.t 22) 1),oo 7 (.al [.nils,.nils,.j 0,.nils,.j 0,.j 0,.j 0,.j 0]),on (.st 8 (.t 7) (.t 26)),om 8 27])
 (.seq (.seq (.reg [om 28 8,om 29 6,oo 30 (.lenl (.t 29)),om 31 5,oo 32 (.bin .gtr (.t 30) (.t 31)),oo 33 (.eqb true (.t 28) (.t 32)),om 34 33,⟨(some 35),(some (34,false)),.mv (.t 6)⟩,⟨(some 36),(some (34,false)),.lenl (.t 35)⟩,⟨(some 37),(some (34,false)),.fa 3 (.t 3)⟩,⟨(some 38),(some (34,false)),.ld false 1 (.t 37)⟩,⟨(some 39),(some (34,false)),.lenl (.t 38)⟩,⟨(some 40),(some (34,false)),.bin .add (.t 36) (.t 39)⟩,⟨(some 41),(some (34,false)),.fa 2 (.t 3)⟩,⟨(some 42),(some (34,false)),.ld false 1 (.t 41)⟩,⟨(some 43),(some (34,false)),.bin .neq (.t 40) (.t 42)⟩,oo 44 (.pick (.t 34) (.c (.bool true)) (.t 43))])
 (.cond (.t 44) (.seq (.reg [oo 2 (.mv (.c (.bool false)))])
 .ret)
 .skip))
 (.seq (.seq (.reg [om 45 8,oo 46 (.un .not (.t 45))])
 (.cond (.t 46) (.seq (.reg [oo 47 (.ld true 8 (.t 7)),oo 48 (.ld true 8 (.t 3)),oo 49 (.cl (.c (.fn 13 [])) [(.t 47),(.t 48)]),om 2 49])
 .ret)
 .skip))
 (.seq (.reg [oo 50 (.fa 3 (.t 7)),oo 51 (.ld false 1 (.t 50)),oo 52 (.fa 3 (.t 7)),oo 53 (.ld false 1 (.t 52)),oo 54 (.lenl (.t 53)),oo 55 (.bin .sub (.t 54) (.c (.j 1))),oo 56 (.ia 4 (.t 51) (.t 55)),oo 57 (.ld true 4 (.t 56)),oo 9 (.al [.j 0,.j 0,.j 0,.nils]),on (.st 4 (.t 9) (.t 57))])
 (.seq (.drw [oo 58 (.ld true 8 (.t 7)),oo 59 (.cl (.c (.fn 14 [])) [(.t 58)]),om 60 59,⟨(some 61),(some (60,true)),.fa 0 (.t 9)⟩,⟨(some 62),(some (60,true)),.ld false 1 (.t 61)⟩,⟨(some 63),(some (60,true)),.mv (.t 6)⟩,⟨(some 64),(some (60,true)),.ia 1 (.t 63) (.c (.j 0))⟩,⟨(some 65),(some (60,true)),.ld false 1 (.t 64)⟩,⟨(some 66),(some (60,true)),.bin .eql (.t 62) (.t 65)⟩,oo 67 (.pick (.t 60) (.t 66) (.c (.bool false))),om 68 67,⟨(some 69),(some (68,true)),.fa 1 (.t 9)⟩,⟨(some 70),(some (68,true)),.ld false 1 (.t 69)⟩,⟨(some 71),(some (68,true)),.fa 4 (.t 3)⟩,⟨(some 72),(some (68,true)),.ld false 1 (.t 71)⟩,⟨(some 73),(some (68,true)),.bin .eql (.t 70) (.t 72)⟩,oo 74 (.pick (.t 68) (.t 73) (.c (.bool false))),om 75 74,⟨(some 76),(some (75,true)),.ld true 8 (.t 7)⟩,⟨(some 77),(some (75,true)),.cl (.c (.fn 11 [])) [(.t 76)]⟩,⟨(some 78),(some (75,true)),.lenl (.t 77)⟩,⟨(some 79),(some (75,true)),.mv (.t 6)⟩,⟨(some 80),(some (75,true)),.lenl (.t 79)⟩,⟨(some 81),(some (75,true)),.bin .sub (.t 80) (.c (.j 1))⟩,⟨(some 82),(some (75,true)),.bin .eql (.t 78) (.t 81)⟩,oo 83 (.pick (.t 75) (.t 82) (.c (.bool false))),om 84 83,⟨(some 85),(some (84,true)),.ld true 8 (.t 7)⟩,⟨(some 86),(some (84,true)),.cl (.c (.fn 16 [])) [(.t 85)]⟩,⟨(some 87),(some (84,true)),.ld true 8 (.t 3)⟩,⟨(some 88),(some (84,true)),.cl (.c (.fn 17 [])) [(.t 87)]⟩,⟨(some 89),(some (84,true)),.cl (.c (.fn 15 [])) [(.t 86),(.t 88)]⟩,oo 90 (.pick (.t 84) (.t 89) (.c (.bool false))),om 2 90] [.val [],.val [],.val [],.val [],.val [],.val [],.val [],.val [],.val [],.val [],.val [],.val [],.val [],.val [],.val [],.val [],.val [],.val [],.val [],.val [],.val [],.val [],.val [],.val [],.val [],.val [],.val [],.val [],.val [],.val [],.val [],.val [],.val [],.val []])
 .ret)))))))))))
theorem A27 : FnOk Tryz.prog 3 91 A01 [.t 2]:=⟨Tryz.f3,_,[],Tryz.func3,rfl,rfl,by kernel_rfl,by kernel_rfl,follows⟩
theorem A9o : okF Tryz.prog 3 = true:=by kernel_rfl
end Go.Proofs.YtldndhdohlfpgaaGreat.V
