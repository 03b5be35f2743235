/- The functions' texts. -/
import Derived.Test.YtldndhdohlfpgaaXE
import Derived.Test.YtldndhdohlfpgaaProg
import Derived.KernelRfl
import Derived.Shelf.Sort.Plain
import Derived.Shelf.Slices.In.SortNone
import Derived.Shelf.Slices.CompactI
/- The functions' texts. -/
namespace Go.Proofs.Ytldndhdohlfpgaa.V
open Go Go.Proofs Go.RowKit
set_option maxRecDepth 100000
theorem follows:Try.prog.follows .mixedOrders=true:=by kernel_rfl
theorem Vt:FnOk Try.prog 59 15 (rcO [] Try.prog Try.f59) [.t 6]:=.q Try.func59 follows
theorem Pe:FnOk Try.prog 148 24 (rcO [] Try.prog Try.f148) [.t 2]:=.q Try.func148 follows
theorem Rh:FnOk Try.prog 112 84 (rcO [] Try.prog Try.f112) [.t 2]:=.q Try.func112 follows
theorem Jg:FnOk Try.prog 114 14 (rcO [] Try.prog Try.f114) [.t 3]:=.q Try.func114 follows
theorem P6:FnOk Try.prog 149 19 (rcO [] Try.prog Try.f149) [.t 4]:=.q Try.func149 follows
theorem K6:FnOk Try.prog 113 9 (rcO [] Try.prog Try.f113) [.t 4]:=.q Try.func113 follows
theorem Lk:FnOk Try.prog 84 31 (rcO [] Try.prog Try.f84) [.t 2]:=.q Try.func84 follows
theorem Kh:FnOk Try.prog 115 9 (rcO [] Try.prog Try.f115) [.t 3]:=.q Try.func115 follows
theorem Jx:FnOk Try.prog 117 16 (rcO [] Try.prog Try.f117) [.t 3]:=.q Try.func117 follows
theorem Qp:FnOk Try.prog 121 10 (rcO [] Try.prog Try.f121) [.t 4]:=.q Try.func121 follows
theorem Qs:FnOk Try.prog 120 17 (rcO [] Try.prog Try.f120) [.t 6]:=.q Try.func120 follows
theorem Fu:FnOk Try.prog 150 7 (rcO [] Try.prog Try.f150) [.t 3]:=.q Try.func150 follows
theorem Ax:FnOk Try.prog 118 37 (rcO [] Try.prog Try.f118) [.cell 6 true 9,.t 7]:=.q Try.func118 follows
theorem Gd:FnOk Try.prog 151 7 (rcO [] Try.prog Try.f151) [.t 3]:=.q Try.func151 follows
theorem Ph:FnOk Try.prog 152 24 (rcO [] Try.prog Try.f152) [.t 4]:=.q Try.func152 follows
theorem Km:FnOk Try.prog 116 21 (rcO [] Try.prog Try.f116) [.cell 4 true 9,.t 5]:=.q Try.func116 follows
theorem Ke:FnOk Try.prog 119 8 (rcO [] Try.prog Try.f119) [.t 3]:=.q Try.func119 follows
theorem Gw:FnOk Try.prog 153 16 (rcO [] Try.prog Try.f153) [.t 5]:=.q Try.func153 follows
theorem Jz:FnOk Try.prog 123 15 (rcO [] Try.prog Try.f123) [.cell 8 true 9,.t 9]:=.q Try.func123 follows
theorem Hj:FnOk Try.prog 122 36 (rcO [] Try.prog Try.f122) [.cell 6 true 9,.t 7]:=.q Try.func122 follows
theorem Pd:FnOk Try.prog 85 114 (rcO [] Try.prog Try.f85) [.t 4]:=.q Try.func85 follows
theorem Hw:FnOk Try.prog 30 25 (rcO [] Try.prog Try.f30) [.t 2]:=.q Try.func30 follows
theorem Pp:FnOk Try.prog 31 19 (rcO [] Try.prog Try.f31) [.t 4]:=.q Try.func31 follows
theorem Lx:FnOk Try.prog 78 15 (rcO [] Try.prog Try.f78) [.t 4]:=.q Try.func78 follows
theorem Mc:FnOk Try.prog 33 26 (rcO [] Try.prog Try.f33) [.t 4]:=.q Try.func33 follows
theorem Hn:FnOk Try.prog 36 26 (rcO [] Try.prog Try.f36) [.t 4]:=.q Try.func36 follows
theorem Pq:FnOk Try.prog 47 32 (rcO [] Try.prog Try.f47) [.t 2]:=.q Try.func47 follows
theorem Ll:FnOk Try.prog 71 58 (rcO [] Try.prog Try.f71) [.t 2]:=.q Try.func71 follows
theorem Kk:FnOk Try.prog 72 37 (rcO [] Try.prog Try.f72) [.t 4]:=.q Try.func72 follows
theorem Kv:FnOk Try.prog 111 9 (rcO [] Try.prog Try.f111) [.t 4]:=.q Try.func111 follows
theorem Fx:FnOk Try.prog 125 12 (rcO [] Try.prog Try.f125) [.t 4]:=.q Try.func125 follows
theorem Kg:FnOk Try.prog 87 16 (rcO [] Try.prog Try.f87) [.t 4]:=.q Try.func87 follows
theorem Lw:FnOk Try.prog 154 20 (rcO [] Try.prog Try.f154) [.t 4]:=.q Try.func154 follows
theorem Mf:FnOk Try.prog 137 12 (rcO [] Try.prog Try.f137) [.t 4]:=.q Try.func137 follows
theorem Mk:FnOk Try.prog 138 6 (rcO [] Try.prog Try.f138) [.t 2]:=.q Try.func138 follows
theorem Pf:FnOk Try.prog 95 55 (rcO [] Try.prog Try.f95) [.cell 2 true 8]:=.q Try.func95 follows
theorem Pn:FnOk Try.prog 126 61 (rcO [] Try.prog Try.f126) [.cell 2 true 8]:=.q Try.func126 follows
theorem Jy:FnOk Try.prog 77 38 (rcO [] Try.prog Try.f77) [.t 2]:=.q Try.func77 follows
theorem Pi:FnOk Try.prog 88 56 (rcO [] Try.prog Try.f88) [.t 2]:=.q Try.func88 follows
theorem Gf:FnOk Try.prog 38 13 (rcO [] Try.prog Try.f38) [.t 2,.t 3]:=.q Try.func38 follows
theorem Kz:FnOk Try.prog 127 27 (rcO [] Try.prog Try.f127) [.t 4]:=.q Try.func127 follows
theorem Ec:FnOk Try.prog 89 15 (rcO [] Try.prog Try.f89) [.t 2,.t 3]:=.q Try.func89 follows
theorem Fj:FnOk Try.prog 39 8 (rcO [] Try.prog Try.f39) [.t 2,.t 3]:=.q Try.func39 follows
theorem Qr:FnOk Try.prog 67 15 (rcO [] Try.prog Try.f67) [.t 6]:=.q Try.func67 follows
theorem Pc:FnOk Try.prog 124 23 (rcO [] Try.prog Try.f124) [.t 2]:=.q Try.func124 follows
theorem Qv:FnOk Try.prog 86 120 (rcO [] Try.prog Try.f86) [.t 2]:=.q Try.func86 follows
theorem Kw:FnOk Try.prog 35 57 (rcO [] Try.prog Try.f35) [.t 2]:=.q Try.func35 follows
theorem Jk:FnOk Try.prog 128 28 (rcO [] Try.prog Try.f128) [.t 4]:=.q Try.func128 follows
theorem Mh:FnOk Try.prog 79 58 (rcO [] Try.prog Try.f79) [.cell 8 true 9,.t 9]:=.q Try.func79 follows
theorem Pg:FnOk Try.prog 130 20 (rcO [] Try.prog Try.f130) [.t 8]:=.q Try.func130 follows
theorem Kd:FnOk Try.prog 129 14 (rcO [] Try.prog Try.f129) [.t 4]:=.q Try.func129 follows
theorem Mb:FnOk Try.prog 90 182 (rcO [] Try.prog Try.f90) [.t 4]:=.q Try.func90 follows
theorem Ht:FnOk Try.prog 40 25 (rcO [] Try.prog Try.f40) [.t 2]:=.q Try.func40 follows
theorem Pj:FnOk Try.prog 41 19 (rcO [] Try.prog Try.f41) [.t 4]:=.q Try.func41 follows
theorem Kc:FnOk Try.prog 42 26 (rcO [] Try.prog Try.f42) [.t 4]:=.q Try.func42 follows
theorem Ji:FnOk Try.prog 132 9 (rcO [] Try.prog Try.f132) [.t 2,.t 3]:=.q Try.func132 follows
theorem Ds:FnOk Try.prog 131 34 (rcO [] Try.prog Try.f131) [.t 4]:=.q Try.func131 follows
theorem Gz:FnOk Try.prog 157 15 (rcO [] Try.prog Try.f157) [.t 3,.t 4]:=.q Try.func157 follows
theorem Ka:FnOk Try.prog 133 81 (rcO [] Try.prog Try.f133) [.cell 4 true 5]:=.q Try.func133 follows
theorem Mv:FnOk Try.prog 91 37 (rcO [(9,[4])] Try.prog Try.f91) [.cell 2 true 1]:=.q Try.func91 follows
theorem Jf:FnOk Try.prog 93 9 (rcO [] Try.prog Try.f93) [.t 3]:=.q Try.func93 follows
theorem Cz:FnOk Try.prog 92 19 (rcO [] Try.prog Try.f92) [.t 4]:=.q Try.func92 follows
theorem Lu:FnOk Try.prog 43 54 (rcO [] Try.prog Try.f43) [.t 4]:=.q Try.func43 follows
theorem Jh:FnOk Try.prog 80 52 (rcO [] Try.prog Try.f80) [.t 4]:=.q Try.func80 follows
theorem Me:FnOk Try.prog 81 60 (rcO [] Try.prog Try.f81) [.cell 4 true 9]:=.q Try.func81 follows
theorem Mu:FnOk Try.prog 82 41 (rcO [] Try.prog Try.f82) [.t 4]:=.q Try.func82 follows
theorem Kf:FnOk Try.prog 83 102 (rcO [] Try.prog Try.f83) [.t 4]:=.q Try.func83 follows
theorem Ls:FnOk Try.prog 29 87 (rcO [(16,[23])] Try.prog Try.f29) [.cell 2 true 1]:=.q Try.func29 follows
theorem Lb:FnOk Try.prog 45 33 (rcO [] Try.prog Try.f45) [.t 4]:=.q Try.func45 follows
theorem Lo:FnOk Try.prog 44 75 (rcO [] Try.prog Try.f44) [.t 4]:=.q Try.func44 follows
theorem Ux:FnOk Try.prog 8 6 (rcO [] Try.prog Try.f8) [.t 2]:=.q Try.func8 follows
theorem Fp:FnOk Try.prog 7 86 (rcO [] Try.prog Try.f7) [.t 2]:=.q Try.func7 follows
end Go.Proofs.Ytldndhdohlfpgaa.V
/- Contracts of the library, laid here. -/
namespace Go.Proofs.Ytldndhdohlfpgaa.V
open Go Go.Proofs Go.RowKit Go.Shelf
set_option maxRecDepth 100000
def Fs:Go.Shelf.Ren:=⟨fun | 189=>155 | 125=>164 | 257=>163 | 128=>174 | 129=>175 | 294=>165 | 295=>166 | 296=>167 | 297=>168 | 298=>169 | 299=>170 | 216=>171 | 300=>172 | 301=>173 | 328=>176 | 329=>177 | 330=>178 | 331=>179 | 332=>180 | 215=>181 | 343=>182 | n=>n,fun | 28=>46 | 3=>3 | 46=>132 | 0=>0 | 51=>133 | 53=>191 | 4=>4 | 183=>183 | 182=>182 | 131=>172 | 5=>5 | 9=>9 | 218=>192 | 222=>196 | 228=>199 | 229=>200 | n=>n,fun | n=>n⟩
theorem Ad:Go.Proofs.Lays.n189 Try.prog Fs:={
 mixed:=by kernel_rfl,
 f125:=Try.func164.trans (congrArg some (by kernel_rfl)),
 f128:=Try.func174.trans (congrArg some (by kernel_rfl)),
 f129:=Try.func175.trans (congrArg some (by kernel_rfl)),
 f189:=Try.func155.trans (congrArg some (by kernel_rfl)),
 f215:=Try.func181.trans (congrArg some (by kernel_rfl)),
 f216:=Try.func171.trans (congrArg some (by kernel_rfl)),
 f257:=Try.func163.trans (congrArg some (by kernel_rfl)),
 f294:=Try.func165.trans (congrArg some (by kernel_rfl)),
 f295:=Try.func166.trans (congrArg some (by kernel_rfl)),
 f296:=Try.func167.trans (congrArg some (by kernel_rfl)),
 f297:=Try.func168.trans (congrArg some (by kernel_rfl)),
 f298:=Try.func169.trans (congrArg some (by kernel_rfl)),
 f299:=Try.func170.trans (congrArg some (by kernel_rfl)),
 f300:=Try.func172.trans (congrArg some (by kernel_rfl)),
 f301:=Try.func173.trans (congrArg some (by kernel_rfl)),
 f328:=Try.func176.trans (congrArg some (by kernel_rfl)),
 f329:=Try.func177.trans (congrArg some (by kernel_rfl)),
 f330:=Try.func178.trans (congrArg some (by kernel_rfl)),
 f331:=Try.func179.trans (congrArg some (by kernel_rfl)),
 f332:=Try.func180.trans (congrArg some (by kernel_rfl)),
 f343:=Try.func182.trans (congrArg some (by kernel_rfl)),
 t0:=Try.underlying0,
 a0:=Try.isAgg0,
 z0:=Try.sizeOf0,
 v0:=Try.zeroValue0,
 t3:=Try.underlying3,
 a3:=Try.isAgg3,
 z3:=Try.sizeOf3,
 v3:=Try.zeroValue3,
 t4:=Try.underlying4,
 a4:=Try.isAgg4,
 z4:=Try.sizeOf4,
 v4:=Try.zeroValue4,
 t5:=Try.underlying5,
 a5:=Try.isAgg5,
 z5:=Try.sizeOf5,
 v5:=Try.zeroValue5,
 t9:=Try.underlying9,
 a9:=Try.isAgg9,
 z9:=Try.sizeOf9,
 v9:=Try.zeroValue9,
 t28:=Try.underlying46,
 a28:=Try.isAgg46,
 z28:=Try.sizeOf46,
 v28:=Try.zeroValue46,
 t46:=Try.underlying132,
 a46:=Try.isAgg132,
 z46:=Try.sizeOf132,
 v46:=Try.zeroValue132,
 t51:=Try.underlying133,
 a51:=Try.isAgg133,
 z51:=Try.sizeOf133,
 v51:=Try.zeroValue133,
 t53:=Try.underlying191,
 a53:=Try.isAgg191,
 z53:=Try.sizeOf191,
 v53:=Try.zeroValue191,
 t131:=Try.underlying172,
 a131:=Try.isAgg172,
 z131:=Try.sizeOf172,
 v131:=Try.zeroValue172,
 t182:=Try.underlying182,
 a182:=Try.isAgg182,
 z182:=Try.sizeOf182,
 v182:=Try.zeroValue182,
 t183:=Try.underlying183,
 a183:=Try.isAgg183,
 z183:=Try.sizeOf183,
 v183:=Try.zeroValue183,
 t218:=Try.underlying192,
 a218:=Try.isAgg192,
 z218:=Try.sizeOf192,
 v218:=Try.zeroValue192,
 t222:=Try.underlying196,
 a222:=Try.isAgg196,
 z222:=Try.sizeOf196,
 v222:=Try.zeroValue196,
 t228:=Try.underlying199,
 a228:=Try.isAgg199,
 z228:=Try.sizeOf199,
 v228:=Try.zeroValue199,
 t229:=Try.underlying200,
 a229:=Try.isAgg200,
 z229:=Try.sizeOf200,
 v229:=Try.zeroValue200 }
theorem Bg:SortC Try.prog 155:=⟨by kernel_rfl,fun blk off cap zs w h1 h2 h3=>Any.slices_Sort_int Ad blk off cap zs w h1 h2 h3,fun p cap w=>Any.slices_Sort_int_none Ad p cap w⟩
def Dp:Go.Shelf.Ren:=⟨fun | 20=>156 | n=>n,fun | 22=>46 | 3=>3 | 4=>4 | 0=>0 | n=>n,fun | n=>n⟩
theorem Y0:Go.Proofs.Lays2.n20 Try.prog Dp:={
 mixed:=by kernel_rfl,
 f20:=Try.func156.trans (congrArg some (by kernel_rfl)),
 t0:=Try.underlying0,
 a0:=Try.isAgg0,
 z0:=Try.sizeOf0,
 v0:=Try.zeroValue0,
 t3:=Try.underlying3,
 a3:=Try.isAgg3,
 z3:=Try.sizeOf3,
 v3:=Try.zeroValue3,
 t4:=Try.underlying4,
 a4:=Try.isAgg4,
 z4:=Try.sizeOf4,
 v4:=Try.zeroValue4,
 t22:=Try.underlying46,
 a22:=Try.isAgg46,
 z22:=Try.sizeOf46,
 v22:=Try.zeroValue46,
 i3:=by kernel_rfl }
theorem Aa:CompC Try.prog 156:=⟨by kernel_rfl,fun blk off cap zs w h1 h2 h3=>Any.slices_Compact_int Y0 blk off cap zs w h1 h2 h3,fun a cap w=>Any.slices_Compact_int_empty Y0 a cap w⟩
end Go.Proofs.Ytldndhdohlfpgaa.V
