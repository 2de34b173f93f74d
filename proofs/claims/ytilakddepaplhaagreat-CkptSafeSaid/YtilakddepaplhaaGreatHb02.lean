import Derived.Test.YtilakddepaplhaaGreatHb00
import Derived.Shelf.Small.Strs
import Derived.Shelf.Small.Wraps
import Derived.Shelf.SlSortCmp.NoneTotal
import Derived.Test.YtilakddepaplhaaGreatProg
set_option maxRecDepth 100000
set_option maxHeartbeats 16000000
set_option linter.unusedSimpArgs false
namespace Go.Proofs
open Go.Shelf
def Tryz.sortD_ren:Go.Shelf.Ren:=⟨fun|6=>45|15=>87|14=>86|28=>139|29=>140|20=>131|21=>132|22=>133|23=>134|24=>135|25=>136|26=>137|27=>138|46=>186|47=>187|48=>188|49=>189|50=>190|57=>202|n=>n,fun|22=>53|24=>94|25=>98|3=>3|39=>121|0=>0|53=>160|55=>119|4=>4|46=>183|45=>182|50=>86|5=>5|9=>9|66=>216|70=>220|76=>230|77=>231|n=>n,fun|n=>n⟩
theorem Tryz.sortD:Go.Proofs.SlLaysF0.n6 Tryz.prog Tryz.sortD_ren:={
 mixed:=by kernel_rfl
 f6:=⟨Tryz.f45.name,by decide,Tryz.func45.trans (congrArg some Kr)⟩
 f14:=⟨Tryz.f86.name,by decide,Tryz.func86.trans (congrArg some Kr)⟩
 f15:=Tryz.func87.trans (congrArg some Kr)
 f20:=⟨Tryz.f131.name,by decide,Tryz.func131.trans (congrArg some Kr)⟩
 f21:=⟨Tryz.f132.name,by decide,Tryz.func132.trans (congrArg some Kr)⟩
 f22:=⟨Tryz.f133.name,by decide,Tryz.func133.trans (congrArg some Kr)⟩
 f23:=⟨Tryz.f134.name,by decide,Tryz.func134.trans (congrArg some Kr)⟩
 f24:=⟨Tryz.f135.name,by decide,Tryz.func135.trans (congrArg some Kr)⟩
 f25:=⟨Tryz.f136.name,by decide,Tryz.func136.trans (congrArg some Kr)⟩
 f26:=⟨Tryz.f137.name,by decide,Tryz.func137.trans (congrArg some Kr)⟩
 f27:=⟨Tryz.f138.name,by decide,Tryz.func138.trans (congrArg some Kr)⟩
 f28:=Tryz.func139.trans (congrArg some Kr)
 f29:=Tryz.func140.trans (congrArg some Kr)
 f46:=⟨Tryz.f186.name,by decide,Tryz.func186.trans (congrArg some Kr)⟩
 f47:=Tryz.func187.trans (congrArg some Kr)
 f48:=Tryz.func188.trans (congrArg some Kr)
 f49:=⟨Tryz.f189.name,by decide,Tryz.func189.trans (congrArg some Kr)⟩
 f50:=⟨Tryz.f190.name,by decide,Tryz.func190.trans (congrArg some Kr)⟩
 f57:=⟨Tryz.f202.name,by decide,Tryz.func202.trans (congrArg some Kr)⟩
 t0:=Tryz.underlying0
 a0:=Tryz.isAgg0
 z0:=Tryz.sizeOf0
 v0:=Tryz.zeroValue0
 t3:=Tryz.underlying3
 a3:=Tryz.isAgg3
 z3:=Tryz.sizeOf3
 v3:=Tryz.zeroValue3
 t4:=Tryz.underlying4
 a4:=Tryz.isAgg4
 z4:=Tryz.sizeOf4
 v4:=Tryz.zeroValue4
 t5:=Tryz.underlying5
 a5:=Tryz.isAgg5
 z5:=Tryz.sizeOf5
 v5:=Tryz.zeroValue5
 t9:=Tryz.underlying9
 a9:=Tryz.isAgg9
 z9:=Tryz.sizeOf9
 v9:=Tryz.zeroValue9
 t22:=Tryz.underlying53
 a22:=Tryz.isAgg53
 z22:=Tryz.sizeOf53
 v22:=Tryz.zeroValue53
 t25:=Tryz.underlying98
 a25:=Tryz.isAgg98
 z25:=Tryz.sizeOf98
 v25:=Tryz.zeroValue98
 t39:=Tryz.underlying121
 a39:=Tryz.isAgg121
 z39:=Tryz.sizeOf121
 v39:=Tryz.zeroValue121
 t45:=Tryz.underlying182
 a45:=Tryz.isAgg182
 z45:=Tryz.sizeOf182
 v45:=Tryz.zeroValue182
 t46:=Tryz.underlying183
 a46:=Tryz.isAgg183
 z46:=Tryz.sizeOf183
 v46:=Tryz.zeroValue183
 t50:=Tryz.underlying86
 a50:=Tryz.isAgg86
 z50:=Tryz.sizeOf86
 v50:=Tryz.zeroValue86
 t53:=Tryz.underlying160
 a53:=Tryz.isAgg160
 z53:=Tryz.sizeOf160
 v53:=Tryz.zeroValue160
 t55:=Tryz.underlying119
 a55:=Tryz.isAgg119
 z55:=Tryz.sizeOf119
 v55:=Tryz.zeroValue119
 t66:=Tryz.underlying216
 a66:=Tryz.isAgg216
 z66:=Tryz.sizeOf216
 v66:=Tryz.zeroValue216
 t70:=Tryz.underlying220
 a70:=Tryz.isAgg220
 z70:=Tryz.sizeOf220
 v70:=Tryz.zeroValue220
 t76:=Tryz.underlying230
 a76:=Tryz.isAgg230
 z76:=Tryz.sizeOf230
 v76:=Tryz.zeroValue230
 t77:=Tryz.underlying231
 a77:=Tryz.isAgg231
 z77:=Tryz.sizeOf231
 v77:=Tryz.zeroValue231}
def Tryz.laysCmp_ren:Go.Shelf.Ren:=⟨fun|122=>47|215=>88|n=>n,fun|3=>3|4=>4|n=>n,fun|n=>n⟩
theorem Tryz.laysCmp:Go.Proofs.Lays.n122 Tryz.prog Tryz.laysCmp_ren:={
 mixed:=by kernel_rfl
 f122:=Tryz.func47.trans (congrArg some Kr)
 f215:=Tryz.func88.trans (congrArg some Kr)
 t3:=Tryz.underlying3
 a3:=Tryz.isAgg3
 z3:=Tryz.sizeOf3
 v3:=Tryz.zeroValue3
 t4:=Tryz.underlying4
 a4:=Tryz.isAgg4
 z4:=Tryz.sizeOf4
 v4:=Tryz.zeroValue4}
open Go.RowKit in
theorem Tryz.cmpI (x y:Int)(w:World):
 Calls Tryz.prog 47 #[x,y] w fun e w'=>e= .returned (.int .i64 (Lib.compareInt x y))∧w'=w:=Any.cmp_Compare_int Tryz.laysCmp x y w
end Go.Proofs
