import Derived.Shelf.Strconv.Itoa0
import Derived.Shelf.Strconv.Itoa1
import Derived.Shelf.LaysM
import Derived.Shelf.Strconv.Itoa2
import Derived.Shelf.Strconv.Itoa3
import Derived.Test.YtiajdbllccmokaaGreatDoorProg
namespace Go.Proofs
open Go.Shelf
open Go.Proofs.Tryz
theorem fTr {α:Type} {a:Option α} {b c:α} (h:a=some b) (k:b=c:=by kernel_rfl):a=some c:=h.trans (congrArg some k)
def Tryz.laysM171_ren:Go.Shelf.Ren:=⟨fun|171=>33|243=>57|246=>75|283=>87|284=>88|285=>89|286=>90|129=>101|317=>100|318=>102|319=>103|320=>104|337=>114|338=>115|n=>n,fun|3=>3|9=>9|2=>2|4=>4|171=>121|0=>0|53=>122|37=>22|5=>5|173=>125|212=>138|51=>139|20=>20|213=>140|46=>109|232=>174|233=>175|n=>n,fun|17=>0|18=>1|19=>2|n=>n⟩
theorem Tryz.laysM171:Go.Proofs.LaysM.n171 prog Tryz.laysM171_ren:={mixed:=by kernel_rfl,f129:=fTr func101,f171:=fTr func33,f243:=fTr func57,f246:=fTr func75,f283:=fTr func87,f284:=fTr func88,f285:=fTr func89,f286:=fTr func90,f317:=fTr func100,f318:=fTr func102,f319:=fTr func103,f320:=fTr func104,f337:=fTr func114,f338:=fTr func115,t0:=underlying0,a0:=isAgg0,z0:=sizeOf0,v0:=zeroValue0,t2:=underlying2,a2:=isAgg2,z2:=sizeOf2,v2:=zeroValue2,t3:=underlying3,a3:=isAgg3,z3:=sizeOf3,v3:=zeroValue3,t4:=underlying4,a4:=isAgg4,z4:=sizeOf4,v4:=zeroValue4,t5:=underlying5,a5:=isAgg5,z5:=sizeOf5,v5:=zeroValue5,t9:=underlying9,a9:=isAgg9,z9:=sizeOf9,v9:=zeroValue9,t20:=underlying20,a20:=isAgg20,z20:=sizeOf20,v20:=zeroValue20,t37:=underlying22,a37:=isAgg22,z37:=sizeOf22,v37:=zeroValue22,t46:=underlying109,a46:=isAgg109,z46:=sizeOf109,v46:=zeroValue109,t51:=underlying139,a51:=isAgg139,z51:=sizeOf139,v51:=zeroValue139,t53:=underlying122,a53:=isAgg122,z53:=sizeOf122,v53:=zeroValue122,t171:=underlying121,a171:=isAgg121,z171:=sizeOf121,v171:=zeroValue121,t173:=underlying125,a173:=isAgg125,z173:=sizeOf125,v173:=zeroValue125,t212:=underlying138,a212:=isAgg138,z212:=sizeOf138,v212:=zeroValue138,t213:=underlying140,a213:=isAgg140,z213:=sizeOf140,t232:=underlying174,a232:=isAgg174,z232:=sizeOf174,v232:=zeroValue174,t233:=underlying175,a233:=isAgg175,z233:=sizeOf175,v233:=zeroValue175,g17:=by kernel_rfl,g18:=by kernel_rfl,g19:=by kernel_rfl,i0:=by kernel_rfl,i2:=by kernel_rfl,i3:=by kernel_rfl,i4:=by kernel_rfl,i5:=by kernel_rfl,i9:=by kernel_rfl,i20:=by kernel_rfl,i37:=by kernel_rfl,i46:=by kernel_rfl,i51:=by kernel_rfl,i53:=by kernel_rfl,i171:=by kernel_rfl,i173:=by kernel_rfl,i212:=by kernel_rfl,i232:=by kernel_rfl,i233:=by kernel_rfl,m17:=by kernel_rfl,m18:=by kernel_rfl,m19:=by kernel_rfl}
open Go.RowKit Go.Sort Go.Lib in
theorem Tryz.strconv_Itoa (n:Int) (h0: -9223372036854775808≤n) (h1:n≤9223372036854775807) (w:World) (htab:Lib.TabIs prog w "internal/strconv.uint64pow10" .u64 Lib.pow10Tab):
    Calls prog 33 #[.int .i64 n] w fun e w'=>e=.returned (.string ⟨(Lib.itoa n).toArray⟩)∧∃k os,w'=grow (w.drewN k) os:=Any.strconv_Itoa Tryz.laysM171 n h0 h1 w htab
end Go.Proofs
