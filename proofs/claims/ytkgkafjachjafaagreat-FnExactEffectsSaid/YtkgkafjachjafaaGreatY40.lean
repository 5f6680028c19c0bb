/- Part 40 of y_holds; no condition. -/
import Derived.Shelf.Sort.Plain
import Derived.Shelf.Slices.CompactI
import Derived.Shelf.Slices.In.SortNone
import Derived.Test.YtkgkafjachjafaaGreatY00
set_option linter.unusedVariables false
namespace Go.Proofs.YtkgkafjachjafaaGreat
open Tryz
open Go Go.Shelf
def Qea:Go.Shelf.Ren:=⟨fun|189=>76|125=>113|257=>112|128=>152|129=>153|294=>143|295=>144|296=>145|297=>146|298=>147|299=>148|216=>149|300=>150|301=>151|328=>183|329=>184|330=>185|331=>186|332=>187|215=>188|343=>213|n=>n,fun|28=>26|3=>3|46=>162|0=>0|51=>191|53=>193|4=>4|183=>184|182=>183|131=>151|5=>5|9=>9|218=>209|222=>213|228=>226|229=>63|n=>n,fun|n=>n⟩
theorem Qgs:Go.Proofs.Lays.n189 prog Qea:={
 mixed:=Kf
 f125:=func113.trans (congrArg some Kf)
 f128:=func152.trans (congrArg some Kf)
 f129:=func153.trans (congrArg some Kf)
 f189:=func76.trans (congrArg some Kf)
 f215:=func188.trans (congrArg some Kf)
 f216:=func149.trans (congrArg some Kf)
 f257:=func112.trans (congrArg some Kf)
 f294:=func143.trans (congrArg some Kf)
 f295:=func144.trans (congrArg some Kf)
 f296:=func145.trans (congrArg some Kf)
 f297:=func146.trans (congrArg some Kf)
 f298:=func147.trans (congrArg some Kf)
 f299:=func148.trans (congrArg some Kf)
 f300:=func150.trans (congrArg some Kf)
 f301:=func151.trans (congrArg some Kf)
 f328:=func183.trans (congrArg some Kf)
 f329:=func184.trans (congrArg some Kf)
 f330:=func185.trans (congrArg some Kf)
 f331:=func186.trans (congrArg some Kf)
 f332:=func187.trans (congrArg some Kf)
 f343:=func213.trans (congrArg some Kf)
 t0:=underlying0
 a0:=isAgg0
 z0:=sizeOf0
 v0:=zeroValue0
 t3:=underlying3
 a3:=isAgg3
 z3:=sizeOf3
 v3:=zeroValue3
 t4:=underlying4
 a4:=isAgg4
 z4:=sizeOf4
 v4:=zeroValue4
 t5:=underlying5
 a5:=isAgg5
 z5:=sizeOf5
 v5:=zeroValue5
 t9:=underlying9
 a9:=isAgg9
 z9:=sizeOf9
 v9:=zeroValue9
 t28:=underlying26
 a28:=isAgg26
 z28:=sizeOf26
 v28:=zeroValue26
 t46:=underlying162
 a46:=isAgg162
 z46:=sizeOf162
 v46:=zeroValue162
 t51:=underlying191
 a51:=isAgg191
 z51:=sizeOf191
 v51:=zeroValue191
 t53:=underlying193
 a53:=isAgg193
 z53:=sizeOf193
 v53:=zeroValue193
 t131:=underlying151
 a131:=isAgg151
 z131:=sizeOf151
 v131:=zeroValue151
 t182:=underlying183
 a182:=isAgg183
 z182:=sizeOf183
 v182:=zeroValue183
 t183:=underlying184
 a183:=isAgg184
 z183:=sizeOf184
 v183:=zeroValue184
 t218:=underlying209
 a218:=isAgg209
 z218:=sizeOf209
 v218:=zeroValue209
 t222:=underlying213
 a222:=isAgg213
 z222:=sizeOf213
 v222:=zeroValue213
 t228:=underlying226
 a228:=isAgg226
 z228:=sizeOf226
 v228:=zeroValue226
 t229:=underlying63
 a229:=isAgg63
 z229:=sizeOf63
 v229:=zeroValue63}
def Qac:Go.Shelf.Ren:=⟨fun|20=>77|n=>n,fun|22=>26|3=>3|4=>4|0=>0|n=>n,fun|n=>n⟩
theorem Qba:Go.Proofs.Lays2.n20 prog Qac:={
 mixed:=Kf
 f20:=func77.trans (congrArg some Kf)
 t0:=underlying0
 a0:=isAgg0
 z0:=sizeOf0
 v0:=zeroValue0
 t3:=underlying3
 a3:=isAgg3
 z3:=sizeOf3
 v3:=zeroValue3
 t4:=underlying4
 a4:=isAgg4
 z4:=sizeOf4
 v4:=zeroValue4
 t22:=underlying26
 a22:=isAgg26
 z22:=sizeOf26
 v22:=zeroValue26
 i3:=by kernel_rfl}
end Go.Proofs.YtkgkafjachjafaaGreat
