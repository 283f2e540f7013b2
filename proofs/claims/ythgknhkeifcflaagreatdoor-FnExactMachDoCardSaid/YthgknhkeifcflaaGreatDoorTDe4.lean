/- The keys' plain equations (4). No condition. -/
import Derived.Test.YthgknhkeifcflaaGreatDoorTDe0
namespace Go.Proofs.YthgknhkeifcflaaGreatDoor.E.TD
open Go.Proofs.YthgknhkeifcflaaGreatDoor.E
set_option linter.unusedVariables false
set_option maxRecDepth 100000
theorem Uz(t0:List Bool):AR t0=ry t0 [] 0:=bU
theorem Ih(t0:List Bool)(t3:List Int)(t4:Int):ry t0 t3 t4=if(decide (t4<(t0.length:Int)))then if(0:Int)≤t4∧t4<(t0.length:Int)then if(t0.getD t4.toNat false)then if t3.length+1≤room then ry t0 (t3.append [t4]) (w64 (t4+1))else none else ry t0 t3 (w64 (t4+1))else none else some (t3,()):=bU
theorem UH(t0:List Int)(t1:Int):AV t0 t1=mX t0 t1 0:=bU
theorem Im(t0:List Int)(t1:Int)(t5:Int):mX t0 t1 t5=if(decide (t5<(t0.length:Int)))then if(0:Int)≤t5∧t5<(t0.length:Int)then if(decide ((t0.getD t5.toNat 0)=t1))then some (true,())else mX t0 t1 (w64 (t5+1))else none else some (false,()):=bU
theorem Pa(t0:bE)(s16:Int):EM t0 s16=(qy t0 (w64 (s16-1))).bind fun r0=>some ((!r0.1),s16,()):=bU
theorem Jx(t0:List Int)(t1:Int):Jw t0 t1=some ((dw t0 t1),()):=bU
end Go.Proofs.YthgknhkeifcflaaGreatDoor.E.TD
