/- Texts of the proof: TO. -/
import Derived.Test.YtmapiehigkfddaaDoorG03
import Derived.Test.YtmapiehigkfddaaDoorG02

set_option linter.unusedVariables false
set_option linter.unusedSimpArgs false
set_option linter.unusedSectionVars false
set_option maxRecDepth 10000

namespace Go.Proofs.YtmapiehigkfddaaDoor
open Go.Eng Go.Plain
set_option maxHeartbeats 32000000
set_option maxRecDepth 20000
theorem rv {a:Int} (h:(Lit.int .u8 a).wf=true):0≤a∧a≤255:=by
 simp[Lit.wf,IntKind.min,IntKind.max,IntKind.bits,IntKind.signed]at h
 omega
def toB (l:List Int):List UInt8:=l.map fun z=>z.toNat.toUInt8
theorem pR {a:Int} (h:(Lit.int .u8 a).wf=true):((a.toNat.toUInt8.toNat:Nat):Int)=a:=by
 obtain⟨h1,h2⟩:=rv h
 simp only[Nat.toUInt8_eq,UInt8.toNat_ofNat']
 omega
end Go.Proofs.YtmapiehigkfddaaDoor
