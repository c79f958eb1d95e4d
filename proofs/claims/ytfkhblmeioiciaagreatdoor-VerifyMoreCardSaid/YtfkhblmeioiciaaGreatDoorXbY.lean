import Derived.Test.YtfkhblmeioiciaaGreatDoorXbZ
import Derived.Test.YtfkhblmeioiciaaGreatDoorProg
import Derived.Laws.Externs
set_option maxRecDepth 100000
set_option maxHeartbeats 8000000
set_option linter.defProp false
set_option linter.unusedSectionVars false
set_option linter.unusedSimpArgs false
set_option linter.unusedVariables false
namespace Go.Proofs.YtfkhblmeioiciaaGreatDoor
open Go Go.RowKit
theorem rf0 {v:Int} (h0:0<=v) (h:v<=0):0=lh v:=by
 obtain rfl:v=0:=by omega
 rfl
theorem rf {v lo hi:Int} (k:Nat) (e1:lo=2 ^ k) (e2:hi=2 ^ (k+1)-1) (h1:lo<=v) (h2:v<=hi):hi=lh v:=by
 have p:(0:Int)<2 ^ k:=Int.pow_pos (by omega)
 have q1:((2 ^ k:Nat):Int)=2 ^ k:=by simp
 have q2:((2 ^ (k+1):Nat):Int)=2 ^ (k+1):=by simp
 unfold lh
 rw[ag2 (n:=v.toNat) (c:=k) (by omega) (by omega),e2]
section
variable {op:Int} {a b:Rg} (ha:a.ok) (hb:b.ok) (ma:bmay a=true) (mb:bmay b=true)
include ha hb
include ma mb
end
section
variable {a b:Rg}
end
open Go.ChangeShapes Go.WideShapes
end Go.Proofs.YtfkhblmeioiciaaGreatDoor
