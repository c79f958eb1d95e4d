import Derived.Test.YtfkhblmeioiciaaGreatDoorKxZ
import Derived.Test.YtfkhblmeioiciaaGreatDoorBdZ
import Derived.Deep.RegionHeld3
import Derived.Deep.RegionWith
import Derived.Deep.DeepCutAuto
import Derived.Deep.CutBlock
import Derived.Test.YtfkhblmeioiciaaGreatDoorKnQ
import Derived.Test.YtfkhblmeioiciaaGreatDoorVk
import Derived.Test.YtfkhblmeioiciaaGreatDoorXbZ
set_option maxRecDepth 100000
set_option maxHeartbeats 8000000
set_option linter.defProp false
set_option linter.unusedVariables false
set_option linter.unusedSimpArgs false
namespace Go.Proofs.YtfkhblmeioiciaaGreatDoor
open Go.RowKit Go.ChangeShapes Go.WideShapes
def zs (v w:Int):Int:=wrap64 (ahf (zcut v w) w)
def tb (x:Int) (i:Nat):Bool:=(BitVec.ofInt 64 x).getLsbD i
theorem agW (x:Int):BitVec.ofInt 64 (IntKind.u64.wrap x)=BitVec.ofInt 64 x:=by
 apply BitVec.eq_of_toNat_eq
 rw[BitVec.toNat_ofInt,BitVec.toNat_ofInt,bg]
 omega
theorem ak3 (x:BitVec 64):BitVec.ofInt 64 (x.toNat:Int)=x:=by simp
theorem ard (x y:Int):BitVec.ofInt 64 (bits .and .u64 x y)=BitVec.ofInt 64 x &&& BitVec.ofInt 64 y:=(agW _).trans (ak3 _)
theorem asz (x y:Int):BitVec.ofInt 64 (bits .or .u64 x y)=BitVec.ofInt 64 x ||| BitVec.ofInt 64 y:=(agW _).trans (ak3 _)
theorem apf (x y:Int) (i:Nat):tb (bits .and .u64 x y) i=(tb x i&&tb y i):=by unfold tb;rw[ard,BitVec.getLsbD_and]
theorem arD (x y:Int) (i:Nat):tb (bits .or .u64 x y) i=(tb x i||tb y i):=by unfold tb;rw[asz,BitVec.getLsbD_or]
theorem agf {a b:Nat} (h:∀j,a.testBit j=true->b.testBit j=true):a<=b:=by
 have:a &&& b=a:=by
  apply Nat.eq_of_testBit_eq
  intro j
  rw[Nat.testBit_and]
  cases ha:a.testBit j
  ·rfl
  ·rw[h j ha];rfl
 rw[<-this]
 exact Nat.and_le_right
def Sub64 (x y:BitVec 64):Prop:=∀i,x.getLsbD i=true->y.getLsbD i=true
theorem Sub64.mod {x y:BitVec 64} (h:Sub64 x y) (i:Nat):x.toNat % 2 ^ i<=y.toNat % 2 ^ i:=by
 apply agf
 intro j hj
 rw[Nat.testBit_mod_two_pow] at hj ⊢
 simp only[thm0] at hj ⊢
 exact⟨hj.1,h j hj.2⟩
def Among (V M p:BitVec 64):Prop:=∀i,i<64->(V.getLsbD i&&M.getLsbD i)=false/\(p.getLsbD i &&!M.getLsbD i)=V.getLsbD i
theorem Among.low {V M p:BitVec 64} (h:Among V M p):Sub64 V p:=by
 intro i hi
 have hl:=BitVec.lt_of_getLsbD hi
 have:=h i hl
 revert this
 rw[hi]
 cases M.getLsbD i<;>cases p.getLsbD i<;>simp
theorem Among.high {V M p:BitVec 64} (h:Among V M p):Sub64 p (V ||| M):=by
 intro i hi
 have hl:=BitVec.lt_of_getLsbD hi
 have:=h i hl
 revert this
 rw[BitVec.getLsbD_or,hi]
 cases M.getLsbD i<;>cases V.getLsbD i<;>simp
theorem Among.at {V M p:BitVec 64} (h:Among V M p) {i:Nat} (hi:i<64) (hm:M.getLsbD i=false):p.getLsbD i=V.getLsbD i:=by
 have:=(h i hi).2
 rw[hm] at this
 simpa using this
theorem Among.or {V M p:BitVec 64} (h:Among V M p):V+M=V ||| M:=by
 apply BitVec.add_eq_or_of_and_eq_zero
 apply BitVec.eq_of_getLsbD_eq
 intro i hi
 rw[BitVec.getLsbD_and,(h i hi).1];simp
open Go
section
variable {op l:Int} {a b:Kn}
end
end Go.Proofs.YtfkhblmeioiciaaGreatDoor
