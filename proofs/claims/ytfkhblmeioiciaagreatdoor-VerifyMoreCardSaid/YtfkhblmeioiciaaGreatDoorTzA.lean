import Derived.Test.YtfkhblmeioiciaaGreatDoorSyZe
import Derived.Test.YtfkhblmeioiciaaGreatDoorChecked
import Derived.Shelf.Spec.TrailingZeros
set_option maxRecDepth 100000
set_option maxHeartbeats 8000000
set_option linter.defProp false
set_option linter.unusedVariables false
set_option linter.unusedSimpArgs false
namespace Go.Proofs.YtfkhblmeioiciaaGreatDoor
open Go.RowKit Go.Shelf
def arz:Ren:=⟨fun | 29=>37 | n=>n,fun | 0=>0 | 3=>3 | 4=>4 | 5=>5 | 22=>42 | 25=>105 | 54=>81 | n=>n,fun _=>0⟩
theorem arA:Lays7.n29 Tryz.prog arz:={
 mixed:=by kernel_rfl
 f29:=Tryz.func37.trans (congrArg some (by kernel_rfl))
 t0:=Tryz.underlying0
 a0:=Tryz.isAgg0
 z0:=Tryz.sizeOf0
 v0:=Tryz.zeroValue0
 i0:=by kernel_rfl
 t3:=Tryz.underlying3
 a3:=Tryz.isAgg3
 z3:=Tryz.sizeOf3
 v3:=Tryz.zeroValue3
 i3:=by kernel_rfl
 t4:=Tryz.underlying4
 a4:=Tryz.isAgg4
 z4:=Tryz.sizeOf4
 v4:=Tryz.zeroValue4
 i4:=by kernel_rfl
 t5:=Tryz.underlying5
 a5:=Tryz.isAgg5
 z5:=Tryz.sizeOf5
 v5:=Tryz.zeroValue5
 i5:=by kernel_rfl
 t22:=Tryz.underlying42
 a22:=Tryz.isAgg42
 z22:=Tryz.sizeOf42
 v22:=Tryz.zeroValue42
 i22:=by kernel_rfl
 t25:=Tryz.underlying105
 a25:=Tryz.isAgg105
 z25:=Tryz.sizeOf105
 v25:=Tryz.zeroValue105
 i25:=by kernel_rfl
 t54:=Tryz.underlying81
 a54:=Tryz.isAgg81
 z54:=Tryz.sizeOf81
 g1:=by kernel_rfl
}
def sHw (w:World):Prop:=TabAt 0 Lib.deBruijn64tab w
theorem sHx (w w':World) (hx:Ext w w') (h:sHw w):sHw w':=by
 intro j hj
 have h1:=h j hj
 have hlt:0<w.heap.size:=by
  rcases aV 0 w.heap.size with h2 | h2
  ·exact h2
  ·have h3:w.heap[0]? =none:=Array.getElem?_eq_none h2
   simp[World.cell?,h3] at h1
 rw[World.cell?_of_block (a:=⟨0,j,none⟩) (hx.block 0 hlt)]
 exact h1
theorem sHi:∃w,sHw w:=by
 refine⟨(default:World).alloc (.cells (Lib.deBruijn64tab.map fun(n:Nat)=>Value.int .u8 (n:Int)).toArray 0),?_⟩
 intro j hj
 have h0:(default:World).heap.size=0:=rfl
 have:=heap_alloc_new (default:World) (.cells (Lib.deBruijn64tab.map fun(n:Nat)=>Value.int .u8 (n:Int)).toArray 0)
 rw[h0] at this
 rw[hG this]
 simp only[Lib.deBruijn64tab,List.length_cons,List.length_nil] at hj
 have key:∀j,j<64->(Lib.deBruijn64tab.map fun(n:Nat)=>Value.int .u8 (n:Int))[j]? =some (.int .u8 (Lib.deBruijn64tab.getD j 0)):=by
  intro j hj
  rw[jq,cN]
  have h1:j<Lib.deBruijn64tab.length:=by simpa[Lib.deBruijn64tab] using hj
  rw[thm6 h1]
  rfl
 exact key j (by omega)
def tzI (x:Int):Int:=Lib.ctz 64 x.toNat
def adY (x:Int):List Dt:=[.z (tzI x)]
def nO:List Dt->List Dt
 | [.z x]=>adY x
 | _=>[]
def xi (key:Nat):Sm:=⟨37,key,[.one (.int .u64)],[.one (.int .i64)],false⟩
theorem ara (x:Nat) (hx:x<2 ^ 64):Lib.ctz 64 x<=64:=by
 by_cases h:x=0
 ·subst h;decide
 ·exact Nat.le_of_lt (Lib.lowest_bit 64 x h hx).2
theorem afd {sp:Spec} {key:Nat} (hF:sp.F key=nO) (hH:∀w,sp.hw w->sHw w:=by exact fun _ h=>h):SmOk Tryz.prog sp (xi key):=by
 refine SmOk.pureW hF rfl rfl (fun xs vals w h hh=> ?_)
 obtain⟨_,_,_,rfl,⟨x,rfl,rfl,gx⟩,h⟩:=h
 obtain⟨rfl,rfl⟩:=h
 obtain⟨n,rfl⟩:∃n:Nat,x=n:=by
  simp[inK,IntKind.min,IntKind.max,IntKind.signed,IntKind.bits] at gx
  exact⟨x.toNat,by omega⟩
 have hn:n<2 ^ 64:=by
  simp[inK,IntKind.min,IntKind.max,IntKind.signed,IntKind.bits] at gx
  omega
 have hle:=ara n hn
 refine⟨.int .i64 (Lib.ctz 64 n),.inr ⟨dd Tryz.func37 (by kernel_rfl) (by kernel_rfl) _ w,?_⟩,?_,fun U v0 nid j he=> ?_⟩
 ·refine(Any7.bits_TrailingZeros64 arA n hn w fun _=>hH w hh).mono ?_
  rintro e w' ⟨rfl,rfl⟩
  exact⟨rfl,.refl _⟩
 ·refine⟨?_,trivial⟩
  show inK .i64 (Lib.ctz 64 (n:Int).toNat:Int)=true
  rw[dT]
  simp[inK,IntKind.min,IntKind.max,IntKind.signed,IntKind.bits]
  omega
 ·have h1:U.i v0=(Lib.ctz 64 (n:Int).toNat:Int):=he.1
  rw[dT] at h1
  show some (Value.int .i64 (U.i v0))=_
  rw[h1]
end Go.Proofs.YtfkhblmeioiciaaGreatDoor
