import Derived.WalkKit
import Derived.WalkSpells
import Derived.Deep.QuietTactic
import Derived.BigQuiet
set_option linter.unusedVariables false
set_option linter.unusedSimpArgs false
namespace Go.Proofs.YtfkhblmeioiciaaGreatDoor
open Go.RowKit
theorem hide {p:Prop} (h:p):Hid p:=h
theorem aL {k:IntKind} {a b:Int} (h:a=b):Ending.returned (.int k a)=Ending.returned (.int k b):=by rw[h]
theorem aeW {a b:Bool} (h:a=b):Ending.returned (.bool a)=Ending.returned (.bool b):=by rw[h]
def Ext (w0 w:World):Prop:=Below w0.heap.size w0 w
theorem Ext.refl (w:World):Ext w w:=Below.refl _ _
theorem Ext.size {w0 w:World} (h:Ext w0 w):w0.heap.size≤w.heap.size:=Below.size h
theorem Ext.step {w0 w w':World} (h:Ext w0 w) (hb:Below w.heap.size w w'):Ext w0 w':=Below.trans h (hb.mono h.size)
theorem Ext.trans {w0 w w':World} (h:Ext w0 w) (hb:Ext w w'):Ext w0 w':=h.step hb
theorem Ext.alloc {w0 w:World} (h:Ext w0 w) (o:Obj):Ext w0 (w.alloc o):=Below.alloc h h.size o
theorem Ext.drew {w0 w:World} (h:Ext w0 w):Ext w0 w.drew:=Below.drew h
theorem Ext.setCell {w0 w:World} (h:Ext w0 w) {p:Addr} (hp:w0.heap.size≤p.block) (u:Value):Ext w0 (w.setCell p u):=Below.setCell h hp u
theorem Ext.cell {w0 w:World} (h:Ext w0 w) {p:Addr} {v:Value} (hc:w0.cell? p=some v):w.cell? p=some v:=(Below.cell h (World.block_lt_of_cell? w0 p hc)).trans hc
theorem ajL (v:Int):IntKind.u16.wrap v=v % 65536:=by simp[IntKind.wrap,IntKind.bits,IntKind.signed]
theorem cr (v:Int):IntKind.u64.wrap v=v % 18446744073709551616:=by simp[IntKind.wrap,IntKind.bits,IntKind.signed]
theorem w_i8 (v:Int):IntKind.i8.wrap v=(v+128) % 256-128:=by
 simp only[IntKind.wrap,IntKind.bits,IntKind.signed]; simp; split<;>omega
theorem alG (v:Int):IntKind.i16.wrap v=(v+32768) % 65536-32768:=by
 simp only[IntKind.wrap,IntKind.bits,IntKind.signed]; simp; split<;>omega
theorem cy (v:Int):IntKind.i64.wrap v=(v+9223372036854775808) % 18446744073709551616-9223372036854775808:=by rw[IntKind.wrap_i64]
theorem w_32 (v:Int):wrap32 v=(v+2147483648) % 4294967296-2147483648:=by unfold wrap32; rfl
theorem w_64 (v:Int):wrap64 v=(v+9223372036854775808) % 18446744073709551616-9223372036854775808:=by unfold wrap64; rfl
theorem ajz (b:Int) (h0:0≤b) (h1:b≤18446744073709551615):bits .and .u64 b 63=b % 64:=by
 obtain⟨n,rfl⟩:=Int.eq_ofNat_of_zero_le h0
 rw[show(63:Int)=((63:Nat):Int) from rfl,u64_and_nat _ _ (by omega) (by omega),nat_mask6]; rfl
theorem ajA (b:Int) (h0:0≤b) (h1:b≤18446744073709551615):bits .and .u64 b 31=b % 32:=by
 obtain⟨n,rfl⟩:=Int.eq_ofNat_of_zero_le h0
 rw[show(31:Int)=((31:Nat):Int) from rfl,u64_and_nat _ _ (by omega) (by omega),nat_mask5]; rfl
end Go.Proofs.YtfkhblmeioiciaaGreatDoor
