import Derived.WalkKit
import Derived.WalkSpells
import Derived.Deep.QuietTactic
import Derived.BigQuiet
set_option maxRecDepth 100000
set_option maxHeartbeats 8000000
set_option linter.defProp false
set_option linter.unusedVariables false
set_option linter.unusedSimpArgs false
namespace Go.Proofs.YtfkhblmeioiciaaGreatDoor
open Go.RowKit
theorem hide {p:Prop} (h:p):Hid p:=h
theorem bh {k:IntKind} {a b:Int} (h:a=b):Ending.returned (.int k a)=Ending.returned (.int k b):=by rw[h]
theorem qu {a b:Bool} (h:a=b):Ending.returned (.bool a)=Ending.returned (.bool b):=by rw[h]
def Ext (w0 w:World):Prop:=Below w0.heap.size w0 w
theorem Ext.refl (w:World):Ext w w:=Below.refl _ _
theorem Ext.size {w0 w:World} (h:Ext w0 w):w0.heap.size<=w.heap.size:=Below.size h
theorem Ext.step {w0 w w':World} (h:Ext w0 w) (hb:Below w.heap.size w w'):Ext w0 w':=Below.trans h (hb.mono h.size)
theorem Ext.trans {w0 w w':World} (h:Ext w0 w) (hb:Ext w w'):Ext w0 w':=h.step hb
theorem Ext.alloc {w0 w:World} (h:Ext w0 w) (o:Obj):Ext w0 (w.alloc o):=Below.alloc h h.size o
theorem Ext.drew {w0 w:World} (h:Ext w0 w):Ext w0 w.drew:=Below.drew h
theorem Ext.setCell {w0 w:World} (h:Ext w0 w) {p:Addr} (hp:w0.heap.size<=p.block) (u:Value):Ext w0 (w.setCell p u):=Below.setCell h hp u
theorem Ext.cell {w0 w:World} (h:Ext w0 w) {p:Addr} {v:Value} (hc:w0.cell? p=some v):w.cell? p=some v:=(Below.cell h (World.block_lt_of_cell? w0 p hc)).trans hc
theorem amr (v:Int):IntKind.u16.wrap v=v % 65536:=by simp[IntKind.wrap,IntKind.bits,IntKind.signed]
theorem bc (v:Int):IntKind.u64.wrap v=v % 18446744073709551616:=by simp[IntKind.wrap,IntKind.bits,IntKind.signed]
theorem w_i8 (v:Int):IntKind.i8.wrap v=(v+128) % 256-128:=by
 simp only[IntKind.wrap,IntKind.bits,IntKind.signed];simp;split<;>omega
theorem aoO (v:Int):IntKind.i16.wrap v=(v+32768) % 65536-32768:=by
 simp only[IntKind.wrap,IntKind.bits,IntKind.signed];simp;split<;>omega
theorem aL (v:Int):IntKind.i64.wrap v=(v+9223372036854775808) % 18446744073709551616-9223372036854775808:=by rw[IntKind.wrap_i64]
theorem w_32 (v:Int):wrap32 v=(v+2147483648) % 4294967296-2147483648:=by unfold wrap32;rfl
theorem w_64 (v:Int):wrap64 v=(v+9223372036854775808) % 18446744073709551616-9223372036854775808:=by unfold wrap64;rfl
theorem aoy (b:Int) (h0:0<=b) (h1:b<=18446744073709551615):bits .and .u64 b 63=b % 64:=by
 obtain⟨n,rfl⟩:=Int.eq_ofNat_of_zero_le h0
 rw[show(63:Int)=((63:Nat):Int) from rfl,u64_and_nat _ _ (by omega) (by omega),nat_mask6];rfl
theorem aoz (b:Int) (h0:0<=b) (h1:b<=18446744073709551615):bits .and .u64 b 31=b % 32:=by
 obtain⟨n,rfl⟩:=Int.eq_ofNat_of_zero_le h0
 rw[show(31:Int)=((31:Nat):Int) from rfl,u64_and_nat _ _ (by omega) (by omega),nat_mask5];rfl
theorem and1 (b:Int) (h0:0<=b) (h1:b<=18446744073709551615):bits .and .u64 b 1=b % 2:=by
 obtain⟨n,rfl⟩:=Int.eq_ofNat_of_zero_le h0
 rw[show(1:Int)=((1:Nat):Int) from rfl,u64_and_nat _ _ (by omega) (by omega),nat_mask1];rfl
theorem aoA (b:Int) (h0:0<=b) (h1:b<=18446744073709551615):bits .and .u64 b 255=b % 256:=by
 obtain⟨n,rfl⟩:=Int.eq_ofNat_of_zero_le h0
 rw[show(255:Int)=((255:Nat):Int) from rfl,u64_and_nat _ _ (by omega) (by omega),nat_mask8];rfl
theorem aeS (k:Nat) (hk:k<=64) (b:Int) (h0:0<=b) (h1:b<=18446744073709551615):bits .and .u64 b (2 ^ k-1)=b % 2 ^ k:=by
 obtain⟨n,rfl⟩:=Int.eq_ofNat_of_zero_le h0
 have hp:(2:Nat) ^ k<=2 ^ 64:=Nat.pow_le_pow_right (by omega) hk
 have hq:1<=(2:Nat) ^ k:=Nat.one_le_two_pow
 rw[show((2:Int) ^ k-1)=((2 ^ k-1:Nat):Int) from by rw[Int.ofNat_sub hq];simp,u64_and_nat _ _ (by omega) (by omega),Nat.and_two_pow_sub_one_eq_mod]
 simp
def thm0:=@Bool.and_eq_true
def thm1:=@Nat.eq_of_beq_eq_true
def thm2:=@of_decide_eq_false
def thm3:=@of_decide_eq_true
def thm4:=@Option.map_eq_some_iff
def thm5:=@List.cons.injEq
def thm6:=@List.getElem?_eq_getElem
def thm7:=@List.all_eq_true
def thm8:=@List.getElem?_append_left
def thm9:=@List.getElem?_append_right
def cP:=@List.getElem?_eq_some_iff
def ao:=@Bool.eq_iff_iff
def ce:=@List.getElem?_cons_zero
def jw:=@List.getElem?_cons_succ
def bH:=@Option.some.injEq
def cz:=@Option.bind_eq_some_iff
def bX:=@List.getElem?_eq_none
def fD:=@List.length_append
def cd:=@List.mem_cons_self
def dk:=@List.mem_cons_of_mem
def ba:=@decide_eq_true_eq
def eA:=@decide_eq_true
def eR:=@decide_eq_false
def ez:=@Int.toNat_natCast
def jv:=@Int.eq_ofNat_of_zero_le
def jU:=@List.getElem?_map
def dT:=@List.getElem?_set
def fT:=@List.mem_of_getElem?
def mL:=@Nat.lt_of_lt_of_le
def aZ:=@beq_iff_eq
def ju:=@Array.getElem?_toList
def aO:=@Bool.false_and
def aK:=@Bool.and_false
def eb:=@List.getD_eq_getElem?_getD
def aq:=@Bool.or_false
def fS:=@Array.getElem?_eq_some_iff
def ey:=@Bool.or_eq_true
def bq:=@Nat.lt_or_ge
def gf:=@Array.getD_eq_getD_getElem?
def bG:=@Nat.zero_add
def ar:=@Int.not_lt
def fj:=@List.mem_singleton
end Go.Proofs.YtfkhblmeioiciaaGreatDoor
