import Derived.Test.YtfkhblmeioiciaaGreatDoorBdZ
import Derived.Test.YtfkhblmeioiciaaGreatDoorFrame
import Derived.Laws.OwnMore
import Derived.Deep.RegionHeld3
import Derived.Deep.RegionWith
import Derived.Deep.DeepCutAuto
import Derived.Deep.CutBlock
import Derived.Lib.BitFns
set_option maxRecDepth 100000
set_option maxHeartbeats 8000000
set_option linter.defProp false
set_option linter.unusedVariables false
set_option linter.unusedSimpArgs false
namespace Go.Proofs.YtfkhblmeioiciaaGreatDoor
open Go.RowKit
structure Kn where
 v:Int
 m:Int
 deriving DecidableEq
def Kn.wf (a:Kn):Prop:=(0<=a.v/\a.v<=18446744073709551615)/\(0<=a.m/\a.m<=18446744073709551615)
def kall:Kn:=⟨0,18446744073709551615⟩
def kone (v:Int):Kn:=⟨v,0⟩
def kmay (a:Kn):Bool:=bits .and .u64 a.v a.m==0
def khas (a:Kn) (x:Int):Bool:=kmay a&&(bits .andNot .u64 x a.m==a.v)
def lU (v m:Int):Kn:=⟨bits .andNot .u64 v m,m⟩
def sC (a b:Kn):Kn:=if kmay a=true/\kmay b=true then lU a.v (bits .or .u64 (bits .or .u64 a.m b.m) (bits .xor .u64 a.v b.v)) else kall
def agh (a b:Kn):Int:=bits .andNot .u64 (bits .xor .u64 a.v b.v) (bits .or .u64 a.m b.m)
def iA (a b:Kn):Bool:=kmay a&&(kmay b&&(agh a b==0))
def oE (a b:Kn):Kn:=if iA a b=true then lU (bits .or .u64 a.v b.v) (bits .and .u64 a.m b.m) else kall
def kcut (a:Kn) (w:Int):Kn:=if kmay a=true then⟨zcut a.v w,zcut a.m w⟩ else kall
def kadd (a b:Kn):Kn:=lU (IntKind.u64.wrap (a.v+b.v)) (bits .or .u64 (bits .or .u64 (bits .xor .u64 (IntKind.u64.wrap (a.v+b.v)) (IntKind.u64.wrap (IntKind.u64.wrap (a.m+b.m)+IntKind.u64.wrap (a.v+b.v)))) a.m) b.m)
def ksub (a b:Kn):Kn:=lU (IntKind.u64.wrap (a.v-b.v)) (bits .or .u64 (bits .or .u64 (bits .xor .u64 (IntKind.u64.wrap (IntKind.u64.wrap (a.v-b.v)+a.m)) (IntKind.u64.wrap (IntKind.u64.wrap (a.v-b.v)-b.m))) a.m) b.m)
def kand (a b:Kn):Kn:=⟨bits .and .u64 a.v b.v,bits .andNot .u64 (bits .and .u64 (bits .or .u64 a.v a.m) (bits .or .u64 b.v b.m)) (bits .and .u64 a.v b.v)⟩
def kor (a b:Kn):Kn:=⟨bits .or .u64 a.v b.v,bits .andNot .u64 (bits .or .u64 a.m b.m) (bits .or .u64 a.v b.v)⟩
def kxor (a b:Kn):Kn:=lU (bits .xor .u64 a.v b.v) (bits .or .u64 a.m b.m)
def akH (op w:Int) (a b:Kn):Kn:=lU (zdo op w a.v (bits .and .u64 b.v (w-1))) (zdo op w a.m (bits .and .u64 b.v (w-1)))
def kop (op w:Int) (a b:Kn):Kn:=
 if op=0 then kadd a b else if op=1 then ksub a b else if op=4 then kor a b else if op=5 then kand a b
 else if op=6\/op=7\/op=12 then(if(bits .and .u64 b.m (w-1)==0)=true then akH op w a b else kall)
 else if op=8 then ksub (kone 0) a else if op=10 then kxor a b else if op=11 then b else kall
def io (op w:Int) (a b:Kn):Bool:=kmay a&&(kmay b&&(decide (0<=op)&&(decide (op<=12)&&mz w)))
def kdo (op w:Int) (a b:Kn):Kn:=
 if io op w a b=true then
  (if(bits .or .u64 (kcut a w).m (kcut b w).m==0)=true then kone (zdo op w (kcut a w).v (kcut b w).v) else kcut (kop op w (kcut a w) (kcut b w)) w)
 else kall
def C2 (w:World) (b:Nat) (x y:Value):Prop:=w.cell? ⟨b,0,none⟩=some x/\w.cell? ⟨b,1,none⟩=some y/\∀j,w.frozen? ⟨b,j,none⟩=false
def Bk (w:World) (b:Nat) (cs:Array Value) (t:TypeId):Prop:=w.heap[b]? =some (.cells cs t (0,0))
theorem Bk.lt {w:World} {b:Nat} {cs:Array Value} {t:TypeId} (h:Bk w b cs t):b<w.heap.size:=by
 rcases aV b w.heap.size with hlt | hge
 ·exact hlt
 ·rw[Bk,Array.getElem?_eq_none hge] at h;cases h
theorem Bk.ext {w w':World} {b:Nat} {cs:Array Value} {t:TypeId} (h:Bk w b cs t) (hx:Ext w w'):Bk w' b cs t:=by
 unfold Bk at h ⊢
 rw[hx.block b (Bk.lt h)];exact h
theorem Bk.cell {w:World} {b:Nat} {cs:Array Value} {t:TypeId} (h:Bk w b cs t) (j:Nat):w.cell? ⟨b,j,none⟩=cs[j]? :=cell_of_row w b j cs t (0,0) h
theorem Bk.free {w:World} {b:Nat} {cs:Array Value} {t:TypeId} (h:Bk w b cs t) (j:Nat):w.frozen? ⟨b,j,none⟩=false:=frozen_of_row w b j cs t h
theorem Bk.new {w w':World} {cs:Array Value} {t:TypeId} (hx:Ext (w.alloc (.cells cs t)) w'):Bk w' w.heap.size cs t:=Bk.ext (w:=w.alloc (.cells cs t)) (heap_alloc_new _ _) hx
theorem Bk.two {w:World} {b:Nat} {x y:Value} {t:TypeId} (h:Bk w b #[x,y] t):C2 w b x y:=⟨h.cell 0,h.cell 1,h.free⟩
theorem C2.ext {w w':World} {b:Nat} {x y:Value} (h:C2 w b x y) (hx:Ext w w'):C2 w' b x y:=
 ⟨hx.cell h.1,hx.cell h.2.1,fun j=>(Below.frozen hx (p:=⟨b,j,none⟩) (World.block_lt_of_cell? w ⟨b,0,none⟩ h.1)).trans (h.2.2 j)⟩
theorem C2.lt {w:World} {b:Nat} {x y:Value} (h:C2 w b x y):b<w.heap.size:=World.block_lt_of_cell? w ⟨b,0,none⟩ h.1
theorem C2.off1 {w:World} {b:Nat} {x y:Value} (h:C2 w b x y) (c j:Nat) (u:Value) (hne:c≠b):C2 (w.setCell ⟨c,j,none⟩ u) b x y:=by
 refine⟨(World.cell?_setCell_other w ⟨c,j,none⟩ ⟨b,0,none⟩ u (fun e=>hne (congrArg Addr.block e))).trans h.1,(World.cell?_setCell_other w ⟨c,j,none⟩ ⟨b,1,none⟩ u (fun e=>hne (congrArg Addr.block e))).trans h.2.1,fun i=> ?_⟩
 have:=h.2.2 i
 simpa[go_sem] using this
theorem C2.off {w:World} {b:Nat} {x y:Value} (h:C2 w b x y) (c:Nat) (u v:Value) (hne:c≠b):C2 ((w.setCell ⟨c,0,none⟩ u).setCell ⟨c,1,none⟩ v) b x y:=(h.off1 c 0 u hne).off1 c 1 v hne
theorem C2.put {w:World} {b:Nat} {x y:Value} (h:C2 w b x y) (u v:Value):C2 ((w.setCell ⟨b,0,none⟩ u).setCell ⟨b,1,none⟩ v) b u v:=by
 obtain⟨h0,h1,h2⟩:=h
 have e0:(w.setCell ⟨b,0,none⟩ u).cell? ⟨b,0,none⟩=some u:=World.cell?_setCell_same w ⟨b,0,none⟩ u h0
 have e1:(w.setCell ⟨b,0,none⟩ u).cell? ⟨b,1,none⟩=some y:=(World.cell?_setCell_other w ⟨b,0,none⟩ ⟨b,1,none⟩ u (by simp)).trans h1
 refine⟨(World.cell?_setCell_other _ ⟨b,1,none⟩ ⟨b,0,none⟩ v (by simp)).trans e0,World.cell?_setCell_same _ ⟨b,1,none⟩ v e1,fun i=> ?_⟩
 have:=h2 i
 simpa[go_sem] using this
theorem alM (x:Int):0<=IntKind.u64.wrap x/\IntKind.u64.wrap x<=18446744073709551615:=by rw[bg];omega
theorem abZ (x y:Int):0<=bits .xor .u64 x y/\bits .xor .u64 x y<=18446744073709551615:=alM _
theorem Bk.set {w:World} {b:Nat} {cs:Array Value} {t:TypeId} (h:Bk w b cs t) (j:Nat) (v:Value):Bk (w.setCell ⟨b,j,none⟩ v) b (cs.setIfInBounds j v) t:=heap_setCell_same w b j cs t v h
theorem Bk.off {w:World} {b:Nat} {cs:Array Value} {t:TypeId} (h:Bk w b cs t) (c j:Nat) (v:Value) (hne:c≠b):Bk (w.setCell ⟨c,j,none⟩ v) b cs t:=by
 unfold Bk at h ⊢
 rw[heap_setCell_other w ⟨c,j,none⟩ b v (fun e=>hne e.symm)]
 exact h
open Go.ChangeShapes Go.WideShapes
theorem age:∀n:Fin 256,Go.Lib.len8 (n.val:Int)=(aC n.val:Int):=by decide +kernel
theorem ag2 {n c:Nat} (h1:2 ^ c<=n) (h2:n<2 ^ (c+1)):aC n=c+1:=by
 have h3:=eJ h2
 rcases aV (aC n) (c+1) with h | h
 ·have h4:=yp n
  have h5:2 ^ aC n<=2 ^ c:=Nat.pow_le_pow_right (by omega) (by omega)
  omega
 ·omega
theorem ajU {n k:Nat} (h:2 ^ k<=n):aC n=k+aC (n / 2 ^ k):=by
 have hp:0<2 ^ k:=Nat.pow_pos (by omega)
 have h0:n / 2 ^ k≠0:=by
  have:=Nat.div_pos h hp
  omega
 have h1:=ag0 h0
 have h2:=yp (n / 2 ^ k)
 obtain⟨c,hc⟩:∃c,aC (n / 2 ^ k)=c+1:=by
  have:aC (n / 2 ^ k)≠0:=by
   intro h
   rw[h] at h2
   simp at h2
   omega
  exact⟨aC (n / 2 ^ k)-1,by omega⟩
 rw[hc] at h1 h2 ⊢
 have e1:2 ^ (k+c)<=n:=by
  rw[Nat.pow_add]
  have:=Nat.mul_le_mul_left (2 ^ k) h1
  have h3:=Nat.mul_div_le n (2 ^ k)
  simp only[Nat.add_sub_cancel] at this
  omega
 have e2:n<2 ^ (k+c+1):=by
  rw[Nat.add_assoc,Nat.pow_add]
  have h3:=Nat.lt_mul_div_succ n hp
  have:=Nat.mul_le_mul_left (2 ^ k) (show n / 2 ^ k+1<=2 ^ (c+1) by omega)
  omega
 rw[ag2 e1 e2];omega
theorem cA {x:Int} (h0:0<=x) (h1:x<256):Go.Lib.len8 x=(aC x.toNat:Int)/\aC x.toNat<=8:=by
 have:=age ⟨x.toNat,by omega⟩
 have e:((x.toNat:Nat):Int)=x:=by omega
 simp only[e] at this
 exact⟨this,eJ (by omega)⟩
theorem dX {i:Int} (h0:0<=i) (h1:i<256) (h2:i.toNat<Go.Lib.len8tab.size):(((Go.Lib.len8tab[i.toNat]'h2).toNat:Nat):Int)=Go.Lib.len8 i:=by
 simp only[Go.Lib.len8,ByteArray.getElem?_lt' _ _ h2,Option.getD_some]
theorem td {x:Int} (h0:0<=x) (h1:x<256):IntKind.u8.wrap x=x:=by rw[show IntKind.u8.wrap x=x % 256 from by simp[IntKind.wrap,IntKind.bits,IntKind.signed]];omega
theorem dr {x:Int} (k:Nat) (h0:(2:Int) ^ k<=x):aC x.toNat=k+aC (x / 2 ^ k).toNat:=by
 have e:((2:Int) ^ k)=((2 ^ k:Nat):Int):=by simp
 rw[e] at h0 ⊢
 obtain⟨n,rfl⟩:∃n:Nat,x=n:=⟨x.toNat,by have:=Nat.pow_pos (n:=k) (show 0<2 by omega);omega⟩
 rw[ajU (n:=(n:Int).toNat) (k:=k) (by omega)]
 congr 1
theorem are (x:Int) (h0:0<=x) (h1:x<=18446744073709551615) (W w:World) (hx:Ext W w):
  Calls Tryz.prog 222 #[.int .u64 x] w fun e w'=>e=.returned (.int .i64 (aC x.toNat))/\Ext W w':=by
 obtain⟨r,hr⟩:∃r,aC x.toNat=r:=⟨_,rfl⟩
 rw[hr]
 have HR:=hide hr
 clear hr
 by_cases c0:4294967296<=x
 ·by_cases c1:65536<=(x / 4294967296)
  ·by_cases c2:256<=((x / 4294967296) / 65536)
   ·have q0:0<=(((x / 4294967296) / 65536) / 256):=by omega
    have q1:(((x / 4294967296) / 65536) / 256)<256:=by omega
    have e4:=td q0 q1
    have E:=hide (cA q0 q1)
    have l0:=dr (x:=x) 32 (by omega)
    simp only[Int.reducePow] at l0
    have L0:=hide l0
    clear l0
    have l1:=dr (x:=(x / 4294967296)) 16 (by omega)
    simp only[Int.reducePow] at l1
    have L1:=hide l1
    clear l1
    have l2:=dr (x:=((x / 4294967296) / 65536)) 8 (by omega)
    simp only[Int.reducePow] at l2
    have L2:=hide l2
    clear l2
    have hN:Hid (r=32+(16+(8+(aC (((x / 4294967296) / 65536) / 256).toNat)))):=hide (by rw[<-HR.out,L0.out,L1.out,L2.out])
    as_aux_lemma=>
     go_enter Tryz.func222,Tryz.ntmps222
     go_wp2_with fail
     all_goals
      go_ret
      refine⟨be ?_,hx⟩
      have hm:=E.out.2
      rw[dX q0 q1,E.out.1,hN.out]
      generalize aC _=m at hm ⊢
      clear q0 q1 e4 c0 c1 c2 h0 h1
      simp only[wrap64]
      omega
   ·have q0:0<=((x / 4294967296) / 65536):=by omega
    have q1:((x / 4294967296) / 65536)<256:=by omega
    have e4:=td q0 q1
    have E:=hide (cA q0 q1)
    have l0:=dr (x:=x) 32 (by omega)
    simp only[Int.reducePow] at l0
    have L0:=hide l0
    clear l0
    have l1:=dr (x:=(x / 4294967296)) 16 (by omega)
    simp only[Int.reducePow] at l1
    have L1:=hide l1
    clear l1
    have hN:Hid (r=32+(16+(aC ((x / 4294967296) / 65536).toNat))):=hide (by rw[<-HR.out,L0.out,L1.out])
    as_aux_lemma=>
     go_enter Tryz.func222,Tryz.ntmps222
     go_wp2_with fail
     all_goals
      go_ret
      refine⟨be ?_,hx⟩
      have hm:=E.out.2
      rw[dX q0 q1,E.out.1,hN.out]
      generalize aC _=m at hm ⊢
      clear q0 q1 e4 c0 c1 c2 h0 h1
      simp only[wrap64]
      omega
  ·by_cases c2:256<=(x / 4294967296)
   ·have q0:0<=((x / 4294967296) / 256):=by omega
    have q1:((x / 4294967296) / 256)<256:=by omega
    have e4:=td q0 q1
    have E:=hide (cA q0 q1)
    have l0:=dr (x:=x) 32 (by omega)
    simp only[Int.reducePow] at l0
    have L0:=hide l0
    clear l0
    have l1:=dr (x:=(x / 4294967296)) 8 (by omega)
    simp only[Int.reducePow] at l1
    have L1:=hide l1
    clear l1
    have hN:Hid (r=32+(8+(aC ((x / 4294967296) / 256).toNat))):=hide (by rw[<-HR.out,L0.out,L1.out])
    as_aux_lemma=>
     go_enter Tryz.func222,Tryz.ntmps222
     go_wp2_with fail
     all_goals
      go_ret
      refine⟨be ?_,hx⟩
      have hm:=E.out.2
      rw[dX q0 q1,E.out.1,hN.out]
      generalize aC _=m at hm ⊢
      clear q0 q1 e4 c0 c1 c2 h0 h1
      simp only[wrap64]
      omega
   ·have q0:0<=(x / 4294967296):=by omega
    have q1:(x / 4294967296)<256:=by omega
    have e4:=td q0 q1
    have E:=hide (cA q0 q1)
    have l0:=dr (x:=x) 32 (by omega)
    simp only[Int.reducePow] at l0
    have L0:=hide l0
    clear l0
    have hN:Hid (r=32+(aC (x / 4294967296).toNat)):=hide (by rw[<-HR.out,L0.out])
    as_aux_lemma=>
     go_enter Tryz.func222,Tryz.ntmps222
     go_wp2_with fail
     all_goals
      go_ret
      refine⟨be ?_,hx⟩
      have hm:=E.out.2
      rw[dX q0 q1,E.out.1,hN.out]
      generalize aC _=m at hm ⊢
      clear q0 q1 e4 c0 c1 c2 h0 h1
      simp only[wrap64]
      omega
 ·by_cases c1:65536<=x
  ·by_cases c2:256<=(x / 65536)
   ·have q0:0<=((x / 65536) / 256):=by omega
    have q1:((x / 65536) / 256)<256:=by omega
    have e4:=td q0 q1
    have E:=hide (cA q0 q1)
    have l0:=dr (x:=x) 16 (by omega)
    simp only[Int.reducePow] at l0
    have L0:=hide l0
    clear l0
    have l1:=dr (x:=(x / 65536)) 8 (by omega)
    simp only[Int.reducePow] at l1
    have L1:=hide l1
    clear l1
    have hN:Hid (r=16+(8+(aC ((x / 65536) / 256).toNat))):=hide (by rw[<-HR.out,L0.out,L1.out])
    as_aux_lemma=>
     go_enter Tryz.func222,Tryz.ntmps222
     go_wp2_with fail
     all_goals
      go_ret
      refine⟨be ?_,hx⟩
      have hm:=E.out.2
      rw[dX q0 q1,E.out.1,hN.out]
      generalize aC _=m at hm ⊢
      clear q0 q1 e4 c0 c1 c2 h0 h1
      simp only[wrap64]
      omega
   ·have q0:0<=(x / 65536):=by omega
    have q1:(x / 65536)<256:=by omega
    have e4:=td q0 q1
    have E:=hide (cA q0 q1)
    have l0:=dr (x:=x) 16 (by omega)
    simp only[Int.reducePow] at l0
    have L0:=hide l0
    clear l0
    have hN:Hid (r=16+(aC (x / 65536).toNat)):=hide (by rw[<-HR.out,L0.out])
    as_aux_lemma=>
     go_enter Tryz.func222,Tryz.ntmps222
     go_wp2_with fail
     all_goals
      go_ret
      refine⟨be ?_,hx⟩
      have hm:=E.out.2
      rw[dX q0 q1,E.out.1,hN.out]
      generalize aC _=m at hm ⊢
      clear q0 q1 e4 c0 c1 c2 h0 h1
      simp only[wrap64]
      omega
  ·by_cases c2:256<=x
   ·have q0:0<=(x / 256):=by omega
    have q1:(x / 256)<256:=by omega
    have e4:=td q0 q1
    have E:=hide (cA q0 q1)
    have l0:=dr (x:=x) 8 (by omega)
    simp only[Int.reducePow] at l0
    have L0:=hide l0
    clear l0
    have hN:Hid (r=8+(aC (x / 256).toNat)):=hide (by rw[<-HR.out,L0.out])
    as_aux_lemma=>
     go_enter Tryz.func222,Tryz.ntmps222
     go_wp2_with fail
     all_goals
      go_ret
      refine⟨be ?_,hx⟩
      have hm:=E.out.2
      rw[dX q0 q1,E.out.1,hN.out]
      generalize aC _=m at hm ⊢
      clear q0 q1 e4 c0 c1 c2 h0 h1
      simp only[wrap64]
      omega
   ·have q0:0<=x:=by omega
    have q1:x<256:=by omega
    have e4:=td q0 q1
    have E:=hide (cA q0 q1)
    have hN:Hid (r=aC x.toNat):=hide (by rw[<-HR.out])
    as_aux_lemma=>
     go_enter Tryz.func222,Tryz.ntmps222
     go_wp2_with fail
     all_goals
      go_ret
      refine⟨be ?_,hx⟩
      have hm:=E.out.2
      rw[dX q0 q1,E.out.1,hN.out]
      generalize aC _=m at hm ⊢
      clear q0 q1 e4 c0 c1 c2 h0 h1
      simp only[wrap64]
      omega
theorem b_lz (x:Int) (h0:0<=x) (h1:x<=18446744073709551615) (W w:World) (hx:Ext W w):
  Calls Tryz.prog 224 #[.int .u64 x] w fun e w'=>e=.returned (.int .i64 (64-aC x.toNat))/\Ext W w':=by
 have hb:aC x.toNat<=64:=eJ (by omega)
 obtain⟨r,hr⟩:∃r,aC x.toNat=r:=⟨_,rfl⟩
 have HR:=hide hr
 rw[hr] at hb ⊢
 clear hr
 go_enter Tryz.func224,Tryz.ntmps224
 go_wp2_with (first
  | (go_at_call 222;(with_reducible refine(are x h0 h1 W _ (by assumption)).mono ?_);rintro e w' ⟨rfl,hx'⟩;rw[HR.out])
  | fail)
 go_ret
 refine⟨be ?_,by assumption⟩
 all_goals (first | (simp only[wrap64];done) | (simp only[wrap64];omega) | omega)
end Go.Proofs.YtfkhblmeioiciaaGreatDoor
