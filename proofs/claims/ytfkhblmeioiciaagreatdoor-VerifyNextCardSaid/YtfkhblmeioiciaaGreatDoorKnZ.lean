import Derived.Test.YtfkhblmeioiciaaGreatDoorKxZ
import Derived.Test.YtfkhblmeioiciaaGreatDoorBdZ
import Derived.Deep.RegionHeld3
import Derived.Deep.RegionWith
import Derived.Deep.DeepCutAuto
import Derived.Deep.CutBlock
import Derived.Test.YtfkhblmeioiciaaGreatDoorKnQ
import Derived.Test.YtfkhblmeioiciaaGreatDoorVk
import Derived.Test.YtfkhblmeioiciaaGreatDoorXbZ
set_option linter.unusedVariables false
set_option linter.unusedSimpArgs false
namespace Go.Proofs.YtfkhblmeioiciaaGreatDoor
open Go.RowKit Go.ChangeShapes Go.WideShapes
end Go.Proofs.YtfkhblmeioiciaaGreatDoor
set_option linter.unusedVariables false
set_option linter.unusedSimpArgs false
namespace Go.Proofs.YtfkhblmeioiciaaGreatDoor
open Go.RowKit
def zs (v w:Int):Int:=wrap64 (dz (zcut v w) w)
end Go.Proofs.YtfkhblmeioiciaaGreatDoor
set_option linter.unusedVariables false
set_option linter.unusedSimpArgs false
namespace Go.Proofs.YtfkhblmeioiciaaGreatDoor
open Go.RowKit
end Go.Proofs.YtfkhblmeioiciaaGreatDoor
set_option linter.unusedVariables false
set_option linter.unusedSimpArgs false
namespace Go.Proofs.YtfkhblmeioiciaaGreatDoor
open Go.RowKit
end Go.Proofs.YtfkhblmeioiciaaGreatDoor
set_option linter.unusedVariables false
set_option linter.unusedSimpArgs false
namespace Go.Proofs.YtfkhblmeioiciaaGreatDoor
open Go.RowKit
def tb (x:Int) (i:Nat):Bool:=(BitVec.ofInt 64 x).getLsbD i
theorem iZ {x:Int} (h0:0≤x) (h1:x≤18446744073709551615):((BitVec.ofInt 64 x).toNat:Int)=x:=by
 rw[BitVec.toNat_ofInt]; omega
theorem alm {x y:Int} (h0:0≤x) (h1:x≤18446744073709551615) (h2:0≤y) (h3:y≤18446744073709551615) (h:BitVec.ofInt 64 x=BitVec.ofInt 64 y):x=y:=by
 rw[←iZ h0 h1,←iZ h2 h3,h]
theorem aaf {x y:Int} (hx:0≤x∧x≤18446744073709551615) (hy:0≤y∧y≤18446744073709551615) (h:∀i,i<64→tb x i=tb y i):x=y:=
 alm hx.1 hx.2 hy.1 hy.2 (BitVec.eq_of_getLsbD_eq fun i hi=>h i hi)
theorem bm (x:Int):BitVec.ofInt 64 (IntKind.u64.wrap x)=BitVec.ofInt 64 x:=by
 apply BitVec.eq_of_toNat_eq
 rw[BitVec.toNat_ofInt,BitVec.toNat_ofInt,cr]
 omega
theorem xp (x:BitVec 64):BitVec.ofInt 64 (x.toNat:Int)=x:=by simp
theorem aln (x y:Int):BitVec.ofInt 64 (bits .and .u64 x y)=BitVec.ofInt 64 x &&& BitVec.ofInt 64 y:=(bm _).trans (xp _)
theorem alk (x y:Int):BitVec.ofInt 64 (bits .or .u64 x y)=BitVec.ofInt 64 x ||| BitVec.ofInt 64 y:=(bm _).trans (xp _)
theorem alj (x y:Int):BitVec.ofInt 64 (bits .xor .u64 x y)=BitVec.ofInt 64 x ^^^ BitVec.ofInt 64 y:=(bm _).trans (xp _)
theorem ado (x y:Int):BitVec.ofInt 64 (bits .andNot .u64 x y)=BitVec.ofInt 64 x &&& ~~~ BitVec.ofInt 64 y:=(bm _).trans (xp _)
theorem fW (x y:Int) (i:Nat):tb (bits .and .u64 x y) i=(tb x i&&tb y i):=by unfold tb; rw[aln,BitVec.getLsbD_and]
theorem gr (x y:Int) (i:Nat):tb (bits .or .u64 x y) i=(tb x i||tb y i):=by unfold tb; rw[alk,BitVec.getLsbD_or]
theorem kZ (x y:Int) (i:Nat):tb (bits .xor .u64 x y) i=(tb x i ^^ tb y i):=by unfold tb; rw[alj,BitVec.getLsbD_xor]
theorem bX (x y:Int) {i:Nat} (hi:i<64):tb (bits .andNot .u64 x y) i=(tb x i &&!tb y i):=by unfold tb; rw[ado,BitVec.getLsbD_and,BitVec.getLsbD_not]; simp[hi]
theorem ed (i:Nat):tb 0 i=false:=by unfold tb; simp
theorem agS {i:Nat} (hi:i<64):tb 18446744073709551615 i=true:=by
 unfold tb
 rw[show BitVec.ofInt 64 18446744073709551615=BitVec.allOnes 64 from by decide,BitVec.getLsbD_allOnes]
 exact decide_eq_true hi
theorem aag {x y:Int} (hx:0≤x∧x≤18446744073709551615) (hy:0≤y∧y≤18446744073709551615):(x==y)=true↔∀i,i<64→tb x i=tb y i:=by
 rw[beq_iff_eq]
 exact⟨fun h i _=>by rw[h],aaf hx hy⟩
theorem je:(0:Int)≤0∧(0:Int)≤18446744073709551615:=by omega
theorem pJ (a:Kn):kmay a=true↔∀i,i<64→(tb a.v i&&tb a.m i)=false:=by
 unfold kmay
 rw[aag (dZ _ _) je]
 simp only[fW,ed]
theorem aK {a:Kn} (ha:a.wf) (x:Int):khas a x=true↔∀i,i<64→(tb a.v i&&tb a.m i)=false∧(tb x i &&!tb a.m i)=tb a.v i:=by
 unfold khas
 rw[Bool.and_eq_true,pJ,aag (cG _ _) ha.1]
 constructor
 ·rintro ⟨h1,h2⟩ i hi
  exact⟨h1 i hi,by have:=h2 i hi; rwa [bX _ _ hi] at this⟩
 ·intro h
  exact⟨fun i hi=>(h i hi).1,fun i hi=>by rw[bX _ _ hi]; exact(h i hi).2⟩
theorem acE (a b:Kn):(ur a b==0)=true↔∀i,i<64→((tb a.v i ^^ tb b.v i) &&!(tb a.m i||tb b.m i))=false:=by
 unfold ur
 rw[aag (cG _ _) je]
 constructor
 ·intro h i hi
  have:=h i hi
  rwa [bX _ _ hi,kZ,gr,ed] at this
 ·intro h i hi
  rw[bX _ _ hi,kZ,gr,ed]; exact h i hi
theorem nI (a b:Kn):dx a b=true↔∀i,i<64→(tb a.v i&&tb a.m i)=false∧(tb b.v i&&tb b.m i)=false∧((tb a.v i ^^ tb b.v i) &&!(tb a.m i||tb b.m i))=false:=by
 unfold dx
 rw[Bool.and_eq_true,Bool.and_eq_true,pJ,pJ,acE]
 exact⟨fun h i hi=>⟨h.1 i hi,h.2.1 i hi,h.2.2 i hi⟩,fun h=>⟨fun i hi=>(h i hi).1,fun i hi=>(h i hi).2.1,fun i hi=>(h i hi).2.2⟩⟩
theorem iT (x:Int):khas kall x=true:=by
 rw[aK gm]
 intro i hi
 show(tb 0 i&&tb 18446744073709551615 i)=false∧(tb x i &&!tb 18446744073709551615 i)=tb 0 i
 rw[ed,agS hi]
 simp
theorem pK {v:Int} (h:0≤v∧v≤18446744073709551615):khas (kone v) v=true:=by
 rw[aK (og h)]
 intro i hi
 show(tb v i&&tb 0 i)=false∧(tb v i &&!tb 0 i)=tb v i
 rw[ed]; simp
theorem uZ {x:Int} (h0:0≤x) (h1:x≤18446744073709551615) {w:Int} (hw:w=32∨w=64) {i:Nat} (hi:i<64):tb (zcut x w) i=(decide ((i:Int)<w)&&tb x i):=by
 rcases hw with rfl | rfl
 ·rw[bP]
  obtain⟨n,rfl⟩:=Int.eq_ofNat_of_zero_le h0
  unfold tb
  rw[show((n:Int) % 4294967296)=((n % 2 ^ 32:Nat):Int) from by omega,BitVec.ofInt_natCast,BitVec.ofInt_natCast,BitVec.getLsbD_ofNat,BitVec.getLsbD_ofNat,Nat.testBit_mod_two_pow]
  have e:decide ((i:Int)<32)=decide (i<32):=by rw[Bool.eq_iff_iff]; simp; omega
  rw[e]
  cases decide (i<64)<;>cases decide (i<32)<;>simp
 ·rw[cn]
  simp[show(i:Int)<64 from by omega]
theorem ak1 {a:Kn} (h:kmay a=true) (w:Int):kcut a w=⟨zcut a.v w,zcut a.m w⟩:=by simp[kcut,h]
theorem kI {a:Kn} {x:Int} (h:khas a x=true):kmay a=true:=by unfold khas at h; rw[Bool.and_eq_true] at h; exact h.1
theorem kJ {a:Kn} (ha:a.wf) {x:Int} (hx:0≤x∧x≤18446744073709551615) (h:khas a x=true) {w:Int} (hw:w=32∨w=64):khas (kcut a w) (zcut x w)=true:=by
 rw[aK (eI ha w),ak1 (kI h)]
 intro i hi
 have:=(aK ha x).1 h i hi
 show(tb (zcut a.v w) i&&tb (zcut a.m w) i)=false∧(tb (zcut x w) i &&!tb (zcut a.m w) i)=tb (zcut a.v w) i
 rw[uZ ha.1.1 ha.1.2 hw hi,uZ ha.2.1 ha.2.2 hw hi,uZ hx.1 hx.2 hw hi]
 revert this
 cases tb a.v i<;>cases tb a.m i<;>cases tb x i<;>cases decide ((i:Int)<w)<;>simp
end Go.Proofs.YtfkhblmeioiciaaGreatDoor
set_option linter.unusedVariables false
set_option linter.unusedSimpArgs false
namespace Go.Proofs.YtfkhblmeioiciaaGreatDoor
open Go.RowKit
theorem acC {a b:Nat} (h:∀j,a.testBit j=true→b.testBit j=true):a≤b:=by
 have:a &&& b=a:=by
  apply Nat.eq_of_testBit_eq
  intro j
  rw[Nat.testBit_and]
  cases ha:a.testBit j
  ·rfl
  ·rw[h j ha]; rfl
 rw[←this]
 exact Nat.and_le_right
def Sub64 (x y:BitVec 64):Prop:=∀i,x.getLsbD i=true→y.getLsbD i=true
theorem Sub64.mod {x y:BitVec 64} (h:Sub64 x y) (i:Nat):x.toNat % 2 ^ i≤y.toNat % 2 ^ i:=by
 apply acC
 intro j hj
 rw[Nat.testBit_mod_two_pow] at hj ⊢
 simp only[Bool.and_eq_true] at hj ⊢
 exact⟨hj.1,h j hj.2⟩
theorem nS {x x' y y':BitVec 64} (hx:Sub64 x x') (hy:Sub64 y y') (i:Nat) (h:BitVec.carry i x y false=true):BitVec.carry i x' y' false=true:=by
 have h1:=hx.mod i
 have h2:=hy.mod i
 simp only[BitVec.carry,decide_eq_true_eq,Bool.toNat_false] at h ⊢
 omega
def bor (i:Nat) (x y:BitVec 64):Bool:=decide (x.toNat % 2 ^ i<y.toNat % 2 ^ i)
theorem kU {x x' y y':BitVec 64} (hx:Sub64 x' x) (hy:Sub64 y y') (i:Nat) (h:bor i x y=true):bor i x' y'=true:=by
 have h1:=hx.mod i
 have h2:=hy.mod i
 simp only[bor,decide_eq_true_eq] at h ⊢
 omega
theorem dy (x y:BitVec 64) {i:Nat} (hi:i<64):(x-y).getLsbD i=(x.getLsbD i ^^ (y.getLsbD i ^^ bor i x y)):=by
 have e:x=(x-y)+y:=by rw[BitVec.sub_add_cancel]
 have h1:=congrArg (fun z=>z.getLsbD i) e
 simp only[BitVec.getLsbD_add hi] at h1
 have hc:BitVec.carry i (x-y) y false=bor i x y:=by
  have hp:0<2 ^ i:=Nat.two_pow_pos i
  have hd:(2:Nat) ^ 64=2 ^ i*2 ^ (64-i):=by rw[←Nat.pow_add]; congr 1; omega
  have ht:(x-y).toNat % 2 ^ i=(x.toNat % 2 ^ i+(2 ^ i-y.toNat % 2 ^ i)) % 2 ^ i:=by
   rw[BitVec.toNat_sub,hd,Nat.mod_mul_right_mod]
   have hy:=y.isLt
   have hq:=Nat.div_add_mod y.toNat (2 ^ i)
   have hq2:y.toNat / 2 ^ i<2 ^ (64-i):=by
    rw[Nat.div_lt_iff_lt_mul hp,Nat.mul_comm,←hd]; exact hy
   obtain⟨k,hk⟩:∃k,2 ^ (64-i)=y.toNat / 2 ^ i+1+k:=⟨2 ^ (64-i)-(y.toNat / 2 ^ i+1),by omega⟩
   have hlt:y.toNat % 2 ^ i<2 ^ i:=Nat.mod_lt _ hp
   have e2:2 ^ i*2 ^ (64-i)-y.toNat=(2 ^ i-y.toNat % 2 ^ i)+2 ^ i*k:=by
    rw[hk,Nat.mul_add,Nat.mul_add,Nat.mul_one]
    omega
   rw[e2]
   have hx:=Nat.div_add_mod x.toNat (2 ^ i)
   rw[show 2 ^ i-y.toNat % 2 ^ i+2 ^ i*k+x.toNat=(x.toNat % 2 ^ i+(2 ^ i-y.toNat % 2 ^ i))+2 ^ i*(k+x.toNat / 2 ^ i) from by rw[Nat.mul_add]; omega]
   rw[Nat.add_mul_mod_self_left]
  have hxl:x.toNat % 2 ^ i<2 ^ i:=Nat.mod_lt _ hp
  have hyl:y.toNat % 2 ^ i<2 ^ i:=Nat.mod_lt _ hp
  simp only[BitVec.carry,bor,ht,Bool.toNat_false]
  generalize 2 ^ i=d at *
  generalize x.toNat % d=r at *
  generalize y.toNat % d=s at *
  rw[decide_eq_decide]
  by_cases hrs:r<s
  ·rw[Nat.mod_eq_of_lt (by omega)]; omega
  ·rw[show r+(d-s)=(r-s)+d from by omega,Nat.add_mod_right,Nat.mod_eq_of_lt (by omega)]; omega
 rw[hc] at h1
 rw[h1]
 cases(x-y).getLsbD i<;>cases y.getLsbD i<;>cases bor i x y<;>rfl
def Among (V M p:BitVec 64):Prop:=∀i,i<64→(V.getLsbD i&&M.getLsbD i)=false∧(p.getLsbD i &&!M.getLsbD i)=V.getLsbD i
theorem Among.low {V M p:BitVec 64} (h:Among V M p):Sub64 V p:=by
 intro i hi
 have hl:=BitVec.lt_of_getLsbD hi
 have:=h i hl
 revert this
 rw[hi]
 cases M.getLsbD i<;>cases p.getLsbD i<;>simp
theorem Among.high {V M p:BitVec 64} (h:Among V M p):Sub64 p (V ||| M):=by
 intro i hi
 have hl:=BitVec.lt_of_getLsbD hi
 have:=h i hl
 revert this
 rw[BitVec.getLsbD_or,hi]
 cases M.getLsbD i<;>cases V.getLsbD i<;>simp
theorem Among.at {V M p:BitVec 64} (h:Among V M p) {i:Nat} (hi:i<64) (hm:M.getLsbD i=false):p.getLsbD i=V.getLsbD i:=by
 have:=(h i hi).2
 rw[hm] at this
 simpa using this
theorem Among.or {V M p:BitVec 64} (h:Among V M p):V+M=V ||| M:=by
 apply BitVec.add_eq_or_of_and_eq_zero
 apply BitVec.eq_of_getLsbD_eq
 intro i hi
 rw[BitVec.getLsbD_and,(h i hi).1]; simp
theorem ajG {V M p W N q:BitVec 64} (h1:Among V M p) (h2:Among W N q) {i:Nat} (hi:i<64) (hm:M.getLsbD i=false) (hn:N.getLsbD i=false) (he:(M+N+(V+W)).getLsbD i=(V+W).getLsbD i):
  (p+q).getLsbD i=(V+W).getLsbD i:=by
 have e:M+N+(V+W)=(V ||| M)+(W ||| N):=by rw[←h1.or,←h2.or]; ac_rfl
 rw[e,BitVec.getLsbD_add hi,BitVec.getLsbD_add hi,BitVec.getLsbD_or,BitVec.getLsbD_or,hm,hn,Bool.or_false,Bool.or_false] at he
 have m1:=nS h1.low h2.low i
 have m2:=nS h1.high h2.high i
 rw[BitVec.getLsbD_add hi,BitVec.getLsbD_add hi,h1.at hi hm,h2.at hi hn]
 revert he m1 m2
 cases BitVec.carry i V W false<;>cases BitVec.carry i p q false<;>cases BitVec.carry i (V ||| M) (W ||| N) false<;>cases V.getLsbD i<;>cases W.getLsbD i<;>simp
theorem agV {V M p W N q:BitVec 64} (h1:Among V M p) (h2:Among W N q) {i:Nat} (hi:i<64) (hm:M.getLsbD i=false) (hn:N.getLsbD i=false) (he:(V-W+M).getLsbD i=(V-W-N).getLsbD i):
  (p-q).getLsbD i=(V-W).getLsbD i:=by
 have e1:V-W+M=(V ||| M)-W:=by rw[←h1.or]; simp only[BitVec.sub_eq_add_neg]; ac_rfl
 have e2:V-W-N=V-(W ||| N):=by rw[←h2.or]; simp only[BitVec.sub_eq_add_neg,BitVec.neg_add]; ac_rfl
 rw[e1,e2,dy _ _ hi,dy _ _ hi,BitVec.getLsbD_or,BitVec.getLsbD_or,hm,hn,Bool.or_false,Bool.or_false] at he
 have m1:=kU (x:=V ||| M) (x':=p) (y:=W) (y':=q) h1.high h2.low i
 have m2:=kU (x:=p) (x':=V) (y:=q) (y':=W ||| N) h1.low h2.high i
 have m3:=kU (x:=V ||| M) (x':=V) (y:=W) (y':=W) (fun j hj=>by rw[BitVec.getLsbD_or,hj]; rfl) (fun _ h=>h) i
 have m4:=kU (x:=V) (x':=V) (y:=W) (y':=W ||| N) (fun _ h=>h) (fun j hj=>by rw[BitVec.getLsbD_or,hj]; rfl) i
 rw[dy _ _ hi,dy _ _ hi,h1.at hi hm,h2.at hi hn]
 revert he m1 m2 m3 m4
 cases bor i V W<;>cases bor i p q<;>cases bor i (V ||| M) W<;>cases bor i V (W ||| N)<;>cases V.getLsbD i<;>cases W.getLsbD i<;>simp
theorem jd {a:Kn} (ha:a.wf) {x:Int} (h:khas a x=true):Among (BitVec.ofInt 64 a.v) (BitVec.ofInt 64 a.m) (BitVec.ofInt 64 x):=(aK ha x).1 h
theorem aje {a b:Kn} (ha:a.wf) (hb:b.wf) {p q:Int} (hp:khas a p=true) (hq:khas b q=true) {i:Nat} (hi:i<64) (hm:tb (kadd a b).m i=false):
  tb a.m i=false∧tb b.m i=false∧tb (p+q) i=tb (a.v+b.v) i:=by
 have hm':tb (bits .or .u64 (bits .or .u64 (bits .xor .u64 (IntKind.u64.wrap (a.v+b.v)) (IntKind.u64.wrap (IntKind.u64.wrap (a.m+b.m)+IntKind.u64.wrap (a.v+b.v)))) a.m) b.m) i=false:=hm
 rw[gr,gr,kZ] at hm'
 simp only[Bool.or_eq_false_iff] at hm'
 obtain⟨⟨h1,h2⟩,h3⟩:=hm'
 refine⟨h2,h3,?_⟩
 have:=ajG (jd ha hp) (jd hb hq) hi h2 h3 (by
  unfold tb at h1
  rw[bm,bm,BitVec.ofInt_add,BitVec.ofInt_add,bm,bm,BitVec.ofInt_add,BitVec.ofInt_add] at h1
  revert h1
  cases(BitVec.ofInt 64 a.m+BitVec.ofInt 64 b.m+(BitVec.ofInt 64 a.v+BitVec.ofInt 64 b.v)).getLsbD i<;>cases(BitVec.ofInt 64 a.v+BitVec.ofInt 64 b.v).getLsbD i<;>simp)
 unfold tb
 rw[BitVec.ofInt_add,BitVec.ofInt_add]
 exact this
theorem xm (x y:Int):BitVec.ofInt 64 (x-y)=BitVec.ofInt 64 x-BitVec.ofInt 64 y:=by
 rw[Int.sub_eq_add_neg,BitVec.ofInt_add,BitVec.ofInt_neg,BitVec.sub_eq_add_neg]
theorem acD {a b:Kn} (ha:a.wf) (hb:b.wf) {p q:Int} (hp:khas a p=true) (hq:khas b q=true) {i:Nat} (hi:i<64) (hm:tb (ksub a b).m i=false):
  tb a.m i=false∧tb b.m i=false∧tb (p-q) i=tb (a.v-b.v) i:=by
 have hm':tb (bits .or .u64 (bits .or .u64 (bits .xor .u64 (IntKind.u64.wrap (IntKind.u64.wrap (a.v-b.v)+a.m)) (IntKind.u64.wrap (IntKind.u64.wrap (a.v-b.v)-b.m))) a.m) b.m) i=false:=hm
 rw[gr,gr,kZ] at hm'
 simp only[Bool.or_eq_false_iff] at hm'
 obtain⟨⟨h1,h2⟩,h3⟩:=hm'
 refine⟨h2,h3,?_⟩
 have:=agV (jd ha hp) (jd hb hq) hi h2 h3 (by
  unfold tb at h1
  rw[bm,bm,BitVec.ofInt_add,xm,bm,xm] at h1
  revert h1
  cases(BitVec.ofInt 64 a.v-BitVec.ofInt 64 b.v+BitVec.ofInt 64 a.m).getLsbD i<;>cases(BitVec.ofInt 64 a.v-BitVec.ofInt 64 b.v-BitVec.ofInt 64 b.m).getLsbD i<;>simp)
 unfold tb
 rw[xm,xm]
 exact this
end Go.Proofs.YtfkhblmeioiciaaGreatDoor
set_option linter.unusedVariables false
set_option linter.unusedSimpArgs false
namespace Go.Proofs.YtfkhblmeioiciaaGreatDoor
open Go.RowKit
theorem dh {v m r:Int} (hm:0≤m∧m≤18446744073709551615):khas (gP v m) r=true↔∀i,i<64→tb m i=false→tb r i=tb v i:=by
 rw[aK (dp hm)]
 constructor
 ·intro h i hi h0
  have h1:(tb r i &&!tb m i)=tb (bits .andNot .u64 v m) i:=(h i hi).2
  rw[bX _ _ hi,h0] at h1
  simpa using h1
 ·intro h i hi
  show(tb (bits .andNot .u64 v m) i&&tb m i)=false∧(tb r i &&!tb m i)=tb (bits .andNot .u64 v m) i
  rw[bX _ _ hi]
  have:=h i hi
  revert this
  cases tb v i<;>cases tb m i<;>cases tb r i<;>simp
theorem eA (n:Nat) {i:Nat} (hi:i<64):tb (n:Int) i=n.testBit i:=by
 unfold tb
 rw[BitVec.ofInt_natCast,BitVec.getLsbD_ofNat]
 simp[hi]
def src (op w:Int) (s i:Nat):Option Nat:=
 if op=6 then(if(i:Int)<w∧s≤i then some (i-s) else none)
 else if op=7 then(if((i+s:Nat):Int)<w then some (i+s) else none)
 else(if(i:Int)<w then some (if((i+s:Nat):Int)<w then i+s else(w-1).toNat) else none)
theorem src6 (w:Int) (s i:Nat):src 6 w s i=if(i:Int)<w∧s≤i then some (i-s) else none:=by unfold src; rw[if_pos rfl]
theorem src7 (w:Int) (s i:Nat):src 7 w s i=if((i+s:Nat):Int)<w then some (i+s) else none:=by unfold src; rw[if_neg (by decide),if_pos rfl]
theorem alK (w:Int) (s i:Nat):src 12 w s i=if(i:Int)<w then some (if((i+s:Nat):Int)<w then i+s else(w-1).toNat) else none:=by unfold src; rw[if_neg (by decide),if_neg (by decide)]
def mR (x:Int):Option Nat→Bool
 | some j=>tb x j
 | none=>false
theorem pG (n:Nat) (hn:n<2 ^ 64) (w:Int) (hw:w=32∨w=64):∃m:Nat,zcut (n:Int) w=(m:Int)∧m<2 ^ 64∧∀i,m.testBit i=(decide ((i:Int)<w)&&n.testBit i):=by
 rcases hw with rfl | rfl
 ·refine⟨n % 2 ^ 32,by rw[bP]; omega,by omega,fun i=> ?_⟩
  rw[Nat.testBit_mod_two_pow]
  congr 1
  rw[decide_eq_decide]; omega
 ·refine⟨n,by rw[cn],hn,fun i=> ?_⟩
  by_cases hi:i<64
  ·simp[show(i:Int)<64 from by omega]
  ·rw[Nat.testBit_lt_two_pow (Nat.lt_of_lt_of_le hn (Nat.pow_le_pow_right (by omega) (by omega)))]; simp
theorem ag3 (x:Int) (h0:0≤x) (h1:x≤18446744073709551615) (w:Int) (hw:w=32∨w=64) (s:Nat) (hs:(s:Int)<w) {i:Nat} (hi:i<64):
  tb (zcut ((zcut x w*2 ^ s) % 18446744073709551616) w) i=mR x (src 6 w s i):=by
 obtain⟨n,rfl⟩:=Int.eq_ofNat_of_zero_le h0
 obtain⟨m,hm,hml,hmb⟩:=pG n (by omega) w hw
 have e:((m:Int)*2 ^ s) % 18446744073709551616=(((m*2 ^ s) % 2 ^ 64:Nat):Int):=by
  rw[show((2:Int) ^ s)=((2 ^ s:Nat):Int) from by simp,←Int.natCast_mul]; omega
 rw[hm,e]
 obtain⟨m2,hm2,_,hmb2⟩:=pG ((m*2 ^ s) % 2 ^ 64) (Nat.mod_lt _ (by decide)) w hw
 rw[hm2,eA _ hi,hmb2,Nat.testBit_mod_two_pow,show m*2 ^ s=m <<< s from(Nat.shiftLeft_eq m s).symm,Nat.testBit_shiftLeft,hmb]
 rw[src6]
 simp only[hi,decide_true,Bool.true_and]
 by_cases hl:(i:Int)<w
 ·by_cases hsi:s≤i
  ·have h2:((i-s:Nat):Int)<w:=by omega
   rw[if_pos ⟨hl,hsi⟩]
   simp only[hl,hsi,h2,decide_true,Bool.true_and,mR,ge_iff_le]
   rw[eA _ (by omega)]
  ·rw[if_neg (fun h=>hsi h.2)]
   simp[hsi,mR]
 ·rw[if_neg (fun h=>hl h.1)]
  simp[hl,mR]
theorem ag2 (x:Int) (h0:0≤x) (h1:x≤18446744073709551615) (w:Int) (hw:w=32∨w=64) (s:Nat) (hs:(s:Int)<w) {i:Nat} (hi:i<64):
  tb (zcut (zcut x w / 2 ^ s) w) i=mR x (src 7 w s i):=by
 obtain⟨n,rfl⟩:=Int.eq_ofNat_of_zero_le h0
 obtain⟨m,hm,hml,hmb⟩:=pG n (by omega) w hw
 have e:(m:Int) / 2 ^ s=((m / 2 ^ s:Nat):Int):=by
  rw[show((2:Int) ^ s)=((2 ^ s:Nat):Int) from by simp,←Int.natCast_ediv]
 rw[hm,e]
 have hle:m / 2 ^ s≤m:=Nat.div_le_self _ _
 obtain⟨m2,hm2,_,hmb2⟩:=pG (m / 2 ^ s) (by omega) w hw
 rw[hm2,eA _ hi,hmb2,←Nat.shiftRight_eq_div_pow,Nat.testBit_shiftRight,hmb]
 rw[src7]
 by_cases hl:((i+s:Nat):Int)<w
 ·have h2:(i:Int)<w:=by omega
  have h3:((s+i:Nat):Int)<w:=by omega
  rw[if_pos hl]
  simp only[h2,h3,decide_true,Bool.true_and,mR]
  rw[eA _ (by omega),Nat.add_comm]
 ·have h3:¬((s+i:Nat):Int)<w:=by omega
  rw[if_neg hl]
  simp only[h3,decide_false,Bool.false_and,Bool.and_false,mR]
theorem aaE (x:Int) (h0:0≤x) (h1:x≤18446744073709551615) (w:Int) (hw:w=32∨w=64):(0≤dz (zcut x w) w∧dz (zcut x w) w≤18446744073709551615)∧∀j,j<64→tb (dz (zcut x w) w) j=tb x (if(j:Int)<w then j else(w-1).toNat):=by
 rcases hw with rfl | rfl
 ·obtain⟨n,rfl⟩:=Int.eq_ofNat_of_zero_le h0
  have hz:dz (zcut (n:Int) 32) 32=(((if n % 2 ^ 32<2 ^ 31 then n % 2 ^ 32 else 2 ^ 32*(2 ^ 32-1)+n % 2 ^ 32):Nat):Int):=by
   rw[bP]
   unfold dz zsgn
   rw[if_neg (by decide),if_neg (by decide),if_pos rfl]
   by_cases hc:n % 2 ^ 32<2 ^ 31
   ·rw[if_pos hc,if_pos (by omega)]; omega
   ·rw[if_neg hc,if_neg (by omega)]; omega
  refine⟨by rw[hz]; split<;>omega,fun j hj=> ?_⟩
  rw[hz,eA _ hj]
  have hb:(n % 2 ^ 32).testBit 31=decide (2 ^ 31≤n % 2 ^ 32):=by
   rw[Nat.testBit_eq_decide_div_mod_eq,decide_eq_decide]; omega
  by_cases hc:n % 2 ^ 32<2 ^ 31
  ·rw[if_pos hc,Nat.testBit_mod_two_pow]
   by_cases hl:(j:Int)<32
   ·rw[if_pos hl,eA _ hj]; simp[show j<32 from by omega]
   ·rw[if_neg hl,eA _ (by decide)]
    have h31:n.testBit 31=false:=by
     have:=Nat.testBit_mod_two_pow n 32 31
     rw[hb] at this
     simp at this
     have h2:¬2 ^ 31≤n % 2 ^ 32:=by omega
     simpa[h2] using this.symm
    simp[show¬j<32 from by omega,h31]
  ·rw[if_neg hc,Nat.testBit_two_pow_mul_add _ (Nat.mod_lt _ (by decide))]
   by_cases hl:(j:Int)<32
   ·rw[if_pos hl,if_pos (by omega),Nat.testBit_mod_two_pow,eA _ hj]; simp[show j<32 from by omega]
   ·rw[if_neg hl,if_neg (by omega),eA _ (by decide),Nat.testBit_two_pow_sub_one]
    have h31:n.testBit 31=true:=by
     have:=Nat.testBit_mod_two_pow n 32 31
     rw[hb] at this
     have h2:2 ^ 31≤n % 2 ^ 32:=by omega
     simpa[h2] using this.symm
    rw[show(32-1:Int).toNat=31 from rfl,h31]
    exact decide_eq_true (by omega)
 ·rw[cn]
  have hz:dz x 64=x:=by simp[dz]
  rw[hz]
  exact⟨⟨h0,h1⟩,fun j hj=>by rw[if_pos (by omega)]⟩
theorem adZ (x:Int) (h0:0≤x) (h1:x≤18446744073709551615) (w:Int) (hw:w=32∨w=64) (s:Nat) (hs:(s:Int)<w) {i:Nat} (hi:i<64):
  tb (zcut ((wrap64 (dz (zcut x w) w) / 2 ^ s) % 18446744073709551616) w) i=mR x (src 12 w s i):=by
 obtain⟨⟨z0,z1⟩,hb⟩:=aaE x h0 h1 w hw
 have hwl:w≤64:=by omega
 rw[uZ (by omega) (by omega) hw hi]
 have e1:wrap64 (dz (zcut x w) w)=(BitVec.ofInt 64 (dz (zcut x w) w)).toInt:=by
  rw[BitVec.toInt_ofInt,w_64,Int.bmod_def]
  simp only[Nat.reducePow]
  split<;>omega
 have e2:tb ((wrap64 (dz (zcut x w) w) / 2 ^ s) % 18446744073709551616) i=((BitVec.ofInt 64 (dz (zcut x w) w)).sshiftRight s).getLsbD i:=by
  unfold tb
  have:BitVec.ofInt 64 ((wrap64 (dz (zcut x w) w) / 2 ^ s) % 18446744073709551616)=(BitVec.ofInt 64 (dz (zcut x w) w)).sshiftRight s:=by
   rw[show∀z:Int,BitVec.ofInt 64 (z % 18446744073709551616)=BitVec.ofInt 64 z from fun z=>by rw[←cr,bm],e1]
   rw[BitVec.sshiftRight,Int.shiftRight_eq_div_pow]
   simp
  rw[this]
 rw[e2,BitVec.getLsbD_sshiftRight]
 rw[alK]
 have hn:¬64≤i:=by omega
 by_cases hl:(i:Int)<w
 ·rw[if_pos hl]
  simp only[hl,hn,decide_true,decide_false,Bool.not_false,Bool.true_and,mR]
  by_cases h2:((i+s:Nat):Int)<w
  ·rw[if_pos h2,if_pos (by omega)]
   have:=hb (s+i) (by omega)
   rw[if_pos (by omega)] at this
   rw[Nat.add_comm i s]
   exact this
  ·rw[if_neg h2]
   by_cases h3:s+i<64
   ·rw[if_pos h3]
    have:=hb (s+i) h3
    rwa [if_neg (by omega)] at this
   ·rw[if_neg h3,BitVec.msb_eq_getLsbD_last]
    have:=hb 63 (by decide)
    rw[show 64-1=63 from rfl]
    rw[show(BitVec.ofInt 64 (dz (zcut x w) w)).getLsbD 63=tb (dz (zcut x w) w) 63 from rfl,this]
    rcases hw with rfl | rfl
    ·rfl
    ·rfl
 ·rw[if_neg hl]
  simp[hl,mR]
theorem aaI {op w:Int} (hop:op=6∨op=7∨op=12) (hw:w=32∨w=64) {x q:Int} (h0:0≤x) (h1:x≤18446744073709551615) {s:Nat} (hs:(s:Int)<w) (hq:zcut q w % w=s) {i:Nat} (hi:i<64):
  tb (zdo op w x q) i=mR x (src op w s i):=by
 unfold zdo
 rw[hq]
 rcases hop with rfl | rfl | rfl
 ·have e:zop 6 w (zcut x w) (zcut q w) s=(zcut x w*2 ^ s) % 18446744073709551616:=by simp[zop]
  rw[e]; exact ag3 x h0 h1 w hw s hs hi
 ·have e:zop 7 w (zcut x w) (zcut q w) s=zcut x w / 2 ^ s:=by simp[zop]
  rw[e]; exact ag2 x h0 h1 w hw s hs hi
 ·have e:zop 12 w (zcut x w) (zcut q w) s=(wrap64 (dz (zcut x w) w) / 2 ^ s) % 18446744073709551616:=by simp[zop]
  rw[e]; exact adZ x h0 h1 w hw s hs hi
theorem ajQ {op w:Int} (hw:w=32∨w=64) {s i j:Nat} (h:src op w s i=some j):j<64:=by
 unfold src at h
 repeat' split at h
 all_goals (simp at h; try omega)
end Go.Proofs.YtfkhblmeioiciaaGreatDoor
set_option linter.unusedVariables false
set_option linter.unusedSimpArgs false
namespace Go.Proofs.YtfkhblmeioiciaaGreatDoor
open Go.RowKit
theorem nY {op w:Int} (a b:Int) (hw:w=32∨w=64):zcut (zdo op w a b) w=zdo op w a b:=adE op w a b
theorem ae9 {w:Int} (hw:w=32∨w=64) {x:Int} (h0:0≤x) (h1:x≤18446744073709551615):bits .and .u64 x (w-1)=x % w:=by
 rcases hw with rfl | rfl
 ·exact ajA x h0 h1
 ·exact ajz x h0 h1
theorem ade {w:Int} (hw:w=32∨w=64) (x:Int):zcut x w % w=x % w:=by
 rcases hw with rfl | rfl
 ·rw[bP]; omega
 ·rw[cn]
theorem acy {b:Kn} (hb:b.wf) {q:Int} (hq:khas b q=true) (q0:0≤q) (q1:q≤18446744073709551615) {w:Int} (hw:w=32∨w=64) (hk:(bits .and .u64 b.m (w-1)==0)=true):
  bits .and .u64 b.v (w-1)=q % w:=by
 rw[←ae9 hw q0 q1]
 apply aaf (dZ _ _) (dZ _ _)
 intro i hi
 have h1:=(aK hb q).1 hq i hi
 have h2:=(aag (dZ _ _) je).1 hk i hi
 rw[fW,ed] at h2
 rw[fW,fW]
 revert h1 h2
 cases tb b.v i<;>cases tb b.m i<;>cases tb q i<;>cases tb (w-1) i<;>simp
theorem aiG {w:Int} (hw:w=32∨w=64) (q:Int):∃s:Nat,q % w=s∧(s:Int)<w:=by
 have h:0≤q % w∧q % w<w:=by rcases hw with rfl | rfl<;>omega
 exact⟨(q % w).toNat,by omega,by omega⟩
theorem lb {op w:Int} (hw:w=32∨w=64) {a b:Kn} (ha:a.wf) (hb:b.wf) {p q:Int} (p0:0≤p∧p≤18446744073709551615) (q0:0≤q∧q≤18446744073709551615) (hop:op=6∨op=7∨op=12)
  (key:∀r:Int,(0≤r∧r≤18446744073709551615)→khas (kop op w a b) r=true→zcut r w=zdo op w p q→khas (kcut (kop op w a b) w) (zdo op w p q)=true) (hp:khas a p=true) (hq:khas b q=true):
  khas (kcut (kop op w a b) w) (zdo op w p q)=true:=by
 refine key (zdo op w p q) (cJ _ _ _ _ p0.1 p0.2 q0.1 q0.2) ?_ (nY _ _ hw)
 by_cases hk:(bits .and .u64 b.m (w-1)==0)=true
 ·have e:kop op w a b=wN op w a b:=by
   unfold kop
   rcases hop with rfl | rfl | rfl<;>simp only[show¬(6:Int)=0 from by decide,show¬(6:Int)=1 from by decide,show¬(6:Int)=4 from by decide,show¬(6:Int)=5 from by decide,show¬(7:Int)=0 from by decide,show¬(7:Int)=1 from by decide,show¬(7:Int)=4 from by decide,show¬(7:Int)=5 from by decide,show¬(12:Int)=0 from by decide,show¬(12:Int)=1 from by decide,show¬(12:Int)=4 from by decide,show¬(12:Int)=5 from by decide,if_false,if_pos hk,true_or,or_true,if_true]
  rw[e]
  unfold wN
  have hs:=dZ b.v (w-1)
  rw[dh (cJ _ _ _ _ ha.2.1 ha.2.2 hs.1 hs.2)]
  obtain⟨s,hsq,hsw⟩:=aiG hw q
  have hl:=acy hb hq q0.1 q0.2 hw hk
  have hmod:zcut (bits .and .u64 b.v (w-1)) w % w=s:=by rw[ade hw,hl,hsq]; exact Int.emod_eq_of_lt (by omega) hsw
  have hmq:zcut q w % w=s:=by rw[ade hw,hsq]
  intro i hi hm
  rw[aaI hop hw ha.2.1 ha.2.2 hsw hmod hi] at hm
  rw[aaI hop hw p0.1 p0.2 hsw hmq hi,aaI hop hw ha.1.1 ha.1.2 hsw hmod hi]
  cases hsrc:src op w s i with
  | none=>rfl
  | some j=>
    rw[hsrc] at hm
    have hj:=ajQ hw hsrc
    have h1:=((aK ha p).1 hp j hj).2
    have h2:tb a.m j=false:=hm
    rw[h2] at h1
    have h3:tb p j=tb a.v j:=by simpa using h1
    exact h3
 ·have e:kop op w a b=kall:=by
   unfold kop
   rcases hop with rfl | rfl | rfl<;>simp only[show¬(6:Int)=0 from by decide,show¬(6:Int)=1 from by decide,show¬(6:Int)=4 from by decide,show¬(6:Int)=5 from by decide,show¬(7:Int)=0 from by decide,show¬(7:Int)=1 from by decide,show¬(7:Int)=4 from by decide,show¬(7:Int)=5 from by decide,show¬(12:Int)=0 from by decide,show¬(12:Int)=1 from by decide,show¬(12:Int)=4 from by decide,show¬(12:Int)=5 from by decide,if_false,if_neg hk,true_or,or_true,if_true]
  rw[e]; exact iT _
theorem ajd {op w:Int} (h0:0≤op) (h12:op≤12) (hw:w=32∨w=64) {a b:Kn} (ha:a.wf) (hb:b.wf) {p q:Int} (hp:khas a p=true) (hq:khas b q=true)
  (p0:0≤p∧p≤18446744073709551615) (q0:0≤q∧q≤18446744073709551615) (pc:zcut p w=p) (qc:zcut q w=q):
  khas (kcut (kop op w a b) w) (zdo op w p q)=true:=by
 have hwf:=afJ ha hb op w
 have key:∀r:Int,(0≤r∧r≤18446744073709551615)→khas (kop op w a b) r=true→zcut r w=zdo op w p q→khas (kcut (kop op w a b) w) (zdo op w p q)=true:=fun r hr h e=>by
  rw[←e]; exact kJ hwf hr h hw
 have hz:zdo op w p q=zcut (zop op w p q (q % w)) w:=by unfold zdo; rw[pc,qc]
 rcases wt h0 h12 with rfl | rfl | rfl | rfl | rfl | rfl | rfl | rfl | rfl | rfl | rfl | rfl | rfl
 ·
  refine key ((p+q) % 18446744073709551616) (by omega) ?_ (by rw[hz]; simp[zop])
  have e:kop 0 w a b=kadd a b:=by simp[kop]
  rw[e]
  unfold kadd
  rw[dh (iM _ _)]
  intro i hi hm
  obtain⟨_,_,h⟩:=aje ha hb hp hq hi hm
  have e1:tb ((p+q) % 18446744073709551616) i=tb (p+q) i:=by unfold tb; rw[←cr,bm]
  have e2:tb (IntKind.u64.wrap (a.v+b.v)) i=tb (a.v+b.v) i:=by unfold tb; rw[bm]
  rw[e1,e2,h]
 ·
  refine key ((p-q) % 18446744073709551616) (by omega) ?_ (by rw[hz]; simp[zop])
  have e:kop 1 w a b=ksub a b:=by simp[kop]
  rw[e]
  unfold ksub
  rw[dh (iM _ _)]
  intro i hi hm
  obtain⟨_,_,h⟩:=acD ha hb hp hq hi hm
  have e1:tb ((p-q) % 18446744073709551616) i=tb (p-q) i:=by unfold tb; rw[←cr,bm]
  have e2:tb (IntKind.u64.wrap (a.v-b.v)) i=tb (a.v-b.v) i:=by unfold tb; rw[bm]
  rw[e1,e2,h]
 ·have e:kop 2 w a b=kall:=by simp[kop]
  refine key (zdo 2 w p q) (cJ _ _ _ _ p0.1 p0.2 q0.1 q0.2) (by rw[e]; exact iT _) (nY _ _ hw)
 ·have e:kop 3 w a b=kall:=by simp[kop]
  refine key (zdo 3 w p q) (cJ _ _ _ _ p0.1 p0.2 q0.1 q0.2) (by rw[e]; exact iT _) (nY _ _ hw)
 ·
  have e:kop 4 w a b=kor a b:=by simp[kop]
  refine key (bits .or .u64 p q) (iM _ _) ?_ (by rw[hz,u64_or _ _ p0.1 (by omega) q0.1 (by omega)]; simp[zop])
  rw[e,aK ⟨iM _ _,cG _ _⟩]
  intro i hi
  have h1:=(aK ha p).1 hp i hi
  have h2:=(aK hb q).1 hq i hi
  show(tb (bits .or .u64 a.v b.v) i&&tb (bits .andNot .u64 (bits .or .u64 a.m b.m) (bits .or .u64 a.v b.v)) i)=false∧(tb (bits .or .u64 p q) i &&!tb (bits .andNot .u64 (bits .or .u64 a.m b.m) (bits .or .u64 a.v b.v)) i)=tb (bits .or .u64 a.v b.v) i
  rw[bX _ _ hi,gr,gr,gr]
  revert h1 h2
  cases tb a.v i<;>cases tb a.m i<;>cases tb b.v i<;>cases tb b.m i<;>cases tb p i<;>cases tb q i<;>simp
 ·
  have e:kop 5 w a b=kand a b:=by simp[kop]
  refine key (bits .and .u64 p q) (dZ _ _) ?_ (by rw[hz,u64_and _ _ p0.1 (by omega) q0.1 (by omega)]; simp[zop])
  rw[e,aK ⟨dZ _ _,cG _ _⟩]
  intro i hi
  have h1:=(aK ha p).1 hp i hi
  have h2:=(aK hb q).1 hq i hi
  show(tb (bits .and .u64 a.v b.v) i&&tb (bits .andNot .u64 (bits .and .u64 (bits .or .u64 a.v a.m) (bits .or .u64 b.v b.m)) (bits .and .u64 a.v b.v)) i)=false∧(tb (bits .and .u64 p q) i &&!tb (bits .andNot .u64 (bits .and .u64 (bits .or .u64 a.v a.m) (bits .or .u64 b.v b.m)) (bits .and .u64 a.v b.v)) i)=tb (bits .and .u64 a.v b.v) i
  rw[bX _ _ hi,fW,fW,fW,gr,gr]
  revert h1 h2
  cases tb a.v i<;>cases tb a.m i<;>cases tb b.v i<;>cases tb b.m i<;>cases tb p i<;>cases tb q i<;>simp
 ·exact lb hw ha hb p0 q0 (.inl rfl) key hp hq
 ·exact lb hw ha hb p0 q0 (.inr (.inl rfl)) key hp hq
 ·
  have e:kop 8 w a b=ksub (kone 0) a:=by simp[kop]
  refine key ((0-p) % 18446744073709551616) (by omega) ?_ (by rw[hz]; simp[zop])
  rw[e]
  unfold ksub
  rw[dh (iM _ _)]
  intro i hi hm
  obtain⟨_,_,h⟩:=acD (og je) ha (pK je) hp hi hm
  have e1:tb ((0-p) % 18446744073709551616) i=tb (0-p) i:=by unfold tb; rw[←cr,bm]
  have e2:tb (IntKind.u64.wrap ((kone 0).v-a.v)) i=tb ((kone 0).v-a.v) i:=by unfold tb; rw[bm]
  rw[e1,e2,h]
 ·have e:kop 9 w a b=kall:=by simp[kop]
  refine key (zdo 9 w p q) (cJ _ _ _ _ p0.1 p0.2 q0.1 q0.2) (by rw[e]; exact iT _) (nY _ _ hw)
 ·
  have e:kop 10 w a b=kxor a b:=by simp[kop]
  refine key (bits .xor .u64 p q) (mZ _ _) ?_ (by rw[hz,u64_xor _ _ p0.1 (by omega) q0.1 (by omega)]; simp[zop])
  rw[e]
  unfold kxor
  rw[dh (iM _ _)]
  intro i hi hm
  have h1:=(aK ha p).1 hp i hi
  have h2:=(aK hb q).1 hq i hi
  rw[gr] at hm
  rw[kZ,kZ]
  revert h1 h2 hm
  cases tb a.v i<;>cases tb a.m i<;>cases tb b.v i<;>cases tb b.m i<;>cases tb p i<;>cases tb q i<;>simp
 ·have e:kop 11 w a b=b:=by simp[kop]
  refine key q q0 (by rw[e]; exact hq) (by rw[hz]; simp[zop])
 ·exact lb hw ha hb p0 q0 (.inr (.inr rfl)) key hp hq
theorem qO {a:Kn} (ha:a.wf) {p:Int} (hp:khas a p=true) (p0:0≤p∧p≤18446744073709551615) (hm:a.m=0):a.v=p:=by
 apply aaf ha.1 p0
 intro i hi
 have h:=((aK ha p).1 hp i hi).2
 rw[hm,ed] at h
 simpa using h.symm
theorem afd {op w:Int} {a b:Kn} (h1:kmay a=true) (h2:kmay b=true) (h3:0≤op) (h4:op≤12) (h5:w=32∨w=64):eF op w a b=true:=by
 have:gY w=true:=by rcases h5 with rfl | rfl<;>rfl
 simp[eF,h1,h2,h3,h4,this]
theorem acK {op w:Int} (h0:0≤op) (h12:op≤12) (hw:w=32∨w=64) {a b:Kn} (ha:a.wf) (hb:b.wf) {p q:Int} (hp:khas a p=true) (hq:khas b q=true)
  (p0:0≤p∧p≤18446744073709551615) (q0:0≤q∧q≤18446744073709551615):khas (kdo op w a b) (zdo op w p q)=true:=by
 have hA:=kJ ha p0 hp hw
 have hB:=kJ hb q0 hq hw
 have hP:=cm p w p0.1 p0.2
 have hQ:=cm q w q0.1 q0.2
 have wA:=eI ha w
 have wB:=eI hb w
 rw[←uR,kdo,if_pos (afd (kI hp) (kI hq) h0 h12 hw)]
 split
 ·rename_i hm
  rw[aiJ wA.2.1 wA.2.2 wB.2.1 wB.2.2,Bool.and_eq_true,beq_iff_eq,beq_iff_eq] at hm
  rw[qO wA hA hP hm.1,qO wB hB hQ hm.2]
  exact pK (cJ _ _ _ _ hP.1 hP.2 hQ.1 hQ.2)
 ·exact ajd h0 h12 hw wA wB hA hB hP hQ (eG _ _) (eG _ _)
end Go.Proofs.YtfkhblmeioiciaaGreatDoor
set_option linter.unusedVariables false
set_option linter.unusedSimpArgs false
namespace Go.Proofs.YtfkhblmeioiciaaGreatDoor
open Go.RowKit
theorem acH {a b:Kn} (ha:a.wf) (hb:b.wf) (h:dx a b=true) (z:Int):khas (jJ a b) z=(khas a z&&khas b z):=by
 have hm:=(nI a b).1 h
 rw[Bool.eq_iff_iff,Bool.and_eq_true,aK ha,aK hb]
 have e:jJ a b=gP (bits .or .u64 a.v b.v) (bits .and .u64 a.m b.m):=by simp[jJ,h]
 rw[e,dh (dZ _ _)]
 constructor
 ·intro g
  constructor
  ·intro i hi
   have g1:=g i hi
   have g2:=hm i hi
   rw[fW,gr] at g1
   revert g1 g2
   cases tb a.v i<;>cases tb a.m i<;>cases tb b.v i<;>cases tb b.m i<;>cases tb z i<;>simp
  ·intro i hi
   have g1:=g i hi
   have g2:=hm i hi
   rw[fW,gr] at g1
   revert g1 g2
   cases tb a.v i<;>cases tb a.m i<;>cases tb b.v i<;>cases tb b.m i<;>cases tb z i<;>simp
 ·rintro ⟨g1,g2⟩ i hi h0
  have a1:=g1 i hi
  have a2:=g2 i hi
  rw[fW] at h0
  rw[gr]
  revert a1 a2 h0
  cases tb a.v i<;>cases tb a.m i<;>cases tb b.v i<;>cases tb b.m i<;>cases tb z i<;>simp
theorem yk {a b:Kn} (ha:a.wf) (hb:b.wf) (h:dx a b=false) (z:Int):(khas a z&&khas b z)=false:=by
 cases hz:(khas a z&&khas b z)
 ·rfl
 ·exfalso
  rw[Bool.and_eq_true] at hz
  have g1:=(aK ha z).1 hz.1
  have g2:=(aK hb z).1 hz.2
  have:dx a b=true:=by
   rw[nI]
   intro i hi
   have a1:=g1 i hi
   have a2:=g2 i hi
   revert a1 a2
   cases tb a.v i<;>cases tb a.m i<;>cases tb b.v i<;>cases tb b.m i<;>cases tb z i<;>simp
  rw[h] at this; cases this
end Go.Proofs.YtfkhblmeioiciaaGreatDoor
set_option linter.unusedVariables false
set_option linter.unusedSimpArgs false
namespace Go.Proofs.YtfkhblmeioiciaaGreatDoor
open Go Go.RowKit
theorem aff {r:Rg} (hr:r.wf) {z:Int} (z0:r.ul≤z) (z1:z≤r.uh):khas (kcom r) z=true:=by
 obtain⟨⟨l0,l1⟩,⟨u0,u1⟩,_⟩:=hr
 have hx:=mZ r.ul r.uh
 obtain⟨n,hn⟩:∃n,au (bits .xor .u64 r.ul r.uh).toNat=n:=⟨_,rfl⟩
 have hle:n≤64:=by rw[←hn]; exact dm (by omega)
 have hsame:r.ul / 2 ^ n=r.uh / 2 ^ n:=by
  refine(xg r.ul r.uh n hle l0 l1 u0 u1).1 ?_
  have hlt:=mQ (bits .xor .u64 r.ul r.uh).toNat
  rw[hn] at hlt
  obtain⟨x,hx'⟩:=Int.eq_ofNat_of_zero_le hx.1
  rw[hx'] at hlt hx ⊢
  have hq:1≤(2:Nat) ^ n:=Nat.one_le_two_pow
  have hp:(2:Nat) ^ n≤2 ^ 64:=Nat.pow_le_pow_right (by omega) hle
  rw[show((2:Int) ^ n-1)=((2 ^ n-1:Nat):Int) from by rw[Int.ofNat_sub hq]; simp,u64_andNot_nat x (2 ^ n-1) (by omega) (by omega)]
  have h6:=(qa x n hle (by omega)).2 (Nat.div_eq_of_lt (by simpa using hlt))
  exact_mod_cast h6
 have hz:z / 2 ^ n=r.ul / 2 ^ n:=by
  have hp:(0:Int)<2 ^ n:=Int.pow_pos (by omega)
  have g1:=Int.ediv_le_ediv hp z0
  have g2:=Int.ediv_le_ediv hp z1
  omega
 have hd:=(xg z r.ul _ hle (by omega) (by omega) l0 l1).2 hz
 have hpb:=aiF hle
 have hcv:kcom r=gP r.ul (2 ^ n-1):=by unfold kcom fU; rw[hn]
 rw[hcv,dh (by generalize (2:Int) ^ n=x at *; omega)]
 intro i hi' hm
 have h5:=(aag (cG _ _) je).1 (beq_iff_eq.2 hd) i hi'
 rw[bX _ _ hi',kZ,ed,hm] at h5
 revert h5
 cases tb z i<;>cases tb r.ul i<;>simp
theorem zd {k:Kn} (hk:k.wf):(vlo k).wf:=⟨hk.1,iM _ _,by simp[vlo,ball],by simp[vlo,ball]⟩
theorem akY {k:Kn} (hk:k.wf) {x:Int} (hx:0≤x∧x≤18446744073709551615) (h:khas k x=true):bhas (vlo k) x=true:=by
 have A:=jd hk h
 have h1:=A.low.mod 64
 have h2:=A.high.mod 64
 rw[←alk] at h2
 have e1:=iZ hk.1.1 hk.1.2
 have e2:=iZ hx.1 hx.2
 have e3:=iZ (iM k.v k.m).1 (iM k.v k.m).2
 rw[Nat.mod_eq_of_lt (BitVec.isLt _),Nat.mod_eq_of_lt (BitVec.isLt _)] at h1 h2
 rw[aO]
 have:=gc x
 show k.v≤x∧x≤bits .or .u64 k.v k.m ∧ -9223372036854775808≤s64 x∧s64 x≤9223372036854775807
 omega
theorem uT {a b:Rg} (ha:a.wf) (hb:b.wf):(gV a b).wf:=by
 unfold gV
 split
 ·exact sI (oe ha hb)
 ·exact eJ
theorem adG (a b:Kn):(jJ a b).wf:=by
 unfold jJ
 split
 ·exact dp (dZ _ _)
 ·exact gm
theorem agM {r:Rg} (hr:r.wf):(kcom r).wf:=dp (pY (mZ _ _).2)
theorem qf {r:Rg} {k:Kn} (hr:r.wf) (hk:k.wf):(sc r k).wf:=⟨hr,hk⟩
theorem yZ {a:Sc} (ha:a.wf):(vst a).wf:=qf (uT ha.r (zd ha.k)) (adG _ _)
theorem agL:vall.wf:=qf eJ gm
theorem agK {a:Sc} (ha:a.wf):(vnar a).wf:=by
 unfold vnar
 split
 ·exact yZ (yZ ha)
 ·exact agL
theorem gp {a:Sc} {x:Int} (h1:bhas a.r x=true) (h2:khas a.k x=true):vhas a x=true:=by
 unfold vhas vmay
 rw[cQ h1,kI h2,h1,h2]; rfl
theorem hJ {a:Sc} {x:Int} (h:vhas a x=true):bhas a.r x=true:=by unfold vhas at h; simp only[Bool.and_eq_true] at h; exact h.2.1
theorem kW {a:Sc} {x:Int} (h:vhas a x=true):khas a.k x=true:=by unfold vhas at h; simp only[Bool.and_eq_true] at h; exact h.2.2
theorem ku {a:Sc} {x:Int} (h:vhas a x=true):vmay a=true:=by unfold vhas at h; rw[Bool.and_eq_true] at h; exact h.1
theorem acG {a b:Kn} (ha:a.wf) (hb:b.wf) {z:Int} (h1:khas a z=true) (h2:khas b z=true):dx a b=true∧khas (jJ a b) z=true:=by
 cases h:dx a b
 ·have:=yk ha hb h z
  rw[h1,h2] at this; cases this
 ·exact⟨rfl,by rw[acH ha hb h z,h1,h2]; rfl⟩
theorem ads {a b:Rg} (ha:a.wf) (hb:b.wf) {z:Int} (hz:0≤z∧z≤18446744073709551615) (h1:bhas a z=true) (h2:bhas b z=true):fw a b=true∧bhas (gV a b) z=true:=by
 have h:=afm ha hb hz.1 hz.2 h2
 rw[h1] at h
 have h:=h.symm
 rw[Bool.and_eq_true] at h
 exact h
theorem zg {a:Sc} (ha:a.wf) {x:Int} (hx:0≤x∧x≤18446744073709551615) (h:vhas a x=true):vs1 a=true∧vs2 a=true∧vhas (vst a) x=true:=by
 have h1:=ads ha.r (zd ha.k) hx (hJ h) (akY ha.k hx (kW h))
 have hw:=uT ha.r (zd ha.k)
 have hb:=(aO _ _).1 h1.2
 have h2:=acG ha.k (agM hw) (kW h) (aff hw hb.1 hb.2.1)
 exact⟨h1.1,h2.1,gp (a:=vst a) h1.2 h2.2⟩
theorem kt {a:Sc} (ha:a.wf) {x:Int} (hx:0≤x∧x≤18446744073709551615) (h:vhas a x=true):vnok a=true∧vhas (vnar a) x=true:=by
 obtain⟨h1,h2,h3⟩:=zg ha hx h
 obtain⟨g1,g2,g3⟩:=zg (yZ ha) hx h3
 have e:=vn_t (ku h) h1 h2 g1 g2
 exact⟨e.2,by rw[e.1]; exact g3⟩
end Go.Proofs.YtfkhblmeioiciaaGreatDoor
set_option linter.unusedVariables false
set_option linter.unusedSimpArgs false
namespace Go.Proofs.YtfkhblmeioiciaaGreatDoor
open Go Go.RowKit
theorem sJ {a:Rg} (ha:a.wf):(blow a).wf:=by
 unfold blow
 split
 ·exact ha
 ·exact sI (kV (by omega) (by omega) (by omega) (by omega))
theorem uV {a:Sc} (ha:a.wf) {z:Int} (hz:0≤z∧z≤18446744073709551615) (h:vhas a z=true):vhas (vlow a) (zcut z 32)=true:=by
 refine(kt (qf (sJ ha.r) (eI ha.k 32)) (cm z 32 hz.1 hz.2) ?_).2
 refine gp (a:=sc _ _) ?_ (kJ ha.k hz (kW h) (.inl rfl))
 rw[bP]
 exact acT hz.1 (hJ h)
theorem zc {a:Sc} (ha:a.wf):(vlow a).wf:=agK (qf (sJ ha.r) (eI ha.k 32))
theorem uj {z:Int} (z0:0≤z) (z1:z≤4294967295):bhas (blow ball) z=true:=by
 have h:=acT z0 (fH z z0 (by omega))
 rw[Int.emod_eq_of_lt z0 (by omega)] at h
 exact h
theorem adn {r:Rg} {y z:Int} (h:bhas r y=true) (e:y≤4294967295→y=z) (z0:0≤z) (z1:z≤4294967295):bhas (vcap r) z=true:=by
 unfold vcap
 split
 ·have:=(aO r y).1 h
  rw[←e (by omega)]; exact h
 ·exact uj z0 z1
theorem xq {v:Int}:bhas (bone v) v=true:=by rw[aO]; exact⟨Int.le_refl _,Int.le_refl _,Int.le_refl _,Int.le_refl _⟩
theorem afL (v:Int):(vone v).r=bone v:=rfl
theorem xB {a:Sc} (ha:a.wf) {y:Int} (hy:0≤y∧y≤18446744073709551615) (h:vhas a y=true) (ho:sK a=true):eK a=y:=by
 unfold sK at ho
 rw[Bool.and_eq_true] at ho
 have e:=sA ho.2 hy.1 hy.2
 rw[hJ h] at e
 have e:=of_decide_eq_true e.symm
 unfold eK bC
 rw[if_pos ho.1,if_pos ho.2,e]
theorem amk {op x y:Int} (h0:0≤op) (h12:op≤12) (n8:op≠8) (n12:op≠12) (n6:op≠6) (n7:op≠7) (x0:0≤x) (x1:x≤4294967295) (y0:0≤y) (y1:y≤4294967295) (hs:zdo op 64 x y≤4294967295):zdo op 64 x y=zdo op 32 x y:=by
 have hb:=(cJ op 64 x y x0 (by omega) y0 (by omega)).1
 unfold zdo at hs hb ⊢
 rw[cn,cn,cn] at hs hb ⊢
 rw[bP,bP,bP,Int.emod_eq_of_lt (b:=4294967296) x0 (by omega),Int.emod_eq_of_lt (b:=4294967296) y0 (by omega)]
 have e:zop op 32 x y (y % 32)=zop op 64 x y (y % 64):=by
  unfold zop
  by_cases c0:op=0
  ·simp[c0]
  by_cases c1:op=1
  ·simp[c1]
  by_cases c2:op=2
  ·simp[c2]
  by_cases c3:op=3
  ·simp[c3]
  by_cases c4:op=4
  ·simp[c4]
  by_cases c5:op=5
  ·simp[c5]
  by_cases c9:op=9
  ·simp[c9]
  by_cases c10:op=10
  ·simp[c10]
  obtain rfl:op=11:=by omega
  simp
 rw[e,Int.emod_eq_of_lt hb (by omega)]
theorem amj {op x y:Int} (ho:op=6∨op=7) (x0:0≤x) (x1:x≤4294967295) (y0:0≤y) (y1:y≤4294967295) (hs:zdo op 64 x (y % 32)≤4294967295):zdo op 64 x (y % 32)=zdo op 32 x y:=by
 have hb:=(cJ op 64 x (y % 32) x0 (by omega) (by omega) (by omega)).1
 unfold zdo at hs hb ⊢
 rw[cn,cn,cn] at hs hb ⊢
 rw[bP,bP,bP,Int.emod_eq_of_lt (b:=4294967296) x0 (by omega),Int.emod_eq_of_lt (b:=4294967296) y0 (by omega)]
 have e:zop op 32 x y (y % 32)=zop op 64 x (y % 32) (y % 32 % 64):=by
  rw[Int.emod_eq_of_lt (a:=y % 32) (b:=64) (by omega) (by omega)]
  rcases ho with rfl | rfl<;>simp[zop]
 rw[e,Int.emod_eq_of_lt hb (by omega)]
theorem afp {op:Int} {a b:Sc} (ha:a.wf) (hb:b.wf) {x y:Int} (h0:0≤op) (h12:op≤12) (x0:0≤x) (x1:x≤4294967295) (y0:0≤y) (y1:y≤4294967295) (h1:vhas a x=true) (h2:vhas b y=true):bhas (bV op a b) (zdo op 32 x y)=true:=by
 have hz0:=(cJ op 32 x y x0 (by omega) y0 (by omega)).1
 have hz1:zdo op 32 x y≤4294967295:=by unfold zdo; rw[bP]; omega
 unfold bV
 by_cases c:op=8∨op=12
 ·rw[if_pos c]; exact uj hz0 hz1
 rw[if_neg c]
 by_cases d:op=6∨op=7
 ·rw[if_pos d]
  by_cases ho:sK b=true
  ·rw[if_pos ho,xB hb ⟨y0,by omega⟩ h2 ho]
   have e:opI .and .u64 y 31=y % 32:=ajA y y0 (by omega)
   rw[e,afL]
   have hz:=cJ op 64 x (y % 32) x0 (by omega) (by omega) (by omega)
   exact adn (acU ha.r (sH (by omega) (by omega)) x0 (by omega) (by omega) (by omega) (hJ h1) xq hz.1 hz.2) (fun hs=>amj d x0 x1 y0 y1 hs) hz0 hz1
  ·rw[if_neg ho]; exact uj hz0 hz1
 ·rw[if_neg d]
  have hz:=cJ op 64 x y x0 (by omega) y0 (by omega)
  exact adn (acU ha.r hb.r x0 (by omega) y0 (by omega) (hJ h1) (hJ h2) hz.1 hz.2) (fun hs=>amk h0 h12 (by omega) (by omega) (by omega) (by omega) x0 x1 y0 y1 hs) hz0 hz1
theorem acn {op l:Int} (h:okop op l=true):0≤op∧op≤12∧(l=32∨l=64):=by
 unfold okop gY at h
 simp only[Bool.and_eq_true,decide_eq_true_eq,Bool.or_eq_true,beq_iff_eq] at h
 exact⟨h.1.1,h.1.2,h.2⟩
end Go.Proofs.YtfkhblmeioiciaaGreatDoor
set_option linter.unusedVariables false
set_option linter.unusedSimpArgs false
namespace Go.Proofs.YtfkhblmeioiciaaGreatDoor
open Go.RowKit
section
variable {op l:Int} {a b:Kn}
end
end Go.Proofs.YtfkhblmeioiciaaGreatDoor
