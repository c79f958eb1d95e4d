import Derived.Test.YtfkhblmeioiciaaGreatDoorXbB
set_option maxRecDepth 100000
set_option maxHeartbeats 8000000
set_option linter.defProp false
set_option linter.unusedSectionVars false
set_option linter.unusedVariables false
set_option linter.unusedSimpArgs false
namespace Go.Proofs.YtfkhblmeioiciaaGreatDoor
open Go Go.RowKit
theorem agg4 {x0 x1 x2 x3 y0 y1 y2 y3:Int} (h0:x0=y0) (h1:x1=y1) (h2:x2=y2) (h3:x3=y3):[Dt.z x0,.z x1,.z x2,.z x3]=[Dt.z y0,.z y1,.z y2,.z y3]:=by rw[h0,h1,h2,h3]
theorem cR {r s:Rg} (h:r=s):[Dt.z r.ul,.z r.uh,.z r.sl,.z r.sh]=[Dt.z s.ul,.z s.uh,.z s.sl,.z s.sh]:=by rw[h]
def xsum (t:Bool) (a b:Rg):Rg:=
 match t with
 | false=>⟨if a.uh+b.uh<=18446744073709551615 then IntKind.u64.wrap (a.ul+b.ul) else 0,if a.uh+b.uh<=18446744073709551615 then a.uh+b.uh else 18446744073709551615,(bsum a b).sl,(bsum a b).sh⟩
 | true=>⟨if b.uh<=a.ul then IntKind.u64.wrap (a.ul-b.uh) else 0,if b.uh<=a.ul then IntKind.u64.wrap (a.uh-b.ul) else 18446744073709551615,(bdif a b).sl,(bdif a b).sh⟩
section
variable {a b:Rg} (ha:a.ok) (hb:b.ok)
theorem yF (h1:decide (-9223372036854775808<=a.sl+b.sl/\a.sl+b.sl<=9223372036854775807)=true) (h2:decide (-9223372036854775808<=a.sh+b.sh/\a.sh+b.sh<=9223372036854775807)=true):
  IntKind.i64.wrap (a.sl+b.sl)=(xsum false a b).sl/\IntKind.i64.wrap (a.sh+b.sh)=(xsum false a b).sh:=by
 have h1:=thm3 h1;have h2:=thm3 h2
 simp only[xsum,bsum]
 rw[if_pos ⟨h1,h2⟩,if_pos ⟨h1,h2⟩,aR,aR]
 omega
theorem lz (h:decide (-9223372036854775808<=a.sl+b.sl/\a.sl+b.sl<=9223372036854775807)=false\/decide (-9223372036854775808<=a.sh+b.sh/\a.sh+b.sh<=9223372036854775807)=false):
  ball.sl=(xsum false a b).sl/\ball.sh=(xsum false a b).sh:=by
 have hn:¬((-9223372036854775808<=a.sl+b.sl/\a.sl+b.sl<=9223372036854775807)/\(-9223372036854775808<=a.sh+b.sh/\a.sh+b.sh<=9223372036854775807)):=fun q=>by
  rcases h with h | h
  ·exact thm2 h q.1
  ·exact thm2 h q.2
 simp only[xsum,bsum]
 rw[if_neg hn,if_neg hn]
 exact⟨rfl,rfl⟩
theorem aaG (h1:decide (-9223372036854775808<=a.sl-b.sh/\a.sl-b.sh<=9223372036854775807)=true) (h2:decide (-9223372036854775808<=a.sh-b.sl/\a.sh-b.sl<=9223372036854775807)=true):
  IntKind.i64.wrap (a.sl-b.sh)=(xsum true a b).sl/\IntKind.i64.wrap (a.sh-b.sl)=(xsum true a b).sh:=by
 have h1:=thm3 h1;have h2:=thm3 h2
 simp only[xsum,bdif]
 rw[if_pos ⟨h1,h2⟩,if_pos ⟨h1,h2⟩,aR,aR]
 omega
theorem lQ (h:decide (-9223372036854775808<=a.sl-b.sh/\a.sl-b.sh<=9223372036854775807)=false\/decide (-9223372036854775808<=a.sh-b.sl/\a.sh-b.sl<=9223372036854775807)=false):
  ball.sl=(xsum true a b).sl/\ball.sh=(xsum true a b).sh:=by
 have hn:¬((-9223372036854775808<=a.sl-b.sh/\a.sl-b.sh<=9223372036854775807)/\(-9223372036854775808<=a.sh-b.sl/\a.sh-b.sl<=9223372036854775807)):=fun q=>by
  rcases h with h | h
  ·exact thm2 h q.1
  ·exact thm2 h q.2
 simp only[xsum,bdif]
 rw[if_neg hn,if_neg hn]
 exact⟨rfl,rfl⟩
include ha hb
theorem pf (h:((a.uh+b.uh) / 18446744073709551616==0)=true):opI .add .u64 a.ul b.ul=(xsum false a b).ul/\(a.uh+b.uh) % 18446744073709551616=(xsum false a b).uh:=by
 have h:=dl.1 h
 have wa:=(Rg.wf_of ha).2.1;have wb:=(Rg.wf_of hb).2.1
 have hc:a.uh+b.uh<=18446744073709551615:=by omega
 simp only[xsum]
 rw[if_pos hc,if_pos hc]
 exact⟨rfl,by omega⟩
theorem pg (h:((a.uh+b.uh) / 18446744073709551616==0)=false):ball.ul=(xsum false a b).ul/\ball.uh=(xsum false a b).uh:=by
 have h:=beq_eq_false_iff_ne.1 h
 have wa:=(Rg.wf_of ha).2.1;have wb:=(Rg.wf_of hb).2.1
 have hc:¬a.uh+b.uh<=18446744073709551615:=by omega
 simp only[xsum]
 rw[if_neg hc,if_neg hc]
 exact⟨rfl,rfl⟩
omit ha hb
theorem pY (h:decide (a.ul<b.uh)=false):opI .sub .u64 a.ul b.uh=(xsum true a b).ul/\opI .sub .u64 a.uh b.ul=(xsum true a b).uh:=by
 have hc:b.uh<=a.ul:=bm.1 (thm2 h)
 simp only[xsum]
 rw[if_pos hc,if_pos hc]
 exact⟨rfl,rfl⟩
theorem pZ (h:decide (a.ul<b.uh)=true):ball.ul=(xsum true a b).ul/\ball.uh=(xsum true a b).uh:=by
 have hc:¬b.uh<=a.ul:=Int.not_le.2 (thm3 h)
 simp only[xsum]
 rw[if_neg hc,if_neg hc]
 exact⟨rfl,rfl⟩
end
theorem dt {op:Int} {a b:Rg} (ma:bmay a=true) (mb:bmay b=true) {X:Rg} (h:X=bdo0 op a b):bnar X=bdo op a b:=by
 unfold bdo;rw[if_pos ⟨ma,mb⟩,h]
theorem ao3 {a b:Rg} (ha:a.ok) (hb:b.ok) (ma:bmay a=true) (mb:bmay b=true):xsum false a b=bsum a b:=by
 have wa:=Rg.wf_of ha;have wb:=Rg.wf_of hb
 rw[er] at ma mb
 obtain⟨⟨a0,a1⟩,⟨a2,a3⟩,_⟩:=wa
 obtain⟨⟨b0,b1⟩,⟨b2,b3⟩,_⟩:=wb
 rw[Rg.ext_iff]
 refine⟨?_,rfl,rfl,rfl⟩
 simp only[xsum,bsum]
 split
 ·rw[bg];omega
 ·rfl
theorem ao2 {a b:Rg} (ha:a.ok) (hb:b.ok) (ma:bmay a=true) (mb:bmay b=true):xsum true a b=bdif a b:=by
 have wa:=Rg.wf_of ha;have wb:=Rg.wf_of hb
 rw[er] at ma mb
 obtain⟨⟨a0,a1⟩,⟨a2,a3⟩,_⟩:=wa
 obtain⟨⟨b0,b1⟩,⟨b2,b3⟩,_⟩:=wb
 rw[Rg.ext_iff]
 refine⟨?_,?_,rfl,rfl⟩<;>simp only[xsum,bdif]<;>split
 ·rw[bg];omega
 ·rfl
 ·rw[bg];omega
 ·rfl
theorem eqz {x z:Int} (h:(x==z)=true):x=z:=by simpa using h
theorem nez {x z:Int} (h:(x==z)=false):x≠z:=by simpa using h
theorem ya {m:Int} (h0:0<=m) (h1:m<=18446744073709551615):opI .sub .u64 (opI .shl .u64 1 (aC m.toNat)) 1=lh m:=by
 have hb:aC m.toNat<=64:=eJ (by omega)
 have h2:=ajV h1
 unfold lh at h2 ⊢
 show IntKind.u64.wrap (IntKind.u64.wrap (1*2 ^ min ((aC m.toNat:Int).toNat) 64)-1)=_
 rw[dT,Nat.min_eq_left hb,Int.one_mul]
 generalize (2:Int) ^ aC m.toNat=t at *
 rw[bg,bg]
 omega
theorem af0 {x y:Int} (x0:0<=x) (x1:x<=18446744073709551615) (y0:0<y):opI .quo .u64 x y=x / y:=by
 show IntKind.u64.wrap (x.tdiv y)=_
 rw[Int.tdiv_eq_ediv_of_nonneg x0,bg]
 have:=aq7 (z:=y) x0 x1 y0
 omega
theorem aoP {b:Rg} (hb:b.ok) (h:dV b=true):opI .and .u64 (aB b) 63=((bby b:Nat):Int)/\bby b<64:=by
 have wb:=Rg.wf_of hb
 have e:aB b=b.ul:=by unfold aB;rw[h];simp
 show bits .and .u64 (aB b) 63=_/\_
 rw[e,arh _ wb.1.1 wb.1.2]
 unfold bby
 omega
theorem afY {x:Int} {k:Nat} (x0:0<=x) (hk:k<64):opI .shr .u64 x (k:Int)=x / 2 ^ k:=by
 show x.fdiv (2 ^ min (k:Int).toNat 64)=_
 rw[dT,Nat.min_eq_left (by omega),Int.fdiv_eq_ediv_of_nonneg _ (Int.le_of_lt (Int.pow_pos (by omega)))]
theorem afZ {x:Int} {k:Nat} (hk:k<64) (h:0<=x*2 ^ k) (h':x*2 ^ k<=18446744073709551615):opI .shl .u64 x (k:Int)=x*2 ^ k:=by
 show IntKind.u64.wrap (x*2 ^ min (k:Int).toNat 64)=_
 rw[dT,Nat.min_eq_left (by omega),bg]
 omega
section
variable {op:Int} {a b:Rg} (ha:a.ok) (hb:b.ok) (ma:bmay a=true) (mb:bmay b=true)
include ha hb ma mb
theorem asx (h:(op==11)=true):bnar b=bdo op a b:=dt ma mb (by rw[eqz h];simp[bdo0])
theorem dq_0 (h:(op==0)=true):bnar (xsum (op==1) a b)=bdo op a b:=dt ma mb (by rw[eqz h];rw[show((0:Int)==1)=false from rfl,ao3 ha hb ma mb];simp[bdo0])
theorem dq_1 (h:(op==1)=true):bnar (xsum (op==1) a b)=bdo op a b:=dt ma mb (by rw[h,eqz h,ao2 ha hb ma mb];simp[bdo0])
theorem dq_5 (h:(op==5)=true):bnar ⟨ball.ul,min a.uh b.uh,ball.sl,ball.sh⟩=bdo op a b:=dt ma mb (by rw[eqz h];simp[bdo0,bu,ball])
theorem aqB:0<=max a.uh b.uh/\max a.uh b.uh<=18446744073709551615:=by
 have wa:=Rg.wf_of ha;have wb:=Rg.wf_of hb
 have:=wa.2.1;have:=wb.2.1
 omega
theorem dq_4 (h:(op==4)=true):bnar ⟨max a.ul b.ul,opI .sub .u64 (opI .shl .u64 1 (aC (max a.uh b.uh).toNat)) 1,ball.sl,ball.sh⟩=bdo op a b:=dt ma mb (by
 have:=aqB ha hb ma mb
 rw[eqz h,ya this.1 this.2];simp[bdo0,bu,ball])
theorem asy (h:(op==10)=true):bnar ⟨ball.ul,opI .sub .u64 (opI .shl .u64 1 (aC (max a.uh b.uh).toNat)) 1,ball.sl,ball.sh⟩=bdo op a b:=dt ma mb (by
 have:=aqB ha hb ma mb
 rw[eqz h,ya this.1 this.2];simp[bdo0,bu,ball])
theorem dq_3 (h:(op==3)=true) (hc:decide (0<b.ul)=true):bnar ⟨opI .quo .u64 a.ul b.uh,opI .quo .u64 a.uh b.ul,ball.sl,ball.sh⟩=bdo op a b:=dt ma mb (by
 have hc:=thm3 hc
 have wa:=Rg.wf_of ha
 rw[er] at mb
 rw[eqz h,af0 wa.1.1 wa.1.2 (by omega),af0 wa.2.1.1 wa.2.1.2 hc];simp[bdo0,bu,ball,hc])
theorem asw (h:(op==3)=true) (hc:decide (0<b.ul)=false):bnar ⟨ball.ul,a.uh,ball.sl,ball.sh⟩=bdo op a b:=dt ma mb (by
 have hc:=thm2 hc
 rw[eqz h];simp[bdo0,bu,ball,hc])
theorem dq_9 (h:(op==9)=true) (hc:decide (0<b.ul)=true):bnar ⟨ball.ul,min a.uh (opI .sub .u64 b.uh 1),ball.sl,ball.sh⟩=bdo op a b:=dt ma mb (by
 have hc:=thm3 hc
 have wb:=Rg.wf_of hb
 rw[er] at mb
 rw[eqz h,show opI .sub .u64 b.uh 1=b.uh-1 from by show IntKind.u64.wrap (b.uh-1)=_;rw[bg];have:=wb.2.1;omega];simp[bdo0,bu,ball,hc])
theorem ass (h:(op==9)=true) (hc:decide (0<b.ul)=false):bnar ⟨ball.ul,a.uh,ball.sl,ball.sh⟩=bdo op a b:=dt ma mb (by
 have hc:=thm2 hc
 rw[eqz h];simp[bdo0,bu,ball,hc])
theorem dq_7 (h:(op==7)=true) (hc:dV b=true):bnar ⟨opI .shr .u64 a.ul (opI .and .u64 (aB b) 63),opI .shr .u64 a.uh (opI .and .u64 (aB b) 63),ball.sl,ball.sh⟩=bdo op a b:=dt ma mb (by
 have wa:=Rg.wf_of ha
 obtain⟨e,e2⟩:=aoP hb hc
 rw[eqz h,e,afY wa.1.1 e2,afY wa.2.1.1 e2];simp[bdo0,bu,ball,hc])
theorem ast (h:(op==7)=true) (hc:dV b=false):bnar ball=bdo op a b:=dt ma mb (by
 rw[eqz h];simp[bdo0,hc])
theorem lz_c (hc:dV b=true):decide (64-(aC a.uh.toNat:Int)<IntKind.i64.wrap (opI .and .u64 (aB b) 63)) = !decide (aC a.uh.toNat+bby b<=64):=by
 obtain⟨e,e2⟩:=aoP hb hc
 rw[e,aR]
 rw[aM]
 simp
 omega
theorem dq_6 (h:(op==6)=true) (hc:dV b=true) (hl:decide (64-(aC a.uh.toNat:Int)<IntKind.i64.wrap (opI .and .u64 (aB b) 63))=false):bnar ⟨opI .shl .u64 a.ul (opI .and .u64 (aB b) 63),opI .shl .u64 a.uh (opI .and .u64 (aB b) 63),ball.sl,ball.sh⟩=bdo op a b:=dt ma mb (by
 have wa:=Rg.wf_of ha
 rw[lz_c ha hb ma mb hc] at hl
 have hl':aC a.uh.toNat+bby b<=64:=by simpa using hl
 obtain⟨e,e2⟩:=aoP hb hc
 rw[er] at ma
 obtain⟨h1,h2,h3⟩:=apj wa.1.1 ma.1 hl'
 rw[eqz h,e,afZ e2 h1 (by omega),afZ e2 (by omega) h3];simp[bdo0,bu,ball,hc,hl'])
theorem asu (h:(op==6)=true) (hc:dV b=true) (hl:decide (64-(aC a.uh.toNat:Int)<IntKind.i64.wrap (opI .and .u64 (aB b) 63))=true):bnar ball=bdo op a b:=dt ma mb (by
 rw[lz_c ha hb ma mb hc] at hl
 have hl':¬aC a.uh.toNat+bby b<=64:=by simpa using hl
 rw[eqz h];simp[bdo0,hc,hl'])
theorem asv (h:(op==6)=true) (hc:dV b=false):bnar ball=bdo op a b:=dt ma mb (by
 rw[eqz h];simp[bdo0,hc])
theorem dq_x (h11:(op==11)=false) (h0:(op==0)=false) (h1:(op==1)=false) (h5:(op==5)=false) (h4:(op==4)=false) (h10:(op==10)=false) (h3:(op==3)=false) (h9:(op==9)=false) (h7:(op==7)=false) (h6:(op==6)=false):bnar ball=bdo op a b:=dt ma mb (by
 unfold bdo0
 rw[if_neg (nez h11),if_neg (nez h0),if_neg (nez h1),if_neg (nez h5),if_neg (nez h4),if_neg (nez h10),if_neg (nez h3),if_neg (nez h9),if_neg (nez h7),if_neg (nez h6)])
end
theorem akY {op:Int} {a b:Rg} (h:bmay a=false\/bmay b=false):ball=bdo op a b:=by
 unfold bdo
 rw[if_neg (fun e=>by rcases h with h | h<;>simp[h] at e)]
theorem cf {r s:Rg} {t u:Bool} (h:r=s) (h':t=u):[Dt.z r.ul,.z r.uh,.z r.sl,.z r.sh,.z (b2i t)]=[Dt.z s.ul,.z s.uh,.z s.sl,.z s.sh,.z (b2i u)]:=by rw[h,h']
section
variable {cc:Int} {a b X:Rg}
theorem gI (c0:cc≠0) (hg:ky cc a b=true) (hc:bcan cc a b=true) (e:X=brng cc a b):bnar X=bgiv cc a b/\bnok X=bgok cc a b:=by
 subst e
 have h1:bgok cc a b=bnok (brng cc a b):=by unfold bgok;rw[hg,hc,if_neg c0];rfl
 refine⟨?_,h1.symm⟩
 unfold bgiv
 rw[h1,if_neg c0]
 cases h:bnok (brng cc a b)
 ·unfold bnar;rw[h];simp
 ·simp
theorem em (h:ky cc a b=false\/(cc≠0/\bcan cc a b=false)):ball=bgiv cc a b/\false=bgok cc a b:=by
 have h1:bgok cc a b=false:=by
  unfold bgok
  rcases h with h | ⟨h0,h⟩
  ·rw[h];rfl
  ·rw[h,if_neg h0];simp
 exact⟨by unfold bgiv;rw[h1];simp,h1.symm⟩
theorem aqR (hg:ky 0 a b=true):lg a b=bgiv 0 a b/\iD a b=bgok 0 a b:=by
 have e:bgok 0 a b=iD a b:=by unfold bgok;rw[hg];rfl
 refine⟨?_,e.symm⟩
 unfold bgiv
 rw[e]
 cases h:iD a b
 ·unfold lg;rw[h];simp
 ·simp
theorem bq (c0:bmay a=true) (c1:bmay b=true) (h:0<=cc/\cc<=10):ky cc a b=true:=by
 unfold ky;rw[c0,c1,fQ h.1,fQ h.2];rfl
end
end Go.Proofs.YtfkhblmeioiciaaGreatDoor
