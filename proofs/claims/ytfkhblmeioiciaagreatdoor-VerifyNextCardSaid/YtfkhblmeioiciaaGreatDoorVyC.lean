import Derived.Test.YtfkhblmeioiciaaGreatDoorVyA
import Derived.Test.YtfkhblmeioiciaaGreatDoorSdP
import Derived.Test.YtfkhblmeioiciaaGreatDoorVn
set_option linter.unusedVariables false
set_option linter.unusedSimpArgs false
namespace Go.Proofs.YtfkhblmeioiciaaGreatDoor
open Go Go.RowKit
theorem qb (v:Int):zcut v 64=v:=by unfold zcut; simp
theorem sF (w p q:Int):zdo 11 w p q=zcut (zcut q w) w:=by unfold zdo zop; simp
theorem agF (w p q r:Int):zdo 8 w p q=zdo 8 w p r:=by unfold zdo zop; simp
theorem ajH (op p q:Int):0≤zdo op 32 p q∧zdo op 32 p q<4294967296:=by
 unfold zdo
 rw[bP]
 omega
theorem kx {t:Ty} {v:Int} (h:ay t v=true) (hk:t.k=1):vhas t.s v=true:=by rw[ou (kY h) hk] at h; exact h
theorem oq {t:Ty}:tptr t=true↔t.k=2∨t.k=3:=by unfold tptr; simp
theorem om {t:Ty} (h:tok t=true) (hp:tptr t=false) (h0:t.k≠0):t.k=1:=by
 have h1:¬(t.k=2∨t.k=3):=fun e=>by rw[oq.2 e] at hp; cases hp
 have:=qD h
 omega
theorem uY (t:Ty) (v:Int):toff t v=(v-ow t+9223372036854775808) % 18446744073709551616-9223372036854775808:=by
 unfold toff; rw[cy,cr]; omega
theorem aab {t:Ty} {v:Int} (hk:t.k=2∨t.k=3):ay t v=true↔tok t=true∧t.lo≤toff t v∧toff t v≤t.hi:=by
 unfold ay
 rw[if_neg (by omega),if_neg (by omega)]
 simp only[Bool.and_eq_true,decide_eq_true_eq]
theorem ajM {s:Sc} {q:Int} (h:vhas s q=true):s.sl≤s64 q∧s64 q≤s.sh:=by
 have:=(aO _ _).1 (hJ h); exact⟨this.2.2.1,this.2.2.2⟩
theorem nG {t:Ty} {s:Sc} {p q:Int} (b:Bool) (ht:ay t p=true) (hk:t.k=2∨t.k=3) (hs:vhas s q=true) (hp:0≤p∧p≤18446744073709551615) (hq:0≤q∧q≤18446744073709551615):
  ay (fV t s b) ((if b=true then p-q else p+q) % 18446744073709551616)=true:=by
 unfold fV
 split
 ·rename_i h
  simp only[far2,Bool.and_eq_true,decide_eq_true_eq] at h
  obtain⟨⟨s1,s2⟩,⟨l1,l2⟩,l3,l4⟩:=h
  obtain⟨ho,h1,h2⟩:=(aab hk).1 ht
  obtain⟨t1,t2,t3,t4⟩:=alJ ho hk
  obtain⟨v1,v2⟩:=ajM hs
  have e64:s64 q=if q<9223372036854775808 then q else q-18446744073709551616:=by unfold s64; rw[w_64]; split<;>omega
  have hb:ow (cz t s b)=ow t:=rfl
  have hb2:ow t=2097152∨ow t=3145728:=by unfold ow; split<;>simp
  have hk':(cz t s b).k=2∨(cz t s b).k=3:=hk
  rw[aab hk',uY,hb]
  rw[uY] at h1 h2
  have elo:(cz t s b).lo=t.lo+(if b=true then -s.sh else s.sl):=by
   show IntKind.i64.wrap (t.lo+mlo s b)=_
   unfold mlo
   rw[cy]
   cases b<;>simp only[if_true,if_false,Bool.false_eq_true]<;>(try rw[cy])<;>omega
  have ehi:(cz t s b).hi=t.hi+(if b=true then -s.sl else s.sh):=by
   show IntKind.i64.wrap (t.hi+mhi s b)=_
   unfold mhi
   rw[cy]
   cases b<;>simp only[if_true,if_false,Bool.false_eq_true]<;>(try rw[cy])<;>omega
  rw[elo] at l1 l2 ⊢
  rw[ehi] at l3 l4 ⊢
  refine⟨?_,?_⟩
  ·unfold tok
   rw[if_neg (by omega),if_neg (by omega),if_pos hk']
   simp only[Bool.and_eq_true,decide_eq_true_eq]
   rw[elo,ehi]
   refine⟨t1,?_,l1,l4⟩
   cases b<;>simp only[if_true,if_false,Bool.false_eq_true]<;>omega
  ·split at e64<;>cases b<;>simp only[if_true,if_false,Bool.false_eq_true] at * <;>omega
 ·exact na (by split<;>omega) (by split<;>omega)
theorem jS {op w:Int} {a b:Ty} {p q:Int} (ha:ay a p=true) (hb:ay b q=true) (wa:a.s.wf) (wb:b.s.wf) (hk:okop op w=true) (a0:a.k≠0) (b0:b.k≠0)
  (hp:0≤p∧p≤18446744073709551615) (hq:0≤q∧q≤18446744073709551615):ay (ea op w a b) (zdo op w p q)=true:=by
 obtain⟨h0,h12,hl⟩:=acn hk
 have hz:=cJ op w p q hp.1 hp.2 hq.1 hq.2
 have ta:=kY ha
 have tb:=kY hb
 unfold ea
 split
 ·rename_i h
  simp only[Bool.and_eq_true,Bool.not_eq_true'] at h
  exact ot (agQ wa wb hp hq (kx ha (om ta h.1 a0)) (kx hb (om tb h.2 b0)) hk)
 ·rename_i h
  split
  ·rename_i h2
   obtain⟨rfl,h3,h4⟩:=h2
   have hpa:tptr a=true:=by cases e:tptr a with
    | true=>rfl
    | false=>rw[e,h3] at h; exact(h rfl).elim
   have q1:=nG (op==1) ha (oq.1 hpa) (kx hb (om tb h3 b0)) hp hq
   rcases h4 with rfl | rfl
   ·simpa[zdo,zop,qb] using q1
   ·simpa[zdo,zop,qb] using q1
  ·split
   ·rename_i h2
    obtain⟨rfl,h3,rfl⟩:=h2
    have hpb:tptr b=true:=by cases e:tptr b with
     | true=>rfl
     | false=>rw[e,h3] at h; exact(h rfl).elim
    have q1:=nG false hb (oq.1 hpb) (kx ha (om ta h3 a0)) hq hp
    simpa[zdo,zop,qb,Int.add_comm] using q1
   ·split
    ·exact na hz.1 hz.2
    ·rename_i h5
     have hw:w=32:=by omega
     subst hw
     have z:=ajH op p q
     exact ot (adI (.inr (.inr (.inl rfl))) z.1 z.2)
theorem qE {v:Int} (hv:0≤v∧v≤18446744073709551615):ay (tsc (vone v)) v=true:=ot (adH hv)
theorem zh {x:Ins} {a b:Ty} {p q:Int} (ha:ay a p=true) (hb:ay b q=true) (wa:a.s.wf) (wb:b.s.wf) (hk:okop x.op x.w=true) (a0:x.op≠11→a.k≠0) (b0:x.op≠8→b.k≠0)
  (hp:0≤p∧p≤18446744073709551615) (hq:0≤q∧q≤18446744073709551615):ay (valu x a b) (zdo x.op x.w p q)=true:=by
 obtain⟨h0,h12,hl⟩:=acn hk
 unfold valu aluA aluB
 by_cases h11:x.op=11
 ·rw[if_pos h11,if_neg (by omega:¬x.op=8)]
  split
  ·rename_i h
   rw[h.1,h.2,sF,qb,qb]; exact hb
  ·have e:zdo x.op x.w p q=zdo x.op x.w q q:=by rw[h11,sF,sF]
   rw[e]
   exact jS hb hb wb wb hk (b0 (by omega)) (b0 (by omega)) hq hq
 ·rw[if_neg (fun h=>h11 h.1),if_neg h11]
  by_cases h8:x.op=8
  ·rw[if_pos h8]
   have e:zdo x.op x.w p q=zdo x.op x.w p 0:=by rw[h8]; exact agF _ _ _ _
   rw[e]
   exact jS (b:=tsc (vone 0)) (q:=0) ha (qE (v:=0) (by omega)) wa (za (v:=0) (by omega)) hk (a0 h11) (show(1:Int)≠0 by omega) hp (by omega)
  ·rw[if_neg h8]
   exact jS ha hb wa wb hk (a0 h11) (b0 h8) hp hq
end Go.Proofs.YtfkhblmeioiciaaGreatDoor
