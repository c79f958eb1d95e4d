import Derived.Test.YtfkhblmeioiciaaGreatDoorVzA
set_option maxRecDepth 100000
set_option maxHeartbeats 8000000
set_option linter.defProp false
set_option linter.unusedVariables false
set_option linter.unusedSimpArgs false
namespace Go.Proofs.YtfkhblmeioiciaaGreatDoor
open Go Go.RowKit
theorem uk (c:Int) (p:Prog):∀m n,scan ⟨c,p.l⟩ m n=scan p m n
 | 0,_=>rfl
 | m+1,n=>by
   rw[scan,scan,uk c p m (n+1)]
   rfl
theorem xX {p:Prog} {c:Int} (h:(bz p).2=0) (h1:p.ctx<=c) (h2:c<=256):(bz ⟨c,p.l⟩).2=0:=by
 by_cases hc:(decide (0<=p.ctx)&&decide (p.ctx<=256))=false
 ·rw[pN hc] at h;cases h
 ·have hc2:¬(decide (0<=c)&&decide (c<=256))=false:=by
   simp only[Bool.not_eq_false,thm0,bl] at hc ⊢
   omega
  unfold bz at h ⊢
  rw[if_neg hc] at h
  rw[if_neg hc2,uk]
  exact h
theorem lr {c c':Int} {t:Ty} {off size:Int} (hc:c<=c') (h:aA c t off size=true):aA c' t off size=true:=by
 unfold aA at h ⊢
 simp only[thm0,bl] at h ⊢
 split at h<;>rename_i hk
 ·simp only[hk,if_true] at h ⊢
  exact⟨h.1,h.2.1,h.2.2.1,h.2.2.2.1,h.2.2.2.2.1,by have:=h.2.2.2.2.2;omega⟩
 ·simp only[hk,if_false] at h ⊢
  exact h
theorem aca {p:Prog} {c:Int} {x:Ins} {s:Sta} (hc:p.ctx<=c) (h:(vmid p x s).2=0):vmid ⟨c,p.l⟩ x s=vmid p x s:=by
 unfold vmid at h ⊢
 split
 ·rfl
 ·rename_i h0
  rw[if_neg h0] at h
  split
  ·rename_i h1
   rw[if_pos h1] at h
   by_cases hw:aA p.ctx (tnth s x.s) x.off x.sz=true
   ·rw[if_pos hw,if_pos (lr hc hw)]
   ·rw[if_neg hw] at h;cases h
  ·rename_i h1
   rw[if_neg h1] at h
   split
   ·rename_i h2
    rw[if_pos h2] at h
    by_cases hw:aA p.ctx (tnth s x.d) x.off x.sz=true
    ·rw[if_pos hw,if_pos (lr hc hw)]
    ·rw[if_neg hw] at h;cases h
   ·rfl
theorem wg {p:Prog} {c:Int} {i:Int} {s:Sta} (hc:p.ctx<=c) (h:(cz p i s).2=0):cz ⟨c,p.l⟩ i s=cz p i s:=by
 unfold cz at h ⊢
 by_cases hu:lx s (vrd (aa p.l i)).toNat=true
 ·rw[if_pos hu] at h;cases h
 ·rw[if_neg hu] at h
  by_cases he:(vmid p (aa p.l i) s).2=0
  ·rw[if_neg hu,if_neg hu,aca hc he]
  ·rw[if_neg he] at h
   exact absurd h he
theorem aaT {p:Prog} {c:Int} (hc:p.ctx<=c):∀(n:Nat) (last:Int) (r:VR),(fi p n last r).2.2.2=0->fi ⟨c,p.l⟩ n last r=fi p n last r/\(fi p n last r).2.2.1=0:=by
 intro n
 induction n with
 | zero=>
   intro last r h
   by_cases hw:r.w=0
   ·rw[cS hw,cS hw];exact⟨rfl,rfl⟩
   ·rw[iH hw] at h;cases h
 | succ n ih=>
   intro last r h
   by_cases hw:r.w=0
   ·rw[cS hw,cS hw];exact⟨rfl,rfl⟩
   ·by_cases he:(cz p (tzI r.w) (ay r.T (tzI r.w))).2=0
    ·have e:=wg hc he
     rw[gR hw he] at h ⊢
     rw[gR hw (by rw[e];exact he),e]
     exact ih _ _ h
    ·rw[mA hw he] at h
     exact absurd h he
theorem sV {p:Prog} {c:Int} (hc:p.ctx<=c) (hm:c<=256) (h:(vrun p).2.2.2=0):vrun ⟨c,p.l⟩=vrun p/\(vrun p).2.2.1=0:=by
 by_cases hk:(bz p).2=0
 ·unfold vrun at h ⊢
  rw[if_pos hk] at h ⊢
  rw[if_pos (xX hk hc hm)]
  exact aaT hc _ _ _ h
 ·unfold vrun at h
  rw[if_neg hk] at h
  exact absurd h hk
theorem acb {p:Prog}:∀(n:Nat) (last:Int) (r:VR),(fi p n last r).2.2.2=0->(fi p n last r).1.length=p.l.length/\(fi p n last r).2.1.length=p.l.length:=by
 have hd:∀T,(aaU p T).1.length=p.l.length/\(aaU p T).2.1.length=p.l.length:=fun T=>by simp[aaU]
 intro n
 induction n with
 | zero=>
   intro last r h
   by_cases hw:r.w=0
   ·rw[cS hw];exact hd _
   ·rw[iH hw] at h;cases h
 | succ n ih=>
   intro last r h
   by_cases hw:r.w=0
   ·rw[cS hw];exact hd _
   ·by_cases he:(cz p (tzI r.w) (ay r.T (tzI r.w))).2=0
    ·rw[gR hw he] at h ⊢
     exact ih _ _ h
    ·rw[mA hw he] at h
     exact absurd h he
theorem aht {p:Prog} (h:(vrun p).2.2.2=0):(vrun p).1.length=p.l.length/\(vrun p).2.1.length=p.l.length:=by
 by_cases hk:(bz p).2=0
 ·unfold vrun at h ⊢
  rw[if_pos hk] at h ⊢
  exact acb _ _ _ h
 ·unfold vrun at h
  rw[if_neg hk] at h
  exact absurd h hk
end Go.Proofs.YtfkhblmeioiciaaGreatDoor
