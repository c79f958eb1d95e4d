import Derived.Test.YtfkhblmeioiciaaGreatDoorVzA
set_option maxRecDepth 100000
set_option maxHeartbeats 8000000
set_option linter.unusedVariables false
set_option linter.unusedSimpArgs false
namespace Go.Proofs.YtfkhblmeioiciaaGreatDoor
open Go Go.RowKit
theorem ahg {p:Prog} {i:Nat} (hl:p.l.length<=maxLen) (h:(bA p).2=0) (hi:i<p.l.length) {s:Sta}:∀q∈(cA p i s).1,0<=q.1/\q.1<(p.l.length:Int):=by
 intro q hq
 unfold cA at hq
 split at hq
 ·cases hq
 ·split at hq
  ·rcases List.mem_append.1 hq with hq | hq
   ·exact vI hl h hi q hq
   ·exact abM hl h hi q hq
  ·cases hq
theorem agT {p:Prog} (hl:p.l.length<=maxLen) (h:(bA p).2=0):∀(n:Nat) (last:Int) (r:VR),VI p r->(0<=last/\last<(p.l.length:Int))->0<=(iY p n last r).2.2.1/\(iY p n last r).2.2.1<(p.l.length:Int):=by
 obtain⟨⟨q1,q2,q3⟩,-,-⟩:=da hl h
 intro n
 induction n with
 | zero=>
   intro last r hV hL
   by_cases hw:r.w=0
   ·rw[kj hw]; show(0:Int)<=0/\(0:Int)<_; omega
   ·rw[mh hw]; exact hL
 | succ n ih=>
   intro last r hV hL
   by_cases hw:r.w=0
   ·rw[kj hw]; show(0:Int)<=0/\(0:Int)<_; omega
   ·obtain⟨hV2,k,e1,e2,e3,e4⟩:=hV.next hw
    by_cases he:(cA p (tzI r.w) (az r.T (tzI r.w))).2=0
    ·rw[oS hw he,e1]
     exact ih _ _ (VI.puts q3 _ hV2 (ahg hl h e3)) ⟨by omega,by omega⟩
    ·rw[mi hw he,e1]
     exact⟨by show(0:Int)<=(k:Int); omega,by show(k:Int)<_; omega⟩
theorem vJ {p:Prog} (hl:p.l.length<=maxLen) (h:(bA p).2=0):0<=(vrun p).2.2.1/\(vrun p).2.2.1<(p.l.length:Int):=by
 obtain⟨⟨q1,q2,q3⟩,-,-⟩:=da hl h
 unfold vrun
 rw[if_pos h]
 exact agT hl h _ _ _ (VI.ini q2) ⟨by decide,by omega⟩
theorem af8:∀R:Nat,R<2048->opI .andNot .i64 (R:Int) 1026≠0->kZ tL R=true:=by decide +kernel
theorem ki {p:Prog} (hl:p.l.length<=maxLen) (h:(bA p).2=0) (hb:opI .andNot .i64 (vrd (aa p.l 0)) 1026≠0):vrun p=([],[],0,110):=by
 obtain⟨⟨q1,q2,q3⟩,-,-⟩:=da hl h
 obtain⟨R,hR,hR2⟩:=ajr (kM hl h (Int.le_refl 0) (by omega))
 have h1:tzI 1=0:=by decide
 have h2:az vini.T 0=tL:=by kernel_rfl
 have hs:cA p (tzI vini.w) (az vini.T (tzI vini.w))=([],110):=by
  rw[show vini.w=1 from rfl,h1,h2]
  unfold cA
  rw[hR,dz,if_pos (af8 R hR2 (by rw[<-hR]; exact hb))]
 unfold vrun
 rw[if_pos h,show(2000:Nat)=1999+1 from rfl,mi (by decide) (by rw[hs]; decide),hs]
 show([],[],tzI 1,110)=(([],[],0,110):VRes)
 rw[h1]
end Go.Proofs.YtfkhblmeioiciaaGreatDoor
