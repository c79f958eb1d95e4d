import Derived.Test.YtfkhblmeioiciaaGreatDoorVyF
import Derived.Test.YtfkhblmeioiciaaGreatDoorVyC
import Derived.Test.YtfkhblmeioiciaaGreatDoorSdB
set_option maxRecDepth 100000
set_option linter.unusedVariables false
set_option linter.unusedSimpArgs false
namespace Go.Proofs.YtfkhblmeioiciaaGreatDoor
open Go Go.RowKit
theorem adK {s:Sta} {P:Ty→Prop} (h0:P s.r0) (h1:P s.r1) (h2:P s.r2) (h3:P s.r3) (h4:P s.r4) (h5:P s.r5) (h6:P s.r6) (h7:P s.r7) (h8:P s.r8) (h9:P s.r9) (h10:P s.r10) {d:Int} (b0:0≤d) (b1:d≤10):P (tnth s d):=by
 have h:d=0∨d=1∨d=2∨d=3∨d=4∨d=5∨d=6∨d=7∨d=8∨d=9∨d=10:=by omega
 rcases h with rfl | rfl | rfl | rfl | rfl | rfl | rfl | rfl | rfl | rfl | rfl
 ·exact h0
 ·exact h1
 ·exact h2
 ·exact h3
 ·exact h4
 ·exact h5
 ·exact h6
 ·exact h7
 ·exact h8
 ·exact h9
 ·exact h10
theorem Ty.swf {t:Ty} (h:Ty.ok t):t.s.wf:=Sc.wf_of ⟨h.2.1,h.2.2.1,h.2.2.2.1,h.2.2.2.2.1,h.2.2.2.2.2.1,h.2.2.2.2.2.2.1⟩
theorem zZ {s:Sta} (h:Sta.ok s) {d:Int} (b0:0≤d) (b1:d≤10):(tnth s d).s.wf:=adK (P:=fun t=>t.s.wf) (Ty.swf h.1) (Ty.swf h.2.1) (Ty.swf h.2.2.1) (Ty.swf h.2.2.2.1) (Ty.swf h.2.2.2.2.1) (Ty.swf h.2.2.2.2.2.1) (Ty.swf h.2.2.2.2.2.2.1) (Ty.swf h.2.2.2.2.2.2.2.1) (Ty.swf h.2.2.2.2.2.2.2.2.1) (Ty.swf h.2.2.2.2.2.2.2.2.2.1) (Ty.swf h.2.2.2.2.2.2.2.2.2.2.1) b0 b1
theorem ajP (s:Sta) (d:Int):(tnth s d).k=(mC s).getD d.toNat 0:=rfl
theorem zk {s:Sta} {R:Nat} (h:ia s R=false) {d:Int} (b0:0≤d) (b1:d≤10) (hR:R.testBit d.toNat=true):(tnth s d).k≠0:=by
 unfold ia at h
 rw[List.any_eq_false] at h
 have q:=h d.toNat (List.mem_range.2 (by omega))
 rw[hR,Bool.true_and] at q
 rw[ajP]
 simpa using q
theorem pN {x:Ins} (h:imay x=true) (hk:x.k=0):okop x.op x.w=true:=by
 unfold imay at h
 rw[Bool.and_eq_true,Bool.and_eq_true] at h
 have q:=h.2.1
 unfold aR at q
 rw[if_pos hk] at q
 unfold okop gY
 simp only[Bool.and_eq_true,Bool.or_eq_true,decide_eq_true_eq,beq_iff_eq] at q ⊢
 omega
theorem ao {p:Prog} {i:Int} {s:Sta} (h:(aJ p i s).2=0):(cE p).2=0∧(0≤i∧i<(p.l.length:Int))∧ia s (vrd (ae p.l i)).toNat=false∧(aJ p i s).1=[opI .add .i64 i 1::staL (aluS (ae p.l i) s)]:=by
 unfold aJ at h ⊢
 by_cases c:(cE p).2=0
 ·rw[if_pos c] at h ⊢
  by_cases c2:(0≤i∧i<(p.l.length:Int))∧smay s=true
  ·rw[if_pos c2] at h ⊢
   by_cases c3:ia s (vrd (ae p.l i)).toNat=true
   ·rw[if_pos c3] at h; cases h
   ·rw[if_neg c3]
    exact⟨c,c2.1,by simpa using c3,rfl⟩
  ·rw[if_neg c2] at h; cases h
 ·rw[if_neg c] at h; exact(c h).elim
theorem ai1 {p:Prog} {i:Int} {s:Sta} {a q:Int} (hs:Sta.ok s) (hl:p.l.length≤maxLen) (h:(aJ p i s).2=0) (hk:gt p.l i 0=0) (ha:ay (tnth s (ae p.l i).d) a=true)
  (hq:ay (bi (ae p.l i) s) q=true) (ba:inK .u64 a=true) (bq:inK .u64 q=true):
  ay (valu (ae p.l i) (tnth s (ae p.l i).d) (bi (ae p.l i) s)) (zdo (ae p.l i).op (ae p.l i).w a q)=true:=by
 obtain⟨h1,h2,h3,_⟩:=ao h
 have hx:=aq hl h1 h2.1 h2.2
 have b:=eE hx
 have hk':(ae p.l i).k=0:=hk
 obtain⟨R,hR,hR2,hR3⟩:=uU hx hk'
 rw[hR,Int.toNat_natCast] at h3
 refine zh ha hq (zZ hs b.1 b.2.1) ?_ (pN hx hk') (fun ho=>zk h3 b.1 b.2.1 ?_) (fun _=> ?_) (bw ba) (bw bq)
 ·unfold bi
  split
  ·exact zZ hs b.2.2.1 b.2.2.2.1
  ·exact za (v:=IntKind.u64.wrap (ae p.l i).imm) (by rw[cr]; omega)
 ·rw[hR3 _ (by omega),Int.toNat_of_nonneg b.1]
  simp[ho]
 ·unfold bi
  split
  ·rename_i hb
   refine zk h3 b.2.2.1 b.2.2.2.1 ?_
   rw[hR3 _ (by omega),Int.toNat_of_nonneg b.2.2.1]
   simp[hb]
  ·show(1:Int)≠0
   omega
theorem ajD {x:Ins} {s:Sta} {q:Int} (hb:x.br=true) (h:ay (tnth s x.s) q=true):ay (bi x s) q=true:=by unfold bi; rw[if_pos hb]; exact h
theorem ajE {x:Ins} {s:Sta} (hb:x.br=false):ay (bi x s) (IntKind.u64.wrap x.imm)=true:=by
 unfold bi; rw[if_neg (by rw[hb]; simp)]; exact qE (by rw[cr]; omega)
theorem alB {x:Ins} {s:Sta} (h:(x.d==0)=true):(aluS x s).r0=valu x (tnth s x.d) (bi x s):=by show tite (x.d==0) _ _=_; rw[h]; rfl
theorem alA {x:Ins} {s:Sta} (h:(x.d==1)=true):(aluS x s).r1=valu x (tnth s x.d) (bi x s):=by show tite (x.d==1) _ _=_; rw[h]; rfl
theorem alz {x:Ins} {s:Sta} (h:(x.d==2)=true):(aluS x s).r2=valu x (tnth s x.d) (bi x s):=by show tite (x.d==2) _ _=_; rw[h]; rfl
theorem aly {x:Ins} {s:Sta} (h:(x.d==3)=true):(aluS x s).r3=valu x (tnth s x.d) (bi x s):=by show tite (x.d==3) _ _=_; rw[h]; rfl
theorem alx {x:Ins} {s:Sta} (h:(x.d==4)=true):(aluS x s).r4=valu x (tnth s x.d) (bi x s):=by show tite (x.d==4) _ _=_; rw[h]; rfl
theorem alw {x:Ins} {s:Sta} (h:(x.d==5)=true):(aluS x s).r5=valu x (tnth s x.d) (bi x s):=by show tite (x.d==5) _ _=_; rw[h]; rfl
theorem alv {x:Ins} {s:Sta} (h:(x.d==6)=true):(aluS x s).r6=valu x (tnth s x.d) (bi x s):=by show tite (x.d==6) _ _=_; rw[h]; rfl
theorem alu {x:Ins} {s:Sta} (h:(x.d==7)=true):(aluS x s).r7=valu x (tnth s x.d) (bi x s):=by show tite (x.d==7) _ _=_; rw[h]; rfl
theorem alt {x:Ins} {s:Sta} (h:(x.d==8)=true):(aluS x s).r8=valu x (tnth s x.d) (bi x s):=by show tite (x.d==8) _ _=_; rw[h]; rfl
theorem als {x:Ins} {s:Sta} (h:(x.d==9)=true):(aluS x s).r9=valu x (tnth s x.d) (bi x s):=by show tite (x.d==9) _ _=_; rw[h]; rfl
theorem ajB {x:Ins} {s:Sta} (h:(x.d==10)=true):(aluS x s).r10=valu x (tnth s x.d) (bi x s):=by show tite (x.d==10) _ _=_; rw[h]; rfl
def row9 (L:List (List Int)) (k:Nat):Ty:=⟨gt L 0 k,gt L 0 (k+1),gt L 0 (k+2),gt L 0 (k+3),gt L 0 (k+4),gt L 0 (k+5),gt L 0 (k+6),gt L 0 (k+7),gt L 0 (k+8)⟩
theorem fh {P:Prop} {p:Prog} {i:Int} {s:Sta} {a q:Int} {t:Ty} (hs:Sta.ok s) (hl:p.l.length≤maxLen) (c4:((aJ p i s).2==0)=true) (c3:(gt p.l i 0==0)=true) (ta:ay (tnth s (ae p.l i).d) a=true) (t3:ay (bi (ae p.l i) s) q=true) (ha:inK .u64 a=true) (hq:inK .u64 q=true)
  (e:t=valu (ae p.l i) (tnth s (ae p.l i).d) (bi (ae p.l i) s)) (h:ay t (if okop (gt p.l i 1) (gt p.l i 2)=true then zdo (gt p.l i 1) (gt p.l i 2) a q else 0)=false):P:=by
 obtain⟨hc,hi2,hu,hL⟩:=ao (eqI c4)
 have T:=ai1 hs hl (eqI c4) (eqI c3) ta t3 ha hq
 rw[←e] at T
 rw[if_pos (show okop (gt p.l i 1) (gt p.l i 2)=true from pN (aq hl hc hi2.1 hi2.2) (eqI c3))] at h
 exact absurd T (Bool.eq_false_iff.1 h)
section
variable {p:Prog} {i:Int} {s:Sta} {a q:Int}
theorem nx_0 {P:Prop} (hs:Sta.ok s) (hl:p.l.length≤maxLen) (c4:((aJ p i s).2==0)=true) (c3:(gt p.l i 0==0)=true) (ta:ay (tnth s (ae p.l i).d) a=true) (t3:ay (bi (ae p.l i) s) q=true) (ha:inK .u64 a=true) (hq:inK .u64 q=true) (c5:(gt p.l i 5==0)=true)
  (h:ay (row9 (aJ p i s).1 1) (if okop (gt p.l i 1) (gt p.l i 2)=true then zdo (gt p.l i 1) (gt p.l i 2) a q else 0)=false):P:=
 fh hs hl c4 c3 ta t3 ha hq (by rw[(ao (eqI c4)).2.2.2]; exact alB c5) h
theorem nx_1 {P:Prop} (hs:Sta.ok s) (hl:p.l.length≤maxLen) (c4:((aJ p i s).2==0)=true) (c3:(gt p.l i 0==0)=true) (ta:ay (tnth s (ae p.l i).d) a=true) (t3:ay (bi (ae p.l i) s) q=true) (ha:inK .u64 a=true) (hq:inK .u64 q=true) (c5:(gt p.l i 5==1)=true)
  (h:ay (row9 (aJ p i s).1 10) (if okop (gt p.l i 1) (gt p.l i 2)=true then zdo (gt p.l i 1) (gt p.l i 2) a q else 0)=false):P:=
 fh hs hl c4 c3 ta t3 ha hq (by rw[(ao (eqI c4)).2.2.2]; exact alA c5) h
theorem nx_2 {P:Prop} (hs:Sta.ok s) (hl:p.l.length≤maxLen) (c4:((aJ p i s).2==0)=true) (c3:(gt p.l i 0==0)=true) (ta:ay (tnth s (ae p.l i).d) a=true) (t3:ay (bi (ae p.l i) s) q=true) (ha:inK .u64 a=true) (hq:inK .u64 q=true) (c5:(gt p.l i 5==2)=true)
  (h:ay (row9 (aJ p i s).1 19) (if okop (gt p.l i 1) (gt p.l i 2)=true then zdo (gt p.l i 1) (gt p.l i 2) a q else 0)=false):P:=
 fh hs hl c4 c3 ta t3 ha hq (by rw[(ao (eqI c4)).2.2.2]; exact alz c5) h
theorem nx_3 {P:Prop} (hs:Sta.ok s) (hl:p.l.length≤maxLen) (c4:((aJ p i s).2==0)=true) (c3:(gt p.l i 0==0)=true) (ta:ay (tnth s (ae p.l i).d) a=true) (t3:ay (bi (ae p.l i) s) q=true) (ha:inK .u64 a=true) (hq:inK .u64 q=true) (c5:(gt p.l i 5==3)=true)
  (h:ay (row9 (aJ p i s).1 28) (if okop (gt p.l i 1) (gt p.l i 2)=true then zdo (gt p.l i 1) (gt p.l i 2) a q else 0)=false):P:=
 fh hs hl c4 c3 ta t3 ha hq (by rw[(ao (eqI c4)).2.2.2]; exact aly c5) h
theorem nx_4 {P:Prop} (hs:Sta.ok s) (hl:p.l.length≤maxLen) (c4:((aJ p i s).2==0)=true) (c3:(gt p.l i 0==0)=true) (ta:ay (tnth s (ae p.l i).d) a=true) (t3:ay (bi (ae p.l i) s) q=true) (ha:inK .u64 a=true) (hq:inK .u64 q=true) (c5:(gt p.l i 5==4)=true)
  (h:ay (row9 (aJ p i s).1 37) (if okop (gt p.l i 1) (gt p.l i 2)=true then zdo (gt p.l i 1) (gt p.l i 2) a q else 0)=false):P:=
 fh hs hl c4 c3 ta t3 ha hq (by rw[(ao (eqI c4)).2.2.2]; exact alx c5) h
theorem nx_5 {P:Prop} (hs:Sta.ok s) (hl:p.l.length≤maxLen) (c4:((aJ p i s).2==0)=true) (c3:(gt p.l i 0==0)=true) (ta:ay (tnth s (ae p.l i).d) a=true) (t3:ay (bi (ae p.l i) s) q=true) (ha:inK .u64 a=true) (hq:inK .u64 q=true) (c5:(gt p.l i 5==5)=true)
  (h:ay (row9 (aJ p i s).1 46) (if okop (gt p.l i 1) (gt p.l i 2)=true then zdo (gt p.l i 1) (gt p.l i 2) a q else 0)=false):P:=
 fh hs hl c4 c3 ta t3 ha hq (by rw[(ao (eqI c4)).2.2.2]; exact alw c5) h
theorem nx_6 {P:Prop} (hs:Sta.ok s) (hl:p.l.length≤maxLen) (c4:((aJ p i s).2==0)=true) (c3:(gt p.l i 0==0)=true) (ta:ay (tnth s (ae p.l i).d) a=true) (t3:ay (bi (ae p.l i) s) q=true) (ha:inK .u64 a=true) (hq:inK .u64 q=true) (c5:(gt p.l i 5==6)=true)
  (h:ay (row9 (aJ p i s).1 55) (if okop (gt p.l i 1) (gt p.l i 2)=true then zdo (gt p.l i 1) (gt p.l i 2) a q else 0)=false):P:=
 fh hs hl c4 c3 ta t3 ha hq (by rw[(ao (eqI c4)).2.2.2]; exact alv c5) h
theorem nx_7 {P:Prop} (hs:Sta.ok s) (hl:p.l.length≤maxLen) (c4:((aJ p i s).2==0)=true) (c3:(gt p.l i 0==0)=true) (ta:ay (tnth s (ae p.l i).d) a=true) (t3:ay (bi (ae p.l i) s) q=true) (ha:inK .u64 a=true) (hq:inK .u64 q=true) (c5:(gt p.l i 5==7)=true)
  (h:ay (row9 (aJ p i s).1 64) (if okop (gt p.l i 1) (gt p.l i 2)=true then zdo (gt p.l i 1) (gt p.l i 2) a q else 0)=false):P:=
 fh hs hl c4 c3 ta t3 ha hq (by rw[(ao (eqI c4)).2.2.2]; exact alu c5) h
theorem nx_8 {P:Prop} (hs:Sta.ok s) (hl:p.l.length≤maxLen) (c4:((aJ p i s).2==0)=true) (c3:(gt p.l i 0==0)=true) (ta:ay (tnth s (ae p.l i).d) a=true) (t3:ay (bi (ae p.l i) s) q=true) (ha:inK .u64 a=true) (hq:inK .u64 q=true) (c5:(gt p.l i 5==8)=true)
  (h:ay (row9 (aJ p i s).1 73) (if okop (gt p.l i 1) (gt p.l i 2)=true then zdo (gt p.l i 1) (gt p.l i 2) a q else 0)=false):P:=
 fh hs hl c4 c3 ta t3 ha hq (by rw[(ao (eqI c4)).2.2.2]; exact alt c5) h
theorem nx_9 {P:Prop} (hs:Sta.ok s) (hl:p.l.length≤maxLen) (c4:((aJ p i s).2==0)=true) (c3:(gt p.l i 0==0)=true) (ta:ay (tnth s (ae p.l i).d) a=true) (t3:ay (bi (ae p.l i) s) q=true) (ha:inK .u64 a=true) (hq:inK .u64 q=true) (c5:(gt p.l i 5==9)=true)
  (h:ay (row9 (aJ p i s).1 82) (if okop (gt p.l i 1) (gt p.l i 2)=true then zdo (gt p.l i 1) (gt p.l i 2) a q else 0)=false):P:=
 fh hs hl c4 c3 ta t3 ha hq (by rw[(ao (eqI c4)).2.2.2]; exact als c5) h
theorem alV {P:Prop} (hs:Sta.ok s) (hl:p.l.length≤maxLen) (c4:((aJ p i s).2==0)=true) (c3:(gt p.l i 0==0)=true) (ta:ay (tnth s (ae p.l i).d) a=true) (t3:ay (bi (ae p.l i) s) q=true) (ha:inK .u64 a=true) (hq:inK .u64 q=true) (c5:(gt p.l i 5==10)=true)
  (h:ay (row9 (aJ p i s).1 91) (if okop (gt p.l i 1) (gt p.l i 2)=true then zdo (gt p.l i 1) (gt p.l i 2) a q else 0)=false):P:=
 fh hs hl c4 c3 ta t3 ha hq (by rw[(ao (eqI c4)).2.2.2]; exact ajB c5) h
end
end Go.Proofs.YtfkhblmeioiciaaGreatDoor
