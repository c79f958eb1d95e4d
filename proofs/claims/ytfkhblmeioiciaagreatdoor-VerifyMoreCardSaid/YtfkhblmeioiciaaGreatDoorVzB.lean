import Derived.Test.YtfkhblmeioiciaaGreatDoorVzA
import Derived.Test.YtfkhblmeioiciaaGreatDoorSdC
set_option maxRecDepth 100000
set_option maxHeartbeats 8000000
set_option linter.defProp false
set_option linter.unusedVariables false
set_option linter.unusedSimpArgs false
namespace Go.Proofs.YtfkhblmeioiciaaGreatDoor
open Go Go.RowKit
def tyV (U:Env) (n:Nat):Ty:=⟨U.i n,U.i (n+1),U.i (n+2),U.i (n+3),U.i (n+4),U.i (n+5),U.i (n+6),U.i (n+7),U.i (n+8)⟩
def staV (U:Env) (n:Nat):Sta:=⟨tyV U n,tyV U (n+9),tyV U (n+18),tyV U (n+27),tyV U (n+36),tyV U (n+45),tyV U (n+54),tyV U (n+63),tyV U (n+72),tyV U (n+81),tyV U (n+90),tyV U (n+99),tyV U (n+108),tyV U (n+117),tyV U (n+126),tyV U (n+135),tyV U (n+144),tyV U (n+153),tyV U (n+162)⟩
section
variable (U:Env)
theorem ars (n:Nat) (t:E):(E.vs n 171 t).D U=ax (staV U n) (t.D U):=by kernel_rfl
theorem aoY (n:Nat):(E.vs n 171 .nil).L U=staL (staV U n):=by kernel_rfl
theorem aj0 (l i t:E):(E.gs l i 1 171 t).D U=ax (ay (l.R U) (i.I U)) (t.D U):=by kernel_rfl
theorem ark (l i:E):(E.gs l i 1 171 .nil).L U=staL (ay (l.R U) (i.I U)):=by kernel_rfl
theorem arq (n:Nat) (t:E):(E.vs n 9 t).D U=d_Ty (tyV U n) (t.D U):=by kernel_rfl
theorem ahe (e l i t:E):(E.tg e l i 1 9 t).D U=d_Ty (tnth (ay (l.R U) (i.I U)) (e.I U)) (t.D U):=by kernel_rfl
theorem ao0 (e l i t:E) (m:Nat):(E.rg e (E.vs m 9 .nil) (E.gs l i 1 99 .nil) (E.gs l i 100 72 t)).D U=ax (sreg (ay (l.R U) (i.I U)) (e.I U) (tyV U m)) (t.D U):=by kernel_rfl
theorem asF (e t:E) (m n:Nat):(E.rg e (E.vs m 9 .nil) (E.vs n 99 .nil) (E.vs (n+99) 72 t)).D U=ax (sreg (staV U n) (e.I U) (tyV U m)) (t.D U):=by kernel_rfl
theorem asB (e:E) (m n:Nat):(E.rg e (E.vs m 9 .nil) (E.vs n 99 .nil) (E.vs (n+99) 72 .nil)).L U=staL (sreg (staV U n) (e.I U) (tyV U m)):=by kernel_rfl
theorem art (e l i t:E) (m k:Nat):(E.rg e (E.vs m 9 .nil) (E.rg e (E.vs k 9 .nil) (E.gs l i 1 99 .nil) .nil) (E.gs l i 100 72 t)).D U=ax (sreg (sreg (ay (l.R U) (i.I U)) (e.I U) (tyV U k)) (e.I U) (tyV U m)) (t.D U):=by kernel_rfl
theorem arv (l i:E) (n:Nat):(E.vs n 9 (.zr 45 (.gs l i 55 117 .nil))).D U=ax {ay (l.R U) (i.I U) with r0:=tyV U n,r1:=tnil,r2:=tnil,r3:=tnil,r4:=tnil,r5:=tnil} []:=by kernel_rfl
end
def tyOf (f:Nat->Int) (n:Nat):Ty:=⟨f n,f (n+1),f (n+2),f (n+3),f (n+4),f (n+5),f (n+6),f (n+7),f (n+8)⟩
def adf (f:Nat->Int):Sta:=⟨tyOf f 0,tyOf f 9,tyOf f 18,tyOf f 27,tyOf f 36,tyOf f 45,tyOf f 54,tyOf f 63,tyOf f 72,tyOf f 81,tyOf f 90,tyOf f 99,tyOf f 108,tyOf f 117,tyOf f 126,tyOf f 135,tyOf f 144,tyOf f 153,tyOf f 162⟩
def vY (m:Nat) (f:Nat->Int):Nat->Int:=fun i=>bif Nat.blt i m then f i else 0
theorem aaL {m:Nat} {f g:Nat->Int} (h:∀i,i<m->f i=g i):vY m f=vY m g:=by
 funext i
 unfold vY
 cases hb:Nat.blt i m with
 | false=>rfl
 | true=>exact h i (by simpa[Nat.blt_eq] using hb)
theorem mE (f:Nat->Int):adf (vY 171 f)=adf f:=by kernel_rfl
theorem o9 (f:Nat->Int):tyOf (vY 9 f) 0=tyOf f 0:=by kernel_rfl
theorem yI {f g:Nat->Int} (h:∀m,m<171->f m=g m):adf f=adf g:=by
 rw[<-mE f,<-mE g,aaL h]
theorem acX {f g:Nat->Int} (h:∀m,m<9->f m=g m):tyOf f 0=tyOf g 0:=by
 rw[<-o9 f,<-o9 g,aaL h]
theorem wt (S:Sta) (r:List Dt):adf (fun m=>dI (ax S r) m)=S:=by kernel_rfl
theorem acY (S:Ty) (r:List Dt):tyOf (fun m=>dI (d_Ty S r) m) 0=S:=by kernel_rfl
theorem agJ {a b:Sta} {r r':List Dt} (h:ax a r=ax b r'):a=b:=by
 rw[<-wt a r,<-wt b r',h]
theorem ajP {a b:Ty} {r r':List Dt} (h:d_Ty a r=d_Ty b r'):a=b:=by
 rw[<-acY a r,<-acY b r',h]
def kint:List CK->Nat->Bool
 | .int _::_,0=>true
 | .int _::ks,m+1=>kint ks m
 | _,_=>false
theorem oK {U:Env} {ds:List Dt} {v0:Nat}:∀(ks:List CK) (n m:Nat),kint ks m=true->eqs U ds v0 n ks->U.i (v0+(n+m))=dI ds (n+m)
 | .int k::ks,n,0,_,h=>h.1
 | .int k::ks,n,m+1,hk,h=>by
   have:=oK ks (n+1) m hk h.2
   rw[show n+(m+1)=n+1+m by omega]
   exact this
theorem sD:∀(a b:List CK) (m:Nat),kint a m=true->kint (a++b) m=true
 | .int _::_,_,0,_=>rfl
 | .int _::a,b,m+1,h=>sD a b m h
theorem aqG:∀m,m<171->kint kSta m=true:=by decide +kernel
theorem aqF:∀m,m<9->kint kTy m=true:=by decide +kernel
theorem aoG {U:Env} {S:Sta} {r:List Dt} {v0:Nat} {ks:List CK} (h:eqs U (ax S r) v0 0 (kSta++ks)):staV U v0=S:=by
 have e:=yI (f:=fun m=>U.i (v0+m)) (g:=fun m=>dI (ax S r) m) (fun m hm=>by
  have:=oK _ 0 m (sD _ ks m (aqG m hm)) h
  rw[bn] at this
  exact this)
 rw[wt] at e
 exact e
theorem aqZ {U:Env} {S:Ty} {r:List Dt} {v0:Nat} {ks:List CK} (h:eqs U (d_Ty S r) v0 0 (kTy++ks)):tyV U v0=S:=by
 have e:=acX (f:=fun m=>U.i (v0+m)) (g:=fun m=>dI (d_Ty S r) m) (fun m hm=>by
  have:=oK _ 0 m (sD _ ks m (aqF m hm)) h
  rw[bn] at this
  exact this)
 rw[acY] at e
 exact e
theorem aq0 {U:Env} {S:Sta} {e:Int} {v0:Nat} (h:eqs U (ax S [.z e]) v0 0 (kSta++[.int .i64])):U.i (v0+171)=e:=by
 have:=oK _ 0 171 (by decide +kernel) h
 exact this
theorem aqY {U:Env} {S:Ty} {e:Int} {v0:Nat} (h:eqs U (d_Ty S [.z e]) v0 0 (kTy++[.int .i64])):U.i (v0+9)=e:=by
 have:=oK _ 0 9 (by decide +kernel) h
 exact this
theorem aq1 {U:Env} {S:Sta} {r:List Dt} {v0:Nat} (h:eqs U (ax S r) v0 0 kSta):staV U v0=S:=aoG (ks:=[]) (by rw[List.append_nil];exact h)
theorem vI {U:Env} {S:Ty} {r:List Dt} {v0:Nat} (h:eqs U (d_Ty S r) v0 0 kTy):tyV U v0=S:=aqZ (ks:=[]) (by rw[List.append_nil];exact h)
theorem yz {U U':Env} {n m:Nat} (h:Ag n U U') (hm:m+9<=n):tyV U' m=tyV U m:=by
 have e:=acX (f:=fun i=>U'.i (m+i)) (g:=fun i=>U.i (m+i)) (fun i hi=>((h (m+i) (by omega)).1).symm)
 exact e
theorem ade {U U':Env} {n m:Nat} (h:Ag n U U') (hm:m+171<=n):staV U' m=staV U m:=by
 have e:=yI (f:=fun i=>U'.i (m+i)) (g:=fun i=>U.i (m+i)) (fun i hi=>((h (m+i) (by omega)).1).symm)
 exact e
section
variable {sp:Spec} {G:Env->E->Prop} {U:Env} {I:Nat->List Dt->Prop}
theorem aK {key v0:Nat} {ks:List CK} {args:E} {t:Tr} (xs:List Dt) (hD:args.D U=xs) (hp:sp.pre key xs) (h:eqs U (sp.F key xs) v0 0 ks->t.asks sp G U I):(Tr.call key ks args v0 t).asks sp G U I:=by
 subst hD
 exact⟨hp,h⟩
theorem aP {lv:Nat} {P:List Dt->Prop} {args:E} (h:P (args.D U)):(Tr.next lv args).asks sp G U (upd I lv P):=by
 show upd I lv P lv _
 rw[af];exact h
theorem af4 {lv lv':Nat} {P:List Dt->Prop} {args:E} (hn:lv≠lv') (h:(Tr.next lv args).asks sp G U I):(Tr.next lv args).asks sp G U (upd I lv' P):=by
 show upd I lv' P lv _
 rw[mB _ _ hn];exact h
end
def agK (x:Ins) (t:List Dt):List Dt:=.z x.k::.z x.op::.z x.w::.z x.sz::.z (b2i x.br)::.z x.d::.z x.s::.z x.off::.z x.imm::t
theorem aru (U:Env) (l i t:E):(E.ins l i t).D U=agK (aa (l.R U) (i.I U)) (t.D U):=by kernel_rfl
def insR (x:Ins):List (List Int):=[[x.k,x.op,x.w,x.sz,b2i x.br,x.d,x.s,x.off,x.imm]]
theorem aoX (U:Env) (l i:E):(E.lq .ln (.ins l i .nil)).R U=insR (aa (l.R U) (i.I U)):=by kernel_rfl
theorem agn (x:Ins):aa (insR x) 0=x:=by
 show(⟨x.k,x.op,x.w,x.sz,b2i x.br==1,x.d,x.s,x.off,x.imm⟩:Ins)=x
 rw[b2i_one]
def addW (w n:E):E:=.bin .or .u64 w (.bin .shl .u64 (.lit 1) n)
def putJ (key:Nat) (n:E) (S:E->E) (w T g:E) (v:Nat) (k:E->E->E->Tr):Tr:=
 .call key (kSta++[.int .i64]) (.gs T n 1 171 (S .nil)) v
  (.br (.leq (.lq .ln (.vs v 171 .nil)) (.lq .ln (.gs T n 1 171 .nil)))
   (k w T g)
   (k (addW w n) (.lput T n (.cb (.tt true) (.vs v 171 .nil))) (.lset g n 0 (.bin .add .i64 (.get g n 0) (.lit 1)))))
def putT (n:E) (S:E->E) (w T g:E) (v:Nat) (k:E->E->E->Tr):Tr:=
 .br (.lt n (.lit 0)) .panic
  (.br (.lt n (.lit 64))
   (.br (.lt n (.len T))
    (.br (.getb T n 0)
     (.br (.lt n (.len g))
      (.br (.lt (.lit 8) (.get g n 0)) (putJ 17 n S w T g v k) (putJ 16 n S w T g v k))
      (.stuck 54))
     (k (addW w n) (.lput T n (.cb (.tt true) (S .nil))) g))
    (.stuck 270))
   .panic)
section
variable {sp:Spec} {G:Env->E->Prop} {U:Env} {I:Nat->List Dt->Prop} {p:Prog} {r:VR} {n w T g:E} {S:E->E} {s:Sta} {v:Nat} {k:E->E->E->Tr}
theorem vj {key:Nat} {b:Bool} (hF:∀a c:Sta,sp.F key (ax a (ax c []))=ax (kG b a c) [.z (serr a c)]) (hP:∀xs,sp.pre key xs) (hw:w.I U=r.w) (hT:T.R U=r.T) (hg:g.R U=r.g) {m:Int} (hn:n.I U=m) (hS:∀t:E,(S t).D U=ax s (t.D U))
  (h1:gt r.T m 0=1) (h8:decide (8<gt r.g m 0)=b)
  (hk:∀w' T' g':E,w'.I U=(vput r (m,s)).w->T'.R U=(vput r (m,s)).T->g'.R U=(vput r (m,s)).g->(k w' T' g').asks sp G U I):(putJ key n S w T g v k).asks sp G U I:=by
 refine⟨hP _,fun e=> ?_⟩
 have e0:(E.gs T n 1 171 (S .nil)).D U=ax (ay r.T m) (ax s []):=by
  rw[aj0,hT,hn,hS];rfl
 rw[e0,hF] at e
 have eS:=aoG e
 have ej:kG b (ay r.T m) s=vjn r (m,s):=by unfold vjn;rw[h8]
 rw[ej] at eS
 have L1:(E.vs v 171 .nil).L U=staL (vjn r (m,s)):=by rw[aoY,eS]
 have L2:(E.gs T n 1 171 .nil).L U=staL (ay r.T m):=by rw[ark,hT,hn]
 have hB:(E.leq (.lq .ln (.vs v 171 .nil)) (.lq .ln (.gs T n 1 171 .nil))).B U=true↔staL (vjn r (m,s))=staL (ay r.T m):=by
  simp only[E.B,E.R,List.nil_append,L1,L2,dl,thm5,and_true]
 refine⟨fun c=> ?_,fun c=> ?_⟩
 ·have hv:vput r (m,s)=r:=by unfold vput;rw[if_pos h1,if_pos (hB.1 c)]
  exact hk _ _ _ (by rw[hv];exact hw) (by rw[hv];exact hT) (by rw[hv];exact hg)
 ·have hc:¬staL (vjn r (m,s))=staL (ay r.T m):=fun e=>by rw[hB.2 e] at c;cases c
  have hv:vput r (m,s)=⟨vbit r.w m,r.T.set m.toNat (1::staL (vjn r (m,s))),st r.g m 0 (opI .add .i64 (gt r.g m 0) 1)⟩:=by unfold vput;rw[if_pos h1,if_neg hc]
  refine hk _ _ _ (by rw[hv];simp only[addW,E.I,hw,hn];rfl) ?_ ?_
  ·rw[hv]
   simp only[E.R,E.L,E.B,hT,hn,L1]
   rfl
  ·rw[hv]
   simp only[E.R,E.I,hg,hn]
theorem vi (hF:∀a c:Sta,sp.F 17 (ax a (ax c []))=ax (kG true a c) [.z (serr a c)]) (hF':∀a c:Sta,sp.F 16 (ax a (ax c []))=ax (kG false a c) [.z (serr a c)]) (hP:∀xs,sp.pre 17 xs) (hP':∀xs,sp.pre 16 xs) (h:VI p r) (hw:w.I U=r.w) (hT:T.R U=r.T) (hg:g.R U=r.g) {m:Int} (hn:n.I U=m) (hm:0<=m/\m<(p.l.length:Int)) (hl:p.l.length<=64) (hS:∀t:E,(S t).D U=ax s (t.D U)) (hL:(S .nil).L U=staL s)
  (hk:∀w' T' g':E,w'.I U=(vput r (m,s)).w->T'.R U=(vput r (m,s)).T->g'.R U=(vput r (m,s)).g->(k w' T' g').asks sp G U I):(putT n S w T g v k).asks sp G U I:=by
 have lt:∀z:Int,(E.lt n (.lit z)).B U=decide (m<z):=fun z=>by simp only[E.B,E.I,hn]
 refine⟨fun c=> ?_,fun _=>⟨fun _=>⟨fun _=>⟨fun c1=>⟨fun _=>⟨fun c2=> ?_,fun c2=> ?_⟩,fun c=> ?_⟩,fun c1=> ?_⟩,fun c=> ?_⟩,fun c=> ?_⟩⟩
 ·rw[lt] at c
  have:=thm3 c
  exact absurd hm.1 (by omega)
 ·have h1:gt r.T m 0=1:=by
   simp only[E.B,hT,hn,dl] at c1;exact c1
  have h8:decide (8<gt r.g m 0)=true:=by
   simp only[E.B,E.I,hg,hn] at c2;exact c2
  exact vj hF hP hw hT hg hn hS h1 h8 hk
 ·have h1:gt r.T m 0=1:=by
   simp only[E.B,hT,hn,dl] at c1;exact c1
  have h8:decide (8<gt r.g m 0)=false:=by
   simp only[E.B,E.I,hg,hn] at c2;exact c2
  exact vj hF' hP' hw hT hg hn hS h1 h8 hk
 ·simp only[E.B,E.I,hg,hn,h.g] at c
  have:=thm2 c
  omega
 ·have h1:¬gt r.T m 0=1:=by
   simp only[E.B,hT,hn] at c1
   intro e;rw[e] at c1;cases c1
  have hv:vput r (m,s)=⟨vbit r.w m,r.T.set m.toNat (1::staL s),r.g⟩:=by unfold vput;rw[if_neg h1]
  refine hk _ _ _ (by rw[hv];simp only[addW,E.I,hw,hn];rfl) ?_ (by rw[hv];exact hg)
  rw[hv]
  simp only[E.R,E.L,E.B,hT,hn,hL]
  rfl
 ·simp only[E.B,E.I,hT,hn,h.T] at c
  have:=thm2 c
  omega
 ·rw[lt] at c
  have:=thm2 c
  omega
end
end Go.Proofs.YtfkhblmeioiciaaGreatDoor
