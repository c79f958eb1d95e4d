import Derived.Test.YtfkhblmeioiciaaGreatDoorAfZ
import Derived.Test.YtfkhblmeioiciaaGreatDoorProg
import Derived.Laws.Externs
set_option maxRecDepth 100000
set_option maxHeartbeats 8000000
set_option linter.defProp false
set_option linter.unusedVariables false
set_option linter.unusedSimpArgs false
namespace Go.Proofs.YtfkhblmeioiciaaGreatDoor
open Go Go.RowKit
def tyV (U:Env) (n:Nat):Ty:=⟨U.i n,U.i (n+1),U.i (n+2),U.i (n+3),U.i (n+4),U.i (n+5),U.i (n+6),U.i (n+7),U.i (n+8)⟩
def staV (U:Env) (n:Nat):Sta:=⟨tyV U n,tyV U (n+9),tyV U (n+18),tyV U (n+27),tyV U (n+36),tyV U (n+45),tyV U (n+54),tyV U (n+63),tyV U (n+72),tyV U (n+81),tyV U (n+90),tyV U (n+99),tyV U (n+108),tyV U (n+117),tyV U (n+126),tyV U (n+135),tyV U (n+144),tyV U (n+153),tyV U (n+162)⟩
section
variable (U:Env)
theorem yr (n:Nat) (t:E):(E.vs n 171 t).D U=av (staV U n) (t.D U):=by kernel_rfl
theorem ad7 (n:Nat):(E.vs n 171 .nil).L U=staL (staV U n):=by kernel_rfl
theorem anf (l i t:E):(E.gs l i 1 171 t).D U=av (ax (l.R U) (i.I U)) (t.D U):=by kernel_rfl
theorem avn (l i:E):(E.gs l i 1 171 .nil).L U=staL (ax (l.R U) (i.I U)):=by kernel_rfl
theorem anb (n:Nat) (t:E):(E.vs n 9 t).D U=d_Ty (tyV U n) (t.D U):=by kernel_rfl
theorem ajZ (e l i t:E):(E.tg e l i 1 9 t).D U=d_Ty (tnth (ax (l.R U) (i.I U)) (e.I U)) (t.D U):=by kernel_rfl
theorem ajY (e:E) (n:Nat) (t:E):(E.tn e n 9 t).D U=d_Ty (tnth (staV U n) (e.I U)) (t.D U):=by kernel_rfl
theorem asG (e l i t:E) (m:Nat):(E.rg e (E.vs m 9 .nil) (E.gs l i 1 99 .nil) (E.gs l i 100 72 t)).D U=av (sreg (ax (l.R U) (i.I U)) (e.I U) (tyV U m)) (t.D U):=by kernel_rfl
theorem anc (e t:E) (m n:Nat):(E.rg e (E.vs m 9 .nil) (E.vs n 99 .nil) (E.vs (n+99) 72 t)).D U=av (sreg (staV U n) (e.I U) (tyV U m)) (t.D U):=by kernel_rfl
theorem asF (e:E) (m n:Nat):(E.rg e (E.vs m 9 .nil) (E.vs n 99 .nil) (E.vs (n+99) 72 .nil)).L U=staL (sreg (staV U n) (e.I U) (tyV U m)):=by kernel_rfl
theorem avu (e l i t:E) (m k:Nat):(E.rg e (E.vs m 9 .nil) (E.rg e (E.vs k 9 .nil) (E.gs l i 1 99 .nil) .nil) (E.gs l i 100 72 t)).D U=av (sreg (sreg (ax (l.R U) (i.I U)) (e.I U) (tyV U k)) (e.I U) (tyV U m)) (t.D U):=by kernel_rfl
theorem avv (l i:E) (n:Nat):(E.vs n 9 (.zr 45 (.gs l i 55 117 .nil))).D U=av {ax (l.R U) (i.I U) with r0:=tyV U n,r1:=tnil,r2:=tnil,r3:=tnil,r4:=tnil,r5:=tnil} []:=by kernel_rfl
theorem apx (n:Nat) (r:List VK):varsD U n (bG r)=av (staV U n) (varsD U (n+171) r):=by kernel_rfl
end
def tyOf (f:Nat->Int) (n:Nat):Ty:=⟨f n,f (n+1),f (n+2),f (n+3),f (n+4),f (n+5),f (n+6),f (n+7),f (n+8)⟩
def afG (f:Nat->Int):Sta:=⟨tyOf f 0,tyOf f 9,tyOf f 18,tyOf f 27,tyOf f 36,tyOf f 45,tyOf f 54,tyOf f 63,tyOf f 72,tyOf f 81,tyOf f 90,tyOf f 99,tyOf f 108,tyOf f 117,tyOf f 126,tyOf f 135,tyOf f 144,tyOf f 153,tyOf f 162⟩
def yp (m:Nat) (f:Nat->Int):Nat->Int:=fun i=>bif Nat.blt i m then f i else 0
theorem acQ {m:Nat} {f g:Nat->Int} (h:∀i,i<m->f i=g i):yp m f=yp m g:=by
 funext i
 unfold yp
 cases hb:Nat.blt i m with
 | false=>rfl
 | true=>exact h i (by simpa[Nat.blt_eq] using hb)
theorem nY (f:Nat->Int):afG (yp 171 f)=afG f:=by kernel_rfl
theorem qB (f:Nat->Int):tyOf (yp 9 f) 0=tyOf f 0:=by kernel_rfl
theorem aaX {f g:Nat->Int} (h:∀m,m<171->f m=g m):afG f=afG g:=by
 rw[<-nY f,<-nY g,acQ h]
theorem afp {f g:Nat->Int} (h:∀m,m<9->f m=g m):tyOf f 0=tyOf g 0:=by
 rw[<-qB f,<-qB g,acQ h]
theorem yM (S:Sta) (r:List Dt):afG (fun m=>dI (av S r) m)=S:=by kernel_rfl
theorem afq (S:Ty) (r:List Dt):tyOf (fun m=>dI (d_Ty S r) m) 0=S:=by kernel_rfl
theorem qf {a b:Sta} {r r':List Dt} (h:av a r=av b r'):a=b:=by
 rw[<-yM a r,<-yM b r',h]
theorem acL {a b:Ty} {r r':List Dt} (h:d_Ty a r=d_Ty b r'):a=b:=by
 rw[<-afq a r,<-afq b r',h]
def kint:List CK->Nat->Bool
 | .int _::_,0=>true
 | .int _::ks,m+1=>kint ks m
 | _,_=>false
theorem pX {U:Env} {ds:List Dt} {v0:Nat}:∀(ks:List CK) (n m:Nat),kint ks m=true->eqs U ds v0 n ks->U.i (v0+(n+m))=dI ds (n+m)
 | .int k::ks,n,0,_,h=>h.1
 | .int k::ks,n,m+1,hk,h=>by
   have:=pX ks (n+1) m hk h.2
   rw[show n+(m+1)=n+1+m by omega]
   exact this
theorem uF:∀(a b:List CK) (m:Nat),kint a m=true->kint (a++b) m=true
 | .int _::_,_,0,_=>rfl
 | .int _::a,b,m+1,h=>uF a b m h
theorem auF:∀m,m<171->kint kSta m=true:=by decide +kernel
theorem auE:∀m,m<9->kint kTy m=true:=by decide +kernel
theorem amT {U:Env} {S:Sta} {r:List Dt} {v0:Nat} {ks:List CK} (h:eqs U (av S r) v0 0 (kSta++ks)):staV U v0=S:=by
 have e:=aaX (f:=fun m=>U.i (v0+m)) (g:=fun m=>dI (av S r) m) (fun m hm=>by
  have:=pX _ 0 m (uF _ ks m (auF m hm)) h
  rw[bt] at this
  exact this)
 rw[yM] at e
 exact e
theorem aso {U:Env} {S:Ty} {r:List Dt} {v0:Nat} {ks:List CK} (h:eqs U (d_Ty S r) v0 0 (kTy++ks)):tyV U v0=S:=by
 have e:=afp (f:=fun m=>U.i (v0+m)) (g:=fun m=>dI (d_Ty S r) m) (fun m hm=>by
  have:=pX _ 0 m (uF _ ks m (auE m hm)) h
  rw[bt] at this
  exact this)
 rw[afq] at e
 exact e
theorem aos {U:Env} {S:Sta} {e:Int} {v0:Nat} (h:eqs U (av S [.z e]) v0 0 (kSta++[.int .i64])):U.i (v0+171)=e:=by
 have:=pX _ 0 171 (by decide +kernel) h
 exact this
theorem aor {U:Env} {S:Ty} {e:Int} {v0:Nat} (h:eqs U (d_Ty S [.z e]) v0 0 (kTy++[.int .i64])):U.i (v0+9)=e:=by
 have:=pX _ 0 9 (by decide +kernel) h
 exact this
theorem aot {U:Env} {S:Sta} {r:List Dt} {v0:Nat} (h:eqs U (av S r) v0 0 kSta):staV U v0=S:=amT (ks:=[]) (by rw[List.append_nil];exact h)
theorem jw {U:Env} {S:Ty} {r:List Dt} {v0:Nat} (h:eqs U (d_Ty S r) v0 0 kTy):tyV U v0=S:=aso (ks:=[]) (by rw[List.append_nil];exact h)
theorem mM {U U':Env} {n m:Nat} (h:Ag n U U') (hm:m+9<=n):tyV U' m=tyV U m:=by
 have e:=afp (f:=fun i=>U'.i (m+i)) (g:=fun i=>U.i (m+i)) (fun i hi=>((h (m+i) (by omega)).1).symm)
 exact e
theorem nX {U U':Env} {n m:Nat} (h:Ag n U U') (hm:m+171<=n):staV U' m=staV U m:=by
 have e:=aaX (f:=fun i=>U'.i (m+i)) (g:=fun i=>U.i (m+i)) (fun i hi=>((h (m+i) (by omega)).1).symm)
 exact e
section
variable {sp:Spec} {G:Env->E->Prop} {U:Env} {I:Nat->List Dt->Prop}
theorem ar {key v0:Nat} {ks:List CK} {args:E} {t:Tr} (xs:List Dt) (hD:args.D U=xs) (hp:sp.pre key xs) (h:eqs U (sp.F key xs) v0 0 ks->t.asks sp G U I):(Tr.call key ks args v0 t).asks sp G U I:=by
 subst hD
 exact⟨hp,h⟩
theorem au {lv:Nat} {P:List Dt->Prop} {args:E} (h:P (args.D U)):(Tr.next lv args).asks sp G U (upd I lv P):=by
 show upd I lv P lv _
 rw[ai];exact h
theorem xJ {lv lv':Nat} {P:List Dt->Prop} {args:E} (hn:lv≠lv') (h:(Tr.next lv args).asks sp G U I):(Tr.next lv args).asks sp G U (upd I lv' P):=by
 show upd I lv' P lv _
 rw[nU _ _ hn];exact h
end
def aas (x:Ins) (t:List Dt):List Dt:=.z x.k::.z x.op::.z x.w::.z x.sz::.z (b2i x.br)::.z x.d::.z x.s::.z x.off::.z x.imm::t
theorem ane (U:Env) (l i t:E):(E.ins l i t).D U=aas (ab (l.R U) (i.I U)) (t.D U):=by kernel_rfl
def insR (x:Ins):List (List Int):=[[x.k,x.op,x.w,x.sz,b2i x.br,x.d,x.s,x.off,x.imm]]
theorem ad6 (U:Env) (l i:E):(E.lq .ln (.ins l i .nil)).R U=insR (ab (l.R U) (i.I U)):=by kernel_rfl
theorem ai0 (x:Ins):ab (insR x) 0=x:=by
 show(⟨x.k,x.op,x.w,x.sz,b2i x.br==1,x.d,x.s,x.off,x.imm⟩:Ins)=x
 rw[b2i_one]
def addW (w n:E):E:=.bin .or .u64 w (.bin .shl .u64 (.lit 1) n)
def putJ (key:Nat) (n:E) (S:E->E) (w T g:E) (v:Nat) (k:E->E->E->Tr):Tr:=
 .call key (kSta++[.int .i64]) (.gs T n 1 171 (S .nil)) v
  (.br (.leq (.lq .ln (.vs v 171 .nil)) (.lq .ln (.gs T n 1 171 .nil)))
   (k w T g)
   (k (addW w n) (.lput T n (.cb (.tt true) (.vs v 171 .nil))) (.lset g n 0 (.bin .add .i64 (.get g n 0) (.lit 1)))))
def putT (n:E) (S:E->E) (w T g:E) (v:Nat) (k:E->E->E->Tr):Tr:=
 .br (.lt n (.lit 0)) .panic
  (.br (.lt n (.lit 64))
   (.br (.lt n (.len T))
    (.br (.getb T n 0)
     (.br (.lt n (.len g))
      (.br (.lt (.lit 8) (.get g n 0)) (putJ 17 n S w T g v k) (putJ 16 n S w T g v k))
      (.stuck 54))
     (k (addW w n) (.lput T n (.cb (.tt true) (S .nil))) g))
    (.stuck 270))
   .panic)
section
variable {sp:Spec} {G:Env->E->Prop} {U:Env} {I:Nat->List Dt->Prop} {p:Prog} {r:VR} {n w T g:E} {S:E->E} {s:Sta} {v:Nat} {k:E->E->E->Tr}
theorem xy {key:Nat} {b:Bool} (hF:∀a c:Sta,sp.F key (av a (av c []))=av (jF b a c) [.z (serr a c)]) (hP:∀xs,sp.pre key xs) (hw:w.I U=r.w) (hT:T.R U=r.T) (hg:g.R U=r.g) {m:Int} (hn:n.I U=m) (hS:∀t:E,(S t).D U=av s (t.D U))
  (h1:gt r.T m 0=1) (h8:decide (8<gt r.g m 0)=b)
  (hk:∀w' T' g':E,w'.I U=(vput r (m,s)).w->T'.R U=(vput r (m,s)).T->g'.R U=(vput r (m,s)).g->(k w' T' g').asks sp G U I):(putJ key n S w T g v k).asks sp G U I:=by
 refine⟨hP _,fun e=> ?_⟩
 have e0:(E.gs T n 1 171 (S .nil)).D U=av (ax r.T m) (av s []):=by
  rw[anf,hT,hn,hS];rfl
 rw[e0,hF] at e
 have eS:=amT e
 have ej:jF b (ax r.T m) s=vjn r (m,s):=by unfold vjn;rw[h8]
 rw[ej] at eS
 have L1:(E.vs v 171 .nil).L U=staL (vjn r (m,s)):=by rw[ad7,eS]
 have L2:(E.gs T n 1 171 .nil).L U=staL (ax r.T m):=by rw[avn,hT,hn]
 have hB:(E.leq (.lq .ln (.vs v 171 .nil)) (.lq .ln (.gs T n 1 171 .nil))).B U=true↔staL (vjn r (m,s))=staL (ax r.T m):=by
  simp only[E.B,E.R,List.nil_append,L1,L2,db,thm5,and_true]
 refine⟨fun c=> ?_,fun c=> ?_⟩
 ·have hv:vput r (m,s)=r:=by unfold vput;rw[if_pos h1,if_pos (hB.1 c)]
  exact hk _ _ _ (by rw[hv];exact hw) (by rw[hv];exact hT) (by rw[hv];exact hg)
 ·have hc:¬staL (vjn r (m,s))=staL (ax r.T m):=fun e=>by rw[hB.2 e] at c;cases c
  have hv:vput r (m,s)=⟨vbit r.w m,r.T.set m.toNat (1::staL (vjn r (m,s))),st r.g m 0 (opI .add .i64 (gt r.g m 0) 1)⟩:=by unfold vput;rw[if_pos h1,if_neg hc]
  refine hk _ _ _ (by rw[hv];simp only[addW,E.I,hw,hn];rfl) ?_ ?_
  ·rw[hv]
   simp only[E.R,E.L,E.B,hT,hn,L1]
   rfl
  ·rw[hv]
   simp only[E.R,E.I,hg,hn]
theorem xx (hF:∀a c:Sta,sp.F 17 (av a (av c []))=av (jF true a c) [.z (serr a c)]) (hF':∀a c:Sta,sp.F 16 (av a (av c []))=av (jF false a c) [.z (serr a c)]) (hP:∀xs,sp.pre 17 xs) (hP':∀xs,sp.pre 16 xs) (h:VI p r) (hw:w.I U=r.w) (hT:T.R U=r.T) (hg:g.R U=r.g) {m:Int} (hn:n.I U=m) (hm:0<=m/\m<(p.l.length:Int)) (hl:p.l.length<=64) (hS:∀t:E,(S t).D U=av s (t.D U)) (hL:(S .nil).L U=staL s)
  (hk:∀w' T' g':E,w'.I U=(vput r (m,s)).w->T'.R U=(vput r (m,s)).T->g'.R U=(vput r (m,s)).g->(k w' T' g').asks sp G U I):(putT n S w T g v k).asks sp G U I:=by
 have lt:∀z:Int,(E.lt n (.lit z)).B U=decide (m<z):=fun z=>by simp only[E.B,E.I,hn]
 refine⟨fun c=> ?_,fun _=>⟨fun _=>⟨fun _=>⟨fun c1=>⟨fun _=>⟨fun c2=> ?_,fun c2=> ?_⟩,fun c=> ?_⟩,fun c1=> ?_⟩,fun c=> ?_⟩,fun c=> ?_⟩⟩
 ·rw[lt] at c
  have:=thm3 c
  exact absurd hm.1 (by omega)
 ·have h1:gt r.T m 0=1:=by
   simp only[E.B,hT,hn,db] at c1;exact c1
  have h8:decide (8<gt r.g m 0)=true:=by
   simp only[E.B,E.I,hg,hn] at c2;exact c2
  exact xy hF hP hw hT hg hn hS h1 h8 hk
 ·have h1:gt r.T m 0=1:=by
   simp only[E.B,hT,hn,db] at c1;exact c1
  have h8:decide (8<gt r.g m 0)=false:=by
   simp only[E.B,E.I,hg,hn] at c2;exact c2
  exact xy hF' hP' hw hT hg hn hS h1 h8 hk
 ·simp only[E.B,E.I,hg,hn,h.g] at c
  have:=thm2 c
  omega
 ·have h1:¬gt r.T m 0=1:=by
   simp only[E.B,hT,hn] at c1
   intro e;rw[e] at c1;cases c1
  have hv:vput r (m,s)=⟨vbit r.w m,r.T.set m.toNat (1::staL s),r.g⟩:=by unfold vput;rw[if_neg h1]
  refine hk _ _ _ (by rw[hv];simp only[addW,E.I,hw,hn];rfl) ?_ (by rw[hv];exact hg)
  rw[hv]
  simp only[E.R,E.L,E.B,hT,hn,hL]
  rfl
 ·simp only[E.B,E.I,hT,hn,h.T] at c
  have:=thm2 c
  omega
 ·rw[lt] at c
  have:=thm2 c
  omega
end
open Go.ChangeShapes Go.WideShapes
theorem Ins.eta (a:Ins):(⟨a.k,a.op,a.w,a.sz,a.br,a.d,a.s,a.off,a.imm⟩:Ins)=a:=rfl
def Ins.ok (a:Ins):Prop:=inK .i8 a.k=true/\inK .i8 a.op=true/\inK .i8 a.w=true/\inK .i8 a.sz=true/\inK .i8 a.d=true/\inK .i8 a.s=true/\inK .i64 a.off=true/\inK .i64 a.imm=true
def kIns:List CK:=[.int .i8,.int .i8,.int .i8,.int .i8,.bool,.int .i8,.int .i8,.int .i64,.int .i64]
theorem Prog.eta (a:Prog):(⟨a.ctx,a.l⟩:Prog)=a:=rfl
def Prog.ok (a:Prog):Prop:=inK .i64 a.ctx=true/\RowsIn (kN 9 220090000) a.l
def lG:List CK:=[.int .i64,.sl (kN 9 220090000) 39]
def nO:List C:=[.int .i8 (.lit 0),.int .i8 (.lit 0),.int .i8 (.lit 0),.int .i8 (.lit 0),.bool (.tt false),.int .i8 (.lit 0),.int .i8 (.lit 0),.int .i64 (.lit 0),.int .i64 (.lit 0)]
theorem jY:Tryz.prog.eqGuardType Tryz.prog.depth 39=false:=by kernel_rfl
theorem aav:Tryz.prog.cellsOf 39=9:=by kernel_rfl
theorem aaw:Tryz.prog.cellsOf 37=1:=by kernel_rfl
theorem adQ:Tryz.prog.cellsOf 4=1:=by kernel_rfl
theorem ad3:Tryz.prog.cellsOf 3=1:=by kernel_rfl
theorem auD (vs:List Value) (hv:aF vs nO):Tryz.prog.keyLits 6 39 vs=some (bJ vs):=by
 obtain⟨x0,_,rfl,g0,hv⟩:=ak hv
 obtain⟨x1,_,rfl,g1,hv⟩:=ak hv
 obtain⟨x2,_,rfl,g2,hv⟩:=ak hv
 obtain⟨x3,_,rfl,g3,hv⟩:=ak hv
 obtain⟨x4,_,rfl,hv⟩:=cQ hv
 obtain⟨x5,_,rfl,g5,hv⟩:=ak hv
 obtain⟨x6,_,rfl,g6,hv⟩:=ak hv
 obtain⟨x7,_,rfl,g7,hv⟩:=ak hv
 obtain⟨x8,_,rfl,g8,hv⟩:=ak hv
 obtain rfl:=aU hv
 simp[Program.keyLits,Tryz.underlying39,Tryz.underlying37,Tryz.underlying4,Tryz.underlying3,aav,aaw,adQ,ad3,xV,bJ,g0,g1,g2,g3,g5,g6,g7,g8]
theorem au0 (vs:List Value) (hv:aF vs nO):(Value.agg vs.toArray).formed Tryz.prog 39=true:=by
 obtain⟨x0,_,rfl,g0,hv⟩:=ak hv
 obtain⟨x1,_,rfl,g1,hv⟩:=ak hv
 obtain⟨x2,_,rfl,g2,hv⟩:=ak hv
 obtain⟨x3,_,rfl,g3,hv⟩:=ak hv
 obtain⟨x4,_,rfl,hv⟩:=cQ hv
 obtain⟨x5,_,rfl,g5,hv⟩:=ak hv
 obtain⟨x6,_,rfl,g6,hv⟩:=ak hv
 obtain⟨x7,_,rfl,g7,hv⟩:=ak hv
 obtain⟨x8,_,rfl,g8,hv⟩:=ak hv
 obtain rfl:=aU hv
 kernel_rfl
theorem pY (vs us:List Value) (hv:aF vs nO) (hu:aF us nO) (w:World):(Op.equal 39 (.agg vs.toArray) (.agg us.toArray)).run Tryz.prog w=.ok (eqVs vs us) w:=
 eh (by kernel_rfl) au0 6 auD vs us hv hu w
def tys_LiB:List (Nat×TI):=[(3,tiq3),
 (4,tiq4),
 (37,gP),
 (39,yG)]
theorem afn:(tys_LiB.all fun p=>ckTI Tryz.prog p.1 p.2)=true:=by kernel_rfl
theorem vM:(tys_LiB.all fun p=>!p.2.eqok||((Nat.beq p.1 39&&aN p.2.zero nO)))=true:=by kernel_rfl
theorem ae1:(tys_LiB.all fun p=>!p.2.keyok)=true:=by kernel_rfl
theorem eo:∀t i,(t,i)∈tys_LiB->TIok Tryz.prog t i:=by
 intro t i h
 refine bB (cz (f:=ckTI Tryz.prog) afn h) (fun he=> ?_) (fun he=> ?_) (fun he=> ?_)
 ·have h1:=thm7.1 vM (t,i) h
  simp only[he,Bool.not_true,Bool.false_or,bH,thm0] at h1
  have hs:=h1.2
  obtain rfl:=thm1 h1.1
  exact fun vs us hv hu=>pY vs us (an hs hv) (an hs hu)
 ·have h1:=thm7.1 vM (t,i) h
  simp only[he,Bool.not_true,Bool.false_or,bH,thm0] at h1
  have hs:=h1.2
  obtain rfl:=thm1 h1.1
  exact jY
 ·have h1:=thm7.1 ae1 (t,i) h
  simp[he] at h1
def oO (key:Nat):Sm:=⟨35,key,[.one (.int .i64),.one (.int .i64),.one (.int .i64)],[.one .bool],false⟩
def ox (n:Int) (a:Int) (b:Int):List Dt:=[.z (b2i ((decide (a<=n)&&decide (n<=b))))]
def fN:List Dt->List Dt
 | [.z x0,.z x1,.z x2]=>ox x0 x1 x2
 | _=>[]
def sT_iwi:Tr:=
(.br (.lt (.var 0) (.var 1))
(.leaf (.cb (.tt false) .nil))
(.leaf (.cb (.not (.lt (.var 2) (.var 0))) .nil)))
def anU:Spec:={F:=fun k=>match k with | _=>fun _=>[],pre:=fun _ _=>True}
theorem atM:ap tys_LiB [] [] [] [] 200 Tryz.f35 [.one (.int .i64),.one (.int .i64),.one (.int .i64)] [.one .bool] false [.int .i64,.int .i64,.int .i64] sT_iwi:=⟨by kernel_rfl,by kernel_rfl,by kernel_rfl⟩
def aD:=And.intro Ins.eta (Prog.eta)
theorem ato (n:Int) (hn:inK .i64 n=true) (a:Int) (ha:inK .i64 a=true) (b:Int) (hb:inK .i64 b=true) (U:Env) (g:varsD U 0 [.int .i64,.int .i64,.int .i64]=[.z n,.z a,.z b]):sT_iwi.asks anU (fun U e=>e.D U=fN [.z n,.z a,.z b]) U fun _ _=>False:=by
 simp only[varsD,varD,thm5,gS0,Nat.reduceAdd,and_true] at g
 simp only[sT_iwi,anU,fN,ox,simQ,ai,S1,Nat.reduceSub,Nat.reduceAdd,-eq_self,aD,af,g]
 constructor<;>intro c0
 ·(refine zb ?_;rw[aJ];simp at *;omega)
 ·(refine zb ?_;rw[aJ];simp at *;omega)
theorem mxo8:Tryz.prog.follows .mixedOrders=true:=by kernel_rfl
theorem wX {sp:Spec} {key:Nat} (hF:sp.F key=fN) (hP:sp.pre key=fun _=>True:=by rfl):SmOk Tryz.prog sp (oO key):=
 aq (s:=oO key) hF hP mxo8 eo (sm0) Tryz.func35 fn0 atM (.inl rfl) (fun x0 gx0 x1 gx1 x2 gx2 hp U g=>ato x0 gx0 x1 gx1 x2 gx2 U g)
def abH (key:Nat):Sm:=⟨66,key,[.one (.int .i8),.one (.int .i8),.one (.int .i8)],[.one .bool],false⟩
def abb (n:Int) (a:Int) (b:Int):List Dt:=[.z (b2i ((decide (a<=n)&&decide (n<=b))))]
def pq:List Dt->List Dt
 | [.z x0,.z x1,.z x2]=>abb x0 x1 x2
 | _=>[]
def sT_iwb:Tr:=
(.br (.lt (.var 0) (.var 1))
(.leaf (.cb (.tt false) .nil))
(.leaf (.cb (.not (.lt (.var 2) (.var 0))) .nil)))
def anV:Spec:={F:=fun k=>match k with | _=>fun _=>[],pre:=fun _ _=>True}
theorem atN:ap tys_LiB [] [] [] [] 200 Tryz.f66 [.one (.int .i8),.one (.int .i8),.one (.int .i8)] [.one .bool] false [.int .i8,.int .i8,.int .i8] sT_iwb:=⟨by kernel_rfl,by kernel_rfl,by kernel_rfl⟩
theorem atp (n:Int) (hn:inK .i8 n=true) (a:Int) (ha:inK .i8 a=true) (b:Int) (hb:inK .i8 b=true) (U:Env) (g:varsD U 0 [.int .i8,.int .i8,.int .i8]=[.z n,.z a,.z b]):sT_iwb.asks anV (fun U e=>e.D U=pq [.z n,.z a,.z b]) U fun _ _=>False:=by
 simp only[varsD,varD,thm5,gS0,Nat.reduceAdd,and_true] at g
 simp only[sT_iwb,anV,pq,abb,simQ,ai,S1,Nat.reduceSub,Nat.reduceAdd,-eq_self,aD,af,g]
 constructor<;>intro c0
 ·(refine zb ?_;rw[aJ];simp at *;omega)
 ·(refine zb ?_;rw[aJ];simp at *;omega)
theorem an1 {sp:Spec} {key:Nat} (hF:sp.F key=pq) (hP:sp.pre key=fun _=>True:=by rfl):SmOk Tryz.prog sp (abH key):=
 aq (s:=abH key) hF hP mxo8 eo (sm0) Tryz.func66 fn0 atN (.inl rfl) (fun x0 gx0 x1 gx1 x2 gx2 hp U g=>atp x0 gx0 x1 gx1 x2 gx2 U g)
def ahB (key:Nat):Sm:=⟨126,key,[.one (.int .i8)],[.one .bool],false⟩
def agv (n:Int):List Dt:=[.z (b2i (bO n))]
def xm:List Dt->List Dt
 | [.z x0]=>agv x0
 | _=>[]
def sT_isz:Tr:=
(.br (.eq (.var 0) (.lit 1))
(.leaf (.cb (.tt true) .nil))
(.br (.eq (.var 0) (.lit 2))
(.leaf (.cb (.tt true) .nil))
(.br (.eq (.var 0) (.lit 4))
(.leaf (.cb (.tt true) .nil))
(.leaf (.cb (.eq (.var 0) (.lit 8)) .nil)))))
def anW:Spec:={F:=fun k=>match k with | _=>fun _=>[],pre:=fun _ _=>True}
theorem atO:ap tys_LiB [] [] [] [] 200 Tryz.f126 [.one (.int .i8)] [.one .bool] false [.int .i8] sT_isz:=⟨by kernel_rfl,by kernel_rfl,by kernel_rfl⟩
theorem atq (n:Int) (hn:inK .i8 n=true) (U:Env) (g:varsD U 0 [.int .i8]=[.z n]):sT_isz.asks anW (fun U e=>e.D U=xm [.z n]) U fun _ _=>False:=by
 simp only[varsD,varD,thm5,gS0,Nat.reduceAdd,and_true] at g
 simp only[sT_isz,anW,xm,agv,simQ,ai,S1,Nat.reduceSub,Nat.reduceAdd,-eq_self,aD,af,g]
 constructor<;>intro c0
 ·(refine zb ?_;unfold bO;rw[aJ];simp at *;omega)
 constructor<;>intro c1
 ·(refine zb ?_;unfold bO;rw[aJ];simp at *;omega)
 constructor<;>intro c2
 ·(refine zb ?_;unfold bO;rw[aJ];simp at *;omega)
 ·(refine zb ?_;unfold bO;rw[aJ];simp at *;omega)
theorem auc {sp:Spec} {key:Nat} (hF:sp.F key=xm) (hP:sp.pre key=fun _=>True:=by rfl):SmOk Tryz.prog sp (ahB key):=
 aq (s:=ahB key) hF hP mxo8 eo (sm0) Tryz.func126 fn0 atO (.inl rfl) (fun x0 gx0 hp U g=>atq x0 gx0 U g)
def ub (key:Nat):Sm:=⟨67,key,[.agg kIns],[.agg kIns,.one .bool],true⟩
def th (x:Ins):List Dt:=[.z (((bU x).1).k),.z (((bU x).1).op),.z (((bU x).1).w),.z (((bU x).1).sz),.z (b2i (((bU x).1).br)),.z (((bU x).1).d),.z (((bU x).1).s),.z (((bU x).1).off),.z (((bU x).1).imm),.z (b2i ((bU x).2))]
def lb:List Dt->List Dt
 | [.z x0,.z x1,.z x2,.z x3,.z x4,.z x5,.z x6,.z x7,.z x8]=>th ⟨x0,x1,x2,x3,(x4==1),x5,x6,x7,x8⟩
 | _=>[]
def aoY:E:=(.zs [0,0,0] (.cons (.var 8) (.cb (.bw 9) .nil)))
def aoZ:Tr:=(.leaf (.cons (.var 0) (.cons (.lit 0) (.cons (.lit 0) (.cons (.var 3) (.cb (.tt false) (.cons (.lit 0) (.cons (.lit 0) (.vs 7 2 (.cb (.tt false) .nil))))))))))
def aj6:Tr:=(.br (.bw 4)
 aoZ
(.leaf (.cons (.var 0) (.cons (.lit 0) (.cons (.lit 0) (.cons (.var 3) (.cb (.tt false) (.cons (.lit 0) (.vs 6 2 (.cons (.lit 0) (.cb (.tt false) .nil)))))))))))
def ao0:Tr:=(.br (.lt (.var 5) (.lit 10))
(.br (.eq (.var 1) (.lit 8))
(.br (.bw 4)
 aoZ
(.leaf (.cons (.var 0) (.cons (.lit 0) (.cons (.lit 0) (.cons (.var 3) (.cb (.tt false) (.cons (.lit 0) (.vs 6 2 (.cons (.lit 0) (.cb (.eq (.var 8) (.lit 0)) .nil)))))))))))
(.br (.bw 4)
(.leaf (.cons (.var 0) (.cons (.lit 0) (.cons (.lit 0) (.cons (.var 3) (.cb (.tt false) (.cons (.lit 0) (.cons (.lit 0) (.vs 7 2 (.cb (.tt true) .nil))))))))))
(.leaf (.cons (.var 0) (.cons (.lit 0) (.cons (.lit 0) (.cons (.var 3) (.cb (.tt false) (.cons (.lit 0) (.vs 6 2 (.cons (.lit 0) (.cb (.tt true) .nil))))))))))))
 aj6)
def sT_ibare:Tr:=
(.br (.eq (.var 0) (.lit 0))
(.call 1 [.bool] (.cons (.var 1) (.cons (.lit 0) (.cons (.lit 12) .nil))) 9
(.br (.bw 9)
(.br (.eq (.var 2) (.lit 32))
 ao0
(.br (.eq (.var 2) (.lit 64))
 ao0
 aj6))
 aj6))
(.br (.eq (.var 0) (.lit 1))
(.call 2 [.bool] (.cons (.var 3) .nil) 9
(.br (.bw 9)
(.leaf (.vs 0 3 (.cons (.lit 0) (.cb (.bw 4) (.zs [0,0,0] (.cons (.var 8) (.cb (.lt (.var 5) (.lit 10)) .nil)))))))
(.leaf (.vs 0 3 (.cons (.lit 0) (.cb (.bw 4) (.zs [0,0,0] (.cons (.var 8) (.cb (.tt false) .nil)))))))))
(.br (.eq (.var 0) (.lit 2))
(.call 2 [.bool] (.cons (.var 3) .nil) 9
(.leaf (.vs 0 3 (.cons (.lit 0) (.cb (.bw 4) aoY)))))
(.br (.eq (.var 0) (.lit 3))
(.call 1 [.bool] (.cons (.var 1) (.cons (.lit 0) (.cons (.lit 10) .nil))) 9
(.br (.bw 4)
(.leaf (.cons (.var 0) (.cons (.lit 0) (.vs 2 2 (.cb (.tt false) aoY)))))
(.leaf (.cons (.var 0) (.cons (.lit 0) (.vs 2 2 (.cb (.tt false) (.cons (.lit 0) (.cons (.var 6) (.cons (.lit 0) (.cons (.lit 0) (.cb (.bw 9) .nil))))))))))))
(.br (.eq (.var 0) (.lit 4))
(.leaf (.vs 0 4 (.cb (.bw 4) (.vs 5 2 (.cons (.lit 0) (.cons (.var 8) (.cb (.tt true) .nil)))))))
(.br (.eq (.var 0) (.lit 5))
(.call 0 [.bool] (.cons (.var 8) (.cons (.lit 0) (.cons (.lit 15) .nil))) 9
(.leaf (.vs 0 4 (.cb (.bw 4) (.vs 5 3 (.cons (.lit 0) (.cb (.bw 9) .nil)))))))
(.br (.eq (.var 0) (.lit 6))
(.leaf (.vs 0 4 (.cb (.bw 4) (.vs 5 4 (.cb (.tt true) .nil)))))
(.leaf (.vs 0 4 (.cb (.bw 4) (.vs 5 4 (.cb (.tt false) .nil))))))))))))
def abC:Spec:={F:=fun k=>match k with | 0=>fN | 1=>pq | 2=>xm | _=>fun _=>[],pre:=fun _ _=>True}
theorem alS:ap tys_LiB [oO 0,abH 1,ahB 2] [(125,Tryz.f125,[],[])] [] [] 200 Tryz.f67 [.agg kIns] [.agg kIns,.one .bool] true [.int .i8,.int .i8,.int .i8,.int .i8,.bool,.int .i8,.int .i8,.int .i64,.int .i64] sT_ibare:=⟨by kernel_rfl,by kernel_rfl,by kernel_rfl⟩
theorem ali (x:Ins) (hx:Ins.ok x) (U:Env) (g:varsD U 0 [.int .i8,.int .i8,.int .i8,.int .i8,.bool,.int .i8,.int .i8,.int .i64,.int .i64]=[.z x.k,.z x.op,.z x.w,.z x.sz,.z (b2i x.br),.z x.d,.z x.s,.z x.off,.z x.imm]):sT_ibare.asks abC (fun U e=>e.D U=lb [.z x.k,.z x.op,.z x.w,.z x.sz,.z (b2i x.br),.z x.d,.z x.s,.z x.off,.z x.imm]) U fun _ _=>False:=by
 simp only[varsD,varD,thm5,gS0,Nat.reduceAdd,and_true] at g
 simp only[sT_ibare,ao0,aj6,aoZ,aoY,abC,fN,pq,xm,ox,abb,agv,lb,th,simQ,ai,S1,Nat.reduceSub,Nat.reduceAdd,-eq_self,aD,af,g]
 constructor<;>intro c0
 intro e;(try simp only[e,aD,af,-eq_self]);clear e
 constructor<;>intro c1
 constructor<;>intro c2
 constructor<;>intro c3
 constructor<;>intro c4
 constructor<;>intro c5
 ·(unfold bU immz;simp_all<;>omega)
 ·(unfold bU immz;simp_all<;>omega)
 constructor<;>intro c6
 ·(unfold bU immz;simp_all<;>omega)
 ·(unfold bU immz;simp_all<;>omega)
 constructor<;>intro c7
 ·(unfold bU immz;simp_all<;>omega)
 ·(unfold bU immz;simp_all<;>omega)
 constructor<;>intro c8
 constructor<;>intro c9
 constructor<;>intro c10
 constructor<;>intro c11
 ·(unfold bU immz;simp_all<;>omega)
 ·(unfold bU immz;simp_all<;>omega)
 constructor<;>intro c12
 ·(unfold bU immz;simp_all<;>omega)
 ·(unfold bU immz;simp_all<;>omega)
 constructor<;>intro c13
 ·(unfold bU immz;simp_all<;>omega)
 ·(unfold bU immz;simp_all<;>omega)
 constructor<;>intro c14
 ·(unfold bU immz;simp_all<;>omega)
 ·(unfold bU immz;simp_all<;>omega)
 constructor<;>intro c15
 ·(unfold bU immz;simp_all<;>omega)
 ·(unfold bU immz;simp_all<;>omega)
 constructor<;>intro c16
 intro e;(try simp only[e,aD,af,-eq_self]);clear e
 constructor<;>intro c17
 ·(unfold bU immz;simp_all<;>omega)
 ·(unfold bU immz;simp_all<;>omega)
 constructor<;>intro c18
 intro e;(try simp only[e,aD,af,-eq_self]);clear e
 ·(unfold bU immz;simp_all<;>omega)
 constructor<;>intro c19
 intro e;(try simp only[e,aD,af,-eq_self]);clear e
 constructor<;>intro c20
 ·(unfold bU immz;simp_all<;>omega)
 ·(unfold bU immz;simp_all<;>omega)
 constructor<;>intro c21
 ·(unfold bU immz;simp_all<;>omega)
 constructor<;>intro c22
 intro e;(try simp only[e,aD,af,-eq_self]);clear e
 ·(unfold bU immz;simp_all<;>omega)
 constructor<;>intro c23
 ·(unfold bU immz;simp_all<;>omega)
 ·(unfold bU immz;simp_all<;>omega)
theorem amf {sp:Spec} {key:Nat} (hF:sp.F key=lb) (hP:sp.pre key=fun _=>True:=by rfl):SmOk Tryz.prog sp (ub key):=
 aq (s:=ub key) hF hP mxo8 eo (smc (wX rfl) (smc (an1 rfl) (smc (auc rfl) sm0))) Tryz.func67 (fnc Tryz.func125 fn0) alS (.inl rfl) (fun x0 gx0 x1 gx1 x2 gx2 x3 gx3 x4 x5 gx5 x6 gx6 x7 gx7 x8 gx8 hp U g=>ali ⟨x0,x1,x2,x3,x4,x5,x6,x7,x8⟩ ⟨gx0,gx1,gx2,gx3,gx5,gx6,gx7,gx8⟩ U g)
def tS (key:Nat):Sm:=⟨26,key,[.agg kIns],[.one .bool],false⟩
def sU (x:Ins):List Dt:=[.z (b2i (imay x))]
def jL:List Dt->List Dt
 | [.z x0,.z x1,.z x2,.z x3,.z x4,.z x5,.z x6,.z x7,.z x8]=>sU ⟨x0,x1,x2,x3,(x4==1),x5,x6,x7,x8⟩
 | _=>[]
def sT_nmay:Tr:=
(.call 1 [.bool] (.cons (.var 5) (.cons (.lit 0) (.cons (.lit 10) .nil))) 9
(.br (.bw 9)
(.call 1 [.bool] (.cons (.var 6) (.cons (.lit 0) (.cons (.lit 10) .nil))) 10
(.br (.bw 10)
(.call 0 [.bool] (.cons (.var 7) (.cons (.lit (-32768)) (.cons (.lit 32767) .nil))) 11
(.br (.bw 11)
(.call 0 [.bool] (.cons (.var 8) (.cons (.lit (-2147483648)) (.cons (.lit 2147483647) .nil))) 12
(.br (.bw 12)
(.call 2 (kIns++[.bool]) (.vs 0 4 (.cb (.bw 4) (.vs 5 4 .nil))) 13
(.br (.bw 22)
(.leaf (.cb (.and (.eq (.var 13) (.var 0)) (.and (.eq (.var 14) (.lit 0)) (.and (.eq (.var 15) (.lit 0)) (.and (.eq (.var 16) (.lit 0)) (.and (.not (.bw 17)) (.and (.eq (.var 18) (.lit 0)) (.and (.eq (.var 19) (.lit 0)) (.and (.eq (.var 20) (.lit 0)) (.and (.eq (.var 21) (.lit 0)) (.tt true)))))))))) .nil))
(.leaf (.cb (.tt false) .nil))))
(.leaf (.cb (.tt false) .nil))))
(.leaf (.cb (.tt false) .nil))))
(.leaf (.cb (.tt false) .nil))))
(.leaf (.cb (.tt false) .nil))))
def ag7:Spec:={F:=fun k=>match k with | 0=>fN | 1=>pq | 2=>lb | _=>fun _=>[],pre:=fun _ _=>True}
theorem aqY:ap tys_LiB [oO 0,abH 1,ub 2] [] [] [] 200 Tryz.f26 [.agg kIns] [.one .bool] false [.int .i8,.int .i8,.int .i8,.int .i8,.bool,.int .i8,.int .i8,.int .i64,.int .i64] sT_nmay:=⟨by kernel_rfl,by kernel_rfl,by kernel_rfl⟩
theorem aqg (x:Ins) (hx:Ins.ok x) (U:Env) (g:varsD U 0 [.int .i8,.int .i8,.int .i8,.int .i8,.bool,.int .i8,.int .i8,.int .i64,.int .i64]=[.z x.k,.z x.op,.z x.w,.z x.sz,.z (b2i x.br),.z x.d,.z x.s,.z x.off,.z x.imm]):sT_nmay.asks ag7 (fun U e=>e.D U=jL [.z x.k,.z x.op,.z x.w,.z x.sz,.z (b2i x.br),.z x.d,.z x.s,.z x.off,.z x.imm]) U fun _ _=>False:=by
 simp only[varsD,varD,thm5,gS0,Nat.reduceAdd,and_true] at g
 simp only[sT_nmay,ag7,kIns,fN,pq,lb,ox,abb,th,jL,sU,simQ,ai,S1,Nat.reduceSub,Nat.reduceAdd,-eq_self,aD,af,g]
 intro e;(try simp only[e,aD,af,-eq_self]);clear e
 constructor<;>intro c0
 intro e;(try simp only[e,aD,af,-eq_self]);clear e
 constructor<;>intro c1
 intro e;(try simp only[e,aD,af,-eq_self]);clear e
 constructor<;>intro c2
 intro e;(try simp only[e,aD,af,-eq_self]);clear e
 constructor<;>intro c3
 intro e;(try simp only[e,aD,af,-eq_self]);clear e
 constructor<;>intro c4
 ·(unfold imay na pR;simp_all<;>omega)
 ·(unfold imay na pR;simp_all<;>omega)
 ·(unfold imay na pR;simp_all<;>omega)
 ·(unfold imay na pR;simp_all<;>omega)
 ·(unfold imay na pR;simp_all<;>omega)
 ·(unfold imay na pR;simp_all<;>omega)
theorem ahS {sp:Spec} {key:Nat} (hF:sp.F key=jL) (hP:sp.pre key=fun _=>True:=by rfl):SmOk Tryz.prog sp (tS key):=
 aq (s:=tS key) hF hP mxo8 eo (smc (wX rfl) (smc (an1 rfl) (smc (amf rfl) sm0))) Tryz.func26 fn0 aqY (.inl rfl) (fun x0 gx0 x1 gx1 x2 gx2 x3 gx3 x4 x5 gx5 x6 gx6 x7 gx7 x8 gx8 hp U g=>aqg ⟨x0,x1,x2,x3,x4,x5,x6,x7,x8⟩ ⟨gx0,gx1,gx2,gx3,gx5,gx6,gx7,gx8⟩ U g)
def oP (key:Nat):Sm:=⟨36,key,[.one (.int .i64),.agg kIns],[.one (.int .i64),.one .bool],true⟩
def zg (i:Int) (x:Ins):List Dt:=[.z ((itgt i x).1),.z (b2i ((itgt i x).2))]
def fw:List Dt->List Dt
 | [.z x0,.z x1,.z x2,.z x3,.z x4,.z x5,.z x6,.z x7,.z x8,.z x9]=>zg x0 ⟨x1,x2,x3,x4,(x5==1),x6,x7,x8,x9⟩
 | _=>[]
def aj5:Tr:=(.leaf (.cons (.lit 0) (.cb (.tt false) .nil)))
def aoW:E:=(.cons (.lit (-1099511627776)) (.cons (.lit 1099511627776) .nil))
def aoX:Tr:=(.call 0 [.bool] (.cons (.var 0) aoW) 10
(.br (.bw 10)
(.call 0 [.bool] (.cons (.var 8) aoW) 11
(.br (.bw 11)
(.leaf (.cons (.bin .add .i64 (.bin .add .i64 (.var 0) (.lit 1)) (.var 8)) (.cb (.tt true) .nil)))
 aj5))
 aj5))
def sT_itgt:Tr:=
(.br (.eq (.var 1) (.lit 3))
 aoX
(.br (.eq (.var 1) (.lit 4))
 aoX
 aj5))
def ahm:Spec:={F:=fun k=>match k with | 0=>fN | _=>fun _=>[],pre:=fun _ _=>True}
theorem arc:ap tys_LiB [oO 0] [] [] [] 200 Tryz.f36 [.one (.int .i64),.agg kIns] [.one (.int .i64),.one .bool] true [.int .i64,.int .i8,.int .i8,.int .i8,.int .i8,.bool,.int .i8,.int .i8,.int .i64,.int .i64] sT_itgt:=⟨by kernel_rfl,by kernel_rfl,by kernel_rfl⟩
theorem aqu (i:Int) (hi:inK .i64 i=true) (x:Ins) (hx:Ins.ok x) (U:Env) (g:varsD U 0 [.int .i64,.int .i8,.int .i8,.int .i8,.int .i8,.bool,.int .i8,.int .i8,.int .i64,.int .i64]=[.z i,.z x.k,.z x.op,.z x.w,.z x.sz,.z (b2i x.br),.z x.d,.z x.s,.z x.off,.z x.imm]):sT_itgt.asks ahm (fun U e=>e.D U=fw [.z i,.z x.k,.z x.op,.z x.w,.z x.sz,.z (b2i x.br),.z x.d,.z x.s,.z x.off,.z x.imm]) U fun _ _=>False:=by
 simp only[varsD,varD,thm5,gS0,Nat.reduceAdd,and_true] at g
 simp only[sT_itgt,aoX,aoW,aj5,ahm,fN,ox,fw,zg,simQ,ai,S1,Nat.reduceSub,Nat.reduceAdd,-eq_self,aD,af,g]
 constructor<;>intro c0
 intro e;(try simp only[e,aD,af,-eq_self]);clear e
 constructor<;>intro c1
 intro e;(try simp only[e,aD,af,-eq_self]);clear e
 constructor<;>intro c2
 ·rw[aoe (.inl (eqI c0)) c1 c2];try rfl
 ·rw[aof c2];try rfl
 ·rw[aog c1];try rfl
 constructor<;>intro c3
 intro e;(try simp only[e,aD,af,-eq_self]);clear e
 constructor<;>intro c4
 intro e;(try simp only[e,aD,af,-eq_self]);clear e
 constructor<;>intro c5
 ·rw[aoe (.inr (eqI c3)) c4 c5];try rfl
 ·rw[aof c5];try rfl
 ·rw[aog c4];try rfl
 ·rw[auI c0 c3];try rfl
theorem zG {sp:Spec} {key:Nat} (hF:sp.F key=fw) (hP:sp.pre key=fun _=>True:=by rfl):SmOk Tryz.prog sp (oP key):=
 aq (s:=oP key) hF hP mxo8 eo (smc (wX rfl) sm0) Tryz.func36 fn0 arc (.inl rfl) (fun x0 gx0 x1 gx1 x2 gx2 x3 gx3 x4 gx4 x5 x6 gx6 x7 gx7 x8 gx8 x9 gx9 hp U g=>aqu x0 gx0 ⟨x1,x2,x3,x4,x5,x6,x7,x8,x9⟩ ⟨gx1,gx2,gx3,gx4,gx6,gx7,gx8,gx9⟩ U g)
def uc (key:Nat):Sm:=⟨41,key,[.one (.int .i64)],[.one (.int .i64)],false⟩
def tj (n:Int):List Dt:=[.z (uI n)]
def lc:List Dt->List Dt
 | [.z x0]=>tj x0
 | _=>[]
def sT_iargs:Tr:=
(.call 0 [.bool] (.cons (.var 0) (.cons (.lit 0) (.cons (.lit 15) .nil))) 1
(.br (.bw 1)
(.leaf (.cons (.bin .rem .i64 (.var 0) (.lit 6)) .nil))
(.leaf (.cons (.lit 0) .nil))))
def abD:Spec:={F:=fun k=>match k with | 0=>fN | _=>fun _=>[],pre:=fun _ _=>True}
theorem alT:ap tys_LiB [oO 0] [] [] [] 200 Tryz.f41 [.one (.int .i64)] [.one (.int .i64)] false [.int .i64] sT_iargs:=⟨by kernel_rfl,by kernel_rfl,by kernel_rfl⟩
theorem alj (n:Int) (hn:inK .i64 n=true) (U:Env) (g:varsD U 0 [.int .i64]=[.z n]):sT_iargs.asks abD (fun U e=>e.D U=lc [.z n]) U fun _ _=>False:=by
 simp only[varsD,varD,thm5,gS0,Nat.reduceAdd,and_true] at g
 simp only[sT_iargs,abD,fN,ox,lc,tj,simQ,ai,S1,Nat.reduceSub,Nat.reduceAdd,-eq_self,aD,af,g]
 intro e;(try simp only[e,aD,af,-eq_self]);clear e
 constructor<;>intro c0
 ·rw[ash c0];try rfl
 ·rw[asi c0];try rfl
theorem amg {sp:Spec} {key:Nat} (hF:sp.F key=lc) (hP:sp.pre key=fun _=>True:=by rfl):SmOk Tryz.prog sp (uc key):=
 aq (s:=uc key) hF hP mxo8 eo (smc (wX rfl) sm0) Tryz.func41 fn0 alT (.inl rfl) (fun x0 gx0 hp U g=>alj x0 gx0 U g)
def tys_LiC:List (Nat×TI):=[(3,tiq3),
 (4,tiq4),
 (22,ac3),
 (24,ac2),
 (37,gP),
 (39,⟨true,9,(zN 9 220090000),[(0,37),(1,37),(2,37),(3,37),(4,4),(5,37),(6,37),(7,3),(8,3)],none,none,false,false,none,24,false,none,false,0⟩)]
theorem afm:(tys_LiC.all fun p=>ckTI Tryz.prog p.1 p.2)=true:=by kernel_rfl
theorem vL:(tys_LiC.all fun p=>!p.2.eqok)=true:=by kernel_rfl
theorem ae0:(tys_LiC.all fun p=>!p.2.keyok)=true:=by kernel_rfl
theorem vp:∀t i,(t,i)∈tys_LiC->TIok Tryz.prog t i:=by
 intro t i h
 refine bB (cz (f:=ckTI Tryz.prog) afm h) (fun he=> ?_) (fun he=> ?_) (fun he=> ?_)
 ·have h1:=thm7.1 vL (t,i) h
  simp[he] at h1
 ·have h1:=thm7.1 vL (t,i) h
  simp[he] at h1
 ·have h1:=thm7.1 ae0 (t,i) h
  simp[he] at h1
def abF (key:Nat):Sm:=⟨13,key,[.agg kIns],[.one (.int .i64)],false⟩
def anA (x:Ins):List Dt:=[.z (vrd x)]
def mS:List Dt->List Dt
 | [.z x0,.z x1,.z x2,.z x3,.z x4,.z x5,.z x6,.z x7,.z x8]=>anA ⟨x0,x1,x2,x3,(x4==1),x5,x6,x7,x8⟩
 | _=>[]
def aj4:Tr:=(.leaf (.cons (.bin .shl .i64 (.lit 1) (.var 6)) .nil))
def aoU:Tr:=(.leaf (.cons (.bin .or .i64 (.bin .shl .i64 (.lit 1) (.var 5)) (.lit 0)) .nil))
def ad9:Tr:=(.leaf (.cons (.bin .or .i64 (.bin .shl .i64 (.lit 1) (.var 5)) (.bin .shl .i64 (.lit 1) (.var 6))) .nil))
def aoV:Tr:=(.br (.eq (.var 0) (.lit 5))
(.call 1 [.int .i64] (.cons (.var 8) .nil) 10
(.br (.lt (.bin .add .i64 (.var 10) (.lit 1)) (.lit 0))
.panic
(.leaf (.cons (.bin .sub .i64 (.bin .shl .i64 (.lit 1) (.bin .add .i64 (.var 10) (.lit 1))) (.lit 2)) .nil))))
(.br (.eq (.var 0) (.lit 6))
(.leaf (.cons (.lit 1) .nil))
(.leaf (.cons (.lit 0) .nil))))
def sT_vrd:Tr:=
(.call 0 [.bool] (.vs 0 4 (.cb (.bw 4) (.vs 5 4 .nil))) 9
(.br (.bw 9)
(.br (.lt (.var 5) (.lit 0))
.panic
(.br (.lt (.var 6) (.lit 0))
.panic
(.br (.bw 4)
(.br (.eq (.var 0) (.lit 0))
(.br (.eq (.var 1) (.lit 11))
 aj4
 ad9)
(.br (.eq (.var 0) (.lit 1))
 aj4
(.br (.eq (.var 0) (.lit 2))
 ad9
(.br (.eq (.var 0) (.lit 3))
 ad9
 aoV))))
(.br (.eq (.var 0) (.lit 0))
(.br (.eq (.var 1) (.lit 11))
(.leaf (.cons (.lit 0) .nil))
 aoU)
(.br (.eq (.var 0) (.lit 1))
 aj4
(.br (.eq (.var 0) (.lit 2))
 ad9
(.br (.eq (.var 0) (.lit 3))
 aoU
 aoV)))))))
(.leaf (.cons (.lit 0) .nil))))
def anD:Spec:={F:=fun k=>match k with | 0=>jL | 1=>lc | _=>fun _=>[],pre:=fun _ _=>True}
theorem atv:ap tys_LiC [tS 0,uc 1] [] [] [] 200 Tryz.f13 [.agg kIns] [.one (.int .i64)] false [.int .i8,.int .i8,.int .i8,.int .i8,.bool,.int .i8,.int .i8,.int .i64,.int .i64] sT_vrd:=⟨by kernel_rfl,by kernel_rfl,by kernel_rfl⟩
theorem as6 (x:Ins) (hx:Ins.ok x) (U:Env) (g:varsD U 0 [.int .i8,.int .i8,.int .i8,.int .i8,.bool,.int .i8,.int .i8,.int .i64,.int .i64]=[.z x.k,.z x.op,.z x.w,.z x.sz,.z (b2i x.br),.z x.d,.z x.s,.z x.off,.z x.imm]):sT_vrd.asks anD (fun U e=>e.D U=mS [.z x.k,.z x.op,.z x.w,.z x.sz,.z (b2i x.br),.z x.d,.z x.s,.z x.off,.z x.imm]) U fun _ _=>False:=by
 simp only[varsD,varD,thm5,gS0,Nat.reduceAdd,and_true] at g
 simp only[sT_vrd,aoV,ad9,aoU,aj4,anD,jL,lc,sU,tj,mS,anA,simQ,ai,S1,Nat.reduceSub,Nat.reduceAdd,-eq_self,aD,af,g]
 intro e;(try simp only[e,aD,af,-eq_self]);clear e
 constructor<;>intro c0
 constructor<;>intro c1
 ·(have q:=nb c0;have z:=lH x.imm;simp[opI,aR] at *;omega)
 constructor<;>intro c2
 ·(have q:=nb c0;have z:=lH x.imm;simp[opI,aR] at *;omega)
 constructor<;>intro c3
 constructor<;>intro c4
 constructor<;>intro c5
 ·(unfold vrd bit1;simp_all)
 ·(unfold vrd bit1;simp_all)
 constructor<;>intro c6
 ·(unfold vrd bit1;simp_all)
 constructor<;>intro c7
 ·(unfold vrd bit1;simp_all)
 constructor<;>intro c8
 ·(unfold vrd bit1;simp_all)
 constructor<;>intro c9
 intro e;(try simp only[e,aD,af,-eq_self]);clear e
 constructor<;>intro c10
 ·(have q:=nb c0;have z:=lH x.imm;simp[opI,aR] at *;omega)
 ·(unfold vrd bit1;simp_all)
 constructor<;>intro c11
 ·(unfold vrd bit1;simp_all)
 ·(unfold vrd bit1;simp_all)
 constructor<;>intro c12
 constructor<;>intro c13
 ·(unfold vrd bit1;simp_all)
 ·(unfold vrd bit1;simp_all)
 constructor<;>intro c14
 ·(unfold vrd bit1;simp_all)
 constructor<;>intro c15
 ·(unfold vrd bit1;simp_all)
 constructor<;>intro c16
 ·(unfold vrd bit1;simp_all)
 constructor<;>intro c17
 intro e;(try simp only[e,aD,af,-eq_self]);clear e
 constructor<;>intro c18
 ·(have q:=nb c0;have z:=lH x.imm;simp[opI,aR] at *;omega)
 ·(unfold vrd bit1;simp_all)
 constructor<;>intro c19
 ·(unfold vrd bit1;simp_all)
 ·(unfold vrd bit1;simp_all)
 ·(unfold vrd bit1;simp_all)
theorem anZ {sp:Spec} {key:Nat} (hF:sp.F key=mS) (hP:sp.pre key=fun _=>True:=by rfl):SmOk Tryz.prog sp (abF key):=
 aq (s:=abF key) hF hP mxo8 vp (smc (ahS rfl) (smc (amg rfl) sm0)) Tryz.func13 fn0 atv (.inl rfl) (fun x0 gx0 x1 gx1 x2 gx2 x3 gx3 x4 x5 gx5 x6 gx6 x7 gx7 x8 gx8 hp U g=>as6 ⟨x0,x1,x2,x3,x4,x5,x6,x7,x8⟩ ⟨gx0,gx1,gx2,gx3,gx5,gx6,gx7,gx8⟩ U g)
def kF (key:Nat):Sm:=⟨11,key,[.agg lG],[.one (.int .i64),.one (.int .i64)],true⟩
def wE (pr:Prog):List Dt:=[.z ((bj pr).1),.z ((bj pr).2)]
def ir:List Dt->List Dt
 | [.z x0,.l x1]=>wE ⟨x0,x1⟩
 | _=>[]
def aoS:Tr:=(.next 0 (.cons (.bin .add .i64 (.var 4) (.lit 1)) .nil))
def aoT:E:=(.get (.lw 1) (.bin .sub .i64 (.len (.lw 1)) (.lit 1)) 0)
def sT_icheck:Tr:=
(.call 0 [.bool] (.cons (.var 0) (.cons (.lit 0) (.cons (.lit 256) .nil))) 2
(.br (.bw 2)
(.call 0 [.bool] (.cons (.bin .sub .i64 (.len (.lw 1)) (.lit 1)) (.cons (.lit 0) (.cons (.lit 63) .nil))) 3
(.br (.bw 3)
(.loop 0 4 [.int .i64] (.cons (.lit 0) .nil)
(.br (.lt (.var 4) (.len (.lw 1)))
(.br (.lt (.var 4) (.lit 0))
.panic
(.call 1 [.bool] (.ins (.lw 1) (.var 4) .nil) 5
(.br (.bw 5)
(.call 2 [.int .i64,.bool] (.cons (.var 4) (.ins (.lw 1) (.var 4) .nil)) 6
(.br (.bw 7)
(.call 0 [.bool] (.cons (.var 6) (.cons (.lit 0) (.cons (.bin .sub .i64 (.len (.lw 1)) (.lit 1)) .nil))) 8
(.br (.bw 8)
 aoS
(.leaf (.cons (.var 4) (.cons (.lit 32) .nil)))))
 aoS))
(.leaf (.cons (.var 4) (.cons (.lit 31) .nil))))))
(.br (.lt (.bin .sub .i64 (.len (.lw 1)) (.lit 1)) (.lit 0))
.panic
(.br (.lt (.bin .sub .i64 (.len (.lw 1)) (.lit 1)) (.len (.lw 1)))
(.br (.eq aoT (.lit 4))
(.leaf (.cons (.lit 0) (.cons (.lit 0) .nil)))
(.br (.eq aoT (.lit 6))
(.leaf (.cons (.lit 0) (.cons (.lit 0) .nil)))
(.leaf (.cons (.bin .sub .i64 (.len (.lw 1)) (.lit 1)) (.cons (.lit 33) .nil)))))
.panic))))
(.leaf (.cons (.lit 0) (.cons (.lit 3) .nil)))))
(.leaf (.cons (.lit 0) (.cons (.lit 2) .nil)))))
def wP:Spec:={F:=fun k=>match k with | 0=>fN | 1=>jL | 2=>fw | _=>fun _=>[],pre:=fun _ _=>True}
theorem agI:ap tys_LiC [oO 0,tS 1,oP 2] [] [(7,[.tmpI 26 .i64]++tps [(2,2),(5,4),(27,23)])] [] 200 Tryz.f11 [.agg lG] [.one (.int .i64),.one (.int .i64)] true [.int .i64,.list (kN 9 220090000)] sT_icheck:=⟨by kernel_rfl,by kernel_rfl,by kernel_rfl⟩
def fJ:List Dt->Prop
 | [.z x0,.l x1]=>let f (pr:Prog):Prop:=pr.l.length<=maxLen;f ⟨x0,x1⟩
 | _=>False
theorem agb (pr:Prog) (hpr:Prog.ok pr) (hp:fJ [.z pr.ctx,.l pr.l]) (U:Env) (g:varsD U 0 [.int .i64,.list (kN 9 220090000)]=[.z pr.ctx,.l pr.l]):sT_icheck.asks wP (fun U e=>e.D U=ir [.z pr.ctx,.l pr.l]) U fun _ _=>False:=by
 simp only[fJ,b2i_one,aD,af] at hp
 have keepg:=g
 simp only[varsD,varD,thm5,gS0,Nat.reduceAdd,and_true] at g
 simp only[sT_icheck,aoT,aoS,wP,fN,jL,fw,ox,sU,zg,ir,wE,simQ,ai,S1,Nat.reduceSub,Nat.reduceAdd,-eq_self,aD,af,g]
 intro e;(try simp only[e,aD,af,-eq_self]);clear e
 constructor<;>intro c0
 intro e;(try simp only[e,aD,af,-eq_self]);clear e
 constructor<;>intro c1
 refine⟨fun ds=>∃n:Nat,ds=[.z (n:Int)]/\n<=pr.l.length/\(scan pr pr.l.length 0=scan pr (pr.l.length-n) n),fun ds=>(pr.l.length-(dI ds 0).toNat),⟨0,rfl,Nat.zero_le _,rfl⟩,?_⟩
 intro U1 ha1 _ hi1
 obtain⟨n,hds,r1,r2⟩:=hi1
 simp only[thm5,Dt.z.injEq,and_true] at hds
 have g1:=(rX ha1 _ 0 (by decide)).trans keepg
 simp only[varsD,varD,thm5,gS0,Nat.reduceAdd,and_true] at g1
 simp only[g1,hds,af,-eq_self]
 constructor<;>intro c2
 constructor<;>intro c3
 ·exact absurd (thm3 c3) (by omega)
 intro e;(try simp only[e,aD,af,-eq_self]);clear e
 constructor<;>intro c4
 intro e;(try simp only[e,aD,af,-eq_self]);clear e
 constructor<;>intro c5
 intro e;(try simp only[e,aD,af,-eq_self]);clear e
 constructor<;>intro c6
 ·exact⟨⟨n+1,by rw[addN (Int.ofNat_lt.1 (thm3 c2)) hp],Int.ofNat_lt.1 (thm3 c2),r2.trans (wq (Int.ofNat_lt.1 (thm3 c2)) (acS c4 (.inr c6)))⟩,by rw[addN (Int.ofNat_lt.1 (thm3 c2)) hp];have:=Int.ofNat_lt.1 (thm3 c2);show pr.l.length-(((n+1:Nat):Int)).toNat<pr.l.length-((n:Int)).toNat;omega⟩
 ·rw[rp c0 c1 r2 (Int.ofNat_lt.1 (thm3 c2)) (acR c4 c5 c6)];try rfl
 ·exact⟨⟨n+1,by rw[addN (Int.ofNat_lt.1 (thm3 c2)) hp],Int.ofNat_lt.1 (thm3 c2),r2.trans (wq (Int.ofNat_lt.1 (thm3 c2)) (acS c4 (.inl c5)))⟩,by rw[addN (Int.ofNat_lt.1 (thm3 c2)) hp];have:=Int.ofNat_lt.1 (thm3 c2);show pr.l.length-(((n+1:Nat):Int)).toNat<pr.l.length-((n:Int)).toNat;omega⟩
 ·rw[rp c0 c1 r2 (Int.ofNat_lt.1 (thm3 c2)) (yq c4)];try rfl
 constructor<;>intro c7
 ·have q:=zZ c1 hp
  have w:=thm3 c7
  unfold Prog.last at q
  omega
 constructor<;>intro c8
 constructor<;>intro c9
 ·rw[mE c0 c1 r2 (by have:=thm2 c2;omega),if_pos (.inl (eqI c9))];try rfl
 constructor<;>intro c10
 ·rw[mE c0 c1 r2 (by have:=thm2 c2;omega),if_pos (.inr (eqI c10))];try rfl
 ·rw[mE c0 c1 r2 (by have:=thm2 c2;omega),if_neg (fun h=>h.elim (neI c9) (neI c10))];try rfl
 ·have q:=zZ c1 hp
  have w:=thm2 c8
  unfold Prog.last at q
  omega
 ·rw[adB c0 c1];try rfl
 ·rw[adC c0];try rfl
theorem wY {sp:Spec} {key:Nat} (hF:sp.F key=ir) (hP:sp.pre key=fJ):SmOk Tryz.prog sp (kF key):=
 aq (s:=kF key) hF hP mxo8 vp (smc (wX rfl) (smc (ahS rfl) (smc (zG rfl) sm0))) Tryz.func11 fn0 agI (.inr (.inl ⟨(fun xs h L hL=>by unfold fJ at h;split at h<;>first | exact h.elim | (simp at hL;subst hL;exact h)),rfl⟩)) (fun x0 gx0 x1 gx1 hp U g=>agb ⟨x0,x1⟩ ⟨gx0,gx1⟩ hp U g)
def tys_VyB:List (Nat×TI):=[(2,tiq2),
 (3,tiq3),
 (4,tiq4),
 (37,gP),
 (39,yG),
 (42,fF),
 (44,gO),
 (46,kt),
 (48,dy),
 (50,qr),
 (70,asY),
 (105,vP),
 (167,anp),
 (189,⟨true,10,(zN 10 0),[],some (10,37),none,false,false,none,10,false,none,false,0⟩)]
theorem afe:(tys_VyB.all fun p=>ckTI Tryz.prog p.1 p.2)=true:=by kernel_rfl
theorem vD:(tys_VyB.all fun p=>!p.2.eqok||((Nat.beq p.1 39&&aN p.2.zero nO)||(Nat.beq p.1 48&&aN p.2.zero z_Sc)||(Nat.beq p.1 50&&aN p.2.zero z_Ty)))=true:=by kernel_rfl
theorem aeS:(tys_VyB.all fun p=>!p.2.keyok)=true:=by kernel_rfl
theorem gU:∀t i,(t,i)∈tys_VyB->TIok Tryz.prog t i:=by
 intro t i h
 refine bB (cz (f:=ckTI Tryz.prog) afe h) (fun he=> ?_) (fun he=> ?_) (fun he=> ?_)
 ·have h1:=thm7.1 vD (t,i) h
  simp only[he,Bool.not_true,Bool.false_or,bH,thm0] at h1
  rcases h1 with(h1 | h1) | h1
  ·have hs:=h1.2
   obtain rfl:=thm1 h1.1
   exact fun vs us hv hu=>pY vs us (an hs hv) (an hs hu)
  ·have hs:=h1.2
   obtain rfl:=thm1 h1.1
   exact fun vs us hv hu=>qy vs us (an hs hv) (an hs hu)
  ·have hs:=h1.2
   obtain rfl:=thm1 h1.1
   exact fun vs us hv hu=>qx vs us (an hs hv) (an hs hu)
 ·have h1:=thm7.1 vD (t,i) h
  simp only[he,Bool.not_true,Bool.false_or,bH,thm0] at h1
  rcases h1 with(h1 | h1) | h1
  ·have hs:=h1.2
   obtain rfl:=thm1 h1.1
   exact jY
  ·have hs:=h1.2
   obtain rfl:=thm1 h1.1
   exact jv
  ·have hs:=h1.2
   obtain rfl:=thm1 h1.1
   exact ju
 ·have h1:=thm7.1 aeS (t,i) h
  simp[he] at h1
def zp (key:Nat):Sm:=⟨145,key,[.one (.int .i64)],[.agg kSc],false⟩
def yW (n:Int):List Dt:=[.z ((vbel (opI .shr .u64 18446744073709551615 (opI .sub .i64 64 n))).ul),.z ((vbel (opI .shr .u64 18446744073709551615 (opI .sub .i64 64 n))).uh),.z ((vbel (opI .shr .u64 18446744073709551615 (opI .sub .i64 64 n))).sl),.z ((vbel (opI .shr .u64 18446744073709551615 (opI .sub .i64 64 n))).sh),.z ((vbel (opI .shr .u64 18446744073709551615 (opI .sub .i64 64 n))).v),.z ((vbel (opI .shr .u64 18446744073709551615 (opI .sub .i64 64 n))).m)]
def pd:List Dt->List Dt
 | [.z x0]=>yW x0
 | _=>[]
def aoR:E:=(.bin .shr .u64 (.lit 18446744073709551615) (.bin .sub .i64 (.lit 64) (.var 0)))
def sT_vbel:Tr:=
(.br (.lt (.bin .sub .i64 (.lit 64) (.var 0)) (.lit 0))
.panic
(.call 0 (kRg) .nil 1
(.call 1 (kSc) (.cons (.var 1) (.cons aoR (.vs 3 2 (.cons (.lit 0) (.cons aoR .nil))))) 5
(.leaf (.vs 5 6 .nil)))))
def agV:Spec:={F:=fun k=>match k with | 0=>bF | 1=>bP | _=>fun _=>[],pre:=fun _ _=>True}
theorem aqN:ap tys_VyB [eu 0,fc 1] [] [] [] 200 Tryz.f145 [.one (.int .i64)] [.agg kSc] false [.int .i64] sT_vbel:=⟨by kernel_rfl,by kernel_rfl,by kernel_rfl⟩
def oE:List Dt->Prop
 | [.z x0]=>let f (n:Int):Prop:= -64<=n/\n<=64;f x0
 | _=>False
def aj:=And.intro Prog.eta (Ins.eta)
theorem ap5 (n:Int) (hn:inK .i64 n=true) (hp:oE [.z n]) (U:Env) (g:varsD U 0 [.int .i64]=[.z n]):sT_vbel.asks agV (fun U e=>e.D U=pd [.z n]) U fun _ _=>False:=by
 simp only[oE,b2i_one,am,aj,af,ah] at hp
 simp only[varsD,varD,thm5,gS0,Nat.reduceAdd,and_true] at g
 simp only[sT_vbel,aoR,agV,kRg,kSc,bF,bP,eZ,pd,yW,simQ,ai,S1,Nat.reduceSub,Nat.reduceAdd,-eq_self,am,aj,af,ah,g]
 constructor<;>intro c0
 ·(have h:IntKind.i64.wrap (64-n)<0:=thm3 c0;have gn:=gC hn;rw[aR] at h;omega)
 intro e;(try simp only[e,am,aj,af,ah,-eq_self]);clear e
 intro e;(try simp only[e,am,aj,af,ah,-eq_self]);clear e
 ·rfl
theorem aro {sp:Spec} {key:Nat} (hF:sp.F key=pd) (hP:sp.pre key=oE):SmOk Tryz.prog sp (zp key):=
 aq (s:=zp key) hF hP mxo8 gU (smc (fK rfl) (smc (iT rfl) sm0)) Tryz.func145 fn0 aqN (.inl rfl) (fun x0 gx0 hp U g=>ap5 x0 gx0 hp U g)
def qP (key:Nat):Sm:=⟨81,key,[.one (.int .i64)],[.agg kSc],false⟩
def aa7 (q:Int):List Dt:=[.z ((vbyt q).ul),.z ((vbyt q).uh),.z ((vbyt q).sl),.z ((vbyt q).sh),.z ((vbyt q).v),.z ((vbyt q).m)]
def gK:List Dt->List Dt
 | [.z x0]=>aa7 x0
 | _=>[]
def sT_vby:Tr:=
(.call 0 (kSc) (.cons (.bin .mul .i64 (.lit 8) (.mn (.mx (.var 0) (.lit 1)) (.lit 8))) .nil) 1
(.leaf (.vs 1 6 .nil)))
def anG:Spec:={F:=fun k=>match k with | 0=>pd | _=>fun _=>[],pre:=fun k=>match k with | 0=>oE | _=>fun _=>True}
theorem aty:ap tys_VyB [zp 0] [] [] [] 200 Tryz.f81 [.one (.int .i64)] [.agg kSc] false [.int .i64] sT_vby:=⟨by kernel_rfl,by kernel_rfl,by kernel_rfl⟩
theorem as9 (q:Int) (hq:inK .i64 q=true) (U:Env) (g:varsD U 0 [.int .i64]=[.z q]):sT_vby.asks anG (fun U e=>e.D U=gK [.z q]) U fun _ _=>False:=by
 simp only[varsD,varD,thm5,gS0,Nat.reduceAdd,and_true] at g
 simp only[sT_vby,anG,kSc,pd,yW,gK,aa7,oE,simQ,ai,S1,Nat.reduceSub,Nat.reduceAdd,-eq_self,am,aj,af,ah,g]
 refine⟨?_,?_⟩
 ·(show -64<=IntKind.i64.wrap (8*min (max q 1) 8)/\IntKind.i64.wrap (8*min (max q 1) 8)<=64;rw[aR];omega)
 intro e;(try simp only[e,am,aj,af,ah,-eq_self]);clear e
 ·(refine avl ?_;unfold vbyt;rcases aau q with h | h | h | h | h | h | h | h<;>rw[h]<;>rfl)
theorem abI {sp:Spec} {key:Nat} (hF:sp.F key=gK) (hP:sp.pre key=fun _=>True:=by rfl):SmOk Tryz.prog sp (qP key):=
 aq (s:=qP key) hF hP mxo8 gU (smc (aro rfl rfl) sm0) Tryz.func81 fn0 aty (.inl rfl) (fun x0 gx0 hp U g=>as9 x0 gx0 U g)
def alV (key:Nat):Sm:=⟨77,key,[.one (.int .u64)],[.one (.int .i64)],false⟩
def att (x:Int):List Dt:=[.z (tzI x)]
def ah3:List Dt->List Dt
 | [.z x0]=>att x0
 | _=>[]
def sT_tz:Tr:=
(.call 0 [.int .i64] (.cons (.var 0) .nil) 1
(.leaf (.cons (.var 1) .nil)))
def atS:Spec:={F:=fun k=>match k with | 0=>ph | _=>fun _=>[],pre:=fun _ _=>True,hw:=sHw,hx:=sHx,hi:=sHi}
theorem avI:ap tys_VyB [zu 0] [] [] [] 200 Tryz.f77 [.one (.int .u64)] [.one (.int .i64)] false [.int .u64] sT_tz:=⟨by kernel_rfl,by kernel_rfl,by kernel_rfl⟩
theorem avD (x:Int) (hx:inK .u64 x=true) (U:Env) (g:varsD U 0 [.int .u64]=[.z x]):sT_tz.asks atS (fun U e=>e.D U=ah3 [.z x]) U fun _ _=>False:=by
 simp only[varsD,varD,thm5,gS0,Nat.reduceAdd,and_true] at g
 simp only[sT_tz,atS,ph,ago,ah3,att,simQ,ai,S1,Nat.reduceSub,Nat.reduceAdd,-eq_self,am,aj,af,ah,g]
 intro e;(try simp only[e,am,aj,af,ah,-eq_self]);clear e
 ·(simp only[ph];try rfl)
theorem at2 {sp:Spec} {key:Nat} (hF:sp.F key=ah3) (hP:sp.pre key=fun _=>True:=by rfl) (hH:∀w,sp.hw w->sHw w:=by exact fun _ h=>h):SmOk Tryz.prog sp (alV key):=
 aq (s:=alV key) (hW:=hH) hF hP mxo8 gU (smc (ahK rfl) sm0) Tryz.func77 fn0 avI (.inl rfl) (fun x0 gx0 hp U g=>avD x0 gx0 U g)
def ue (key:Nat):Sm:=⟨85,key,[.one (.int .i8)],[.one (.int .i8),.one .bool],true⟩
def agx (cc:Int):List Dt:=[.z (gR cc),.z (b2i (eO cc))]
def pw:List Dt->List Dt
 | [.z x0]=>agx x0
 | _=>[]
def sT_bnot:Tr:=
(.br (.lt (.var 0) (.lit 0))
(.leaf (.cons (.lit 0) (.cb (.tt false) .nil)))
(.br (.lt (.var 0) (.lit 10))
(.br (.eq (.var 0) (.lit 0))
(.leaf (.cons (.lit 1) (.cb (.tt true) .nil)))
(.br (.eq (.var 0) (.lit 1))
(.leaf (.cons (.lit 0) (.cb (.tt true) .nil)))
(.br (.eq (.var 0) (.lit 2))
(.leaf (.cons (.lit 5) (.cb (.tt true) .nil)))
(.br (.eq (.var 0) (.lit 3))
(.leaf (.cons (.lit 4) (.cb (.tt true) .nil)))
(.br (.eq (.var 0) (.lit 4))
(.leaf (.cons (.lit 3) (.cb (.tt true) .nil)))
(.br (.eq (.var 0) (.lit 5))
(.leaf (.cons (.lit 2) (.cb (.tt true) .nil)))
(.br (.eq (.var 0) (.lit 6))
(.leaf (.cons (.lit 9) (.cb (.tt true) .nil)))
(.br (.eq (.var 0) (.lit 7))
(.leaf (.cons (.lit 8) (.cb (.tt true) .nil)))
(.br (.eq (.var 0) (.lit 8))
(.leaf (.cons (.lit 7) (.cb (.tt true) .nil)))
(.br (.eq (.var 0) (.lit 9))
(.leaf (.cons (.lit 6) (.cb (.tt true) .nil)))
.panic))))))))))
(.leaf (.cons (.lit 0) (.cb (.tt false) .nil)))))
def ahp:Spec:={F:=fun k=>match k with | _=>fun _=>[],pre:=fun _ _=>True}
theorem arf:ap tys_VyB [] [] [] [] 200 Tryz.f85 [.one (.int .i8)] [.one (.int .i8),.one .bool] true [.int .i8] sT_bnot:=⟨by kernel_rfl,by kernel_rfl,by kernel_rfl⟩
theorem aqx (cc:Int) (hcc:inK .i8 cc=true) (U:Env) (g:varsD U 0 [.int .i8]=[.z cc]):sT_bnot.asks ahp (fun U e=>e.D U=pw [.z cc]) U fun _ _=>False:=by
 simp only[varsD,varD,thm5,gS0,Nat.reduceAdd,and_true] at g
 simp only[sT_bnot,ahp,pw,agx,simQ,ai,S1,Nat.reduceSub,Nat.reduceAdd,-eq_self,am,aj,af,ah,g]
 constructor<;>intro c0
 ·(unfold gR eO;simp_all<;>omega)
 constructor<;>intro c1
 constructor<;>intro c2
 ·(unfold gR eO;simp_all<;>omega)
 constructor<;>intro c3
 ·(unfold gR eO;simp_all<;>omega)
 constructor<;>intro c4
 ·(unfold gR eO;simp_all<;>omega)
 constructor<;>intro c5
 ·(unfold gR eO;simp_all<;>omega)
 constructor<;>intro c6
 ·(unfold gR eO;simp_all<;>omega)
 constructor<;>intro c7
 ·(unfold gR eO;simp_all<;>omega)
 constructor<;>intro c8
 ·(unfold gR eO;simp_all<;>omega)
 constructor<;>intro c9
 ·(unfold gR eO;simp_all<;>omega)
 constructor<;>intro c10
 ·(unfold gR eO;simp_all<;>omega)
 constructor<;>intro c11
 ·(unfold gR eO;simp_all<;>omega)
 ·(simp_all;omega)
 ·(unfold gR eO;simp_all<;>omega)
theorem ah2 {sp:Spec} {key:Nat} (hF:sp.F key=pw) (hP:sp.pre key=fun _=>True:=by rfl):SmOk Tryz.prog sp (ue key):=
 aq (s:=ue key) hF hP mxo8 gU (sm0) Tryz.func85 fn0 arf (.inl rfl) (fun x0 gx0 hp U g=>aqx x0 gx0 U g)
def tH (key:Nat):Sm:=⟨79,key,[.one (.el (kN 9 220090000) 39),.agg kTy,.agg kTy],[.agg kTy],false⟩
def agl (x:List (List Int)) (a:Ty) (b:Ty):List Dt:=d_Ty (valu (ab x 0) a b) ([])
def ig:List Dt->List Dt
 | [.l x0,.z x1,.z x2,.z x3,.z x4,.z x5,.z x6,.z x7,.z x8,.z x9,.z x10,.z x11,.z x12,.z x13,.z x14,.z x15,.z x16,.z x17,.z x18]=>agl x0 ⟨x1,x2,x3,x4,x5,x6,x7,x8,x9⟩ ⟨x10,x11,x12,x13,x14,x15,x16,x17,x18⟩
 | _=>[]
def aj1:E:=(.bin .add .i64 (.var 9) (.bin .sub .i64 (.lit 0) (.var 13)))
def aj2:E:=(.bin .add .i64 (.var 8) (.bin .sub .i64 (.lit 0) (.var 14)))
def aoN:Tr:=(.leaf (.cons (.lit 1) (.vs 25 6 (.cons (.lit 0) (.cons (.lit 0) .nil)))))
def aj3:Tr:=(.leaf (.cons (.lit 1) (.vs 19 6 (.cons (.lit 0) (.cons (.lit 0) .nil)))))
def ad8:Tr:=(.call 2 (kSc) (.cons (.lit 4) .nil) 19
 aj3)
def aoO:Tr:=(.br (.eq (.get (.lw 0) (.lit 0) 2) (.lit 64))
(.call 3 (kTy) .nil 25
(.leaf (.vs 25 9 .nil)))
(.call 2 (kSc) (.cons (.lit 4) .nil) 25
 aoN))
def aoP:Tr:=(.br (.eq (.get (.lw 0) (.lit 0) 2) (.lit 64))
(.br (.eq (.get (.lw 0) (.lit 0) 1) (.lit 0))
(.br (.lt (.var 4) (.lit (-1048576)))
(.call 3 (kTy) .nil 19
(.leaf (.vs 19 9 .nil)))
(.br (.lt (.lit 1048576) (.var 5))
(.call 3 (kTy) .nil 19
(.leaf (.vs 19 9 .nil)))
(.br (.lt (.bin .add .i64 (.var 17) (.var 4)) (.lit (-1048576)))
(.call 3 (kTy) .nil 19
(.leaf (.vs 19 9 .nil)))
(.br (.lt (.lit 1048576) (.bin .add .i64 (.var 17) (.var 4)))
(.call 3 (kTy) .nil 19
(.leaf (.vs 19 9 .nil)))
(.br (.lt (.bin .add .i64 (.var 18) (.var 5)) (.lit (-1048576)))
(.call 3 (kTy) .nil 19
(.leaf (.vs 19 9 .nil)))
(.br (.lt (.lit 1048576) (.bin .add .i64 (.var 18) (.var 5)))
(.call 3 (kTy) .nil 19
(.leaf (.vs 19 9 .nil)))
(.leaf (.vs 10 7 (.cons (.bin .add .i64 (.var 17) (.var 4)) (.cons (.bin .add .i64 (.var 18) (.var 5)) .nil))))))))))
(.call 3 (kTy) .nil 19
(.leaf (.vs 19 9 .nil))))
 ad8)
def aoQ:Tr:=(.br (.eq (.get (.lw 0) (.lit 0) 2) (.lit 64))
(.br (.eq (.var 10) (.lit 2))
(.call 3 (kTy) .nil 19
(.leaf (.vs 19 9 .nil)))
(.br (.eq (.var 10) (.lit 3))
(.call 3 (kTy) .nil 19
(.leaf (.vs 19 9 .nil)))
(.br (.eq (.get (.lw 0) (.lit 0) 1) (.lit 0))
(.br (.lt (.var 13) (.lit (-1048576)))
(.call 3 (kTy) .nil 19
(.leaf (.vs 19 9 .nil)))
(.br (.lt (.lit 1048576) (.var 14))
(.call 3 (kTy) .nil 19
(.leaf (.vs 19 9 .nil)))
(.br (.lt (.bin .add .i64 (.var 8) (.var 13)) (.lit (-1048576)))
(.call 3 (kTy) .nil 19
(.leaf (.vs 19 9 .nil)))
(.br (.lt (.lit 1048576) (.bin .add .i64 (.var 8) (.var 13)))
(.call 3 (kTy) .nil 19
(.leaf (.vs 19 9 .nil)))
(.br (.lt (.bin .add .i64 (.var 9) (.var 14)) (.lit (-1048576)))
(.call 3 (kTy) .nil 19
(.leaf (.vs 19 9 .nil)))
(.br (.lt (.lit 1048576) (.bin .add .i64 (.var 9) (.var 14)))
(.call 3 (kTy) .nil 19
(.leaf (.vs 19 9 .nil)))
(.leaf (.vs 1 7 (.cons (.bin .add .i64 (.var 8) (.var 13)) (.cons (.bin .add .i64 (.var 9) (.var 14)) .nil))))))))))
(.br (.eq (.get (.lw 0) (.lit 0) 1) (.lit 1))
(.br (.lt (.var 13) (.lit (-1048576)))
(.call 3 (kTy) .nil 19
(.leaf (.vs 19 9 .nil)))
(.br (.lt (.lit 1048576) (.var 14))
(.call 3 (kTy) .nil 19
(.leaf (.vs 19 9 .nil)))
(.br (.lt aj2 (.lit (-1048576)))
(.call 3 (kTy) .nil 19
(.leaf (.vs 19 9 .nil)))
(.br (.lt (.lit 1048576) aj2)
(.call 3 (kTy) .nil 19
(.leaf (.vs 19 9 .nil)))
(.br (.lt aj1 (.lit (-1048576)))
(.call 3 (kTy) .nil 19
(.leaf (.vs 19 9 .nil)))
(.br (.lt (.lit 1048576) aj1)
(.call 3 (kTy) .nil 19
(.leaf (.vs 19 9 .nil)))
(.leaf (.vs 1 7 (.cons aj2 (.cons aj1 .nil))))))))))
(.call 3 (kTy) .nil 19
(.leaf (.vs 19 9 .nil)))))))
 ad8)
def sT_valu:Tr:=
(.br (.lt (.lit 0) (.len (.lw 0)))
(.br (.eq (.get (.lw 0) (.lit 0) 1) (.lit 11))
(.br (.eq (.get (.lw 0) (.lit 0) 2) (.lit 64))
(.leaf (.vs 10 9 .nil))
(.br (.eq (.var 10) (.lit 2))
 ad8
(.br (.eq (.var 10) (.lit 3))
 ad8
(.call 1 (kSc) (.cons (.get (.lw 0) (.lit 0) 1) (.cons (.get (.lw 0) (.lit 0) 2) (.vs 11 6 (.vs 11 6 .nil)))) 19
 aj3))))
(.br (.eq (.get (.lw 0) (.lit 0) 1) (.lit 8))
(.call 0 (kSc) (.cons (.lit 0) .nil) 19
(.br (.eq (.var 1) (.lit 2))
 aoO
(.br (.eq (.var 1) (.lit 3))
 aoO
(.call 1 (kSc) (.cons (.get (.lw 0) (.lit 0) 1) (.cons (.get (.lw 0) (.lit 0) 2) (.vs 2 6 (.vs 19 6 .nil)))) 25
 aoN))))
(.br (.eq (.var 1) (.lit 2))
 aoQ
(.br (.eq (.var 1) (.lit 3))
 aoQ
(.br (.eq (.var 10) (.lit 2))
 aoP
(.br (.eq (.var 10) (.lit 3))
 aoP
(.call 1 (kSc) (.cons (.get (.lw 0) (.lit 0) 1) (.cons (.get (.lw 0) (.lit 0) 2) (.vs 2 6 (.vs 11 6 .nil)))) 19
 aj3)))))))
(.stuck 54))
def agW:Spec:={F:=fun k=>match k with | 0=>dc | 1=>xd | 2=>gK | 3=>bQ | _=>fun _=>[],pre:=fun _ _=>True}
theorem aqO:ap tys_VyB [jG 0,ahs 1,qP 2,dX 3] [(53,Tryz.f53,[],[]),(78,Tryz.f78,[],[]),(144,Tryz.f144,[],[]),(55,Tryz.f55,[],[])] [(999997,[])] [] 200 Tryz.f79 [.one (.el (kN 9 220090000) 39),.agg kTy,.agg kTy] [.agg kTy] false (.list (kN 9 220090000)::(v_Ty (v_Ty ([])))) sT_valu:=⟨by kernel_rfl,by kernel_rfl,by kernel_rfl⟩
def mf:List Dt->Prop
 | [.l x0,.z x1,.z x2,.z x3,.z x4,.z x5,.z x6,.z x7,.z x8,.z x9,.z x10,.z x11,.z x12,.z x13,.z x14,.z x15,.z x16,.z x17,.z x18]=>let f (x:List (List Int)) (a:Ty) (b:Ty):Prop:=x.length=1;f x0 ⟨x1,x2,x3,x4,x5,x6,x7,x8,x9⟩ ⟨x10,x11,x12,x13,x14,x15,x16,x17,x18⟩
 | _=>False
theorem ap6 (x:List (List Int)) (hx:RowsIn (kN 9 220090000) x) (a:Ty) (ha:Ty.ok a) (b:Ty) (hb:Ty.ok b) (hp:mf (.l x::(d_Ty a (d_Ty b ([]))))) (U:Env) (g:varsD U 0 (.list (kN 9 220090000)::(v_Ty (v_Ty ([]))))=(.l x::(d_Ty a (d_Ty b ([]))))):sT_valu.asks agW (fun U e=>e.D U=ig (.l x::(d_Ty a (d_Ty b ([]))))) U fun _ _=>False:=by
 simp only[mf,d_Ty,b2i_one,am,aj,af,ah] at hp
 simp only[d_Ty,v_Ty,varsD,varD,thm5,gS0,Nat.reduceAdd,and_true] at g
 simp only[sT_valu,aoQ,aoP,aoO,ad8,aj3,aoN,aj2,aj1,agW,d_Ty,kSc,kTy,dc,xd,gK,bQ,oh,agk,aa7,ig,agl,simQ,ai,S1,Nat.reduceSub,Nat.reduceAdd,-eq_self,am,aj,af,ah,g]
 constructor<;>intro c0
 constructor<;>intro c1
 constructor<;>intro c2
 ·rw[va_m c1 c2];try rfl
 constructor<;>intro c3
 intro e;(try simp only[e,am,aj,af,ah,-eq_self]);clear e
 ·rw[va_o c1 c2,of_2 (op:=(ab x 0).op) (w:=(ab x 0).w) (.inl (pT c3)) c2];try rfl
 constructor<;>intro c4
 intro e;(try simp only[e,am,aj,af,ah,-eq_self]);clear e
 ·rw[va_o c1 c2,of_2 (op:=(ab x 0).op) (w:=(ab x 0).w) (.inl (pU c4)) c2];try rfl
 intro e;(try simp only[e,am,aj,af,ah,-eq_self]);clear e
 ·rw[va_o c1 c2,of_1 (op:=(ab x 0).op) (w:=(ab x 0).w) (pF c3 c4) (pF c3 c4)];try rfl
 constructor<;>intro c5
 intro e;(try simp only[e,am,aj,af,ah,-eq_self]);clear e
 constructor<;>intro c6
 constructor<;>intro c7
 intro e;(try simp only[e,am,aj,af,ah,-eq_self]);clear e
 ·rw[va_n c1 c5,of_8 (op:=(ab x 0).op) (w:=(ab x 0).w) (pT c6) c7 c5];try rfl
 intro e;(try simp only[e,am,aj,af,ah,-eq_self]);clear e
 ·rw[va_n c1 c5,of_2 (op:=(ab x 0).op) (w:=(ab x 0).w) (.inl (pT c6)) c7];try rfl
 constructor<;>intro c8
 constructor<;>intro c9
 intro e;(try simp only[e,am,aj,af,ah,-eq_self]);clear e
 ·rw[va_n c1 c5,of_8 (op:=(ab x 0).op) (w:=(ab x 0).w) (pU c8) c9 c5];try rfl
 intro e;(try simp only[e,am,aj,af,ah,-eq_self]);clear e
 ·rw[va_n c1 c5,of_2 (op:=(ab x 0).op) (w:=(ab x 0).w) (.inl (pU c8)) c9];try rfl
 intro e;(try simp only[e,am,aj,af,ah,-eq_self]);clear e
 ·rw[va_n c1 c5,of_1 (op:=(ab x 0).op) (w:=(ab x 0).w) (pF c6 c8) rfl];try rfl
 constructor<;>intro c10
 constructor<;>intro c11
 constructor<;>intro c12
 intro e;(try simp only[e,am,aj,af,ah,-eq_self]);clear e
 ·rw[va_e c1 c5,of_5 (op:=(ab x 0).op) (w:=(ab x 0).w) (pT c10) (pT c12) c11];try rfl
 constructor<;>intro c13
 intro e;(try simp only[e,am,aj,af,ah,-eq_self]);clear e
 ·rw[va_e c1 c5,of_5 (op:=(ab x 0).op) (w:=(ab x 0).w) (pT c10) (pU c13) c11];try rfl
 constructor<;>intro c14
 constructor<;>intro c15
 intro e;(try simp only[e,am,aj,af,ah,-eq_self]);clear e
 ·rw[va_e c1 c5,of_3 (op:=(ab x 0).op) (w:=(ab x 0).w) (pT c10) (pF c12 c13) c11 (.inl (eqI c14)),show((ab x 0).op==1)=false by rw[show(ab x 0).op=0 from eqI c14];rfl,cg (t:=a) (s:=b.s) (b:=false) (.inl (thm3 c15))];try rfl
 constructor<;>intro c16
 intro e;(try simp only[e,am,aj,af,ah,-eq_self]);clear e
 ·rw[va_e c1 c5,of_3 (op:=(ab x 0).op) (w:=(ab x 0).w) (pT c10) (pF c12 c13) c11 (.inl (eqI c14)),show((ab x 0).op==1)=false by rw[show(ab x 0).op=0 from eqI c14];rfl,cg (t:=a) (s:=b.s) (b:=false) (.inr (.inl (thm3 c16)))];try rfl
 constructor<;>intro c17
 intro e;(try simp only[e,am,aj,af,ah,-eq_self]);clear e
 ·rw[va_e c1 c5,of_3 (op:=(ab x 0).op) (w:=(ab x 0).w) (pT c10) (pF c12 c13) c11 (.inl (eqI c14)),show((ab x 0).op==1)=false by rw[show(ab x 0).op=0 from eqI c14];rfl,cg (t:=a) (s:=b.s) (b:=false) (.inr (.inr (.inl (thm3 c17))))];try rfl
 constructor<;>intro c18
 intro e;(try simp only[e,am,aj,af,ah,-eq_self]);clear e
 ·rw[va_e c1 c5,of_3 (op:=(ab x 0).op) (w:=(ab x 0).w) (pT c10) (pF c12 c13) c11 (.inl (eqI c14)),show((ab x 0).op==1)=false by rw[show(ab x 0).op=0 from eqI c14];rfl,cg (t:=a) (s:=b.s) (b:=false) (.inr (.inr (.inr (.inl (thm3 c18)))))];try rfl
 constructor<;>intro c19
 intro e;(try simp only[e,am,aj,af,ah,-eq_self]);clear e
 ·rw[va_e c1 c5,of_3 (op:=(ab x 0).op) (w:=(ab x 0).w) (pT c10) (pF c12 c13) c11 (.inl (eqI c14)),show((ab x 0).op==1)=false by rw[show(ab x 0).op=0 from eqI c14];rfl,cg (t:=a) (s:=b.s) (b:=false) (.inr (.inr (.inr (.inr (.inl (thm3 c19))))))];try rfl
 constructor<;>intro c20
 intro e;(try simp only[e,am,aj,af,ah,-eq_self]);clear e
 ·rw[va_e c1 c5,of_3 (op:=(ab x 0).op) (w:=(ab x 0).w) (pT c10) (pF c12 c13) c11 (.inl (eqI c14)),show((ab x 0).op==1)=false by rw[show(ab x 0).op=0 from eqI c14];rfl,cg (t:=a) (s:=b.s) (b:=false) (.inr (.inr (.inr (.inr (.inr ((thm3 c20)))))))];try rfl
 ·rw[va_e c1 c5,of_3 (op:=(ab x 0).op) (w:=(ab x 0).w) (pT c10) (pF c12 c13) c11 (.inl (eqI c14)),show((ab x 0).op==1)=false by rw[show(ab x 0).op=0 from eqI c14];rfl,ra (t:=a) (s:=b.s) (b:=false) (thm2 c15) (thm2 c16) (thm2 c17) (thm2 c18) (thm2 c19) (thm2 c20)];try rfl
 constructor<;>intro c21
 constructor<;>intro c22
 intro e;(try simp only[e,am,aj,af,ah,-eq_self]);clear e
 ·rw[va_e c1 c5,of_3 (op:=(ab x 0).op) (w:=(ab x 0).w) (pT c10) (pF c12 c13) c11 (.inr (eqI c21)),show((ab x 0).op==1)=true from c21,cg (t:=a) (s:=b.s) (b:=true) (.inl (thm3 c22))];try rfl
 constructor<;>intro c23
 intro e;(try simp only[e,am,aj,af,ah,-eq_self]);clear e
 ·rw[va_e c1 c5,of_3 (op:=(ab x 0).op) (w:=(ab x 0).w) (pT c10) (pF c12 c13) c11 (.inr (eqI c21)),show((ab x 0).op==1)=true from c21,cg (t:=a) (s:=b.s) (b:=true) (.inr (.inl (thm3 c23)))];try rfl
 constructor<;>intro c24
 intro e;(try simp only[e,am,aj,af,ah,-eq_self]);clear e
 ·rw[va_e c1 c5,of_3 (op:=(ab x 0).op) (w:=(ab x 0).w) (pT c10) (pF c12 c13) c11 (.inr (eqI c21)),show((ab x 0).op==1)=true from c21,cg (t:=a) (s:=b.s) (b:=true) (.inr (.inr (.inl (thm3 c24))))];try rfl
 constructor<;>intro c25
 intro e;(try simp only[e,am,aj,af,ah,-eq_self]);clear e
 ·rw[va_e c1 c5,of_3 (op:=(ab x 0).op) (w:=(ab x 0).w) (pT c10) (pF c12 c13) c11 (.inr (eqI c21)),show((ab x 0).op==1)=true from c21,cg (t:=a) (s:=b.s) (b:=true) (.inr (.inr (.inr (.inl (thm3 c25)))))];try rfl
 constructor<;>intro c26
 intro e;(try simp only[e,am,aj,af,ah,-eq_self]);clear e
 ·rw[va_e c1 c5,of_3 (op:=(ab x 0).op) (w:=(ab x 0).w) (pT c10) (pF c12 c13) c11 (.inr (eqI c21)),show((ab x 0).op==1)=true from c21,cg (t:=a) (s:=b.s) (b:=true) (.inr (.inr (.inr (.inr (.inl (thm3 c26))))))];try rfl
 constructor<;>intro c27
 intro e;(try simp only[e,am,aj,af,ah,-eq_self]);clear e
 ·rw[va_e c1 c5,of_3 (op:=(ab x 0).op) (w:=(ab x 0).w) (pT c10) (pF c12 c13) c11 (.inr (eqI c21)),show((ab x 0).op==1)=true from c21,cg (t:=a) (s:=b.s) (b:=true) (.inr (.inr (.inr (.inr (.inr ((thm3 c27)))))))];try rfl
 ·rw[va_e c1 c5,of_3 (op:=(ab x 0).op) (w:=(ab x 0).w) (pT c10) (pF c12 c13) c11 (.inr (eqI c21)),show((ab x 0).op==1)=true from c21,ra (t:=a) (s:=b.s) (b:=true) (thm2 c22) (thm2 c23) (thm2 c24) (thm2 c25) (thm2 c26) (thm2 c27)];try rfl
 intro e;(try simp only[e,am,aj,af,ah,-eq_self]);clear e
 ·rw[va_e c1 c5,of_6 (op:=(ab x 0).op) (w:=(ab x 0).w) (pT c10) c11 c14 c21];try rfl
 intro e;(try simp only[e,am,aj,af,ah,-eq_self]);clear e
 ·rw[va_e c1 c5,of_2 (op:=(ab x 0).op) (w:=(ab x 0).w) (.inl (pT c10)) c11];try rfl
 constructor<;>intro c28
 constructor<;>intro c29
 constructor<;>intro c30
 intro e;(try simp only[e,am,aj,af,ah,-eq_self]);clear e
 ·rw[va_e c1 c5,of_5 (op:=(ab x 0).op) (w:=(ab x 0).w) (pU c28) (pT c30) c29];try rfl
 constructor<;>intro c31
 intro e;(try simp only[e,am,aj,af,ah,-eq_self]);clear e
 ·rw[va_e c1 c5,of_5 (op:=(ab x 0).op) (w:=(ab x 0).w) (pU c28) (pU c31) c29];try rfl
 constructor<;>intro c32
 constructor<;>intro c33
 intro e;(try simp only[e,am,aj,af,ah,-eq_self]);clear e
 ·rw[va_e c1 c5,of_3 (op:=(ab x 0).op) (w:=(ab x 0).w) (pU c28) (pF c30 c31) c29 (.inl (eqI c32)),show((ab x 0).op==1)=false by rw[show(ab x 0).op=0 from eqI c32];rfl,cg (t:=a) (s:=b.s) (b:=false) (.inl (thm3 c33))];try rfl
 constructor<;>intro c34
 intro e;(try simp only[e,am,aj,af,ah,-eq_self]);clear e
 ·rw[va_e c1 c5,of_3 (op:=(ab x 0).op) (w:=(ab x 0).w) (pU c28) (pF c30 c31) c29 (.inl (eqI c32)),show((ab x 0).op==1)=false by rw[show(ab x 0).op=0 from eqI c32];rfl,cg (t:=a) (s:=b.s) (b:=false) (.inr (.inl (thm3 c34)))];try rfl
 constructor<;>intro c35
 intro e;(try simp only[e,am,aj,af,ah,-eq_self]);clear e
 ·rw[va_e c1 c5,of_3 (op:=(ab x 0).op) (w:=(ab x 0).w) (pU c28) (pF c30 c31) c29 (.inl (eqI c32)),show((ab x 0).op==1)=false by rw[show(ab x 0).op=0 from eqI c32];rfl,cg (t:=a) (s:=b.s) (b:=false) (.inr (.inr (.inl (thm3 c35))))];try rfl
 constructor<;>intro c36
 intro e;(try simp only[e,am,aj,af,ah,-eq_self]);clear e
 ·rw[va_e c1 c5,of_3 (op:=(ab x 0).op) (w:=(ab x 0).w) (pU c28) (pF c30 c31) c29 (.inl (eqI c32)),show((ab x 0).op==1)=false by rw[show(ab x 0).op=0 from eqI c32];rfl,cg (t:=a) (s:=b.s) (b:=false) (.inr (.inr (.inr (.inl (thm3 c36)))))];try rfl
 constructor<;>intro c37
 intro e;(try simp only[e,am,aj,af,ah,-eq_self]);clear e
 ·rw[va_e c1 c5,of_3 (op:=(ab x 0).op) (w:=(ab x 0).w) (pU c28) (pF c30 c31) c29 (.inl (eqI c32)),show((ab x 0).op==1)=false by rw[show(ab x 0).op=0 from eqI c32];rfl,cg (t:=a) (s:=b.s) (b:=false) (.inr (.inr (.inr (.inr (.inl (thm3 c37))))))];try rfl
 constructor<;>intro c38
 intro e;(try simp only[e,am,aj,af,ah,-eq_self]);clear e
 ·rw[va_e c1 c5,of_3 (op:=(ab x 0).op) (w:=(ab x 0).w) (pU c28) (pF c30 c31) c29 (.inl (eqI c32)),show((ab x 0).op==1)=false by rw[show(ab x 0).op=0 from eqI c32];rfl,cg (t:=a) (s:=b.s) (b:=false) (.inr (.inr (.inr (.inr (.inr ((thm3 c38)))))))];try rfl
 ·rw[va_e c1 c5,of_3 (op:=(ab x 0).op) (w:=(ab x 0).w) (pU c28) (pF c30 c31) c29 (.inl (eqI c32)),show((ab x 0).op==1)=false by rw[show(ab x 0).op=0 from eqI c32];rfl,ra (t:=a) (s:=b.s) (b:=false) (thm2 c33) (thm2 c34) (thm2 c35) (thm2 c36) (thm2 c37) (thm2 c38)];try rfl
 constructor<;>intro c39
 constructor<;>intro c40
 intro e;(try simp only[e,am,aj,af,ah,-eq_self]);clear e
 ·rw[va_e c1 c5,of_3 (op:=(ab x 0).op) (w:=(ab x 0).w) (pU c28) (pF c30 c31) c29 (.inr (eqI c39)),show((ab x 0).op==1)=true from c39,cg (t:=a) (s:=b.s) (b:=true) (.inl (thm3 c40))];try rfl
 constructor<;>intro c41
 intro e;(try simp only[e,am,aj,af,ah,-eq_self]);clear e
 ·rw[va_e c1 c5,of_3 (op:=(ab x 0).op) (w:=(ab x 0).w) (pU c28) (pF c30 c31) c29 (.inr (eqI c39)),show((ab x 0).op==1)=true from c39,cg (t:=a) (s:=b.s) (b:=true) (.inr (.inl (thm3 c41)))];try rfl
 constructor<;>intro c42
 intro e;(try simp only[e,am,aj,af,ah,-eq_self]);clear e
 ·rw[va_e c1 c5,of_3 (op:=(ab x 0).op) (w:=(ab x 0).w) (pU c28) (pF c30 c31) c29 (.inr (eqI c39)),show((ab x 0).op==1)=true from c39,cg (t:=a) (s:=b.s) (b:=true) (.inr (.inr (.inl (thm3 c42))))];try rfl
 constructor<;>intro c43
 intro e;(try simp only[e,am,aj,af,ah,-eq_self]);clear e
 ·rw[va_e c1 c5,of_3 (op:=(ab x 0).op) (w:=(ab x 0).w) (pU c28) (pF c30 c31) c29 (.inr (eqI c39)),show((ab x 0).op==1)=true from c39,cg (t:=a) (s:=b.s) (b:=true) (.inr (.inr (.inr (.inl (thm3 c43)))))];try rfl
 constructor<;>intro c44
 intro e;(try simp only[e,am,aj,af,ah,-eq_self]);clear e
 ·rw[va_e c1 c5,of_3 (op:=(ab x 0).op) (w:=(ab x 0).w) (pU c28) (pF c30 c31) c29 (.inr (eqI c39)),show((ab x 0).op==1)=true from c39,cg (t:=a) (s:=b.s) (b:=true) (.inr (.inr (.inr (.inr (.inl (thm3 c44))))))];try rfl
 constructor<;>intro c45
 intro e;(try simp only[e,am,aj,af,ah,-eq_self]);clear e
 ·rw[va_e c1 c5,of_3 (op:=(ab x 0).op) (w:=(ab x 0).w) (pU c28) (pF c30 c31) c29 (.inr (eqI c39)),show((ab x 0).op==1)=true from c39,cg (t:=a) (s:=b.s) (b:=true) (.inr (.inr (.inr (.inr (.inr ((thm3 c45)))))))];try rfl
 ·rw[va_e c1 c5,of_3 (op:=(ab x 0).op) (w:=(ab x 0).w) (pU c28) (pF c30 c31) c29 (.inr (eqI c39)),show((ab x 0).op==1)=true from c39,ra (t:=a) (s:=b.s) (b:=true) (thm2 c40) (thm2 c41) (thm2 c42) (thm2 c43) (thm2 c44) (thm2 c45)];try rfl
 intro e;(try simp only[e,am,aj,af,ah,-eq_self]);clear e
 ·rw[va_e c1 c5,of_6 (op:=(ab x 0).op) (w:=(ab x 0).w) (pU c28) c29 c32 c39];try rfl
 intro e;(try simp only[e,am,aj,af,ah,-eq_self]);clear e
 ·rw[va_e c1 c5,of_2 (op:=(ab x 0).op) (w:=(ab x 0).w) (.inl (pU c28)) c29];try rfl
 constructor<;>intro c46
 constructor<;>intro c47
 constructor<;>intro c48
 constructor<;>intro c49
 intro e;(try simp only[e,am,aj,af,ah,-eq_self]);clear e
 ·rw[va_e c1 c5,of_4 (op:=(ab x 0).op) (w:=(ab x 0).w) (pF c10 c28) (pT c46) c47 c48,cg (t:=b) (s:=a.s) (b:=false) (.inl (thm3 c49))];try rfl
 constructor<;>intro c50
 intro e;(try simp only[e,am,aj,af,ah,-eq_self]);clear e
 ·rw[va_e c1 c5,of_4 (op:=(ab x 0).op) (w:=(ab x 0).w) (pF c10 c28) (pT c46) c47 c48,cg (t:=b) (s:=a.s) (b:=false) (.inr (.inl (thm3 c50)))];try rfl
 constructor<;>intro c51
 intro e;(try simp only[e,am,aj,af,ah,-eq_self]);clear e
 ·rw[va_e c1 c5,of_4 (op:=(ab x 0).op) (w:=(ab x 0).w) (pF c10 c28) (pT c46) c47 c48,cg (t:=b) (s:=a.s) (b:=false) (.inr (.inr (.inl (thm3 c51))))];try rfl
 constructor<;>intro c52
 intro e;(try simp only[e,am,aj,af,ah,-eq_self]);clear e
 ·rw[va_e c1 c5,of_4 (op:=(ab x 0).op) (w:=(ab x 0).w) (pF c10 c28) (pT c46) c47 c48,cg (t:=b) (s:=a.s) (b:=false) (.inr (.inr (.inr (.inl (thm3 c52)))))];try rfl
 constructor<;>intro c53
 intro e;(try simp only[e,am,aj,af,ah,-eq_self]);clear e
 ·rw[va_e c1 c5,of_4 (op:=(ab x 0).op) (w:=(ab x 0).w) (pF c10 c28) (pT c46) c47 c48,cg (t:=b) (s:=a.s) (b:=false) (.inr (.inr (.inr (.inr (.inl (thm3 c53))))))];try rfl
 constructor<;>intro c54
 intro e;(try simp only[e,am,aj,af,ah,-eq_self]);clear e
 ·rw[va_e c1 c5,of_4 (op:=(ab x 0).op) (w:=(ab x 0).w) (pF c10 c28) (pT c46) c47 c48,cg (t:=b) (s:=a.s) (b:=false) (.inr (.inr (.inr (.inr (.inr ((thm3 c54)))))))];try rfl
 ·rw[va_e c1 c5,of_4 (op:=(ab x 0).op) (w:=(ab x 0).w) (pF c10 c28) (pT c46) c47 c48,ra (t:=b) (s:=a.s) (b:=false) (thm2 c49) (thm2 c50) (thm2 c51) (thm2 c52) (thm2 c53) (thm2 c54)];try rfl
 intro e;(try simp only[e,am,aj,af,ah,-eq_self]);clear e
 ·rw[va_e c1 c5,of_7 (op:=(ab x 0).op) (w:=(ab x 0).w) (pT c46) c47 c48];try rfl
 intro e;(try simp only[e,am,aj,af,ah,-eq_self]);clear e
 ·rw[va_e c1 c5,of_2 (op:=(ab x 0).op) (w:=(ab x 0).w) (.inr (pT c46)) c47];try rfl
 constructor<;>intro c55
 constructor<;>intro c56
 constructor<;>intro c57
 constructor<;>intro c58
 intro e;(try simp only[e,am,aj,af,ah,-eq_self]);clear e
 ·rw[va_e c1 c5,of_4 (op:=(ab x 0).op) (w:=(ab x 0).w) (pF c10 c28) (pU c55) c56 c57,cg (t:=b) (s:=a.s) (b:=false) (.inl (thm3 c58))];try rfl
 constructor<;>intro c59
 intro e;(try simp only[e,am,aj,af,ah,-eq_self]);clear e
 ·rw[va_e c1 c5,of_4 (op:=(ab x 0).op) (w:=(ab x 0).w) (pF c10 c28) (pU c55) c56 c57,cg (t:=b) (s:=a.s) (b:=false) (.inr (.inl (thm3 c59)))];try rfl
 constructor<;>intro c60
 intro e;(try simp only[e,am,aj,af,ah,-eq_self]);clear e
 ·rw[va_e c1 c5,of_4 (op:=(ab x 0).op) (w:=(ab x 0).w) (pF c10 c28) (pU c55) c56 c57,cg (t:=b) (s:=a.s) (b:=false) (.inr (.inr (.inl (thm3 c60))))];try rfl
 constructor<;>intro c61
 intro e;(try simp only[e,am,aj,af,ah,-eq_self]);clear e
 ·rw[va_e c1 c5,of_4 (op:=(ab x 0).op) (w:=(ab x 0).w) (pF c10 c28) (pU c55) c56 c57,cg (t:=b) (s:=a.s) (b:=false) (.inr (.inr (.inr (.inl (thm3 c61)))))];try rfl
 constructor<;>intro c62
 intro e;(try simp only[e,am,aj,af,ah,-eq_self]);clear e
 ·rw[va_e c1 c5,of_4 (op:=(ab x 0).op) (w:=(ab x 0).w) (pF c10 c28) (pU c55) c56 c57,cg (t:=b) (s:=a.s) (b:=false) (.inr (.inr (.inr (.inr (.inl (thm3 c62))))))];try rfl
 constructor<;>intro c63
 intro e;(try simp only[e,am,aj,af,ah,-eq_self]);clear e
 ·rw[va_e c1 c5,of_4 (op:=(ab x 0).op) (w:=(ab x 0).w) (pF c10 c28) (pU c55) c56 c57,cg (t:=b) (s:=a.s) (b:=false) (.inr (.inr (.inr (.inr (.inr ((thm3 c63)))))))];try rfl
 ·rw[va_e c1 c5,of_4 (op:=(ab x 0).op) (w:=(ab x 0).w) (pF c10 c28) (pU c55) c56 c57,ra (t:=b) (s:=a.s) (b:=false) (thm2 c58) (thm2 c59) (thm2 c60) (thm2 c61) (thm2 c62) (thm2 c63)];try rfl
 intro e;(try simp only[e,am,aj,af,ah,-eq_self]);clear e
 ·rw[va_e c1 c5,of_7 (op:=(ab x 0).op) (w:=(ab x 0).w) (pU c55) c56 c57];try rfl
 intro e;(try simp only[e,am,aj,af,ah,-eq_self]);clear e
 ·rw[va_e c1 c5,of_2 (op:=(ab x 0).op) (w:=(ab x 0).w) (.inr (pU c55)) c56];try rfl
 intro e;(try simp only[e,am,aj,af,ah,-eq_self]);clear e
 ·rw[va_e c1 c5,of_1 (op:=(ab x 0).op) (w:=(ab x 0).w) (pF c10 c28) (pF c46 c55)];try rfl
 ·(rw[hp] at c0;simp at c0)
theorem ahG {sp:Spec} {key:Nat} (hF:sp.F key=ig) (hP:sp.pre key=mf):SmOk Tryz.prog sp (tH key):=
 aq (s:=tH key) hF hP mxo8 gU (smc (oU rfl) (smc (atY rfl) (smc (abI rfl) (smc (gf rfl) sm0)))) Tryz.func79 (fnc Tryz.func53 (fnc Tryz.func78 (fnc Tryz.func144 (fnc Tryz.func55 fn0)))) aqO (.inr (.inl ⟨(fun xs h L hL=>by unfold mf at h;split at h<;>first | exact h.elim | (simp at hL;subst hL;rw[h];unfold maxLen;omega)),rfl⟩)) (fun x0 gx0=>bi fun q2 gq2=>bi fun q3 gq3=>fun hp U g=>ap6 x0 gx0 q2 gq2 q3 gq3 hp U g)
def tys_VyE:List (Nat×TI):=[(2,tiq2),
 (3,tiq3),
 (4,tiq4),
 (22,ac3),
 (24,ac2),
 (37,gP),
 (39,yG),
 (42,fF),
 (44,gO),
 (46,kt),
 (48,dy),
 (50,qr),
 (70,asY),
 (105,vP),
 (167,anp)]
theorem afd:(tys_VyE.all fun p=>ckTI Tryz.prog p.1 p.2)=true:=by kernel_rfl
theorem vC:(tys_VyE.all fun p=>!p.2.eqok||((Nat.beq p.1 39&&aN p.2.zero nO)||(Nat.beq p.1 48&&aN p.2.zero z_Sc)||(Nat.beq p.1 50&&aN p.2.zero z_Ty)))=true:=by kernel_rfl
theorem aeR:(tys_VyE.all fun p=>!p.2.keyok)=true:=by kernel_rfl
theorem nV:∀t i,(t,i)∈tys_VyE->TIok Tryz.prog t i:=by
 intro t i h
 refine bB (cz (f:=ckTI Tryz.prog) afd h) (fun he=> ?_) (fun he=> ?_) (fun he=> ?_)
 ·have h1:=thm7.1 vC (t,i) h
  simp only[he,Bool.not_true,Bool.false_or,bH,thm0] at h1
  rcases h1 with(h1 | h1) | h1
  ·have hs:=h1.2
   obtain rfl:=thm1 h1.1
   exact fun vs us hv hu=>pY vs us (an hs hv) (an hs hu)
  ·have hs:=h1.2
   obtain rfl:=thm1 h1.1
   exact fun vs us hv hu=>qy vs us (an hs hv) (an hs hu)
  ·have hs:=h1.2
   obtain rfl:=thm1 h1.1
   exact fun vs us hv hu=>qx vs us (an hs hv) (an hs hu)
 ·have h1:=thm7.1 vC (t,i) h
  simp only[he,Bool.not_true,Bool.false_or,bH,thm0] at h1
  rcases h1 with(h1 | h1) | h1
  ·have hs:=h1.2
   obtain rfl:=thm1 h1.1
   exact jY
  ·have hs:=h1.2
   obtain rfl:=thm1 h1.1
   exact jv
  ·have hs:=h1.2
   obtain rfl:=thm1 h1.1
   exact ju
 ·have h1:=thm7.1 aeR (t,i) h
  simp[he] at h1
def zn (key:Nat):Sm:=⟨54,key,[.one (.int .u64)],[.one (.int .i64)],false⟩
def yV (n:Int):List Dt:=[.z (pcnt n)]
def oZ:List Dt->List Dt
 | [.z x0]=>yV x0
 | _=>[]
def aoI:E:=(.bin .add .u64 (.bin .and .u64 (.bin .shr .u64 (.var 0) (.lit 1)) (.lit 6148914691236517205)) (.bin .and .u64 (.var 0) (.lit 6148914691236517205)))
def aoJ:E:=(.bin .add .u64 (.bin .and .u64 (.bin .shr .u64 aoI (.lit 2)) (.lit 3689348814741910323)) (.bin .and .u64 aoI (.lit 3689348814741910323)))
def aoK:E:=(.bin .and .u64 (.bin .add .u64 (.bin .shr .u64 aoJ (.lit 4)) aoJ) (.lit 1085102592571150095))
def aoL:E:=(.bin .add .u64 aoK (.bin .shr .u64 aoK (.lit 8)))
def aoM:E:=(.bin .add .u64 aoL (.bin .shr .u64 aoL (.lit 16)))
def sT_vcnt:Tr:=
(.leaf (.cons (.bin .and .i64 (.conv .i64 (.bin .add .u64 aoM (.bin .shr .u64 aoM (.lit 32)))) (.lit 127)) .nil))
def agT:Spec:={F:=fun k=>match k with | _=>fun _=>[],pre:=fun _ _=>True}
theorem aqL:ap tys_VyE [] [(107,Tryz.f107,[],[])] [] [] 200 Tryz.f54 [.one (.int .u64)] [.one (.int .i64)] false [.int .u64] sT_vcnt:=⟨by kernel_rfl,by kernel_rfl,by kernel_rfl⟩
def oD:List Dt->Prop
 | [.z x0]=>let f (n:Int):Prop:=1<=n/\n<=8;f x0
 | _=>False
theorem ap3 (n:Int) (hn:inK .u64 n=true) (hp:oD [.z n]) (U:Env) (g:varsD U 0 [.int .u64]=[.z n]):sT_vcnt.asks agT (fun U e=>e.D U=oZ [.z n]) U fun _ _=>False:=by
 simp only[oD,b2i_one,am,aj,af,ah] at hp
 simp only[varsD,varD,thm5,gS0,Nat.reduceAdd,and_true] at g
 simp only[sT_vcnt,aoM,aoL,aoK,aoJ,aoI,agT,oZ,yV,simQ,ai,S1,Nat.reduceSub,Nat.reduceAdd,-eq_self,am,aj,af,ah,g]
 ·(rcases cnt8 hp with rfl | rfl | rfl | rfl | rfl | rfl | rfl | rfl<;>rfl)
theorem arm {sp:Spec} {key:Nat} (hF:sp.F key=oZ) (hP:sp.pre key=oD):SmOk Tryz.prog sp (zn key):=
 aq (s:=zn key) hF hP mxo8 nV (sm0) Tryz.func54 (fnc Tryz.func107 fn0) aqL (.inl rfl) (fun x0 gx0 hp U g=>ap3 x0 gx0 hp U g)
def ahq (key:Nat):Sm:=⟨18,key,[.agg lG,.agg kTy,.one (.int .i64),.one (.int .i64)],[.one .bool],false⟩
def agf (p:Prog) (t:Ty) (off:Int) (size:Int):List Dt:=[.z (b2i (aB p.ctx t off size))]
def wZ:List Dt->List Dt
 | [.z x0,.l x1,.z x2,.z x3,.z x4,.z x5,.z x6,.z x7,.z x8,.z x9,.z x10,.z x11,.z x12]=>agf ⟨x0,x1⟩ ⟨x2,x3,x4,x5,x6,x7,x8,x9,x10⟩ x11 x12
 | _=>[]
def aoH:E:=(.bin .add .i64 (.bin .add .i64 (.var 10) (.var 11)) (.var 12))
def sT_vwi:Tr:=
(.br (.eq (.var 2) (.lit 2))
(.br (.lt (.var 12) (.lit 1))
(.leaf (.cb (.tt false) .nil))
(.br (.lt (.lit 8) (.var 12))
(.leaf (.cb (.tt false) .nil))
(.call 0 [.int .i64] (.cons (.conv .u64 (.var 12)) .nil) 13
(.br (.eq (.var 13) (.lit 1))
(.br (.lt (.var 11) (.lit (-1048576)))
(.leaf (.cb (.tt false) .nil))
(.br (.lt (.lit 1048576) (.var 11))
(.leaf (.cb (.tt false) .nil))
(.br (.lt (.var 9) (.lit (-1048576)))
(.leaf (.cb (.tt false) .nil))
(.br (.lt (.lit 1048576) (.var 9))
(.leaf (.cb (.tt false) .nil))
(.br (.lt (.var 10) (.lit (-1048576)))
(.leaf (.cb (.tt false) .nil))
(.br (.lt (.lit 1048576) (.var 10))
(.leaf (.cb (.tt false) .nil))
(.br (.lt (.var 10) (.var 9))
(.leaf (.cb (.tt false) .nil))
(.br (.lt (.bin .add .i64 (.var 9) (.var 11)) (.lit 0))
(.leaf (.cb (.tt false) .nil))
(.leaf (.cb (.not (.lt (.var 0) aoH)) .nil))))))))))
(.leaf (.cb (.tt false) .nil))))))
(.br (.eq (.var 2) (.lit 3))
(.br (.lt (.var 12) (.lit 1))
(.leaf (.cb (.tt false) .nil))
(.br (.lt (.lit 8) (.var 12))
(.leaf (.cb (.tt false) .nil))
(.call 0 [.int .i64] (.cons (.conv .u64 (.var 12)) .nil) 13
(.br (.eq (.var 13) (.lit 1))
(.br (.lt (.var 11) (.lit (-1048576)))
(.leaf (.cb (.tt false) .nil))
(.br (.lt (.lit 1048576) (.var 11))
(.leaf (.cb (.tt false) .nil))
(.br (.lt (.var 9) (.lit (-1048576)))
(.leaf (.cb (.tt false) .nil))
(.br (.lt (.lit 1048576) (.var 9))
(.leaf (.cb (.tt false) .nil))
(.br (.lt (.var 10) (.lit (-1048576)))
(.leaf (.cb (.tt false) .nil))
(.br (.lt (.lit 1048576) (.var 10))
(.leaf (.cb (.tt false) .nil))
(.br (.lt (.var 10) (.var 9))
(.leaf (.cb (.tt false) .nil))
(.br (.lt (.bin .add .i64 (.var 9) (.var 11)) (.lit 0))
(.leaf (.cb (.tt false) .nil))
(.leaf (.cb (.not (.lt (.lit 64) aoH)) .nil))))))))))
(.leaf (.cb (.tt false) .nil))))))
(.leaf (.cb (.tt false) .nil))))
def anC:Spec:={F:=fun k=>match k with | 0=>oZ | _=>fun _=>[],pre:=fun k=>match k with | 0=>oD | _=>fun _=>True}
theorem atu:ap tys_VyE [zn 0] [(53,Tryz.f53,[],[]),(55,Tryz.f55,[],[])] [(999997,[])] [] 200 Tryz.f18 [.agg lG,.agg kTy,.one (.int .i64),.one (.int .i64)] [.one .bool] false (.int .i64::(.list (kN 9 220090000)::(v_Ty (.int .i64::(.int .i64::([])))))) sT_vwi:=⟨by kernel_rfl,by kernel_rfl,by kernel_rfl⟩
def qN:List Dt->Prop
 | [.z x0,.l x1,.z x2,.z x3,.z x4,.z x5,.z x6,.z x7,.z x8,.z x9,.z x10,.z x11,.z x12]=>let f (p:Prog) (t:Ty) (off:Int) (size:Int):Prop:=p.l.length<=maxLen;f ⟨x0,x1⟩ ⟨x2,x3,x4,x5,x6,x7,x8,x9,x10⟩ x11 x12
 | _=>False
theorem as5 (p:Prog) (hp:Prog.ok p) (t:Ty) (ht:Ty.ok t) (off:Int) (hoff:inK .i64 off=true) (size:Int) (hsize:inK .i64 size=true) (hp:qN (.z p.ctx::(.l p.l::(d_Ty t (.z off::(.z size::([]))))))) (U:Env) (g:varsD U 0 (.int .i64::(.list (kN 9 220090000)::(v_Ty (.int .i64::(.int .i64::([]))))))=(.z p.ctx::(.l p.l::(d_Ty t (.z off::(.z size::([]))))))):sT_vwi.asks anC (fun U e=>e.D U=wZ (.z p.ctx::(.l p.l::(d_Ty t (.z off::(.z size::([]))))))) U fun _ _=>False:=by
 simp only[qN,d_Ty,b2i_one,am,aj,af,ah] at hp
 simp only[d_Ty,v_Ty,varsD,varD,thm5,gS0,Nat.reduceAdd,and_true] at g
 simp only[sT_vwi,aoH,anC,d_Ty,oZ,yV,wZ,agf,oD,simQ,ai,S1,Nat.reduceSub,Nat.reduceAdd,-eq_self,am,aj,af,ah,g]
 constructor<;>intro c0
 constructor<;>intro c1
 ·(simp_all [aB,tptr,bO,far2,opI,pcnt,aR,bf]<;>first | omega | (rw[aJ];simp;omega))
 constructor<;>intro c2
 ·(simp_all [aB,tptr,bO,far2,opI,pcnt,aR,bf]<;>first | omega | (rw[aJ];simp;omega))
 refine⟨?_,?_⟩
 ·(show 1<=IntKind.u64.wrap size/\IntKind.u64.wrap size<=8;rw[bf];have:=thm2 c1;have:=thm2 c2;omega)
 intro e;(try simp only[e,am,aj,af,ah,-eq_self]);clear e
 constructor<;>intro c3
 constructor<;>intro c4
 ·(simp_all [aB,tptr,bO,far2,opI,pcnt,aR,bf]<;>first | omega | (rw[aJ];simp;omega))
 constructor<;>intro c5
 ·(simp_all [aB,tptr,bO,far2,opI,pcnt,aR,bf]<;>first | omega | (rw[aJ];simp;omega))
 constructor<;>intro c6
 ·(simp_all [aB,tptr,bO,far2,opI,pcnt,aR,bf]<;>first | omega | (rw[aJ];simp;omega))
 constructor<;>intro c7
 ·(simp_all [aB,tptr,bO,far2,opI,pcnt,aR,bf]<;>first | omega | (rw[aJ];simp;omega))
 constructor<;>intro c8
 ·(simp_all [aB,tptr,bO,far2,opI,pcnt,aR,bf]<;>first | omega | (rw[aJ];simp;omega))
 constructor<;>intro c9
 ·(simp_all [aB,tptr,bO,far2,opI,pcnt,aR,bf]<;>first | omega | (rw[aJ];simp;omega))
 constructor<;>intro c10
 ·(simp_all [aB,tptr,bO,far2,opI,pcnt,aR,bf]<;>first | omega | (rw[aJ];simp;omega))
 constructor<;>intro c11
 ·(simp_all [aB,tptr,bO,far2,opI,pcnt,aR,bf]<;>first | omega | (rw[aJ];simp;omega))
 ·(simp_all [aB,tptr,bO,far2,opI,pcnt,aR,bf]<;>first | omega | (rw[aJ];simp;omega))
 ·(simp_all [aB,tptr,bO,far2,opI,pcnt,aR,bf]<;>first | omega | (rw[aJ];simp;omega))
 constructor<;>intro c12
 constructor<;>intro c13
 ·(simp_all [aB,tptr,bO,far2,opI,pcnt,aR,bf]<;>first | omega | (rw[aJ];simp;omega))
 constructor<;>intro c14
 ·(simp_all [aB,tptr,bO,far2,opI,pcnt,aR,bf]<;>first | omega | (rw[aJ];simp;omega))
 refine⟨?_,?_⟩
 ·(show 1<=IntKind.u64.wrap size/\IntKind.u64.wrap size<=8;rw[bf];have:=thm2 c13;have:=thm2 c14;omega)
 intro e;(try simp only[e,am,aj,af,ah,-eq_self]);clear e
 constructor<;>intro c15
 constructor<;>intro c16
 ·(simp_all [aB,tptr,bO,far2,opI,pcnt,aR,bf]<;>first | omega | (rw[aJ];simp;omega))
 constructor<;>intro c17
 ·(simp_all [aB,tptr,bO,far2,opI,pcnt,aR,bf]<;>first | omega | (rw[aJ];simp;omega))
 constructor<;>intro c18
 ·(simp_all [aB,tptr,bO,far2,opI,pcnt,aR,bf]<;>first | omega | (rw[aJ];simp;omega))
 constructor<;>intro c19
 ·(simp_all [aB,tptr,bO,far2,opI,pcnt,aR,bf]<;>first | omega | (rw[aJ];simp;omega))
 constructor<;>intro c20
 ·(simp_all [aB,tptr,bO,far2,opI,pcnt,aR,bf]<;>first | omega | (rw[aJ];simp;omega))
 constructor<;>intro c21
 ·(simp_all [aB,tptr,bO,far2,opI,pcnt,aR,bf]<;>first | omega | (rw[aJ];simp;omega))
 constructor<;>intro c22
 ·(simp_all [aB,tptr,bO,far2,opI,pcnt,aR,bf]<;>first | omega | (rw[aJ];simp;omega))
 constructor<;>intro c23
 ·(simp_all [aB,tptr,bO,far2,opI,pcnt,aR,bf]<;>first | omega | (rw[aJ];simp;omega))
 ·(simp_all [aB,tptr,bO,far2,opI,pcnt,aR,bf]<;>first | omega | (rw[aJ];simp;omega))
 ·(simp_all [aB,tptr,bO,far2,opI,pcnt,aR,bf]<;>first | omega | (rw[aJ];simp;omega))
 ·(simp_all [aB,tptr,bO,far2,opI,pcnt,aR,bf]<;>first | omega | (rw[aJ];simp;omega))
theorem atW {sp:Spec} {key:Nat} (hF:sp.F key=wZ) (hP:sp.pre key=qN):SmOk Tryz.prog sp (ahq key):=
 aq (s:=ahq key) hF hP mxo8 nV (smc (arm rfl rfl) sm0) Tryz.func18 (fnc Tryz.func53 (fnc Tryz.func55 fn0)) atu (.inr (.inl ⟨(fun xs h L hL=>by unfold qN at h;split at h<;>first | exact h.elim | (simp at hL;subst hL;exact h)),rfl⟩)) (fun x0 gx0 x1 gx1=>bi fun q1 gq1=>fun x11 gx11 x12 gx12 hp U g=>as5 ⟨x0,x1⟩ ⟨gx0,gx1⟩ q1 gq1 x11 gx11 x12 gx12 hp U g)
def tI (key:Nat):Sm:=⟨80,key,[.ptr lG,.one (.el (kN 9 220090000) 39),.agg kTy],[.one (.int .i64),.one (.int .i64),.one .bool],true⟩
def agm (p:Prog) (x:List (List Int)) (t:Ty):List Dt:=[.z (opI .add .i64 t.lo (ab x 0).off),.z (opI .add .i64 t.hi (ab x 0).off),.z (b2i (aB p.ctx t (ab x 0).off (ab x 0).sz))]
def fv:List Dt->List Dt
 | [.z x0,.l x1,.l x2,.z x3,.z x4,.z x5,.z x6,.z x7,.z x8,.z x9,.z x10,.z x11]=>agm ⟨x0,x1⟩ x2 ⟨x3,x4,x5,x6,x7,x8,x9,x10,x11⟩
 | _=>[]
def sT_vacc:Tr:=
(.br (.lt (.lit 0) (.len (.lw 2)))
(.call 0 [.bool] (.cons (.var 0) (.cL (.lw 1) (.vs 3 9 (.cons (.get (.lw 2) (.lit 0) 7) (.cons (.conv .i64 (.get (.lw 2) (.lit 0) 3)) .nil))))) 12
(.leaf (.cons (.bin .add .i64 (.var 10) (.get (.lw 2) (.lit 0) 7)) (.cons (.bin .add .i64 (.var 11) (.get (.lw 2) (.lit 0) 7)) (.cb (.bw 12) .nil)))))
(.stuck 54))
def agY:Spec:={F:=fun k=>match k with | 0=>wZ | _=>fun _=>[],pre:=fun k=>match k with | 0=>qN | _=>fun _=>True}
theorem aqQ:ap tys_VyE [ahq 0] [] [] [] 200 Tryz.f80 [.ptr lG,.one (.el (kN 9 220090000) 39),.agg kTy] [.one (.int .i64),.one (.int .i64),.one .bool] true (.int .i64::(.list (kN 9 220090000)::(.list (kN 9 220090000)::(v_Ty ([]))))) sT_vacc:=⟨by kernel_rfl,by kernel_rfl,by kernel_rfl⟩
def mg:List Dt->Prop
 | [.z x0,.l x1,.l x2,.z x3,.z x4,.z x5,.z x6,.z x7,.z x8,.z x9,.z x10,.z x11]=>let f (p:Prog) (x:List (List Int)) (t:Ty):Prop:=x.length=1/\p.l.length<=maxLen;f ⟨x0,x1⟩ x2 ⟨x3,x4,x5,x6,x7,x8,x9,x10,x11⟩
 | _=>False
theorem ap8 (p:Prog) (hp:Prog.ok p) (x:List (List Int)) (hx:RowsIn (kN 9 220090000) x) (t:Ty) (ht:Ty.ok t) (hp:mg (.z p.ctx::(.l p.l::(.l x::(d_Ty t ([])))))) (U:Env) (g:varsD U 0 (.int .i64::(.list (kN 9 220090000)::(.list (kN 9 220090000)::(v_Ty ([])))))=(.z p.ctx::(.l p.l::(.l x::(d_Ty t ([])))))):sT_vacc.asks agY (fun U e=>e.D U=fv (.z p.ctx::(.l p.l::(.l x::(d_Ty t ([])))))) U fun _ _=>False:=by
 simp only[mg,d_Ty,b2i_one,am,aj,af,ah] at hp
 simp only[d_Ty,v_Ty,varsD,varD,thm5,gS0,Nat.reduceAdd,and_true] at g
 simp only[sT_vacc,agY,d_Ty,wZ,agf,fv,agm,qN,simQ,ai,S1,Nat.reduceSub,Nat.reduceAdd,-eq_self,am,aj,af,ah,g]
 constructor<;>intro c0
 refine⟨?_,?_⟩
 ·exact hp.2
 intro e;(try simp only[e,am,aj,af,ah,-eq_self]);clear e
 ·(rw[auJ (auT (fun r hr=>xr (hx.row r hr) (c:=3) (k:=some .i8) rfl) 0)];rfl)
 ·(rw[hp.1] at c0;simp at c0)
theorem ahH {sp:Spec} {key:Nat} (hF:sp.F key=fv) (hP:sp.pre key=mg):SmOk Tryz.prog sp (tI key):=
 aq (s:=tI key) hF hP mxo8 nV (smc (atW rfl rfl) sm0) Tryz.func80 fn0 aqQ (.inr (.inl ⟨(fun xs h L hL=>by unfold mg at h;split at h<;>first | exact h.elim | (simp at hL;rcases hL with rfl | rfl;exact h.2;rw[h.1];unfold maxLen;omega)),rfl⟩)) (fun x0 gx0 x1 gx1 x2 gx2=>bi fun q3 gq3=>fun hp U g=>ap8 ⟨x0,x1⟩ ⟨gx0,gx1⟩ x2 gx2 q3 gq3 hp U g)
def tys_SdE:List (Nat×TI):=[(2,tiq2),
 (3,tiq3),
 (37,gP),
 (42,fF),
 (44,gO),
 (46,kt),
 (48,dy),
 (50,qr),
 (51,si),
 (52,sf),
 (54,ac0)]
theorem afj:(tys_SdE.all fun p=>ckTI Tryz.prog p.1 p.2)=true:=by kernel_rfl
theorem vI:(tys_SdE.all fun p=>!p.2.eqok||((Nat.beq p.1 48&&aN p.2.zero z_Sc)||(Nat.beq p.1 50&&aN p.2.zero z_Ty)))=true:=by kernel_rfl
theorem aeX:(tys_SdE.all fun p=>!p.2.keyok)=true:=by kernel_rfl
theorem nW:∀t i,(t,i)∈tys_SdE->TIok Tryz.prog t i:=by
 intro t i h
 refine bB (cz (f:=ckTI Tryz.prog) afj h) (fun he=> ?_) (fun he=> ?_) (fun he=> ?_)
 ·have h1:=thm7.1 vI (t,i) h
  simp only[he,Bool.not_true,Bool.false_or,bH,thm0] at h1
  rcases h1 with h1 | h1
  ·have hs:=h1.2
   obtain rfl:=thm1 h1.1
   exact fun vs us hv hu=>qy vs us (an hs hv) (an hs hu)
  ·have hs:=h1.2
   obtain rfl:=thm1 h1.1
   exact fun vs us hv hu=>qx vs us (an hs hv) (an hs hu)
 ·have h1:=thm7.1 vI (t,i) h
  simp only[he,Bool.not_true,Bool.false_or,bH,thm0] at h1
  rcases h1 with h1 | h1
  ·have hs:=h1.2
   obtain rfl:=thm1 h1.1
   exact jv
  ·have hs:=h1.2
   obtain rfl:=thm1 h1.1
   exact ju
 ·have h1:=thm7.1 aeX (t,i) h
  simp[he] at h1
def tR (key:Nat):Sm:=⟨146,key,[.agg kSta,.one (.int .i64),.one (.int .i64),.one (.int .i64)],[.one .bool],false⟩
def sT (s:Sta) (lo:Int) (hi:Int) (size:Int):List Dt:=[.z (b2i (smac s lo hi size))]
def iq:List Dt->List Dt:=bL fun s=>rdZ fun lo=>rdZ fun hi=>rdZ fun size=>fun _=>sT s lo hi size
def sT_tacc:Tr:=
(.br (.eq (.var 173) (.lit 1))
(.br (.lt (.var 171) (.lit 0))
(.leaf (.cb (.tt false) .nil))
(.br (.lt (.var 172) (.var 171))
(.leaf (.cb (.tt false) .nil))
(.br (.lt (.bin .sub .i64 (.lit 64) (.var 173)) (.var 172))
(.leaf (.cb (.tt false) .nil))
(.call 0 [.bool] (.vs 0 171 .nil) 174
(.leaf (.cb (.bw 174) .nil))))))
(.br (.eq (.var 173) (.lit 2))
(.br (.lt (.var 171) (.lit 0))
(.leaf (.cb (.tt false) .nil))
(.br (.lt (.var 172) (.var 171))
(.leaf (.cb (.tt false) .nil))
(.br (.lt (.bin .sub .i64 (.lit 64) (.var 173)) (.var 172))
(.leaf (.cb (.tt false) .nil))
(.call 0 [.bool] (.vs 0 171 .nil) 174
(.leaf (.cb (.bw 174) .nil))))))
(.br (.eq (.var 173) (.lit 4))
(.br (.lt (.var 171) (.lit 0))
(.leaf (.cb (.tt false) .nil))
(.br (.lt (.var 172) (.var 171))
(.leaf (.cb (.tt false) .nil))
(.br (.lt (.bin .sub .i64 (.lit 64) (.var 173)) (.var 172))
(.leaf (.cb (.tt false) .nil))
(.call 0 [.bool] (.vs 0 171 .nil) 174
(.leaf (.cb (.bw 174) .nil))))))
(.br (.eq (.var 173) (.lit 8))
(.br (.lt (.var 171) (.lit 0))
(.leaf (.cb (.tt false) .nil))
(.br (.lt (.var 172) (.var 171))
(.leaf (.cb (.tt false) .nil))
(.br (.lt (.bin .sub .i64 (.lit 64) (.var 173)) (.var 172))
(.leaf (.cb (.tt false) .nil))
(.call 0 [.bool] (.vs 0 171 .nil) 174
(.leaf (.cb (.bw 174) .nil))))))
(.leaf (.cb (.tt false) .nil))))))
def ag5:Spec:={F:=fun k=>match k with | 0=>bY | _=>fun _=>[],pre:=fun _ _=>True}
theorem aqW:ap tys_SdE [hG 0] [] [] [] 200 Tryz.f146 [.agg kSta,.one (.int .i64),.one (.int .i64),.one (.int .i64)] [.one .bool] false (bG (.int .i64::(.int .i64::(.int .i64::([]))))) sT_tacc:=⟨by kernel_rfl,by kernel_rfl,by kernel_rfl⟩
theorem aqe (s:Sta) (hs:Sta.ok s) (lo:Int) (hlo:inK .i64 lo=true) (hi:Int) (hhi:inK .i64 hi=true) (size:Int) (hsize:inK .i64 size=true) (U:Env) (g:varsD U 0 (bG (.int .i64::(.int .i64::(.int .i64::([])))))=(av s (.z lo::(.z hi::(.z size::([])))))):sT_tacc.asks ag5 (fun U e=>e.D U=iq (av s (.z lo::(.z hi::(.z size::([])))))) U fun _ _=>False:=by
 simp only[iq,bp,fx,rdZ,rdB]
 simp only[av,d_Ty,bG,v_Ty,varsD,varD,thm5,gS0,Nat.reduceAdd,and_true] at g
 simp(maxSteps:=10000000) only[sT_tacc,ag5,av,d_Ty,bL,cY,rdZ,bY,me,iq,sT,simQ,ai,S1,Nat.reduceSub,Nat.reduceAdd,-eq_self,am,aj,af,ah,g]
 constructor<;>intro c0
 constructor<;>intro c1
 ·rw[sx c1]
 constructor<;>intro c2
 ·rw[sA c2]
 constructor<;>intro c3
 ·rw[nr c3]
 intro e;(try simp only[e,am,aj,af,ah,-eq_self]);clear e
 ·rw[sy (.inl c0) c1 c2,c3,Bool.not_false,Bool.true_and]
 constructor<;>intro c4
 constructor<;>intro c5
 ·rw[sx c5]
 constructor<;>intro c6
 ·rw[sA c6]
 constructor<;>intro c7
 ·rw[nr c7]
 intro e;(try simp only[e,am,aj,af,ah,-eq_self]);clear e
 ·rw[sy (.inr (.inl c4)) c5 c6,c7,Bool.not_false,Bool.true_and]
 constructor<;>intro c8
 constructor<;>intro c9
 ·rw[sx c9]
 constructor<;>intro c10
 ·rw[sA c10]
 constructor<;>intro c11
 ·rw[nr c11]
 intro e;(try simp only[e,am,aj,af,ah,-eq_self]);clear e
 ·rw[sy (.inr (.inr (.inl c8))) c9 c10,c11,Bool.not_false,Bool.true_and]
 constructor<;>intro c12
 constructor<;>intro c13
 ·rw[sx c13]
 constructor<;>intro c14
 ·rw[sA c14]
 constructor<;>intro c15
 ·rw[nr c15]
 intro e;(try simp only[e,am,aj,af,ah,-eq_self]);clear e
 ·rw[sy (.inr (.inr (.inr c12))) c13 c14,c15,Bool.not_false,Bool.true_and]
 ·rw[afW c0 c4 c8 c12]
theorem ahR {sp:Spec} {key:Nat} (hF:sp.F key=iq) (hP:sp.pre key=fun _=>True:=by rfl):SmOk Tryz.prog sp (tR key):=
 aq (s:=tR key) hF hP mxo8 nW (smc (mj rfl) sm0) Tryz.func146 fn0 aqW (.inl rfl) (cS fun q0 gq0=>fun x171 gx171 x172 gx172 x173 gx173 hp U g=>aqe q0 gq0 x171 gx171 x172 gx172 x173 gx173 U g)
def tO (key:Nat):Sm:=⟨147,key,[.one (.int .i64),.one (.int .i64),.one (.int .i64)],[.one (.int .i64),.one .bool],true⟩
def sQ (lo:Int) (hi:Int) (size:Int):List Dt:=[.z (opI .quo .i64 lo 8),.z (b2i (sone lo hi size))]
def jJ:List Dt->List Dt
 | [.z x0,.z x1,.z x2]=>sQ x0 x1 x2
 | _=>[]
def aoG:Tr:=(.leaf (.cons (.bin .quo .i64 (.var 0) (.lit 8)) (.cb (.tt false) .nil)))
def sT_texa:Tr:=
(.br (.eq (.var 2) (.lit 8))
(.br (.eq (.var 0) (.var 1))
(.leaf (.cons (.bin .quo .i64 (.var 0) (.lit 8)) (.cb (.eq (.bin .rem .i64 (.var 0) (.lit 8)) (.lit 0)) .nil)))
 aoG)
 aoG)
def ag4:Spec:={F:=fun k=>match k with | _=>fun _=>[],pre:=fun _ _=>True}
theorem aqV:ap tys_SdE [] [] [] [] 200 Tryz.f147 [.one (.int .i64),.one (.int .i64),.one (.int .i64)] [.one (.int .i64),.one .bool] true [.int .i64,.int .i64,.int .i64] sT_texa:=⟨by kernel_rfl,by kernel_rfl,by kernel_rfl⟩
theorem aqd (lo:Int) (hlo:inK .i64 lo=true) (hi:Int) (hhi:inK .i64 hi=true) (size:Int) (hsize:inK .i64 size=true) (U:Env) (g:varsD U 0 [.int .i64,.int .i64,.int .i64]=[.z lo,.z hi,.z size]):sT_texa.asks ag4 (fun U e=>e.D U=jJ [.z lo,.z hi,.z size]) U fun _ _=>False:=by
 simp only[varsD,varD,thm5,gS0,Nat.reduceAdd,and_true] at g
 simp only[sT_texa,aoG,ag4,jJ,sQ,simQ,ai,S1,Nat.reduceSub,Nat.reduceAdd,-eq_self,am,aj,af,ah,g]
 constructor<;>intro c0
 constructor<;>intro c1
 ·unfold sone;rw[c0,c1];rfl
 ·rw[apK c1]
 ·rw[apL c0]
theorem ahO {sp:Spec} {key:Nat} (hF:sp.F key=jJ) (hP:sp.pre key=fun _=>True:=by rfl):SmOk Tryz.prog sp (tO key):=
 aq (s:=tO key) hF hP mxo8 nW (sm0) Tryz.func147 fn0 aqV (.inl rfl) (fun x0 gx0 x1 gx1 x2 gx2 hp U g=>aqd x0 gx0 x1 gx1 x2 gx2 U g)
def nB (key:Nat):Sm:=⟨82,key,[.agg kSta,.one (.int .i64),.one (.int .i64),.one (.int .i64)],[.agg kTy,.one (.int .i64)],true⟩
def aa9 (s:Sta) (lo:Int) (hi:Int) (size:Int):List Dt:=d_Ty (od s lo hi size) (.z (sC s lo hi size)::([]))
def dz:List Dt->List Dt:=bL fun s=>rdZ fun lo=>rdZ fun hi=>rdZ fun size=>fun _=>aa9 s lo hi size
def sT_tload:Tr:=
(.call 0 [.bool] (.vs 0 174 .nil) 174
(.br (.bw 174)
(.call 1 [.int .i64,.bool] (.vs 171 3 .nil) 175
(.br (.bw 176)
(.br (.eq (.var 175) (.lit 0))
(.leaf (.vs 99 9 (.cons (.lit 0) .nil)))
(.br (.eq (.var 175) (.lit 1))
(.leaf (.vs 108 9 (.cons (.lit 0) .nil)))
(.br (.eq (.var 175) (.lit 2))
(.leaf (.vs 117 9 (.cons (.lit 0) .nil)))
(.br (.eq (.var 175) (.lit 3))
(.leaf (.vs 126 9 (.cons (.lit 0) .nil)))
(.br (.eq (.var 175) (.lit 4))
(.leaf (.vs 135 9 (.cons (.lit 0) .nil)))
(.br (.eq (.var 175) (.lit 5))
(.leaf (.vs 144 9 (.cons (.lit 0) .nil)))
(.br (.eq (.var 175) (.lit 6))
(.leaf (.vs 153 9 (.cons (.lit 0) .nil)))
(.br (.eq (.var 175) (.lit 7))
(.leaf (.vs 162 9 (.cons (.lit 0) .nil)))
.panic))))))))
(.call 2 (kSc) (.cons (.var 173) .nil) 177
(.leaf (.cons (.lit 1) (.vs 177 6 (.zs [0,0,0] .nil)))))))
(.leaf (.zs [0,0,0,0,0,0,0,0,0,2] .nil))))
def abq:Spec:={F:=fun k=>match k with | 0=>iq | 1=>jJ | 2=>gK | _=>fun _=>[],pre:=fun _ _=>True}
theorem alG:ap tys_SdE [tR 0,tO 1,qP 2] [] [] [] 200 Tryz.f82 [.agg kSta,.one (.int .i64),.one (.int .i64),.one (.int .i64)] [.agg kTy,.one (.int .i64)] true (bG (.int .i64::(.int .i64::(.int .i64::([]))))) sT_tload:=⟨by kernel_rfl,by kernel_rfl,by kernel_rfl⟩
theorem ak6 (s:Sta) (hs:Sta.ok s) (lo:Int) (hlo:inK .i64 lo=true) (hi:Int) (hhi:inK .i64 hi=true) (size:Int) (hsize:inK .i64 size=true) (U:Env) (g:varsD U 0 (bG (.int .i64::(.int .i64::(.int .i64::([])))))=(av s (.z lo::(.z hi::(.z size::([])))))):sT_tload.asks abq (fun U e=>e.D U=dz (av s (.z lo::(.z hi::(.z size::([])))))) U fun _ _=>False:=by
 simp only[dz,bp,fx,rdZ,rdB]
 simp only[av,d_Ty,bG,v_Ty,varsD,varD,thm5,gS0,Nat.reduceAdd,and_true] at g
 simp(maxSteps:=10000000) only[sT_tload,abq,av,d_Ty,kSc,bL,cY,rdZ,iq,jJ,gK,sT,sQ,aa7,dz,aa9,simQ,ai,S1,Nat.reduceSub,Nat.reduceAdd,-eq_self,am,aj,af,ah,g]
 intro e;(try simp only[e,am,aj,af,ah,-eq_self]);clear e
 constructor<;>intro c0
 intro e;(try simp only[e,am,aj,af,ah,-eq_self]);clear e
 constructor<;>intro c1
 constructor<;>intro c2
 ·rw[(bm c0 c1).1,(bm c0 c1).2,eqz c2];rfl
 constructor<;>intro c3
 ·rw[(bm c0 c1).1,(bm c0 c1).2,eqz c3];rfl
 constructor<;>intro c4
 ·rw[(bm c0 c1).1,(bm c0 c1).2,eqz c4];rfl
 constructor<;>intro c5
 ·rw[(bm c0 c1).1,(bm c0 c1).2,eqz c5];rfl
 constructor<;>intro c6
 ·rw[(bm c0 c1).1,(bm c0 c1).2,eqz c6];rfl
 constructor<;>intro c7
 ·rw[(bm c0 c1).1,(bm c0 c1).2,eqz c7];rfl
 constructor<;>intro c8
 ·rw[(bm c0 c1).1,(bm c0 c1).2,eqz c8];rfl
 constructor<;>intro c9
 ·rw[(bm c0 c1).1,(bm c0 c1).2,eqz c9];rfl
 ·exact ain c0 rfl c2 c3 c4 c5 c6 c7 c8 c9
 intro e;(try simp only[e,am,aj,af,ah,-eq_self]);clear e
 ·rw[(qJ c0 c1).1,(qJ c0 c1).2];rfl
 ·rw[(aa1 c0).1,(aa1 c0).2];rfl
theorem abK {sp:Spec} {key:Nat} (hF:sp.F key=dz) (hP:sp.pre key=fun _=>True:=by rfl):SmOk Tryz.prog sp (nB key):=
 aq (s:=nB key) hF hP mxo8 nW (smc (ahR rfl) (smc (ahO rfl) (smc (abI rfl) sm0))) Tryz.func82 fn0 alG (.inl rfl) (cS fun q0 gq0=>fun x171 gx171 x172 gx172 x173 gx173 hp U g=>ak6 q0 gq0 x171 gx171 x172 gx172 x173 gx173 U g)
def tys_SdF:List (Nat×TI):=[(2,tiq2),
 (3,tiq3),
 (37,gP),
 (42,fF),
 (44,gO),
 (46,kt),
 (48,dy),
 (50,qr),
 (51,si),
 (52,sf),
 (54,ac0)]
theorem afi:(tys_SdF.all fun p=>ckTI Tryz.prog p.1 p.2)=true:=by kernel_rfl
theorem vH:(tys_SdF.all fun p=>!p.2.eqok||((Nat.beq p.1 48&&aN p.2.zero z_Sc)||(Nat.beq p.1 50&&aN p.2.zero z_Ty)))=true:=by kernel_rfl
theorem aeW:(tys_SdF.all fun p=>!p.2.keyok)=true:=by kernel_rfl
theorem aeG:∀t i,(t,i)∈tys_SdF->TIok Tryz.prog t i:=by
 intro t i h
 refine bB (cz (f:=ckTI Tryz.prog) afi h) (fun he=> ?_) (fun he=> ?_) (fun he=> ?_)
 ·have h1:=thm7.1 vH (t,i) h
  simp only[he,Bool.not_true,Bool.false_or,bH,thm0] at h1
  rcases h1 with h1 | h1
  ·have hs:=h1.2
   obtain rfl:=thm1 h1.1
   exact fun vs us hv hu=>qy vs us (an hs hv) (an hs hu)
  ·have hs:=h1.2
   obtain rfl:=thm1 h1.1
   exact fun vs us hv hu=>qx vs us (an hs hv) (an hs hu)
 ·have h1:=thm7.1 vH (t,i) h
  simp only[he,Bool.not_true,Bool.false_or,bH,thm0] at h1
  rcases h1 with h1 | h1
  ·have hs:=h1.2
   obtain rfl:=thm1 h1.1
   exact jv
  ·have hs:=h1.2
   obtain rfl:=thm1 h1.1
   exact ju
 ·have h1:=thm7.1 aeW (t,i) h
  simp[he] at h1
def kC (key:Nat):Sm:=⟨83,key,[.agg kSta,.one (.int .i64),.one (.int .i64),.one (.int .i64),.agg kTy],[.agg kSta,.one (.int .i64)],true⟩
def wv (s:Sta) (lo:Int) (hi:Int) (size:Int) (t:Ty):List Dt:=av (gV s lo hi size t) (.z (oa s lo hi size t)::([]))
def cD:List Dt->List Dt:=bL fun s=>rdZ fun lo=>rdZ fun hi=>rdZ fun size=>cY fun t=>fun _=>wv s lo hi size t
def sT_tstore:Tr:=
(.call 0 [.bool] (.vs 0 174 .nil) 183
(.br (.bw 183)
(.br (.eq (.var 174) (.lit 0))
(.leaf (.zs [0,0,0,0,0,0,0,0,0,0,0,0,0,0,0,0,0,0,0,0,0,0,0,0,0,0,0,0,0,0,0,0,0,0,0,0,0,0,0,0,0,0,0,0,0,0,0,0,0,0,0,0,0,0,0,0,0,0,0,0,0,0,0,0,0,0,0,0,0,0,0,0,0,0,0,0,0,0,0,0,0,0,0,0,0,0,0,0,0,0,0,0,0,0,0,0,0,0,0,0,0,0,0,0,0,0,0,0,0,0,0,0,0,0,0,0,0,0,0,0,0,0,0,0,0,0,0,0,0,0,0,0,0,0,0,0,0,0,0,0,0,0,0,0,0,0,0,0,0,0,0,0,0,0,0,0,0,0,0,0,0,0,0,0,0,0,0,0,0,0,0,2] .nil))
(.call 2 [.bool] (.vs 174 9 .nil) 184
(.br (.bw 184)
(.call 1 [.int .i64,.bool] (.vs 171 3 .nil) 185
(.br (.bw 186)
(.br (.eq (.var 185) (.lit 0))
(.leaf (.vs 0 99 (.vs 174 9 (.vs 108 63 (.cons (.lit 0) .nil)))))
(.br (.eq (.var 185) (.lit 1))
(.leaf (.vs 0 108 (.vs 174 9 (.vs 117 54 (.cons (.lit 0) .nil)))))
(.br (.eq (.var 185) (.lit 2))
(.leaf (.vs 0 117 (.vs 174 9 (.vs 126 45 (.cons (.lit 0) .nil)))))
(.br (.eq (.var 185) (.lit 3))
(.leaf (.vs 0 126 (.vs 174 9 (.vs 135 36 (.cons (.lit 0) .nil)))))
(.br (.eq (.var 185) (.lit 4))
(.leaf (.vs 0 135 (.vs 174 9 (.vs 144 27 (.cons (.lit 0) .nil)))))
(.br (.eq (.var 185) (.lit 5))
(.leaf (.vs 0 144 (.vs 174 9 (.vs 153 18 (.cons (.lit 0) .nil)))))
(.br (.eq (.var 185) (.lit 6))
(.leaf (.vs 0 153 (.vs 174 9 (.vs 162 9 (.cons (.lit 0) .nil)))))
(.br (.eq (.var 185) (.lit 7))
(.leaf (.vs 0 162 (.vs 174 9 (.cons (.lit 0) .nil))))
.panic))))))))
(.loop 0 187 [.int .i64,.int .i8,.int .u64,.int .u64,.int .i64,.int .i64,.int .u64,.int .u64,.int .i64,.int .i64,.int .i8,.int .u64,.int .u64,.int .i64,.int .i64,.int .u64,.int .u64,.int .i64,.int .i64,.int .i8,.int .u64,.int .u64,.int .i64,.int .i64,.int .u64,.int .u64,.int .i64,.int .i64,.int .i8,.int .u64,.int .u64,.int .i64,.int .i64,.int .u64,.int .u64,.int .i64,.int .i64,.int .i8,.int .u64,.int .u64,.int .i64,.int .i64,.int .u64,.int .u64,.int .i64,.int .i64,.int .i8,.int .u64,.int .u64,.int .i64,.int .i64,.int .u64,.int .u64,.int .i64,.int .i64,.int .i8,.int .u64,.int .u64,.int .i64,.int .i64,.int .u64,.int .u64,.int .i64,.int .i64,.int .i8,.int .u64,.int .u64,.int .i64,.int .i64,.int .u64,.int .u64,.int .i64,.int .i64] (.cons (.bin .quo .i64 (.var 171) (.lit 8)) (.vs 99 72 .nil))
(.br (.lt (.bin .quo .i64 (.bin .sub .i64 (.bin .add .i64 (.var 172) (.var 173)) (.lit 1)) (.lit 8)) (.var 187))
(.leaf (.vs 0 99 (.vs 188 72 (.cons (.lit 0) .nil))))
(.call 3 (kTy) .nil 260
(.br (.eq (.var 187) (.lit 0))
(.next 0 (.cons (.bin .add .i64 (.var 187) (.lit 1)) (.vs 260 9 (.vs 197 63 .nil))))
(.br (.eq (.var 187) (.lit 1))
(.next 0 (.cons (.bin .add .i64 (.var 187) (.lit 1)) (.vs 188 9 (.vs 260 9 (.vs 206 54 .nil)))))
(.br (.eq (.var 187) (.lit 2))
(.next 0 (.cons (.bin .add .i64 (.var 187) (.lit 1)) (.vs 188 18 (.vs 260 9 (.vs 215 45 .nil)))))
(.br (.eq (.var 187) (.lit 3))
(.next 0 (.cons (.bin .add .i64 (.var 187) (.lit 1)) (.vs 188 27 (.vs 260 9 (.vs 224 36 .nil)))))
(.br (.eq (.var 187) (.lit 4))
(.next 0 (.cons (.bin .add .i64 (.var 187) (.lit 1)) (.vs 188 36 (.vs 260 9 (.vs 233 27 .nil)))))
(.br (.eq (.var 187) (.lit 5))
(.next 0 (.cons (.bin .add .i64 (.var 187) (.lit 1)) (.vs 188 45 (.vs 260 9 (.vs 242 18 .nil)))))
(.br (.eq (.var 187) (.lit 6))
(.next 0 (.cons (.bin .add .i64 (.var 187) (.lit 1)) (.vs 188 54 (.vs 260 9 (.vs 251 9 .nil)))))
(.br (.eq (.var 187) (.lit 7))
(.next 0 (.cons (.bin .add .i64 (.var 187) (.lit 1)) (.vs 188 63 (.vs 260 9 .nil))))
.panic)))))))))))))
(.leaf (.zs [0,0,0,0,0,0,0,0,0,0,0,0,0,0,0,0,0,0,0,0,0,0,0,0,0,0,0,0,0,0,0,0,0,0,0,0,0,0,0,0,0,0,0,0,0,0,0,0,0,0,0,0,0,0,0,0,0,0,0,0,0,0,0,0,0,0,0,0,0,0,0,0,0,0,0,0,0,0,0,0,0,0,0,0,0,0,0,0,0,0,0,0,0,0,0,0,0,0,0,0,0,0,0,0,0,0,0,0,0,0,0,0,0,0,0,0,0,0,0,0,0,0,0,0,0,0,0,0,0,0,0,0,0,0,0,0,0,0,0,0,0,0,0,0,0,0,0,0,0,0,0,0,0,0,0,0,0,0,0,0,0,0,0,0,0,0,0,0,0,0,0,2] .nil)))))
(.leaf (.zs [0,0,0,0,0,0,0,0,0,0,0,0,0,0,0,0,0,0,0,0,0,0,0,0,0,0,0,0,0,0,0,0,0,0,0,0,0,0,0,0,0,0,0,0,0,0,0,0,0,0,0,0,0,0,0,0,0,0,0,0,0,0,0,0,0,0,0,0,0,0,0,0,0,0,0,0,0,0,0,0,0,0,0,0,0,0,0,0,0,0,0,0,0,0,0,0,0,0,0,0,0,0,0,0,0,0,0,0,0,0,0,0,0,0,0,0,0,0,0,0,0,0,0,0,0,0,0,0,0,0,0,0,0,0,0,0,0,0,0,0,0,0,0,0,0,0,0,0,0,0,0,0,0,0,0,0,0,0,0,0,0,0,0,0,0,0,0,0,0,0,0,2] .nil))))
def wH:Spec:={F:=fun k=>match k with | 0=>iq | 1=>jJ | 2=>jI | 3=>bQ | _=>fun _=>[],pre:=fun _ _=>True}
theorem agA:ap tys_SdF [tR 0,tO 1,tL 2,dX 3] [] [(8,[.tmpI 14 .i64,.cI 0 99 .i8,.cI 0 100 .u64,.cI 0 101 .u64,.cI 0 102 .i64,.cI 0 103 .i64,.cI 0 104 .u64,.cI 0 105 .u64,.cI 0 106 .i64,.cI 0 107 .i64,.cI 0 108 .i8,.cI 0 109 .u64,.cI 0 110 .u64,.cI 0 111 .i64,.cI 0 112 .i64,.cI 0 113 .u64,.cI 0 114 .u64,.cI 0 115 .i64,.cI 0 116 .i64,.cI 0 117 .i8,.cI 0 118 .u64,.cI 0 119 .u64,.cI 0 120 .i64,.cI 0 121 .i64,.cI 0 122 .u64,.cI 0 123 .u64,.cI 0 124 .i64,.cI 0 125 .i64,.cI 0 126 .i8,.cI 0 127 .u64,.cI 0 128 .u64,.cI 0 129 .i64,.cI 0 130 .i64,.cI 0 131 .u64,.cI 0 132 .u64,.cI 0 133 .i64,.cI 0 134 .i64,.cI 0 135 .i8,.cI 0 136 .u64,.cI 0 137 .u64,.cI 0 138 .i64,.cI 0 139 .i64,.cI 0 140 .u64,.cI 0 141 .u64,.cI 0 142 .i64,.cI 0 143 .i64,.cI 0 144 .i8,.cI 0 145 .u64,.cI 0 146 .u64,.cI 0 147 .i64,.cI 0 148 .i64,.cI 0 149 .u64,.cI 0 150 .u64,.cI 0 151 .i64,.cI 0 152 .i64,.cI 0 153 .i8,.cI 0 154 .u64,.cI 0 155 .u64,.cI 0 156 .i64,.cI 0 157 .i64,.cI 0 158 .u64,.cI 0 159 .u64,.cI 0 160 .i64,.cI 0 161 .i64,.cI 0 162 .i8,.cI 0 163 .u64,.cI 0 164 .u64,.cI 0 165 .i64,.cI 0 166 .i64,.cI 0 167 .u64,.cI 0 168 .u64,.cI 0 169 .i64,.cI 0 170 .i64]++tps [(0,2),(4,1),(6,4),(11,3),(15,46)])] [] 200 Tryz.f83 [.agg kSta,.one (.int .i64),.one (.int .i64),.one (.int .i64),.agg kTy] [.agg kSta,.one (.int .i64)] true (bG (.int .i64::(.int .i64::(.int .i64::(v_Ty ([])))))) sT_tstore:=⟨by kernel_rfl,by kernel_rfl,by kernel_rfl⟩
theorem af3 (s:Sta) (hs:Sta.ok s) (lo:Int) (hlo:inK .i64 lo=true) (hi:Int) (hhi:inK .i64 hi=true) (size:Int) (hsize:inK .i64 size=true) (t:Ty) (ht:Ty.ok t) (U:Env) (g:varsD U 0 (bG (.int .i64::(.int .i64::(.int .i64::(v_Ty ([]))))))=(av s (.z lo::(.z hi::(.z size::(d_Ty t ([]))))))):sT_tstore.asks wH (fun U e=>e.D U=cD (av s (.z lo::(.z hi::(.z size::(d_Ty t ([]))))))) U fun _ _=>False:=by
 have keepg:=g
 simp only[cD,bp,fx,rdZ,rdB]
 simp only[av,d_Ty,bG,v_Ty,varsD,varD,thm5,gS0,Nat.reduceAdd,and_true] at g
 simp(maxSteps:=10000000) only[sT_tstore,wH,av,d_Ty,kTy,bL,cY,rdZ,iq,jJ,jI,bQ,sT,sQ,sO,cD,wv,simQ,ai,S1,Nat.reduceSub,Nat.reduceAdd,-eq_self,am,aj,af,ah,g]
 intro e;(try simp only[e,am,aj,af,ah,-eq_self]);clear e
 constructor<;>intro c0
 constructor<;>intro c1
 ·rw[(fI (.inr (afs c1))).1,(fI (.inr (afs c1))).2];rfl
 intro e;(try simp only[e,am,aj,af,ah,-eq_self]);clear e
 constructor<;>intro c2
 intro e;(try simp only[e,am,aj,af,ah,-eq_self]);clear e
 constructor<;>intro c3
 constructor<;>intro c4
 ·have e:=eqz c4
  rw[(aT c0 (da c1 c2) c3).1,(aT c0 (da c1 c2) c3).2,e];rfl
 constructor<;>intro c5
 ·have e:=eqz c5
  rw[(aT c0 (da c1 c2) c3).1,(aT c0 (da c1 c2) c3).2,e];rfl
 constructor<;>intro c6
 ·have e:=eqz c6
  rw[(aT c0 (da c1 c2) c3).1,(aT c0 (da c1 c2) c3).2,e];rfl
 constructor<;>intro c7
 ·have e:=eqz c7
  rw[(aT c0 (da c1 c2) c3).1,(aT c0 (da c1 c2) c3).2,e];rfl
 constructor<;>intro c8
 ·have e:=eqz c8
  rw[(aT c0 (da c1 c2) c3).1,(aT c0 (da c1 c2) c3).2,e];rfl
 constructor<;>intro c9
 ·have e:=eqz c9
  rw[(aT c0 (da c1 c2) c3).1,(aT c0 (da c1 c2) c3).2,e];rfl
 constructor<;>intro c10
 ·have e:=eqz c10
  rw[(aT c0 (da c1 c2) c3).1,(aT c0 (da c1 c2) c3).2,e];rfl
 constructor<;>intro c11
 ·have e:=eqz c11
  rw[(aT c0 (da c1 c2) c3).1,(aT c0 (da c1 c2) c3).2,e];rfl
 ·exact ain c0 rfl c4 c5 c6 c7 c8 c9 c10 c11
 obtain⟨q1,q2,q3,q4,q5⟩:=sB c0
 refine⟨fun ds=>∃n:Int,ds=.z n::as1 (sput s (pbet (lo / 8) n) tscal)/\lo / 8<=n/\n<=(hi+size-1) / 8+1,fun ds=>(100-dI ds 0).toNat,⟨lo / 8,by rw[quo8 q2 (by omega),afH (fun k h0 h1=>by unfold pbet;simp)];try rfl,by omega,by omega⟩,?_⟩
 intro U1 ha1 _ hi1
 obtain⟨n,hds,r1,r2⟩:=hi1
 simp only[as1,thm5,Dt.z.injEq,Nat.reduceAdd,and_true] at hds
 have keepg1:=(rX ha1 _ 0 (by decide)).trans keepg
 have g1:=keepg1
 simp only[d_Ty,v_Ty,av,bG,au7,asT,d_Fr,v_Fr,varsD,varD,thm5,gS0,Nat.reduceAdd,and_true] at g1
 simp only[g1,hds,-eq_self]
 constructor<;>intro c12
 ·have h9:=thm3 c12
  have q6:=(qv c0).1
  rw[q6] at h9
  rw[(nZ c0 (da c1 c2) c3).1,(nZ c0 (da c1 c2) c3).2,<-asp c0 (n:=n) (by omega) (by omega)];rfl
 intro e;(try simp only[e,am,aj,af,ah,-eq_self]);clear e
 constructor<;>intro c13
 ·have h9:=thm2 c12
  have q6:=(qv c0).1
  rw[q6] at h9
  have e:=eqz c13
  subst e
  refine⟨⟨1,?_,by omega,by omega⟩,?_⟩
  ·rw[akD (q:=pbet (lo / 8) 1) (p:=pbet (lo / 8) 0) (fun k _ _=>fj (n:=0) (by omega))];rfl
  ·show(100-(1:Int)).toNat<(100-(0:Int)).toNat;decide
 constructor<;>intro c14
 ·have h9:=thm2 c12
  have q6:=(qv c0).1
  rw[q6] at h9
  have e:=eqz c14
  subst e
  refine⟨⟨2,?_,by omega,by omega⟩,?_⟩
  ·rw[akC (q:=pbet (lo / 8) 2) (p:=pbet (lo / 8) 1) (fun k _ _=>fj (n:=1) (by omega))];rfl
  ·show(100-(2:Int)).toNat<(100-(1:Int)).toNat;decide
 constructor<;>intro c15
 ·have h9:=thm2 c12
  have q6:=(qv c0).1
  rw[q6] at h9
  have e:=eqz c15
  subst e
  refine⟨⟨3,?_,by omega,by omega⟩,?_⟩
  ·rw[akB (q:=pbet (lo / 8) 3) (p:=pbet (lo / 8) 2) (fun k _ _=>fj (n:=2) (by omega))];rfl
  ·show(100-(3:Int)).toNat<(100-(2:Int)).toNat;decide
 constructor<;>intro c16
 ·have h9:=thm2 c12
  have q6:=(qv c0).1
  rw[q6] at h9
  have e:=eqz c16
  subst e
  refine⟨⟨4,?_,by omega,by omega⟩,?_⟩
  ·rw[akA (q:=pbet (lo / 8) 4) (p:=pbet (lo / 8) 3) (fun k _ _=>fj (n:=3) (by omega))];rfl
  ·show(100-(4:Int)).toNat<(100-(3:Int)).toNat;decide
 constructor<;>intro c17
 ·have h9:=thm2 c12
  have q6:=(qv c0).1
  rw[q6] at h9
  have e:=eqz c17
  subst e
  refine⟨⟨5,?_,by omega,by omega⟩,?_⟩
  ·rw[akz (q:=pbet (lo / 8) 5) (p:=pbet (lo / 8) 4) (fun k _ _=>fj (n:=4) (by omega))];rfl
  ·show(100-(5:Int)).toNat<(100-(4:Int)).toNat;decide
 constructor<;>intro c18
 ·have h9:=thm2 c12
  have q6:=(qv c0).1
  rw[q6] at h9
  have e:=eqz c18
  subst e
  refine⟨⟨6,?_,by omega,by omega⟩,?_⟩
  ·rw[aky (q:=pbet (lo / 8) 6) (p:=pbet (lo / 8) 5) (fun k _ _=>fj (n:=5) (by omega))];rfl
  ·show(100-(6:Int)).toNat<(100-(5:Int)).toNat;decide
 constructor<;>intro c19
 ·have h9:=thm2 c12
  have q6:=(qv c0).1
  rw[q6] at h9
  have e:=eqz c19
  subst e
  refine⟨⟨7,?_,by omega,by omega⟩,?_⟩
  ·rw[akx (q:=pbet (lo / 8) 7) (p:=pbet (lo / 8) 6) (fun k _ _=>fj (n:=6) (by omega))];rfl
  ·show(100-(7:Int)).toNat<(100-(6:Int)).toNat;decide
 constructor<;>intro c20
 ·have h9:=thm2 c12
  have q6:=(qv c0).1
  rw[q6] at h9
  have e:=eqz c20
  subst e
  refine⟨⟨8,?_,by omega,by omega⟩,?_⟩
  ·rw[akw (q:=pbet (lo / 8) 8) (p:=pbet (lo / 8) 7) (fun k _ _=>fj (n:=7) (by omega))];rfl
  ·show(100-(8:Int)).toNat<(100-(7:Int)).toNat;decide
 ·have h9:=thm2 c12
  have q6:=(qv c0).1
  rw[q6] at h9
  simp only[beq_eq_false_iff_ne] at c13 c14 c15 c16 c17 c18 c19 c20
  omega
 ·rw[(fI (.inr (ano c2))).1,(fI (.inr (ano c2))).2];rfl
 ·rw[(fI (.inl c0)).1,(fI (.inl c0)).2];rfl
theorem wV {sp:Spec} {key:Nat} (hF:sp.F key=cD) (hP:sp.pre key=fun _=>True:=by rfl):SmOk Tryz.prog sp (kC key):=
 aq (s:=kC key) hF hP mxo8 aeG (smc (ahR rfl) (smc (ahO rfl) (smc (ahL rfl) (smc (gf rfl) sm0)))) Tryz.func83 fn0 agA (.inl rfl) (cS fun q0 gq0=>fun x171 gx171 x172 gx172 x173 gx173=>bi fun q7 gq7=>fun hp U g=>af3 q0 gq0 x171 gx171 x172 gx172 x173 gx173 q7 gq7 U g)
end Go.Proofs.YtfkhblmeioiciaaGreatDoor
