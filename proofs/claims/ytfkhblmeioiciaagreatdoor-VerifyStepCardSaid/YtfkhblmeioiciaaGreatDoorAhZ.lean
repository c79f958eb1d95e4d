import Derived.Test.YtfkhblmeioiciaaGreatDoorAfZ
import Derived.Lib.SmallJoins
import Derived.Test.YtfkhblmeioiciaaGreatDoorRows
import Derived.Test.YtfkhblmeioiciaaGreatDoorAgZ
import Derived.Test.YtfkhblmeioiciaaGreatDoorProg
import Derived.Laws.Externs
set_option maxRecDepth 100000
set_option maxHeartbeats 8000000
set_option linter.defProp false
set_option linter.unusedSimpArgs false
set_option linter.unusedVariables false
namespace Go.Proofs.YtfkhblmeioiciaaGreatDoor
open Go Go.RowKit Go.ChangeShapes Go.WideShapes
theorem yH {P:Program} {t e:TypeId} {ks:List CE} (r:Rw P e ks) (hpos:0<ks.length) (ht:P.underlying t=some (.slice e)) {H:Type} {enc:TypeId×Value->H} {W:World} {hd:Bool} {v:Value} {fuel:Nat} {x:DataW H×List MemPlace}
  (hf:DataW.trod enc P W 0 (fun _=>true) hd fuel t [v]=some x):∃L s,v=s.v/\s.n=L.length/\RdRow W ks.length s (flat ks L)/\RowsIn ks L/\∀k,s.blk false=some k->k<W.heap.size:=by
 obtain⟨a0,len0,cap0,hcs⟩:=Go.Joins.slice_form ht hf
 obtain rfl:v=.slice a0 len0 cap0:=by simpa using hcs
 rcases Go.Deep.open_slice ht hf with⟨h1,_⟩ | ⟨a,len,cap,m,n,D,Pl,h1,_,hl,hm,hmm,_,hel⟩
 ·simp only[thm5,Value.slice.injEq,and_true] at h1
  obtain⟨rfl,rfl,rfl⟩:=h1
  exact⟨[],⟨none,0,0,[]⟩,rfl,rfl,⟨by simp[flat],Nat.le_refl _,by simp[maxLen],fun _=>⟨rfl,rfl⟩,fun a ha=>(by cases ha)⟩,⟨fun r hr=>(by cases hr),by simp⟩,fun k hk=>by have:=aT hk;cases this⟩
 ·simp only[thm5,Value.slice.injEq,and_true] at h1
  obtain⟨rfl,rfl,rfl⟩:=h1
  have hmc:m=cap0:=by rw[hmm];rfl
  subst hmc
  rw[r.cells] at hel
  have key:∀i,i<len0->∃x,W.cells? 0 (a.add (i*ks.length)) ks.length=some (rowV ks x)/\aF ks x=true:=fun i hi=>by
   obtain⟨cs',h1,h2⟩:=hel i (by omega)
   obtain⟨x,hx,hx'⟩:=r.opn h2
   exact⟨x,by rw[<-hx];exact h1,hx'⟩
  obtain⟨L,hL,hq⟩:=agq key
  have hrow:∀x∈L,aF ks x=true:=fun x hx=>by
   obtain⟨i,hi,he⟩:=List.getElem_of_mem hx
   exact(hq i x (by rw[thm6 hi,he])).2
  refine⟨L,⟨some a,len0,m,[]⟩,rfl,hL.symm,⟨?_,hl,hm,fun ha=>(by cases ha),fun a' ha' i u hu=> ?_⟩,⟨hrow,by rw[hL];exact Nat.le_trans hl hm⟩,fun k hk=> ?_⟩
  ·rw[cZ hrow,hL]
  ·cases ha'
   have hlt:i<(flat ks L).length:=(cP.1 hu).1
   rw[cZ hrow] at hlt
   have hi:i / ks.length<L.length:=Nat.div_lt_of_lt_mul (by rw[Nat.mul_comm];exact hlt)
   have hc:i % ks.length<ks.length:=Nat.mod_lt _ hpos
   have e1:i=i / ks.length*ks.length+i % ks.length:=by rw[Nat.mul_comm];exact(Nat.div_add_mod _ _).symm
   rw[e1,mz (thm6 hc) hrow hi] at hu
   obtain⟨q1,q2⟩:=hq (i / ks.length) L[i / ks.length] (thm6 hi)
   obtain⟨_,hlen,hat⟩:=World.cells?_some q1
   have h3:=hat (i % ks.length) hc
   rw[qp q2 (thm6 hc)] at h3
   have hg:L.getD (i / ks.length) []=L[i / ks.length]:=by rw[eb,thm6 hi];rfl
   rw[hg] at hu
   rw[e1,<-db,h3]
   exact hu
  ·have hc:m≠0:=fun hc=>by
    unfold SV.blk at hk
    simp[hc] at hk
   obtain⟨cs',h1,h2⟩:=hel 0 (by omega)
   have h4:=ag2 h1 hpos
   have h5:=aT hk
   simp only[SV.v,Value.ownBlock,bH] at h5
   rw[<-h5]
   have:(a.add (0*ks.length)).block=a.block:=by unfold Addr.add;split<;>rfl
   rw[<-this]
   exact h4.1
theorem rwI8:Rw Tryz.prog 37 [some .i8]:=Rw.int .i8 Tryz.underlying37 (by kernel_rfl)
theorem rwI64:Rw Tryz.prog 3 [some .i64]:=Rw.int .i64 Tryz.underlying3 (by kernel_rfl)
theorem rwBo:Rw Tryz.prog 4 [none]:=Rw.bool Tryz.underlying4 (by kernel_rfl)
theorem ao5:Rw Tryz.prog 39 [some .i8,some .i8,some .i8,some .i8,none,some .i8,some .i8,some .i64,some .i64]:=by
 refine Rw.struct (ks:=[some .i8,some .i8,some .i8,some .i8,none,some .i8,some .i8,some .i64,some .i64]) ?_ Tryz.underlying39 (by kernel_rfl)
 exact(RwSeq.cons (ks:=[some .i8]) rwI8 (by rfl) (RwSeq.cons (ks:=[some .i8]) rwI8 (by rfl) (RwSeq.cons (ks:=[some .i8]) rwI8 (by rfl) (RwSeq.cons (ks:=[some .i8]) rwI8 (by rfl) (RwSeq.cons (ks:=[none]) rwBo (by rfl) (RwSeq.cons (ks:=[some .i8]) rwI8 (by rfl) (RwSeq.cons (ks:=[some .i8]) rwI8 (by rfl) (RwSeq.cons (ks:=[some .i64]) rwI64 (by rfl) (RwSeq.cons (ks:=[some .i64]) rwI64 (by rfl) (RwSeq.nil _ _))))))))))
theorem Prog.of_arg {H:Type} {enc:TypeId×Value->H} {W:World} {hd:Bool} {v:Value} {d:DataW H} {p:List MemPlace} {rc:Reach} {b0:Nat}
  (hv:Value.okWide Tryz.prog W rc b0 24 v) (h:DataW.Trod enc Tryz.prog W 0 (fun _=>true) hd 24 v d p):∃(c:Int) (L:List (List Int)) (s:_),v=.agg #[.int .i64 c,SV.v s]/\inK .i64 c=true/\s.n=L.length/\RdRow W 9 s (flat [some .i8,some .i8,some .i8,some .i8,none,some .i8,some .i8,some .i64,some .i64] L)/\RowsIn [some .i8,some .i8,some .i8,some .i8,none,some .i8,some .i8,some .i64,some .i64] L/\∀k,s.blk false=some k->k<W.heap.size:=by
 obtain⟨v0,v1,y0,y1,n,rfl,_,_,h0,h1⟩:=Go.Joins.open_agg2 Tryz.underlying24 (by kernel_rfl) (by kernel_rfl) hv h
 obtain⟨q,e0,hq⟩:=rwI64.opn h0
 obtain⟨L,s,rfl,h2,h3,h4,h5⟩:=yH ao5 (by decide) Tryz.underlying22 h1
 obtain⟨c,q,rfl,hc,hq⟩:=cH hq
 obtain rfl:=nj hq
 simp only[rowV,thm5,and_true] at e0
 exact⟨c,L,s,by rw[e0];rfl,hc,h2,h3,h4,h5⟩
def aaE:List (Nat×TI):=[(2,tiq2),
 (3,tiq3),
 (4,tiq4),
 (22,rI),
 (24,rH),
 (27,yz),
 (37,dS),
 (39,lO),
 (42,dR),
 (44,ew),
 (46,fR),
 (48,cK),
 (50,jT),
 (51,mK),
 (52,mJ),
 (54,lS)]
theorem aar:∀t i,(t,i)∈aaE->TIok Tryz.prog t i:=aV (fac (z:=iX) ⟨gQ,eD⟩<|fac (z:=z_Sc) ⟨kG,fN⟩<|fac (z:=z_Ty) ⟨kF,fM⟩<|fac (z:=pA) ⟨xU,qQ⟩ fa0) fa0 (by kernel_rfl)
def abw (p:Prog) (i:Int) (s:Sta) (t:Ty) (off:Int) (size:Int):List Dt:=[.z (b2i true)]
def kh:List Dt->List Dt:=rd_Prog fun p=>rdZ fun i=>rd_Sta fun s=>rd_Ty fun t=>rdZ fun off=>rdZ fun size=>fun _=>abw p i s t off size
def mY:Tr:=
(.call 0 [.bool] (.cons (.var 0) (.cL (.lw 1) .nil)) 185
(.br (.bw 185)
(.call 1 [.bool] .nil 186
(.leaf (.consb (.bw 186) .nil)))
(.call 2 [.sl (kN 172 2211221102211221102211221102211221102211221102211221102211221102211221102211221102211221102211221102211221102211221102211221102211221102211221102211221102211221102211221102) 66,.int .i64] (.cons (.var 0) (.cL (.lw 1) (.vs 2 172 .nil))) 186
(.call 3 [.sl (kN 172 2211221102211221102211221102211221102211221102211221102211221102211221102211221102211221102211221102211221102211221102211221102211221102211221102211221102211221102211221102) 66,.int .i64] (.cons (.var 0) (.cL (.lw 1) (.vs 2 172 .nil))) 188
(.br (.eq (.var 187) (.var 189))
(.call 4 [.bool] (.cL (.lw 186) (.cL (.lw 188) .nil)) 190
(.br (.bw 190)
(.call 5 [.bool] (.cons (.var 0) (.cL (.lw 1) (.vs 174 11 .nil))) 191
(.call 6 [.bool] (.cons (.var 0) (.cL (.lw 1) (.vs 174 11 .nil))) 192
(.br (.beq (.bw 191) (.bw 192))
(.loop 0 193 [.int .i64] (.cons (.lit 0) .nil)
(.br (.lt (.var 193) (.len (.lw 1)))
(.br (.lt (.var 193) (.lit 0))
.panic
(.call 7 [.int .i64] (.ins (.lw 1) (.var 193) .nil) 194
(.call 8 [.int .i64] (.ins (.lw 1) (.var 193) .nil) 195
(.br (.eq (.var 194) (.var 195))
(.call 9 [.int .i64] (.ins (.lw 1) (.var 193) .nil) 196
(.call 10 [.int .i64] (.ins (.lw 1) (.var 193) .nil) 197
(.br (.eq (.var 196) (.var 197))
(.next 0 (.cons (.bin .add .i64 (.var 193) (.lit 1)) .nil))
 zlF)))
 zlF))))
(.call 1 [.bool] .nil 194
(.leaf (.consb (.bw 194) .nil)))))
 zlF)))
 zlF))
 zlF)))))
def sP_lvstep:Spec:={F:=fun k=>match k with | 0=>c_lgreat.F | 1=>ml | 2=>iJ | 3=>c_jstep.F | 4=>c_jsame.F | 5=>c_vwi.F | 6=>c_jwi.F | 7=>c_vrd.F | 8=>c_jrd.F | 9=>c_vwr.F | 10=>c_jwr.F | _=>fun _=>[],pre:=fun k=>match k with | 0=>il | 2=>mh | 3=>mi | 4=>mj | 5=>oP | 6=>sB | _=>fun _=>True,hw:=sHw,hx:=sHx,hi:=sHi}
theorem acM:bp aaE [c_lgreat.m 0,qj 1,qk 2,c_jstep.m 3,c_jsame.m 4,c_vwi.m 5,c_jwi.m 6,c_vrd.m 7,c_jrd.m 8,c_vwr.m 9,c_jwr.m 10] [] [(8,[.tmpI 61 .i64]++tps [(12,1),(18,1),(62,16)]),(999999,[])] [] 200 Tryz.f5 [.agg kProg,.one (.int .i64),.agg kSta,.agg kTy,.one (.int .i64),.one (.int .i64)] [.one .bool] false (v_Prog (.int .i64::v_Sta (v_Ty [.int .i64,.int .i64]))) mY:=trI (by kernel_rfl)
theorem aak (p:Prog) (i:Int) (s:Sta):(aM p i s).1.length<=2:=by
 have w1:∀(s:Sta) (d:Int) (a b:Ty) (t:Bool) (go cc:Int) (k:Bool),(vway s d a b t go cc k).length<=1:=fun s d a b t go cc k=>by
  unfold vway
  split
  ·split
   ·exact Nat.le_refl _
   ·exact Nat.zero_le _
  ·exact Nat.le_refl _
 have h:(dy p i s).1.length<=2:=by
  unfold dy
  split
  ·exact Nat.zero_le _
  ·split
   ·rw[fD]
    have h1:(gz i (aa p.l i) (vmid p (aa p.l i) s).1 (bR (aa p.l i) s)).length<=1:=by
     unfold gz
     split
     ·exact Nat.zero_le _
     ·exact w1 _ _ _ _ _ _ _ _
    have h2:(jQ i (aa p.l i) (vmid p (aa p.l i) s).1 (bR (aa p.l i) s)).length<=1:=by
     unfold jQ
     split
     ·exact w1 _ _ _ _ _ _ _ _
     ·exact Nat.zero_le _
    omega
   ·exact Nat.zero_le _
 unfold aM
 split
 ·split
  ·rw[List.length_map];exact h
  ·exact Nat.zero_le _
 ·exact Nat.zero_le _
theorem am8 {U:Env} {n:Nat} (h:U.b n=true):(E.consb (.bw n) .nil).D U=[.z (b2i true)]:=by
 show[Dt.z (b2i (U.b n))]=_
 rw[h]
theorem ap5 (x:Ins):c_vwr.F (d_Ins x [])=[.z (vwr x)]:=by
 simp only[c_vwr,iK]
theorem ap7 (x:Ins):c_jwr.F (d_Ins x [])=[.z (vwr x)]:=by
 simp only[c_jwr,iK]
theorem abt (p:Prog) (hp:Prog.ok p) (i:Int) (hi:inK .i64 i=true) (s:Sta) (hs:Sta.ok s) (t:Ty) (ht:Ty.ok t) (off:Int) (hoff:inK .i64 off=true) (size:Int) (hsize:inK .i64 size=true):Cn mY sP_lvstep (v_Prog (.int .i64::v_Sta (v_Ty [.int .i64,.int .i64]))) (d_Prog p (.z i::d_Sta s (d_Ty t [.z off,.z size]))) kh:=by
 intro U g
 have hl:p.l.length<=maxLen:=hp.2.len
 have hF:kh (d_Prog p (.z i::d_Sta s (d_Ty t [.z off,.z size])))=[.z (b2i true)]:=by
  simp only[kh,sJ,bN,ee,rdZ];rfl
 rw[hF]
 have g':Dt.z (U.i 0)::.l (U.l 1)::.z (U.i 2)::varsD U 3 (v_Sta (v_Ty [.int .i64,.int .i64]))=.z p.ctx::.l p.l::.z i::d_Sta s (d_Ty t [.z off,.z size]):=g
 simp only[thm5,Dt.z.injEq,Dt.l.injEq] at g'
 obtain⟨g0,g1,g2,gS⟩:=g'
 rw[pJ] at gS
 have hS:staV U 3=s:=iF gS
 have gT:(E.vs 174 11 .nil).D U=d_Ty t [.z off,.z size]:=ye gS
 clear g gS
 have wk:∀{U:Env} {I:Nat->List Dt->Prop} {n:Nat},(Tr.call 1 [.bool] .nil n (.leaf (.consb (.bw n) .nil))).asks sP_lvstep (fun U e=>e.D U=[.z (b2i true)]) U I:=fun {U I n}=>
  am (xs:=[]) rfl trivial (fun e=>am8 (e.1.trans rfl))
 unfold mY
 refine am (xs:=[.z p.ctx,.l p.l]) (by simp only[E.D,E.I,E.R,g0,g1]) hl (fun _=>⟨fun _=>wk,fun _=> ?_⟩)
 have hA:(E.cons (.var 0) (.cL (.lw 1) (.vs 2 172 .nil))).D U=d_Prog p (.z i::d_Sta s []):=by
  show Dt.z (U.i 0)::.l (U.l 1)::.z (U.i 2)::(E.vs 3 171 .nil).D U=_
  rw[rn,g0,g1,g2,hS];rfl
 refine am _ hA ⟨hl,rfl⟩ (fun e=> ?_)
 rw[show sP_lvstep.F 2 (d_Prog p (.z i::d_Sta s []))=_ from aiO p i s] at e
 have e6:U.l 186=(aM p i s).1:=e.1
 have e7:U.i 187=(aM p i s).2:=e.2.1
 clear e
 refine am _ hA ⟨hl,rfl⟩ (fun e=> ?_)
 rw[show sP_lvstep.F 3 (d_Prog p (.z i::d_Sta s []))=_ from aeY p i s] at e
 have e8:U.l 188=(aM p i s).1:=e.1
 have e9:U.i 189=(aM p i s).2:=e.2.1
 clear e
 refine⟨fun _=> ?_,fun c=> ?_⟩
 rotate_left
 ·simp only[E.B,E.I,e7,e9] at c
  simp at c
 refine am [.l (aM p i s).1,.l (aM p i s).1] (by simp only[E.D,E.R,e6,e8]) ⟨rfl,by have:=aak p i s;unfold maxLen;omega⟩ (fun e=> ?_)
 have b90:U.b 190=true:=e.1
 clear e
 refine⟨fun _=> ?_,fun c=> ?_⟩
 rotate_left
 ·rw[show(E.bw 190).B U=true from b90] at c;cases c
 have hW:(E.cons (.var 0) (.cL (.lw 1) (.vs 174 11 .nil))).D U=.z p.ctx::.l p.l::d_Ty t [.z off,.z size]:=by
  show Dt.z (U.i 0)::.l (U.l 1)::(E.vs 174 11 .nil).D U=_
  rw[g0,g1,gT]
 refine am _ hW hl (fun e=> ?_)
 have b91:U.b 191=ax p.ctx t off size:=e.1.trans (fQ _)
 clear e
 refine am _ hW hl (fun e=> ?_)
 have b92:U.b 192=ax p.ctx t off size:=e.1.trans (fQ _)
 clear e
 refine⟨fun _=> ?_,fun c=> ?_⟩
 rotate_left
 ·simp only[E.B,b91,b92] at c
  simp at c
 refine⟨fun ds=>∃n:Nat,ds=[.z (n:Int)]/\n<=p.l.length,fun ds=>p.l.length-(dI ds 0).toNat,⟨0,rfl,Nat.zero_le _⟩,?_⟩
 intro U1 ha1 _ hi1
 obtain⟨n,hds,hn⟩:=hi1
 have q1:U1.l 1=p.l:=(ha1 1 (by decide)).2.2.symm.trans g1
 rw[show varsD U1 193 [.int .i64]=[.z (U1.i 193)] from rfl] at hds ⊢
 simp only[thm5,Dt.z.injEq,and_true] at hds
 refine⟨fun c=> ?_,fun _=>wk⟩
 have hn2:n<p.l.length:=by
  simp only[E.B,E.I,E.R,q1,hds] at c
  have:=thm3 c
  omega
 refine⟨fun c1=> ?_,fun _=> ?_⟩
 ·simp only[E.B,E.I,hds] at c1
  have:=thm3 c1
  omega
 have hI:(E.ins (.lw 1) (.var 193) .nil).D U1=d_Ins (aa p.l n) []:=by
  rw[tQ];simp only[E.R,E.I,q1,hds];rfl
 refine am _ hI trivial (fun e=> ?_)
 rw[show sP_lvstep.F 7 (d_Ins (aa p.l n) [])=_ from aoE _] at e
 have e4:U1.i 194=vrd (aa p.l n):=e.1
 clear e
 refine am _ hI trivial (fun e=> ?_)
 rw[show sP_lvstep.F 8 (d_Ins (aa p.l n) [])=_ from aoJ _] at e
 have e5:U1.i 195=vrd (aa p.l n):=e.1
 clear e
 refine⟨fun _=> ?_,fun c=> ?_⟩
 rotate_left
 ·simp only[E.B,E.I,e4,e5] at c
  simp at c
 refine am _ hI trivial (fun e=> ?_)
 rw[show sP_lvstep.F 9 (d_Ins (aa p.l n) [])=_ from ap5 _] at e
 have e4:U1.i 196=vwr (aa p.l n):=e.1
 clear e
 refine am _ hI trivial (fun e=> ?_)
 rw[show sP_lvstep.F 10 (d_Ins (aa p.l n) [])=_ from ap7 _] at e
 have e5:U1.i 197=vwr (aa p.l n):=e.1
 clear e
 refine⟨fun _=>aI ?_,fun c=> ?_⟩
 rotate_left
 ·simp only[E.B,E.I,e4,e5] at c
  simp at c
 have iE:(E.bin .add .i64 (.var 193) (.lit 1)).I U1=((n+1:Nat):Int):=by
  simp only[E.I,hds];exact addN hn2 hl
 refine⟨⟨n+1,by simp only[E.D,iE],hn2⟩,?_⟩
 show p.l.length-((E.bin .add .i64 (.var 193) (.lit 1)).I U1).toNat<p.l.length-(U1.i 193).toNat
 rw[iE,hds];omega
theorem acQ (xs:List Dt) (vals:List Value) (w:World) (hw:kV w [.agg kProg,.one (.int .i64),.agg kSta,.agg kTy,.one (.int .i64),.one (.int .i64)] xs vals) (hh:sHw w):Calls Tryz.prog 5 vals.toArray w fun e w'=>∃v,e=.returned v/\RetOk [.one .bool] false w w' (kh xs) v:=
 (tu (by kernel_rfl) aar (smc (agD rfl rfl)<|smc (af2 rfl)<|smc (af3 rfl rfl)<|smc (alL rfl rfl)<|smc (alM rfl rfl)<|smc (anm rfl rfl)<|smc (anN rfl rfl)<|smc (adM rfl rfl)<|smc (anO rfl rfl)<|smc (ape rfl rfl)<|smc (apo rfl rfl) sm0) Tryz.func5 fn0 acM (pre:=fun _=>True) (eW fun p gp=>fun i gi=>eF fun s gs=>bE fun t gt=>fun off goff size gsize hp=>abt p gp i gi s gs t gt off goff size gsize) xs vals w hw trivial hh).2
theorem rwN:Rw Tryz.prog 3 [some .i64]:=Rw.int .i64 Tryz.underlying3 (by kernel_rfl)
theorem rwU:Rw Tryz.prog 42 [some .u64]:=Rw.int .u64 Tryz.underlying42 (by kernel_rfl)
theorem rwI:Rw Tryz.prog 2 [some .i64]:=Rw.int .i64 Tryz.underlying2 (by kernel_rfl)
theorem rwRg:Rw Tryz.prog 44 [some .u64,some .u64,some .i64,some .i64]:=by
 refine Rw.struct (ks:=[some .u64,some .u64,some .i64,some .i64]) ?_ Tryz.underlying44 (by kernel_rfl)
 exact(RwSeq.cons (ks:=[some .u64]) rwU (by rfl) (RwSeq.cons (ks:=[some .u64]) rwU (by rfl) (RwSeq.cons (ks:=[some .i64]) rwI (by rfl) (RwSeq.cons (ks:=[some .i64]) rwI (by rfl) (RwSeq.nil _ _)))))
theorem rwKn:Rw Tryz.prog 46 [some .u64,some .u64]:=by
 refine Rw.struct (ks:=[some .u64,some .u64]) ?_ Tryz.underlying46 (by kernel_rfl)
 exact(RwSeq.cons (ks:=[some .u64]) rwU (by rfl) (RwSeq.cons (ks:=[some .u64]) rwU (by rfl) (RwSeq.nil _ _)))
theorem rwSc:Rw Tryz.prog 48 [some .u64,some .u64,some .i64,some .i64,some .u64,some .u64]:=by
 refine Rw.struct (ks:=[some .u64,some .u64,some .i64,some .i64,some .u64,some .u64]) ?_ Tryz.underlying48 (by kernel_rfl)
 exact(RwSeq.cons (ks:=[some .u64,some .u64,some .i64,some .i64]) rwRg (by rfl) (RwSeq.cons (ks:=[some .u64,some .u64]) rwKn (by rfl) (RwSeq.nil _ _)))
theorem rwTy:Rw Tryz.prog 50 (kN 9 221122110):=by
 refine Rw.struct (ks:=(kN 9 221122110)) ?_ Tryz.underlying50 (by kernel_rfl)
 exact(RwSeq.cons (ks:=[some .i8]) rwI8 (by rfl) (RwSeq.cons (ks:=[some .u64,some .u64,some .i64,some .i64,some .u64,some .u64]) rwSc (by rfl) (RwSeq.cons (ks:=[some .i64]) rwN (by rfl) (RwSeq.cons (ks:=[some .i64]) rwN (by rfl) (RwSeq.nil _ _)))))
theorem amN:Rw Tryz.prog 51 (repL (kN 9 221122110) 11):=Rw.array rwTy Tryz.underlying51 (by kernel_rfl)
theorem ao3:Rw Tryz.prog 52 (repL (kN 9 221122110) 8):=Rw.array rwTy Tryz.underlying52 (by kernel_rfl)
theorem ao4:Rw Tryz.prog 54 ((repL (kN 9 221122110) 11)++((repL (kN 9 221122110) 8)++[])):=Rw.struct (ks:=((repL (kN 9 221122110) 11)++((repL (kN 9 221122110) 8)++[]))) (RwSeq.cons (ks:=(repL (kN 9 221122110) 11)) amN (by rfl) (RwSeq.cons (ks:=(repL (kN 9 221122110) 8)) ao3 (by rfl) (RwSeq.nil _ _))) Tryz.underlying54 (by kernel_rfl)
def fA (t:List CE):List CE:=some .i8::some .u64::some .u64::some .i64::some .i64::some .u64::some .u64::some .i64::some .i64::t
def gr (t:List CK):List CK:=.int .i8::.int .u64::.int .u64::.int .i64::.int .i64::.int .u64::.int .u64::.int .i64::.int .i64::t
theorem dA {ks:List CE} {q:List Int} (h:aF (fA ks) q=true):∃(a:Ty) (q':List Int),Ty.ok a/\aF ks q'=true/\∀(w:World) (cs:List CK) (xs r:List Dt),eO w cs xs (rowV ks q') r->eO w (gr cs) (d_Ty a xs) (rowV (fA ks) q) r:=by
 obtain⟨y0,q,rfl,e0,h⟩:=cH h
 obtain⟨y1,q,rfl,e1,h⟩:=cH h
 obtain⟨y2,q,rfl,e2,h⟩:=cH h
 obtain⟨y3,q,rfl,e3,h⟩:=cH h
 obtain⟨y4,q,rfl,e4,h⟩:=cH h
 obtain⟨y5,q,rfl,e5,h⟩:=cH h
 obtain⟨y6,q,rfl,e6,h⟩:=cH h
 obtain⟨y7,q,rfl,e7,h⟩:=cH h
 obtain⟨y8,q,rfl,e8,h⟩:=cH h
 exact⟨⟨y0,y1,y2,y3,y4,y5,y6,y7,y8⟩,q,⟨e0,e1,e2,e3,e4,e5,e6,e7,e8⟩,h,fun w cs xs r hr=>⟨_,_,_,rfl,⟨_,rfl,rfl,e0⟩,⟨_,_,_,rfl,⟨_,rfl,rfl,e1⟩,⟨_,_,_,rfl,⟨_,rfl,rfl,e2⟩,⟨_,_,_,rfl,⟨_,rfl,rfl,e3⟩,⟨_,_,_,rfl,⟨_,rfl,rfl,e4⟩,⟨_,_,_,rfl,⟨_,rfl,rfl,e5⟩,⟨_,_,_,rfl,⟨_,rfl,rfl,e6⟩,⟨_,_,_,rfl,⟨_,rfl,rfl,e7⟩,⟨_,_,_,rfl,⟨_,rfl,rfl,e8⟩,hr⟩⟩⟩⟩⟩⟩⟩⟩⟩⟩
theorem aox {q:List Int} (h:aF (fA []) q=true):∃a:Ty,Ty.ok a/\∀(w:World) (r:List Dt),eO w kTy (d_Ty a r) (rowV (fA []) q) r:=by
 obtain⟨a,q',o,h,s⟩:=dA h
 obtain rfl:=nj h
 exact⟨a,o,fun w r=>s w [] _ _ ⟨rfl,rfl⟩⟩
def yb (t:List CE):List CE:=fA (fA (fA (fA (fA (fA (fA (fA (fA (fA (fA (fA (fA (fA (fA (fA (fA (fA (fA (t)))))))))))))))))))
def aom (t:List CK):List CK:=gr (gr (gr (gr (gr (gr (gr (gr (gr (gr (gr (gr (gr (gr (gr (gr (gr (gr (gr (t)))))))))))))))))))
theorem akT {ks:List CE} {q:List Int} (h:aF (yb ks) q=true):∃(a:Sta) (q':List Int),Sta.ok a/\aF ks q'=true/\∀(w:World) (cs:List CK) (xs r:List Dt),eO w cs xs (rowV ks q') r->eO w (aom cs) (d_Sta a xs) (rowV (yb ks) q) r:=by
 obtain⟨r0,q_r0,o_r0,h,s_r0⟩:=dA h
 obtain⟨r1,q_r1,o_r1,h,s_r1⟩:=dA h
 obtain⟨r2,q_r2,o_r2,h,s_r2⟩:=dA h
 obtain⟨r3,q_r3,o_r3,h,s_r3⟩:=dA h
 obtain⟨r4,q_r4,o_r4,h,s_r4⟩:=dA h
 obtain⟨r5,q_r5,o_r5,h,s_r5⟩:=dA h
 obtain⟨r6,q_r6,o_r6,h,s_r6⟩:=dA h
 obtain⟨r7,q_r7,o_r7,h,s_r7⟩:=dA h
 obtain⟨r8,q_r8,o_r8,h,s_r8⟩:=dA h
 obtain⟨r9,q_r9,o_r9,h,s_r9⟩:=dA h
 obtain⟨r10,q_r10,o_r10,h,s_r10⟩:=dA h
 obtain⟨s0,q_s0,o_s0,h,s_s0⟩:=dA h
 obtain⟨s1,q_s1,o_s1,h,s_s1⟩:=dA h
 obtain⟨s2,q_s2,o_s2,h,s_s2⟩:=dA h
 obtain⟨s3,q_s3,o_s3,h,s_s3⟩:=dA h
 obtain⟨s4,q_s4,o_s4,h,s_s4⟩:=dA h
 obtain⟨s5,q_s5,o_s5,h,s_s5⟩:=dA h
 obtain⟨s6,q_s6,o_s6,h,s_s6⟩:=dA h
 obtain⟨s7,q_s7,o_s7,h,s_s7⟩:=dA h
 exact⟨⟨r0,r1,r2,r3,r4,r5,r6,r7,r8,r9,r10,s0,s1,s2,s3,s4,s5,s6,s7⟩,_,⟨o_r0,o_r1,o_r2,o_r3,o_r4,o_r5,o_r6,o_r7,o_r8,o_r9,o_r10,o_s0,o_s1,o_s2,o_s3,o_s4,o_s5,o_s6,o_s7⟩,h,fun w cs xs r hr=>s_r0 w _ _ _ (s_r1 w _ _ _ (s_r2 w _ _ _ (s_r3 w _ _ _ (s_r4 w _ _ _ (s_r5 w _ _ _ (s_r6 w _ _ _ (s_r7 w _ _ _ (s_r8 w _ _ _ (s_r9 w _ _ _ (s_r10 w _ _ _ (s_s0 w _ _ _ (s_s1 w _ _ _ (s_s2 w _ _ _ (s_s3 w _ _ _ (s_s4 w _ _ _ (s_s5 w _ _ _ (s_s6 w _ _ _ (s_s7 w _ _ _ hr))))))))))))))))))⟩
theorem ami {q:List Int} (h:aF (yb []) q=true):∃a:Sta,Sta.ok a/\∀(w:World) (r:List Dt),eO w kSta (d_Sta a r) (rowV (yb []) q) r:=by
 obtain⟨a,q',o,h,s⟩:=akT h
 obtain rfl:=nj h
 exact⟨a,o,fun w r=>s w [] _ _ ⟨rfl,rfl⟩⟩
theorem oA {H:Type} {enc:TypeId×Value->H} {W:World} {r:Reach} {b0:Nat} (v0:Value) (k0:Value.okWide Tryz.prog W r b0 24 v0) (d0:DataW H) (p0:List MemPlace) (h0:DataW.Trod enc Tryz.prog W 0 (fun _=>true) true 24 v0 d0 p0) (_:∀x∈p0,x.block<W.heap.size) (a1:Int) (w1:(Lit.int .i64 a1).wf=true) (v2:Value) (k2:Value.okWide Tryz.prog W r b0 54 v2) (d2:DataW H) (p2:List MemPlace) (h2:DataW.Trod enc Tryz.prog W 0 (fun _=>true) true 54 v2 d2 p2) (_:∀x∈p2,x.block<W.heap.size) (v3:Value) (k3:Value.okWide Tryz.prog W r b0 50 v3) (d3:DataW H) (p3:List MemPlace) (h3:DataW.Trod enc Tryz.prog W 0 (fun _=>true) true 50 v3 d3 p3) (_:∀x∈p3,x.block<W.heap.size) (a4:Int) (w4:(Lit.int .i64 a4).wf=true) (a5:Int) (w5:(Lit.int .i64 a5).wf=true) (hh:sHw W):
  Calls Tryz.prog 5 #[v0,.int .i64 a1,v2,v3,.int .i64 a4,.int .i64 a5] W fun e W'=>e=.returned (.bool true)/\Below W.heap.size W W':=by
 obtain⟨a0,q0,s0,rfl,w0,n0,m0,o0,l0⟩:=Prog.of_arg k0 h0
 obtain⟨q2,rfl,g2⟩:=pt ao4 Tryz.underlying54 k2 h2
 obtain⟨a2,o2,s2⟩:=ami g2
 obtain⟨q3,rfl,g3⟩:=pt rwTy Tryz.underlying50 k3 h3
 obtain⟨a3,o3,s3⟩:=aox g3
 refine(acQ (.z a0::.l q0::.z a1::d_Sta a2 (d_Ty a3 [.z a4,.z a5])) _ W ⟨_,_,_,rfl,⟨_,_,_,rfl,⟨_,rfl,rfl,w0⟩,⟨_,_,_,rfl,⟨_,_,rfl,rfl,n0,m0,o0,l0⟩,⟨rfl,rfl⟩⟩⟩,⟨_,_,_,rfl,⟨_,rfl,rfl,(kD w1)⟩,⟨_,_,_,rfl,s2 W _,⟨_,_,_,rfl,s3 W _,⟨_,_,_,rfl,⟨_,rfl,rfl,(kD w4)⟩,⟨_,_,_,rfl,⟨_,rfl,rfl,(kD w5)⟩,⟨rfl,rfl⟩⟩⟩⟩⟩⟩⟩ hh).mono fun e W' ⟨v,he,hr⟩=> ?_
 have hv:v=.bool true:=RetOk.says hr
 rw[he,hv]
 exact⟨rfl,hr.ext⟩
end Go.Proofs.YtfkhblmeioiciaaGreatDoor
