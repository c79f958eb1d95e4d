import Derived.Test.YtghiofgomcihcaaMoC
import Derived.Test.YtghiofgomcihcaaMoE
import Derived.Test.YtghiofgomcihcaaProg
import Derived.Laws.Externs
set_option linter.unusedVariables false
set_option linter.unusedSimpArgs false
namespace Go.Proofs.Ytghiofgomcihcaa
open Go.RowKit Go.ChangeShapes Go.WideShapes
def tys_MoF:List (Nat×TI):=[(3,⟨false,1,[.int .i64 (.lit 0)],[],none,some .i64,false,false,none,8,false,none,false,0⟩),
 (4,⟨false,1,[.bool (.tt false)],[],none,none,false,true,none,1,false,none,false,0⟩),
 (5,⟨false,1,[.int .u8 (.lit 0)],[],none,some .u8,false,false,none,1,false,none,false,0⟩),
 (9,⟨false,1,[.str .lnil],[],none,none,false,false,none,16,false,none,false,2⟩),
 (22,⟨false,1,[.nsl],[],none,none,false,false,some 44,24,false,none,false,0⟩),
 (24,⟨true,2,[.int .i64 (.lit 0),.nsl],[(0,3),(1,22)],none,none,false,false,none,32,false,none,false,0⟩),
 (25,⟨false,1,[.nsl],[],none,none,false,false,some 5,24,false,none,false,0⟩),
 (26,⟨false,1,[.nsl],[],none,none,false,false,some 30,24,false,none,false,0⟩),
 (29,⟨false,1,[.int .i8 (.lit 0)],[],none,some .i8,false,false,none,1,false,none,false,0⟩),
 (30,⟨false,1,[.int .u64 (.lit 0)],[],none,some .u64,false,false,none,8,false,none,false,0⟩),
 (31,⟨false,1,[.nsl],[],none,none,false,false,some 39,24,false,none,false,0⟩),
 (33,⟨true,5,[.int .i8 (.lit 0),.int .u64 (.lit 0),.nsl,.nsl,.int .i64 (.lit 0)],[(0,29),(1,30),(2,25),(3,31),(4,3)],none,none,false,false,none,72,false,none,false,0⟩),
 (34,⟨false,1,[.int .i64 (.lit 0)],[],none,some .i64,false,false,none,8,false,none,false,0⟩),
 (39,⟨true,3,[.int .i64 (.lit 0),.nsl,.int .u64 (.lit 0)],[(0,3),(1,26),(2,30)],none,none,false,false,none,40,false,none,false,0⟩),
 (44,⟨true,9,[.int .i8 (.lit 0),.int .i8 (.lit 0),.int .i8 (.lit 0),.int .i8 (.lit 0),.bool (.tt false),.int .i8 (.lit 0),.int .i8 (.lit 0),.int .i64 (.lit 0),.int .i64 (.lit 0)],[(0,29),(1,29),(2,29),(3,29),(4,4),(5,29),(6,29),(7,3),(8,3)],none,none,true,false,none,24,false,none,false,0⟩)]
set_option maxRecDepth 100000 in
theorem vi:(tys_MoF.all fun p=>ckTI Try.prog p.1 p.2)=true:=by kernel_rfl
theorem nO:(tys_MoF.all fun p=>!p.2.eqok||((Nat.beq p.1 44&&bp p.2.zero fP)))=true:=by kernel_rfl
theorem uU:(tys_MoF.all fun p=>!p.2.keyok)=true:=by kernel_rfl
theorem dQ:∀t i,(t,i)∈tys_MoF→TIok Try.prog t i:=by
 intro t i h
 refine ce (dN (f:=ckTI Try.prog) vi h) (fun he=> ?_) (fun he=> ?_) (fun he=> ?_)
 ·have h1:=List.all_eq_true.1 nO (t,i) h
  simp only[he,Bool.not_true,Bool.false_or,Bool.or_eq_true,Bool.and_eq_true] at h1
  have hs:=h1.2
  obtain rfl:=Nat.eq_of_beq_eq_true h1.1
  exact fun vs us hv hu=>fj vs us (ay hs hv) (ay hs hu)
 ·have h1:=List.all_eq_true.1 nO (t,i) h
  simp only[he,Bool.not_true,Bool.false_or,Bool.or_eq_true,Bool.and_eq_true] at h1
  have hs:=h1.2
  obtain rfl:=Nat.eq_of_beq_eq_true h1.1
  exact cV
 ·have h1:=List.all_eq_true.1 uU (t,i) h
  simp[he] at h1
def jV (key:Nat):Sm:=⟨40,key,[.one (.sl [some .u64] 30),.one (.sl [some .u64] 30)],[.one .bool],false⟩
def jK (a:List (List Int)) (b:List (List Int)):List Dt:=[.z (b2i (dK a b))]
def ee:List Dt→List Dt
 | [.l x0,.l x1]=>jK x0 x1
 | _=>[]
def sT_ewords:Tr:=
(.br (.eq (.len (.lvar 0)) (.len (.lvar 1)))
(.loop 0 2 [.int .i64] (.cons (.lit 0) .nil)
(.br (.lt (.var 2) (.len (.lvar 0)))
(.br (.lt (.var 2) (.lit 0))
.panic
(.br (.lt (.var 2) (.len (.lvar 1)))
(.br (.eq (.get (.lvar 0) (.var 2) 0) (.get (.lvar 1) (.var 2) 0))
(.next 0 (.cons (.bin .add .i64 (.var 2) (.lit 1)) .nil))
(.leaf (.consb (.tt false) .nil)))
.panic))
(.leaf (.consb (.tt true) .nil))))
(.leaf (.consb (.tt false) .nil)))
def oF:Spec:=⟨fun k=>match k with | _=>fun _=>[],fun k=>match k with | _=>fun _=>True⟩
set_option maxRecDepth 100000 in
theorem wt:aD tys_MoF [] [] [(4,[.tmpI 5 .i64,.top 11,.top 12,.top 13,.top 14,.top 17,.top 18,.top 19,.top 20,.top 21,.top 22,.top 23,.top 24,.top 25,.top 4,.top 15,.top 16])] [] 200 Try.f40 [.one (.sl [some .u64] 30),.one (.sl [some .u64] 30)] [.one .bool] false [.list [some .u64],.list [some .u64]] sT_ewords:=⟨by kernel_rfl,by kernel_rfl,by kernel_rfl⟩
def db:List Dt→Prop
 | [.l x0,.l x1]=>let f (a:List (List Int)) (b:List (List Int)):Prop:=a.length≤maxLen∧b.length≤maxLen; f x0 x1
 | _=>False
set_option maxRecDepth 100000 in
set_option maxHeartbeats 8000000 in
theorem wd (a:List (List Int)) (ha:RowsIn [some .u64] a) (b:List (List Int)) (hb:RowsIn [some .u64] b) (hp:db [.l a,.l b]) (ρ:Env) (g:ah ρ 0 [.list [some .u64],.list [some .u64]]=[.l a,.l b]):sT_ewords.asks oF (fun ρ e=>e.D ρ=ee [.l a,.l b]) ρ fun _ _=>False:=by
 simp only[db,b2i_one,Ins.eta,Prog.eta,aa,Mem.eta,Mach.eta] at hp
 have keepg:=g
 simp only[ah,varD,List.cons.injEq,Dt.z.injEq,Dt.l.injEq,b2i_eq_iff,Nat.reduceAdd,and_true] at g
 simp only[sT_ewords,oF,ee,jK,Tr.asks,aj,okDs,okD,eqs,E.I,E.B,E.L,E.R,E.D,E.vs,dI,dB,dL,varD,ah,List.getElem?_cons_zero,List.getElem?_cons_succ,List.cons_append,List.nil_append,Nat.zero_add,Nat.add_zero,Nat.reduceAdd,and_true,true_and,b2i_one,-eq_self,Ins.eta,Prog.eta,aa,Mem.eta,Mach.eta,g]
 obtain⟨k0_l0,k0_l1⟩:=g
 refine⟨fun c0=> ?_,fun c0=> ?_⟩
 refine⟨fun ds=>∃n:Nat,ds=[.z (n:Int)]∧n≤a.length∧∀j:Nat,j<n→(gt a (j:Int) 0==gt b (j:Int) 0)=true,fun ds=>a.length-(dI ds 0).toNat,⟨0,rfl,Nat.zero_le _,fun j hj=>absurd hj (Nat.not_lt_zero _)⟩,?_⟩
 intro ρ1 ha1 _ hi1
 obtain⟨n,hds,hn,hall⟩:=hi1
 simp only[List.cons.injEq,Dt.z.injEq,Dt.l.injEq,b2i_eq_iff,and_true] at hds
 have k1_i2:=hds
 have k1_l0:=kL ha1 k0_l0
 have k1_l1:=kL ha1 k0_l1
 simp only[k1_l0,k1_l1,k1_i2,-eq_self]
 refine⟨fun c1=> ?_,fun c1=> ?_⟩
 refine⟨fun c2=> ?_,fun c2=> ?_⟩
 ·exact absurd (of_decide_eq_true c2) (by omega)
 refine⟨fun c3=> ?_,fun c3=> ?_⟩
 refine⟨fun c4=> ?_,fun c4=> ?_⟩
 ·have hn2:n<a.length:=Int.ofNat_lt.1 (of_decide_eq_true c1)
  rw[addO hn2 hp.1]
  exact⟨⟨n+1,rfl,hn2,fun j hj=>by rcases Nat.lt_succ_iff_lt_or_eq.1 hj with h | rfl; exact hall j h; exact c4⟩,by show a.length-(((n+1:Nat):Int)).toNat<a.length-((n:Int)).toNat; omega⟩
 ·have hn2:n<a.length:=Int.ofNat_lt.1 (of_decide_eq_true c1)
  have h0:dK a b=false:=by unfold dK; rw[c0,jl hn2 c4]; rfl
  rw[h0]
 ·have hn2:n<a.length:=Int.ofNat_lt.1 (of_decide_eq_true c1)
  exact absurd (of_decide_eq_false c3) (by have:=eqI c0; omega)
 ·obtain rfl:n=a.length:=by have:=of_decide_eq_false c1; omega
  have h0:dK a b=true:=by unfold dK; rw[c0,jw hall]; rfl
  rw[h0]
 ·have h0:dK a b=false:=by unfold dK; rw[c0]; rfl
  rw[h0]
theorem wQ {sp:Spec} {key:Nat} (hF:sp.F key=ee) (hP:sp.pre key=db):SmOk Try.prog sp (jV key):=
 aF (s:=jV key) hF hP (by kernel_rfl) dQ (sm0) Try.func40 fn0 wt (.inr (.inl ⟨(fun xs h L hL=>by unfold db at h; split at h<;>first | exact h.elim | (simp at hL; rcases hL with rfl | rfl; exact h.1; exact h.2)),rfl⟩)) (fun x0 gx0 x1 gx1 hp ρ g=>wd x0 gx0 x1 gx1 hp ρ g)
def hZ (key:Nat):Sm:=⟨12,key,[.one (.sl [some .i64,some .u64,some .i64,some .u64,some .u64,some .u64,some .u64,some .u64] 39),.one (.sl [some .i64,some .u64,some .i64,some .u64,some .u64,some .u64,some .u64,some .u64] 39)],[.one .bool],false⟩
def gY (a:List (List Int)) (b:List (List Int)):List Dt:=[.z (b2i (bJ a b))]
def df:List Dt→List Dt
 | [.l x0,.l x1]=>gY x0 x1
 | _=>[]
def sT_ebegins:Tr:=
(.br (.lt (.len (.lvar 1)) (.len (.lvar 0)))
(.leaf (.consb (.tt false) .nil))
(.loop 0 2 [.int .i64] (.cons (.lit 0) .nil)
(.br (.lt (.var 2) (.len (.lvar 0)))
(.br (.lt (.var 2) (.lit 0))
.panic
(.br (.lt (.var 2) (.len (.lvar 1)))
(.br (.eq (.get (.lvar 0) (.var 2) 0) (.get (.lvar 1) (.var 2) 0))
(.br (.eq (.get (.lvar 0) (.var 2) 1) (.get (.lvar 1) (.var 2) 1))
(.call 0 [.bool] (.consl (.ltake (.lapp (.lapp (.lapp (.lapp (.lapp .lnil (.cons (.get (.lvar 0) (.var 2) 3) .nil)) (.cons (.get (.lvar 0) (.var 2) 4) .nil)) (.cons (.get (.lvar 0) (.var 2) 5) .nil)) (.cons (.get (.lvar 0) (.var 2) 6) .nil)) (.cons (.get (.lvar 0) (.var 2) 7) .nil)) (.get (.lvar 0) (.var 2) 2)) (.consl (.ltake (.lapp (.lapp (.lapp (.lapp (.lapp .lnil (.cons (.get (.lvar 1) (.var 2) 3) .nil)) (.cons (.get (.lvar 1) (.var 2) 4) .nil)) (.cons (.get (.lvar 1) (.var 2) 5) .nil)) (.cons (.get (.lvar 1) (.var 2) 6) .nil)) (.cons (.get (.lvar 1) (.var 2) 7) .nil)) (.get (.lvar 1) (.var 2) 2)) .nil)) 3
(.br (.bvar 3)
(.next 0 (.cons (.bin .add .i64 (.var 2) (.lit 1)) .nil))
(.leaf (.consb (.tt false) .nil))))
(.leaf (.consb (.tt false) .nil)))
(.leaf (.consb (.tt false) .nil)))
.panic))
(.leaf (.consb (.tt true) .nil)))))
def lr:Spec:=⟨fun k=>match k with | 0=>ee | _=>fun _=>[],fun k=>match k with | 0=>db | _=>fun _=>True⟩
set_option maxRecDepth 100000 in
theorem tI:aD tys_MoF [jV 0] [(26,Try.f26,[(999999,[]),(999998,[])],[])] [(4,[.tmpI 5 .i64,.top 11,.top 12,.top 13,.top 14,.top 17,.top 18,.top 19,.top 20,.top 21,.top 22,.top 23,.top 24,.top 25,.top 26,.top 4,.top 15,.top 16]),(999999,[]),(999998,[])] [] 200 Try.f12 [.one (.sl [some .i64,some .u64,some .i64,some .u64,some .u64,some .u64,some .u64,some .u64] 39),.one (.sl [some .i64,some .u64,some .i64,some .u64,some .u64,some .u64,some .u64,some .u64] 39)] [.one .bool] false [.list [some .i64,some .u64,some .i64,some .u64,some .u64,some .u64,some .u64,some .u64],.list [some .i64,some .u64,some .i64,some .u64,some .u64,some .u64,some .u64,some .u64]] sT_ebegins:=⟨by kernel_rfl,by kernel_rfl,by kernel_rfl⟩
set_option maxRecDepth 100000 in
set_option maxHeartbeats 8000000 in
theorem tF (a:List (List Int)) (ha:RowsIn [some .i64,some .u64,some .i64,some .u64,some .u64,some .u64,some .u64,some .u64] a) (b:List (List Int)) (hb:RowsIn [some .i64,some .u64,some .i64,some .u64,some .u64,some .u64,some .u64,some .u64] b) (ρ:Env) (g:ah ρ 0 [.list [some .i64,some .u64,some .i64,some .u64,some .u64,some .u64,some .u64,some .u64],.list [some .i64,some .u64,some .i64,some .u64,some .u64,some .u64,some .u64,some .u64]]=[.l a,.l b]):sT_ebegins.asks lr (fun ρ e=>e.D ρ=df [.l a,.l b]) ρ fun _ _=>False:=by
 have keepg:=g
 simp only[ah,varD,List.cons.injEq,Dt.z.injEq,Dt.l.injEq,b2i_eq_iff,Nat.reduceAdd,and_true] at g
 simp only[sT_ebegins,lr,ee,jK,df,gY,db,Tr.asks,aj,okDs,okD,eqs,E.I,E.B,E.L,E.R,E.D,E.vs,dI,dB,dL,varD,ah,List.getElem?_cons_zero,List.getElem?_cons_succ,List.cons_append,List.nil_append,Nat.zero_add,Nat.add_zero,Nat.reduceAdd,and_true,true_and,b2i_one,-eq_self,Ins.eta,Prog.eta,aa,Mem.eta,Mach.eta,g]
 obtain⟨k0_l0,k0_l1⟩:=g
 refine⟨fun c0=> ?_,fun c0=> ?_⟩
 ·have h0:bJ a b=false:=by unfold bJ; rw[c0]; rfl
  rw[h0]
 refine⟨fun ds=>∃n:Nat,ds=[.z (n:Int)]∧n≤a.length∧∀j:Nat,j<n→evEq a b (j:Int)=true,fun ds=>a.length-(dI ds 0).toNat,⟨0,rfl,Nat.zero_le _,fun j hj=>absurd hj (Nat.not_lt_zero _)⟩,?_⟩
 intro ρ1 ha1 _ hi1
 obtain⟨n,hds,hn,hall⟩:=hi1
 simp only[List.cons.injEq,Dt.z.injEq,Dt.l.injEq,b2i_eq_iff,and_true] at hds
 have k1_i2:=hds
 have k1_l0:=kL ha1 k0_l0
 have k1_l1:=kL ha1 k0_l1
 simp only[k1_l0,k1_l1,k1_i2,-eq_self]
 refine⟨fun c1=> ?_,fun c1=> ?_⟩
 refine⟨fun c2=> ?_,fun c2=> ?_⟩
 ·exact absurd (of_decide_eq_true c2) (by omega)
 refine⟨fun c3=> ?_,fun c3=> ?_⟩
 refine⟨fun c4=> ?_,fun c4=> ?_⟩
 refine⟨fun c5=> ?_,fun c5=> ?_⟩
 refine⟨?_,?_⟩
 ·exact⟨lX _ _,lX _ _⟩
 intro e; (try simp only[e,Ins.eta,Prog.eta,aa,Mem.eta,Mach.eta,-eq_self]); clear e
 refine⟨fun c6=> ?_,fun c6=> ?_⟩
 ·have hn2:n<a.length:=Int.ofNat_lt.1 (of_decide_eq_true c1)
  have h7:evEq a b (n:Int)=true:=by unfold evEq; rw[c4,c5,show dK (eE a (n:Int)) (eE b (n:Int))=true from c6]; rfl
  rw[addO hn2 ha.len]
  exact⟨⟨n+1,rfl,hn2,fun j hj=>by rcases Nat.lt_succ_iff_lt_or_eq.1 hj with h | rfl; exact hall j h; exact h7⟩,by show a.length-(((n+1:Nat):Int)).toNat<a.length-((n:Int)).toNat; omega⟩
 ·have hn2:n<a.length:=Int.ofNat_lt.1 (of_decide_eq_true c1)
  have h7:evEq a b (n:Int)=false:=by unfold evEq; rw[c4,c5,show dK (eE a (n:Int)) (eE b (n:Int))=false from c6]; rfl
  have h0:bJ a b=false:=by unfold bJ; rw[c0,jl hn2 h7]; rfl
  rw[h0]
 ·have hn2:n<a.length:=Int.ofNat_lt.1 (of_decide_eq_true c1)
  have h7:evEq a b (n:Int)=false:=by unfold evEq; rw[c4,c5]; rfl
  have h0:bJ a b=false:=by unfold bJ; rw[c0,jl hn2 h7]; rfl
  rw[h0]
 ·have hn2:n<a.length:=Int.ofNat_lt.1 (of_decide_eq_true c1)
  have h7:evEq a b (n:Int)=false:=by unfold evEq; rw[c4]; rfl
  have h0:bJ a b=false:=by unfold bJ; rw[c0,jl hn2 h7]; rfl
  rw[h0]
 ·have hn2:n<a.length:=Int.ofNat_lt.1 (of_decide_eq_true c1)
  exact absurd (of_decide_eq_false c3) (by have:=of_decide_eq_false c0; omega)
 ·obtain rfl:n=a.length:=by have:=of_decide_eq_false c1; omega
  have h0:bJ a b=true:=by unfold bJ; rw[c0,jw hall]; rfl
  rw[h0]
theorem tL {sp:Spec} {key:Nat} (hF:sp.F key=df) (hP:sp.pre key=fun _=>True:=by rfl):SmOk Try.prog sp (hZ key):=
 aF (s:=hZ key) hF hP (by kernel_rfl) dQ (smc (wQ rfl rfl) sm0) Try.func12 (fnc Try.func26 fn0) tI (.inr (.inr rfl)) (fun x0 gx0 x1 gx1 hp ρ g=>tF x0 gx0 x1 gx1 ρ g)
def mK (key:Nat):Sm:=⟨15,key,[.agg kOut,.agg kOut],[.one .bool],false⟩
def mC (a:Out) (b:Out):List Dt:=[.z (b2i (nr a b))]
def gk:List Dt→List Dt
 | [.z x0,.z x1,.l x2,.l x3,.z x4,.z x5,.z x6,.l x7,.l x8,.z x9]=>mC ⟨x0,x1,x2,x3,x4⟩ ⟨x5,x6,x7,x8,x9⟩
 | _=>[]
def sT_esame:Tr:=
(.br (.eq (.var 0) (.var 5))
(.br (.eq (.var 1) (.var 6))
(.br (.leq (.lvar 2) (.lvar 7))
(.br (.eq (.len (.lvar 3)) (.len (.lvar 8)))
(.call 0 [.bool] (.consl (.lvar 3) (.consl (.lvar 8) .nil)) 10
(.br (.bvar 10)
(.leaf (.consb (.eq (.var 4) (.var 9)) .nil))
(.leaf (.consb (.tt false) .nil))))
(.leaf (.consb (.tt false) .nil)))
(.leaf (.consb (.tt false) .nil)))
(.leaf (.consb (.tt false) .nil)))
(.leaf (.consb (.tt false) .nil)))
def rA:Spec:=⟨fun k=>match k with | 0=>df | _=>fun _=>[],fun k=>match k with | _=>fun _=>True⟩
set_option maxRecDepth 100000 in
theorem zx:aD tys_MoF [hZ 0] [(28,Try.f28,[],[])] [(999999,[])] [] 200 Try.f15 [.agg kOut,.agg kOut] [.one .bool] false [.int .i8,.int .u64,.list [some .u8],.list [some .i64,some .u64,some .i64,some .u64,some .u64,some .u64,some .u64,some .u64],.int .i64,.int .i8,.int .u64,.list [some .u8],.list [some .i64,some .u64,some .i64,some .u64,some .u64,some .u64,some .u64,some .u64],.int .i64] sT_esame:=⟨by kernel_rfl,by kernel_rfl,by kernel_rfl⟩
set_option maxRecDepth 100000 in
set_option maxHeartbeats 8000000 in
theorem zm (a:Out) (ha:Out.ok a) (b:Out) (hb:Out.ok b) (ρ:Env) (g:ah ρ 0 [.int .i8,.int .u64,.list [some .u8],.list [some .i64,some .u64,some .i64,some .u64,some .u64,some .u64,some .u64,some .u64],.int .i64,.int .i8,.int .u64,.list [some .u8],.list [some .i64,some .u64,some .i64,some .u64,some .u64,some .u64,some .u64,some .u64],.int .i64]=[.z a.kind,.z a.r0,.l a.ctx,.l a.tr,.z a.left,.z b.kind,.z b.r0,.l b.ctx,.l b.tr,.z b.left]):sT_esame.asks rA (fun ρ e=>e.D ρ=gk [.z a.kind,.z a.r0,.l a.ctx,.l a.tr,.z a.left,.z b.kind,.z b.r0,.l b.ctx,.l b.tr,.z b.left]) ρ fun _ _=>False:=by
 simp only[ah,varD,List.cons.injEq,Dt.z.injEq,Dt.l.injEq,b2i_eq_iff,Nat.reduceAdd,and_true] at g
 simp only[sT_esame,rA,df,gY,gk,mC,Tr.asks,aj,okDs,okD,eqs,E.I,E.B,E.L,E.R,E.D,E.vs,dI,dB,dL,varD,ah,List.getElem?_cons_zero,List.getElem?_cons_succ,List.cons_append,List.nil_append,Nat.zero_add,Nat.add_zero,Nat.reduceAdd,and_true,true_and,b2i_one,-eq_self,Ins.eta,Prog.eta,aa,Mem.eta,Mach.eta,g]
 refine⟨fun c0=> ?_,fun c0=> ?_⟩
 refine⟨fun c1=> ?_,fun c1=> ?_⟩
 refine⟨fun c2=> ?_,fun c2=> ?_⟩
 refine⟨fun c3=> ?_,fun c3=> ?_⟩
 intro e; (try simp only[e,Ins.eta,Prog.eta,aa,Mem.eta,Mach.eta,-eq_self]); clear e
 refine⟨fun c4=> ?_,fun c4=> ?_⟩
 ·(unfold nr; simp_all)
 ·(unfold nr; simp_all)
 ·(unfold nr; simp_all)
 ·(unfold nr; simp_all)
 ·(unfold nr; simp_all)
 ·(unfold nr; simp_all)
theorem zD {sp:Spec} {key:Nat} (hF:sp.F key=gk) (hP:sp.pre key=fun _=>True:=by rfl):SmOk Try.prog sp (mK key):=
 aF (s:=mK key) hF hP (by kernel_rfl) dQ (smc (tL rfl) sm0) Try.func15 (fnc Try.func28 fn0) zx (.inr (.inr rfl)) (fun x0 gx0 x1 gx1 x2 gx2 x3 gx3 x4 gx4 x5 gx5 x6 gx6 x7 gx7 x8 gx8 x9 gx9 hp ρ g=>zm ⟨x0,x1,x2,x3,x4⟩ ⟨gx0,gx1,gx2,gx3,gx4⟩ ⟨x5,x6,x7,x8,x9⟩ ⟨gx5,gx6,gx7,gx8,gx9⟩ ρ g)
def jO (key:Nat):Sm:=⟨10,key,[],[.one .bool],false⟩
def dX:List Dt→List Dt
 | []=>[.z (b2i true)]
 | _=>[]
def sT_lwakes:Tr:=
(.call 0 (kOut++[.int .i64]) (.cons (.lit 0) (.consl (.lcat (.lapp .lnil (.cons (.lit 0) (.cons (.lit 11) (.cons (.lit 64) (.cons (.lit 0) (.consb (.tt false) (.cons (.lit 0) (.cons (.lit 0) (.cons (.lit 0) (.cons (.lit 5) .nil)))))))))) (.lapp .lnil (.cons (.lit 6) (.cons (.lit 0) (.cons (.lit 0) (.cons (.lit 0) (.consb (.tt false) (.cons (.lit 0) (.cons (.lit 0) (.cons (.lit 0) (.cons (.lit 0) .nil))))))))))) (.consl .lnil (.consl .lnil (.cons (.lit 9) .nil))))) 0
(.call 0 (kOut++[.int .i64]) (.cons (.lit 0) (.consl (.ldrop (.lcat (.lapp .lnil (.cons (.lit 0) (.cons (.lit 11) (.cons (.lit 64) (.cons (.lit 0) (.consb (.tt false) (.cons (.lit 0) (.cons (.lit 0) (.cons (.lit 0) (.cons (.lit 5) .nil)))))))))) (.lapp .lnil (.cons (.lit 6) (.cons (.lit 0) (.cons (.lit 0) (.cons (.lit 0) (.consb (.tt false) (.cons (.lit 0) (.cons (.lit 0) (.cons (.lit 0) (.cons (.lit 0) .nil))))))))))) (.lit 1)) (.consl .lnil (.consl .lnil (.cons (.lit 9) .nil))))) 6
(.call 0 (kOut++[.int .i64]) (.cons (.lit 0) (.consl (.lcat (.lapp .lnil (.cons (.lit 5) (.cons (.lit 0) (.cons (.lit 0) (.cons (.lit 0) (.consb (.tt false) (.cons (.lit 0) (.cons (.lit 0) (.cons (.lit 0) (.cons (.lit 0) .nil)))))))))) (.lapp .lnil (.cons (.lit 6) (.cons (.lit 0) (.cons (.lit 0) (.cons (.lit 0) (.consb (.tt false) (.cons (.lit 0) (.cons (.lit 0) (.cons (.lit 0) (.cons (.lit 0) .nil))))))))))) (.consl .lnil (.consl .lnil (.cons (.lit 9) .nil))))) 12
(.br (.eq (.var 5) (.lit 0))
(.br (.eq (.var 0) (.lit 1))
(.br (.eq (.var 1) (.lit 5))
(.br (.eq (.var 4) (.lit 7))
(.br (.eq (.var 11) (.lit 0))
(.br (.eq (.var 6) (.lit 3))
(.br (.eq (.var 17) (.lit 0))
(.leaf (.consb (.eq (.var 12) (.lit 2)) .nil))
(.leaf (.consb (.tt false) .nil)))
(.leaf (.consb (.tt false) .nil)))
(.leaf (.consb (.tt false) .nil)))
(.leaf (.consb (.tt false) .nil)))
(.leaf (.consb (.tt false) .nil)))
(.leaf (.consb (.tt false) .nil)))
(.leaf (.consb (.tt false) .nil))))))
def oy:Spec:=⟨fun k=>match k with | 0=>fz | _=>fun _=>[],fun k=>match k with | 0=>dU | _=>fun _=>True⟩
set_option maxRecDepth 100000 in
theorem wi:aD tys_MoF [mE 0] [] [(999999,[])] [] 200 Try.f10 [] [.one .bool] false [] sT_lwakes:=⟨by kernel_rfl,by kernel_rfl,by kernel_rfl⟩
set_option maxRecDepth 100000 in
set_option maxHeartbeats 8000000 in
theorem vW (ρ:Env) (g:ah ρ 0 []=[]):sT_lwakes.asks oy (fun ρ e=>e.D ρ=dX []) ρ fun _ _=>False:=by
 simp only[sT_lwakes,oy,kOut,fz,mu,dX,dU,Tr.asks,aj,okDs,okD,eqs,E.I,E.B,E.L,E.R,E.D,E.vs,dI,dB,dL,varD,ah,List.getElem?_cons_zero,List.getElem?_cons_succ,List.cons_append,List.nil_append,Nat.zero_add,Nat.add_zero,Nat.reduceAdd,and_true,true_and,b2i_one,-eq_self,Ins.eta,Prog.eta,aa,Mem.eta,Mach.eta]
 refine⟨?_,?_⟩
 ·exact⟨⟨by decide,by decide⟩,by decide⟩
 intro e; have e:ρ.i 0=1∧ρ.i 1=5∧True∧True∧ρ.i 4=7∧ρ.i 5=0:=⟨e.1.trans (by kernel_rfl),e.2.1.trans (by kernel_rfl),trivial,trivial,e.2.2.2.2.1.trans (by kernel_rfl),e.2.2.2.2.2.trans (by kernel_rfl)⟩; (try simp only[e,Ins.eta,Prog.eta,aa,Mem.eta,Mach.eta,-eq_self]); clear e
 refine⟨?_,?_⟩
 ·exact⟨⟨by decide,by decide⟩,by decide⟩
 intro e; have e:ρ.i 6=3∧ρ.i 7=0∧True∧True∧ρ.i 10=8∧ρ.i 11=0:=⟨e.1.trans (by kernel_rfl),e.2.1.trans (by kernel_rfl),trivial,trivial,e.2.2.2.2.1.trans (by kernel_rfl),e.2.2.2.2.2.trans (by kernel_rfl)⟩; (try simp only[e,Ins.eta,Prog.eta,aa,Mem.eta,Mach.eta,-eq_self]); clear e
 refine⟨?_,?_⟩
 ·exact⟨⟨by decide,by decide⟩,by decide⟩
 intro e; have e:ρ.i 12=2∧ρ.i 13=0∧True∧True∧ρ.i 16=8∧ρ.i 17=0:=⟨e.1.trans (by kernel_rfl),e.2.1.trans (by kernel_rfl),trivial,trivial,e.2.2.2.2.1.trans (by kernel_rfl),e.2.2.2.2.2.trans (by kernel_rfl)⟩; (try simp only[e,Ins.eta,Prog.eta,aa,Mem.eta,Mach.eta,-eq_self]); clear e
 refine⟨fun c0=> ?_,fun c0=> ?_⟩
 refine⟨fun c1=> ?_,fun c1=> ?_⟩
 refine⟨fun c2=> ?_,fun c2=> ?_⟩
 refine⟨fun c3=> ?_,fun c3=> ?_⟩
 refine⟨fun c4=> ?_,fun c4=> ?_⟩
 refine⟨fun c5=> ?_,fun c5=> ?_⟩
 refine⟨fun c6=> ?_,fun c6=> ?_⟩
 ·first | rfl | cases c6
 ·first | rfl | cases c6
 ·first | rfl | cases c5
 ·first | rfl | cases c4
 ·first | rfl | cases c3
 ·first | rfl | cases c2
 ·first | rfl | cases c1
 ·first | rfl | cases c0
theorem wK {sp:Spec} {key:Nat} (hF:sp.F key=dX) (hP:sp.pre key=fun _=>True:=by rfl):SmOk Try.prog sp (jO key):=
 aF (s:=jO key) hF hP (by kernel_rfl) dQ (smc (wI rfl rfl) sm0) Try.func10 fn0 wi (.inl rfl) (fun hp ρ g=>vW ρ g)
def jg (key:Nat):Sm:=⟨27,key,[.one (.int .i64)],[.one (.int .i64)],false⟩
def jc (n:Int):List Dt:=[.z (bn n)]
def du:List Dt→List Dt
 | [.z x0]=>jc x0
 | _=>[]
def sT_jargs:Tr:=
(.br (.lt (.var 0) (.lit 0))
(.leaf (.cons (.lit 0) .nil))
(.br (.lt (.var 0) (.lit 16))
(.leaf (.cons (.bin .rem .i64 (.var 0) (.lit 6)) .nil))
(.leaf (.cons (.lit 0) .nil))))
def rv:Spec:=⟨fun k=>match k with | _=>fun _=>[],fun k=>match k with | _=>fun _=>True⟩
set_option maxRecDepth 100000 in
theorem zu:aD tys_MoF [] [] [] [] 200 Try.f27 [.one (.int .i64)] [.one (.int .i64)] false [.int .i64] sT_jargs:=⟨by kernel_rfl,by kernel_rfl,by kernel_rfl⟩
set_option maxRecDepth 100000 in
set_option maxHeartbeats 8000000 in
theorem zj (n:Int) (hn:inK .i64 n=true) (ρ:Env) (g:ah ρ 0 [.int .i64]=[.z n]):sT_jargs.asks rv (fun ρ e=>e.D ρ=du [.z n]) ρ fun _ _=>False:=by
 simp only[ah,varD,List.cons.injEq,Dt.z.injEq,Dt.l.injEq,b2i_eq_iff,Nat.reduceAdd,and_true] at g
 simp only[sT_jargs,rv,du,jc,Tr.asks,aj,okDs,okD,eqs,E.I,E.B,E.L,E.R,E.D,E.vs,dI,dB,dL,varD,ah,List.getElem?_cons_zero,List.getElem?_cons_succ,List.cons_append,List.nil_append,Nat.zero_add,Nat.add_zero,Nat.reduceAdd,and_true,true_and,b2i_one,-eq_self,Ins.eta,Prog.eta,aa,Mem.eta,Mach.eta,g]
 refine⟨fun c0=> ?_,fun c0=> ?_⟩
 ·(unfold bn; simp_all<;>omega)
 refine⟨fun c1=> ?_,fun c1=> ?_⟩
 ·(unfold bn; simp_all<;>omega)
 ·(unfold bn; simp_all<;>omega)
theorem rH {sp:Spec} {key:Nat} (hF:sp.F key=du) (hP:sp.pre key=fun _=>True:=by rfl):SmOk Try.prog sp (jg key):=
 aF (s:=jg key) hF hP (by kernel_rfl) dQ (sm0) Try.func27 fn0 zu (.inl rfl) (fun x0 gx0 hp ρ g=>zj x0 gx0 ρ g)
end Go.Proofs.Ytghiofgomcihcaa
