import Derived.Test.YtghiofgomcihcaaLiB
import Derived.Test.YtghiofgomcihcaaProg
import Derived.Laws.Externs
set_option linter.unusedVariables false
set_option linter.unusedSimpArgs false
namespace Go.Proofs.Ytghiofgomcihcaa
open Go.RowKit Go.ChangeShapes Go.WideShapes
def tys_LiC:List (Nat×TI):=[(3,⟨false,1,[.int .i64 (.lit 0)],[],none,some .i64,false,false,none,8,false,none,false,0⟩),
 (4,⟨false,1,[.bool (.tt false)],[],none,none,false,true,none,1,false,none,false,0⟩),
 (22,⟨false,1,[.nsl],[],none,none,false,false,some 44,24,false,none,false,0⟩),
 (24,⟨true,2,[.int .i64 (.lit 0),.nsl],[(0,3),(1,22)],none,none,false,false,none,32,false,none,false,0⟩),
 (29,⟨false,1,[.int .i8 (.lit 0)],[],none,some .i8,false,false,none,1,false,none,false,0⟩),
 (44,⟨true,9,[.int .i8 (.lit 0),.int .i8 (.lit 0),.int .i8 (.lit 0),.int .i8 (.lit 0),.bool (.tt false),.int .i8 (.lit 0),.int .i8 (.lit 0),.int .i64 (.lit 0),.int .i64 (.lit 0)],[(0,29),(1,29),(2,29),(3,29),(4,4),(5,29),(6,29),(7,3),(8,3)],none,none,false,false,none,24,false,none,false,0⟩)]
set_option maxRecDepth 100000 in
theorem ur:(tys_LiC.all fun p=>ckTI Try.prog p.1 p.2)=true:=by kernel_rfl
theorem ni:(tys_LiC.all fun p=>!p.2.eqok)=true:=by kernel_rfl
theorem uf:(tys_LiC.all fun p=>!p.2.keyok)=true:=by kernel_rfl
theorem tW:∀t i,(t,i)∈tys_LiC→TIok Try.prog t i:=by
 intro t i h
 refine cQ (eY (f:=ckTI Try.prog) ur h) (fun he=> ?_) (fun he=> ?_) (fun he=> ?_)
 ·have h1:=List.all_eq_true.1 ni (t,i) h
  simp[he] at h1
 ·have h1:=List.all_eq_true.1 ni (t,i) h
  simp[he] at h1
 ·have h1:=List.all_eq_true.1 uf (t,i) h
  simp[he] at h1
def fP (key:Nat):Sm:=⟨34,key,[.agg kD],[.one (.int .i64),.one (.int .i64)],true⟩
def fL (pr:Prog):List Dt:=[.z ((aF pr).1),.z ((aF pr).2)]
def ct:List Dt→List Dt
 | [.z x0,.l x1]=>fL ⟨x0,x1⟩
 | _=>[]
def sT_icheck:Tr:=
(.call 0 [.bool] (.cons (.var 0) (.cons (.lit 0) (.cons (.lit 256) .nil))) 2
(.br (.bvar 2)
(.call 0 [.bool] (.cons (.bin .sub .i64 (.len (.lvar 1)) (.lit 1)) (.cons (.lit 0) (.cons (.lit 63) .nil))) 3
(.br (.bvar 3)
(.loop 0 4 [.int .i64] (.cons (.lit 0) .nil)
(.br (.lt (.var 4) (.len (.lvar 1)))
(.br (.lt (.var 4) (.lit 0))
.panic
(.call 1 [.bool] (.cons (.get (.lvar 1) (.var 4) 0) (.cons (.get (.lvar 1) (.var 4) 1) (.cons (.get (.lvar 1) (.var 4) 2) (.cons (.get (.lvar 1) (.var 4) 3) (.consb (.getb (.lvar 1) (.var 4) 4) (.cons (.get (.lvar 1) (.var 4) 5) (.cons (.get (.lvar 1) (.var 4) 6) (.cons (.get (.lvar 1) (.var 4) 7) (.cons (.get (.lvar 1) (.var 4) 8) .nil))))))))) 5
(.br (.bvar 5)
(.call 2 [.int .i64,.bool] (.cons (.var 4) (.cons (.get (.lvar 1) (.var 4) 0) (.cons (.get (.lvar 1) (.var 4) 1) (.cons (.get (.lvar 1) (.var 4) 2) (.cons (.get (.lvar 1) (.var 4) 3) (.consb (.getb (.lvar 1) (.var 4) 4) (.cons (.get (.lvar 1) (.var 4) 5) (.cons (.get (.lvar 1) (.var 4) 6) (.cons (.get (.lvar 1) (.var 4) 7) (.cons (.get (.lvar 1) (.var 4) 8) .nil)))))))))) 6
(.br (.bvar 7)
(.call 0 [.bool] (.cons (.var 6) (.cons (.lit 0) (.cons (.bin .sub .i64 (.len (.lvar 1)) (.lit 1)) .nil))) 8
(.br (.bvar 8)
(.next 0 (.cons (.bin .add .i64 (.var 4) (.lit 1)) .nil))
(.leaf (.cons (.var 4) (.cons (.lit 32) .nil)))))
(.next 0 (.cons (.bin .add .i64 (.var 4) (.lit 1)) .nil))))
(.leaf (.cons (.var 4) (.cons (.lit 31) .nil))))))
(.br (.lt (.bin .sub .i64 (.len (.lvar 1)) (.lit 1)) (.lit 0))
.panic
(.br (.lt (.bin .sub .i64 (.len (.lvar 1)) (.lit 1)) (.len (.lvar 1)))
(.br (.eq (.get (.lvar 1) (.bin .sub .i64 (.len (.lvar 1)) (.lit 1)) 0) (.lit 4))
(.leaf (.cons (.lit 0) (.cons (.lit 0) .nil)))
(.br (.eq (.get (.lvar 1) (.bin .sub .i64 (.len (.lvar 1)) (.lit 1)) 0) (.lit 6))
(.leaf (.cons (.lit 0) (.cons (.lit 0) .nil)))
(.leaf (.cons (.bin .sub .i64 (.len (.lvar 1)) (.lit 1)) (.cons (.lit 33) .nil)))))
.panic))))
(.leaf (.cons (.lit 0) (.cons (.lit 3) .nil)))))
(.leaf (.cons (.lit 0) (.cons (.lit 2) .nil)))))
def nO:Spec:=⟨fun k=>match k with | 0=>cY | 1=>jL | 2=>dl | _=>fun _=>[],fun k=>match k with | _=>fun _=>True⟩
set_option maxRecDepth 100000 in
theorem vr:aM tys_LiC [jD 0,pq 1,jE 2] [] [(7,[.tmpI 26 .i64,.top 27,.top 28,.top 29,.top 30,.top 6,.top 5,.top 31,.top 32,.top 33,.top 34,.top 2,.top 3,.top 36,.top 37,.top 38,.top 35,.top 39,.top 40,.top 7,.top 8,.top 41,.top 42,.top 43,.top 44,.top 45,.top 46,.top 47,.top 48,.top 49])] [] 200 Try.f34 [.agg kD] [.one (.int .i64),.one (.int .i64)] true [.int .i64,.list [some .i8,some .i8,some .i8,some .i8,none,some .i8,some .i8,some .i64,some .i64]] sT_icheck:=⟨by kernel_rfl,by kernel_rfl,by kernel_rfl⟩
def bS:List Dt→Prop
 | [.z x0,.l x1]=>let f (pr:Prog):Prop:=pr.l.length≤maxLen; f ⟨x0,x1⟩
 | _=>False
set_option maxRecDepth 100000 in
set_option maxHeartbeats 8000000 in
theorem vf (pr:Prog) (hpr:Prog.ok pr) (hp:bS [.z pr.ctx,.l pr.l]) (ρ:Env) (g:ah ρ 0 [.int .i64,.list [some .i8,some .i8,some .i8,some .i8,none,some .i8,some .i8,some .i64,some .i64]]=[.z pr.ctx,.l pr.l]):sT_icheck.asks nO (fun ρ e=>e.D ρ=ct [.z pr.ctx,.l pr.l]) ρ fun _ _=>False:=by
 simp only[bS,b2i_one,Ins.eta,Prog.eta,aa] at hp
 have keepg:=g
 simp only[ah,varD,List.cons.injEq,Dt.z.injEq,Dt.l.injEq,b2i_eq_iff,Nat.reduceAdd,and_true] at g
 simp only[sT_icheck,nO,cY,jL,dl,js,pj,jt,ct,fL,Tr.asks,am,okDs,okD,eqs,E.I,E.B,E.L,E.R,E.D,E.vs,dI,dB,dL,varD,ah,List.getElem?_cons_zero,List.getElem?_cons_succ,List.cons_append,List.nil_append,Nat.zero_add,Nat.add_zero,Nat.reduceAdd,and_true,true_and,b2i_one,-eq_self,Ins.eta,Prog.eta,aa,g]
 intro e; (try simp only[e,Ins.eta,Prog.eta,aa,-eq_self]); clear e
 refine⟨fun c0=> ?_,fun c0=> ?_⟩
 intro e; (try simp only[e,Ins.eta,Prog.eta,aa,-eq_self]); clear e
 refine⟨fun c1=> ?_,fun c1=> ?_⟩
 refine⟨fun ds=>∃n:Nat,ds=[.z (n:Int)]∧n≤pr.l.length∧(scan pr pr.l.length 0=scan pr (pr.l.length-n) n),fun ds=>(pr.l.length-(dI ds 0).toNat),⟨0,rfl,Nat.zero_le _,rfl⟩,?_⟩
 intro ρ1 ha1 _ hi1
 obtain⟨n,hds,r1,r2⟩:=hi1
 simp only[List.cons.injEq,Dt.z.injEq,and_true] at hds
 have g1:=(lG ha1 _ 0 (by decide)).trans keepg
 simp only[ah,varD,List.cons.injEq,Dt.z.injEq,Dt.l.injEq,b2i_eq_iff,Nat.reduceAdd,and_true] at g1
 simp only[g1,hds,aa,-eq_self]
 refine⟨fun c2=> ?_,fun c2=> ?_⟩
 refine⟨fun c3=> ?_,fun c3=> ?_⟩
 ·exact absurd (of_decide_eq_true c3) (by omega)
 intro e; (try simp only[e,Ins.eta,Prog.eta,aa,-eq_self]); clear e
 refine⟨fun c4=> ?_,fun c4=> ?_⟩
 intro e; (try simp only[e,Ins.eta,Prog.eta,aa,-eq_self]); clear e
 refine⟨fun c5=> ?_,fun c5=> ?_⟩
 intro e; (try simp only[e,Ins.eta,Prog.eta,aa,-eq_self]); clear e
 refine⟨fun c6=> ?_,fun c6=> ?_⟩
 ·exact⟨⟨n+1,by rw[addN (Int.ofNat_lt.1 (of_decide_eq_true c2)) hp],Int.ofNat_lt.1 (of_decide_eq_true c2),r2.trans (fI (Int.ofNat_lt.1 (of_decide_eq_true c2)) (je c4 (.inr c6)))⟩,by rw[addN (Int.ofNat_lt.1 (of_decide_eq_true c2)) hp]; have:=Int.ofNat_lt.1 (of_decide_eq_true c2); show pr.l.length-(((n+1:Nat):Int)).toNat<pr.l.length-((n:Int)).toNat; omega⟩
 ·rw[db c0 c1 r2 (Int.ofNat_lt.1 (of_decide_eq_true c2)) (mP c4 c5 c6)]; try rfl
 ·exact⟨⟨n+1,by rw[addN (Int.ofNat_lt.1 (of_decide_eq_true c2)) hp],Int.ofNat_lt.1 (of_decide_eq_true c2),r2.trans (fI (Int.ofNat_lt.1 (of_decide_eq_true c2)) (je c4 (.inl c5)))⟩,by rw[addN (Int.ofNat_lt.1 (of_decide_eq_true c2)) hp]; have:=Int.ofNat_lt.1 (of_decide_eq_true c2); show pr.l.length-(((n+1:Nat):Int)).toNat<pr.l.length-((n:Int)).toNat; omega⟩
 ·rw[db c0 c1 r2 (Int.ofNat_lt.1 (of_decide_eq_true c2)) (oU c4)]; try rfl
 refine⟨fun c7=> ?_,fun c7=> ?_⟩
 ·have q:=pH c1 hp
  have w:=of_decide_eq_true c7
  unfold Prog.last at q
  omega
 refine⟨fun c8=> ?_,fun c8=> ?_⟩
 refine⟨fun c9=> ?_,fun c9=> ?_⟩
 ·rw[cn c0 c1 r2 (by have:=of_decide_eq_false c2; omega),if_pos (.inl (eqI c9))]; try rfl
 refine⟨fun c10=> ?_,fun c10=> ?_⟩
 ·rw[cn c0 c1 r2 (by have:=of_decide_eq_false c2; omega),if_pos (.inr (eqI c10))]; try rfl
 ·rw[cn c0 c1 r2 (by have:=of_decide_eq_false c2; omega),if_neg (fun h=>h.elim (neI c9) (neI c10))]; try rfl
 ·have q:=pH c1 hp
  have w:=of_decide_eq_false c8
  unfold Prog.last at q
  omega
 ·rw[hG c0 c1]; try rfl
 ·rw[hU c0]; try rfl
theorem nR {sp:Spec} {key:Nat} (hF:sp.F key=ct) (hP:sp.pre key=bS):SmOk Try.prog sp (fP key):=
 aS (s:=fP key) hF hP (by kernel_rfl) tW (smc (nQ rfl) (smc (aaS rfl) (smc (pu rfl) sm0))) Try.func34 fn0 vr (.inr (.inl ⟨(fun xs h L hL=>by unfold bS at h; split at h<;>first | exact h.elim | (simp at hL; subst hL; exact h)),rfl⟩)) (fun x0 gx0 x1 gx1 hp ρ g=>vf ⟨x0,x1⟩ ⟨gx0,gx1⟩ hp ρ g)
end Go.Proofs.Ytghiofgomcihcaa
