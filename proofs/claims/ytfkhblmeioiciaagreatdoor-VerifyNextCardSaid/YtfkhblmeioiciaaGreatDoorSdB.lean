import Derived.Test.YtfkhblmeioiciaaGreatDoorSdW
import Derived.Test.YtfkhblmeioiciaaGreatDoorVaC
import Derived.Test.YtfkhblmeioiciaaGreatDoorProg
import Derived.Laws.Externs
set_option linter.unusedVariables false
set_option linter.unusedSimpArgs false
namespace Go.Proofs.YtfkhblmeioiciaaGreatDoor
open Go.RowKit Go.ChangeShapes Go.WideShapes
def rdZ (k:Int→List Dt→List Dt):List Dt→List Dt
 | .z x::r=>k x r
 | _=>[]
def rdB (k:Bool→List Dt→List Dt):List Dt→List Dt
 | .z x::r=>k (x==1) r
 | _=>[]
theorem Ty.eta (a:Ty):(⟨a.k,a.ul,a.uh,a.sl,a.sh,a.v,a.m,a.lo,a.hi⟩:Ty)=a:=rfl
def de (k:Ty→List Dt→List Dt):List Dt→List Dt
 | .z z0::.z z1::.z z2::.z z3::.z z4::.z z5::.z z6::.z z7::.z z8::r=>k ⟨z0,z1,z2,z3,z4,z5,z6,z7,z8⟩ r
 | _=>[]
def Ty.ok (a:Ty):Prop:=inK .i8 a.k=true∧inK .u64 a.ul=true∧inK .u64 a.uh=true∧inK .i64 a.sl=true∧inK .i64 a.sh=true∧inK .u64 a.v=true∧inK .u64 a.m=true∧inK .i64 a.lo=true∧inK .i64 a.hi=true
def kTy:List CK:=[.int .i8,.int .u64,.int .u64,.int .i64,.int .i64,.int .u64,.int .u64,.int .i64,.int .i64]
set_option maxRecDepth 100000 in
def v_Ty (t:List VK):List VK:=.int .i8::.int .u64::.int .u64::.int .i64::.int .i64::.int .u64::.int .u64::.int .i64::.int .i64::t
set_option maxRecDepth 100000 in
def d_Ty (a:Ty) (t:List Dt):List Dt:=.z a.k::.z a.ul::.z a.uh::.z a.sl::.z a.sh::.z a.v::.z a.m::.z a.lo::.z a.hi::t
set_option maxRecDepth 100000 in
theorem bz {l:List VK} {p:List Dt→Prop} (h:∀a:Ty,Ty.ok a→dF l fun r=>p (d_Ty a r)):dF (v_Ty l) p:=
 fun x0 gx0 x1 gx1 x2 gx2 x3 gx3 x4 gx4 x5 gx5 x6 gx6 x7 gx7 x8 gx8=>h ⟨x0,x1,x2,x3,x4,x5,x6,x7,x8⟩ ⟨gx0,gx1,gx2,gx3,gx4,gx5,gx6,gx7,gx8⟩
set_option maxRecDepth 100000 in
theorem pw (k:Ty→List Dt→List Dt) (a:Ty) (t:List Dt):de k (d_Ty a t)=k a t:=rfl
theorem Sta.eta (a:Sta):(⟨a.r0,a.r1,a.r2,a.r3,a.r4,a.r5,a.r6,a.r7,a.r8,a.r9,a.r10,a.s0,a.s1,a.s2,a.s3,a.s4,a.s5,a.s6,a.s7⟩:Sta)=a:=rfl
def kg (k:Sta→List Dt→List Dt):List Dt→List Dt:=de fun r0=>de fun r1=>de fun r2=>de fun r3=>de fun r4=>de fun r5=>de fun r6=>de fun r7=>de fun r8=>de fun r9=>de fun r10=>de fun s0=>de fun s1=>de fun s2=>de fun s3=>de fun s4=>de fun s5=>de fun s6=>de fun s7=>fun r=>k ⟨r0,r1,r2,r3,r4,r5,r6,r7,r8,r9,r10,s0,s1,s2,s3,s4,s5,s6,s7⟩ r
def Sta.ok (a:Sta):Prop:=Ty.ok a.r0∧Ty.ok a.r1∧Ty.ok a.r2∧Ty.ok a.r3∧Ty.ok a.r4∧Ty.ok a.r5∧Ty.ok a.r6∧Ty.ok a.r7∧Ty.ok a.r8∧Ty.ok a.r9∧Ty.ok a.r10∧Ty.ok a.s0∧Ty.ok a.s1∧Ty.ok a.s2∧Ty.ok a.s3∧Ty.ok a.s4∧Ty.ok a.s5∧Ty.ok a.s6∧Ty.ok a.s7
def kSta:List CK:=[.int .i8,.int .u64,.int .u64,.int .i64,.int .i64,.int .u64,.int .u64,.int .i64,.int .i64,.int .i8,.int .u64,.int .u64,.int .i64,.int .i64,.int .u64,.int .u64,.int .i64,.int .i64,.int .i8,.int .u64,.int .u64,.int .i64,.int .i64,.int .u64,.int .u64,.int .i64,.int .i64,.int .i8,.int .u64,.int .u64,.int .i64,.int .i64,.int .u64,.int .u64,.int .i64,.int .i64,.int .i8,.int .u64,.int .u64,.int .i64,.int .i64,.int .u64,.int .u64,.int .i64,.int .i64,.int .i8,.int .u64,.int .u64,.int .i64,.int .i64,.int .u64,.int .u64,.int .i64,.int .i64,.int .i8,.int .u64,.int .u64,.int .i64,.int .i64,.int .u64,.int .u64,.int .i64,.int .i64,.int .i8,.int .u64,.int .u64,.int .i64,.int .i64,.int .u64,.int .u64,.int .i64,.int .i64,.int .i8,.int .u64,.int .u64,.int .i64,.int .i64,.int .u64,.int .u64,.int .i64,.int .i64,.int .i8,.int .u64,.int .u64,.int .i64,.int .i64,.int .u64,.int .u64,.int .i64,.int .i64,.int .i8,.int .u64,.int .u64,.int .i64,.int .i64,.int .u64,.int .u64,.int .i64,.int .i64,.int .i8,.int .u64,.int .u64,.int .i64,.int .i64,.int .u64,.int .u64,.int .i64,.int .i64,.int .i8,.int .u64,.int .u64,.int .i64,.int .i64,.int .u64,.int .u64,.int .i64,.int .i64,.int .i8,.int .u64,.int .u64,.int .i64,.int .i64,.int .u64,.int .u64,.int .i64,.int .i64,.int .i8,.int .u64,.int .u64,.int .i64,.int .i64,.int .u64,.int .u64,.int .i64,.int .i64,.int .i8,.int .u64,.int .u64,.int .i64,.int .i64,.int .u64,.int .u64,.int .i64,.int .i64,.int .i8,.int .u64,.int .u64,.int .i64,.int .i64,.int .u64,.int .u64,.int .i64,.int .i64,.int .i8,.int .u64,.int .u64,.int .i64,.int .i64,.int .u64,.int .u64,.int .i64,.int .i64,.int .i8,.int .u64,.int .u64,.int .i64,.int .i64,.int .u64,.int .u64,.int .i64,.int .i64]
def hZ (t:List VK):List VK:=v_Ty (v_Ty (v_Ty (v_Ty (v_Ty (v_Ty (v_Ty (v_Ty (v_Ty (v_Ty (v_Ty (v_Ty (v_Ty (v_Ty (v_Ty (v_Ty (v_Ty (v_Ty (v_Ty (t)))))))))))))))))))
def cg (a:Sta) (t:List Dt):List Dt:=d_Ty a.r0 (d_Ty a.r1 (d_Ty a.r2 (d_Ty a.r3 (d_Ty a.r4 (d_Ty a.r5 (d_Ty a.r6 (d_Ty a.r7 (d_Ty a.r8 (d_Ty a.r9 (d_Ty a.r10 (d_Ty a.s0 (d_Ty a.s1 (d_Ty a.s2 (d_Ty a.s3 (d_Ty a.s4 (d_Ty a.s5 (d_Ty a.s6 (d_Ty a.s7 (t)))))))))))))))))))
theorem ux {l:List VK} {p:List Dt→Prop} (h:∀a:Sta,Sta.ok a→dF l fun r=>p (cg a r)):dF (hZ l) p:=
 bz fun r0 hr0=>bz fun r1 hr1=>bz fun r2 hr2=>bz fun r3 hr3=>bz fun r4 hr4=>bz fun r5 hr5=>bz fun r6 hr6=>bz fun r7 hr7=>bz fun r8 hr8=>bz fun r9 hr9=>bz fun r10 hr10=>bz fun s0 hs0=>bz fun s1 hs1=>bz fun s2 hs2=>bz fun s3 hs3=>bz fun s4 hs4=>bz fun s5 hs5=>bz fun s6 hs6=>bz fun s7 hs7=>h ⟨r0,r1,r2,r3,r4,r5,r6,r7,r8,r9,r10,s0,s1,s2,s3,s4,s5,s6,s7⟩ ⟨hr0,hr1,hr2,hr3,hr4,hr5,hr6,hr7,hr8,hr9,hr10,hs0,hs1,hs2,hs3,hs4,hs5,hs6,hs7⟩
theorem px (k:Sta→List Dt→List Dt) (a:Sta) (t:List Dt):kg k (cg a t)=k a t:=by
 simp only[kg,cg,pw]
theorem Snap.eta (a:Snap):(⟨a.r0,a.r1,a.r2,a.r3,a.r4,a.r5,a.r6,a.r7,a.r8,a.r9,a.r10,a.set,a.f0,a.f1,a.f2,a.f3,a.f4,a.f5,a.f6,a.f7,a.f8,a.f9,a.f10,a.f11,a.f12,a.f13,a.f14,a.f15,a.f16,a.f17,a.f18,a.f19,a.f20,a.f21,a.f22,a.f23,a.f24,a.f25,a.f26,a.f27,a.f28,a.f29,a.f30,a.f31,a.f32,a.f33,a.f34,a.f35,a.f36,a.f37,a.f38,a.f39,a.f40,a.f41,a.f42,a.f43,a.f44,a.f45,a.f46,a.f47,a.f48,a.f49,a.f50,a.f51,a.f52,a.f53,a.f54,a.f55,a.f56,a.f57,a.f58,a.f59,a.f60,a.f61,a.f62,a.f63⟩:Snap)=a:=rfl
def Snap.ok (a:Snap):Prop:=inK .u64 a.r0=true∧inK .u64 a.r1=true∧inK .u64 a.r2=true∧inK .u64 a.r3=true∧inK .u64 a.r4=true∧inK .u64 a.r5=true∧inK .u64 a.r6=true∧inK .u64 a.r7=true∧inK .u64 a.r8=true∧inK .u64 a.r9=true∧inK .u64 a.r10=true∧inK .i64 a.set=true∧inK .u8 a.f0=true∧inK .u8 a.f1=true∧inK .u8 a.f2=true∧inK .u8 a.f3=true∧inK .u8 a.f4=true∧inK .u8 a.f5=true∧inK .u8 a.f6=true∧inK .u8 a.f7=true∧inK .u8 a.f8=true∧inK .u8 a.f9=true∧inK .u8 a.f10=true∧inK .u8 a.f11=true∧inK .u8 a.f12=true∧inK .u8 a.f13=true∧inK .u8 a.f14=true∧inK .u8 a.f15=true∧inK .u8 a.f16=true∧inK .u8 a.f17=true∧inK .u8 a.f18=true∧inK .u8 a.f19=true∧inK .u8 a.f20=true∧inK .u8 a.f21=true∧inK .u8 a.f22=true∧inK .u8 a.f23=true∧inK .u8 a.f24=true∧inK .u8 a.f25=true∧inK .u8 a.f26=true∧inK .u8 a.f27=true∧inK .u8 a.f28=true∧inK .u8 a.f29=true∧inK .u8 a.f30=true∧inK .u8 a.f31=true∧inK .u8 a.f32=true∧inK .u8 a.f33=true∧inK .u8 a.f34=true∧inK .u8 a.f35=true∧inK .u8 a.f36=true∧inK .u8 a.f37=true∧inK .u8 a.f38=true∧inK .u8 a.f39=true∧inK .u8 a.f40=true∧inK .u8 a.f41=true∧inK .u8 a.f42=true∧inK .u8 a.f43=true∧inK .u8 a.f44=true∧inK .u8 a.f45=true∧inK .u8 a.f46=true∧inK .u8 a.f47=true∧inK .u8 a.f48=true∧inK .u8 a.f49=true∧inK .u8 a.f50=true∧inK .u8 a.f51=true∧inK .u8 a.f52=true∧inK .u8 a.f53=true∧inK .u8 a.f54=true∧inK .u8 a.f55=true∧inK .u8 a.f56=true∧inK .u8 a.f57=true∧inK .u8 a.f58=true∧inK .u8 a.f59=true∧inK .u8 a.f60=true∧inK .u8 a.f61=true∧inK .u8 a.f62=true∧inK .u8 a.f63=true
structure Fr where
 f0:Int
 f1:Int
 f2:Int
 f3:Int
 f4:Int
 f5:Int
 f6:Int
 f7:Int
 f8:Int
 f9:Int
 f10:Int
 f11:Int
 f12:Int
 f13:Int
 f14:Int
 f15:Int
 f16:Int
 f17:Int
 f18:Int
 f19:Int
 f20:Int
 f21:Int
 f22:Int
 f23:Int
 f24:Int
 f25:Int
 f26:Int
 f27:Int
 f28:Int
 f29:Int
 f30:Int
 f31:Int
 f32:Int
 f33:Int
 f34:Int
 f35:Int
 f36:Int
 f37:Int
 f38:Int
 f39:Int
 f40:Int
 f41:Int
 f42:Int
 f43:Int
 f44:Int
 f45:Int
 f46:Int
 f47:Int
 f48:Int
 f49:Int
 f50:Int
 f51:Int
 f52:Int
 f53:Int
 f54:Int
 f55:Int
 f56:Int
 f57:Int
 f58:Int
 f59:Int
 f60:Int
 f61:Int
 f62:Int
 f63:Int
theorem Fr.eta (a:Fr):(⟨a.f0,a.f1,a.f2,a.f3,a.f4,a.f5,a.f6,a.f7,a.f8,a.f9,a.f10,a.f11,a.f12,a.f13,a.f14,a.f15,a.f16,a.f17,a.f18,a.f19,a.f20,a.f21,a.f22,a.f23,a.f24,a.f25,a.f26,a.f27,a.f28,a.f29,a.f30,a.f31,a.f32,a.f33,a.f34,a.f35,a.f36,a.f37,a.f38,a.f39,a.f40,a.f41,a.f42,a.f43,a.f44,a.f45,a.f46,a.f47,a.f48,a.f49,a.f50,a.f51,a.f52,a.f53,a.f54,a.f55,a.f56,a.f57,a.f58,a.f59,a.f60,a.f61,a.f62,a.f63⟩:Fr)=a:=rfl
def Fr.ok (a:Fr):Prop:=inK .u8 a.f0=true∧inK .u8 a.f1=true∧inK .u8 a.f2=true∧inK .u8 a.f3=true∧inK .u8 a.f4=true∧inK .u8 a.f5=true∧inK .u8 a.f6=true∧inK .u8 a.f7=true∧inK .u8 a.f8=true∧inK .u8 a.f9=true∧inK .u8 a.f10=true∧inK .u8 a.f11=true∧inK .u8 a.f12=true∧inK .u8 a.f13=true∧inK .u8 a.f14=true∧inK .u8 a.f15=true∧inK .u8 a.f16=true∧inK .u8 a.f17=true∧inK .u8 a.f18=true∧inK .u8 a.f19=true∧inK .u8 a.f20=true∧inK .u8 a.f21=true∧inK .u8 a.f22=true∧inK .u8 a.f23=true∧inK .u8 a.f24=true∧inK .u8 a.f25=true∧inK .u8 a.f26=true∧inK .u8 a.f27=true∧inK .u8 a.f28=true∧inK .u8 a.f29=true∧inK .u8 a.f30=true∧inK .u8 a.f31=true∧inK .u8 a.f32=true∧inK .u8 a.f33=true∧inK .u8 a.f34=true∧inK .u8 a.f35=true∧inK .u8 a.f36=true∧inK .u8 a.f37=true∧inK .u8 a.f38=true∧inK .u8 a.f39=true∧inK .u8 a.f40=true∧inK .u8 a.f41=true∧inK .u8 a.f42=true∧inK .u8 a.f43=true∧inK .u8 a.f44=true∧inK .u8 a.f45=true∧inK .u8 a.f46=true∧inK .u8 a.f47=true∧inK .u8 a.f48=true∧inK .u8 a.f49=true∧inK .u8 a.f50=true∧inK .u8 a.f51=true∧inK .u8 a.f52=true∧inK .u8 a.f53=true∧inK .u8 a.f54=true∧inK .u8 a.f55=true∧inK .u8 a.f56=true∧inK .u8 a.f57=true∧inK .u8 a.f58=true∧inK .u8 a.f59=true∧inK .u8 a.f60=true∧inK .u8 a.f61=true∧inK .u8 a.f62=true∧inK .u8 a.f63=true
set_option linter.defProp false in
def aj:=And.intro Fr.eta (And.intro Kn.eta (And.intro Pi.eta (And.intro Pu.eta (And.intro Rg.eta (And.intro Sc.eta (And.intro Snap.eta (And.intro Sta.eta (And.intro Ty.eta (And.intro Sc.eta_r (And.intro Sc.eta_k (And.intro Sc.eta_2 (Ty.eta_s))))))))))))
def z_Sc:List C:=[.int .u64 (.lit 0),.int .u64 (.lit 0),.int .i64 (.lit 0),.int .i64 (.lit 0),.int .u64 (.lit 0),.int .u64 (.lit 0)]
theorem rU:Tryz.prog.eqGuardType Tryz.prog.depth 48=false:=by kernel_rfl
theorem yG:Tryz.prog.cellsOf 48=6:=by kernel_rfl
theorem yK:Tryz.prog.cellsOf 44=4:=by kernel_rfl
theorem yI:Tryz.prog.cellsOf 46=2:=by kernel_rfl
theorem yN:Tryz.prog.cellsOf 42=1:=by kernel_rfl
theorem adk:Tryz.prog.cellsOf 2=1:=by kernel_rfl
set_option maxRecDepth 100000 in
theorem alZ (vs:List Value) (hv:aB vs z_Sc):Tryz.prog.keyLits 6 48 vs=some (bf vs):=by
 obtain⟨x0,_,rfl,g0,hv⟩:=ah hv
 obtain⟨x1,_,rfl,g1,hv⟩:=ah hv
 obtain⟨x2,_,rfl,g2,hv⟩:=ah hv
 obtain⟨x3,_,rfl,g3,hv⟩:=ah hv
 obtain⟨x4,_,rfl,g4,hv⟩:=ah hv
 obtain⟨x5,_,rfl,g5,hv⟩:=ah hv
 obtain rfl:=aM hv
 simp[Program.keyLits,Tryz.underlying48,Tryz.underlying44,Tryz.underlying46,Tryz.underlying42,Tryz.underlying2,yG,yK,yI,yN,adk,wQ,bf,g0,g1,g2,g3,g4,g5]
 split
 ·simp only[Option.bind_some,Function.comp_apply]
  split
  ·rfl
  ·rename_i h; exact absurd (by decide) h
 ·rename_i h; exact absurd (by decide) h
theorem al7 (vs:List Value) (hv:aB vs z_Sc):(Value.agg vs.toArray).formed Tryz.prog 48=true:=by
 obtain⟨x0,_,rfl,g0,hv⟩:=ah hv
 obtain⟨x1,_,rfl,g1,hv⟩:=ah hv
 obtain⟨x2,_,rfl,g2,hv⟩:=ah hv
 obtain⟨x3,_,rfl,g3,hv⟩:=ah hv
 obtain⟨x4,_,rfl,g4,hv⟩:=ah hv
 obtain⟨x5,_,rfl,g5,hv⟩:=ah hv
 obtain rfl:=aM hv
 kernel_rfl
theorem ac5 (vs us:List Value) (hv:aB vs z_Sc) (hu:aB us z_Sc) (w:World):(Op.equal 48 (.agg vs.toArray) (.agg us.toArray)).run Tryz.prog w=.ok (eqVs vs us) w:=
 fI (by kernel_rfl) al7 6 alZ vs us hv hu w
def z_Ty:List C:=[.int .i8 (.lit 0),.int .u64 (.lit 0),.int .u64 (.lit 0),.int .i64 (.lit 0),.int .i64 (.lit 0),.int .u64 (.lit 0),.int .u64 (.lit 0),.int .i64 (.lit 0),.int .i64 (.lit 0)]
theorem rT:Tryz.prog.eqGuardType Tryz.prog.depth 50=false:=by kernel_rfl
theorem yD:Tryz.prog.cellsOf 50=9:=by kernel_rfl
theorem yQ:Tryz.prog.cellsOf 37=1:=by kernel_rfl
theorem yF:Tryz.prog.cellsOf 48=6:=by kernel_rfl
theorem yJ:Tryz.prog.cellsOf 44=4:=by kernel_rfl
theorem yH:Tryz.prog.cellsOf 46=2:=by kernel_rfl
theorem yM:Tryz.prog.cellsOf 42=1:=by kernel_rfl
theorem adj:Tryz.prog.cellsOf 2=1:=by kernel_rfl
theorem adi:Tryz.prog.cellsOf 3=1:=by kernel_rfl
set_option maxRecDepth 100000 in
theorem alY (vs:List Value) (hv:aB vs z_Ty):Tryz.prog.keyLits 6 50 vs=some (bf vs):=by
 obtain⟨x0,_,rfl,g0,hv⟩:=ah hv
 obtain⟨x1,_,rfl,g1,hv⟩:=ah hv
 obtain⟨x2,_,rfl,g2,hv⟩:=ah hv
 obtain⟨x3,_,rfl,g3,hv⟩:=ah hv
 obtain⟨x4,_,rfl,g4,hv⟩:=ah hv
 obtain⟨x5,_,rfl,g5,hv⟩:=ah hv
 obtain⟨x6,_,rfl,g6,hv⟩:=ah hv
 obtain⟨x7,_,rfl,g7,hv⟩:=ah hv
 obtain⟨x8,_,rfl,g8,hv⟩:=ah hv
 obtain rfl:=aM hv
 simp[Program.keyLits,Tryz.underlying50,Tryz.underlying37,Tryz.underlying48,Tryz.underlying44,Tryz.underlying46,Tryz.underlying42,Tryz.underlying2,Tryz.underlying3,yD,yQ,yF,yJ,yH,yM,adj,adi,wQ,bf,g0,g1,g2,g3,g4,g5,g6,g7,g8]
 repeat (rw[if_pos]; rotate_left; · decide)
 rfl
theorem al6 (vs:List Value) (hv:aB vs z_Ty):(Value.agg vs.toArray).formed Tryz.prog 50=true:=by
 obtain⟨x0,_,rfl,g0,hv⟩:=ah hv
 obtain⟨x1,_,rfl,g1,hv⟩:=ah hv
 obtain⟨x2,_,rfl,g2,hv⟩:=ah hv
 obtain⟨x3,_,rfl,g3,hv⟩:=ah hv
 obtain⟨x4,_,rfl,g4,hv⟩:=ah hv
 obtain⟨x5,_,rfl,g5,hv⟩:=ah hv
 obtain⟨x6,_,rfl,g6,hv⟩:=ah hv
 obtain⟨x7,_,rfl,g7,hv⟩:=ah hv
 obtain⟨x8,_,rfl,g8,hv⟩:=ah hv
 obtain rfl:=aM hv
 kernel_rfl
theorem ac4 (vs us:List Value) (hv:aB vs z_Ty) (hu:aB us z_Ty) (w:World):(Op.equal 50 (.agg vs.toArray) (.agg us.toArray)).run Tryz.prog w=.ok (eqVs vs us) w:=
 fI (by kernel_rfl) al6 6 alY vs us hv hu w
def tys_SdB:List (Nat×TI):=[(2,⟨false,1,[.int .i64 (.lit 0)],[],none,some .i64,false,false,none,8,false,none,false,0⟩),
 (3,⟨false,1,[.int .i64 (.lit 0)],[],none,some .i64,false,false,none,8,false,none,false,0⟩),
 (37,⟨false,1,[.int .i8 (.lit 0)],[],none,some .i8,false,false,none,1,false,none,false,0⟩),
 (42,⟨false,1,[.int .u64 (.lit 0)],[],none,some .u64,false,false,none,8,false,none,false,0⟩),
 (44,⟨true,4,(zN 4 2211),[(0,42),(1,42),(2,2),(3,2)],none,none,false,false,none,32,false,none,false,0⟩),
 (46,⟨true,2,[.int .u64 (.lit 0),.int .u64 (.lit 0)],[(0,42),(1,42)],none,none,false,false,none,16,false,none,false,0⟩),
 (48,⟨true,6,(zN 6 112211),[(0,44),(4,46)],none,none,true,false,none,48,false,none,false,0⟩),
 (50,⟨true,9,(zN 9 221122110),[(0,37),(1,48),(7,3),(8,3)],none,none,true,false,none,72,false,none,false,0⟩),
 (51,⟨true,99,(zN 99 221122110221122110221122110221122110221122110221122110221122110221122110221122110221122110221122110),[],some (11,50),none,false,false,none,792,false,none,false,0⟩),
 (52,⟨true,72,(zN 72 221122110221122110221122110221122110221122110221122110221122110221122110),[],some (8,50),none,false,false,none,576,false,none,false,0⟩),
 (54,⟨true,171,(zN 171 221122110221122110221122110221122110221122110221122110221122110221122110221122110221122110221122110221122110221122110221122110221122110221122110221122110221122110221122110),[(0,51),(99,52)],none,none,false,false,none,1368,false,none,false,0⟩),
 (123,⟨true,4,(zN 4 1111),[],some (4,42),none,false,false,none,32,false,none,false,0⟩)]
set_option maxRecDepth 100000 in
theorem zV:(tys_SdB.all fun p=>ckTI Tryz.prog p.1 p.2)=true:=by kernel_rfl
theorem qy:(tys_SdB.all fun p=>!p.2.eqok||((Nat.beq p.1 48&&aW p.2.zero z_Sc)||(Nat.beq p.1 50&&aW p.2.zero z_Ty)))=true:=by kernel_rfl
theorem zE:(tys_SdB.all fun p=>!p.2.keyok)=true:=by kernel_rfl
theorem eM:∀t i,(t,i)∈tys_SdB→TIok Tryz.prog t i:=by
 intro t i h
 refine bI (cM (f:=ckTI Tryz.prog) zV h) (fun he=> ?_) (fun he=> ?_) (fun he=> ?_)
 ·have h1:=List.all_eq_true.1 qy (t,i) h
  simp only[he,Bool.not_true,Bool.false_or,Bool.or_eq_true,Bool.and_eq_true] at h1
  rcases h1 with h1 | h1
  ·have hs:=h1.2
   obtain rfl:=Nat.eq_of_beq_eq_true h1.1
   exact fun vs us hv hu=>ac5 vs us (ap hs hv) (ap hs hu)
  ·have hs:=h1.2
   obtain rfl:=Nat.eq_of_beq_eq_true h1.1
   exact fun vs us hv hu=>ac4 vs us (ap hs hv) (ap hs hu)
 ·have h1:=List.all_eq_true.1 qy (t,i) h
  simp only[he,Bool.not_true,Bool.false_or,Bool.or_eq_true,Bool.and_eq_true] at h1
  rcases h1 with h1 | h1
  ·have hs:=h1.2
   obtain rfl:=Nat.eq_of_beq_eq_true h1.1
   exact rU
  ·have hs:=h1.2
   obtain rfl:=Nat.eq_of_beq_eq_true h1.1
   exact rT
 ·have h1:=List.all_eq_true.1 zE (t,i) h
  simp[he] at h1
def oZ (key:Nat):Sm:=⟨84,key,[],[.agg kTy],false⟩
def iA:List Dt→List Dt
 | []=>d_Ty (mV) ([])
 | _=>[]
def sT_tscal:Tr:=
(.call 0 (kSc) .nil 0
(.leaf (.cons (.lit 1) (.vs 0 6 (.cons (.lit 0) (.cons (.lit 0) .nil))))))
def vD:Spec:={F:=fun k=>match k with | 0=>em | _=>fun _=>[],pre:=fun k=>match k with | _=>fun _=>True}
set_option maxRecDepth 100000 in
theorem aet:am tys_SdB [lx 0] [] [] [] 200 Tryz.f84 [] [.agg kTy] false [] sT_tscal:=⟨by kernel_rfl,by kernel_rfl,by kernel_rfl⟩
set_option maxRecDepth 100000 in
set_option maxHeartbeats 8000000 in
theorem ad9 (ρ:Env) (g:af ρ 0 []=[]):sT_tscal.asks vD (fun ρ e=>e.D ρ=iA []) ρ fun _ _=>False:=by
 simp only[sT_tscal,vD,d_Ty,kSc,em,iA,Tr.asks,ai,okDs,okD,eqs,E.I,E.B,E.L,E.R,E.D,E.vs,E.gs,E.ins,E.sv,E.tn,E.iv,E.zs,E.pv,Nat.reduceSub,dI,dB,dL,varD,af,S1,Nat.reduceAdd,-eq_self,aj]
 intro e; (try simp only[e,aj,-eq_self]); clear e
 ·rfl
theorem aeK {sp:Spec} {key:Nat} (hF:sp.F key=iA) (hP:sp.pre key=fun _=>True:=by rfl):SmOk Tryz.prog sp (oZ key):=
 an (s:=oZ key) hF hP (by kernel_rfl) eM (smc (tT rfl) sm0) Tryz.func84 fn0 aet (.inl rfl) (fun hp ρ g=>ad9 ρ g)
def oY (key:Nat):Sm:=⟨61,key,[.agg kTy],[.one .bool],false⟩
def oH (t:Ty):List Dt:=[.z (b2i (tok t))]
def gG:List Dt→List Dt
 | [.z x0,.z x1,.z x2,.z x3,.z x4,.z x5,.z x6,.z x7,.z x8]=>oH ⟨x0,x1,x2,x3,x4,x5,x6,x7,x8⟩
 | _=>[]
def sT_ttok:Tr:=
(.br (.eq (.var 0) (.lit 0))
(.leaf (.consb (.and (.eq (.var 0) (.lit 0)) (.and (.eq (.var 1) (.lit 0)) (.and (.eq (.var 2) (.lit 0)) (.and (.eq (.var 3) (.lit 0)) (.and (.eq (.var 4) (.lit 0)) (.and (.eq (.var 5) (.lit 0)) (.and (.eq (.var 6) (.lit 0)) (.and (.eq (.var 7) (.lit 0)) (.and (.eq (.var 8) (.lit 0)) (.tt true)))))))))) .nil))
(.br (.eq (.var 0) (.lit 1))
(.br (.eq (.var 7) (.lit 0))
(.br (.eq (.var 8) (.lit 0))
(.call 0 [.bool] (.vs 1 6 .nil) 9
(.leaf (.consb (.bvar 9) .nil)))
(.leaf (.consb (.tt false) .nil)))
(.leaf (.consb (.tt false) .nil)))
(.br (.eq (.var 0) (.lit 2))
(.br (.eq (.var 1) (.lit 0))
(.br (.eq (.var 2) (.lit 0))
(.br (.eq (.var 3) (.lit 0))
(.br (.eq (.var 4) (.lit 0))
(.br (.eq (.var 5) (.lit 0))
(.br (.eq (.var 6) (.lit 0))
(.br (.lt (.var 8) (.var 7))
(.leaf (.consb (.tt false) .nil))
(.br (.lt (.var 7) (.lit (-1048576)))
(.leaf (.consb (.tt false) .nil))
(.leaf (.consb (.not (.lt (.lit 1048576) (.var 8))) .nil))))
(.leaf (.consb (.tt false) .nil)))
(.leaf (.consb (.tt false) .nil)))
(.leaf (.consb (.tt false) .nil)))
(.leaf (.consb (.tt false) .nil)))
(.leaf (.consb (.tt false) .nil)))
(.leaf (.consb (.tt false) .nil)))
(.br (.eq (.var 0) (.lit 3))
(.br (.eq (.var 1) (.lit 0))
(.br (.eq (.var 2) (.lit 0))
(.br (.eq (.var 3) (.lit 0))
(.br (.eq (.var 4) (.lit 0))
(.br (.eq (.var 5) (.lit 0))
(.br (.eq (.var 6) (.lit 0))
(.br (.lt (.var 8) (.var 7))
(.leaf (.consb (.tt false) .nil))
(.br (.lt (.var 7) (.lit (-1048576)))
(.leaf (.consb (.tt false) .nil))
(.leaf (.consb (.not (.lt (.lit 1048576) (.var 8))) .nil))))
(.leaf (.consb (.tt false) .nil)))
(.leaf (.consb (.tt false) .nil)))
(.leaf (.consb (.tt false) .nil)))
(.leaf (.consb (.tt false) .nil)))
(.leaf (.consb (.tt false) .nil)))
(.leaf (.consb (.tt false) .nil)))
(.leaf (.consb (.tt false) .nil))))))
def abi:Spec:={F:=fun k=>match k with | 0=>ct | _=>fun _=>[],pre:=fun k=>match k with | _=>fun _=>True}
set_option maxRecDepth 100000 in
theorem ahS:am tys_SdB [gB 0] [] [] [] 200 Tryz.f61 [.agg kTy] [.one .bool] false (v_Ty ([])) sT_ttok:=⟨by kernel_rfl,by kernel_rfl,by kernel_rfl⟩
set_option maxRecDepth 100000 in
set_option maxHeartbeats 8000000 in
theorem ahi (t:Ty) (ht:Ty.ok t) (ρ:Env) (g:af ρ 0 (v_Ty ([]))=(d_Ty t ([]))):sT_ttok.asks abi (fun ρ e=>e.D ρ=gG (d_Ty t ([]))) ρ fun _ _=>False:=by
 simp only[d_Ty,v_Ty,af,varD,List.cons.injEq,Dt.z.injEq,Dt.l.injEq,b2i_eq_iff,Nat.reduceAdd,and_true] at g
 simp only[sT_ttok,abi,d_Ty,ct,gv,gG,oH,Tr.asks,ai,okDs,okD,eqs,E.I,E.B,E.L,E.R,E.D,E.vs,E.gs,E.ins,E.sv,E.tn,E.iv,E.zs,E.pv,Nat.reduceSub,dI,dB,dL,varD,af,S1,Nat.reduceAdd,-eq_self,aj,g]
 constructor<;>intro c0
 ·(unfold tok; simp_all [cA,Bool.and_assoc]<;>first | (intros; omega) | (rw[Bool.eq_iff_iff]; simp; done))
 constructor<;>intro c1
 constructor<;>intro c2
 constructor<;>intro c3
 intro e; (try simp only[e,aj,-eq_self]); clear e
 ·(unfold tok; simp_all [cA,Bool.and_assoc]<;>first | (intros; omega) | (rw[Bool.eq_iff_iff]; simp; done))
 ·(unfold tok; simp_all [cA,Bool.and_assoc]<;>first | (intros; omega) | (rw[Bool.eq_iff_iff]; simp; done))
 ·(unfold tok; simp_all [cA,Bool.and_assoc]<;>first | (intros; omega) | (rw[Bool.eq_iff_iff]; simp; done))
 constructor<;>intro c4
 constructor<;>intro c5
 constructor<;>intro c6
 constructor<;>intro c7
 constructor<;>intro c8
 constructor<;>intro c9
 constructor<;>intro c10
 constructor<;>intro c11
 ·(unfold tok; simp_all [cA,Bool.and_assoc]<;>first | (intros; omega) | (rw[Bool.eq_iff_iff]; simp; done))
 constructor<;>intro c12
 ·(unfold tok; simp_all [cA,Bool.and_assoc]<;>first | (intros; omega) | (rw[Bool.eq_iff_iff]; simp; done))
 ·(unfold tok; simp_all [cA,Bool.and_assoc]<;>first | (intros; omega) | (rw[Bool.eq_iff_iff]; simp; done))
 ·(unfold tok; simp_all [cA,Bool.and_assoc]<;>first | (intros; omega) | (rw[Bool.eq_iff_iff]; simp; done))
 ·(unfold tok; simp_all [cA,Bool.and_assoc]<;>first | (intros; omega) | (rw[Bool.eq_iff_iff]; simp; done))
 ·(unfold tok; simp_all [cA,Bool.and_assoc]<;>first | (intros; omega) | (rw[Bool.eq_iff_iff]; simp; done))
 ·(unfold tok; simp_all [cA,Bool.and_assoc]<;>first | (intros; omega) | (rw[Bool.eq_iff_iff]; simp; done))
 ·(unfold tok; simp_all [cA,Bool.and_assoc]<;>first | (intros; omega) | (rw[Bool.eq_iff_iff]; simp; done))
 ·(unfold tok; simp_all [cA,Bool.and_assoc]<;>first | (intros; omega) | (rw[Bool.eq_iff_iff]; simp; done))
 constructor<;>intro c13
 constructor<;>intro c14
 constructor<;>intro c15
 constructor<;>intro c16
 constructor<;>intro c17
 constructor<;>intro c18
 constructor<;>intro c19
 constructor<;>intro c20
 ·(unfold tok; simp_all [cA,Bool.and_assoc]<;>first | (intros; omega) | (rw[Bool.eq_iff_iff]; simp; done))
 constructor<;>intro c21
 ·(unfold tok; simp_all [cA,Bool.and_assoc]<;>first | (intros; omega) | (rw[Bool.eq_iff_iff]; simp; done))
 ·(unfold tok; simp_all [cA,Bool.and_assoc]<;>first | (intros; omega) | (rw[Bool.eq_iff_iff]; simp; done))
 ·(unfold tok; simp_all [cA,Bool.and_assoc]<;>first | (intros; omega) | (rw[Bool.eq_iff_iff]; simp; done))
 ·(unfold tok; simp_all [cA,Bool.and_assoc]<;>first | (intros; omega) | (rw[Bool.eq_iff_iff]; simp; done))
 ·(unfold tok; simp_all [cA,Bool.and_assoc]<;>first | (intros; omega) | (rw[Bool.eq_iff_iff]; simp; done))
 ·(unfold tok; simp_all [cA,Bool.and_assoc]<;>first | (intros; omega) | (rw[Bool.eq_iff_iff]; simp; done))
 ·(unfold tok; simp_all [cA,Bool.and_assoc]<;>first | (intros; omega) | (rw[Bool.eq_iff_iff]; simp; done))
 ·(unfold tok; simp_all [cA,Bool.and_assoc]<;>first | (intros; omega) | (rw[Bool.eq_iff_iff]; simp; done))
 ·(unfold tok; simp_all [cA,Bool.and_assoc]<;>first | (intros; omega) | (rw[Bool.eq_iff_iff]; simp; done))
theorem abP {sp:Spec} {key:Nat} (hF:sp.F key=gG) (hP:sp.pre key=fun _=>True:=by rfl):SmOk Tryz.prog sp (oY key):=
 an (s:=oY key) hF hP (by kernel_rfl) eM (smc (lE rfl) sm0) Tryz.func61 fn0 ahS (.inl rfl) (bz fun q0 gq0=>fun hp ρ g=>ahi q0 gq0 ρ g)
def tG (key:Nat):Sm:=⟨33,key,[.agg kSta],[.one .bool],false⟩
def sZ (s:Sta):List Dt:=[.z (b2i (smay s))]
def jw:List Dt→List Dt:=kg fun s=>fun _=>sZ s
def sT_tmay:Tr:=
(.call 0 [.bool] (.vs 0 9 .nil) 171
(.br (.bvar 171)
(.call 0 [.bool] (.vs 9 9 .nil) 172
(.br (.bvar 172)
(.call 0 [.bool] (.vs 18 9 .nil) 173
(.br (.bvar 173)
(.call 0 [.bool] (.vs 27 9 .nil) 174
(.br (.bvar 174)
(.call 0 [.bool] (.vs 36 9 .nil) 175
(.br (.bvar 175)
(.call 0 [.bool] (.vs 45 9 .nil) 176
(.br (.bvar 176)
(.call 0 [.bool] (.vs 54 9 .nil) 177
(.br (.bvar 177)
(.call 0 [.bool] (.vs 63 9 .nil) 178
(.br (.bvar 178)
(.call 0 [.bool] (.vs 72 9 .nil) 179
(.br (.bvar 179)
(.call 0 [.bool] (.vs 81 9 .nil) 180
(.br (.bvar 180)
(.call 0 [.bool] (.vs 90 9 .nil) 181
(.br (.bvar 181)
(.br (.eq (.var 99) (.lit 0))
(.leaf (.consb (.tt false) .nil))
(.call 0 [.bool] (.vs 99 9 .nil) 182
(.br (.bvar 182)
(.br (.eq (.var 108) (.lit 0))
(.leaf (.consb (.tt false) .nil))
(.call 0 [.bool] (.vs 108 9 .nil) 183
(.br (.bvar 183)
(.br (.eq (.var 117) (.lit 0))
(.leaf (.consb (.tt false) .nil))
(.call 0 [.bool] (.vs 117 9 .nil) 184
(.br (.bvar 184)
(.br (.eq (.var 126) (.lit 0))
(.leaf (.consb (.tt false) .nil))
(.call 0 [.bool] (.vs 126 9 .nil) 185
(.br (.bvar 185)
(.br (.eq (.var 135) (.lit 0))
(.leaf (.consb (.tt false) .nil))
(.call 0 [.bool] (.vs 135 9 .nil) 186
(.br (.bvar 186)
(.br (.eq (.var 144) (.lit 0))
(.leaf (.consb (.tt false) .nil))
(.call 0 [.bool] (.vs 144 9 .nil) 187
(.br (.bvar 187)
(.br (.eq (.var 153) (.lit 0))
(.leaf (.consb (.tt false) .nil))
(.call 0 [.bool] (.vs 153 9 .nil) 188
(.br (.bvar 188)
(.br (.eq (.var 162) (.lit 0))
(.leaf (.consb (.tt false) .nil))
(.call 0 [.bool] (.vs 162 9 .nil) 189
(.br (.bvar 189)
(.leaf (.consb (.tt true) .nil))
(.leaf (.consb (.tt false) .nil)))))
(.leaf (.consb (.tt false) .nil)))))
(.leaf (.consb (.tt false) .nil)))))
(.leaf (.consb (.tt false) .nil)))))
(.leaf (.consb (.tt false) .nil)))))
(.leaf (.consb (.tt false) .nil)))))
(.leaf (.consb (.tt false) .nil)))))
(.leaf (.consb (.tt false) .nil)))))
(.leaf (.consb (.tt false) .nil))))
(.leaf (.consb (.tt false) .nil))))
(.leaf (.consb (.tt false) .nil))))
(.leaf (.consb (.tt false) .nil))))
(.leaf (.consb (.tt false) .nil))))
(.leaf (.consb (.tt false) .nil))))
(.leaf (.consb (.tt false) .nil))))
(.leaf (.consb (.tt false) .nil))))
(.leaf (.consb (.tt false) .nil))))
(.leaf (.consb (.tt false) .nil))))
(.leaf (.consb (.tt false) .nil))))
def abj:Spec:={F:=fun k=>match k with | 0=>gG | _=>fun _=>[],pre:=fun k=>match k with | _=>fun _=>True}
set_option maxRecDepth 100000 in
theorem ahT:am tys_SdB [oY 0] [] [] [] 200 Tryz.f33 [.agg kSta] [.one .bool] false (hZ ([])) sT_tmay:=⟨by kernel_rfl,by kernel_rfl,by kernel_rfl⟩
set_option maxRecDepth 100000 in
set_option maxHeartbeats 8000000 in
theorem ahj (s:Sta) (hs:Sta.ok s) (ρ:Env) (g:af ρ 0 (hZ ([]))=(cg s ([]))):sT_tmay.asks abj (fun ρ e=>e.D ρ=jw (cg s ([]))) ρ fun _ _=>False:=by
 simp only[jw,px,pw,rdZ,rdB]
 simp only[cg,d_Ty,hZ,v_Ty,af,varD,List.cons.injEq,Dt.z.injEq,Dt.l.injEq,b2i_eq_iff,Nat.reduceAdd,and_true] at g
 simp(maxSteps:=10000000) only[sT_tmay,abj,cg,d_Ty,kg,de,gG,oH,jw,sZ,Tr.asks,ai,okDs,okD,eqs,E.I,E.B,E.L,E.R,E.D,E.vs,E.gs,E.ins,E.sv,E.tn,E.iv,E.zs,E.pv,Nat.reduceSub,dI,dB,dL,varD,af,S1,Nat.reduceAdd,-eq_self,aj,g]
 intro e; (try simp only[e,aj,-eq_self]); clear e
 constructor<;>intro c0
 intro e; (try simp only[e,aj,-eq_self]); clear e
 constructor<;>intro c1
 intro e; (try simp only[e,aj,-eq_self]); clear e
 constructor<;>intro c2
 intro e; (try simp only[e,aj,-eq_self]); clear e
 constructor<;>intro c3
 intro e; (try simp only[e,aj,-eq_self]); clear e
 constructor<;>intro c4
 intro e; (try simp only[e,aj,-eq_self]); clear e
 constructor<;>intro c5
 intro e; (try simp only[e,aj,-eq_self]); clear e
 constructor<;>intro c6
 intro e; (try simp only[e,aj,-eq_self]); clear e
 constructor<;>intro c7
 intro e; (try simp only[e,aj,-eq_self]); clear e
 constructor<;>intro c8
 intro e; (try simp only[e,aj,-eq_self]); clear e
 constructor<;>intro c9
 intro e; (try simp only[e,aj,-eq_self]); clear e
 constructor<;>intro c10
 constructor<;>intro c11
 ·(unfold smay tset; simp_all)
 intro e; (try simp only[e,aj,-eq_self]); clear e
 constructor<;>intro c12
 constructor<;>intro c13
 ·(unfold smay tset; simp_all)
 intro e; (try simp only[e,aj,-eq_self]); clear e
 constructor<;>intro c14
 constructor<;>intro c15
 ·(unfold smay tset; simp_all)
 intro e; (try simp only[e,aj,-eq_self]); clear e
 constructor<;>intro c16
 constructor<;>intro c17
 ·(unfold smay tset; simp_all)
 intro e; (try simp only[e,aj,-eq_self]); clear e
 constructor<;>intro c18
 constructor<;>intro c19
 ·(unfold smay tset; simp_all)
 intro e; (try simp only[e,aj,-eq_self]); clear e
 constructor<;>intro c20
 constructor<;>intro c21
 ·(unfold smay tset; simp_all)
 intro e; (try simp only[e,aj,-eq_self]); clear e
 constructor<;>intro c22
 constructor<;>intro c23
 ·(unfold smay tset; simp_all)
 intro e; (try simp only[e,aj,-eq_self]); clear e
 constructor<;>intro c24
 constructor<;>intro c25
 ·(unfold smay tset; simp_all)
 intro e; (try simp only[e,aj,-eq_self]); clear e
 constructor<;>intro c26
 ·(unfold smay tset; simp_all)
 ·(unfold smay tset; simp_all)
 ·(unfold smay tset; simp_all)
 ·(unfold smay tset; simp_all)
 ·(unfold smay tset; simp_all)
 ·(unfold smay tset; simp_all)
 ·(unfold smay tset; simp_all)
 ·(unfold smay tset; simp_all)
 ·(unfold smay tset; simp_all)
 ·(unfold smay tset; simp_all)
 ·(unfold smay tset; simp_all)
 ·(unfold smay tset; simp_all)
 ·(unfold smay tset; simp_all)
 ·(unfold smay tset; simp_all)
 ·(unfold smay tset; simp_all)
 ·(unfold smay tset; simp_all)
 ·(unfold smay tset; simp_all)
 ·(unfold smay tset; simp_all)
 ·(unfold smay tset; simp_all)
 ·(unfold smay tset; simp_all)
theorem ail {sp:Spec} {key:Nat} (hF:sp.F key=jw) (hP:sp.pre key=fun _=>True:=by rfl):SmOk Tryz.prog sp (tG key):=
 an (s:=tG key) hF hP (by kernel_rfl) eM (smc (abP rfl) sm0) Tryz.func33 fn0 ahT (.inl rfl) (ux fun q0 gq0=>fun hp ρ g=>ahj q0 gq0 ρ g)
def o8 (key:Nat):Sm:=⟨24,key,[.agg kTy,.one (.int .u64)],[.one .bool],false⟩
def oI (t:Ty) (v:Int):List Dt:=[.z (b2i (ay t v))]
def iB:List Dt→List Dt
 | [.z x0,.z x1,.z x2,.z x3,.z x4,.z x5,.z x6,.z x7,.z x8,.z x9]=>oI ⟨x0,x1,x2,x3,x4,x5,x6,x7,x8⟩ x9
 | _=>[]
def sT_thold:Tr:=
(.call 0 [.bool] (.vs 0 9 .nil) 10
(.br (.bvar 10)
(.br (.eq (.var 0) (.lit 0))
(.leaf (.consb (.tt true) .nil))
(.br (.eq (.var 0) (.lit 1))
(.call 1 [.bool] (.vs 1 6 (.cons (.var 9) .nil)) 11
(.leaf (.consb (.bvar 11) .nil)))
(.br (.eq (.var 0) (.lit 2))
(.br (.lt (.conv .i64 (.bin .sub .u64 (.var 9) (.lit 2097152))) (.var 7))
(.leaf (.consb (.tt false) .nil))
(.leaf (.consb (.not (.lt (.var 8) (.conv .i64 (.bin .sub .u64 (.var 9) (.lit 2097152))))) .nil)))
(.br (.eq (.var 0) (.lit 3))
(.br (.lt (.conv .i64 (.bin .sub .u64 (.var 9) (.lit 3145728))) (.var 7))
(.leaf (.consb (.tt false) .nil))
(.leaf (.consb (.not (.lt (.var 8) (.conv .i64 (.bin .sub .u64 (.var 9) (.lit 3145728))))) .nil)))
.panic))))
(.leaf (.consb (.tt false) .nil))))
def vE:Spec:={F:=fun k=>match k with | 0=>gG | 1=>lJ | _=>fun _=>[],pre:=fun k=>match k with | _=>fun _=>True}
set_option maxRecDepth 100000 in
theorem aeu:am tys_SdB [oY 0,tA 1] [] [] [] 200 Tryz.f24 [.agg kTy,.one (.int .u64)] [.one .bool] false (v_Ty (.int .u64::([]))) sT_thold:=⟨by kernel_rfl,by kernel_rfl,by kernel_rfl⟩
set_option maxRecDepth 100000 in
set_option maxHeartbeats 8000000 in
theorem aea (t:Ty) (ht:Ty.ok t) (v:Int) (hv:inK .u64 v=true) (ρ:Env) (g:af ρ 0 (v_Ty (.int .u64::([])))=(d_Ty t (.z v::([])))):sT_thold.asks vE (fun ρ e=>e.D ρ=iB (d_Ty t (.z v::([])))) ρ fun _ _=>False:=by
 simp only[d_Ty,v_Ty,af,varD,List.cons.injEq,Dt.z.injEq,Dt.l.injEq,b2i_eq_iff,Nat.reduceAdd,and_true] at g
 simp only[sT_thold,vE,d_Ty,gG,lJ,oH,sU,iB,oI,Tr.asks,ai,okDs,okD,eqs,E.I,E.B,E.L,E.R,E.D,E.vs,E.gs,E.ins,E.sv,E.tn,E.iv,E.zs,E.pv,Nat.reduceSub,dI,dB,dL,varD,af,S1,Nat.reduceAdd,-eq_self,aj,g]
 intro e; (try simp only[e,aj,-eq_self]); clear e
 constructor<;>intro c0
 constructor<;>intro c1
 ·rw[agR c0 (eqz c1)]; try rfl
 constructor<;>intro c2
 intro e; (try simp only[e,aj,-eq_self]); clear e
 ·rw[ou c0 (eqz c2)]; try rfl
 constructor<;>intro c3
 constructor<;>intro c4
 ·simp only[opI] at c4 ⊢; rw[aad c0 (eqz c3),acB c4]; try rfl
 ·simp only[opI] at c4 ⊢; rw[aad c0 (eqz c3),wM c4]; try rfl
 constructor<;>intro c5
 constructor<;>intro c6
 ·simp only[opI] at c6 ⊢; rw[aac c0 (eqz c5),acB c6]; try rfl
 ·simp only[opI] at c6 ⊢; rw[aac c0 (eqz c5),wM c6]; try rfl
 ·exact absurd (qD c0) (by simp_all)
 ·rw[adM c0]
theorem aeL {sp:Spec} {key:Nat} (hF:sp.F key=iB) (hP:sp.pre key=fun _=>True:=by rfl):SmOk Tryz.prog sp (o8 key):=
 an (s:=o8 key) hF hP (by kernel_rfl) eM (smc (abP rfl) (smc (aif rfl) sm0)) Tryz.func24 fn0 aeu (.inl rfl) (bz fun q0 gq0=>fun x9 gx9 hp ρ g=>aea q0 gq0 x9 gx9 ρ g)
def eP (key:Nat):Sm:=⟨32,key,[],[.agg kSta],false⟩
def bZ:List Dt→List Dt
 | []=>cg (ajS) ([])
 | _=>[]
def sT_tfirst:Tr:=
(.call 0 (kSc) (.cons (.lit 0) .nil) 0
(.leaf (.zs [0,0,0,0,0,0,0,0,0,2,0,0,0,0,0,0,0,0,0,0,0,0,0,0,0,0,0,0,0,0,0,0,0,0,0,0,0,0,0,0,0,0,0,0,0,0,0,0,0,0,0,0,0,0,0,0,0,0,0,0,0,0,0,0,0,0,0,0,0,0,0,0,0,0,0,0,0,0,0,0,0,0,0,0,0,0,0,0,0,0,3,0,0,0,0,0,0,64,64,1] (.vs 0 6 (.zs [0,0,1] (.vs 0 6 (.zs [0,0,1] (.vs 0 6 (.zs [0,0,1] (.vs 0 6 (.zs [0,0,1] (.vs 0 6 (.zs [0,0,1] (.vs 0 6 (.zs [0,0,1] (.vs 0 6 (.zs [0,0,1] (.vs 0 6 (.cons (.lit 0) (.cons (.lit 0) .nil))))))))))))))))))))
def qW:Spec:={F:=fun k=>match k with | 0=>bo | _=>fun _=>[],pre:=fun k=>match k with | _=>fun _=>True}
set_option maxRecDepth 100000 in
theorem aa0:am tys_SdB [eh 0] [] [] [] 200 Tryz.f32 [] [.agg kSta] false [] sT_tfirst:=⟨by kernel_rfl,by kernel_rfl,by kernel_rfl⟩
set_option maxRecDepth 100000 in
set_option maxHeartbeats 8000000 in
theorem aaL (ρ:Env) (g:af ρ 0 []=[]):sT_tfirst.asks qW (fun ρ e=>e.D ρ=bZ []) ρ fun _ _=>False:=by
 simp only[sT_tfirst,qW,cg,d_Ty,kSc,bo,ef,bZ,Tr.asks,ai,okDs,okD,eqs,E.I,E.B,E.L,E.R,E.D,E.vs,E.gs,E.ins,E.sv,E.tn,E.iv,E.zs,E.pv,Nat.reduceSub,dI,dB,dL,varD,af,S1,Nat.reduceAdd,-eq_self,aj]
 intro e; (try simp only[e,aj,-eq_self]); clear e
 ·rfl
theorem lF {sp:Spec} {key:Nat} (hF:sp.F key=bZ) (hP:sp.pre key=fun _=>True:=by rfl):SmOk Tryz.prog sp (eP key):=
 an (s:=eP key) hF hP (by kernel_rfl) eM (smc (gE rfl) sm0) Tryz.func32 fn0 aa0 (.inl rfl) (fun hp ρ g=>aaL ρ g)
end Go.Proofs.YtfkhblmeioiciaaGreatDoor
