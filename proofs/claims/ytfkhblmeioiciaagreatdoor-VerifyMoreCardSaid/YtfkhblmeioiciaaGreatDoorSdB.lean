import Derived.Test.YtfkhblmeioiciaaGreatDoorSdW
import Derived.Test.YtfkhblmeioiciaaGreatDoorVaC
import Derived.Test.YtfkhblmeioiciaaGreatDoorProg
import Derived.Laws.Externs
set_option maxRecDepth 100000
set_option maxHeartbeats 8000000
set_option linter.defProp false
set_option linter.unusedVariables false
set_option linter.unusedSimpArgs false
namespace Go.Proofs.YtfkhblmeioiciaaGreatDoor
open Go.RowKit Go.ChangeShapes Go.WideShapes
def rdZ (k:Int->List Dt->List Dt):List Dt->List Dt
 | .z x::r=>k x r
 | _=>[]
def rdB (k:Bool->List Dt->List Dt):List Dt->List Dt
 | .z x::r=>k (x==1) r
 | _=>[]
theorem Ty.eta (a:Ty):(⟨a.k,a.ul,a.uh,a.sl,a.sh,a.v,a.m,a.lo,a.hi⟩:Ty)=a:=rfl
def cH (k:Ty->List Dt->List Dt):List Dt->List Dt
 | .z z0::.z z1::.z z2::.z z3::.z z4::.z z5::.z z6::.z z7::.z z8::r=>k ⟨z0,z1,z2,z3,z4,z5,z6,z7,z8⟩ r
 | _=>[]
def Ty.ok (a:Ty):Prop:=inK .i8 a.k=true/\inK .u64 a.ul=true/\inK .u64 a.uh=true/\inK .i64 a.sl=true/\inK .i64 a.sh=true/\inK .u64 a.v=true/\inK .u64 a.m=true/\inK .i64 a.lo=true/\inK .i64 a.hi=true
def kTy:List CK:=[.int .i8,.int .u64,.int .u64,.int .i64,.int .i64,.int .u64,.int .u64,.int .i64,.int .i64]
def v_Ty (t:List VK):List VK:=.int .i8::.int .u64::.int .u64::.int .i64::.int .i64::.int .u64::.int .u64::.int .i64::.int .i64::t
def d_Ty (a:Ty) (t:List Dt):List Dt:=.z a.k::.z a.ul::.z a.uh::.z a.sl::.z a.sh::.z a.v::.z a.m::.z a.lo::.z a.hi::t
theorem bj {l:List VK} {p:List Dt->Prop} (h:∀a:Ty,Ty.ok a->eK l fun r=>p (d_Ty a r)):eK (v_Ty l) p:=
 fun x0 gx0 x1 gx1 x2 gx2 x3 gx3 x4 gx4 x5 gx5 x6 gx6 x7 gx7 x8 gx8=>h ⟨x0,x1,x2,x3,x4,x5,x6,x7,x8⟩ ⟨gx0,gx1,gx2,gx3,gx4,gx5,gx6,gx7,gx8⟩
theorem fC (k:Ty->List Dt->List Dt) (a:Ty) (t:List Dt):cH k (d_Ty a t)=k a t:=rfl
theorem Sta.eta (a:Sta):(⟨a.r0,a.r1,a.r2,a.r3,a.r4,a.r5,a.r6,a.r7,a.r8,a.r9,a.r10,a.s0,a.s1,a.s2,a.s3,a.s4,a.s5,a.s6,a.s7⟩:Sta)=a:=rfl
def cg (k:Sta->List Dt->List Dt):List Dt->List Dt:=cH fun r0=>cH fun r1=>cH fun r2=>cH fun r3=>cH fun r4=>cH fun r5=>cH fun r6=>cH fun r7=>cH fun r8=>cH fun r9=>cH fun r10=>cH fun s0=>cH fun s1=>cH fun s2=>cH fun s3=>cH fun s4=>cH fun s5=>cH fun s6=>cH fun s7=>fun r=>k ⟨r0,r1,r2,r3,r4,r5,r6,r7,r8,r9,r10,s0,s1,s2,s3,s4,s5,s6,s7⟩ r
def Sta.ok (a:Sta):Prop:=Ty.ok a.r0/\Ty.ok a.r1/\Ty.ok a.r2/\Ty.ok a.r3/\Ty.ok a.r4/\Ty.ok a.r5/\Ty.ok a.r6/\Ty.ok a.r7/\Ty.ok a.r8/\Ty.ok a.r9/\Ty.ok a.r10/\Ty.ok a.s0/\Ty.ok a.s1/\Ty.ok a.s2/\Ty.ok a.s3/\Ty.ok a.s4/\Ty.ok a.s5/\Ty.ok a.s6/\Ty.ok a.s7
def kSta:List CK:=[.int .i8,.int .u64,.int .u64,.int .i64,.int .i64,.int .u64,.int .u64,.int .i64,.int .i64,.int .i8,.int .u64,.int .u64,.int .i64,.int .i64,.int .u64,.int .u64,.int .i64,.int .i64,.int .i8,.int .u64,.int .u64,.int .i64,.int .i64,.int .u64,.int .u64,.int .i64,.int .i64,.int .i8,.int .u64,.int .u64,.int .i64,.int .i64,.int .u64,.int .u64,.int .i64,.int .i64,.int .i8,.int .u64,.int .u64,.int .i64,.int .i64,.int .u64,.int .u64,.int .i64,.int .i64,.int .i8,.int .u64,.int .u64,.int .i64,.int .i64,.int .u64,.int .u64,.int .i64,.int .i64,.int .i8,.int .u64,.int .u64,.int .i64,.int .i64,.int .u64,.int .u64,.int .i64,.int .i64,.int .i8,.int .u64,.int .u64,.int .i64,.int .i64,.int .u64,.int .u64,.int .i64,.int .i64,.int .i8,.int .u64,.int .u64,.int .i64,.int .i64,.int .u64,.int .u64,.int .i64,.int .i64,.int .i8,.int .u64,.int .u64,.int .i64,.int .i64,.int .u64,.int .u64,.int .i64,.int .i64,.int .i8,.int .u64,.int .u64,.int .i64,.int .i64,.int .u64,.int .u64,.int .i64,.int .i64,.int .i8,.int .u64,.int .u64,.int .i64,.int .i64,.int .u64,.int .u64,.int .i64,.int .i64,.int .i8,.int .u64,.int .u64,.int .i64,.int .i64,.int .u64,.int .u64,.int .i64,.int .i64,.int .i8,.int .u64,.int .u64,.int .i64,.int .i64,.int .u64,.int .u64,.int .i64,.int .i64,.int .i8,.int .u64,.int .u64,.int .i64,.int .i64,.int .u64,.int .u64,.int .i64,.int .i64,.int .i8,.int .u64,.int .u64,.int .i64,.int .i64,.int .u64,.int .u64,.int .i64,.int .i64,.int .i8,.int .u64,.int .u64,.int .i64,.int .i64,.int .u64,.int .u64,.int .i64,.int .i64,.int .i8,.int .u64,.int .u64,.int .i64,.int .i64,.int .u64,.int .u64,.int .i64,.int .i64,.int .i8,.int .u64,.int .u64,.int .i64,.int .i64,.int .u64,.int .u64,.int .i64,.int .i64]
def bY (t:List VK):List VK:=v_Ty (v_Ty (v_Ty (v_Ty (v_Ty (v_Ty (v_Ty (v_Ty (v_Ty (v_Ty (v_Ty (v_Ty (v_Ty (v_Ty (v_Ty (v_Ty (v_Ty (v_Ty (v_Ty (t)))))))))))))))))))
def ax (a:Sta) (t:List Dt):List Dt:=d_Ty a.r0 (d_Ty a.r1 (d_Ty a.r2 (d_Ty a.r3 (d_Ty a.r4 (d_Ty a.r5 (d_Ty a.r6 (d_Ty a.r7 (d_Ty a.r8 (d_Ty a.r9 (d_Ty a.r10 (d_Ty a.s0 (d_Ty a.s1 (d_Ty a.s2 (d_Ty a.s3 (d_Ty a.s4 (d_Ty a.s5 (d_Ty a.s6 (d_Ty a.s7 (t)))))))))))))))))))
theorem dq {l:List VK} {p:List Dt->Prop} (h:∀a:Sta,Sta.ok a->eK l fun r=>p (ax a r)):eK (bY l) p:=
 bj fun r0 hr0=>bj fun r1 hr1=>bj fun r2 hr2=>bj fun r3 hr3=>bj fun r4 hr4=>bj fun r5 hr5=>bj fun r6 hr6=>bj fun r7 hr7=>bj fun r8 hr8=>bj fun r9 hr9=>bj fun r10 hr10=>bj fun s0 hs0=>bj fun s1 hs1=>bj fun s2 hs2=>bj fun s3 hs3=>bj fun s4 hs4=>bj fun s5 hs5=>bj fun s6 hs6=>bj fun s7 hs7=>h ⟨r0,r1,r2,r3,r4,r5,r6,r7,r8,r9,r10,s0,s1,s2,s3,s4,s5,s6,s7⟩ ⟨hr0,hr1,hr2,hr3,hr4,hr5,hr6,hr7,hr8,hr9,hr10,hs0,hs1,hs2,hs3,hs4,hs5,hs6,hs7⟩
theorem bP (k:Sta->List Dt->List Dt) (a:Sta) (t:List Dt):cg k (ax a t)=k a t:=by
 simp only[cg,ax,fC]
theorem Snap.eta (a:Snap):(⟨a.r0,a.r1,a.r2,a.r3,a.r4,a.r5,a.r6,a.r7,a.r8,a.r9,a.r10,a.set,a.f0,a.f1,a.f2,a.f3,a.f4,a.f5,a.f6,a.f7,a.f8,a.f9,a.f10,a.f11,a.f12,a.f13,a.f14,a.f15,a.f16,a.f17,a.f18,a.f19,a.f20,a.f21,a.f22,a.f23,a.f24,a.f25,a.f26,a.f27,a.f28,a.f29,a.f30,a.f31,a.f32,a.f33,a.f34,a.f35,a.f36,a.f37,a.f38,a.f39,a.f40,a.f41,a.f42,a.f43,a.f44,a.f45,a.f46,a.f47,a.f48,a.f49,a.f50,a.f51,a.f52,a.f53,a.f54,a.f55,a.f56,a.f57,a.f58,a.f59,a.f60,a.f61,a.f62,a.f63⟩:Snap)=a:=rfl
def Snap.ok (a:Snap):Prop:=inK .u64 a.r0=true/\inK .u64 a.r1=true/\inK .u64 a.r2=true/\inK .u64 a.r3=true/\inK .u64 a.r4=true/\inK .u64 a.r5=true/\inK .u64 a.r6=true/\inK .u64 a.r7=true/\inK .u64 a.r8=true/\inK .u64 a.r9=true/\inK .u64 a.r10=true/\inK .i64 a.set=true/\inK .u8 a.f0=true/\inK .u8 a.f1=true/\inK .u8 a.f2=true/\inK .u8 a.f3=true/\inK .u8 a.f4=true/\inK .u8 a.f5=true/\inK .u8 a.f6=true/\inK .u8 a.f7=true/\inK .u8 a.f8=true/\inK .u8 a.f9=true/\inK .u8 a.f10=true/\inK .u8 a.f11=true/\inK .u8 a.f12=true/\inK .u8 a.f13=true/\inK .u8 a.f14=true/\inK .u8 a.f15=true/\inK .u8 a.f16=true/\inK .u8 a.f17=true/\inK .u8 a.f18=true/\inK .u8 a.f19=true/\inK .u8 a.f20=true/\inK .u8 a.f21=true/\inK .u8 a.f22=true/\inK .u8 a.f23=true/\inK .u8 a.f24=true/\inK .u8 a.f25=true/\inK .u8 a.f26=true/\inK .u8 a.f27=true/\inK .u8 a.f28=true/\inK .u8 a.f29=true/\inK .u8 a.f30=true/\inK .u8 a.f31=true/\inK .u8 a.f32=true/\inK .u8 a.f33=true/\inK .u8 a.f34=true/\inK .u8 a.f35=true/\inK .u8 a.f36=true/\inK .u8 a.f37=true/\inK .u8 a.f38=true/\inK .u8 a.f39=true/\inK .u8 a.f40=true/\inK .u8 a.f41=true/\inK .u8 a.f42=true/\inK .u8 a.f43=true/\inK .u8 a.f44=true/\inK .u8 a.f45=true/\inK .u8 a.f46=true/\inK .u8 a.f47=true/\inK .u8 a.f48=true/\inK .u8 a.f49=true/\inK .u8 a.f50=true/\inK .u8 a.f51=true/\inK .u8 a.f52=true/\inK .u8 a.f53=true/\inK .u8 a.f54=true/\inK .u8 a.f55=true/\inK .u8 a.f56=true/\inK .u8 a.f57=true/\inK .u8 a.f58=true/\inK .u8 a.f59=true/\inK .u8 a.f60=true/\inK .u8 a.f61=true/\inK .u8 a.f62=true/\inK .u8 a.f63=true
def ao8 (t:List VK):List VK:=.int .u64::.int .u64::.int .u64::.int .u64::.int .u64::.int .u64::.int .u64::.int .u64::.int .u64::.int .u64::.int .u64::.int .i64::.int .u8::.int .u8::.int .u8::.int .u8::.int .u8::.int .u8::.int .u8::.int .u8::.int .u8::.int .u8::.int .u8::.int .u8::.int .u8::.int .u8::.int .u8::.int .u8::.int .u8::.int .u8::.int .u8::.int .u8::.int .u8::.int .u8::.int .u8::.int .u8::.int .u8::.int .u8::.int .u8::.int .u8::.int .u8::.int .u8::.int .u8::.int .u8::.int .u8::.int .u8::.int .u8::.int .u8::.int .u8::.int .u8::.int .u8::.int .u8::.int .u8::.int .u8::.int .u8::.int .u8::.int .u8::.int .u8::.int .u8::.int .u8::.int .u8::.int .u8::.int .u8::.int .u8::.int .u8::.int .u8::.int .u8::.int .u8::.int .u8::.int .u8::.int .u8::.int .u8::.int .u8::.int .u8::.int .u8::.int .u8::t
def aq8 (a:Snap) (t:List Dt):List Dt:=.z a.r0::.z a.r1::.z a.r2::.z a.r3::.z a.r4::.z a.r5::.z a.r6::.z a.r7::.z a.r8::.z a.r9::.z a.r10::.z a.set::.z a.f0::.z a.f1::.z a.f2::.z a.f3::.z a.f4::.z a.f5::.z a.f6::.z a.f7::.z a.f8::.z a.f9::.z a.f10::.z a.f11::.z a.f12::.z a.f13::.z a.f14::.z a.f15::.z a.f16::.z a.f17::.z a.f18::.z a.f19::.z a.f20::.z a.f21::.z a.f22::.z a.f23::.z a.f24::.z a.f25::.z a.f26::.z a.f27::.z a.f28::.z a.f29::.z a.f30::.z a.f31::.z a.f32::.z a.f33::.z a.f34::.z a.f35::.z a.f36::.z a.f37::.z a.f38::.z a.f39::.z a.f40::.z a.f41::.z a.f42::.z a.f43::.z a.f44::.z a.f45::.z a.f46::.z a.f47::.z a.f48::.z a.f49::.z a.f50::.z a.f51::.z a.f52::.z a.f53::.z a.f54::.z a.f55::.z a.f56::.z a.f57::.z a.f58::.z a.f59::.z a.f60::.z a.f61::.z a.f62::.z a.f63::t
structure Fr where
 f0:Int
 f1:Int
 f2:Int
 f3:Int
 f4:Int
 f5:Int
 f6:Int
 f7:Int
 f8:Int
 f9:Int
 f10:Int
 f11:Int
 f12:Int
 f13:Int
 f14:Int
 f15:Int
 f16:Int
 f17:Int
 f18:Int
 f19:Int
 f20:Int
 f21:Int
 f22:Int
 f23:Int
 f24:Int
 f25:Int
 f26:Int
 f27:Int
 f28:Int
 f29:Int
 f30:Int
 f31:Int
 f32:Int
 f33:Int
 f34:Int
 f35:Int
 f36:Int
 f37:Int
 f38:Int
 f39:Int
 f40:Int
 f41:Int
 f42:Int
 f43:Int
 f44:Int
 f45:Int
 f46:Int
 f47:Int
 f48:Int
 f49:Int
 f50:Int
 f51:Int
 f52:Int
 f53:Int
 f54:Int
 f55:Int
 f56:Int
 f57:Int
 f58:Int
 f59:Int
 f60:Int
 f61:Int
 f62:Int
 f63:Int
theorem Fr.eta (a:Fr):(⟨a.f0,a.f1,a.f2,a.f3,a.f4,a.f5,a.f6,a.f7,a.f8,a.f9,a.f10,a.f11,a.f12,a.f13,a.f14,a.f15,a.f16,a.f17,a.f18,a.f19,a.f20,a.f21,a.f22,a.f23,a.f24,a.f25,a.f26,a.f27,a.f28,a.f29,a.f30,a.f31,a.f32,a.f33,a.f34,a.f35,a.f36,a.f37,a.f38,a.f39,a.f40,a.f41,a.f42,a.f43,a.f44,a.f45,a.f46,a.f47,a.f48,a.f49,a.f50,a.f51,a.f52,a.f53,a.f54,a.f55,a.f56,a.f57,a.f58,a.f59,a.f60,a.f61,a.f62,a.f63⟩:Fr)=a:=rfl
def Fr.ok (a:Fr):Prop:=inK .u8 a.f0=true/\inK .u8 a.f1=true/\inK .u8 a.f2=true/\inK .u8 a.f3=true/\inK .u8 a.f4=true/\inK .u8 a.f5=true/\inK .u8 a.f6=true/\inK .u8 a.f7=true/\inK .u8 a.f8=true/\inK .u8 a.f9=true/\inK .u8 a.f10=true/\inK .u8 a.f11=true/\inK .u8 a.f12=true/\inK .u8 a.f13=true/\inK .u8 a.f14=true/\inK .u8 a.f15=true/\inK .u8 a.f16=true/\inK .u8 a.f17=true/\inK .u8 a.f18=true/\inK .u8 a.f19=true/\inK .u8 a.f20=true/\inK .u8 a.f21=true/\inK .u8 a.f22=true/\inK .u8 a.f23=true/\inK .u8 a.f24=true/\inK .u8 a.f25=true/\inK .u8 a.f26=true/\inK .u8 a.f27=true/\inK .u8 a.f28=true/\inK .u8 a.f29=true/\inK .u8 a.f30=true/\inK .u8 a.f31=true/\inK .u8 a.f32=true/\inK .u8 a.f33=true/\inK .u8 a.f34=true/\inK .u8 a.f35=true/\inK .u8 a.f36=true/\inK .u8 a.f37=true/\inK .u8 a.f38=true/\inK .u8 a.f39=true/\inK .u8 a.f40=true/\inK .u8 a.f41=true/\inK .u8 a.f42=true/\inK .u8 a.f43=true/\inK .u8 a.f44=true/\inK .u8 a.f45=true/\inK .u8 a.f46=true/\inK .u8 a.f47=true/\inK .u8 a.f48=true/\inK .u8 a.f49=true/\inK .u8 a.f50=true/\inK .u8 a.f51=true/\inK .u8 a.f52=true/\inK .u8 a.f53=true/\inK .u8 a.f54=true/\inK .u8 a.f55=true/\inK .u8 a.f56=true/\inK .u8 a.f57=true/\inK .u8 a.f58=true/\inK .u8 a.f59=true/\inK .u8 a.f60=true/\inK .u8 a.f61=true/\inK .u8 a.f62=true/\inK .u8 a.f63=true
def v_Fr (t:List VK):List VK:=.int .u8::.int .u8::.int .u8::.int .u8::.int .u8::.int .u8::.int .u8::.int .u8::.int .u8::.int .u8::.int .u8::.int .u8::.int .u8::.int .u8::.int .u8::.int .u8::.int .u8::.int .u8::.int .u8::.int .u8::.int .u8::.int .u8::.int .u8::.int .u8::.int .u8::.int .u8::.int .u8::.int .u8::.int .u8::.int .u8::.int .u8::.int .u8::.int .u8::.int .u8::.int .u8::.int .u8::.int .u8::.int .u8::.int .u8::.int .u8::.int .u8::.int .u8::.int .u8::.int .u8::.int .u8::.int .u8::.int .u8::.int .u8::.int .u8::.int .u8::.int .u8::.int .u8::.int .u8::.int .u8::.int .u8::.int .u8::.int .u8::.int .u8::.int .u8::.int .u8::.int .u8::.int .u8::.int .u8::.int .u8::t
def d_Fr (a:Fr) (t:List Dt):List Dt:=.z a.f0::.z a.f1::.z a.f2::.z a.f3::.z a.f4::.z a.f5::.z a.f6::.z a.f7::.z a.f8::.z a.f9::.z a.f10::.z a.f11::.z a.f12::.z a.f13::.z a.f14::.z a.f15::.z a.f16::.z a.f17::.z a.f18::.z a.f19::.z a.f20::.z a.f21::.z a.f22::.z a.f23::.z a.f24::.z a.f25::.z a.f26::.z a.f27::.z a.f28::.z a.f29::.z a.f30::.z a.f31::.z a.f32::.z a.f33::.z a.f34::.z a.f35::.z a.f36::.z a.f37::.z a.f38::.z a.f39::.z a.f40::.z a.f41::.z a.f42::.z a.f43::.z a.f44::.z a.f45::.z a.f46::.z a.f47::.z a.f48::.z a.f49::.z a.f50::.z a.f51::.z a.f52::.z a.f53::.z a.f54::.z a.f55::.z a.f56::.z a.f57::.z a.f58::.z a.f59::.z a.f60::.z a.f61::.z a.f62::.z a.f63::t
def am:=And.intro Fr.eta (And.intro Kn.eta (And.intro Pi.eta (And.intro Pu.eta (And.intro Rg.eta (And.intro Sc.eta (And.intro Snap.eta (And.intro Sta.eta (And.intro Ty.eta (And.intro Sc.eta_r (And.intro Sc.eta_k (And.intro Sc.eta_2 (Ty.eta_s))))))))))))
def z_Sc:List C:=[.int .u64 (.lit 0),.int .u64 (.lit 0),.int .i64 (.lit 0),.int .i64 (.lit 0),.int .u64 (.lit 0),.int .u64 (.lit 0)]
theorem lN:Tryz.prog.eqGuardType Tryz.prog.depth 48=false:=by kernel_rfl
theorem abH:Tryz.prog.cellsOf 48=6:=by kernel_rfl
theorem abL:Tryz.prog.cellsOf 44=4:=by kernel_rfl
theorem abJ:Tryz.prog.cellsOf 46=2:=by kernel_rfl
theorem abO:Tryz.prog.cellsOf 42=1:=by kernel_rfl
theorem agS:Tryz.prog.cellsOf 2=1:=by kernel_rfl
theorem arQ (vs:List Value) (hv:aG vs z_Sc):Tryz.prog.keyLits 6 48 vs=some (bF vs):=by
 obtain⟨x0,_,rfl,g0,hv⟩:=ak hv
 obtain⟨x1,_,rfl,g1,hv⟩:=ak hv
 obtain⟨x2,_,rfl,g2,hv⟩:=ak hv
 obtain⟨x3,_,rfl,g3,hv⟩:=ak hv
 obtain⟨x4,_,rfl,g4,hv⟩:=ak hv
 obtain⟨x5,_,rfl,g5,hv⟩:=ak hv
 obtain rfl:=bf hv
 simp[Program.keyLits,Tryz.underlying48,Tryz.underlying44,Tryz.underlying46,Tryz.underlying42,Tryz.underlying2,abH,abL,abJ,abO,agS,aas,bF,g0,g1,g2,g3,g4,g5]
 split
 ·simp only[Option.bind_some,Function.comp_apply]
  split
  ·rfl
  ·rename_i h;exact absurd (by decide) h
 ·rename_i h;exact absurd (by decide) h
theorem asn (vs:List Value) (hv:aG vs z_Sc):(Value.agg vs.toArray).formed Tryz.prog 48=true:=by
 obtain⟨x0,_,rfl,g0,hv⟩:=ak hv
 obtain⟨x1,_,rfl,g1,hv⟩:=ak hv
 obtain⟨x2,_,rfl,g2,hv⟩:=ak hv
 obtain⟨x3,_,rfl,g3,hv⟩:=ak hv
 obtain⟨x4,_,rfl,g4,hv⟩:=ak hv
 obtain⟨x5,_,rfl,g5,hv⟩:=ak hv
 obtain rfl:=bf hv
 kernel_rfl
theorem vK (vs us:List Value) (hv:aG vs z_Sc) (hu:aG us z_Sc) (w:World):(Op.equal 48 (.agg vs.toArray) (.agg us.toArray)).run Tryz.prog w=.ok (eqVs vs us) w:=
 fe (by kernel_rfl) asn 6 arQ vs us hv hu w
def z_Ty:List C:=[.int .i8 (.lit 0),.int .u64 (.lit 0),.int .u64 (.lit 0),.int .i64 (.lit 0),.int .i64 (.lit 0),.int .u64 (.lit 0),.int .u64 (.lit 0),.int .i64 (.lit 0),.int .i64 (.lit 0)]
theorem lM:Tryz.prog.eqGuardType Tryz.prog.depth 50=false:=by kernel_rfl
theorem abE:Tryz.prog.cellsOf 50=9:=by kernel_rfl
theorem abR:Tryz.prog.cellsOf 37=1:=by kernel_rfl
theorem abG:Tryz.prog.cellsOf 48=6:=by kernel_rfl
theorem abK:Tryz.prog.cellsOf 44=4:=by kernel_rfl
theorem abI:Tryz.prog.cellsOf 46=2:=by kernel_rfl
theorem abN:Tryz.prog.cellsOf 42=1:=by kernel_rfl
theorem agR:Tryz.prog.cellsOf 2=1:=by kernel_rfl
theorem agQ:Tryz.prog.cellsOf 3=1:=by kernel_rfl
theorem aoy (vs:List Value) (hv:aG vs z_Ty):Tryz.prog.keyLits 6 50 vs=some (bF vs):=by
 obtain⟨x0,_,rfl,g0,hv⟩:=ak hv
 obtain⟨x1,_,rfl,g1,hv⟩:=ak hv
 obtain⟨x2,_,rfl,g2,hv⟩:=ak hv
 obtain⟨x3,_,rfl,g3,hv⟩:=ak hv
 obtain⟨x4,_,rfl,g4,hv⟩:=ak hv
 obtain⟨x5,_,rfl,g5,hv⟩:=ak hv
 obtain⟨x6,_,rfl,g6,hv⟩:=ak hv
 obtain⟨x7,_,rfl,g7,hv⟩:=ak hv
 obtain⟨x8,_,rfl,g8,hv⟩:=ak hv
 obtain rfl:=bf hv
 simp[Program.keyLits,Tryz.underlying50,Tryz.underlying37,Tryz.underlying48,Tryz.underlying44,Tryz.underlying46,Tryz.underlying42,Tryz.underlying2,Tryz.underlying3,abE,abR,abG,abK,abI,abN,agR,agQ,aas,bF,g0,g1,g2,g3,g4,g5,g6,g7,g8]
 repeat (rw[if_pos];rotate_left;· decide)
 rfl
theorem asm (vs:List Value) (hv:aG vs z_Ty):(Value.agg vs.toArray).formed Tryz.prog 50=true:=by
 obtain⟨x0,_,rfl,g0,hv⟩:=ak hv
 obtain⟨x1,_,rfl,g1,hv⟩:=ak hv
 obtain⟨x2,_,rfl,g2,hv⟩:=ak hv
 obtain⟨x3,_,rfl,g3,hv⟩:=ak hv
 obtain⟨x4,_,rfl,g4,hv⟩:=ak hv
 obtain⟨x5,_,rfl,g5,hv⟩:=ak hv
 obtain⟨x6,_,rfl,g6,hv⟩:=ak hv
 obtain⟨x7,_,rfl,g7,hv⟩:=ak hv
 obtain⟨x8,_,rfl,g8,hv⟩:=ak hv
 obtain rfl:=bf hv
 kernel_rfl
theorem vJ (vs us:List Value) (hv:aG vs z_Ty) (hu:aG us z_Ty) (w:World):(Op.equal 50 (.agg vs.toArray) (.agg us.toArray)).run Tryz.prog w=.ok (eqVs vs us) w:=
 fe (by kernel_rfl) asm 6 aoy vs us hv hu w
def tys_SdB:List (Nat×TI):=[(2,tiq2),
 (3,tiq3),
 (37,ig),
 (42,fP),
 (44,ic),
 (46,kD),
 (48,dW),
 (50,tO),
 (51,wk),
 (52,wj),
 (54,ac0),
 (123,⟨true,4,(zN 4 1111),[],some (4,42),none,false,false,none,32,false,none,false,0⟩)]
theorem acT:(tys_SdB.all fun p=>ckTI Tryz.prog p.1 p.2)=true:=by kernel_rfl
theorem tK:(tys_SdB.all fun p=>!p.2.eqok||((Nat.beq p.1 48&&aX p.2.zero z_Sc)||(Nat.beq p.1 50&&aX p.2.zero z_Ty)))=true:=by kernel_rfl
theorem acz:(tys_SdB.all fun p=>!p.2.keyok)=true:=by kernel_rfl
theorem jp:∀t i,(t,i)∈tys_SdB->TIok Tryz.prog t i:=by
 intro t i h
 refine bE (cC (f:=ckTI Tryz.prog) acT h) (fun he=> ?_) (fun he=> ?_) (fun he=> ?_)
 ·have h1:=thm7.1 tK (t,i) h
  simp only[he,Bool.not_true,Bool.false_or,bG,thm0] at h1
  rcases h1 with h1 | h1
  ·have hs:=h1.2
   obtain rfl:=thm1 h1.1
   exact fun vs us hv hu=>vK vs us (ar hs hv) (ar hs hu)
  ·have hs:=h1.2
   obtain rfl:=thm1 h1.1
   exact fun vs us hv hu=>vJ vs us (ar hs hv) (ar hs hu)
 ·have h1:=thm7.1 tK (t,i) h
  simp only[he,Bool.not_true,Bool.false_or,bG,thm0] at h1
  rcases h1 with h1 | h1
  ·have hs:=h1.2
   obtain rfl:=thm1 h1.1
   exact lN
  ·have hs:=h1.2
   obtain rfl:=thm1 h1.1
   exact lM
 ·have h1:=thm7.1 acz (t,i) h
  simp[he] at h1
def fm (key:Nat):Sm:=⟨84,key,[],[.agg kTy],false⟩
def cp:List Dt->List Dt
 | []=>d_Ty (fV) ([])
 | _=>[]
def sT_tscal:Tr:=
(.call 0 (kSc) .nil 0
(.leaf (.cons (.lit 1) (.vs 0 6 (.cons (.lit 0) (.cons (.lit 0) .nil))))))
def zk:Spec:={F:=fun k=>match k with | 0=>ct | _=>fun _=>[],pre:=fun _ _=>True}
theorem aiE:ap tys_SdB [fZ 0] [] [] [] 200 Tryz.f84 [] [.agg kTy] false [] sT_tscal:=⟨by kernel_rfl,by kernel_rfl,by kernel_rfl⟩
theorem aia (U:Env) (g:varsD U 0 []=[]):sT_tscal.asks zk (fun U e=>e.D U=cp []) U fun _ _=>False:=by
 simp only[sT_tscal,zk,d_Ty,kSc,ct,cp,simQ,af,S1,Nat.reduceSub,Nat.reduceAdd,-eq_self,am]
 intro e;(try simp only[e,am,-eq_self]);clear e
 ·rfl
theorem jx {sp:Spec} {key:Nat} (hF:sp.F key=cp) (hP:sp.pre key=fun _=>True:=by rfl):SmOk Tryz.prog sp (fm key):=
 au (s:=fm key) hF hP (by kernel_rfl) jp (smc (kM rfl) sm0) Tryz.func84 fn0 aiE (.inl rfl) (fun hp U g=>aia U g)
def rx (key:Nat):Sm:=⟨61,key,[.agg kTy],[.one .bool],false⟩
def qM (t:Ty):List Dt:=[.z (b2i (tok t))]
def iQ:List Dt->List Dt
 | [.z x0,.z x1,.z x2,.z x3,.z x4,.z x5,.z x6,.z x7,.z x8]=>qM ⟨x0,x1,x2,x3,x4,x5,x6,x7,x8⟩
 | _=>[]
def alw:Tr:=(.br (.eq (.var 1) (.lit 0))
(.br (.eq (.var 2) (.lit 0))
(.br (.eq (.var 3) (.lit 0))
(.br (.eq (.var 4) (.lit 0))
(.br (.eq (.var 5) (.lit 0))
(.br (.eq (.var 6) (.lit 0))
(.br (.lt (.var 8) (.var 7))
(.leaf (.cb (.tt false) .nil))
(.br (.lt (.var 7) (.lit (-1048576)))
(.leaf (.cb (.tt false) .nil))
(.leaf (.cb (.not (.lt (.lit 1048576) (.var 8))) .nil))))
(.leaf (.cb (.tt false) .nil)))
(.leaf (.cb (.tt false) .nil)))
(.leaf (.cb (.tt false) .nil)))
(.leaf (.cb (.tt false) .nil)))
(.leaf (.cb (.tt false) .nil)))
(.leaf (.cb (.tt false) .nil)))
def sT_ttok:Tr:=
(.br (.eq (.var 0) (.lit 0))
(.leaf (.cb (.and (.eq (.var 0) (.lit 0)) (.and (.eq (.var 1) (.lit 0)) (.and (.eq (.var 2) (.lit 0)) (.and (.eq (.var 3) (.lit 0)) (.and (.eq (.var 4) (.lit 0)) (.and (.eq (.var 5) (.lit 0)) (.and (.eq (.var 6) (.lit 0)) (.and (.eq (.var 7) (.lit 0)) (.and (.eq (.var 8) (.lit 0)) (.tt true)))))))))) .nil))
(.br (.eq (.var 0) (.lit 1))
(.br (.eq (.var 7) (.lit 0))
(.br (.eq (.var 8) (.lit 0))
(.call 0 [.bool] (.vs 1 6 .nil) 9
(.leaf (.cb (.bw 9) .nil)))
(.leaf (.cb (.tt false) .nil)))
(.leaf (.cb (.tt false) .nil)))
(.br (.eq (.var 0) (.lit 2))
 alw
(.br (.eq (.var 0) (.lit 3))
 alw
(.leaf (.cb (.tt false) .nil))))))
def aeB:Spec:={F:=fun k=>match k with | 0=>bU | _=>fun _=>[],pre:=fun _ _=>True}
theorem am9:ap tys_SdB [fl 0] [] [] [] 200 Tryz.f61 [.agg kTy] [.one .bool] false (v_Ty ([])) sT_ttok:=⟨by kernel_rfl,by kernel_rfl,by kernel_rfl⟩
theorem amt (t:Ty) (ht:Ty.ok t) (U:Env) (g:varsD U 0 (v_Ty ([]))=(d_Ty t ([]))):sT_ttok.asks aeB (fun U e=>e.D U=iQ (d_Ty t ([]))) U fun _ _=>False:=by
 simp only[d_Ty,v_Ty,varsD,varD,thm5,gS0,Nat.reduceAdd,and_true] at g
 simp only[sT_ttok,alw,aeB,d_Ty,bU,fk,iQ,qM,simQ,af,S1,Nat.reduceSub,Nat.reduceAdd,-eq_self,am,g]
 constructor<;>intro c0
 ·(unfold tok;simp_all [dm,Bool.and_assoc]<;>first | (intros;omega) | (rw[aM];simp;done))
 constructor<;>intro c1
 constructor<;>intro c2
 constructor<;>intro c3
 intro e;(try simp only[e,am,-eq_self]);clear e
 ·(unfold tok;simp_all [dm,Bool.and_assoc]<;>first | (intros;omega) | (rw[aM];simp;done))
 ·(unfold tok;simp_all [dm,Bool.and_assoc]<;>first | (intros;omega) | (rw[aM];simp;done))
 ·(unfold tok;simp_all [dm,Bool.and_assoc]<;>first | (intros;omega) | (rw[aM];simp;done))
 constructor<;>intro c4
 constructor<;>intro c5
 constructor<;>intro c6
 constructor<;>intro c7
 constructor<;>intro c8
 constructor<;>intro c9
 constructor<;>intro c10
 constructor<;>intro c11
 ·(unfold tok;simp_all [dm,Bool.and_assoc]<;>first | (intros;omega) | (rw[aM];simp;done))
 constructor<;>intro c12
 ·(unfold tok;simp_all [dm,Bool.and_assoc]<;>first | (intros;omega) | (rw[aM];simp;done))
 ·(unfold tok;simp_all [dm,Bool.and_assoc]<;>first | (intros;omega) | (rw[aM];simp;done))
 ·(unfold tok;simp_all [dm,Bool.and_assoc]<;>first | (intros;omega) | (rw[aM];simp;done))
 ·(unfold tok;simp_all [dm,Bool.and_assoc]<;>first | (intros;omega) | (rw[aM];simp;done))
 ·(unfold tok;simp_all [dm,Bool.and_assoc]<;>first | (intros;omega) | (rw[aM];simp;done))
 ·(unfold tok;simp_all [dm,Bool.and_assoc]<;>first | (intros;omega) | (rw[aM];simp;done))
 ·(unfold tok;simp_all [dm,Bool.and_assoc]<;>first | (intros;omega) | (rw[aM];simp;done))
 ·(unfold tok;simp_all [dm,Bool.and_assoc]<;>first | (intros;omega) | (rw[aM];simp;done))
 constructor<;>intro c13
 constructor<;>intro c14
 constructor<;>intro c15
 constructor<;>intro c16
 constructor<;>intro c17
 constructor<;>intro c18
 constructor<;>intro c19
 constructor<;>intro c20
 ·(unfold tok;simp_all [dm,Bool.and_assoc]<;>first | (intros;omega) | (rw[aM];simp;done))
 constructor<;>intro c21
 ·(unfold tok;simp_all [dm,Bool.and_assoc]<;>first | (intros;omega) | (rw[aM];simp;done))
 ·(unfold tok;simp_all [dm,Bool.and_assoc]<;>first | (intros;omega) | (rw[aM];simp;done))
 ·(unfold tok;simp_all [dm,Bool.and_assoc]<;>first | (intros;omega) | (rw[aM];simp;done))
 ·(unfold tok;simp_all [dm,Bool.and_assoc]<;>first | (intros;omega) | (rw[aM];simp;done))
 ·(unfold tok;simp_all [dm,Bool.and_assoc]<;>first | (intros;omega) | (rw[aM];simp;done))
 ·(unfold tok;simp_all [dm,Bool.and_assoc]<;>first | (intros;omega) | (rw[aM];simp;done))
 ·(unfold tok;simp_all [dm,Bool.and_assoc]<;>first | (intros;omega) | (rw[aM];simp;done))
 ·(unfold tok;simp_all [dm,Bool.and_assoc]<;>first | (intros;omega) | (rw[aM];simp;done))
 ·(unfold tok;simp_all [dm,Bool.and_assoc]<;>first | (intros;omega) | (rw[aM];simp;done))
theorem afe {sp:Spec} {key:Nat} (hF:sp.F key=iQ) (hP:sp.pre key=fun _=>True:=by rfl):SmOk Tryz.prog sp (rx key):=
 au (s:=rx key) hF hP (by kernel_rfl) jp (smc (iO rfl) sm0) Tryz.func61 fn0 am9 (.inl rfl) (bj fun q0 gq0=>fun hp U g=>amt q0 gq0 U g)
def nl (key:Nat):Sm:=⟨33,key,[.agg kSta],[.one .bool],false⟩
def mN (s:Sta):List Dt:=[.z (b2i (smay s))]
def eC:List Dt->List Dt:=cg fun s=>fun _=>mN s
def sT_tmay:Tr:=
(.call 0 [.bool] (.vs 0 9 .nil) 171
(.br (.bw 171)
(.call 0 [.bool] (.vs 9 9 .nil) 172
(.br (.bw 172)
(.call 0 [.bool] (.vs 18 9 .nil) 173
(.br (.bw 173)
(.call 0 [.bool] (.vs 27 9 .nil) 174
(.br (.bw 174)
(.call 0 [.bool] (.vs 36 9 .nil) 175
(.br (.bw 175)
(.call 0 [.bool] (.vs 45 9 .nil) 176
(.br (.bw 176)
(.call 0 [.bool] (.vs 54 9 .nil) 177
(.br (.bw 177)
(.call 0 [.bool] (.vs 63 9 .nil) 178
(.br (.bw 178)
(.call 0 [.bool] (.vs 72 9 .nil) 179
(.br (.bw 179)
(.call 0 [.bool] (.vs 81 9 .nil) 180
(.br (.bw 180)
(.call 0 [.bool] (.vs 90 9 .nil) 181
(.br (.bw 181)
(.br (.eq (.var 99) (.lit 0))
(.leaf (.cb (.tt false) .nil))
(.call 0 [.bool] (.vs 99 9 .nil) 182
(.br (.bw 182)
(.br (.eq (.var 108) (.lit 0))
(.leaf (.cb (.tt false) .nil))
(.call 0 [.bool] (.vs 108 9 .nil) 183
(.br (.bw 183)
(.br (.eq (.var 117) (.lit 0))
(.leaf (.cb (.tt false) .nil))
(.call 0 [.bool] (.vs 117 9 .nil) 184
(.br (.bw 184)
(.br (.eq (.var 126) (.lit 0))
(.leaf (.cb (.tt false) .nil))
(.call 0 [.bool] (.vs 126 9 .nil) 185
(.br (.bw 185)
(.br (.eq (.var 135) (.lit 0))
(.leaf (.cb (.tt false) .nil))
(.call 0 [.bool] (.vs 135 9 .nil) 186
(.br (.bw 186)
(.br (.eq (.var 144) (.lit 0))
(.leaf (.cb (.tt false) .nil))
(.call 0 [.bool] (.vs 144 9 .nil) 187
(.br (.bw 187)
(.br (.eq (.var 153) (.lit 0))
(.leaf (.cb (.tt false) .nil))
(.call 0 [.bool] (.vs 153 9 .nil) 188
(.br (.bw 188)
(.br (.eq (.var 162) (.lit 0))
(.leaf (.cb (.tt false) .nil))
(.call 0 [.bool] (.vs 162 9 .nil) 189
(.br (.bw 189)
(.leaf (.cb (.tt true) .nil))
(.leaf (.cb (.tt false) .nil)))))
(.leaf (.cb (.tt false) .nil)))))
(.leaf (.cb (.tt false) .nil)))))
(.leaf (.cb (.tt false) .nil)))))
(.leaf (.cb (.tt false) .nil)))))
(.leaf (.cb (.tt false) .nil)))))
(.leaf (.cb (.tt false) .nil)))))
(.leaf (.cb (.tt false) .nil)))))
(.leaf (.cb (.tt false) .nil))))
(.leaf (.cb (.tt false) .nil))))
(.leaf (.cb (.tt false) .nil))))
(.leaf (.cb (.tt false) .nil))))
(.leaf (.cb (.tt false) .nil))))
(.leaf (.cb (.tt false) .nil))))
(.leaf (.cb (.tt false) .nil))))
(.leaf (.cb (.tt false) .nil))))
(.leaf (.cb (.tt false) .nil))))
(.leaf (.cb (.tt false) .nil))))
(.leaf (.cb (.tt false) .nil))))
def aeC:Spec:={F:=fun k=>match k with | 0=>iQ | _=>fun _=>[],pre:=fun _ _=>True}
theorem ana:ap tys_SdB [rx 0] [] [] [] 200 Tryz.f33 [.agg kSta] [.one .bool] false (bY ([])) sT_tmay:=⟨by kernel_rfl,by kernel_rfl,by kernel_rfl⟩
theorem amu (s:Sta) (hs:Sta.ok s) (U:Env) (g:varsD U 0 (bY ([]))=(ax s ([]))):sT_tmay.asks aeC (fun U e=>e.D U=eC (ax s ([]))) U fun _ _=>False:=by
 simp only[eC,bP,fC,rdZ,rdB]
 simp only[ax,d_Ty,bY,v_Ty,varsD,varD,thm5,gS0,Nat.reduceAdd,and_true] at g
 simp(maxSteps:=10000000) only[sT_tmay,aeC,ax,d_Ty,cg,cH,iQ,qM,eC,mN,simQ,af,S1,Nat.reduceSub,Nat.reduceAdd,-eq_self,am,g]
 intro e;(try simp only[e,am,-eq_self]);clear e
 constructor<;>intro c0
 intro e;(try simp only[e,am,-eq_self]);clear e
 constructor<;>intro c1
 intro e;(try simp only[e,am,-eq_self]);clear e
 constructor<;>intro c2
 intro e;(try simp only[e,am,-eq_self]);clear e
 constructor<;>intro c3
 intro e;(try simp only[e,am,-eq_self]);clear e
 constructor<;>intro c4
 intro e;(try simp only[e,am,-eq_self]);clear e
 constructor<;>intro c5
 intro e;(try simp only[e,am,-eq_self]);clear e
 constructor<;>intro c6
 intro e;(try simp only[e,am,-eq_self]);clear e
 constructor<;>intro c7
 intro e;(try simp only[e,am,-eq_self]);clear e
 constructor<;>intro c8
 intro e;(try simp only[e,am,-eq_self]);clear e
 constructor<;>intro c9
 intro e;(try simp only[e,am,-eq_self]);clear e
 constructor<;>intro c10
 constructor<;>intro c11
 ·(unfold smay tset;simp_all)
 intro e;(try simp only[e,am,-eq_self]);clear e
 constructor<;>intro c12
 constructor<;>intro c13
 ·(unfold smay tset;simp_all)
 intro e;(try simp only[e,am,-eq_self]);clear e
 constructor<;>intro c14
 constructor<;>intro c15
 ·(unfold smay tset;simp_all)
 intro e;(try simp only[e,am,-eq_self]);clear e
 constructor<;>intro c16
 constructor<;>intro c17
 ·(unfold smay tset;simp_all)
 intro e;(try simp only[e,am,-eq_self]);clear e
 constructor<;>intro c18
 constructor<;>intro c19
 ·(unfold smay tset;simp_all)
 intro e;(try simp only[e,am,-eq_self]);clear e
 constructor<;>intro c20
 constructor<;>intro c21
 ·(unfold smay tset;simp_all)
 intro e;(try simp only[e,am,-eq_self]);clear e
 constructor<;>intro c22
 constructor<;>intro c23
 ·(unfold smay tset;simp_all)
 intro e;(try simp only[e,am,-eq_self]);clear e
 constructor<;>intro c24
 constructor<;>intro c25
 ·(unfold smay tset;simp_all)
 intro e;(try simp only[e,am,-eq_self]);clear e
 constructor<;>intro c26
 ·(unfold smay tset;simp_all)
 ·(unfold smay tset;simp_all)
 ·(unfold smay tset;simp_all)
 ·(unfold smay tset;simp_all)
 ·(unfold smay tset;simp_all)
 ·(unfold smay tset;simp_all)
 ·(unfold smay tset;simp_all)
 ·(unfold smay tset;simp_all)
 ·(unfold smay tset;simp_all)
 ·(unfold smay tset;simp_all)
 ·(unfold smay tset;simp_all)
 ·(unfold smay tset;simp_all)
 ·(unfold smay tset;simp_all)
 ·(unfold smay tset;simp_all)
 ·(unfold smay tset;simp_all)
 ·(unfold smay tset;simp_all)
 ·(unfold smay tset;simp_all)
 ·(unfold smay tset;simp_all)
 ·(unfold smay tset;simp_all)
 ·(unfold smay tset;simp_all)
theorem xx {sp:Spec} {key:Nat} (hF:sp.F key=eC) (hP:sp.pre key=fun _=>True:=by rfl):SmOk Tryz.prog sp (nl key):=
 au (s:=nl key) hF hP (by kernel_rfl) jp (smc (afe rfl) sm0) Tryz.func33 fn0 ana (.inl rfl) (dq fun q0 gq0=>fun hp U g=>amu q0 gq0 U g)
def nn (key:Nat):Sm:=⟨32,key,[],[.agg kSta],false⟩
def jI:List Dt->List Dt
 | []=>ax (ady) ([])
 | _=>[]
def sT_tfirst:Tr:=
(.call 0 (kSc) (.cons (.lit 0) .nil) 0
(.leaf (.zs [0,0,0,0,0,0,0,0,0,2,0,0,0,0,0,0,0,0,0,0,0,0,0,0,0,0,0,0,0,0,0,0,0,0,0,0,0,0,0,0,0,0,0,0,0,0,0,0,0,0,0,0,0,0,0,0,0,0,0,0,0,0,0,0,0,0,0,0,0,0,0,0,0,0,0,0,0,0,0,0,0,0,0,0,0,0,0,0,0,0,3,0,0,0,0,0,0,64,64,1] (.vs 0 6 (.zs [0,0,1] (.vs 0 6 (.zs [0,0,1] (.vs 0 6 (.zs [0,0,1] (.vs 0 6 (.zs [0,0,1] (.vs 0 6 (.zs [0,0,1] (.vs 0 6 (.zs [0,0,1] (.vs 0 6 (.zs [0,0,1] (.vs 0 6 (.cons (.lit 0) (.cons (.lit 0) .nil))))))))))))))))))))
def uB:Spec:={F:=fun k=>match k with | 0=>dn | _=>fun _=>[],pre:=fun _ _=>True}
theorem aec:ap tys_SdB [kL 0] [] [] [] 200 Tryz.f32 [] [.agg kSta] false [] sT_tfirst:=⟨by kernel_rfl,by kernel_rfl,by kernel_rfl⟩
theorem adG (U:Env) (g:varsD U 0 []=[]):sT_tfirst.asks uB (fun U e=>e.D U=jI []) U fun _ _=>False:=by
 simp only[sT_tfirst,uB,ax,d_Ty,kSc,dn,mJ,jI,simQ,af,S1,Nat.reduceSub,Nat.reduceAdd,-eq_self,am]
 intro e;(try simp only[e,am,-eq_self]);clear e
 ·rfl
theorem afi {sp:Spec} {key:Nat} (hF:sp.F key=jI) (hP:sp.pre key=fun _=>True:=by rfl):SmOk Tryz.prog sp (nn key):=
 au (s:=nn key) hF hP (by kernel_rfl) jp (smc (rT rfl) sm0) Tryz.func32 fn0 aec (.inl rfl) (fun hp U g=>adG U g)
end Go.Proofs.YtfkhblmeioiciaaGreatDoor
