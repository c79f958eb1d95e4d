import Derived.Test.YtfkhblmeioiciaaGreatDoorVyG
import Derived.Test.YtfkhblmeioiciaaGreatDoorProg
import Derived.Laws.Externs
set_option linter.unusedVariables false
set_option linter.unusedSimpArgs false
namespace Go.Proofs.YtfkhblmeioiciaaGreatDoor
open Go.RowKit Go.ChangeShapes Go.WideShapes
def kSt:List CE:=[some Go.IntKind.i8,some Go.IntKind.u64,some Go.IntKind.u64,some Go.IntKind.i64,some Go.IntKind.i64,some Go.IntKind.u64,some Go.IntKind.u64,some Go.IntKind.i64,some Go.IntKind.i64,some Go.IntKind.i8,some Go.IntKind.u64,some Go.IntKind.u64,some Go.IntKind.i64,some Go.IntKind.i64,some Go.IntKind.u64,some Go.IntKind.u64,some Go.IntKind.i64,some Go.IntKind.i64,some Go.IntKind.i8,some Go.IntKind.u64,some Go.IntKind.u64,some Go.IntKind.i64,some Go.IntKind.i64,some Go.IntKind.u64,some Go.IntKind.u64,some Go.IntKind.i64,some Go.IntKind.i64,some Go.IntKind.i8,some Go.IntKind.u64,some Go.IntKind.u64,some Go.IntKind.i64,some Go.IntKind.i64,some Go.IntKind.u64,some Go.IntKind.u64,some Go.IntKind.i64,some Go.IntKind.i64,some Go.IntKind.i8,some Go.IntKind.u64,some Go.IntKind.u64,some Go.IntKind.i64,some Go.IntKind.i64,some Go.IntKind.u64,some Go.IntKind.u64,some Go.IntKind.i64,some Go.IntKind.i64,some Go.IntKind.i8,some Go.IntKind.u64,some Go.IntKind.u64,some Go.IntKind.i64,some Go.IntKind.i64,some Go.IntKind.u64,some Go.IntKind.u64,some Go.IntKind.i64,some Go.IntKind.i64,some Go.IntKind.i8,some Go.IntKind.u64,some Go.IntKind.u64,some Go.IntKind.i64,some Go.IntKind.i64,some Go.IntKind.u64,some Go.IntKind.u64,some Go.IntKind.i64,some Go.IntKind.i64,some Go.IntKind.i8,some Go.IntKind.u64,some Go.IntKind.u64,some Go.IntKind.i64,some Go.IntKind.i64,some Go.IntKind.u64,some Go.IntKind.u64,some Go.IntKind.i64,some Go.IntKind.i64,some Go.IntKind.i8,some Go.IntKind.u64,some Go.IntKind.u64,some Go.IntKind.i64,some Go.IntKind.i64,some Go.IntKind.u64,some Go.IntKind.u64,some Go.IntKind.i64,some Go.IntKind.i64,some Go.IntKind.i8,some Go.IntKind.u64,some Go.IntKind.u64,some Go.IntKind.i64,some Go.IntKind.i64,some Go.IntKind.u64,some Go.IntKind.u64,some Go.IntKind.i64,some Go.IntKind.i64,some Go.IntKind.i8,some Go.IntKind.u64,some Go.IntKind.u64,some Go.IntKind.i64,some Go.IntKind.i64,some Go.IntKind.u64,some Go.IntKind.u64,some Go.IntKind.i64,some Go.IntKind.i64,some Go.IntKind.i8,some Go.IntKind.u64,some Go.IntKind.u64,some Go.IntKind.i64,some Go.IntKind.i64,some Go.IntKind.u64,some Go.IntKind.u64,some Go.IntKind.i64,some Go.IntKind.i64,some Go.IntKind.i8,some Go.IntKind.u64,some Go.IntKind.u64,some Go.IntKind.i64,some Go.IntKind.i64,some Go.IntKind.u64,some Go.IntKind.u64,some Go.IntKind.i64,some Go.IntKind.i64,some Go.IntKind.i8,some Go.IntKind.u64,some Go.IntKind.u64,some Go.IntKind.i64,some Go.IntKind.i64,some Go.IntKind.u64,some Go.IntKind.u64,some Go.IntKind.i64,some Go.IntKind.i64,some Go.IntKind.i8,some Go.IntKind.u64,some Go.IntKind.u64,some Go.IntKind.i64,some Go.IntKind.i64,some Go.IntKind.u64,some Go.IntKind.u64,some Go.IntKind.i64,some Go.IntKind.i64,some Go.IntKind.i8,some Go.IntKind.u64,some Go.IntKind.u64,some Go.IntKind.i64,some Go.IntKind.i64,some Go.IntKind.u64,some Go.IntKind.u64,some Go.IntKind.i64,some Go.IntKind.i64,some Go.IntKind.i8,some Go.IntKind.u64,some Go.IntKind.u64,some Go.IntKind.i64,some Go.IntKind.i64,some Go.IntKind.u64,some Go.IntKind.u64,some Go.IntKind.i64,some Go.IntKind.i64,some Go.IntKind.i8,some Go.IntKind.u64,some Go.IntKind.u64,some Go.IntKind.i64,some Go.IntKind.i64,some Go.IntKind.u64,some Go.IntKind.u64,some Go.IntKind.i64,some Go.IntKind.i64,some Go.IntKind.i8,some Go.IntKind.u64,some Go.IntKind.u64,some Go.IntKind.i64,some Go.IntKind.i64,some Go.IntKind.u64,some Go.IntKind.u64,some Go.IntKind.i64,some Go.IntKind.i64]
def lSt:List (List Int):=[[0,0,0,0,0,0,0,0,0,2,0,0,0,0,0,0,0,0,0,0,0,0,0,0,0,0,0,0,0,0,0,0,0,0,0,0,0,0,0,0,0,0,0,0,0,0,0,0,0,0,0,0,0,0,0,0,0,0,0,0,0,0,0,0,0,0,0,0,0,0,0,0,0,0,0,0,0,0,0,0,0,0,0,0,0,0,0,0,0,0,3,0,0,0,0,0,0,64,64,1,0,0,0,0,0,0,0,0,1,0,0,0,0,0,0,0,0,1,0,0,0,0,0,0,0,0,1,0,0,0,0,0,0,0,0,1,0,0,0,0,0,0,0,0,1,0,0,0,0,0,0,0,0,1,0,0,0,0,0,0,0,0,1,0,0,0,0,0,0,0,0],[1,0,0,0,0,0,0,0,0,2,0,0,0,0,0,0,0,0,0,0,0,0,0,0,0,0,0,0,0,0,0,0,0,0,0,0,0,0,0,0,0,0,0,0,0,0,0,0,0,0,0,0,0,0,0,0,0,0,0,0,0,0,0,0,0,0,0,0,0,0,0,0,0,0,0,0,0,0,0,0,0,0,0,0,0,0,0,0,0,0,3,0,0,0,0,0,0,64,64,1,0,0,0,0,0,0,0,0,1,0,0,0,0,0,0,0,0,1,0,0,0,0,0,0,0,0,1,0,0,0,0,0,0,0,0,1,0,0,0,0,0,0,0,0,1,0,0,0,0,0,0,0,0,1,0,0,0,0,0,0,0,0,1,0,0,0,0,0,0,0,0]]
def tys_VyH:List (Nat×TI):=[(2,⟨false,1,[.int .i64 (.lit 0)],[],none,some .i64,false,false,none,8,false,none,false,0⟩),
 (3,⟨false,1,[.int .i64 (.lit 0)],[],none,some .i64,false,false,none,8,false,none,false,0⟩),
 (4,⟨false,1,[.bool (.tt false)],[],none,none,false,true,none,1,false,none,false,0⟩),
 (22,⟨false,1,[.nsl],[],none,none,false,false,some 39,24,false,none,false,0⟩),
 (24,⟨true,2,[.int .i64 (.lit 0),.nsl],[(0,3),(1,22)],none,none,false,false,none,32,false,none,false,0⟩),
 (27,⟨false,1,[.int .i64 (.lit 0)],[],none,some .i64,false,false,none,8,false,none,false,0⟩),
 (30,⟨false,1,[.nsl],[],none,none,false,false,some 4,24,false,none,false,0⟩),
 (31,⟨false,1,[.nsl],[],none,none,false,false,some 54,24,false,none,false,0⟩),
 (33,⟨true,2,[.nsl,.nsl],[(0,30),(1,31)],none,none,false,false,none,48,false,none,false,0⟩),
 (37,⟨false,1,[.int .i8 (.lit 0)],[],none,some .i8,false,false,none,1,false,none,false,0⟩),
 (39,⟨true,9,(zN 9 220090000),[(0,37),(1,37),(2,37),(3,37),(4,4),(5,37),(6,37),(7,3),(8,3)],none,none,true,false,none,24,false,none,false,0⟩),
 (42,⟨false,1,[.int .u64 (.lit 0)],[],none,some .u64,false,false,none,8,false,none,false,0⟩),
 (44,⟨true,4,(zN 4 2211),[(0,42),(1,42),(2,2),(3,2)],none,none,false,false,none,32,false,none,false,0⟩),
 (46,⟨true,2,[.int .u64 (.lit 0),.int .u64 (.lit 0)],[(0,42),(1,42)],none,none,false,false,none,16,false,none,false,0⟩),
 (48,⟨true,6,(zN 6 112211),[(0,44),(4,46)],none,none,true,false,none,48,false,none,false,0⟩),
 (50,⟨true,9,(zN 9 221122110),[(0,37),(1,48),(7,3),(8,3)],none,none,true,false,none,72,false,none,false,0⟩),
 (51,⟨true,99,(zN 99 221122110221122110221122110221122110221122110221122110221122110221122110221122110221122110221122110),[],some (11,50),none,false,false,none,792,false,none,false,0⟩),
 (52,⟨true,72,(zN 72 221122110221122110221122110221122110221122110221122110221122110221122110),[],some (8,50),none,false,false,none,576,false,none,false,0⟩),
 (54,⟨true,171,(zN 171 221122110221122110221122110221122110221122110221122110221122110221122110221122110221122110221122110221122110221122110221122110221122110221122110221122110221122110221122110),[(0,51),(99,52)],none,none,false,false,none,1368,false,none,false,0⟩),
 (66,⟨true,172,(zN 172 2211221102211221102211221102211221102211221102211221102211221102211221102211221102211221102211221102211221102211221102211221102211221102211221102211221102211221102211221102),[(0,3),(1,54)],none,none,false,false,none,1376,false,none,false,0⟩),
 (70,⟨false,1,[.nsl],[],none,none,false,false,some 3,24,false,none,false,0⟩),
 (92,⟨false,1,[.nilp],[],none,none,false,false,none,8,false,none,false,1⟩),
 (93,⟨true,64,[.nilp,.nilp,.nilp,.nilp,.nilp,.nilp,.nilp,.nilp,.nilp,.nilp,.nilp,.nilp,.nilp,.nilp,.nilp,.nilp,.nilp,.nilp,.nilp,.nilp,.nilp,.nilp,.nilp,.nilp,.nilp,.nilp,.nilp,.nilp,.nilp,.nilp,.nilp,.nilp,.nilp,.nilp,.nilp,.nilp,.nilp,.nilp,.nilp,.nilp,.nilp,.nilp,.nilp,.nilp,.nilp,.nilp,.nilp,.nilp,.nilp,.nilp,.nilp,.nilp,.nilp,.nilp,.nilp,.nilp,.nilp,.nilp,.nilp,.nilp,.nilp,.nilp,.nilp,.nilp],[],some (64,92),none,false,false,none,512,false,none,false,0⟩),
 (94,⟨true,64,(zN 64 2222222222222222222222222222222222222222222222222222222222222222),[],some (64,3),none,false,false,none,512,false,none,false,0⟩),
 (95,⟨true,1,[.int .u64 (.lit 0)],[],some (1,42),none,false,false,none,8,false,none,false,0⟩),
 (105,⟨false,1,[.int .u64 (.lit 0)],[],none,some .u64,false,false,none,8,false,none,false,0⟩),
 (145,⟨false,1,[.nilp],[],none,none,false,false,none,8,false,none,false,1⟩),
 (151,⟨false,1,[.nilf],[],none,none,false,false,none,8,true,none,false,0⟩),
 (167,⟨false,1,[.int .u32 (.lit 0)],[],none,some .u32,false,false,none,4,false,none,false,0⟩)]
set_option maxRecDepth 100000 in
theorem zP:(tys_VyH.all fun p=>ckTI Tryz.prog p.1 p.2)=true:=by kernel_rfl
theorem qs:(tys_VyH.all fun p=>!p.2.eqok||((Nat.beq p.1 39&&aW p.2.zero mU)||(Nat.beq p.1 48&&aW p.2.zero z_Sc)||(Nat.beq p.1 50&&aW p.2.zero z_Ty)))=true:=by kernel_rfl
theorem zx:(tys_VyH.all fun p=>!p.2.keyok)=true:=by kernel_rfl
theorem dH:∀t i,(t,i)∈tys_VyH→TIok Tryz.prog t i:=by
 intro t i h
 refine bI (cM (f:=ckTI Tryz.prog) zP h) (fun he=> ?_) (fun he=> ?_) (fun he=> ?_)
 ·have h1:=List.all_eq_true.1 qs (t,i) h
  simp only[he,Bool.not_true,Bool.false_or,Bool.or_eq_true,Bool.and_eq_true] at h1
  rcases h1 with(h1 | h1) | h1
  ·have hs:=h1.2
   obtain rfl:=Nat.eq_of_beq_eq_true h1.1
   exact fun vs us hv hu=>nO vs us (ap hs hv) (ap hs hu)
  ·have hs:=h1.2
   obtain rfl:=Nat.eq_of_beq_eq_true h1.1
   exact fun vs us hv hu=>ac5 vs us (ap hs hv) (ap hs hu)
  ·have hs:=h1.2
   obtain rfl:=Nat.eq_of_beq_eq_true h1.1
   exact fun vs us hv hu=>ac4 vs us (ap hs hv) (ap hs hu)
 ·have h1:=List.all_eq_true.1 qs (t,i) h
  simp only[he,Bool.not_true,Bool.false_or,Bool.or_eq_true,Bool.and_eq_true] at h1
  rcases h1 with(h1 | h1) | h1
  ·have hs:=h1.2
   obtain rfl:=Nat.eq_of_beq_eq_true h1.1
   exact jL
  ·have hs:=h1.2
   obtain rfl:=Nat.eq_of_beq_eq_true h1.1
   exact rU
  ·have hs:=h1.2
   obtain rfl:=Nat.eq_of_beq_eq_true h1.1
   exact rT
 ·have h1:=List.all_eq_true.1 zx (t,i) h
  simp[he] at h1
def lu (key:Nat):Sm:=⟨18,key,[.agg [.lit .i64 4,.rl (kN 9 220090000) 39 [[1,0,0,8,0,0,1,0,0],[6,0,0,0,0,0,0,0,0]]],.agg [.lit .i8 2,.lit .u64 0,.lit .u64 0,.lit .i64 0,.lit .i64 0,.lit .u64 0,.lit .u64 0,.lit .i64 0,.lit .i64 0],.one (.lit .i64 0),.one (.lit .i64 8)],[.one .bool],false⟩
def ek:List Dt→List Dt
 | []=>[.z (b2i false)]
 | _=>[]
def sT_vwiD:Tr:=
(.leaf (.consb (.tt false) .nil))
def aa5:Spec:={F:=fun k=>match k with | _=>fun _=>[],pre:=fun k=>match k with | _=>fun _=>True}
set_option maxRecDepth 100000 in
theorem ahF:am tys_VyH [] [(53,Tryz.f53,[],[]),(55,Tryz.f55,[],[]),(54,Tryz.f54,[],[]),(107,Tryz.f107,[],[])] [] [] 200 Tryz.f18 [.agg [.lit .i64 4,.rl (kN 9 220090000) 39 [[1,0,0,8,0,0,1,0,0],[6,0,0,0,0,0,0,0,0]]],.agg [.lit .i8 2,.lit .u64 0,.lit .u64 0,.lit .i64 0,.lit .i64 0,.lit .u64 0,.lit .u64 0,.lit .i64 0,.lit .i64 0],.one (.lit .i64 0),.one (.lit .i64 8)] [.one .bool] false [] sT_vwiD:=⟨by kernel_rfl,by kernel_rfl,by kernel_rfl⟩
set_option maxRecDepth 100000 in
set_option maxHeartbeats 8000000 in
theorem ag5 (ρ:Env) (g:af ρ 0 []=[]):sT_vwiD.asks aa5 (fun ρ e=>e.D ρ=ek []) ρ fun _ _=>False:=by
 simp only[sT_vwiD,aa5,ek,Tr.asks,ai,okDs,okD,eqs,E.I,E.B,E.L,E.R,E.D,E.vs,E.gs,E.ins,E.sv,E.tn,E.iv,E.zs,E.pv,Nat.reduceSub,dI,dB,dL,varD,af,S1,Nat.reduceAdd,-eq_self,aj,Prog.eta,Ins.eta,aa,ab]
 ·rfl
theorem tS {sp:Spec} {key:Nat} (hF:sp.F key=ek) (hP:sp.pre key=fun _=>True:=by rfl):SmOk Tryz.prog sp (lu key):=
 an (s:=lu key) hF hP (by kernel_rfl) dH (sm0) Tryz.func18 (fnc Tryz.func53 (fnc Tryz.func55 (fnc Tryz.func54 (fnc Tryz.func107 fn0)))) ahF (.inl rfl) (fun hp ρ g=>ag5 ρ g)
def oU (key:Nat):Sm:=⟨12,key,[.agg [.lit .i64 0,.rl (kN 9 220090000) 39 [[0,11,64,0,0,0,0,0,0],[6,0,0,0,0,0,0,0,0]]]],[.agg [.sl [none] 4,.sl kSt 54],.one (.int .i64),.one (.int .i64)],true⟩
def ix:List Dt→List Dt
 | []=>[.l [[1],[1]],.l lSt,.z 0,.z 0]
 | _=>[]
set_option maxRecDepth 100000 in
def sT_vrunA:Tr:=
(.call 0 [.int .i64,.int .i64] (.cons (.lit 0) (.consl (.lapp (.lapp .lnil (.zs [0,11,64,0] (.consb (.tt false) (.zs [0,0,0,0] .nil)))) (.zs [6,0,0,0] (.consb (.tt false) (.zs [0,0,0,0] .nil)))) .nil)) 0
(.br (.and (.eq (.var 1) (.lit 0)) (.and (.eq (.var 0) (.lit 0)) (.tt true)))
(.call 1 (kSta) .nil 2
(.br (.pv 172 [0,0,0,0,0,0,0,0,1,0,0,0,0,0,0,0,0,1,0,0,0,0,0,0,0,0,1,0,0,0,0,0,0,0,0,1,0,0,0,0,0,0,0,0,1,0,0,0,0,0,0,0,0,1,0,0,0,0,0,0,0,0,1,0,0,0,0,0,0,0,0,1,64,64,0,0,0,0,0,0,3,0,0,0,0,0,0,0,0,0,0,0,0,0,0,0,0,0,0,0,0,0,0,0,0,0,0,0,0,0,0,0,0,0,0,0,0,0,0,0,0,0,0,0,0,0,0,0,0,0,0,0,0,0,0,0,0,0,0,0,0,0,0,0,0,0,0,0,0,0,0,0,0,0,0,0,0,0,0,0,0,2,0,0,0,0,0,0,0,0,0] (.tt true))
(.call 2 [.int .i64] (.cons (.lit 1) .nil) 173
(.br (.eq (.var 173) (.lit 0))
(.call 3 [.int .i64] (.zs [0,11,64,0] (.consb (.tt false) (.zs [0,0,0,0] .nil))) 174
(.br (.eq (.var 174) (.lit 0))
(.call 6 (kSc) (.cons (.lit 0) .nil) 175
(.br (.pv 180 [0,0,0,0,0,0] (.tt true))
(.call 5 [.int .i64,.bool] (.zs [0,0,11,64,0] (.consb (.tt false) (.zs [0,0,0,0] .nil))) 181
(.br (.and (.beq (.bvar 182) (.tt false)) (.and (.eq (.var 181) (.lit 0)) (.tt true)))
(.call 8 (kTy) (.consl (.lapp .lnil (.zs [0,11,64,0] (.consb (.tt false) (.zs [0,0,0,0] .nil)))) (.zs [0,0,0,0,0,0,0,0,0,1,0,0,0,0,0,0,0,0] .nil)) 183
(.br (.pv 191 [0,0,0,0,0,0,0,0,1] (.tt true))
(.call 7 [.int .i8,.bool] (.cons (.lit 11) .nil) 192
(.call 2 [.int .i64] (.cons (.lit 2) .nil) 194
(.br (.eq (.var 194) (.lit 1))
(.call 3 [.int .i64] (.zs [6,0,0,0] (.consb (.tt false) (.zs [0,0,0,0] .nil))) 195
(.br (.eq (.var 195) (.lit 1))
(.call 4 [.int .i64] (.cons (.lit 1) .nil) 196
(.br (.eq (.var 196) (.lit 0))
(.br (.pv 180 [0,0,0,0,0,0] (.tt true))
(.call 5 [.int .i64,.bool] (.zs [1,6,0,0,0] (.consb (.tt false) (.zs [0,0,0,0] .nil))) 197
(.br (.and (.beq (.bvar 198) (.tt false)) (.and (.eq (.var 197) (.lit 0)) (.tt true)))
(.call 7 [.int .i8,.bool] (.cons (.lit 0) .nil) 199
(.leaf (.consl (.lapp (.lapp .lnil (.consb (.tt true) .nil)) (.consb (.tt true) .nil)) (.consl (.lapp (.lapp .lnil (.zs [0,0,0,0,0,0,0,0,0,2,0,0,0,0,0,0,0,0,0,0,0,0,0,0,0,0,0,0,0,0,0,0,0,0,0,0,0,0,0,0,0,0,0,0,0,0,0,0,0,0,0,0,0,0,0,0,0,0,0,0,0,0,0,0,0,0,0,0,0,0,0,0,0,0,0,0,0,0,0,0,0,0,0,0,0,0,0,0,0,0,3,0,0,0,0,0,0,64,64,1,0,0,0,0,0,0,0,0,1,0,0,0,0,0,0,0,0,1,0,0,0,0,0,0,0,0,1,0,0,0,0,0,0,0,0,1,0,0,0,0,0,0,0,0,1,0,0,0,0,0,0,0,0,1,0,0,0,0,0,0,0,0,1,0,0,0,0,0,0,0,0] .nil)) (.zs [1,0,0,0,0,0,0,0,0,2,0,0,0,0,0,0,0,0,0,0,0,0,0,0,0,0,0,0,0,0,0,0,0,0,0,0,0,0,0,0,0,0,0,0,0,0,0,0,0,0,0,0,0,0,0,0,0,0,0,0,0,0,0,0,0,0,0,0,0,0,0,0,0,0,0,0,0,0,0,0,0,0,0,0,0,0,0,0,0,0,3,0,0,0,0,0,0,64,64,1,0,0,0,0,0,0,0,0,1,0,0,0,0,0,0,0,0,1,0,0,0,0,0,0,0,0,1,0,0,0,0,0,0,0,0,1,0,0,0,0,0,0,0,0,1,0,0,0,0,0,0,0,0,1,0,0,0,0,0,0,0,0,1,0,0,0,0,0,0,0,0] .nil)) (.cons (.lit 0) (.cons (.lit 0) .nil))))))
(.stuck 260)))
(.stuck 260))
(.stuck 260)))
(.stuck 260)))
(.stuck 260))))
(.stuck 260)))
(.stuck 260)))
(.stuck 260)))
(.stuck 260)))
(.stuck 260)))
(.stuck 260)))
(.stuck 260)))
def vy:Spec:={F:=fun k=>match k with | 0=>bs | 1=>bZ | 2=>dC | 3=>eQ | 4=>lP | 5=>cv | 6=>bo | 7=>db | 8=>cX | 9=>ek | _=>fun _=>[],pre:=fun k=>match k with | 0=>bh | 8=>cH | _=>fun _=>True,hw:=sHw,hx:=sHx,hi:=sHi}
def aS:List (Nat×List Pl):=[((800000+11),[.only [0],.only [0,0],.only [4],.only [0,0]]),((800000+32),[.only [],.only [0,0,0,0,0,0,0,0,0,2,0,0,0,0,0,0,0,0,0,0,0,0,0,0,0,0,0,0,0,0,0,0,0,0,0,0,0,0,0,0,0,0,0,0,0,0,0,0,0,0,0,0,0,0,0,0,0,0,0,0,0,0,0,0,0,0,0,0,0,0,0,0,0,0,0,0,0,0,0,0,0,0,0,0,0,0,0,0,0,0,3,0,0,0,0,0,0,64,64,1,0,0,0,0,0,0,0,0,1,0,0,0,0,0,0,0,0,1,0,0,0,0,0,0,0,0,1,0,0,0,0,0,0,0,0,1,0,0,0,0,0,0,0,0,1,0,0,0,0,0,0,0,0,1,0,0,0,0,0,0,0,0,1,0,0,0,0,0,0,0,0]]),((800000+76),[.only [0],.only [0,0,0,0,0,0]]),((800000+13),[.only [0,11,64,0,0,0,0,0,0],.only [0],.only [6,0,0,0,0,0,0,0,0],.only [1],.only [1,0,0,8,0,0,1,0,0],.only [2]]),((800000+36),[.only [0,0,11,64,0,0,0,0,0,0],.only [0,0],.only [1,6,0,0,0,0,0,0,0,0],.only [0,0]]),((800000+77),[.only [1],.only [0],.only [2],.only [1]]),((800000+37),[.only [1],.only [0],.only [2],.only [1]]),((800000+79),[.only [],.only [1,0,0,0,0,0,0,0,0]]),((800000+18),[.only [],.only [0]])]
set_option maxRecDepth 100000 in
theorem aeo:am tys_VyH [dN 0,eP 1,ly 2,nr 3,xS 4,gD 5,eh 6,ju 7,jr 8,lu 9] [(38,Tryz.f38,[]++aS,[]),(86,Tryz.f86,[]++aS,[]),(87,Tryz.f87,[]++aS,[]),(78,Tryz.f78,[]++aS,[]),(80,Tryz.f80,[]++aS,[])] ([]++aS) [] 200 Tryz.f12 [.agg [.lit .i64 0,.rl (kN 9 220090000) 39 [[0,11,64,0,0,0,0,0,0],[6,0,0,0,0,0,0,0,0]]]] [.agg [.sl [none] 4,.sl kSt 54],.one (.int .i64),.one (.int .i64)] true [] sT_vrunA:=⟨by kernel_rfl,by kernel_rfl,by kernel_rfl⟩
set_option maxRecDepth 100000 in
set_option maxHeartbeats 8000000 in
theorem ad4 (ρ:Env) (g:af ρ 0 []=[]):sT_vrunA.asks vy (fun ρ e=>e.D ρ=ix []) ρ fun _ _=>False:=by
 simp only[sT_vrunA,vy,cg,d_Ty,kSc,kSta,kTy,bs,bZ,dC,eQ,lP,cv,bo,db,cX,ek,dJ,lh,nl,xN,gA,ef,jo,jl,ix,bh,cH,Tr.asks,ai,okDs,okD,eqs,E.I,E.B,E.L,E.R,E.D,E.vs,E.gs,E.ins,E.sv,E.tn,E.iv,E.zs,E.pv,Nat.reduceSub,dI,dB,dL,varD,af,S1,Nat.reduceAdd,-eq_self,aj,Prog.eta,Ins.eta,aa,ab]
 refine⟨?_,?_⟩
 ·exact Nat.le_of_ble_eq_true (by kernel_rfl)
 intro e; (try simp only[e,aj,Prog.eta,Ins.eta,aa,ab,-eq_self]); clear e
 constructor<;>intro c0
 intro e; (try simp only[e,aj,Prog.eta,Ins.eta,aa,ab,-eq_self]); clear e
 constructor<;>intro c1
 intro e; (try simp only[e,aj,Prog.eta,Ins.eta,aa,ab,-eq_self]); clear e
 constructor<;>intro c2
 intro e; (try simp only[e,aj,Prog.eta,Ins.eta,aa,ab,-eq_self]); clear e
 constructor<;>intro c3
 intro e; (try simp only[e,aj,Prog.eta,Ins.eta,aa,ab,-eq_self]); clear e
 constructor<;>intro c4
 intro e; (try simp only[e,aj,Prog.eta,Ins.eta,aa,ab,-eq_self]); clear e
 constructor<;>intro c5
 refine⟨?_,?_⟩
 ·exact rfl
 intro e; (try simp only[e,aj,Prog.eta,Ins.eta,aa,ab,-eq_self]); clear e
 constructor<;>intro c6
 intro e; (try simp only[e,aj,Prog.eta,Ins.eta,aa,ab,-eq_self]); clear e
 intro e; (try simp only[e,aj,Prog.eta,Ins.eta,aa,ab,-eq_self]); clear e
 constructor<;>intro c7
 intro e; (try simp only[e,aj,Prog.eta,Ins.eta,aa,ab,-eq_self]); clear e
 constructor<;>intro c8
 intro e; (try simp only[e,aj,Prog.eta,Ins.eta,aa,ab,-eq_self]); clear e
 constructor<;>intro c9
 constructor<;>intro c10
 intro e; (try simp only[e,aj,Prog.eta,Ins.eta,aa,ab,-eq_self]); clear e
 constructor<;>intro c11
 intro e; (try simp only[e,aj,Prog.eta,Ins.eta,aa,ab,-eq_self]); clear e
 ·rfl
 ·exact Bool.eq_false_iff.1 c11 (by kernel_rfl)
 ·exact Bool.eq_false_iff.1 c10 (by kernel_rfl)
 ·exact Bool.eq_false_iff.1 c9 (by kernel_rfl)
 ·exact Bool.eq_false_iff.1 c8 (by kernel_rfl)
 ·exact Bool.eq_false_iff.1 c7 (by kernel_rfl)
 ·exact Bool.eq_false_iff.1 c6 (by kernel_rfl)
 ·exact Bool.eq_false_iff.1 c5 (by kernel_rfl)
 ·exact Bool.eq_false_iff.1 c4 (by kernel_rfl)
 ·exact Bool.eq_false_iff.1 c3 (by kernel_rfl)
 ·exact Bool.eq_false_iff.1 c2 (by kernel_rfl)
 ·exact Bool.eq_false_iff.1 c1 (by kernel_rfl)
 ·exact Bool.eq_false_iff.1 c0 (by kernel_rfl)
theorem aeG {sp:Spec} {key:Nat} (hF:sp.F key=ix) (hP:sp.pre key=fun _=>True:=by rfl) (hH:∀w,sp.hw w→sHw w:=by exact fun _ h=>h):SmOk Tryz.prog sp (oU key):=
 an (s:=oU key) (hW:=hH) hF hP (by kernel_rfl) dH (smc (iq rfl rfl) (smc (lF rfl) (smc (pm rfl) (smc (vQ rfl) (smc (aeJ rfl) (smc (lH rfl) (smc (gE rfl) (smc (po rfl) (smc (pk rfl rfl) (smc (tS rfl) sm0)))))))))) Tryz.func12 (fnc Tryz.func38 (fnc Tryz.func86 (fnc Tryz.func87 (fnc Tryz.func78 (fnc Tryz.func80 fn0))))) aeo (.inl rfl) (fun hp ρ g=>ad4 ρ g)
def oT (key:Nat):Sm:=⟨12,key,[.agg [.lit .i64 0,.rl (kN 9 220090000) 39 [[6,0,0,0,0,0,0,0,0]]]],[.agg [.sl [none] 4,.sl kSt 54],.one (.int .i64),.one (.int .i64)],true⟩
def iw:List Dt→List Dt
 | []=>[.l [],.l [],.z 0,.z 110]
 | _=>[]
set_option maxRecDepth 100000 in
def sT_vrunB:Tr:=
(.call 0 [.int .i64,.int .i64] (.cons (.lit 0) (.consl (.lapp .lnil (.zs [6,0,0,0] (.consb (.tt false) (.zs [0,0,0,0] .nil)))) .nil)) 0
(.br (.and (.eq (.var 1) (.lit 0)) (.and (.eq (.var 0) (.lit 0)) (.tt true)))
(.call 1 (kSta) .nil 2
(.br (.pv 172 [0,0,0,0,0,0,0,0,1,0,0,0,0,0,0,0,0,1,0,0,0,0,0,0,0,0,1,0,0,0,0,0,0,0,0,1,0,0,0,0,0,0,0,0,1,0,0,0,0,0,0,0,0,1,0,0,0,0,0,0,0,0,1,0,0,0,0,0,0,0,0,1,64,64,0,0,0,0,0,0,3,0,0,0,0,0,0,0,0,0,0,0,0,0,0,0,0,0,0,0,0,0,0,0,0,0,0,0,0,0,0,0,0,0,0,0,0,0,0,0,0,0,0,0,0,0,0,0,0,0,0,0,0,0,0,0,0,0,0,0,0,0,0,0,0,0,0,0,0,0,0,0,0,0,0,0,0,0,0,0,0,2,0,0,0,0,0,0,0,0,0] (.tt true))
(.call 2 [.int .i64] (.cons (.lit 1) .nil) 173
(.br (.eq (.var 173) (.lit 0))
(.call 3 [.int .i64] (.zs [6,0,0,0] (.consb (.tt false) (.zs [0,0,0,0] .nil))) 174
(.br (.eq (.var 174) (.lit 1))
(.call 4 [.int .i64] (.cons (.lit 1) .nil) 175
(.br (.eq (.var 175) (.lit 0))
(.leaf (.consl .lnil (.consl .lnil (.cons (.lit 0) (.cons (.lit 110) .nil)))))
(.stuck 260)))
(.stuck 260)))
(.stuck 260)))
(.stuck 260)))
(.stuck 260)))
def vx:Spec:={F:=fun k=>match k with | 0=>bs | 1=>bZ | 2=>dC | 3=>eQ | 4=>lP | 5=>cv | 6=>bo | 7=>db | 8=>cX | 9=>ek | _=>fun _=>[],pre:=fun k=>match k with | 0=>bh | 8=>cH | _=>fun _=>True,hw:=sHw,hx:=sHx,hi:=sHi}
set_option maxRecDepth 100000 in
theorem aen:am tys_VyH [dN 0,eP 1,ly 2,nr 3,xS 4,gD 5,eh 6,ju 7,jr 8,lu 9] [(38,Tryz.f38,[]++aS,[]),(86,Tryz.f86,[]++aS,[]),(87,Tryz.f87,[]++aS,[]),(78,Tryz.f78,[]++aS,[]),(80,Tryz.f80,[]++aS,[])] ([]++aS) [] 200 Tryz.f12 [.agg [.lit .i64 0,.rl (kN 9 220090000) 39 [[6,0,0,0,0,0,0,0,0]]]] [.agg [.sl [none] 4,.sl kSt 54],.one (.int .i64),.one (.int .i64)] true [] sT_vrunB:=⟨by kernel_rfl,by kernel_rfl,by kernel_rfl⟩
set_option maxRecDepth 100000 in
set_option maxHeartbeats 8000000 in
theorem ad3 (ρ:Env) (g:af ρ 0 []=[]):sT_vrunB.asks vx (fun ρ e=>e.D ρ=iw []) ρ fun _ _=>False:=by
 simp only[sT_vrunB,vx,cg,d_Ty,kSc,kSta,kTy,bs,bZ,dC,eQ,lP,cv,bo,db,cX,ek,dJ,lh,nl,xN,gA,ef,jo,jl,iw,bh,cH,Tr.asks,ai,okDs,okD,eqs,E.I,E.B,E.L,E.R,E.D,E.vs,E.gs,E.ins,E.sv,E.tn,E.iv,E.zs,E.pv,Nat.reduceSub,dI,dB,dL,varD,af,S1,Nat.reduceAdd,-eq_self,aj,Prog.eta,Ins.eta,aa,ab]
 refine⟨?_,?_⟩
 ·exact Nat.le_of_ble_eq_true (by kernel_rfl)
 intro e; (try simp only[e,aj,Prog.eta,Ins.eta,aa,ab,-eq_self]); clear e
 constructor<;>intro c0
 intro e; (try simp only[e,aj,Prog.eta,Ins.eta,aa,ab,-eq_self]); clear e
 constructor<;>intro c1
 intro e; (try simp only[e,aj,Prog.eta,Ins.eta,aa,ab,-eq_self]); clear e
 constructor<;>intro c2
 intro e; (try simp only[e,aj,Prog.eta,Ins.eta,aa,ab,-eq_self]); clear e
 constructor<;>intro c3
 intro e; (try simp only[e,aj,Prog.eta,Ins.eta,aa,ab,-eq_self]); clear e
 constructor<;>intro c4
 ·rfl
 ·exact Bool.eq_false_iff.1 c4 (by kernel_rfl)
 ·exact Bool.eq_false_iff.1 c3 (by kernel_rfl)
 ·exact Bool.eq_false_iff.1 c2 (by kernel_rfl)
 ·exact Bool.eq_false_iff.1 c1 (by kernel_rfl)
 ·exact Bool.eq_false_iff.1 c0 (by kernel_rfl)
theorem aeF {sp:Spec} {key:Nat} (hF:sp.F key=iw) (hP:sp.pre key=fun _=>True:=by rfl) (hH:∀w,sp.hw w→sHw w:=by exact fun _ h=>h):SmOk Tryz.prog sp (oT key):=
 an (s:=oT key) (hW:=hH) hF hP (by kernel_rfl) dH (smc (iq rfl rfl) (smc (lF rfl) (smc (pm rfl) (smc (vQ rfl) (smc (aeJ rfl) (smc (lH rfl) (smc (gE rfl) (smc (po rfl) (smc (pk rfl rfl) (smc (tS rfl) sm0)))))))))) Tryz.func12 (fnc Tryz.func38 (fnc Tryz.func86 (fnc Tryz.func87 (fnc Tryz.func78 (fnc Tryz.func80 fn0))))) aen (.inl rfl) (fun hp ρ g=>ad3 ρ g)
def oS (key:Nat):Sm:=⟨12,key,[.agg [.lit .i64 4,.rl (kN 9 220090000) 39 [[1,0,0,8,0,0,1,0,0],[6,0,0,0,0,0,0,0,0]]]],[.agg [.sl [none] 4,.sl kSt 54],.one (.int .i64),.one (.int .i64)],true⟩
def iu:List Dt→List Dt
 | []=>[.l [],.l [],.z 0,.z 111]
 | _=>[]
set_option maxRecDepth 100000 in
def sT_vrunD:Tr:=
(.call 0 [.int .i64,.int .i64] (.cons (.lit 4) (.consl (.lapp (.lapp .lnil (.zs [1,0,0,8] (.consb (.tt false) (.zs [0,1,0,0] .nil)))) (.zs [6,0,0,0] (.consb (.tt false) (.zs [0,0,0,0] .nil)))) .nil)) 0
(.br (.and (.eq (.var 1) (.lit 0)) (.and (.eq (.var 0) (.lit 0)) (.tt true)))
(.call 1 (kSta) .nil 2
(.br (.pv 172 [0,0,0,0,0,0,0,0,1,0,0,0,0,0,0,0,0,1,0,0,0,0,0,0,0,0,1,0,0,0,0,0,0,0,0,1,0,0,0,0,0,0,0,0,1,0,0,0,0,0,0,0,0,1,0,0,0,0,0,0,0,0,1,0,0,0,0,0,0,0,0,1,64,64,0,0,0,0,0,0,3,0,0,0,0,0,0,0,0,0,0,0,0,0,0,0,0,0,0,0,0,0,0,0,0,0,0,0,0,0,0,0,0,0,0,0,0,0,0,0,0,0,0,0,0,0,0,0,0,0,0,0,0,0,0,0,0,0,0,0,0,0,0,0,0,0,0,0,0,0,0,0,0,0,0,0,0,0,0,0,0,2,0,0,0,0,0,0,0,0,0] (.tt true))
(.call 2 [.int .i64] (.cons (.lit 1) .nil) 173
(.br (.eq (.var 173) (.lit 0))
(.call 3 [.int .i64] (.zs [1,0,0,8] (.consb (.tt false) (.zs [0,1,0,0] .nil))) 174
(.br (.eq (.var 174) (.lit 2))
(.call 4 [.int .i64] (.cons (.lit 2) .nil) 175
(.br (.eq (.var 175) (.lit 1))
(.call 6 (kSc) (.cons (.lit 0) .nil) 176
(.br (.pv 181 [0,0,0,0,0,0] (.tt true))
(.call 5 [.int .i64,.bool] (.zs [0,1,0,0,8] (.consb (.tt false) (.zs [0,1,0,0] .nil))) 182
(.call 9 [.bool] .nil 184
(.br (.beq (.bvar 184) (.tt false))
(.leaf (.consl .lnil (.consl .lnil (.cons (.lit 0) (.cons (.lit 111) .nil)))))
(.stuck 260))))
(.stuck 260)))
(.stuck 260)))
(.stuck 260)))
(.stuck 260)))
(.stuck 260)))
(.stuck 260)))
def vv:Spec:={F:=fun k=>match k with | 0=>bs | 1=>bZ | 2=>dC | 3=>eQ | 4=>lP | 5=>cv | 6=>bo | 7=>db | 8=>cX | 9=>ek | _=>fun _=>[],pre:=fun k=>match k with | 0=>bh | 8=>cH | _=>fun _=>True,hw:=sHw,hx:=sHx,hi:=sHi}
set_option maxRecDepth 100000 in
theorem aem:am tys_VyH [dN 0,eP 1,ly 2,nr 3,xS 4,gD 5,eh 6,ju 7,jr 8,lu 9] [(38,Tryz.f38,[]++aS,[]),(86,Tryz.f86,[]++aS,[]),(87,Tryz.f87,[]++aS,[]),(78,Tryz.f78,[]++aS,[]),(80,Tryz.f80,[]++aS,[])] ([]++aS) [] 200 Tryz.f12 [.agg [.lit .i64 4,.rl (kN 9 220090000) 39 [[1,0,0,8,0,0,1,0,0],[6,0,0,0,0,0,0,0,0]]]] [.agg [.sl [none] 4,.sl kSt 54],.one (.int .i64),.one (.int .i64)] true [] sT_vrunD:=⟨by kernel_rfl,by kernel_rfl,by kernel_rfl⟩
set_option maxRecDepth 100000 in
set_option maxHeartbeats 8000000 in
theorem ad2 (ρ:Env) (g:af ρ 0 []=[]):sT_vrunD.asks vv (fun ρ e=>e.D ρ=iu []) ρ fun _ _=>False:=by
 simp only[sT_vrunD,vv,cg,d_Ty,kSc,kSta,kTy,bs,bZ,dC,eQ,lP,cv,bo,db,cX,ek,dJ,lh,nl,xN,gA,ef,jo,jl,iu,bh,cH,Tr.asks,ai,okDs,okD,eqs,E.I,E.B,E.L,E.R,E.D,E.vs,E.gs,E.ins,E.sv,E.tn,E.iv,E.zs,E.pv,Nat.reduceSub,dI,dB,dL,varD,af,S1,Nat.reduceAdd,-eq_self,aj,Prog.eta,Ins.eta,aa,ab]
 refine⟨?_,?_⟩
 ·exact Nat.le_of_ble_eq_true (by kernel_rfl)
 intro e; (try simp only[e,aj,Prog.eta,Ins.eta,aa,ab,-eq_self]); clear e
 constructor<;>intro c0
 intro e; (try simp only[e,aj,Prog.eta,Ins.eta,aa,ab,-eq_self]); clear e
 constructor<;>intro c1
 intro e; (try simp only[e,aj,Prog.eta,Ins.eta,aa,ab,-eq_self]); clear e
 constructor<;>intro c2
 intro e; (try simp only[e,aj,Prog.eta,Ins.eta,aa,ab,-eq_self]); clear e
 constructor<;>intro c3
 intro e; (try simp only[e,aj,Prog.eta,Ins.eta,aa,ab,-eq_self]); clear e
 constructor<;>intro c4
 intro e; (try simp only[e,aj,Prog.eta,Ins.eta,aa,ab,-eq_self]); clear e
 constructor<;>intro c5
 intro e; (try simp only[e,aj,Prog.eta,Ins.eta,aa,ab,-eq_self]); clear e
 intro e; (try simp only[e,aj,Prog.eta,Ins.eta,aa,ab,-eq_self]); clear e
 constructor<;>intro c6
 ·rfl
 ·exact Bool.eq_false_iff.1 c6 (by kernel_rfl)
 ·exact Bool.eq_false_iff.1 c5 (by kernel_rfl)
 ·exact Bool.eq_false_iff.1 c4 (by kernel_rfl)
 ·exact Bool.eq_false_iff.1 c3 (by kernel_rfl)
 ·exact Bool.eq_false_iff.1 c2 (by kernel_rfl)
 ·exact Bool.eq_false_iff.1 c1 (by kernel_rfl)
 ·exact Bool.eq_false_iff.1 c0 (by kernel_rfl)
theorem aeE {sp:Spec} {key:Nat} (hF:sp.F key=iu) (hP:sp.pre key=fun _=>True:=by rfl) (hH:∀w,sp.hw w→sHw w:=by exact fun _ h=>h):SmOk Tryz.prog sp (oS key):=
 an (s:=oS key) (hW:=hH) hF hP (by kernel_rfl) dH (smc (iq rfl rfl) (smc (lF rfl) (smc (pm rfl) (smc (vQ rfl) (smc (aeJ rfl) (smc (lH rfl) (smc (gE rfl) (smc (po rfl) (smc (pk rfl rfl) (smc (tS rfl) sm0)))))))))) Tryz.func12 (fnc Tryz.func38 (fnc Tryz.func86 (fnc Tryz.func87 (fnc Tryz.func78 (fnc Tryz.func80 fn0))))) aem (.inl rfl) (fun hp ρ g=>ad2 ρ g)
def oR (key:Nat):Sm:=⟨10,key,[],[.one .bool],false⟩
def ir:List Dt→List Dt
 | []=>[.z (b2i true)]
 | _=>[]
def sT_vwake:Tr:=
(.call 0 ([.sl [none] 4,.sl kSt 54]++[.int .i64]++[.int .i64]) .nil 0
(.call 1 ([.sl [none] 4,.sl kSt 54]++[.int .i64]++[.int .i64]) .nil 4
(.call 2 ([.sl [none] 4,.sl kSt 54]++[.int .i64]++[.int .i64]) .nil 8
(.br (.eq (.var 3) (.lit 0))
(.br (.eq (.var 7) (.lit 110))
(.br (.eq (.var 10) (.lit 0))
(.leaf (.consb (.eq (.var 11) (.lit 111)) .nil))
(.leaf (.consb (.tt false) .nil)))
(.leaf (.consb (.tt false) .nil)))
(.leaf (.consb (.tt false) .nil))))))
def vu:Spec:={F:=fun k=>match k with | 0=>ix | 1=>iw | 2=>iu | _=>fun _=>[],pre:=fun k=>match k with | _=>fun _=>True,hw:=sHw,hx:=sHx,hi:=sHi}
set_option maxRecDepth 100000 in
theorem ael:am tys_VyH [oU 0,oT 1,oS 2] [(34,Tryz.f34,[],[])] [] [] 200 Tryz.f10 [] [.one .bool] false [] sT_vwake:=⟨by kernel_rfl,by kernel_rfl,by kernel_rfl⟩
set_option maxRecDepth 100000 in
set_option maxHeartbeats 8000000 in
theorem ad1 (ρ:Env) (g:af ρ 0 []=[]):sT_vwake.asks vu (fun ρ e=>e.D ρ=ir []) ρ fun _ _=>False:=by
 simp only[sT_vwake,vu,ix,iw,iu,ir,Tr.asks,ai,okDs,okD,eqs,E.I,E.B,E.L,E.R,E.D,E.vs,E.gs,E.ins,E.sv,E.tn,E.iv,E.zs,E.pv,Nat.reduceSub,dI,dB,dL,varD,af,S1,Nat.reduceAdd,-eq_self,aj,Prog.eta,Ins.eta,aa,ab]
 intro e; (try simp only[e,aj,Prog.eta,Ins.eta,aa,ab,-eq_self]); clear e
 intro e; (try simp only[e,aj,Prog.eta,Ins.eta,aa,ab,-eq_self]); clear e
 intro e; (try simp only[e,aj,Prog.eta,Ins.eta,aa,ab,-eq_self]); clear e
 constructor<;>intro c0
 constructor<;>intro c1
 constructor<;>intro c2
 ·rfl
 ·exact absurd c2 (by decide)
 ·exact absurd c1 (by decide)
 ·exact absurd c0 (by decide)
theorem aeD {sp:Spec} {key:Nat} (hF:sp.F key=ir) (hP:sp.pre key=fun _=>True:=by rfl) (hH:∀w,sp.hw w→sHw w:=by exact fun _ h=>h):SmOk Tryz.prog sp (oR key):=
 an (s:=oR key) (hW:=hH) hF hP (by kernel_rfl) dH (smc (aeG rfl) (smc (aeF rfl) (smc (aeE rfl) sm0))) Tryz.func10 (fnc Tryz.func34 fn0) ael (.inl rfl) (fun hp ρ g=>ad1 ρ g)
def lA (key:Nat):Sm:=⟨9,key,[.agg rS],[.one .bool],false⟩
def lk (pr:Prog):List Dt:=[.z (b2i (decide ((100:Int)<(pr.l.length:Int))))]
def eT:List Dt→List Dt
 | [.z x0,.l x1]=>lk ⟨x0,x1⟩
 | _=>[]
def sT_lgreat:Tr:=
(.leaf (.consb (.lt (.lit 100) (.len (.lvar 1))) .nil))
def qZ:Spec:={F:=fun k=>match k with | _=>fun _=>[],pre:=fun k=>match k with | _=>fun _=>True}
set_option maxRecDepth 100000 in
theorem aa3:am tys_VyH [] [] [] [] 200 Tryz.f9 [.agg rS] [.one .bool] false [.int .i64,.list (kN 9 220090000)] sT_lgreat:=⟨by kernel_rfl,by kernel_rfl,by kernel_rfl⟩
def dM:List Dt→Prop
 | [.z x0,.l x1]=>let f (pr:Prog):Prop:=pr.l.length≤maxLen; f ⟨x0,x1⟩
 | _=>False
set_option maxRecDepth 100000 in
set_option maxHeartbeats 8000000 in
theorem aaO (pr:Prog) (hpr:Prog.ok pr) (hp:dM [.z pr.ctx,.l pr.l]) (ρ:Env) (g:af ρ 0 [.int .i64,.list (kN 9 220090000)]=[.z pr.ctx,.l pr.l]):sT_lgreat.asks qZ (fun ρ e=>e.D ρ=eT [.z pr.ctx,.l pr.l]) ρ fun _ _=>False:=by
 simp only[dM,b2i_one,aj,Prog.eta,Ins.eta,aa,ab] at hp
 simp only[af,varD,List.cons.injEq,Dt.z.injEq,Dt.l.injEq,b2i_eq_iff,Nat.reduceAdd,and_true] at g
 simp only[sT_lgreat,qZ,eT,lk,Tr.asks,ai,okDs,okD,eqs,E.I,E.B,E.L,E.R,E.D,E.vs,E.gs,E.ins,E.sv,E.tn,E.iv,E.zs,E.pv,Nat.reduceSub,dI,dB,dL,varD,af,S1,Nat.reduceAdd,-eq_self,aj,Prog.eta,Ins.eta,aa,ab,g]
 ·try rfl
theorem abR {sp:Spec} {key:Nat} (hF:sp.F key=eT) (hP:sp.pre key=dM):SmOk Tryz.prog sp (lA key):=
 an (s:=lA key) hF hP (by kernel_rfl) dH (sm0) Tryz.func9 fn0 aa3 (.inr (.inl ⟨(fun xs h L hL=>by unfold dM at h; split at h<;>first | exact h.elim | (simp at hL; subst hL; exact h)),rfl⟩)) (fun x0 gx0 x1 gx1 hp ρ g=>aaO ⟨x0,x1⟩ ⟨gx0,gx1⟩ hp ρ g)
end Go.Proofs.YtfkhblmeioiciaaGreatDoor
