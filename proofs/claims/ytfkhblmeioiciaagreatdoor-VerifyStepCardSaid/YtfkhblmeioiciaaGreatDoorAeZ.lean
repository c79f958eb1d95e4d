import Derived.Test.YtfkhblmeioiciaaGreatDoorRows
import Derived.Test.YtfkhblmeioiciaaGreatDoorLib
import Derived.WalkKit
import Derived.WalkSpells
import Derived.WalkLawsBesides
import Derived.Laws.EntriesVeiled
import Derived.Test.YtfkhblmeioiciaaGreatDoorAdZ
import Derived.Test.YtfkhblmeioiciaaGreatDoorProg
import Derived.Laws.Externs
import Derived.Test.YtfkhblmeioiciaaGreatDoorFrame
import Derived.Laws.OwnMore
import Derived.Deep.RegionHeld3
import Derived.Deep.RegionWith
import Derived.Deep.DeepCutAuto
import Derived.Deep.CutBlock
import Derived.Lib.BitFns
import Derived.ChangeSlices
import Derived.ChangeSame
import Derived.ChangeArms
import Derived.Deep.Slices
set_option maxRecDepth 100000
set_option maxHeartbeats 8000000
set_option linter.defProp false
set_option linter.unusedVariables false
set_option linter.unusedSimpArgs false
namespace Go.Proofs.YtfkhblmeioiciaaGreatDoor
open Go.RowKit
def fY (a:Int):Bool:=a==32||a==64
def mF (a:Int):Bool:=a==8||a==16||a==32||a==64
def zcut (v a:Int):Int:=if a=8 then v % 256 else if a=16 then v % 65536 else if a=32 then v % 4294967296 else v
def zsgn (v b:Int):Int:=if v % (2*b)<b then v % (2*b) else 18446744073709551616-2*b+v % (2*b)
def tR (v a:Int):Int:=if a=8 then zsgn v 128 else if a=16 then zsgn v 32768 else if a=32 then zsgn v 2147483648 else v
theorem xA (a:Int) (w:World):
  Calls Tryz.prog 63 #[.int .i8 a] w fun e w'=>e=.returned (.bool (fY a))/\w=w':=by
 go_enter Tryz.func63,Tryz.ntmps63
 go_wp2
 all_goals go_ret
 all_goals (refine⟨qu ?_,rfl⟩;simp_all [fY])
theorem sH (a:Int) (w:World):
  Calls Tryz.prog 178 #[.int .i8 a] w fun e w'=>e=.returned (.bool (fY a))/\w=w':=by
 go_enter Tryz.func178,Tryz.ntmps178
 go_wp2
 all_goals go_ret
 all_goals (refine⟨qu ?_,rfl⟩;simp_all [fY])
theorem kW (a:Int) (w:World):
  Calls Tryz.prog 215 #[.int .i8 a] w fun e w'=>e=.returned (.bool (mF a))/\w=w':=by
 go_enter Tryz.func215,Tryz.ntmps215
 go_wp2
 all_goals go_ret
 all_goals (refine⟨qu ?_,rfl⟩;simp_all [mF])
theorem aeu (v a:Int) (w:World) (h0:0<=v) (h1:v<=18446744073709551615):
  Calls Tryz.prog 64 #[.int .u64 v,.int .i8 a] w fun e w'=>e=.returned (.int .u64 (zcut v a))/\w=w':=by
 go_enter Tryz.func64,Tryz.ntmps64
 go_wp2
 all_goals go_ret
 all_goals (refine⟨bh ?_,rfl⟩)
 all_goals (simp only[aZ,beq_eq_false_iff_ne] at *;simp only[zcut,amr,bc, *];first | rfl | (simp;done) | (simp;omega))
theorem afC (v a:Int) (w:World) (h0:0<=v) (h1:v<=18446744073709551615):
  Calls Tryz.prog 124 #[.int .u64 v,.int .i8 a] w fun e w'=>e=.returned (.int .u64 (tR v a))/\w=w':=by
 go_enter Tryz.func124,Tryz.ntmps124
 go_wp2
 all_goals go_ret
 all_goals (refine⟨bh ?_,rfl⟩)
 all_goals (simp only[aZ,beq_eq_false_iff_ne] at *;simp only[tR,zsgn,amr,bc,w_i8,aoO,w_32,w_64, *];first | rfl | (simp;done) | (simp;split<;>omega))
theorem iL (v a:Int) (w:World) (h0:0<=v) (h1:v<=18446744073709551615):
  Calls Tryz.prog 168 #[.int .u64 v,.int .i8 a] w fun e w'=>e=.returned (.int .u64 (zcut v a))/\w=w':=by
 go_enter Tryz.func168,Tryz.ntmps168
 go_wp2_with (go_at_call 215;refine(kW _ _).mono ?_;rintro e w' ⟨rfl,rfl⟩)
 all_goals go_ret
 all_goals (refine⟨bh ?_,rfl⟩)
 ·rename_i h;simp at h;subst h;simp[zcut]
 ·rename_i hw h
  simp[mF] at hw h
  rcases hw with((rfl | rfl) | rfl) | rfl
  ·simp only[bc,zcut];simp;exact aoA v h0 h1
  ·simp only[bc,zcut];simp;exact aeS 16 (by omega) v h0 h1
  ·simp only[bc,zcut];simp;exact aeS 32 (by omega) v h0 h1
  ·omega
 ·rename_i hw
  simp[mF] at hw
  simp[zcut,hw]
theorem er (v a:Int) (h0:0<=v) (h1:v<=18446744073709551615):0<=zcut v a/\zcut v a<=18446744073709551615:=by
 unfold zcut;split<;>(try split)<;>(try split)<;>omega
theorem acS (v a:Int) (w:World) (h0:0<=v) (h1:v<=18446744073709551615):
  Calls Tryz.prog 179 #[.int .u64 v,.int .i8 a] w fun e w'=>e=.returned (.int .u64 (tR v a))/\w=w':=by
 obtain⟨hc1,hc2⟩:=er v a h0 h1
 by_cases hw:mF a=true
 ·have hw':=hw
  simp[mF] at hw'
  rcases hw' with((rfl | rfl) | rfl) | rfl
  all_goals
   go_enter Tryz.func179,Tryz.ntmps179
   go_wp2_with (first | (go_at_call 215;refine(kW _ _).mono ?_;rintro e w' ⟨rfl,rfl⟩) | (go_at_call 168;refine(iL _ _ _ (by omega) (by omega)).mono ?_;rintro e w' ⟨rfl,rfl⟩))
   all_goals go_ret
   all_goals (refine⟨bh ?_,rfl⟩)
  all_goals (rename_i hb;rw[and1 _ (by omega) (by omega)] at hb;simp[zcut] at hc1 hc2 hb;simp[zcut,tR,zsgn,bc];try (first | (split<;>omega) | omega))
 ·go_enter Tryz.func179,Tryz.ntmps179
  go_wp2_with (first | (go_at_call 215;refine(kW _ _).mono ?_;rintro e w' ⟨rfl,rfl⟩) | (go_at_call 168;refine(iL _ _ _ (by omega) (by omega)).mono ?_;rintro e w' ⟨rfl,rfl⟩))
  go_ret
  refine⟨bh ?_,rfl⟩
  simp[mF] at hw
  simp[tR,hw]
def fJ:Array Value:= #[.func (.func 111) #[] #[],.func (.func 112) #[] #[],.func (.func 113) #[] #[],.func (.func 114) #[] #[],.func (.func 115) #[] #[],.func (.func 116) #[] #[],.func (.func 117) #[] #[],.func (.func 118) #[] #[],.func (.func 119) #[] #[],.func (.func 120) #[] #[],.func (.func 121) #[] #[],.func (.func 122) #[] #[],.func (.func 123) #[] #[]]
theorem ak3 (w:World):
  Calls Tryz.prog 65 #[] w fun e w'=>e=.returned (.agg fJ)/\Below w.heap.size w w':=by
 go_enter Tryz.func65,Tryz.ntmps65
 go_wp2
 exact bodyPost_ret (by simp[results,Tryz.results65,go_sem];rfl) rfl ⟨rfl,(Below.refl _ _).alloc (Nat.le_refl _) _⟩
theorem ix0 (W:World):(Instr.index 128 (.agg fJ) (.int .i8 0)).run Tryz.prog W=.ok (.func (.func 111) #[] #[]) W:=by kernel_rfl
theorem ix1 (W:World):(Instr.index 128 (.agg fJ) (.int .i8 1)).run Tryz.prog W=.ok (.func (.func 112) #[] #[]) W:=by kernel_rfl
theorem ix2 (W:World):(Instr.index 128 (.agg fJ) (.int .i8 2)).run Tryz.prog W=.ok (.func (.func 113) #[] #[]) W:=by kernel_rfl
theorem ix3 (W:World):(Instr.index 128 (.agg fJ) (.int .i8 3)).run Tryz.prog W=.ok (.func (.func 114) #[] #[]) W:=by kernel_rfl
theorem ix4 (W:World):(Instr.index 128 (.agg fJ) (.int .i8 4)).run Tryz.prog W=.ok (.func (.func 115) #[] #[]) W:=by kernel_rfl
theorem ix5 (W:World):(Instr.index 128 (.agg fJ) (.int .i8 5)).run Tryz.prog W=.ok (.func (.func 116) #[] #[]) W:=by kernel_rfl
theorem ix6 (W:World):(Instr.index 128 (.agg fJ) (.int .i8 6)).run Tryz.prog W=.ok (.func (.func 117) #[] #[]) W:=by kernel_rfl
theorem ix7 (W:World):(Instr.index 128 (.agg fJ) (.int .i8 7)).run Tryz.prog W=.ok (.func (.func 118) #[] #[]) W:=by kernel_rfl
theorem ix8 (W:World):(Instr.index 128 (.agg fJ) (.int .i8 8)).run Tryz.prog W=.ok (.func (.func 119) #[] #[]) W:=by kernel_rfl
theorem ix9 (W:World):(Instr.index 128 (.agg fJ) (.int .i8 9)).run Tryz.prog W=.ok (.func (.func 120) #[] #[]) W:=by kernel_rfl
theorem ix10 (W:World):(Instr.index 128 (.agg fJ) (.int .i8 10)).run Tryz.prog W=.ok (.func (.func 121) #[] #[]) W:=by kernel_rfl
theorem ix11 (W:World):(Instr.index 128 (.agg fJ) (.int .i8 11)).run Tryz.prog W=.ok (.func (.func 122) #[] #[]) W:=by kernel_rfl
theorem ix12 (W:World):(Instr.index 128 (.agg fJ) (.int .i8 12)).run Tryz.prog W=.ok (.func (.func 123) #[] #[]) W:=by kernel_rfl
def zop (op w a b y:Int):Int:=
 if op=0 then(a+b) % 18446744073709551616
 else if op=1 then(a-b) % 18446744073709551616
 else if op=2 then(a*b) % 18446744073709551616
 else if op=3 then(if b=0 then 0 else a / b)
 else if op=4 then((a.toNat ||| b.toNat:Nat):Int)
 else if op=5 then((a.toNat &&& b.toNat:Nat):Int)
 else if op=6 then(a*2 ^ y.toNat) % 18446744073709551616
 else if op=7 then a / 2 ^ y.toNat
 else if op=8 then(0-a) % 18446744073709551616
 else if op=9 then(if b=0 then a else a % b)
 else if op=10 then((a.toNat ^^^ b.toNat:Nat):Int)
 else if op=11 then b
 else(wrap64 (tR a w) / 2 ^ y.toNat) % 18446744073709551616
def zdo (op w a b:Int):Int:=zcut (zop op w (zcut a w) (zcut b w) (zcut b w % w)) w
theorem alg (a b y a1:Int) (w:World) (h0:0<=a) (h1:a<=18446744073709551615) (h2:0<=b) (h3:b<=18446744073709551615) (h4:0<=y) (h5:y<=63):
  Calls Tryz.prog 111 #[.int .u64 a,.int .u64 b,.int .u64 y,.int .i8 a1] w fun e w'=>e=.returned (.int .u64 (zop 0 a1 a b y))/\w=w':=by
 go_enter Tryz.func111,Tryz.ntmps111
 go_wp2
 all_goals go_ret
 all_goals (refine⟨bh ?_,rfl⟩)
 all_goals simp[zop,bc]
theorem alf (a b y a1:Int) (w:World) (h0:0<=a) (h1:a<=18446744073709551615) (h2:0<=b) (h3:b<=18446744073709551615) (h4:0<=y) (h5:y<=63):
  Calls Tryz.prog 112 #[.int .u64 a,.int .u64 b,.int .u64 y,.int .i8 a1] w fun e w'=>e=.returned (.int .u64 (zop 1 a1 a b y))/\w=w':=by
 go_enter Tryz.func112,Tryz.ntmps112
 go_wp2
 all_goals go_ret
 all_goals (refine⟨bh ?_,rfl⟩)
 all_goals simp[zop,bc]
theorem ale (a b y a1:Int) (w:World) (h0:0<=a) (h1:a<=18446744073709551615) (h2:0<=b) (h3:b<=18446744073709551615) (h4:0<=y) (h5:y<=63):
  Calls Tryz.prog 113 #[.int .u64 a,.int .u64 b,.int .u64 y,.int .i8 a1] w fun e w'=>e=.returned (.int .u64 (zop 2 a1 a b y))/\w=w':=by
 go_enter Tryz.func113,Tryz.ntmps113
 go_wp2
 all_goals go_ret
 all_goals (refine⟨bh ?_,rfl⟩)
 all_goals simp[zop,bc]
theorem ald (a b y a1:Int) (w:World) (h0:0<=a) (h1:a<=18446744073709551615) (h2:0<=b) (h3:b<=18446744073709551615) (h4:0<=y) (h5:y<=63):
  Calls Tryz.prog 114 #[.int .u64 a,.int .u64 b,.int .u64 y,.int .i8 a1] w fun e w'=>e=.returned (.int .u64 (zop 3 a1 a b y))/\w=w':=by
 by_cases hz:b=0
 ·subst hz
  go_enter Tryz.func114,Tryz.ntmps114
  go_wp2
  all_goals go_ret
  all_goals (refine⟨bh ?_,rfl⟩)
  all_goals simp[zop]
 ·go_enter Tryz.func114,Tryz.ntmps114
  go_wp2
  all_goals go_ret
  all_goals (refine⟨bh ?_,rfl⟩)
  all_goals simp[zop,hz]
theorem alc (a b y a1:Int) (w:World) (h0:0<=a) (h1:a<=18446744073709551615) (h2:0<=b) (h3:b<=18446744073709551615) (h4:0<=y) (h5:y<=63):
  Calls Tryz.prog 115 #[.int .u64 a,.int .u64 b,.int .u64 y,.int .i8 a1] w fun e w'=>e=.returned (.int .u64 (zop 4 a1 a b y))/\w=w':=by
 go_enter Tryz.func115,Tryz.ntmps115
 go_wp2
 all_goals go_ret
 all_goals (refine⟨bh ?_,rfl⟩)
 all_goals (rw[u64_or _ _ h0 (by omega) h2 (by omega)];simp[zop])
theorem alb (a b y a1:Int) (w:World) (h0:0<=a) (h1:a<=18446744073709551615) (h2:0<=b) (h3:b<=18446744073709551615) (h4:0<=y) (h5:y<=63):
  Calls Tryz.prog 116 #[.int .u64 a,.int .u64 b,.int .u64 y,.int .i8 a1] w fun e w'=>e=.returned (.int .u64 (zop 5 a1 a b y))/\w=w':=by
 go_enter Tryz.func116,Tryz.ntmps116
 go_wp2
 all_goals go_ret
 all_goals (refine⟨bh ?_,rfl⟩)
 all_goals (rw[u64_and _ _ h0 (by omega) h2 (by omega)];simp[zop])
theorem ala (a b y a1:Int) (w:World) (h0:0<=a) (h1:a<=18446744073709551615) (h2:0<=b) (h3:b<=18446744073709551615) (h4:0<=y) (h5:y<=63):
  Calls Tryz.prog 117 #[.int .u64 a,.int .u64 b,.int .u64 y,.int .i8 a1] w fun e w'=>e=.returned (.int .u64 (zop 6 a1 a b y))/\w=w':=by
 go_enter Tryz.func117,Tryz.ntmps117
 go_wp2
 all_goals go_ret
 all_goals (refine⟨bh ?_,rfl⟩)
 all_goals simp[zop,bc]
theorem ak9 (a b y a1:Int) (w:World) (h0:0<=a) (h1:a<=18446744073709551615) (h2:0<=b) (h3:b<=18446744073709551615) (h4:0<=y) (h5:y<=63):
  Calls Tryz.prog 118 #[.int .u64 a,.int .u64 b,.int .u64 y,.int .i8 a1] w fun e w'=>e=.returned (.int .u64 (zop 7 a1 a b y))/\w=w':=by
 go_enter Tryz.func118,Tryz.ntmps118
 go_wp2
 all_goals go_ret
 all_goals (refine⟨bh ?_,rfl⟩)
 all_goals simp[zop]
theorem ak8 (a b y a1:Int) (w:World) (h0:0<=a) (h1:a<=18446744073709551615) (h2:0<=b) (h3:b<=18446744073709551615) (h4:0<=y) (h5:y<=63):
  Calls Tryz.prog 119 #[.int .u64 a,.int .u64 b,.int .u64 y,.int .i8 a1] w fun e w'=>e=.returned (.int .u64 (zop 8 a1 a b y))/\w=w':=by
 go_enter Tryz.func119,Tryz.ntmps119
 go_wp2
 all_goals go_ret
 all_goals (refine⟨bh ?_,rfl⟩)
 all_goals simp[zop,bc]
theorem ak7 (a b y a1:Int) (w:World) (h0:0<=a) (h1:a<=18446744073709551615) (h2:0<=b) (h3:b<=18446744073709551615) (h4:0<=y) (h5:y<=63):
  Calls Tryz.prog 120 #[.int .u64 a,.int .u64 b,.int .u64 y,.int .i8 a1] w fun e w'=>e=.returned (.int .u64 (zop 9 a1 a b y))/\w=w':=by
 by_cases hz:b=0
 ·subst hz
  go_enter Tryz.func120,Tryz.ntmps120
  go_wp2
  all_goals go_ret
  all_goals (refine⟨bh ?_,rfl⟩)
  all_goals simp[zop]
 ·go_enter Tryz.func120,Tryz.ntmps120
  go_wp2
  all_goals go_ret
  all_goals (refine⟨bh ?_,rfl⟩)
  all_goals simp[zop,hz]
theorem agh (a b y a1:Int) (w:World) (h0:0<=a) (h1:a<=18446744073709551615) (h2:0<=b) (h3:b<=18446744073709551615) (h4:0<=y) (h5:y<=63):
  Calls Tryz.prog 121 #[.int .u64 a,.int .u64 b,.int .u64 y,.int .i8 a1] w fun e w'=>e=.returned (.int .u64 (zop 10 a1 a b y))/\w=w':=by
 go_enter Tryz.func121,Tryz.ntmps121
 go_wp2
 all_goals go_ret
 all_goals (refine⟨bh ?_,rfl⟩)
 all_goals (rw[u64_xor _ _ h0 (by omega) h2 (by omega)];simp[zop])
theorem agf (a b y a1:Int) (w:World) (h0:0<=a) (h1:a<=18446744073709551615) (h2:0<=b) (h3:b<=18446744073709551615) (h4:0<=y) (h5:y<=63):
  Calls Tryz.prog 122 #[.int .u64 a,.int .u64 b,.int .u64 y,.int .i8 a1] w fun e w'=>e=.returned (.int .u64 (zop 11 a1 a b y))/\w=w':=by
 go_enter Tryz.func122,Tryz.ntmps122
 go_wp2
 all_goals go_ret
 all_goals (refine⟨bh ?_,rfl⟩)
 all_goals simp[zop]
theorem age (a b y a1:Int) (w:World) (h0:0<=a) (h1:a<=18446744073709551615) (h2:0<=b) (h3:b<=18446744073709551615) (h4:0<=y) (h5:y<=63):
  Calls Tryz.prog 123 #[.int .u64 a,.int .u64 b,.int .u64 y,.int .i8 a1] w fun e w'=>e=.returned (.int .u64 (zop 12 a1 a b y))/\w=w':=by
 go_enter Tryz.func123,Tryz.ntmps123
 go_wp2_with (go_at_call 124;refine(afC _ _ _ (by omega) (by omega)).mono ?_;rintro e w' ⟨rfl,rfl⟩)
 all_goals go_ret
 all_goals (refine⟨bh ?_,rfl⟩)
 all_goals simp[zop,bc]
attribute [local go_sem] ix0 ix1 ix2 ix3 ix4 ix5 ix6 ix7 ix8 ix9 ix10 ix11 ix12
theorem xh {op:Int} (h4:0<=op) (h5:op<=12):op=0\/op=1\/op=2\/op=3\/op=4\/op=5\/op=6\/op=7\/op=8\/op=9\/op=10\/op=11\/op=12:=by omega
theorem amR (k:Nat):(0:Int)<2 ^ k:=Int.pow_pos (by omega)
theorem zX (op w a b y:Int) (h0:0<=a) (h1:a<=18446744073709551615) (h2:0<=b) (h3:b<=18446744073709551615):0<=zop op w a b y/\zop op w a b y<=18446744073709551615:=by
 have e1:=Int.ediv_nonneg h0 h2
 have e2:=Int.ediv_le_self b h0
 have e3:=Nat.or_lt_two_pow (n:=64) (x:=a.toNat) (y:=b.toNat) (by omega) (by omega)
 have e4:=Nat.and_le_left (n:=a.toNat) (m:=b.toNat)
 have e5:=Nat.xor_lt_two_pow (n:=64) (x:=a.toNat) (y:=b.toNat) (by omega) (by omega)
 have e6:=Int.ediv_nonneg h0 (Int.le_of_lt (amR y.toNat))
 have e7:=Int.ediv_le_self (2 ^ y.toNat) h0
 have e8:b≠0->0<=a % b/\a % b<b:=fun h=>⟨Int.emod_nonneg a h,Int.emod_lt_of_pos a (by omega)⟩
 unfold zop
 repeat' split
 all_goals omega
theorem ymod (w b:Int) (h2:0<=b) (h3:b<=18446744073709551615) (hw:fY w=true):bits .and .u64 b (w-1)=b % w/\32<=w/\w<=64/\0<=b % w/\b % w<=63:=by
 simp[fY] at hw
 rcases hw with rfl | rfl
 ·exact⟨aoz b h2 h3,by omega,by omega,by omega,by omega⟩
 ·exact⟨aoy b h2 h3,by omega,by omega,by omega,by omega⟩
theorem aoi (op w1 a b:Int) (w:World) (h0:0<=a) (h1:a<=18446744073709551615) (h2:0<=b) (h3:b<=18446744073709551615) (h4:0<=op) (h5:op<=12) (hw:fY w1=true):
  Calls Tryz.prog 25 #[.int .i8 op,.int .i8 w1,.int .u64 a,.int .u64 b] w fun e w'=>e=.returned (.tuple #[.int .u64 (zdo op w1 a b),.int .i64 0])/\Below w.heap.size w w':=by
 obtain⟨ha1,ha2⟩:=er a w1 h0 h1
 obtain⟨hb1,hb2⟩:=er b w1 h2 h3
 obtain⟨hy,hw1,hw2,hy1,hy2⟩:=ymod w1 (zcut b w1) hb1 hb2 hw
 obtain⟨hz1,hz2⟩:=zX op w1 (zcut a w1) (zcut b w1) (zcut b w1 % w1) ha1 ha2 hb1 hb2
 rcases xh h4 h5 with rfl | rfl | rfl | rfl | rfl | rfl | rfl | rfl | rfl | rfl | rfl | rfl | rfl
 all_goals
  go_enter Tryz.func25,Tryz.ntmps25
  go_wp2_with (first
   | (go_at_call 63;refine(xA _ _).mono ?_;rintro e w' ⟨rfl,rfl⟩)
   | (go_at_call 64;refine(aeu _ _ _ (by omega) (by omega)).mono ?_;rintro e w' ⟨rfl,rfl⟩)
   | (go_at_call 65;refine(ak3 _).mono ?_;rintro e w1 ⟨rfl,hb1⟩)
   | (go_at_call 111;refine(alg _ _ _ _ _ (by omega) (by omega) (by omega) (by omega) (by omega) (by omega)).mono ?_;rintro e w' ⟨rfl,rfl⟩)
   | (go_at_call 112;refine(alf _ _ _ _ _ (by omega) (by omega) (by omega) (by omega) (by omega) (by omega)).mono ?_;rintro e w' ⟨rfl,rfl⟩)
   | (go_at_call 113;refine(ale _ _ _ _ _ (by omega) (by omega) (by omega) (by omega) (by omega) (by omega)).mono ?_;rintro e w' ⟨rfl,rfl⟩)
   | (go_at_call 114;refine(ald _ _ _ _ _ (by omega) (by omega) (by omega) (by omega) (by omega) (by omega)).mono ?_;rintro e w' ⟨rfl,rfl⟩)
   | (go_at_call 115;refine(alc _ _ _ _ _ (by omega) (by omega) (by omega) (by omega) (by omega) (by omega)).mono ?_;rintro e w' ⟨rfl,rfl⟩)
   | (go_at_call 116;refine(alb _ _ _ _ _ (by omega) (by omega) (by omega) (by omega) (by omega) (by omega)).mono ?_;rintro e w' ⟨rfl,rfl⟩)
   | (go_at_call 117;refine(ala _ _ _ _ _ (by omega) (by omega) (by omega) (by omega) (by omega) (by omega)).mono ?_;rintro e w' ⟨rfl,rfl⟩)
   | (go_at_call 118;refine(ak9 _ _ _ _ _ (by omega) (by omega) (by omega) (by omega) (by omega) (by omega)).mono ?_;rintro e w' ⟨rfl,rfl⟩)
   | (go_at_call 119;refine(ak8 _ _ _ _ _ (by omega) (by omega) (by omega) (by omega) (by omega) (by omega)).mono ?_;rintro e w' ⟨rfl,rfl⟩)
   | (go_at_call 120;refine(ak7 _ _ _ _ _ (by omega) (by omega) (by omega) (by omega) (by omega) (by omega)).mono ?_;rintro e w' ⟨rfl,rfl⟩)
   | (go_at_call 121;refine(agh _ _ _ _ _ (by omega) (by omega) (by omega) (by omega) (by omega) (by omega)).mono ?_;rintro e w' ⟨rfl,rfl⟩)
   | (go_at_call 122;refine(agf _ _ _ _ _ (by omega) (by omega) (by omega) (by omega) (by omega) (by omega)).mono ?_;rintro e w' ⟨rfl,rfl⟩)
   | (go_at_call 123;refine(age _ _ _ _ _ (by omega) (by omega) (by omega) (by omega) (by omega) (by omega)).mono ?_;rintro e w' ⟨rfl,rfl⟩))
  go_ret2
  exact⟨rfl,‹_›⟩
theorem aoh (op w1 a b:Int) (w:World) (hbad:(decide (op<0)||decide (12<op) ||!fY w1)=true):
  Calls Tryz.prog 25 #[.int .i8 op,.int .i8 w1,.int .u64 a,.int .u64 b] w fun e w'=>e=.returned (.tuple #[.int .u64 0,.int .i64 2])/\w=w':=by
 have hc:op<0\/(0<=op/\12<op)\/(0<=op/\op<=12/\fY w1=false):=by
  by_cases h1:op<0
  ·exact .inl h1
  ·by_cases h2:12<op
   ·exact .inr (.inl ⟨by omega,h2⟩)
   ·exact .inr (.inr ⟨by omega,by omega,by simpa[h1,h2] using hbad⟩)
 clear hbad
 rcases hc with h | ⟨h,h'⟩ | ⟨h,h',hw⟩
 all_goals
  go_enter Tryz.func25,Tryz.ntmps25
  go_wp2_with (go_at_call 63;refine(xA _ _).mono ?_;rintro e w' ⟨rfl,rfl⟩)
  go_ret2
  exact⟨rfl,rfl⟩
theorem ac4 (op w1 a b:Int) (w:World) (hbad:(decide (op<0)||decide (12<op) ||!fY w1)=true):
  Calls Tryz.prog 129 #[.int .i8 op,.int .i8 w1,.int .u64 a,.int .u64 b] w fun e w'=>e=.returned (.tuple #[.int .u64 0,.int .i64 2])/\w=w':=by
 have hc:op<0\/(0<=op/\12<op)\/(0<=op/\op<=12/\fY w1=false):=by
  by_cases h1:op<0
  ·exact .inl h1
  ·by_cases h2:12<op
   ·exact .inr (.inl ⟨by omega,h2⟩)
   ·exact .inr (.inr ⟨by omega,by omega,by simpa[h1,h2] using hbad⟩)
 clear hbad
 rcases hc with h | ⟨h,h'⟩ | ⟨h,h',hw⟩
 all_goals
  go_enter Tryz.func129,Tryz.ntmps129
  go_wp2_with (go_at_call 178;refine(sH _ _).mono ?_;rintro e w' ⟨rfl,rfl⟩)
  go_ret2
  exact⟨rfl,rfl⟩
theorem akZ (x v a:Int) (w:World) (hx:x=v) (h0:0<=v) (h1:v<=18446744073709551615):
  Calls Tryz.prog 168 #[.int .u64 x,.int .i8 a] w fun e w'=>e=.returned (.int .u64 (zcut v a))/\w=w':=by
 subst hx;exact iL x a w h0 h1
theorem ac5 (op w1 a b:Int) (w:World) (h0:0<=a) (h1:a<=18446744073709551615) (h2:0<=b) (h3:b<=18446744073709551615) (h4:0<=op) (h5:op<=12) (hw:fY w1=true):
  Calls Tryz.prog 129 #[.int .i8 op,.int .i8 w1,.int .u64 a,.int .u64 b] w fun e w'=>e=.returned (.tuple #[.int .u64 (zdo op w1 a b),.int .i64 0])/\w=w':=by
 obtain⟨ha1,ha2⟩:=er a w1 h0 h1
 obtain⟨hb1,hb2⟩:=er b w1 h2 h3
 obtain⟨hy,hw1,hw2,hy1,hy2⟩:=ymod w1 (zcut b w1) hb1 hb2 hw
 obtain⟨hz1,hz2⟩:=zX op w1 (zcut a w1) (zcut b w1) (zcut b w1 % w1) ha1 ha2 hb1 hb2
 rcases xh h4 h5 with rfl | rfl | rfl | rfl | rfl | rfl | rfl | rfl | rfl | rfl | rfl | rfl | rfl
 all_goals
  go_enter Tryz.func129,Tryz.ntmps129
  go_wp2_with (first
   | (go_at_call 178;refine(sH _ _).mono ?_;rintro e w' ⟨rfl,rfl⟩)
   | (go_at_call 179;refine(acS _ _ _ (by omega) (by omega)).mono ?_;rintro e w' ⟨rfl,rfl⟩)
   | (go_at_call 168;with_reducible refine(iL a _ _ (by omega) (by omega)).mono ?_;rintro e w' ⟨rfl,rfl⟩)
   | (go_at_call 168;with_reducible refine(iL b _ _ (by omega) (by omega)).mono ?_;rintro e w' ⟨rfl,rfl⟩)
   | (go_at_call 168;refine Calls.mono (akZ _ _ _ _ ?_ hz1 hz2) ?_;rotate_left 1;rintro e w' ⟨rfl,rfl⟩))
 all_goals first
  | (go_ret2;exact⟨rfl,rfl⟩)
  | (rw[u64_or _ _ ha1 (by omega) hb1 (by omega)];simp[zop];done)
  | (rw[u64_and _ _ ha1 (by omega) hb1 (by omega)];simp[zop];done)
  | (rw[u64_xor _ _ ha1 (by omega) hb1 (by omega)];simp[zop];done)
  | (simp[zop,bc];done)
  | (have:zcut b w1=0:=by omega
     simp[zop,this];done)
  | (have:zcut b w1≠0:=by omega
     simp[zop,this];done)
theorem aab (op w a b:Int) (h0:0<=a) (h1:a<=18446744073709551615) (h2:0<=b) (h3:b<=18446744073709551615):0<=zdo op w a b/\zdo op w a b<=18446744073709551615:=by
 obtain⟨ha1,ha2⟩:=er a w h0 h1
 obtain⟨hb1,hb2⟩:=er b w h2 h3
 obtain⟨hz1,hz2⟩:=zX op w (zcut a w) (zcut b w) (zcut b w % w) ha1 ha2 hb1 hb2
 exact er _ _ hz1 hz2
structure Rg where
 ul:Int
 uh:Int
 sl:Int
 sh:Int
 deriving DecidableEq
def Rg.wf (r:Rg):Prop:=(0<=r.ul/\r.ul<=18446744073709551615)/\(0<=r.uh/\r.uh<=18446744073709551615)/\(-9223372036854775808<=r.sl/\r.sl<=9223372036854775807)/\(-9223372036854775808<=r.sh/\r.sh<=9223372036854775807)
abbrev s64 (v:Int):Int:=wrap64 v
theorem bk (v:Int):s64 v=IntKind.i64.wrap v:=(Go.IntWalk.i64_left v).symm
abbrev u64 (v:Int):Int:=IntKind.u64.wrap v
theorem oQ (v:Int) : -9223372036854775808<=s64 v/\s64 v<=9223372036854775807:=by
 rw[bk,aL]
 omega
theorem ahk (v:Int):0<=u64 v/\u64 v<=18446744073709551615:=by
 unfold u64
 rw[bc]
 omega
def ball:Rg:=⟨0,18446744073709551615,-9223372036854775808,9223372036854775807⟩
def bone (v:Int):Rg:=⟨v,v,s64 v,s64 v⟩
def bmay (r:Rg):Bool:=decide (r.ul<=r.uh)&&decide (r.sl<=r.sh)
def bhas (r:Rg) (v:Int):Bool:=bmay r&&((decide (r.ul<=v)&&decide (v<=r.uh))&&(decide (r.sl<=s64 v)&&decide (s64 v<=r.sh)))
def hib (v:Int):Bool:=decide (9223372036854775808<=v)
def bsgn (r:Rg):Rg:=if hib r.ul=hib r.uh then⟨r.ul,r.uh,max r.sl (s64 r.ul),min r.sh (s64 r.uh)⟩ else r
def buns (r:Rg):Rg:=if decide (r.sl<0)=decide (r.sh<0) then⟨max r.ul (u64 r.sl),min r.uh (u64 r.sh),r.sl,r.sh⟩ else r
def bnok (r:Rg):Bool:=bmay r&&(bmay (bsgn r)&&(bmay (buns (bsgn r))&&bmay (bsgn (buns (bsgn r)))))
def bnar (r:Rg):Rg:=if bnok r=true then bsgn (buns (bsgn r)) else ball
def dg (r:Rg):Bool:=decide (r.ul=r.uh)&&bhas r r.ul
def aj (r:Rg):Int:=if dg r=true then r.ul else 0
def aos (a b:Rg):Rg:=⟨min a.ul b.ul,max a.uh b.uh,min a.sl b.sl,max a.sh b.sh⟩
def jr (a b:Rg):Rg:=⟨max a.ul b.ul,min a.uh b.uh,max a.sl b.sl,min a.sh b.sh⟩
def aot (a b:Rg):Rg:=if bmay a=true/\bmay b=true then aos a b else ball
def eP (a b:Rg):Bool:=bmay a&&(bmay b&&bnok (jr a b))
def dV (a b:Rg):Rg:=if eP a b=true then bnar (jr a b) else ball
def bin (a b:Rg):Bool:=bmay a&&(bmay b&&decide (aot a b=b))
theorem cy (r:Rg):bmay r=true↔r.ul<=r.uh/\r.sl<=r.sh:=by simp[bmay]
theorem dE {r:Rg} (h:r.wf):(bsgn r).wf:=by
 unfold bsgn
 split
 ·have h1:=oQ r.ul
  have h2:=oQ r.uh
  obtain⟨a1,a2,a3,a4⟩:=h
  refine⟨a1,a2,?_,?_⟩<;>simp only<;>omega
 ·exact h
theorem dZ {r:Rg} (h:r.wf):(buns r).wf:=by
 unfold buns
 split
 ·have h1:=ahk r.sl
  have h2:=ahk r.sh
  obtain⟨a1,a2,a3,a4⟩:=h
  refine⟨?_,?_,a3,a4⟩<;>simp only<;>omega
 ·exact h
theorem tW:ball.wf:=by unfold Rg.wf ball;simp
theorem aah {r:Rg} (h:r.wf):(bnar r).wf:=by
 unfold bnar
 split
 ·exact dE (dZ (dE h))
 ·exact tW
theorem aeJ {r:Rg} (hk:bnok r=true):bmay (bnar r)=true:=by
 have:=hk
 unfold bnok at this
 simp only[thm0] at this
 unfold bnar
 rw[if_pos hk]
 exact this.2.2.2
def tbB (x:Int) (i:Nat):Bool:=(BitVec.ofInt 64 x).getLsbD i
theorem aeF (x:BitVec 64):BitVec.ofInt 64 (x.toNat:Int)=x:=by simp
theorem yh (x:Int):BitVec.ofInt 64 (IntKind.i64.wrap x)=BitVec.ofInt 64 x:=by
 apply BitVec.eq_of_toNat_eq
 rw[BitVec.toNat_ofInt,BitVec.toNat_ofInt,aL]
 omega
theorem ame (x y:Int):BitVec.ofInt 64 (bits .and .i64 x y)=BitVec.ofInt 64 x &&& BitVec.ofInt 64 y:=(yh _).trans (aeF _)
theorem amd (x y:Int):BitVec.ofInt 64 (bits .xor .i64 x y)=BitVec.ofInt 64 x ^^^ BitVec.ofInt 64 y:=(yh _).trans (aeF _)
theorem aaY (x y:Int) (i:Nat):tbB (bits .and .i64 x y) i=(tbB x i&&tbB y i):=by unfold tbB;rw[ame,BitVec.getLsbD_and]
theorem pM (x y:Int) (i:Nat):tbB (bits .xor .i64 x y) i=(tbB x i ^^ tbB y i):=by unfold tbB;rw[amd,BitVec.getLsbD_xor]
theorem lI {x:Int} (h0 : -9223372036854775808<=x) (h1:x<=9223372036854775807):decide (x<0)=tbB x 63:=by
 unfold tbB
 rw[BitVec.getLsbD,Nat.testBit_eq_decide_div_mod_eq,decide_eq_decide,BitVec.toNat_ofInt]
 omega
theorem agK (op:BinOp) (x y:Int):∃z,bits op .i64 x y=IntKind.i64.wrap z:=⟨_,rfl⟩
theorem air (op:BinOp) (x y:Int) : -9223372036854775808<=bits op .i64 x y/\bits op .i64 x y<=9223372036854775807:=by
 obtain⟨z,h⟩:=agK op x y
 rw[h,<-bk];exact oQ z
theorem adb {a b:Int} (a0 : -9223372036854775808<=a) (a1:a<=9223372036854775807) (b0 : -9223372036854775808<=b) (b1:b<=9223372036854775807):
  decide (0<=bits .and .i64 (bits .xor .i64 a (wrap64 (a+b))) (bits .xor .i64 b (wrap64 (a+b))))=decide (-9223372036854775808<=a+b/\a+b<=9223372036854775807):=by
 have hs:=oQ (a+b)
 have hw:s64 (a+b)=(a+b+9223372036854775808) % 18446744073709551616-9223372036854775808:=by rw[bk];exact aL _
 have hb:=air .and (bits .xor .i64 a (s64 (a+b))) (bits .xor .i64 b (s64 (a+b)))
 have e:=lI hb.1 hb.2
 rw[aaY,pM,pM,<-lI a0 a1,<-lI b0 b1,<-lI hs.1 hs.2] at e
 show decide (0<=bits .and .i64 (bits .xor .i64 a (s64 (a+b))) (bits .xor .i64 b (s64 (a+b))))=_
 generalize bits .and .i64 (bits .xor .i64 a (s64 (a+b))) (bits .xor .i64 b (s64 (a+b)))=t at e hb
 generalize s64 (a+b)=s at *
 rw[decide_eq_decide]
 by_cases h1:a<0<;>by_cases h2:b<0<;>by_cases h3:s<0<;>simp[h1,h2,h3] at e<;>omega
theorem yW {a b:Int} (a0 : -9223372036854775808<=a) (a1:a<=9223372036854775807) (b0 : -9223372036854775808<=b) (b1:b<=9223372036854775807):
  decide (0<=bits .and .i64 (bits .xor .i64 a b) (bits .xor .i64 a (wrap64 (a-b))))=decide (-9223372036854775808<=a-b/\a-b<=9223372036854775807):=by
 have hs:=oQ (a-b)
 have hw:s64 (a-b)=(a-b+9223372036854775808) % 18446744073709551616-9223372036854775808:=by rw[bk];exact aL _
 have hb:=air .and (bits .xor .i64 a b) (bits .xor .i64 a (s64 (a-b)))
 have e:=lI hb.1 hb.2
 rw[aaY,pM,pM,<-lI a0 a1,<-lI b0 b1,<-lI hs.1 hs.2] at e
 show decide (0<=bits .and .i64 (bits .xor .i64 a b) (bits .xor .i64 a (s64 (a-b))))=_
 generalize bits .and .i64 (bits .xor .i64 a b) (bits .xor .i64 a (s64 (a-b)))=t at e hb
 generalize s64 (a-b)=s at *
 rw[decide_eq_decide]
 by_cases h1:a<0<;>by_cases h2:b<0<;>by_cases h3:s<0<;>simp[h1,h2,h3] at e<;>omega
def aE (n:Nat):Nat:=if n=0 then 0 else Nat.log2 n+1
def jc (v:Int):Int:=2 ^ aE v.toNat-1
theorem rh (n:Nat):n<2 ^ aE n:=by
 unfold aE
 split
 ·subst_vars;simp
 ·exact Nat.lt_log2_self
theorem aeK {n:Nat} (h:n≠0):2 ^ (aE n-1)<=n:=by
 unfold aE
 rw[if_neg h]
 exact Nat.log2_self_le h
theorem eh {n k:Nat} (h:n<2 ^ k):aE n<=k:=by
 rcases Nat.eq_zero_or_pos n with h0 | h0
 ·simp[aE,h0]
 ·have h1:=aeK (n:=n) (by omega)
  rcases bq k (aE n) with hk | hk
  ·have:2 ^ k<=2 ^ (aE n-1):=Nat.pow_le_pow_right (by omega) (by omega)
   omega
  ·exact hk
theorem ag5 {v:Int} (h:v<=18446744073709551615):0<=jc v/\jc v<=18446744073709551615:=by
 have h1:v.toNat<2 ^ 64:=by omega
 have h2:=eh h1
 have h3:2 ^ aE v.toNat<=2 ^ 64:=Nat.pow_le_pow_right (by omega) h2
 have h4:0<2 ^ aE v.toNat:=Nat.pow_pos (by omega)
 unfold jc
 have:((2:Int) ^ aE v.toNat)=((2 ^ aE v.toNat:Nat):Int):=by simp
 rw[this]
 omega
def bsum (a b:Rg):Rg:=
 ⟨if a.uh+b.uh<=18446744073709551615 then a.ul+b.ul else 0,if a.uh+b.uh<=18446744073709551615 then a.uh+b.uh else 18446744073709551615,
  if(-9223372036854775808<=a.sl+b.sl/\a.sl+b.sl<=9223372036854775807)/\(-9223372036854775808<=a.sh+b.sh/\a.sh+b.sh<=9223372036854775807) then a.sl+b.sl else -9223372036854775808,
  if(-9223372036854775808<=a.sl+b.sl/\a.sl+b.sl<=9223372036854775807)/\(-9223372036854775808<=a.sh+b.sh/\a.sh+b.sh<=9223372036854775807) then a.sh+b.sh else 9223372036854775807⟩
def bdif (a b:Rg):Rg:=
 ⟨if b.uh<=a.ul then a.ul-b.uh else 0,if b.uh<=a.ul then a.uh-b.ul else 18446744073709551615,
  if(-9223372036854775808<=a.sl-b.sh/\a.sl-b.sh<=9223372036854775807)/\(-9223372036854775808<=a.sh-b.sl/\a.sh-b.sl<=9223372036854775807) then a.sl-b.sh else -9223372036854775808,
  if(-9223372036854775808<=a.sl-b.sh/\a.sl-b.sh<=9223372036854775807)/\(-9223372036854775808<=a.sh-b.sl/\a.sh-b.sl<=9223372036854775807) then a.sh-b.sl else 9223372036854775807⟩
def bu (l h:Int):Rg:=⟨l,h,-9223372036854775808,9223372036854775807⟩
def bby (b:Rg):Nat:=(b.ul % 64).toNat
def bdo0 (op:Int) (a b:Rg):Rg:=
 if op=11 then b else if op=0 then bsum a b else if op=1 then bdif a b
 else if op=5 then bu 0 (min a.uh b.uh)
 else if op=4 then bu (max a.ul b.ul) (jc (max a.uh b.uh))
 else if op=10 then bu 0 (jc (max a.uh b.uh))
 else if op=3 then(if 0<b.ul then bu (a.ul / b.uh) (a.uh / b.ul) else bu 0 a.uh)
 else if op=9 then(if 0<b.ul then bu 0 (min a.uh (b.uh-1)) else bu 0 a.uh)
 else if op=7 then(if dg b=true then bu (a.ul / 2 ^ bby b) (a.uh / 2 ^ bby b) else ball)
 else if op=6 then(if dg b=true/\aE a.uh.toNat+bby b<=64 then bu (a.ul*2 ^ bby b) (a.uh*2 ^ bby b) else ball)
 else ball
def bdo (op:Int) (a b:Rg):Rg:=if bmay a=true/\bmay b=true then bnar (bdo0 op a b) else ball
theorem aoM {l h:Int} (h0:0<=l) (h1:l<=18446744073709551615) (h2:0<=h) (h3:h<=18446744073709551615):(bu l h).wf:=⟨⟨h0,h1⟩,⟨h2,h3⟩,by simp[bu],by simp[bu]⟩
theorem abo {x y:Int} (h0:0<=x) (hy:x<=y) {k:Nat} (h:aE y.toNat+k<=64):0<=x*2 ^ k/\x*2 ^ k<=y*2 ^ k/\y*2 ^ k<=18446744073709551615:=by
 have hp:(0:Int)<2 ^ k:=Int.pow_pos (by omega)
 refine⟨Int.mul_nonneg h0 (by omega),Int.mul_le_mul_of_nonneg_right hy (by omega),?_⟩
 have h1:=rh y.toNat
 have h2:(y.toNat+1)*2 ^ k<=2 ^ aE y.toNat*2 ^ k:=Nat.mul_le_mul_right _ (by omega)
 rw[<-Nat.pow_add] at h2
 have h3:2 ^ (aE y.toNat+k)<=2 ^ 64:=Nat.pow_le_pow_right (by omega) h
 have h4:0<2 ^ k:=Nat.pow_pos (by omega)
 have e:y*2 ^ k=((y.toNat*2 ^ k:Nat):Int):=by
  have:((y.toNat:Nat):Int)=y:=by omega
  rw[Int.natCast_mul,this];simp
 rw[e]
 rw[Nat.add_mul] at h2
 omega
theorem aoj {x y z:Int} (h0:0<=x) (h1:x<=18446744073709551615) (hy:0<y):0<=x / y/\x / y<=18446744073709551615:=by
 have:=Int.ediv_le_self y h0
 exact⟨Int.ediv_nonneg h0 (by omega),by omega⟩
def Rg.Sub (a b:Rg):Prop:=b.ul<=a.ul/\a.uh<=b.uh/\b.sl<=a.sl/\a.sh<=b.sh
theorem Rg.Sub.refl (a:Rg):a.Sub a:=⟨Int.le_refl _,Int.le_refl _,Int.le_refl _,Int.le_refl _⟩
theorem Rg.Sub.trans {a b c:Rg} (h:a.Sub b) (g:b.Sub c):a.Sub c:=by
 obtain⟨h1,h2,h3,h4⟩:=h
 obtain⟨g1,g2,g3,g4⟩:=g
 exact⟨by omega,by omega,by omega,by omega⟩
theorem afe {a b:Rg} (ha:a.wf) (hb:b.wf):(jr a b).wf:=by
 obtain⟨a1,a2,a3,a4⟩:=ha
 obtain⟨b1,b2,b3,b4⟩:=hb
 unfold jr
 refine⟨?_,?_,?_,?_⟩<;>simp only<;>omega
def blow (r:Rg):Rg:=if bmay r=true/\r.uh<=4294967295 then r else bnar (bu 0 4294967295)
def bcan (cc:Int) (a b:Rg):Bool:=
 if cc=1 then(if dg b=true then !decide (a.ul=b.ul/\a.uh=b.ul) &&!decide (a.sl=s64 b.ul/\a.sh=s64 b.ul) else true)
 else if cc=2 then !decide (b.ul=18446744073709551615) else if cc=4 then !decide (b.uh=0) else if cc=6 then !decide (b.sl=9223372036854775807) else if cc=8 then !decide (b.sh = -9223372036854775808) else true
def brng (cc:Int) (a b:Rg):Rg:=
 if cc=1 then(if dg b=true then⟨if a.ul=b.ul then a.ul+1 else a.ul,if a.ul≠b.ul/\a.uh=b.ul then a.uh-1 else a.uh,if a.sl=s64 b.ul then a.sl+1 else a.sl,if a.sl≠s64 b.ul/\a.sh=s64 b.ul then a.sh-1 else a.sh⟩ else a)
 else if cc=2 then⟨max a.ul (b.ul+1),a.uh,a.sl,a.sh⟩ else if cc=3 then⟨max a.ul b.ul,a.uh,a.sl,a.sh⟩
 else if cc=4 then⟨a.ul,min a.uh (b.uh-1),a.sl,a.sh⟩ else if cc=5 then⟨a.ul,min a.uh b.uh,a.sl,a.sh⟩
 else if cc=6 then⟨a.ul,a.uh,max a.sl (b.sl+1),a.sh⟩ else if cc=7 then⟨a.ul,a.uh,max a.sl b.sl,a.sh⟩
 else if cc=8 then⟨a.ul,a.uh,a.sl,min a.sh (b.sh-1)⟩ else if cc=9 then⟨a.ul,a.uh,a.sl,min a.sh b.sh⟩ else a
def fF (cc:Int) (a b:Rg):Bool:=bmay a&&(bmay b&&(decide (0<=cc)&&decide (cc<=10)))
def bgok (cc:Int) (a b:Rg):Bool:=fF cc a b&&(if cc=0 then eP a b else bcan cc a b&&bnok (brng cc a b))
def bgiv (cc:Int) (a b:Rg):Rg:=if bgok cc a b=true then(if cc=0 then dV a b else bnar (brng cc a b)) else ball
open Go.ChangeShapes Go.WideShapes
structure Pu where
 lo:Int
 hi:Int
structure Pi where
 lo:Int
 hi:Int
theorem Rg.eta (a:Rg):(⟨a.ul,a.uh,a.sl,a.sh⟩:Rg)=a:=rfl
def rd_Rg (k:Rg->List Dt->List Dt):List Dt->List Dt
 | .z z0::.z z1::.z z2::.z z3::r=>k ⟨z0,z1,z2,z3⟩ r
 | _=>[]
def Rg.ok (a:Rg):Prop:=inK .u64 a.ul=true/\inK .u64 a.uh=true/\inK .i64 a.sl=true/\inK .i64 a.sh=true
def kRg:List CK:=[.int .u64,.int .u64,.int .i64,.int .i64]
def v_Rg (t:List VK):List VK:=.int .u64::.int .u64::.int .i64::.int .i64::t
def d_Rg (a:Rg) (t:List Dt):List Dt:=.z a.ul::.z a.uh::.z a.sl::.z a.sh::t
theorem bM {l:List VK} {p:List Dt->Prop} (h:∀a:Rg,Rg.ok a->bC l fun r=>p (d_Rg a r)):bC (v_Rg l) p:=
 fun x0 gx0 x1 gx1 x2 gx2 x3 gx3=>h ⟨x0,x1,x2,x3⟩ ⟨gx0,gx1,gx2,gx3⟩
def q_Rg:=And.intro @v_Rg.eq_1 (And.intro @d_Rg.eq_1 (And.intro @rd_Rg.eq_1 (@kRg.eq_1)))
theorem Pu.eta (a:Pu):(⟨a.lo,a.hi⟩:Pu)=a:=rfl
def rd_Pu (k:Pu->List Dt->List Dt):List Dt->List Dt
 | .z z0::.z z1::r=>k ⟨z0,z1⟩ r
 | _=>[]
def Pu.ok (a:Pu):Prop:=inK .u64 a.lo=true/\inK .u64 a.hi=true
def kPu:List CK:=[.int .u64,.int .u64]
def v_Pu (t:List VK):List VK:=.int .u64::.int .u64::t
def d_Pu (a:Pu) (t:List Dt):List Dt:=.z a.lo::.z a.hi::t
theorem jn {l:List VK} {p:List Dt->Prop} (h:∀a:Pu,Pu.ok a->bC l fun r=>p (d_Pu a r)):bC (v_Pu l) p:=
 fun x0 gx0 x1 gx1=>h ⟨x0,x1⟩ ⟨gx0,gx1⟩
def q_Pu:=And.intro @v_Pu.eq_1 (And.intro @d_Pu.eq_1 (And.intro @rd_Pu.eq_1 (@kPu.eq_1)))
theorem Pi.eta (a:Pi):(⟨a.lo,a.hi⟩:Pi)=a:=rfl
def rd_Pi (k:Pi->List Dt->List Dt):List Dt->List Dt
 | .z z0::.z z1::r=>k ⟨z0,z1⟩ r
 | _=>[]
def Pi.ok (a:Pi):Prop:=inK .i64 a.lo=true/\inK .i64 a.hi=true
def kPi:List CK:=[.int .i64,.int .i64]
def v_Pi (t:List VK):List VK:=.int .i64::.int .i64::t
def d_Pi (a:Pi) (t:List Dt):List Dt:=.z a.lo::.z a.hi::t
theorem jo {l:List VK} {p:List Dt->Prop} (h:∀a:Pi,Pi.ok a->bC l fun r=>p (d_Pi a r)):bC (v_Pi l) p:=
 fun x0 gx0 x1 gx1=>h ⟨x0,x1⟩ ⟨gx0,gx1⟩
def q_Pi:=And.intro @v_Pi.eq_1 (And.intro @d_Pi.eq_1 (And.intro @rd_Pi.eq_1 (@kPi.eq_1)))
def aS:=And.intro Pi.eta (And.intro Pu.eta (Rg.eta))
theorem gO {p q q2:Prop} (k:q2) (h:p->q=q2:=by intro e;(try simp only[e,aS,-eq_self]);rfl):p->q:=fun e=>(h e).symm▸k
def aj8:List (Nat×TI):=[(2,tiq2),
 (42,dR),
 (44,ew),
 (209,aaW),
 (213,aaV)]
theorem bT:∀t i,(t,i)∈aj8->TIok Tryz.prog t i:=aV fa0 fa0 (by kernel_rfl)
def c_uns:Cd:=⟨174,[.agg kRg],[.agg kPu],rd_Rg fun a _=>d_Pu ((⟨a.ul,a.uh⟩:Pu)) [],T0⟩
def ahD:Tr:=
(.leaf (.vs 0 2 .nil))
theorem adO:c_uns.Ok Tryz.prog:=
 oks ahD (v_Rg []) bT ol0 Tryz.func174<|bM fun a ha hp U g=>by
 simp only[q_Rg,q_Pu,gS1,Nat.reduceAdd] at g
 simp only[ahD,spQ,rdZ,rdB,rdL,c_uns,q_Rg,q_Pu,simQ,ab,S1,Nat.reduceSub,Nat.reduceAdd,-eq_self,Rg.eta,g]
 ·rfl
def c_sig:Cd:=⟨176,[.agg kRg],[.agg kPi],rd_Rg fun a _=>d_Pi ((⟨a.sl,a.sh⟩:Pi)) [],T0⟩
def ahF:Tr:=
(.leaf (.vs 2 2 .nil))
theorem adQ:c_sig.Ok Tryz.prog:=
 oks ahF (v_Rg []) bT ol0 Tryz.func176<|bM fun a ha hp U g=>by
 simp only[q_Rg,q_Pi,gS1,Nat.reduceAdd] at g
 simp only[ahF,spQ,rdZ,rdB,rdL,c_sig,q_Rg,q_Pi,simQ,ab,S1,Nat.reduceSub,Nat.reduceAdd,-eq_self,Rg.eta,g]
 ·rfl
def c_umay:Cd:=⟨219,[.agg kPu],[.one .bool],rd_Pu fun a _=>[.z (b2i (decide (a.lo<=a.hi)))],T0⟩
def abU:Tr:=
(.leaf (.consb (.not (.lt (.var 1) (.var 0))) .nil))
theorem anv:c_umay.Ok Tryz.prog:=
 oks abU (v_Pu []) bT ol0 Tryz.func219<|jn fun a ha hp U g=>by
 simp only[q_Pu,gS1,Nat.reduceAdd] at g
 simp only[abU,spQ,rdZ,rdB,rdL,c_umay,q_Pu,simQ,ab,S1,Nat.reduceSub,Nat.reduceAdd,-eq_self,Pu.eta,g]
 ·simp[bt]
def c_imay:Cd:=⟨220,[.agg kPi],[.one .bool],rd_Pi fun a _=>[.z (b2i (decide (a.lo<=a.hi)))],T0⟩
def acH:Tr:=
(.leaf (.consb (.not (.lt (.var 1) (.var 0))) .nil))
theorem anT:c_imay.Ok Tryz.prog:=
 oks acH (v_Pi []) bT ol0 Tryz.func220<|jo fun a ha hp U g=>by
 simp only[q_Pi,gS1,Nat.reduceAdd] at g
 simp only[acH,spQ,rdZ,rdB,rdL,c_imay,q_Pi,simQ,ab,S1,Nat.reduceSub,Nat.reduceAdd,-eq_self,Pi.eta,g]
 ·simp[bt]
def c_uhas:Cd:=⟨175,[.agg kPu,.one (.int .u64)],[.one .bool],rd_Pu fun a=>rdZ fun v _=>[.z (b2i ((decide (a.lo<=v)&&decide (v<=a.hi))))],T0⟩
def abV:Tr:=
(.br (.lt (.var 2) (.var 0))
 zlF
(.leaf (.consb (.not (.lt (.var 1) (.var 2))) .nil)))
theorem anw:c_uhas.Ok Tryz.prog:=
 oks abV (v_Pu [.int .u64]) bT ol0 Tryz.func175<|jn fun a ha=>fun v hv hp U g=>by
 simp only[q_Pu,gS1,Nat.reduceAdd] at g
 simp only[abV,spQ,rdZ,rdB,rdL,c_uhas,q_Pu,simQ,ab,S1,Nat.reduceSub,Nat.reduceAdd,-eq_self,Pu.eta,g]
 constructor<;>intro c0
 ·simp_all [bt]
 ·simp_all [bt]
def c_ihas:Cd:=⟨177,[.agg kPi,.one (.int .i64)],[.one .bool],rd_Pi fun a=>rdZ fun v _=>[.z (b2i ((decide (a.lo<=v)&&decide (v<=a.hi))))],T0⟩
def acI:Tr:=
(.br (.lt (.var 2) (.var 0))
 zlF
(.leaf (.consb (.not (.lt (.var 1) (.var 2))) .nil)))
theorem anU:c_ihas.Ok Tryz.prog:=
 oks acI (v_Pi [.int .i64]) bT ol0 Tryz.func177<|jo fun a ha=>fun v hv hp U g=>by
 simp only[q_Pi,gS1,Nat.reduceAdd] at g
 simp only[acI,spQ,rdZ,rdB,rdL,c_ihas,q_Pi,simQ,ab,S1,Nat.reduceSub,Nat.reduceAdd,-eq_self,Pi.eta,g]
 constructor<;>intro c0
 ·simp_all [bt]
 ·simp_all [bt]
def c_umeet:Cd:=⟨236,[.agg kPu,.agg kPu],[.agg kPu],rd_Pu fun a=>rd_Pu fun b _=>d_Pu ((⟨max a.lo b.lo,min a.hi b.hi⟩:Pu)) [],T0⟩
def wt:Tr:=
(.leaf (.cons (.mx (.var 0) (.var 2)) (.cons (.mn (.var 1) (.var 3)) .nil)))
theorem adP:c_umeet.Ok Tryz.prog:=
 oks wt (v_Pu (v_Pu [])) bT ol0 Tryz.func236<|jn fun a ha=>jn fun b hb hp U g=>by
 simp only[q_Pu,gS1,Nat.reduceAdd] at g
 simp only[wt,spQ,rdZ,rdB,rdL,c_umeet,q_Pu,simQ,ab,S1,Nat.reduceSub,Nat.reduceAdd,-eq_self,Pu.eta,g]
 ·rfl
def c_imeet:Cd:=⟨237,[.agg kPi,.agg kPi],[.agg kPi],rd_Pi fun a=>rd_Pi fun b _=>d_Pi ((⟨max a.lo b.lo,min a.hi b.hi⟩:Pi)) [],T0⟩
def wH:Tr:=
(.leaf (.cons (.mx (.var 0) (.var 2)) (.cons (.mn (.var 1) (.var 3)) .nil)))
theorem ad3:c_imeet.Ok Tryz.prog:=
 oks wH (v_Pi (v_Pi [])) bT ol0 Tryz.func237<|jo fun a ha=>jo fun b hb hp U g=>by
 simp only[q_Pi,gS1,Nat.reduceAdd] at g
 simp only[wH,spQ,rdZ,rdB,rdL,c_imeet,q_Pi,simQ,ab,S1,Nat.reduceSub,Nat.reduceAdd,-eq_self,Pi.eta,g]
 ·rfl
def c_of:Cd:=⟨186,[.agg kPu,.agg kPi],[.agg kRg],rd_Pu fun a=>rd_Pi fun b _=>d_Rg ((⟨a.lo,a.hi,b.lo,b.hi⟩:Rg)) [],T0⟩
def amC:Tr:=
(.leaf (.vs 0 4 .nil))
theorem k_of:c_of.Ok Tryz.prog:=
 oks amC (v_Pu (v_Pi [])) bT ol0 Tryz.func186<|jn fun a ha=>jo fun b hb hp U g=>by
 simp only[q_Pu,q_Pi,q_Rg,gS1,Nat.reduceAdd] at g
 simp only[amC,spQ,rdZ,rdB,rdL,c_of,q_Pu,q_Pi,q_Rg,simQ,ab,S1,Nat.reduceSub,Nat.reduceAdd,-eq_self,Pi.eta,Pu.eta,g]
 ·rfl
def c_may:Cd:=⟨172,[.agg kRg],[.one .bool],rd_Rg fun a _=>[.z (b2i (bmay a))],T0⟩
def ahH:Tr:=
(.call 0 (kPu) (.vs 0 4 .nil) 4
(.call 2 [.bool] (.vs 4 2 .nil) 6
(.br (.bw 6)
(.call 1 (kPi) (.vs 0 4 .nil) 7
(.call 3 [.bool] (.vs 7 2 .nil) 9
(.leaf (.consb (.bw 9) .nil))))
 zlF)))
theorem vd:c_may.Ok Tryz.prog:=
 oks ahH (v_Rg []) bT (olc adO<|olc adQ<|olc anv<|olc anT ol0) Tryz.func172<|bM fun a ha hp U g=>by
 simp only[q_Rg,q_Pu,q_Pi,gS1,Nat.reduceAdd] at g
 simp only[ahH,spQ,c_uns,c_sig,c_umay,c_imay,rdZ,rdB,rdL,c_may,q_Rg,q_Pu,q_Pi,simQ,ab,S1,Nat.reduceSub,Nat.reduceAdd,-eq_self,aS,g]
 refine gO ?_
 refine gO ?_
 constructor<;>intro c0
 refine gO ?_
 refine gO ?_
 ·(unfold bmay;simp_all;try (intros;omega))
 ·(unfold bmay;simp_all;try (intros;omega))
def c_all:Cd:=⟨156,[],[.agg kRg],fun _=>d_Rg ball [],T0⟩
def ahR:Tr:=
(.call 0 (kRg) (.zs [0,18446744073709551615,-9223372036854775808,9223372036854775807] .nil) 0
(.leaf (.vs 0 4 .nil)))
theorem nO:c_all.Ok Tryz.prog:=
 oks ahR [] bT (olc k_of ol0) Tryz.func156<|fun hp U g=>by
 simp only[ahR,spQ,c_of,rdZ,rdB,rdL,c_all,q_Rg,q_Pu,q_Pi,simQ,ab,S1,Nat.reduceSub,Nat.reduceAdd,-eq_self,aS]
 refine gO ?_
 ·rfl
def c_one:Cd:=⟨140,[.one (.int .u64)],[.agg kRg],rdZ fun v _=>d_Rg (bone v) [],T0⟩
def ahG:Tr:=
(.call 0 (kRg) (.cons (.var 0) (.cons (.var 0) (.cons (.conv .i64 (.var 0)) (.cons (.conv .i64 (.var 0)) .nil)))) 1
(.leaf (.vs 1 4 .nil)))
theorem apk:c_one.Ok Tryz.prog:=
 oks ahG [.int .u64] bT (olc k_of ol0) Tryz.func140<|fun v hv hp U g=>by
 simp only[q_Rg,q_Pu,q_Pi,gS1,Nat.reduceAdd] at g
 simp only[ahG,spQ,c_of,rdZ,rdB,rdL,c_one,q_Rg,q_Pu,q_Pi,simQ,ab,S1,Nat.reduceSub,Nat.reduceAdd,-eq_self,aS,g]
 refine gO ?_
 ·simp[bone,bk]
def c_has:Cd:=⟨109,[.agg kRg,.one (.int .u64)],[.one .bool],rd_Rg fun a=>rdZ fun v _=>[.z (b2i (bhas a v))],T0⟩
def ahQ:Tr:=
(.call 0 [.bool] (.vs 0 4 .nil) 5
(.br (.bw 5)
(.call 1 (kPu) (.vs 0 4 .nil) 6
(.call 3 [.bool] (.vs 6 2 (.cons (.var 4) .nil)) 8
(.br (.bw 8)
(.call 2 (kPi) (.vs 0 4 .nil) 9
(.call 4 [.bool] (.vs 9 2 (.cons (.conv .i64 (.var 4)) .nil)) 11
(.leaf (.consb (.bw 11) .nil))))
 zlF)))
 zlF))
theorem apt:c_has.Ok Tryz.prog:=
 oks ahQ (v_Rg [.int .u64]) bT (olc vd<|olc adO<|olc adQ<|olc anw<|olc anU ol0) Tryz.func109<|bM fun a ha=>fun v hv hp U g=>by
 simp only[q_Rg,q_Pu,q_Pi,gS1,Nat.reduceAdd] at g
 simp only[ahQ,spQ,c_may,c_uns,c_sig,c_uhas,c_ihas,rdZ,rdB,rdL,c_has,q_Rg,q_Pu,q_Pi,simQ,ab,S1,Nat.reduceSub,Nat.reduceAdd,-eq_self,aS,g]
 refine gO ?_
 constructor<;>intro c0
 refine gO ?_
 refine gO ?_
 constructor<;>intro c1
 refine gO ?_
 refine gO ?_
 ·(unfold bhas;simp_all [bk];try (intros;omega))
 ·(unfold bhas;simp_all [bk];try (intros;omega))
 ·(unfold bhas;simp_all [bk];try (intros;omega))
def c_single:Cd:=⟨194,[.agg kRg],[.one (.int .u64),.one .bool],rd_Rg fun a _=>[.z (aj a),.z (b2i (dg a))],T0⟩
def sq:Tr:=
(.br (.eq (.var 0) (.var 1))
(.call 0 [.bool] (.vs 0 4 (.cons (.var 0) .nil)) 4
(.br (.bw 4)
(.leaf (.cons (.var 0) (.consb (.tt true) .nil)))
(.leaf (.cons (.lit 0) (.consb (.tt false) .nil)))))
(.leaf (.cons (.lit 0) (.consb (.tt false) .nil))))
theorem qN:c_single.Ok Tryz.prog:=
 oks sq (v_Rg []) bT (olc apt ol0) Tryz.func194<|bM fun a ha hp U g=>by
 simp only[q_Rg,gS1,Nat.reduceAdd] at g
 simp only[sq,spQ,c_has,rdZ,rdB,rdL,c_single,q_Rg,simQ,ab,S1,Nat.reduceSub,Nat.reduceAdd,-eq_self,aS,g]
 constructor<;>intro c0
 refine gO ?_
 constructor<;>intro c1
 ·(unfold aj dg;simp_all)
 ·(unfold aj dg;simp_all)
 ·(unfold aj dg;simp_all)
theorem lx (r:Rg):(if bnok r=true then bnar r else ball)=bnar r:=by
 unfold bnar
 split<;>simp_all
theorem Rg.ext_iff {a b:Rg}:a=b↔a.ul=b.ul/\a.uh=b.uh/\a.sl=b.sl/\a.sh=b.sh:=by
 cases a;cases b;simp
theorem bB {x:Int} (h:inK .u64 x=true):0<=x/\x<=18446744073709551615:=by
 rw[bL] at h;simpa[IntKind.min,IntKind.max,IntKind.signed,IntKind.bits] using h
theorem cX {x:Int} (h:inK .i64 x=true) : -9223372036854775808<=x/\x<=9223372036854775807:=by
 rw[bL] at h;simpa[IntKind.min,IntKind.max,IntKind.signed,IntKind.bits] using h
theorem Rg.wf_of {a:Rg} (h:a.ok):a.wf:=⟨bB h.1,bB h.2.1,cX h.2.2.1,cX h.2.2.2⟩
theorem amz {x:Int} (h:0<=x/\x<=18446744073709551615):opI .shr .u64 x 63=if hib x=true then 1 else 0:=by
 show x.fdiv (2 ^ 63)=_
 rw[Int.fdiv_eq_ediv_of_nonneg _ (by omega)]
 unfold hib
 split
 ·rename_i hh;have:=thm3 hh;omega
 ·rename_i hh;have:¬9223372036854775808<=x:=fun e=>hh (eA e);omega
theorem an0 {r:Rg} (w:r.wf):(opI .shr .u64 r.ul 63==opI .shr .u64 r.uh 63)=decide (hib r.ul=hib r.uh):=by
 rw[amz w.1,amz w.2.1]
 cases hib r.ul<;>cases hib r.uh<;>rfl
theorem ij {r:Rg} (w:r.wf) (h:(opI .shr .u64 r.ul 63==opI .shr .u64 r.uh 63)=true):bsgn r=⟨r.ul,r.uh,max r.sl (IntKind.i64.wrap r.ul),min r.sh (IntKind.i64.wrap r.uh)⟩:=by
 rw[an0 w,ba] at h
 unfold bsgn
 rw[if_pos h,bk,bk]
theorem lQ {r:Rg} (w:r.wf) (h:(opI .shr .u64 r.ul 63==opI .shr .u64 r.uh 63)=false):bsgn r=⟨r.ul,r.uh,r.sl,r.sh⟩:=by
 rw[an0 w,decide_eq_false_iff_not] at h
 unfold bsgn
 rw[if_neg h]
theorem pK {r:Rg} (h:(decide (r.sl<0)==decide (r.sh<0))=true):buns r=⟨max r.ul (IntKind.u64.wrap r.sl),min r.uh (IntKind.u64.wrap r.sh),r.sl,r.sh⟩:=by
 unfold buns
 rw[if_pos (eq_of_beq h)]
theorem tX {r:Rg} (h:(decide (r.sl<0)==decide (r.sh<0))=false):buns r=⟨r.ul,r.uh,r.sl,r.sh⟩:=by
 unfold buns
 rw[if_neg (fun e=>by rw[e] at h;simp at h)]
def z_Rg:List C:=[.int .u64 (.lit 0),.int .u64 (.lit 0),.int .i64 (.lit 0),.int .i64 (.lit 0)]
theorem an4:Tryz.prog.eqGuardType Tryz.prog.depth 44=false:=by kernel_rfl
theorem zy:Tryz.prog.cellsOf 44=4:=by kernel_rfl
theorem zC:Tryz.prog.cellsOf 42=1:=by kernel_rfl
theorem aeC:Tryz.prog.cellsOf 2=1:=by kernel_rfl
theorem apb (vs:List Value) (hv:aC vs z_Rg):Tryz.prog.keyLits 6 44 vs=some (cg vs):=by
 obtain⟨x0,_,rfl,g0,hv⟩:=ae hv
 obtain⟨x1,_,rfl,g1,hv⟩:=ae hv
 obtain⟨x2,_,rfl,g2,hv⟩:=ae hv
 obtain⟨x3,_,rfl,g3,hv⟩:=ae hv
 obtain rfl:=bD hv
 simp[Program.keyLits,Tryz.underlying44,Tryz.underlying42,Tryz.underlying2,zy,zC,aeC,xN,cg,g0,g1,g2,g3]
theorem apX (vs:List Value) (hv:aC vs z_Rg):(Value.agg vs.toArray).formed Tryz.prog 44=true:=by
 obtain⟨x0,_,rfl,g0,hv⟩:=ae hv
 obtain⟨x1,_,rfl,g1,hv⟩:=ae hv
 obtain⟨x2,_,rfl,g2,hv⟩:=ae hv
 obtain⟨x3,_,rfl,g3,hv⟩:=ae hv
 obtain rfl:=bD hv
 kernel_rfl
theorem ap0 (vs us:List Value) (hv:aC vs z_Rg) (hu:aC us z_Rg) (w:World):(Op.equal 44 (.agg vs.toArray) (.agg us.toArray)).run Tryz.prog w=.ok (eqVs vs us) w:=
 gq (by kernel_rfl) apX 6 apb vs us hv hu w
theorem ak {p q q2:Prop} (k:q2) (h:p->q=q2:=by intro e;(try simp only[e,aS,-eq_self]);rfl):p->q:=fun e=>(h e).symm▸k
def aaC:List (Nat×TI):=[(2,tiq2),
 (3,tiq3),
 (4,tiq4),
 (42,dR),
 (44,⟨true,4,(zN 4 2211),[(0,42),(1,42),(2,2),(3,2)],none,none,true,false,none,32,false,none,false,0⟩),
 (209,aaW),
 (213,aaV)]
theorem fZ:∀t i,(t,i)∈aaC->TIok Tryz.prog t i:=aV (fac (z:=z_Rg) ⟨ap0,an4⟩ fa0) fa0 (by kernel_rfl)
def c_nar:Cd:=⟨201,[.agg kRg],[.agg kRg,.one .bool],rd_Rg fun a _=>d_Rg (bnar a) [.z (b2i (bnok a))],T0⟩
def zsh2:Tr:=(.call 0 [.bool] (.vs 29 4 .nil) 33
(.br (.bw 33)
(.call 2 (kPu) (.vs 29 4 .nil) 34
(.call 3 (kPi) (.vs 29 4 .nil) 36
(.leaf (.vs 29 4 (.consb (.tt true) .nil)))))
(.call 1 (kRg) .nil 34
(.leaf (.vs 34 4 (.consb (.tt false) .nil))))))
def zsh1:Tr:=(.call 0 [.bool] (.vs 31 4 .nil) 35
(.br (.bw 35)
(.call 2 (kPu) (.vs 31 4 .nil) 36
(.call 3 (kPi) (.vs 31 4 .nil) 38
(.leaf (.vs 31 4 (.consb (.tt true) .nil)))))
(.call 1 (kRg) .nil 36
(.leaf (.vs 36 4 (.consb (.tt false) .nil))))))
def zsh0:Tr:=(.call 0 [.bool] (.vs 20 4 .nil) 24
(.br (.bw 24)
(.call 2 (kPu) (.vs 20 4 .nil) 25
(.call 3 (kPi) (.vs 20 4 .nil) 27
(.br (.eq (.bin .shr .u64 (.var 25) (.lit 63)) (.bin .shr .u64 (.var 26) (.lit 63)))
(.call 5 (kPi) (.vs 27 2 (.cons (.conv .i64 (.var 25)) (.cons (.conv .i64 (.var 26)) .nil))) 29
(.call 6 (kRg) (.vs 25 2 (.vs 29 2 .nil)) 31
 zsh1))
(.call 6 (kRg) (.vs 25 4 .nil) 29
 zsh2))))
(.call 1 (kRg) .nil 25
(.leaf (.vs 25 4 (.consb (.tt false) .nil))))))
def ack:Tr:=
(.call 0 [.bool] (.vs 0 4 .nil) 4
(.br (.bw 4)
(.call 2 (kPu) (.vs 0 4 .nil) 5
(.call 3 (kPi) (.vs 0 4 .nil) 7
(.br (.eq (.bin .shr .u64 (.var 5) (.lit 63)) (.bin .shr .u64 (.var 6) (.lit 63)))
(.call 5 (kPi) (.vs 7 2 (.cons (.conv .i64 (.var 5)) (.cons (.conv .i64 (.var 6)) .nil))) 9
(.call 6 (kRg) (.vs 5 2 (.vs 9 2 .nil)) 11
(.call 0 [.bool] (.vs 11 4 .nil) 15
(.br (.bw 15)
(.call 2 (kPu) (.vs 11 4 .nil) 16
(.call 3 (kPi) (.vs 11 4 .nil) 18
(.br (.beq (.lt (.var 18) (.lit 0)) (.lt (.var 19) (.lit 0)))
(.call 4 (kPu) (.vs 16 2 (.cons (.conv .u64 (.var 18)) (.cons (.conv .u64 (.var 19)) .nil))) 20
(.call 6 (kRg) (.vs 20 2 (.vs 18 2 .nil)) 22
(.call 0 [.bool] (.vs 22 4 .nil) 26
(.br (.bw 26)
(.call 2 (kPu) (.vs 22 4 .nil) 27
(.call 3 (kPi) (.vs 22 4 .nil) 29
(.br (.eq (.bin .shr .u64 (.var 27) (.lit 63)) (.bin .shr .u64 (.var 28) (.lit 63)))
(.call 5 (kPi) (.vs 29 2 (.cons (.conv .i64 (.var 27)) (.cons (.conv .i64 (.var 28)) .nil))) 31
(.call 6 (kRg) (.vs 27 2 (.vs 31 2 .nil)) 33
(.call 0 [.bool] (.vs 33 4 .nil) 37
(.br (.bw 37)
(.call 2 (kPu) (.vs 33 4 .nil) 38
(.call 3 (kPi) (.vs 33 4 .nil) 40
(.leaf (.vs 33 4 (.consb (.tt true) .nil)))))
(.call 1 (kRg) .nil 38
(.leaf (.vs 38 4 (.consb (.tt false) .nil))))))))
(.call 6 (kRg) (.vs 27 4 .nil) 31
 zsh1))))
(.call 1 (kRg) .nil 27
(.leaf (.vs 27 4 (.consb (.tt false) .nil))))))))
(.call 6 (kRg) (.vs 16 4 .nil) 20
 zsh0))))
(.call 1 (kRg) .nil 16
(.leaf (.vs 16 4 (.consb (.tt false) .nil))))))))
(.call 6 (kRg) (.vs 5 4 .nil) 9
(.call 0 [.bool] (.vs 9 4 .nil) 13
(.br (.bw 13)
(.call 2 (kPu) (.vs 9 4 .nil) 14
(.call 3 (kPi) (.vs 9 4 .nil) 16
(.br (.beq (.lt (.var 16) (.lit 0)) (.lt (.var 17) (.lit 0)))
(.call 4 (kPu) (.vs 14 2 (.cons (.conv .u64 (.var 16)) (.cons (.conv .u64 (.var 17)) .nil))) 18
(.call 6 (kRg) (.vs 18 2 (.vs 16 2 .nil)) 20
 zsh0))
(.call 6 (kRg) (.vs 14 4 .nil) 18
(.call 0 [.bool] (.vs 18 4 .nil) 22
(.br (.bw 22)
(.call 2 (kPu) (.vs 18 4 .nil) 23
(.call 3 (kPi) (.vs 18 4 .nil) 25
(.br (.eq (.bin .shr .u64 (.var 23) (.lit 63)) (.bin .shr .u64 (.var 24) (.lit 63)))
(.call 5 (kPi) (.vs 25 2 (.cons (.conv .i64 (.var 23)) (.cons (.conv .i64 (.var 24)) .nil))) 27
(.call 6 (kRg) (.vs 23 2 (.vs 27 2 .nil)) 29
 zsh2))
(.call 6 (kRg) (.vs 23 4 .nil) 27
(.call 0 [.bool] (.vs 27 4 .nil) 31
(.br (.bw 31)
(.call 2 (kPu) (.vs 27 4 .nil) 32
(.call 3 (kPi) (.vs 27 4 .nil) 34
(.leaf (.vs 27 4 (.consb (.tt true) .nil)))))
(.call 1 (kRg) .nil 32
(.leaf (.vs 32 4 (.consb (.tt false) .nil))))))))))
(.call 1 (kRg) .nil 23
(.leaf (.vs 23 4 (.consb (.tt false) .nil))))))))))
(.call 1 (kRg) .nil 14
(.leaf (.vs 14 4 (.consb (.tt false) .nil))))))))))
(.call 1 (kRg) .nil 5
(.leaf (.vs 5 4 (.consb (.tt false) .nil))))))
theorem amI:bp aaC (smN 0 [c_may,c_all,c_uns,c_sig,c_umeet,c_imeet,c_of]) [] [] [] 200 Tryz.f201 c_nar.a c_nar.r (tp c_nar.r) (v_Rg []) ack:=trI (by kernel_rfl)
theorem alI:c_nar.Ok Tryz.prog:=
 okc ack (v_Rg []) fZ (olc vd<|olc nO<|olc adO<|olc adQ<|olc adP<|olc ad3<|olc k_of ol0) Tryz.func201 fn0 amI<|bM fun a ha hp U g=>by
 simp only[q_Rg,q_Pu,q_Pi,gS1,Nat.reduceAdd] at g
 simp only[ack,zsh0,zsh1,zsh2,spQ,c_may,c_all,c_uns,c_sig,c_umeet,c_imeet,c_of,rdZ,rdB,rdL,c_nar,q_Rg,q_Pu,q_Pi,simQ,ab,S1,Nat.reduceSub,Nat.reduceAdd,-eq_self,aS,g]
 have wfg:=Rg.wf_of ha
 refine ak ?_
 constructor<;>intro c0
 refine ak ?_
 refine ak ?_
 constructor<;>intro c1
 refine ak ?_
 refine ak ?_
 refine ak ?_
 constructor<;>intro c2
 refine ak ?_
 refine ak ?_
 constructor<;>intro c3
 refine ak ?_
 refine ak ?_
 refine ak ?_
 constructor<;>intro c4
 refine ak ?_
 refine ak ?_
 constructor<;>intro c5
 refine ak ?_
 refine ak ?_
 refine ak ?_
 constructor<;>intro c6
 refine ak ?_
 refine ak ?_
 ·(have s1:=ij (wfg) (by exact c1);have s2:=pK (r:=bsgn a) (by rw[s1];exact c3);have s3:=ij (dZ (dE wfg)) (by rw[s2,s1];exact c5);have hok:bnok a=true:=(by unfold bnok;(try rw[s3,s2,s1]);(try rw[c0]);(try rw[c2]);(try rw[c4]);(try rw[c6]);(try rfl));have hnar:bnar a=bsgn (buns (bsgn a)):=(by unfold bnar;rw[hok];rfl);rw[hok,hnar];rw[s3,s2,s1];(try rfl))
 refine ak ?_
 ·(have s1:=ij (wfg) (by exact c1);have s2:=pK (r:=bsgn a) (by rw[s1];exact c3);have s3:=ij (dZ (dE wfg)) (by rw[s2,s1];exact c5);have hok:bnok a=false:=(by unfold bnok;(try rw[s3,s2,s1]);(try rw[c0]);(try rw[c2]);(try rw[c4]);(try rw[c6]);(try rfl));have hnar:bnar a=ball:=(by unfold bnar;rw[hok];rfl);rw[hok,hnar];(try rfl))
 refine ak ?_
 refine ak ?_
 constructor<;>intro c7
 refine ak ?_
 refine ak ?_
 ·(have s1:=ij (wfg) (by exact c1);have s2:=pK (r:=bsgn a) (by rw[s1];exact c3);have s3:=lQ (dZ (dE wfg)) (by rw[s2,s1];exact c5);have hok:bnok a=true:=(by unfold bnok;(try rw[s3,s2,s1]);(try rw[c0]);(try rw[c2]);(try rw[c4]);(try rw[c7]);(try rfl));have hnar:bnar a=bsgn (buns (bsgn a)):=(by unfold bnar;rw[hok];rfl);rw[hok,hnar];rw[s3,s2,s1];(try rfl))
 refine ak ?_
 ·exact absurd (c4.symm.trans c7) (by simp)
 refine ak ?_
 ·(have s1:=ij (wfg) (by exact c1);have s2:=pK (r:=bsgn a) (by rw[s1];exact c3);have hok:bnok a=false:=(by unfold bnok;(try rw[s2,s1]);(try rw[c0]);(try rw[c2]);(try rw[c4]);(try rfl));have hnar:bnar a=ball:=(by unfold bnar;rw[hok];rfl);rw[hok,hnar];(try rfl))
 refine ak ?_
 refine ak ?_
 constructor<;>intro c8
 refine ak ?_
 refine ak ?_
 constructor<;>intro c9
 refine ak ?_
 refine ak ?_
 refine ak ?_
 constructor<;>intro c10
 refine ak ?_
 refine ak ?_
 ·(have s1:=ij (wfg) (by exact c1);have s2:=tX (r:=bsgn a) (by rw[s1];exact c3);have s3:=ij (dZ (dE wfg)) (by rw[s2,s1];exact c9);have hok:bnok a=true:=(by unfold bnok;(try rw[s3,s2,s1]);(try rw[c0]);(try rw[c2]);(try rw[c8]);(try rw[c10]);(try rfl));have hnar:bnar a=bsgn (buns (bsgn a)):=(by unfold bnar;rw[hok];rfl);rw[hok,hnar];rw[s3,s2,s1];(try rfl))
 refine ak ?_
 ·(have s1:=ij (wfg) (by exact c1);have s2:=tX (r:=bsgn a) (by rw[s1];exact c3);have s3:=ij (dZ (dE wfg)) (by rw[s2,s1];exact c9);have hok:bnok a=false:=(by unfold bnok;(try rw[s3,s2,s1]);(try rw[c0]);(try rw[c2]);(try rw[c8]);(try rw[c10]);(try rfl));have hnar:bnar a=ball:=(by unfold bnar;rw[hok];rfl);rw[hok,hnar];(try rfl))
 refine ak ?_
 refine ak ?_
 constructor<;>intro c11
 refine ak ?_
 refine ak ?_
 ·(have s1:=ij (wfg) (by exact c1);have s2:=tX (r:=bsgn a) (by rw[s1];exact c3);have s3:=lQ (dZ (dE wfg)) (by rw[s2,s1];exact c9);have hok:bnok a=true:=(by unfold bnok;(try rw[s3,s2,s1]);(try rw[c0]);(try rw[c2]);(try rw[c8]);(try rw[c11]);(try rfl));have hnar:bnar a=bsgn (buns (bsgn a)):=(by unfold bnar;rw[hok];rfl);rw[hok,hnar];rw[s3,s2,s1];(try rfl))
 refine ak ?_
 ·exact absurd (c8.symm.trans c11) (by simp)
 refine ak ?_
 ·exact absurd (c2.symm.trans c8) (by simp)
 refine ak ?_
 ·(have s1:=ij (wfg) (by exact c1);have hok:bnok a=false:=(by unfold bnok;(try rw[s1]);(try rw[c0]);(try rw[c2]);(try rfl));have hnar:bnar a=ball:=(by unfold bnar;rw[hok];rfl);rw[hok,hnar];(try rfl))
 refine ak ?_
 refine ak ?_
 constructor<;>intro c12
 refine ak ?_
 refine ak ?_
 constructor<;>intro c13
 refine ak ?_
 refine ak ?_
 refine ak ?_
 constructor<;>intro c14
 refine ak ?_
 refine ak ?_
 constructor<;>intro c15
 refine ak ?_
 refine ak ?_
 refine ak ?_
 constructor<;>intro c16
 refine ak ?_
 refine ak ?_
 ·(have s1:=lQ (wfg) (by exact c1);have s2:=pK (r:=bsgn a) (by rw[s1];exact c13);have s3:=ij (dZ (dE wfg)) (by rw[s2,s1];exact c15);have hok:bnok a=true:=(by unfold bnok;(try rw[s3,s2,s1]);(try rw[c0]);(try rw[c12]);(try rw[c14]);(try rw[c16]);(try rfl));have hnar:bnar a=bsgn (buns (bsgn a)):=(by unfold bnar;rw[hok];rfl);rw[hok,hnar];rw[s3,s2,s1];(try rfl))
 refine ak ?_
 ·(have s1:=lQ (wfg) (by exact c1);have s2:=pK (r:=bsgn a) (by rw[s1];exact c13);have s3:=ij (dZ (dE wfg)) (by rw[s2,s1];exact c15);have hok:bnok a=false:=(by unfold bnok;(try rw[s3,s2,s1]);(try rw[c0]);(try rw[c12]);(try rw[c14]);(try rw[c16]);(try rfl));have hnar:bnar a=ball:=(by unfold bnar;rw[hok];rfl);rw[hok,hnar];(try rfl))
 refine ak ?_
 refine ak ?_
 constructor<;>intro c17
 refine ak ?_
 refine ak ?_
 ·(have s1:=lQ (wfg) (by exact c1);have s2:=pK (r:=bsgn a) (by rw[s1];exact c13);have s3:=lQ (dZ (dE wfg)) (by rw[s2,s1];exact c15);have hok:bnok a=true:=(by unfold bnok;(try rw[s3,s2,s1]);(try rw[c0]);(try rw[c12]);(try rw[c14]);(try rw[c17]);(try rfl));have hnar:bnar a=bsgn (buns (bsgn a)):=(by unfold bnar;rw[hok];rfl);rw[hok,hnar];rw[s3,s2,s1];(try rfl))
 refine ak ?_
 ·exact absurd (c14.symm.trans c17) (by simp)
 refine ak ?_
 ·(have s1:=lQ (wfg) (by exact c1);have s2:=pK (r:=bsgn a) (by rw[s1];exact c13);have hok:bnok a=false:=(by unfold bnok;(try rw[s2,s1]);(try rw[c0]);(try rw[c12]);(try rw[c14]);(try rfl));have hnar:bnar a=ball:=(by unfold bnar;rw[hok];rfl);rw[hok,hnar];(try rfl))
 refine ak ?_
 refine ak ?_
 constructor<;>intro c18
 refine ak ?_
 refine ak ?_
 constructor<;>intro c19
 refine ak ?_
 refine ak ?_
 refine ak ?_
 constructor<;>intro c20
 refine ak ?_
 refine ak ?_
 ·(have s1:=lQ (wfg) (by exact c1);have s2:=tX (r:=bsgn a) (by rw[s1];exact c13);have s3:=ij (dZ (dE wfg)) (by rw[s2,s1];exact c19);have hok:bnok a=true:=(by unfold bnok;(try rw[s3,s2,s1]);(try rw[c0]);(try rw[c12]);(try rw[c18]);(try rw[c20]);(try rfl));have hnar:bnar a=bsgn (buns (bsgn a)):=(by unfold bnar;rw[hok];rfl);rw[hok,hnar];rw[s3,s2,s1];(try rfl))
 refine ak ?_
 ·(have s1:=lQ (wfg) (by exact c1);have s2:=tX (r:=bsgn a) (by rw[s1];exact c13);have s3:=ij (dZ (dE wfg)) (by rw[s2,s1];exact c19);have hok:bnok a=false:=(by unfold bnok;(try rw[s3,s2,s1]);(try rw[c0]);(try rw[c12]);(try rw[c18]);(try rw[c20]);(try rfl));have hnar:bnar a=ball:=(by unfold bnar;rw[hok];rfl);rw[hok,hnar];(try rfl))
 refine ak ?_
 refine ak ?_
 constructor<;>intro c21
 refine ak ?_
 refine ak ?_
 ·(have s1:=lQ (wfg) (by exact c1);have s2:=tX (r:=bsgn a) (by rw[s1];exact c13);have s3:=lQ (dZ (dE wfg)) (by rw[s2,s1];exact c19);have hok:bnok a=true:=(by unfold bnok;(try rw[s3,s2,s1]);(try rw[c0]);(try rw[c12]);(try rw[c18]);(try rw[c21]);(try rfl));have hnar:bnar a=bsgn (buns (bsgn a)):=(by unfold bnar;rw[hok];rfl);rw[hok,hnar];rw[s3,s2,s1];(try rfl))
 refine ak ?_
 ·exact absurd (c18.symm.trans c21) (by simp)
 refine ak ?_
 ·exact absurd (c12.symm.trans c18) (by simp)
 refine ak ?_
 ·exact absurd (c0.symm.trans c12) (by simp)
 refine ak ?_
 ·(have hok:bnok a=false:=(by unfold bnok;(try rw[hok]);(try rw[c0]);(try rfl));have hnar:bnar a=ball:=(by unfold bnar;rw[hok];rfl);rw[hok,hnar];(try rfl))
def c_plus:Cd:=⟨240,[.one (.int .i64),.one (.int .i64)],[.one (.int .i64),.one .bool],rdZ fun a=>rdZ fun b _=>[.z (IntKind.i64.wrap (a+b)),.z (b2i (decide (-9223372036854775808<=a+b/\a+b<=9223372036854775807)))],T0⟩
def ach:Tr:=
(.leaf (.cons (.bin .add .i64 (.var 0) (.var 1)) (.consb (.not (.lt (.bin .and .i64 (.bin .xor .i64 (.var 0) (.bin .add .i64 (.var 0) (.var 1))) (.bin .xor .i64 (.var 1) (.bin .add .i64 (.var 0) (.var 1)))) (.lit 0))) .nil)))
theorem anG:c_plus.Ok Tryz.prog:=
 oks ach [.int .i64,.int .i64] fZ ol0 Tryz.func240<|fun a ha b hb hp U g=>by
 simp only[gS1,Nat.reduceAdd] at g
 simp only[ach,spQ,rdZ,rdB,rdL,c_plus,simQ,ab,S1,Nat.reduceSub,Nat.reduceAdd,-eq_self,g]
 ·(have ga:=cX ha;have gb:=cX hb;simp only[opI,<-bt,<-adb ga.1 ga.2 gb.1 gb.2,Go.IntWalk.i64_left])
def c_minus:Cd:=⟨241,[.one (.int .i64),.one (.int .i64)],[.one (.int .i64),.one .bool],rdZ fun a=>rdZ fun b _=>[.z (IntKind.i64.wrap (a-b)),.z (b2i (decide (-9223372036854775808<=a-b/\a-b<=9223372036854775807)))],T0⟩
def wC:Tr:=
(.leaf (.cons (.bin .sub .i64 (.var 0) (.var 1)) (.consb (.not (.lt (.bin .and .i64 (.bin .xor .i64 (.var 0) (.var 1)) (.bin .xor .i64 (.var 0) (.bin .sub .i64 (.var 0) (.var 1)))) (.lit 0))) .nil)))
theorem alJ:c_minus.Ok Tryz.prog:=
 oks wC [.int .i64,.int .i64] fZ ol0 Tryz.func241<|fun a ha b hb hp U g=>by
 simp only[gS1,Nat.reduceAdd] at g
 simp only[wC,spQ,rdZ,rdB,rdL,c_minus,simQ,ab,S1,Nat.reduceSub,Nat.reduceAdd,-eq_self,g]
 ·(have ga:=cX ha;have gb:=cX hb;simp only[opI,<-bt,<-yW ga.1 ga.2 gb.1 gb.2,Go.IntWalk.i64_left])
def c_nard:Cd:=⟨225,[.agg kRg],[.agg kRg],rd_Rg fun a _=>d_Rg (bnar a) [],T0⟩
def acj:Tr:=
(.call 0 (kRg++[.bool]) (.vs 0 4 .nil) 4
(.leaf (.vs 4 4 .nil)))
theorem aii:c_nard.Ok Tryz.prog:=
 oks acj (v_Rg []) fZ (olc alI ol0) Tryz.func225<|bM fun a ha hp U g=>by
 simp only[q_Rg,gS1,Nat.reduceAdd] at g
 simp only[acj,spQ,c_nar,rdZ,rdB,rdL,c_nard,q_Rg,simQ,ab,S1,Nat.reduceSub,Nat.reduceAdd,-eq_self,aS,g]
 refine ak ?_
 ·rfl
def c_meet:Cd:=⟨193,[.agg kRg,.agg kRg],[.agg kRg,.one .bool],rd_Rg fun a=>rd_Rg fun b _=>d_Rg (dV a b) [.z (b2i (eP a b))],T0⟩
def acl:Tr:=
(.call 0 [.bool] (.vs 0 4 .nil) 8
(.br (.bw 8)
(.call 0 [.bool] (.vs 4 4 .nil) 9
(.br (.bw 9)
(.call 2 (kPu) (.vs 0 4 .nil) 10
(.call 2 (kPu) (.vs 4 4 .nil) 12
(.call 4 (kPu) (.vs 10 4 .nil) 14
(.call 3 (kPi) (.vs 0 4 .nil) 16
(.call 3 (kPi) (.vs 4 4 .nil) 18
(.call 5 (kPi) (.vs 16 4 .nil) 20
(.call 6 (kRg) (.vs 14 2 (.vs 20 2 .nil)) 22
(.call 7 (kRg++[.bool]) (.vs 22 4 .nil) 26
(.leaf (.vs 26 4 (.consb (.bw 30) .nil)))))))))))
(.call 1 (kRg) .nil 10
(.leaf (.vs 10 4 (.consb (.tt false) .nil))))))
(.call 1 (kRg) .nil 9
(.leaf (.vs 9 4 (.consb (.tt false) .nil))))))
theorem aij:c_meet.Ok Tryz.prog:=
 oks acl (v_Rg (v_Rg [])) fZ (olc vd<|olc nO<|olc adO<|olc adQ<|olc adP<|olc ad3<|olc k_of<|olc alI ol0) Tryz.func193<|bM fun a ha=>bM fun b hb hp U g=>by
 simp only[q_Rg,q_Pu,q_Pi,gS1,Nat.reduceAdd] at g
 simp only[acl,spQ,c_may,c_all,c_uns,c_sig,c_umeet,c_imeet,c_of,c_nar,rdZ,rdB,rdL,c_meet,q_Rg,q_Pu,q_Pi,simQ,ab,S1,Nat.reduceSub,Nat.reduceAdd,-eq_self,aS,g]
 refine ak ?_
 constructor<;>intro c0
 refine ak ?_
 constructor<;>intro c1
 refine ak ?_
 refine ak ?_
 refine ak ?_
 refine ak ?_
 refine ak ?_
 refine ak ?_
 refine ak ?_
 refine ak ?_
 ·(unfold dV eP;simp_all [jr,lx])
 refine ak ?_
 ·(unfold dV eP;simp_all [jr,lx])
 refine ak ?_
 ·(unfold dV eP;simp_all [jr,lx])
def c_low:Cd:=⟨234,[.agg kRg],[.agg kRg],rd_Rg fun a _=>d_Rg (blow a) [],T0⟩
def zsh3:Tr:=(.call 1 (kRg) .nil 5
(.call 2 (kRg) (.cons (.var 5) (.cons (.lit 4294967295) (.vs 7 2 .nil))) 9
(.leaf (.vs 9 4 .nil))))
def ahI:Tr:=
(.call 0 [.bool] (.vs 0 4 .nil) 4
(.br (.bw 4)
(.br (.lt (.lit 4294967295) (.var 1))
 zsh3
(.leaf (.vs 0 4 .nil)))
 zsh3))
theorem anH:c_low.Ok Tryz.prog:=
 oks ahI (v_Rg []) fZ (olc vd<|olc nO<|olc aii ol0) Tryz.func234<|bM fun a ha hp U g=>by
 simp only[q_Rg,gS1,Nat.reduceAdd] at g
 simp only[ahI,zsh3,spQ,c_may,c_all,c_nard,rdZ,rdB,rdL,c_low,q_Rg,simQ,ab,S1,Nat.reduceSub,Nat.reduceAdd,-eq_self,aS,g]
 refine ak ?_
 constructor<;>intro c0
 constructor<;>intro c1
 refine ak ?_
 refine ak ?_
 ·(rw[show blow a=bnar (bu 0 4294967295) from if_neg (fun q=>absurd (thm3 c1) (ar.2 q.2))];try rfl)
 ·(rw[show blow a=a from if_pos ⟨c0,ar.1 (thm2 c1)⟩];try rfl)
 refine ak ?_
 refine ak ?_
 ·(rw[show blow a=bnar (bu 0 4294967295) from if_neg (fun q=>by rw[c0] at q;exact absurd q.1 (by simp))];try rfl)
set_option linter.unusedSectionVars false
open Go
theorem agg4 {x0 x1 x2 x3 y0 y1 y2 y3:Int} (h0:x0=y0) (h1:x1=y1) (h2:x2=y2) (h3:x3=y3):[Dt.z x0,.z x1,.z x2,.z x3]=[Dt.z y0,.z y1,.z y2,.z y3]:=by rw[h0,h1,h2,h3]
theorem aR {r s:Rg} (h:r=s):[Dt.z r.ul,.z r.uh,.z r.sl,.z r.sh]=[Dt.z s.ul,.z s.uh,.z s.sl,.z s.sh]:=by rw[h]
def xsum (t:Bool) (a b:Rg):Rg:=
 match t with
 | false=>⟨if a.uh+b.uh<=18446744073709551615 then IntKind.u64.wrap (a.ul+b.ul) else 0,if a.uh+b.uh<=18446744073709551615 then a.uh+b.uh else 18446744073709551615,(bsum a b).sl,(bsum a b).sh⟩
 | true=>⟨if b.uh<=a.ul then IntKind.u64.wrap (a.ul-b.uh) else 0,if b.uh<=a.ul then IntKind.u64.wrap (a.uh-b.ul) else 18446744073709551615,(bdif a b).sl,(bdif a b).sh⟩
section
variable {a b:Rg} (ha:a.ok) (hb:b.ok)
theorem oG (h1:decide (-9223372036854775808<=a.sl+b.sl/\a.sl+b.sl<=9223372036854775807)=true) (h2:decide (-9223372036854775808<=a.sh+b.sh/\a.sh+b.sh<=9223372036854775807)=true):
  IntKind.i64.wrap (a.sl+b.sl)=(xsum false a b).sl/\IntKind.i64.wrap (a.sh+b.sh)=(xsum false a b).sh:=by
 have h1:=thm3 h1;have h2:=thm3 h2
 simp only[xsum,bsum]
 rw[if_pos ⟨h1,h2⟩,if_pos ⟨h1,h2⟩,aL,aL]
 omega
theorem gM (h:decide (-9223372036854775808<=a.sl+b.sl/\a.sl+b.sl<=9223372036854775807)=false\/decide (-9223372036854775808<=a.sh+b.sh/\a.sh+b.sh<=9223372036854775807)=false):
  ball.sl=(xsum false a b).sl/\ball.sh=(xsum false a b).sh:=by
 have hn:¬((-9223372036854775808<=a.sl+b.sl/\a.sl+b.sl<=9223372036854775807)/\(-9223372036854775808<=a.sh+b.sh/\a.sh+b.sh<=9223372036854775807)):=fun q=>by
  rcases h with h | h
  ·exact thm2 h q.1
  ·exact thm2 h q.2
 simp only[xsum,bsum]
 rw[if_neg hn,if_neg hn]
 exact⟨rfl,rfl⟩
theorem pk (h1:decide (-9223372036854775808<=a.sl-b.sh/\a.sl-b.sh<=9223372036854775807)=true) (h2:decide (-9223372036854775808<=a.sh-b.sl/\a.sh-b.sl<=9223372036854775807)=true):
  IntKind.i64.wrap (a.sl-b.sh)=(xsum true a b).sl/\IntKind.i64.wrap (a.sh-b.sl)=(xsum true a b).sh:=by
 have h1:=thm3 h1;have h2:=thm3 h2
 simp only[xsum,bdif]
 rw[if_pos ⟨h1,h2⟩,if_pos ⟨h1,h2⟩,aL,aL]
 omega
theorem gR (h:decide (-9223372036854775808<=a.sl-b.sh/\a.sl-b.sh<=9223372036854775807)=false\/decide (-9223372036854775808<=a.sh-b.sl/\a.sh-b.sl<=9223372036854775807)=false):
  ball.sl=(xsum true a b).sl/\ball.sh=(xsum true a b).sh:=by
 have hn:¬((-9223372036854775808<=a.sl-b.sh/\a.sl-b.sh<=9223372036854775807)/\(-9223372036854775808<=a.sh-b.sl/\a.sh-b.sl<=9223372036854775807)):=fun q=>by
  rcases h with h | h
  ·exact thm2 h q.1
  ·exact thm2 h q.2
 simp only[xsum,bdif]
 rw[if_neg hn,if_neg hn]
 exact⟨rfl,rfl⟩
include ha hb
theorem oE (h:((a.uh+b.uh) / 18446744073709551616==0)=true):opI .add .u64 a.ul b.ul=(xsum false a b).ul/\(a.uh+b.uh) % 18446744073709551616=(xsum false a b).uh:=by
 have h:=aZ.1 h
 have wa:=(Rg.wf_of ha).2.1;have wb:=(Rg.wf_of hb).2.1
 have hc:a.uh+b.uh<=18446744073709551615:=by omega
 simp only[xsum]
 rw[if_pos hc,if_pos hc]
 exact⟨rfl,by omega⟩
theorem oF (h:((a.uh+b.uh) / 18446744073709551616==0)=false):ball.ul=(xsum false a b).ul/\ball.uh=(xsum false a b).uh:=by
 have h:=beq_eq_false_iff_ne.1 h
 have wa:=(Rg.wf_of ha).2.1;have wb:=(Rg.wf_of hb).2.1
 have hc:¬a.uh+b.uh<=18446744073709551615:=by omega
 simp only[xsum]
 rw[if_neg hc,if_neg hc]
 exact⟨rfl,rfl⟩
omit ha hb
theorem kH (h:decide (a.ul<b.uh)=false):opI .sub .u64 a.ul b.uh=(xsum true a b).ul/\opI .sub .u64 a.uh b.ul=(xsum true a b).uh:=by
 have hc:b.uh<=a.ul:=ar.1 (thm2 h)
 simp only[xsum]
 rw[if_pos hc,if_pos hc]
 exact⟨rfl,rfl⟩
theorem kI (h:decide (a.ul<b.uh)=true):ball.ul=(xsum true a b).ul/\ball.uh=(xsum true a b).uh:=by
 have hc:¬b.uh<=a.ul:=Int.not_le.2 (thm3 h)
 simp only[xsum]
 rw[if_neg hc,if_neg hc]
 exact⟨rfl,rfl⟩
end
theorem da {op:Int} {a b:Rg} (ma:bmay a=true) (mb:bmay b=true) {X:Rg} (h:X=bdo0 op a b):bnar X=bdo op a b:=by
 unfold bdo;rw[if_pos ⟨ma,mb⟩,h]
theorem ahc {a b:Rg} (ha:a.ok) (hb:b.ok) (ma:bmay a=true) (mb:bmay b=true):xsum false a b=bsum a b:=by
 have wa:=Rg.wf_of ha;have wb:=Rg.wf_of hb
 rw[cy] at ma mb
 obtain⟨⟨a0,a1⟩,⟨a2,a3⟩,_⟩:=wa
 obtain⟨⟨b0,b1⟩,⟨b2,b3⟩,_⟩:=wb
 rw[Rg.ext_iff]
 refine⟨?_,rfl,rfl,rfl⟩
 simp only[xsum,bsum]
 split
 ·rw[bc];omega
 ·rfl
theorem ahb {a b:Rg} (ha:a.ok) (hb:b.ok) (ma:bmay a=true) (mb:bmay b=true):xsum true a b=bdif a b:=by
 have wa:=Rg.wf_of ha;have wb:=Rg.wf_of hb
 rw[cy] at ma mb
 obtain⟨⟨a0,a1⟩,⟨a2,a3⟩,_⟩:=wa
 obtain⟨⟨b0,b1⟩,⟨b2,b3⟩,_⟩:=wb
 rw[Rg.ext_iff]
 refine⟨?_,?_,rfl,rfl⟩<;>simp only[xsum,bdif]<;>split
 ·rw[bc];omega
 ·rfl
 ·rw[bc];omega
 ·rfl
theorem eqz {x z:Int} (h:(x==z)=true):x=z:=by simpa using h
theorem nez {x z:Int} (h:(x==z)=false):x≠z:=by simpa using h
theorem vm {m:Int} (h0:0<=m) (h1:m<=18446744073709551615):opI .sub .u64 (opI .shl .u64 1 (aE m.toNat)) 1=jc m:=by
 have hb:aE m.toNat<=64:=eh (by omega)
 have h2:=ag5 h1
 unfold jc at h2 ⊢
 show IntKind.u64.wrap (IntKind.u64.wrap (1*2 ^ min ((aE m.toNat:Int).toNat) 64)-1)=_
 rw[ez,Nat.min_eq_left hb,Int.one_mul]
 generalize (2:Int) ^ aE m.toNat=t at *
 rw[bc,bc]
 omega
theorem adl {x y:Int} (x0:0<=x) (x1:x<=18446744073709551615) (y0:0<y):opI .quo .u64 x y=x / y:=by
 show IntKind.u64.wrap (x.tdiv y)=_
 rw[Int.tdiv_eq_ediv_of_nonneg x0,bc]
 have:=aoj (z:=y) x0 x1 y0
 omega
theorem amb {b:Rg} (hb:b.ok) (h:dg b=true):opI .and .u64 (aj b) 63=((bby b:Nat):Int)/\bby b<64:=by
 have wb:=Rg.wf_of hb
 have e:aj b=b.ul:=by unfold aj;rw[h];simp
 show bits .and .u64 (aj b) 63=_/\_
 rw[e,aoy _ wb.1.1 wb.1.2]
 unfold bby
 omega
theorem ny {x:Int} {k:Nat} (x0:0<=x) (hk:k<64):opI .shr .u64 x (k:Int)=x / 2 ^ k:=by
 show x.fdiv (2 ^ min (k:Int).toNat 64)=_
 rw[ez,Nat.min_eq_left (by omega),Int.fdiv_eq_ediv_of_nonneg _ (Int.le_of_lt (Int.pow_pos (by omega)))]
theorem qC {x:Int} {k:Nat} (hk:k<64) (h:0<=x*2 ^ k) (h':x*2 ^ k<=18446744073709551615):opI .shl .u64 x (k:Int)=x*2 ^ k:=by
 show IntKind.u64.wrap (x*2 ^ min (k:Int).toNat 64)=_
 rw[ez,Nat.min_eq_left (by omega),bc]
 omega
section
variable {op:Int} {a b:Rg} (ha:a.ok) (hb:b.ok) (ma:bmay a=true) (mb:bmay b=true)
include ha hb ma mb
theorem aog (h:(op==11)=true):bnar b=bdo op a b:=da ma mb (by rw[eqz h];simp[bdo0])
theorem dq_0 (h:(op==0)=true):bnar (xsum (op==1) a b)=bdo op a b:=da ma mb (by rw[eqz h];rw[show((0:Int)==1)=false from rfl,ahc ha hb ma mb];simp[bdo0])
theorem dq_1 (h:(op==1)=true):bnar (xsum (op==1) a b)=bdo op a b:=da ma mb (by rw[h,eqz h,ahb ha hb ma mb];simp[bdo0])
theorem dq_5 (h:(op==5)=true):bnar ⟨ball.ul,min a.uh b.uh,ball.sl,ball.sh⟩=bdo op a b:=da ma mb (by rw[eqz h];simp[bdo0,bu,ball])
theorem am6:0<=max a.uh b.uh/\max a.uh b.uh<=18446744073709551615:=by
 have wa:=Rg.wf_of ha;have wb:=Rg.wf_of hb
 have:=wa.2.1;have:=wb.2.1
 omega
theorem dq_4 (h:(op==4)=true):bnar ⟨max a.ul b.ul,opI .sub .u64 (opI .shl .u64 1 (aE (max a.uh b.uh).toNat)) 1,ball.sl,ball.sh⟩=bdo op a b:=da ma mb (by
 have:=am6 ha hb ma mb
 rw[eqz h,vm this.1 this.2];simp[bdo0,bu,ball])
theorem ap2 (h:(op==10)=true):bnar ⟨ball.ul,opI .sub .u64 (opI .shl .u64 1 (aE (max a.uh b.uh).toNat)) 1,ball.sl,ball.sh⟩=bdo op a b:=da ma mb (by
 have:=am6 ha hb ma mb
 rw[eqz h,vm this.1 this.2];simp[bdo0,bu,ball])
theorem dq_3 (h:(op==3)=true) (hc:decide (0<b.ul)=true):bnar ⟨opI .quo .u64 a.ul b.uh,opI .quo .u64 a.uh b.ul,ball.sl,ball.sh⟩=bdo op a b:=da ma mb (by
 have hc:=thm3 hc
 have wa:=Rg.wf_of ha
 rw[cy] at mb
 rw[eqz h,adl wa.1.1 wa.1.2 (by omega),adl wa.2.1.1 wa.2.1.2 hc];simp[bdo0,bu,ball,hc])
theorem aof (h:(op==3)=true) (hc:decide (0<b.ul)=false):bnar ⟨ball.ul,a.uh,ball.sl,ball.sh⟩=bdo op a b:=da ma mb (by
 have hc:=thm2 hc
 rw[eqz h];simp[bdo0,bu,ball,hc])
theorem dq_9 (h:(op==9)=true) (hc:decide (0<b.ul)=true):bnar ⟨ball.ul,min a.uh (opI .sub .u64 b.uh 1),ball.sl,ball.sh⟩=bdo op a b:=da ma mb (by
 have hc:=thm3 hc
 have wb:=Rg.wf_of hb
 rw[cy] at mb
 rw[eqz h,show opI .sub .u64 b.uh 1=b.uh-1 from by show IntKind.u64.wrap (b.uh-1)=_;rw[bc];have:=wb.2.1;omega];simp[bdo0,bu,ball,hc])
theorem aoc (h:(op==9)=true) (hc:decide (0<b.ul)=false):bnar ⟨ball.ul,a.uh,ball.sl,ball.sh⟩=bdo op a b:=da ma mb (by
 have hc:=thm2 hc
 rw[eqz h];simp[bdo0,bu,ball,hc])
theorem dq_7 (h:(op==7)=true) (hc:dg b=true):bnar ⟨opI .shr .u64 a.ul (opI .and .u64 (aj b) 63),opI .shr .u64 a.uh (opI .and .u64 (aj b) 63),ball.sl,ball.sh⟩=bdo op a b:=da ma mb (by
 have wa:=Rg.wf_of ha
 obtain⟨e,e2⟩:=amb hb hc
 rw[eqz h,e,ny wa.1.1 e2,ny wa.2.1.1 e2];simp[bdo0,bu,ball,hc])
theorem aod (h:(op==7)=true) (hc:dg b=false):bnar ball=bdo op a b:=da ma mb (by
 rw[eqz h];simp[bdo0,hc])
theorem lz_c (hc:dg b=true):decide (64-(aE a.uh.toNat:Int)<IntKind.i64.wrap (opI .and .u64 (aj b) 63)) = !decide (aE a.uh.toNat+bby b<=64):=by
 obtain⟨e,e2⟩:=amb hb hc
 rw[e,aL]
 rw[ao]
 simp
 omega
theorem dq_6 (h:(op==6)=true) (hc:dg b=true) (hl:decide (64-(aE a.uh.toNat:Int)<IntKind.i64.wrap (opI .and .u64 (aj b) 63))=false):bnar ⟨opI .shl .u64 a.ul (opI .and .u64 (aj b) 63),opI .shl .u64 a.uh (opI .and .u64 (aj b) 63),ball.sl,ball.sh⟩=bdo op a b:=da ma mb (by
 have wa:=Rg.wf_of ha
 rw[lz_c ha hb ma mb hc] at hl
 have hl':aE a.uh.toNat+bby b<=64:=by simpa using hl
 obtain⟨e,e2⟩:=amb hb hc
 rw[cy] at ma
 obtain⟨h1,h2,h3⟩:=abo wa.1.1 ma.1 hl'
 rw[eqz h,e,qC e2 h1 (by omega),qC e2 (by omega) h3];simp[bdo0,bu,ball,hc,hl'])
theorem ap1 (h:(op==6)=true) (hc:dg b=true) (hl:decide (64-(aE a.uh.toNat:Int)<IntKind.i64.wrap (opI .and .u64 (aj b) 63))=true):bnar ball=bdo op a b:=da ma mb (by
 rw[lz_c ha hb ma mb hc] at hl
 have hl':¬aE a.uh.toNat+bby b<=64:=by simpa using hl
 rw[eqz h];simp[bdo0,hc,hl'])
theorem aoe (h:(op==6)=true) (hc:dg b=false):bnar ball=bdo op a b:=da ma mb (by
 rw[eqz h];simp[bdo0,hc])
theorem dq_x (h11:(op==11)=false) (h0:(op==0)=false) (h1:(op==1)=false) (h5:(op==5)=false) (h4:(op==4)=false) (h10:(op==10)=false) (h3:(op==3)=false) (h9:(op==9)=false) (h7:(op==7)=false) (h6:(op==6)=false):bnar ball=bdo op a b:=da ma mb (by
 unfold bdo0
 rw[if_neg (nez h11),if_neg (nez h0),if_neg (nez h1),if_neg (nez h5),if_neg (nez h4),if_neg (nez h10),if_neg (nez h3),if_neg (nez h9),if_neg (nez h7),if_neg (nez h6)])
end
theorem yc {op:Int} {a b:Rg} (h:bmay a=false\/bmay b=false):ball=bdo op a b:=by
 unfold bdo
 rw[if_neg (fun e=>by rcases h with h | h<;>simp[h] at e)]
theorem bU {r s:Rg} {t u:Bool} (h:r=s) (h':t=u):[Dt.z r.ul,.z r.uh,.z r.sl,.z r.sh,.z (b2i t)]=[Dt.z s.ul,.z s.uh,.z s.sl,.z s.sh,.z (b2i u)]:=by rw[h,h']
theorem aH {r s:Rg} {t u:Bool} (h:r=s/\t=u):[Dt.z r.ul,.z r.uh,.z r.sl,.z r.sh,.z (b2i t)]=[Dt.z s.ul,.z s.uh,.z s.sl,.z s.sh,.z (b2i u)]:=bU h.1 h.2
section
variable {cc:Int} {a b X:Rg}
theorem aQ (c0:cc≠0) (hg:fF cc a b=true) (hc:bcan cc a b=true) (e:X=brng cc a b):bnar X=bgiv cc a b/\bnok X=bgok cc a b:=by
 subst e
 have h1:bgok cc a b=bnok (brng cc a b):=by unfold bgok;rw[hg,hc,if_neg c0];rfl
 refine⟨?_,h1.symm⟩
 unfold bgiv
 rw[h1,if_neg c0]
 cases h:bnok (brng cc a b)
 ·unfold bnar;rw[h];simp
 ·simp
theorem bW (h:fF cc a b=false\/(cc≠0/\bcan cc a b=false)):ball=bgiv cc a b/\false=bgok cc a b:=by
 have h1:bgok cc a b=false:=by
  unfold bgok
  rcases h with h | ⟨h0,h⟩
  ·rw[h];rfl
  ·rw[h,if_neg h0];simp
 exact⟨by unfold bgiv;rw[h1];simp,h1.symm⟩
theorem agN (hg:fF 0 a b=true):dV a b=bgiv 0 a b/\eP a b=bgok 0 a b:=by
 have e:bgok 0 a b=eP a b:=by unfold bgok;rw[hg];rfl
 refine⟨?_,e.symm⟩
 unfold bgiv
 rw[e]
 cases h:eP a b
 ·unfold dV;rw[h];simp
 ·simp
theorem bI (c0:bmay a=true) (c1:bmay b=true) (h:0<=cc/\cc<=10):fF cc a b=true:=by
 unfold fF;rw[c0,c1,eA h.1,eA h.2];rfl
end
structure Kn where
 v:Int
 m:Int
 deriving DecidableEq
def Kn.wf (a:Kn):Prop:=(0<=a.v/\a.v<=18446744073709551615)/\(0<=a.m/\a.m<=18446744073709551615)
def kall:Kn:=⟨0,18446744073709551615⟩
def kone (v:Int):Kn:=⟨v,0⟩
def kmay (a:Kn):Bool:=bits .and .u64 a.v a.m==0
def khas (a:Kn) (x:Int):Bool:=kmay a&&(bits .andNot .u64 x a.m==a.v)
def jb (v m:Int):Kn:=⟨bits .andNot .u64 v m,m⟩
def ana (a b:Kn):Kn:=if kmay a=true/\kmay b=true then jb a.v (bits .or .u64 (bits .or .u64 a.m b.m) (bits .xor .u64 a.v b.v)) else kall
def nG (a b:Kn):Int:=bits .andNot .u64 (bits .xor .u64 a.v b.v) (bits .or .u64 a.m b.m)
def dC (a b:Kn):Bool:=kmay a&&(kmay b&&(nG a b==0))
def ja (a b:Kn):Kn:=if dC a b=true then jb (bits .or .u64 a.v b.v) (bits .and .u64 a.m b.m) else kall
def yP (a b:Kn):Kn:=if dC a b=true then⟨bits .or .u64 a.v b.v,bits .and .u64 a.m b.m⟩ else kall
def kcut (a:Kn) (w:Int):Kn:=if kmay a=true then⟨zcut a.v w,zcut a.m w⟩ else kall
def kadd (a b:Kn):Kn:=jb (IntKind.u64.wrap (a.v+b.v)) (bits .or .u64 (bits .or .u64 (bits .xor .u64 (IntKind.u64.wrap (a.v+b.v)) (IntKind.u64.wrap (IntKind.u64.wrap (a.m+b.m)+IntKind.u64.wrap (a.v+b.v)))) a.m) b.m)
def radd (a b:Kn):Kn:=jb (IntKind.u64.wrap (a.v+b.v)) (bits .or .u64 (bits .or .u64 (bits .xor .u64 (IntKind.u64.wrap (IntKind.u64.wrap (a.m+b.m)+IntKind.u64.wrap (a.v+b.v))) (IntKind.u64.wrap (a.v+b.v))) a.m) b.m)
def ksub (a b:Kn):Kn:=jb (IntKind.u64.wrap (a.v-b.v)) (bits .or .u64 (bits .or .u64 (bits .xor .u64 (IntKind.u64.wrap (IntKind.u64.wrap (a.v-b.v)+a.m)) (IntKind.u64.wrap (IntKind.u64.wrap (a.v-b.v)-b.m))) a.m) b.m)
def kand (a b:Kn):Kn:=⟨bits .and .u64 a.v b.v,bits .andNot .u64 (bits .and .u64 (bits .or .u64 a.v a.m) (bits .or .u64 b.v b.m)) (bits .and .u64 a.v b.v)⟩
def kor (a b:Kn):Kn:=⟨bits .or .u64 a.v b.v,bits .andNot .u64 (bits .or .u64 a.m b.m) (bits .or .u64 a.v b.v)⟩
def kxor (a b:Kn):Kn:=jb (bits .xor .u64 a.v b.v) (bits .or .u64 a.m b.m)
def ah2 (op w:Int) (a b:Kn):Kn:=jb (zdo op w a.v (bits .and .u64 b.v (w-1))) (zdo op w a.m (bits .and .u64 b.v (w-1)))
def kop (op w:Int) (a b:Kn):Kn:=
 if op=0 then kadd a b else if op=1 then ksub a b else if op=4 then kor a b else if op=5 then kand a b
 else if op=6\/op=7\/op=12 then(if(bits .and .u64 b.m (w-1)==0)=true then ah2 op w a b else kall)
 else if op=8 then ksub (kone 0) a else if op=10 then kxor a b else if op=11 then b else kall
def cE (op w:Int) (a b:Kn):Bool:=kmay a&&(kmay b&&(decide (0<=op)&&(decide (op<=12)&&fY w)))
def kdo (op w:Int) (a b:Kn):Kn:=
 if cE op w a b=true then
  (if(bits .or .u64 (kcut a w).m (kcut b w).m==0)=true then kone (zdo op w (kcut a w).v (kcut b w).v) else kcut (kop op w (kcut a w) (kcut b w)) w)
 else kall
def C2 (w:World) (b:Nat) (x y:Value):Prop:=w.cell? ⟨b,0,none⟩=some x/\w.cell? ⟨b,1,none⟩=some y/\∀j,w.frozen? ⟨b,j,none⟩=false
def Bk (w:World) (b:Nat) (cs:Array Value) (t:TypeId):Prop:=w.heap[b]? =some (.cells cs t (0,0))
theorem Bk.lt {w:World} {b:Nat} {cs:Array Value} {t:TypeId} (h:Bk w b cs t):b<w.heap.size:=by
 rcases bq b w.heap.size with hlt | hge
 ·exact hlt
 ·rw[Bk,Array.getElem?_eq_none hge] at h;cases h
theorem Bk.ext {w w':World} {b:Nat} {cs:Array Value} {t:TypeId} (h:Bk w b cs t) (hx:Ext w w'):Bk w' b cs t:=by
 unfold Bk at h ⊢
 rw[hx.block b (Bk.lt h)];exact h
theorem Bk.cell {w:World} {b:Nat} {cs:Array Value} {t:TypeId} (h:Bk w b cs t) (j:Nat):w.cell? ⟨b,j,none⟩=cs[j]? :=cell_of_row w b j cs t (0,0) h
theorem Bk.free {w:World} {b:Nat} {cs:Array Value} {t:TypeId} (h:Bk w b cs t) (j:Nat):w.frozen? ⟨b,j,none⟩=false:=frozen_of_row w b j cs t h
theorem Bk.new {w w':World} {cs:Array Value} {t:TypeId} (hx:Ext (w.alloc (.cells cs t)) w'):Bk w' w.heap.size cs t:=Bk.ext (w:=w.alloc (.cells cs t)) (heap_alloc_new _ _) hx
theorem Bk.two {w:World} {b:Nat} {x y:Value} {t:TypeId} (h:Bk w b #[x,y] t):C2 w b x y:=⟨h.cell 0,h.cell 1,h.free⟩
theorem C2.ext {w w':World} {b:Nat} {x y:Value} (h:C2 w b x y) (hx:Ext w w'):C2 w' b x y:=
 ⟨hx.cell h.1,hx.cell h.2.1,fun j=>(Below.frozen hx (p:=⟨b,j,none⟩) (World.block_lt_of_cell? w ⟨b,0,none⟩ h.1)).trans (h.2.2 j)⟩
theorem C2.lt {w:World} {b:Nat} {x y:Value} (h:C2 w b x y):b<w.heap.size:=World.block_lt_of_cell? w ⟨b,0,none⟩ h.1
theorem C2.off1 {w:World} {b:Nat} {x y:Value} (h:C2 w b x y) (c j:Nat) (u:Value) (hne:c≠b):C2 (w.setCell ⟨c,j,none⟩ u) b x y:=by
 refine⟨(World.cell?_setCell_other w ⟨c,j,none⟩ ⟨b,0,none⟩ u (fun e=>hne (congrArg Addr.block e))).trans h.1,(World.cell?_setCell_other w ⟨c,j,none⟩ ⟨b,1,none⟩ u (fun e=>hne (congrArg Addr.block e))).trans h.2.1,fun i=> ?_⟩
 have:=h.2.2 i
 simpa[go_sem] using this
theorem C2.off {w:World} {b:Nat} {x y:Value} (h:C2 w b x y) (c:Nat) (u v:Value) (hne:c≠b):C2 ((w.setCell ⟨c,0,none⟩ u).setCell ⟨c,1,none⟩ v) b x y:=(h.off1 c 0 u hne).off1 c 1 v hne
theorem C2.put {w:World} {b:Nat} {x y:Value} (h:C2 w b x y) (u v:Value):C2 ((w.setCell ⟨b,0,none⟩ u).setCell ⟨b,1,none⟩ v) b u v:=by
 obtain⟨h0,h1,h2⟩:=h
 have e0:(w.setCell ⟨b,0,none⟩ u).cell? ⟨b,0,none⟩=some u:=World.cell?_setCell_same w ⟨b,0,none⟩ u h0
 have e1:(w.setCell ⟨b,0,none⟩ u).cell? ⟨b,1,none⟩=some y:=(World.cell?_setCell_other w ⟨b,0,none⟩ ⟨b,1,none⟩ u (by simp)).trans h1
 refine⟨(World.cell?_setCell_other _ ⟨b,1,none⟩ ⟨b,0,none⟩ v (by simp)).trans e0,World.cell?_setCell_same _ ⟨b,1,none⟩ v e1,fun i=> ?_⟩
 have:=h2 i
 simpa[go_sem] using this
theorem pC (x:Int):0<=IntKind.u64.wrap x/\IntKind.u64.wrap x<=18446744073709551615:=by rw[bc];omega
theorem aiL (x y:Int):0<=bits .and .u64 x y/\bits .and .u64 x y<=18446744073709551615:=pC _
theorem amU (x y:Int):0<=bits .or .u64 x y/\bits .or .u64 x y<=18446744073709551615:=pC _
theorem vF (x y:Int):0<=bits .xor .u64 x y/\bits .xor .u64 x y<=18446744073709551615:=pC _
theorem ot (x y:Int):0<=bits .andNot .u64 x y/\bits .andNot .u64 x y<=18446744073709551615:=pC _
theorem tV:kall.wf:=by unfold Kn.wf kall;simp
theorem afg {v m:Int} (h:0<=m/\m<=18446744073709551615):(jb v m).wf:=⟨ot _ _,h⟩
theorem mG {a:Kn} (h:a.wf) (w:Int):(kcut a w).wf:=by
 unfold kcut;split
 ·exact⟨er _ _ h.1.1 h.1.2,er _ _ h.2.1 h.2.2⟩
 ·exact tV
theorem Bk.set {w:World} {b:Nat} {cs:Array Value} {t:TypeId} (h:Bk w b cs t) (j:Nat) (v:Value):Bk (w.setCell ⟨b,j,none⟩ v) b (cs.setIfInBounds j v) t:=heap_setCell_same w b j cs t v h
theorem Bk.off {w:World} {b:Nat} {cs:Array Value} {t:TypeId} (h:Bk w b cs t) (c j:Nat) (v:Value) (hne:c≠b):Bk (w.setCell ⟨c,j,none⟩ v) b cs t:=by
 unfold Bk at h ⊢
 rw[heap_setCell_other w ⟨c,j,none⟩ b v (fun e=>hne e.symm)]
 exact h
theorem adB:∀n:Fin 256,Go.Lib.len8 (n.val:Int)=(aE n.val:Int):=by decide +kernel
theorem aeL {n c:Nat} (h1:2 ^ c<=n) (h2:n<2 ^ (c+1)):aE n=c+1:=by
 have h3:=eh h2
 rcases bq (aE n) (c+1) with h | h
 ·have h4:=rh n
  have h5:2 ^ aE n<=2 ^ c:=Nat.pow_le_pow_right (by omega) (by omega)
  omega
 ·omega
theorem ag4 {n k:Nat} (h:2 ^ k<=n):aE n=k+aE (n / 2 ^ k):=by
 have hp:0<2 ^ k:=Nat.pow_pos (by omega)
 have h0:n / 2 ^ k≠0:=by
  have:=Nat.div_pos h hp
  omega
 have h1:=aeK h0
 have h2:=rh (n / 2 ^ k)
 obtain⟨c,hc⟩:∃c,aE (n / 2 ^ k)=c+1:=by
  have:aE (n / 2 ^ k)≠0:=by
   intro h
   rw[h] at h2
   simp at h2
   omega
  exact⟨aE (n / 2 ^ k)-1,by omega⟩
 rw[hc] at h1 h2 ⊢
 have e1:2 ^ (k+c)<=n:=by
  rw[Nat.pow_add]
  have:=Nat.mul_le_mul_left (2 ^ k) h1
  have h3:=Nat.mul_div_le n (2 ^ k)
  simp only[Nat.add_sub_cancel] at this
  omega
 have e2:n<2 ^ (k+c+1):=by
  rw[Nat.add_assoc,Nat.pow_add]
  have h3:=Nat.lt_mul_div_succ n hp
  have:=Nat.mul_le_mul_left (2 ^ k) (show n / 2 ^ k+1<=2 ^ (c+1) by omega)
  omega
 rw[aeL e1 e2];omega
theorem dD {x:Int} (h0:0<=x) (h1:x<256):Go.Lib.len8 x=(aE x.toNat:Int)/\aE x.toNat<=8:=by
 have:=adB ⟨x.toNat,by omega⟩
 have e:((x.toNat:Nat):Int)=x:=by omega
 simp only[e] at this
 exact⟨this,eh (by omega)⟩
theorem fG {i:Int} (h0:0<=i) (h1:i<256) (h2:i.toNat<Go.Lib.len8tab.size):(((Go.Lib.len8tab[i.toNat]'h2).toNat:Nat):Int)=Go.Lib.len8 i:=by
 simp only[Go.Lib.len8,ByteArray.getElem?_lt' _ _ h2,Option.getD_some]
theorem rE {x:Int} (h0:0<=x) (h1:x<256):IntKind.u8.wrap x=x:=by rw[show IntKind.u8.wrap x=x % 256 from by simp[IntKind.wrap,IntKind.bits,IntKind.signed]];omega
theorem eH {x:Int} (k:Nat) (h0:(2:Int) ^ k<=x):aE x.toNat=k+aE (x / 2 ^ k).toNat:=by
 have e:((2:Int) ^ k)=((2 ^ k:Nat):Int):=by simp
 rw[e] at h0 ⊢
 obtain⟨n,rfl⟩:∃n:Nat,x=n:=⟨x.toNat,by have:=Nat.pow_pos (n:=k) (show 0<2 by omega);omega⟩
 rw[ag4 (n:=(n:Int).toNat) (k:=k) (by omega)]
 congr 1
theorem aou (x:Int) (h0:0<=x) (h1:x<=18446744073709551615) (W w:World) (hx:Ext W w):
  Calls Tryz.prog 222 #[.int .u64 x] w fun e w'=>e=.returned (.int .i64 (aE x.toNat))/\Ext W w':=by
 obtain⟨r,hr⟩:∃r,aE x.toNat=r:=⟨_,rfl⟩
 rw[hr]
 have HR:=hide hr
 clear hr
 by_cases c0:4294967296<=x
 ·by_cases c1:65536<=(x / 4294967296)
  ·by_cases c2:256<=((x / 4294967296) / 65536)
   ·have q0:0<=(((x / 4294967296) / 65536) / 256):=by omega
    have q1:(((x / 4294967296) / 65536) / 256)<256:=by omega
    have e4:=rE q0 q1
    have E:=hide (dD q0 q1)
    have l0:=eH (x:=x) 32 (by omega)
    simp only[Int.reducePow] at l0
    have L0:=hide l0
    clear l0
    have l1:=eH (x:=(x / 4294967296)) 16 (by omega)
    simp only[Int.reducePow] at l1
    have L1:=hide l1
    clear l1
    have l2:=eH (x:=((x / 4294967296) / 65536)) 8 (by omega)
    simp only[Int.reducePow] at l2
    have L2:=hide l2
    clear l2
    have hN:Hid (r=32+(16+(8+(aE (((x / 4294967296) / 65536) / 256).toNat)))):=hide (by rw[<-HR.out,L0.out,L1.out,L2.out])
    as_aux_lemma=>
     go_enter Tryz.func222,Tryz.ntmps222
     go_wp2_with fail
     all_goals
      go_ret
      refine⟨bh ?_,hx⟩
      have hm:=E.out.2
      rw[fG q0 q1,E.out.1,hN.out]
      generalize aE _=m at hm ⊢
      clear q0 q1 e4 c0 c1 c2 h0 h1
      simp only[wrap64]
      omega
   ·have q0:0<=((x / 4294967296) / 65536):=by omega
    have q1:((x / 4294967296) / 65536)<256:=by omega
    have e4:=rE q0 q1
    have E:=hide (dD q0 q1)
    have l0:=eH (x:=x) 32 (by omega)
    simp only[Int.reducePow] at l0
    have L0:=hide l0
    clear l0
    have l1:=eH (x:=(x / 4294967296)) 16 (by omega)
    simp only[Int.reducePow] at l1
    have L1:=hide l1
    clear l1
    have hN:Hid (r=32+(16+(aE ((x / 4294967296) / 65536).toNat))):=hide (by rw[<-HR.out,L0.out,L1.out])
    as_aux_lemma=>
     go_enter Tryz.func222,Tryz.ntmps222
     go_wp2_with fail
     all_goals
      go_ret
      refine⟨bh ?_,hx⟩
      have hm:=E.out.2
      rw[fG q0 q1,E.out.1,hN.out]
      generalize aE _=m at hm ⊢
      clear q0 q1 e4 c0 c1 c2 h0 h1
      simp only[wrap64]
      omega
  ·by_cases c2:256<=(x / 4294967296)
   ·have q0:0<=((x / 4294967296) / 256):=by omega
    have q1:((x / 4294967296) / 256)<256:=by omega
    have e4:=rE q0 q1
    have E:=hide (dD q0 q1)
    have l0:=eH (x:=x) 32 (by omega)
    simp only[Int.reducePow] at l0
    have L0:=hide l0
    clear l0
    have l1:=eH (x:=(x / 4294967296)) 8 (by omega)
    simp only[Int.reducePow] at l1
    have L1:=hide l1
    clear l1
    have hN:Hid (r=32+(8+(aE ((x / 4294967296) / 256).toNat))):=hide (by rw[<-HR.out,L0.out,L1.out])
    as_aux_lemma=>
     go_enter Tryz.func222,Tryz.ntmps222
     go_wp2_with fail
     all_goals
      go_ret
      refine⟨bh ?_,hx⟩
      have hm:=E.out.2
      rw[fG q0 q1,E.out.1,hN.out]
      generalize aE _=m at hm ⊢
      clear q0 q1 e4 c0 c1 c2 h0 h1
      simp only[wrap64]
      omega
   ·have q0:0<=(x / 4294967296):=by omega
    have q1:(x / 4294967296)<256:=by omega
    have e4:=rE q0 q1
    have E:=hide (dD q0 q1)
    have l0:=eH (x:=x) 32 (by omega)
    simp only[Int.reducePow] at l0
    have L0:=hide l0
    clear l0
    have hN:Hid (r=32+(aE (x / 4294967296).toNat)):=hide (by rw[<-HR.out,L0.out])
    as_aux_lemma=>
     go_enter Tryz.func222,Tryz.ntmps222
     go_wp2_with fail
     all_goals
      go_ret
      refine⟨bh ?_,hx⟩
      have hm:=E.out.2
      rw[fG q0 q1,E.out.1,hN.out]
      generalize aE _=m at hm ⊢
      clear q0 q1 e4 c0 c1 c2 h0 h1
      simp only[wrap64]
      omega
 ·by_cases c1:65536<=x
  ·by_cases c2:256<=(x / 65536)
   ·have q0:0<=((x / 65536) / 256):=by omega
    have q1:((x / 65536) / 256)<256:=by omega
    have e4:=rE q0 q1
    have E:=hide (dD q0 q1)
    have l0:=eH (x:=x) 16 (by omega)
    simp only[Int.reducePow] at l0
    have L0:=hide l0
    clear l0
    have l1:=eH (x:=(x / 65536)) 8 (by omega)
    simp only[Int.reducePow] at l1
    have L1:=hide l1
    clear l1
    have hN:Hid (r=16+(8+(aE ((x / 65536) / 256).toNat))):=hide (by rw[<-HR.out,L0.out,L1.out])
    as_aux_lemma=>
     go_enter Tryz.func222,Tryz.ntmps222
     go_wp2_with fail
     all_goals
      go_ret
      refine⟨bh ?_,hx⟩
      have hm:=E.out.2
      rw[fG q0 q1,E.out.1,hN.out]
      generalize aE _=m at hm ⊢
      clear q0 q1 e4 c0 c1 c2 h0 h1
      simp only[wrap64]
      omega
   ·have q0:0<=(x / 65536):=by omega
    have q1:(x / 65536)<256:=by omega
    have e4:=rE q0 q1
    have E:=hide (dD q0 q1)
    have l0:=eH (x:=x) 16 (by omega)
    simp only[Int.reducePow] at l0
    have L0:=hide l0
    clear l0
    have hN:Hid (r=16+(aE (x / 65536).toNat)):=hide (by rw[<-HR.out,L0.out])
    as_aux_lemma=>
     go_enter Tryz.func222,Tryz.ntmps222
     go_wp2_with fail
     all_goals
      go_ret
      refine⟨bh ?_,hx⟩
      have hm:=E.out.2
      rw[fG q0 q1,E.out.1,hN.out]
      generalize aE _=m at hm ⊢
      clear q0 q1 e4 c0 c1 c2 h0 h1
      simp only[wrap64]
      omega
  ·by_cases c2:256<=x
   ·have q0:0<=(x / 256):=by omega
    have q1:(x / 256)<256:=by omega
    have e4:=rE q0 q1
    have E:=hide (dD q0 q1)
    have l0:=eH (x:=x) 8 (by omega)
    simp only[Int.reducePow] at l0
    have L0:=hide l0
    clear l0
    have hN:Hid (r=8+(aE (x / 256).toNat)):=hide (by rw[<-HR.out,L0.out])
    as_aux_lemma=>
     go_enter Tryz.func222,Tryz.ntmps222
     go_wp2_with fail
     all_goals
      go_ret
      refine⟨bh ?_,hx⟩
      have hm:=E.out.2
      rw[fG q0 q1,E.out.1,hN.out]
      generalize aE _=m at hm ⊢
      clear q0 q1 e4 c0 c1 c2 h0 h1
      simp only[wrap64]
      omega
   ·have q0:0<=x:=by omega
    have q1:x<256:=by omega
    have e4:=rE q0 q1
    have E:=hide (dD q0 q1)
    have hN:Hid (r=aE x.toNat):=hide (by rw[<-HR.out])
    as_aux_lemma=>
     go_enter Tryz.func222,Tryz.ntmps222
     go_wp2_with fail
     all_goals
      go_ret
      refine⟨bh ?_,hx⟩
      have hm:=E.out.2
      rw[fG q0 q1,E.out.1,hN.out]
      generalize aE _=m at hm ⊢
      clear q0 q1 e4 c0 c1 c2 h0 h1
      simp only[wrap64]
      omega
theorem b_lz (x:Int) (h0:0<=x) (h1:x<=18446744073709551615) (W w:World) (hx:Ext W w):
  Calls Tryz.prog 224 #[.int .u64 x] w fun e w'=>e=.returned (.int .i64 (64-aE x.toNat))/\Ext W w':=by
 have hb:aE x.toNat<=64:=eh (by omega)
 obtain⟨r,hr⟩:∃r,aE x.toNat=r:=⟨_,rfl⟩
 have HR:=hide hr
 rw[hr] at hb ⊢
 clear hr
 go_enter Tryz.func224,Tryz.ntmps224
 go_wp2_with (first
  | (go_at_call 222;(with_reducible refine(aou x h0 h1 W _ (by assumption)).mono ?_);rintro e w' ⟨rfl,hx'⟩;rw[HR.out])
  | fail)
 go_ret
 refine⟨bh ?_,by assumption⟩
 all_goals (first | (simp only[wrap64];done) | (simp only[wrap64];omega) | omega)
def okop (op l:Int):Bool:=(decide (0<=op)&&decide (op<=12))&&fY l
theorem jt {x:Int} (h:0<=x/\x<=18446744073709551615):inK .u64 x=true:=by
 rw[bL];simpa[IntKind.min,IntKind.max,IntKind.signed,IntKind.bits] using h
theorem aed {x:Int} (h : -9223372036854775808<=x/\x<=9223372036854775807):inK .i64 x=true:=by
 rw[bL];simpa[IntKind.min,IntKind.max,IntKind.signed,IntKind.bits] using h
theorem jk {p q q2:Prop} (k:q2) (h:p->q=q2:=by intro e;(try simp only[e,aS,-eq_self]);rfl):p->q:=fun e=>(h e).symm▸k
def aj7:List (Nat×TI):=[(2,tiq2),
 (42,dR),
 (44,ew)]
theorem aap:∀t i,(t,i)∈aj7->TIok Tryz.prog t i:=aV fa0 fa0 (by kernel_rfl)
def c_add64:Cd:=⟨242,[.one (.int .u64),.one (.int .u64),.one (.lit .u64 0)],[.one (.int .u64),.one (.int .u64)],rdZ fun x=>rdZ fun y _=>[.z ((x+y) % 18446744073709551616),.z ((x+y) / 18446744073709551616)],T0⟩
theorem afP (x:Int) (hx:inK .u64 x=true) (y:Int) (hy:inK .u64 y=true):(∀w,(callFunc 242 #[.int .u64 x,.int .u64 y,.int .u64 0]).run Tryz.prog w=.ok (.value (.tuple #[.int .u64 ((x+y) % 18446744073709551616),.int .u64 ((x+y) / 18446744073709551616)])) w)/\eu (.tuple #[.int .u64 ((x+y) % 18446744073709551616),.int .u64 ((x+y) / 18446744073709551616)])=true:=by
 have gx:=bB hx
 have gy:=bB hy
 refine⟨fun w=> ?_,?_⟩
 ·rw[run_callFunc_extern Tryz.func242 (by kernel_rfl) (by kernel_rfl) (by kernel_rfl) (e:=add64Entry) (by kernel_rfl),run_add64 x y 0 gx.1 gy.1 (by omega) (by omega)]
  simp only[Result.andThen,Int.add_zero]
 ·have h1:inK .u64 ((x+y) % 18446744073709551616)=true:=jt (by omega)
  have h2:inK .u64 ((x+y) / 18446744073709551616)=true:=jt (by omega)
  simp[eu,dW,dY,h1,h2]
theorem alT:c_add64.Ok Tryz.prog:=fun hF hP=>by
 refine SmOk.pure (s:=c_add64.m _) hF rfl rfl fun xs vals w h=> ?_
 obtain⟨_,_,_,rfl,⟨x0,rfl,rfl,gx0⟩,h⟩:=h
 obtain⟨_,_,_,rfl,⟨x1,rfl,rfl,gx1⟩,h⟩:=h
 obtain⟨_,_,_,rfl,⟨rfl,rfl⟩,h⟩:=h
 obtain⟨rfl,rfl⟩:=h
 have q:=afP x0 gx0 x1 gx1
 refine⟨_,.inl (q.1 w),?_,fun U v0 nid j he=> ?_⟩
 ·have q2:=q.2
  simp[eu,dW,dY] at q2
  simp[c_add64,Cd.m,tp,rdZ,rdB,rdL,List.flatMap_cons,List.flatMap_nil,Sh.cks,List.append_nil,List.cons_append,List.nil_append,b2i_one,fu,q2]
 ·simp only[c_add64,Cd.m,tp,rdZ,rdB,rdL,List.flatMap_cons,List.flatMap_nil,Sh.cks,List.append_nil,List.cons_append,List.nil_append,b2i_one,eqs,dI,dB,ce,jw,bG,Nat.add_zero,Nat.reduceAdd,and_true] at he
  simp[c_add64,Cd.m,tp,rdZ,rdB,rdL,List.flatMap_cons,List.flatMap_nil,Sh.cks,List.append_nil,List.cons_append,List.nil_append,b2i_one,eK,bl,aG,V.den,C.den,denL,den0,bK,E.I,E.B,he]
def c_len:Cd:=⟨222,[.one (.int .u64)],[.one (.int .i64)],rdZ fun x _=>[.z ((aE x.toNat:Int))],T0⟩
theorem amB (x:Int) (hx:inK .u64 x=true):(∀w,Calls Tryz.prog 222 #[.int .u64 x] w fun e w'=>e=.returned (.int .i64 ((aE x.toNat:Int)))/\Ext w w')/\eu (.int .i64 ((aE x.toNat:Int)))=true:=by
 have g:=bB hx
 have hb:aE x.toNat<=64:=eh (by omega)
 have h:inK .i64 (aE x.toNat:Int)=true:=aed (by omega)
 exact⟨fun w=>aou x g.1 g.2 w w (Ext.refl w),h⟩
theorem apl:c_len.Ok Tryz.prog:=fun hF hP=>by
 refine SmOk.pure (s:=c_len.m _) hF rfl rfl fun xs vals w h=> ?_
 obtain⟨_,_,_,rfl,⟨x0,rfl,rfl,gx0⟩,h⟩:=h
 obtain⟨rfl,rfl⟩:=h
 have q:=amB x0 gx0
 refine⟨_,.inr ⟨cW Tryz.func222 (by kernel_rfl) (by kernel_rfl) _ w,q.1 w⟩,?_,fun U v0 nid j he=> ?_⟩
 ·have q2:=q.2
  simp[eu,dW,dY] at q2
  simp[c_len,Cd.m,tp,rdZ,rdB,rdL,List.flatMap_cons,List.flatMap_nil,Sh.cks,List.append_nil,List.cons_append,List.nil_append,b2i_one,fu,q2]
 ·simp only[c_len,Cd.m,tp,rdZ,rdB,rdL,List.flatMap_cons,List.flatMap_nil,Sh.cks,List.append_nil,List.cons_append,List.nil_append,b2i_one,eqs,dI,dB,ce,jw,bG,Nat.add_zero,Nat.reduceAdd,and_true] at he
  simp[c_len,Cd.m,tp,rdZ,rdB,rdL,List.flatMap_cons,List.flatMap_nil,Sh.cks,List.append_nil,List.cons_append,List.nil_append,b2i_one,eK,bl,aG,V.den,C.den,denL,den0,bK,E.I,E.B,he]
def c_lz:Cd:=⟨224,[.one (.int .u64)],[.one (.int .i64)],rdZ fun x _=>[.z (64-(aE x.toNat:Int))],T0⟩
theorem ao1 (x:Int) (hx:inK .u64 x=true):(∀w,Calls Tryz.prog 224 #[.int .u64 x] w fun e w'=>e=.returned (.int .i64 (64-(aE x.toNat:Int)))/\Ext w w')/\eu (.int .i64 (64-(aE x.toNat:Int)))=true:=by
 have g:=bB hx
 have hb:aE x.toNat<=64:=eh (by omega)
 have h:inK .i64 (64-(aE x.toNat:Int))=true:=aed (by omega)
 exact⟨fun w=>b_lz x g.1 g.2 w w (Ext.refl w),h⟩
theorem k_lz:c_lz.Ok Tryz.prog:=fun hF hP=>by
 refine SmOk.pure (s:=c_lz.m _) hF rfl rfl fun xs vals w h=> ?_
 obtain⟨_,_,_,rfl,⟨x0,rfl,rfl,gx0⟩,h⟩:=h
 obtain⟨rfl,rfl⟩:=h
 have q:=ao1 x0 gx0
 refine⟨_,.inr ⟨cW Tryz.func224 (by kernel_rfl) (by kernel_rfl) _ w,q.1 w⟩,?_,fun U v0 nid j he=> ?_⟩
 ·have q2:=q.2
  simp[eu,dW,dY] at q2
  simp[c_lz,Cd.m,tp,rdZ,rdB,rdL,List.flatMap_cons,List.flatMap_nil,Sh.cks,List.append_nil,List.cons_append,List.nil_append,b2i_one,fu,q2]
 ·simp only[c_lz,Cd.m,tp,rdZ,rdB,rdL,List.flatMap_cons,List.flatMap_nil,Sh.cks,List.append_nil,List.cons_append,List.nil_append,b2i_one,eqs,dI,dB,ce,jw,bG,Nat.add_zero,Nat.reduceAdd,and_true] at he
  simp[c_lz,Cd.m,tp,rdZ,rdB,rdL,List.flatMap_cons,List.flatMap_nil,Sh.cks,List.append_nil,List.cons_append,List.nil_append,b2i_one,eK,bl,aG,V.den,C.den,denL,den0,bK,E.I,E.B,he]
def c_sum:Cd:=⟨223,[.agg kRg,.agg kRg,.one .bool],[.agg kRg],rd_Rg fun a=>rd_Rg fun b=>rdB fun t _=>d_Rg (xsum t a b) [],T0⟩
def zsh5:Tr:=(.leaf (.cons (.bin .add .u64 (.var 0) (.var 4)) (.cons (.var 13) (.vs 11 2 .nil))))
def zsh4:Tr:=(.leaf (.cons (.bin .sub .u64 (.var 0) (.var 5)) (.cons (.bin .sub .u64 (.var 1) (.var 4)) (.vs 11 2 .nil))))
def ahE:Tr:=
(.call 0 (kRg) .nil 9
(.br (.bw 8)
(.br (.lt (.var 0) (.var 5))
(.call 3 [.int .i64,.bool] (.cons (.var 2) (.cons (.var 7) .nil)) 13
(.call 3 [.int .i64,.bool] (.cons (.var 3) (.cons (.var 6) .nil)) 15
(.br (.bw 14)
(.br (.bw 16)
(.leaf (.vs 9 2 (.cons (.var 13) (.cons (.var 15) .nil))))
(.leaf (.vs 9 4 .nil)))
(.leaf (.vs 9 4 .nil)))))
(.call 3 [.int .i64,.bool] (.cons (.var 2) (.cons (.var 7) .nil)) 13
(.call 3 [.int .i64,.bool] (.cons (.var 3) (.cons (.var 6) .nil)) 15
(.br (.bw 14)
(.br (.bw 16)
(.leaf (.cons (.bin .sub .u64 (.var 0) (.var 5)) (.cons (.bin .sub .u64 (.var 1) (.var 4)) (.cons (.var 13) (.cons (.var 15) .nil)))))
 zsh4)
 zsh4))))
(.call 1 [.int .u64,.int .u64] (.cons (.var 1) (.cons (.var 5) .nil)) 13
(.br (.eq (.var 14) (.lit 0))
(.call 2 [.int .i64,.bool] (.cons (.var 2) (.cons (.var 6) .nil)) 15
(.call 2 [.int .i64,.bool] (.cons (.var 3) (.cons (.var 7) .nil)) 17
(.br (.bw 16)
(.br (.bw 18)
(.leaf (.cons (.bin .add .u64 (.var 0) (.var 4)) (.cons (.var 13) (.cons (.var 15) (.cons (.var 17) .nil)))))
 zsh5)
 zsh5)))
(.call 2 [.int .i64,.bool] (.cons (.var 2) (.cons (.var 6) .nil)) 15
(.call 2 [.int .i64,.bool] (.cons (.var 3) (.cons (.var 7) .nil)) 17
(.br (.bw 16)
(.br (.bw 18)
(.leaf (.vs 9 2 (.cons (.var 15) (.cons (.var 17) .nil))))
(.leaf (.vs 9 4 .nil)))
(.leaf (.vs 9 4 .nil)))))))))
theorem aph:c_sum.Ok Tryz.prog:=
 oks ahE (v_Rg (v_Rg [.bool])) aap (olc nO<|olc alT<|olc anG<|olc alJ ol0) Tryz.func223<|bM fun a ha=>bM fun b hb=>fun t hp U g=>by
 simp only[q_Rg,gS1,Nat.reduceAdd] at g
 simp only[ahE,zsh4,zsh5,spQ,c_all,c_add64,c_plus,c_minus,rdZ,rdB,rdL,c_sum,q_Rg,simQ,ab,S1,Nat.reduceSub,Nat.reduceAdd,-eq_self,aS,g]
 refine jk ?_
 constructor<;>intro c0
 constructor<;>intro c1
 refine jk ?_
 refine jk ?_
 constructor<;>intro c2
 constructor<;>intro c3
 ·(subst c0;exact agg4 (kI c1).1 (kI c1).2 (pk c2 c3).1 (pk c2 c3).2)
 ·(subst c0;exact agg4 (kI c1).1 (kI c1).2 (gR (.inr c3)).1 (gR (.inr c3)).2)
 ·(subst c0;exact agg4 (kI c1).1 (kI c1).2 (gR (.inl c2)).1 (gR (.inl c2)).2)
 refine jk ?_
 refine jk ?_
 constructor<;>intro c4
 constructor<;>intro c5
 ·(subst c0;exact agg4 (kH c1).1 (kH c1).2 (pk c4 c5).1 (pk c4 c5).2)
 ·(subst c0;exact agg4 (kH c1).1 (kH c1).2 (gR (.inr c5)).1 (gR (.inr c5)).2)
 ·(subst c0;exact agg4 (kH c1).1 (kH c1).2 (gR (.inl c4)).1 (gR (.inl c4)).2)
 refine jk ?_
 constructor<;>intro c6
 refine jk ?_
 refine jk ?_
 constructor<;>intro c7
 constructor<;>intro c8
 ·(subst c0;exact agg4 (oE ha hb c6).1 (oE ha hb c6).2 (oG c7 c8).1 (oG c7 c8).2)
 ·(subst c0;exact agg4 (oE ha hb c6).1 (oE ha hb c6).2 (gM (.inr c8)).1 (gM (.inr c8)).2)
 ·(subst c0;exact agg4 (oE ha hb c6).1 (oE ha hb c6).2 (gM (.inl c7)).1 (gM (.inl c7)).2)
 refine jk ?_
 refine jk ?_
 constructor<;>intro c9
 constructor<;>intro c10
 ·(subst c0;exact agg4 (oF ha hb c6).1 (oF ha hb c6).2 (oG c9 c10).1 (oG c9 c10).2)
 ·(subst c0;exact agg4 (oF ha hb c6).1 (oF ha hb c6).2 (gM (.inr c10)).1 (gM (.inr c10)).2)
 ·(subst c0;exact agg4 (oF ha hb c6).1 (oF ha hb c6).2 (gM (.inl c9)).1 (gM (.inl c9)).2)
theorem cr {p q q2:Prop} (k:q2) (h:p->q=q2:=by intro e;(try simp only[e,aS,-eq_self]);rfl):p->q:=fun e=>(h e).symm▸k
def aj6:List (Nat×TI):=[(2,tiq2),
 (3,tiq3),
 (37,dS),
 (42,dR),
 (44,ew),
 (105,jd)]
theorem aao:∀t i,(t,i)∈aj6->TIok Tryz.prog t i:=aV fa0 fa0 (by kernel_rfl)
def c_do:Cd:=⟨188,[.one (.int .i8),.agg kRg,.agg kRg],[.agg kRg],rdZ fun op=>rd_Rg fun a=>rd_Rg fun b _=>d_Rg (bdo op a b) [],T0⟩
def zsh9:Tr:=(.call 6 (kRg) (.vs 11 4 .nil) 18
(.leaf (.vs 18 4 .nil)))
def zsh8:E:=(.cons (.bin .sub .u64 (.bin .shl .u64 (.lit 1) (.var 17)) (.lit 1)) (.vs 13 2 .nil))
def zsh7:Tr:=(.call 6 (kRg) (.cons (.var 11) (.cons (.var 2) (.vs 13 2 .nil))) 18
(.leaf (.vs 18 4 .nil)))
def zsh6:Tr:=(.call 5 (kRg) (.vs 1 8 (.consb (.eq (.var 0) (.lit 1)) .nil)) 18
(.call 6 (kRg) (.vs 18 4 .nil) 22
(.leaf (.vs 22 4 .nil))))
def amD:Tr:=
(.call 0 [.bool] (.vs 1 4 .nil) 9
(.br (.bw 9)
(.call 0 [.bool] (.vs 5 4 .nil) 10
(.br (.bw 10)
(.call 1 (kRg) .nil 11
(.call 2 [.int .u64,.bool] (.vs 5 4 .nil) 15
(.call 3 [.int .i64] (.cons (.mx (.var 2) (.var 6)) .nil) 17
(.br (.lt (.var 17) (.lit 0))
.panic
(.br (.eq (.var 0) (.lit 11))
(.call 6 (kRg) (.vs 5 4 .nil) 18
(.leaf (.vs 18 4 .nil)))
(.br (.eq (.var 0) (.lit 0))
 zsh6
(.br (.eq (.var 0) (.lit 1))
 zsh6
(.br (.eq (.var 0) (.lit 5))
(.call 6 (kRg) (.cons (.var 11) (.cons (.mn (.var 2) (.var 6)) (.vs 13 2 .nil))) 18
(.leaf (.vs 18 4 .nil)))
(.br (.eq (.var 0) (.lit 4))
(.call 6 (kRg) (.cons (.mx (.var 1) (.var 5)) zsh8) 18
(.leaf (.vs 18 4 .nil)))
(.br (.eq (.var 0) (.lit 10))
(.call 6 (kRg) (.cons (.var 11) zsh8) 18
(.leaf (.vs 18 4 .nil)))
(.br (.eq (.var 0) (.lit 3))
(.br (.lt (.lit 0) (.var 5))
(.br (.eq (.var 6) (.lit 0))
.panic
(.br (.eq (.var 5) (.lit 0))
.panic
(.call 6 (kRg) (.cons (.bin .quo .u64 (.var 1) (.var 6)) (.cons (.bin .quo .u64 (.var 2) (.var 5)) (.vs 13 2 .nil))) 18
(.leaf (.vs 18 4 .nil)))))
 zsh7)
(.br (.eq (.var 0) (.lit 9))
(.br (.lt (.lit 0) (.var 5))
(.call 6 (kRg) (.cons (.var 11) (.cons (.mn (.var 2) (.bin .sub .u64 (.var 6) (.lit 1))) (.vs 13 2 .nil))) 18
(.leaf (.vs 18 4 .nil)))
 zsh7)
(.br (.eq (.var 0) (.lit 7))
(.br (.bw 16)
(.call 6 (kRg) (.cons (.bin .shr .u64 (.var 1) (.bin .and .u64 (.var 15) (.lit 63))) (.cons (.bin .shr .u64 (.var 2) (.bin .and .u64 (.var 15) (.lit 63))) (.vs 13 2 .nil))) 18
(.leaf (.vs 18 4 .nil)))
 zsh9)
(.br (.eq (.var 0) (.lit 6))
(.br (.bw 16)
(.call 4 [.int .i64] (.cons (.var 2) .nil) 18
(.br (.lt (.var 18) (.conv .i64 (.bin .and .u64 (.var 15) (.lit 63))))
(.call 6 (kRg) (.vs 11 4 .nil) 19
(.leaf (.vs 19 4 .nil)))
(.call 6 (kRg) (.cons (.bin .shl .u64 (.var 1) (.bin .and .u64 (.var 15) (.lit 63))) (.cons (.bin .shl .u64 (.var 2) (.bin .and .u64 (.var 15) (.lit 63))) (.vs 13 2 .nil))) 19
(.leaf (.vs 19 4 .nil)))))
 zsh9)
 zsh9))))))))))))))
(.call 1 (kRg) .nil 11
(.leaf (.vs 11 4 .nil)))))
(.call 1 (kRg) .nil 10
(.leaf (.vs 10 4 .nil)))))
theorem k_do:c_do.Ok Tryz.prog:=
 oks amD (.int .i8::v_Rg (v_Rg [])) aao (olc vd<|olc nO<|olc qN<|olc apl<|olc k_lz<|olc aph<|olc aii ol0) Tryz.func188<|fun op hop=>bM fun a ha=>bM fun b hb hp U g=>by
 simp only[q_Rg,gS1,Nat.reduceAdd] at g
 simp only[amD,zsh6,zsh7,zsh8,zsh9,spQ,c_may,c_all,c_single,c_len,c_lz,c_sum,c_nard,rdZ,rdB,rdL,c_do,q_Rg,simQ,ab,S1,Nat.reduceSub,Nat.reduceAdd,-eq_self,aS,g]
 refine cr ?_
 constructor<;>intro c0
 refine cr ?_
 constructor<;>intro c1
 refine cr ?_
 refine cr ?_
 refine cr ?_
 constructor<;>intro c2
 ·exact absurd (thm3 c2) (by omega)
 constructor<;>intro c3
 refine cr ?_
 ·exact aR (aog ha hb c0 c1 c3)
 constructor<;>intro c4
 refine cr ?_
 refine cr ?_
 ·exact aR (dq_0 ha hb c0 c1 c4)
 constructor<;>intro c5
 refine cr ?_
 refine cr ?_
 ·exact aR (dq_1 ha hb c0 c1 c5)
 constructor<;>intro c6
 refine cr ?_
 ·exact aR (dq_5 ha hb c0 c1 c6)
 constructor<;>intro c7
 refine cr ?_
 ·exact aR (dq_4 ha hb c0 c1 c7)
 constructor<;>intro c8
 refine cr ?_
 ·exact aR (ap2 ha hb c0 c1 c8)
 constructor<;>intro c9
 constructor<;>intro c10
 constructor<;>intro c11
 ·(have hm:=(cy b).1 c1;have h1:=thm3 c10;have h2:=eqz c11;omega)
 constructor<;>intro c12
 ·(have hm:=(cy b).1 c1;have h1:=thm3 c10;have h2:=eqz c12;omega)
 refine cr ?_
 ·exact aR (dq_3 ha hb c0 c1 c9 c10)
 refine cr ?_
 ·exact aR (aof ha hb c0 c1 c9 c10)
 constructor<;>intro c13
 constructor<;>intro c14
 refine cr ?_
 ·exact aR (dq_9 ha hb c0 c1 c13 c14)
 refine cr ?_
 ·exact aR (aoc ha hb c0 c1 c13 c14)
 constructor<;>intro c15
 constructor<;>intro c16
 refine cr ?_
 ·exact aR (dq_7 ha hb c0 c1 c15 c16)
 refine cr ?_
 ·exact aR (aod ha hb c0 c1 c15 c16)
 constructor<;>intro c17
 constructor<;>intro c18
 refine cr ?_
 constructor<;>intro c19
 refine cr ?_
 ·exact aR (ap1 ha hb c0 c1 c17 c18 c19)
 refine cr ?_
 ·exact aR (dq_6 ha hb c0 c1 c17 c18 c19)
 refine cr ?_
 ·exact aR (aoe ha hb c0 c1 c17 c18)
 refine cr ?_
 ·exact aR (dq_x ha hb c0 c1 c3 c4 c5 c6 c7 c8 c9 c13 c15 c17)
 refine cr ?_
 ·exact aR (yc (.inr c1))
 refine cr ?_
 ·exact aR (yc (.inl c0))
section
variable {a b:Rg} (ha:a.ok) (hb:b.ok)
include ha hb
theorem apK (h:(!(((2:Int)==2)&&(b.ul==18446744073709551615)))=false):bcan 2 a b=false:=by
 have h2:b.ul=18446744073709551615:=by simpa using h
 simp[bcan,h2]
theorem apS (h:(!(((2:Int)==2)&&(b.ul==18446744073709551615)))=true):bcan 2 a b=true:=by
 have h2:b.ul≠18446744073709551615:=by simpa using h
 simp[bcan,h2]
theorem apF (h:(!(((2:Int)==2)&&(b.ul==18446744073709551615)))=true):(⟨if((2:Int)==2)=true/\(b.ul==18446744073709551615)=true then a.ul else max a.ul (if((2:Int)==2)=true then IntKind.u64.wrap (b.ul+1) else b.ul),a.uh,a.sl,a.sh⟩:Rg)=brng 2 a b:=by
 have h2:b.ul≠18446744073709551615:=by simpa using h
 have wa:=Rg.wf_of ha
 have wb:=Rg.wf_of hb
 obtain⟨⟨a0,a1⟩,⟨a2,a3⟩,⟨a4,a5⟩,a6,a7⟩:=wa
 obtain⟨⟨b0,b1⟩,⟨b2,b3⟩,⟨b4,b5⟩,b6,b7⟩:=wb
 have h3:IntKind.u64.wrap (b.ul+1)=b.ul+1:=by rw[bc];omega
 simp[brng,Rg.ext_iff,h2,h3]
theorem apR (h:(!(((3:Int)==2)&&(b.ul==18446744073709551615)))=true):bcan 3 a b=true:=by simp[bcan]
theorem apE (h:(!(((3:Int)==2)&&(b.ul==18446744073709551615)))=true):(⟨if((3:Int)==2)=true/\(b.ul==18446744073709551615)=true then a.ul else max a.ul (if((3:Int)==2)=true then IntKind.u64.wrap (b.ul+1) else b.ul),a.uh,a.sl,a.sh⟩:Rg)=brng 3 a b:=by simp[brng,Rg.ext_iff]
theorem apJ (h:(!(((4:Int)==4)&&(b.uh==0)))=false):bcan 4 a b=false:=by
 have h2:b.uh=0:=by simpa using h
 simp[bcan,h2]
theorem apQ (h:(!(((4:Int)==4)&&(b.uh==0)))=true):bcan 4 a b=true:=by
 have h2:b.uh≠0:=by simpa using h
 simp[bcan,h2]
theorem apD (h:(!(((4:Int)==4)&&(b.uh==0)))=true):(⟨a.ul,if((4:Int)==4)=true/\(b.uh==0)=true then a.uh else min a.uh (if((4:Int)==4)=true then IntKind.u64.wrap (b.uh-1) else b.uh),a.sl,a.sh⟩:Rg)=brng 4 a b:=by
 have h2:b.uh≠0:=by simpa using h
 have wa:=Rg.wf_of ha
 have wb:=Rg.wf_of hb
 obtain⟨⟨a0,a1⟩,⟨a2,a3⟩,⟨a4,a5⟩,a6,a7⟩:=wa
 obtain⟨⟨b0,b1⟩,⟨b2,b3⟩,⟨b4,b5⟩,b6,b7⟩:=wb
 have h3:IntKind.u64.wrap (b.uh-1)=b.uh-1:=by rw[bc];omega
 simp[brng,Rg.ext_iff,h2,h3]
theorem apP (h:(!(((5:Int)==4)&&(b.uh==0)))=true):bcan 5 a b=true:=by simp[bcan]
theorem apC (h:(!(((5:Int)==4)&&(b.uh==0)))=true):(⟨a.ul,if((5:Int)==4)=true/\(b.uh==0)=true then a.uh else min a.uh (if((5:Int)==4)=true then IntKind.u64.wrap (b.uh-1) else b.uh),a.sl,a.sh⟩:Rg)=brng 5 a b:=by simp[brng,Rg.ext_iff]
theorem apI (h:(!(((6:Int)==6)&&(b.sl==9223372036854775807)))=false):bcan 6 a b=false:=by
 have h2:b.sl=9223372036854775807:=by simpa using h
 simp[bcan,h2]
theorem apO (h:(!(((6:Int)==6)&&(b.sl==9223372036854775807)))=true):bcan 6 a b=true:=by
 have h2:b.sl≠9223372036854775807:=by simpa using h
 simp[bcan,h2]
theorem apB (h:(!(((6:Int)==6)&&(b.sl==9223372036854775807)))=true):(⟨a.ul,a.uh,if((6:Int)==6)=true/\(b.sl==9223372036854775807)=true then a.sl else max a.sl (if((6:Int)==6)=true then IntKind.i64.wrap (b.sl+1) else b.sl),a.sh⟩:Rg)=brng 6 a b:=by
 have h2:b.sl≠9223372036854775807:=by simpa using h
 have wa:=Rg.wf_of ha
 have wb:=Rg.wf_of hb
 obtain⟨⟨a0,a1⟩,⟨a2,a3⟩,⟨a4,a5⟩,a6,a7⟩:=wa
 obtain⟨⟨b0,b1⟩,⟨b2,b3⟩,⟨b4,b5⟩,b6,b7⟩:=wb
 have h3:IntKind.i64.wrap (b.sl+1)=b.sl+1:=by rw[aL];omega
 simp[brng,Rg.ext_iff,h2,h3]
theorem apN (h:(!(((7:Int)==6)&&(b.sl==9223372036854775807)))=true):bcan 7 a b=true:=by simp[bcan]
theorem apA (h:(!(((7:Int)==6)&&(b.sl==9223372036854775807)))=true):(⟨a.ul,a.uh,if((7:Int)==6)=true/\(b.sl==9223372036854775807)=true then a.sl else max a.sl (if((7:Int)==6)=true then IntKind.i64.wrap (b.sl+1) else b.sl),a.sh⟩:Rg)=brng 7 a b:=by simp[brng,Rg.ext_iff]
theorem apH (h:(!(((8:Int)==8)&&(b.sh==(-9223372036854775808))))=false):bcan 8 a b=false:=by
 have h2:b.sh=(-9223372036854775808):=by simpa using h
 simp[bcan,h2]
theorem apM (h:(!(((8:Int)==8)&&(b.sh==(-9223372036854775808))))=true):bcan 8 a b=true:=by
 have h2:b.sh≠(-9223372036854775808):=by simpa using h
 simp[bcan,h2]
theorem apz (h:(!(((8:Int)==8)&&(b.sh==(-9223372036854775808))))=true):(⟨a.ul,a.uh,a.sl,if((8:Int)==8)=true/\(b.sh==(-9223372036854775808))=true then a.sh else min a.sh (if((8:Int)==8)=true then IntKind.i64.wrap (b.sh-1) else b.sh)⟩:Rg)=brng 8 a b:=by
 have h2:b.sh≠(-9223372036854775808):=by simpa using h
 have wa:=Rg.wf_of ha
 have wb:=Rg.wf_of hb
 obtain⟨⟨a0,a1⟩,⟨a2,a3⟩,⟨a4,a5⟩,a6,a7⟩:=wa
 obtain⟨⟨b0,b1⟩,⟨b2,b3⟩,⟨b4,b5⟩,b6,b7⟩:=wb
 have h3:IntKind.i64.wrap (b.sh-1)=b.sh-1:=by rw[aL];omega
 simp[brng,Rg.ext_iff,h2,h3]
theorem apL (h:(!(((9:Int)==8)&&(b.sh==(-9223372036854775808))))=true):bcan 9 a b=true:=by simp[bcan]
theorem apy (h:(!(((9:Int)==8)&&(b.sh==(-9223372036854775808))))=true):(⟨a.ul,a.uh,a.sl,if((9:Int)==8)=true/\(b.sh==(-9223372036854775808))=true then a.sh else min a.sh (if((9:Int)==8)=true then IntKind.i64.wrap (b.sh-1) else b.sh)⟩:Rg)=brng 9 a b:=by simp[brng,Rg.ext_iff]
theorem aiw:bcan 10 a b=true:=by simp[bcan]
theorem aiu:a=brng 10 a b:=by simp[brng]
theorem aiv (h:dg b=false):bcan 1 a b=true:=by simp[bcan,h]
theorem ait (h:dg b=false):a=brng 1 a b:=by simp[brng,h]
theorem an1 (h:dg b=true) (hu:(!((a.ul==aj b)&&(a.uh==aj b)))=false\/(!((a.sl==IntKind.i64.wrap (aj b))&&(a.sh==IntKind.i64.wrap (aj b))))=false):bcan 1 a b=false:=by
 have hs:aj b=b.ul:=by unfold aj;rw[h];simp
 have ht:IntKind.i64.wrap b.ul=s64 b.ul:=(bk _).symm
 rw[hs,ht] at hu
 simp only[bcan,h,if_true]
 rcases hu with hu | hu
 ·simp at hu;simp[hu]
 ·simp at hu;simp[hu]
theorem apT (h:dg b=true) (hu:(!((a.ul==aj b)&&(a.uh==aj b)))=true) (hv:(!((a.sl==IntKind.i64.wrap (aj b))&&(a.sh==IntKind.i64.wrap (aj b))))=true):bcan 1 a b=true:=by
 have hs:aj b=b.ul:=by unfold aj;rw[h];simp
 have ht:IntKind.i64.wrap b.ul=s64 b.ul:=(bk _).symm
 rw[hs] at hu
 rw[hs,ht] at hv
 simp only[bcan,h,if_true]
 simp at hu hv ⊢
 exact⟨hu,hv⟩
theorem apG (ma:bmay a=true) (h:dg b=true) (hu:(!((a.ul==aj b)&&(a.uh==aj b)))=true) (hv:(!((a.sl==IntKind.i64.wrap (aj b))&&(a.sh==IntKind.i64.wrap (aj b))))=true):(⟨if(a.ul==aj b)=true/\(a.uh==aj b)=false then IntKind.u64.wrap (a.ul+1) else a.ul,if(a.ul==aj b)=false/\(a.uh==aj b)=true then IntKind.u64.wrap (a.uh-1) else a.uh,if(a.sl==IntKind.i64.wrap (aj b))=true/\(a.sh==IntKind.i64.wrap (aj b))=false then IntKind.i64.wrap (a.sl+1) else a.sl,if(a.sl==IntKind.i64.wrap (aj b))=false/\(a.sh==IntKind.i64.wrap (aj b))=true then IntKind.i64.wrap (a.sh-1) else a.sh⟩:Rg)=brng 1 a b:=by
 have hs:aj b=b.ul:=by unfold aj;rw[h];simp
 have ht:IntKind.i64.wrap b.ul=s64 b.ul:=(bk _).symm
 rw[hs] at hu
 rw[hs,ht] at hv
 rw[hs,ht]
 have wa:=Rg.wf_of ha
 have wb:=Rg.wf_of hb
 obtain⟨⟨a0,a1⟩,⟨a2,a3⟩,⟨a4,a5⟩,a6,a7⟩:=wa
 obtain⟨⟨b0,b1⟩,⟨b2,b3⟩,⟨b4,b5⟩,b6,b7⟩:=wb
 have sb:=oQ b.ul
 rw[cy] at ma
 simp only[brng,h,if_true,Rg.ext_iff]
 generalize s64 b.ul=t at *
 simp only[Bool.not_eq_true',Bool.and_eq_false_iff,beq_eq_false_iff_ne,ne_eq] at hu hv
 simp only[aZ,beq_eq_false_iff_ne,ne_eq,bc,aL]
 refine⟨?_,?_,?_,?_⟩<;>(split<;>(try split)<;>omega)
end
theorem aB {p q q2:Prop} (k:q2) (h:p->q=q2:=by intro e;(try simp only[e,aS,-eq_self]);rfl):p->q:=fun e=>(h e).symm▸k
def aaB:List (Nat×TI):=[(2,tiq2),
 (37,dS),
 (42,dR),
 (44,ew),
 (209,aaW),
 (213,aaV)]
theorem fe:∀t i,(t,i)∈aaB->TIok Tryz.prog t i:=aV fa0 fa0 (by kernel_rfl)
def c_bits:Cd:=⟨25,[.one (.int .i8),.one (.int .i8),.one (.int .u64),.one (.int .u64)],[.one (.int .u64),.one (.int .i64)],rdZ fun op=>rdZ fun l=>rdZ fun x=>rdZ fun y _=>[.z (if okop op l=true then zdo op l x y else 0),.z (if okop op l=true then 0 else 2)],T0⟩
theorem abu (op:Int) (hop:inK .i8 op=true) (l:Int) (hl:inK .i8 l=true) (x:Int) (hx:inK .u64 x=true) (y:Int) (hy:inK .u64 y=true):(∀w,Calls Tryz.prog 25 #[.int .i8 op,.int .i8 l,.int .u64 x,.int .u64 y] w fun e w'=>e=.returned (.tuple #[.int .u64 (if okop op l=true then zdo op l x y else 0),.int .i64 (if okop op l=true then 0 else 2)])/\Ext w w')/\eu (.tuple #[.int .u64 (if okop op l=true then zdo op l x y else 0),.int .i64 (if okop op l=true then 0 else 2)])=true:=by
 have gx:=bB hx
 have gy:=bB hy
 cases hk:okop op l
 ·refine⟨fun w=>(aoh op l x y w ?_).mono ?_,by simp[eu,dW,dY];decide⟩
  ·unfold okop at hk
   rw[Bool.and_eq_false_iff,Bool.and_eq_false_iff] at hk
   rcases hk with(hk | hk) | hk
   ·have:=thm2 hk
    simp;omega
   ·have:=thm2 hk
    simp;omega
   ·rw[hk];simp
  ·rintro e w' ⟨rfl,rfl⟩
   exact⟨by simp,Ext.refl _⟩
 ·unfold okop at hk
  simp only[thm0,ba] at hk
  have hz:=jt (aab op l x y gx.1 gx.2 gy.1 gy.2)
  refine⟨fun w=>(aoi op l x y w gx.1 gx.2 gy.1 gy.2 hk.1.1 hk.1.2 hk.2).mono ?_,by simp[eu,dW,dY,hz];decide⟩
  rintro e w' ⟨rfl,hx⟩
  exact⟨by simp,hx⟩
theorem anV:c_bits.Ok Tryz.prog:=fun hF hP=>by
 refine SmOk.pure (s:=c_bits.m _) hF rfl rfl fun xs vals w h=> ?_
 obtain⟨_,_,_,rfl,⟨x0,rfl,rfl,gx0⟩,h⟩:=h
 obtain⟨_,_,_,rfl,⟨x1,rfl,rfl,gx1⟩,h⟩:=h
 obtain⟨_,_,_,rfl,⟨x2,rfl,rfl,gx2⟩,h⟩:=h
 obtain⟨_,_,_,rfl,⟨x3,rfl,rfl,gx3⟩,h⟩:=h
 obtain⟨rfl,rfl⟩:=h
 have q:=abu x0 gx0 x1 gx1 x2 gx2 x3 gx3
 refine⟨_,.inr ⟨cW Tryz.func25 (by kernel_rfl) (by kernel_rfl) _ w,q.1 w⟩,?_,fun U v0 nid j he=> ?_⟩
 ·have q2:=q.2
  simp[eu,dW,dY] at q2
  simp[c_bits,Cd.m,tp,rdZ,rdB,rdL,List.flatMap_cons,List.flatMap_nil,Sh.cks,List.append_nil,List.cons_append,List.nil_append,b2i_one,fu,q2]
 ·simp only[c_bits,Cd.m,tp,rdZ,rdB,rdL,List.flatMap_cons,List.flatMap_nil,Sh.cks,List.append_nil,List.cons_append,List.nil_append,b2i_one,eqs,dI,dB,ce,jw,bG,Nat.add_zero,Nat.reduceAdd,and_true] at he
  simp[c_bits,Cd.m,tp,rdZ,rdB,rdL,List.flatMap_cons,List.flatMap_nil,Sh.cks,List.append_nil,List.cons_append,List.nil_append,b2i_one,eK,bl,aG,V.den,C.den,denL,den0,bK,E.I,E.B,he]
def c_rcut:Cd:=⟨168,[.one (.int .u64),.one (.int .i8)],[.one (.int .u64)],rdZ fun x=>rdZ fun l _=>[.z (zcut x l)],T0⟩
theorem akF (x:Int) (hx:inK .u64 x=true) (l:Int) (hl:inK .i8 l=true):(∀w,Calls Tryz.prog 168 #[.int .u64 x,.int .i8 l] w fun e w'=>e=.returned (.int .u64 (zcut x l))/\Ext w w')/\eu (.int .u64 (zcut x l))=true:=by
 have gx:=bB hx
 have hz:=jt (er x l gx.1 gx.2)
 exact⟨fun w=>(iL x l w gx.1 gx.2).mono (by rintro e w' ⟨rfl,rfl⟩;exact⟨rfl,Ext.refl _⟩),hz⟩
theorem anC:c_rcut.Ok Tryz.prog:=fun hF hP=>by
 refine SmOk.pure (s:=c_rcut.m _) hF rfl rfl fun xs vals w h=> ?_
 obtain⟨_,_,_,rfl,⟨x0,rfl,rfl,gx0⟩,h⟩:=h
 obtain⟨_,_,_,rfl,⟨x1,rfl,rfl,gx1⟩,h⟩:=h
 obtain⟨rfl,rfl⟩:=h
 have q:=akF x0 gx0 x1 gx1
 refine⟨_,.inr ⟨cW Tryz.func168 (by kernel_rfl) (by kernel_rfl) _ w,q.1 w⟩,?_,fun U v0 nid j he=> ?_⟩
 ·have q2:=q.2
  simp[eu,dW,dY] at q2
  simp[c_rcut,Cd.m,tp,rdZ,rdB,rdL,List.flatMap_cons,List.flatMap_nil,Sh.cks,List.append_nil,List.cons_append,List.nil_append,b2i_one,fu,q2]
 ·simp only[c_rcut,Cd.m,tp,rdZ,rdB,rdL,List.flatMap_cons,List.flatMap_nil,Sh.cks,List.append_nil,List.cons_append,List.nil_append,b2i_one,eqs,dI,dB,ce,jw,bG,Nat.add_zero,Nat.reduceAdd,and_true] at he
  simp[c_rcut,Cd.m,tp,rdZ,rdB,rdL,List.flatMap_cons,List.flatMap_nil,Sh.cks,List.append_nil,List.cons_append,List.nil_append,b2i_one,eK,bl,aG,V.den,C.den,denL,den0,bK,E.I,E.B,he]
def c_uwo:Cd:=⟨195,[.agg kPu,.one (.int .u64)],[.agg kPu,.one .bool],rd_Pu fun a=>rdZ fun v _=>d_Pu ((⟨if(a.lo==v)=true/\(a.hi==v)=false then IntKind.u64.wrap (a.lo+1) else a.lo,if(a.lo==v)=false/\(a.hi==v)=true then IntKind.u64.wrap (a.hi-1) else a.hi⟩:Pu)) [.z (b2i ((!((a.lo==v)&&(a.hi==v)))))],T0⟩
def ahC:Tr:=
(.br (.eq (.var 0) (.var 2))
(.br (.eq (.var 1) (.var 2))
(.leaf (.vs 0 2 (.consb (.tt false) .nil)))
(.leaf (.cons (.bin .add .u64 (.var 0) (.lit 1)) (.cons (.var 1) (.consb (.tt true) .nil)))))
(.br (.eq (.var 1) (.var 2))
(.leaf (.cons (.var 0) (.cons (.bin .sub .u64 (.var 1) (.lit 1)) (.consb (.tt true) .nil))))
(.leaf (.vs 0 2 (.consb (.tt true) .nil)))))
theorem apg:c_uwo.Ok Tryz.prog:=
 oks ahC (v_Pu [.int .u64]) fe ol0 Tryz.func195<|jn fun a ha=>fun v hv hp U g=>by
 simp only[q_Pu,gS1,Nat.reduceAdd] at g
 simp only[ahC,spQ,rdZ,rdB,rdL,c_uwo,q_Pu,simQ,ab,S1,Nat.reduceSub,Nat.reduceAdd,-eq_self,Pu.eta,g]
 constructor<;>intro c0
 constructor<;>intro c1
 ·(simp_all [opI])
 ·(simp_all [opI])
 constructor<;>intro c2
 ·(simp_all [opI])
 ·(simp_all [opI])
def c_iwo:Cd:=⟨196,[.agg kPi,.one (.int .i64)],[.agg kPi,.one .bool],rd_Pi fun a=>rdZ fun v _=>d_Pi ((⟨if(a.lo==v)=true/\(a.hi==v)=false then IntKind.i64.wrap (a.lo+1) else a.lo,if(a.lo==v)=false/\(a.hi==v)=true then IntKind.i64.wrap (a.hi-1) else a.hi⟩:Pi)) [.z (b2i ((!((a.lo==v)&&(a.hi==v)))))],T0⟩
def ahM:Tr:=
(.br (.eq (.var 0) (.var 2))
(.br (.eq (.var 1) (.var 2))
(.leaf (.vs 0 2 (.consb (.tt false) .nil)))
(.leaf (.cons (.bin .add .i64 (.var 0) (.lit 1)) (.cons (.var 1) (.consb (.tt true) .nil)))))
(.br (.eq (.var 1) (.var 2))
(.leaf (.cons (.var 0) (.cons (.bin .sub .i64 (.var 1) (.lit 1)) (.consb (.tt true) .nil))))
(.leaf (.vs 0 2 (.consb (.tt true) .nil)))))
theorem apr:c_iwo.Ok Tryz.prog:=
 oks ahM (v_Pi [.int .i64]) fe ol0 Tryz.func196<|jo fun a ha=>fun v hv hp U g=>by
 simp only[q_Pi,gS1,Nat.reduceAdd] at g
 simp only[ahM,spQ,rdZ,rdB,rdL,c_iwo,q_Pi,simQ,ab,S1,Nat.reduceSub,Nat.reduceAdd,-eq_self,Pi.eta,g]
 constructor<;>intro c0
 constructor<;>intro c1
 ·(simp_all [opI])
 ·(simp_all [opI])
 constructor<;>intro c2
 ·(simp_all [opI])
 ·(simp_all [opI])
def c_uabove:Cd:=⟨197,[.agg kPu,.agg kPu,.one .bool,.one (.int .u64)],[.agg kPu,.one .bool],rd_Pu fun a=>rd_Pu fun b=>rdB fun t=>rdZ fun m _=>d_Pu ((⟨if t=true/\(b.lo==m)=true then a.lo else max a.lo (if t=true then IntKind.u64.wrap (b.lo+1) else b.lo),a.hi⟩:Pu)) [.z (b2i ((!(t&&(b.lo==m)))))],T0⟩
def sk:Tr:=
(.br (.bw 4)
(.br (.eq (.var 2) (.var 5))
(.leaf (.vs 0 2 (.consb (.tt false) .nil)))
(.leaf (.cons (.mx (.var 0) (.bin .add .u64 (.var 2) (.lit 1))) (.cons (.var 1) (.consb (.tt true) .nil)))))
(.leaf (.cons (.mx (.var 0) (.var 2)) (.cons (.var 1) (.consb (.tt true) .nil)))))
theorem agy:c_uabove.Ok Tryz.prog:=
 oks sk (v_Pu (v_Pu [.bool,.int .u64])) fe ol0 Tryz.func197<|jn fun a ha=>jn fun b hb=>fun t m hm hp U g=>by
 simp only[q_Pu,gS1,Nat.reduceAdd] at g
 simp only[sk,spQ,rdZ,rdB,rdL,c_uabove,q_Pu,simQ,ab,S1,Nat.reduceSub,Nat.reduceAdd,-eq_self,Pu.eta,g]
 constructor<;>intro c0
 constructor<;>intro c1
 ·(simp_all [opI])
 ·(simp_all [opI])
 ·(simp_all [opI])
def c_ubelow:Cd:=⟨198,[.agg kPu,.agg kPu,.one .bool,.one (.int .u64)],[.agg kPu,.one .bool],rd_Pu fun a=>rd_Pu fun b=>rdB fun t=>rdZ fun m _=>d_Pu ((⟨a.lo,if t=true/\(b.hi==m)=true then a.hi else min a.hi (if t=true then IntKind.u64.wrap (b.hi-1) else b.hi)⟩:Pu)) [.z (b2i ((!(t&&(b.hi==m)))))],T0⟩
def sj:Tr:=
(.br (.bw 4)
(.br (.eq (.var 3) (.var 5))
(.leaf (.vs 0 2 (.consb (.tt false) .nil)))
(.leaf (.cons (.var 0) (.cons (.mn (.var 1) (.bin .sub .u64 (.var 3) (.lit 1))) (.consb (.tt true) .nil)))))
(.leaf (.cons (.var 0) (.cons (.mn (.var 1) (.var 3)) (.consb (.tt true) .nil)))))
theorem agx:c_ubelow.Ok Tryz.prog:=
 oks sj (v_Pu (v_Pu [.bool,.int .u64])) fe ol0 Tryz.func198<|jn fun a ha=>jn fun b hb=>fun t m hm hp U g=>by
 simp only[q_Pu,gS1,Nat.reduceAdd] at g
 simp only[sj,spQ,rdZ,rdB,rdL,c_ubelow,q_Pu,simQ,ab,S1,Nat.reduceSub,Nat.reduceAdd,-eq_self,Pu.eta,g]
 constructor<;>intro c0
 constructor<;>intro c1
 ·(simp_all [opI])
 ·(simp_all [opI])
 ·(simp_all [opI])
def c_iabove:Cd:=⟨199,[.agg kPi,.agg kPi,.one .bool,.one (.int .i64)],[.agg kPi,.one .bool],rd_Pi fun a=>rd_Pi fun b=>rdB fun t=>rdZ fun m _=>d_Pi ((⟨if t=true/\(b.lo==m)=true then a.lo else max a.lo (if t=true then IntKind.i64.wrap (b.lo+1) else b.lo),a.hi⟩:Pi)) [.z (b2i ((!(t&&(b.lo==m)))))],T0⟩
def sA:Tr:=
(.br (.bw 4)
(.br (.eq (.var 2) (.var 5))
(.leaf (.vs 0 2 (.consb (.tt false) .nil)))
(.leaf (.cons (.mx (.var 0) (.bin .add .i64 (.var 2) (.lit 1))) (.cons (.var 1) (.consb (.tt true) .nil)))))
(.leaf (.cons (.mx (.var 0) (.var 2)) (.cons (.var 1) (.consb (.tt true) .nil)))))
theorem agG:c_iabove.Ok Tryz.prog:=
 oks sA (v_Pi (v_Pi [.bool,.int .i64])) fe ol0 Tryz.func199<|jo fun a ha=>jo fun b hb=>fun t m hm hp U g=>by
 simp only[q_Pi,gS1,Nat.reduceAdd] at g
 simp only[sA,spQ,rdZ,rdB,rdL,c_iabove,q_Pi,simQ,ab,S1,Nat.reduceSub,Nat.reduceAdd,-eq_self,Pi.eta,g]
 constructor<;>intro c0
 constructor<;>intro c1
 ·(simp_all [opI])
 ·(simp_all [opI])
 ·(simp_all [opI])
def c_ibelow:Cd:=⟨200,[.agg kPi,.agg kPi,.one .bool,.one (.int .i64)],[.agg kPi,.one .bool],rd_Pi fun a=>rd_Pi fun b=>rdB fun t=>rdZ fun m _=>d_Pi ((⟨a.lo,if t=true/\(b.hi==m)=true then a.hi else min a.hi (if t=true then IntKind.i64.wrap (b.hi-1) else b.hi)⟩:Pi)) [.z (b2i ((!(t&&(b.hi==m)))))],T0⟩
def sy:Tr:=
(.br (.bw 4)
(.br (.eq (.var 3) (.var 5))
(.leaf (.vs 0 2 (.consb (.tt false) .nil)))
(.leaf (.cons (.var 0) (.cons (.mn (.var 1) (.bin .sub .i64 (.var 3) (.lit 1))) (.consb (.tt true) .nil)))))
(.leaf (.cons (.var 0) (.cons (.mn (.var 1) (.var 3)) (.consb (.tt true) .nil)))))
theorem agF:c_ibelow.Ok Tryz.prog:=
 oks sy (v_Pi (v_Pi [.bool,.int .i64])) fe ol0 Tryz.func200<|jo fun a ha=>jo fun b hb=>fun t m hm hp U g=>by
 simp only[q_Pi,gS1,Nat.reduceAdd] at g
 simp only[sy,spQ,rdZ,rdB,rdL,c_ibelow,q_Pi,simQ,ab,S1,Nat.reduceSub,Nat.reduceAdd,-eq_self,Pi.eta,g]
 constructor<;>intro c0
 constructor<;>intro c1
 ·(simp_all [opI])
 ·(simp_all [opI])
 ·(simp_all [opI])
def c_given:Cd:=⟨149,[.one (.int .i8),.agg kRg,.agg kRg],[.agg kRg,.one .bool],rdZ fun cc=>rd_Rg fun a=>rd_Rg fun b _=>d_Rg (bgiv cc a b) [.z (b2i (bgok cc a b))],T0⟩
def ajM:Tr:=(.call 1 (kRg) .nil 20
(.leaf (.vs 20 4 (.consb (.tt false) .nil))))
def ajN:Tr:=(.call 1 (kRg) .nil 23
(.leaf (.vs 23 4 (.consb (.tt false) .nil))))
def afd:Tr:=(.call 1 (kRg) .nil 11
(.leaf (.vs 11 4 (.consb (.tt false) .nil))))
def ajO:Tr:=(.call 13 (kRg++[.bool]) (.vs 20 4 .nil) 24
(.leaf (.vs 24 4 (.consb (.bw 28) .nil))))
def ajP:Tr:=(.br (.bw 19)
(.call 12 (kRg) (.vs 11 2 (.vs 17 2 .nil)) 20
 ajO)
 ajM)
def ajQ:Tr:=(.br (.bw 19)
(.call 12 (kRg) (.vs 17 2 (.vs 13 2 .nil)) 20
 ajO)
 ajM)
def ajR:Tr:=(.call 4 (kPu) (.vs 5 4 .nil) 15
(.call 9 (kPu++[.bool]) (.vs 11 2 (.vs 15 2 (.consb (.eq (.var 0) (.lit 4)) (.cons (.lit 0) .nil)))) 17
 ajQ))
def ajS:Tr:=(.call 5 (kPi) (.vs 5 4 .nil) 15
(.call 10 (kPi++[.bool]) (.vs 13 4 (.consb (.eq (.var 0) (.lit 6)) (.cons (.lit 9223372036854775807) .nil))) 17
 ajP))
def ajT:Tr:=(.call 5 (kPi) (.vs 5 4 .nil) 15
(.call 11 (kPi++[.bool]) (.vs 13 4 (.consb (.eq (.var 0) (.lit 8)) (.cons (.lit (-9223372036854775808)) .nil))) 17
 ajP))
def ajU:Tr:=(.call 4 (kPu) (.vs 5 4 .nil) 15
(.call 8 (kPu++[.bool]) (.vs 11 2 (.vs 15 2 (.consb (.eq (.var 0) (.lit 2)) (.cons (.lit 18446744073709551615) .nil)))) 17
 ajQ))
def qi:Tr:=
(.call 0 [.bool] (.vs 1 4 .nil) 9
(.br (.bw 9)
(.call 0 [.bool] (.vs 5 4 .nil) 10
(.br (.bw 10)
(.br (.lt (.var 0) (.lit 0))
 afd
(.br (.lt (.lit 10) (.var 0))
 afd
(.call 4 (kPu) (.vs 1 4 .nil) 11
(.call 5 (kPi) (.vs 1 4 .nil) 13
(.br (.eq (.var 0) (.lit 0))
(.call 2 (kRg++[.bool]) (.vs 1 8 .nil) 15
(.leaf (.vs 15 4 (.consb (.bw 19) .nil))))
(.br (.eq (.var 0) (.lit 1))
(.call 3 [.int .u64,.bool] (.vs 5 4 .nil) 15
(.br (.bw 16)
(.call 6 (kPu++[.bool]) (.vs 11 2 (.cons (.var 15) .nil)) 17
(.call 7 (kPi++[.bool]) (.vs 13 2 (.cons (.conv .i64 (.var 15)) .nil)) 20
(.br (.bw 19)
(.br (.bw 22)
(.call 12 (kRg) (.vs 17 2 (.vs 20 2 .nil)) 23
(.call 13 (kRg++[.bool]) (.vs 23 4 .nil) 27
(.leaf (.vs 27 4 (.consb (.bw 31) .nil)))))
 ajN)
 ajN)))
(.call 12 (kRg) (.vs 11 4 .nil) 17
(.call 13 (kRg++[.bool]) (.vs 17 4 .nil) 21
(.leaf (.vs 21 4 (.consb (.bw 25) .nil)))))))
(.br (.eq (.var 0) (.lit 2))
 ajU
(.br (.eq (.var 0) (.lit 3))
 ajU
(.br (.eq (.var 0) (.lit 4))
 ajR
(.br (.eq (.var 0) (.lit 5))
 ajR
(.br (.eq (.var 0) (.lit 6))
 ajS
(.br (.eq (.var 0) (.lit 7))
 ajS
(.br (.eq (.var 0) (.lit 8))
 ajT
(.br (.eq (.var 0) (.lit 9))
 ajT
(.call 12 (kRg) (.vs 11 4 .nil) 15
(.call 13 (kRg++[.bool]) (.vs 15 4 .nil) 19
(.leaf (.vs 19 4 (.consb (.bw 23) .nil)))))))))))))))))))
 afd))
(.call 1 (kRg) .nil 10
(.leaf (.vs 10 4 (.consb (.tt false) .nil))))))
theorem af0:bp aaB (smN 0 [c_may,c_all,c_meet,c_single,c_uns,c_sig,c_uwo,c_iwo,c_uabove,c_ubelow,c_iabove,c_ibelow,c_of,c_nar]) [] [] [] 200 Tryz.f149 c_given.a c_given.r (tp c_given.r) (.int .i8::v_Rg (v_Rg [])) qi:=trI (by kernel_rfl)
theorem alR:c_given.Ok Tryz.prog:=
 okc qi (.int .i8::v_Rg (v_Rg [])) fe (olc vd<|olc nO<|olc aij<|olc qN<|olc adO<|olc adQ<|olc apg<|olc apr<|olc agy<|olc agx<|olc agG<|olc agF<|olc k_of<|olc alI ol0) Tryz.func149 fn0 af0<|fun cc hcc=>bM fun a ha=>bM fun b hb hp U g=>by
 simp only[q_Rg,q_Pu,q_Pi,gS1,Nat.reduceAdd] at g
 simp only[qi,ajU,ajT,ajS,ajR,ajQ,ajP,ajO,afd,ajN,ajM,spQ,c_may,c_all,c_meet,c_single,c_uns,c_sig,c_uwo,c_iwo,c_uabove,c_ubelow,c_iabove,c_ibelow,c_of,c_nar,rdZ,rdB,rdL,c_given,q_Rg,q_Pu,q_Pi,simQ,ab,S1,Nat.reduceSub,Nat.reduceAdd,-eq_self,aS,g]
 refine aB ?_
 constructor<;>intro c0
 refine aB ?_
 constructor<;>intro c1
 constructor<;>intro c2
 refine aB ?_
 ·exact bU (bW (.inl (by unfold fF;rw[c0,c1,eR (show¬0<=cc from Int.not_le.2 (thm3 c2))];rfl))).1 (bW (.inl (by unfold fF;rw[c0,c1,eR (show¬0<=cc from Int.not_le.2 (thm3 c2))];rfl))).2
 constructor<;>intro c3
 refine aB ?_
 ·exact bU (bW (.inl (by unfold fF;rw[c0,c1,eR (show¬cc<=10 from Int.not_le.2 (thm3 c3))];simp))).1 (bW (.inl (by unfold fF;rw[c0,c1,eR (show¬cc<=10 from Int.not_le.2 (thm3 c3))];simp))).2
 refine aB ?_
 refine aB ?_
 constructor<;>intro c4
 refine aB ?_
 ·(have hcc:0<=cc/\cc<=10:=⟨ar.1 (thm2 c2),ar.1 (thm2 c3)⟩;have hg:=bI c0 c1 hcc;obtain rfl:=eqz c4;exact bU (agN hg).1 (agN hg).2)
 constructor<;>intro c5
 refine aB ?_
 constructor<;>intro c6
 refine aB ?_
 refine aB ?_
 constructor<;>intro c7
 constructor<;>intro c8
 refine aB ?_
 refine aB ?_
 ·(have hcc:0<=cc/\cc<=10:=⟨ar.1 (thm2 c2),ar.1 (thm2 c3)⟩;have hg:=bI c0 c1 hcc;obtain rfl:=eqz c5;have hq:=aQ (by omega) hg (apT ha hb c6 c7 c8) (apG ha hb c0 c6 c7 c8);exact bU hq.1 hq.2)
 refine aB ?_
 ·(have hcc:0<=cc/\cc<=10:=⟨ar.1 (thm2 c2),ar.1 (thm2 c3)⟩;have hg:=bI c0 c1 hcc;obtain rfl:=eqz c5;have hq:=bW (cc:=1) (.inr ⟨by omega,an1 ha hb c6 (.inr c8)⟩);exact bU hq.1 hq.2)
 refine aB ?_
 ·(have hcc:0<=cc/\cc<=10:=⟨ar.1 (thm2 c2),ar.1 (thm2 c3)⟩;have hg:=bI c0 c1 hcc;obtain rfl:=eqz c5;have hq:=bW (cc:=1) (.inr ⟨by omega,an1 ha hb c6 (.inl c7)⟩);exact bU hq.1 hq.2)
 refine aB ?_
 refine aB ?_
 ·(have hcc:0<=cc/\cc<=10:=⟨ar.1 (thm2 c2),ar.1 (thm2 c3)⟩;have hg:=bI c0 c1 hcc;obtain rfl:=eqz c5;have hq:=aQ (by omega) hg (aiv ha hb c6) (ait ha hb c6);exact bU hq.1 hq.2)
 constructor<;>intro c9
 refine aB ?_
 refine aB ?_
 constructor<;>intro c10
 refine aB ?_
 refine aB ?_
 ·(have hcc:0<=cc/\cc<=10:=⟨ar.1 (thm2 c2),ar.1 (thm2 c3)⟩;have hg:=bI c0 c1 hcc;obtain rfl:=eqz c9;have hq:=aQ (by omega) hg (apS ha hb c10) (apF ha hb c10);exact bU hq.1 hq.2)
 refine aB ?_
 ·(have hcc:0<=cc/\cc<=10:=⟨ar.1 (thm2 c2),ar.1 (thm2 c3)⟩;have hg:=bI c0 c1 hcc;obtain rfl:=eqz c9;have hq:=bW (cc:=2) (.inr ⟨by omega,apK ha hb c10⟩);exact bU hq.1 hq.2)
 constructor<;>intro c11
 refine aB ?_
 refine aB ?_
 constructor<;>intro c12
 refine aB ?_
 refine aB ?_
 ·(have hcc:0<=cc/\cc<=10:=⟨ar.1 (thm2 c2),ar.1 (thm2 c3)⟩;have hg:=bI c0 c1 hcc;obtain rfl:=eqz c11;have hq:=aQ (by omega) hg (apR ha hb c12) (apE ha hb c12);exact bU hq.1 hq.2)
 refine aB ?_
 ·(have hcc:0<=cc/\cc<=10:=⟨ar.1 (thm2 c2),ar.1 (thm2 c3)⟩;have hg:=bI c0 c1 hcc;obtain rfl:=eqz c11;exact absurd c12 (by simp))
 constructor<;>intro c13
 refine aB ?_
 refine aB ?_
 constructor<;>intro c14
 refine aB ?_
 refine aB ?_
 ·(have hcc:0<=cc/\cc<=10:=⟨ar.1 (thm2 c2),ar.1 (thm2 c3)⟩;have hg:=bI c0 c1 hcc;obtain rfl:=eqz c13;have hq:=aQ (by omega) hg (apQ ha hb c14) (apD ha hb c14);exact bU hq.1 hq.2)
 refine aB ?_
 ·(have hcc:0<=cc/\cc<=10:=⟨ar.1 (thm2 c2),ar.1 (thm2 c3)⟩;have hg:=bI c0 c1 hcc;obtain rfl:=eqz c13;have hq:=bW (cc:=4) (.inr ⟨by omega,apJ ha hb c14⟩);exact bU hq.1 hq.2)
 constructor<;>intro c15
 refine aB ?_
 refine aB ?_
 constructor<;>intro c16
 refine aB ?_
 refine aB ?_
 ·(have hcc:0<=cc/\cc<=10:=⟨ar.1 (thm2 c2),ar.1 (thm2 c3)⟩;have hg:=bI c0 c1 hcc;obtain rfl:=eqz c15;have hq:=aQ (by omega) hg (apP ha hb c16) (apC ha hb c16);exact bU hq.1 hq.2)
 refine aB ?_
 ·(have hcc:0<=cc/\cc<=10:=⟨ar.1 (thm2 c2),ar.1 (thm2 c3)⟩;have hg:=bI c0 c1 hcc;obtain rfl:=eqz c15;exact absurd c16 (by simp))
 constructor<;>intro c17
 refine aB ?_
 refine aB ?_
 constructor<;>intro c18
 refine aB ?_
 refine aB ?_
 ·(have hcc:0<=cc/\cc<=10:=⟨ar.1 (thm2 c2),ar.1 (thm2 c3)⟩;have hg:=bI c0 c1 hcc;obtain rfl:=eqz c17;have hq:=aQ (by omega) hg (apO ha hb c18) (apB ha hb c18);exact bU hq.1 hq.2)
 refine aB ?_
 ·(have hcc:0<=cc/\cc<=10:=⟨ar.1 (thm2 c2),ar.1 (thm2 c3)⟩;have hg:=bI c0 c1 hcc;obtain rfl:=eqz c17;have hq:=bW (cc:=6) (.inr ⟨by omega,apI ha hb c18⟩);exact bU hq.1 hq.2)
 constructor<;>intro c19
 refine aB ?_
 refine aB ?_
 constructor<;>intro c20
 refine aB ?_
 refine aB ?_
 ·(have hcc:0<=cc/\cc<=10:=⟨ar.1 (thm2 c2),ar.1 (thm2 c3)⟩;have hg:=bI c0 c1 hcc;obtain rfl:=eqz c19;have hq:=aQ (by omega) hg (apN ha hb c20) (apA ha hb c20);exact bU hq.1 hq.2)
 refine aB ?_
 ·(have hcc:0<=cc/\cc<=10:=⟨ar.1 (thm2 c2),ar.1 (thm2 c3)⟩;have hg:=bI c0 c1 hcc;obtain rfl:=eqz c19;exact absurd c20 (by simp))
 constructor<;>intro c21
 refine aB ?_
 refine aB ?_
 constructor<;>intro c22
 refine aB ?_
 refine aB ?_
 ·(have hcc:0<=cc/\cc<=10:=⟨ar.1 (thm2 c2),ar.1 (thm2 c3)⟩;have hg:=bI c0 c1 hcc;obtain rfl:=eqz c21;have hq:=aQ (by omega) hg (apM ha hb c22) (apz ha hb c22);exact bU hq.1 hq.2)
 refine aB ?_
 ·(have hcc:0<=cc/\cc<=10:=⟨ar.1 (thm2 c2),ar.1 (thm2 c3)⟩;have hg:=bI c0 c1 hcc;obtain rfl:=eqz c21;have hq:=bW (cc:=8) (.inr ⟨by omega,apH ha hb c22⟩);exact bU hq.1 hq.2)
 constructor<;>intro c23
 refine aB ?_
 refine aB ?_
 constructor<;>intro c24
 refine aB ?_
 refine aB ?_
 ·(have hcc:0<=cc/\cc<=10:=⟨ar.1 (thm2 c2),ar.1 (thm2 c3)⟩;have hg:=bI c0 c1 hcc;obtain rfl:=eqz c23;have hq:=aQ (by omega) hg (apL ha hb c24) (apy ha hb c24);exact bU hq.1 hq.2)
 refine aB ?_
 ·(have hcc:0<=cc/\cc<=10:=⟨ar.1 (thm2 c2),ar.1 (thm2 c3)⟩;have hg:=bI c0 c1 hcc;obtain rfl:=eqz c23;exact absurd c24 (by simp))
 refine aB ?_
 refine aB ?_
 ·(have hcc:0<=cc/\cc<=10:=⟨ar.1 (thm2 c2),ar.1 (thm2 c3)⟩;have hg:=bI c0 c1 hcc;obtain rfl:cc=10:=(by have:=nez c4;have h1:=nez c5;have h2:=nez c9;have h3:=nez c11;have h4:=nez c13;have h5:=nez c15;have h6:=nez c17;have h7:=nez c19;have h8:=nez c21;have h9:=nez c23;omega);have hq:=aQ (by omega) hg (aiw ha hb) (aiu ha hb);exact bU hq.1 hq.2)
 refine aB ?_
 ·exact bU (bW (.inl (by unfold fF;rw[c0,c1];rfl))).1 (bW (.inl (by unfold fF;rw[c0,c1];rfl))).2
 refine aB ?_
 ·exact bU (bW (.inl (by unfold fF;rw[c0];rfl))).1 (bW (.inl (by unfold fF;rw[c0];rfl))).2
structure Sc where
 ul:Int
 uh:Int
 sl:Int
 sh:Int
 v:Int
 m:Int
def Sc.r (a:Sc):Rg:=⟨a.ul,a.uh,a.sl,a.sh⟩
def Sc.k (a:Sc):Kn:=⟨a.v,a.m⟩
def sc (r:Rg) (k:Kn):Sc:=⟨r.ul,r.uh,r.sl,r.sh,k.v,k.m⟩
theorem Sc.eta_r (a:Sc):(⟨a.ul,a.uh,a.sl,a.sh⟩:Rg)=a.r:=rfl
theorem Sc.eta_k (a:Sc):(⟨a.v,a.m⟩:Kn)=a.k:=rfl
theorem Sc.eta_2 (r:Rg) (k:Kn):(⟨r.ul,r.uh,r.sl,r.sh,k.v,k.m⟩:Sc)=sc r k:=rfl
def vmay (a:Sc):Bool:=bmay a.r&&kmay a.k
def vall:Sc:=sc ball kall
def vone (v:Int):Sc:=sc (bone v) (kone v)
def vhas (a:Sc) (x:Int):Bool:=vmay a&&(bhas a.r x&&khas a.k x)
def pI (a:Sc):Bool:=vmay a&&dg a.r
def cR (a:Sc):Int:=if vmay a=true then aj a.r else 0
def kcom (r:Rg):Kn:=jb r.ul (jc (bits .xor .u64 r.ul r.uh))
def vlo (k:Kn):Rg:=⟨k.v,bits .or .u64 k.v k.m,ball.sl,ball.sh⟩
def vs1 (a:Sc):Bool:=eP a.r (vlo a.k)
def vs2 (a:Sc):Bool:=dC a.k (kcom (dV a.r (vlo a.k)))
def vst (a:Sc):Sc:=sc (dV a.r (vlo a.k)) (ja a.k (kcom (dV a.r (vlo a.k))))
def vnok (a:Sc):Bool:=vmay a&&(vs1 a&&(vs2 a&&(vs1 (vst a)&&vs2 (vst a))))
def vnar (a:Sc):Sc:=if vnok a=true then vst (vst a) else vall
theorem vn_t {a:Sc} (h0:vmay a=true) (h1:vs1 a=true) (h2:vs2 a=true) (h3:vs1 (vst a)=true) (h4:vs2 (vst a)=true):vnar a=vst (vst a)/\vnok a=true:=by
 have h:vnok a=true:=by unfold vnok;rw[h0,h1,h2,h3,h4];rfl
 exact⟨if_pos h,h⟩
theorem vn_f {a:Sc} (h:vmay a=false\/vs1 a=false\/vs2 a=false\/vs1 (vst a)=false\/vs2 (vst a)=false):vnar a=vall/\vnok a=false:=by
 have h:vnok a=false:=by unfold vnok;rcases h with h | h | h | h | h<;>rw[h]<;>simp
 exact⟨if_neg (by rw[h];simp),h⟩
theorem ams (a:Sc):(if vnok a=true then vnar a else vall)=vnar a:=by
 cases h:vnok a
 ·unfold vnar;rw[h];simp
 ·simp
def aoR (a b:Sc):Sc:=if vmay a=true/\vmay b=true then vnar (sc (aot a.r b.r) (ana a.k b.k)) else vall
def bwid (x y:Rg):Rg:=⟨if(x.ul==y.ul)=false/\decide (y.ul<x.ul)=true then 0 else x.ul,if(x.uh==y.uh)=false/\decide (x.uh<y.uh)=true then 18446744073709551615 else x.uh,
 if(x.sl==y.sl)=false/\decide (y.sl<x.sl)=true then -9223372036854775808 else x.sl,if(x.sh==y.sh)=false/\decide (x.sh<y.sh)=true then 9223372036854775807 else x.sh⟩
def vwid (a b:Sc):Sc:=if vmay a=true/\vmay b=true then vnar (sc (bwid a.r b.r) (ana a.k b.k)) else vall
def vlow (a:Sc):Sc:=vnar (sc (blow a.r) (kcut a.k 32))
def vbel (t:Int):Sc:=vnar (sc ⟨0,t,ball.sl,ball.sh⟩ ⟨0,t⟩)
def vcap (r:Rg):Rg:=if r.uh<4294967296 then r else blow ball
def dc (op:Int) (a b:Sc):Rg:=
 if op=8\/op=12 then blow ball
 else if op=6\/op=7 then(if pI b=true then vcap (bdo op a.r (vone (opI .and .u64 (cR b) 31)).r) else blow ball)
 else vcap (bdo op a.r b.r)
def vhf (op w:Int) (a b:Sc):Sc:=sc (dc op (vlow a) (vlow b)) (kdo op w (vlow a).k (vlow b).k)
def vdo (op w:Int) (a b:Sc):Sc:=
 if okop op w=true/\vmay a=true/\vmay b=true then(if w=64 then vnar (sc (bdo op a.r b.r) (kdo op 64 a.k b.k)) else if vnok (vhf op w a b)=true then vnar (vhf op w a b) else vbel 4294967295) else vall
def vgk (cc:Int) (a b:Sc):Kn:=if cc=0 then ja a.k b.k else a.k
def vgs (cc:Int) (a b:Sc):Sc:=sc (bgiv cc a.r b.r) (vgk cc a b)
def vgok (cc:Int) (a b:Sc):Bool:=vmay a&&(vmay b&&(bgok cc a.r b.r&&((if cc=0 then dC a.k b.k else true)&&vnok (vgs cc a b))))
def vgiv (cc:Int) (a b:Sc):Sc:=if vgok cc a b=true then vnar (vgs cc a b) else vall
theorem vg_0 {cc:Int} {a b:Sc} (h0:vmay a=true) (h1:vmay b=true) (h2:bgok cc a.r b.r=true) (h3:(cc==0)=true) (h4:dC a.k b.k=true):
  vgiv cc a b=vnar (sc (bgiv cc a.r b.r) (ja a.k b.k))/\vgok cc a b=vnok (sc (bgiv cc a.r b.r) (ja a.k b.k)):=by
 obtain rfl:=eqz h3
 have e:vgok 0 a b=vnok (sc (bgiv 0 a.r b.r) (ja a.k b.k)):=by unfold vgok;rw[h0,h1,h2,if_pos rfl,h4];rfl
 refine⟨?_,e⟩
 unfold vgiv
 rw[e]
 exact ams _
theorem vg_n {cc:Int} {a b:Sc} (h0:vmay a=true) (h1:vmay b=true) (h2:bgok cc a.r b.r=true) (h3:(cc==0)=false):
  vgiv cc a b=vnar (sc (bgiv cc a.r b.r) a.k)/\vgok cc a b=vnok (sc (bgiv cc a.r b.r) a.k):=by
 have h3:=nez h3
 have e:vgok cc a b=vnok (sc (bgiv cc a.r b.r) a.k):=by unfold vgok vgs vgk;rw[h0,h1,h2,if_neg h3,if_neg h3];rfl
 refine⟨?_,e⟩
 unfold vgiv
 rw[e]
 unfold vgs vgk
 rw[if_neg h3]
 exact ams _
theorem vg_f {cc:Int} {a b:Sc} (h:vmay a=false\/vmay b=false\/bgok cc a.r b.r=false\/((cc==0)=true/\dC a.k b.k=false)):vgiv cc a b=vall/\vgok cc a b=false:=by
 have h:vgok cc a b=false:=by
  unfold vgok
  rcases h with h | h | h | ⟨h,h'⟩
  ·rw[h];simp
  ·rw[h];simp
  ·rw[h];simp
  ·rw[if_pos (eqz h),h'];simp
 exact⟨if_neg (by rw[h];simp),h⟩
theorem cQ {b:Bool} (h:((if b=true then(0:Int) else 2)==0)=true):b=true:=by cases b<;>simp_all
theorem ah0 {b:Bool} (h:((if b=true then(0:Int) else 2)==0)=false):b=false:=by cases b<;>simp_all
theorem aJ {r s:Kn} (h:r=s):[Dt.z r.v,.z r.m]=[Dt.z s.v,.z s.m]:=by rw[h]
theorem anh {r:Rg} (hr:r.wf):(⟨bits .andNot .u64 r.ul (opI .sub .u64 (opI .shl .u64 1 (opI .sub .i64 64 (64-(aE (bits .xor .u64 r.ul r.uh).toNat:Int)))) 1),opI .sub .u64 (opI .shl .u64 1 (opI .sub .i64 64 (64-(aE (bits .xor .u64 r.ul r.uh).toNat:Int)))) 1⟩:Kn)=kcom r:=by
 have hx:=vF r.ul r.uh
 have hb:aE (bits .xor .u64 r.ul r.uh).toNat<=64:=eh (by omega)
 have e:opI .sub .i64 64 (64-(aE (bits .xor .u64 r.ul r.uh).toNat:Int))=(aE (bits .xor .u64 r.ul r.uh).toNat:Int):=by
  show IntKind.i64.wrap _=_
  rw[aL];omega
 rw[e,vm hx.1 hx.2]
 rfl
theorem ani {r:Rg} (hr:r.wf) (h:decide (0<64-(aE (bits .xor .u64 r.ul r.uh).toNat:Int))=false):(⟨bits .andNot .u64 r.ul 18446744073709551615,18446744073709551615⟩:Kn)=kcom r:=by
 have h:=thm2 h
 have hx:=vF r.ul r.uh
 have hb:aE (bits .xor .u64 r.ul r.uh).toNat<=64:=eh (by omega)
 have e:jc (bits .xor .u64 r.ul r.uh)=18446744073709551615:=by
  unfold jc
  rw[show aE (bits .xor .u64 r.ul r.uh).toNat=64 by omega]
  rfl
 unfold kcom jb
 rw[e]
section
variable {op l:Int} {a b:Kn}
theorem ah5 (h:cE op l a b=false):kall=kdo op l a b:=by
 unfold kdo;rw[if_neg (by rw[h];simp)]
theorem kd_a (h:kmay a=false):cE op l a b=false:=by simp[cE,h]
theorem kd_b (h:kmay b=false):cE op l a b=false:=by simp[cE,h]
theorem anf (h:decide (op<0)=true):cE op l a b=false:=by
 have:=thm3 h
 simp[cE,eR (show¬0<=op by omega)]
theorem ang (h:decide (12<op)=true):cE op l a b=false:=by
 have:=thm3 h
 simp[cE,eR (show¬op<=12 by omega)]
theorem kd_w (h:(l==32)=false) (h':(l==64)=false):cE op l a b=false:=by simp[cE,fY,h,h']
theorem agu (h0:kmay a=true) (h1:kmay b=true) (h2:decide (op<0)=false) (h3:decide (12<op)=false) (h4:fY l=true):cE op l a b=true/\okop op l=true:=by
 have h2:=thm2 h2
 have h3:=thm2 h3
 simp[cE,okop,h0,h1,h4,eA (show 0<=op by omega),eA (show op<=12 by omega)]
theorem ane (h:(!cE op l a b)=false):(cE op l a b=true/\okop op l=true)/\(0<=op/\op<=12)/\(l=32\/l=64):=by
 have h:cE op l a b=true:=by simpa using h
 have h2:=h
 unfold cE at h2
 simp only[thm0,ba] at h2
 obtain⟨_,_,h3,h4,h5⟩:=h2
 refine⟨⟨h,by unfold okop;rw[eA h3,eA h4,h5];rfl⟩,⟨h3,h4⟩,?_⟩
 unfold fY at h5
 simpa using h5
theorem ah4 (hg:cE op l a b=true/\okop op l=true) (h:(bits .or .u64 (kcut a l).m (kcut b l).m==0)=true):kone (if okop op l=true then zdo op l (kcut a l).v (kcut b l).v else 0)=kdo op l a b:=by
 unfold kdo;rw[if_pos hg.1,if_pos h,if_pos hg.2]
theorem iA {X:Kn} (hg:cE op l a b=true/\okop op l=true) (h:(bits .or .u64 (kcut a l).m (kcut b l).m==0)=false) (e:kop op l (kcut a l) (kcut b l)=X):kcut X l=kdo op l a b:=by
 unfold kdo;rw[if_pos hg.1,if_neg (by rw[h];simp),e]
theorem agr (h:op=6\/op=7\/op=12) (c:(bits .and .u64 b.m (l-1)==0)=true):kop op l a b=ah2 op l a b:=by
 unfold kop;rcases h with rfl | rfl | rfl<;>simp[c]
theorem ags (h:op=6\/op=7\/op=12) (c:(bits .and .u64 b.m (l-1)==0)=false):kop op l a b=kall:=by
 unfold kop;rcases h with rfl | rfl | rfl<;>simp[c]
end
theorem Kn.eta (a:Kn):(⟨a.v,a.m⟩:Kn)=a:=rfl
def rd_Kn (k:Kn->List Dt->List Dt):List Dt->List Dt
 | .z z0::.z z1::r=>k ⟨z0,z1⟩ r
 | _=>[]
def Kn.ok (a:Kn):Prop:=inK .u64 a.v=true/\inK .u64 a.m=true
def kKn:List CK:=[.int .u64,.int .u64]
def v_Kn (t:List VK):List VK:=.int .u64::.int .u64::t
def d_Kn (a:Kn) (t:List Dt):List Dt:=.z a.v::.z a.m::t
theorem bF {l:List VK} {p:List Dt->Prop} (h:∀a:Kn,Kn.ok a->bC l fun r=>p (d_Kn a r)):bC (v_Kn l) p:=
 fun x0 gx0 x1 gx1=>h ⟨x0,x1⟩ ⟨gx0,gx1⟩
def q_Kn:=And.intro @v_Kn.eq_1 (And.intro @d_Kn.eq_1 (And.intro @rd_Kn.eq_1 (@kKn.eq_1)))
theorem Sc.eta (a:Sc):(⟨a.ul,a.uh,a.sl,a.sh,a.v,a.m⟩:Sc)=a:=rfl
def rd_Sc (k:Sc->List Dt->List Dt):List Dt->List Dt
 | .z z0::.z z1::.z z2::.z z3::.z z4::.z z5::r=>k ⟨z0,z1,z2,z3,z4,z5⟩ r
 | _=>[]
def Sc.ok (a:Sc):Prop:=inK .u64 a.ul=true/\inK .u64 a.uh=true/\inK .i64 a.sl=true/\inK .i64 a.sh=true/\inK .u64 a.v=true/\inK .u64 a.m=true
def kSc:List CK:=[.int .u64,.int .u64,.int .i64,.int .i64,.int .u64,.int .u64]
def v_Sc (t:List VK):List VK:=.int .u64::.int .u64::.int .i64::.int .i64::.int .u64::.int .u64::t
def d_Sc (a:Sc) (t:List Dt):List Dt:=.z a.ul::.z a.uh::.z a.sl::.z a.sh::.z a.v::.z a.m::t
theorem cM {l:List VK} {p:List Dt->Prop} (h:∀a:Sc,Sc.ok a->bC l fun r=>p (d_Sc a r)):bC (v_Sc l) p:=
 fun x0 gx0 x1 gx1 x2 gx2 x3 gx3 x4 gx4 x5 gx5=>h ⟨x0,x1,x2,x3,x4,x5⟩ ⟨gx0,gx1,gx2,gx3,gx4,gx5⟩
def q_Sc:=And.intro @v_Sc.eq_1 (And.intro @d_Sc.eq_1 (And.intro @rd_Sc.eq_1 (@kSc.eq_1)))
def gH:=And.intro Kn.eta (And.intro Pi.eta (And.intro Pu.eta (And.intro Rg.eta (And.intro Sc.eta (And.intro Sc.eta_r (And.intro Sc.eta_k (Sc.eta_2)))))))
theorem dX {p q q2:Prop} (k:q2) (h:p->q=q2:=by intro e;(try simp only[e,gH,-eq_self]);rfl):p->q:=fun e=>(h e).symm▸k
def akc:List (Nat×TI):=[(2,tiq2),
 (42,dR),
 (44,ew),
 (46,fR),
 (48,aaU)]
theorem dn:∀t i,(t,i)∈akc->TIok Tryz.prog t i:=aV fa0 fa0 (by kernel_rfl)
def c_kmay:Cd:=⟨173,[.agg kKn],[.one .bool],rd_Kn fun a _=>[.z (b2i (kmay a))],T0⟩
def acr:Tr:=
(.leaf (.consb (.eq (.bin .and .u64 (.var 0) (.var 1)) (.lit 0)) .nil))
theorem xH:c_kmay.Ok Tryz.prog:=
 oks acr (v_Kn []) dn ol0 Tryz.func173<|bF fun a ha hp U g=>by
 simp only[q_Kn,gS1,Nat.reduceAdd] at g
 simp only[acr,spQ,rdZ,rdB,rdL,c_kmay,q_Kn,simQ,ab,S1,Nat.reduceSub,Nat.reduceAdd,-eq_self,Kn.eta,Sc.eta_r,Sc.eta_k,Sc.eta_2,g]
 ·rfl
def c_kall:Cd:=⟨192,[],[.agg kKn],fun _=>d_Kn kall [],T0⟩
def acv:Tr:=
(.leaf (.cons (.lit 0) (.cons (.lit 18446744073709551615) .nil)))
theorem xI:c_kall.Ok Tryz.prog:=
 oks acv [] dn ol0 Tryz.func192<|fun hp U g=>by
 simp only[acv,spQ,rdZ,rdB,rdL,c_kall,q_Kn,simQ,ab,S1,Nat.reduceSub,Nat.reduceAdd,-eq_self,Sc.eta_r,Sc.eta_k,Sc.eta_2]
 ·rfl
def c_kone:Cd:=⟨141,[.one (.int .u64)],[.agg kKn],rdZ fun v _=>d_Kn (kone v) [],T0⟩
def acp:Tr:=
(.leaf (.cons (.var 0) (.cons (.lit 0) .nil)))
theorem adX:c_kone.Ok Tryz.prog:=
 oks acp [.int .u64] dn ol0 Tryz.func141<|fun v hv hp U g=>by
 simp only[q_Kn,gS1,Nat.reduceAdd] at g
 simp only[acp,spQ,rdZ,rdB,rdL,c_kone,q_Kn,simQ,ab,S1,Nat.reduceSub,Nat.reduceAdd,-eq_self,Sc.eta_r,Sc.eta_k,Sc.eta_2,g]
 ·rfl
def c_kmask:Cd:=⟨202,[.one (.int .u64),.one (.int .u64)],[.agg kKn],rdZ fun v=>rdZ fun m _=>d_Kn (jb v m) [],T0⟩
def wE:Tr:=
(.leaf (.cons (.bin .andNot .u64 (.var 0) (.var 1)) (.cons (.var 1) .nil)))
theorem nN:c_kmask.Ok Tryz.prog:=
 oks wE [.int .u64,.int .u64] dn ol0 Tryz.func202<|fun v hv m hm hp U g=>by
 simp only[q_Kn,gS1,Nat.reduceAdd] at g
 simp only[wE,spQ,rdZ,rdB,rdL,c_kmask,q_Kn,simQ,ab,S1,Nat.reduceSub,Nat.reduceAdd,-eq_self,Sc.eta_r,Sc.eta_k,Sc.eta_2,g]
 ·rfl
def c_kmeet:Cd:=⟨150,[.agg kKn,.agg kKn],[.agg kKn,.one .bool],rd_Kn fun a=>rd_Kn fun b _=>d_Kn (ja a b) [.z (b2i (dC a b))],T0⟩
def ajL:Tr:=(.call 1 (kKn) .nil 6
(.leaf (.vs 6 2 (.consb (.tt false) .nil))))
def wD:Tr:=
(.call 0 [.bool] (.vs 0 2 .nil) 4
(.br (.bw 4)
(.call 0 [.bool] (.vs 2 2 .nil) 5
(.br (.bw 5)
(.br (.eq (.bin .andNot .u64 (.bin .xor .u64 (.var 0) (.var 2)) (.bin .or .u64 (.var 1) (.var 3))) (.lit 0))
(.call 2 (kKn) (.cons (.bin .or .u64 (.var 0) (.var 2)) (.cons (.bin .and .u64 (.var 1) (.var 3)) .nil)) 6
(.leaf (.vs 6 2 (.consb (.tt true) .nil))))
 ajL)
 ajL))
(.call 1 (kKn) .nil 5
(.leaf (.vs 5 2 (.consb (.tt false) .nil))))))
theorem adY:c_kmeet.Ok Tryz.prog:=
 oks wD (v_Kn (v_Kn [])) dn (olc xH<|olc xI<|olc nN ol0) Tryz.func150<|bF fun a ha=>bF fun b hb hp U g=>by
 simp only[q_Kn,gS1,Nat.reduceAdd] at g
 simp only[wD,ajL,spQ,c_kmay,c_kall,c_kmask,rdZ,rdB,rdL,c_kmeet,q_Kn,simQ,ab,S1,Nat.reduceSub,Nat.reduceAdd,-eq_self,gH,g]
 refine dX ?_
 constructor<;>intro c0
 refine dX ?_
 constructor<;>intro c1
 constructor<;>intro c2
 refine dX ?_
 ·(unfold ja dC nG;simp_all [opI])
 refine dX ?_
 ·(unfold ja dC nG;simp_all [opI])
 refine dX ?_
 ·(unfold ja dC nG;simp_all [opI])
 refine dX ?_
 ·(unfold ja dC nG;simp_all [opI])
def c_bcut:Cd:=⟨64,[.one (.int .u64),.one (.int .i8)],[.one (.int .u64)],rdZ fun x=>rdZ fun l _=>[.z (zcut x l)],T0⟩
theorem akG (x:Int) (hx:inK .u64 x=true) (l:Int) (hl:inK .i8 l=true):(∀w,Calls Tryz.prog 64 #[.int .u64 x,.int .i8 l] w fun e w'=>e=.returned (.int .u64 (zcut x l))/\Ext w w')/\eu (.int .u64 (zcut x l))=true:=by
 have g:=bB hx
 have hz:=jt (er x l g.1 g.2)
 exact⟨fun W=>(aeu x l W g.1 g.2).mono (by rintro e w' ⟨rfl,rfl⟩;exact⟨rfl,Ext.refl _⟩),hz⟩
theorem anW:c_bcut.Ok Tryz.prog:=fun hF hP=>by
 refine SmOk.pure (s:=c_bcut.m _) hF rfl rfl fun xs vals w h=> ?_
 obtain⟨_,_,_,rfl,⟨x0,rfl,rfl,gx0⟩,h⟩:=h
 obtain⟨_,_,_,rfl,⟨x1,rfl,rfl,gx1⟩,h⟩:=h
 obtain⟨rfl,rfl⟩:=h
 have q:=akG x0 gx0 x1 gx1
 refine⟨_,.inr ⟨cW Tryz.func64 (by kernel_rfl) (by kernel_rfl) _ w,q.1 w⟩,?_,fun U v0 nid j he=> ?_⟩
 ·have q2:=q.2
  simp[eu,dW,dY] at q2
  simp[c_bcut,Cd.m,tp,rdZ,rdB,rdL,List.flatMap_cons,List.flatMap_nil,Sh.cks,List.append_nil,List.cons_append,List.nil_append,b2i_one,fu,q2]
 ·simp only[c_bcut,Cd.m,tp,rdZ,rdB,rdL,List.flatMap_cons,List.flatMap_nil,Sh.cks,List.append_nil,List.cons_append,List.nil_append,b2i_one,eqs,dI,dB,ce,jw,bG,Nat.add_zero,Nat.reduceAdd,and_true] at he
  simp[c_bcut,Cd.m,tp,rdZ,rdB,rdL,List.flatMap_cons,List.flatMap_nil,Sh.cks,List.append_nil,List.cons_append,List.nil_append,b2i_one,eK,bl,aG,V.den,C.den,denL,den0,bK,E.I,E.B,he]
def c_kcut:Cd:=⟨226,[.agg kKn,.one (.int .i8)],[.agg kKn],rd_Kn fun a=>rdZ fun l _=>d_Kn (kcut a l) [],T0⟩
def act:Tr:=
(.call 0 [.bool] (.vs 0 2 .nil) 3
(.br (.bw 3)
(.call 2 [.int .u64] (.cons (.var 0) (.cons (.var 2) .nil)) 4
(.call 2 [.int .u64] (.vs 1 2 .nil) 5
(.leaf (.vs 4 2 .nil))))
(.call 1 (kKn) .nil 4
(.leaf (.vs 4 2 .nil)))))
theorem ail:c_kcut.Ok Tryz.prog:=
 oks act (v_Kn [.int .i8]) dn (olc xH<|olc xI<|olc anW ol0) Tryz.func226<|bF fun a ha=>fun l hl hp U g=>by
 simp only[q_Kn,gS1,Nat.reduceAdd] at g
 simp only[act,spQ,c_kmay,c_kall,c_bcut,rdZ,rdB,rdL,c_kcut,q_Kn,simQ,ab,S1,Nat.reduceSub,Nat.reduceAdd,-eq_self,gH,g]
 refine dX ?_
 constructor<;>intro c0
 refine dX ?_
 refine dX ?_
 ·(unfold kcut;simp_all)
 refine dX ?_
 ·(unfold kcut;simp_all)
def c_vmay:Cd:=⟨108,[.agg kSc],[.one .bool],rd_Sc fun a _=>[.z (b2i (vmay a))],T0⟩
def abM:Tr:=
(.call 0 [.bool] (.vs 0 4 .nil) 6
(.br (.bw 6)
(.call 1 [.bool] (.vs 4 2 .nil) 7
(.leaf (.consb (.bw 7) .nil)))
 zlF))
theorem tj:c_vmay.Ok Tryz.prog:=
 oks abM (v_Sc []) dn (olc vd<|olc xH ol0) Tryz.func108<|cM fun a ha hp U g=>by
 simp only[q_Sc,q_Rg,q_Kn,gS1,Nat.reduceAdd] at g
 simp only[abM,spQ,c_may,c_kmay,rdZ,rdB,rdL,c_vmay,q_Sc,q_Rg,q_Kn,simQ,ab,S1,Nat.reduceSub,Nat.reduceAdd,-eq_self,gH,g]
 refine dX ?_
 constructor<;>intro c0
 refine dX ?_
 ·(unfold vmay;simp_all)
 ·(unfold vmay;simp_all)
def c_vall:Cd:=⟨148,[],[.agg kSc],fun _=>d_Sc vall [],T0⟩
def abS:Tr:=
(.call 0 (kRg) .nil 0
(.call 1 (kKn) .nil 4
(.leaf (.vs 0 6 .nil))))
theorem xE:c_vall.Ok Tryz.prog:=
 oks abS [] dn (olc nO<|olc xI ol0) Tryz.func148<|fun hp U g=>by
 simp only[abS,spQ,c_all,c_kall,rdZ,rdB,rdL,c_vall,q_Sc,q_Rg,q_Kn,simQ,ab,S1,Nat.reduceSub,Nat.reduceAdd,-eq_self,gH]
 refine dX ?_
 refine dX ?_
 ·rfl
def c_vone:Cd:=⟨76,[.one (.int .u64)],[.agg kSc],rdZ fun v _=>d_Sc (vone v) [],T0⟩
def abK:Tr:=
(.call 0 (kRg) (.cons (.var 0) .nil) 1
(.call 1 (kKn) (.cons (.var 0) .nil) 5
(.leaf (.vs 1 6 .nil))))
theorem nI:c_vone.Ok Tryz.prog:=
 oks abK [.int .u64] dn (olc apk<|olc adX ol0) Tryz.func76<|fun v hv hp U g=>by
 simp only[q_Sc,q_Rg,q_Kn,gS1,Nat.reduceAdd] at g
 simp only[abK,spQ,c_one,c_kone,rdZ,rdB,rdL,c_vone,q_Sc,q_Rg,q_Kn,simQ,ab,S1,Nat.reduceSub,Nat.reduceAdd,-eq_self,gH,g]
 refine dX ?_
 refine dX ?_
 ·rfl
def c_vsingle:Cd:=⟨235,[.agg kSc],[.one (.int .u64),.one .bool],rd_Sc fun a _=>[.z (cR a),.z (b2i (pI a))],T0⟩
def oM:Tr:=
(.call 0 [.bool] (.vs 0 6 .nil) 6
(.br (.bw 6)
(.call 1 [.int .u64,.bool] (.vs 0 4 .nil) 7
(.leaf (.cons (.var 7) (.consb (.bw 8) .nil))))
(.leaf (.cons (.lit 0) (.consb (.tt false) .nil)))))
theorem adL:c_vsingle.Ok Tryz.prog:=
 oks oM (v_Sc []) dn (olc tj<|olc qN ol0) Tryz.func235<|cM fun a ha hp U g=>by
 simp only[q_Sc,q_Rg,gS1,Nat.reduceAdd] at g
 simp only[oM,spQ,c_vmay,c_single,rdZ,rdB,rdL,c_vsingle,q_Sc,q_Rg,simQ,ab,S1,Nat.reduceSub,Nat.reduceAdd,-eq_self,gH,g]
 refine dX ?_
 constructor<;>intro c0
 refine dX ?_
 ·(unfold cR pI;simp_all)
 ·(unfold cR pI;simp_all)
theorem Kn.wf_of {a:Kn} (h:a.ok):a.wf:=⟨bB h.1,bB h.2⟩
structure Sc.wf (a:Sc):Prop where
 r:a.r.wf
 k:a.k.wf
theorem Sc.wf_of {a:Sc} (h:a.ok):a.wf:=by
 obtain⟨h1,h2,h3,h4,h5,h6⟩:=h
 exact⟨⟨bB h1,bB h2,cX h3,cX h4⟩,⟨bB h5,bB h6⟩⟩
structure Ty where
 k:Int
 ul:Int
 uh:Int
 sl:Int
 sh:Int
 v:Int
 m:Int
 lo:Int
 hi:Int
def Ty.s (t:Ty):Sc:=⟨t.ul,t.uh,t.sl,t.sh,t.v,t.m⟩
def ty (k:Int) (s:Sc) (lo hi:Int):Ty:=⟨k,s.ul,s.uh,s.sl,s.sh,s.v,s.m,lo,hi⟩
theorem Ty.eta_s (t:Ty):(⟨t.ul,t.uh,t.sl,t.sh,t.v,t.m⟩:Sc)=t.s:=rfl
structure Sta where
 r0:Ty
 r1:Ty
 r2:Ty
 r3:Ty
 r4:Ty
 r5:Ty
 r6:Ty
 r7:Ty
 r8:Ty
 r9:Ty
 r10:Ty
 s0:Ty
 s1:Ty
 s2:Ty
 s3:Ty
 s4:Ty
 s5:Ty
 s6:Ty
 s7:Ty
def tnil:Ty:=⟨0,0,0,0,0,0,0,0,0⟩
def ea:Ty:=ty 1 vall 0 0
def cv (t:Ty):Bool:=(t.ul==0)&&((t.uh==0)&&((t.sl==0)&&((t.sh==0)&&((t.v==0)&&(t.m==0)))))
def tok (t:Ty):Bool:=
 if t.k=0 then cv t&&((t.lo==0)&&(t.hi==0))
 else if t.k=1 then vmay t.s&&((t.lo==0)&&(t.hi==0))
 else if t.k=2\/t.k=3 then cv t&&(decide (t.lo<=t.hi)&&(decide (-1048576<=t.lo)&&decide (t.hi<=1048576)))
 else false
def tset (t:Ty):Bool:=tok t &&!(t.k==0)
def smay (s:Sta):Bool:=
 tok s.r0&&(tok s.r1&&(tok s.r2&&(tok s.r3&&(tok s.r4&&(tok s.r5&&(tok s.r6&&(tok s.r7&&(tok s.r8&&(tok s.r9&&(tok s.r10&&
 (tset s.s0&&(tset s.s1&&(tset s.s2&&(tset s.s3&&(tset s.s4&&(tset s.s5&&(tset s.s6&&tset s.s7)))))))))))))))))
def aoX (t:Ty):Int:=if t.k=2 then 2097152 else 3145728
def toff (t:Ty) (v:Int):Int:=IntKind.i64.wrap (IntKind.u64.wrap (v-aoX t))
def aoW (t:Ty) (v:Int):Bool:=
 tok t&&(if t.k=0 then true else if t.k=1 then vhas t.s v else(decide (t.lo<=toff t v)&&decide (toff t v<=t.hi)))
def ahw:Sta:=⟨tnil,⟨2,0,0,0,0,0,0,0,0⟩,tnil,tnil,tnil,tnil,tnil,tnil,tnil,tnil,⟨3,0,0,0,0,0,0,64,64⟩,
 ty 1 (vone 0) 0 0,ty 1 (vone 0) 0 0,ty 1 (vone 0) 0 0,ty 1 (vone 0) 0 0,ty 1 (vone 0) 0 0,ty 1 (vone 0) 0 0,ty 1 (vone 0) 0 0,ty 1 (vone 0) 0 0⟩
def tlo (w:Bool) (a b:Ty):Int:=if w=true/\min a.lo b.lo<a.lo then -1048576 else min a.lo b.lo
def thi (w:Bool) (a b:Ty):Int:=if w=true/\a.hi<max a.hi b.hi then 1048576 else max a.hi b.hi
def amu (w t:Bool) (a b:Ty):Ty:=
 if a.k=0\/b.k=0 then tnil
 else if a.k≠b.k then ea
 else if a.k=1 then ty 1 (if w=true then vwid a.s b.s else aoR a.s b.s) 0 0
 else⟨a.k,0,0,0,0,0,0,tlo t a b,thi t a b⟩
def gA (w:Bool) (a b:Ty):Ty:=amu w w a b
def smap (w:Bool) (a b:Sta):Sta:=⟨gA w a.r0 b.r0,gA w a.r1 b.r1,gA w a.r2 b.r2,gA w a.r3 b.r3,gA w a.r4 b.r4,gA w a.r5 b.r5,gA w a.r6 b.r6,gA w a.r7 b.r7,gA w a.r8 b.r8,gA w a.r9 b.r9,gA w a.r10 b.r10,
 gA w a.s0 b.s0,gA w a.s1 b.s1,gA w a.s2 b.s2,gA w a.s3 b.s3,gA w a.s4 b.s4,gA w a.s5 b.s5,gA w a.s6 b.s6,gA w a.s7 b.s7⟩
def snil:Sta:=⟨tnil,tnil,tnil,tnil,tnil,tnil,tnil,tnil,tnil,tnil,tnil,tnil,tnil,tnil,tnil,tnil,tnil,tnil,tnil⟩
def aoY (w:Bool) (a b:Sta):Sta:=if smay a=true/\smay b=true then smap w a b else snil
theorem akB {s:Sta} (h:smay s=true):tok s.r0=true:=by
 unfold smay at h
 simp only[thm0] at h
 exact h.1
theorem akA {s:Sta} (h:smay s=true):tok s.r1=true:=by
 unfold smay at h
 simp only[thm0] at h
 exact h.2.1
theorem akz {s:Sta} (h:smay s=true):tok s.r2=true:=by
 unfold smay at h
 simp only[thm0] at h
 exact h.2.2.1
theorem aky {s:Sta} (h:smay s=true):tok s.r3=true:=by
 unfold smay at h
 simp only[thm0] at h
 exact h.2.2.2.1
theorem akx {s:Sta} (h:smay s=true):tok s.r4=true:=by
 unfold smay at h
 simp only[thm0] at h
 exact h.2.2.2.2.1
theorem akw {s:Sta} (h:smay s=true):tok s.r5=true:=by
 unfold smay at h
 simp only[thm0] at h
 exact h.2.2.2.2.2.1
theorem akv {s:Sta} (h:smay s=true):tok s.r6=true:=by
 unfold smay at h
 simp only[thm0] at h
 exact h.2.2.2.2.2.2.1
theorem aku {s:Sta} (h:smay s=true):tok s.r7=true:=by
 unfold smay at h
 simp only[thm0] at h
 exact h.2.2.2.2.2.2.2.1
theorem akt {s:Sta} (h:smay s=true):tok s.r8=true:=by
 unfold smay at h
 simp only[thm0] at h
 exact h.2.2.2.2.2.2.2.2.1
theorem aks {s:Sta} (h:smay s=true):tok s.r9=true:=by
 unfold smay at h
 simp only[thm0] at h
 exact h.2.2.2.2.2.2.2.2.2.1
theorem afx {s:Sta} (h:smay s=true):tok s.r10=true:=by
 unfold smay at h
 simp only[thm0] at h
 exact h.2.2.2.2.2.2.2.2.2.2.1
theorem adj {x y:Int} (h1:0<=x) (h2:x<=18446744073709551615) (h3:0<=y) (h4:y<=18446744073709551615):(bits .or .u64 x y==0)=((x==0)&&(y==0)):=by
 obtain⟨a,rfl⟩:=jv h1
 obtain⟨b,rfl⟩:=jv h3
 rw[u64_or_nat a b (by omega) (by omega),ao]
 simp only[aZ,thm0]
 constructor
 ·intro h
  have h5:a ||| b=0:=by exact_mod_cast h
  have h6:=Nat.or_eq_zero_iff.1 h5
  omega
 ·rintro ⟨h,h'⟩
  obtain rfl:a=0:=by omega
  obtain rfl:b=0:=by omega
  rfl
theorem aac (x y:Int):bits .xor .u64 x y=bits .xor .u64 y x:=by
 show IntKind.u64.wrap ((BitVec.ofInt 64 x ^^^ BitVec.ofInt 64 y).toNat:Int)=IntKind.u64.wrap ((BitVec.ofInt 64 y ^^^ BitVec.ofInt 64 x).toNat:Int)
 rw[BitVec.xor_comm]
theorem ak0 (a b:Kn):radd a b=kadd a b:=by unfold radd kadd;rw[aac]
def ol (lo hi:Int):Nat->Nat->Nat
 | 0,n=>n
 | k+1,n=>if lo / 2 ^ n=hi / 2 ^ n then n else ol lo hi k (n+1)
def kcn (lo hi:Int):Nat:=ol lo hi 64 0
def gG (lo hi:Int):Kn:=if hi<lo then kall else jb lo (2 ^ kcn lo hi-1)
theorem ada {n:Nat} (h:n<=64):(1:Int)<=2 ^ n/\(2:Int) ^ n<=2 ^ 64:=by
 have h1:(1:Nat)<=2 ^ n:=Nat.one_le_two_pow
 have h2:(2:Nat) ^ n<=2 ^ 64:=Nat.pow_le_pow_right (by omega) h
 exact⟨by exact_mod_cast h1,by exact_mod_cast h2⟩
theorem yn (x n:Nat) (hn:n<=64) (hx:x<2 ^ 64):x &&& (18446744073709551615-(2 ^ n-1))=0↔x / 2 ^ n=0:=by
 have hp:(2:Nat) ^ n<=2 ^ 64:=Nat.pow_le_pow_right (by omega) hn
 have hq:1<=(2:Nat) ^ n:=Nat.one_le_two_pow
 have e:18446744073709551615-(2 ^ n-1)=2 ^ 64-((2 ^ n-1)+1):=by omega
 have hlt:2 ^ n-1<2 ^ 64:=by omega
 constructor
 ·intro h
  rw[<-Nat.shiftRight_eq_div_pow]
  apply Nat.eq_of_testBit_eq
  intro i
  rw[Nat.testBit_shiftRight,Nat.zero_testBit]
  have h1:=congrArg (fun y=>Nat.testBit y (n+i)) h
  simp only[Nat.zero_testBit,Nat.testBit_and,e,Nat.testBit_two_pow_sub_succ hlt,Nat.testBit_two_pow_sub_one] at h1
  by_cases h64:n+i<64
  ·by_cases hb:Nat.testBit x (n+i)=true
   ·exfalso;simp[h64,hb] at h1;omega
   ·simpa using hb
  ·exact Nat.testBit_lt_two_pow (mL hx (Nat.pow_le_pow_right (by omega) (by omega)))
 ·intro h
  apply Nat.eq_of_testBit_eq
  intro i
  rw[Nat.zero_testBit,Nat.testBit_and,e,Nat.testBit_two_pow_sub_succ hlt,Nat.testBit_two_pow_sub_one]
  by_cases hi:i<n
  ·simp[hi]
  ·have h2:Nat.testBit x i=false:=by
    have:=congrArg (fun y=>Nat.testBit y (i-n)) (Nat.shiftRight_eq_div_pow x n▸h)
    simp only[Nat.testBit_shiftRight,Nat.zero_testBit] at this
    rwa [show n+(i-n)=i from by omega] at this
   simp[h2]
theorem gW {x y:Nat}:x ^^^ y=0↔x=y:=by
 constructor
 ·intro h
  apply Nat.eq_of_testBit_eq
  intro i
  have:=congrArg (fun z=>Nat.testBit z i) h
  simp only[Nat.testBit_xor,Nat.zero_testBit] at this
  cases hx:Nat.testBit x i<;>cases hy:Nat.testBit y i<;>simp_all
 ·rintro rfl
  simp
theorem agW (lo hi:Int) (n:Nat) (hn:n<=64) (h1:0<=lo) (h2:lo<=18446744073709551615) (h3:0<=hi) (h4:hi<=18446744073709551615):
  bits .andNot .u64 (bits .xor .u64 lo hi) (2 ^ n-1)=0↔lo / 2 ^ n=hi / 2 ^ n:=by
 obtain⟨a,rfl⟩:=jv h1
 obtain⟨b,rfl⟩:=jv h3
 have hp:(2:Nat) ^ n<=2 ^ 64:=Nat.pow_le_pow_right (by omega) hn
 have hq:1<=(2:Nat) ^ n:=Nat.one_le_two_pow
 have ha:a<2 ^ 64:=by omega
 have hb:b<2 ^ 64:=by omega
 have hxl:a ^^^ b<2 ^ 64:=Nat.xor_lt_two_pow ha hb
 have hm:((2:Int) ^ n-1)=((2 ^ n-1:Nat):Int):=by rw[Int.ofNat_sub hq];simp
 rw[u64_xor_nat a b (by omega) (by omega),hm,u64_andNot_nat (a ^^^ b) (2 ^ n-1) (by omega) (by omega)]
 rw[show((2:Int) ^ n)=((2 ^ n:Nat):Int) from by simp]
 constructor
 ·intro h
  have h5:=(yn (a ^^^ b) n hn hxl).1 (by exact_mod_cast h)
  rw[<-Nat.shiftRight_eq_div_pow,Nat.shiftRight_xor_distrib,gW,Nat.shiftRight_eq_div_pow,Nat.shiftRight_eq_div_pow] at h5
  exact_mod_cast h5
 ·intro h
  have h5:a / 2 ^ n=b / 2 ^ n:=by exact_mod_cast h
  have h6:=(yn (a ^^^ b) n hn hxl).2 (by rw[<-Nat.shiftRight_eq_div_pow,Nat.shiftRight_xor_distrib,gW,Nat.shiftRight_eq_div_pow,Nat.shiftRight_eq_div_pow];exact h5)
  exact_mod_cast h6
theorem adw (n:Nat) (hn:n<64):bits .or .u64 (IntKind.u64.wrap ((2 ^ n-1)*2)) 1=2 ^ (n+1)-1:=by
 have hp:(2:Nat) ^ (n+1)<=2 ^ 64:=Nat.pow_le_pow_right (by omega) hn
 have hq:1<=(2:Nat) ^ n:=Nat.one_le_two_pow
 have h2:(2:Nat) ^ (n+1)=2 ^ n*2:=Nat.pow_succ 2 n
 have hm:IntKind.u64.wrap (((2:Int) ^ n-1)*2)=(((2 ^ n-1)*2:Nat):Int):=by
  rw[show((2:Int) ^ n)=((2 ^ n:Nat):Int) from by simp,bc]
  generalize (2:Nat) ^ n=x at *
  omega
 rw[hm,show(1:Int)=((1:Nat):Int) from rfl,u64_or_nat _ _ (by omega) (by omega)]
 have:(2 ^ n-1)*2 ||| 1=2 ^ (n+1)-1:=by
  rw[Nat.mul_comm,show 2*(2 ^ n-1)=(2 ^ n-1) <<< 1 from by rw[Nat.shiftLeft_eq];omega]
  apply Nat.eq_of_testBit_eq
  intro i
  rw[Nat.testBit_or,Nat.testBit_shiftLeft,Nat.testBit_two_pow_sub_one,Nat.testBit_two_pow_sub_one]
  cases i with
  | zero=>simp
  | succ i=>
    have e:Nat.testBit 1 (i+1)=false:=by simp[Nat.testBit_succ]
    rw[e];simp
 rw[this]
 generalize hX:(2:Nat) ^ (n+1)=X at *
 rw[show((2:Int) ^ (n+1))=((2 ^ (n+1):Nat):Int) from by simp,hX]
 omega
structure Rw (P:Program) (t:TypeId) (ks:List CE):Prop where
 cells:P.cellsOf t=ks.length
 opn:∀{H:Type} {enc:TypeId×Value->H} {W:World} {sp:Nat->Bool} {hd:Bool} {fuel:Nat} {cs:List Value} {d:DataW H×List MemPlace},
  DataW.trod enc P W 0 sp hd fuel t cs=some d->∃r,cs=rowV ks r/\aF ks r=true
theorem kD {k:IntKind} {x:Int} (h:(Lit.int k x).wf=true):inK k x=true:=by
 simp only[Lit.wf,thm0,ba] at h
 rw[bL];exact h
theorem Rw.int {P:Program} {t:TypeId} (k:IntKind) (ht:P.underlying t=some (.int k)) (hc:P.cellsOf t=1):Rw P t [some k] where
 cells:=hc
 opn:=fun h=>by
  obtain⟨x,h1,_,h2⟩:=DataW.trod_int ht h
  exact⟨[x],h1,by simp[aF,inCE,kD h2]⟩
theorem Rw.bool {P:Program} {t:TypeId} (ht:P.underlying t=some .bool) (hc:P.cellsOf t=1):Rw P t [none] where
 cells:=hc
 opn:=fun h=>by
  obtain⟨x,h1,_⟩:=DataW.trod_bool ht h
  exact⟨[b2i x],by cases x<;>exact h1,by cases x<;>rfl⟩
theorem qq:∀{ks ks':List CE} {r r':List Int},aF ks r=true->rowV (ks++ks') (r++r')=rowV ks r++rowV ks' r'
 | [],ks',[],r',_=>rfl
 | k::ks,ks',x::r,r',h=>by
   simp only[aF,thm0] at h
   simp only[List.cons_append,rowV,qq h.2]
theorem nl:∀{ks ks':List CE} {r r':List Int},aF ks r=true->aF ks' r'=true->aF (ks++ks') (r++r')=true
 | [],ks',[],r',_,h=>h
 | k::ks,ks',x::r,r',h,h'=>by
   simp only[aF,thm0] at h
   simp only[List.cons_append,aF,h.1,nl h.2 h',Bool.and_self]
structure RwSeq (P:Program) (off:Nat) (fs:List Field) (ks:List CE):Prop where
 opn:∀{H:Type} {enc:TypeId×Value->H} {W:World} {sp:Nat->Bool} {hd:Bool} {n:Nat} {cs:List Value},
  (∀f∈fs,∃y,DataW.trod enc P W 0 sp hd n f.type ((cs.drop f.offset).take (P.cellsOf f.type))=some y)->cs.length=off+ks.length->∃r,cs.drop off=rowV ks r/\aF ks r=true
theorem RwSeq.nil (P:Program) (off:Nat):RwSeq P off [] []:=⟨fun _ hl=>⟨[],List.drop_eq_nil_of_le (by simp at hl;omega),rfl⟩⟩
theorem RwSeq.cons {P:Program} {off:Nat} {f:Field} {fs:List Field} {ks ks':List CE} (r:Rw P f.type ks) (ho:f.offset=off) (s:RwSeq P (off+ks.length) fs ks'):RwSeq P off (f::fs) (ks++ks'):=⟨fun {H} {enc} {W} {sp} {hd} {n} {cs} h hl=>by
  obtain⟨y,hy⟩:=h f (by simp)
  rw[r.cells,ho] at hy
  obtain⟨a,ha,ha'⟩:=r.opn hy
  obtain⟨b,hb,hb'⟩:=s.opn (fun g hg=>h g (by simp[hg])) (by simp at hl;omega)
  refine⟨a++b,?_,nl ha' hb'⟩
  rw[qq ha',<-ha,<-hb,<-List.drop_drop,List.take_append_drop]⟩
theorem Rw.struct {P:Program} {t:TypeId} {fs:Array Field} {ks:List CE} (s:RwSeq P 0 fs.toList ks) (ht:P.underlying t=some (.struct fs)) (hc:P.cellsOf t=ks.length):Rw P t ks where
 cells:=hc
 opn:=fun {H} {enc} {W} {sp} {hd} {fuel} {cs} {d} h=>by
  obtain⟨xs,n,_,_,hl,hlen,hf⟩:=DataW.trod_struct ht h
  have:=s.opn (enc:=enc) (W:=W) (sp:=sp) (hd:=hd) (n:=n) (cs:=cs) (fun f hm=>by
   obtain⟨i,hi,he⟩:=List.getElem_of_mem hm
   have hi':i<fs.size:=by simpa using hi
   have h1:=hf i f (by rw[Array.getElem?_eq_getElem hi'];simpa using congrArg some he)
   rw[thm6 (by omega)] at h1
   exact⟨_,h1⟩) (by omega)
  simpa using this
theorem agq {α:Type} {n:Nat} {Q:Nat->α->Prop} (h:∀i,i<n->∃x,Q i x):∃l:List α,l.length=n/\∀i x,l[i]? =some x->Q i x:=by
 induction n with
 | zero=>exact⟨[],rfl,by simp⟩
 | succ n ih=>
   obtain⟨l,hl,hq⟩:=ih (fun i hi=>h i (by omega))
   obtain⟨x,hx⟩:=h n (by omega)
   refine⟨l++[x],by simp[hl],fun i y hy=> ?_⟩
   rw[List.getElem?_append] at hy
   split at hy
   ·exact hq i y hy
   ·have:i=n:=by
     rcases bq (i-l.length) 1 with h1 | h1
     ·omega
     ·rw[bX (by simpa using h1)] at hy;cases hy
    subst this
    have:i-l.length=0:=by omega
    rw[this] at hy
    simp at hy
    subst hy
    exact hx
theorem ag2 {W:World} {a:Addr} {n:Nat} {cs:List Value} (h:W.cells? 0 a n=some cs) (hn:0<n):a.block<W.heap.size/\a.spot=none:=by
 obtain⟨_,hlen,hat⟩:=World.cells?_some h
 have h0:=hat 0 hn
 rw[thm6 (by omega)] at h0
 obtain⟨b,off,spot⟩:=a
 have hs:spot=none:=by
  cases spot with
  | none=>rfl
  | some s=>
    exfalso
    simp[Addr.add,World.cell?] at h0
    split at h0<;>simp at h0
 subst hs
 refine⟨?_,rfl⟩
 rcases bq b W.heap.size with h1 | h1
 ·exact h1
 ·simp[Addr.add,World.cell?,Array.getElem?_eq_none h1] at h0
theorem dF {U U':Env} {m:Nat} (h:Ag m U U'):∀(vks:List VK) (n:Nat),n+vks.length<=m->varsD U' n vks=varsD U n vks
 | [],_,_=>rfl
 | k::vks,n,hn=>by
   simp only[List.length_cons] at hn
   have h1:=h n (by omega)
   simp only[varsD,dF h vks (n+1) (by omega)]
   congr 1
   cases k<;>simp only[varD,h1.1,h1.2.1,h1.2.2]
def zs (v w:Int):Int:=wrap64 (tR (zcut v w) w)
def tb (x:Int) (i:Nat):Bool:=(BitVec.ofInt 64 x).getLsbD i
theorem yj {x:Int} (h0:0<=x) (h1:x<=18446744073709551615):((BitVec.ofInt 64 x).toNat:Int)=x:=by
 rw[BitVec.toNat_ofInt];omega
theorem aoq {x y:Int} (h0:0<=x) (h1:x<=18446744073709551615) (h2:0<=y) (h3:y<=18446744073709551615) (h:BitVec.ofInt 64 x=BitVec.ofInt 64 y):x=y:=by
 rw[<-yj h0 h1,<-yj h2 h3,h]
theorem ahq {x y:Int} (hx:0<=x/\x<=18446744073709551615) (hy:0<=y/\y<=18446744073709551615) (h:∀i,i<64->tb x i=tb y i):x=y:=
 aoq hx.1 hx.2 hy.1 hy.2 (BitVec.eq_of_getLsbD_eq fun i hi=>h i hi)
theorem rb (x:Int):BitVec.ofInt 64 (IntKind.u64.wrap x)=BitVec.ofInt 64 x:=by
 apply BitVec.eq_of_toNat_eq
 rw[BitVec.toNat_ofInt,BitVec.toNat_ofInt,bc]
 omega
theorem yk (x:BitVec 64):BitVec.ofInt 64 (x.toNat:Int)=x:=by simp
theorem aor (x y:Int):BitVec.ofInt 64 (bits .and .u64 x y)=BitVec.ofInt 64 x &&& BitVec.ofInt 64 y:=(rb _).trans (yk _)
theorem ap3 (x y:Int):BitVec.ofInt 64 (bits .or .u64 x y)=BitVec.ofInt 64 x ||| BitVec.ofInt 64 y:=(rb _).trans (yk _)
theorem aop (x y:Int):BitVec.ofInt 64 (bits .xor .u64 x y)=BitVec.ofInt 64 x ^^^ BitVec.ofInt 64 y:=(rb _).trans (yk _)
theorem aeE (x y:Int):BitVec.ofInt 64 (bits .andNot .u64 x y)=BitVec.ofInt 64 x &&& ~~~ BitVec.ofInt 64 y:=(rb _).trans (yk _)
theorem aa0 (x y:Int) (i:Nat):tb (bits .and .u64 x y) i=(tb x i&&tb y i):=by unfold tb;rw[aor,BitVec.getLsbD_and]
theorem afs (x y:Int) (i:Nat):tb (bits .or .u64 x y) i=(tb x i||tb y i):=by unfold tb;rw[ap3,BitVec.getLsbD_or]
theorem ahp (x y:Int) (i:Nat):tb (bits .xor .u64 x y) i=(tb x i ^^ tb y i):=by unfold tb;rw[aop,BitVec.getLsbD_xor]
theorem mM (x y:Int) {i:Nat} (hi:i<64):tb (bits .andNot .u64 x y) i=(tb x i &&!tb y i):=by unfold tb;rw[aeE,BitVec.getLsbD_and,BitVec.getLsbD_not];simp[hi]
theorem pN (i:Nat):tb 0 i=false:=by unfold tb;simp
theorem amw {x y:Int} (hx:0<=x/\x<=18446744073709551615) (hy:0<=y/\y<=18446744073709551615):(x==y)=true↔∀i,i<64->tb x i=tb y i:=by
 rw[aZ]
 exact⟨fun h i _=>by rw[h],ahq hx hy⟩
theorem aaa:(0:Int)<=0/\(0:Int)<=18446744073709551615:=by omega
theorem qI (a:Kn):kmay a=true↔∀i,i<64->(tb a.v i&&tb a.m i)=false:=by
 unfold kmay
 rw[amw (aiL _ _) aaa]
 simp only[aa0,pN]
theorem adD (a b:Kn):(nG a b==0)=true↔∀i,i<64->((tb a.v i ^^ tb b.v i) &&!(tb a.m i||tb b.m i))=false:=by
 unfold nG
 rw[amw (ot _ _) aaa]
 constructor
 ·intro h i hi
  have:=h i hi
  rwa [mM _ _ hi,ahp,afs,pN] at this
 ·intro h i hi
  rw[mM _ _ hi,ahp,afs,pN];exact h i hi
theorem yY (a b:Kn):dC a b=true↔∀i,i<64->(tb a.v i&&tb a.m i)=false/\(tb b.v i&&tb b.m i)=false/\((tb a.v i ^^ tb b.v i) &&!(tb a.m i||tb b.m i))=false:=by
 unfold dC
 rw[thm0,thm0,qI,qI,adD]
 exact⟨fun h i hi=>⟨h.1 i hi,h.2.1 i hi,h.2.2 i hi⟩,fun h=>⟨fun i hi=>(h i hi).1,fun i hi=>(h i hi).2.1,fun i hi=>(h i hi).2.2⟩⟩
theorem gF (a b:Kn):ja a b=yP a b:=by
 unfold ja yP
 split
 ·rename_i h
  rw[yY] at h
  have:bits .andNot .u64 (bits .or .u64 a.v b.v) (bits .and .u64 a.m b.m)=bits .or .u64 a.v b.v:=by
   apply ahq (ot _ _) (amU _ _)
   intro i hi
   have:=h i hi
   rw[mM _ _ hi,afs,aa0]
   revert this
   cases tb a.v i<;>cases tb a.m i<;>cases tb b.v i<;>cases tb b.m i<;>simp
  unfold jb
  rw[this]
 ·rfl
theorem agt (v:Int):kmay (kone v)=true:=by
 rw[qI]
 intro i hi
 show(_&&tb 0 i)=false
 rw[pN,aK]
theorem adC {a b:Nat} (h:∀j,a.testBit j=true->b.testBit j=true):a<=b:=by
 have:a &&& b=a:=by
  apply Nat.eq_of_testBit_eq
  intro j
  rw[Nat.testBit_and]
  cases ha:a.testBit j
  ·rfl
  ·rw[h j ha];rfl
 rw[<-this]
 exact Nat.and_le_right
def Sub64 (x y:BitVec 64):Prop:=∀i,x.getLsbD i=true->y.getLsbD i=true
theorem Sub64.mod {x y:BitVec 64} (h:Sub64 x y) (i:Nat):x.toNat % 2 ^ i<=y.toNat % 2 ^ i:=by
 apply adC
 intro j hj
 rw[Nat.testBit_mod_two_pow] at hj ⊢
 simp only[thm0] at hj ⊢
 exact⟨hj.1,h j hj.2⟩
def Among (V M p:BitVec 64):Prop:=∀i,i<64->(V.getLsbD i&&M.getLsbD i)=false/\(p.getLsbD i &&!M.getLsbD i)=V.getLsbD i
theorem Among.low {V M p:BitVec 64} (h:Among V M p):Sub64 V p:=by
 intro i hi
 have hl:=BitVec.lt_of_getLsbD hi
 have:=h i hl
 revert this
 rw[hi]
 cases M.getLsbD i<;>cases p.getLsbD i<;>simp
theorem Among.high {V M p:BitVec 64} (h:Among V M p):Sub64 p (V ||| M):=by
 intro i hi
 have hl:=BitVec.lt_of_getLsbD hi
 have:=h i hl
 revert this
 rw[BitVec.getLsbD_or,hi]
 cases M.getLsbD i<;>cases V.getLsbD i<;>simp
theorem Among.at {V M p:BitVec 64} (h:Among V M p) {i:Nat} (hi:i<64) (hm:M.getLsbD i=false):p.getLsbD i=V.getLsbD i:=by
 have:=(h i hi).2
 rw[hm] at this
 simpa using this
theorem Among.or {V M p:BitVec 64} (h:Among V M p):V+M=V ||| M:=by
 apply BitVec.add_eq_or_of_and_eq_zero
 apply BitVec.eq_of_getLsbD_eq
 intro i hi
 rw[BitVec.getLsbD_and,(h i hi).1];simp
theorem ahg {k:Kn} (hk:k.wf):(vlo k).wf:=⟨hk.1,amU _ _,by simp[vlo,ball],by simp[vlo,ball]⟩
theorem vH {a b:Rg} (ha:a.wf) (hb:b.wf):(dV a b).wf:=by
 unfold dV
 split
 ·exact aah (afe ha hb)
 ·exact tW
theorem aff (a b:Kn):(ja a b).wf:=by
 unfold ja
 split
 ·exact afg (aiL _ _)
 ·exact tV
theorem aj3 {r:Rg} {k:Kn} (hr:r.wf) (hk:k.wf):(sc r k).wf:=⟨hr,hk⟩
theorem ahf {a:Sc} (ha:a.wf):(vst a).wf:=aj3 (vH ha.r (ahg ha.k)) (aff _ _)
theorem aj2:vall.wf:=aj3 tW tV
theorem aj1 {a:Sc} (ha:a.wf):(vnar a).wf:=by
 unfold vnar
 split
 ·exact ahf (ahf ha)
 ·exact aj2
theorem aj4 {a:Rg} (ha:a.wf):(blow a).wf:=by
 unfold blow
 split
 ·exact ha
 ·exact aah (aoM (by omega) (by omega) (by omega) (by omega))
theorem gX {a:Sc} (ha:a.wf):(vlow a).wf:=aj1 (aj3 (aj4 ha.r) (mG ha.k 32))
theorem ag0 {lo hi:Int} {n:Nat} (hn:n<=64) (h:kcn lo hi=ol lo hi (64-n) n) (he:lo / 2 ^ n=hi / 2 ^ n):kcn lo hi=n:=by
 rw[h]
 cases h:64-n with
 | zero=>rfl
 | succ k=>rw[ol,if_pos he]
theorem zn {lo hi:Int} {n:Nat} (hn:n<64) (h:kcn lo hi=ol lo hi (64-n) n) (he:¬lo / 2 ^ n=hi / 2 ^ n):kcn lo hi=ol lo hi (64-(n+1)) (n+1):=by
 rw[h,show 64-n=(64-(n+1))+1 from by omega,ol,if_neg he]
section
variable {op l:Int} {a b:Kn}
theorem alz (hg:cE op l a b=true/\okop op l=true) (ha:a.wf) (hb:b.wf) (h:((kcut a l).m==0)=true) (h':((kcut b l).m==0)=true):kone (if okop op l=true then zdo op l (kcut a l).v (kcut b l).v else 0)=kdo op l a b:=
 ah4 hg (by have w1:=(mG ha l).2;have w2:=(mG hb l).2;rw[adj w1.1 w1.2 w2.1 w2.2,h,h'];rfl)
theorem bZ {X:Kn} (hg:cE op l a b=true/\okop op l=true) (ha:a.wf) (hb:b.wf) (h:((kcut a l).m==0)=false\/((kcut b l).m==0)=false) (e:kop op l (kcut a l) (kcut b l)=X):kcut X l=kdo op l a b:=
 iA hg (by have w1:=(mG ha l).2;have w2:=(mG hb l).2;rw[adj w1.1 w1.2 w2.1 w2.2];rcases h with h | h<;>rw[h]<;>simp) e
def sZ (l:Int) (b:Kn):Bool:=opI .and .u64 b.m (opI .sub .u64 (IntKind.u64.wrap l) 1)==0
def kshv (op l:Int) (a b:Kn):Kn:=if sZ l b=true then jb (if okop op l=true then zdo op l a.v (opI .and .u64 b.v (opI .sub .u64 (IntKind.u64.wrap l) 1)) else 0) (if okop op l=true then zdo op l a.m (opI .and .u64 b.v (opI .sub .u64 (IntKind.u64.wrap l) 1)) else 0) else⟨0,0⟩
theorem alr (hl:l=32\/l=64):opI .sub .u64 (IntKind.u64.wrap l) 1=l-1:=by rcases hl with rfl | rfl<;>decide
theorem o6 (h:op=6\/op=7\/op=12) (hl:l=32\/l=64) (hk:okop op l=true) (c:sZ l b=true):kop op l a b=kshv op l a b:=by
 have c':=c
 unfold sZ at c'
 rw[alr hl] at c'
 rw[agr h c']
 unfold kshv
 rw[if_pos c,if_pos hk,if_pos hk,alr hl]
 rfl
theorem lk (h:op=6\/op=7\/op=12) (hl:l=32\/l=64) (c:sZ l b=false):kop op l a b=kall:=by
 unfold sZ at c
 rw[alr hl] at c
 exact ags h c
end
theorem yL {a b:Int} (ha:inK .i64 a=true) (hb:inK .i64 b=true) (h:(decide (a<0)==decide (b<0))=true):
  (decide (opI .add .i64 a b<0)==decide (a<0))=decide (-9223372036854775808<=a+b/\a+b<=9223372036854775807):=by
 have ga:=cX ha;have gb:=cX hb
 have h:=eq_of_beq h
 rw[decide_eq_decide] at h
 show(decide (IntKind.i64.wrap (a+b)<0)==decide (a<0))=_
 rw[aL,ao,aZ,decide_eq_decide,ba]
 omega
theorem yM {a b:Int} (ha:inK .i64 a=true) (hb:inK .i64 b=true) (h:(decide (a<0)==decide (b<0))=false):
  true=decide (-9223372036854775808<=a+b/\a+b<=9223372036854775807):=by
 have ga:=cX ha;have gb:=cX hb
 have h:=beq_eq_false_iff_ne.1 h
 rw[Ne,decide_eq_decide] at h
 exact(eA (by omega)).symm
theorem uJ {a b:Int} (ha:inK .i64 a=true) (hb:inK .i64 b=true) (h:(decide (a<0)==decide (b<0))=true):
  true=decide (-9223372036854775808<=a-b/\a-b<=9223372036854775807):=by
 have ga:=cX ha;have gb:=cX hb
 have h:=eq_of_beq h
 rw[decide_eq_decide] at h
 exact(eA (by omega)).symm
theorem uK {a b:Int} (ha:inK .i64 a=true) (hb:inK .i64 b=true) (h:(decide (a<0)==decide (b<0))=false):
  (decide (opI .sub .i64 a b<0)==decide (a<0))=decide (-9223372036854775808<=a-b/\a-b<=9223372036854775807):=by
 have ga:=cX ha;have gb:=cX hb
 have h:=beq_eq_false_iff_ne.1 h
 rw[Ne,decide_eq_decide] at h
 show(decide (IntKind.i64.wrap (a-b)<0)==decide (a<0))=_
 rw[aL,ao,aZ,decide_eq_decide,ba]
 omega
theorem rf0 {v:Int} (h0:0<=v) (h:v<=0):0=jc v:=by
 obtain rfl:v=0:=by omega
 rfl
theorem rf {v lo hi:Int} (k:Nat) (e1:lo=2 ^ k) (e2:hi=2 ^ (k+1)-1) (h1:lo<=v) (h2:v<=hi):hi=jc v:=by
 have p:(0:Int)<2 ^ k:=Int.pow_pos (by omega)
 have q1:((2 ^ k:Nat):Int)=2 ^ k:=by simp
 have q2:((2 ^ (k+1):Nat):Int)=2 ^ (k+1):=by simp
 unfold jc
 rw[aeL (n:=v.toNat) (c:=k) (by omega) (by omega),e2]
theorem akX {b:Rg} (hb:b.ok) (h:dg b=true):opI .rem .u64 (aj b) 64=((bby b:Nat):Int)/\bby b<64:=by
 have wb:=Rg.wf_of hb
 have e:aj b=b.ul:=by unfold aj;rw[h];simp
 show(aj b).tmod 64=_/\_
 rw[e,Int.tmod_eq_emod_of_nonneg wb.1.1]
 have:=wb.1
 unfold bby
 omega
theorem vX {x:Int} {k:Nat} (x0:0<=x) (x1:x<=18446744073709551615) (hk:k<64):(opI .shr .u64 (opI .shl .u64 x (k:Int)) (k:Int)==x)=decide (aE x.toNat+k<=64):=by
 have hp:(0:Int)<2 ^ k:=Int.pow_pos (by omega)
 have e:opI .shl .u64 x (k:Int)=x*2 ^ k % 18446744073709551616:=by
  show IntKind.u64.wrap (x*2 ^ min (k:Int).toNat 64)=_
  rw[ez,Nat.min_eq_left (by omega),bc]
 have b0:=Int.emod_nonneg (x*2 ^ k) (show(18446744073709551616:Int)≠0 by omega)
 rw[e,ny b0 hk,ao,aZ,ba]
 constructor
 ·intro h
  have h1:x*2 ^ k<=x*2 ^ k % 18446744073709551616:=by
   have:=Int.ediv_mul_le (x*2 ^ k % 18446744073709551616) (b:=2 ^ k) (by omega)
   rw[h] at this
   exact this
  have h2:=Int.emod_lt_of_pos (x*2 ^ k) (show(0:Int)<18446744073709551616 by omega)
  have h3:x*2 ^ k<18446744073709551616:=by omega
  have h4:x.toNat<2 ^ (64-k):=by
   have q:(18446744073709551616:Int)=2 ^ (64-k)*2 ^ k:=by
    rw[<-Int.pow_add,show 64-k+k=64 by omega];rfl
   rw[q] at h3
   have h5:=Int.lt_of_mul_lt_mul_right h3 (by omega)
   have q2:((2 ^ (64-k):Nat):Int)=2 ^ (64-k):=by simp
   omega
  have:=eh h4
  omega
 ·intro h
  have h1:=abo x0 (Int.le_refl x) h
  rw[Int.emod_eq_of_lt h1.1 (by omega),Int.mul_ediv_cancel _ (by omega)]
section
variable {op:Int} {a b:Rg} (ha:a.ok) (hb:b.ok) (ma:bmay a=true) (mb:bmay b=true)
include ha hb
theorem akR (h:decide (opI .add .u64 a.uh b.uh<a.uh)=false):opI .add .u64 a.ul b.ul=(xsum false a b).ul/\opI .add .u64 a.uh b.uh=(xsum false a b).uh:=by
 have h:=thm2 h
 have wa:=(Rg.wf_of ha).2.1;have wb:=(Rg.wf_of hb).2.1
 have e:opI .add .u64 a.uh b.uh=(a.uh+b.uh) % 18446744073709551616:=by show IntKind.u64.wrap (a.uh+b.uh)=_;rw[bc]
 rw[e] at h ⊢
 have hc:a.uh+b.uh<=18446744073709551615:=by omega
 simp only[xsum]
 rw[if_pos hc,if_pos hc]
 exact⟨rfl,by omega⟩
theorem akS (h:decide (opI .add .u64 a.uh b.uh<a.uh)=true):ball.ul=(xsum false a b).ul/\ball.uh=(xsum false a b).uh:=by
 have h:=thm3 h
 have wa:=(Rg.wf_of ha).2.1;have wb:=(Rg.wf_of hb).2.1
 have e:opI .add .u64 a.uh b.uh=(a.uh+b.uh) % 18446744073709551616:=by show IntKind.u64.wrap (a.uh+b.uh)=_;rw[bc]
 rw[e] at h
 have hc:¬a.uh+b.uh<=18446744073709551615:=by omega
 simp only[xsum]
 rw[if_neg hc,if_neg hc]
 exact⟨rfl,rfl⟩
include ma mb
theorem rd_0 {x y z w:Int} (h:(op==0)=true) (h1:x=(xsum false a b).ul/\y=(xsum false a b).uh) (h2:z=(xsum false a b).sl/\w=(xsum false a b).sh):bnar ⟨x,y,z,w⟩=bdo op a b:=da ma mb (by
 rw[h1.1,h1.2,h2.1,h2.2,eqz h]
 exact(ahc ha hb ma mb).trans (by simp[bdo0]))
theorem rd_1 {x y z w:Int} (h:(op==1)=true) (h1:x=(xsum true a b).ul/\y=(xsum true a b).uh) (h2:z=(xsum true a b).sl/\w=(xsum true a b).sh):bnar ⟨x,y,z,w⟩=bdo op a b:=da ma mb (by
 rw[h1.1,h1.2,h2.1,h2.2,eqz h]
 exact(ahb ha hb ma mb).trans (by simp[bdo0]))
theorem rd_4 (h:(op==4)=true):bnar ⟨max a.ul b.ul,jc (max a.uh b.uh),ball.sl,ball.sh⟩=bdo op a b:=da ma mb (by rw[eqz h];simp[bdo0,bu,ball])
theorem ao7 (h:(op==10)=true):bnar ⟨ball.ul,jc (max a.uh b.uh),ball.sl,ball.sh⟩=bdo op a b:=da ma mb (by rw[eqz h];simp[bdo0,bu,ball])
theorem rd_7 (h:(op==7)=true) (hc:dg b=true):bnar ⟨opI .shr .u64 a.ul (opI .rem .u64 (aj b) 64),opI .shr .u64 a.uh (opI .rem .u64 (aj b) 64),ball.sl,ball.sh⟩=bdo op a b:=da ma mb (by
 have wa:=Rg.wf_of ha
 obtain⟨e,e2⟩:=akX hb hc
 rw[eqz h,e,ny wa.1.1 e2,ny wa.2.1.1 e2];simp[bdo0,bu,ball,hc])
theorem rd_6 (h:(op==6)=true) (hc:dg b=true) (hl:(opI .shr .u64 (opI .shl .u64 a.uh (opI .rem .u64 (aj b) 64)) (opI .rem .u64 (aj b) 64)==a.uh)=true):bnar ⟨opI .shl .u64 a.ul (opI .rem .u64 (aj b) 64),opI .shl .u64 a.uh (opI .rem .u64 (aj b) 64),ball.sl,ball.sh⟩=bdo op a b:=da ma mb (by
 have wa:=Rg.wf_of ha
 obtain⟨e,e2⟩:=akX hb hc
 rw[e,vX wa.2.1.1 wa.2.1.2 e2] at hl
 have hl':=thm3 hl
 rw[cy] at ma
 obtain⟨h1,h2,h3⟩:=abo wa.1.1 ma.1 hl'
 rw[eqz h,e,qC e2 h1 (by omega),qC e2 (by omega) h3];simp[bdo0,bu,ball,hc,hl'])
theorem ao6 (h:(op==6)=true) (hc:dg b=true) (hl:(opI .shr .u64 (opI .shl .u64 a.uh (opI .rem .u64 (aj b) 64)) (opI .rem .u64 (aj b) 64)==a.uh)=false):bnar ball=bdo op a b:=da ma mb (by
 have wa:=Rg.wf_of ha
 obtain⟨e,e2⟩:=akX hb hc
 rw[e,vX wa.2.1.1 wa.2.1.2 e2] at hl
 have hl':=thm2 hl
 rw[eqz h];simp[bdo0,hc,hl'])
end
section
variable {a b:Rg}
theorem bsv (h:dg b=true):aj b=b.ul:=by unfold aj;rw[h];simp
theorem gn_1 (h:dg b=true) (hn:(a.ul=aj b/\a.uh=aj b)\/(a.sl=IntKind.i64.wrap (aj b)/\a.sh=IntKind.i64.wrap (aj b))):bcan 1 a b=false:=by
 rw[bsv h,<-bk] at hn
 unfold bcan
 rw[if_pos rfl,if_pos h]
 rcases hn with hn | hn
 ·rw[eA hn];rfl
 ·rw[eA hn];simp
theorem gc_1 (h:dg b=true) (h1:¬(a.ul=aj b/\a.uh=aj b)) (h2:¬(a.sl=IntKind.i64.wrap (aj b)/\a.sh=IntKind.i64.wrap (aj b))):bcan 1 a b=true:=by
 rw[bsv h] at h1
 rw[bsv h,<-bk] at h2
 unfold bcan
 rw[if_pos rfl,if_pos h,eR h1,eR h2]
 rfl
theorem gr_1 {x y z w:Int} (h:dg b=true) (h1:x=if a.ul=aj b then a.ul+1 else a.ul) (h2:y=if a.ul≠aj b/\a.uh=aj b then a.uh-1 else a.uh)
  (h3:z=if a.sl=IntKind.i64.wrap (aj b) then a.sl+1 else a.sl) (h4:w=if a.sl≠IntKind.i64.wrap (aj b)/\a.sh=IntKind.i64.wrap (aj b) then a.sh-1 else a.sh):(⟨x,y,z,w⟩:Rg)=brng 1 a b:=by
 rw[h1,h2,h3,h4]
 unfold brng
 rw[if_pos rfl,if_pos h,bsv h,<-bk]
end
theorem dP {x:Int}:opI .add .u64 x 1=(x+1) % 18446744073709551616:=by show IntKind.u64.wrap (x+1)=_;rw[bc]
theorem dH {x:Int}:opI .sub .u64 x 1=(x-1) % 18446744073709551616:=by show IntKind.u64.wrap (x-1)=_;rw[bc]
theorem dQ {x:Int}:opI .add .i64 x 1=(x+1+9223372036854775808) % 18446744073709551616-9223372036854775808:=by show IntKind.i64.wrap (x+1)=_;rw[aL]
theorem dJ {x:Int}:opI .sub .i64 x 1=(x-1+9223372036854775808) % 18446744073709551616-9223372036854775808:=by show IntKind.i64.wrap (x-1)=_;rw[aL]
theorem di {p q q2:Prop} (k:q2) (h:p->q=q2:=by intro e;(try simp only[e,aS,-eq_self]);rfl):p->q:=fun e=>(h e).symm▸k
def aaA:List (Nat×TI):=[(2,tiq2),
 (4,tiq4),
 (42,dR),
 (44,ew)]
theorem bS:∀t i,(t,i)∈aaA->TIok Tryz.prog t i:=aV fa0 fa0 (by kernel_rfl)
def c_rmay:Cd:=⟨206,[.agg kRg],[.one .bool],rd_Rg fun a _=>[.z (b2i (bmay a))],T0⟩
def ab4:Tr:=
(.br (.lt (.var 1) (.var 0))
 zlF
(.leaf (.consb (.not (.lt (.var 3) (.var 2))) .nil)))
theorem nK:c_rmay.Ok Tryz.prog:=
 oks ab4 (v_Rg []) bS ol0 Tryz.func206<|bM fun a ha hp U g=>by
 simp only[q_Rg,gS1,Nat.reduceAdd] at g
 simp only[ab4,spQ,rdZ,rdB,rdL,c_rmay,q_Rg,simQ,ab,S1,Nat.reduceSub,Nat.reduceAdd,-eq_self,Rg.eta,g]
 constructor<;>intro c0
 ·(unfold bmay;simp_all [bt];try (intros;omega))
 ·(unfold bmay;simp_all [bt];try (intros;omega))
def c_rall:Cd:=⟨165,[],[.agg kRg],fun _=>d_Rg ball [],T0⟩
def ab8:Tr:=
(.leaf (.zs [0,18446744073709551615,-9223372036854775808,9223372036854775807] .nil))
theorem nL:c_rall.Ok Tryz.prog:=
 oks ab8 [] bS ol0 Tryz.func165<|fun hp U g=>by
 simp only[ab8,spQ,rdZ,rdB,rdL,c_rall,q_Rg,simQ,ab,S1,Nat.reduceSub,Nat.reduceAdd,-eq_self]
 ·rfl
def c_rone:Cd:=⟨95,[.one (.int .u64)],[.agg kRg],rdZ fun v _=>d_Rg (bone v) [],T0⟩
def ab2:Tr:=
(.leaf (.cons (.var 0) (.cons (.var 0) (.cons (.conv .i64 (.var 0)) (.cons (.conv .i64 (.var 0)) .nil)))))
theorem aif:c_rone.Ok Tryz.prog:=
 oks ab2 [.int .u64] bS ol0 Tryz.func95<|fun v hv hp U g=>by
 simp only[q_Rg,gS1,Nat.reduceAdd] at g
 simp only[ab2,spQ,rdZ,rdB,rdL,c_rone,q_Rg,simQ,ab,S1,Nat.reduceSub,Nat.reduceAdd,-eq_self,g]
 ·simp[bone,bk]
def c_rhas:Cd:=⟨182,[.agg kRg,.one (.int .u64)],[.one .bool],rd_Rg fun a=>rdZ fun v _=>[.z (b2i (bhas a v))],T0⟩
def ab6:Tr:=
(.call 0 [.bool] (.vs 0 4 .nil) 5
(.br (.bw 5)
(.br (.lt (.var 4) (.var 0))
 zlF
(.br (.lt (.var 1) (.var 4))
 zlF
(.br (.lt (.conv .i64 (.var 4)) (.var 2))
 zlF
(.leaf (.consb (.not (.lt (.var 3) (.conv .i64 (.var 4)))) .nil)))))
 zlF))
theorem anA:c_rhas.Ok Tryz.prog:=
 oks ab6 (v_Rg [.int .u64]) bS (olc nK ol0) Tryz.func182<|bM fun a ha=>fun v hv hp U g=>by
 simp only[q_Rg,gS1,Nat.reduceAdd] at g
 simp only[ab6,spQ,c_rmay,rdZ,rdB,rdL,c_rhas,q_Rg,simQ,ab,S1,Nat.reduceSub,Nat.reduceAdd,-eq_self,aS,g]
 refine di ?_
 constructor<;>intro c0
 constructor<;>intro c1
 ·(unfold bhas;simp_all [bk,bt];try (intros;omega))
 constructor<;>intro c2
 ·(unfold bhas;simp_all [bk,bt];try (intros;omega))
 constructor<;>intro c3
 ·(unfold bhas;simp_all [bk,bt];try (intros;omega))
 ·(unfold bhas;simp_all [bk,bt];try (intros;omega))
 ·(unfold bhas;simp_all [bk,bt];try (intros;omega))
def c_rsgn:Cd:=⟨238,[.agg kRg],[.agg kRg],rd_Rg fun a _=>d_Rg (bsgn a) [],T0⟩
def ab1:Tr:=
(.br (.eq (.bin .shr .u64 (.var 0) (.lit 63)) (.bin .shr .u64 (.var 1) (.lit 63)))
(.leaf (.vs 0 2 (.cons (.mx (.var 2) (.conv .i64 (.var 0))) (.cons (.mn (.var 3) (.conv .i64 (.var 1))) .nil))))
(.leaf (.vs 0 4 .nil)))
theorem anz:c_rsgn.Ok Tryz.prog:=
 oks ab1 (v_Rg []) bS ol0 Tryz.func238<|bM fun a ha hp U g=>by
 simp only[q_Rg,gS1,Nat.reduceAdd] at g
 simp only[ab1,spQ,rdZ,rdB,rdL,c_rsgn,q_Rg,simQ,ab,S1,Nat.reduceSub,Nat.reduceAdd,-eq_self,Rg.eta,g]
 have wfg:=Rg.wf_of ha
 constructor<;>intro c0
 ·(rw[ij wfg c0])
 ·(rw[lQ wfg c0])
def c_runs:Cd:=⟨239,[.agg kRg],[.agg kRg],rd_Rg fun a _=>d_Rg (buns a) [],T0⟩
def ab0:Tr:=
(.br (.beq (.lt (.var 2) (.lit 0)) (.lt (.var 3) (.lit 0)))
(.leaf (.cons (.mx (.var 0) (.conv .u64 (.var 2))) (.cons (.mn (.var 1) (.conv .u64 (.var 3))) (.vs 2 2 .nil))))
(.leaf (.vs 0 4 .nil)))
theorem anx:c_runs.Ok Tryz.prog:=
 oks ab0 (v_Rg []) bS ol0 Tryz.func239<|bM fun a ha hp U g=>by
 simp only[q_Rg,gS1,Nat.reduceAdd] at g
 simp only[ab0,spQ,rdZ,rdB,rdL,c_runs,q_Rg,simQ,ab,S1,Nat.reduceSub,Nat.reduceAdd,-eq_self,Rg.eta,g]
 constructor<;>intro c0
 ·(rw[pK c0])
 ·(rw[tX c0])
def c_rnar:Cd:=⟨218,[.agg kRg],[.agg kRg,.one .bool],rd_Rg fun a _=>d_Rg (bnar a) [.z (b2i (bnok a))],T0⟩
def ab3:Tr:=
(.call 0 [.bool] (.vs 0 4 .nil) 4
(.br (.bw 4)
(.call 2 (kRg) (.vs 0 4 .nil) 5
(.call 0 [.bool] (.vs 5 4 .nil) 9
(.br (.bw 9)
(.call 3 (kRg) (.vs 5 4 .nil) 10
(.call 0 [.bool] (.vs 10 4 .nil) 14
(.br (.bw 14)
(.call 2 (kRg) (.vs 10 4 .nil) 15
(.call 0 [.bool] (.vs 15 4 .nil) 19
(.br (.bw 19)
(.leaf (.vs 15 4 (.consb (.tt true) .nil)))
(.call 1 (kRg) .nil 20
(.leaf (.vs 20 4 (.consb (.tt false) .nil)))))))
(.call 1 (kRg) .nil 15
(.leaf (.vs 15 4 (.consb (.tt false) .nil)))))))
(.call 1 (kRg) .nil 10
(.leaf (.vs 10 4 (.consb (.tt false) .nil)))))))
(.call 1 (kRg) .nil 5
(.leaf (.vs 5 4 (.consb (.tt false) .nil))))))
theorem adS:c_rnar.Ok Tryz.prog:=
 oks ab3 (v_Rg []) bS (olc nK<|olc nL<|olc anz<|olc anx ol0) Tryz.func218<|bM fun a ha hp U g=>by
 simp only[q_Rg,gS1,Nat.reduceAdd] at g
 simp only[ab3,spQ,c_rmay,c_rall,c_rsgn,c_runs,rdZ,rdB,rdL,c_rnar,q_Rg,simQ,ab,S1,Nat.reduceSub,Nat.reduceAdd,-eq_self,aS,g]
 refine di ?_
 constructor<;>intro c0
 refine di ?_
 refine di ?_
 constructor<;>intro c1
 refine di ?_
 refine di ?_
 constructor<;>intro c2
 refine di ?_
 refine di ?_
 constructor<;>intro c3
 ·(unfold bnar bnok;simp_all)
 refine di ?_
 ·(unfold bnar bnok;simp_all)
 refine di ?_
 ·(unfold bnar bnok;simp_all)
 refine di ?_
 ·(unfold bnar bnok;simp_all)
 refine di ?_
 ·(unfold bnar bnok;simp_all)
def c_rnard:Cd:=⟨208,[.agg kRg],[.agg kRg],rd_Rg fun a _=>d_Rg (bnar a) [],T0⟩
def wx:Tr:=
(.call 0 (kRg++[.bool]) (.vs 0 4 .nil) 4
(.leaf (.vs 4 4 .nil)))
theorem adR:c_rnard.Ok Tryz.prog:=
 oks wx (v_Rg []) bS (olc adS ol0) Tryz.func208<|bM fun a ha hp U g=>by
 simp only[q_Rg,gS1,Nat.reduceAdd] at g
 simp only[wx,spQ,c_rnar,rdZ,rdB,rdL,c_rnard,q_Rg,simQ,ab,S1,Nat.reduceSub,Nat.reduceAdd,-eq_self,aS,g]
 refine di ?_
 ·rfl
def c_rsingle:Cd:=⟨207,[.agg kRg],[.one (.int .u64),.one .bool],rd_Rg fun a _=>[.z (aj a),.z (b2i (dg a))],T0⟩
def oN:Tr:=
(.br (.eq (.var 0) (.var 1))
(.call 0 [.bool] (.vs 0 4 (.cons (.var 0) .nil)) 4
(.br (.bw 4)
(.leaf (.cons (.var 0) (.consb (.tt true) .nil)))
(.leaf (.cons (.lit 0) (.consb (.tt false) .nil)))))
(.leaf (.cons (.lit 0) (.consb (.tt false) .nil))))
theorem nJ:c_rsingle.Ok Tryz.prog:=
 oks oN (v_Rg []) bS (olc anA ol0) Tryz.func207<|bM fun a ha hp U g=>by
 simp only[q_Rg,gS1,Nat.reduceAdd] at g
 simp only[oN,spQ,c_rhas,rdZ,rdB,rdL,c_rsingle,q_Rg,simQ,ab,S1,Nat.reduceSub,Nat.reduceAdd,-eq_self,aS,g]
 constructor<;>intro c0
 refine di ?_
 constructor<;>intro c1
 ·(unfold aj dg;simp_all)
 ·(unfold aj dg;simp_all)
 ·(unfold aj dg;simp_all)
def c_rmeet:Cd:=⟨216,[.agg kRg,.agg kRg],[.agg kRg,.one .bool],rd_Rg fun a=>rd_Rg fun b _=>d_Rg (dV a b) [.z (b2i (eP a b))],T0⟩
def wy:Tr:=
(.call 0 [.bool] (.vs 0 4 .nil) 8
(.br (.bw 8)
(.call 0 [.bool] (.vs 4 4 .nil) 9
(.br (.bw 9)
(.call 2 (kRg++[.bool]) (.cons (.mx (.var 0) (.var 4)) (.cons (.mn (.var 1) (.var 5)) (.cons (.mx (.var 2) (.var 6)) (.cons (.mn (.var 3) (.var 7)) .nil)))) 10
(.leaf (.vs 10 4 (.consb (.bw 14) .nil))))
(.call 1 (kRg) .nil 10
(.leaf (.vs 10 4 (.consb (.tt false) .nil))))))
(.call 1 (kRg) .nil 9
(.leaf (.vs 9 4 (.consb (.tt false) .nil))))))
theorem adT:c_rmeet.Ok Tryz.prog:=
 oks wy (v_Rg (v_Rg [])) bS (olc nK<|olc nL<|olc adS ol0) Tryz.func216<|bM fun a ha=>bM fun b hb hp U g=>by
 simp only[q_Rg,gS1,Nat.reduceAdd] at g
 simp only[wy,spQ,c_rmay,c_rall,c_rnar,rdZ,rdB,rdL,c_rmeet,q_Rg,simQ,ab,S1,Nat.reduceSub,Nat.reduceAdd,-eq_self,aS,g]
 refine di ?_
 constructor<;>intro c0
 refine di ?_
 constructor<;>intro c1
 refine di ?_
 ·(unfold dV eP;simp_all [jr,lx])
 refine di ?_
 ·(unfold dV eP;simp_all [jr,lx])
 refine di ?_
 ·(unfold dV eP;simp_all [jr,lx])
def c_rplus:Cd:=⟨209,[.one (.int .i64),.one (.int .i64)],[.one (.int .i64),.one .bool],rdZ fun a=>rdZ fun b _=>[.z (IntKind.i64.wrap (a+b)),.z (b2i (decide (-9223372036854775808<=a+b/\a+b<=9223372036854775807)))],T0⟩
def ww:Tr:=
(.br (.beq (.lt (.var 0) (.lit 0)) (.lt (.var 1) (.lit 0)))
(.leaf (.cons (.bin .add .i64 (.var 0) (.var 1)) (.consb (.beq (.lt (.bin .add .i64 (.var 0) (.var 1)) (.lit 0)) (.lt (.var 0) (.lit 0))) .nil)))
(.leaf (.cons (.bin .add .i64 (.var 0) (.var 1)) (.consb (.tt true) .nil))))
theorem alG:c_rplus.Ok Tryz.prog:=
 oks ww [.int .i64,.int .i64] bS ol0 Tryz.func209<|fun a ha b hb hp U g=>by
 simp only[gS1,Nat.reduceAdd] at g
 simp only[ww,spQ,rdZ,rdB,rdL,c_rplus,simQ,ab,S1,Nat.reduceSub,Nat.reduceAdd,-eq_self,g]
 constructor<;>intro c0
 ·(rw[yL ha hb c0];try rfl)
 ·(rw[<-yM ha hb c0];try rfl)
def c_rminus:Cd:=⟨210,[.one (.int .i64),.one (.int .i64)],[.one (.int .i64),.one .bool],rdZ fun a=>rdZ fun b _=>[.z (IntKind.i64.wrap (a-b)),.z (b2i (decide (-9223372036854775808<=a-b/\a-b<=9223372036854775807)))],T0⟩
def sr:Tr:=
(.br (.beq (.lt (.var 0) (.lit 0)) (.lt (.var 1) (.lit 0)))
(.leaf (.cons (.bin .sub .i64 (.var 0) (.var 1)) (.consb (.tt true) .nil)))
(.leaf (.cons (.bin .sub .i64 (.var 0) (.var 1)) (.consb (.beq (.lt (.bin .sub .i64 (.var 0) (.var 1)) (.lit 0)) (.lt (.var 0) (.lit 0))) .nil))))
theorem agA:c_rminus.Ok Tryz.prog:=
 oks sr [.int .i64,.int .i64] bS ol0 Tryz.func210<|fun a ha b hb hp U g=>by
 simp only[gS1,Nat.reduceAdd] at g
 simp only[sr,spQ,rdZ,rdB,rdL,c_rminus,simQ,ab,S1,Nat.reduceSub,Nat.reduceAdd,-eq_self,g]
 constructor<;>intro c0
 ·(rw[<-uJ ha hb c0];try rfl)
 ·(rw[uK ha hb c0];try rfl)
def c_rfill:Cd:=⟨211,[.one (.int .u64)],[.one (.int .u64)],rdZ fun v _=>[.z (jc v)],T0⟩
def qd:Tr:=
(.br (.lt (.lit 0) (.var 0))
(.br (.lt (.lit 1) (.var 0))
(.br (.lt (.lit 3) (.var 0))
(.br (.lt (.lit 7) (.var 0))
(.br (.lt (.lit 15) (.var 0))
(.br (.lt (.lit 31) (.var 0))
(.br (.lt (.lit 63) (.var 0))
(.br (.lt (.lit 127) (.var 0))
(.br (.lt (.lit 255) (.var 0))
(.br (.lt (.lit 511) (.var 0))
(.br (.lt (.lit 1023) (.var 0))
(.br (.lt (.lit 2047) (.var 0))
(.br (.lt (.lit 4095) (.var 0))
(.br (.lt (.lit 8191) (.var 0))
(.br (.lt (.lit 16383) (.var 0))
(.br (.lt (.lit 32767) (.var 0))
(.br (.lt (.lit 65535) (.var 0))
(.br (.lt (.lit 131071) (.var 0))
(.br (.lt (.lit 262143) (.var 0))
(.br (.lt (.lit 524287) (.var 0))
(.br (.lt (.lit 1048575) (.var 0))
(.br (.lt (.lit 2097151) (.var 0))
(.br (.lt (.lit 4194303) (.var 0))
(.br (.lt (.lit 8388607) (.var 0))
(.br (.lt (.lit 16777215) (.var 0))
(.br (.lt (.lit 33554431) (.var 0))
(.br (.lt (.lit 67108863) (.var 0))
(.br (.lt (.lit 134217727) (.var 0))
(.br (.lt (.lit 268435455) (.var 0))
(.br (.lt (.lit 536870911) (.var 0))
(.br (.lt (.lit 1073741823) (.var 0))
(.br (.lt (.lit 2147483647) (.var 0))
(.br (.lt (.lit 4294967295) (.var 0))
(.br (.lt (.lit 8589934591) (.var 0))
(.br (.lt (.lit 17179869183) (.var 0))
(.br (.lt (.lit 34359738367) (.var 0))
(.br (.lt (.lit 68719476735) (.var 0))
(.br (.lt (.lit 137438953471) (.var 0))
(.br (.lt (.lit 274877906943) (.var 0))
(.br (.lt (.lit 549755813887) (.var 0))
(.br (.lt (.lit 1099511627775) (.var 0))
(.br (.lt (.lit 2199023255551) (.var 0))
(.br (.lt (.lit 4398046511103) (.var 0))
(.br (.lt (.lit 8796093022207) (.var 0))
(.br (.lt (.lit 17592186044415) (.var 0))
(.br (.lt (.lit 35184372088831) (.var 0))
(.br (.lt (.lit 70368744177663) (.var 0))
(.br (.lt (.lit 140737488355327) (.var 0))
(.br (.lt (.lit 281474976710655) (.var 0))
(.br (.lt (.lit 562949953421311) (.var 0))
(.br (.lt (.lit 1125899906842623) (.var 0))
(.br (.lt (.lit 2251799813685247) (.var 0))
(.br (.lt (.lit 4503599627370495) (.var 0))
(.br (.lt (.lit 9007199254740991) (.var 0))
(.br (.lt (.lit 18014398509481983) (.var 0))
(.br (.lt (.lit 36028797018963967) (.var 0))
(.br (.lt (.lit 72057594037927935) (.var 0))
(.br (.lt (.lit 144115188075855871) (.var 0))
(.br (.lt (.lit 288230376151711743) (.var 0))
(.br (.lt (.lit 576460752303423487) (.var 0))
(.br (.lt (.lit 1152921504606846975) (.var 0))
(.br (.lt (.lit 2305843009213693951) (.var 0))
(.br (.lt (.lit 4611686018427387903) (.var 0))
(.br (.lt (.lit 9223372036854775807) (.var 0))
(.leaf (.cons (.lit 18446744073709551615) .nil))
(.leaf (.cons (.lit 9223372036854775807) .nil)))
(.leaf (.cons (.lit 4611686018427387903) .nil)))
(.leaf (.cons (.lit 2305843009213693951) .nil)))
(.leaf (.cons (.lit 1152921504606846975) .nil)))
(.leaf (.cons (.lit 576460752303423487) .nil)))
(.leaf (.cons (.lit 288230376151711743) .nil)))
(.leaf (.cons (.lit 144115188075855871) .nil)))
(.leaf (.cons (.lit 72057594037927935) .nil)))
(.leaf (.cons (.lit 36028797018963967) .nil)))
(.leaf (.cons (.lit 18014398509481983) .nil)))
(.leaf (.cons (.lit 9007199254740991) .nil)))
(.leaf (.cons (.lit 4503599627370495) .nil)))
(.leaf (.cons (.lit 2251799813685247) .nil)))
(.leaf (.cons (.lit 1125899906842623) .nil)))
(.leaf (.cons (.lit 562949953421311) .nil)))
(.leaf (.cons (.lit 281474976710655) .nil)))
(.leaf (.cons (.lit 140737488355327) .nil)))
(.leaf (.cons (.lit 70368744177663) .nil)))
(.leaf (.cons (.lit 35184372088831) .nil)))
(.leaf (.cons (.lit 17592186044415) .nil)))
(.leaf (.cons (.lit 8796093022207) .nil)))
(.leaf (.cons (.lit 4398046511103) .nil)))
(.leaf (.cons (.lit 2199023255551) .nil)))
(.leaf (.cons (.lit 1099511627775) .nil)))
(.leaf (.cons (.lit 549755813887) .nil)))
(.leaf (.cons (.lit 274877906943) .nil)))
(.leaf (.cons (.lit 137438953471) .nil)))
(.leaf (.cons (.lit 68719476735) .nil)))
(.leaf (.cons (.lit 34359738367) .nil)))
(.leaf (.cons (.lit 17179869183) .nil)))
(.leaf (.cons (.lit 8589934591) .nil)))
(.leaf (.cons (.lit 4294967295) .nil)))
(.leaf (.cons (.lit 2147483647) .nil)))
(.leaf (.cons (.lit 1073741823) .nil)))
(.leaf (.cons (.lit 536870911) .nil)))
(.leaf (.cons (.lit 268435455) .nil)))
(.leaf (.cons (.lit 134217727) .nil)))
(.leaf (.cons (.lit 67108863) .nil)))
(.leaf (.cons (.lit 33554431) .nil)))
(.leaf (.cons (.lit 16777215) .nil)))
(.leaf (.cons (.lit 8388607) .nil)))
(.leaf (.cons (.lit 4194303) .nil)))
(.leaf (.cons (.lit 2097151) .nil)))
(.leaf (.cons (.lit 1048575) .nil)))
(.leaf (.cons (.lit 524287) .nil)))
(.leaf (.cons (.lit 262143) .nil)))
(.leaf (.cons (.lit 131071) .nil)))
(.leaf (.cons (.lit 65535) .nil)))
(.leaf (.cons (.lit 32767) .nil)))
(.leaf (.cons (.lit 16383) .nil)))
(.leaf (.cons (.lit 8191) .nil)))
(.leaf (.cons (.lit 4095) .nil)))
(.leaf (.cons (.lit 2047) .nil)))
(.leaf (.cons (.lit 1023) .nil)))
(.leaf (.cons (.lit 511) .nil)))
(.leaf (.cons (.lit 255) .nil)))
(.leaf (.cons (.lit 127) .nil)))
(.leaf (.cons (.lit 63) .nil)))
(.leaf (.cons (.lit 31) .nil)))
(.leaf (.cons (.lit 15) .nil)))
(.leaf (.cons (.lit 7) .nil)))
(.leaf (.cons (.lit 3) .nil)))
(.leaf (.cons (.lit 1) .nil)))
(.leaf (.cons (.lit 0) .nil)))
theorem afV:bp aaA (smN 0 []) [] [] [] 400 Tryz.f211 c_rfill.a c_rfill.r (tp c_rfill.r) [.int .u64] qd:=trI (by kernel_rfl)
theorem alH:c_rfill.Ok Tryz.prog:=
 okc qd [.int .u64] bS ol0 Tryz.func211 fn0 afV<|fun v hv hp U g=>by
 simp only[gS1,Nat.reduceAdd] at g
 simp only[qd,spQ,rdZ,rdB,rdL,c_rfill,simQ,ab,S1,Nat.reduceSub,Nat.reduceAdd,-eq_self,g]
 constructor<;>intro c0
 constructor<;>intro c1
 constructor<;>intro c2
 constructor<;>intro c3
 constructor<;>intro c4
 constructor<;>intro c5
 constructor<;>intro c6
 constructor<;>intro c7
 constructor<;>intro c8
 constructor<;>intro c9
 constructor<;>intro c10
 constructor<;>intro c11
 constructor<;>intro c12
 constructor<;>intro c13
 constructor<;>intro c14
 constructor<;>intro c15
 constructor<;>intro c16
 constructor<;>intro c17
 constructor<;>intro c18
 constructor<;>intro c19
 constructor<;>intro c20
 constructor<;>intro c21
 constructor<;>intro c22
 constructor<;>intro c23
 constructor<;>intro c24
 constructor<;>intro c25
 constructor<;>intro c26
 constructor<;>intro c27
 constructor<;>intro c28
 constructor<;>intro c29
 constructor<;>intro c30
 constructor<;>intro c31
 constructor<;>intro c32
 constructor<;>intro c33
 constructor<;>intro c34
 constructor<;>intro c35
 constructor<;>intro c36
 constructor<;>intro c37
 constructor<;>intro c38
 constructor<;>intro c39
 constructor<;>intro c40
 constructor<;>intro c41
 constructor<;>intro c42
 constructor<;>intro c43
 constructor<;>intro c44
 constructor<;>intro c45
 constructor<;>intro c46
 constructor<;>intro c47
 constructor<;>intro c48
 constructor<;>intro c49
 constructor<;>intro c50
 constructor<;>intro c51
 constructor<;>intro c52
 constructor<;>intro c53
 constructor<;>intro c54
 constructor<;>intro c55
 constructor<;>intro c56
 constructor<;>intro c57
 constructor<;>intro c58
 constructor<;>intro c59
 constructor<;>intro c60
 constructor<;>intro c61
 constructor<;>intro c62
 constructor<;>intro c63
 ·exact zi (rf 63 (by decide) (by decide) (Int.add_one_le_of_lt (thm3 c63)) (bB hv).2)
 ·exact zi (rf 62 (by decide) (by decide) (Int.add_one_le_of_lt (thm3 c62)) (ar.1 (thm2 c63)))
 ·exact zi (rf 61 (by decide) (by decide) (Int.add_one_le_of_lt (thm3 c61)) (ar.1 (thm2 c62)))
 ·exact zi (rf 60 (by decide) (by decide) (Int.add_one_le_of_lt (thm3 c60)) (ar.1 (thm2 c61)))
 ·exact zi (rf 59 (by decide) (by decide) (Int.add_one_le_of_lt (thm3 c59)) (ar.1 (thm2 c60)))
 ·exact zi (rf 58 (by decide) (by decide) (Int.add_one_le_of_lt (thm3 c58)) (ar.1 (thm2 c59)))
 ·exact zi (rf 57 (by decide) (by decide) (Int.add_one_le_of_lt (thm3 c57)) (ar.1 (thm2 c58)))
 ·exact zi (rf 56 (by decide) (by decide) (Int.add_one_le_of_lt (thm3 c56)) (ar.1 (thm2 c57)))
 ·exact zi (rf 55 (by decide) (by decide) (Int.add_one_le_of_lt (thm3 c55)) (ar.1 (thm2 c56)))
 ·exact zi (rf 54 (by decide) (by decide) (Int.add_one_le_of_lt (thm3 c54)) (ar.1 (thm2 c55)))
 ·exact zi (rf 53 (by decide) (by decide) (Int.add_one_le_of_lt (thm3 c53)) (ar.1 (thm2 c54)))
 ·exact zi (rf 52 (by decide) (by decide) (Int.add_one_le_of_lt (thm3 c52)) (ar.1 (thm2 c53)))
 ·exact zi (rf 51 (by decide) (by decide) (Int.add_one_le_of_lt (thm3 c51)) (ar.1 (thm2 c52)))
 ·exact zi (rf 50 (by decide) (by decide) (Int.add_one_le_of_lt (thm3 c50)) (ar.1 (thm2 c51)))
 ·exact zi (rf 49 (by decide) (by decide) (Int.add_one_le_of_lt (thm3 c49)) (ar.1 (thm2 c50)))
 ·exact zi (rf 48 (by decide) (by decide) (Int.add_one_le_of_lt (thm3 c48)) (ar.1 (thm2 c49)))
 ·exact zi (rf 47 (by decide) (by decide) (Int.add_one_le_of_lt (thm3 c47)) (ar.1 (thm2 c48)))
 ·exact zi (rf 46 (by decide) (by decide) (Int.add_one_le_of_lt (thm3 c46)) (ar.1 (thm2 c47)))
 ·exact zi (rf 45 (by decide) (by decide) (Int.add_one_le_of_lt (thm3 c45)) (ar.1 (thm2 c46)))
 ·exact zi (rf 44 (by decide) (by decide) (Int.add_one_le_of_lt (thm3 c44)) (ar.1 (thm2 c45)))
 ·exact zi (rf 43 (by decide) (by decide) (Int.add_one_le_of_lt (thm3 c43)) (ar.1 (thm2 c44)))
 ·exact zi (rf 42 (by decide) (by decide) (Int.add_one_le_of_lt (thm3 c42)) (ar.1 (thm2 c43)))
 ·exact zi (rf 41 (by decide) (by decide) (Int.add_one_le_of_lt (thm3 c41)) (ar.1 (thm2 c42)))
 ·exact zi (rf 40 (by decide) (by decide) (Int.add_one_le_of_lt (thm3 c40)) (ar.1 (thm2 c41)))
 ·exact zi (rf 39 (by decide) (by decide) (Int.add_one_le_of_lt (thm3 c39)) (ar.1 (thm2 c40)))
 ·exact zi (rf 38 (by decide) (by decide) (Int.add_one_le_of_lt (thm3 c38)) (ar.1 (thm2 c39)))
 ·exact zi (rf 37 (by decide) (by decide) (Int.add_one_le_of_lt (thm3 c37)) (ar.1 (thm2 c38)))
 ·exact zi (rf 36 (by decide) (by decide) (Int.add_one_le_of_lt (thm3 c36)) (ar.1 (thm2 c37)))
 ·exact zi (rf 35 (by decide) (by decide) (Int.add_one_le_of_lt (thm3 c35)) (ar.1 (thm2 c36)))
 ·exact zi (rf 34 (by decide) (by decide) (Int.add_one_le_of_lt (thm3 c34)) (ar.1 (thm2 c35)))
 ·exact zi (rf 33 (by decide) (by decide) (Int.add_one_le_of_lt (thm3 c33)) (ar.1 (thm2 c34)))
 ·exact zi (rf 32 (by decide) (by decide) (Int.add_one_le_of_lt (thm3 c32)) (ar.1 (thm2 c33)))
 ·exact zi (rf 31 (by decide) (by decide) (Int.add_one_le_of_lt (thm3 c31)) (ar.1 (thm2 c32)))
 ·exact zi (rf 30 (by decide) (by decide) (Int.add_one_le_of_lt (thm3 c30)) (ar.1 (thm2 c31)))
 ·exact zi (rf 29 (by decide) (by decide) (Int.add_one_le_of_lt (thm3 c29)) (ar.1 (thm2 c30)))
 ·exact zi (rf 28 (by decide) (by decide) (Int.add_one_le_of_lt (thm3 c28)) (ar.1 (thm2 c29)))
 ·exact zi (rf 27 (by decide) (by decide) (Int.add_one_le_of_lt (thm3 c27)) (ar.1 (thm2 c28)))
 ·exact zi (rf 26 (by decide) (by decide) (Int.add_one_le_of_lt (thm3 c26)) (ar.1 (thm2 c27)))
 ·exact zi (rf 25 (by decide) (by decide) (Int.add_one_le_of_lt (thm3 c25)) (ar.1 (thm2 c26)))
 ·exact zi (rf 24 (by decide) (by decide) (Int.add_one_le_of_lt (thm3 c24)) (ar.1 (thm2 c25)))
 ·exact zi (rf 23 (by decide) (by decide) (Int.add_one_le_of_lt (thm3 c23)) (ar.1 (thm2 c24)))
 ·exact zi (rf 22 (by decide) (by decide) (Int.add_one_le_of_lt (thm3 c22)) (ar.1 (thm2 c23)))
 ·exact zi (rf 21 (by decide) (by decide) (Int.add_one_le_of_lt (thm3 c21)) (ar.1 (thm2 c22)))
 ·exact zi (rf 20 (by decide) (by decide) (Int.add_one_le_of_lt (thm3 c20)) (ar.1 (thm2 c21)))
 ·exact zi (rf 19 (by decide) (by decide) (Int.add_one_le_of_lt (thm3 c19)) (ar.1 (thm2 c20)))
 ·exact zi (rf 18 (by decide) (by decide) (Int.add_one_le_of_lt (thm3 c18)) (ar.1 (thm2 c19)))
 ·exact zi (rf 17 (by decide) (by decide) (Int.add_one_le_of_lt (thm3 c17)) (ar.1 (thm2 c18)))
 ·exact zi (rf 16 (by decide) (by decide) (Int.add_one_le_of_lt (thm3 c16)) (ar.1 (thm2 c17)))
 ·exact zi (rf 15 (by decide) (by decide) (Int.add_one_le_of_lt (thm3 c15)) (ar.1 (thm2 c16)))
 ·exact zi (rf 14 (by decide) (by decide) (Int.add_one_le_of_lt (thm3 c14)) (ar.1 (thm2 c15)))
 ·exact zi (rf 13 (by decide) (by decide) (Int.add_one_le_of_lt (thm3 c13)) (ar.1 (thm2 c14)))
 ·exact zi (rf 12 (by decide) (by decide) (Int.add_one_le_of_lt (thm3 c12)) (ar.1 (thm2 c13)))
 ·exact zi (rf 11 (by decide) (by decide) (Int.add_one_le_of_lt (thm3 c11)) (ar.1 (thm2 c12)))
 ·exact zi (rf 10 (by decide) (by decide) (Int.add_one_le_of_lt (thm3 c10)) (ar.1 (thm2 c11)))
 ·exact zi (rf 9 (by decide) (by decide) (Int.add_one_le_of_lt (thm3 c9)) (ar.1 (thm2 c10)))
 ·exact zi (rf 8 (by decide) (by decide) (Int.add_one_le_of_lt (thm3 c8)) (ar.1 (thm2 c9)))
 ·exact zi (rf 7 (by decide) (by decide) (Int.add_one_le_of_lt (thm3 c7)) (ar.1 (thm2 c8)))
 ·exact zi (rf 6 (by decide) (by decide) (Int.add_one_le_of_lt (thm3 c6)) (ar.1 (thm2 c7)))
 ·exact zi (rf 5 (by decide) (by decide) (Int.add_one_le_of_lt (thm3 c5)) (ar.1 (thm2 c6)))
 ·exact zi (rf 4 (by decide) (by decide) (Int.add_one_le_of_lt (thm3 c4)) (ar.1 (thm2 c5)))
 ·exact zi (rf 3 (by decide) (by decide) (Int.add_one_le_of_lt (thm3 c3)) (ar.1 (thm2 c4)))
 ·exact zi (rf 2 (by decide) (by decide) (Int.add_one_le_of_lt (thm3 c2)) (ar.1 (thm2 c3)))
 ·exact zi (rf 1 (by decide) (by decide) (Int.add_one_le_of_lt (thm3 c1)) (ar.1 (thm2 c2)))
 ·exact zi (rf 0 (by decide) (by decide) (Int.add_one_le_of_lt (thm3 c0)) (ar.1 (thm2 c1)))
 ·exact zi (rf0 (bB hv).1 (ar.1 (thm2 c0)))
def c_rlow:Cd:=⟨164,[.agg kRg],[.agg kRg],rd_Rg fun a _=>d_Rg (blow a) [],T0⟩
def ajK:Tr:=(.call 1 (kRg) (.zs [0,4294967295,-9223372036854775808,9223372036854775807] .nil) 5
(.leaf (.vs 5 4 .nil)))
def ab5:Tr:=
(.call 0 [.bool] (.vs 0 4 .nil) 4
(.br (.bw 4)
(.br (.lt (.var 1) (.lit 4294967296))
(.leaf (.vs 0 4 .nil))
 ajK)
 ajK))
theorem aig:c_rlow.Ok Tryz.prog:=
 oks ab5 (v_Rg []) bS (olc nK<|olc adR ol0) Tryz.func164<|bM fun a ha hp U g=>by
 simp only[q_Rg,gS1,Nat.reduceAdd] at g
 simp only[ab5,ajK,spQ,c_rmay,c_rnard,rdZ,rdB,rdL,c_rlow,q_Rg,simQ,ab,S1,Nat.reduceSub,Nat.reduceAdd,-eq_self,aS,g]
 refine di ?_
 constructor<;>intro c0
 constructor<;>intro c1
 ·(rw[show blow a=a from if_pos ⟨c0,Int.le_of_lt_add_one (thm3 c1)⟩];try rfl)
 refine di ?_
 ·(rw[show blow a=bnar (bu 0 4294967295) from if_neg (fun q=>absurd (Int.lt_add_one_of_le q.2) (thm2 c1))];try rfl)
 refine di ?_
 ·(rw[show blow a=bnar (bu 0 4294967295) from if_neg (fun q=>by rw[c0] at q;exact absurd q.1 (by simp))];try rfl)
theorem an {p q q2:Prop} (k:q2) (h:p->q=q2:=by intro e;(try simp only[e,aS,-eq_self]);rfl):p->q:=fun e=>(h e).symm▸k
def tY:List (Nat×TI):=[(2,tiq2),
 (37,dS),
 (42,dR),
 (44,ew)]
theorem rF:∀t i,(t,i)∈tY->TIok Tryz.prog t i:=aV fa0 fa0 (by kernel_rfl)
def c_rdo:Cd:=⟨161,[.one (.int .i8),.agg kRg,.agg kRg],[.agg kRg],rdZ fun op=>rd_Rg fun a=>rd_Rg fun b _=>d_Rg (bdo op a b) [],T0⟩
def zM:Tr:=(.call 6 (kRg) (.vs 9 4 .nil) 17
(.leaf (.vs 17 4 .nil)))
def ajE:Tr:=(.call 6 (kRg) (.vs 9 4 .nil) 21
(.leaf (.vs 21 4 .nil)))
def ajF:E:=(.bin .shl .u64 (.var 2) (.bin .rem .u64 (.var 15) (.lit 64)))
def ajG:Tr:=(.call 6 (kRg) (.cons (.var 9) (.cons (.var 2) (.vs 11 2 .nil))) 17
(.leaf (.vs 17 4 .nil)))
def ajH:Tr:=(.call 6 (kRg) (.cons (.bin .sub .u64 (.var 1) (.var 6)) (.cons (.bin .sub .u64 (.var 2) (.var 5)) (.vs 11 2 .nil))) 21
(.leaf (.vs 21 4 .nil)))
def ajI:Tr:=(.call 6 (kRg) (.cons (.bin .add .u64 (.var 1) (.var 5)) (.cons (.bin .add .u64 (.var 2) (.var 6)) (.vs 11 2 .nil))) 21
(.leaf (.vs 21 4 .nil)))
def ajJ:Tr:=(.br (.bw 18)
(.br (.bw 20)
(.call 6 (kRg) (.vs 9 2 (.cons (.var 17) (.cons (.var 19) .nil))) 21
(.leaf (.vs 21 4 .nil)))
 ajE)
 ajE)
def ab7:Tr:=
(.call 1 (kRg) .nil 9
(.call 0 [.bool] (.vs 1 4 .nil) 13
(.br (.bw 13)
(.call 0 [.bool] (.vs 5 4 .nil) 14
(.br (.bw 14)
(.call 2 [.int .u64,.bool] (.vs 5 4 .nil) 15
(.br (.eq (.var 0) (.lit 11))
(.call 6 (kRg) (.vs 5 4 .nil) 17
(.leaf (.vs 17 4 .nil)))
(.br (.eq (.var 0) (.lit 0))
(.br (.lt (.bin .add .u64 (.var 2) (.var 6)) (.var 2))
(.call 3 [.int .i64,.bool] (.cons (.var 3) (.cons (.var 7) .nil)) 17
(.call 3 [.int .i64,.bool] (.cons (.var 4) (.cons (.var 8) .nil)) 19
 ajJ))
(.call 3 [.int .i64,.bool] (.cons (.var 3) (.cons (.var 7) .nil)) 17
(.call 3 [.int .i64,.bool] (.cons (.var 4) (.cons (.var 8) .nil)) 19
(.br (.bw 18)
(.br (.bw 20)
(.call 6 (kRg) (.cons (.bin .add .u64 (.var 1) (.var 5)) (.cons (.bin .add .u64 (.var 2) (.var 6)) (.cons (.var 17) (.cons (.var 19) .nil)))) 21
(.leaf (.vs 21 4 .nil)))
 ajI)
 ajI))))
(.br (.eq (.var 0) (.lit 1))
(.br (.lt (.var 1) (.var 6))
(.call 4 [.int .i64,.bool] (.cons (.var 3) (.cons (.var 8) .nil)) 17
(.call 4 [.int .i64,.bool] (.cons (.var 4) (.cons (.var 7) .nil)) 19
 ajJ))
(.call 4 [.int .i64,.bool] (.cons (.var 3) (.cons (.var 8) .nil)) 17
(.call 4 [.int .i64,.bool] (.cons (.var 4) (.cons (.var 7) .nil)) 19
(.br (.bw 18)
(.br (.bw 20)
(.call 6 (kRg) (.cons (.bin .sub .u64 (.var 1) (.var 6)) (.cons (.bin .sub .u64 (.var 2) (.var 5)) (.cons (.var 17) (.cons (.var 19) .nil)))) 21
(.leaf (.vs 21 4 .nil)))
 ajH)
 ajH))))
(.br (.eq (.var 0) (.lit 5))
(.call 6 (kRg) (.cons (.var 9) (.cons (.mn (.var 2) (.var 6)) (.vs 11 2 .nil))) 17
(.leaf (.vs 17 4 .nil)))
(.br (.eq (.var 0) (.lit 4))
(.call 5 [.int .u64] (.cons (.mx (.var 2) (.var 6)) .nil) 17
(.call 6 (kRg) (.cons (.mx (.var 1) (.var 5)) (.cons (.var 17) (.vs 11 2 .nil))) 18
(.leaf (.vs 18 4 .nil))))
(.br (.eq (.var 0) (.lit 10))
(.call 5 [.int .u64] (.cons (.mx (.var 2) (.var 6)) .nil) 17
(.call 6 (kRg) (.cons (.var 9) (.cons (.var 17) (.vs 11 2 .nil))) 18
(.leaf (.vs 18 4 .nil))))
(.br (.eq (.var 0) (.lit 3))
(.br (.lt (.lit 0) (.var 5))
(.br (.eq (.var 6) (.lit 0))
.panic
(.br (.eq (.var 5) (.lit 0))
.panic
(.call 6 (kRg) (.cons (.bin .quo .u64 (.var 1) (.var 6)) (.cons (.bin .quo .u64 (.var 2) (.var 5)) (.vs 11 2 .nil))) 17
(.leaf (.vs 17 4 .nil)))))
 ajG)
(.br (.eq (.var 0) (.lit 9))
(.br (.lt (.lit 0) (.var 5))
(.call 6 (kRg) (.cons (.var 9) (.cons (.mn (.var 2) (.bin .sub .u64 (.var 6) (.lit 1))) (.vs 11 2 .nil))) 17
(.leaf (.vs 17 4 .nil)))
 ajG)
(.br (.eq (.var 0) (.lit 7))
(.br (.bw 16)
(.call 6 (kRg) (.cons (.bin .shr .u64 (.var 1) (.bin .rem .u64 (.var 15) (.lit 64))) (.cons (.bin .shr .u64 (.var 2) (.bin .rem .u64 (.var 15) (.lit 64))) (.vs 11 2 .nil))) 17
(.leaf (.vs 17 4 .nil)))
 zM)
(.br (.eq (.var 0) (.lit 6))
(.br (.bw 16)
(.br (.eq (.bin .shr .u64 ajF (.bin .rem .u64 (.var 15) (.lit 64))) (.var 2))
(.call 6 (kRg) (.cons (.bin .shl .u64 (.var 1) (.bin .rem .u64 (.var 15) (.lit 64))) (.cons ajF (.vs 11 2 .nil))) 17
(.leaf (.vs 17 4 .nil)))
 zM)
 zM)
 zM)))))))))))
(.leaf (.vs 9 4 .nil))))
(.leaf (.vs 9 4 .nil)))))
theorem amG:bp tY (smN 0 [c_rmay,c_rall,c_rsingle,c_rplus,c_rminus,c_rfill,c_rnard]) [] [] [] 200 Tryz.f161 c_rdo.a c_rdo.r (tp c_rdo.r) (.int .i8::v_Rg (v_Rg [])) ab7:=trI (by kernel_rfl)
theorem api:c_rdo.Ok Tryz.prog:=
 okc ab7 (.int .i8::v_Rg (v_Rg [])) rF (olc nK<|olc nL<|olc nJ<|olc alG<|olc agA<|olc alH<|olc adR ol0) Tryz.func161 fn0 amG<|fun op hop=>bM fun a ha=>bM fun b hb hp U g=>by
 simp only[q_Rg,gS1,Nat.reduceAdd] at g
 simp only[ab7,ajJ,ajI,ajH,ajG,ajF,ajE,zM,spQ,c_rmay,c_rall,c_rsingle,c_rplus,c_rminus,c_rfill,c_rnard,rdZ,rdB,rdL,c_rdo,q_Rg,simQ,ab,S1,Nat.reduceSub,Nat.reduceAdd,-eq_self,aS,g]
 refine an ?_
 refine an ?_
 constructor<;>intro c0
 refine an ?_
 constructor<;>intro c1
 refine an ?_
 constructor<;>intro c2
 refine an ?_
 ·exact aR (aog ha hb c0 c1 c2)
 constructor<;>intro c3
 constructor<;>intro c4
 refine an ?_
 refine an ?_
 constructor<;>intro c5
 constructor<;>intro c6
 refine an ?_
 ·exact aR (rd_0 ha hb c0 c1 c3 (akS ha hb c4) (oG c5 c6))
 refine an ?_
 ·exact aR (rd_0 ha hb c0 c1 c3 (akS ha hb c4) (gM (.inr c6)))
 refine an ?_
 ·exact aR (rd_0 ha hb c0 c1 c3 (akS ha hb c4) (gM (.inl c5)))
 refine an ?_
 refine an ?_
 constructor<;>intro c7
 constructor<;>intro c8
 refine an ?_
 ·exact aR (rd_0 ha hb c0 c1 c3 (akR ha hb c4) (oG c7 c8))
 refine an ?_
 ·exact aR (rd_0 ha hb c0 c1 c3 (akR ha hb c4) (gM (.inr c8)))
 refine an ?_
 ·exact aR (rd_0 ha hb c0 c1 c3 (akR ha hb c4) (gM (.inl c7)))
 constructor<;>intro c9
 constructor<;>intro c10
 refine an ?_
 refine an ?_
 constructor<;>intro c11
 constructor<;>intro c12
 refine an ?_
 ·exact aR (rd_1 ha hb c0 c1 c9 (kI c10) (pk c11 c12))
 refine an ?_
 ·exact aR (rd_1 ha hb c0 c1 c9 (kI c10) (gR (.inr c12)))
 refine an ?_
 ·exact aR (rd_1 ha hb c0 c1 c9 (kI c10) (gR (.inl c11)))
 refine an ?_
 refine an ?_
 constructor<;>intro c13
 constructor<;>intro c14
 refine an ?_
 ·exact aR (rd_1 ha hb c0 c1 c9 (kH c10) (pk c13 c14))
 refine an ?_
 ·exact aR (rd_1 ha hb c0 c1 c9 (kH c10) (gR (.inr c14)))
 refine an ?_
 ·exact aR (rd_1 ha hb c0 c1 c9 (kH c10) (gR (.inl c13)))
 constructor<;>intro c15
 refine an ?_
 ·exact aR (dq_5 ha hb c0 c1 c15)
 constructor<;>intro c16
 refine an ?_
 refine an ?_
 ·exact aR (rd_4 ha hb c0 c1 c16)
 constructor<;>intro c17
 refine an ?_
 refine an ?_
 ·exact aR (ao7 ha hb c0 c1 c17)
 constructor<;>intro c18
 constructor<;>intro c19
 constructor<;>intro c20
 ·(have hm:=(cy b).1 c1;have h1:=thm3 c19;have h2:=eqz c20;omega)
 constructor<;>intro c21
 ·(have hm:=(cy b).1 c1;have h1:=thm3 c19;have h2:=eqz c21;omega)
 refine an ?_
 ·exact aR (dq_3 ha hb c0 c1 c18 c19)
 refine an ?_
 ·exact aR (aof ha hb c0 c1 c18 c19)
 constructor<;>intro c22
 constructor<;>intro c23
 refine an ?_
 ·exact aR (dq_9 ha hb c0 c1 c22 c23)
 refine an ?_
 ·exact aR (aoc ha hb c0 c1 c22 c23)
 constructor<;>intro c24
 constructor<;>intro c25
 refine an ?_
 ·exact aR (rd_7 ha hb c0 c1 c24 c25)
 refine an ?_
 ·exact aR (aod ha hb c0 c1 c24 c25)
 constructor<;>intro c26
 constructor<;>intro c27
 constructor<;>intro c28
 refine an ?_
 ·exact aR (rd_6 ha hb c0 c1 c26 c27 c28)
 refine an ?_
 ·exact aR (ao6 ha hb c0 c1 c26 c27 c28)
 refine an ?_
 ·exact aR (aoe ha hb c0 c1 c26 c27)
 refine an ?_
 ·exact aR (dq_x ha hb c0 c1 c2 c3 c9 c15 c16 c17 c18 c22 c24 c26)
 ·exact aR (yc (.inr c1))
 ·exact aR (yc (.inl c0))
def c_rgiv:Cd:=⟨170,[.one (.int .i8),.agg kRg,.agg kRg],[.agg kRg,.one .bool],rdZ fun cc=>rd_Rg fun a=>rd_Rg fun b _=>d_Rg (bgiv cc a b) [.z (b2i (bgok cc a b))],T0⟩
def afb:E:=(.cons (.bin .add .i64 (.var 3) (.lit 1)) (.cons (.var 4) .nil))
def afc:Tr:=(.call 1 (kRg) .nil 13
(.leaf (.vs 13 4 (.consb (.tt false) .nil))))
def rt:Tr:=(.call 1 (kRg) .nil 11
(.leaf (.vs 11 4 (.consb (.tt false) .nil))))
def ajy:Tr:=(.call 4 (kRg++[.bool]) (.vs 1 4 .nil) 13
(.leaf (.vs 13 4 (.consb (.bw 17) .nil))))
def ajz:Tr:=(.br (.eq (.var 4) (.conv .i64 (.var 11)))
(.call 4 (kRg++[.bool]) (.vs 1 3 (.cons (.bin .sub .i64 (.var 4) (.lit 1)) .nil)) 13
(.leaf (.vs 13 4 (.consb (.bw 17) .nil))))
 ajy)
def ajA:Tr:=(.br (.eq (.var 4) (.conv .i64 (.var 11)))
(.call 4 (kRg++[.bool]) (.cons (.bin .add .u64 (.var 1) (.lit 1)) (.vs 2 2 (.cons (.bin .sub .i64 (.var 4) (.lit 1)) .nil))) 13
(.leaf (.vs 13 4 (.consb (.bw 17) .nil))))
(.call 4 (kRg++[.bool]) (.cons (.bin .add .u64 (.var 1) (.lit 1)) (.vs 2 3 .nil)) 13
(.leaf (.vs 13 4 (.consb (.bw 17) .nil)))))
def ajB:Tr:=(.br (.eq (.var 4) (.conv .i64 (.var 11)))
(.call 4 (kRg++[.bool]) (.cons (.var 1) (.cons (.bin .sub .u64 (.var 2) (.lit 1)) (.cons (.var 3) (.cons (.bin .sub .i64 (.var 4) (.lit 1)) .nil)))) 13
(.leaf (.vs 13 4 (.consb (.bw 17) .nil))))
(.call 4 (kRg++[.bool]) (.cons (.var 1) (.cons (.bin .sub .u64 (.var 2) (.lit 1)) (.vs 3 2 .nil))) 13
(.leaf (.vs 13 4 (.consb (.bw 17) .nil)))))
def ajC:Tr:=(.br (.eq (.var 2) (.var 11))
 ajB
 ajz)
def ajD:Tr:=(.br (.eq (.var 2) (.var 11))
(.br (.eq (.var 3) (.conv .i64 (.var 11)))
(.call 4 (kRg++[.bool]) (.cons (.var 1) (.cons (.bin .sub .u64 (.var 2) (.lit 1)) afb)) 13
(.leaf (.vs 13 4 (.consb (.bw 17) .nil))))
 ajB)
(.br (.eq (.var 3) (.conv .i64 (.var 11)))
(.call 4 (kRg++[.bool]) (.vs 1 2 afb) 13
(.leaf (.vs 13 4 (.consb (.bw 17) .nil))))
 ajz))
def uz:Tr:=
(.call 0 [.bool] (.vs 1 4 .nil) 9
(.br (.bw 9)
(.call 0 [.bool] (.vs 5 4 .nil) 10
(.br (.bw 10)
(.br (.lt (.var 0) (.lit 0))
 rt
(.br (.lt (.lit 10) (.var 0))
 rt
(.br (.eq (.var 0) (.lit 0))
(.call 2 (kRg++[.bool]) (.vs 1 8 .nil) 11
(.leaf (.vs 11 4 (.consb (.bw 15) .nil))))
(.br (.eq (.var 0) (.lit 1))
(.call 3 [.int .u64,.bool] (.vs 5 4 .nil) 11
(.br (.bw 12)
(.br (.eq (.var 1) (.var 2))
(.br (.eq (.var 1) (.var 11))
 afc
(.br (.eq (.var 3) (.var 4))
(.br (.eq (.var 3) (.conv .i64 (.var 11)))
 afc
 ajC)
 ajD))
(.br (.eq (.var 3) (.var 4))
(.br (.eq (.var 3) (.conv .i64 (.var 11)))
 afc
(.br (.eq (.var 1) (.var 11))
 ajA
 ajC))
(.br (.eq (.var 1) (.var 11))
(.br (.eq (.var 3) (.conv .i64 (.var 11)))
(.call 4 (kRg++[.bool]) (.cons (.bin .add .u64 (.var 1) (.lit 1)) (.cons (.var 2) afb)) 13
(.leaf (.vs 13 4 (.consb (.bw 17) .nil))))
 ajA)
 ajD)))
 ajy))
(.br (.eq (.var 0) (.lit 2))
(.br (.eq (.var 5) (.lit 18446744073709551615))
 rt
(.call 4 (kRg++[.bool]) (.cons (.mx (.var 1) (.bin .add .u64 (.var 5) (.lit 1))) (.vs 2 3 .nil)) 11
(.leaf (.vs 11 4 (.consb (.bw 15) .nil)))))
(.br (.eq (.var 0) (.lit 3))
(.call 4 (kRg++[.bool]) (.cons (.mx (.var 1) (.var 5)) (.vs 2 3 .nil)) 11
(.leaf (.vs 11 4 (.consb (.bw 15) .nil))))
(.br (.eq (.var 0) (.lit 4))
(.br (.eq (.var 6) (.lit 0))
 rt
(.call 4 (kRg++[.bool]) (.cons (.var 1) (.cons (.mn (.var 2) (.bin .sub .u64 (.var 6) (.lit 1))) (.vs 3 2 .nil))) 11
(.leaf (.vs 11 4 (.consb (.bw 15) .nil)))))
(.br (.eq (.var 0) (.lit 5))
(.call 4 (kRg++[.bool]) (.cons (.var 1) (.cons (.mn (.var 2) (.var 6)) (.vs 3 2 .nil))) 11
(.leaf (.vs 11 4 (.consb (.bw 15) .nil))))
(.br (.eq (.var 0) (.lit 6))
(.br (.eq (.var 7) (.lit 9223372036854775807))
 rt
(.call 4 (kRg++[.bool]) (.vs 1 2 (.cons (.mx (.var 3) (.bin .add .i64 (.var 7) (.lit 1))) (.cons (.var 4) .nil))) 11
(.leaf (.vs 11 4 (.consb (.bw 15) .nil)))))
(.br (.eq (.var 0) (.lit 7))
(.call 4 (kRg++[.bool]) (.vs 1 2 (.cons (.mx (.var 3) (.var 7)) (.cons (.var 4) .nil))) 11
(.leaf (.vs 11 4 (.consb (.bw 15) .nil))))
(.br (.eq (.var 0) (.lit 8))
(.br (.eq (.var 8) (.lit (-9223372036854775808)))
 rt
(.call 4 (kRg++[.bool]) (.vs 1 3 (.cons (.mn (.var 4) (.bin .sub .i64 (.var 8) (.lit 1))) .nil)) 11
(.leaf (.vs 11 4 (.consb (.bw 15) .nil)))))
(.br (.eq (.var 0) (.lit 9))
(.call 4 (kRg++[.bool]) (.vs 1 3 (.cons (.mn (.var 4) (.var 8)) .nil)) 11
(.leaf (.vs 11 4 (.consb (.bw 15) .nil))))
(.call 4 (kRg++[.bool]) (.vs 1 4 .nil) 11
(.leaf (.vs 11 4 (.consb (.bw 15) .nil))))))))))))))))
 rt))
(.call 1 (kRg) .nil 10
(.leaf (.vs 10 4 (.consb (.tt false) .nil))))))
theorem akL:bp tY (smN 0 [c_rmay,c_rall,c_rmeet,c_rsingle,c_rnar]) [] [] [] 200 Tryz.f170 c_rgiv.a c_rgiv.r (tp c_rgiv.r) (.int .i8::v_Rg (v_Rg [])) uz:=trI (by kernel_rfl)
theorem anB:c_rgiv.Ok Tryz.prog:=
 okc uz (.int .i8::v_Rg (v_Rg [])) rF (olc nK<|olc nL<|olc adT<|olc nJ<|olc adS ol0) Tryz.func170 fn0 akL<|fun cc hcc=>bM fun a ha=>bM fun b hb hp U g=>by
 simp only[q_Rg,gS1,Nat.reduceAdd] at g
 simp only[uz,ajD,ajC,ajB,ajA,ajz,ajy,rt,afc,afb,spQ,c_rmay,c_rall,c_rmeet,c_rsingle,c_rnar,rdZ,rdB,rdL,c_rgiv,q_Rg,simQ,ab,S1,Nat.reduceSub,Nat.reduceAdd,-eq_self,aS,g]
 refine an ?_
 constructor<;>intro c0
 refine an ?_
 constructor<;>intro c1
 constructor<;>intro c2
 refine an ?_
 ·exact bU (bW (.inl (by unfold fF;rw[c0,c1,eR (show¬0<=cc from Int.not_le.2 (thm3 c2))];rfl))).1 (bW (.inl (by unfold fF;rw[c0,c1,eR (show¬0<=cc from Int.not_le.2 (thm3 c2))];rfl))).2
 constructor<;>intro c3
 refine an ?_
 ·exact bU (bW (.inl (by unfold fF;rw[c0,c1,eR (show¬cc<=10 from Int.not_le.2 (thm3 c3))];simp))).1 (bW (.inl (by unfold fF;rw[c0,c1,eR (show¬cc<=10 from Int.not_le.2 (thm3 c3))];simp))).2
 have hcc:0<=cc/\cc<=10:=⟨ar.1 (thm2 c2),ar.1 (thm2 c3)⟩
 have hg:=bI c0 c1 hcc
 have hm:=(cy a).1 c0
 obtain⟨⟨a0,a1⟩,⟨a2,a3⟩,⟨a4,a5⟩,a6,a7⟩:=Rg.wf_of ha
 obtain⟨⟨b0,b1⟩,⟨b2,b3⟩,⟨b4,b5⟩,b6,b7⟩:=Rg.wf_of hb
 constructor<;>intro c4
 refine an ?_
 ·(have hcc:0<=cc/\cc<=10:=⟨ar.1 (thm2 c2),ar.1 (thm2 c3)⟩;have hg:=bI c0 c1 hcc;obtain rfl:=eqz c4;exact bU (agN hg).1 (agN hg).2)
 constructor<;>intro c5
 refine an ?_
 constructor<;>intro c6
 constructor<;>intro c7
 constructor<;>intro c8
 refine an ?_
 ·(obtain rfl:=eqz c5;simp only[aZ,beq_eq_false_iff_ne,ne_eq] at c7 c8;exact aH (bW (.inr ⟨by omega,gn_1 c6 (by omega)⟩)))
 constructor<;>intro c9
 constructor<;>intro c10
 refine an ?_
 ·(obtain rfl:=eqz c5;simp only[aZ,beq_eq_false_iff_ne,ne_eq] at c7 c8 c9 c10;exact aH (bW (.inr ⟨by omega,gn_1 c6 (by omega)⟩)))
 constructor<;>intro c11
 constructor<;>intro c12
 refine an ?_
 ·(obtain rfl:=eqz c5;simp only[aZ,beq_eq_false_iff_ne,ne_eq] at c7 c8 c9 c10 c11 c12;exact aH (aQ (by omega) hg (gc_1 c6 (by omega) (by omega)) (by refine gr_1 c6 ?_ ?_ ?_ ?_<;>(try simp only[dP,dH,dQ,dJ])<;>split<;>omega)))
 refine an ?_
 ·(obtain rfl:=eqz c5;simp only[aZ,beq_eq_false_iff_ne,ne_eq] at c7 c8 c9 c10 c11 c12;exact aH (aQ (by omega) hg (gc_1 c6 (by omega) (by omega)) (by refine gr_1 c6 ?_ ?_ ?_ ?_<;>(try simp only[dP,dH,dQ,dJ])<;>split<;>omega)))
 constructor<;>intro c13
 refine an ?_
 ·(obtain rfl:=eqz c5;simp only[aZ,beq_eq_false_iff_ne,ne_eq] at c7 c8 c9 c10 c11 c13;exact aH (aQ (by omega) hg (gc_1 c6 (by omega) (by omega)) (by refine gr_1 c6 ?_ ?_ ?_ ?_<;>(try simp only[dP,dH,dQ,dJ])<;>split<;>omega)))
 refine an ?_
 ·(obtain rfl:=eqz c5;simp only[aZ,beq_eq_false_iff_ne,ne_eq] at c7 c8 c9 c10 c11 c13;exact aH (aQ (by omega) hg (gc_1 c6 (by omega) (by omega)) (by refine gr_1 c6 ?_ ?_ ?_ ?_<;>(try simp only[dP,dH,dQ,dJ])<;>split<;>omega)))
 constructor<;>intro c14
 constructor<;>intro c15
 refine an ?_
 ·(obtain rfl:=eqz c5;simp only[aZ,beq_eq_false_iff_ne,ne_eq] at c7 c8 c9 c14 c15;exact aH (aQ (by omega) hg (gc_1 c6 (by omega) (by omega)) (by refine gr_1 c6 ?_ ?_ ?_ ?_<;>(try simp only[dP,dH,dQ,dJ])<;>split<;>omega)))
 constructor<;>intro c16
 refine an ?_
 ·(obtain rfl:=eqz c5;simp only[aZ,beq_eq_false_iff_ne,ne_eq] at c7 c8 c9 c14 c15 c16;exact aH (aQ (by omega) hg (gc_1 c6 (by omega) (by omega)) (by refine gr_1 c6 ?_ ?_ ?_ ?_<;>(try simp only[dP,dH,dQ,dJ])<;>split<;>omega)))
 refine an ?_
 ·(obtain rfl:=eqz c5;simp only[aZ,beq_eq_false_iff_ne,ne_eq] at c7 c8 c9 c14 c15 c16;exact aH (aQ (by omega) hg (gc_1 c6 (by omega) (by omega)) (by refine gr_1 c6 ?_ ?_ ?_ ?_<;>(try simp only[dP,dH,dQ,dJ])<;>split<;>omega)))
 constructor<;>intro c17
 refine an ?_
 ·(obtain rfl:=eqz c5;simp only[aZ,beq_eq_false_iff_ne,ne_eq] at c7 c8 c9 c14 c17;exact aH (aQ (by omega) hg (gc_1 c6 (by omega) (by omega)) (by refine gr_1 c6 ?_ ?_ ?_ ?_<;>(try simp only[dP,dH,dQ,dJ])<;>split<;>omega)))
 constructor<;>intro c18
 refine an ?_
 ·(obtain rfl:=eqz c5;simp only[aZ,beq_eq_false_iff_ne,ne_eq] at c7 c8 c9 c14 c17 c18;exact aH (aQ (by omega) hg (gc_1 c6 (by omega) (by omega)) (by refine gr_1 c6 ?_ ?_ ?_ ?_<;>(try simp only[dP,dH,dQ,dJ])<;>split<;>omega)))
 refine an ?_
 ·(obtain rfl:=eqz c5;simp only[aZ,beq_eq_false_iff_ne,ne_eq] at c7 c8 c9 c14 c17 c18;exact aH (aQ (by omega) hg (gc_1 c6 (by omega) (by omega)) (by refine gr_1 c6 ?_ ?_ ?_ ?_<;>(try simp only[dP,dH,dQ,dJ])<;>split<;>omega)))
 constructor<;>intro c19
 constructor<;>intro c20
 refine an ?_
 ·(obtain rfl:=eqz c5;simp only[aZ,beq_eq_false_iff_ne,ne_eq] at c7 c19 c20;exact aH (bW (.inr ⟨by omega,gn_1 c6 (by omega)⟩)))
 constructor<;>intro c21
 constructor<;>intro c22
 refine an ?_
 ·(obtain rfl:=eqz c5;simp only[aZ,beq_eq_false_iff_ne,ne_eq] at c7 c19 c20 c21 c22;exact aH (aQ (by omega) hg (gc_1 c6 (by omega) (by omega)) (by refine gr_1 c6 ?_ ?_ ?_ ?_<;>(try simp only[dP,dH,dQ,dJ])<;>split<;>omega)))
 refine an ?_
 ·(obtain rfl:=eqz c5;simp only[aZ,beq_eq_false_iff_ne,ne_eq] at c7 c19 c20 c21 c22;exact aH (aQ (by omega) hg (gc_1 c6 (by omega) (by omega)) (by refine gr_1 c6 ?_ ?_ ?_ ?_<;>(try simp only[dP,dH,dQ,dJ])<;>split<;>omega)))
 constructor<;>intro c23
 constructor<;>intro c24
 refine an ?_
 ·(obtain rfl:=eqz c5;simp only[aZ,beq_eq_false_iff_ne,ne_eq] at c7 c19 c20 c21 c23 c24;exact aH (aQ (by omega) hg (gc_1 c6 (by omega) (by omega)) (by refine gr_1 c6 ?_ ?_ ?_ ?_<;>(try simp only[dP,dH,dQ,dJ])<;>split<;>omega)))
 refine an ?_
 ·(obtain rfl:=eqz c5;simp only[aZ,beq_eq_false_iff_ne,ne_eq] at c7 c19 c20 c21 c23 c24;exact aH (aQ (by omega) hg (gc_1 c6 (by omega) (by omega)) (by refine gr_1 c6 ?_ ?_ ?_ ?_<;>(try simp only[dP,dH,dQ,dJ])<;>split<;>omega)))
 constructor<;>intro c25
 refine an ?_
 ·(obtain rfl:=eqz c5;simp only[aZ,beq_eq_false_iff_ne,ne_eq] at c7 c19 c20 c21 c23 c25;exact aH (aQ (by omega) hg (gc_1 c6 (by omega) (by omega)) (by refine gr_1 c6 ?_ ?_ ?_ ?_<;>(try simp only[dP,dH,dQ,dJ])<;>split<;>omega)))
 refine an ?_
 ·(obtain rfl:=eqz c5;simp only[aZ,beq_eq_false_iff_ne,ne_eq] at c7 c19 c20 c21 c23 c25;exact aH (aQ (by omega) hg (gc_1 c6 (by omega) (by omega)) (by refine gr_1 c6 ?_ ?_ ?_ ?_<;>(try simp only[dP,dH,dQ,dJ])<;>split<;>omega)))
 constructor<;>intro c26
 constructor<;>intro c27
 refine an ?_
 ·(obtain rfl:=eqz c5;simp only[aZ,beq_eq_false_iff_ne,ne_eq] at c7 c19 c26 c27;exact aH (aQ (by omega) hg (gc_1 c6 (by omega) (by omega)) (by refine gr_1 c6 ?_ ?_ ?_ ?_<;>(try simp only[dP,dH,dQ,dJ])<;>split<;>omega)))
 constructor<;>intro c28
 refine an ?_
 ·(obtain rfl:=eqz c5;simp only[aZ,beq_eq_false_iff_ne,ne_eq] at c7 c19 c26 c27 c28;exact aH (aQ (by omega) hg (gc_1 c6 (by omega) (by omega)) (by refine gr_1 c6 ?_ ?_ ?_ ?_<;>(try simp only[dP,dH,dQ,dJ])<;>split<;>omega)))
 refine an ?_
 ·(obtain rfl:=eqz c5;simp only[aZ,beq_eq_false_iff_ne,ne_eq] at c7 c19 c26 c27 c28;exact aH (aQ (by omega) hg (gc_1 c6 (by omega) (by omega)) (by refine gr_1 c6 ?_ ?_ ?_ ?_<;>(try simp only[dP,dH,dQ,dJ])<;>split<;>omega)))
 constructor<;>intro c29
 constructor<;>intro c30
 refine an ?_
 ·(obtain rfl:=eqz c5;simp only[aZ,beq_eq_false_iff_ne,ne_eq] at c7 c19 c26 c29 c30;exact aH (aQ (by omega) hg (gc_1 c6 (by omega) (by omega)) (by refine gr_1 c6 ?_ ?_ ?_ ?_<;>(try simp only[dP,dH,dQ,dJ])<;>split<;>omega)))
 constructor<;>intro c31
 refine an ?_
 ·(obtain rfl:=eqz c5;simp only[aZ,beq_eq_false_iff_ne,ne_eq] at c7 c19 c26 c29 c30 c31;exact aH (aQ (by omega) hg (gc_1 c6 (by omega) (by omega)) (by refine gr_1 c6 ?_ ?_ ?_ ?_<;>(try simp only[dP,dH,dQ,dJ])<;>split<;>omega)))
 refine an ?_
 ·(obtain rfl:=eqz c5;simp only[aZ,beq_eq_false_iff_ne,ne_eq] at c7 c19 c26 c29 c30 c31;exact aH (aQ (by omega) hg (gc_1 c6 (by omega) (by omega)) (by refine gr_1 c6 ?_ ?_ ?_ ?_<;>(try simp only[dP,dH,dQ,dJ])<;>split<;>omega)))
 constructor<;>intro c32
 refine an ?_
 ·(obtain rfl:=eqz c5;simp only[aZ,beq_eq_false_iff_ne,ne_eq] at c7 c19 c26 c29 c32;exact aH (aQ (by omega) hg (gc_1 c6 (by omega) (by omega)) (by refine gr_1 c6 ?_ ?_ ?_ ?_<;>(try simp only[dP,dH,dQ,dJ])<;>split<;>omega)))
 constructor<;>intro c33
 refine an ?_
 ·(obtain rfl:=eqz c5;simp only[aZ,beq_eq_false_iff_ne,ne_eq] at c7 c19 c26 c29 c32 c33;exact aH (aQ (by omega) hg (gc_1 c6 (by omega) (by omega)) (by refine gr_1 c6 ?_ ?_ ?_ ?_<;>(try simp only[dP,dH,dQ,dJ])<;>split<;>omega)))
 refine an ?_
 ·(obtain rfl:=eqz c5;simp only[aZ,beq_eq_false_iff_ne,ne_eq] at c7 c19 c26 c29 c32 c33;exact aH (aQ (by omega) hg (gc_1 c6 (by omega) (by omega)) (by refine gr_1 c6 ?_ ?_ ?_ ?_<;>(try simp only[dP,dH,dQ,dJ])<;>split<;>omega)))
 refine an ?_
 ·(obtain rfl:=eqz c5;exact aH (aQ (by omega) hg (aiv ha hb c6) (ait ha hb c6)))
 constructor<;>intro c34
 constructor<;>intro c35
 refine an ?_
 ·(obtain rfl:=eqz c34;exact aH (bW (.inr ⟨by omega,by have h:=eqz c35;simp[bcan,h]⟩)))
 refine an ?_
 ·(obtain rfl:=eqz c34;exact aH (aQ (by omega) hg (by have h:=nez c35;simp[bcan,h]) (by have h:=nez c35;(try simp only[dP,dH,dQ,dJ]);rw[Rg.ext_iff];unfold brng;simp;omega)))
 constructor<;>intro c36
 refine an ?_
 ·(obtain rfl:=eqz c36;exact aH (aQ (by omega) hg (by simp[bcan]) (by simp[brng])))
 constructor<;>intro c37
 constructor<;>intro c38
 refine an ?_
 ·(obtain rfl:=eqz c37;exact aH (bW (.inr ⟨by omega,by have h:=eqz c38;simp[bcan,h]⟩)))
 refine an ?_
 ·(obtain rfl:=eqz c37;exact aH (aQ (by omega) hg (by have h:=nez c38;simp[bcan,h]) (by have h:=nez c38;(try simp only[dP,dH,dQ,dJ]);rw[Rg.ext_iff];unfold brng;simp;omega)))
 constructor<;>intro c39
 refine an ?_
 ·(obtain rfl:=eqz c39;exact aH (aQ (by omega) hg (by simp[bcan]) (by simp[brng])))
 constructor<;>intro c40
 constructor<;>intro c41
 refine an ?_
 ·(obtain rfl:=eqz c40;exact aH (bW (.inr ⟨by omega,by have h:=eqz c41;simp[bcan,h]⟩)))
 refine an ?_
 ·(obtain rfl:=eqz c40;exact aH (aQ (by omega) hg (by have h:=nez c41;simp[bcan,h]) (by have h:=nez c41;(try simp only[dP,dH,dQ,dJ]);rw[Rg.ext_iff];unfold brng;simp;omega)))
 constructor<;>intro c42
 refine an ?_
 ·(obtain rfl:=eqz c42;exact aH (aQ (by omega) hg (by simp[bcan]) (by simp[brng])))
 constructor<;>intro c43
 constructor<;>intro c44
 refine an ?_
 ·(obtain rfl:=eqz c43;exact aH (bW (.inr ⟨by omega,by have h:=eqz c44;simp[bcan,h]⟩)))
 refine an ?_
 ·(obtain rfl:=eqz c43;exact aH (aQ (by omega) hg (by have h:=nez c44;simp[bcan,h]) (by have h:=nez c44;(try simp only[dP,dH,dQ,dJ]);rw[Rg.ext_iff];unfold brng;simp;omega)))
 constructor<;>intro c45
 refine an ?_
 ·(obtain rfl:=eqz c45;exact aH (aQ (by omega) hg (by simp[bcan]) (by simp[brng])))
 refine an ?_
 ·(have hcc:0<=cc/\cc<=10:=⟨ar.1 (thm2 c2),ar.1 (thm2 c3)⟩;have hg:=bI c0 c1 hcc;obtain rfl:cc=10:=(by have:=nez c4;have h1:=nez c5;have h2:=nez c34;have h3:=nez c36;have h4:=nez c37;have h5:=nez c39;have h6:=nez c40;have h7:=nez c42;have h8:=nez c43;have h9:=nez c45;omega);have hq:=aQ (by omega) hg (aiw ha hb) (aiu ha hb);exact bU hq.1 hq.2)
 refine an ?_
 ·exact bU (bW (.inl (by unfold fF;rw[c0,c1];rfl))).1 (bW (.inl (by unfold fF;rw[c0,c1];rfl))).2
 refine an ?_
 ·exact bU (bW (.inl (by unfold fF;rw[c0];rfl))).1 (bW (.inl (by unfold fF;rw[c0];rfl))).2
theorem oh {lo hi:Int} {m:Nat} (heq:lo / 2 ^ m=hi / 2 ^ m):∀(k n:Nat),n<=m->m<=n+k->(∀i,n<=i->i<m->¬lo / 2 ^ i=hi / 2 ^ i)->ol lo hi k n=m
 | 0,n,h1,h2,_=>by simp only[ol];omega
 | k+1,n,h1,h2,h=>by
   unfold ol
   by_cases hn:n=m
   ·subst hn;rw[if_pos heq]
   ·rw[if_neg (h n (Nat.le_refl _) (by omega))]
    exact oh heq k (n+1) (by omega) (by omega) (fun i hi1 hi2=>h i (by omega) hi2)
theorem yd {x y:Int} (h1:0<=x) (h2:x<=18446744073709551615) (h3:0<=y) (h4:y<=18446744073709551615) (n:Nat):x / 2 ^ n=y / 2 ^ n↔aE (bits .xor .u64 x y).toNat<=n:=by
 obtain⟨a,rfl⟩:=jv h1
 obtain⟨b,rfl⟩:=jv h3
 rw[u64_xor_nat a b (by omega) (by omega),show((2:Int) ^ n)=((2 ^ n:Nat):Int) from by simp]
 have e:(((a ^^^ b:Nat):Int)).toNat=a ^^^ b:=by simp
 rw[e]
 have key:a / 2 ^ n=b / 2 ^ n↔(a ^^^ b) / 2 ^ n=0:=by
  rw[<-Nat.shiftRight_eq_div_pow,<-Nat.shiftRight_eq_div_pow,<-Nat.shiftRight_eq_div_pow,Nat.shiftRight_xor_distrib,gW]
 have h5:((a:Int) / ((2 ^ n:Nat):Int)=(b:Int) / ((2 ^ n:Nat):Int))↔a / 2 ^ n=b / 2 ^ n:=by
  constructor
  ·intro h;exact_mod_cast h
  ·intro h;exact_mod_cast h
 rw[h5,key,Nat.div_eq_zero_iff]
 constructor
 ·rintro (h | h)
  ·have:=Nat.pow_pos (n:=n) (show 0<2 by omega);omega
  ·exact eh h
 ·intro h
  right
  exact mL (rh _) (Nat.pow_le_pow_right (by omega) h)
theorem agv {x y:Int} (h1:0<=x) (h2:x<=18446744073709551615) (h3:0<=y) (h4:y<=18446744073709551615):kcn x y=aE (bits .xor .u64 x y).toNat:=by
 have hx:=vF x y
 have hb:aE (bits .xor .u64 x y).toNat<=64:=eh (by omega)
 exact oh ((yd h1 h2 h3 h4 _).2 (Nat.le_refl _)) 64 0 (by omega) (by omega) (fun i _ hi=>by rw[yd h1 h2 h3 h4];omega)
theorem te {r:Rg} (hr:r.wf) (h:bmay r=true):gG r.ul r.uh=kcom r:=by
 have hm:=(cy r).1 h
 unfold gG kcom
 rw[if_neg (by omega),agv hr.1.1 hr.1.2 hr.2.1.1 hr.2.1.2]
 rfl
theorem aeI {a b:Rg} (h:eP a b=true):bmay (dV a b)=true:=by
 unfold dV
 rw[if_pos h]
 unfold eP at h
 simp only[thm0] at h
 exact aeJ h.2.2
theorem wo_1 {a:Sc} (_:a.wf) (h:vs1 a=false):(if(vs1 a&&vs2 a)=true then vst a else vall)=vall/\(vs1 a&&vs2 a)=false:=by
 rw[h];exact⟨rfl,rfl⟩
theorem aew {a:Sc} (w:a.wf) (h1:vs1 a=true):gG (dV a.r (vlo a.k)).ul (dV a.r (vlo a.k)).uh=kcom (dV a.r (vlo a.k)):=te (vH w.r (ahg w.k)) (aeI h1)
theorem wo_2 {a:Sc} (w:a.wf) (h1:vs1 a=true) (h2:dC a.k (gG (dV a.r (vlo a.k)).ul (dV a.r (vlo a.k)).uh)=false):(if(vs1 a&&vs2 a)=true then vst a else vall)=vall/\(vs1 a&&vs2 a)=false:=by
 rw[aew w h1] at h2
 have h3:vs2 a=false:=h2
 rw[h1,h3];exact⟨rfl,rfl⟩
theorem wo_3 {a:Sc} (w:a.wf) (h1:vs1 a=true) (h2:dC a.k (gG (dV a.r (vlo a.k)).ul (dV a.r (vlo a.k)).uh)=true):
  (if(vs1 a&&vs2 a)=true then vst a else vall)=sc (dV a.r (vlo a.k)) (ja a.k (gG (dV a.r (vlo a.k)).ul (dV a.r (vlo a.k)).uh))/\(vs1 a&&vs2 a)=true:=by
 rw[aew w h1] at h2 ⊢
 have h3:vs2 a=true:=h2
 rw[h1,h3];exact⟨rfl,rfl⟩
theorem wn_1 {a:Sc} (h:vmay a=false):vnar a=vall/\vnok a=false:=vn_f (.inl h)
theorem wn_2 {a:Sc} (_:vmay a=true) (h:(vs1 a&&vs2 a)=false):vnar a=vall/\vnok a=false:=by
 rw[Bool.and_eq_false_iff] at h
 rcases h with h | h
 ·exact vn_f (.inr (.inl h))
 ·exact vn_f (.inr (.inr (.inl h)))
theorem wn_3 {a:Sc} (h:vmay a=true) (h2:(vs1 a&&vs2 a)=true):vnar a=(if(vs1 (if(vs1 a&&vs2 a)=true then vst a else vall)&&vs2 (if(vs1 a&&vs2 a)=true then vst a else vall))=true then vst (if(vs1 a&&vs2 a)=true then vst a else vall) else vall)/\
  vnok a=(vs1 (if(vs1 a&&vs2 a)=true then vst a else vall)&&vs2 (if(vs1 a&&vs2 a)=true then vst a else vall)):=by
 rw[if_pos h2]
 rw[thm0] at h2
 have e:vnok a=(vs1 (vst a)&&vs2 (vst a)):=by unfold vnok;rw[h,h2.1,h2.2];rfl
 refine⟨?_,e⟩
 unfold vnar
 rw[e]
theorem aU {r s:Sc} (h:r=s):[Dt.z r.ul,.z r.uh,.z r.sl,.z r.sh,.z r.v,.z r.m]=[Dt.z s.ul,.z s.uh,.z s.sl,.z s.sh,.z s.v,.z s.m]:=by rw[h]
def vbyt (n:Int):Sc:=vbel (2 ^ (8*(min (max n 1) 8).toNat)-1)
theorem eg (n:Int):min (max n 1) 8=1\/min (max n 1) 8=2\/min (max n 1) 8=3\/min (max n 1) 8=4\/min (max n 1) 8=5\/min (max n 1) 8=6\/min (max n 1) 8=7\/min (max n 1) 8=8:=by omega
theorem rA:vcap (blow ball)=blow ball:=by unfold vcap;split<;>rfl
theorem vh_n {op:Int} {a b:Sc} (h:op=8\/op=12):dc op a b=vcap (blow ball):=by unfold dc;rw[if_pos h,rA]
theorem vh_o {op:Int} {a b:Sc} (h:op=6\/op=7) (hb:pI b=false):dc op a b=vcap (blow ball):=by
 unfold dc
 rw[if_neg (by omega),if_pos h,if_neg (by rw[hb];simp),rA]
theorem yx {b:Sc} (w:b.wf):0<=cR b/\cR b<=18446744073709551615:=by
 unfold cR
 split
 ·unfold aj
  split
  ·exact w.r.1
  ·omega
 ·omega
theorem vh_s {op:Int} {a b:Sc} (w:b.wf) (h:op=6\/op=7) (hb:pI b=true):dc op a b=vcap (bdo op a.r (bone (opI .rem .u64 (cR b) 32))):=by
 have hd:=yx w
 unfold dc
 rw[if_neg (by omega),if_pos h,if_pos hb]
 have e:opI .and .u64 (cR b) 31=opI .rem .u64 (cR b) 32:=by
  show bits .and .u64 (cR b) 31=(cR b).tmod 32
  rw[aoz _ hd.1 hd.2,Int.tmod_eq_emod_of_nonneg hd.1]
 rw[e]
 rfl
theorem vh_d {op:Int} {a b:Sc} (h6:op≠6) (h7:op≠7) (h8:op≠8) (h12:op≠12):dc op a b=vcap (bdo op a.r b.r):=by
 unfold dc
 rw[if_neg (by omega),if_neg (by omega)]
theorem agi {op l:Int} (hk:okop op l=true) (n:l≠64):l=32:=by
 unfold okop fY at hk
 simp only[thm0,ba,ey,aZ] at hk
 rcases hk.2 with h | h<;>omega
theorem wd_1 {op l:Int} {a b:Sc} (h0:vmay a=true) (h1:vmay b=true) (hk:okop op l=true) (n:l≠64) {r:Rg} (hr:dc op (vlow a) (vlow b)=vcap r) (hl:decide (r.uh<4294967296)=true) (ho:vnok (sc r (kdo op 32 (vlow a).k (vlow b).k))=true):
  vdo op l a b=vnar (sc r (kdo op 32 (vlow a).k (vlow b).k)):=by
 obtain rfl:=agi hk n
 have e:vhf op 32 a b=sc r (kdo op 32 (vlow a).k (vlow b).k):=by unfold vhf;rw[hr];unfold vcap;rw[if_pos (thm3 hl)]
 unfold vdo
 rw[if_pos ⟨hk,h0,h1⟩,if_neg n,e,if_pos ho]
theorem wd_2 {op l:Int} {a b:Sc} (h0:vmay a=true) (h1:vmay b=true) (hk:okop op l=true) (n:l≠64) {r:Rg} (hr:dc op (vlow a) (vlow b)=vcap r) (hl:decide (r.uh<4294967296)=true) (ho:vnok (sc r (kdo op 32 (vlow a).k (vlow b).k))=false):
  vdo op l a b=vbel 4294967295:=by
 obtain rfl:=agi hk n
 have e:vhf op 32 a b=sc r (kdo op 32 (vlow a).k (vlow b).k):=by unfold vhf;rw[hr];unfold vcap;rw[if_pos (thm3 hl)]
 unfold vdo
 rw[if_pos ⟨hk,h0,h1⟩,if_neg n,e,if_neg (by rw[ho];simp)]
theorem wd_3 {op l:Int} {a b:Sc} (h0:vmay a=true) (h1:vmay b=true) (hk:okop op l=true) (n:l≠64) {r:Rg} (hr:dc op (vlow a) (vlow b)=vcap r) (hl:decide (r.uh<4294967296)=false) (ho:vnok (sc (blow ball) (kdo op 32 (vlow a).k (vlow b).k))=true):
  vdo op l a b=vnar (sc (blow ball) (kdo op 32 (vlow a).k (vlow b).k)):=by
 obtain rfl:=agi hk n
 have e:vhf op 32 a b=sc (blow ball) (kdo op 32 (vlow a).k (vlow b).k):=by unfold vhf;rw[hr];unfold vcap;rw[if_neg (thm2 hl)]
 unfold vdo
 rw[if_pos ⟨hk,h0,h1⟩,if_neg n,e,if_pos ho]
theorem wd_4 {op l:Int} {a b:Sc} (h0:vmay a=true) (h1:vmay b=true) (hk:okop op l=true) (n:l≠64) {r:Rg} (hr:dc op (vlow a) (vlow b)=vcap r) (hl:decide (r.uh<4294967296)=false) (ho:vnok (sc (blow ball) (kdo op 32 (vlow a).k (vlow b).k))=false):
  vdo op l a b=vbel 4294967295:=by
 obtain rfl:=agi hk n
 have e:vhf op 32 a b=sc (blow ball) (kdo op 32 (vlow a).k (vlow b).k):=by unfold vhf;rw[hr];unfold vcap;rw[if_neg (thm2 hl)]
 unfold vdo
 rw[if_pos ⟨hk,h0,h1⟩,if_neg n,e,if_neg (by rw[ho];simp)]
theorem aj5 {op l:Int} {a b:Sc} (h:¬(okop op l=true/\vmay a=true/\vmay b=true)):vdo op l a b=vall:=if_neg h
theorem aoN {op:Int} {a b:Sc} (h0:vmay a=true) (h1:vmay b=true) (hk:okop op 64=true):vdo op 64 a b=vnar (sc (bdo op a.r b.r) (kdo op 64 a.k b.k)):=by
 unfold vdo
 rw[if_pos ⟨hk,h0,h1⟩,if_pos rfl]
end Go.Proofs.YtfkhblmeioiciaaGreatDoor
