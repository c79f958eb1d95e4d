import Derived.Test.YtghiofgomcihcaaRows
import Derived.Test.YtghiofgomcihcaaLib
import Derived.WalkKit
import Derived.WalkSpells
import Derived.WalkLawsBesides
import Derived.Laws.EntriesVeiled
set_option linter.unusedVariables false
set_option linter.unusedSimpArgs false
namespace Go.Proofs.Ytghiofgomcihcaa
open Go.RowKit
def cR (a:Int):Bool:=a==32||a==64
def jf (a:Int):Bool:=a==8||a==16||a==32||a==64
def zcut (v a:Int):Int:=if a=8 then v % 256 else if a=16 then v % 65536 else if a=32 then v % 4294967296 else v
def zsgn (v b:Int):Int:=if v % (2*b)<b then v % (2*b) else 18446744073709551616-2*b+v % (2*b)
def lC (v a:Int):Int:=if a=8 then zsgn v 128 else if a=16 then zsgn v 32768 else if a=32 then zsgn v 2147483648 else v
set_option maxHeartbeats 400000 in
theorem iW (a:Int) (w:World):
  Calls Try.prog 85 #[.int .i8 a] w fun e w'=>e=.returned (.bool (cR a))∧w=w':=by
 go_enter Try.func85,Try.ntmps85
 go_wp2
 all_goals go_ret
 all_goals (refine⟨mf ?_,rfl⟩; simp_all [cR])
set_option maxHeartbeats 400000 in
theorem fS (a:Int) (w:World):
  Calls Try.prog 66 #[.int .i8 a] w fun e w'=>e=.returned (.bool (cR a))∧w=w':=by
 go_enter Try.func66,Try.ntmps66
 go_wp2
 all_goals go_ret
 all_goals (refine⟨mf ?_,rfl⟩; simp_all [cR])
set_option maxHeartbeats 400000 in
theorem gO (a:Int) (w:World):
  Calls Try.prog 81 #[.int .i8 a] w fun e w'=>e=.returned (.bool (jf a))∧w=w':=by
 go_enter Try.func81,Try.ntmps81
 go_wp2
 all_goals go_ret
 all_goals (refine⟨mf ?_,rfl⟩; simp_all [jf])
set_option maxHeartbeats 400000 in
theorem pW (v a:Int) (w:World) (h0:0≤v) (h1:v≤18446744073709551615):
  Calls Try.prog 86 #[.int .u64 v,.int .i8 a] w fun e w'=>e=.returned (.int .u64 (zcut v a))∧w=w':=by
 go_enter Try.func86,Try.ntmps86
 go_wp2
 all_goals go_ret
 all_goals (refine⟨aT ?_,rfl⟩)
 all_goals (simp only[beq_iff_eq,beq_eq_false_iff_ne] at *; simp only[zcut,abZ,gB, *]; first | rfl | (simp; done) | (simp; omega))
set_option maxHeartbeats 400000 in
theorem qv (v a:Int) (w:World) (h0:0≤v) (h1:v≤18446744073709551615):
  Calls Try.prog 91 #[.int .u64 v,.int .i8 a] w fun e w'=>e=.returned (.int .u64 (lC v a))∧w=w':=by
 go_enter Try.func91,Try.ntmps91
 go_wp2
 all_goals go_ret
 all_goals (refine⟨aT ?_,rfl⟩)
 all_goals (simp only[beq_iff_eq,beq_eq_false_iff_ne] at *; simp only[lC,zsgn,abZ,gB,w_i8,acU,w_32,w_64, *]; first | rfl | (simp; done) | (simp; split<;>omega))
set_option maxHeartbeats 400000 in
theorem dq (v a:Int) (w:World) (h0:0≤v) (h1:v≤18446744073709551615):
  Calls Try.prog 67 #[.int .u64 v,.int .i8 a] w fun e w'=>e=.returned (.int .u64 (zcut v a))∧w=w':=by
 go_enter Try.func67,Try.ntmps67
 go_wp2_with (go_at_call 81; refine(gO _ _).mono ?_; rintro e w' ⟨rfl,rfl⟩)
 all_goals go_ret
 all_goals (refine⟨aT ?_,rfl⟩)
 ·rename_i h; simp at h; subst h; simp[zcut]
 ·rename_i hw h
  simp[jf] at hw h
  rcases hw with((rfl | rfl) | rfl) | rfl
  ·simp only[gB,zcut]; simp; exact acO v h0 h1
  ·simp only[gB,zcut]; simp; exact xE 16 (by omega) v h0 h1
  ·simp only[gB,zcut]; simp; exact xE 32 (by omega) v h0 h1
  ·omega
 ·rename_i hw
  simp[jf] at hw
  simp[zcut,hw]
theorem bY (v a:Int) (h0:0≤v) (h1:v≤18446744073709551615):0≤zcut v a∧zcut v a≤18446744073709551615:=by
 unfold zcut; split<;>(try split)<;>(try split)<;>omega
set_option maxHeartbeats 1000000 in
theorem nW (v a:Int) (w:World) (h0:0≤v) (h1:v≤18446744073709551615):
  Calls Try.prog 68 #[.int .u64 v,.int .i8 a] w fun e w'=>e=.returned (.int .u64 (lC v a))∧w=w':=by
 obtain⟨hc1,hc2⟩:=bY v a h0 h1
 by_cases hw:jf a=true
 ·have hw':=hw
  simp[jf] at hw'
  rcases hw' with((rfl | rfl) | rfl) | rfl
  all_goals
   go_enter Try.func68,Try.ntmps68
   go_wp2_with (first | (go_at_call 81; refine(gO _ _).mono ?_; rintro e w' ⟨rfl,rfl⟩) | (go_at_call 67; refine(dq _ _ _ (by omega) (by omega)).mono ?_; rintro e w' ⟨rfl,rfl⟩))
   all_goals go_ret
   all_goals (refine⟨aT ?_,rfl⟩)
  all_goals (rename_i hb; rw[and1 _ (by omega) (by omega)] at hb; simp[zcut] at hc1 hc2 hb; simp[zcut,lC,zsgn,gB]; try (first | (split<;>omega) | omega))
 ·go_enter Try.func68,Try.ntmps68
  go_wp2_with (first | (go_at_call 81; refine(gO _ _).mono ?_; rintro e w' ⟨rfl,rfl⟩) | (go_at_call 67; refine(dq _ _ _ (by omega) (by omega)).mono ?_; rintro e w' ⟨rfl,rfl⟩))
  go_ret
  refine⟨aT ?_,rfl⟩
  simp[jf] at hw
  simp[lC,hw]
end Go.Proofs.Ytghiofgomcihcaa
set_option linter.unusedVariables false
set_option linter.unusedSimpArgs false
namespace Go.Proofs.Ytghiofgomcihcaa
open Go.RowKit
def cL:Array Value:= #[.func (.func 92) #[] #[],.func (.func 93) #[] #[],.func (.func 94) #[] #[],.func (.func 95) #[] #[],.func (.func 96) #[] #[],.func (.func 97) #[] #[],.func (.func 98) #[] #[],.func (.func 99) #[] #[],.func (.func 100) #[] #[],.func (.func 101) #[] #[],.func (.func 102) #[] #[],.func (.func 103) #[] #[],.func (.func 104) #[] #[]]
set_option maxHeartbeats 400000 in
theorem aa3 (w:World):
  Calls Try.prog 87 #[] w fun e w'=>e=.returned (.agg cL)∧Below w.heap.size w w':=by
 go_enter Try.func87,Try.ntmps87
 go_wp2
 exact bodyPost_ret (by simp[results,Try.results87,go_sem]; rfl) rfl ⟨rfl,(Below.refl _ _).alloc (Nat.le_refl _) _⟩
theorem ix0 (W:World):(Instr.index 123 (.agg cL) (.int .i8 0)).run Try.prog W=.ok (.func (.func 92) #[] #[]) W:=by kernel_rfl
theorem ix1 (W:World):(Instr.index 123 (.agg cL) (.int .i8 1)).run Try.prog W=.ok (.func (.func 93) #[] #[]) W:=by kernel_rfl
theorem ix2 (W:World):(Instr.index 123 (.agg cL) (.int .i8 2)).run Try.prog W=.ok (.func (.func 94) #[] #[]) W:=by kernel_rfl
theorem ix3 (W:World):(Instr.index 123 (.agg cL) (.int .i8 3)).run Try.prog W=.ok (.func (.func 95) #[] #[]) W:=by kernel_rfl
theorem ix4 (W:World):(Instr.index 123 (.agg cL) (.int .i8 4)).run Try.prog W=.ok (.func (.func 96) #[] #[]) W:=by kernel_rfl
theorem ix5 (W:World):(Instr.index 123 (.agg cL) (.int .i8 5)).run Try.prog W=.ok (.func (.func 97) #[] #[]) W:=by kernel_rfl
theorem ix6 (W:World):(Instr.index 123 (.agg cL) (.int .i8 6)).run Try.prog W=.ok (.func (.func 98) #[] #[]) W:=by kernel_rfl
theorem ix7 (W:World):(Instr.index 123 (.agg cL) (.int .i8 7)).run Try.prog W=.ok (.func (.func 99) #[] #[]) W:=by kernel_rfl
theorem ix8 (W:World):(Instr.index 123 (.agg cL) (.int .i8 8)).run Try.prog W=.ok (.func (.func 100) #[] #[]) W:=by kernel_rfl
theorem ix9 (W:World):(Instr.index 123 (.agg cL) (.int .i8 9)).run Try.prog W=.ok (.func (.func 101) #[] #[]) W:=by kernel_rfl
theorem ix10 (W:World):(Instr.index 123 (.agg cL) (.int .i8 10)).run Try.prog W=.ok (.func (.func 102) #[] #[]) W:=by kernel_rfl
theorem ix11 (W:World):(Instr.index 123 (.agg cL) (.int .i8 11)).run Try.prog W=.ok (.func (.func 103) #[] #[]) W:=by kernel_rfl
theorem ix12 (W:World):(Instr.index 123 (.agg cL) (.int .i8 12)).run Try.prog W=.ok (.func (.func 104) #[] #[]) W:=by kernel_rfl
def zop (op w a b y:Int):Int:=
 if op=0 then(a+b) % 18446744073709551616
 else if op=1 then(a-b) % 18446744073709551616
 else if op=2 then(a*b) % 18446744073709551616
 else if op=3 then(if b=0 then 0 else a / b)
 else if op=4 then((a.toNat ||| b.toNat:Nat):Int)
 else if op=5 then((a.toNat &&& b.toNat:Nat):Int)
 else if op=6 then(a*2 ^ y.toNat) % 18446744073709551616
 else if op=7 then a / 2 ^ y.toNat
 else if op=8 then(0-a) % 18446744073709551616
 else if op=9 then(if b=0 then a else a % b)
 else if op=10 then((a.toNat ^^^ b.toNat:Nat):Int)
 else if op=11 then b
 else(wrap64 (lC a w) / 2 ^ y.toNat) % 18446744073709551616
def zdo (op w a b:Int):Int:=zcut (zop op w (zcut a w) (zcut b w) (zcut b w % w)) w
set_option maxHeartbeats 1000000 in
theorem abf (a b y a1:Int) (w:World) (h0:0≤a) (h1:a≤18446744073709551615) (h2:0≤b) (h3:b≤18446744073709551615) (h4:0≤y) (h5:y≤63):
  Calls Try.prog 92 #[.int .u64 a,.int .u64 b,.int .u64 y,.int .i8 a1] w fun e w'=>e=.returned (.int .u64 (zop 0 a1 a b y))∧w=w':=by
 go_enter Try.func92,Try.ntmps92
 go_wp2
 all_goals go_ret
 all_goals (refine⟨aT ?_,rfl⟩)
 all_goals simp[zop,gB]
set_option maxHeartbeats 1000000 in
theorem abe (a b y a1:Int) (w:World) (h0:0≤a) (h1:a≤18446744073709551615) (h2:0≤b) (h3:b≤18446744073709551615) (h4:0≤y) (h5:y≤63):
  Calls Try.prog 93 #[.int .u64 a,.int .u64 b,.int .u64 y,.int .i8 a1] w fun e w'=>e=.returned (.int .u64 (zop 1 a1 a b y))∧w=w':=by
 go_enter Try.func93,Try.ntmps93
 go_wp2
 all_goals go_ret
 all_goals (refine⟨aT ?_,rfl⟩)
 all_goals simp[zop,gB]
set_option maxHeartbeats 1000000 in
theorem abd (a b y a1:Int) (w:World) (h0:0≤a) (h1:a≤18446744073709551615) (h2:0≤b) (h3:b≤18446744073709551615) (h4:0≤y) (h5:y≤63):
  Calls Try.prog 94 #[.int .u64 a,.int .u64 b,.int .u64 y,.int .i8 a1] w fun e w'=>e=.returned (.int .u64 (zop 2 a1 a b y))∧w=w':=by
 go_enter Try.func94,Try.ntmps94
 go_wp2
 all_goals go_ret
 all_goals (refine⟨aT ?_,rfl⟩)
 all_goals simp[zop,gB]
set_option maxHeartbeats 1000000 in
theorem abc (a b y a1:Int) (w:World) (h0:0≤a) (h1:a≤18446744073709551615) (h2:0≤b) (h3:b≤18446744073709551615) (h4:0≤y) (h5:y≤63):
  Calls Try.prog 95 #[.int .u64 a,.int .u64 b,.int .u64 y,.int .i8 a1] w fun e w'=>e=.returned (.int .u64 (zop 3 a1 a b y))∧w=w':=by
 by_cases hz:b=0
 ·subst hz
  go_enter Try.func95,Try.ntmps95
  go_wp2
  all_goals go_ret
  all_goals (refine⟨aT ?_,rfl⟩)
  all_goals simp[zop]
 ·go_enter Try.func95,Try.ntmps95
  go_wp2
  all_goals go_ret
  all_goals (refine⟨aT ?_,rfl⟩)
  all_goals simp[zop,hz]
set_option maxHeartbeats 1000000 in
theorem abb (a b y a1:Int) (w:World) (h0:0≤a) (h1:a≤18446744073709551615) (h2:0≤b) (h3:b≤18446744073709551615) (h4:0≤y) (h5:y≤63):
  Calls Try.prog 96 #[.int .u64 a,.int .u64 b,.int .u64 y,.int .i8 a1] w fun e w'=>e=.returned (.int .u64 (zop 4 a1 a b y))∧w=w':=by
 go_enter Try.func96,Try.ntmps96
 go_wp2
 all_goals go_ret
 all_goals (refine⟨aT ?_,rfl⟩)
 all_goals (rw[u64_or _ _ h0 (by omega) h2 (by omega)]; simp[zop])
set_option maxHeartbeats 1000000 in
theorem aba (a b y a1:Int) (w:World) (h0:0≤a) (h1:a≤18446744073709551615) (h2:0≤b) (h3:b≤18446744073709551615) (h4:0≤y) (h5:y≤63):
  Calls Try.prog 97 #[.int .u64 a,.int .u64 b,.int .u64 y,.int .i8 a1] w fun e w'=>e=.returned (.int .u64 (zop 5 a1 a b y))∧w=w':=by
 go_enter Try.func97,Try.ntmps97
 go_wp2
 all_goals go_ret
 all_goals (refine⟨aT ?_,rfl⟩)
 all_goals (rw[u64_and _ _ h0 (by omega) h2 (by omega)]; simp[zop])
set_option maxHeartbeats 1000000 in
theorem aa9 (a b y a1:Int) (w:World) (h0:0≤a) (h1:a≤18446744073709551615) (h2:0≤b) (h3:b≤18446744073709551615) (h4:0≤y) (h5:y≤63):
  Calls Try.prog 98 #[.int .u64 a,.int .u64 b,.int .u64 y,.int .i8 a1] w fun e w'=>e=.returned (.int .u64 (zop 6 a1 a b y))∧w=w':=by
 go_enter Try.func98,Try.ntmps98
 go_wp2
 all_goals go_ret
 all_goals (refine⟨aT ?_,rfl⟩)
 all_goals simp[zop,gB]
set_option maxHeartbeats 1000000 in
theorem aa8 (a b y a1:Int) (w:World) (h0:0≤a) (h1:a≤18446744073709551615) (h2:0≤b) (h3:b≤18446744073709551615) (h4:0≤y) (h5:y≤63):
  Calls Try.prog 99 #[.int .u64 a,.int .u64 b,.int .u64 y,.int .i8 a1] w fun e w'=>e=.returned (.int .u64 (zop 7 a1 a b y))∧w=w':=by
 go_enter Try.func99,Try.ntmps99
 go_wp2
 all_goals go_ret
 all_goals (refine⟨aT ?_,rfl⟩)
 all_goals simp[zop]
set_option maxHeartbeats 1000000 in
theorem aa7 (a b y a1:Int) (w:World) (h0:0≤a) (h1:a≤18446744073709551615) (h2:0≤b) (h3:b≤18446744073709551615) (h4:0≤y) (h5:y≤63):
  Calls Try.prog 100 #[.int .u64 a,.int .u64 b,.int .u64 y,.int .i8 a1] w fun e w'=>e=.returned (.int .u64 (zop 8 a1 a b y))∧w=w':=by
 go_enter Try.func100,Try.ntmps100
 go_wp2
 all_goals go_ret
 all_goals (refine⟨aT ?_,rfl⟩)
 all_goals simp[zop,gB]
set_option maxHeartbeats 1000000 in
theorem aa6 (a b y a1:Int) (w:World) (h0:0≤a) (h1:a≤18446744073709551615) (h2:0≤b) (h3:b≤18446744073709551615) (h4:0≤y) (h5:y≤63):
  Calls Try.prog 101 #[.int .u64 a,.int .u64 b,.int .u64 y,.int .i8 a1] w fun e w'=>e=.returned (.int .u64 (zop 9 a1 a b y))∧w=w':=by
 by_cases hz:b=0
 ·subst hz
  go_enter Try.func101,Try.ntmps101
  go_wp2
  all_goals go_ret
  all_goals (refine⟨aT ?_,rfl⟩)
  all_goals simp[zop]
 ·go_enter Try.func101,Try.ntmps101
  go_wp2
  all_goals go_ret
  all_goals (refine⟨aT ?_,rfl⟩)
  all_goals simp[zop,hz]
set_option maxHeartbeats 1000000 in
theorem yH (a b y a1:Int) (w:World) (h0:0≤a) (h1:a≤18446744073709551615) (h2:0≤b) (h3:b≤18446744073709551615) (h4:0≤y) (h5:y≤63):
  Calls Try.prog 102 #[.int .u64 a,.int .u64 b,.int .u64 y,.int .i8 a1] w fun e w'=>e=.returned (.int .u64 (zop 10 a1 a b y))∧w=w':=by
 go_enter Try.func102,Try.ntmps102
 go_wp2
 all_goals go_ret
 all_goals (refine⟨aT ?_,rfl⟩)
 all_goals (rw[u64_xor _ _ h0 (by omega) h2 (by omega)]; simp[zop])
set_option maxHeartbeats 1000000 in
theorem yG (a b y a1:Int) (w:World) (h0:0≤a) (h1:a≤18446744073709551615) (h2:0≤b) (h3:b≤18446744073709551615) (h4:0≤y) (h5:y≤63):
  Calls Try.prog 103 #[.int .u64 a,.int .u64 b,.int .u64 y,.int .i8 a1] w fun e w'=>e=.returned (.int .u64 (zop 11 a1 a b y))∧w=w':=by
 go_enter Try.func103,Try.ntmps103
 go_wp2
 all_goals go_ret
 all_goals (refine⟨aT ?_,rfl⟩)
 all_goals simp[zop]
set_option maxHeartbeats 1000000 in
theorem yF (a b y a1:Int) (w:World) (h0:0≤a) (h1:a≤18446744073709551615) (h2:0≤b) (h3:b≤18446744073709551615) (h4:0≤y) (h5:y≤63):
  Calls Try.prog 104 #[.int .u64 a,.int .u64 b,.int .u64 y,.int .i8 a1] w fun e w'=>e=.returned (.int .u64 (zop 12 a1 a b y))∧w=w':=by
 go_enter Try.func104,Try.ntmps104
 go_wp2_with (go_at_call 91; refine(qv _ _ _ (by omega) (by omega)).mono ?_; rintro e w' ⟨rfl,rfl⟩)
 all_goals go_ret
 all_goals (refine⟨aT ?_,rfl⟩)
 all_goals simp[zop,gB]
end Go.Proofs.Ytghiofgomcihcaa
set_option linter.unusedVariables false
set_option linter.unusedSimpArgs false
namespace Go.Proofs.Ytghiofgomcihcaa
open Go.RowKit
attribute [local go_sem] ix0 ix1 ix2 ix3 ix4 ix5 ix6 ix7 ix8 ix9 ix10 ix11 ix12
theorem rm {op:Int} (h4:0≤op) (h5:op≤12):op=0∨op=1∨op=2∨op=3∨op=4∨op=5∨op=6∨op=7∨op=8∨op=9∨op=10∨op=11∨op=12:=by omega
theorem ach (k:Nat):(0:Int)<2 ^ k:=Int.pow_pos (by omega)
theorem tH (op w a b y:Int) (h0:0≤a) (h1:a≤18446744073709551615) (h2:0≤b) (h3:b≤18446744073709551615):0≤zop op w a b y∧zop op w a b y≤18446744073709551615:=by
 have e1:=Int.ediv_nonneg h0 h2
 have e2:=Int.ediv_le_self b h0
 have e3:=Nat.or_lt_two_pow (n:=64) (x:=a.toNat) (y:=b.toNat) (by omega) (by omega)
 have e4:=Nat.and_le_left (n:=a.toNat) (m:=b.toNat)
 have e5:=Nat.xor_lt_two_pow (n:=64) (x:=a.toNat) (y:=b.toNat) (by omega) (by omega)
 have e6:=Int.ediv_nonneg h0 (Int.le_of_lt (ach y.toNat))
 have e7:=Int.ediv_le_self (2 ^ y.toNat) h0
 have e8:b≠0→0≤a % b∧a % b<b:=fun h=>⟨Int.emod_nonneg a h,Int.emod_lt_of_pos a (by omega)⟩
 unfold zop
 repeat' split
 all_goals omega
theorem ymod (w b:Int) (h2:0≤b) (h3:b≤18446744073709551615) (hw:cR w=true):bits .and .u64 b (w-1)=b % w∧32≤w∧w≤64∧0≤b % w∧b % w≤63:=by
 simp[cR] at hw
 rcases hw with rfl | rfl
 ·exact⟨adc b h2 h3,by omega,by omega,by omega,by omega⟩
 ·exact⟨adb b h2 h3,by omega,by omega,by omega,by omega⟩
set_option maxHeartbeats 4000000 in
theorem acI (op w1 a b:Int) (w:World) (h0:0≤a) (h1:a≤18446744073709551615) (h2:0≤b) (h3:b≤18446744073709551615) (h4:0≤op) (h5:op≤12) (hw:cR w1=true):
  Calls Try.prog 73 #[.int .i8 op,.int .i8 w1,.int .u64 a,.int .u64 b] w fun e w'=>e=.returned (.tuple #[.int .u64 (zdo op w1 a b),.int .i64 0])∧Below w.heap.size w w':=by
 obtain⟨ha1,ha2⟩:=bY a w1 h0 h1
 obtain⟨hb1,hb2⟩:=bY b w1 h2 h3
 obtain⟨hy,hw1,hw2,hy1,hy2⟩:=ymod w1 (zcut b w1) hb1 hb2 hw
 obtain⟨hz1,hz2⟩:=tH op w1 (zcut a w1) (zcut b w1) (zcut b w1 % w1) ha1 ha2 hb1 hb2
 rcases rm h4 h5 with rfl | rfl | rfl | rfl | rfl | rfl | rfl | rfl | rfl | rfl | rfl | rfl | rfl
 all_goals
  go_enter Try.func73,Try.ntmps73
  go_wp2_with (first
   | (go_at_call 85; refine(iW _ _).mono ?_; rintro e w' ⟨rfl,rfl⟩)
   | (go_at_call 86; refine(pW _ _ _ (by omega) (by omega)).mono ?_; rintro e w' ⟨rfl,rfl⟩)
   | (go_at_call 87; refine(aa3 _).mono ?_; rintro e w1 ⟨rfl,hb1⟩)
   | (go_at_call 92; refine(abf _ _ _ _ _ (by omega) (by omega) (by omega) (by omega) (by omega) (by omega)).mono ?_; rintro e w' ⟨rfl,rfl⟩)
   | (go_at_call 93; refine(abe _ _ _ _ _ (by omega) (by omega) (by omega) (by omega) (by omega) (by omega)).mono ?_; rintro e w' ⟨rfl,rfl⟩)
   | (go_at_call 94; refine(abd _ _ _ _ _ (by omega) (by omega) (by omega) (by omega) (by omega) (by omega)).mono ?_; rintro e w' ⟨rfl,rfl⟩)
   | (go_at_call 95; refine(abc _ _ _ _ _ (by omega) (by omega) (by omega) (by omega) (by omega) (by omega)).mono ?_; rintro e w' ⟨rfl,rfl⟩)
   | (go_at_call 96; refine(abb _ _ _ _ _ (by omega) (by omega) (by omega) (by omega) (by omega) (by omega)).mono ?_; rintro e w' ⟨rfl,rfl⟩)
   | (go_at_call 97; refine(aba _ _ _ _ _ (by omega) (by omega) (by omega) (by omega) (by omega) (by omega)).mono ?_; rintro e w' ⟨rfl,rfl⟩)
   | (go_at_call 98; refine(aa9 _ _ _ _ _ (by omega) (by omega) (by omega) (by omega) (by omega) (by omega)).mono ?_; rintro e w' ⟨rfl,rfl⟩)
   | (go_at_call 99; refine(aa8 _ _ _ _ _ (by omega) (by omega) (by omega) (by omega) (by omega) (by omega)).mono ?_; rintro e w' ⟨rfl,rfl⟩)
   | (go_at_call 100; refine(aa7 _ _ _ _ _ (by omega) (by omega) (by omega) (by omega) (by omega) (by omega)).mono ?_; rintro e w' ⟨rfl,rfl⟩)
   | (go_at_call 101; refine(aa6 _ _ _ _ _ (by omega) (by omega) (by omega) (by omega) (by omega) (by omega)).mono ?_; rintro e w' ⟨rfl,rfl⟩)
   | (go_at_call 102; refine(yH _ _ _ _ _ (by omega) (by omega) (by omega) (by omega) (by omega) (by omega)).mono ?_; rintro e w' ⟨rfl,rfl⟩)
   | (go_at_call 103; refine(yG _ _ _ _ _ (by omega) (by omega) (by omega) (by omega) (by omega) (by omega)).mono ?_; rintro e w' ⟨rfl,rfl⟩)
   | (go_at_call 104; refine(yF _ _ _ _ _ (by omega) (by omega) (by omega) (by omega) (by omega) (by omega)).mono ?_; rintro e w' ⟨rfl,rfl⟩))
  go_ret2
  exact⟨rfl,‹_›⟩
set_option maxHeartbeats 1000000 in
theorem acH (op w1 a b:Int) (w:World) (hbad:(decide (op<0)||decide (12<op) ||!cR w1)=true):
  Calls Try.prog 73 #[.int .i8 op,.int .i8 w1,.int .u64 a,.int .u64 b] w fun e w'=>e=.returned (.tuple #[.int .u64 0,.int .i64 2])∧w=w':=by
 have hc:op<0∨(0≤op∧12<op)∨(0≤op∧op≤12∧cR w1=false):=by
  by_cases h1:op<0
  ·exact .inl h1
  ·by_cases h2:12<op
   ·exact .inr (.inl ⟨by omega,h2⟩)
   ·exact .inr (.inr ⟨by omega,by omega,by simpa[h1,h2] using hbad⟩)
 clear hbad
 rcases hc with h | ⟨h,h'⟩ | ⟨h,h',hw⟩
 all_goals
  go_enter Try.func73,Try.ntmps73
  go_wp2_with (go_at_call 85; refine(iW _ _).mono ?_; rintro e w' ⟨rfl,rfl⟩)
  go_ret2
  exact⟨rfl,rfl⟩
set_option maxHeartbeats 1000000 in
theorem aaY (op w1 a b:Int) (w:World) (hbad:(decide (op<0)||decide (12<op) ||!cR w1)=true):
  Calls Try.prog 43 #[.int .i8 op,.int .i8 w1,.int .u64 a,.int .u64 b] w fun e w'=>e=.returned (.tuple #[.int .u64 0,.int .i64 2])∧w=w':=by
 have hc:op<0∨(0≤op∧12<op)∨(0≤op∧op≤12∧cR w1=false):=by
  by_cases h1:op<0
  ·exact .inl h1
  ·by_cases h2:12<op
   ·exact .inr (.inl ⟨by omega,h2⟩)
   ·exact .inr (.inr ⟨by omega,by omega,by simpa[h1,h2] using hbad⟩)
 clear hbad
 rcases hc with h | ⟨h,h'⟩ | ⟨h,h',hw⟩
 all_goals
  go_enter Try.func43,Try.ntmps43
  go_wp2_with (go_at_call 66; refine(fS _ _).mono ?_; rintro e w' ⟨rfl,rfl⟩)
  go_ret2
  exact⟨rfl,rfl⟩
theorem aa0 (x v a:Int) (w:World) (hx:x=v) (h0:0≤v) (h1:v≤18446744073709551615):
  Calls Try.prog 67 #[.int .u64 x,.int .i8 a] w fun e w'=>e=.returned (.int .u64 (zcut v a))∧w=w':=by
 subst hx; exact dq x a w h0 h1
set_option maxHeartbeats 4000000 in
theorem aaZ (op w1 a b:Int) (w:World) (h0:0≤a) (h1:a≤18446744073709551615) (h2:0≤b) (h3:b≤18446744073709551615) (h4:0≤op) (h5:op≤12) (hw:cR w1=true):
  Calls Try.prog 43 #[.int .i8 op,.int .i8 w1,.int .u64 a,.int .u64 b] w fun e w'=>e=.returned (.tuple #[.int .u64 (zdo op w1 a b),.int .i64 0])∧w=w':=by
 obtain⟨ha1,ha2⟩:=bY a w1 h0 h1
 obtain⟨hb1,hb2⟩:=bY b w1 h2 h3
 obtain⟨hy,hw1,hw2,hy1,hy2⟩:=ymod w1 (zcut b w1) hb1 hb2 hw
 obtain⟨hz1,hz2⟩:=tH op w1 (zcut a w1) (zcut b w1) (zcut b w1 % w1) ha1 ha2 hb1 hb2
 rcases rm h4 h5 with rfl | rfl | rfl | rfl | rfl | rfl | rfl | rfl | rfl | rfl | rfl | rfl | rfl
 all_goals
  go_enter Try.func43,Try.ntmps43
  go_wp2_with (first
   | (go_at_call 66; refine(fS _ _).mono ?_; rintro e w' ⟨rfl,rfl⟩)
   | (go_at_call 68; refine(nW _ _ _ (by omega) (by omega)).mono ?_; rintro e w' ⟨rfl,rfl⟩)
   | (go_at_call 67; with_reducible refine(dq a _ _ (by omega) (by omega)).mono ?_; rintro e w' ⟨rfl,rfl⟩)
   | (go_at_call 67; with_reducible refine(dq b _ _ (by omega) (by omega)).mono ?_; rintro e w' ⟨rfl,rfl⟩)
   | (go_at_call 67; refine Calls.mono (aa0 _ _ _ _ ?_ hz1 hz2) ?_; rotate_left 1; rintro e w' ⟨rfl,rfl⟩))
 all_goals first
  | (go_ret2; exact⟨rfl,rfl⟩)
  | (rw[u64_or _ _ ha1 (by omega) hb1 (by omega)]; simp[zop]; done)
  | (rw[u64_and _ _ ha1 (by omega) hb1 (by omega)]; simp[zop]; done)
  | (rw[u64_xor _ _ ha1 (by omega) hb1 (by omega)]; simp[zop]; done)
  | (simp[zop,gB]; done)
  | (have:zcut b w1=0:=by omega
     simp[zop,this]; done)
  | (have:zcut b w1≠0:=by omega
     simp[zop,this]; done)
end Go.Proofs.Ytghiofgomcihcaa
set_option linter.unusedVariables false
set_option linter.unusedSimpArgs false
namespace Go.Proofs.Ytghiofgomcihcaa
open Go.RowKit
theorem zl (op w a b:Int) (h0:0≤a) (h1:a≤18446744073709551615) (h2:0≤b) (h3:b≤18446744073709551615):0≤zdo op w a b∧zdo op w a b≤18446744073709551615:=by
 obtain⟨ha1,ha2⟩:=bY a w h0 h1
 obtain⟨hb1,hb2⟩:=bY b w h2 h3
 obtain⟨hz1,hz2⟩:=tH op w (zcut a w) (zcut b w) (zcut b w % w) ha1 ha2 hb1 hb2
 exact bY _ _ hz1 hz2
end Go.Proofs.Ytghiofgomcihcaa
set_option linter.unusedVariables false
set_option linter.unusedSimpArgs false
namespace Go.Proofs.Ytghiofgomcihcaa
open Go.RowKit
def zs (v w:Int):Int:=wrap64 (lC (zcut v w) w)
end Go.Proofs.Ytghiofgomcihcaa
set_option linter.unusedVariables false
set_option linter.unusedSimpArgs false
namespace Go.Proofs.Ytghiofgomcihcaa
open Go.RowKit
def zord (a b:Int):Int:=if a<b then -1 else if b<a then 1 else 0
def iE (cc w a b:Int):Bool:=
 if cc=0 then zcut a w==zcut b w
 else if cc=1 then zcut a w != zcut b w
 else if cc=2 then decide (zcut b w<zcut a w)
 else if cc=3 then decide (zcut b w≤zcut a w)
 else if cc=4 then decide (zcut a w<zcut b w)
 else if cc=5 then decide (zcut a w≤zcut b w)
 else if cc=6 then decide (zs b w<zs a w)
 else if cc=7 then decide (zs b w≤zs a w)
 else if cc=8 then decide (zs a w<zs b w)
 else if cc=9 then decide (zs a w≤zs b w)
 else bits .and .u64 (zcut a w) (zcut b w) != 0
set_option maxHeartbeats 400000 in
theorem yC (a b:Int) (w:World):
  Calls Try.prog 89 #[.int .u64 a,.int .u64 b] w fun e w'=>e=.returned (.int .i64 (zord a b))∧w=w':=by
 go_enter Try.func89,Try.ntmps89
 go_wp2
 all_goals go_ret
 all_goals (refine⟨aT ?_,rfl⟩; simp only[zord])
 all_goals (repeat' split)<;>first | rfl | omega
set_option maxHeartbeats 400000 in
theorem yD (a b:Int) (w:World):
  Calls Try.prog 90 #[.int .i64 a,.int .i64 b] w fun e w'=>e=.returned (.int .i64 (zord a b))∧w=w':=by
 go_enter Try.func90,Try.ntmps90
 go_wp2
 all_goals go_ret
 all_goals (refine⟨aT ?_,rfl⟩; simp only[zord])
 all_goals (repeat' split)<;>first | rfl | omega
theorem ic0 (W:World) (x0 x1 x2 x3 x4 x5 x6 x7 x8 x9:Value):(Instr.index 129 (.agg #[x0,x1,x2,x3,x4,x5,x6,x7,x8,x9]) (.int .i8 0)).run Try.prog W=.ok x0 W:=by kernel_rfl
theorem ic1 (W:World) (x0 x1 x2 x3 x4 x5 x6 x7 x8 x9:Value):(Instr.index 129 (.agg #[x0,x1,x2,x3,x4,x5,x6,x7,x8,x9]) (.int .i8 1)).run Try.prog W=.ok x1 W:=by kernel_rfl
theorem ic2 (W:World) (x0 x1 x2 x3 x4 x5 x6 x7 x8 x9:Value):(Instr.index 129 (.agg #[x0,x1,x2,x3,x4,x5,x6,x7,x8,x9]) (.int .i8 2)).run Try.prog W=.ok x2 W:=by kernel_rfl
theorem ic3 (W:World) (x0 x1 x2 x3 x4 x5 x6 x7 x8 x9:Value):(Instr.index 129 (.agg #[x0,x1,x2,x3,x4,x5,x6,x7,x8,x9]) (.int .i8 3)).run Try.prog W=.ok x3 W:=by kernel_rfl
theorem ic4 (W:World) (x0 x1 x2 x3 x4 x5 x6 x7 x8 x9:Value):(Instr.index 129 (.agg #[x0,x1,x2,x3,x4,x5,x6,x7,x8,x9]) (.int .i8 4)).run Try.prog W=.ok x4 W:=by kernel_rfl
theorem ic5 (W:World) (x0 x1 x2 x3 x4 x5 x6 x7 x8 x9:Value):(Instr.index 129 (.agg #[x0,x1,x2,x3,x4,x5,x6,x7,x8,x9]) (.int .i8 5)).run Try.prog W=.ok x5 W:=by kernel_rfl
theorem ic6 (W:World) (x0 x1 x2 x3 x4 x5 x6 x7 x8 x9:Value):(Instr.index 129 (.agg #[x0,x1,x2,x3,x4,x5,x6,x7,x8,x9]) (.int .i8 6)).run Try.prog W=.ok x6 W:=by kernel_rfl
theorem ic7 (W:World) (x0 x1 x2 x3 x4 x5 x6 x7 x8 x9:Value):(Instr.index 129 (.agg #[x0,x1,x2,x3,x4,x5,x6,x7,x8,x9]) (.int .i8 7)).run Try.prog W=.ok x7 W:=by kernel_rfl
theorem ic8 (W:World) (x0 x1 x2 x3 x4 x5 x6 x7 x8 x9:Value):(Instr.index 129 (.agg #[x0,x1,x2,x3,x4,x5,x6,x7,x8,x9]) (.int .i8 8)).run Try.prog W=.ok x8 W:=by kernel_rfl
theorem ic9 (W:World) (x0 x1 x2 x3 x4 x5 x6 x7 x8 x9:Value):(Instr.index 129 (.agg #[x0,x1,x2,x3,x4,x5,x6,x7,x8,x9]) (.int .i8 9)).run Try.prog W=.ok x9 W:=by kernel_rfl
theorem so {op:Int} (h4:0≤op) (h5:op≤10):op=0∨op=1∨op=2∨op=3∨op=4∨op=5∨op=6∨op=7∨op=8∨op=9∨op=10:=by omega
attribute [local go_sem] ic0 ic1 ic2 ic3 ic4 ic5 ic6 ic7 ic8 ic9
theorem zG (a b:Int):(zord a b==0)=(a==b):=by unfold zord; rw[Bool.eq_iff_iff]; simp only[beq_iff_eq]; (repeat' split)<;>omega
theorem acj (a b:Int):(zord a b != 0)=(a != b):=by rw[bne,bne,zG]
theorem zE (a b:Int):decide (0<zord a b)=decide (b<a):=by unfold zord; rw[decide_eq_decide]; (repeat' split)<;>omega
theorem zF (a b:Int):decide (0≤zord a b)=decide (b≤a):=by unfold zord; rw[decide_eq_decide]; (repeat' split)<;>omega
theorem zC (a b:Int):decide (zord a b<0)=decide (a<b):=by unfold zord; rw[decide_eq_decide]; (repeat' split)<;>omega
theorem zD (a b:Int):decide (zord a b≤0)=decide (a≤b):=by unfold zord; rw[decide_eq_decide]; (repeat' split)<;>omega
set_option maxRecDepth 100000 in
set_option maxHeartbeats 4000000 in
theorem wR (cc w1 a b:Int) (w:World) (h0:0≤a) (h1:a≤18446744073709551615) (h2:0≤b) (h3:b≤18446744073709551615) (h4:0≤cc) (h5:cc≤10) (hw:cR w1=true):
  Calls Try.prog 79 #[.int .i8 cc,.int .i8 w1,.int .u64 a,.int .u64 b] w fun e w'=>e=.returned (.tuple #[.bool (iE cc w1 a b),.int .i64 0])∧w=w':=by
 obtain⟨ha1,ha2⟩:=bY a w1 h0 h1
 obtain⟨hb1,hb2⟩:=bY b w1 h2 h3
 rcases so h4 h5 with rfl | rfl | rfl | rfl | rfl | rfl | rfl | rfl | rfl | rfl | rfl
 all_goals
  go_enter Try.func79,Try.ntmps79
  go_wp2_with (first
   | (go_at_call 85; refine(iW _ _).mono ?_; rintro e w' ⟨rfl,rfl⟩)
   | (go_at_call 86; with_reducible refine(pW a _ _ (by omega) (by omega)).mono ?_; rintro e w' ⟨rfl,rfl⟩)
   | (go_at_call 86; with_reducible refine(pW b _ _ (by omega) (by omega)).mono ?_; rintro e w' ⟨rfl,rfl⟩)
   | (go_at_call 91; refine(qv _ _ _ (by omega) (by omega)).mono ?_; rintro e w' ⟨rfl,rfl⟩)
   | (go_at_call 89; refine(yC _ _ _).mono ?_; rintro e w' ⟨rfl,rfl⟩)
   | (go_at_call 90; refine(yD _ _ _).mono ?_; rintro e w' ⟨rfl,rfl⟩)
   | fail)
  go_ret2
  refine⟨?_,rfl⟩
  first
   | (simp[iE,zs,zG,acj,zE,zF,zC,zD]; done)
   | (simp[iE,zs,zE,zF,zC,zD]; rw[Bool.eq_iff_iff]; simp; exact decide_eq_true_iff.symm)
set_option maxHeartbeats 1000000 in
theorem wQ (op w1 a b:Int) (w:World) (hbad:(decide (op<0)||decide (10<op) ||!cR w1)=true):
  Calls Try.prog 79 #[.int .i8 op,.int .i8 w1,.int .u64 a,.int .u64 b] w fun e w'=>e=.returned (.tuple #[.bool false,.int .i64 2])∧w=w':=by
 have hc:op<0∨(0≤op∧10<op)∨(0≤op∧op≤10∧cR w1=false):=by
  by_cases h1:op<0
  ·exact .inl h1
  ·by_cases h2:10<op
   ·exact .inr (.inl ⟨by omega,h2⟩)
   ·exact .inr (.inr ⟨by omega,by omega,by simpa[h1,h2] using hbad⟩)
 clear hbad
 rcases hc with h | ⟨h,h'⟩ | ⟨h,h',hw⟩
 all_goals
  go_enter Try.func79,Try.ntmps79
  go_wp2_with (go_at_call 85; refine(iW _ _).mono ?_; rintro e w' ⟨rfl,rfl⟩)
  go_ret2
  exact⟨rfl,rfl⟩
end Go.Proofs.Ytghiofgomcihcaa
set_option linter.unusedVariables false
set_option linter.unusedSimpArgs false
namespace Go.Proofs.Ytghiofgomcihcaa
open Go.RowKit
set_option maxRecDepth 100000 in
set_option maxHeartbeats 4000000 in
theorem sS (cc w1 a b:Int) (w:World) (h0:0≤a) (h1:a≤18446744073709551615) (h2:0≤b) (h3:b≤18446744073709551615) (h4:0≤cc) (h5:cc≤10) (hw:cR w1=true):
  Calls Try.prog 49 #[.int .i8 cc,.int .i8 w1,.int .u64 a,.int .u64 b] w fun e w'=>e=.returned (.tuple #[.bool (iE cc w1 a b),.int .i64 0])∧w=w':=by
 obtain⟨ha1,ha2⟩:=bY a w1 h0 h1
 obtain⟨hb1,hb2⟩:=bY b w1 h2 h3
 have za:wrap64 (lC (zcut a w1) w1)=zs a w1:=rfl
 have zb:wrap64 (lC (zcut b w1) w1)=zs b w1:=rfl
 rcases so h4 h5 with rfl | rfl | rfl | rfl | rfl | rfl | rfl | rfl | rfl | rfl | rfl
 all_goals
  go_enter Try.func49,Try.ntmps49
  go_wp2_with (first
   | (go_at_call 66; refine(fS _ _).mono ?_; rintro e w' ⟨rfl,rfl⟩)
   | (go_at_call 67; with_reducible refine(dq a _ _ (by omega) (by omega)).mono ?_; rintro e w' ⟨rfl,rfl⟩)
   | (go_at_call 67; with_reducible refine(dq b _ _ (by omega) (by omega)).mono ?_; rintro e w' ⟨rfl,rfl⟩)
   | (go_at_call 68; refine(nW _ _ _ (by omega) (by omega)).mono ?_; rintro e w' ⟨rfl,rfl⟩)
   | fail)
  go_ret2
  refine⟨?_,rfl⟩
  simp[iE]
  done
set_option maxHeartbeats 1000000 in
theorem sR (op w1 a b:Int) (w:World) (hbad:(decide (op<0)||decide (10<op) ||!cR w1)=true):
  Calls Try.prog 49 #[.int .i8 op,.int .i8 w1,.int .u64 a,.int .u64 b] w fun e w'=>e=.returned (.tuple #[.bool false,.int .i64 2])∧w=w':=by
 have hc:op<0∨(0≤op∧10<op)∨(0≤op∧op≤10∧cR w1=false):=by
  by_cases h1:op<0
  ·exact .inl h1
  ·by_cases h2:10<op
   ·exact .inr (.inl ⟨by omega,h2⟩)
   ·exact .inr (.inr ⟨by omega,by omega,by simpa[h1,h2] using hbad⟩)
 clear hbad
 rcases hc with h | ⟨h,h'⟩ | ⟨h,h',hw⟩
 all_goals
  go_enter Try.func49,Try.ntmps49
  go_wp2_with (go_at_call 66; refine(fS _ _).mono ?_; rintro e w' ⟨rfl,rfl⟩)
  go_ret2
  exact⟨rfl,rfl⟩
end Go.Proofs.Ytghiofgomcihcaa
