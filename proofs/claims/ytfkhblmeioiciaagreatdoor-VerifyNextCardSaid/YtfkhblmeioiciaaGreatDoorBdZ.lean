import Derived.Test.YtfkhblmeioiciaaGreatDoorRows
import Derived.Test.YtfkhblmeioiciaaGreatDoorLib
import Derived.WalkKit
import Derived.WalkSpells
import Derived.WalkLawsBesides
import Derived.Laws.EntriesVeiled
set_option linter.unusedVariables false
set_option linter.unusedSimpArgs false
namespace Go.Proofs.YtfkhblmeioiciaaGreatDoor
open Go.RowKit
def gY (a:Int):Bool:=a==32||a==64
def zcut (v a:Int):Int:=if a=8 then v % 256 else if a=16 then v % 65536 else if a=32 then v % 4294967296 else v
def zsgn (v b:Int):Int:=if v % (2*b)<b then v % (2*b) else 18446744073709551616-2*b+v % (2*b)
def dz (v a:Int):Int:=if a=8 then zsgn v 128 else if a=16 then zsgn v 32768 else if a=32 then zsgn v 2147483648 else v
set_option maxHeartbeats 400000 in
theorem wI (a:Int) (w:World):
  Calls Tryz.prog 63 #[.int .i8 a] w fun e w'=>e=.returned (.bool (gY a))∧w=w':=by
 go_enter Tryz.func63,Tryz.ntmps63
 go_wp2
 all_goals go_ret
 all_goals (refine⟨aeW ?_,rfl⟩; simp_all [gY])
set_option maxHeartbeats 400000 in
theorem adf (v a:Int) (w:World) (h0:0≤v) (h1:v≤18446744073709551615):
  Calls Tryz.prog 64 #[.int .u64 v,.int .i8 a] w fun e w'=>e=.returned (.int .u64 (zcut v a))∧w=w':=by
 go_enter Tryz.func64,Tryz.ntmps64
 go_wp2
 all_goals go_ret
 all_goals (refine⟨aL ?_,rfl⟩)
 all_goals (simp only[beq_iff_eq,beq_eq_false_iff_ne] at *; simp only[zcut,ajL,cr, *]; first | rfl | (simp; done) | (simp; omega))
set_option maxHeartbeats 400000 in
theorem adV (v a:Int) (w:World) (h0:0≤v) (h1:v≤18446744073709551615):
  Calls Tryz.prog 124 #[.int .u64 v,.int .i8 a] w fun e w'=>e=.returned (.int .u64 (dz v a))∧w=w':=by
 go_enter Tryz.func124,Tryz.ntmps124
 go_wp2
 all_goals go_ret
 all_goals (refine⟨aL ?_,rfl⟩)
 all_goals (simp only[beq_iff_eq,beq_eq_false_iff_ne] at *; simp only[dz,zsgn,ajL,cr,w_i8,alG,w_32,w_64, *]; first | rfl | (simp; done) | (simp; split<;>omega))
theorem cm (v a:Int) (h0:0≤v) (h1:v≤18446744073709551615):0≤zcut v a∧zcut v a≤18446744073709551615:=by
 unfold zcut; split<;>(try split)<;>(try split)<;>omega
end Go.Proofs.YtfkhblmeioiciaaGreatDoor
set_option linter.unusedVariables false
set_option linter.unusedSimpArgs false
namespace Go.Proofs.YtfkhblmeioiciaaGreatDoor
open Go.RowKit
def du:Array Value:= #[.func (.func 111) #[] #[],.func (.func 112) #[] #[],.func (.func 113) #[] #[],.func (.func 114) #[] #[],.func (.func 115) #[] #[],.func (.func 116) #[] #[],.func (.func 117) #[] #[],.func (.func 118) #[] #[],.func (.func 119) #[] #[],.func (.func 120) #[] #[],.func (.func 121) #[] #[],.func (.func 122) #[] #[],.func (.func 123) #[] #[]]
set_option maxHeartbeats 400000 in
theorem aiK (w:World):
  Calls Tryz.prog 65 #[] w fun e w'=>e=.returned (.agg du)∧Below w.heap.size w w':=by
 go_enter Tryz.func65,Tryz.ntmps65
 go_wp2
 exact bodyPost_ret (by simp[results,Tryz.results65,go_sem]; rfl) rfl ⟨rfl,(Below.refl _ _).alloc (Nat.le_refl _) _⟩
theorem ix0 (W:World):(Instr.index 128 (.agg du) (.int .i8 0)).run Tryz.prog W=.ok (.func (.func 111) #[] #[]) W:=by kernel_rfl
theorem ix1 (W:World):(Instr.index 128 (.agg du) (.int .i8 1)).run Tryz.prog W=.ok (.func (.func 112) #[] #[]) W:=by kernel_rfl
theorem ix2 (W:World):(Instr.index 128 (.agg du) (.int .i8 2)).run Tryz.prog W=.ok (.func (.func 113) #[] #[]) W:=by kernel_rfl
theorem ix3 (W:World):(Instr.index 128 (.agg du) (.int .i8 3)).run Tryz.prog W=.ok (.func (.func 114) #[] #[]) W:=by kernel_rfl
theorem ix4 (W:World):(Instr.index 128 (.agg du) (.int .i8 4)).run Tryz.prog W=.ok (.func (.func 115) #[] #[]) W:=by kernel_rfl
theorem ix5 (W:World):(Instr.index 128 (.agg du) (.int .i8 5)).run Tryz.prog W=.ok (.func (.func 116) #[] #[]) W:=by kernel_rfl
theorem ix6 (W:World):(Instr.index 128 (.agg du) (.int .i8 6)).run Tryz.prog W=.ok (.func (.func 117) #[] #[]) W:=by kernel_rfl
theorem ix7 (W:World):(Instr.index 128 (.agg du) (.int .i8 7)).run Tryz.prog W=.ok (.func (.func 118) #[] #[]) W:=by kernel_rfl
theorem ix8 (W:World):(Instr.index 128 (.agg du) (.int .i8 8)).run Tryz.prog W=.ok (.func (.func 119) #[] #[]) W:=by kernel_rfl
theorem ix9 (W:World):(Instr.index 128 (.agg du) (.int .i8 9)).run Tryz.prog W=.ok (.func (.func 120) #[] #[]) W:=by kernel_rfl
theorem ix10 (W:World):(Instr.index 128 (.agg du) (.int .i8 10)).run Tryz.prog W=.ok (.func (.func 121) #[] #[]) W:=by kernel_rfl
theorem ix11 (W:World):(Instr.index 128 (.agg du) (.int .i8 11)).run Tryz.prog W=.ok (.func (.func 122) #[] #[]) W:=by kernel_rfl
theorem ix12 (W:World):(Instr.index 128 (.agg du) (.int .i8 12)).run Tryz.prog W=.ok (.func (.func 123) #[] #[]) W:=by kernel_rfl
def zop (op w a b y:Int):Int:=
 if op=0 then(a+b) % 18446744073709551616
 else if op=1 then(a-b) % 18446744073709551616
 else if op=2 then(a*b) % 18446744073709551616
 else if op=3 then(if b=0 then 0 else a / b)
 else if op=4 then((a.toNat ||| b.toNat:Nat):Int)
 else if op=5 then((a.toNat &&& b.toNat:Nat):Int)
 else if op=6 then(a*2 ^ y.toNat) % 18446744073709551616
 else if op=7 then a / 2 ^ y.toNat
 else if op=8 then(0-a) % 18446744073709551616
 else if op=9 then(if b=0 then a else a % b)
 else if op=10 then((a.toNat ^^^ b.toNat:Nat):Int)
 else if op=11 then b
 else(wrap64 (dz a w) / 2 ^ y.toNat) % 18446744073709551616
def zdo (op w a b:Int):Int:=zcut (zop op w (zcut a w) (zcut b w) (zcut b w % w)) w
set_option maxHeartbeats 1000000 in
theorem aiW (a b y a1:Int) (w:World) (h0:0≤a) (h1:a≤18446744073709551615) (h2:0≤b) (h3:b≤18446744073709551615) (h4:0≤y) (h5:y≤63):
  Calls Tryz.prog 111 #[.int .u64 a,.int .u64 b,.int .u64 y,.int .i8 a1] w fun e w'=>e=.returned (.int .u64 (zop 0 a1 a b y))∧w=w':=by
 go_enter Tryz.func111,Tryz.ntmps111
 go_wp2
 all_goals go_ret
 all_goals (refine⟨aL ?_,rfl⟩)
 all_goals simp[zop,cr]
set_option maxHeartbeats 1000000 in
theorem aiV (a b y a1:Int) (w:World) (h0:0≤a) (h1:a≤18446744073709551615) (h2:0≤b) (h3:b≤18446744073709551615) (h4:0≤y) (h5:y≤63):
  Calls Tryz.prog 112 #[.int .u64 a,.int .u64 b,.int .u64 y,.int .i8 a1] w fun e w'=>e=.returned (.int .u64 (zop 1 a1 a b y))∧w=w':=by
 go_enter Tryz.func112,Tryz.ntmps112
 go_wp2
 all_goals go_ret
 all_goals (refine⟨aL ?_,rfl⟩)
 all_goals simp[zop,cr]
set_option maxHeartbeats 1000000 in
theorem aiU (a b y a1:Int) (w:World) (h0:0≤a) (h1:a≤18446744073709551615) (h2:0≤b) (h3:b≤18446744073709551615) (h4:0≤y) (h5:y≤63):
  Calls Tryz.prog 113 #[.int .u64 a,.int .u64 b,.int .u64 y,.int .i8 a1] w fun e w'=>e=.returned (.int .u64 (zop 2 a1 a b y))∧w=w':=by
 go_enter Tryz.func113,Tryz.ntmps113
 go_wp2
 all_goals go_ret
 all_goals (refine⟨aL ?_,rfl⟩)
 all_goals simp[zop,cr]
set_option maxHeartbeats 1000000 in
theorem aiT (a b y a1:Int) (w:World) (h0:0≤a) (h1:a≤18446744073709551615) (h2:0≤b) (h3:b≤18446744073709551615) (h4:0≤y) (h5:y≤63):
  Calls Tryz.prog 114 #[.int .u64 a,.int .u64 b,.int .u64 y,.int .i8 a1] w fun e w'=>e=.returned (.int .u64 (zop 3 a1 a b y))∧w=w':=by
 by_cases hz:b=0
 ·subst hz
  go_enter Tryz.func114,Tryz.ntmps114
  go_wp2
  all_goals go_ret
  all_goals (refine⟨aL ?_,rfl⟩)
  all_goals simp[zop]
 ·go_enter Tryz.func114,Tryz.ntmps114
  go_wp2
  all_goals go_ret
  all_goals (refine⟨aL ?_,rfl⟩)
  all_goals simp[zop,hz]
set_option maxHeartbeats 1000000 in
theorem aiS (a b y a1:Int) (w:World) (h0:0≤a) (h1:a≤18446744073709551615) (h2:0≤b) (h3:b≤18446744073709551615) (h4:0≤y) (h5:y≤63):
  Calls Tryz.prog 115 #[.int .u64 a,.int .u64 b,.int .u64 y,.int .i8 a1] w fun e w'=>e=.returned (.int .u64 (zop 4 a1 a b y))∧w=w':=by
 go_enter Tryz.func115,Tryz.ntmps115
 go_wp2
 all_goals go_ret
 all_goals (refine⟨aL ?_,rfl⟩)
 all_goals (rw[u64_or _ _ h0 (by omega) h2 (by omega)]; simp[zop])
set_option maxHeartbeats 1000000 in
theorem aiR (a b y a1:Int) (w:World) (h0:0≤a) (h1:a≤18446744073709551615) (h2:0≤b) (h3:b≤18446744073709551615) (h4:0≤y) (h5:y≤63):
  Calls Tryz.prog 116 #[.int .u64 a,.int .u64 b,.int .u64 y,.int .i8 a1] w fun e w'=>e=.returned (.int .u64 (zop 5 a1 a b y))∧w=w':=by
 go_enter Tryz.func116,Tryz.ntmps116
 go_wp2
 all_goals go_ret
 all_goals (refine⟨aL ?_,rfl⟩)
 all_goals (rw[u64_and _ _ h0 (by omega) h2 (by omega)]; simp[zop])
set_option maxHeartbeats 1000000 in
theorem aiQ (a b y a1:Int) (w:World) (h0:0≤a) (h1:a≤18446744073709551615) (h2:0≤b) (h3:b≤18446744073709551615) (h4:0≤y) (h5:y≤63):
  Calls Tryz.prog 117 #[.int .u64 a,.int .u64 b,.int .u64 y,.int .i8 a1] w fun e w'=>e=.returned (.int .u64 (zop 6 a1 a b y))∧w=w':=by
 go_enter Tryz.func117,Tryz.ntmps117
 go_wp2
 all_goals go_ret
 all_goals (refine⟨aL ?_,rfl⟩)
 all_goals simp[zop,cr]
set_option maxHeartbeats 1000000 in
theorem aiP (a b y a1:Int) (w:World) (h0:0≤a) (h1:a≤18446744073709551615) (h2:0≤b) (h3:b≤18446744073709551615) (h4:0≤y) (h5:y≤63):
  Calls Tryz.prog 118 #[.int .u64 a,.int .u64 b,.int .u64 y,.int .i8 a1] w fun e w'=>e=.returned (.int .u64 (zop 7 a1 a b y))∧w=w':=by
 go_enter Tryz.func118,Tryz.ntmps118
 go_wp2
 all_goals go_ret
 all_goals (refine⟨aL ?_,rfl⟩)
 all_goals simp[zop]
set_option maxHeartbeats 1000000 in
theorem aiO (a b y a1:Int) (w:World) (h0:0≤a) (h1:a≤18446744073709551615) (h2:0≤b) (h3:b≤18446744073709551615) (h4:0≤y) (h5:y≤63):
  Calls Tryz.prog 119 #[.int .u64 a,.int .u64 b,.int .u64 y,.int .i8 a1] w fun e w'=>e=.returned (.int .u64 (zop 8 a1 a b y))∧w=w':=by
 go_enter Tryz.func119,Tryz.ntmps119
 go_wp2
 all_goals go_ret
 all_goals (refine⟨aL ?_,rfl⟩)
 all_goals simp[zop,cr]
set_option maxHeartbeats 1000000 in
theorem aiN (a b y a1:Int) (w:World) (h0:0≤a) (h1:a≤18446744073709551615) (h2:0≤b) (h3:b≤18446744073709551615) (h4:0≤y) (h5:y≤63):
  Calls Tryz.prog 120 #[.int .u64 a,.int .u64 b,.int .u64 y,.int .i8 a1] w fun e w'=>e=.returned (.int .u64 (zop 9 a1 a b y))∧w=w':=by
 by_cases hz:b=0
 ·subst hz
  go_enter Tryz.func120,Tryz.ntmps120
  go_wp2
  all_goals go_ret
  all_goals (refine⟨aL ?_,rfl⟩)
  all_goals simp[zop]
 ·go_enter Tryz.func120,Tryz.ntmps120
  go_wp2
  all_goals go_ret
  all_goals (refine⟨aL ?_,rfl⟩)
  all_goals simp[zop,hz]
set_option maxHeartbeats 1000000 in
theorem ae2 (a b y a1:Int) (w:World) (h0:0≤a) (h1:a≤18446744073709551615) (h2:0≤b) (h3:b≤18446744073709551615) (h4:0≤y) (h5:y≤63):
  Calls Tryz.prog 121 #[.int .u64 a,.int .u64 b,.int .u64 y,.int .i8 a1] w fun e w'=>e=.returned (.int .u64 (zop 10 a1 a b y))∧w=w':=by
 go_enter Tryz.func121,Tryz.ntmps121
 go_wp2
 all_goals go_ret
 all_goals (refine⟨aL ?_,rfl⟩)
 all_goals (rw[u64_xor _ _ h0 (by omega) h2 (by omega)]; simp[zop])
set_option maxHeartbeats 1000000 in
theorem ae1 (a b y a1:Int) (w:World) (h0:0≤a) (h1:a≤18446744073709551615) (h2:0≤b) (h3:b≤18446744073709551615) (h4:0≤y) (h5:y≤63):
  Calls Tryz.prog 122 #[.int .u64 a,.int .u64 b,.int .u64 y,.int .i8 a1] w fun e w'=>e=.returned (.int .u64 (zop 11 a1 a b y))∧w=w':=by
 go_enter Tryz.func122,Tryz.ntmps122
 go_wp2
 all_goals go_ret
 all_goals (refine⟨aL ?_,rfl⟩)
 all_goals simp[zop]
set_option maxHeartbeats 1000000 in
theorem ae0 (a b y a1:Int) (w:World) (h0:0≤a) (h1:a≤18446744073709551615) (h2:0≤b) (h3:b≤18446744073709551615) (h4:0≤y) (h5:y≤63):
  Calls Tryz.prog 123 #[.int .u64 a,.int .u64 b,.int .u64 y,.int .i8 a1] w fun e w'=>e=.returned (.int .u64 (zop 12 a1 a b y))∧w=w':=by
 go_enter Tryz.func123,Tryz.ntmps123
 go_wp2_with (go_at_call 124; refine(adV _ _ _ (by omega) (by omega)).mono ?_; rintro e w' ⟨rfl,rfl⟩)
 all_goals go_ret
 all_goals (refine⟨aL ?_,rfl⟩)
 all_goals simp[zop,cr]
end Go.Proofs.YtfkhblmeioiciaaGreatDoor
set_option linter.unusedVariables false
set_option linter.unusedSimpArgs false
namespace Go.Proofs.YtfkhblmeioiciaaGreatDoor
open Go.RowKit
attribute [local go_sem] ix0 ix1 ix2 ix3 ix4 ix5 ix6 ix7 ix8 ix9 ix10 ix11 ix12
theorem wt {op:Int} (h4:0≤op) (h5:op≤12):op=0∨op=1∨op=2∨op=3∨op=4∨op=5∨op=6∨op=7∨op=8∨op=9∨op=10∨op=11∨op=12:=by omega
theorem akM (k:Nat):(0:Int)<2 ^ k:=Int.pow_pos (by omega)
theorem afG (op w a b y:Int) (h0:0≤a) (h1:a≤18446744073709551615) (h2:0≤b) (h3:b≤18446744073709551615):0≤zop op w a b y∧zop op w a b y≤18446744073709551615:=by
 have e1:=Int.ediv_nonneg h0 h2
 have e2:=Int.ediv_le_self b h0
 have e3:=Nat.or_lt_two_pow (n:=64) (x:=a.toNat) (y:=b.toNat) (by omega) (by omega)
 have e4:=Nat.and_le_left (n:=a.toNat) (m:=b.toNat)
 have e5:=Nat.xor_lt_two_pow (n:=64) (x:=a.toNat) (y:=b.toNat) (by omega) (by omega)
 have e6:=Int.ediv_nonneg h0 (Int.le_of_lt (akM y.toNat))
 have e7:=Int.ediv_le_self (2 ^ y.toNat) h0
 have e8:b≠0→0≤a % b∧a % b<b:=fun h=>⟨Int.emod_nonneg a h,Int.emod_lt_of_pos a (by omega)⟩
 unfold zop
 repeat' split
 all_goals omega
theorem ymod (w b:Int) (h2:0≤b) (h3:b≤18446744073709551615) (hw:gY w=true):bits .and .u64 b (w-1)=b % w∧32≤w∧w≤64∧0≤b % w∧b % w≤63:=by
 simp[gY] at hw
 rcases hw with rfl | rfl
 ·exact⟨ajA b h2 h3,by omega,by omega,by omega,by omega⟩
 ·exact⟨ajz b h2 h3,by omega,by omega,by omega,by omega⟩
set_option maxHeartbeats 4000000 in
theorem ale (op w1 a b:Int) (w:World) (h0:0≤a) (h1:a≤18446744073709551615) (h2:0≤b) (h3:b≤18446744073709551615) (h4:0≤op) (h5:op≤12) (hw:gY w1=true):
  Calls Tryz.prog 25 #[.int .i8 op,.int .i8 w1,.int .u64 a,.int .u64 b] w fun e w'=>e=.returned (.tuple #[.int .u64 (zdo op w1 a b),.int .i64 0])∧Below w.heap.size w w':=by
 obtain⟨ha1,ha2⟩:=cm a w1 h0 h1
 obtain⟨hb1,hb2⟩:=cm b w1 h2 h3
 obtain⟨hy,hw1,hw2,hy1,hy2⟩:=ymod w1 (zcut b w1) hb1 hb2 hw
 obtain⟨hz1,hz2⟩:=afG op w1 (zcut a w1) (zcut b w1) (zcut b w1 % w1) ha1 ha2 hb1 hb2
 rcases wt h4 h5 with rfl | rfl | rfl | rfl | rfl | rfl | rfl | rfl | rfl | rfl | rfl | rfl | rfl
 all_goals
  go_enter Tryz.func25,Tryz.ntmps25
  go_wp2_with (first
   | (go_at_call 63; refine(wI _ _).mono ?_; rintro e w' ⟨rfl,rfl⟩)
   | (go_at_call 64; refine(adf _ _ _ (by omega) (by omega)).mono ?_; rintro e w' ⟨rfl,rfl⟩)
   | (go_at_call 65; refine(aiK _).mono ?_; rintro e w1 ⟨rfl,hb1⟩)
   | (go_at_call 111; refine(aiW _ _ _ _ _ (by omega) (by omega) (by omega) (by omega) (by omega) (by omega)).mono ?_; rintro e w' ⟨rfl,rfl⟩)
   | (go_at_call 112; refine(aiV _ _ _ _ _ (by omega) (by omega) (by omega) (by omega) (by omega) (by omega)).mono ?_; rintro e w' ⟨rfl,rfl⟩)
   | (go_at_call 113; refine(aiU _ _ _ _ _ (by omega) (by omega) (by omega) (by omega) (by omega) (by omega)).mono ?_; rintro e w' ⟨rfl,rfl⟩)
   | (go_at_call 114; refine(aiT _ _ _ _ _ (by omega) (by omega) (by omega) (by omega) (by omega) (by omega)).mono ?_; rintro e w' ⟨rfl,rfl⟩)
   | (go_at_call 115; refine(aiS _ _ _ _ _ (by omega) (by omega) (by omega) (by omega) (by omega) (by omega)).mono ?_; rintro e w' ⟨rfl,rfl⟩)
   | (go_at_call 116; refine(aiR _ _ _ _ _ (by omega) (by omega) (by omega) (by omega) (by omega) (by omega)).mono ?_; rintro e w' ⟨rfl,rfl⟩)
   | (go_at_call 117; refine(aiQ _ _ _ _ _ (by omega) (by omega) (by omega) (by omega) (by omega) (by omega)).mono ?_; rintro e w' ⟨rfl,rfl⟩)
   | (go_at_call 118; refine(aiP _ _ _ _ _ (by omega) (by omega) (by omega) (by omega) (by omega) (by omega)).mono ?_; rintro e w' ⟨rfl,rfl⟩)
   | (go_at_call 119; refine(aiO _ _ _ _ _ (by omega) (by omega) (by omega) (by omega) (by omega) (by omega)).mono ?_; rintro e w' ⟨rfl,rfl⟩)
   | (go_at_call 120; refine(aiN _ _ _ _ _ (by omega) (by omega) (by omega) (by omega) (by omega) (by omega)).mono ?_; rintro e w' ⟨rfl,rfl⟩)
   | (go_at_call 121; refine(ae2 _ _ _ _ _ (by omega) (by omega) (by omega) (by omega) (by omega) (by omega)).mono ?_; rintro e w' ⟨rfl,rfl⟩)
   | (go_at_call 122; refine(ae1 _ _ _ _ _ (by omega) (by omega) (by omega) (by omega) (by omega) (by omega)).mono ?_; rintro e w' ⟨rfl,rfl⟩)
   | (go_at_call 123; refine(ae0 _ _ _ _ _ (by omega) (by omega) (by omega) (by omega) (by omega) (by omega)).mono ?_; rintro e w' ⟨rfl,rfl⟩))
  go_ret2
  exact⟨rfl,‹_›⟩
set_option maxHeartbeats 1000000 in
theorem ald (op w1 a b:Int) (w:World) (hbad:(decide (op<0)||decide (12<op) ||!gY w1)=true):
  Calls Tryz.prog 25 #[.int .i8 op,.int .i8 w1,.int .u64 a,.int .u64 b] w fun e w'=>e=.returned (.tuple #[.int .u64 0,.int .i64 2])∧w=w':=by
 have hc:op<0∨(0≤op∧12<op)∨(0≤op∧op≤12∧gY w1=false):=by
  by_cases h1:op<0
  ·exact .inl h1
  ·by_cases h2:12<op
   ·exact .inr (.inl ⟨by omega,h2⟩)
   ·exact .inr (.inr ⟨by omega,by omega,by simpa[h1,h2] using hbad⟩)
 clear hbad
 rcases hc with h | ⟨h,h'⟩ | ⟨h,h',hw⟩
 all_goals
  go_enter Tryz.func25,Tryz.ntmps25
  go_wp2_with (go_at_call 63; refine(wI _ _).mono ?_; rintro e w' ⟨rfl,rfl⟩)
  go_ret2
  exact⟨rfl,rfl⟩
end Go.Proofs.YtfkhblmeioiciaaGreatDoor
set_option linter.unusedVariables false
set_option linter.unusedSimpArgs false
namespace Go.Proofs.YtfkhblmeioiciaaGreatDoor
open Go.RowKit
theorem bP (v:Int):zcut v 32=v % 4294967296:=by simp[zcut]
theorem cn (v:Int):zcut v 64=v:=by simp[zcut]
theorem cJ (op w a b:Int) (h0:0≤a) (h1:a≤18446744073709551615) (h2:0≤b) (h3:b≤18446744073709551615):0≤zdo op w a b∧zdo op w a b≤18446744073709551615:=by
 obtain⟨ha1,ha2⟩:=cm a w h0 h1
 obtain⟨hb1,hb2⟩:=cm b w h2 h3
 obtain⟨hz1,hz2⟩:=afG op w (zcut a w) (zcut b w) (zcut b w % w) ha1 ha2 hb1 hb2
 exact cm _ _ hz1 hz2
theorem eG (v w:Int):zcut (zcut v w) w=zcut v w:=by
 unfold zcut; split<;>(try split)<;>(try split)<;>omega
theorem uR (op w a b:Int):zdo op w (zcut a w) (zcut b w)=zdo op w a b:=by unfold zdo; rw[eG,eG]
theorem adE (op w a b:Int):zcut (zdo op w a b) w=zdo op w a b:=by unfold zdo; rw[eG]
end Go.Proofs.YtfkhblmeioiciaaGreatDoor
set_option linter.unusedVariables false
set_option linter.unusedSimpArgs false
namespace Go.Proofs.YtfkhblmeioiciaaGreatDoor
open Go.RowKit
structure Rg where
 ul:Int
 uh:Int
 sl:Int
 sh:Int
 deriving DecidableEq
def Rg.wf (r:Rg):Prop:=(0≤r.ul∧r.ul≤18446744073709551615)∧(0≤r.uh∧r.uh≤18446744073709551615)∧(-9223372036854775808≤r.sl∧r.sl≤9223372036854775807)∧(-9223372036854775808≤r.sh∧r.sh≤9223372036854775807)
abbrev s64 (v:Int):Int:=wrap64 v
theorem ca (v:Int):s64 v=IntKind.i64.wrap v:=(Go.IntWalk.i64_left v).symm
abbrev u64 (v:Int):Int:=IntKind.u64.wrap v
theorem fZ {v:Int} (h0:0≤v) (h1:v≤18446744073709551615):s64 v=if v<9223372036854775808 then v else v-18446744073709551616:=by
 rw[ca,cy]
 split<;>omega
theorem gc (v:Int) : -9223372036854775808≤s64 v∧s64 v≤9223372036854775807:=by
 rw[ca,cy]
 omega
theorem afM {v:Int} (h0 : -9223372036854775808≤v) (h1:v≤9223372036854775807):u64 v=if 0≤v then v else v+18446744073709551616:=by
 unfold u64
 rw[cr]
 split<;>omega
theorem afN (v:Int):0≤u64 v∧u64 v≤18446744073709551615:=by
 unfold u64
 rw[cr]
 omega
def ball:Rg:=⟨0,18446744073709551615,-9223372036854775808,9223372036854775807⟩
def bone (v:Int):Rg:=⟨v,v,s64 v,s64 v⟩
def bmay (r:Rg):Bool:=decide (r.ul≤r.uh)&&decide (r.sl≤r.sh)
def bhas (r:Rg) (v:Int):Bool:=bmay r&&((decide (r.ul≤v)&&decide (v≤r.uh))&&(decide (r.sl≤s64 v)&&decide (s64 v≤r.sh)))
def hib (v:Int):Bool:=decide (9223372036854775808≤v)
def bsgn (r:Rg):Rg:=if hib r.ul=hib r.uh then⟨r.ul,r.uh,max r.sl (s64 r.ul),min r.sh (s64 r.uh)⟩ else r
def buns (r:Rg):Rg:=if decide (r.sl<0)=decide (r.sh<0) then⟨max r.ul (u64 r.sl),min r.uh (u64 r.sh),r.sl,r.sh⟩ else r
def bnok (r:Rg):Bool:=bmay r&&(bmay (bsgn r)&&(bmay (buns (bsgn r))&&bmay (bsgn (buns (bsgn r)))))
def bnar (r:Rg):Rg:=if bnok r=true then bsgn (buns (bsgn r)) else ball
def dX (r:Rg):Bool:=decide (r.ul=r.uh)&&bhas r r.ul
def bC (r:Rg):Int:=if dX r=true then r.ul else 0
def alo (a b:Rg):Rg:=⟨min a.ul b.ul,max a.uh b.uh,min a.sl b.sl,max a.sh b.sh⟩
def jb (a b:Rg):Rg:=⟨max a.ul b.ul,min a.uh b.uh,max a.sl b.sl,min a.sh b.sh⟩
def aml (a b:Rg):Rg:=if bmay a=true∧bmay b=true then alo a b else ball
def fw (a b:Rg):Bool:=bmay a&&(bmay b&&bnok (jb a b))
def gV (a b:Rg):Rg:=if fw a b=true then bnar (jb a b) else ball
def bin (a b:Rg):Bool:=bmay a&&(bmay b&&decide (aml a b=b))
theorem ce (r:Rg):bmay r=true↔r.ul≤r.uh∧r.sl≤r.sh:=by simp[bmay]
theorem aO (r:Rg) (v:Int):bhas r v=true↔r.ul≤v∧v≤r.uh∧r.sl≤s64 v∧s64 v≤r.sh:=by
 simp only[bhas,bmay,Bool.and_eq_true,decide_eq_true_eq]
 constructor
 ·rintro ⟨_,⟨h1,h2⟩,h3,h4⟩; exact⟨h1,h2,h3,h4⟩
 ·rintro ⟨h1,h2,h3,h4⟩; exact⟨⟨by omega,by omega⟩,⟨h1,h2⟩,h3,h4⟩
theorem ak5 (a b:Int):hib a=hib b↔(9223372036854775808≤a↔9223372036854775808≤b):=by
 unfold hib
 exact decide_eq_decide
theorem bl {r:Rg} (h:r.wf):(bsgn r).wf:=by
 unfold bsgn
 split
 ·have h1:=gc r.ul
  have h2:=gc r.uh
  obtain⟨a1,a2,a3,a4⟩:=h
  refine⟨a1,a2,?_,?_⟩<;>simp only<;>omega
 ·exact h
theorem bQ {r:Rg} (h:r.wf):(buns r).wf:=by
 unfold buns
 split
 ·have h1:=afN r.sl
  have h2:=afN r.sh
  obtain⟨a1,a2,a3,a4⟩:=h
  refine⟨?_,?_,a3,a4⟩<;>simp only<;>omega
 ·exact h
theorem eJ:ball.wf:=by unfold Rg.wf ball; simp
theorem sI {r:Rg} (h:r.wf):(bnar r).wf:=by
 unfold bnar
 split
 ·exact bl (bQ (bl h))
 ·exact eJ
theorem sH {v:Int} (h0:0≤v) (h1:v≤18446744073709551615):(bone v).wf:=⟨⟨h0,h1⟩,⟨h0,h1⟩,gc v,gc v⟩
theorem jc {r:Rg} (h:r.wf) {v:Int} (h0:0≤v) (h1:v≤18446744073709551615):bhas (bsgn r) v=bhas r v:=by
 rw[Bool.eq_iff_iff,aO,aO]
 unfold bsgn
 split
 ·rename_i hh
  rw[ak5] at hh
  obtain⟨a1,a2,a3,a4⟩:=h
  simp only
  rw[fZ h0 h1,fZ a1.1 a1.2,fZ a2.1 a2.2]
  split<;>split<;>split<;>omega
 ·exact Iff.rfl
theorem sB {r:Rg} (h:r.wf) {v:Int} (h0:0≤v) (h1:v≤18446744073709551615):bhas (buns r) v=bhas r v:=by
 rw[Bool.eq_iff_iff,aO,aO]
 unfold buns
 split
 ·rename_i hh
  rw[decide_eq_decide] at hh
  obtain⟨a1,a2,a3,a4⟩:=h
  simp only
  rw[fZ h0 h1,afM a3.1 a3.2,afM a4.1 a4.2]
  split<;>split<;>split<;>omega
 ·exact Iff.rfl
theorem cQ {r:Rg} {v:Int} (h:bhas r v=true):bmay r=true:=by unfold bhas at h; rw[Bool.and_eq_true] at h; exact h.1
theorem xr {r:Rg} (h:r.wf) {v:Int} (h0:0≤v) (h1:v≤18446744073709551615) (hv:bhas r v=true):bnok r=true:=by
 have e1:=jc h h0 h1
 have e2:=sB (bl h) h0 h1
 have e3:=jc (bQ (bl h)) h0 h1
 rw[hv] at e1
 rw[e1] at e2
 rw[e2] at e3
 simp[bnok,cQ hv,cQ e1,cQ e2,cQ e3]
theorem sC {r:Rg} (h:r.wf) {v:Int} (h0:0≤v) (h1:v≤18446744073709551615) (hk:bnok r=true):bhas (bnar r) v=bhas r v:=by
 unfold bnar
 rw[if_pos hk,jc (bQ (bl h)) h0 h1,sB (bl h) h0 h1,jc h h0 h1]
theorem sA {r:Rg} {v:Int} (h:dX r=true) (h0:0≤v) (h1:v≤18446744073709551615):bhas r v=decide (v=r.ul):=by
 unfold dX at h
 rw[Bool.and_eq_true,decide_eq_true_eq] at h
 obtain⟨e,hh⟩:=h
 by_cases hv:v=r.ul
 ·rw[hv,hh]; simp
 ·rw[decide_eq_false hv]
  cases hb:bhas r v
  ·rfl
  ·have:=(aO r v).1 hb
   omega
end Go.Proofs.YtfkhblmeioiciaaGreatDoor
set_option linter.unusedVariables false
set_option linter.unusedSimpArgs false
namespace Go.Proofs.YtfkhblmeioiciaaGreatDoor
open Go.RowKit
def tbB (x:Int) (i:Nat):Bool:=(BitVec.ofInt 64 x).getLsbD i
theorem adp (x:BitVec 64):BitVec.ofInt 64 (x.toNat:Int)=x:=by simp
theorem xl (x:Int):BitVec.ofInt 64 (IntKind.i64.wrap x)=BitVec.ofInt 64 x:=by
 apply BitVec.eq_of_toNat_eq
 rw[BitVec.toNat_ofInt,BitVec.toNat_ofInt,cy]
 omega
theorem ajx (x y:Int):BitVec.ofInt 64 (bits .and .i64 x y)=BitVec.ofInt 64 x &&& BitVec.ofInt 64 y:=(xl _).trans (adp _)
theorem ajw (x y:Int):BitVec.ofInt 64 (bits .xor .i64 x y)=BitVec.ofInt 64 x ^^^ BitVec.ofInt 64 y:=(xl _).trans (adp _)
theorem aae (x y:Int) (i:Nat):tbB (bits .and .i64 x y) i=(tbB x i&&tbB y i):=by unfold tbB; rw[ajx,BitVec.getLsbD_and]
theorem ov (x y:Int) (i:Nat):tbB (bits .xor .i64 x y) i=(tbB x i ^^ tbB y i):=by unfold tbB; rw[ajw,BitVec.getLsbD_xor]
theorem kj {x:Int} (h0 : -9223372036854775808≤x) (h1:x≤9223372036854775807):decide (x<0)=tbB x 63:=by
 unfold tbB
 rw[BitVec.getLsbD,Nat.testBit_eq_decide_div_mod_eq,decide_eq_decide,BitVec.toNat_ofInt]
 omega
theorem afl (op:BinOp) (x y:Int):∃z,bits op .i64 x y=IntKind.i64.wrap z:=⟨_,rfl⟩
theorem agr (op:BinOp) (x y:Int) : -9223372036854775808≤bits op .i64 x y∧bits op .i64 x y≤9223372036854775807:=by
 obtain⟨z,h⟩:=afl op x y
 rw[h,←ca]; exact gc z
theorem acb {a b:Int} (a0 : -9223372036854775808≤a) (a1:a≤9223372036854775807) (b0 : -9223372036854775808≤b) (b1:b≤9223372036854775807):
  decide (0≤bits .and .i64 (bits .xor .i64 a (wrap64 (a+b))) (bits .xor .i64 b (wrap64 (a+b))))=decide (-9223372036854775808≤a+b∧a+b≤9223372036854775807):=by
 have hs:=gc (a+b)
 have hw:s64 (a+b)=(a+b+9223372036854775808) % 18446744073709551616-9223372036854775808:=by rw[ca]; exact cy _
 have hb:=agr .and (bits .xor .i64 a (s64 (a+b))) (bits .xor .i64 b (s64 (a+b)))
 have e:=kj hb.1 hb.2
 rw[aae,ov,ov,←kj a0 a1,←kj b0 b1,←kj hs.1 hs.2] at e
 show decide (0≤bits .and .i64 (bits .xor .i64 a (s64 (a+b))) (bits .xor .i64 b (s64 (a+b))))=_
 generalize bits .and .i64 (bits .xor .i64 a (s64 (a+b))) (bits .xor .i64 b (s64 (a+b)))=t at e hb
 generalize s64 (a+b)=s at *
 rw[decide_eq_decide]
 by_cases h1:a<0<;>by_cases h2:b<0<;>by_cases h3:s<0<;>simp[h1,h2,h3] at e<;>omega
theorem yf {a b:Int} (a0 : -9223372036854775808≤a) (a1:a≤9223372036854775807) (b0 : -9223372036854775808≤b) (b1:b≤9223372036854775807):
  decide (0≤bits .and .i64 (bits .xor .i64 a b) (bits .xor .i64 a (wrap64 (a-b))))=decide (-9223372036854775808≤a-b∧a-b≤9223372036854775807):=by
 have hs:=gc (a-b)
 have hw:s64 (a-b)=(a-b+9223372036854775808) % 18446744073709551616-9223372036854775808:=by rw[ca]; exact cy _
 have hb:=agr .and (bits .xor .i64 a b) (bits .xor .i64 a (s64 (a-b)))
 have e:=kj hb.1 hb.2
 rw[aae,ov,ov,←kj a0 a1,←kj b0 b1,←kj hs.1 hs.2] at e
 show decide (0≤bits .and .i64 (bits .xor .i64 a b) (bits .xor .i64 a (s64 (a-b))))=_
 generalize bits .and .i64 (bits .xor .i64 a b) (bits .xor .i64 a (s64 (a-b)))=t at e hb
 generalize s64 (a-b)=s at *
 rw[decide_eq_decide]
 by_cases h1:a<0<;>by_cases h2:b<0<;>by_cases h3:s<0<;>simp[h1,h2,h3] at e<;>omega
end Go.Proofs.YtfkhblmeioiciaaGreatDoor
set_option linter.unusedVariables false
set_option linter.unusedSimpArgs false
namespace Go.Proofs.YtfkhblmeioiciaaGreatDoor
open Go.RowKit
def au (n:Nat):Nat:=if n=0 then 0 else Nat.log2 n+1
def fU (v:Int):Int:=2 ^ au v.toNat-1
theorem mQ (n:Nat):n<2 ^ au n:=by
 unfold au
 split
 ·subst_vars; simp
 ·exact Nat.lt_log2_self
theorem adt {n:Nat} (h:n≠0):2 ^ (au n-1)≤n:=by
 unfold au
 rw[if_neg h]
 exact Nat.log2_self_le h
theorem dm {n k:Nat} (h:n<2 ^ k):au n≤k:=by
 rcases Nat.eq_zero_or_pos n with h0 | h0
 ·simp[au,h0]
 ·have h1:=adt (n:=n) (by omega)
  rcases Nat.lt_or_ge k (au n) with hk | hk
  ·have:2 ^ k≤2 ^ (au n-1):=Nat.pow_le_pow_right (by omega) (by omega)
   omega
  ·exact hk
theorem xu {v m:Int} (h0:0≤v) (h:v.toNat<2 ^ au m.toNat):v≤fU m:=by
 unfold fU
 have:((2:Int) ^ au m.toNat)=((2 ^ au m.toNat:Nat):Int):=by simp
 rw[this]
 omega
theorem pY {v:Int} (h:v≤18446744073709551615):0≤fU v∧fU v≤18446744073709551615:=by
 have h1:v.toNat<2 ^ 64:=by omega
 have h2:=dm h1
 have h3:2 ^ au v.toNat≤2 ^ 64:=Nat.pow_le_pow_right (by omega) h2
 have h4:0<2 ^ au v.toNat:=Nat.pow_pos (by omega)
 unfold fU
 have:((2:Int) ^ au v.toNat)=((2 ^ au v.toNat:Nat):Int):=by simp
 rw[this]
 omega
def bsum (a b:Rg):Rg:=
 ⟨if a.uh+b.uh≤18446744073709551615 then a.ul+b.ul else 0,if a.uh+b.uh≤18446744073709551615 then a.uh+b.uh else 18446744073709551615,
  if(-9223372036854775808≤a.sl+b.sl∧a.sl+b.sl≤9223372036854775807)∧(-9223372036854775808≤a.sh+b.sh∧a.sh+b.sh≤9223372036854775807) then a.sl+b.sl else -9223372036854775808,
  if(-9223372036854775808≤a.sl+b.sl∧a.sl+b.sl≤9223372036854775807)∧(-9223372036854775808≤a.sh+b.sh∧a.sh+b.sh≤9223372036854775807) then a.sh+b.sh else 9223372036854775807⟩
def bdif (a b:Rg):Rg:=
 ⟨if b.uh≤a.ul then a.ul-b.uh else 0,if b.uh≤a.ul then a.uh-b.ul else 18446744073709551615,
  if(-9223372036854775808≤a.sl-b.sh∧a.sl-b.sh≤9223372036854775807)∧(-9223372036854775808≤a.sh-b.sl∧a.sh-b.sl≤9223372036854775807) then a.sl-b.sh else -9223372036854775808,
  if(-9223372036854775808≤a.sl-b.sh∧a.sl-b.sh≤9223372036854775807)∧(-9223372036854775808≤a.sh-b.sl∧a.sh-b.sl≤9223372036854775807) then a.sh-b.sl else 9223372036854775807⟩
def bu (l h:Int):Rg:=⟨l,h,-9223372036854775808,9223372036854775807⟩
def bby (b:Rg):Nat:=(b.ul % 64).toNat
def bdo0 (op:Int) (a b:Rg):Rg:=
 if op=11 then b else if op=0 then bsum a b else if op=1 then bdif a b
 else if op=5 then bu 0 (min a.uh b.uh)
 else if op=4 then bu (max a.ul b.ul) (fU (max a.uh b.uh))
 else if op=10 then bu 0 (fU (max a.uh b.uh))
 else if op=3 then(if 0<b.ul then bu (a.ul / b.uh) (a.uh / b.ul) else bu 0 a.uh)
 else if op=9 then(if 0<b.ul then bu 0 (min a.uh (b.uh-1)) else bu 0 a.uh)
 else if op=7 then(if dX b=true then bu (a.ul / 2 ^ bby b) (a.uh / 2 ^ bby b) else ball)
 else if op=6 then(if dX b=true∧au a.uh.toNat+bby b≤64 then bu (a.ul*2 ^ bby b) (a.uh*2 ^ bby b) else ball)
 else ball
def bdo (op:Int) (a b:Rg):Rg:=if bmay a=true∧bmay b=true then bnar (bdo0 op a b) else ball
theorem fH (v:Int) (h0:0≤v) (h1:v≤18446744073709551615):bhas ball v=true:=by
 rw[aO]
 have:=gc v
 exact⟨h0,h1,this.1,this.2⟩
theorem fk {l h v:Int} (h0:l≤v) (h1:v≤h):bhas (bu l h) v=true:=by
 rw[aO]
 have:=gc v
 exact⟨h0,h1,this.1,this.2⟩
theorem acR {r:Rg} (hr:r.wf) {v:Int} (h0:0≤v) (h1:v≤18446744073709551615) (h:bhas r v=true):bhas (bnar r) v=true:=by
 rw[sC hr h0 h1 (xr hr h0 h1 h),h]
theorem ajj {a b:Rg} (ha:a.wf) (hb:b.wf) {v w:Int} (v0:0≤v) (v1:v≤18446744073709551615) (w0:0≤w) (w1:w≤18446744073709551615) (h1:bhas a v=true) (h2:bhas b w=true):
  bhas (bsum a b) ((v+w) % 18446744073709551616)=true:=by
 rw[aO] at h1 h2 ⊢
 rw[fZ v0 v1] at h1
 rw[fZ w0 w1] at h2
 rw[fZ (by omega) (by omega)]
 obtain⟨a1,a2,a3,a4⟩:=ha
 obtain⟨b1,b2,b3,b4⟩:=hb
 unfold bsum
 simp only
 refine⟨?_,?_,?_,?_⟩
 ·split<;>omega
 ·split<;>omega
 ·split<;>split at h1<;>split at h2<;>split<;>omega
 ·split<;>split at h1<;>split at h2<;>split<;>omega
theorem ajk {a b:Rg} (ha:a.wf) (hb:b.wf) {v w:Int} (v0:0≤v) (v1:v≤18446744073709551615) (w0:0≤w) (w1:w≤18446744073709551615) (h1:bhas a v=true) (h2:bhas b w=true):
  bhas (bdif a b) ((v-w) % 18446744073709551616)=true:=by
 rw[aO] at h1 h2 ⊢
 rw[fZ v0 v1] at h1
 rw[fZ w0 w1] at h2
 rw[fZ (by omega) (by omega)]
 obtain⟨a1,a2,a3,a4⟩:=ha
 obtain⟨b1,b2,b3,b4⟩:=hb
 unfold bdif
 simp only
 refine⟨?_,?_,?_,?_⟩
 ·split<;>omega
 ·split<;>omega
 ·split<;>split at h1<;>split at h2<;>split<;>omega
 ·split<;>split at h1<;>split at h2<;>split<;>omega
theorem kV {l h:Int} (h0:0≤l) (h1:l≤18446744073709551615) (h2:0≤h) (h3:h≤18446744073709551615):(bu l h).wf:=⟨⟨h0,h1⟩,⟨h2,h3⟩,by simp[bu],by simp[bu]⟩
theorem agN {a b:Rg} (ha:a.wf) (hb:b.wf) (h1:bmay a=true) (h2:bmay b=true):(bsum a b).wf:=by
 rw[ce] at h1 h2
 obtain⟨a1,a2,a3,a4⟩:=ha
 obtain⟨b1,b2,b3,b4⟩:=hb
 unfold bsum
 refine⟨?_,?_,?_,?_⟩<;>simp only<;>split<;>omega
theorem agO {a b:Rg} (ha:a.wf) (hb:b.wf) (h1:bmay a=true) (h2:bmay b=true):(bdif a b).wf:=by
 rw[ce] at h1 h2
 obtain⟨a1,a2,a3,a4⟩:=ha
 obtain⟨b1,b2,b3,b4⟩:=hb
 unfold bdif
 refine⟨?_,?_,?_,?_⟩<;>simp only<;>split<;>omega
theorem afP {x:Int} (h0:0≤x) (k:Nat):0≤x / 2 ^ k∧x / 2 ^ k≤x:=by
 have hp:(0:Int)<2 ^ k:=Int.pow_pos (by omega)
 refine⟨Int.ediv_nonneg h0 (by omega),Int.ediv_le_self _ h0⟩
theorem aaH {x y:Int} (h0:0≤x) (hy:x≤y) {k:Nat} (h:au y.toNat+k≤64):0≤x*2 ^ k∧x*2 ^ k≤y*2 ^ k∧y*2 ^ k≤18446744073709551615:=by
 have hp:(0:Int)<2 ^ k:=Int.pow_pos (by omega)
 refine⟨Int.mul_nonneg h0 (by omega),Int.mul_le_mul_of_nonneg_right hy (by omega),?_⟩
 have h1:=mQ y.toNat
 have h2:(y.toNat+1)*2 ^ k≤2 ^ au y.toNat*2 ^ k:=Nat.mul_le_mul_right _ (by omega)
 rw[←Nat.pow_add] at h2
 have h3:2 ^ (au y.toNat+k)≤2 ^ 64:=Nat.pow_le_pow_right (by omega) h
 have h4:0<2 ^ k:=Nat.pow_pos (by omega)
 have e:y*2 ^ k=((y.toNat*2 ^ k:Nat):Int):=by
  have:((y.toNat:Nat):Int)=y:=by omega
  rw[Int.natCast_mul,this]; simp
 rw[e]
 rw[Nat.add_mul] at h2
 omega
theorem xf {x y z:Int} (h0:0≤x) (hz:0<z) (h:z≤y):x / y≤x / z:=by
 have hy:0<y:=by omega
 refine Int.le_ediv_of_mul_le hz ?_
 have h1:x / y*z≤x / y*y:=Int.mul_le_mul_of_nonneg_left h (Int.ediv_nonneg h0 (by omega))
 have h2:=Int.ediv_mul_le x (show y≠0 by omega)
 omega
theorem adb {x y z:Int} (h0:0≤x) (h1:x≤18446744073709551615) (hy:0<y):0≤x / y∧x / y≤18446744073709551615:=by
 have:=Int.ediv_le_self y h0
 exact⟨Int.ediv_nonneg h0 (by omega),by omega⟩
theorem ze {op:Int} {a b:Rg} (ha:a.wf) (hb:b.wf) (h1:bmay a=true) (h2:bmay b=true):(bdo0 op a b).wf:=by
 have m1:=(ce a).1 h1
 have m2:=(ce b).1 h2
 have ha':=ha
 have hb':=hb
 obtain⟨a1,a2,a3,a4⟩:=ha'
 obtain⟨b1,b2,b3,b4⟩:=hb'
 have f:=pY (v:=max a.uh b.uh) (by omega)
 unfold bdo0
 by_cases o11:op=11
 ·rw[if_pos o11]
  exact hb
 rw[if_neg o11]
 by_cases o0:op=0
 ·rw[if_pos o0]
  exact agN ha hb h1 h2
 rw[if_neg o0]
 by_cases o1:op=1
 ·rw[if_pos o1]
  exact agO ha hb h1 h2
 rw[if_neg o1]
 by_cases o5:op=5
 ·rw[if_pos o5]
  exact kV (by omega) (by omega) (by omega) (by omega)
 rw[if_neg o5]
 by_cases o4:op=4
 ·rw[if_pos o4]
  exact kV (by omega) (by omega) f.1 f.2
 rw[if_neg o4]
 by_cases o10:op=10
 ·rw[if_pos o10]
  exact kV (by omega) (by omega) f.1 f.2
 rw[if_neg o10]
 by_cases o3:op=3
 ·rw[if_pos o3]
  split
  ·have e1:=adb (z:=0) a1.1 a1.2 (show 0<b.uh by omega)
   have e2:=adb (z:=0) a2.1 a2.2 (show 0<b.ul by omega)
   exact kV e1.1 e1.2 e2.1 e2.2
  ·exact kV (by omega) (by omega) (by omega) (by omega)
 rw[if_neg o3]
 by_cases o9:op=9
 ·rw[if_pos o9]
  split
  ·exact kV (by omega) (by omega) (by omega) (by omega)
  ·exact kV (by omega) (by omega) (by omega) (by omega)
 rw[if_neg o9]
 by_cases o7:op=7
 ·rw[if_pos o7]
  split
  ·have e1:=afP a1.1 (bby b)
   have e2:=afP a2.1 (bby b)
   exact kV e1.1 (by omega) e2.1 (by omega)
  ·exact eJ
 rw[if_neg o7]
 by_cases o6:op=6
 ·rw[if_pos o6]
  split
  ·rename_i h
   have e1:=aaH a1.1 m1.1 h.2
   exact kV e1.1 (by omega) (by omega) (by omega)
  ·exact eJ
 rw[if_neg o6]
 exact eJ
theorem zf {op:Int} {a b:Rg} (ha:a.wf) (hb:b.wf):(bdo op a b).wf:=by
 unfold bdo
 split
 ·rename_i h
  exact sI (ze ha hb h.1 h.2)
 ·exact eJ
theorem alF (op a b:Int):zdo op 64 a b=zop op 64 a b (b % 64):=by
 unfold zdo; rw[cn,cn,cn]
theorem acU {op:Int} {a b:Rg} (ha:a.wf) (hb:b.wf) {v w:Int} (v0:0≤v) (v1:v≤18446744073709551615) (w0:0≤w) (w1:w≤18446744073709551615) (h1:bhas a v=true) (h2:bhas b w=true)
  (hz0:0≤zdo op 64 v w) (hz1:zdo op 64 v w≤18446744073709551615):bhas (bdo op a b) (zdo op 64 v w)=true:=by
 have m1:=cQ h1
 have m2:=cQ h2
 have x1:=(aO a v).1 h1
 have x2:=(aO b w).1 h2
 unfold bdo
 rw[if_pos ⟨m1,m2⟩]
 refine acR (ze ha hb m1 m2) hz0 hz1 ?_
 rw[alF] at hz0 hz1 ⊢
 have hmx:v.toNat<2 ^ au (max a.uh b.uh).toNat∧w.toNat<2 ^ au (max a.uh b.uh).toNat:=by
  have:=mQ (max a.uh b.uh).toNat
  omega
 unfold bdo0
 unfold zop at hz0 hz1 ⊢
 by_cases o11:op=11
 ·subst o11; simpa using h2
 rw[if_neg o11]
 by_cases o0:op=0
 ·subst o0; simpa using ajj ha hb v0 v1 w0 w1 h1 h2
 rw[if_neg o0]
 by_cases o1:op=1
 ·subst o1; simpa using ajk ha hb v0 v1 w0 w1 h1 h2
 rw[if_neg o1]
 by_cases o5:op=5
 ·subst o5
  have e1:v.toNat &&& w.toNat≤v.toNat:=Nat.and_le_left
  have e2:v.toNat &&& w.toNat≤w.toNat:=Nat.and_le_right
  simp at hz0 hz1 ⊢
  exact fk (by omega) (by omega)
 rw[if_neg o5]
 by_cases o4:op=4
 ·subst o4
  have e1:v.toNat≤v.toNat ||| w.toNat:=Nat.left_le_or
  have e2:w.toNat≤v.toNat ||| w.toNat:=Nat.right_le_or
  have e3:=Nat.or_lt_two_pow hmx.1 hmx.2
  simp at hz0 hz1 ⊢
  exact fk (by omega) (xu (by omega) (by simpa using e3))
 rw[if_neg o4]
 by_cases o10:op=10
 ·subst o10
  have e3:=Nat.xor_lt_two_pow hmx.1 hmx.2
  simp at hz0 hz1 ⊢
  exact fk (by omega) (xu (by omega) (by simpa using e3))
 rw[if_neg o10]
 by_cases o3:op=3
 ·subst o3
  simp at hz0 hz1 ⊢
  by_cases hb0:0<b.ul
  ·rw[if_pos hb0,if_neg (by omega)]
   refine fk ?_ ?_
   ·exact Int.le_trans (Int.ediv_le_ediv (by omega) x1.1) (by
     have:=ha.1
     exact xf (by omega) (by omega) x2.2.1)
   ·exact Int.le_trans (Int.ediv_le_ediv (by omega) x1.2.1) (xf (by have:=ha.2.1; omega) hb0 x2.1)
  ·rw[if_neg hb0]
   refine fk (by omega) ?_
   split
   ·omega
   ·have:=Int.ediv_le_self w v0; omega
 rw[if_neg o3]
 by_cases o9:op=9
 ·subst o9
  simp at hz0 hz1 ⊢
  by_cases hb0:0<b.ul
  ·rw[if_pos hb0,if_neg (by omega)]
   have e1:=Int.emod_lt_of_pos v (show 0<w by omega)
   have e2:=Int.emod_nonneg v (show w≠0 by omega)
   have e3:v % w≤v:=by
    have:=Int.emod_add_mul_ediv v w
    have h4:0≤w*(v / w):=Int.mul_nonneg w0 (Int.ediv_nonneg v0 w0)
    omega
   exact fk e2 (by omega)
  ·rw[if_neg hb0]
   split
   ·exact fk v0 (by omega)
   ·have e2:=Int.emod_nonneg v (show w≠0 by omega)
    have e3:v % w≤v:=by
     have:=Int.emod_add_mul_ediv v w
     have h4:0≤w*(v / w):=Int.mul_nonneg w0 (Int.ediv_nonneg v0 w0)
     omega
    exact fk e2 (by omega)
 rw[if_neg o9]
 have hsh:dX b=true→(w % 64).toNat=bby b:=by
  intro h
  have:=sA h w0 w1
  rw[h2] at this
  have:=of_decide_eq_true this.symm
  unfold bby; rw[this]
 by_cases o7:op=7
 ·subst o7
  simp at hz0 hz1 ⊢
  by_cases hs:dX b=true
  ·rw[if_pos hs,hsh hs]
   have hp:(0:Int)<2 ^ bby b:=Int.pow_pos (by omega)
   exact fk (Int.ediv_le_ediv hp x1.1) (Int.ediv_le_ediv hp x1.2.1)
  ·rw[if_neg hs]; exact fH _ hz0 hz1
 rw[if_neg o7]
 by_cases o6:op=6
 ·subst o6
  simp at hz0 hz1 ⊢
  by_cases hs:dX b=true∧au a.uh.toNat+bby b≤64
  ·rw[if_pos hs,hsh hs.1]
   have hp:(0:Int)<2 ^ bby b:=Int.pow_pos (by omega)
   have e1:=aaH v0 x1.2.1 hs.2
   rw[Int.emod_eq_of_lt e1.1 (by omega)]
   exact fk (Int.mul_le_mul_of_nonneg_right x1.1 (by omega)) e1.2.1
  ·rw[if_neg hs]; exact fH _ hz0 hz1
 rw[if_neg o6]
 exact fH _ hz0 hz1
end Go.Proofs.YtfkhblmeioiciaaGreatDoor
set_option linter.unusedVariables false
set_option linter.unusedSimpArgs false
namespace Go.Proofs.YtfkhblmeioiciaaGreatDoor
open Go.RowKit
def Rg.Sub (a b:Rg):Prop:=b.ul≤a.ul∧a.uh≤b.uh∧b.sl≤a.sl∧a.sh≤b.sh
theorem Rg.Sub.refl (a:Rg):a.Sub a:=⟨Int.le_refl _,Int.le_refl _,Int.le_refl _,Int.le_refl _⟩
theorem Rg.Sub.trans {a b c:Rg} (h:a.Sub b) (g:b.Sub c):a.Sub c:=by
 obtain⟨h1,h2,h3,h4⟩:=h
 obtain⟨g1,g2,g3,g4⟩:=g
 exact⟨by omega,by omega,by omega,by omega⟩
theorem oe {a b:Rg} (ha:a.wf) (hb:b.wf):(jb a b).wf:=by
 obtain⟨a1,a2,a3,a4⟩:=ha
 obtain⟨b1,b2,b3,b4⟩:=hb
 unfold jb
 refine⟨?_,?_,?_,?_⟩<;>simp only<;>omega
theorem acS {a b:Rg} {v:Int}:bhas (jb a b) v=(bhas a v&&bhas b v):=by
 rw[Bool.eq_iff_iff,Bool.and_eq_true,aO,aO,aO]
 unfold jb
 simp only
 omega
theorem afm {a b:Rg} (ha:a.wf) (hb:b.wf) {v:Int} (v0:0≤v) (v1:v≤18446744073709551615) (h:bhas b v=true):bhas a v=(fw a b&&bhas (gV a b) v):=by
 have e:=acS (a:=a) (b:=b) (v:=v)
 rw[h,Bool.and_true] at e
 cases hm:fw a b
 ·rw[Bool.false_and]
  cases hv:bhas a v
  ·rfl
  ·exfalso
   rw[hv] at e
   have:=xr (oe ha hb) v0 v1 e
   simp[fw,cQ hv,cQ h,this] at hm
 ·rw[Bool.true_and]
  unfold gV
  rw[if_pos hm]
  unfold fw at hm
  simp only[Bool.and_eq_true] at hm
  rw[sC (oe ha hb) v0 v1 hm.2.2,e]
def blow (r:Rg):Rg:=if bmay r=true∧r.uh≤4294967295 then r else bnar (bu 0 4294967295)
theorem acT {r:Rg} {v:Int} (v0:0≤v) (h:bhas r v=true):bhas (blow r) (v % 4294967296)=true:=by
 unfold blow
 split
 ·rename_i hh
  have:=(aO r v).1 h
  rw[show v % 4294967296=v by omega]
  exact h
 ·exact acR (kV (by omega) (by omega) (by omega) (by omega)) (by omega) (by omega) (fk (by omega) (by omega))
end Go.Proofs.YtfkhblmeioiciaaGreatDoor
