import Derived.Test.YtfkhblmeioiciaaGreatDoorRows
import Derived.Test.YtfkhblmeioiciaaGreatDoorLib
import Derived.WalkKit
import Derived.WalkSpells
import Derived.WalkLawsBesides
import Derived.Laws.EntriesVeiled
set_option maxRecDepth 100000
set_option maxHeartbeats 8000000
set_option linter.unusedVariables false
set_option linter.unusedSimpArgs false
namespace Go.Proofs.YtfkhblmeioiciaaGreatDoor
open Go.RowKit
def mg (a:Int):Bool:=a==32||a==64
def zcut (v a:Int):Int:=if a=8 then v % 256 else if a=16 then v % 65536 else if a=32 then v % 4294967296 else v
def zsgn (v b:Int):Int:=if v % (2*b)<b then v % (2*b) else 18446744073709551616-2*b+v % (2*b)
def agO (v a:Int):Int:=if a=8 then zsgn v 128 else if a=16 then zsgn v 32768 else if a=32 then zsgn v 2147483648 else v
theorem zR (a:Int) (w:World):
  Calls Tryz.prog 63 #[.int .i8 a] w fun e w'=>e=.returned (.bool (mg a))/\w=w':=by
 go_enter Tryz.func63,Tryz.ntmps63
 go_wp2
 all_goals go_ret
 all_goals (refine⟨aiJ ?_,rfl⟩; simp_all [mg])
theorem agn (v a:Int) (w:World) (h0:0<=v) (h1:v<=18446744073709551615):
  Calls Tryz.prog 64 #[.int .u64 v,.int .i8 a] w fun e w'=>e=.returned (.int .u64 (zcut v a))/\w=w':=by
 go_enter Tryz.func64,Tryz.ntmps64
 go_wp2
 all_goals go_ret
 all_goals (refine⟨be ?_,rfl⟩)
 all_goals (simp only[cN,beq_eq_false_iff_ne] at *; simp only[zcut,anM,bh, *]; first | rfl | (simp; done) | (simp; omega))
theorem ahf (v a:Int) (w:World) (h0:0<=v) (h1:v<=18446744073709551615):
  Calls Tryz.prog 124 #[.int .u64 v,.int .i8 a] w fun e w'=>e=.returned (.int .u64 (agO v a))/\w=w':=by
 go_enter Tryz.func124,Tryz.ntmps124
 go_wp2
 all_goals go_ret
 all_goals (refine⟨be ?_,rfl⟩)
 all_goals (simp only[cN,beq_eq_false_iff_ne] at *; simp only[agO,zsgn,anM,bh,w_i8,aqb,w_32,w_64, *]; first | rfl | (simp; done) | (simp; split<;>omega))
theorem ke (v a:Int) (h0:0<=v) (h1:v<=18446744073709551615):0<=zcut v a/\zcut v a<=18446744073709551615:=by
 unfold zcut; split<;>(try split)<;>(try split)<;>omega
def dZ:Array Value:= #[.func (.func 111) #[] #[],.func (.func 112) #[] #[],.func (.func 113) #[] #[],.func (.func 114) #[] #[],.func (.func 115) #[] #[],.func (.func 116) #[] #[],.func (.func 117) #[] #[],.func (.func 118) #[] #[],.func (.func 119) #[] #[],.func (.func 120) #[] #[],.func (.func 121) #[] #[],.func (.func 122) #[] #[],.func (.func 123) #[] #[]]
theorem amM (w:World):
  Calls Tryz.prog 65 #[] w fun e w'=>e=.returned (.agg dZ)/\Below w.heap.size w w':=by
 go_enter Tryz.func65,Tryz.ntmps65
 go_wp2
 exact bodyPost_ret (by simp[results,Tryz.results65,go_sem]; rfl) rfl ⟨rfl,(Below.refl _ _).alloc (Nat.le_refl _) _⟩
theorem ix0 (W:World):(Instr.index 128 (.agg dZ) (.int .i8 0)).run Tryz.prog W=.ok (.func (.func 111) #[] #[]) W:=by kernel_rfl
theorem ix1 (W:World):(Instr.index 128 (.agg dZ) (.int .i8 1)).run Tryz.prog W=.ok (.func (.func 112) #[] #[]) W:=by kernel_rfl
theorem ix2 (W:World):(Instr.index 128 (.agg dZ) (.int .i8 2)).run Tryz.prog W=.ok (.func (.func 113) #[] #[]) W:=by kernel_rfl
theorem ix3 (W:World):(Instr.index 128 (.agg dZ) (.int .i8 3)).run Tryz.prog W=.ok (.func (.func 114) #[] #[]) W:=by kernel_rfl
theorem ix4 (W:World):(Instr.index 128 (.agg dZ) (.int .i8 4)).run Tryz.prog W=.ok (.func (.func 115) #[] #[]) W:=by kernel_rfl
theorem ix5 (W:World):(Instr.index 128 (.agg dZ) (.int .i8 5)).run Tryz.prog W=.ok (.func (.func 116) #[] #[]) W:=by kernel_rfl
theorem ix6 (W:World):(Instr.index 128 (.agg dZ) (.int .i8 6)).run Tryz.prog W=.ok (.func (.func 117) #[] #[]) W:=by kernel_rfl
theorem ix7 (W:World):(Instr.index 128 (.agg dZ) (.int .i8 7)).run Tryz.prog W=.ok (.func (.func 118) #[] #[]) W:=by kernel_rfl
theorem ix8 (W:World):(Instr.index 128 (.agg dZ) (.int .i8 8)).run Tryz.prog W=.ok (.func (.func 119) #[] #[]) W:=by kernel_rfl
theorem ix9 (W:World):(Instr.index 128 (.agg dZ) (.int .i8 9)).run Tryz.prog W=.ok (.func (.func 120) #[] #[]) W:=by kernel_rfl
theorem ix10 (W:World):(Instr.index 128 (.agg dZ) (.int .i8 10)).run Tryz.prog W=.ok (.func (.func 121) #[] #[]) W:=by kernel_rfl
theorem ix11 (W:World):(Instr.index 128 (.agg dZ) (.int .i8 11)).run Tryz.prog W=.ok (.func (.func 122) #[] #[]) W:=by kernel_rfl
theorem ix12 (W:World):(Instr.index 128 (.agg dZ) (.int .i8 12)).run Tryz.prog W=.ok (.func (.func 123) #[] #[]) W:=by kernel_rfl
def zop (op w a b y:Int):Int:=
 if op=0 then(a+b) % 18446744073709551616
 else if op=1 then(a-b) % 18446744073709551616
 else if op=2 then(a*b) % 18446744073709551616
 else if op=3 then(if b=0 then 0 else a / b)
 else if op=4 then((a.toNat ||| b.toNat:Nat):Int)
 else if op=5 then((a.toNat &&& b.toNat:Nat):Int)
 else if op=6 then(a*2 ^ y.toNat) % 18446744073709551616
 else if op=7 then a / 2 ^ y.toNat
 else if op=8 then(0-a) % 18446744073709551616
 else if op=9 then(if b=0 then a else a % b)
 else if op=10 then((a.toNat ^^^ b.toNat:Nat):Int)
 else if op=11 then b
 else(wrap64 (agO a w) / 2 ^ y.toNat) % 18446744073709551616
def zdo (op w a b:Int):Int:=zcut (zop op w (zcut a w) (zcut b w) (zcut b w % w)) w
theorem amZ (a b y a1:Int) (w:World) (h0:0<=a) (h1:a<=18446744073709551615) (h2:0<=b) (h3:b<=18446744073709551615) (h4:0<=y) (h5:y<=63):
  Calls Tryz.prog 111 #[.int .u64 a,.int .u64 b,.int .u64 y,.int .i8 a1] w fun e w'=>e=.returned (.int .u64 (zop 0 a1 a b y))/\w=w':=by
 go_enter Tryz.func111,Tryz.ntmps111
 go_wp2
 all_goals go_ret
 all_goals (refine⟨be ?_,rfl⟩)
 all_goals simp[zop,bh]
theorem amY (a b y a1:Int) (w:World) (h0:0<=a) (h1:a<=18446744073709551615) (h2:0<=b) (h3:b<=18446744073709551615) (h4:0<=y) (h5:y<=63):
  Calls Tryz.prog 112 #[.int .u64 a,.int .u64 b,.int .u64 y,.int .i8 a1] w fun e w'=>e=.returned (.int .u64 (zop 1 a1 a b y))/\w=w':=by
 go_enter Tryz.func112,Tryz.ntmps112
 go_wp2
 all_goals go_ret
 all_goals (refine⟨be ?_,rfl⟩)
 all_goals simp[zop,bh]
theorem amX (a b y a1:Int) (w:World) (h0:0<=a) (h1:a<=18446744073709551615) (h2:0<=b) (h3:b<=18446744073709551615) (h4:0<=y) (h5:y<=63):
  Calls Tryz.prog 113 #[.int .u64 a,.int .u64 b,.int .u64 y,.int .i8 a1] w fun e w'=>e=.returned (.int .u64 (zop 2 a1 a b y))/\w=w':=by
 go_enter Tryz.func113,Tryz.ntmps113
 go_wp2
 all_goals go_ret
 all_goals (refine⟨be ?_,rfl⟩)
 all_goals simp[zop,bh]
theorem amW (a b y a1:Int) (w:World) (h0:0<=a) (h1:a<=18446744073709551615) (h2:0<=b) (h3:b<=18446744073709551615) (h4:0<=y) (h5:y<=63):
  Calls Tryz.prog 114 #[.int .u64 a,.int .u64 b,.int .u64 y,.int .i8 a1] w fun e w'=>e=.returned (.int .u64 (zop 3 a1 a b y))/\w=w':=by
 by_cases hz:b=0
 ·subst hz
  go_enter Tryz.func114,Tryz.ntmps114
  go_wp2
  all_goals go_ret
  all_goals (refine⟨be ?_,rfl⟩)
  all_goals simp[zop]
 ·go_enter Tryz.func114,Tryz.ntmps114
  go_wp2
  all_goals go_ret
  all_goals (refine⟨be ?_,rfl⟩)
  all_goals simp[zop,hz]
theorem amV (a b y a1:Int) (w:World) (h0:0<=a) (h1:a<=18446744073709551615) (h2:0<=b) (h3:b<=18446744073709551615) (h4:0<=y) (h5:y<=63):
  Calls Tryz.prog 115 #[.int .u64 a,.int .u64 b,.int .u64 y,.int .i8 a1] w fun e w'=>e=.returned (.int .u64 (zop 4 a1 a b y))/\w=w':=by
 go_enter Tryz.func115,Tryz.ntmps115
 go_wp2
 all_goals go_ret
 all_goals (refine⟨be ?_,rfl⟩)
 all_goals (rw[u64_or _ _ h0 (by omega) h2 (by omega)]; simp[zop])
theorem amU (a b y a1:Int) (w:World) (h0:0<=a) (h1:a<=18446744073709551615) (h2:0<=b) (h3:b<=18446744073709551615) (h4:0<=y) (h5:y<=63):
  Calls Tryz.prog 116 #[.int .u64 a,.int .u64 b,.int .u64 y,.int .i8 a1] w fun e w'=>e=.returned (.int .u64 (zop 5 a1 a b y))/\w=w':=by
 go_enter Tryz.func116,Tryz.ntmps116
 go_wp2
 all_goals go_ret
 all_goals (refine⟨be ?_,rfl⟩)
 all_goals (rw[u64_and _ _ h0 (by omega) h2 (by omega)]; simp[zop])
theorem amT (a b y a1:Int) (w:World) (h0:0<=a) (h1:a<=18446744073709551615) (h2:0<=b) (h3:b<=18446744073709551615) (h4:0<=y) (h5:y<=63):
  Calls Tryz.prog 117 #[.int .u64 a,.int .u64 b,.int .u64 y,.int .i8 a1] w fun e w'=>e=.returned (.int .u64 (zop 6 a1 a b y))/\w=w':=by
 go_enter Tryz.func117,Tryz.ntmps117
 go_wp2
 all_goals go_ret
 all_goals (refine⟨be ?_,rfl⟩)
 all_goals simp[zop,bh]
theorem amS (a b y a1:Int) (w:World) (h0:0<=a) (h1:a<=18446744073709551615) (h2:0<=b) (h3:b<=18446744073709551615) (h4:0<=y) (h5:y<=63):
  Calls Tryz.prog 118 #[.int .u64 a,.int .u64 b,.int .u64 y,.int .i8 a1] w fun e w'=>e=.returned (.int .u64 (zop 7 a1 a b y))/\w=w':=by
 go_enter Tryz.func118,Tryz.ntmps118
 go_wp2
 all_goals go_ret
 all_goals (refine⟨be ?_,rfl⟩)
 all_goals simp[zop]
theorem amR (a b y a1:Int) (w:World) (h0:0<=a) (h1:a<=18446744073709551615) (h2:0<=b) (h3:b<=18446744073709551615) (h4:0<=y) (h5:y<=63):
  Calls Tryz.prog 119 #[.int .u64 a,.int .u64 b,.int .u64 y,.int .i8 a1] w fun e w'=>e=.returned (.int .u64 (zop 8 a1 a b y))/\w=w':=by
 go_enter Tryz.func119,Tryz.ntmps119
 go_wp2
 all_goals go_ret
 all_goals (refine⟨be ?_,rfl⟩)
 all_goals simp[zop,bh]
theorem amQ (a b y a1:Int) (w:World) (h0:0<=a) (h1:a<=18446744073709551615) (h2:0<=b) (h3:b<=18446744073709551615) (h4:0<=y) (h5:y<=63):
  Calls Tryz.prog 120 #[.int .u64 a,.int .u64 b,.int .u64 y,.int .i8 a1] w fun e w'=>e=.returned (.int .u64 (zop 9 a1 a b y))/\w=w':=by
 by_cases hz:b=0
 ·subst hz
  go_enter Tryz.func120,Tryz.ntmps120
  go_wp2
  all_goals go_ret
  all_goals (refine⟨be ?_,rfl⟩)
  all_goals simp[zop]
 ·go_enter Tryz.func120,Tryz.ntmps120
  go_wp2
  all_goals go_ret
  all_goals (refine⟨be ?_,rfl⟩)
  all_goals simp[zop,hz]
theorem aiP (a b y a1:Int) (w:World) (h0:0<=a) (h1:a<=18446744073709551615) (h2:0<=b) (h3:b<=18446744073709551615) (h4:0<=y) (h5:y<=63):
  Calls Tryz.prog 121 #[.int .u64 a,.int .u64 b,.int .u64 y,.int .i8 a1] w fun e w'=>e=.returned (.int .u64 (zop 10 a1 a b y))/\w=w':=by
 go_enter Tryz.func121,Tryz.ntmps121
 go_wp2
 all_goals go_ret
 all_goals (refine⟨be ?_,rfl⟩)
 all_goals (rw[u64_xor _ _ h0 (by omega) h2 (by omega)]; simp[zop])
theorem aiO (a b y a1:Int) (w:World) (h0:0<=a) (h1:a<=18446744073709551615) (h2:0<=b) (h3:b<=18446744073709551615) (h4:0<=y) (h5:y<=63):
  Calls Tryz.prog 122 #[.int .u64 a,.int .u64 b,.int .u64 y,.int .i8 a1] w fun e w'=>e=.returned (.int .u64 (zop 11 a1 a b y))/\w=w':=by
 go_enter Tryz.func122,Tryz.ntmps122
 go_wp2
 all_goals go_ret
 all_goals (refine⟨be ?_,rfl⟩)
 all_goals simp[zop]
theorem aiN (a b y a1:Int) (w:World) (h0:0<=a) (h1:a<=18446744073709551615) (h2:0<=b) (h3:b<=18446744073709551615) (h4:0<=y) (h5:y<=63):
  Calls Tryz.prog 123 #[.int .u64 a,.int .u64 b,.int .u64 y,.int .i8 a1] w fun e w'=>e=.returned (.int .u64 (zop 12 a1 a b y))/\w=w':=by
 go_enter Tryz.func123,Tryz.ntmps123
 go_wp2_with (go_at_call 124; refine(ahf _ _ _ (by omega) (by omega)).mono ?_; rintro e w' ⟨rfl,rfl⟩)
 all_goals go_ret
 all_goals (refine⟨be ?_,rfl⟩)
 all_goals simp[zop,bh]
attribute [local go_sem] ix0 ix1 ix2 ix3 ix4 ix5 ix6 ix7 ix8 ix9 ix10 ix11 ix12
theorem aiM {op:Int} (h4:0<=op) (h5:op<=12):op=0\/op=1\/op=2\/op=3\/op=4\/op=5\/op=6\/op=7\/op=8\/op=9\/op=10\/op=11\/op=12:=by omega
theorem aoZ (k:Nat):(0:Int)<2 ^ k:=Int.pow_pos (by omega)
theorem ajo (op w a b y:Int) (h0:0<=a) (h1:a<=18446744073709551615) (h2:0<=b) (h3:b<=18446744073709551615):0<=zop op w a b y/\zop op w a b y<=18446744073709551615:=by
 have e1:=Int.ediv_nonneg h0 h2
 have e2:=Int.ediv_le_self b h0
 have e3:=Nat.or_lt_two_pow (n:=64) (x:=a.toNat) (y:=b.toNat) (by omega) (by omega)
 have e4:=Nat.and_le_left (n:=a.toNat) (m:=b.toNat)
 have e5:=Nat.xor_lt_two_pow (n:=64) (x:=a.toNat) (y:=b.toNat) (by omega) (by omega)
 have e6:=Int.ediv_nonneg h0 (Int.le_of_lt (aoZ y.toNat))
 have e7:=Int.ediv_le_self (2 ^ y.toNat) h0
 have e8:b≠0->0<=a % b/\a % b<b:=fun h=>⟨Int.emod_nonneg a h,Int.emod_lt_of_pos a (by omega)⟩
 unfold zop
 repeat' split
 all_goals omega
theorem ymod (w b:Int) (h2:0<=b) (h3:b<=18446744073709551615) (hw:mg w=true):bits .and .u64 b (w-1)=b % w/\32<=w/\w<=64/\0<=b % w/\b % w<=63:=by
 simp[mg] at hw
 rcases hw with rfl | rfl
 ·exact⟨ard b h2 h3,by omega,by omega,by omega,by omega⟩
 ·exact⟨apX b h2 h3,by omega,by omega,by omega,by omega⟩
theorem apM (op w1 a b:Int) (w:World) (h0:0<=a) (h1:a<=18446744073709551615) (h2:0<=b) (h3:b<=18446744073709551615) (h4:0<=op) (h5:op<=12) (hw:mg w1=true):
  Calls Tryz.prog 25 #[.int .i8 op,.int .i8 w1,.int .u64 a,.int .u64 b] w fun e w'=>e=.returned (.tuple #[.int .u64 (zdo op w1 a b),.int .i64 0])/\Below w.heap.size w w':=by
 obtain⟨ha1,ha2⟩:=ke a w1 h0 h1
 obtain⟨hb1,hb2⟩:=ke b w1 h2 h3
 obtain⟨hy,hw1,hw2,hy1,hy2⟩:=ymod w1 (zcut b w1) hb1 hb2 hw
 obtain⟨hz1,hz2⟩:=ajo op w1 (zcut a w1) (zcut b w1) (zcut b w1 % w1) ha1 ha2 hb1 hb2
 rcases aiM h4 h5 with rfl | rfl | rfl | rfl | rfl | rfl | rfl | rfl | rfl | rfl | rfl | rfl | rfl
 all_goals
  go_enter Tryz.func25,Tryz.ntmps25
  go_wp2_with (first
   | (go_at_call 63; refine(zR _ _).mono ?_; rintro e w' ⟨rfl,rfl⟩)
   | (go_at_call 64; refine(agn _ _ _ (by omega) (by omega)).mono ?_; rintro e w' ⟨rfl,rfl⟩)
   | (go_at_call 65; refine(amM _).mono ?_; rintro e w1 ⟨rfl,hb1⟩)
   | (go_at_call 111; refine(amZ _ _ _ _ _ (by omega) (by omega) (by omega) (by omega) (by omega) (by omega)).mono ?_; rintro e w' ⟨rfl,rfl⟩)
   | (go_at_call 112; refine(amY _ _ _ _ _ (by omega) (by omega) (by omega) (by omega) (by omega) (by omega)).mono ?_; rintro e w' ⟨rfl,rfl⟩)
   | (go_at_call 113; refine(amX _ _ _ _ _ (by omega) (by omega) (by omega) (by omega) (by omega) (by omega)).mono ?_; rintro e w' ⟨rfl,rfl⟩)
   | (go_at_call 114; refine(amW _ _ _ _ _ (by omega) (by omega) (by omega) (by omega) (by omega) (by omega)).mono ?_; rintro e w' ⟨rfl,rfl⟩)
   | (go_at_call 115; refine(amV _ _ _ _ _ (by omega) (by omega) (by omega) (by omega) (by omega) (by omega)).mono ?_; rintro e w' ⟨rfl,rfl⟩)
   | (go_at_call 116; refine(amU _ _ _ _ _ (by omega) (by omega) (by omega) (by omega) (by omega) (by omega)).mono ?_; rintro e w' ⟨rfl,rfl⟩)
   | (go_at_call 117; refine(amT _ _ _ _ _ (by omega) (by omega) (by omega) (by omega) (by omega) (by omega)).mono ?_; rintro e w' ⟨rfl,rfl⟩)
   | (go_at_call 118; refine(amS _ _ _ _ _ (by omega) (by omega) (by omega) (by omega) (by omega) (by omega)).mono ?_; rintro e w' ⟨rfl,rfl⟩)
   | (go_at_call 119; refine(amR _ _ _ _ _ (by omega) (by omega) (by omega) (by omega) (by omega) (by omega)).mono ?_; rintro e w' ⟨rfl,rfl⟩)
   | (go_at_call 120; refine(amQ _ _ _ _ _ (by omega) (by omega) (by omega) (by omega) (by omega) (by omega)).mono ?_; rintro e w' ⟨rfl,rfl⟩)
   | (go_at_call 121; refine(aiP _ _ _ _ _ (by omega) (by omega) (by omega) (by omega) (by omega) (by omega)).mono ?_; rintro e w' ⟨rfl,rfl⟩)
   | (go_at_call 122; refine(aiO _ _ _ _ _ (by omega) (by omega) (by omega) (by omega) (by omega) (by omega)).mono ?_; rintro e w' ⟨rfl,rfl⟩)
   | (go_at_call 123; refine(aiN _ _ _ _ _ (by omega) (by omega) (by omega) (by omega) (by omega) (by omega)).mono ?_; rintro e w' ⟨rfl,rfl⟩))
  go_ret2
  exact⟨rfl,‹_›⟩
theorem apL (op w1 a b:Int) (w:World) (hbad:(decide (op<0)||decide (12<op) ||!mg w1)=true):
  Calls Tryz.prog 25 #[.int .i8 op,.int .i8 w1,.int .u64 a,.int .u64 b] w fun e w'=>e=.returned (.tuple #[.int .u64 0,.int .i64 2])/\w=w':=by
 have hc:op<0\/(0<=op/\12<op)\/(0<=op/\op<=12/\mg w1=false):=by
  by_cases h1:op<0
  ·exact .inl h1
  ·by_cases h2:12<op
   ·exact .inr (.inl ⟨by omega,h2⟩)
   ·exact .inr (.inr ⟨by omega,by omega,by simpa[h1,h2] using hbad⟩)
 clear hbad
 rcases hc with h | ⟨h,h'⟩ | ⟨h,h',hw⟩
 all_goals
  go_enter Tryz.func25,Tryz.ntmps25
  go_wp2_with (go_at_call 63; refine(zR _ _).mono ?_; rintro e w' ⟨rfl,rfl⟩)
  go_ret2
  exact⟨rfl,rfl⟩
theorem anI (op w a b:Int) (h0:0<=a) (h1:a<=18446744073709551615) (h2:0<=b) (h3:b<=18446744073709551615):0<=zdo op w a b/\zdo op w a b<=18446744073709551615:=by
 obtain⟨ha1,ha2⟩:=ke a w h0 h1
 obtain⟨hb1,hb2⟩:=ke b w h2 h3
 obtain⟨hz1,hz2⟩:=ajo op w (zcut a w) (zcut b w) (zcut b w % w) ha1 ha2 hb1 hb2
 exact ke _ _ hz1 hz2
structure Rg where
 ul:Int
 uh:Int
 sl:Int
 sh:Int
 deriving DecidableEq
def Rg.wf (r:Rg):Prop:=(0<=r.ul/\r.ul<=18446744073709551615)/\(0<=r.uh/\r.uh<=18446744073709551615)/\(-9223372036854775808<=r.sl/\r.sl<=9223372036854775807)/\(-9223372036854775808<=r.sh/\r.sh<=9223372036854775807)
abbrev s64 (v:Int):Int:=wrap64 v
theorem cb (v:Int):s64 v=IntKind.i64.wrap v:=(Go.IntWalk.i64_left v).symm
abbrev u64 (v:Int):Int:=IntKind.u64.wrap v
theorem ph (v:Int) : -9223372036854775808<=s64 v/\s64 v<=9223372036854775807:=by
 rw[cb,aU]
 omega
theorem ajs (v:Int):0<=u64 v/\u64 v<=18446744073709551615:=by
 unfold u64
 rw[bh]
 omega
def ball:Rg:=⟨0,18446744073709551615,-9223372036854775808,9223372036854775807⟩
def bone (v:Int):Rg:=⟨v,v,s64 v,s64 v⟩
def bmay (r:Rg):Bool:=decide (r.ul<=r.uh)&&decide (r.sl<=r.sh)
def bhas (r:Rg) (v:Int):Bool:=bmay r&&((decide (r.ul<=v)&&decide (v<=r.uh))&&(decide (r.sl<=s64 v)&&decide (s64 v<=r.sh)))
def hib (v:Int):Bool:=decide (9223372036854775808<=v)
def bsgn (r:Rg):Rg:=if hib r.ul=hib r.uh then⟨r.ul,r.uh,max r.sl (s64 r.ul),min r.sh (s64 r.uh)⟩ else r
def buns (r:Rg):Rg:=if decide (r.sl<0)=decide (r.sh<0) then⟨max r.ul (u64 r.sl),min r.uh (u64 r.sh),r.sl,r.sh⟩ else r
def bnok (r:Rg):Bool:=bmay r&&(bmay (bsgn r)&&(bmay (buns (bsgn r))&&bmay (bsgn (buns (bsgn r)))))
def bnar (r:Rg):Rg:=if bnok r=true then bsgn (buns (bsgn r)) else ball
def dQ (r:Rg):Bool:=decide (r.ul=r.uh)&&bhas r r.ul
def aB (r:Rg):Int:=if dQ r=true then r.ul else 0
def aaq (a b:Rg):Rg:=⟨min a.ul b.ul,max a.uh b.uh,min a.sl b.sl,max a.sh b.sh⟩
def vC (a b:Rg):Rg:=⟨max a.ul b.ul,min a.uh b.uh,max a.sl b.sl,min a.sh b.sh⟩
def oR (a b:Rg):Rg:=if bmay a=true/\bmay b=true then aaq a b else ball
def ig (a b:Rg):Bool:=bmay a&&(bmay b&&bnok (vC a b))
def kT (a b:Rg):Rg:=if ig a b=true then bnar (vC a b) else ball
def bin (a b:Rg):Bool:=bmay a&&(bmay b&&decide (oR a b=b))
theorem ef (r:Rg):bmay r=true↔r.ul<=r.uh/\r.sl<=r.sh:=by simp[bmay]
theorem dd {r:Rg} (h:r.wf):(bsgn r).wf:=by
 unfold bsgn
 split
 ·have h1:=ph r.ul
  have h2:=ph r.uh
  obtain⟨a1,a2,a3,a4⟩:=h
  refine⟨a1,a2,?_,?_⟩<;>simp only<;>omega
 ·exact h
theorem dc {r:Rg} (h:r.wf):(buns r).wf:=by
 unfold buns
 split
 ·have h1:=ajs r.sl
  have h2:=ajs r.sh
  obtain⟨a1,a2,a3,a4⟩:=h
  refine⟨?_,?_,a3,a4⟩<;>simp only<;>omega
 ·exact h
def tbB (x:Int) (i:Nat):Bool:=(BitVec.ofInt 64 x).getLsbD i
theorem agx (x:BitVec 64):BitVec.ofInt 64 (x.toNat:Int)=x:=by simp
theorem aap (x:Int):BitVec.ofInt 64 (IntKind.i64.wrap x)=BitVec.ofInt 64 x:=by
 apply BitVec.eq_of_toNat_eq
 rw[BitVec.toNat_ofInt,BitVec.toNat_ofInt,aU]
 omega
theorem anA (x y:Int):BitVec.ofInt 64 (bits .and .i64 x y)=BitVec.ofInt 64 x &&& BitVec.ofInt 64 y:=(aap _).trans (agx _)
theorem anz (x y:Int):BitVec.ofInt 64 (bits .xor .i64 x y)=BitVec.ofInt 64 x ^^^ BitVec.ofInt 64 y:=(aap _).trans (agx _)
theorem acF (x y:Int) (i:Nat):tbB (bits .and .i64 x y) i=(tbB x i&&tbB y i):=by unfold tbB; rw[anA,BitVec.getLsbD_and]
theorem pX (x y:Int) (i:Nat):tbB (bits .xor .i64 x y) i=(tbB x i ^^ tbB y i):=by unfold tbB; rw[anz,BitVec.getLsbD_xor]
theorem lu {x:Int} (h0 : -9223372036854775808<=x) (h1:x<=9223372036854775807):decide (x<0)=tbB x 63:=by
 unfold tbB
 rw[BitVec.getLsbD,Nat.testBit_eq_decide_div_mod_eq,decide_eq_decide,BitVec.toNat_ofInt]
 omega
theorem ai1 (op:BinOp) (x y:Int):∃z,bits op .i64 x y=IntKind.i64.wrap z:=⟨_,rfl⟩
theorem aka (op:BinOp) (x y:Int) : -9223372036854775808<=bits op .i64 x y/\bits op .i64 x y<=9223372036854775807:=by
 obtain⟨z,h⟩:=ai1 op x y
 rw[h,<-cb]; exact ph z
theorem afo {a b:Int} (a0 : -9223372036854775808<=a) (a1:a<=9223372036854775807) (b0 : -9223372036854775808<=b) (b1:b<=9223372036854775807):
  decide (0<=bits .and .i64 (bits .xor .i64 a (wrap64 (a+b))) (bits .xor .i64 b (wrap64 (a+b))))=decide (-9223372036854775808<=a+b/\a+b<=9223372036854775807):=by
 have hs:=ph (a+b)
 have hw:s64 (a+b)=(a+b+9223372036854775808) % 18446744073709551616-9223372036854775808:=by rw[cb]; exact aU _
 have hb:=aka .and (bits .xor .i64 a (s64 (a+b))) (bits .xor .i64 b (s64 (a+b)))
 have e:=lu hb.1 hb.2
 rw[acF,pX,pX,<-lu a0 a1,<-lu b0 b1,<-lu hs.1 hs.2] at e
 show decide (0<=bits .and .i64 (bits .xor .i64 a (s64 (a+b))) (bits .xor .i64 b (s64 (a+b))))=_
 generalize bits .and .i64 (bits .xor .i64 a (s64 (a+b))) (bits .xor .i64 b (s64 (a+b)))=t at e hb
 generalize s64 (a+b)=s at *
 rw[decide_eq_decide]
 by_cases h1:a<0<;>by_cases h2:b<0<;>by_cases h3:s<0<;>simp[h1,h2,h3] at e<;>omega
theorem aa4 {a b:Int} (a0 : -9223372036854775808<=a) (a1:a<=9223372036854775807) (b0 : -9223372036854775808<=b) (b1:b<=9223372036854775807):
  decide (0<=bits .and .i64 (bits .xor .i64 a b) (bits .xor .i64 a (wrap64 (a-b))))=decide (-9223372036854775808<=a-b/\a-b<=9223372036854775807):=by
 have hs:=ph (a-b)
 have hw:s64 (a-b)=(a-b+9223372036854775808) % 18446744073709551616-9223372036854775808:=by rw[cb]; exact aU _
 have hb:=aka .and (bits .xor .i64 a b) (bits .xor .i64 a (s64 (a-b)))
 have e:=lu hb.1 hb.2
 rw[acF,pX,pX,<-lu a0 a1,<-lu b0 b1,<-lu hs.1 hs.2] at e
 show decide (0<=bits .and .i64 (bits .xor .i64 a b) (bits .xor .i64 a (s64 (a-b))))=_
 generalize bits .and .i64 (bits .xor .i64 a b) (bits .xor .i64 a (s64 (a-b)))=t at e hb
 generalize s64 (a-b)=s at *
 rw[decide_eq_decide]
 by_cases h1:a<0<;>by_cases h2:b<0<;>by_cases h3:s<0<;>simp[h1,h2,h3] at e<;>omega
def aC (n:Nat):Nat:=if n=0 then 0 else Nat.log2 n+1
def kU (v:Int):Int:=2 ^ aC v.toNat-1
theorem xS (n:Nat):n<2 ^ aC n:=by
 unfold aC
 split
 ·subst_vars; simp
 ·exact Nat.lt_log2_self
theorem agA {n:Nat} (h:n≠0):2 ^ (aC n-1)<=n:=by
 unfold aC
 rw[if_neg h]
 exact Nat.log2_self_le h
theorem eu {n k:Nat} (h:n<2 ^ k):aC n<=k:=by
 rcases Nat.eq_zero_or_pos n with h0 | h0
 ·simp[aC,h0]
 ·have h1:=agA (n:=n) (by omega)
  rcases Nat.lt_or_ge k (aC n) with hk | hk
  ·have:2 ^ k<=2 ^ (aC n-1):=Nat.pow_le_pow_right (by omega) (by omega)
   omega
  ·exact hk
theorem aji {v:Int} (h:v<=18446744073709551615):0<=kU v/\kU v<=18446744073709551615:=by
 have h1:v.toNat<2 ^ 64:=by omega
 have h2:=eu h1
 have h3:2 ^ aC v.toNat<=2 ^ 64:=Nat.pow_le_pow_right (by omega) h2
 have h4:0<2 ^ aC v.toNat:=Nat.pow_pos (by omega)
 unfold kU
 have:((2:Int) ^ aC v.toNat)=((2 ^ aC v.toNat:Nat):Int):=by simp
 rw[this]
 omega
def bsum (a b:Rg):Rg:=
 ⟨if a.uh+b.uh<=18446744073709551615 then a.ul+b.ul else 0,if a.uh+b.uh<=18446744073709551615 then a.uh+b.uh else 18446744073709551615,
  if(-9223372036854775808<=a.sl+b.sl/\a.sl+b.sl<=9223372036854775807)/\(-9223372036854775808<=a.sh+b.sh/\a.sh+b.sh<=9223372036854775807) then a.sl+b.sl else -9223372036854775808,
  if(-9223372036854775808<=a.sl+b.sl/\a.sl+b.sl<=9223372036854775807)/\(-9223372036854775808<=a.sh+b.sh/\a.sh+b.sh<=9223372036854775807) then a.sh+b.sh else 9223372036854775807⟩
def bdif (a b:Rg):Rg:=
 ⟨if b.uh<=a.ul then a.ul-b.uh else 0,if b.uh<=a.ul then a.uh-b.ul else 18446744073709551615,
  if(-9223372036854775808<=a.sl-b.sh/\a.sl-b.sh<=9223372036854775807)/\(-9223372036854775808<=a.sh-b.sl/\a.sh-b.sl<=9223372036854775807) then a.sl-b.sh else -9223372036854775808,
  if(-9223372036854775808<=a.sl-b.sh/\a.sl-b.sh<=9223372036854775807)/\(-9223372036854775808<=a.sh-b.sl/\a.sh-b.sl<=9223372036854775807) then a.sh-b.sl else 9223372036854775807⟩
def bu (l h:Int):Rg:=⟨l,h,-9223372036854775808,9223372036854775807⟩
def bby (b:Rg):Nat:=(b.ul % 64).toNat
def bdo0 (op:Int) (a b:Rg):Rg:=
 if op=11 then b else if op=0 then bsum a b else if op=1 then bdif a b
 else if op=5 then bu 0 (min a.uh b.uh)
 else if op=4 then bu (max a.ul b.ul) (kU (max a.uh b.uh))
 else if op=10 then bu 0 (kU (max a.uh b.uh))
 else if op=3 then(if 0<b.ul then bu (a.ul / b.uh) (a.uh / b.ul) else bu 0 a.uh)
 else if op=9 then(if 0<b.ul then bu 0 (min a.uh (b.uh-1)) else bu 0 a.uh)
 else if op=7 then(if dQ b=true then bu (a.ul / 2 ^ bby b) (a.uh / 2 ^ bby b) else ball)
 else if op=6 then(if dQ b=true/\aC a.uh.toNat+bby b<=64 then bu (a.ul*2 ^ bby b) (a.uh*2 ^ bby b) else ball)
 else ball
def bdo (op:Int) (a b:Rg):Rg:=if bmay a=true/\bmay b=true then bnar (bdo0 op a b) else ball
theorem anY {x y:Int} (h0:0<=x) (hy:x<=y) {k:Nat} (h:aC y.toNat+k<=64):0<=x*2 ^ k/\x*2 ^ k<=y*2 ^ k/\y*2 ^ k<=18446744073709551615:=by
 have hp:(0:Int)<2 ^ k:=Int.pow_pos (by omega)
 refine⟨Int.mul_nonneg h0 (by omega),Int.mul_le_mul_of_nonneg_right hy (by omega),?_⟩
 have h1:=xS y.toNat
 have h2:(y.toNat+1)*2 ^ k<=2 ^ aC y.toNat*2 ^ k:=Nat.mul_le_mul_right _ (by omega)
 rw[<-Nat.pow_add] at h2
 have h3:2 ^ (aC y.toNat+k)<=2 ^ 64:=Nat.pow_le_pow_right (by omega) h
 have h4:0<2 ^ k:=Nat.pow_pos (by omega)
 have e:y*2 ^ k=((y.toNat*2 ^ k:Nat):Int):=by
  have:((y.toNat:Nat):Int)=y:=by omega
  rw[Int.natCast_mul,this]; simp
 rw[e]
 rw[Nat.add_mul] at h2
 omega
theorem apN {x y z:Int} (h0:0<=x) (h1:x<=18446744073709551615) (hy:0<y):0<=x / y/\x / y<=18446744073709551615:=by
 have:=Int.ediv_le_self y h0
 exact⟨Int.ediv_nonneg h0 (by omega),by omega⟩
def Rg.Sub (a b:Rg):Prop:=b.ul<=a.ul/\a.uh<=b.uh/\b.sl<=a.sl/\a.sh<=b.sh
theorem Rg.Sub.refl (a:Rg):a.Sub a:=⟨Int.le_refl _,Int.le_refl _,Int.le_refl _,Int.le_refl _⟩
theorem Rg.Sub.trans {a b c:Rg} (h:a.Sub b) (g:b.Sub c):a.Sub c:=by
 obtain⟨h1,h2,h3,h4⟩:=h
 obtain⟨g1,g2,g3,g4⟩:=g
 exact⟨by omega,by omega,by omega,by omega⟩
def blow (r:Rg):Rg:=if bmay r=true/\r.uh<=4294967295 then r else bnar (bu 0 4294967295)
def bcan (cc:Int) (a b:Rg):Bool:=
 if cc=1 then(if dQ b=true then !decide (a.ul=b.ul/\a.uh=b.ul) &&!decide (a.sl=s64 b.ul/\a.sh=s64 b.ul) else true)
 else if cc=2 then !decide (b.ul=18446744073709551615) else if cc=4 then !decide (b.uh=0) else if cc=6 then !decide (b.sl=9223372036854775807) else if cc=8 then !decide (b.sh = -9223372036854775808) else true
def brng (cc:Int) (a b:Rg):Rg:=
 if cc=1 then(if dQ b=true then⟨if a.ul=b.ul then a.ul+1 else a.ul,if a.ul≠b.ul/\a.uh=b.ul then a.uh-1 else a.uh,if a.sl=s64 b.ul then a.sl+1 else a.sl,if a.sl≠s64 b.ul/\a.sh=s64 b.ul then a.sh-1 else a.sh⟩ else a)
 else if cc=2 then⟨max a.ul (b.ul+1),a.uh,a.sl,a.sh⟩ else if cc=3 then⟨max a.ul b.ul,a.uh,a.sl,a.sh⟩
 else if cc=4 then⟨a.ul,min a.uh (b.uh-1),a.sl,a.sh⟩ else if cc=5 then⟨a.ul,min a.uh b.uh,a.sl,a.sh⟩
 else if cc=6 then⟨a.ul,a.uh,max a.sl (b.sl+1),a.sh⟩ else if cc=7 then⟨a.ul,a.uh,max a.sl b.sl,a.sh⟩
 else if cc=8 then⟨a.ul,a.uh,a.sl,min a.sh (b.sh-1)⟩ else if cc=9 then⟨a.ul,a.uh,a.sl,min a.sh b.sh⟩ else a
def jZ (cc:Int) (a b:Rg):Bool:=bmay a&&(bmay b&&(decide (0<=cc)&&decide (cc<=10)))
def bgok (cc:Int) (a b:Rg):Bool:=jZ cc a b&&(if cc=0 then ig a b else bcan cc a b&&bnok (brng cc a b))
def bgiv (cc:Int) (a b:Rg):Rg:=if bgok cc a b=true then(if cc=0 then kT a b else bnar (brng cc a b)) else ball
end Go.Proofs.YtfkhblmeioiciaaGreatDoor
