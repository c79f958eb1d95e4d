/- The law lathelaw19.LiveDead: whatever it is called with, it answers true and leaves its arguments as they read, where math/bits' two tables hold what the program's text lays there. -/
import Derived.Test.YtgolejfhoefeaabGreatDoorFrame
import Derived.Test.YtgolejfhoefeaabGreatDoorTie
import Derived.Test.YtgolejfhoefeaabGreatDoorCards
import Derived.Test.YtgolejfhoefeaabGreatDoorAkZ
import Derived.Lib.LaidU8
import Derived.Lay
import Derived.LaidOnce
import Derived.SevenTiedAt
namespace Go.Proofs.YtgolejfhoefeaabGreatDoor.liveDead
open Go.ChangeShapes Go.WideShapes Go.ChangeAt Go.RowKit Go.Shelf Go.Lib
set_option linter.unusedVariables false
theorem own:ownKnob Tryz.prog.godebug=none:=by kernel_rfl
theorem gn:Tryz.prog.globalNamed "math/bits.deBruijn64tab" =some 0:=by kernel_rfl
theorem gt:(Tryz.prog.globals[0]?).map (·.type)=some 99:=by kernel_rfl
theorem tabD:(Rows.laid_math_bits_deBruijn64tab:DataW Unit)=tabData .u8 (deBruijn64tab.map fun(n:Nat)=>(n:Int)):=by kernel_rfl
theorem atr {W:World} (hL:laidMetH Tryz.prog Rows.liveDeadRow.laid W):JA W:=by
 rw[MakeChecks.laidMetH_plain _ _ _ (by kernel_rfl)] at hL
 obtain⟨g,t,cs,fuel,p,hg,Ci,hvar,hd⟩:=laidMet.reads hL (.tail _ (.head _))
 obtain rfl:=Option.some.inj (gn.symm.trans hg)
 obtain rfl:=Option.some.inj (gt.symm.trans Ci)
 rw[tabD] at hd
 have CJ:=cells_of_tab Tryz.underlying99 Tryz.underlying5 (by kernel_rfl) (by kernel_rfl) hd
 intro j hj
 rw[World.var?_cell hg hvar j,←Array.getElem?_toList,CJ]
 simp[hj]
set_option maxRecDepth 100000 in
theorem atE (os:Go.Os) (started:os.Started) (H:Type) (enc:TypeId×Value→H):
  ReturnsInHanded {} Tryz.checked os 3 .any (fun w args=>(Rows.liveDeadSpec.pre enc Tryz.prog Tryz.f3 [] false w args∧laidMetH Tryz.prog Rows.liveDeadRow.laid w)∧sizedMet enc Tryz.prog Tryz.f3 (OpenSpec.ofChange Rows.liveDeadSpec) false w args) (Rows.liveDeadSpec.post enc Tryz.prog Tryz.f3 false true false false):=by
 refine returnsInHanded_of_change_and (C:=Tryz.checked) (X:=fun w _=>laidMetH Tryz.prog Rows.liveDeadRow.laid w) (fun _ _ _ hh h=>h.of_heap hh) own started (by kernel_rfl) Tryz.func3
  (ChangeSpec.witness_shaped (enc:=enc) (C:=Tryz.checked) (os:=os) (X:=fun w _=>laidMetH Tryz.prog Rows.liveDeadRow.laid w) false (World.laidAll Tryz.prog os Rows.liveDeadRow.laid) #[.agg #[.int .i64 0,.slice none 0 0],.int .i64 0,.int .i64 0,.slice none 0 0,.slice none 0 0,.int .i64 0] 8 (World.laidAll_os _ _ _)
   (World.shaped_of_ZipB (by kernel_rfl) (by kernel_rfl)) (by kernel_rfl) (by kernel_rfl) (by kernel_rfl)
   (by rw[MakeChecks.laidMetH_plain _ _ _ (by kernel_rfl)];exact laidMet_laidAll _ (by kernel_rfl) (by kernel_rfl))) ?_
 intro W base args ds gs Gn hval0 hW _ _ hL _
 have En:∀(j:Nat) t v,Tryz.f3.params[j]? =some t→args[j]? =some v→Value.okWide Tryz.prog W .any base t v:=hval0
 have Ap:∀x∈Gn,x.block<W.heap.size:=fun x hx=>hW.lt x hx
 have Xf:=hW
 obtain⟨p,q,hA0,hV,rfl,hfz,EA⟩:=hW
 have hA:DataW.TrodAll enc Tryz.prog W 0 (fun _=>true) true Tryz.f3.params.toList args.toList ds p:=hA0
 rw[Tryz.params3] at hA En
 obtain⟨v0,vs0,d0,ds0,p0,q0,BD,rfl,rfl,h0,r0⟩:=trodAll_cons hA
 obtain⟨v1,Lz,d1,ds1,p1,q1,rfl,rfl,rfl,h1,r1⟩:=trodAll_cons r0
 obtain⟨v2,LA,d2,ds2,p2,q2,rfl,rfl,rfl,h2,r2⟩:=trodAll_cons r1
 obtain⟨v3,vs3,d3,ds3,p3,q3,rfl,rfl,rfl,h3,r3⟩:=trodAll_cons r2
 obtain⟨v4,vs4,d4,ds4,p4,q4,rfl,rfl,rfl,h4,r4⟩:=trodAll_cons r3
 obtain⟨v5,vs5,d5,ds5,p5,q5,rfl,rfl,rfl,h5,r5⟩:=trodAll_cons r4
 obtain⟨rfl,rfl,rfl⟩:=trodAll_nil r5
 obtain rfl:args = #[v0,v1,v2,v3,v4,v5]:=by cases args;simp_all
 obtain⟨rfl,rfl⟩:=trodVars_none hV
 obtain⟨a1,rfl,rfl,rfl,w1⟩:=open_int Tryz.underlying3 (En 1 3 v1 rfl rfl) h1
 obtain⟨a2,rfl,rfl,rfl,w2⟩:=open_int Tryz.underlying3 (En 2 3 v2 rfl rfl) h2
 obtain⟨a5,rfl,rfl,rfl,w5⟩:=open_int Tryz.underlying3 (En 5 3 v5 rfl rfl) h5
 clear hA0 hval0
 refine(xH v0 (En 0 24 v0 rfl rfl) d0 p0 h0 (fun x hx=>Ap x (by simp[hx])) a1 w1 a2 w2 v3 (En 3 25 v3 rfl rfl) d3 p3 h3 (fun x hx=>Ap x (by simp[hx])) v4 (En 4 26 v4 rfl rfl) d4 p4 h4 (fun x hx=>Ap x (by simp[hx])) a5 w5 (W:=W) (atr hL)).mono fun e W' ⟨he,hg⟩=> ?_
 subst he
 exact⟨_,rfl,alk (by kernel_rfl) (by kernel_rfl) rfl (by kernel_rfl) Tryz.underlying4 Xf rfl hg⟩
theorem over:Rows.LiveDeadSaid:=
 OpenClaim.holds_of_wide 3 Tryz.f3 rfl rfl rfl rfl rfl rfl rfl ⟨rfl,rfl,rfl,rfl,rfl⟩ rfl rfl rfl rfl rfl (by kernel_rfl) Tryz.func3 (by kernel_rfl)
  (of_decide_eq_true (by kernel_rfl)) (by unfold Func.isWrapper;first | (rw[if_pos (by decide +kernel)];kernel_rfl) | (rw[if_neg (by decide +kernel)];exact⟨rfl,rfl⟩))
  (fun os started H enc _=>atE os started H enc)
theorem card:Rows.LiveDeadCardSaid:=
 Claim7.holds_tied_plain_at .later [] [.data,.data] true (true, "fbbffe81280005f4b159d1ec4bf080093d0a031eee080423235c13b5300bdf7e") false
  over (fun _ h=>by cases h) (by kernel_rfl) (fun _ h=>by cases h) liveDead_row_tie rfl ⟨rfl,rfl⟩ (by kernel_rfl) rfl
  (fun f fn hf LK=>by
   obtain rfl:f=3:=Option.some.inj ((show Tryz.prog.funcNamed "lathe/lathelaw19.LiveDead" =some 3 by kernel_rfl).symm.trans hf) |>.symm
   obtain rfl:fn=Tryz.f3:=(Option.some.inj (Tryz.func3.symm.trans LK)).symm
   exact⟨by kernel_rfl,fun j t ht=>by
    rw[Tryz.params3] at ht
    have hm:t∈[24,3,3,25,26,3]:=by simpa using Array.mem_of_getElem? ht
    have AX:([24,3,3,25,26,3].all fun u=>!Tryz.prog.wantsStandIn u)=true:=by kernel_rfl
    exact(show Tryz.prog.wantsStandIn t=false by simpa using List.all_eq_true.1 AX t hm)⟩)
  (by kernel_rfl)
end Go.Proofs.YtgolejfhoefeaabGreatDoor.liveDead
namespace Go.Proofs.YtgolejfhoefeaabGreatDoor
theorem liveDead_holds:Rows.LiveDeadCardSaid:=liveDead.card
end Go.Proofs.YtgolejfhoefeaabGreatDoor
