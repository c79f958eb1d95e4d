/- The law lathelaw11.VerifyStep: whatever it is called with, it answers true and leaves its arguments as they read, where math/bits' two tables hold what the program's text lays there. -/
import Derived.Test.YtfkhblmeioiciaaGreatDoorFrame
import Derived.Test.YtfkhblmeioiciaaGreatDoorTie
import Derived.Test.YtfkhblmeioiciaaGreatDoorCards
import Derived.Test.YtfkhblmeioiciaaGreatDoorAhZ
import Derived.Lib.LaidU8
import Derived.Lay
import Derived.LaidOnce
import Derived.SevenTiedAt
namespace Go.Proofs.YtfkhblmeioiciaaGreatDoor.verifyStep
open Go.ChangeShapes Go.WideShapes Go.ChangeAt Go.RowKit Go.Shelf Go.Lib
set_option linter.unusedVariables false
theorem own:ownKnob Tryz.prog.godebug=none:=by kernel_rfl
theorem gn:Tryz.prog.globalNamed "math/bits.deBruijn64tab" =some 0:=by kernel_rfl
theorem gt:(Tryz.prog.globals[0]?).map (·.type)=some 81:=by kernel_rfl
theorem tabD:(Rows.laid_math_bits_deBruijn64tab:DataW Unit)=tabData .u8 (deBruijn64tab.map fun(n:Nat)=>(n:Int)):=by kernel_rfl
theorem am5 {W:World} (hL:laidMetH Tryz.prog Rows.verifyStepRow.laid W):sHw W:=by
 rw[MakeChecks.laidMetH_plain _ _ _ (by kernel_rfl)] at hL
 obtain⟨g,t,cs,fuel,p,hg,hty,hvar,hd⟩:=laidMet.reads hL (.tail _ (.head _))
 obtain rfl:=Option.some.inj (gn.symm.trans hg)
 obtain rfl:=Option.some.inj (gt.symm.trans hty)
 rw[tabD] at hd
 have hcs:=cells_of_tab Tryz.underlying81 Tryz.underlying5 (by kernel_rfl) (by kernel_rfl) hd
 intro j hj
 rw[World.var?_cell hg hvar j,←Array.getElem?_toList,hcs]
 simp[hj]
set_option maxRecDepth 100000 in
theorem am7 (os:Os) (started:os.Started) (H:Type) (enc:TypeId×Value→H):
  ReturnsInHanded {} Tryz.checked os 5 .any (fun w args=>(Rows.verifyStepSpec.pre enc Tryz.prog Tryz.f5 [] false w args∧laidMetH Tryz.prog Rows.verifyStepRow.laid w)∧sizedMet enc Tryz.prog Tryz.f5 (OpenSpec.ofChange Rows.verifyStepSpec) false w args) (Rows.verifyStepSpec.post enc Tryz.prog Tryz.f5 false true false false):=by
 refine returnsInHanded_of_change_and (C:=Tryz.checked) (X:=fun w _=>laidMetH Tryz.prog Rows.verifyStepRow.laid w) (fun _ _ _ hh h=>h.of_heap hh) own started (by kernel_rfl) Tryz.func5
  (ChangeSpec.witness_shaped (enc:=enc) (C:=Tryz.checked) (os:=os) (X:=fun w _=>laidMetH Tryz.prog Rows.verifyStepRow.laid w) false (World.laidAll Tryz.prog os Rows.verifyStepRow.laid) #[.agg #[.int .i64 0,.slice none 0 0],.int .i64 0,.agg (((List.replicate 19 ([.int .i8 0,.int .u64 0,.int .u64 0,.int .i64 0,.int .i64 0,.int .u64 0,.int .u64 0,.int .i64 0,.int .i64 0]:List Value)).flatten).toArray),.agg #[.int .i8 0,.int .u64 0,.int .u64 0,.int .i64 0,.int .i64 0,.int .u64 0,.int .u64 0,.int .i64 0,.int .i64 0],.int .i64 0,.int .i64 0] 8 (World.laidAll_os _ _ _)
   (World.shaped_of_ZipB (by kernel_rfl) (by kernel_rfl)) (by kernel_rfl) (by kernel_rfl) (by kernel_rfl)
   (by rw[MakeChecks.laidMetH_plain _ _ _ (by kernel_rfl)];exact laidMet_laidAll _ (by kernel_rfl) (by kernel_rfl))) ?_
 intro W base args ds gs before hval0 hW _ _ hL _
 have hval:∀(j:Nat) t v,Tryz.f5.params[j]? =some t→args[j]? =some v→Value.okWide Tryz.prog W .any base t v:=hval0
 have hlt:∀x∈before,x.block<W.heap.size:=fun x hx=>hW.lt x hx
 have hW':=hW
 obtain⟨p,q,hA0,hV,rfl,hfz,hnd⟩:=hW
 have hA:DataW.TrodAll enc Tryz.prog W 0 (fun _=>true) true Tryz.f5.params.toList args.toList ds p:=hA0
 rw[Tryz.params5] at hA hval
 obtain⟨v0,vs0,d0,ds0,p0,q0,hargs,rfl,rfl,h0,r0⟩:=trodAll_cons hA
 obtain⟨v1,vs1,d1,ds1,p1,q1,rfl,rfl,rfl,h1,r1⟩:=trodAll_cons r0
 obtain⟨v2,vs2,d2,ds2,p2,q2,rfl,rfl,rfl,h2,r2⟩:=trodAll_cons r1
 obtain⟨v3,vs3,d3,ds3,p3,q3,rfl,rfl,rfl,h3,r3⟩:=trodAll_cons r2
 obtain⟨v4,vs4,d4,ds4,p4,q4,rfl,rfl,rfl,h4,r4⟩:=trodAll_cons r3
 obtain⟨v5,vs5,d5,ds5,p5,q5,rfl,rfl,rfl,h5,r5⟩:=trodAll_cons r4
 obtain⟨rfl,rfl,rfl⟩:=trodAll_nil r5
 obtain rfl:args = #[v0,v1,v2,v3,v4,v5]:=by cases args;simp_all
 obtain⟨rfl,rfl⟩:=trodVars_none hV
 obtain⟨a1,rfl,rfl,rfl,w1⟩:=open_int Tryz.underlying3 (hval 1 3 v1 rfl rfl) h1
 obtain⟨a4,rfl,rfl,rfl,w4⟩:=open_int Tryz.underlying3 (hval 4 3 v4 rfl rfl) h4
 obtain⟨a5,rfl,rfl,rfl,w5⟩:=open_int Tryz.underlying3 (hval 5 3 v5 rfl rfl) h5
 clear hA0 hval0
 refine(oA v0 (hval 0 24 v0 rfl rfl) d0 p0 h0 (fun x hx=>hlt x (by simp[hx])) a1 w1 v2 (hval 2 54 v2 rfl rfl) d2 p2 h2 (fun x hx=>hlt x (by simp[hx])) v3 (hval 3 50 v3 rfl rfl) d3 p3 h3 (fun x hx=>hlt x (by simp[hx])) a4 w4 a5 w5 (W:=W) (am5 hL)).mono fun e W' ⟨he,hg⟩=> ?_
 subst he
 exact⟨_,rfl,agd (by kernel_rfl) (by kernel_rfl) rfl (by kernel_rfl) Tryz.underlying4 hW' rfl hg⟩
theorem over:Rows.VerifyStepSaid:=
 OpenClaim.holds_of_wide 5 Tryz.f5 rfl rfl rfl rfl rfl rfl rfl ⟨rfl,rfl,rfl,rfl,rfl⟩ rfl rfl rfl rfl rfl (by kernel_rfl) Tryz.func5 (by kernel_rfl)
  (of_decide_eq_true (by kernel_rfl)) (by unfold Func.isWrapper;first | (rw[if_pos (by decide +kernel)];kernel_rfl) | (rw[if_neg (by decide +kernel)];exact⟨rfl,rfl⟩))
  (fun os started H enc _=>am7 os started H enc)
theorem card:Rows.VerifyStepCardSaid:=
 Claim7.holds_tied_plain_at .later [] [.data,.data] true (true, "24f698d9126eadb508c914b72639642435638ff5b2fa9f9189c76821f860e40e") false
  over (fun _ h=>by cases h) (by kernel_rfl) (fun _ h=>by cases h) verifyStep_row_tie rfl ⟨rfl,rfl⟩ (by kernel_rfl) rfl
  (fun f fn hf hfn=>by
   obtain rfl:f=5:=Option.some.inj ((show Tryz.prog.funcNamed "lathe/lathelaw11.VerifyStep" =some 5 by kernel_rfl).symm.trans hf) |>.symm
   obtain rfl:fn=Tryz.f5:=(Option.some.inj (Tryz.func5.symm.trans hfn)).symm
   exact⟨by kernel_rfl,fun j t ht=>by
    rw[Tryz.params5] at ht
    have hm:t∈[24,3,54,50,3,3]:=by simpa using Array.mem_of_getElem? ht
    have hall:([24,3,54,50,3,3].all fun u=>!Tryz.prog.wantsStandIn u)=true:=by kernel_rfl
    exact(show Tryz.prog.wantsStandIn t=false by simpa using List.all_eq_true.1 hall t hm)⟩)
  (by kernel_rfl)
end Go.Proofs.YtfkhblmeioiciaaGreatDoor.verifyStep
namespace Go.Proofs.YtfkhblmeioiciaaGreatDoor
theorem verifyStep_holds:Rows.VerifyStepCardSaid:=verifyStep.card
end Go.Proofs.YtfkhblmeioiciaaGreatDoor
