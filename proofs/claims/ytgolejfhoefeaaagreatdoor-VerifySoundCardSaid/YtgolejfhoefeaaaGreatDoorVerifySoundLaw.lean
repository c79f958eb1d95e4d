/- The law lathelaw11.VerifySound: whatever it is called with, it answers true and leaves its arguments as they read, where math/bits' two tables hold what the program's text lays there. -/
import Derived.Test.YtgolejfhoefeaaaGreatDoorFrame
import Derived.Test.YtgolejfhoefeaaaGreatDoorTie
import Derived.Test.YtgolejfhoefeaaaGreatDoorCards
import Derived.Test.YtgolejfhoefeaaaGreatDoorAhZ
import Derived.Lib.LaidU8
import Derived.Lay
import Derived.LaidOnce
import Derived.SevenTiedAt
namespace Go.Proofs.YtgolejfhoefeaaaGreatDoor.verifySound
open Go.ChangeShapes Go.WideShapes Go.ChangeAt Go.RowKit Go.Shelf Go.Lib
set_option linter.unusedVariables false
theorem own:ownKnob Tryz.prog.godebug=none:=by kernel_rfl
theorem gn:Tryz.prog.globalNamed "math/bits.deBruijn64tab" =some 0:=by kernel_rfl
theorem gt:(Tryz.prog.globals[0]?).map (·.type)=some 61:=by kernel_rfl
theorem tabD:(Rows.laid_math_bits_deBruijn64tab:DataW Unit)=tabData .u8 (deBruijn64tab.map fun(n:Nat)=>(n:Int)):=by kernel_rfl
theorem asy {W:World} (hL:laidMetH Tryz.prog Rows.verifySoundRow.laid W):Jr W:=by
 rw[MakeChecks.laidMetH_plain _ _ _ (by kernel_rfl)] at hL
 obtain⟨g,t,cs,fuel,p,hg,C8,hvar,hd⟩:=laidMet.reads hL (.tail _ (.head _))
 obtain rfl:=Option.some.inj (gn.symm.trans hg)
 obtain rfl:=Option.some.inj (gt.symm.trans C8)
 rw[tabD] at hd
 have CS:=cells_of_tab Tryz.underlying61 Tryz.underlying5 (by kernel_rfl) (by kernel_rfl) hd
 intro j hj
 rw[World.var?_cell hg hvar j,←Array.getElem?_toList,CS]
 simp[hj]
set_option maxRecDepth 100000 in
theorem asJ (os:Go.Os) (started:os.Started) (H:Type) (enc:TypeId×Value→H):
  ReturnsInHanded {} Tryz.checked os 3 .any (fun w args=>(Rows.verifySoundSpec.pre enc Tryz.prog Tryz.f3 [] false w args∧laidMetH Tryz.prog Rows.verifySoundRow.laid w)∧sizedMet enc Tryz.prog Tryz.f3 (OpenSpec.ofChange Rows.verifySoundSpec) false w args) (Rows.verifySoundSpec.post enc Tryz.prog Tryz.f3 false true false false):=by
 refine returnsInHanded_of_change_and (C:=Tryz.checked) (X:=fun w _=>laidMetH Tryz.prog Rows.verifySoundRow.laid w) (fun _ _ _ hh h=>h.of_heap hh) own started (by kernel_rfl) Tryz.func3
  (ChangeSpec.witness_shaped (enc:=enc) (C:=Tryz.checked) (os:=os) (X:=fun w _=>laidMetH Tryz.prog Rows.verifySoundRow.laid w) false (World.laidAll Tryz.prog os Rows.verifySoundRow.laid) #[.agg #[.int .i64 0,.slice none 0 0],.slice none 0 0,.slice none 0 0,.int .i64 0] 8 (World.laidAll_os _ _ _)
   (World.shaped_of_ZipB (by kernel_rfl) (by kernel_rfl)) (by kernel_rfl) (by kernel_rfl) (by kernel_rfl)
   (by rw[MakeChecks.laidMetH_plain _ _ _ (by kernel_rfl)];exact laidMet_laidAll _ (by kernel_rfl) (by kernel_rfl))) ?_
 intro W base args ds gs GG hval0 hW _ _ hL _
 have IH:∀(j:Nat) t v,Tryz.f3.params[j]? =some t→args[j]? =some v→Value.okWide Tryz.prog W .any base t v:=hval0
 have As:∀x∈GG,x.block<W.heap.size:=fun x hx=>hW.lt x hx
 have hW':=hW
 obtain⟨p,q,hA0,hV,rfl,hfz,E1⟩:=hW
 have hA:DataW.TrodAll enc Tryz.prog W 0 (fun _=>true) true Tryz.f3.params.toList args.toList ds p:=hA0
 rw[Tryz.params3] at hA IH
 obtain⟨v0,vs0,d0,ds0,p0,q0,B3,rfl,rfl,h0,r0⟩:=trodAll_cons hA
 obtain⟨v1,MA,d1,ds1,p1,q1,rfl,rfl,rfl,h1,r1⟩:=trodAll_cons r0
 obtain⟨v2,MB,d2,ds2,p2,q2,rfl,rfl,rfl,h2,r2⟩:=trodAll_cons r1
 obtain⟨v3,vs3,d3,ds3,p3,q3,rfl,rfl,rfl,h3,r3⟩:=trodAll_cons r2
 obtain⟨rfl,rfl,rfl⟩:=trodAll_nil r3
 obtain rfl:args = #[v0,v1,v2,v3]:=by cases args;simp_all
 obtain⟨rfl,rfl⟩:=trodVars_none hV
 obtain⟨a3,rfl,rfl,rfl,w3⟩:=open_int Tryz.underlying3 (IH 3 3 v3 rfl rfl) h3
 clear hA0 hval0
 refine(qt v0 (IH 0 24 v0 rfl rfl) d0 p0 h0 (fun x hx=>As x (by simp[hx])) v1 (IH 1 25 v1 rfl rfl) d1 p1 h1 (fun x hx=>As x (by simp[hx])) v2 (IH 2 26 v2 rfl rfl) d2 p2 h2 (fun x hx=>As x (by simp[hx])) a3 w3 (W:=W) (asy hL)).mono fun e W' ⟨he,hg⟩=> ?_
 subst he
 exact⟨_,rfl,akE (by kernel_rfl) (by kernel_rfl) rfl (by kernel_rfl) Tryz.underlying4 hW' rfl hg⟩
theorem over:Rows.VerifySoundSaid:=
 OpenClaim.holds_of_wide 3 Tryz.f3 rfl rfl rfl rfl rfl rfl rfl ⟨rfl,rfl,rfl,rfl,rfl⟩ rfl rfl rfl rfl rfl (by kernel_rfl) Tryz.func3 (by kernel_rfl)
  (of_decide_eq_true (by kernel_rfl)) (by unfold Func.isWrapper;first | (rw[if_pos (by decide +kernel)];kernel_rfl) | (rw[if_neg (by decide +kernel)];exact⟨rfl,rfl⟩))
  (fun os started H enc _=>asJ os started H enc)
theorem card:Rows.VerifySoundCardSaid:=
 Claim7.holds_tied_plain_at .later [] [.data,.data] true (true, "684139ebf1e6a0b5256915a825c9491efd67fb9b77897248f9e2b6f3816ad806") false
  over (fun _ h=>by cases h) (by kernel_rfl) (fun _ h=>by cases h) verifySound_row_tie rfl ⟨rfl,rfl⟩ (by kernel_rfl) rfl
  (fun f fn hf Rd=>by
   obtain rfl:f=3:=Option.some.inj ((show Tryz.prog.funcNamed "lathe/lathelaw11.VerifySound" =some 3 by kernel_rfl).symm.trans hf) |>.symm
   obtain rfl:fn=Tryz.f3:=(Option.some.inj (Tryz.func3.symm.trans Rd)).symm
   exact⟨by kernel_rfl,fun j t ht=>by
    rw[Tryz.params3] at ht
    have hm:t∈[24,25,26,3]:=by simpa using Array.mem_of_getElem? ht
    have A8:([24,25,26,3].all fun u=>!Tryz.prog.wantsStandIn u)=true:=by kernel_rfl
    exact(show Tryz.prog.wantsStandIn t=false by simpa using List.all_eq_true.1 A8 t hm)⟩)
  (by kernel_rfl)
end Go.Proofs.YtgolejfhoefeaaaGreatDoor.verifySound
namespace Go.Proofs.YtgolejfhoefeaaaGreatDoor
theorem verifySound_holds:Rows.VerifySoundCardSaid:=verifySound.card
end Go.Proofs.YtgolejfhoefeaaaGreatDoor
