import Derived.Test.YtfkhblmeioiciaaGreatDoorKnZ
set_option linter.unusedVariables false
set_option linter.unusedSimpArgs false
namespace Go.Proofs.YtfkhblmeioiciaaGreatDoor
open Go Go.RowKit
theorem adF {op:Int} {a b:Sc} (wA:a.wf) (wB:b.wf):(bV op a b).wf:=by
 unfold bV vcap
 have w1:=sJ eJ
 split
 ·exact w1
 ·split
  ·split
   ·split
    ·exact zf wA.r (by rw[afL]; exact sH (dZ _ _).1 (dZ _ _).2)
    ·exact w1
   ·exact w1
  ·split
   ·exact zf wA.r wB.r
   ·exact w1
theorem agQ {op l:Int} {a b:Sc} (ha:a.wf) (hb:b.wf) {p q:Int} (hp:0≤p∧p≤18446744073709551615) (hq:0≤q∧q≤18446744073709551615) (h1:vhas a p=true) (h2:vhas b q=true) (hk:okop op l=true):vhas (vdo op l a b) (zdo op l p q)=true:=by
 obtain⟨h0,h12,hl⟩:=acn hk
 have hz:=cJ op l p q hp.1 hp.2 hq.1 hq.2
 unfold vdo
 rw[if_pos ⟨hk,ku h1,ku h2⟩]
 rcases hl with rfl | rfl
 ·rw[if_neg (by decide)]
  have g1:=uV ha hp h1
  have g2:=uV hb hq h2
  have wA:=zc ha
  have wB:=zc hb
  have bp:=cm p 32 hp.1 hp.2
  have bq:=cm q 32 hq.1 hq.2
  have cp:zcut p 32≤4294967295:=by rw[bP]; omega
  have cq:zcut q 32≤4294967295:=by rw[bP]; omega
  have hh:=afp wA wB h0 h12 bp.1 cp bq.1 cq g1 g2
  have hK:=acK h0 h12 (w:=32) (.inl rfl) wA.k wB.k (kW g1) (kW g2) bp bq
  rw[uR] at hh hK
  have hR:=adF (op:=op) wA wB
  have hn:=kt (a:=vhf op 32 a b) (qf hR (afK wA.k wB.k op 32)) hz (gp (a:=sc _ _) hh hK)
  rw[if_pos hn.1]
  exact hn.2
 ·rw[if_pos rfl]
  exact(kt (qf (zf ha.r hb.r) (afK ha.k hb.k op 64)) hz (gp (a:=sc _ _) (acU ha.r hb.r hp.1 hp.2 hq.1 hq.2 (hJ h1) (hJ h2) hz.1 hz.2) (acK h0 h12 (.inr rfl) ha.k hb.k (kW h1) (kW h2) hp hq))).2
theorem za {v:Int} (hv:0≤v∧v≤18446744073709551615):(vone v).wf:=qf (sH hv.1 hv.2) (og hv)
theorem adH {v:Int} (hv:0≤v∧v≤18446744073709551615):vhas (vone v) v=true:=gp (a:=vone v) xq (pK hv)
end Go.Proofs.YtfkhblmeioiciaaGreatDoor
