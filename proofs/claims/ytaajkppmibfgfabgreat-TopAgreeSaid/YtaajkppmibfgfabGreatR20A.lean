/-
  Chapter 20: TopAgree, the row: the law returns true at every input, and leaves what was there.
-/
import Derived.Test.YtaajkppmibfgfabGreatB5
set_option linter.all false
set_option maxRecDepth 100000
set_option maxHeartbeats 4000000
namespace Go.Proofs.YtaajkppmibfgfabGreat
open Go.RowKit Go.ChangeShapes Go.WideShapes Go.ChangeAt
theorem TopAgree_lifted (os:Os) (started:os.Started) (H:Type) (enc:TypeId×Value->H):
 ReturnsInHanded {} Tryz.checked os 3 .any (Rows.topAgreeSpec.pre6 enc Tryz.prog Tryz.f3 Rows.topAgreeRow.domain false) (Rows.topAgreeSpec.post enc Tryz.prog Tryz.f3 false true false false):=by
 refine returnsInHanded_of_change (C:=Tryz.checked) Tryz.own started (by kernel_rfl) Tryz.func3
  (ChangeSpec.witness6 (enc:=enc) (C:=Tryz.checked) false ⟨#[],#[.slice none 0 0,.slice none 0 0],[]⟩ 8 (by kernel_rfl) (by kernel_rfl) (by kernel_rfl) (by kernel_rfl)) ?_
 intro W base args ds gs before hval0 hW hcnd _;have hval:∀(j:Nat) t v,Tryz.f3.params[j]? =some t->args[j]? =some v->Value.okWide Tryz.prog W .any base t v:=hval0;have hW':=hW;obtain⟨p,q,hA0,hV,rfl,hfz,hnd⟩:=hW;have hA:DataW.TrodAll enc Tryz.prog W 0 (λ_=>true) true Tryz.f3.params.toList args.toList ds p:=hA0;rw[Tryz.params3]at hA hval;obtain⟨v0,vs0,d0,ds0,p0,q0,hargs,rfl,rfl,h0,r0⟩:=trodAll_cons hA;obtain⟨v1,vs1,d1,ds1,p1,q1,rfl,rfl,rfl,h1,r1⟩:=trodAll_cons r0;obtain⟨rfl,rfl,rfl⟩:=trodAll_nil r1;obtain⟨al⟩:=args;simp only at hargs;subst hargs;obtain⟨rfl,rfl⟩:=trodVars_none hV;obtain⟨s,hs,ws⟩:=aG Tryz.underlying22 Tryz.underlying5 (by kernel_rfl) (hval 0 22 v0 rfl rfl) h0;obtain⟨z,hz,wz⟩:=aG Tryz.underlying22 Tryz.underlying5 (by kernel_rfl) (hval 1 22 v1 rfl rfl) h1;refine((SX s z (qR ws) (qR wz)).top (Cg.cons hs.rep (Cg.cons hz.rep (Cg.nil _)))).mono λr W' ⟨he,hb⟩=>?_
 subst he;exact⟨_,rfl,oJ Tryz.laidOut (fn:=Tryz.f3) hW' rfl (by kernel_rfl) _ Tryz.underlying4 rfl rfl hb⟩
theorem TopAgree_holds:Rows.TopAgreeSaid:=
 OpenClaim.holds_of_wide 3 Tryz.f3 rfl rfl rfl rfl rfl rfl rfl ⟨rfl,rfl,rfl,rfl,rfl⟩ rfl rfl rfl rfl rfl CellTopAgree.named Tryz.func3 CellTopAgree.closed CellTopAgree.inst CellTopAgree.wrap
  (λos started H enc _=>TopAgree_lifted os started H enc)
#print axioms TopAgree_holds
end Go.Proofs.YtaajkppmibfgfabGreat
