/-
  Chapter 20: TopLooks, the row: the law returns true at every input, and leaves what was there.
-/
import Derived.Test.YtileggkdbaejoaaGreatB5
set_option linter.all false
namespace Go.Proofs.YtileggkdbaejoaaGreat
open Go.RowKit Go.ChangeShapes Go.WideShapes Go.ChangeAt
set_option maxRecDepth 100000 in
theorem TopLooks_lifted (os:Os) (started:os.Started) (H:Type) (enc:TypeId×Value->H):
 ReturnsInHanded {} Tryz.checked os 3 .any (Rows.topLooksSpec.pre6 enc Tryz.prog Tryz.f3 Rows.topLooksRow.domain false) (Rows.topLooksSpec.post enc Tryz.prog Tryz.f3 false true false false):=by
 refine returnsInHanded_of_change (C:=Tryz.checked) Tryz.own started (by kernel_rfl) Tryz.func3
  (ChangeSpec.witness6 (enc:=enc) (C:=Tryz.checked) false ⟨#[],#[.slice none 0 0,.int .u64 0],[]⟩ 8 (by kernel_rfl) (by kernel_rfl) (by kernel_rfl) (by kernel_rfl)) ?_
 intro W base args ds gs before hval0 hW hcnd _
 have hval:∀(j:Nat) t v,Tryz.f3.params[j]? =some t->args[j]? =some v->Value.okWide Tryz.prog W .any base t v:=hval0
 have hW':=hW
 obtain⟨p,q,hA0,hV,rfl,hfz,hnd⟩:=hW
 have hA:DataW.TrodAll enc Tryz.prog W 0 (λ_=>true) true Tryz.f3.params.toList args.toList ds p:=hA0
 rw[Tryz.params3]at hA hval
 obtain⟨v0,vs0,d0,ds0,p0,q0,hargs,rfl,rfl,h0,r0⟩:=trodAll_cons hA
 obtain⟨v1,vs1,d1,ds1,p1,q1,rfl,rfl,rfl,h1,r1⟩:=trodAll_cons r0
 obtain⟨rfl,rfl,rfl⟩:=trodAll_nil r1
 obtain⟨al⟩:=args
 simp only at hargs
 subst hargs
 obtain⟨rfl,rfl⟩:=trodVars_none hV
 obtain⟨s,hs,ws⟩:=Ajw Tryz.underlying22 Tryz.underlying5 (by kernel_rfl) (hval 0 22 v0 rfl rfl) h0
 obtain⟨p,rfl,rfl,rfl,wp⟩:=open_int Tryz.underlying23 (hval 1 23 v1 rfl rfl) h1
 refine((QE s p (Aok ws) (Am4 wp)).top (Cn.cons hs.rep (Cn.cons (.lit _) (Cn.nil _)))).mono λr W' ⟨he,hb⟩=>?_
 subst he
 exact⟨_,rfl,Afh Tryz.laidOut (fn:=Tryz.f3) hW' rfl (by kernel_rfl) _ Tryz.underlying4 rfl rfl hb⟩
theorem TopLooks_holds:Rows.TopLooksSaid:=
 OpenClaim.holds_of_wide 3 Tryz.f3 rfl rfl rfl rfl rfl rfl rfl ⟨rfl,rfl,rfl,rfl,rfl⟩ rfl rfl rfl rfl rfl CellTopLooks.named Tryz.func3 CellTopLooks.closed CellTopLooks.inst CellTopLooks.wrap
  (λos started H enc _=>TopLooks_lifted os started H enc)
#print axioms TopLooks_holds
end Go.Proofs.YtileggkdbaejoaaGreat
