/-
  Chapter 20: TopLog, the row: the law returns true at every input, and leaves what was there.
-/
import Derived.Test.YtaajkppmibfgfaaGreatB4
import Derived.Test.YtaajkppmibfgfaaGreatB5
set_option linter.all false
set_option maxRecDepth 100000
set_option maxHeartbeats 4000000
namespace Go.Proofs.YtaajkppmibfgfaaGreat
open Go.RowKit Go.ChangeShapes Go.WideShapes Go.ChangeAt
theorem TopLog_lifted (os:Os) (started:os.Started) (H:Type) (enc:TypeId×Value->H):
 ReturnsInHanded {} Tryz.checked os 3 .any (Rows.topLogSpec.pre6 enc Tryz.prog Tryz.f3 Rows.topLogRow.domain false) (Rows.topLogSpec.post enc Tryz.prog Tryz.f3 false true false false):=by
 refine returnsInHanded_of_change (C:=Tryz.checked) Tryz.own started (by kernel_rfl) Tryz.func3
  (ChangeSpec.witness6 (enc:=enc) (C:=Tryz.checked) false ⟨#[],#[.agg #[.int .u64 0,.slice none 0 0],.slice none 0 0],[]⟩ 8 (by kernel_rfl) (by kernel_rfl) (by kernel_rfl) (by kernel_rfl)) ?_
 intro W base args ds gs before hval0 hW hcnd _;have hval:∀(j:Nat) t v,Tryz.f3.params[j]? =some t->args[j]? =some v->Value.okWide Tryz.prog W .any base t v:=hval0;have hW':=hW;obtain⟨p,q,hA0,hV,rfl,hfz,hnd⟩:=hW;have hA:DataW.TrodAll enc Tryz.prog W 0 (λ_=>true) true Tryz.f3.params.toList args.toList ds p:=hA0;rw[Tryz.params3]at hA hval;obtain⟨v0,vs0,d0,ds0,p0,q0,hargs,rfl,rfl,h0,r0⟩:=trodAll_cons hA;obtain⟨v1,vs1,d1,ds1,p1,q1,rfl,rfl,rfl,h1,r1⟩:=trodAll_cons r0;obtain⟨rfl,rfl,rfl⟩:=trodAll_nil r1;obtain⟨al⟩:=args;simp only at hargs;subst hargs;obtain⟨rfl,rfl⟩:=trodVars_none hV;obtain⟨ysg,hysg,wysg⟩:=aV 9 (show Oq Tryz.prog 9 25=some Aaz from by kernel_rfl) Tryz.underlying25 (hval 0 25 v0 rfl rfl) h0;obtain⟨g,eg,wg⟩:=Aa2 wysg;rw[eg]at hysg;obtain⟨z,hz,wz⟩:=qQ Tryz.underlying26 Tryz.underlying5 (by kernel_rfl) (hval 1 26 v1 rfl rfl) h1;refine((WY g z wg (mS wz)).top (BT.cons hysg (BT.cons hz.rep (BT.nil _)))).mono λr W' ⟨he,hb⟩=>?_
 subst he;exact⟨_,rfl,kP Tryz.laidOut (fn:=Tryz.f3) hW' rfl (by kernel_rfl) _ Tryz.underlying4 rfl rfl hb⟩
theorem TopLog_holds:Rows.TopLogSaid:=
 OpenClaim.holds_of_wide 3 Tryz.f3 rfl rfl rfl rfl rfl rfl rfl ⟨rfl,rfl,rfl,rfl,rfl⟩ rfl rfl rfl rfl rfl CellTopLog.named Tryz.func3 CellTopLog.closed CellTopLog.inst CellTopLog.wrap
  (λos started H enc _=>TopLog_lifted os started H enc)
#print axioms TopLog_holds
end Go.Proofs.YtaajkppmibfgfaaGreat
