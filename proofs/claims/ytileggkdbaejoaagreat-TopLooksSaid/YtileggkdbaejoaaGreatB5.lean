/- Lemmas for TopLooks, part 5. -/
import Derived.Test.YtileggkdbaejoaaGreatB4
import Derived.Test.YtileggkdbaejoaaGreatB0
import Derived.Test.YtileggkdbaejoaaGreatB3
set_option linter.all false
namespace Go.Proofs.YtileggkdbaejoaaGreat
open Go.RowKit
def UY:List Int:=List.replicate 24 97
def g7:Gj:=⟨2,[⟨1,7,[⟨[],UY⟩]⟩]⟩
theorem H0:Da g7=true:=by decide
theorem Yl:∀b∈g7.bt,b.ok∧E9 b:=by
 intro b hb
 simp only[g7,List.mem_singleton]at hb
 subst hb
 refine⟨⟨by decide,by decide,by decide,by decide,λe he=>?_⟩,⟨by decide,λe he=>?_,by decide⟩⟩
 ·simp only[List.mem_singleton]at he
  subst he
  exact⟨λx hx=>by simp at hx,λx hx=>by simp only[UY,List.mem_replicate]at hx;rw[hx.2];decide⟩
 ·simp only[List.mem_singleton]at he
  subst he
  exact⟨⟨by simp,λx hx=>by simp at hx⟩,by decide⟩
theorem Atr:BtW ⟨1,7,[⟨[],UY⟩]⟩:=SgW.w ⟨H0,Yl⟩ _ (by simp[g7])
theorem Yk:PX g7:=⟨H0,λb hb=>(Yl b hb).1,λb hb=>by
 have:=(IL (SgW.w ⟨H0,Yl⟩ b hb)).2.2
 omega⟩
theorem An1:(CK g7).length≤3000:=by
 have h1:=Afq (base:=7) (l:=[⟨[],UY⟩]) (Cs.1 Atr.right).2.2.2 1 (by simp)
 have h2:=Kn (AL [⟨[],UY⟩])
 have h3:(AL [⟨[],UY⟩]).length=24:=by decide
 have h4:=(Bd ((24:Nat):Int)).2
 have v4:=(Bd (1:Int)).2
 have v5:=(Bd (7:Int)).2
 have hb:(A6 ⟨1,7,[⟨[],UY⟩]⟩).length≤1100:=by
  unfold A6
  simp only[List.length_append,List.length_cons,List.length_nil]
  rw[h3]at h2
  simp only[List.take_succ_cons,List.take_zero]at h1
  have v6:=(Bd ((0+1:Nat):Int)).2
  omega
 have hf:=Bh (1::A6 ⟨1,7,[⟨[],UY⟩]⟩)
 have hl:=J9 2
 have hbd:Bq g7.bt=Ac (1::A6 ⟨1,7,[⟨[],UY⟩]⟩)++[]:=rfl
 have hs:=Yk.lens
 have hp:=E0 (BY g7)
 have hfp:=Bh (Bj (BY g7))
 have ht:=Dk ((Ac (Bj (BY g7))).length:Int)
 rw[List.length_cons]at hf
 unfold CK Dn Eu
 rw[hbd]
 simp only[List.length_append,List.append_nil]
 rw[show g7.ep=2 from rfl]
 omega
theorem Adw {g:Gj} (h:PX g):AY (CK g):=by
 obtain⟨h1,h2,h3⟩:=BP.1 h.right
 obtain⟨hf1,hf2⟩:=h.foot
 have h16:=(Bc.1 h.marks).2
 have hmb:=FK (Bc.1 h.marks).1 (by omega)
 have hml:=(Dp (BU g)).1
 intro x hx
 unfold CK Dn at hx
 rcases List.mem_append.1 hx with hx|hx
 ·rcases List.mem_append.1 hx with hx|hx
  ·rcases List.mem_append.1 hx with hx|hx
   ·exact HY (hd3 h1) (Int.le_refl 0) x hx
   ·exact PQ h.mem x hx
  ·exact D4 (p:=2::AO (BU g)) (λy hy=>by rcases List.mem_cons.1 hy with rfl|hy;decide;exact hmb y hy) (by rw[List.length_cons];omega) x hx
 ·exact Aa0 hf2 hf1 x hx
theorem Akq:C6 (CK g7) 7=(⟨[],UY⟩,(0,0)):=Tn Yk (i:=0) (k:=0) (by decide) (by decide)
theorem An2:L_ (CK g7)=[.item (Am ⟨3,2,0⟩).length ⟨1,7,[⟨[],UY⟩]⟩,.oth 2 (CK g7).length 0]:=Amf Yk
set_option maxRecDepth 100000 in
theorem Aaa:An Tryz.prog 7 [] [] (bA true) []:=by
 obtain⟨o0,o1,q1,q2,q3,q4,q5⟩:=Ann
 refine An.bodyAC Tryz.func7 Aj7 Aj6 ?_
 rw[show Tryz.f7.ntmps=51 from by kernel_rfl]
 refine AC.seq (Ii lvA _ Atp _ _ _ ?_)
 simp only[List.nil_append,List.length_nil,Nat.sub_zero]
 refine (mp ?_).1
 have hg:∀o∈lvO.toList,o.guard=none:=λo ho=>by
  have:=List.all_eq_true.1 Afb o ho
  simpa using this
 refine AC.seq (AC.lit (l:=UY) (lvO.toList.drop 2) q1 hg q2 q3 q4 q5 (by decide) (by simp) (by simp) (e:=5) (by kernel_rfl) (by kernel_rfl) (by kernel_rfl) (zs:=[.int .u8 0]) (by kernel_rfl) (by decide) (by decide) (by rfl) (o:=lvM) rfl rfl rfl Atn ?_)
 simp only[lvS]
 refine (mp ?_).1
 have hseg:=N6 g7 (by decide) Yl
 have e1:Ib g7=CK g7:=by unfold Ib;rw[if_pos H0]
 have e2:Uf g7=0:=by unfold Uf;rw[if_pos H0]
 rw[e1,e2]at hseg
 have hb:=Adw Yk
 have hl:=An1
 have hlk:=IR (CK g7) 7 hb (by omega) (by decide)
 rw[Akq]at hlk
 have hfa:=Af6 (CK g7) hb (by omega)
 rw[An2]at hfa
 obtain⟨B,hB⟩:∃B,CK g7=B:=⟨_,rfl⟩
 rw[hB]at hseg hlk hfa
 obtain⟨hd,hhd⟩:∃hd:Int,((Am ⟨3,2,0⟩).length:Int)=hd:=⟨_,rfl⟩
 rw[hhd]at hfa
 have ew:Bo [uA 2,.sl .full 3 [.agg [uA 1,uA 7,.sl .full 2 [.agg [.sl .full 1 [],.sl .none 1 (A2 .u8 UY)]]]]] [uA 2,slB g7.bt]:=by
  refine Bo.cons (Wa.refl _) (Bo.cons ?_ Bo.nil)
  refine Wa.slN (Bo.cons (Wa.agg (Bo.cons (Wa.refl _) (Bo.cons (Wa.refl _) (Bo.cons ?_ Bo.nil)))) Bo.nil)
  exact Wa.slN (Bo.cons (Wa.agg (Bo.cons Wa.nil (Bo.cons (Wa.refl _) Bo.nil))) Bo.nil)
 refine AC.wk (Wk.wao 0 rfl ew) ?_
 simp only[List.set_cons_zero]
 refine Ii lvR _ Ato _ _ _ ?_
 simp only[lvC]
 refine (mp ?_).1
 simp only[]at hlk
 have hev:Kh [Ev.item hd ⟨1,7,[⟨[],UY⟩]⟩,Ev.oth 2 (B.length:Int) 0]=[evA (Ev.item hd ⟨1,7,[⟨[],UY⟩]⟩),.agg [iA 2,iA B.length,iA 0,iA 0,uA 0,uA 0,uA 0,iA 0,iA 0,DZ,DZ,DZ,uA 0,uA 0,uA 0,uA 0,DZ,uA 0,uA 0,DZ]]:=rfl
 rw[hev]at hfa
 obtain⟨X,hX⟩:∃X,evA (Ev.item hd ⟨1,7,[⟨[],UY⟩]⟩)=X:=⟨_,rfl⟩
 rw[hX]at hfa
 refine Aa.p (hseg) (mp ?_).1
 refine Aa.p (hlk) (mp ?_).1
 have hbs:Fg (A2 .u8 UY)=⟨#[97,97,97,97,97,97,97,97,97,97,97,97,97,97,97,97,97,97,97,97,97,97,97,97]⟩:=by rfl
 refine Aa.p (hfa) (mq hbs ?_).1
 refine⟨by rfl,?_⟩
 exact AF.finA Anm []
theorem GE:Ct Tryz.prog 7 [] [] (λ_=>bA true) [] (λ_=>[]):=(Aaa).toCt cl cl
section
variable {P:Program} {f:FuncId} {args args':List AV} {S:List Ad} {K:KT}
theorem Aa.wa {r:AV} (h:Ct P f args' [] (λ_=>r) [] (λ_=>[])) (he:Bo args args') (hK:K r [] [] []):Aa P f args S K:=by
 refine Aa.of (r:=λ_=>r) (rd:=[]) (upd:=[]) (new:=λ_=>[]) (λT n h1 h2=>?_) (by simp) (by simp) hK
 have hd:=h T n h1 h2
 refine⟨hd.1,λG w vs hw hr=>hd.2 G w vs hw ⟨by rw[←he.1];exact hr.1,λj x v hx hv=>?_⟩⟩
 have hj:j<args.length:=by rw[he.1];exact(List.getElem?_eq_some_iff.1 hx).1
 have hy:=List.getElem?_eq_getElem hj
 exact(he.2 j _ x hy hx).val G v (hr.2 j _ v hy hv)
end
theorem Tp {s:List Int} {pos:Int} (h:¬(C6 s pos).2.1=0):(C6 s pos).1=DN:=by
 unfold C6 at h ⊢
 by_cases h1:(Dh s).2.1=0
 ·rw[if_pos h1]at h ⊢
  by_cases h2:(Cc (Dh s).1.2.2 pos).2=false
  ·rw[if_pos h2]
  ·rw[if_neg h2]at h ⊢
   by_cases h3:(Fh s (Cc (Dh s).1.2.2 pos).1 (Dh s).1.1.at_).2.1=0
   ·rw[if_pos h3]at h;exact absurd rfl h
   ·rw[if_neg h3]
 ·rw[if_neg h1]
theorem Wj {s:List Int} {pos:Int} (hb:AY s) (hn:s.length≤1000000):D6 (C6 s pos).1.lk∧AY (C6 s pos).1.data:=by
 by_cases hc:(C6 s pos).2.1=0
 ·obtain⟨_,_,b,r,hB,_,_,_,_,he⟩:=X_ hb hn hc
  rw[he]
  by_cases hk:(pos-b.base).toNat<b.en.length
  ·have hm:b.en.getD (pos-b.base).toNat DN∈b.en:=by simp[hk]
   obtain⟨s1,s2,s3⟩:=(Gv hB.1 hB.2.1).small _ hm
   exact⟨⟨by omega,λx hx=>by have:=s2 x hx;omega⟩,(hB.1.en _ hm).data⟩
  ·have e:b.en.getD (pos-b.base).toNat DN=DN:=by simp[hk]
   rw[e]
   exact⟨⟨by simp[DN],λx hx=>by simp[DN]at hx⟩,λx hx=>by simp[DN]at hx⟩
 ·rw[Tp hc]
  exact⟨⟨by simp[DN],λx hx=>by simp[DN]at hx⟩,λx hx=>by simp[DN]at hx⟩
set_option maxHeartbeats 2000000 in
set_option maxRecDepth 100000 in
theorem QE (s:List Int) (pos:Int) (hb:AY s) (hp:0≤pos∧pos<18446744073709551616):An Tryz.prog 3 [A9 .u8 s,uA pos] [] (bA true) []:=by
 refine RN Tryz.func3 b3 ?_;refine (mq @Ab ?_).1
 by_cases h15:1500<s.length
 ·have c1:decide ((1500:Int)<(s.length:Int))=true:=by simp only[decide_eq_true_eq];omega
  refine (mq c1 ?_).1
  refine Aa.p (GE) (mp ?_).1
  exact FA b3 []
 ·have c1:decide ((1500:Int)<(s.length:Int))=false:=by simp only[decide_eq_false_iff_not];omega
  have hsl:s.length≤1000000:=by omega
  refine (mq c1 ?_).1
  refine Aa.p (YZ s hb hsl) ?_
  cases hh:QS s with
  |true=>
   refine (mp ?_).1
   refine Aa.p (GE) (mp ?_).1
   exact FA b3 []
  |false=>
   have hlk:=IR s pos hb hsl hp
   have hde:=Mz s hb hsl
   have hdi:=λh=>Aoj hb hsl h
   have hlb:=λh=>Tp (s:=s) (pos:=pos) h
   have hli:=λh=>X_ (s:=s) (pos:=pos) hb hsl h
   obtain⟨sm1,sm2⟩:=Wj (s:=s) (pos:=pos) hb hsl
   obtain⟨E,hE⟩:∃E,C6 s pos=E:=⟨_,rfl⟩
   obtain⟨D,hD⟩:∃D,Gi Gk s=D:=⟨_,rfl⟩
   rw[hE]at hlk hlb hli sm1 sm2
   rw[hD]at hde hdi
   refine (mp ?_).1
   refine Aa.p (hlk) (mp ?_).1
   refine Aa.p (hde) (mp ?_).1
   by_cases hx:D.2.1=0
   ·have c2:(D.2.1==0)=true:=by simpa using hx
    obtain⟨d1,d2,d3⟩:=hdi hx
    obtain⟨g,hg⟩:∃g,D.1.1=g:=⟨_,rfl⟩
    rw[hg]at d1 d2
    have h16:=(BP.1 d2.right).2.1
    have hbS:∀b∈g.bt,Me b:=λb hb=>Gv (d2.mem b hb).1 (d2.mem b hb).2.1
    have hen:=SG g pos (by omega) hbS
    refine (mr c2 hg ?_).1
    by_cases hi:g.bt.findIdx (Es pos)<g.bt.length
    ·have hhit:Es pos (g.bt.getD (g.bt.findIdx (Es pos)) BZ)=true:=by
      have:=List.findIdx_getElem (w:=hi)
      have e:g.bt.getD (g.bt.findIdx (Es pos)) BZ=g.bt[g.bt.findIdx (Es pos)]:=by simp[hi]
      rw[e];exact this
     have ee:OK g.bt pos=((g.bt.findIdx (Es pos):Int),pos-(g.bt.getD (g.bt.findIdx (Es pos)) BZ).base):=by unfold OK;rw[if_pos hi]
     obtain⟨i,hii⟩:∃i,g.bt.findIdx (Es pos)=i:=⟨_,rfl⟩
     rw[hii]at hi hhit ee
     rw[ee]at hen
     obtain⟨y1,y2⟩:=J7.1 hhit
     have hbg:=Km g.bt i hi
     have hmb:g.bt.getD i BZ∈g.bt:=by simp[hi]
     have hlo:=λk hk=>Tn d2 (i:=i) (k:=k) hi hk
     obtain⟨b,hbb⟩:∃b,g.bt.getD i BZ=b:=⟨_,rfl⟩
     rw[hbb]at y1 y2 hbg hmb hen hlo
     obtain⟨k,hk⟩:∃k:Nat,pos-b.base=(k:Int):=⟨(pos-b.base).toNat,by omega⟩
     rw[hk]at hen
     have hkl:k<b.en.length:=by omega
     have hle:=hlo k hkl
     rw[show b.base+(k:Int)=pos by omega,←d1,hE]at hle
     have heg:=Ff b.en k hkl
     have c3:decide ((i:Int)<0)=false:=by simp only[decide_eq_false_iff_not];omega
     have c4:(E.2.1==0)=true:=by rw[hle];rfl
     have hme:b.en.getD k DN∈b.en:=by simp[hkl]
     have hse:E.1=b.en.getD k DN:=by rw[hle]
     have hsm:=Jb E.1 E.1 sm1 sm2 sm2
     rw[I9]at hsm
     rw[←hse]at heg
     refine Aa.p (hen) ?_;simp only[go_sem,seval,c3,c4,AG,Int.toNat_natCast,hbg,AA,heg];refine (mok ?_).1
     refine⟨by omega,by omega,by omega,by omega,?_⟩
     refine Aa.p (hsm) (mp ?_).1
     refine Aa.p (GE) (mp ?_).1
     exact FA b3 []
    ·have hno:∀i,i<g.bt.length->Es pos (g.bt.getD i BZ)=false:=λi hil=>by
      cases hh2:Es pos (g.bt.getD i BZ)with
      |false=>rfl
      |true=>exact absurd (List.findIdx_lt_length.2 ⟨g.bt.getD i BZ,by simp[hil],hh2⟩) hi
     have ee:=Yr hno
     rw[ee]at hen
     have hln:=Z9 d2 hno
     rw[←d1,hE]at hln
     have c4:(E.2.1==16)=true:=by rw[hln];rfl
     have c5:(E.2.2==0)=true:=by rw[hln];rfl
     refine Aa.p (hen) (mr c4 c5 ?_).1
     refine Aa.p (GE) (mp ?_).1
     exact FA b3 []
   ·have c2:(D.2.1==0)=false:=by simpa using hx
    refine (mq c2 ?_).1
    by_cases hf:E.2.1=0
    ·have c3:(E.2.1 != 0)=false:=by simpa using hf
     obtain⟨l1,l2,b,r,hB,k1,k2,k3,k4,k5⟩:=hli hf
     have hix:=J3 s hb hsl
     have hlm:=KI hb hsl
     obtain⟨L,hL⟩:∃L,Dh s=L:=⟨_,rfl⟩
     rw[hL]at l1 l2 k1 k2 k3 k4 hix hlm
     obtain⟨l,hl⟩:∃l,L.1.2.2=l:=⟨_,rfl⟩
     rw[hl]at l2 k1 k2 k3 k4 hix hlm
     have c4:(L.2.1 != 0)=false:=by simpa using l1
     simp only[go_sem,seval,c3];refine (mok ?_).1
     have h16:=(Bc.1 hlm).2
     have hgc:AZ l=true∧EL (C0 pos) l<l.length:=by
      by_cases h:AZ l=true∧EL (C0 pos) l<l.length
      ·exact h
      ·unfold Cc at l2;rw[if_neg h]at l2;exact absurd l2 (by decide)
     have hi0:=hgc.2
     have efg:Cc l pos=(l.getD (EL (C0 pos) l) Cr,true):=by unfold Cc;rw[if_pos hgc]
     have hlt0:∀j,j<EL (C0 pos) l->C0 pos (l.getD j Cr)=false:=λj hj=>by
      have hjl:j<l.length:=by omega
      have h1:=List.not_of_lt_findIdx (p:=C0 pos) (xs:=l) hj
      have e:l.getD j Cr=l[j]:=by simp[hjl]
      rw[e];simpa using h1
     have hit0:C0 pos (l.getD (EL (C0 pos) l) Cr)=true:=by
      have e:l.getD (EL (C0 pos) l) Cr=l[EL (C0 pos) l]:=by simp[hi0]
      rw[e];exact List.findIdx_getElem (w:=hi0)
     obtain⟨i0,hie⟩:∃i0,EL (C0 pos) l=i0:=⟨_,rfl⟩
     rw[hie]at hi0 hlt0 hit0 efg
     rw[efg]at k1 k2 k3 k4
     simp only[]at k1 k2 k3 k4
     refine Aa.p (hix) (mq c4 ?_).1
     refine AM (α:=Nat) (λi=>[A9 .u8 s,uA pos,.any,.any,bA false,.ref 0 0,.ref 1 0,.any,.any,.any,.any,Fv l,.any,iA i,.any,.any,.any,.any,.any,.any,.any,.any,.any,.any,.any,.any,.any,.any,.any,.any,.any,.any,.any,.any,.any,.any,.any,.any,.any,.any,.any,.any,.any,.any,.any,.any,.any,.any,.any,.any,.any,.any,.any,.any,.any,.any,.any,.any,.any,.any,.any,.any,.any,.any,.any,.any,.any,.any,.any,.any,.any,.any,.any,.any,.any,.any,.any,.any,.any,.any,.any,.any,.any,.any,.any,.any,.any,.any,.any,.any,.any,.any,.any,.any,.any,.any,.any,.any,.any,.any,.any,.any,.any,.any,.any,.any,.any,.any,.any,.any,.any,.any,.any,.any,.any,.any,.any,.any,.any,.any,.any,.any,.any,.any,.any,.any,.any,.any,.any,.any,.any,.any,.any,.any,.any,.any,.any,.any,.any,.any,.any,.any,.any,.any,.any,.any,.any,.any,.any,.any,.any,.any,.any,.any,.any,.any,.any,.any,.any,.any,.any,.any,.any,.any,.any,.any,.any,.any,.any,.any,.any,.any,.any,.any,.any,.any,.any,.any,.any,.any,.any,.any,.any,.any,.any,.any,.any,.any,.any,.any,.any,.any,.any,.any]) (λ_=>[.cells [Gp E.1.lk,A9 .u8 E.1.data],.cells [iA E.2.1,iA E.2.2],Vt D.1.1,.cells [iA D.2.1,iA D.2.2],.cells [iA L.2.1,iA L.2.2]]) (λi=>i≤i0) (λi=>l.length-i) 0 (by omega) (Wk.to (by simp) (by simp[Ca])) ?_
     intro i hi
     have hil:i<l.length:=by omega
     have q1:decide ((i:Int)<(l.length:Int))=true:=decide_eq_true (by omega)
     have ei:=AJ i (by omega)
     have hg:=JZ l i hil
     have hmb:=Gu hlm (m:=l.getD i Cr) (by simp[hil])
     have hcase:C0 pos (l.getD i Cr)=false->i+1≤i0:=λh=>by
      rcases Nat.lt_or_ge i i0 with h1|h1
      ·omega
      ·obtain rfl:i=i0:=by omega
       rw[hit0]at h;exact absurd h (by decide)
     have hnot:C0 pos (l.getD i Cr)=true->i=i0:=λh=>by
      rcases Nat.lt_or_ge i i0 with h1|h1
      ·rw[hlt0 i h1]at h;exact absurd h (by decide)
      ·omega
     obtain⟨x,hxx⟩:∃x,l.getD i Cr=x:=⟨_,rfl⟩
     rw[hxx]at hg hmb hcase hnot
     have wc:IntKind.u64.wrap x.cnt=x.cnt:=IntWalk.u64_in _ (by omega)
     have ws:IntKind.u64.wrap (x.pos+x.cnt)=x.pos+x.cnt:=IntWalk.u64_in _ (by omega)
     have hfx:x.fin=x.pos+x.cnt:=rfl
     refine (mt @Ap q1 @Int.toNat_natCast hg ?_).1
     refine⟨by omega,by omega,?_⟩
     by_cases ha:pos<x.pos
     ·have a1:decide (pos<x.pos)=true:=by simpa using ha
      have hh2:C0 pos x=false:=by
       cases h:C0 pos x with
       |false=>rfl
       |true=>have:=(ES.1 h).1;omega
      refine (mr a1 ei ?_).1
      exact⟨i+1,hcase hh2,by omega,Wk.sel [0,1,2,3,4] (by simp) rfl (by simp) rfl (by simp[AT,Qj,AN,L3]) (by simp[Cq,AT,AN,Em])⟩
     ·have a1:decide (pos<x.pos)=false:=by simpa using ha
      refine (mt a1 @Ap @Int.toNat_natCast hg ?_).1
      refine⟨by omega,by omega,by omega,by omega,?_⟩
      refine (mr wc ws ?_).1
      by_cases hbd:x.pos+x.cnt≤pos
      ·have a2:decide (x.pos+x.cnt≤pos)=true:=by simpa using hbd
       have hh2:C0 pos x=false:=by
        cases h:C0 pos x with
        |false=>rfl
        |true=>have:=(ES.1 h).2;omega
       refine (mr a2 ei ?_).1
       exact⟨i+1,hcase hh2,by omega,Wk.sel [0,1,2,3,4] (by simp) rfl (by simp) rfl (by simp[AT,Qj,AN,L3]) (by simp[Cq,AT,AN,Em])⟩
      ·have a2:decide (x.pos+x.cnt≤pos)=false:=by simpa using hbd
       obtain rfl:=hnot (ES.2 ⟨by omega,by omega⟩)
       rw[hxx]at k1 k2 k3 k4
       have hdb:AY (s.drop x.at_.toNat):=λy hy=>hb y (List.mem_of_mem_drop hy)
       have hdl:(s.drop x.at_.toNat).length≤1000000:=by rw[List.length_drop];omega
       have hbp:AY (1::A6 b):=λy hy=>by rcases List.mem_cons.1 hy with rfl|hy;decide;exact F7 hB.1 hB.2.1 y hy
       have hlen:=hB.2.2
       have hrb:AY r:=λy hy=>hdb y (by rw[k1];exact List.mem_append_right _ hy)
       have hgf:=Nn (m:=2097152) hbp hrb (by rw[←k1];omega) (by rw[List.length_cons];unfold Ch;omega)
       rw[←k1]at hgf
       have hfg:=Fm (s.drop x.at_.toNat) 2097152 hdb (by omega) (by decide)
       rw[hgf]at hfg
       have hfll:=Bh (1::A6 b)
       have hkl:=congrArg List.length k1
       rw[List.length_append]at hkl
       have hbl:(A6 b).length≤1000000:=by
        rw[List.length_cons]at hfll
        omega
       have hdc:=Rz (A6 b) (F7 hB.1 hB.2.1) (by omega)
       rw[Agn hB.1 hB.2.1 (by omega)]at hdc
       have hbS:=Gv hB.1 hB.2.1
       have hmn:(if(s.length:Int)<x.at_ then(s.length:Int)else x.at_)=x.at_:=if_neg (by omega)
       have g0:(A2 .u8 (1::A6 b)).getD 0 .any=O0 1:=rfl
       have gd:A2 .u8 ((1::A6 b).drop 1)=A2 .u8 (A6 b):=rfl
       have cl:((1::A6 b).length:Int)=(A6 b).length+1:=by rw[List.length_cons];omega
       have c5:decide ((A6 b).length+1<(1:Int))=false:=by simp only[decide_eq_false_iff_not];omega
       obtain⟨BB,hBB⟩:∃BB,A6 b=BB:=⟨_,rfl⟩
       rw[hBB]at hfg hdc hbl hlen g0 gd cl c5
       obtain⟨fl,hfl⟩:∃fl:Int,((Ac (1::BB)).length:Int)=fl:=⟨_,rfl⟩
       rw[hfl]at hfg
       refine (mt a2 @Ap @Int.toNat_natCast hg ?_).1
       refine⟨by omega,by omega,?_⟩
       refine (mr @Ab hmn ?_).1
       (repeat((with_reducible refine And.intro ?_ ?_);(·first|exact sd|(simp[Ab,A8,AV.parts,Ab];done)|(simp[Ab,A8,AV.parts,Ab];omega))))
       refine (mq @Cb ?_).1
       have c5:decide (((A2 .u8 (1::BB)).length:Int)<1)=false:=by rw[Ab,List.length_cons];simp only[decide_eq_false_iff_not];omega
       have c6:(b.base==x.pos)=true:=by simpa using k3
       have c7:((b.en.length:Int)==x.cnt)=true:=by simpa using k4
       have hbS2:=hbS.sum
       have hb0:=hB.1.b0
       obtain⟨k,hk⟩:∃k:Nat,pos-b.base=(k:Int):=⟨(pos-b.base).toNat,by omega⟩
       have hkl2:k<b.en.length:=by omega
       have w1:IntKind.u64.wrap (pos-b.base)=(k:Int):=by rw[IntWalk.u64_in _ (by omega)];exact hk
       have heg:=Ff b.en k hkl2
       rw[hk,Int.toNat_natCast]at k5
       rw[←k5]at heg
       have hsm:=Jb E.1 E.1 sm1 sm2 sm2
       rw[I9]at hsm
       have hcl2:0<((A2 .u8 (1::BB)).length:Int)∧1≤((A2 .u8 (1::BB)).length:Int):=by rw[Ab,List.length_cons];omega
       refine Aa.p (hfg) (mr c5 g0 ?_).1
       refine⟨hcl2.1,hcl2.2,?_⟩
       rw[Cb,gd]
       refine Aa.p (hdc) ?_;simp only[go_sem,seval,c6,AA,Ap,Int.toNat_natCast,hg];refine (mok ?_).1
       refine⟨by omega,by omega,by omega,by omega,?_⟩
       simp only[go_sem,seval,c7,w1,AA,Int.toNat_natCast,heg];refine (mok ?_).1
       refine⟨by omega,by omega,?_⟩
       refine Aa.p (hsm) (mp ?_).1
       refine Aa.p (GE) (mp ?_).1
       exact FA b3 []
    ·have c3:(E.2.1 != 0)=true:=by simpa using hf
     have he0:=hlb hf
     have hsm:=Jb DN DN (by rw[←he0];exact sm1) (by rw[←he0];exact sm2) (by rw[←he0];exact sm2)
     rw[I9]at hsm
     simp only[go_sem,seval,c3,he0];refine (mok ?_).1
     refine Aa.wa hsm (Bo.cons (Wa.refl _) (Bo.cons (Wa.agg (Bo.cons Wa.nil (Bo.cons Wa.nil Bo.nil))) Bo.nil)) ?_
     refine (mp ?_).1
     refine Aa.p (GE) (mp ?_).1
     exact FA b3 []
def DY (P:Program) (g:Nat):List Nat:=(P.funcs[g]?).elim [] P.leadsTo
def BN (P:Program) (g:Func):List Nat×Bool×Bool×List Nat:=
 (P.leadsTo g,(g.ours||g.body.isNone||g.name== "runtime.NumGoroutine"),(match g.body with|some c=>c.unfollowed|none=>entryCalls g),g.body.elim [] Code.globalsNamed)
section
variable {P:Program} {T:List (List Nat×Bool×Bool×List Nat)}
def T0:List Nat×Bool×Bool×List Nat:=([],false,false,[])
theorem Im (hT:P.funcs.toList.map (BN P)=T) (g:Nat) {fn:Func} (h:P.funcs[g]? =some fn):T[g]? =some (BN P fn):=by
 rw[←hT,List.getElem?_map]
 simp[h]
theorem GF (hT:P.funcs.toList.map (BN P)=T) (g:Nat):DY P g=((T[g]?).getD T0).1:=by
 cases h:P.funcs[g]? with
 |none=>rw[←hT,List.getElem?_map];simp[DY,h,T0]
 |some fn=>rw[Im hT g h];simp[DY,h,BN]
theorem M2 (g:Nat):∀n todo seen,g∈seen->g∈P.closureVia n todo seen:=by
 intro n
 induction n with
 |zero=>intro todo seen h;simpa[Program.closureVia]using h
 |succ n ih=>
  intro todo seen h
  cases todo with
  |nil=>simpa[Program.closureVia]using h
  |cons f todo=>
   unfold Program.closureVia
   split
   ·exact ih _ _ h
   ·exact ih _ _ (List.mem_cons_of_mem _ h)
theorem UA (C:Nat->Prop) (hC:∀g,C g->∀h∈DY P g,C h):∀n todo seen,(∀x∈todo,C x)->(∀x∈seen,C x)->∀x∈P.closureVia n todo seen,C x:=by
 intro n
 induction n with
 |zero=>intro todo seen _ hs x hx;exact hs x (by simpa[Program.closureVia]using hx)
 |succ n ih=>
  intro todo seen ht hs
  cases todo with
  |nil=>intro x hx;exact hs x (by simpa[Program.closureVia]using hx)
  |cons f todo=>
   unfold Program.closureVia
   split
   ·exact ih _ _ (λx hx=>ht x (List.mem_cons_of_mem _ hx)) hs
   ·refine ih _ _ (λx hx=>?_) (λx hx=>?_)
    ·rcases List.mem_append.1 hx with h|h
     ·exact hC f (ht f (List.mem_cons_self ..)) x h
     ·exact ht x (List.mem_cons_of_mem _ h)
    ·rcases List.mem_cons.1 hx with h|h
     ·rw[h];exact ht f (List.mem_cons_self ..)
     ·exact hs x h
theorem EN (C:Nat->Prop) (hC:∀g,C g->∀h∈DY P g,C h) {f:Nat} (hf:C f):∀x∈P.closure f,C x:=
 UA C hC _ _ _ (λx hx=>by simp at hx;rw[hx];exact hf) (λx hx=>by simp at hx)
def F6 (T:List (List Nat×Bool×Bool×List Nat)):Nat->List Nat->List Nat->List Nat×List Nat
 |0,todo,seen=>(todo,seen)
 |_,[],seen=>([],seen)
 |n+1,f::todo,seen=>if seen.contains f then F6 T n todo seen else F6 T n (((T[f]?).getD T0).1++todo) (f::seen)
theorem Ab3 (hT:P.funcs.toList.map (BN P)=T) (g:Nat):∀k n todo seen,g∈(F6 T k todo seen).2->g∈P.closureVia (k+n) todo seen:=by
 intro k
 induction k with
 |zero=>intro n todo seen h;exact M2 g _ _ _ h
 |succ k ih=>
  intro n todo seen h
  cases todo with
  |nil=>exact M2 g _ _ _ (by simpa[F6]using h)
  |cons f todo=>
   rw[show k+1+n=(k+n)+1 from by omega]
   unfold F6 at h
   unfold Program.closureVia
   split at h
   ·rename_i hc;rw[if_pos hc];exact ih _ _ _ h
   ·rename_i hc;rw[if_neg hc]
    have e:=GF hT f
    unfold DY at e
    rw[e];exact ih _ _ _ h
theorem LB (hT:P.funcs.toList.map (BN P)=T) {f g:Nat} (k:Nat) (hk:k≤(T.map λt=>t.1.length+1).sum) (h:(F6 T k [f] []).2.contains g=true):g∈P.closure f:=by
 have e:(P.funcs.toList.map λg=>(P.leadsTo g).length+1)=T.map λt=>t.1.length+1:=by
  rw[←hT,List.map_map];rfl
 unfold Program.closure
 rw[e]
 obtain⟨m,hm⟩:=Nat.exists_eq_add_of_le (Nat.le_trans hk (Nat.le_add_left _ 1))
 rw[hm]
 exact Ab3 hT g k m _ _ (by simpa using h)
def FH (T:List (List Nat×Bool×Bool×List Nat)) (C:List Nat):Bool:=
 C.all λg=>match T[g]? with|some t=>t.1.all (C.contains ·)&& !t.2.1&&t.2.2.2.isEmpty|none=>false
def Lv (T:List (List Nat×Bool×Bool×List Nat)) (C:List Nat):Bool:=
 C.all λg=>match T[g]? with|some t=> !t.2.2.1|none=>false
def Af7 (T:List (List Nat×Bool×Bool×List Nat)) (R:List Nat) (C:List Nat):Bool:=
 C.all λg=>match T[g]? with|some t=>t.1.all (λh=>decide (R.getD h 0<R.getD g 0))|none=>false
theorem DA (hT:P.funcs.toList.map (BN P)=T) {C:List Nat} (hq:FH T C=true):∀g,g∈C->∀h∈DY P g,h∈C:=by
 intro g hg h hh
 have q:=List.all_eq_true.1 hq g hg
 rw[GF hT]at hh
 cases e:T[g]? with
 |none=>rw[e]at q;simp at q
 |some t=>
  rw[e]at q hh
  simp only[Bool.and_eq_true,List.all_eq_true]at q
  simpa using q.1.1 h hh
theorem G7 (hT:P.funcs.toList.map (BN P)=T) {C:List Nat} (hq:FH T C=true) {g:Nat} (hg:g∈C):∃fn,P.funcs[g]? =some fn∧(fn.ours||fn.body.isNone||fn.name== "runtime.NumGoroutine")=false∧fn.body.elim [] Code.globalsNamed=[]:=by
 have q:=List.all_eq_true.1 hq g hg
 cases h:P.funcs[g]? with
 |none=>
  have:T[g]? =none:=by rw[←hT,List.getElem?_map];simp[h]
  rw[this]at q;simp at q
 |some fn=>
  rw[Im hT g h]at q
  simp only[BN,Bool.and_eq_true,List.isEmpty_iff,Bool.not_eq_true']at q
  exact⟨fn,rfl,q.1.2,q.2⟩
theorem TO (hT:P.funcs.toList.map (BN P)=T) {C:List Nat} (hq:FH T C=true) {f:Nat} (hf:f∈C):[]=P.inPlace f:=by
 unfold Program.inPlace
 symm
 rw[List.filterMap_eq_nil_iff]
 intro g hg
 obtain⟨fn,h,h1,h2⟩:=G7 hT hq (EN (· ∈C) (DA hT hq) hf g hg)
 simp only[h,Option.bind_some]
 rw[h1];rfl
theorem N0 (hT:P.funcs.toList.map (BN P)=T) {C:List Nat} (hq:FH T C=true) {f:Nat} (hf:f∈C):[]=P.varsNamed f:=by
 have hin:=EN (P:=P) (· ∈C) (DA hT hq) hf
 have e1:((P.closure f).flatMap λg=>((P.funcs[g]?).bind (·.body)).elim [] Code.globalsNamed)=[]:=by
  rw[List.flatMap_eq_nil_iff]
  intro g hg
  obtain⟨fn,h,h1,h2⟩:=G7 hT hq (hin g hg)
  simpa[h]using h2
 have e2:((P.closure f).filterMap λg=>(P.funcs[g]?).bind λfn=>if fn.body.isNone then entryReads.lookup fn.name else none)=[]:=by
  rw[List.filterMap_eq_nil_iff]
  intro g hg
  obtain⟨fn,h,h1,h2⟩:=G7 hT hq (hin g hg)
  have hb:fn.body.isNone=false:=by
   simp only[Bool.or_eq_false_iff]at h1
   exact h1.1.2
  simp only[h,Option.bind_some,hb];rfl
 unfold Program.varsNamed
 rw[e1,e2]
 rfl
def KD (T:List (List Nat×Bool×Bool×List Nat)) (g0:Nat) (C:List Nat):Bool:=
 C.all λg=>match T[g]? with|some t=>t.1.all (C.contains ·)&&(!t.2.1||g==g0)&&t.2.2.2.isEmpty|none=>false
theorem N8 (hT:P.funcs.toList.map (BN P)=T) {C:List Nat} {g0:Nat} (hq:KD T g0 C=true):∀g,g∈C->∀h∈DY P g,h∈C:=by
 intro g hg h hh
 have q:=List.all_eq_true.1 hq g hg
 rw[GF hT]at hh
 cases e:T[g]? with
 |none=>rw[e]at q;simp at q
 |some t=>
  rw[e]at q hh
  simp only[Bool.and_eq_true,List.all_eq_true]at q
  simpa using q.1.1 h hh
theorem Ld (hT:P.funcs.toList.map (BN P)=T) {C:List Nat} {g0:Nat} (hq:KD T g0 C=true) {g:Nat} (hg:g∈C):∃fn,P.funcs[g]? =some fn∧((fn.ours||fn.body.isNone||fn.name== "runtime.NumGoroutine")=false∨g=g0)∧fn.body.elim [] Code.globalsNamed=[]:=by
 have q:=List.all_eq_true.1 hq g hg
 cases h:P.funcs[g]? with
 |none=>
  have:T[g]? =none:=by rw[←hT,List.getElem?_map];simp[h]
  rw[this]at q;simp at q
 |some fn=>
  rw[Im hT g h]at q
  simp only[BN,Bool.and_eq_true,List.isEmpty_iff,Bool.or_eq_true,Bool.not_eq_true',beq_iff_eq]at q
  exact⟨fn,rfl,q.1.2,q.2⟩
theorem Agx (hT:P.funcs.toList.map (BN P)=T):∀k n todo seen s,F6 T k todo seen=([],s)->P.closureVia (k+n) todo seen=s.reverse:=by
 intro k
 induction k with
 |zero=>
  intro n todo seen s h
  simp only[F6,Prod.mk.injEq]at h
  obtain⟨rfl,rfl⟩:=h
  cases n<;>simp[Program.closureVia]
 |succ k ih=>
  intro n todo seen s h
  cases todo with
  |nil=>
   simp only[F6,Prod.mk.injEq,true_and]at h
   subst h
   rw[show k+1+n=(k+n)+1 from by omega]
   simp[Program.closureVia]
  |cons f todo=>
   rw[show k+1+n=(k+n)+1 from by omega]
   unfold F6 at h
   unfold Program.closureVia
   split at h
   ·rename_i hc;rw[if_pos hc];exact ih _ _ _ _ h
   ·rename_i hc;rw[if_neg hc]
    have e:=GF hT f
    unfold DY at e
    rw[e];exact ih _ _ _ _ h
theorem Xs (hT:P.funcs.toList.map (BN P)=T) {f:Nat} (k:Nat) (s:List Nat) (hk:k≤(T.map λt=>t.1.length+1).sum) (h:F6 T k [f] []=([],s)):P.closure f=s.reverse:=by
 have e:(P.funcs.toList.map λg=>(P.leadsTo g).length+1)=T.map λt=>t.1.length+1:=by
  rw[←hT,List.map_map];rfl
 unfold Program.closure
 rw[e]
 obtain⟨m,hm⟩:=Nat.exists_eq_add_of_le (Nat.le_trans hk (Nat.le_add_left _ 1))
 rw[hm]
 exact Agx hT k m _ _ _ h
theorem An3 {α β:Type} (l:List α) (p:α->Bool) (F G:α->Option β) (hF:∀a,F a=if p a=true then G a else none):l.filterMap F=(l.filter p).filterMap G:=by
 induction l with
 |nil=>rfl
 |cons a l ih=>
  rw[List.filterMap_cons,List.filter_cons,ih,hF]
  cases hp:p a with
  |false=>rfl
  |true=>rw[if_pos rfl,if_pos rfl,List.filterMap_cons]
theorem Amp (hT:P.funcs.toList.map (BN P)=T) {f g0:Nat} (k:Nat) (s:List Nat) (hk:k≤(T.map λt=>t.1.length+1).sum) (h:F6 T k [f] []=([],s)) (hone:(s.reverse.filter λg=>((T[g]?).getD T0).2.1)=[g0]) {fn0:Func} (h0:P.funcs[g0]? =some fn0):[fn0.name]=P.inPlace f:=by
 have key:=λC:List Nat=>An3 C (λg=>((T[g]?).getD T0).2.1) (λg=>(P.funcs[g]?).bind λfn=>if fn.ours||fn.body.isNone||fn.name== "runtime.NumGoroutine" then some fn.name else none) (λg=>(P.funcs[g]?).map (·.name)) λg=>by
  cases e:P.funcs[g]? with
  |none=>
   have:T[g]? =none:=by rw[←hT,List.getElem?_map];simp[e]
   simp[this,T0]
  |some fn=>rw[Im hT g e];rfl
 unfold Program.inPlace
 rw[Xs hT k s hk h,key,hone]
 simp[h0]
theorem Acx (hT:P.funcs.toList.map (BN P)=T) {C:List Nat} {g0:Nat} (hq:KD T g0 C=true) {f:Nat} (hf:f∈C) {fn0:Func} (h0:P.funcs[g0]? =some fn0) (hr:entryReads.lookup fn0.name=none):[]=P.varsNamed f:=by
 have hin:=EN (P:=P) (· ∈C) (N8 hT hq) hf
 have e1:((P.closure f).flatMap λg=>((P.funcs[g]?).bind (·.body)).elim [] Code.globalsNamed)=[]:=by
  rw[List.flatMap_eq_nil_iff]
  intro g hg
  obtain⟨fn,h,h1,h2⟩:=Ld hT hq (hin g hg)
  simpa[h]using h2
 have e2:((P.closure f).filterMap λg=>(P.funcs[g]?).bind λfn=>if fn.body.isNone then entryReads.lookup fn.name else none)=[]:=by
  rw[List.filterMap_eq_nil_iff]
  intro g hg
  obtain⟨fn,h,h1,h2⟩:=Ld hT hq (hin g hg)
  rcases h1 with h1|rfl
  ·have hb:fn.body.isNone=false:=by
    simp only[Bool.or_eq_false_iff]at h1
    exact h1.1.2
   simp only[h,Option.bind_some,hb];rfl
  ·rw[h0]at h;injection h with h;subst h
   simp only[h0,Option.bind_some]
   split
   ·exact hr
   ·rfl
 unfold Program.varsNamed
 rw[e1,e2]
 rfl
theorem Kx (hT:P.funcs.toList.map (BN P)=T) {C:List Nat} (hq:FH T C=true) (hu:Lv T C=true) {f:Nat} (hf:f∈C):false=P.unfollowed f:=by
 unfold Program.unfollowed
 symm
 rw[List.any_eq_false]
 intro g hg
 have hgC:=EN (P:=P) (· ∈C) (DA hT hq) hf g hg
 obtain⟨fn,h,h1,h2⟩:=G7 hT hq hgC
 have q:=List.all_eq_true.1 hu g hgC
 rw[Im hT g h]at q
 simp only[BN,Bool.not_eq_true']at q
 simp only[h,Option.any_some]
 revert q
 cases fn.body<;>simp
theorem LK (hT:P.funcs.toList.map (BN P)=T) {f g:Nat} (k:Nat) (hk:k≤(T.map λt=>t.1.length+1).sum) (h:(F6 T k [f] []).2.contains g=true)
 (hu:((T[g]?).getD T0).2.2.1=true):true=P.unfollowed f:=by
 unfold Program.unfollowed
 symm
 rw[List.any_eq_true]
 refine⟨g,LB hT k hk h,?_⟩
 cases e:P.funcs[g]? with
 |none=>
  have:T[g]? =none:=by rw[←hT,List.getElem?_map];simp[e]
  rw[this]at hu;simp[T0]at hu
 |some fn=>
  rw[Im hT g e]at hu
  simp only[Option.getD_some,BN]at hu
  simp only[Option.any_some]
  revert hu
  cases fn.body<;>simp
theorem Fd {f:Nat} (h:true=P.unfollowed f):true=P.recurses f:=by
 unfold Program.recurses;rw[←h];rfl
theorem Ah8 (hT:P.funcs.toList.map (BN P)=T) {f g:Nat} (k:Nat) (hk:k≤(T.map λt=>t.1.length+1).sum) (h:(F6 T k [f] []).2.contains g=true)
 (hs:((T[g]?).getD T0).1.contains g=true):true=P.recurses f:=by
 unfold Program.recurses
 symm
 rw[Bool.or_eq_true]
 right
 rw[List.any_eq_true]
 refine⟨g,LB hT k hk h,?_⟩
 rw[List.any_eq_true]
 refine⟨g,?_,?_⟩
 ·have e:=GF hT g
  unfold DY at e
  rw[e];simpa using hs
 ·unfold Program.closure
  rw[Nat.add_comm,List.contains_iff_mem]
  unfold Program.closureVia
  rw[if_neg (by simp)]
  exact M2 g _ _ _ (List.mem_cons_self ..)
theorem Ad3 (hT:P.funcs.toList.map (BN P)=T) {C:List Nat} (hq:FH T C=true) (hu:Lv T C=true) (R:List Nat) (hr:Af7 T R C=true) {f:Nat} (hf:f∈C):false=P.recurses f:=by
 unfold Program.recurses
 rw[←Kx hT hq hu hf,Bool.false_or]
 symm
 rw[List.any_eq_false]
 intro g hg
 have hgC:=EN (P:=P) (· ∈C) (DA hT hq) hf g hg
 have Cv:∀a,a∈C->∀b∈DY P a,R.getD b 0<R.getD a 0:=by
  intro a ha b hb
  have q:=List.all_eq_true.1 hr a ha
  rw[GF hT]at hb
  cases e:T[a]? with
  |none=>rw[e]at q;simp at q
  |some t=>
   rw[e]at q hb
   simp only[List.all_eq_true,decide_eq_true_eq]at q
   exact q b hb
 rw[Bool.not_eq_true,List.any_eq_false]
 intro h hh
 rw[Bool.not_eq_true]
 have hlead:h∈DY P g:=hh
 have hlt:=Cv g hgC h hlead
 have hin:=EN (P:=P) (λx=>x∈C∧R.getD x 0≤R.getD h 0) (λa ha b hb=>⟨DA hT hq a ha.1 b hb,by have:=Cv a ha.1 b hb;omega⟩) (f:=h) ⟨DA hT hq g hgC h hlead,Nat.le_refl _⟩
 cases hc:(P.closure h).contains g with
 |false=>rfl
 |true=>
  have:=hin g (by simpa using hc)
  omega
end
theorem O5 (rest:List (List Char)):stripLifts liftWords ("cut".toList::rest)=([],"cut".toList::rest):=by kernel_rfl
theorem Ro:("cut".toList== "gc".toList)=false∧("cut".toList== "spec".toList)=false∧("cut".toList== "carried".toList)=false∧("cut".toList== "cut".toList)=true:=⟨by kernel_rfl,by kernel_rfl,by kernel_rfl,by kernel_rfl⟩
section
variable {P:Program} {rest:List (List Char)} (h:behindMainWord (wordsSigns P.initOrder.toList)= "cut".toList::rest)
include h
theorem QX:P.headLifts=[]:=by
 unfold Program.headLifts
 rw[h,O5]
 simp
theorem Ti (hl:P.laysLater=false) (hb:P.bearsReflect=false) (hd:P.doorFits []=true):P.mayEnter=true:=by
 obtain⟨c1,c2,c3,c4⟩:=Ro
 unfold Program.mayEnter
 rw[h]
 simp only[O5,hl,hb,hd,c1,c2,c3,Bool.false_and,Bool.or_false,List.head?_cons,Bool.not_false,Bool.or_true,Bool.and_true,List.contains_nil,beq_self_eq_true]
theorem Ol:false=P.liftsFinal:=by
 obtain⟨c1,c2,c3,c4⟩:=Ro
 unfold Program.liftsFinal
 rw[QX h,h]
 simp only[List.head?_cons,List.contains_nil,Bool.or_false]
 have:((some "cut".toList:Option (List Char))==some "carried".toList)=false:=c3
 rw[this];rfl
theorem Aj3:P.make=some .cut:=by
 obtain⟨c1,c2,c3,c4⟩:=Ro
 unfold Program.make
 rw[h]
 simp only[c1,c2,c4,Bool.or_self,Bool.true_or,if_true]
 rfl
end
def Jj (P:Program) (fn:Func) (s:ChangeSpec) (c:OpenClaim):Bool:=
 (c.wf (OpenSpec.ofChange s)&&mapsRowed P&&fn.params.all (P.readableRec ·)&&namedTie P c.named s.vars&&
 (c.stops==[])&&(P.stops==[])&&(c.knobs==[])&&(P.stopKnobs==[]))&&
 ((c.maps==(fn.params.toList++s.plain.varTypes P).any (P.mapsRec ·))&&(c.ifaces==(fn.params.toList++s.plain.varTypes P).any (P.ifacesRec ·))&&(c.mapsOut==P.mapsAmong fn.resultTypes.toList)&&
 (c.loops==(fn.params.toList++s.plain.varTypes P).any (P.loopsFrom ·))&&(c.wideKeys==(fn.params.toList++s.plain.varTypes P++fn.resultTypes.toList).any (P.wideKeysFrom ·))&&
 s.vars.all (P.varReadable ·)&&fn.resultTypes.all (λt=>P.readableRec t&&decide (t<P.types.size))&&(c.ifacesOut==fn.resultTypes.toList.any (P.ifacesRec ·))&&(c.loopsOut==fn.resultTypes.toList.any (P.loopsFrom ·))&&(c.plainKeys==P.plainKeys)&&c.shortTexts.isNone)&&
 (P.stopsHeard&&(c.kinds==(if c.domain.isEmpty then[]else fn.params.toList.map λt=>match P.underlying t with|some (.int k)=>some k|_=>none))&&(c.pinned==c.pinnedBy)&&
 (c.veiled==(fn.params.toList++s.plain.varTypes P++fn.resultTypes.toList).any (P.veiledRec ·))&&c.veiledFits P fn.params.toList (fn.params.toList++s.plain.varTypes P++fn.resultTypes.toList))
theorem Aam {P:Program} {f:Nat} {fn:Func} {s:ChangeSpec} {c:OpenClaim} (hl:laidOutB P=true) (h:Jj P fn s c=true) (he:P.mayEnter=true) (hf:c.lifted=P.liftsFinal) (hm:P.make=some c.make)
 (h1:c.inPlace=P.inPlace f) (h2:c.unfollowed=P.unfollowed f) (h3:c.recurses=P.recurses f) (h4:c.named=P.varsNamed f):joinedFacts P f fn s c=true:=by
 simp only[Jj,Bool.and_eq_true,beq_iff_eq]at h
 obtain⟨⟨⟨⟨⟨⟨⟨⟨⟨g0,g1⟩,g2⟩,g3⟩,g4⟩,g5⟩,g6⟩,g7⟩,⟨⟨⟨⟨⟨⟨⟨⟨⟨⟨m0,m1⟩,m2⟩,m3⟩,m4⟩,m5⟩,m6⟩,m7⟩,m8⟩,m9⟩,m10⟩⟩,⟨⟨⟨⟨q0,q1⟩,q2⟩,q3⟩,q4⟩⟩:=h
 simp only[joinedFacts,Bool.and_eq_true,beq_iff_eq]
 exact⟨⟨⟨⟨⟨⟨⟨⟨⟨⟨⟨⟨⟨⟨⟨⟨⟨⟨⟨⟨⟨⟨⟨⟨⟨⟨⟨⟨⟨⟨⟨g0,hl⟩,g1⟩,g2⟩,g3⟩,g4⟩,g5⟩,g6⟩,g7⟩,h1⟩,h2⟩,h3⟩,h4⟩,m0⟩,m1⟩,m2⟩,m3⟩,m4⟩,m5⟩,m6⟩,m7⟩,m8⟩,m9⟩,m10⟩,q0⟩,he⟩,hf⟩,hm⟩,q1⟩,q2⟩,q3⟩,q4⟩
def Ah4:List (List Nat×Bool×Bool×List Nat):=[([],true,false,[]),
 ([],true,false,[]),
 ([1],false,false,[]),
 ([6,7,8,9,10,7,11,7,11,7,12,13,14,11,7],false,false,[]),
 ([15,7,16,7,17,7,18,19,20,21,22,23,7],false,false,[]),
 ([24,7,9,25,26,18,19,20,21,28,27,29,29,7,7],false,false,[]),
 ([12,24,24],false,false,[]),
 ([17,8,28],false,false,[]),
 ([30,31,32,33,34,31,35],false,false,[]),
 ([36,37],false,false,[]),
 ([],false,false,[]),
 ([39,40],false,false,[]),
 ([30],false,false,[]),
 ([41,42,43,31,44],false,false,[]),
 ([41,38,45,43,31],false,false,[]),
 ([46],false,false,[]),
 ([48,47,49,48,51,50,47],false,false,[]),
 ([52,53],false,false,[]),
 ([54],false,false,[]),
 ([],false,false,[]),
 ([55,56],false,false,[]),
 ([55,57],false,false,[]),
 ([58],false,false,[]),
 ([8,11,8],false,false,[]),
 ([59,60],false,false,[]),
 ([36,61],false,false,[]),
 ([62,63,31,64,65,31,66,9,33,67,31],false,false,[]),
 ([68,22],false,false,[]),
 ([18,20,21],false,false,[]),
 ([22],false,false,[]),
 ([69,31,33,70,71,31,33,72,33,31,73],false,false,[]),
 ([],false,false,[]),
 ([74,75],false,false,[]),
 ([],false,false,[]),
 ([33,76,38,31,33,73],false,false,[]),
 ([77,78,79],false,false,[]),
 ([41,80,81,82,83,84,43,31],false,false,[]),
 ([38],false,false,[]),
 ([86,85],false,false,[]),
 ([88],false,false,[])]
set_option maxRecDepth 100000 in
theorem Za:((Tryz.prog.funcs.toList.drop 0).take 40).map (BN Tryz.prog)=Ah4:=by kernel_rfl
def Ah3:List (List Nat×Bool×Bool×List Nat):=[([],false,false,[]),
 ([],false,false,[]),
 ([90,89,44,91,81,92,83],false,false,[]),
 ([33],false,false,[]),
 ([],false,false,[]),
 ([93,81],false,false,[]),
 ([94],false,false,[]),
 ([95,96,97,98],false,false,[]),
 ([99],false,false,[]),
 ([100,101],false,false,[]),
 ([102,104,103],false,false,[]),
 ([105],false,false,[]),
 ([95,47,106],false,false,[]),
 ([107,108,109,110,109,111,112],false,false,[]),
 ([113,31,33,114],false,false,[]),
 ([],false,false,[]),
 ([31,73],false,true,[]),
 ([115],false,false,[]),
 ([11],false,false,[]),
 ([116,117,118,119],false,false,[]),
 ([],false,false,[]),
 ([120,85,83],false,false,[]),
 ([41,122,43,31],false,false,[]),
 ([41,123,44,124,126,125,44,128,91,129,81,45,130],false,false,[]),
 ([131,133,132],false,false,[]),
 ([41,123,134,136,135,45,139],false,false,[]),
 ([140,141,132],false,false,[]),
 ([31],false,false,[]),
 ([142,39,40,143],false,false,[]),
 ([144,31,115,13,31,73,33,145,31,73],false,false,[]),
 ([13,31,41,146,81,45,43,73,31],false,true,[]),
 ([134,44,147,134,134,148,81,83,75],false,false,[]),
 ([149,150],false,false,[]),
 ([33],false,false,[]),
 ([148,75],false,false,[]),
 ([],false,false,[]),
 ([13,31,41,146,81,45,43,73,31],false,true,[]),
 ([78],false,false,[]),
 ([],false,false,[]),
 ([51],false,false,[])]
set_option maxRecDepth 100000 in
theorem Y_:((Tryz.prog.funcs.toList.drop 40).take 40).map (BN Tryz.prog)=Ah3:=by kernel_rfl
def Ah2:List (List Nat×Bool×Bool×List Nat):=[([122,151,152,153,44,91,83,154,129,81],false,false,[]),
 ([83,33],false,false,[]),
 ([83,155,83,41,146,156,157,81,43,158],false,false,[]),
 ([31],false,false,[]),
 ([44,111,155,83,145,158,81,44,115,159,161,160,81,45],false,false,[]),
 ([151,153,44,134,96,81,83,162,44,163,81,83],false,true,[]),
 ([87],false,false,[]),
 ([121,81,44,164,83],false,false,[]),
 ([142],false,false,[]),
 ([134,159],false,false,[]),
 ([],false,false,[]),
 ([159],false,false,[]),
 ([129],false,true,[]),
 ([],false,false,[]),
 ([165],false,false,[]),
 ([],false,false,[]),
 ([166],false,false,[]),
 ([],false,false,[]),
 ([167],false,false,[]),
 ([79],false,false,[]),
 ([],false,true,[]),
 ([],false,false,[]),
 ([169,168,105],false,false,[]),
 ([51,105,170,168,172,168,171],false,false,[]),
 ([],false,false,[]),
 ([],false,false,[]),
 ([78],false,false,[]),
 ([174,173,175,176],false,false,[]),
 ([177,173,178,176],false,false,[]),
 ([179],false,false,[]),
 ([173,180,176],false,false,[]),
 ([150,149],false,false,[]),
 ([181,179,161],false,false,[]),
 ([41,80,43,44],false,false,[]),
 ([182,41,183,146,184,185,81,43,73,31,33],false,true,[]),
 ([],false,false,[]),
 ([186,187],false,false,[]),
 ([187],false,false,[]),
 ([188],false,false,[]),
 ([189],false,false,[])]
set_option maxRecDepth 100000 in
theorem Y9:((Tryz.prog.funcs.toList.drop 80).take 40).map (BN Tryz.prog)=Ah2:=by kernel_rfl
def Ah1:List (List Nat×Bool×Bool×List Nat):=[([121],false,false,[]),
 ([44,134,146,83,159,190,44,81,83,191,128,160],false,false,[]),
 ([44,159,81,146,44,81,83],false,false,[]),
 ([80,81],false,false,[]),
 ([44,134,192,81],false,false,[]),
 ([83],false,true,[]),
 ([127],false,false,[]),
 ([147,44,147,81,83,89],false,false,[]),
 ([],false,false,[]),
 ([195,194,193],false,false,[]),
 ([43,31],false,false,[]),
 ([95,192,196,198,197],false,false,[]),
 ([],false,false,[]),
 ([199],false,false,[]),
 ([200,44,147,81],false,false,[]),
 ([83],false,true,[]),
 ([44,42,83,41,137,43,44,73,31,81,138,81],false,false,[]),
 ([151,153,124,202,201,45],false,false,[]),
 ([78],false,false,[]),
 ([43,31],false,false,[]),
 ([95,206,205],false,false,[]),
 ([99],false,false,[]),
 ([],false,false,[]),
 ([209],false,false,[]),
 ([115,33,41,115,210,211,159,129,91,91,159,33,33,33],false,false,[]),
 ([41,146,81,151,134,134,147,147,134,134,212,81,45,43,31],false,false,[]),
 ([210],false,false,[]),
 ([44,146,83,44,81,44,44,81],false,false,[]),
 ([75],false,false,[]),
 ([74,75],false,false,[]),
 ([74],false,false,[]),
 ([213,95],false,false,[]),
 ([],false,false,[]),
 ([213,166],false,false,[]),
 ([174,173,214,215,216,152,217,176],false,false,[]),
 ([44,42,44],false,false,[]),
 ([45,43,158,83,81,106,81],false,true,[]),
 ([71,45,43,158,83,218,81],false,false,[]),
 ([73,31,81],false,false,[]),
 ([210],false,false,[])]
set_option maxRecDepth 100000 in
theorem Y8:((Tryz.prog.funcs.toList.drop 120).take 40).map (BN Tryz.prog)=Ah1:=by kernel_rfl
def Ah0:List (List Nat×Bool×Bool×List Nat):=[([],false,false,[]),
 ([115,173,219,215,129,220,214,176],false,false,[]),
 ([221,83],false,false,[]),
 ([51],false,false,[]),
 ([],false,true,[]),
 ([222],false,false,[]),
 ([],false,false,[]),
 ([223,224,225,168],false,false,[]),
 ([],false,true,[]),
 ([],false,false,[]),
 ([],false,false,[]),
 ([227,228],false,false,[]),
 ([],false,false,[]),
 ([],false,false,[]),
 ([229],false,false,[]),
 ([230,231,154,215,129,220],false,false,[]),
 ([232],false,false,[]),
 ([97,233,234],false,false,[]),
 ([47,231,216,217,235,236,238,237],false,false,[]),
 ([239,173,240,176],false,false,[]),
 ([74,231,235,235,235,235,75],false,false,[]),
 ([173,212,231,215,216,235,176],false,false,[]),
 ([241,13,31],false,false,[]),
 ([],false,false,[]),
 ([38,45,83,78],false,false,[]),
 ([71,45,83,218,150,149,242],false,false,[]),
 ([243,244,119],false,false,[]),
 ([119,119],false,false,[]),
 ([245],false,false,[]),
 ([],false,false,[]),
 ([89,83,44,246,31,73,81,44,81],false,false,[]),
 ([233,173,237,176],false,false,[]),
 ([166],false,false,[]),
 ([],false,false,[]),
 ([247],false,false,[]),
 ([],false,false,[]),
 ([],false,false,[]),
 ([],false,true,[]),
 ([],false,false,[]),
 ([],false,false,[])]
set_option maxRecDepth 100000 in
theorem Y7:((Tryz.prog.funcs.toList.drop 160).take 40).map (BN Tryz.prog)=Ah0:=by kernel_rfl
def Ahz:List (List Nat×Bool×Bool×List Nat):=[([44,147,81],false,false,[]),
 ([83],false,true,[]),
 ([44,203,204,81,89],false,false,[]),
 ([134,44,147,81,248,83],false,false,[]),
 ([249,250],false,false,[]),
 ([],false,true,[]),
 ([207,208,47,138],false,false,[]),
 ([],false,true,[]),
 ([204],false,false,[]),
 ([142],false,false,[]),
 ([83,81,93,81],false,false,[]),
 ([93],false,false,[]),
 ([95,251],false,false,[]),
 ([44,147,81,83],false,true,[]),
 ([215],false,false,[]),
 ([232,252,231],false,false,[]),
 ([95,253],false,false,[]),
 ([166,253],false,false,[]),
 ([254],false,false,[]),
 ([],false,false,[]),
 ([219,215],false,false,[]),
 ([203,134,83],false,false,[]),
 ([],false,false,[]),
 ([],false,true,[]),
 ([],false,false,[]),
 ([226],false,false,[]),
 ([255],false,false,[]),
 ([],true,false,[]),
 ([256],false,false,[]),
 ([],false,false,[]),
 ([95,166,152],false,false,[]),
 ([232],false,false,[]),
 ([],false,false,[]),
 ([229],false,false,[]),
 ([98,257,229],false,false,[]),
 ([258,215],false,false,[]),
 ([98,231,259,235],false,false,[]),
 ([231,235,260,215,261,215,215],false,false,[]),
 ([97],false,false,[]),
 ([233],false,false,[])]
set_option maxRecDepth 100000 in
theorem Y6:((Tryz.prog.funcs.toList.drop 200).take 40).map (BN Tryz.prog)=Ahz:=by kernel_rfl
def Ahy:List (List Nat×Bool×Bool×List Nat):=[([231,261,129,220],false,false,[]),
 ([41,90,134,83,239],false,false,[]),
 ([182,145,31,73,33,262],false,false,[]),
 ([244,119],false,false,[]),
 ([263,189],false,false,[]),
 ([],false,false,[]),
 ([41,93,83,44,264,81,159,44,265,81,83,266,43,31],false,false,[]),
 ([267],false,false,[]),
 ([134,44,147,81,83],false,false,[]),
 ([],false,true,[]),
 ([],false,false,[]),
 ([],false,false,[]),
 ([],false,false,[]),
 ([231,235],false,false,[]),
 ([],false,false,[]),
 ([],false,false,[]),
 ([268,268,268],false,false,[]),
 ([167,229,269,229,270],false,false,[]),
 ([],false,false,[]),
 ([167,231,235,269,235,271],false,false,[]),
 ([272,233],false,false,[]),
 ([235,215],false,false,[]),
 ([115,161,160,33,273],false,false,[]),
 ([189,189,189],false,false,[]),
 ([44,147,83,81],false,false,[]),
 ([44,147,81,83],false,false,[]),
 ([],false,false,[]),
 ([],false,false,[]),
 ([],false,false,[]),
 ([],false,false,[]),
 ([255,229,229],false,false,[]),
 ([255,231,235,235],false,false,[]),
 ([274,275],false,false,[]),
 ([33],false,false,[]),
 ([276,277,278],false,true,[]),
 ([279,173,280,176],false,false,[]),
 ([],false,false,[]),
 ([281],false,false,[]),
 ([282,283,284,285],false,true,[]),
 ([229],false,false,[])]
set_option maxRecDepth 100000 in
theorem Y5:((Tryz.prog.funcs.toList.drop 240).take 40).map (BN Tryz.prog)=Ahy:=by kernel_rfl
def Ahx:List (List Nat×Bool×Bool×List Nat):=[([286,231,235,215,235,235],false,false,[]),
 ([],false,false,[]),
 ([287,288],false,false,[]),
 ([289],false,false,[]),
 ([],false,false,[]),
 ([],false,false,[]),
 ([],false,false,[]),
 ([],false,false,[]),
 ([287,290],false,false,[]),
 ([290],false,true,[]),
 ([],false,false,[]),
 ([],true,false,[]),
 ([],true,false,[]),
 ([],true,false,[]),
 ([],true,false,[]),
 ([],true,false,[]),
 ([],true,false,[]),
 ([],true,false,[]),
 ([],true,false,[]),
 ([],true,false,[]),
 ([],true,false,[]),
 ([],true,false,[]),
 ([],true,false,[]),
 ([],true,false,[]),
 ([],true,false,[]),
 ([],true,false,[]),
 ([],true,false,[]),
 ([],true,false,[]),
 ([],true,false,[]),
 ([],true,false,[])]
set_option maxRecDepth 100000 in
theorem Y4:((Tryz.prog.funcs.toList.drop 280).take 30).map (BN Tryz.prog)=Ahx:=by kernel_rfl
def Ah5:List (List Nat×Bool×Bool×List Nat):=Ah4++Ah3++Ah2++Ah1++Ah0++Ahz++Ahy++Ahx
theorem Vl:Tryz.prog.funcs.toList.length=310:=by kernel_rfl
theorem EY {α:Type} (l:List α) (i n:Nat):(l.drop i)=(l.drop i).take n++l.drop (i+n):=by
 rw[←List.drop_drop];exact(List.take_append_drop n _).symm
theorem Mn:Tryz.prog.funcs.toList.map (BN Tryz.prog)=Ah5:=by
 have h0:Tryz.prog.funcs.toList=Tryz.prog.funcs.toList.drop 0:=rfl
 rw[h0]
 rw[EY Tryz.prog.funcs.toList 0 40,List.map_append,Za]
 rw[EY Tryz.prog.funcs.toList 40 40,List.map_append,Y_]
 rw[EY Tryz.prog.funcs.toList 80 40,List.map_append,Y9]
 rw[EY Tryz.prog.funcs.toList 120 40,List.map_append,Y8]
 rw[EY Tryz.prog.funcs.toList 160 40,List.map_append,Y7]
 rw[EY Tryz.prog.funcs.toList 200 40,List.map_append,Y6]
 rw[EY Tryz.prog.funcs.toList 240 40,List.map_append,Y5]
 rw[EY Tryz.prog.funcs.toList 280 30,List.map_append,Y4]
 rw[List.drop_eq_nil_of_le (by rw[Vl];omega)]
 simp[Ah5]
def Iv:List Nat:=[104,97,114,110,101,115,115,32,99,97,56,101,54,55,56,99,100,100,57,49,100,50,50,102,51,97,98,101,99,56,102,50,97,54,56,101,100,49,97,56,49,48,51,100,50,101,53,98,100,101,50,50,97,98,55,98,99,49,101,97,50,54,100,51,101,49,99,52,98,101,50,48,32,99,117,116,32,97,116,32,116,104,111,108,101,112,105,110,47,116,104,111,108,101,112,105,110,116,111,112,46,84,111,112,76,111,111,107,115,32,116,104,111,108,101,112,105,110,47,116,104,111,108,101,112,105,110,116,111,112,46,84,111,112,76,111,103,32,116,104,111,108,101,112,105,110,47,116,104,111,108,101,112,105,110,116,111,112,46,84,111,112,65,103,114,101,101]
set_option maxRecDepth 100000 in
theorem Akm:Tryz.prog.initOrder=String.ofList (Iv.map Char.ofNat):=by kernel_rfl
theorem Aap:Tryz.prog.initOrder.toList=Iv.map Char.ofNat:=by rw[Akm];exact String.toList_ofList
theorem Ago:("cut").toList=[99,117,116].map Char.ofNat:=by decide+kernel
theorem Agp:(behindMainWord (wordsSigns (Iv.map Char.ofNat))).head?=some ([99,117,116].map Char.ofNat):=by kernel_rfl
theorem Ig:∃rest,behindMainWord (wordsSigns Tryz.prog.initOrder.toList)= "cut".toList::rest:=by
 have h:=Agp
 rw[Aap,Ago]
 cases hb:behindMainWord (wordsSigns (Iv.map Char.ofNat))with
 |nil=>rw[hb]at h;cases h
 |cons c r=>rw[hb]at h;simp only[List.head?_cons,Option.some.injEq]at h;exact⟨r,by rw[h]⟩
theorem Wr:Tryz.prog.laysLater=false:=by kernel_rfl
theorem OQ:Tryz.prog.bearsReflect=false:=by kernel_rfl
theorem Abv:Tryz.prog.doorFits []=true:=by kernel_rfl
theorem Z4:Tryz.prog.mayEnter=true:=by
 obtain⟨rest,h⟩:=Ig
 exact Ti h Wr OQ Abv
theorem Tz:false=Tryz.prog.liftsFinal:=by
 obtain⟨rest,h⟩:=Ig
 exact Ol h
theorem Afa:Tryz.prog.make=some .cut:=by
 obtain⟨rest,h⟩:=Ig
 exact Aj3 h
namespace CellTopLooks
def C:List Nat:=[3,6,7,8,9,10,11,12,13,14,17,18,20,21,24,28,30,31,32,33,34,35,36,37,38,39,40,41,42,43,44,45,47,51,52,53,54,55,56,57,59,60,69,70,71,72,73,74,75,76,77,78,79,80,81,82,83,84,85,86,87,88,89,90,91,92,93,95,96,97,98,105,106,107,108,109,110,111,112,113,114,115,116,117,118,119,121,122,128,129,134,142,144,145,146,147,148,149,150,151,152,153,154,155,156,157,158,159,160,161,162,163,164,166,167,168,173,174,175,176,177,178,179,180,181,182,183,184,185,186,187,188,189,190,191,193,194,195,200,203,210,211,212,213,214,215,216,217,218,219,220,221,223,224,225,226,229,230,231,232,233,234,235,236,237,238,239,240,241,242,243,244,245,246,247,248,251,252,253,254,255,257,258,259,260,261,262,263,264,265,266,267,269,270,271,272,273,274,275,276,277,278,279,280,281,282,283,284,285,286,287,288,289,290]
theorem Aml:FH Ah5 C=true:=by decide+kernel
theorem mem:3∈C:=by decide
theorem unf:true=Tryz.prog.unfollowed 3:=LK (g:=92) Mn 64 (by decide+kernel) (by decide+kernel) (by decide+kernel)
theorem rec:true=Tryz.prog.recurses 3:=Fd unf
theorem Aqj:Jj Tryz.pinned.checked.prog Tryz.f3 Rows.topLooksSpec Rows.topLooksRow=true:=by kernel_rfl
theorem lifted:Rows.topLooksRow.lifted=Tryz.pinned.checked.prog.liftsFinal:=Tz
theorem made:Tryz.pinned.checked.prog.make=some Rows.topLooksRow.make:=Afa
theorem closed:joinedFacts Tryz.pinned.checked.prog 3 Tryz.f3 Rows.topLooksSpec Rows.topLooksRow=true:=
 Aam Tryz.laidOut Aqj Z4 lifted made (TO Mn Aml mem) unf rec (N0 Mn Aml mem)
theorem named:Tryz.pinned.checked.prog.funcNamed Rows.topLooksRow.func=some 3:=by kernel_rfl
theorem inst:Tryz.f3.isInstance Tryz.pinned.checked.prog Rows.topLooksRow.origin Rows.topLooksRow.targs:=of_decide_eq_true (by kernel_rfl)
theorem wrap:Tryz.f3.isWrapper Tryz.pinned.checked.prog Rows.topLooksRow.wrapper Rows.topLooksRow.mainSum:=by unfold Func.isWrapper;first|(rw[if_pos (by decide+kernel)];kernel_rfl)|(rw[if_neg (by decide+kernel)];exact⟨rfl,rfl⟩)
end CellTopLooks
end Go.Proofs.YtileggkdbaejoaaGreat
