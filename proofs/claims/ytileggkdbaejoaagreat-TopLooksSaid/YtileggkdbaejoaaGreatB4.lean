/- Lemmas for TopLooks, part 4. -/
import Derived.Test.YtileggkdbaejoaaGreatB3
import Derived.Test.YtileggkdbaejoaaGreatB2
import Derived.Lib.Walk
import Derived.Lib.SliceRun
import Derived.Lib.JoinLaws
import Derived.Lib.AppendZerosOnto
import Derived.Laws.Externs
import Derived.Laws.IdiomCopy
import Derived.Laws.LoneSync
import Derived.Shelf.Spec.SlicesInsert
import Derived.Lib.SlBytesConst
import Derived.Test.YtileggkdbaejoaaGreatB1
import Derived.KernelRfl
set_option linter.all false
namespace Go.Proofs.YtileggkdbaejoaaGreat
open Go.RowKit
theorem Ad4 {rd:PY} {S:SD} (h:¬S.r.code=0) (n:Nat):S.recs rd n=S:=by
 cases n with
 |zero=>rfl
 |succ n=>rw[SD.recs,if_neg h]
set_option maxRecDepth 100000 in
theorem Qf (L:List Int) (F:FuncId) (rd:PY) (hR:RdC F rd) (S0:SD) (N:Nat) (hS0:L0 L S0) (hN:(L.length:Int)-S0.r.at_<N):
 An Tryz.prog 82 [.ref 0 0,.fn F [] []] (LM S0 1 2 3) (.tup []) (LM (S0.recs rd N) 1 2 3):=by
 obtain⟨R,hRR⟩:∃R,S0.recs rd N=R:=⟨_,rfl⟩
 rw[hRR]
 refine RM Tryz.func82 b82 ?_
 refine AM (α:=SD×Nat) (λu=>[.ref 0 0,.fn F [] [],.any,.any,.any,.any,.any,.any,.any,.any,.any,.any,.any,.any,.any,.any,.any,.any,.any,.any,.any,.any,.any,.any,.any,.any,.any,.any,.any,.any,.any,.any,.any,.any,.any,.any,.any,.any,.any,.any,.any,.any,.any,.any,.any,.any,.any]) (λu=>LM u.1 1 2 3) (λu=>L0 L u.1∧(u.1.r.code=0->(L.length:Int)-u.1.r.at_<u.2)∧u.1.recs rd u.2=R) (λu=>u.2) (S0,N) ⟨hS0,λ_=>hN,hRR⟩ (Wk.to (by simp) (by simp[Ca])) ?_
 rintro⟨S,n⟩ ⟨hS,hn,hr⟩
 simp only[]at hS hn hr
 refine (mp ?_).1
 refine Aa.r1 (Ak S.r 1) rfl ?_
 by_cases hc:S.r.code=0
 ·have hlt:=hn hc
  have hat:=hS.r.at1
  rw[hS.l]at hat
  obtain⟨n,rfl⟩:∃m,n=m+1:=⟨n-1,by omega⟩
  have hone:=M1 hR.ok hS hc
  obtain⟨p1,p2,p3⟩:=HQ hS hc
  rw[SD.recs,if_pos hc]at hr
  obtain⟨T,hT⟩:∃T,S.pay=T:=⟨_,rfl⟩
  have hpl:T.1.r.code=0->0≤T.2.2∧T.2.2≤1000000:=λh=>by
   rw[←hT]at h ⊢
   have h1:=H1 hS.r 2097152 h
   have h2:=hS.hn
   rw[hS.l]at h1
   exact⟨h1.1,by show(S.r.frame 2097152).1.at_-4-((S.r.frame 2097152).2.length:Int)≤1000000;omega⟩
  have hok:Av (RS.new T.2.1):=Av.new (hT▸p2) (by rw[←hT];omega)
  have hln:(RS.new T.2.1).l.length≤1000000:=by rw[←hT];exact p3
  obtain⟨q1,q2⟩:=RS.ok.byte_ hok
  have qf:=(Fa.new T.2.1).byte hok
  obtain⟨q,hq⟩:∃q,(RS.new T.2.1).byte.1=q:=⟨_,rfl⟩
  obtain⟨y,hy⟩:∃y,(RS.new T.2.1).byte.2=y:=⟨_,rfl⟩
  have eone:S.one rd=if T.1.r.code=0 then(if y=1 then(T.1.bat rd q T.2.2,false)else if y=2 then(T.1.idx q T.2.2,true)else({T.1 with r:=T.1.r.wth ((q.fail 7 0).code,(q.fail 7 0).fat) T.2.2},false))else(T.1,true):=by
   unfold SD.one;rw[hT,hq,hy]
  have hpay:=Mw S hS.r (by rw[hS.l];exact hS.hn) 0 1 2 3 (by decide)
  rw[hT]at p1 hpay
  rw[hq]at q1 q2 qf
  have hql:q.l.length≤1000000:=by rw[q2];exact hln
  refine (mq (AW hc) ?_).1
  refine Aa.us hpay rfl rfl ?_
  refine (mp ?_).1
  refine Aa.r1 (Ak T.1.r 1) rfl ?_
  by_cases ht:T.1.r.code=0
  ·rw[if_pos ht]at eone
   obtain⟨a0,a1⟩:=hpl ht
   refine (mq (AW ht) ?_).1
   refine Aa.n (Ce T.2.1) (mp ?_).1
   refine Aa.u1 (CI (RS.new T.2.1) 4 hok.ok) rfl (mr hq hy ?_).1
   by_cases hy1:y=1
   ·rw[if_pos hy1]at eone
    have c1:(y==1)=true:=by simpa using hy1
    rw[eone]at hr hone
    simp only[Bool.false_eq_true,if_false]at hr hone
    refine (mq c1 ?_).1
    refine Aa.us (Zq L F rd hR T.1 q T.2.2 p1 ht q1 qf hql ⟨a0,a1⟩ 0 1 2 3 4 (by decide)) rfl rfl ?_
    refine (mp ?_).1
    exact⟨(T.1.bat rd q T.2.2,n),⟨hone.1,λh=>by have:=hone.2 h;simp only[];omega,hr⟩,by simp only[];omega,Wk.sel [0,1,2,3] (by simp) rfl (by simp) rfl (by simp[AK,Ao]) (by simp[Cq,AT,AK])⟩
   ·rw[if_neg hy1]at eone
    have c1:(y==1)=false:=by simpa using hy1
    by_cases hy2:y=2
    ·rw[if_pos hy2]at eone
     have c2:(y==2)=true:=by simpa using hy2
     rw[eone]at hr
     simp only[if_true]at hr
     refine (mr c1 c2 ?_).1
     refine Aa.us (Zp L T.1 q T.2.2 p1 ht q1 qf hql ⟨a0,a1⟩ 0 1 2 3 4 (by decide)) rfl rfl ?_
     refine (mp ?_).1
     (refine FB b82 [0,1,2,3] ?_ ?_<;>first|with_reducible rfl|(simp[Ae,Ah,Ai,Ag,←hr,AK];done)|rfl)
    ·rw[if_neg hy2]at eone
     have c2:(y==2)=false:=by simpa using hy2
     rw[eone]at hr hone
     simp only[Bool.false_eq_true,if_false]at hr hone
     have qff:=qf.fail (c:=7) (a:=0) (Int.le_refl _) (by omega)
     unfold Fa at qff
     rw[Bl]at qff
     refine (mr c1 c2 ?_).1
     refine Aa.u1 (Ar q 7 0 4) rfl (mp ?_).1
     refine Aa.r1 (A3 (q.fail 7 0) 4) rfl ?_
     refine (mp ?_).1
     refine Aa.us (Io T.1 ((q.fail 7 0).code,(q.fail 7 0).fat) T.2.2 (by simp only[];omega) 0 1 2 3 (by decide)) rfl rfl ?_
     refine (mp ?_).1
     exact⟨({T.1 with r:=T.1.r.wth ((q.fail 7 0).code,(q.fail 7 0).fat) T.2.2},n),⟨hone.1,λh=>by have:=hone.2 h;simp only[];omega,hr⟩,by simp only[];omega,Wk.sel [0,1,2,3] (by simp) rfl (by simp) rfl (by simp[AK,Ao]) (by simp[Cq,AT,AK])⟩
  ·rw[if_neg ht]at eone
   rw[eone]at hr
   simp only[if_true]at hr
   refine (mq (Ay ht) ?_).1
   (refine FB b82 [0,1,2,3] ?_ ?_<;>first|with_reducible rfl|(simp[Ae,Ah,Ai,Ag,←hr,AK];done)|rfl)
 ·rw[Ad4 hc]at hr
  refine (mq (Ay hc) ?_).1
  (refine FB b82 [0,1,2,3] ?_ ?_<;>first|with_reducible rfl|(simp[Ae,Ah,Ai,Ag,←hr,AK];done)|rfl)
set_option maxHeartbeats 4000000 in
set_option maxRecDepth 100000 in
theorem Q7 (b:List Int) (hb:AY b) (hn:b.length≤100000000):An Tryz.prog 69 [A9 .u8 b] [] (.tup [U9 (AX b).1,iA (AX b).2.1,B9 (AX b).2.2]) []:=by
 have hsz:=λh=>Mv hb h
 obtain⟨S,hS⟩:∃S,Dl b=S:=⟨_,rfl⟩
 have e:AX b=if S.2.1=0 then Ns b (b.length-12-S.1.toNat) (b.length-12)else(JH,0,S.2):=by unfold AX;rw[hS]
 rw[hS]at hsz
 by_cases hs:S.2.1=0
 ·have q:(S.2.1==0)=true:=by simpa using hs
  rw[if_pos hs]at e
  obtain⟨z1,z2,z3,z4,_⟩:=hsz hs
  obtain⟨m,hm⟩:∃m:Nat,b.length=m+12:=⟨b.length-12,by omega⟩
  obtain⟨x,hx⟩:∃x:Nat,S.1=(x:Int):=⟨S.1.toNat,by omega⟩
  rw[hx,Int.toNat_natCast]at e
  obtain⟨a,ha⟩:∃a:Nat,m=a+x:=⟨m-x,by omega⟩
  have ha':m-x=a:=by omega
  have hm2:b.length-12=m:=by omega
  obtain⟨seg,hseg⟩:∃seg,(b.take m).drop a=seg:=⟨_,rfl⟩
  have lseg:seg.length=x:=by rw[←hseg,List.length_drop,List.length_take];omega
  have bseg:AY seg:=λy hy=>hb y (by rw[←hseg]at hy;exact List.mem_of_mem_take (List.mem_of_mem_drop hy))
  have kseg:Av (RS.new seg):=Av.new bseg (by omega)
  have hfa:=(Fa.new seg).frame kseg 2097152
  have hkp:=CL kseg 2097152
  have hfi:=λhc=>GI kseg (m:=2097152) hc
  have hgf:BA seg 2097152=if((RS.new seg).frame 2097152).1.code=0 then(((RS.new seg).frame 2097152).2,((RS.new seg).frame 2097152).1.at_,(0,0))else([],0,(((RS.new seg).frame 2097152).1.code,((RS.new seg).frame 2097152).1.fat)):=rfl
  have e0:(RS.new seg).l.take (RS.new seg).at_.toNat=[]:=by simp[RS.new]
  have e1:(RS.new seg).l=seg:=rfl
  unfold Ns at e
  rw[hm2,ha',hseg]at e
  obtain⟨F,hF⟩:∃F,(RS.new seg).frame 2097152=F:=⟨_,rfl⟩
  rw[hF]at hfa hkp hgf hfi
  rw[hF]at e
  rw[e0,e1,List.nil_append]at hfi
  rw[e1]at hkp
  have hfl:F.1.l.length=x:=by rw[hkp.2];exact lseg
  have hat0:=hkp.1.at0
  have hat1:=hkp.1.at1
  have hfa1:=hfa.1
  have hfa2:=hfa.2
  have hpl:F.1.code=0->AY F.2∧(F.2.length:Int)+5≤F.1.at_:=λhc=>by
   obtain⟨_,_,i3,_,i5⟩:=hfi hc
   have h1:=congrArg List.length i5
   rw[List.length_take]at h1
   have h2:=Bh F.2
   exact⟨i3,by omega⟩
  have w1:IntKind.i64.wrap ((b.length:Int)-12)=(m:Int):=by rw[IntWalk.i64_in _ (by omega)];omega
  have w2:IntKind.i64.wrap ((m:Int)-(x:Int))=(a:Int):=by rw[IntWalk.i64_in _ (by omega)];omega
  have hsl:A2 .u8 ((b.drop (a:Int).toNat).take ((m:Int)-(a:Int)).toNat)=A2 .u8 seg:=by
   rw[←hseg,List.drop_take,Int.toNat_natCast,show((m:Int)-(a:Int)).toNat=m-a by omega]
  have w3:IntKind.i64.wrap ((a:Int)+F.1.at_)=(a:Int)+F.1.at_:=IntWalk.i64_in _ (by omega)
  have w4:IntKind.i64.wrap (F.1.fat+(a:Int))=F.1.fat+a:=IntWalk.i64_in _ (by omega)
  refine RM Tryz.func69 b69 ?_
  refine Aa.p (Lt b hb (by omega)) ?_;simp only[go_sem,seval,hS,hx];refine (mok ?_).1
  refine Aa.p (Aw S.2.1 S.2.2) ?_;simp only[go_sem,seval,q];refine (mok ?_).1
  refine Aa.p (CW) ?_;simp only[go_sem,seval,Ab,w1,w2,Cb,DD,hsl];refine (mok ?_).1
  (repeat((with_reducible refine And.intro ?_ ?_);(·exact sd)))
  by_cases hc:F.1.code=0
  ·rw[if_pos hc]at hgf
   rw[if_pos hc]at e
   obtain⟨p1,p2⟩:=hpl hc
   have hrf:=G6 p1 (by omega)
   obtain⟨R,hR⟩:∃R,Bs F.2=R:=⟨_,rfl⟩
   rw[hR]at hrf
   rw[hR]at e
   have w5:IntKind.i64.wrap ((a:Int)+F.1.at_-4)=(a:Int)+F.1.at_-4:=IntWalk.i64_in _ (by omega)
   have w6:IntKind.i64.wrap ((a:Int)+F.1.at_-4-(F.2.length:Int))=(a:Int)+F.1.at_-4-(F.2.length:Int):=IntWalk.i64_in _ (by omega)
   have w7:IntKind.i64.wrap (R.2.2+((a:Int)+F.1.at_-4-(F.2.length:Int)))=R.2.2+((a:Int)+F.1.at_-4-(F.2.length:Int)):=IntWalk.i64_in _ (by omega)
   refine Aa.p (Fm seg 2097152 bseg (by omega) (by decide)) ?_;simp only[go_sem,seval,hgf];refine (mok ?_).1
   refine Aa.p (Aw 0 0) ?_;simp only[go_sem,seval,beq_self_eq_true];refine (mok ?_).1
   by_cases hlt:F.1.at_<(x:Int)
   ·have q2:decide (F.1.at_<(x:Int))=true:=decide_eq_true hlt
    rw[if_pos (by omega)]at e
    simp only[go_sem,seval,q2,w3];refine (mok ?_).1
    refine Aa.p (BQ 9 ((a:Int)+F.1.at_)) (mp ?_).1
    (refine FB b69 [] ?_ ?_<;>first|with_reducible rfl|(simp[Ae,Ah,Ai,Ag,e,JH,BW];done)|rfl)
   ·have q2:decide (F.1.at_<(x:Int))=false:=decide_eq_false hlt
    rw[if_neg (by omega)]at e
    simp only[go_sem,seval,q2];refine (mok ?_).1
    refine Aa.p (D5 F.2 p1 (by omega)) ?_;simp only[go_sem,seval,hR];refine (mok ?_).1
    refine Aa.p (Aw R.2.1 R.2.2) ?_
    by_cases hz:R.2.1=0
    ·have q3:(R.2.1==0)=true:=by simpa using hz
     rw[if_pos hz]at e
     simp only[go_sem,seval,q3];refine (mok ?_).1
     exact FE b69 [] e
    ·have q3:(R.2.1==0)=false:=by simpa using hz
     rw[if_neg hz]at e
     simp only[go_sem,seval,q3,Ab,w3,w5,w6];refine (mok ?_).1
     refine Aa.p (Bi R.2.1 R.2.2 _ _ w7) (mp ?_).1
     (refine FB b69 [] ?_ ?_<;>first|with_reducible rfl|(simp[Ae,Ah,Ai,Ag,e,JH,BW,hz];done)|rfl)
  ·rw[if_neg hc]at hgf
   rw[if_neg hc]at e
   have q2:(F.1.code==0)=false:=by simpa using hc
   refine Aa.p (Fm seg 2097152 bseg (by omega) (by decide)) ?_;simp only[go_sem,seval,hgf];refine (mok ?_).1
   refine Aa.p (Aw F.1.code F.1.fat) ?_;simp only[go_sem,seval,q2];refine (mok ?_).1
   refine Aa.p (Bi F.1.code F.1.fat a _ w4) (mp ?_).1
   (refine FB b69 [] ?_ ?_<;>first|with_reducible rfl|(simp[Ae,Ah,Ai,Ag,e,JH,BW,hc];done)|rfl)
 ·have q:(S.2.1==0)=false:=by simpa using hs
  rw[if_neg hs]at e
  refine RM Tryz.func69 b69 ?_
  refine Aa.p (Lt b hb (by omega)) ?_;simp only[go_sem,seval,hS];refine (mok ?_).1
  refine Aa.p (Aw S.2.1 S.2.2) ?_;simp only[go_sem,seval,q];refine (mok ?_).1
  (refine FB b69 [] ?_ ?_<;>first|with_reducible rfl|(simp[Ae,Ah,Ai,Ag,e,JH];done)|rfl)
theorem TX (b:List Int) (hb:AY b) (hn:b.length≤100000000):Ct Tryz.prog 69 [A9 .u8 b] [] (λ_=>.tup [U9 (AX b).1,iA (AX b).2.1,B9 (AX b).2.2]) [] (λ_=>[]):=(Q7 b hb hn).toCt cl cl
theorem Sr (L:List Int) (F:FuncId) (rd:PY) (hR:RdC F rd) (S0:SD) (N:Nat) (hS0:L0 L S0) (hN:(L.length:Int)-S0.r.at_<N) (i r j k:Nat) (hd:[i,r,j,k].Nodup):
 Ct Tryz.prog 82 [.ref i 0,.fn F [] []] ([i,r,j,k].zip (LM S0 r j k)) (λ_=>.tup []) ([i,r,j,k].zip (LM (S0.recs rd N) r j k)) (λ_=>[]):=
 Ct.us (Qf L F rd hR S0 N hS0 hN) [i,r,j,k] hd rfl rfl (by simp[A7]) (λN=>by simp[AK]) (λN=>by simp[AK,Ao]) (λN=>by simp[AK,Ao]) (λN=>by simp)
theorem Jz (f g:Ft):(f.ep==g.ep&&(f.bat==g.bat&&(f.ent==g.ent&&(f.fst==g.fst&&(f.fin==g.fin&&(f.at_==g.at_&&(f.size==g.size&&true)))))))=decide (f=g):=by
 rw[Bool.eq_iff_iff]
 simp only[Bool.and_eq_true,beq_iff_eq,and_true,decide_eq_true_eq]
 constructor
 ·rintro⟨h1,h2,h3,h4,h5,h6,h7⟩;cases f;cases g;simp_all
 ·rintro rfl;simp
theorem LC (f g:Ft):(f.ep==g.ep&&(f.bat==g.bat&&(f.ent==g.ent&&(f.fst==g.fst&&(f.fin==g.fin&&(f.at_==g.at_&&f.size==g.size))))))=decide (f=g):=by
 rw[←Jz,Bool.and_true]
set_option maxRecDepth 100000 in
theorem Adv (L:List Int) (S:SD) (hS:L0 L S) (hc:S.r.code=0):An Tryz.prog 84 [.ref 0 0] (LM S 1 2 3) (.tup []) (LM {S.pay.1 with r:=S.fin} 1 2 3):=by
 obtain⟨p1,p2,p3⟩:=HQ hS hc
 have h0:=hS.r.at0
 have h1:=hS.r.at1
 have hnn:=hS.hn
 rw[hS.l]at h1
 have f0:=hS.f0
 have f1:=hS.f1
 have e1:IntKind.i64.wrap (S.r.at_-S.fst)=S.r.at_-S.fst:=IntWalk.i64_in _ (by omega)
 have hml:=hS.ml
 have hnb:=hS.n
 obtain⟨T,hT⟩:∃T,S.pay=T:=⟨_,rfl⟩
 obtain⟨W,hW⟩:∃W,S.want=W:=⟨_,rfl⟩
 have hW':GJ S.ep S.ms S.fst (S.r.at_-S.fst)=W:=hW
 have hpay:=Mw S hS.r (by rw[hS.l];exact hS.hn) 0 1 2 3 (by decide)
 have hft:=G6 (p:=T.2.1) (by rw[←hT];exact p2) (by rw[←hT];omega)
 have hrp:=D5 T.2.1 (by rw[←hT];exact p2) (by rw[←hT];omega)
 obtain⟨G,hG⟩:∃G,Bs T.2.1=G:=⟨_,rfl⟩
 have hpl:T.1.r.code=0->0≤T.2.2∧T.2.2≤1000000∧0≤T.1.fst∧T.1.fst<T.1.r.at_:=λh=>by
  rw[←hT]at h ⊢
  have h1:=H1 hS.r 2097152 h
  rw[hS.l]at h1
  exact⟨h1.1,by show(S.r.frame 2097152).1.at_-4-((S.r.frame 2097152).2.length:Int)≤1000000;omega,h0,h1.2.2⟩
 have hln:T.2.1.length≤1000000:=by rw[←hT];exact p3
 rw[hT]at p1 hpay
 rw[hG]at hft hrp
 obtain⟨w,hw⟩:∃w,T.1.r.wth G.2 T.2.2=w:=⟨_,rfl⟩
 obtain⟨w1,w2⟩:=JI p1.r G.2 T.2.2
 rw[hw]at w1 w2
 obtain⟨x,hx⟩:∃x,(if G.1=W then w else w.fail 12 T.1.fst)=x:=⟨_,rfl⟩
 have x1:Av x∧x.l=L∧x.at_=T.1.r.at_:=by
  have wa:w.at_=T.1.r.at_:=by rw[←hw];unfold RS.wth;split;rfl;unfold RS.fail;split<;>rfl
  rw[←hx]
  split
  ·exact⟨w1,w2.trans p1.l,wa⟩
  ·exact⟨w1.fail _ _,by rw[Bl];exact w2.trans p1.l,by unfold RS.fail;split<;>exact wa⟩
 have eend1:S.end1=x:=by unfold SD.end1;rw[hT,hG,hW,hw,hx]
 have eend2:S.end2=if(x.take 12).2=A0 (x.at_-T.1.fst)then(x.take 12).1 else(x.take 12).1.fail 12 x.at_:=by unfold SD.end2;rw[eend1,hT]
 have efin:S.fin=if T.1.r.code=0 then S.end2.rest9 else T.1.r:=by unfold SD.fin;rw[hT]
 refine RM Tryz.func84 b84 ?_
 refine Aa.r1 (AP S.r 1) rfl ?_
 refine (mq e1 ?_).1
 refine Aa.p (HP S.ep S.ms S.fst (S.r.at_-S.fst) hS.mok (by omega)) (mq hW' ?_).1
 refine Aa.us hpay rfl rfl ?_
 refine (mp ?_).1
 refine Aa.r1 (Ak T.1.r 1) rfl ?_
 by_cases ht:T.1.r.code=0
 ·obtain⟨a0,a1,a2,a3⟩:=hpl ht
  rw[if_pos ht]at efin
  have hwi:=Io T.1 G.2 T.2.2 (by omega) 0 1 2 3 (by decide)
  rw[hw]at hwi
  have hxat:=x1.1.at1
  rw[x1.2.1]at hxat
  have e2:IntKind.i64.wrap (x.at_-T.1.fst)=x.at_-T.1.fst:=IntWalk.i64_in _ (by omega)
  have e3:IntKind.u64.wrap (x.at_-T.1.fst)=x.at_-T.1.fst:=IntWalk.u64_in _ (by omega)
  have htk:=x1.1.take 12
  have heq:=Ia (x.take 12).2 (A0 (x.at_-T.1.fst)) (DO x1.1.bys 12) (I3 _)
  obtain⟨V,hV⟩:∃V,x.take 12=V:=⟨_,rfl⟩
  rw[hV]at eend2 htk heq
  refine (mq (AW ht) ?_).1
  refine Aa.p (hrp) (mp ?_).1
  refine Aa.us hwi rfl rfl ?_
  refine (mr @Jz @LC ?_).1
  by_cases hgw:G.1=W
  ·have c1:decide (G.1=W)=true:=by simpa using hgw
   rw[if_pos hgw]at hx
   refine (mr c1 hx ?_).1
   refine Aa.r1 (AP x 1) rfl ?_
   refine (mp ?_).1
   refine Aa.p (CW) (mp ?_).1
   refine Aa.u1 (CH x 12 1 x1.1.ok) rfl (mq hV ?_).1
   refine (mq e2 ?_).1
   refine Aa.p (Et (x.at_-T.1.fst) _ e3 (by omega) (by omega)) (mp ?_).1
   refine Aa.p (heq) (mp ?_).1
   by_cases hs:V.2=A0 (x.at_-T.1.fst)
   ·have c2:BJ V.2 (A0 (x.at_-T.1.fst))=true:=by simp[BJ,hs]
    rw[if_pos hs]at eend2
    rw[eend2]at efin
    rw[hT,efin]
    refine (mq c2 ?_).1
    refine Aa.u1 (BL V.1 1 htk) rfl (mp ?_).1
    (refine FB b84 [0,1,2,3] ?_ ?_<;>first|with_reducible rfl|(simp[Ae,Ah,Ai,Ag,AK];done)|rfl)
   ·have c2:BJ V.2 (A0 (x.at_-T.1.fst))=false:=by simp[BJ,hs]
    rw[if_neg hs]at eend2
    rw[eend2]at efin
    rw[hT,efin]
    refine (mq c2 ?_).1
    refine Aa.u1 (Ar V.1 12 x.at_ 1) rfl (mp ?_).1
    refine Aa.u1 (BL (V.1.fail 12 x.at_) 1 (htk.fail _ _)) rfl (mp ?_).1
    (refine FB b84 [0,1,2,3] ?_ ?_<;>first|with_reducible rfl|(simp[Ae,Ah,Ai,Ag,AK];done)|rfl)
  ·have c1:decide (G.1=W)=false:=by simpa using hgw
   rw[if_neg hgw]at hx
   refine (mq c1 ?_).1
   refine Aa.u1 (Ar w 12 T.1.fst 1) rfl (mq hx ?_).1
   refine Aa.r1 (AP x 1) rfl ?_
   refine (mp ?_).1
   refine Aa.p (CW) (mp ?_).1
   refine Aa.u1 (CH x 12 1 x1.1.ok) rfl (mq hV ?_).1
   refine (mq e2 ?_).1
   refine Aa.p (Et (x.at_-T.1.fst) _ e3 (by omega) (by omega)) (mp ?_).1
   refine Aa.p (heq) (mp ?_).1
   by_cases hs:V.2=A0 (x.at_-T.1.fst)
   ·have c2:BJ V.2 (A0 (x.at_-T.1.fst))=true:=by simp[BJ,hs]
    rw[if_pos hs]at eend2
    rw[eend2]at efin
    rw[hT,efin]
    refine (mq c2 ?_).1
    refine Aa.u1 (BL V.1 1 htk) rfl (mp ?_).1
    (refine FB b84 [0,1,2,3] ?_ ?_<;>first|with_reducible rfl|(simp[Ae,Ah,Ai,Ag,AK];done)|rfl)
   ·have c2:BJ V.2 (A0 (x.at_-T.1.fst))=false:=by simp[BJ,hs]
    rw[if_neg hs]at eend2
    rw[eend2]at efin
    rw[hT,efin]
    refine (mq c2 ?_).1
    refine Aa.u1 (Ar V.1 12 x.at_ 1) rfl (mp ?_).1
    refine Aa.u1 (BL (V.1.fail 12 x.at_) 1 (htk.fail _ _)) rfl (mp ?_).1
    (refine FB b84 [0,1,2,3] ?_ ?_<;>first|with_reducible rfl|(simp[Ae,Ah,Ai,Ag,AK];done)|rfl)
 ·rw[if_neg ht]at efin
  rw[hT,efin]
  refine (mq (Ay ht) ?_).1
  (refine FB b84 [0,1,2,3] ?_ ?_<;>first|with_reducible rfl|(simp[Ae,Ah,Ai,Ag,AK];done)|rfl)
theorem Bf.rowObj {G:Gh} {T:List Ad} {w:World} {i j k n k':Nat} {ys:List AV} (h:Wd G T w) (hi:T[i]? =some (.cells ys)) (hj:ys[j]? =some (.sl .full k' [])) (hd:T[n]? =some .dead) (h1:1≤k):
 ∃G',Bf G T w G' ((T.set n (.row k 0)).set i (.cells (ys.set j (.sl (.row n) k [])))) w:=by
 have hne:n≠i:=by rintro rfl;rw[hi]at hd;simp at hd
 have hjl:=(List.getElem?_eq_some_iff.1 hj).1
 obtain⟨b,cs,t,g1,g2,g3,g4,_⟩:=h.obj i ys hi
 have hv:=Array.getElem?_eq_getElem (show j<cs.size by omega)
 have r:=(g4 j _ _ hj hv).2
 have r':BE G (.sl .full k []) cs[j]:=r.rek
 generalize hcj:cs[j]=v at*
 cases r' with
 | @sl _ _ _ A c b' o vs q1 q2 q3 q4 q5 q6 q7=>
   have hc:c=0:=q7
   subst hc
   obtain⟨hl,hh⟩:=Bf.rowFull (id:=n) (k:=k) (n:=0) (A:=A) h hd h1
   have hi':(T.set n (.row k 0))[i]? =some (.cells ys):=by rw[List.getElem?_set_ne hne];exact hi
   obtain⟨b2,cs2,t2,p1,p2,p3,p4,_⟩:=hl.wd.obj i ys hi'
   have hb2:b2=b:=by
    have:=hl.le.loc i b (by simpa using g1)
    rw[p1]at this;injection this
   subst hb2
   rw[p2]at g2;injection g2 with g2;injection g2 with e1 e1t;subst e1 e1t
   refine⟨_,hl.trans (Bf.turn (xs':=ys.set j (.sl (.row n) k [])) hl.wd hi' p1 (⟨rfl,rfl,rfl,rfl,λ_ _=>rfl,p2⟩:Kr w w b2 (.cells cs2 t2 (0,0))) (by rw[List.length_set];omega) λq x u hx hu=>?_)⟩
   by_cases eq:q=j
   ·subst eq
    simp[hjl]at hx;subst hx
    rw[hv]at hu;injection hu with hu
    refine⟨?_,?_⟩
    ·rw[←hu];rfl
    ·rw[←hu]
     exact((BE.sl vs q1 q2 q3 q4 q5 q6 q7:BE G (.sl .full k []) _).mono hl.le).retag hh
   ·rw[List.getElem?_set_ne (Ne.symm eq)]at hx
    exact p4 q x u hx hu
theorem An.rowObj {P:Program} {f:FuncId} {args:List AV} {T S':List Ad} {r:AV} {i j n k':Nat} (k:Nat) {ys:List AV} (hi:T[i]? =some (.cells ys)) (hj:ys[j]? =some (.sl .full k' [])) (hd:T[n]? =some .dead) (h1:1≤k)
 (h:An P f args ((T.set n (.row k 0)).set i (.cells (ys.set j (.sl (.row n) k [])))) r S'):An P f args T r S':=by
 refine⟨h.1,λG w vs hw hv=>?_⟩
 obtain⟨G',hl⟩:=Bf.rowObj hw hi hj hd h1
 refine(h.2 G' w vs hl.wd (hv.mono hl.le)).mono ?_
 rintro e w' ⟨v,G'',rfl,hr,hs⟩
 exact⟨v,G'',rfl,hr,hl.trans hs⟩
theorem EU (u:List (Nat×Ad)) (k:Nat) (x:Ad) (hk:k∈u.map (·.1)) (T:List Ad):CA (T.set k x) u=CA T u:=by
 induction u generalizing T with
 |nil=>simp at hk
 |cons p u ih=>
  rw[CQ,CQ]
  by_cases e:p.1=k
  ·subst e;rw[List.set_set]
  ·have hk':k∈u.map (·.1):=by
    simp only[List.map_cons,List.mem_cons]at hk
    rcases hk with h|h
    ·exact absurd h.symm e
    ·exact h
   rw[List.set_comm _ _ (Ne.symm e),ih hk']
theorem N7 (L:List Int) (F:FuncId) (rd:PY) (hR:RdC F rd) (S0:SD) (N:Nat) (hS0:L0 L S0) (hN:(L.length:Int)-S0.r.at_<N) (hb:S0.bt=[]) (hm:S0.ms=[]) {S:List Ad} {K:KT} (i r k1 k2:Nat) (hir:i≠r)
 (h1:S[i]? =some (.cells [.ref r 0,uA S0.ep,.sl .full k1 [],.sl .full k2 [],bA S0.w,iA S0.fst])) (h2:S[r]? =some (A7 S0.r))
 (hK:K (.tup []) [i,r] [(i,sgO (S0.recs rd N) r S.length (S.length+1)),(r,A7 (S0.recs rd N).r)] [.row 3 (S0.recs rd N).bt.length,.row 3 (S0.recs rd N).ms.length]):
 Aa Tryz.prog 82 [.ref i 0,.fn F [] []] S K:=by
 have hil:=(List.getElem?_eq_some_iff.1 h1).1
 have hrl:=(List.getElem?_eq_some_iff.1 h2).1
 refine⟨_,_,_,_,λT hT _ hd=>?_,λp hp=>?_,λp hp=>?_,hK⟩
 ·have Lp:T[S.length]? =some .dead:=hd (S.length,.row 3 (S0.recs rd N).bt.length) (by simp[BG])
  have hd1:T[S.length+1]? =some .dead:=hd (S.length+1,.row 3 (S0.recs rd N).ms.length) (by simp[BG])
  have t1:T[i]? =_:=(hT i (by simp)).trans h1
  have t2:T[r]? =_:=(hT r (by simp)).trans h2
  refine An.rowObj (j:=2) 3 t1 rfl Lp (by omega) ?_
  refine An.rowObj (j:=3) (n:=S.length+1) 3 (k':=k2) (i:=i) (ys:=[.ref r 0,uA S0.ep,.sl (.row S.length) 3 [],.sl .full k2 [],bA S0.w,iA S0.fst]) ?_ rfl ?_ (by omega) ?_
  ·have C0:i<T.length:=(List.getElem?_eq_some_iff.1 t1).1
   simp[C0]
  ·rw[List.getElem?_set_ne (by omega),List.getElem?_set_ne (by omega)];exact hd1
  ·have hnd:[i,r,S.length,S.length+1].Nodup:=by
    simp only[List.nodup_cons,List.mem_cons,List.not_mem_nil,or_false,not_or,not_false_eq_true,List.nodup_nil,and_true]
    omega
   have hc:=Sr L F rd hR S0 N hS0 hN i r S.length (S.length+1) hnd
   have ht0:=(List.getElem?_eq_some_iff.1 Lp).1
   have ht1:=(List.getElem?_eq_some_iff.1 hd1).1
   have C0:i<T.length:=(List.getElem?_eq_some_iff.1 t1).1
   have hrt:r<T.length:=(List.getElem?_eq_some_iff.1 t2).1
   have hx:=hc ((((T.set S.length (.row 3 0)).set i (.cells [.ref r 0,uA S0.ep,.sl (.row S.length) 3 [],.sl .full k2 [],bA S0.w,iA S0.fst])).set (S.length+1) (.row 3 0)).set i (.cells [.ref r 0,uA S0.ep,.sl (.row S.length) 3 [],.sl (.row (S.length+1)) 3 [],bA S0.w,iA S0.fst])) 0 (λp hp=>?_) (λp hp=>by simp[BG]at hp)
   ·rw[CE,show BG 0 []=[]from rfl,Mh]at hx
    rw[EU _ _ _ (by simp),EU _ _ _ (by simp),EU _ _ _ (by simp),EU _ _ _ (by simp)]at hx
    exact hx
   ·simp only[List.zip_cons_cons,List.zip_nil_right,List.mem_cons,List.not_mem_nil,or_false]at hp
    rcases hp with rfl|rfl|rfl|rfl
    ·simp[C0,sgO,hb,hm,R7,HG]
    ·simp only[]
     rw[List.getElem?_set_ne hir,List.getElem?_set_ne (by omega),List.getElem?_set_ne hir,List.getElem?_set_ne (by omega)];exact t2
    ·simp only[]
     rw[List.getElem?_set_ne (by omega),List.getElem?_set_ne (by omega),List.getElem?_set_ne (by omega),hb]
     simp[ht0]
    ·simp only[]
     rw[List.getElem?_set_ne (by omega),hm]
     simp[ht1]
 ·simp only[List.mem_cons,List.not_mem_nil,or_false]at hp
  rcases hp with rfl|rfl<;>simp
 ·simp only[List.mem_cons,List.not_mem_nil,or_false]at hp
  rcases hp with rfl|rfl
  ·exact hil
  ·exact hrl
theorem Ais (q:RS) (hq:Av q) (hl:q.l.length≤1000000):An Tryz.prog 37 [.ref 0 0] [A7 q] (.tup [Ie (Gk q).2.1,bA (Gk q).2.2]) [A7 (Gk q).1]:=by
 refine RM Tryz.func37 b37 ?_
 refine Aa.u1 (Hu q 0 hq hl) rfl (mp ?_).1
 (refine FB b37 [0] ?_ ?_<;>first|with_reducible rfl|(simp[Ae,Ah,Ai,Ag,Gk];done)|rfl)
theorem Zc:RdC 37 Gk:=⟨VS,λq i hq hl=>Ct.u1 (Ais q hq hl) i Ci (λρ=>Ao ρ _) (λρ=>Ao ρ _) (rdr_dead q) (λρ=>by simp[Ie])⟩
theorem Aja (L:List Int) (S:SD) (hS:L0 L S) (hc:S.r.code=0) (i r j k:Nat) (hd:[i,r,j,k].Nodup):
 Ct Tryz.prog 84 [.ref i 0] ([i,r,j,k].zip (LM S r j k)) (λ_=>.tup []) ([i,r,j,k].zip (LM {S.pay.1 with r:=S.fin} r j k)) (λ_=>[]):=
 Ct.us (Adv L S hS hc) [i,r,j,k] hd rfl rfl (by simp[A7]) (λN=>by simp[AK]) (λN=>by simp[AK,Ao]) (λN=>by simp[AK,Ao]) (λN=>by simp)
set_option maxRecDepth 100000 in
theorem Ss (F:FuncId) (rd:PY) (hR:RdC F rd) (l:List Int) (hb:AY l) (hl:l.length≤1000000):An Tryz.prog 36 [A9 .u8 l,.fn F [] []] [] (.tup [JP (Gi rd l).1.1,bA (Gi rd l).1.2,B9 (Gi rd l).2]) []:=by
 have hok:Av (RS.new l):=Av.new hb (by omega)
 have hs0:=Mr hb hl
 have hs1:=Ahr hR.ok hb hl
 obtain⟨R,hRR⟩:∃R,Gi rd l=R:=⟨_,rfl⟩
 have e0:SD.start l=⟨if(RS.new l).header.2.ver=3 then(RS.new l).header.1 else(RS.new l).header.1.fail 8 4,(RS.new l).header.2.ep,[],[],true,0⟩:=rfl
 have e1:SD.all rd l=(SD.start l).recs rd (l.length+1):=rfl
 have e2:Gi rd l=if(SD.all rd l).done.code=0 then((⟨(SD.all rd l).ep,(SD.all rd l).bt⟩,(SD.all rd l).w),(0,0))else((Zl,false),((SD.all rd l).done.code,(SD.all rd l).done.fat)):=rfl
 obtain⟨H,hH⟩:∃H,(RS.new l).header=H:=⟨_,rfl⟩
 have hat:=hs0.r.at0
 obtain⟨S0,hS0⟩:∃S0,SD.start l=S0:=⟨_,rfl⟩
 obtain⟨S1,hS1⟩:∃S1,SD.all rd l=S1:=⟨_,rfl⟩
 rw[hS1]at e1 e2 hs1
 rw[hS0]at e0 e1 hs0 hat
 rw[hH]at e0
 rw[hRR]at e2 ⊢
 have g1:S0.ep=H.2.ep:=by rw[e0]
 have g2:S0.w=true:=by rw[e0]
 have g3:S0.fst=0:=by rw[e0]
 have g4:S0.r=if H.2.ver=3 then H.1 else H.1.fail 8 4:=by rw[e0]
 have g5:S0.bt=[]:=by rw[e0]
 have g6:S0.ms=[]:=by rw[e0]
 have hrec:=@N7 l F rd hR S0 (l.length+1) hs0 (by omega) g5 g6
 rw[←e1]at hrec
 have hend:=λh=>Aja l S1 hs1 h
 have hdone:S1.done=if S1.r.code=0 then S1.fin else S1.r:=rfl
 refine RM Tryz.func36 b36 ?_
 refine Aa.n (Ce l) (mp ?_).1
 refine Aa.u1 (Lo (RS.new l) 2 hok) rfl (mq hH ?_).1
 by_cases hv:H.2.ver=3
 ·rw[if_pos hv]at g4
  have c1:(H.2.ver != 3)=false:=by simp[hv]
  refine (mq c1 ?_).1
  refine hrec 3 2 1 1 (by decide) (by rw[g1,g2,g3];rfl) (by rw[g4];rfl) ?_
  simp only[go_sem,seval,List.length_cons,List.length_nil];refine (mok ?_).1
  refine Aa.r1 (Ak S1.r 2) rfl ?_
  by_cases hc:S1.r.code=0
  ·obtain⟨T,hT⟩:∃T,S1.done=T:=⟨_,rfl⟩
   rw[if_pos hc,hT]at hdone
   rw[hT]at e2
   have he:=hend hc 3 2 5 6 (by decide)
   rw[←hdone]at he
   refine (mq (AW hc) ?_).1
   refine Aa.us he rfl rfl ?_
   refine (mp ?_).1
   refine Aa.r1 (A3 T 2) rfl ?_
   refine (mp ?_).1
   refine Aa.p (Aw T.code T.fat) ?_
   by_cases hz:T.code=0
   ·rw[if_pos hz]at e2
    have c2:(T.code==0)=true:=by simpa using hz
    refine (mq c2 ?_).1
    (refine AF.wao (ys:=[uA S1.ep,slB S1.bt]) 0 rfl (by repeat(first|exact Wa.refl _|exact Bo.nil|exact Wa.nil|exact Wa.none|refine Bo.cons ?_ ?_|refine Wa.agg ?_|refine Wa.slN ?_|refine Wa.slS ?_|exact Bo.refl _)) ?_;simp only[List.set_cons_zero,List.set_cons_succ])
    have p1:S1.pay.1.w=S1.w:=rfl
    exact FF b36 [] e2 p1
   ·rw[if_neg hz]at e2
    have c2:(T.code==0)=false:=by simpa using hz
    refine (mq c2 ?_).1
    (refine AF.wao (ys:=[uA 0,slB []]) 0 rfl (by repeat(first|exact Wa.refl _|exact Bo.nil|exact Wa.nil|exact Wa.none|refine Bo.cons ?_ ?_|refine Wa.agg ?_|refine Wa.slN ?_|refine Wa.slS ?_|exact Bo.refl _)) ?_;simp only[List.set_cons_zero,List.set_cons_succ])
    (refine FB b36 [] ?_ ?_<;>first|with_reducible rfl|(simp[Ae,Ah,Ai,Ag,e2,Zl];done)|rfl)
  ·rw[if_neg hc]at hdone
   rw[hdone]at e2
   rw[if_neg hc]at e2
   have c2:(S1.r.code==0)=false:=by simpa using hc
   refine (mq (Ay hc) ?_).1
   refine Aa.r1 (A3 S1.r 2) rfl ?_
   refine (mp ?_).1
   refine Aa.p (Aw S1.r.code S1.r.fat) ?_
   refine (mq c2 ?_).1
   (refine AF.wao (ys:=[uA 0,slB []]) 0 rfl (by repeat(first|exact Wa.refl _|exact Bo.nil|exact Wa.nil|exact Wa.none|refine Bo.cons ?_ ?_|refine Wa.agg ?_|refine Wa.slN ?_|refine Wa.slS ?_|exact Bo.refl _)) ?_;simp only[List.set_cons_zero,List.set_cons_succ])
   (refine FB b36 [] ?_ ?_<;>first|with_reducible rfl|(simp[Ae,Ah,Ai,Ag,e2,Zl];done)|rfl)
 ·rw[if_neg hv]at g4
  have c1:(H.2.ver != 3)=true:=by simp[hv]
  refine (mq c1 ?_).1
  refine Aa.u1 (Ar H.1 8 4 2) rfl (mp ?_).1
  refine hrec 3 2 1 1 (by decide) (by rw[g1,g2,g3];rfl) (by rw[g4];rfl) ?_
  simp only[go_sem,seval,List.length_cons,List.length_nil];refine (mok ?_).1
  refine Aa.r1 (Ak S1.r 2) rfl ?_
  by_cases hc:S1.r.code=0
  ·obtain⟨T,hT⟩:∃T,S1.done=T:=⟨_,rfl⟩
   rw[if_pos hc,hT]at hdone
   rw[hT]at e2
   have he:=hend hc 3 2 5 6 (by decide)
   rw[←hdone]at he
   refine (mq (AW hc) ?_).1
   refine Aa.us he rfl rfl ?_
   refine (mp ?_).1
   refine Aa.r1 (A3 T 2) rfl ?_
   refine (mp ?_).1
   refine Aa.p (Aw T.code T.fat) ?_
   by_cases hz:T.code=0
   ·rw[if_pos hz]at e2
    have c2:(T.code==0)=true:=by simpa using hz
    refine (mq c2 ?_).1
    (refine AF.wao (ys:=[uA S1.ep,slB S1.bt]) 0 rfl (by repeat(first|exact Wa.refl _|exact Bo.nil|exact Wa.nil|exact Wa.none|refine Bo.cons ?_ ?_|refine Wa.agg ?_|refine Wa.slN ?_|refine Wa.slS ?_|exact Bo.refl _)) ?_;simp only[List.set_cons_zero,List.set_cons_succ])
    have p1:S1.pay.1.w=S1.w:=rfl
    exact FF b36 [] e2 p1
   ·rw[if_neg hz]at e2
    have c2:(T.code==0)=false:=by simpa using hz
    refine (mq c2 ?_).1
    (refine AF.wao (ys:=[uA 0,slB []]) 0 rfl (by repeat(first|exact Wa.refl _|exact Bo.nil|exact Wa.nil|exact Wa.none|refine Bo.cons ?_ ?_|refine Wa.agg ?_|refine Wa.slN ?_|refine Wa.slS ?_|exact Bo.refl _)) ?_;simp only[List.set_cons_zero,List.set_cons_succ])
    (refine FB b36 [] ?_ ?_<;>first|with_reducible rfl|(simp[Ae,Ah,Ai,Ag,e2,Zl];done)|rfl)
  ·rw[if_neg hc]at hdone
   rw[hdone]at e2
   rw[if_neg hc]at e2
   have c2:(S1.r.code==0)=false:=by simpa using hc
   refine (mq (Ay hc) ?_).1
   refine Aa.r1 (A3 S1.r 2) rfl ?_
   refine (mp ?_).1
   refine Aa.p (Aw S1.r.code S1.r.fat) ?_
   refine (mq c2 ?_).1
   (refine AF.wao (ys:=[uA 0,slB []]) 0 rfl (by repeat(first|exact Wa.refl _|exact Bo.nil|exact Wa.nil|exact Wa.none|refine Bo.cons ?_ ?_|refine Wa.agg ?_|refine Wa.slN ?_|refine Wa.slS ?_|exact Bo.refl _)) ?_;simp only[List.set_cons_zero,List.set_cons_succ])
   (refine FB b36 [] ?_ ?_<;>first|with_reducible rfl|(simp[Ae,Ah,Ai,Ag,e2,Zl];done)|rfl)
theorem Vv (F:FuncId) (rd:PY) (hR:RdC F rd) (l:List Int) (hb:AY l) (hl:l.length≤1000000):Ct Tryz.prog 36 [A9 .u8 l,.fn F [] []] [] (λ_=>.tup [JP (Gi rd l).1.1,bA (Gi rd l).1.2,B9 (Gi rd l).2]) [] (λ_=>[]):=(Ss F rd hR l hb hl).toCt cl cl
theorem LO (l:List Int) (hb:AY l) (hl:l.length≤1000000):An Tryz.prog 9 [A9 .u8 l] [] (.tup [JP (Gi Gk l).1.1,B9 (Gi Gk l).2]) []:=by
 have h:=Vv 37 Gk Zc l hb hl
 obtain⟨R,hR⟩:∃R,Gi Gk l=R:=⟨_,rfl⟩
 rw[hR]at h ⊢
 refine RM Tryz.func9 b9 ?_
 refine Aa.p (h) (mp ?_).1
 exact FA b9 []
theorem Mz (l:List Int) (hb:AY l) (hl:l.length≤1000000):Ct Tryz.prog 9 [A9 .u8 l] [] (λ_=>.tup [JP (Gi Gk l).1.1,B9 (Gi Gk l).2]) [] (λ_=>[]):=(LO l hb hl).toCt cl cl
def Cg (k:Int) (p:List Int):RS:=if(RS.new p).byte.2=k then(RS.new p).byte.1 else(RS.new p).byte.1.fail 7 0
def Bp {α:Type} (R:RS->RS×α) (z:α) (k:Int) (s:List Int):α×Int×(Int×Int):=
 if(BA s 2097152).2.2.1=0 then
  (if(R (Cg k (BA s 2097152).1)).1.rest9.code=0 then((R (Cg k (BA s 2097152).1)).2,(BA s 2097152).2.1,(0,0))
   else(z,0,((R (Cg k (BA s 2097152).1)).1.rest9.code,(R (Cg k (BA s 2097152).1)).1.rest9.fat+((BA s 2097152).2.1-4-(BA s 2097152).1.length))))
 else(z,0,(BA s 2097152).2.2)
def Fr (f:Ft) (l:List Mk):Bool:=decide (f.bat=l.length)&&(decide (f.ent=if AZ l=true then DK l l.length else 0)&&(decide (f.fst=(Ed l).1)&&decide (f.fin=(Ed l).2)))
abbrev KF (s:List Int) (a e:Int):List Int:=(s.drop a.toNat).take (e-a).toNat
abbrev Jo (s:List Int) (f:Ft):List Mk×Int×(Int×Int):=Bp RS.marks [] 2 (KF s f.at_ (f.at_+f.size))
def J6 (s:List Int) (f:Ft):Int×Int:=if(Jo s f).2.2.1=0 then(if(Jo s f).2.1<f.size then(9,(Jo s f).2.1)else if Fr f (Jo s f).1=false then(12,0)else(0,0))else(Jo s f).2.2
def Dh (s:List Int):(Ft×Int×List Mk)×(Int×Int):=
 if(AX s).2.2.1=0 then
  (if(AX s).2.1<(AX s).1.at_+(AX s).1.size then((JH,0,[]),(3,(AX s).2.1))
   else if(J6 s (AX s).1).1=0 then(((AX s).1,(AX s).2.1,(Jo s (AX s).1).1),(0,0))
   else((JH,0,[]),((J6 s (AX s).1).1,(J6 s (AX s).1).2+(AX s).1.at_)))
 else((JH,0,[]),(AX s).2.2)
abbrev GX (s:List Int) (m:Mk) (e:Int):Bt×Int×(Int×Int):=Bp (λq=>q.btch RS.blk) BZ 1 (KF s m.at_ e)
def NL (s:List Int) (m:Mk) (e:Int):Int×Int:=if(GX s m e).2.2.1=0 then(if(GX s m e).1.base=m.pos∧((GX s m e).1.en.length:Int)=m.cnt then(0,0)else(12,0))else(GX s m e).2.2
def Fh (s:List Int) (m:Mk) (e:Int):Bt×(Int×Int):=
 if e≤m.at_ then(BZ,(3,m.at_))else((GX s m e).1,BW (NL s m e).1 ((NL s m e).2+m.at_))
def atP (b:Bt) (pos:Int):En×Bool:=if b.base≤pos∧pos<b.base+b.en.length then(b.en.getD (pos-b.base).toNat DN,true)else(DN,false)
def Cc (l:List Mk) (pos:Int):Mk×Bool:=if AZ l=true∧EL (C0 pos) l<l.length then(l.getD (EL (C0 pos) l) Cr,true)else(Cr,false)
def C6 (s:List Int) (pos:Int):En×(Int×Int):=
 if(Dh s).2.1=0 then
  (if(Cc (Dh s).1.2.2 pos).2=false then(DN,(16,0))
   else if(Fh s (Cc (Dh s).1.2.2 pos).1 (Dh s).1.1.at_).2.1=0 then((atP (Fh s (Cc (Dh s).1.2.2 pos).1 (Dh s).1.1.at_).1 pos).1,(0,0))
   else(DN,(Fh s (Cc (Dh s).1.2.2 pos).1 (Dh s).1.1.at_).2))
 else(DN,(Dh s).2)
theorem Na {p:List Int} (k:Int) (hp:AY p) (hn:p.length≤1000000):Av (Cg k p)∧(Cg k p).l=p∧Fa (Cg k p):=by
 have hok:Av (RS.new p):=Av.new hp (by omega)
 obtain⟨q1,q2⟩:=RS.ok.byte_ hok
 have qf:=(Fa.new p).byte hok
 unfold Cg
 split
 ·exact⟨q1,q2,qf⟩
 ·exact⟨q1.fail _ _,by rw[Bl];exact q2,qf.fail (Int.le_refl _) (by omega)⟩
theorem LA {α:Type} {R:RS->RS×α} {z:α} {k:Int} {s:List Int} (hb:AY s) (hn:s.length≤1000000) (keep:∀q,Av q->Av (R q).1∧(R q).1.l=q.l) (fa:∀q,Av q->Fa q->Fa (R q).1) (A:α->Prop) (hz:A z) (hR:∀q,Av q->q.l.length≤1000000->A (R q).2):
 A (Bp R z k s).1∧0≤(Bp R z k s).2.1∧(Bp R z k s).2.1≤s.length∧0≤(Bp R z k s).2.2.2∧(Bp R z k s).2.2.2≤3000000∧((Bp R z k s).2.2.1=0->(Bp R z k s).2.2=(0,0)):=by
 have hok:Av (RS.new s):=Av.new hb (by omega)
 have hff:=(Fa.new s).frame hok 2097152
 have hfl:=(CL hok 2097152).2
 unfold Fa at hff
 rw[hfl]at hff
 have hnl:(RS.new s).l.length=s.length:=rfl
 have hgi:=λh=>Ix (b:=s) (m:=2097152) hb (by omega) h
 have hgb:¬(BA s 2097152).2.2.1=0->(BA s 2097152).2.2.2=((RS.new s).frame 2097152).1.fat:=λh=>by
  unfold BA at h ⊢
  split
  ·rename_i h';rw[if_pos h']at h;exact absurd rfl h
  ·rfl
 unfold Bp
 split
 ·rename_i h
  obtain⟨a1,a2,a3,a4,a5,a6⟩:=hgi h
  have hlen:=congrArg List.length a6
  have hfl:=Bh (BA s 2097152).1
  rw[List.length_take]at hlen
  have hgl:(BA s 2097152).1.length≤1000000:=by omega
  obtain⟨k1,k2,k3⟩:=Na k a2 hgl
  obtain⟨d1,d2⟩:=keep _ k1
  have df:=(fa _ k1 k3).rest9 d1
  obtain⟨r1,r2⟩:=CZ d1
  unfold Fa at df
  rw[r2,d2,k2]at df
  split
  ·exact⟨hR _ k1 (by rw[k2];exact hgl),a4,a5,Int.le_refl _,by simp,λ_=>rfl⟩
  ·rename_i h2
   exact⟨hz,Int.le_refl _,by simp only[];omega,by simp only[];omega,by simp only[];omega,λh=>absurd h h2⟩
 ·rename_i h
  have:=hgb h
  exact⟨hz,Int.le_refl _,by simp only[];omega,by simp only[];omega,by simp only[];omega,λh'=>absurd h' h⟩
theorem Zx {l:List Mk}:∀{p a:Int},Dz p a l=true->∀m∈l,p≤m.pos∧1≤m.cnt∧m.cnt≤16∧m.pos+m.cnt≤4611686018427387904∧a<m.at_∧m.at_≤1099511627775:=by
 induction l with
 |nil=>intro p a _ m hm;simp at hm
 |cons x l ih=>
  intro p a h m hm
  simp only[Dz,Bool.and_eq_true,decide_eq_true_eq]at h
  obtain⟨⟨f1,f2,f3,f4,f5,f6⟩,hr⟩:=h
  rcases List.mem_cons.1 hm with rfl|hm
  ·exact⟨f3,f1,f2,f4,f5,f6⟩
  ·have:=ih hr m hm
   have hf:x.fin=x.pos+x.cnt:=rfl
   omega
theorem Gu {l:List Mk} (h:AZ l=true) {m:Mk} (hm:m∈l):0≤m.pos∧1≤m.cnt∧m.cnt≤16∧m.pos+m.cnt≤4611686018427387904∧1≤m.at_∧m.at_≤1099511627775:=by
 unfold AZ at h
 rw[Bool.and_eq_true]at h
 have:=Zx h.1 m hm
 omega
theorem Fk {l:List Mk} (h:AZ l=true):∀m∈l,m.ok:=λm hm=>by
 have:=Gu h hm
 unfold Mk.ok
 omega
theorem Lf {q:RS} (h:Av q):AZ q.marks.2=true:=by
 by_cases hc:q.marks.1.code=0
 ·obtain⟨h1,h2,_⟩:=Hr DR (m:=16) h hc
  exact Bc.2 ⟨h1,by have:((Dq.counted 16 q).2.length:Int)≤16:=h2;show(Dq.counted 16 q).2.length≤16;omega⟩
 ·have:q.marks.2=[]:=Uy 16 hc
  rw[this];rfl
theorem Nk {s:List Int} (hb:AY s) (hn:s.length≤1000000):AZ (Bp RS.marks [] 2 s).1=true∧0≤(Bp RS.marks [] 2 s).2.1∧(Bp RS.marks [] 2 s).2.1≤s.length∧0≤(Bp RS.marks [] 2 s).2.2.2∧(Bp RS.marks [] 2 s).2.2.2≤3000000∧((Bp RS.marks [] 2 s).2.2.1=0->(Bp RS.marks [] 2 s).2.2=(0,0)):=
 LA hb hn (λq h=>DF DR h 16) (λq h hf=>hf.marks h) (λl=>AZ l=true) rfl λq h _=>Lf h
theorem Ams:Me BZ:=⟨⟨by decide,by decide,by decide,by decide,λe h=>by simp[BZ]at h⟩,by decide,by decide,λe h=>by simp[BZ]at h⟩
theorem NR {s:List Int} (hb:AY s) (hn:s.length≤1000000):Me (Bp (λq=>q.btch RS.blk) BZ 1 s).1∧0≤(Bp (λq=>q.btch RS.blk) BZ 1 s).2.1∧(Bp (λq=>q.btch RS.blk) BZ 1 s).2.1≤s.length∧0≤(Bp (λq=>q.btch RS.blk) BZ 1 s).2.2.2∧(Bp (λq=>q.btch RS.blk) BZ 1 s).2.2.2≤3000000∧((Bp (λq=>q.btch RS.blk) BZ 1 s).2.2.1=0->(Bp (λq=>q.btch RS.blk) BZ 1 s).2.2=(0,0)):=
 LA hb hn (λq h=>DG h λs h=>B_ h) (λq h hf=>hf.btch h (λs h=>B_ h) (λs h hf=>hf.blk h)) Me Ams λq h _=>(NN h GW).1
theorem J1 {s:List Int} (hb:AY s) (a e:Int):AY (KF s a e):=λx hx=>hb x (List.mem_of_mem_drop (List.mem_of_mem_take hx))
theorem J0 (s:List Int) (a e:Int):(KF s a e).length≤s.length:=by
 show((s.drop a.toNat).take (e-a).toNat).length≤_
 rw[List.length_take,List.length_drop];omega
theorem Pn {s:List Int} (hb:AY s) (hn:s.length≤1000000) (hc:(Dh s).2.1=0):(AX s).2.2.1=0∧¬(AX s).2.1<(AX s).1.at_+(AX s).1.size∧(J6 s (AX s).1).1=0∧Dh s=(((AX s).1,(AX s).2.1,(Jo s (AX s).1).1),(0,0)):=by
 unfold Dh at hc ⊢
 by_cases h1:(AX s).2.2.1=0
 ·rw[if_pos h1]at hc ⊢
  by_cases h2:(AX s).2.1<(AX s).1.at_+(AX s).1.size
  ·rw[if_pos h2]at hc;exact absurd hc (by simp)
  ·rw[if_neg h2]at hc ⊢
   by_cases h3:(J6 s (AX s).1).1=0
   ·rw[if_pos h3]at hc ⊢
    exact⟨h1,h2,h3,rfl⟩
   ·rw[if_neg h3]at hc;exact absurd hc h3
 ·rw[if_neg h1]at hc;exact absurd hc h1
theorem KI {s:List Int} (hb:AY s) (hn:s.length≤1000000):AZ (Dh s).1.2.2=true:=by
 by_cases hc:(Dh s).2.1=0
 ·rw[(Pn hb hn hc).2.2.2]
  exact(Nk (J1 hb _ _) (by have:=J0 s (AX s).1.at_ ((AX s).1.at_+(AX s).1.size);omega)).1
 ·unfold Dh at hc ⊢
  by_cases h1:(AX s).2.2.1=0
  ·rw[if_pos h1]at hc ⊢
   by_cases h2:(AX s).2.1<(AX s).1.at_+(AX s).1.size
   ·rw[if_pos h2];rfl
   ·rw[if_neg h2]at hc ⊢
    by_cases h3:(J6 s (AX s).1).1=0
    ·rw[if_pos h3]at hc;exact absurd rfl hc
    ·rw[if_neg h3];rfl
  ·rw[if_neg h1];rfl
theorem T1 {l:List Mk} {pos:Int} (h:(Cc l pos).2=true):AZ l=true∧(Cc l pos).1∈l∧C0 pos (Cc l pos).1=true:=by
 unfold Cc at h ⊢
 by_cases h1:AZ l=true∧EL (C0 pos) l<l.length
 ·rw[if_pos h1]at h ⊢
  have h2:=h1.2
  have h3:l.getD (EL (C0 pos) l) Cr=l[EL (C0 pos) l]:=by simp[h2]
  refine⟨h1.1,?_,?_⟩
  ·show l.getD (EL (C0 pos) l) Cr∈l
   rw[h3];exact List.getElem_mem _
  ·show C0 pos (l.getD (EL (C0 pos) l) Cr)=true
   rw[h3]
   exact List.findIdx_getElem (w:=h2)
 ·rw[if_neg h1]at h;exact absurd h (by simp)
theorem XF {s:List Int} (hb:AY s) (hn:s.length≤1000000) (m:Mk) (x:Int):Me (Fh s m x).1:=by
 unfold Fh
 split
 ·exact Ams
 ·exact(NR (J1 hb _ _) (by have:=J0 s m.at_ x;omega)).1
set_option maxRecDepth 100000 in
theorem NF (s:List Int) (hb:AY s) (hn:s.length≤1000000):An Tryz.prog 70 [A9 .u8 s,O0 2,.fn 71 [] []] [] (.tup [Fv (Bp RS.marks [] 2 s).1,iA (Bp RS.marks [] 2 s).2.1,B9 (Bp RS.marks [] 2 s).2.2]) []:=by
 have hgi:=λh=>Ix (b:=s) (m:=2097152) hb (by omega) h
 obtain⟨g,hg⟩:∃g,BA s 2097152=g:=⟨_,rfl⟩
 have e:Bp RS.marks [] 2 s=if g.2.2.1=0 then
  (if((RS.marks) (Cg 2 g.1)).1.rest9.code=0 then(((RS.marks) (Cg 2 g.1)).2,g.2.1,(0,0))
   else([],0,(((RS.marks) (Cg 2 g.1)).1.rest9.code,((RS.marks) (Cg 2 g.1)).1.rest9.fat+(g.2.1-4-g.1.length))))
  else([],0,g.2.2):=by unfold Bp;rw[hg]
 obtain⟨C,hC⟩:∃C,Bp RS.marks [] 2 s=C:=⟨_,rfl⟩
 rw[hC]at e ⊢
 rw[hg]at hgi
 refine RM Tryz.func70 b70 ?_
 refine Aa.p (Fm s 2097152 hb (by omega) (by omega)) (mq hg ?_).1
 refine Aa.p (Aw g.2.2.1 g.2.2.2) (mp ?_).1
 by_cases hz:g.2.2.1=0
 ·have c1:(g.2.2.1==0)=true:=by simpa using hz
  rw[if_pos hz]at e
  obtain⟨a1,a2,a3,a4,a5,a6⟩:=hgi hz
  have hlen:=congrArg List.length a6
  have hfl:=Bh g.1
  rw[List.length_take]at hlen
  have hgl:g.1.length≤1000000:=by omega
  have hnl:(g.1.length:Int)+5≤g.2.1:=by omega
  have hok:Av (RS.new g.1):=Av.new a2 (by omega)
  obtain⟨q1,q2⟩:=RS.ok.byte_ hok
  have qf:=(Fa.new g.1).byte hok
  have w1:IntKind.i64.wrap (g.2.1-4)=g.2.1-4:=IntWalk.i64_in _ (by omega)
  have w2:IntKind.i64.wrap (g.2.1-4-g.1.length)=g.2.1-4-g.1.length:=IntWalk.i64_in _ (by omega)
  have ek:Cg 2 g.1=if(RS.new g.1).byte.2=2 then(RS.new g.1).byte.1 else(RS.new g.1).byte.1.fail 7 0:=rfl
  obtain⟨q,hq⟩:∃q,(RS.new g.1).byte.1=q:=⟨_,rfl⟩
  obtain⟨y,hy⟩:∃y,(RS.new g.1).byte.2=y:=⟨_,rfl⟩
  rw[hq,hy]at ek
  rw[hq]at q1 q2 qf
  obtain⟨K,hK⟩:∃K,Cg 2 g.1=K:=⟨_,rfl⟩
  rw[hK]at e ek
  have hnew:(RS.new g.1).l.length≤1000000:=hgl
  have K1:Av K∧K.l.length≤1000000∧Fa K:=by
   rw[ek]
   split
   ·exact⟨q1,by rw[q2];exact hnew,qf⟩
   ·exact⟨q1.fail _ _,by rw[Bl,q2];exact hnew,qf.fail (Int.le_refl _) (by omega)⟩
  obtain⟨k1,k2⟩:=L7 K1.1
  have hfa:=(K1.2.2.marks K1.1).rest9 k1
  obtain⟨r1,r2⟩:=CZ k1
  have hct:=Jm K 2 K1.1 (by have:=K1.2.1;omega)
  unfold Fa at hfa
  rw[r2,k2]at hfa
  obtain⟨D,hD⟩:∃D,(RS.marks) K=D:=⟨_,rfl⟩
  try simp only[]at hD e
  rw[hD]at hct k1 hfa e
  have w3:IntKind.i64.wrap (D.1.rest9.fat+(g.2.1-4-g.1.length))=D.1.rest9.fat+(g.2.1-4-g.1.length):=IntWalk.i64_in _ (by have:=K1.2.1;omega)
  refine (mq c1 ?_).1
  refine Aa.n (Ce g.1) (mp ?_).1
  refine Aa.u1 (CI (RS.new g.1) 2 hok.ok) rfl (mr hq hy ?_).1
  by_cases hyk:y=2
  ·rw[if_pos hyk]at ek
   have c2:(y != 2)=false:=by simpa using hyk
   subst ek
   refine (mq c2 ?_).1
   refine Aa.u1 (hct) rfl (mp ?_).1
   refine Aa.u1 (BL D.1 2 k1) rfl (mp ?_).1
   refine Aa.r1 (A3 D.1.rest9 2) rfl ?_
   refine (ms @Ab w1 w2 ?_).1
   refine Aa.p (Bi D.1.rest9.code D.1.rest9.fat (g.2.1-4-g.1.length) _ w3) (mp ?_).1
   by_cases hr:D.1.rest9.code=0
   ·rw[if_pos hr]at e
    have c3:BW D.1.rest9.code (D.1.rest9.fat+(g.2.1-4-g.1.length))=(0,0):=by unfold BW;rw[if_pos hr]
    simp only[go_sem,seval,c3];refine (mok ?_).1
    refine Aa.p (Aw 0 0) (mp ?_).1
    exact FE b70 [] e
   ·rw[if_neg hr]at e
    have c3:BW D.1.rest9.code (D.1.rest9.fat+(g.2.1-4-g.1.length))=(D.1.rest9.code,D.1.rest9.fat+(g.2.1-4-g.1.length)):=by unfold BW;rw[if_neg hr]
    have c4:(D.1.rest9.code==0)=false:=by simpa using hr
    simp only[go_sem,seval,c3];refine (mok ?_).1
    refine Aa.p (Aw D.1.rest9.code _) (mq c4 ?_).1
    (refine AF.nilk 6 3 rfl ?_;simp only[List.set_cons_zero,List.set_cons_succ]);(refine AF.untag 6 rfl ?_;simp only[Au,List.set_cons_zero,List.set_cons_succ])
    (refine FB b70 [] ?_ ?_<;>first|with_reducible rfl|(simp[Ae,Ah,Ai,Ag,e,HG];done)|rfl)
  ·rw[if_neg hyk]at ek
   have c2:(y != 2)=true:=by simpa using hyk
   refine (mq c2 ?_).1
   refine Aa.u1 (Ar q 7 0 2) rfl ?_;simp only[go_sem,seval,←ek];refine (mok ?_).1
   refine Aa.u1 (hct) rfl (mp ?_).1
   refine Aa.u1 (BL D.1 2 k1) rfl (mp ?_).1
   refine Aa.r1 (A3 D.1.rest9 2) rfl ?_
   refine (ms @Ab w1 w2 ?_).1
   refine Aa.p (Bi D.1.rest9.code D.1.rest9.fat (g.2.1-4-g.1.length) _ w3) (mp ?_).1
   by_cases hr:D.1.rest9.code=0
   ·rw[if_pos hr]at e
    have c3:BW D.1.rest9.code (D.1.rest9.fat+(g.2.1-4-g.1.length))=(0,0):=by unfold BW;rw[if_pos hr]
    simp only[go_sem,seval,c3];refine (mok ?_).1
    refine Aa.p (Aw 0 0) (mp ?_).1
    exact FE b70 [] e
   ·rw[if_neg hr]at e
    have c3:BW D.1.rest9.code (D.1.rest9.fat+(g.2.1-4-g.1.length))=(D.1.rest9.code,D.1.rest9.fat+(g.2.1-4-g.1.length)):=by unfold BW;rw[if_neg hr]
    have c4:(D.1.rest9.code==0)=false:=by simpa using hr
    simp only[go_sem,seval,c3];refine (mok ?_).1
    refine Aa.p (Aw D.1.rest9.code _) (mq c4 ?_).1
    (refine AF.nilk 6 3 rfl ?_;simp only[List.set_cons_zero,List.set_cons_succ]);(refine AF.untag 6 rfl ?_;simp only[Au,List.set_cons_zero,List.set_cons_succ])
    (refine FB b70 [] ?_ ?_<;>first|with_reducible rfl|(simp[Ae,Ah,Ai,Ag,e,HG];done)|rfl)
 ·have c1:(g.2.2.1==0)=false:=by simpa using hz
  rw[if_neg hz]at e
  refine (mq c1 ?_).1
  (refine AF.nilk 6 3 rfl ?_;simp only[List.set_cons_zero,List.set_cons_succ]);(refine AF.untag 6 rfl ?_;simp only[Au,List.set_cons_zero,List.set_cons_succ])
  (refine FB b70 [] ?_ ?_<;>first|with_reducible rfl|(simp[Ae,Ah,Ai,Ag,e,HG];done)|rfl)
theorem OL (s:List Int) (hb:AY s) (hn:s.length≤1000000):Ct Tryz.prog 70 [A9 .u8 s,O0 2,.fn 71 [] []] [] (λ_=>.tup [Fv (Bp RS.marks [] 2 s).1,iA (Bp RS.marks [] 2 s).2.1,B9 (Bp RS.marks [] 2 s).2.2]) [] (λ_=>[]):=(NF s hb hn).toCt cl cl
set_option maxRecDepth 100000 in
theorem NG (s:List Int) (hb:AY s) (hn:s.length≤1000000):An Tryz.prog 76 [A9 .u8 s,O0 1,.fn 38 [] []] [] (.tup [Ie (Bp (λq:RS=>q.btch RS.blk) BZ 1 s).1,iA (Bp (λq:RS=>q.btch RS.blk) BZ 1 s).2.1,B9 (Bp (λq:RS=>q.btch RS.blk) BZ 1 s).2.2]) []:=by
 have hgi:=λh=>Ix (b:=s) (m:=2097152) hb (by omega) h
 obtain⟨g,hg⟩:∃g,BA s 2097152=g:=⟨_,rfl⟩
 have e:Bp (λq:RS=>q.btch RS.blk) BZ 1 s=if g.2.2.1=0 then
  (if(((λq:RS=>q.btch RS.blk)) (Cg 1 g.1)).1.rest9.code=0 then((((λq:RS=>q.btch RS.blk)) (Cg 1 g.1)).2,g.2.1,(0,0))
   else(BZ,0,((((λq:RS=>q.btch RS.blk)) (Cg 1 g.1)).1.rest9.code,(((λq:RS=>q.btch RS.blk)) (Cg 1 g.1)).1.rest9.fat+(g.2.1-4-g.1.length))))
  else(BZ,0,g.2.2):=by unfold Bp;rw[hg]
 obtain⟨C,hC⟩:∃C,Bp (λq:RS=>q.btch RS.blk) BZ 1 s=C:=⟨_,rfl⟩
 rw[hC]at e ⊢
 rw[hg]at hgi
 refine RM Tryz.func76 b76 ?_
 refine Aa.p (Fm s 2097152 hb (by omega) (by omega)) (mq hg ?_).1
 refine Aa.p (Aw g.2.2.1 g.2.2.2) (mp ?_).1
 by_cases hz:g.2.2.1=0
 ·have c1:(g.2.2.1==0)=true:=by simpa using hz
  rw[if_pos hz]at e
  obtain⟨a1,a2,a3,a4,a5,a6⟩:=hgi hz
  have hlen:=congrArg List.length a6
  have hfl:=Bh g.1
  rw[List.length_take]at hlen
  have hgl:g.1.length≤1000000:=by omega
  have hnl:(g.1.length:Int)+5≤g.2.1:=by omega
  have hok:Av (RS.new g.1):=Av.new a2 (by omega)
  obtain⟨q1,q2⟩:=RS.ok.byte_ hok
  have qf:=(Fa.new g.1).byte hok
  have w1:IntKind.i64.wrap (g.2.1-4)=g.2.1-4:=IntWalk.i64_in _ (by omega)
  have w2:IntKind.i64.wrap (g.2.1-4-g.1.length)=g.2.1-4-g.1.length:=IntWalk.i64_in _ (by omega)
  have ek:Cg 1 g.1=if(RS.new g.1).byte.2=1 then(RS.new g.1).byte.1 else(RS.new g.1).byte.1.fail 7 0:=rfl
  obtain⟨q,hq⟩:∃q,(RS.new g.1).byte.1=q:=⟨_,rfl⟩
  obtain⟨y,hy⟩:∃y,(RS.new g.1).byte.2=y:=⟨_,rfl⟩
  rw[hq,hy]at ek
  rw[hq]at q1 q2 qf
  obtain⟨K,hK⟩:∃K,Cg 1 g.1=K:=⟨_,rfl⟩
  rw[hK]at e ek
  have hnew:(RS.new g.1).l.length≤1000000:=hgl
  have K1:Av K∧K.l.length≤1000000∧Fa K:=by
   rw[ek]
   split
   ·exact⟨q1,by rw[q2];exact hnew,qf⟩
   ·exact⟨q1.fail _ _,by rw[Bl,q2];exact hnew,qf.fail (Int.le_refl _) (by omega)⟩
  obtain⟨k1,k2⟩:=DG K1.1 λs h=>B_ h
  have hfa:=(K1.2.2.btch K1.1 (λs h=>B_ h) (λs h hf=>hf.blk h)).rest9 k1
  obtain⟨r1,r2⟩:=CZ k1
  have hct:=Hu K 4 K1.1 K1.2.1
  unfold Fa at hfa
  rw[r2,k2]at hfa
  obtain⟨D,hD⟩:∃D,((λq:RS=>q.btch RS.blk)) K=D:=⟨_,rfl⟩
  try simp only[]at hD e
  rw[hD]at hct k1 hfa e
  have w3:IntKind.i64.wrap (D.1.rest9.fat+(g.2.1-4-g.1.length))=D.1.rest9.fat+(g.2.1-4-g.1.length):=IntWalk.i64_in _ (by have:=K1.2.1;omega)
  refine (mq c1 ?_).1
  refine Aa.n (Ce g.1) (mp ?_).1
  refine Aa.u1 (CI (RS.new g.1) 4 hok.ok) rfl (mr hq hy ?_).1
  by_cases hyk:y=1
  ·rw[if_pos hyk]at ek
   have c2:(y != 1)=false:=by simpa using hyk
   subst ek
   refine (mq c2 ?_).1
   refine Aa.u1 (hct) rfl (mp ?_).1
   refine Aa.u1 (BL D.1 4 k1) rfl (mp ?_).1
   refine Aa.r1 (A3 D.1.rest9 4) rfl ?_
   refine (ms @Ab w1 w2 ?_).1
   refine Aa.p (Bi D.1.rest9.code D.1.rest9.fat (g.2.1-4-g.1.length) _ w3) (mp ?_).1
   by_cases hr:D.1.rest9.code=0
   ·rw[if_pos hr]at e
    have c3:BW D.1.rest9.code (D.1.rest9.fat+(g.2.1-4-g.1.length))=(0,0):=by unfold BW;rw[if_pos hr]
    simp only[go_sem,seval,c3];refine (mok ?_).1
    refine Aa.p (Aw 0 0) (mp ?_).1
    exact FE b76 [] e
   ·rw[if_neg hr]at e
    have c3:BW D.1.rest9.code (D.1.rest9.fat+(g.2.1-4-g.1.length))=(D.1.rest9.code,D.1.rest9.fat+(g.2.1-4-g.1.length)):=by unfold BW;rw[if_neg hr]
    have c4:(D.1.rest9.code==0)=false:=by simpa using hr
    simp only[go_sem,seval,c3];refine (mok ?_).1
    refine Aa.p (Aw D.1.rest9.code _) (mq c4 ?_).1
    (refine AF.wao (ys:=[uA 0,uA 0,JN []]) 0 rfl (by repeat(first|exact Wa.refl _|exact Bo.nil|exact Wa.nil|exact Wa.none|refine Bo.cons ?_ ?_|refine Wa.agg ?_|refine Wa.slN ?_|refine Wa.slS ?_|exact Bo.refl _)) ?_;simp only[List.set_cons_zero,List.set_cons_succ])
    (refine FB b76 [] ?_ ?_<;>first|with_reducible rfl|(simp[Ae,Ah,Ai,Ag,e,BZ,IE];done)|rfl)
  ·rw[if_neg hyk]at ek
   have c2:(y != 1)=true:=by simpa using hyk
   refine (mq c2 ?_).1
   refine Aa.u1 (Ar q 7 0 4) rfl ?_;simp only[go_sem,seval,←ek];refine (mok ?_).1
   refine Aa.u1 (hct) rfl (mp ?_).1
   refine Aa.u1 (BL D.1 4 k1) rfl (mp ?_).1
   refine Aa.r1 (A3 D.1.rest9 4) rfl ?_
   refine (ms @Ab w1 w2 ?_).1
   refine Aa.p (Bi D.1.rest9.code D.1.rest9.fat (g.2.1-4-g.1.length) _ w3) (mp ?_).1
   by_cases hr:D.1.rest9.code=0
   ·rw[if_pos hr]at e
    have c3:BW D.1.rest9.code (D.1.rest9.fat+(g.2.1-4-g.1.length))=(0,0):=by unfold BW;rw[if_pos hr]
    simp only[go_sem,seval,c3];refine (mok ?_).1
    refine Aa.p (Aw 0 0) (mp ?_).1
    exact FE b76 [] e
   ·rw[if_neg hr]at e
    have c3:BW D.1.rest9.code (D.1.rest9.fat+(g.2.1-4-g.1.length))=(D.1.rest9.code,D.1.rest9.fat+(g.2.1-4-g.1.length)):=by unfold BW;rw[if_neg hr]
    have c4:(D.1.rest9.code==0)=false:=by simpa using hr
    simp only[go_sem,seval,c3];refine (mok ?_).1
    refine Aa.p (Aw D.1.rest9.code _) (mq c4 ?_).1
    (refine AF.wao (ys:=[uA 0,uA 0,JN []]) 0 rfl (by repeat(first|exact Wa.refl _|exact Bo.nil|exact Wa.nil|exact Wa.none|refine Bo.cons ?_ ?_|refine Wa.agg ?_|refine Wa.slN ?_|refine Wa.slS ?_|exact Bo.refl _)) ?_;simp only[List.set_cons_zero,List.set_cons_succ])
    (refine FB b76 [] ?_ ?_<;>first|with_reducible rfl|(simp[Ae,Ah,Ai,Ag,e,BZ,IE];done)|rfl)
 ·have c1:(g.2.2.1==0)=false:=by simpa using hz
  rw[if_neg hz]at e
  refine (mq c1 ?_).1
  (refine AF.wao (ys:=[uA 0,uA 0,JN []]) 0 rfl (by repeat(first|exact Wa.refl _|exact Bo.nil|exact Wa.nil|exact Wa.none|refine Bo.cons ?_ ?_|refine Wa.agg ?_|refine Wa.slN ?_|refine Wa.slS ?_|exact Bo.refl _)) ?_;simp only[List.set_cons_zero,List.set_cons_succ])
  (refine FB b76 [] ?_ ?_<;>first|with_reducible rfl|(simp[Ae,Ah,Ai,Ag,e,BZ,IE];done)|rfl)
theorem OM (s:List Int) (hb:AY s) (hn:s.length≤1000000):Ct Tryz.prog 76 [A9 .u8 s,O0 1,.fn 38 [] []] [] (λ_=>.tup [Ie (Bp (λq:RS=>q.btch RS.blk) BZ 1 s).1,iA (Bp (λq:RS=>q.btch RS.blk) BZ 1 s).2.1,B9 (Bp (λq:RS=>q.btch RS.blk) BZ 1 s).2.2]) [] (λ_=>[]):=(NG s hb hn).toCt cl cl
theorem Ys (l:List Mk):HA l=Ed l:=rfl
theorem Qx (f:Ft) (l:List Mk) (hl:U_ l) (hn:l.length≤1000000):An Tryz.prog 72 [U9 f,Fv l] [] (bA (Fr f l)) []:=by
 obtain⟨X,hX⟩:∃X,(if AZ l=true then DK l l.length else 0)=X:=⟨_,rfl⟩
 have e:Fr f l=(decide (f.bat=l.length)&&(decide (f.ent=X)&&(decide (f.fst=(Ed l).1)&&decide (f.fin=(Ed l).2)))):=by unfold Fr;rw[hX]
 have hE:=Gf l hl (by omega)
 rw[hX]at hE
 have hN:=Jn l hl (by omega)
 rw[Ys]at hN
 obtain⟨V,hV⟩:∃V,Ed l=V:=⟨_,rfl⟩
 rw[hV]at hN e
 refine RM Tryz.func72 b72 ?_
 refine Aa.p (hN) (mp ?_).1
 by_cases h1:f.bat=l.length
 ·have c1:(f.bat==(l.length:Int))=true:=by simpa using h1
  refine (mr @Ap c1 ?_).1
  refine Aa.p (hE) (mp ?_).1
  by_cases h2:f.ent=X
  ·have c2:(f.ent==X)=true:=by simpa using h2
   by_cases h3:f.fst=V.1
   ·have c3:(f.fst==V.1)=true:=by simpa using h3
    by_cases h4:f.fin=V.2
    ·have c4:(f.fin==V.2)=true:=by simpa using h4
     have e':Fr f l=true:=by rw[e];simp[h1,h2,h3,h4]
     simp only[go_sem,seval,c2,c3,c4];refine (mok ?_).1
     exact FE b72 [] e'
    ·have c4:(f.fin==V.2)=false:=by simpa using h4
     have e':Fr f l=false:=by rw[e];simp[h4]
     simp only[go_sem,seval,c2,c3,c4];refine (mok ?_).1
     exact FE b72 [] e'
   ·have c3:(f.fst==V.1)=false:=by simpa using h3
    have e':Fr f l=false:=by rw[e];simp[h3]
    simp only[go_sem,seval,c2,c3];refine (mok ?_).1
    exact FE b72 [] e'
  ·have c2:(f.ent==X)=false:=by simpa using h2
   have e':Fr f l=false:=by rw[e];simp[h2]
   refine (mq c2 ?_).1
   exact FE b72 [] e'
 ·have c1:(f.bat==(l.length:Int))=false:=by simpa using h1
  have e':Fr f l=false:=by rw[e];simp[h1]
  refine (mr @Ap c1 ?_).1
  exact FE b72 [] e'
theorem Tm (f:Ft) (l:List Mk) (hl:U_ l) (hn:l.length≤1000000):Ct Tryz.prog 72 [U9 f,Fv l] [] (λ_=>bA (Fr f l)) [] (λ_=>[]):=(Qx f l hl hn).toCt cl cl
abbrev plA (p:Ft×Int×List Mk):AV:=.agg [uA p.1.ep,iA p.1.bat,iA p.1.ent,uA p.1.fst,uA p.1.fin,iA p.1.at_,iA p.1.size,iA p.2.1,Fv p.2.2]
set_option maxRecDepth 100000 in
theorem Qy (s:List Int) (hb:AY s) (hn:s.length≤1000000):An Tryz.prog 30 [A9 .u8 s] [] (.tup [plA (Dh s).1,B9 (Dh s).2]) []:=by
 have hfi:=λh=>Q9 hb (by omega) h
 have hff:=TX s hb (by omega)
 obtain⟨F,hF⟩:∃F,AX s=F:=⟨_,rfl⟩
 have hif:J6 s F.1=if(Jo s F.1).2.2.1=0 then(if(Jo s F.1).2.1<F.1.size then(9,(Jo s F.1).2.1)else if Fr F.1 (Jo s F.1).1=false then(12,0)else(0,0))else(Jo s F.1).2.2:=rfl
 obtain⟨R,hR⟩:∃R,Dh s=R:=⟨_,rfl⟩
 have e:Dh s=if F.2.2.1=0 then
  (if F.2.1<F.1.at_+F.1.size then((JH,0,[]),(3,F.2.1))
   else if(J6 s F.1).1=0 then((F.1,F.2.1,(Jo s F.1).1),(0,0))
   else((JH,0,[]),((J6 s F.1).1,(J6 s F.1).2+F.1.at_)))
  else((JH,0,[]),F.2.2):=by unfold Dh;rw[hF]
 rw[hR]at e ⊢
 rw[hF]at hfi hff
 refine RM Tryz.func30 b30 ?_
 refine Aa.p (hff) (mp ?_).1
 refine Aa.p (Aw F.2.2.1 F.2.2.2) (mp ?_).1
 by_cases hz:F.2.2.1=0
 ·have c1:(F.2.2.1==0)=true:=by simpa using hz
  rw[if_pos hz]at e
  obtain⟨b1,b2,b3,b4,b5,b6⟩:=hfi hz
  obtain⟨_,⟨a0,a1⟩,z0,z1⟩:=(D7 b3 b2).2.2
  have w1:IntKind.i64.wrap (F.1.at_+F.1.size)=F.1.at_+F.1.size:=IntWalk.i64_in _ (by omega)
  refine (mr c1 w1 ?_).1
  by_cases h2:F.2.1<F.1.at_+F.1.size
  ·have c2:decide (F.2.1<F.1.at_+F.1.size)=true:=by simpa using h2
   rw[if_pos h2]at e
   have c3:BW 3 F.2.1=(3,F.2.1):=rfl
   refine (mq c2 ?_).1
   refine Aa.p (BQ 3 F.2.1) ?_;simp only[go_sem,seval,c3];refine (mok ?_).1
   (refine AF.wao (ys:=[uA 0,iA 0,iA 0,uA 0,uA 0,iA 0,iA 0,iA 0,Fv []]) 0 rfl (by repeat(first|exact Wa.refl _|exact Bo.nil|exact Wa.nil|exact Wa.none|refine Bo.cons ?_ ?_|refine Wa.agg ?_|refine Wa.slN ?_|refine Wa.slS ?_|exact Bo.refl _)) ?_;simp only[List.set_cons_zero,List.set_cons_succ])
   (refine FB b30 [] ?_ ?_<;>first|with_reducible rfl|(simp[Ae,Ah,Ai,Ag,e,JH,HG];done)|rfl)
  ·have c2:decide (F.2.1<F.1.at_+F.1.size)=false:=by simpa using h2
   rw[if_neg h2]at e
   have hbm:=J1 hb F.1.at_ (F.1.at_+F.1.size)
   have hml:=J0 s F.1.at_ (F.1.at_+F.1.size)
   obtain⟨x1,x2,x3,x4,x5,x6⟩:=Nk hbm (by omega)
   have hct:=OL (KF s F.1.at_ (F.1.at_+F.1.size)) hbm (by omega)
   obtain⟨X,hX⟩:∃X,Jo s F.1=X:=⟨_,rfl⟩
   rw[hX]at hif e
   rw[show Bp RS.marks [] 2 (KF s F.1.at_ (F.1.at_+F.1.size))=X from hX]at x1 x2 x3 x4 x5 x6 hct
   have x0:=(Bc.1 x1).2
   obtain⟨f,hf⟩:∃f,J6 s F.1=f:=⟨_,rfl⟩
   rw[hf]at hif e
   refine (mq c2 ?_).1
   (repeat((with_reducible refine And.intro ?_ ?_);(·first|exact sd|(simp[Ab,A8,AV.parts,Ab];done)|(simp[Ab,A8,AV.parts,Ab];omega))))
   refine (mr @Cb @DD ?_).1
   refine Aa.p (hct) (mp ?_).1
   refine Aa.p (Aw X.2.2.1 X.2.2.2) ?_
   by_cases hx:X.2.2.1=0
   ·have c3:(X.2.2.1==0)=true:=by simpa using hx
    rw[if_pos hx]at hif
    simp only[go_sem,seval,c3];refine (mok ?_).1
    by_cases hs:X.2.1<F.1.size
    ·have c4:decide (X.2.1<F.1.size)=true:=by simpa using hs
     rw[if_pos hs]at hif
     have c5:((9:Int)==0)=false:=rfl
     have c7:BW 9 X.2.1=(9,X.2.1):=rfl
     refine (mq c4 ?_).1
     refine Aa.p (BQ 9 X.2.1) (mq c7 ?_).1
     have w3:IntKind.i64.wrap (X.2.1+F.1.at_)=X.2.1+F.1.at_:=IntWalk.i64_in _ (by omega)
     rw[hif]at e
     rw[if_neg (by simpa using c5)]at e
     have c6:BW 9 (X.2.1+F.1.at_)=(9,X.2.1+F.1.at_):=by unfold BW;rw[if_neg (by simpa using c5)]
     refine Aa.p (Aw 9 (X.2.1)) (mq c5 ?_).1
     refine Aa.p (Bi 9 (X.2.1) F.1.at_ _ w3) ?_;simp only[go_sem,seval,c6];refine (mok ?_).1
     (refine AF.wao (ys:=[uA 0,iA 0,iA 0,uA 0,uA 0,iA 0,iA 0,iA 0,Fv []]) 0 rfl (by repeat(first|exact Wa.refl _|exact Bo.nil|exact Wa.nil|exact Wa.none|refine Bo.cons ?_ ?_|refine Wa.agg ?_|refine Wa.slN ?_|refine Wa.slS ?_|exact Bo.refl _)) ?_;simp only[List.set_cons_zero,List.set_cons_succ])
     (refine FB b30 [] ?_ ?_<;>first|with_reducible rfl|(simp[Ae,Ah,Ai,Ag,e,JH,HG];done)|rfl)
    ·have c4:decide (X.2.1<F.1.size)=false:=by simpa using hs
     rw[if_neg hs]at hif
     have ht:=Tm F.1 X.1 (Fk x1) (by omega)
     refine (mq c4 ?_).1
     refine Aa.p (ht) ?_
     cases hto:Fr F.1 X.1 with
     |false=>
      rw[hto,if_pos rfl]at hif
      have c5:((12:Int)==0)=false:=rfl
      have c7:BW 12 0=(12,0):=rfl
      refine (mp ?_).1
      refine Aa.p (BQ 12 0) (mq c7 ?_).1
      have w3:IntKind.i64.wrap (0+F.1.at_)=0+F.1.at_:=IntWalk.i64_in _ (by omega)
      rw[hif]at e
      rw[if_neg (by simpa using c5)]at e
      have c6:BW 12 (0+F.1.at_)=(12,0+F.1.at_):=by unfold BW;rw[if_neg (by simpa using c5)]
      refine Aa.p (Aw 12 (0)) (mq c5 ?_).1
      refine Aa.p (Bi 12 (0) F.1.at_ _ w3) ?_;simp only[go_sem,seval,c6];refine (mok ?_).1
      (refine AF.wao (ys:=[uA 0,iA 0,iA 0,uA 0,uA 0,iA 0,iA 0,iA 0,Fv []]) 0 rfl (by repeat(first|exact Wa.refl _|exact Bo.nil|exact Wa.nil|exact Wa.none|refine Bo.cons ?_ ?_|refine Wa.agg ?_|refine Wa.slN ?_|refine Wa.slS ?_|exact Bo.refl _)) ?_;simp only[List.set_cons_zero,List.set_cons_succ])
      (refine FB b30 [] ?_ ?_<;>first|with_reducible rfl|(simp[Ae,Ah,Ai,Ag,e,JH,HG];done)|rfl)
     |true=>
      rw[hto,if_neg (by decide)]at hif
      rw[hif,if_pos rfl]at e
      have c6:=x6 hx
      refine (mp ?_).1
      refine Aa.p (Aw X.2.2.1 X.2.2.2) ?_;simp only[go_sem,seval,c3];refine (mok ?_).1
      exact FE b30 [] e
   ·have c5:(X.2.2.1==0)=false:=by simpa using hx
    rw[if_neg hx]at hif
    refine (mq c5 ?_).1
    have w3:IntKind.i64.wrap (X.2.2.2+F.1.at_)=X.2.2.2+F.1.at_:=IntWalk.i64_in _ (by omega)
    rw[hif]at e
    rw[if_neg (by simpa using c5)]at e
    have c6:BW X.2.2.1 (X.2.2.2+F.1.at_)=(X.2.2.1,X.2.2.2+F.1.at_):=by unfold BW;rw[if_neg (by simpa using c5)]
    refine Aa.p (Aw X.2.2.1 (X.2.2.2)) (mq c5 ?_).1
    refine Aa.p (Bi X.2.2.1 (X.2.2.2) F.1.at_ _ w3) ?_;simp only[go_sem,seval,c6];refine (mok ?_).1
    (refine AF.wao (ys:=[uA 0,iA 0,iA 0,uA 0,uA 0,iA 0,iA 0,iA 0,Fv []]) 0 rfl (by repeat(first|exact Wa.refl _|exact Bo.nil|exact Wa.nil|exact Wa.none|refine Bo.cons ?_ ?_|refine Wa.agg ?_|refine Wa.slN ?_|refine Wa.slS ?_|exact Bo.refl _)) ?_;simp only[List.set_cons_zero,List.set_cons_succ])
    (refine FB b30 [] ?_ ?_<;>first|with_reducible rfl|(simp[Ae,Ah,Ai,Ag,e,JH,HG];done)|rfl)
 ·have c1:(F.2.2.1==0)=false:=by simpa using hz
  rw[if_neg hz]at e
  refine (mq c1 ?_).1
  (refine AF.wao (ys:=[uA 0,iA 0,iA 0,uA 0,uA 0,iA 0,iA 0,iA 0,Fv []]) 0 rfl (by repeat(first|exact Wa.refl _|exact Bo.nil|exact Wa.nil|exact Wa.none|refine Bo.cons ?_ ?_|refine Wa.agg ?_|refine Wa.slN ?_|refine Wa.slS ?_|exact Bo.refl _)) ?_;simp only[List.set_cons_zero,List.set_cons_succ])
  (refine FB b30 [] ?_ ?_<;>first|with_reducible rfl|(simp[Ae,Ah,Ai,Ag,e,JH,HG];done)|rfl)
theorem Lg (s:List Int) (hb:AY s) (hn:s.length≤1000000):Ct Tryz.prog 30 [A9 .u8 s] [] (λ_=>.tup [plA (Dh s).1,B9 (Dh s).2]) [] (λ_=>[]):=(Qy s hb hn).toCt cl cl
theorem Oi (s:List Int) (hb:AY s) (hn:s.length≤1000000):An Tryz.prog 12 [A9 .u8 s] [] (.tup [Fv (Dh s).1.2.2,B9 (Dh s).2]) []:=by
 obtain⟨L,hL⟩:∃L,Dh s=L:=⟨_,rfl⟩
 have h:=Lg s hb hn
 rw[hL]at h ⊢
 refine RM Tryz.func12 b12 ?_
 refine Aa.p (h) (mp ?_).1
 exact FA b12 []
theorem J3 (s:List Int) (hb:AY s) (hn:s.length≤1000000):Ct Tryz.prog 12 [A9 .u8 s] [] (λ_=>.tup [Fv (Dh s).1.2.2,B9 (Dh s).2]) [] (λ_=>[]):=(Oi s hb hn).toCt cl cl
section
open Go.RowKit Go.Lib
end
section
open Go.RowKit Go.Lib
end
theorem Rl (e:En) (hm:D6 e.lk) (hd:e.data.length≤2000000):An Tryz.prog 79 [Mb e] [] (Mb e) []:=by
 refine RM Tryz.func79 b79 ?_
 (repeat((with_reducible refine And.intro ?_ ?_);(·exact sd)))
 refine Aa.p (Po e.lk hm.1 hm.2) (mq @Ab ?_).1
 (repeat((with_reducible refine And.intro ?_ ?_);(·exact sd)))
 (refine AF.unobj 1 rfl ?_;simp only[List.set_cons_zero,List.set_cons_succ,List.map_cons,List.map_nil,Mi,Au])
 exact FA b79 []
theorem Ul (e:En) (hm:D6 e.lk) (hd:e.data.length≤2000000):Ct Tryz.prog 79 [Mb e] [] (λ_=>Mb e) [] (λ_=>[]):=(Rl e hm hd).toCt cl cl
set_option maxRecDepth 100000 in
theorem LQ (s:List Int) (m:Mk) (x:Int) (hb:AY s) (hn:s.length≤1000000) (hm:1≤m.at_∧m.at_≤1099511627775) (hx:0≤x∧x≤s.length):An Tryz.prog 34 [A9 .u8 s,Wb m,iA x] [] (.tup [Ie (Fh s m x).1,B9 (Fh s m x).2]) []:=by
 obtain⟨R,hR⟩:∃R,Fh s m x=R:=⟨_,rfl⟩
 have e:Fh s m x=if x≤m.at_ then(BZ,(3,m.at_))else((GX s m x).1,BW (NL s m x).1 ((NL s m x).2+m.at_)):=rfl
 rw[hR]at e ⊢
 refine RM Tryz.func34 b34 ?_
 by_cases h1:x≤m.at_
 ·have c1:decide (x≤m.at_)=true:=by simpa using h1
  rw[if_pos h1]at e
  have c3:BW 3 m.at_=(3,m.at_):=rfl
  refine (mq c1 ?_).1
  refine Aa.p (BQ 3 m.at_) ?_;simp only[go_sem,seval,c3];refine (mok ?_).1
  (refine AF.wao (ys:=[uA 0,uA 0,JN []]) 1 rfl (by repeat(first|exact Wa.refl _|exact Bo.nil|exact Wa.nil|exact Wa.none|refine Bo.cons ?_ ?_|refine Wa.agg ?_|refine Wa.slN ?_|refine Wa.slS ?_|exact Bo.refl _)) ?_;simp only[List.set_cons_zero,List.set_cons_succ])
  (refine FB b34 [] ?_ ?_<;>first|with_reducible rfl|(simp[Ae,Ah,Ai,Ag,e,BZ,IE];done)|rfl)
 ·have c1:decide (x≤m.at_)=false:=by simpa using h1
  rw[if_neg h1]at e
  have hbm:=J1 hb m.at_ x
  have hml:=J0 s m.at_ x
  obtain⟨x1,x2,x3,x4,x5,x6⟩:=NR hbm (by omega)
  have hct:=OM (KF s m.at_ x) hbm (by omega)
  have hif:NL s m x=if(GX s m x).2.2.1=0 then(if(GX s m x).1.base=m.pos∧((GX s m x).1.en.length:Int)=m.cnt then(0,0)else(12,0))else(GX s m x).2.2:=rfl
  obtain⟨X,hX⟩:∃X,GX s m x=X:=⟨_,rfl⟩
  rw[hX]at hif e
  rw[show Bp (λq=>q.btch RS.blk) BZ 1 (KF s m.at_ x)=X from hX]at x1 x2 x3 x4 x5 x6 hct
  have hlen:=x1.len
  have w3:IntKind.i64.wrap (X.2.2.2+m.at_)=X.2.2.2+m.at_:=IntWalk.i64_in _ (by omega)
  have w4:IntKind.i64.wrap (0+m.at_)=0+m.at_:=IntWalk.i64_in _ (by omega)
  refine (mq c1 ?_).1
  (repeat((with_reducible refine And.intro ?_ ?_);(·first|exact sd|(simp[Ab,A8,AV.parts,Ab];done)|(simp[Ab,A8,AV.parts,Ab];omega))))
  refine (mr @Cb @DD ?_).1
  refine Aa.p (hct) (mp ?_).1
  refine Aa.p (Aw X.2.2.1 X.2.2.2) (mp ?_).1
  by_cases hz:X.2.2.1=0
  ·have c2:(X.2.2.1==0)=true:=by simpa using hz
   have c6:=x6 hz
   rw[if_pos hz]at hif
   by_cases hp:X.1.base=m.pos
   ·have c3:(X.1.base != m.pos)=false:=by simpa using hp
    by_cases hl:(X.1.en.length:Int)=m.cnt
    ·have c4:((X.1.en.length:Int) != m.cnt)=false:=by simpa using hl
     rw[if_pos ⟨hp,hl⟩]at hif
     have c7:BW 0 (0+m.at_)=(0,0):=rfl
     rw[hif]at e
     simp only[c7]at e
     have c8:BW X.2.2.1 (X.2.2.2+m.at_)=(0,0):=by unfold BW;rw[if_pos hz]
     simp only[go_sem,seval,c2,c3,c4,AA];refine (mok ?_).1
     refine Aa.p (Bi X.2.2.1 X.2.2.2 m.at_ _ w3) ?_;simp only[go_sem,seval,c8];refine (mok ?_).1
     exact FE b34 [] e
    ·have c4:((X.1.en.length:Int) != m.cnt)=true:=by simpa using hl
     rw[if_neg (λh=>hl h.2)]at hif
     rw[hif]at e
     have c7:BW 12 0=(12,0):=rfl
     simp only[go_sem,seval,c2,c3,c4,AA];refine (mok ?_).1
     refine Aa.p (BQ 12 0) (mq c7 ?_).1
     refine Aa.p (Bi 12 0 m.at_ _ w4) (mp ?_).1
     exact FE b34 [] e
   ·have c3:(X.1.base != m.pos)=true:=by simpa using hp
    rw[if_neg (λh=>hp h.1)]at hif
    rw[hif]at e
    have c7:BW 12 0=(12,0):=rfl
    simp only[go_sem,seval,c2,c3];refine (mok ?_).1
    refine Aa.p (BQ 12 0) (mq c7 ?_).1
    refine Aa.p (Bi 12 0 m.at_ _ w4) (mp ?_).1
    exact FE b34 [] e
  ·have c2:(X.2.2.1==0)=false:=by simpa using hz
   rw[if_neg hz]at hif
   rw[hif]at e
   refine (mq c2 ?_).1
   refine Aa.p (Bi X.2.2.1 X.2.2.2 m.at_ _ w3) (mp ?_).1
   exact FE b34 [] e
theorem M4 (s:List Int) (m:Mk) (x:Int) (hb:AY s) (hn:s.length≤1000000) (hm:1≤m.at_∧m.at_≤1099511627775) (hx:0≤x∧x≤s.length):Ct Tryz.prog 34 [A9 .u8 s,Wb m,iA x] [] (λ_=>.tup [Ie (Fh s m x).1,B9 (Fh s m x).2]) [] (λ_=>[]):=(LQ s m x hb hn hm hx).toCt cl cl
theorem MX (b:Bt) (hS:Me b):An Tryz.prog 77 [Ie b] [] (bA true) []:=by
 have h0:=hS.ok.b0
 have h1:=hS.sum
 have h2:=hS.len
 have c1:decide (b.base≤b.base+b.en.length)=true:=by simp only[decide_eq_true_eq];omega
 refine RM Tryz.func77 b77 ?_
 refine Aa.p (KY b (by omega) h0 (by omega)) (mq c1 ?_).1
 exact FA b77 []
theorem Ob (b:Bt) (hS:Me b):Ct Tryz.prog 77 [Ie b] [] (λ_=>bA true) [] (λ_=>[]):=(MX b hS).toCt cl cl
set_option maxRecDepth 100000 in
theorem Aeh (b:Bt) (pos:Int) (hS:Me b) (hp:0≤pos∧pos<18446744073709551616):An Tryz.prog 35 [Ie b,uA pos] [] (.tup [Mb (atP b pos).1,bA (atP b pos).2]) []:=by
 have h0:=hS.ok.b0
 have h1:=hS.sum
 have h2:=hS.len
 obtain⟨R,hR⟩:∃R,atP b pos=R:=⟨_,rfl⟩
 have e:atP b pos=if b.base≤pos∧pos<b.base+b.en.length then(b.en.getD (pos-b.base).toNat DN,true)else(DN,false):=rfl
 rw[hR]at e ⊢
 refine RM Tryz.func35 b35 ?_
 refine Aa.p (Ob b hS) (mp ?_).1
 by_cases ha:pos<b.base
 ·have c1:decide (pos<b.base)=true:=by simpa using ha
  rw[if_neg (by omega)]at e
  refine (mq c1 ?_).1
  (refine AF.wao (ys:=[Gp [],A9 .u8 []]) 1 rfl (by repeat(first|exact Wa.refl _|exact Bo.nil|exact Wa.nil|exact Wa.none|refine Bo.cons ?_ ?_|refine Wa.agg ?_|refine Wa.slN ?_|refine Wa.slS ?_|exact Bo.refl _)) ?_;simp only[List.set_cons_zero,List.set_cons_succ])
  (refine FB b35 [] ?_ ?_<;>first|with_reducible rfl|(simp[Ae,Ah,Ai,Ag,e,DN];done)|rfl)
 ·have c1:decide (pos<b.base)=false:=by simpa using ha
  refine (mq c1 ?_).1
  refine Aa.p (KY b (by omega) h0 (by omega)) (mp ?_).1
  by_cases hc:b.base+b.en.length≤pos
  ·have c2:decide (b.base+b.en.length≤pos)=true:=by simpa using hc
   rw[if_neg (by omega)]at e
   refine (mq c2 ?_).1
   (refine AF.wao (ys:=[Gp [],A9 .u8 []]) 1 rfl (by repeat(first|exact Wa.refl _|exact Bo.nil|exact Wa.nil|exact Wa.none|refine Bo.cons ?_ ?_|refine Wa.agg ?_|refine Wa.slN ?_|refine Wa.slS ?_|exact Bo.refl _)) ?_;simp only[List.set_cons_zero,List.set_cons_succ])
   (refine FB b35 [] ?_ ?_<;>first|with_reducible rfl|(simp[Ae,Ah,Ai,Ag,e,DN];done)|rfl)
  ·have c2:decide (b.base+b.en.length≤pos)=false:=by simpa using hc
   rw[if_pos (by omega)]at e
   obtain⟨k,hk⟩:∃k:Nat,pos-b.base=(k:Int):=⟨(pos-b.base).toNat,by omega⟩
   have hkl:k<b.en.length:=by omega
   have w1:IntKind.u64.wrap (pos-b.base)=(k:Int):=by rw[IntWalk.u64_in _ (by omega)];omega
   have hmem:b.en.getD k DN∈b.en:=by simp[hkl]
   obtain⟨s1,s2,s3⟩:=hS.small _ hmem
   rw[hk,Int.toNat_natCast]at e
   have hg:=Ff b.en k hkl
   obtain⟨x,hx⟩:∃x,b.en.getD k DN=x:=⟨_,rfl⟩
   rw[hx]at hg s1 s2 s3 e
   have hcp:=Ul x ⟨by omega,λy hy=>by have:=s2 y hy;omega⟩ (by omega)
   simp only[go_sem,seval,c2,w1,AA,Int.toNat_natCast,hg];refine (mok ?_).1
   refine⟨by omega,by omega,?_⟩
   refine Aa.p (hcp) (mp ?_).1
   exact FE b35 [] e
theorem Aju (b:Bt) (pos:Int) (hS:Me b) (hp:0≤pos∧pos<18446744073709551616):Ct Tryz.prog 35 [Ie b,uA pos] [] (λ_=>.tup [Mb (atP b pos).1,bA (atP b pos).2]) [] (λ_=>[]):=(Aeh b pos hS hp).toCt cl cl
theorem Aku (l:List Mk) (pos:Int):H4 l pos=Cc l pos:=rfl
set_option maxRecDepth 100000 in
theorem M5 (s:List Int) (pos:Int) (hb:AY s) (hn:s.length≤1000000) (hp:0≤pos∧pos<18446744073709551616):An Tryz.prog 8 [A9 .u8 s,uA pos] [] (.tup [Mb (C6 s pos).1,B9 (C6 s pos).2]) []:=by
 obtain⟨R,hR⟩:∃R,C6 s pos=R:=⟨_,rfl⟩
 have e:C6 s pos=if(Dh s).2.1=0 then
  (if(Cc (Dh s).1.2.2 pos).2=false then(DN,(16,0))
   else if(Fh s (Cc (Dh s).1.2.2 pos).1 (Dh s).1.1.at_).2.1=0 then((atP (Fh s (Cc (Dh s).1.2.2 pos).1 (Dh s).1.1.at_).1 pos).1,(0,0))
   else(DN,(Fh s (Cc (Dh s).1.2.2 pos).1 (Dh s).1.1.at_).2))
  else(DN,(Dh s).2):=rfl
 have hct:=Lg s hb hn
 have hlf:=λh=>Pn hb hn h
 have hlm:=KI hb hn
 have hat:(Dh s).2.1=0->0≤(Dh s).1.1.at_∧(Dh s).1.1.at_≤s.length:=λh=>by
  obtain⟨f1,f2,f3,f4⟩:=hlf h
  obtain⟨b1,b2,b3,b4,b5,b6⟩:=Q9 hb (by omega) f1
  obtain⟨_,⟨a0,a1⟩,z0,z1⟩:=(D7 b3 b2).2.2
  rw[f4]
  simp only[]
  omega
 rw[hR]at e ⊢
 obtain⟨L,hL⟩:∃L,Dh s=L:=⟨_,rfl⟩
 rw[hL]at e hct hlm hat
 have hfm:=WG L.1.2.2 pos (Fk hlm) (by have:=(Bc.1 hlm).2;omega)
 rw[Aku]at hfm
 have hin:=λh=>T1 (l:=L.1.2.2) (pos:=pos) h
 obtain⟨M,hM⟩:∃M,Cc L.1.2.2 pos=M:=⟨_,rfl⟩
 rw[hM]at e hfm hin
 refine RM Tryz.func8 b8 ?_
 refine Aa.p (hct) (mp ?_).1
 refine Aa.p (Aw L.2.1 L.2.2) (mp ?_).1
 by_cases hz:L.2.1=0
 ·have c1:(L.2.1==0)=true:=by simpa using hz
  rw[if_pos hz]at e
  obtain⟨a0,a1⟩:=hat hz
  refine (mq c1 ?_).1
  refine Aa.p (hfm) (mp ?_).1
  cases hf:M.2 with
  |false=>
   rw[if_pos hf]at e
   have c3:BW 16 0=(16,0):=rfl
   refine (mp ?_).1
   refine Aa.p (BQ 16 0) ?_;simp only[go_sem,seval,c3];refine (mok ?_).1
   (refine AF.wao (ys:=[Gp [],A9 .u8 []]) 0 rfl (by repeat(first|exact Wa.refl _|exact Bo.nil|exact Wa.nil|exact Wa.none|refine Bo.cons ?_ ?_|refine Wa.agg ?_|refine Wa.slN ?_|refine Wa.slS ?_|exact Bo.refl _)) ?_;simp only[List.set_cons_zero,List.set_cons_succ])
   (refine FB b8 [] ?_ ?_<;>first|with_reducible rfl|(simp[Ae,Ah,Ai,Ag,e,DN];done)|rfl)
  |true=>
   rw[if_neg (by rw[hf];decide)]at e
   obtain⟨i1,i2,i3⟩:=hin hf
   have i4:=Gu i1 i2
   have hba:=M4 s M.1 L.1.1.at_ hb hn (by omega) ⟨a0,a1⟩
   have hbS:=XF hb hn M.1 L.1.1.at_
   obtain⟨B,hB⟩:∃B,Fh s M.1 L.1.1.at_=B:=⟨_,rfl⟩
   rw[hB]at hba hbS e
   refine (mp ?_).1
   refine Aa.p (hba) (mp ?_).1
   refine Aa.p (Aw B.2.1 B.2.2) (mp ?_).1
   by_cases hg:B.2.1=0
   ·have c2:(B.2.1==0)=true:=by simpa using hg
    rw[if_pos hg]at e
    refine (mq c2 ?_).1
    refine Aa.p (Aju B.1 pos hbS hp) (mp ?_).1
    exact FE b8 [] e
   ·have c2:(B.2.1==0)=false:=by simpa using hg
    rw[if_neg hg]at e
    refine (mq c2 ?_).1
    (refine AF.wao (ys:=[Gp [],A9 .u8 []]) 0 rfl (by repeat(first|exact Wa.refl _|exact Bo.nil|exact Wa.nil|exact Wa.none|refine Bo.cons ?_ ?_|refine Wa.agg ?_|refine Wa.slN ?_|refine Wa.slS ?_|exact Bo.refl _)) ?_;simp only[List.set_cons_zero,List.set_cons_succ])
    (refine FB b8 [] ?_ ?_<;>first|with_reducible rfl|(simp[Ae,Ah,Ai,Ag,e,DN];done)|rfl)
 ·have c1:(L.2.1==0)=false:=by simpa using hz
  rw[if_neg hz]at e
  refine (mq c1 ?_).1
  (refine AF.wao (ys:=[Gp [],A9 .u8 []]) 0 rfl (by repeat(first|exact Wa.refl _|exact Bo.nil|exact Wa.nil|exact Wa.none|refine Bo.cons ?_ ?_|refine Wa.agg ?_|refine Wa.slN ?_|refine Wa.slS ?_|exact Bo.refl _)) ?_;simp only[List.set_cons_zero,List.set_cons_succ])
  (refine FB b8 [] ?_ ?_<;>first|with_reducible rfl|(simp[Ae,Ah,Ai,Ag,e,DN];done)|rfl)
theorem IR (s:List Int) (pos:Int) (hb:AY s) (hn:s.length≤1000000) (hp:0≤pos∧pos<18446744073709551616):Ct Tryz.prog 8 [A9 .u8 s,uA pos] [] (λ_=>.tup [Mb (C6 s pos).1,B9 (C6 s pos).2]) [] (λ_=>[]):=(M5 s pos hb hn hp).toCt cl cl
def Es (pos:Int) (b:Bt):Bool:=decide (b.base≤pos)&&decide (pos<b.base+b.en.length)
theorem J7 {pos:Int} {b:Bt}:Es pos b=true↔b.base≤pos∧pos<b.base+b.en.length:=by simp[Es]
def OK (l:List Bt) (pos:Int):Int×Int:=if l.findIdx (Es pos)<l.length then((l.findIdx (Es pos):Int),pos-(l.getD (l.findIdx (Es pos)) BZ).base)else(-1,-1)
theorem Ak7 {l:List Bt} {pos:Int} {i:Nat} (hi:i<l.length) (h:Es pos (l.getD i BZ)=true) (hno:∀j,j<i->Es pos (l.getD j BZ)=false):OK l pos=((i:Int),pos-(l.getD i BZ).base):=by
 have e:l.findIdx (Es pos)=i:=by
  rw[List.findIdx_eq hi]
  have hg:l.getD i BZ=l[i]:=by simp[hi]
  refine⟨by rw[←hg];exact h,λj hj=>?_⟩
  have hjl:j<l.length:=by omega
  have hg:l.getD j BZ=l[j]:=by simp[hjl]
  rw[←hg];exact hno j hj
 unfold OK
 rw[e,if_pos hi]
theorem Yr {l:List Bt} {pos:Int} (hno:∀j,j<l.length->Es pos (l.getD j BZ)=false):OK l pos=(-1,-1):=by
 have e:¬l.findIdx (Es pos)<l.length:=by
  intro h
  have:=List.findIdx_getElem (w:=h)
  have hg:l.getD (l.findIdx (Es pos)) BZ=l[l.findIdx (Es pos)]:=by simp[h]
  rw[←hg,hno _ h]at this
  exact absurd this (by decide)
 unfold OK
 rw[if_neg e]
def E7:List Int->Bool
 |a::b::r=>(decide (128≤a)&&decide (3≤b))||E7 (b::r)
 |_=>false
theorem WR {l:List Int} {k:Nat} (h:k+1<l.length):E7 (l.drop k)=((decide (128≤l.getD k 0)&&decide (3≤l.getD (k+1) 0))||E7 (l.drop (k+1))):=by
 have e1:l.drop k=l.getD k 0::l.getD (k+1) 0::l.drop (k+2):=by
  rw[List.drop_eq_getElem_cons (by omega:k<l.length),List.drop_eq_getElem_cons (by omega:k+1<l.length)]
  simp[h,show k<l.length by omega]
 have e2:l.drop (k+1)=l.getD (k+1) 0::l.drop (k+2):=by
  rw[List.drop_eq_getElem_cons (by omega:k+1<l.length)]
  simp[h]
 rw[e1,e2,E7]
theorem Aau {l:List Int} {k:Nat} (h:¬k+1<l.length):E7 (l.drop k)=false:=by
 have hl:(l.drop k).length≤1:=by rw[List.length_drop];omega
 match hd:l.drop k with
 |[]=>rfl
 |[x]=>rfl
 |a::b::r=>rw[hd]at hl;simp at hl
def Js (s:List Int):Nat->Nat->Bool
 |0,_=>false
 |n+1,j=>if j<s.length then
   (if((RS.new (s.drop j)).frame 1500).1.code=0 then
     (if 1<((RS.new (s.drop j)).frame 1500).2.length∧((RS.new (s.drop j)).frame 1500).2.getD 0 0=1∧E7 (((RS.new (s.drop j)).frame 1500).2.drop 1)=true then true
      else Js s n (j+((RS.new (s.drop j)).frame 1500).1.at_.toNat))
    else false)else false
def Jq (s:List Int):Nat->Nat->Bool
 |0,_=>false
 |n+1,i=>if i<s.length∧i<40 then(if Js s (s.length+1) i=true then true else Jq s n (i+1))else false
def Jp (s:List Int):Bool:=Jq s 41 0
def Jr (s:List Int):List Mk->Bool
 |[]=>false
 |m::l=>if m.at_<s.length∧Jp (s.drop m.at_.toNat)=true then true else Jr s l
def QS (s:List Int):Bool:=if(Dh s).2.1=0∧Jr s (Dh s).1.2.2=true then true else Jp s
theorem Aay {s:RS} (h:Av s) {m:Int} (hc:(s.frame m).1.code=0):s.at_+5≤(s.frame m).1.at_:=by
 have h1:=Pz h hc
 have h2:=QN h (m:=Ch m) h1.1
 have h3:=(Jl h h1.1).2.1
 omega
set_option maxRecDepth 100000 in
theorem Ql (g:Gj) (pos:Int) (hn:g.bt.length≤1000000) (hS:∀b∈g.bt,Me b):An Tryz.prog 10 [JP g,uA pos] [] (.tup [iA (OK g.bt pos).1,iA (OK g.bt pos).2]) []:=by
 refine RM Tryz.func10 b10 ?_
 refine AM (α:=Nat) (λi=>[.any,uA pos,.ref 0 0,.any,iA 0,iA 0,iA i,.any,.any,.any,.any,.any,.any,.any,.any,.any,.any,.any,.any,.any,.any,.any,.any,.any,.any,.any,.any,.any,.any,.any,.any,.any,.any,.any,.any,.any,.any,.any,.any]) (λ_=>[Vt g]) (λi=>i≤g.bt.length∧∀j,j<i->Es pos (g.bt.getD j BZ)=false) (λi=>g.bt.length-i) 0 ⟨by simp,λj h=>by omega⟩ (Wk.to (by simp) (by simp[Ca])) ?_
 rintro i ⟨hi,hno⟩
 refine (mq @AG ?_).1
 by_cases hlt:i<g.bt.length
 ·have q1:decide ((i:Int)<(g.bt.length:Int))=true:=decide_eq_true (by omega)
  have ei:=AJ i (by omega)
  have hg:=Km g.bt i hlt
  have hmem:g.bt.getD i BZ∈g.bt:=by simp[hlt]
  have hSb:=hS _ hmem
  have hat:=λh=>Ak7 (pos:=pos) hlt h hno
  have hnx:Es pos (g.bt.getD i BZ)=false->∀j,j<i+1->Es pos (g.bt.getD j BZ)=false:=λh j hj=>by
   rcases Nat.lt_or_ge j i with h1|h1
   ·exact hno j h1
   ·obtain rfl:j=i:=by omega
    exact h
  obtain⟨b,hb⟩:∃b,g.bt.getD i BZ=b:=⟨_,rfl⟩
  rw[hb]at hg hSb hat hnx
  have h0:=hSb.ok.b0
  have h1:=hSb.sum
  have h2:=hSb.len
  refine (mq q1 ?_).1
  refine AM (α:=Nat) (λk=>[.any,uA pos,.ref 0 0,.any,iA 0,iA 0,iA i,iA k,.any,.any,.any,.any,.any,.any,.any,.any,.any,.any,.any,.any,.any,.any,.any,.any,.any,.any,.any,.any,.any,.any,.any,.any,.any,.any,.any,.any,.any,.any,.any]) (λ_=>[Vt g]) (λk=>k≤b.en.length∧∀j:Nat,j<k->¬b.base+j=pos) (λk=>b.en.length-k) 0 ⟨by simp,λj h=>by omega⟩ (Wk.to (by simp) (by simp[Ca])) ?_
  rintro k ⟨hk,hnk⟩
  refine (ms @AG @Int.toNat_natCast hg ?_).1
  refine⟨by omega,by omega,?_⟩
  refine (mq @AA ?_).1
  by_cases hkl:k<b.en.length
  ·have q2:decide ((k:Int)<(b.en.length:Int))=true:=decide_eq_true (by omega)
   have ek:=AJ k (by omega)
   have w1:IntKind.u64.wrap (k:Int)=(k:Int):=IntWalk.u64_in _ (by omega)
   have w2:IntKind.u64.wrap (b.base+(k:Int))=b.base+(k:Int):=IntWalk.u64_in _ (by omega)
   refine (mt q2 @AG @Int.toNat_natCast hg ?_).1
   refine⟨by omega,by omega,?_⟩
   refine (mr w1 w2 ?_).1
   by_cases he:b.base+(k:Int)=pos
   ·have q3:(b.base+(k:Int)==pos)=true:=by simpa using he
    have e:=hat (J7.2 ⟨by omega,by omega⟩)
    have e2:pos-b.base=k:=by omega
    rw[e2]at e
    refine (mq q3 ?_).1
    exact FE b10 [] e
   ·have q3:(b.base+(k:Int)==pos)=false:=by simpa using he
    refine (mr q3 ek ?_).1
    exact⟨k+1,⟨hkl,λj hj=>by
     rcases Nat.lt_or_ge j k with h|h
     ·exact hnk j h
     ·obtain rfl:j=k:=by omega
      exact he⟩,by omega,Wk.sel [0] (by simp) rfl (by simp) rfl (by simp[Sq]) (by simp[Cq,AT])⟩
  ·have q2:decide ((k:Int)<(b.en.length:Int))=false:=decide_eq_false (by omega)
   have hf:Es pos b=false:=by
    cases hh:Es pos b with
    |false=>rfl
    |true=>
     obtain⟨a1,a2⟩:=J7.1 hh
     exact absurd (show b.base+((pos-b.base).toNat:Int)=pos by omega) (hnk _ (by omega))
   refine (mr q2 ei ?_).1
   exact⟨i+1,⟨hlt,hnx hf⟩,by omega,Wk.sel [0] (by simp) rfl (by simp) rfl (by simp[Sq]) (by simp[Cq,AT])⟩
 ·have q1:decide ((i:Int)<(g.bt.length:Int))=false:=decide_eq_false (by omega)
  have e:=Yr (l:=g.bt) (pos:=pos) λj hj=>hno j (by omega)
  refine (mq q1 ?_).1
  exact FE b10 [] e
theorem SG (g:Gj) (pos:Int) (hn:g.bt.length≤1000000) (hS:∀b∈g.bt,Me b):Ct Tryz.prog 10 [JP g,uA pos] [] (λ_=>.tup [iA (OK g.bt pos).1,iA (OK g.bt pos).2]) [] (λ_=>[]):=(Ql g pos hn hS).toCt cl cl
theorem QG (l:List Int) (hb:AY l) (hn:l.length≤1000000):An Tryz.prog 60 [A9 .u8 l] [] (bA (E7 l)) []:=by
 refine RM Tryz.func60 b60 ?_
 refine AM (α:=Nat) (λk=>[A9 .u8 l,.any,bA false,iA k,.any,.any,.any,.any,.any,.any,.any,.any,.any,.any,.any,.any,.any,.any,.any,.any,.any,.any,.any,.any]) (λ_=>[]) (λk=>k≤l.length∧E7 (l.drop k)=E7 l) (λk=>l.length-k) 0 ⟨by simp,by simp⟩ (Wk.to (by simp) (by simp[Ca])) ?_
 rintro k ⟨hk,hr⟩
 have ek:=AJ k (by omega)
 refine (mr ek @Ab ?_).1
 by_cases hlt:k+1<l.length
 ·have q1:decide (((k:Int)+1)<(l.length:Int))=true:=decide_eq_true (by omega)
  have q1':decide (((k+1:Nat):Int)<(l.length:Int))=true:=decide_eq_true (by omega)
  have g1:=CC .u8 l k (by omega)
  have g2:=CC .u8 l (k+1) (by omega)
  have hs:=WR hlt
  simp only[go_sem,seval,q1',Int.toNat_natCast,g1,g2,ek,Ab];refine (mok ?_).1
  refine⟨by omega,by omega,?_⟩
  by_cases ha:128≤l.getD k 0
  ·have c1:decide (128≤l.getD k 0)=true:=by simpa using ha
   rw[c1,Bool.true_and]at hs
   simp only[go_sem,seval,c1,ek,Int.toNat_natCast,g2,Ab];refine (mok ?_).1
   refine⟨by omega,by omega,?_⟩
   by_cases hb3:3≤l.getD (k+1) 0
   ·have c2:decide (3≤l.getD (k+1) 0)=true:=by simpa using hb3
    rw[c2,Bool.true_or]at hs
    rw[hs]at hr
    refine (mq c2 ?_).1
    (refine FB b60 [] ?_ ?_<;>first|with_reducible rfl|(simp[Ae,Ah,Ai,Ag,←hr];done)|rfl)
   ·have c2:decide (3≤l.getD (k+1) 0)=false:=by simpa using hb3
    rw[c2,Bool.false_or]at hs
    refine (mr c2 ek ?_).1
    exact⟨k+1,⟨by omega,hs.symm.trans hr⟩,by omega,Wk.sel [] (by simp) rfl (by simp) rfl (by simp) (by simp[Cq,AT,AN])⟩
  ·have c1:decide (128≤l.getD k 0)=false:=by simpa using ha
   rw[c1,Bool.false_and,Bool.false_or]at hs
   refine (mr c1 ek ?_).1
   exact⟨k+1,⟨by omega,hs.symm.trans hr⟩,by omega,Wk.sel [] (by simp) rfl (by simp) rfl (by simp) (by simp[Cq,AT,AN])⟩
 ·have q1':decide (((k+1:Nat):Int)<(l.length:Int))=false:=decide_eq_false (by omega)
  have e:=Aau hlt
  rw[e]at hr
  refine (mq q1' ?_).1
  (refine FB b60 [] ?_ ?_<;>first|with_reducible rfl|(simp[Ae,Ah,Ai,Ag,←hr];done)|rfl)
theorem TA (l:List Int) (hb:AY l) (hn:l.length≤1000000):Ct Tryz.prog 60 [A9 .u8 l] [] (λ_=>bA (E7 l)) [] (λ_=>[]):=(QG l hb hn).toCt cl cl
set_option maxRecDepth 100000 in
theorem QF (s:List Int) (hb:AY s) (hn:s.length≤1000000):An Tryz.prog 24 [A9 .u8 s] [] (bA (Jp s)) []:=by
 obtain⟨R,hR⟩:∃R,Jp s=R:=⟨_,rfl⟩
 rw[hR]
 refine RM Tryz.func24 b24 ?_
 refine AM (α:=Nat×Nat) (λu=>[A9 .u8 s,.any,bA false,iA u.1,.any,.any,.any,.any,.any,.any,.any,.any,.any,.any,.any,.any,.any,.any,.any,.any,.any,.any,.any,.any,.any,.any,.any,.any,.any,.any,.any,.any,.any,.any,.any,.any,.any,.any,.any,.any,.any,.any,.any,.any,.any,.any,.any,.any,.any,.any,.any,.any]) (λ_=>[]) (λu=>u.1+u.2=41∧Jq s u.2 u.1=R) (λu=>u.2) (0,41) ⟨rfl,hR⟩ (Wk.to (by simp) (by simp[Ca])) ?_
 rintro⟨i,n⟩ ⟨hi,hr⟩
 simp only[]at hi hr
 have ei:=AJ i (by omega)
 refine (mq @Ab ?_).1
 by_cases hlt:i<s.length
 ·have q1:decide ((i:Int)<(s.length:Int))=true:=decide_eq_true (by omega)
  by_cases h40:i<40
  ·have q2:decide ((i:Int)<40)=true:=decide_eq_true (by omega)
   obtain⟨n,rfl⟩:∃m,n=m+1:=⟨n-1,by omega⟩
   rw[Jq,if_pos ⟨hlt,h40⟩]at hr
   refine (mr q1 q2 ?_).1
   obtain⟨H,hH⟩:∃H,Js s (s.length+1) i=H:=⟨_,rfl⟩
   rw[hH]at hr
   refine AM (α:=Nat×Nat) (λu=>[A9 .u8 s,.any,bA false,iA i,iA u.1,.any,.any,.any,.any,.any,.any,.any,.any,.any,.any,.any,.any,.any,.any,.any,.any,.any,.any,.any,.any,.any,.any,.any,.any,.any,.any,.any,.any,.any,.any,.any,.any,.any,.any,.any,.any,.any,.any,.any,.any,.any,.any,.any,.any,.any,.any,.any]) (λ_=>[]) (λu=>s.length<u.1+u.2∧u.1≤s.length∧Js s u.2 u.1=H) (λu=>u.2) (i,s.length+1) ⟨by simp only[];omega,by simp only[];omega,hH⟩ (Wk.to (by simp) (by simp[Ca])) ?_
   rintro⟨j,f⟩ ⟨hj,hjl,hh⟩
   simp only[]at hj hjl hh
   have hout:H=false->∃a':Nat×Nat,(a'.1+a'.2=41∧Jq s a'.2 a'.1=R)∧a'.2<n+1∧a'=(i+1,n):=λh=>⟨(i+1,n),⟨by simp only[];omega,by rw[h,if_neg (by decide)]at hr;exact hr⟩,by simp only[];omega,rfl⟩
   refine (mq @Ab ?_).1
   by_cases hj2:j<s.length
   ·have q3:decide ((j:Int)<(s.length:Int))=true:=decide_eq_true (by omega)
    obtain⟨f,rfl⟩:∃m,f=m+1:=⟨f-1,by omega⟩
    rw[Js,if_pos hj2]at hh
    have hbd:AY (s.drop j):=λx hx=>hb x (List.mem_of_mem_drop hx)
    have hdl:(s.drop j).length=s.length-j:=List.length_drop
    have hok:Av (RS.new (s.drop j)):=Av.new hbd (by omega)
    have hct:=VJ (RS.new (s.drop j)) 1500 hok (by decide)
    have hfl:=λhc=>Aay hok (m:=1500) hc
    obtain⟨fb,fl⟩:=KO hok 1500
    obtain⟨fk1,fk2⟩:=CL hok 1500
    have hat:=fk1.at1
    rw[fk2]at hat
    have hnl:(RS.new (s.drop j)).l.length=s.length-j:=hdl
    have hcv:cv (RS.new (s.drop j))=.agg [A9 .u8 (s.drop j),iA 0,iA 0,iA 0]:=rfl
    obtain⟨F,hF⟩:∃F,(RS.new (s.drop j)).frame 1500=F:=⟨_,rfl⟩
    rw[hF]at hh hct hfl fb fl hat
    rw[hcv]at hct
    refine (mq q3 ?_).1
    (repeat((with_reducible refine And.intro ?_ ?_);(·first|exact sd|(simp[Ab,A8,AV.parts,Ab];done)|(simp[Ab,A8,AV.parts,Ab];omega))))
    refine (mr @Cb @Int.toNat_natCast ?_).1
    refine Aa.p (hct) (mp ?_).1
    by_cases hc:F.1.code=0
    ·have c1:(F.1.code != 0)=false:=by simpa using hc
     rw[if_pos hc]at hh
     have h5:=hfl hc
     have h50:(RS.new (s.drop j)).at_=0:=rfl
     have w1:IntKind.i64.wrap ((j:Int)+F.1.at_)=((j+F.1.at_.toNat:Nat):Int):=by rw[IntWalk.i64_in _ (by omega)];omega
     have hgo:¬(1<F.2.length∧F.2.getD 0 0=1∧E7 (F.2.drop 1)=true)->Js s f (j+F.1.at_.toNat)=H:=λh=>by rw[if_neg h]at hh;exact hh
     refine (mr c1 @Ab ?_).1
     by_cases h1:1<F.2.length
     ·have c2:decide (1<(F.2.length:Int))=true:=decide_eq_true (by omega)
      have g1:=CC .u8 F.2 0 (by omega)
      refine (mt c2 @Ab @Int.toNat_zero g1 ?_).1
      (repeat((with_reducible refine And.intro ?_ ?_);(·first|exact sd|(simp[Ab,A8,AV.parts,Ab];done)|(simp[Ab,A8,AV.parts,Ab];omega))))
      by_cases hk:F.2.getD 0 0=1
      ·have c3:(F.2.getD 0 0==1)=true:=by simpa using hk
       have hbd2:AY (F.2.drop 1):=λx hx=>fb x (List.mem_of_mem_drop hx)
       have hgr:=TA (F.2.drop 1) hbd2 (by rw[List.length_drop];omega)
       simp only[go_sem,seval,c3];refine (mok ?_).1
       (repeat((with_reducible refine And.intro ?_ ?_);(·first|exact sd|(simp[Ab,A8,AV.parts,Ab];done)|(simp[Ab,A8,AV.parts,Ab];omega))))
       refine (mq @Cb ?_).1
       refine Aa.p (hgr) ?_
       cases hg:E7 (F.2.drop 1)with
       |true=>
        rw[if_pos ⟨h1,hk,hg⟩]at hh
        rw[←hh,if_pos rfl]at hr
        refine (mp ?_).1
        (refine FB b24 [] ?_ ?_<;>first|with_reducible rfl|(simp[Ae,Ah,Ai,Ag,←hr];done)|rfl)
       |false=>
        have hh2:=hgo (λh=>by rw[hg]at h;exact absurd h.2.2 (by decide))
        refine (mq w1 ?_).1
        exact⟨(j+F.1.at_.toNat,f),⟨by simp only[];omega,by simp only[];omega,hh2⟩,by simp only[];omega,Wk.sel [] (by simp) rfl (by simp) rfl (by simp) (by simp[Cq,AT,AN])⟩
      ·have c3:(F.2.getD 0 0==1)=false:=by simpa using hk
       have hh2:=hgo (λh=>hk h.2.1)
       simp only[go_sem,seval,c3,w1];refine (mok ?_).1
       exact⟨(j+F.1.at_.toNat,f),⟨by simp only[];omega,by simp only[];omega,hh2⟩,by simp only[];omega,Wk.sel [] (by simp) rfl (by simp) rfl (by simp) (by simp[Cq,AT,AN])⟩
     ·have c2:decide (1<(F.2.length:Int))=false:=decide_eq_false (by omega)
      have hh2:=hgo (λh=>h1 h.1)
      refine (mr c2 w1 ?_).1
      exact⟨(j+F.1.at_.toNat,f),⟨by simp only[];omega,by simp only[];omega,hh2⟩,by simp only[];omega,Wk.sel [] (by simp) rfl (by simp) rfl (by simp) (by simp[Cq,AT,AN])⟩
    ·have c1:(F.1.code != 0)=true:=by simpa using hc
     rw[if_neg hc]at hh
     obtain⟨_,h1,h2,rfl⟩:=hout hh.symm
     refine (mr c1 ei ?_).1
     exact⟨(i+1,n),h1,h2,Wk.sel [] (by simp) rfl (by simp) rfl (by simp) (by simp[Cq,AT,AN])⟩
   ·have q3:decide ((j:Int)<(s.length:Int))=false:=decide_eq_false (by omega)
    have hh':H=false:=by
     rw[←hh]
     cases f with
     |zero=>rfl
     |succ f=>rw[Js,if_neg hj2]
    obtain⟨_,h1,h2,rfl⟩:=hout hh'
    refine (mr q3 ei ?_).1
    exact⟨(i+1,n),h1,h2,Wk.sel [] (by simp) rfl (by simp) rfl (by simp) (by simp[Cq,AT,AN])⟩
  ·have q2:decide ((i:Int)<40)=false:=decide_eq_false (by omega)
   have hr':R=false:=by
    rw[←hr]
    cases n with
    |zero=>rfl
    |succ n=>rw[Jq,if_neg (λh=>h40 h.2)]
   refine (mr q1 q2 ?_).1
   exact FE b24 [] hr'
 ·have q1:decide ((i:Int)<(s.length:Int))=false:=decide_eq_false (by omega)
  have hr':R=false:=by
   rw[←hr]
   cases n with
   |zero=>rfl
   |succ n=>rw[Jq,if_neg (λh=>hlt h.1)]
  refine (mq q1 ?_).1
  exact FE b24 [] hr'
theorem Li (s:List Int) (hb:AY s) (hn:s.length≤1000000):Ct Tryz.prog 24 [A9 .u8 s] [] (λ_=>bA (Jp s)) [] (λ_=>[]):=(QF s hb hn).toCt cl cl
set_option maxRecDepth 100000 in
theorem Ve (s:List Int) (hb:AY s) (hn:s.length≤1000000):An Tryz.prog 6 [A9 .u8 s] [] (bA (QS s)) []:=by
 have hix:=J3 s hb hn
 have hlm:=KI hb hn
 have hH:=Li s hb hn
 obtain⟨R,hR⟩:∃R,QS s=R:=⟨_,rfl⟩
 have e:R=if(Dh s).2.1=0∧Jr s (Dh s).1.2.2=true then true else Jp s:=by rw[←hR];rfl
 rw[hR]
 obtain⟨L,hL⟩:∃L,Dh s=L:=⟨_,rfl⟩
 rw[hL]at hix hlm e
 obtain⟨l,hl⟩:∃l,L.1.2.2=l:=⟨_,rfl⟩
 rw[hl]at hix hlm e
 have h16:=(Bc.1 hlm).2
 refine RM Tryz.func6 b6 ?_
 refine Aa.p (hix) (mp ?_).1
 refine AM (α:=Nat) (λi=>[A9 .u8 s,.any,bA false,Fv l,.ref 0 0,iA i,.any,.any,.any,.any,.any,.any,.any,.any,.any,.any,.any,.any,.any,.any,.any,.any,.any,.any,.any,.any,.any,.any,.any,.any,.any,.any,.any,.any,.any,.any,.any,.any,.any,.any,.any,.any]) (λ_=>[.cells [iA L.2.1,iA L.2.2]]) (λi=>i≤l.length∧(L.2.1=0->Jr s (l.drop i)=Jr s l)) (λi=>l.length-i) 0 ⟨by simp,λ_=>by simp⟩ (Wk.to (by simp) (by simp[Ca])) ?_
 rintro i ⟨hi,hm⟩
 have ei:=AJ i (by omega)
 refine (mp ?_).1
 by_cases hz:L.2.1=0
 ·have c1:(L.2.1==0)=true:=by simpa using hz
  have hm:=hm hz
  refine (mr c1 @Ap ?_).1
  by_cases hlt:i<l.length
  ·have q1:decide ((i:Int)<(l.length:Int))=true:=decide_eq_true (by omega)
   have hg:=JZ l i hlt
   have hmem:l.getD i Cr∈l:=by simp[hlt]
   have hb1:=Gu hlm hmem
   have hd:l.drop i=l.getD i Cr::l.drop (i+1):=by
    rw[List.drop_eq_getElem_cons hlt];simp[hlt]
   obtain⟨m,hmm⟩:∃m,l.getD i Cr=m:=⟨_,rfl⟩
   rw[hmm]at hg hb1 hd
   rw[hd,Jr]at hm
   simp only[go_sem,seval,q1,Int.toNat_natCast,hg,Ap,Ab];refine (mok ?_).1
   refine⟨by omega,by omega,?_⟩
   by_cases ha:m.at_<s.length
   ·have c2:decide (m.at_<(s.length:Int))=true:=by simpa using ha
    have hHm:=Li (s.drop m.at_.toNat) (λx hx=>hb x (List.mem_of_mem_drop hx)) (by rw[List.length_drop];omega)
    refine (mt c2 @Int.toNat_natCast hg @Ap ?_).1
    refine⟨by omega,by omega,?_⟩
    (repeat((with_reducible refine And.intro ?_ ?_);(·first|exact sd|(simp[Ab,A8,AV.parts,Ab];done)|(simp[Ab,A8,AV.parts,Ab];omega))))
    refine (mq @Cb ?_).1
    refine Aa.p (hHm) ?_
    cases hh:Jp (s.drop m.at_.toNat)with
    |true=>
     rw[if_pos ⟨ha,hh⟩]at hm
     rw[if_pos ⟨hz,hm.symm⟩]at e
     refine (mp ?_).1
     exact FE b6 [] e
    |false=>
     rw[if_neg (λh=>by rw[hh]at h;exact absurd h.2 (by decide))]at hm
     refine (mq ei ?_).1
     exact⟨i+1,⟨hlt,λ_=>hm⟩,by omega,Wk.sel [0] (by simp) rfl (by simp) rfl (by simp) (by simp[Cq,AT,AN,Em])⟩
   ·have c2:decide (m.at_<(s.length:Int))=false:=by simpa using ha
    rw[if_neg (λh=>ha h.1)]at hm
    refine (mr c2 ei ?_).1
    exact⟨i+1,⟨hlt,λ_=>hm⟩,by omega,Wk.sel [0] (by simp) rfl (by simp) rfl (by simp) (by simp[Cq,AT,AN,Em])⟩
  ·have q1:decide ((i:Int)<(l.length:Int))=false:=decide_eq_false (by omega)
   rw[List.drop_of_length_le (by omega),Jr]at hm
   rw[if_neg (λh=>by rw[←hm]at h;exact absurd h.2 (by decide))]at e
   refine (mq q1 ?_).1
   refine Aa.p (hH) (mp ?_).1
   exact FE b6 [] e
 ·have c1:(L.2.1==0)=false:=by simpa using hz
  rw[if_neg (λh=>hz h.1)]at e
  refine (mq c1 ?_).1
  refine Aa.p (hH) (mp ?_).1
  exact FE b6 [] e
theorem YZ (s:List Int) (hb:AY s) (hn:s.length≤1000000):Ct Tryz.prog 6 [A9 .u8 s] [] (λ_=>bA (QS s)) [] (λ_=>[]):=(Ve s hb hn).toCt cl cl
def Gg (l:List En):List Hh:=l.map λe=>(e.lk,(e.data.length:Int))
def IT (base:Int) (l:List En):List Int:=BR (CN base).enc [] (Gg l)
def A6 (b:Bt):List Int:=vb b.ep++(vb b.base++(vb b.en.length++(IT b.base b.en++CM (AL b.en))))
theorem Iw {base:Int} {l:List En} {k:Nat} (h:k<l.length):IT base (l.take (k+1))=IT base (l.take k)++E3 (base+k) (l.getD k DN):=by
 have e1:l.take (k+1)=l.take k++[l.getD k DN]:=by
  rw[List.take_succ_eq_append_getElem h];simp[h]
 have el:(Gg (l.take k)).length=k:=by simp[Gg];omega
 unfold IT
 rw[e1]
 have e2:Gg (l.take k++[l.getD k DN])=Gg (l.take k)++[((l.getD k DN).lk,((l.getD k DN).data.length:Int))]:=by simp[Gg]
 rw[e2,GQ,List.nil_append]
 simp only[CN]
 rw[el]
 rfl
theorem Amq {base:Int} {l:List En}:∀k,k≤l.length->(IT base (l.take k)).length≤(IT base l).length:=by
 intro k hk
 have gen:∀n,k+n=l.length->(IT base (l.take k)).length≤(IT base l).length:=by
  intro n
  induction n generalizing k with
  |zero=>intro h;rw[List.take_of_length_le (by omega)];exact Nat.le_refl _
  |succ n ih=>
   intro h
   have h1:=ih (k+1) (by omega) (by omega)
   rw[Iw (by omega),List.length_append]at h1
   omega
 exact gen (l.length-k) (by omega)
structure Atw (u:Gj):Prop where
 n:u.bt.length≤1000000
 s:∀b∈u.bt,E9 b
 ok:Bts u.bt
structure S2 where
 t:RS
 xs:List AV
 i:Nat
structure S2.ok (ep:Int) (u:RS) (N:Nat) (s:S2):Prop where
 i:s.i≤N
 x:s.xs.length≤N
 st:(∃acc,s.xs=R7 acc∧acc.length=s.i∧(Ars ep).On u N (s.t,acc))∨(¬s.t.code=0∧(Ars ep).many N u []=(s.t,[]))
 k:3≤3
 okx:∀ρ:Nat->Nat,s.xs.map (λx=>x.ren ρ)=s.xs
structure BtW (b:Bt):Prop where
 ok:b.ok
 small:E9 b
 right:B8 b=true
theorem Afq {base:Int} {l:List En} (h:∀i,i<l.length->Cj (base+i) (l.getD i DN)=true):∀k,k≤l.length->(IT base (l.take k)).length≤980*k:=by
 intro k
 induction k with
 |zero=>intro _;simp[IT,Gg,BR]
 |succ k ih=>
  intro hk
  have h1:=ih (by omega)
  have h2:=Aat (D2.1 (h k (by omega))).1
  rw[Iw (by omega),List.length_append]
  omega
theorem IL {b:Bt} (hw:BtW b):(IT b.base b.en).length≤15680∧(CM (AL b.en)).length≤1048587∧(A6 b).length≤1064300:=by
 obtain⟨r1,r2,r3,r4⟩:=Cs.1 hw.right
 have h1:=Afq r4 b.en.length (Nat.le_refl _)
 rw[List.take_length]at h1
 have h2:=Kn (AL b.en)
 have h3:=(Bd ((AL b.en).length:Int)).2
 have v3:(vb ((AL b.en).length:Int)).length≤10:=by omega
 have v4:=(Bd b.ep).2
 have v5:=(Bd b.base).2
 have v6:=(Bd (b.en.length:Int)).2
 have v7:(CM (AL b.en)).length≤1048576+1+(vb ((AL b.en).length:Int)).length:=by omega
 refine⟨by omega,by omega,?_⟩
 unfold A6
 simp only[List.length_append]
 omega
def SA (b:Bt):Int:=40+((vb ((AL b.en).length:Int)).length+(AL b.en).length)+(IT b.base b.en).length
set_option maxRecDepth 100000 in
theorem UL (b:Bt) (hw:BtW b):An Tryz.prog 177 [Ie b] [] (iA (SA b)) []:=by
 have hb:=hw.ok
 have hs:=hw.small
 obtain⟨r1,r2,r3,r4⟩:=Cs.1 hw.right
 have b0:=hb.b0
 have hl:=IL hw
 obtain⟨Z,hZ⟩:∃Z:Nat->Nat,Z=λk=>(IT b.base (b.en.take k)).length:=⟨_,rfl⟩
 have hZ0:Z 0=0:=by rw[hZ];simp[IT,Gg,BR]
 have hZn:Z b.en.length=(IT b.base b.en).length:=by rw[hZ];simp
 have hZs:∀k,k<b.en.length->Z (k+1)=Z k+(E3 (b.base+k) (b.en.getD k DN)).length:=λk hk=>by
  rw[hZ];simp only;rw[Iw hk,List.length_append]
 have hZl:∀k,k≤b.en.length->Z k≤15680:=λk hk=>by
  have:=Amq (base:=b.base) (l:=b.en) k hk
  rw[hZ];simp only;omega
 have hv:=(Bd ((AL b.en).length:Int)).2
 have e1:max ((AL b.en).length:Int) 0=(AL b.en).length:=by omega
 have bs:=IK ((AL b.en).length:Int) (by omega)
 rw[e1]at bs
 obtain⟨q,hq⟩:∃q:Int,((vb ((AL b.en).length:Int)).length:Int)+(AL b.en).length=q:=⟨_,rfl⟩
 have er:SA b=40+q+Z b.en.length:=by rw[←hq,hZn];rfl
 rw[hq]at bs
 have w0:IntKind.i64.wrap (40+q)=40+q:=IntWalk.i64_in _ (by omega)
 rw[er]
 refine RN Tryz.func177 Asv ?_;refine (mq @AA ?_).1
 refine Aa.p (H6 b.en hs.n (by have:=hs.s;omega)) ?_;refine (mp ?_).1
 refine Aa.p (bs) (mr w0 @AA ?_).1
 refine AM (α:=Nat) (λk=>[.any,.ref 0 0,.any,iA (40+q+(Z k:Int)),.any,.any,.any,.any,.any,.any,.any,.any,JN b.en,iA b.en.length,iA k,.any,.any,.any,.any,.any,.any,.any,.any,.any,.any,.any,.any,.any,.any,.any]) (λ_=>[btO b]) (λk=>k≤b.en.length) (λk=>b.en.length-k) 0 (by simp) (Wk.to (by simp[hZ0]) (by simp[Ca,hZ0])) ?_
 intro k hk
 refine (mp ?_).1
 by_cases hlt:k<b.en.length
 ·have q1:decide ((k:Int)<(b.en.length:Int))=true:=decide_eq_true (by omega)
  have ek:=AJ k (by omega)
  have g:=Ff b.en k hlt
  have hm:=Xl b.en k hlt
  have hz:=hZs k hlt
  have hzl:=hZl (k+1) hlt
  have hrk:=r4 k hlt
  have hok:=hb.en _ hm
  have hsm:=hs.e _ hm
  have wk:IntKind.u64.wrap (k:Int)=k:=IntWalk.u64_in _ (by omega)
  have wp:IntKind.u64.wrap (b.base+(k:Int))=b.base+k:=IntWalk.u64_in _ (by omega)
  obtain⟨e,he⟩:∃e,b.en.getD k DN=e:=⟨_,rfl⟩
  rw[he]at g hm hz hrk hok hsm
  have hsz:JO (b.base+k) e=((E3 (b.base+k) e).length:Int):=by unfold JO;rw[if_pos hrk]
  have Gg:=NA (b.base+k) e hok hsm (by omega) (by omega)
  obtain⟨y,hy⟩:∃y,JO (b.base+k) e=y:=⟨_,rfl⟩
  rw[hy]at hsz Gg
  have w2:IntKind.i64.wrap (40+q+(Z k:Int)+y)=40+q+(Z (k+1):Nat):=by rw[IntWalk.i64_in _ (by omega)];omega
  simp only[go_sem,seval,q1,g,AA,Int.toNat_natCast,wk,wp];refine (mok ?_).1
  (repeat((with_reducible refine And.intro ?_ ?_);(·exact sd)))
  refine Aa.p (Gg) (mr w2 ek ?_).1
  exact⟨k+1,hlt,by omega,Wk.sel [0] (by simp) rfl (by simp) rfl (by simp[AT]) (by simp[Cq,AT])⟩
 ·have q1:decide ((k:Int)<(b.en.length:Int))=false:=decide_eq_false (by omega)
  have ek:k=b.en.length:=by omega
  subst ek
  refine (mq q1 ?_).1
  exact FA Asv []
theorem XB (b:Bt) (hw:BtW b):Ct Tryz.prog 177 [Ie b] [] (λ_=>iA (SA b)) [] (λ_=>[]):=(UL b hw).toCt cl cl
set_option maxHeartbeats 2000000 in
set_option maxRecDepth 100000 in
theorem XC (s:WS) (b:Bt) (hs0:s.fine) (hc:s.code=0) (hm0:(s.l.length:Int)+(A6 b).length≤s.most) (hw:BtW b):An Tryz.prog 178 [.ref 0 0,Ie b] [B4 1 s,A1 s] (.tup []) [B4 1 (⟨s.most,s.l++A6 b,0⟩),A1 (⟨s.most,s.l++A6 b,0⟩)]:=by
 have hb:=hw.ok
 have hs:=hw.small
 obtain⟨r1,r2,r3,r4⟩:=Cs.1 hw.right
 have b0:=hb.b0
 have hl:=IL hw
 have m0:=hs0.m0
 have m1:=hs0.m1
 have w4:IntKind.u64.wrap (b.en.length:Int)=b.en.length:=IntWalk.u64_in _ (by omega)
 have hbl:(A6 b).length=(vb b.ep).length+((vb b.base).length+((vb (b.en.length:Int)).length+((IT b.base b.en).length+(CM (AL b.en)).length))):=by unfold A6;simp only[List.length_append]
 obtain⟨m,hm⟩:∃m,s.most=m:=⟨_,rfl⟩
 obtain⟨L,hL⟩:∃L,s.l=L:=⟨_,rfl⟩
 have es:s=⟨m,L,0⟩:=by cases s;simp_all
 subst es
 simp only at hm0 m0 m1 ⊢
 have a1:(⟨m,L,0⟩:WS).epput b.ep (Aj b.ep)=⟨m,L++vb b.ep,0⟩:=by
  unfold WS.epput;rw[if_pos (BV.2 r1),CO rfl (by simp only;omega)]
 have a2:(⟨m,L++vb b.ep,0⟩:WS).epput b.base (Bb b.base)=⟨m,L++vb b.ep++vb b.base,0⟩:=by
  unfold WS.epput;rw[if_pos (Ec.2 r2.2.1),CO rfl (by simp only[List.length_append];omega)]
 have a3:(⟨m,L++vb b.ep++vb b.base,0⟩:WS).put (vb (b.en.length:Int))=⟨m,L++vb b.ep++vb b.base++vb (b.en.length:Int),0⟩:=by
  rw[CO rfl (by simp only[List.length_append];omega)]
 have f1:(⟨m,L++vb b.ep,0⟩:WS).fine:=⟨by simp only;omega,by simp only;omega,by simp only[List.length_append];omega⟩
 have f2:(⟨m,L++vb b.ep++vb b.base,0⟩:WS).fine:=⟨by simp only;omega,by simp only;omega,by simp only[List.length_append];omega⟩
 obtain⟨A,hA⟩:∃A,L++vb b.ep++vb b.base++vb (b.en.length:Int)=A:=⟨_,rfl⟩
 have hAl:A.length=L.length+(vb b.ep).length+(vb b.base).length+(vb (b.en.length:Int)).length:=by rw[←hA];simp only[List.length_append]
 rw[hA]at a3
 obtain⟨W,hW⟩:∃W:Nat->WS,W=λk=>⟨m,A++IT b.base (b.en.take k),0⟩:=⟨_,rfl⟩
 have hlen:∀k,k≤b.en.length->(A++IT b.base (b.en.take k)).length≤m:=λk hk=>by
  have:=Amq (base:=b.base) (l:=b.en) k hk
  rw[List.length_append];omega
 have hfine:∀k,k≤b.en.length->(W k).fine:=λk hk=>by
  have:=hlen k hk
  rw[hW];exact⟨by simp only;omega,by simp only;omega,by simp only;omega⟩
 have hW0:(⟨m,A,0⟩:WS)=W 0:=by rw[hW];simp[IT,Gg,BR]
 rw[hW0]at a3
 have hWn:∀k,k<b.en.length->(W k).ehead (b.base+k) (b.en.getD k DN)=W (k+1):=λk hk=>by
  have hl:=hlen (k+1) hk
  rw[Iw hk]at hl
  simp only[List.length_append]at hl
  rw[hW];simp only
  rw[Abt (r4 k hk) rfl (by simp only[List.length_append];omega),Iw hk]
  simp only[List.append_assoc]
 have hfin:(W b.en.length).blk (AL b.en)=⟨m,L++A6 b,0⟩:=by
  rw[hW];simp only
  rw[YD rfl (by simp only[List.length_append,List.take_length];omega),←hA,List.take_length]
  unfold A6
  simp only[List.append_assoc]
 refine RM Tryz.func178 Asu ?_
 refine Aa.p (LF b hb hs) ?_
 refine (mq hw.right ?_).1
 refine Aa.u2 (IC ⟨m,L,0⟩ b.ep 0 1 (by decide) hb.e0 hb.e1 hs0) rfl rfl (mq a1 ?_).1
 refine Aa.u2 (Ki ⟨m,L++vb b.ep,0⟩ b.base 0 1 (by decide) hb.b0 hb.b1 f1) rfl rfl (ms a2 @AA w4 ?_).1
 refine Aa.u2 (Bx ⟨m,L++vb b.ep++vb b.base,0⟩ b.en.length 0 1 (by decide) (by omega) (by omega) f2.ok (f2.room _)) rfl rfl (mr a3 @AA ?_).1
 refine AM (α:=Nat) (λk=>[.ref 0 0,.any,.any,.ref 2 0,.any,.any,.any,.any,.any,.any,.any,.any,.any,.any,.any,.any,.any,.any,.any,.any,.any,.any,.any,.any,.any,.any,JN b.en,iA b.en.length,iA k,.any,.any,.any,.any,.any,.any,.any,.any,.any,.any,.any,.any,.any,.any,.any,.any,.any,.any]) (λk=>[B4 1 (W k),A1 (W k),btO b]) (λk=>k≤b.en.length) (λk=>b.en.length-k) 0 (by simp) (Wk.to (by rfl) (by simp[Ca])) ?_
 intro k hk
 refine (mp ?_).1
 by_cases hlt:k<b.en.length
 ·have q1:decide ((k:Int)<(b.en.length:Int))=true:=decide_eq_true (by omega)
  have ek:=AJ k (by omega)
  have g:=Ff b.en k hlt
  have hme:=Xl b.en k hlt
  have hok:=hb.en _ hme
  have hsm:=hs.e _ hme
  have hwn:=hWn k hlt
  have hf:=hfine k (by omega)
  have wk:IntKind.u64.wrap (k:Int)=k:=IntWalk.u64_in _ (by omega)
  have wp:IntKind.u64.wrap (b.base+(k:Int))=b.base+k:=IntWalk.u64_in _ (by omega)
  obtain⟨e,he⟩:∃e,b.en.getD k DN=e:=⟨_,rfl⟩
  rw[he]at g hme hok hsm hwn
  simp only[go_sem,seval,q1,g,AA,Int.toNat_natCast,wk,wp];refine (mok ?_).1
  (repeat((with_reducible refine And.intro ?_ ?_);(·exact sd)))
  refine Aa.u2 (OJ (W k) (b.base+k) e 0 1 (by decide) hf hok hsm (by omega) (by omega)) rfl rfl (mr hwn ek ?_).1
  exact⟨k+1,hlt,by omega,Wk.sel [0,1,2] (by simp) rfl (by simp) rfl (by simp[AT,Ik,wrow_ren,AK]) (by simp[Cq,AT,AK])⟩
 ·have q1:decide ((k:Int)<(b.en.length:Int))=false:=decide_eq_false (by omega)
  have ek:k=b.en.length:=by omega
  subst ek
  refine (mq q1 ?_).1
  refine Aa.n (Xj b.en hs.n hs.s) (mp ?_).1
  refine Aa.u2 (PT (W b.en.length) (AL b.en) 0 1 (by decide) (hfine _ (Nat.le_refl _)) r3) rfl rfl (mq hfin ?_).1
  exact FA Asu [0,1]
theorem Ab9 (s:WS) (b:Bt) (i j:Nat) (h:i≠j) (hs:s.fine) (hc:s.code=0) (hm:(s.l.length:Int)+(A6 b).length≤s.most) (hw:BtW b):Ct Tryz.prog 178 [.ref i 0,Ie b] [(i,B4 j s),(j,A1 s)] (λ_=>.tup []) [(i,B4 j (⟨s.most,s.l++A6 b,0⟩)),(j,A1 (⟨s.most,s.l++A6 b,0⟩))] (λ_=>[]):=Ct.u2 (XC s b hs hc hm hw) i j h cl cl cl cl cl (BI _ _) (Bm _) Ci
theorem RA (b:Bt) (hw:BtW b):An Tryz.prog 108 [Ie b] [] (.tup [A9 .u8 (A6 b),iA 0]) []:=by
 obtain⟨r1,r2,r3,r4⟩:=Cs.1 hw.right
 have hl:=IL hw
 have hbl:=Kn (AL b.en)
 have v4:=(Bd b.ep).2
 have v5:=(Bd b.base).2
 have v6:=(Bd (b.en.length:Int)).2
 have v7:=(Bd ((AL b.en).length:Int)).2
 have hlen:(A6 b).length=(vb b.ep).length+((vb b.base).length+((vb (b.en.length:Int)).length+((IT b.base b.en).length+(CM (AL b.en)).length))):=by unfold A6;simp only[List.length_append]
 have hrm:SA b=40+((vb ((AL b.en).length:Int)).length+(AL b.en).length)+(IT b.base b.en).length:=rfl
 obtain⟨m,hm⟩:∃m,SA b=m:=⟨_,rfl⟩
 have hrr:=XB b hw
 rw[hm]at hrm hrr
 have f0:(WS.new m).fine:=WS.fine.new (by omega)
 have hn:=WS.new_is (n:=m) (by omega)
 have hput:=Ab9 (WS.new m) b 1 2 (by decide) f0 (by rw[hn]) (by rw[hn];simp;omega) hw
 rw[hn]at hput
 simp only[List.nil_append]at hput
 refine RM Tryz.func108 Atd ?_
 refine Aa.p (hrr) (mp ?_).1
 refine Aa.n (ER m) (mq hn ?_).1
 refine Aa.u2 (hput) rfl rfl (mp ?_).1
 refine Aa.r2 (B1 ⟨m,A6 b,0⟩ 1 2 (by decide) (by simp only;omega)) rfl rfl ?_;refine (mp ?_).1
 (refine FB Atd [] ?_ ?_<;>first|with_reducible rfl|(simp[Ae,Ah,Ai,Ag,WS.bytes];done)|rfl)
theorem US (b:Bt) (hw:BtW b):Ct Tryz.prog 108 [Ie b] [] (λ_=>.tup [A9 .u8 (A6 b),iA 0]) [] (λ_=>[]):=(RA b hw).toCt cl cl
def Da (g:Gj):Bool:=Aj g.ep&&(decide (g.bt.length≤16)&&(List.range g.bt.length).all λi=>B8 (g.bt.getD i BZ)&&EM g.ep (g.bt.take i) (g.bt.getD i BZ))
theorem BP {g:Gj}:Da g=true↔(1≤g.ep∧g.ep<4611686018427387904)∧g.bt.length≤16∧∀i,i<g.bt.length->B8 (g.bt.getD i BZ)=true∧EM g.ep (g.bt.take i) (g.bt.getD i BZ)=true:=by
 unfold Da
 rw[Bool.and_eq_true,Bool.and_eq_true,decide_eq_true_eq,List.all_eq_true,BV]
 constructor
 ·rintro⟨h1,h2,h3⟩
  refine⟨h1,h2,λi hi=>?_⟩
  have:=h3 i (List.mem_range.2 hi)
  rw[Bool.and_eq_true]at this
  exact this
 ·rintro⟨h1,h2,h3⟩
  refine⟨h1,h2,λi hi=>?_⟩
  rw[Bool.and_eq_true]
  exact h3 i (List.mem_range.1 hi)
theorem Gv {b:Bt} (hb:b.ok) (h:B8 b=true):Me b:=by
 obtain⟨r1,⟨r2,r2',r2''⟩,r3,r4⟩:=Cs.1 h
 refine⟨hb,r2.2,r2'',λe he=>?_⟩
 obtain⟨i,hi,rfl⟩:=List.getElem_of_mem he
 have h1:=r4 i hi
 have h2:b.en.getD i DN=b.en[i]:=by simp[hi]
 rw[h2]at h1
 obtain⟨h3,h4⟩:=D2.1 h1
 obtain⟨h5,h6⟩:=Pm (hb.en _ (List.getElem_mem hi)).lk h3
 exact⟨h5,h6,h4⟩
def Bq (l:List Bt):List Int:=l.flatMap λb=>Ac (1::A6 b)
def CR (a:Int):List Bt->List Mk
 |[]=>[]
 |b::l=>⟨b.base,b.en.length,a⟩::CR (a+(Ac (1::A6 b)).length) l
theorem JA (l:List Bt) (b:Bt):Bq (l++[b])=Bq l++Ac (1::A6 b):=by simp[Bq]
theorem FR (b:Bt) (l:List Bt):Bq (b::l)=Ac (1::A6 b)++Bq l:=by simp[Bq]
theorem HU (l:List Bt) (b:Bt):∀a,CR a (l++[b])=CR a l++[⟨b.base,b.en.length,a+(Bq l).length⟩]:=by
 induction l with
 |nil=>intro a;simp[CR,Bq]
 |cons x l ih=>
  intro a
  simp only[List.cons_append,CR,ih,FR,List.length_append]
  congr 3
  simp only[Mk.mk.injEq,true_and]
  omega
theorem C8 (l:List Bt):∀a,(CR a l).length=l.length:=by
 induction l with
 |nil=>intro a;rfl
 |cons x l ih=>intro a;simp[CR,ih]
def Dn (g:Gj):List Int:=Am ⟨3,g.ep,0⟩++Bq g.bt
def BU (g:Gj):List Mk:=CR (Am ⟨3,g.ep,0⟩).length g.bt
def BY (g:Gj):Ft:=GJ g.ep (BU g) (Dn g).length (Ac (2::AO (BU g))).length
def CK (g:Gj):List Int:=Dn g++Ac (2::AO (BU g))++Eu (BY g)
def YG:Int->List Bt->Prop
 |_,[]=>True
 |p,b::l=>p≤b.base∧1≤b.en.length∧b.en.length≤16∧b.base+b.en.length≤4611686018427387904∧YG (b.base+b.en.length) l
theorem LD (l:List Bt) (b:Bt):B5 (l++[b])=b:=by simp[B5]
theorem TY {ep:Int} {bs:List Bt} {b:Bt}:EM ep bs b=true↔b.ep≤ep∧(bs.length=0∨((B5 bs).ep≤b.ep∧(B5 bs).base+(B5 bs).en.length≤b.base)):=by
 simp[EM]
theorem Ad1 {ep:Int}:∀(suf pre:List Bt) (p:Int),(pre=[]->p=0)->(¬pre=[]->p=(B5 pre).base+(B5 pre).en.length)->(∀b∈suf,0≤b.base)->
 (∀i,i<suf.length->B8 (suf.getD i BZ)=true∧EM ep (pre++suf.take i) (suf.getD i BZ)=true)->YG p suf:=by
 intro suf
 induction suf with
 |nil=>intros;trivial
 |cons b l ih=>
  intro pre p h1 h2 h0 h
  have h3:=h 0 (by simp)
  simp only[List.take_zero,List.append_nil,List.getD_cons_zero]at h3
  obtain⟨r1,⟨⟨r2,r2'⟩,r3,r4⟩,r5,r6⟩:=Cs.1 h3.1
  obtain⟨f1,f2⟩:=TY.1 h3.2
  refine⟨?_,r2,r2',r4,?_⟩
  ·by_cases hp:pre=[]
   ·rw[h1 hp];exact h0 b (by simp)
   ·rw[h2 hp]
    rcases f2 with f2|f2
    ·exact absurd (List.eq_nil_of_length_eq_zero f2) hp
    ·exact f2.2
  ·refine ih (pre++[b]) _ (λh=>by simp at h) (λ_=>by rw[LD]) (λx hx=>h0 x (by simp[hx])) λi hi=>?_
   have h4:=h (i+1) (by simp;omega)
   simp only[List.take_succ_cons,List.getD_cons_succ]at h4
   rw[List.append_assoc,List.singleton_append]
   exact h4
theorem Lb {g:Gj} (hr:Da g=true) (hb:∀b∈g.bt,b.ok):YG 0 g.bt:=by
 obtain⟨h1,h2,h3⟩:=BP.1 hr
 exact Ad1 (ep:=g.ep) g.bt [] 0 (λ_=>rfl) (λh=>absurd rfl h) (λb hb'=>(hb b hb').b0) λi hi=>by simpa using h3 i hi
theorem MI:∀(l:List Bt) (p a x:Int),YG p l->a<x->(∀b∈l,((Ac (1::A6 b)).length:Int)≤2200000∧0<(Ac (1::A6 b)).length)->x+2200000*l.length≤1099511627775->Dz p a (CR x l)=true:=by
 intro l
 induction l with
 |nil=>intros;rfl
 |cons b l ih=>
  intro p a x h hx hf hn
  obtain⟨h1,h2,h3,h4,h5⟩:=h
  obtain⟨f1,f2⟩:=hf b (by simp)
  simp only[List.length_cons]at hn
  simp only[CR,Dz,Bool.and_eq_true,decide_eq_true_eq]
  refine⟨⟨by(try simp only[]);omega,by(try simp only[]);omega,by(try simp only[]);omega,by(try simp only[]);omega,by(try simp only[]);omega,by(try simp only[]);omega⟩,ih _ _ _ h5 (by(try simp only[]);omega) (λy hy=>hf y (by simp[hy])) (by omega)⟩
theorem Lu {ep a n:Int} {l:List Mk} (hl:AZ l=true) (he:1≤ep∧ep<4611686018427387904) (ha:1≤a∧a≤1099511627775) (hn:1≤n∧n≤2097152):Az (GJ ep l a n)=true∧(GJ ep l a n).ok:=by
 have h16:=(Bc.1 hl).2
 obtain⟨c1,c2⟩:=Uz hl l.length (Nat.le_refl _)
 have hg:GJ ep l a n=⟨ep,l.length,DK l l.length,(Ed l).1,(Ed l).2,a,n⟩:=by unfold GJ;rw[if_pos hl]
 rw[hg]
 by_cases hz:l.length=0
 ·have he:Ed l=(0,0):=by unfold Ed;rw[if_pos (.inl hz)]
  rw[he]
  refine⟨FC.2 ⟨by(try simp only[]);omega,by(try simp only[]);omega,by(try simp only[]);omega,Ms.2 ⟨λ_=>⟨rfl,rfl⟩,λh=>absurd (by simp[hz]) h⟩⟩,⟨by(try simp only[]);omega,by(try simp only[]);omega,by(try simp only[]);omega,by simp,by simp,by(try simp only[]);omega,by(try simp only[]);omega⟩⟩
 ·have he:Ed l=((l.getD 0 Cr).pos,(l.getD (l.length-1) Cr).fin):=by unfold Ed;rw[if_neg (by rintro(h|h);exact hz h;rw[hl]at h;cases h)]
  rw[he]
  have s1:=Aiu hl (l.length-1) (by omega)
  rw[show l.length-1+1=l.length by omega]at s1
  have b1:=Fy hl (k:=0) (by omega)
  have b2:=Fy hl (k:=l.length-1) (by omega)
  have hf:(l.getD (l.length-1) Cr).fin=(l.getD (l.length-1) Cr).pos+(l.getD (l.length-1) Cr).cnt:=rfl
  refine⟨FC.2 ⟨by(try simp only[]);omega,by(try simp only[]);omega,by(try simp only[]);omega,Ms.2 ⟨λh=>absurd h (by(try simp only[]);omega),λ_=>⟨by(try simp only[]);omega,by(try simp only[]);omega,by(try simp only[]);omega⟩⟩⟩,⟨by(try simp only[]);omega,by(try simp only[]);omega,by(try simp only[]);omega,by(try simp only[]);omega,by(try simp only[]);omega,by(try simp only[]);omega,by(try simp only[]);omega⟩⟩
theorem VF {g:Gj} {i:Nat} (hi:i<g.bt.length) (h:¬(B8 (g.bt.getD i BZ)=true∧EM g.ep (g.bt.take i) (g.bt.getD i BZ)=true)):Da g=false:=by
 cases hr:Da g with
 |false=>rfl
 |true=>exact absurd ((BP.1 hr).2.2 i hi) h
set_option maxRecDepth 100000 in
theorem My (g:Gj) (hn:g.bt.length≤1000000) (hb:∀b∈g.bt,b.ok∧E9 b):An Tryz.prog 52 [JP g] [] (bA (Da g)) []:=by
 refine RM Tryz.func52 b52 ?_
 refine Aa.p (AQ g.ep) (mp ?_).1
 cases he:Aj g.ep with
 |false=>
  have e:Da g=false:=by unfold Da;rw[he,Bool.false_and]
  refine (mp ?_).1
  exact FE b52 [] e
 |true=>
  refine (mq @AG ?_).1
  by_cases h16:g.bt.length≤16
  ·have q0:decide ((16:Int)<(g.bt.length:Int))=false:=decide_eq_false (by omega)
   refine (mr q0 @AG ?_).1
   refine AM (α:=Nat) (λk=>[.any,.ref 0 0,bA false,.any,.any,.any,.any,.any,.any,.any,.any,.any,.any,.any,.any,.any,slB g.bt,iA g.bt.length,iA k,.any,.any,.any,.any,.any,.any,.any,.any,.any,.any,.any,.any,.any,.any,.any,.any,.any,.any,.any,.any]) (λ_=>[Vt g]) (λk=>k≤g.bt.length∧∀i,i<k->B8 (g.bt.getD i BZ)=true∧EM g.ep (g.bt.take i) (g.bt.getD i BZ)=true) (λk=>g.bt.length-k) 0 ⟨by simp,λi hi=>by omega⟩ (Wk.to (by simp) (by simp[Ca])) ?_
   rintro k ⟨hk,hall⟩
   refine (mp ?_).1
   by_cases hlt:k<g.bt.length
   ·have q1:decide ((k:Int)<(g.bt.length:Int))=true:=decide_eq_true (by omega)
    have ek:=AJ k (by omega)
    have hg:=Km g.bt k hlt
    have hmem:g.bt.getD k BZ∈g.bt:=by simp[hlt]
    obtain⟨ho,hs⟩:=hb _ hmem
    have hno:=VF (g:=g) hlt
    have hS:∀x∈g.bt.take k,Me x:=λx hx=>by
     obtain⟨i,hi,rfl⟩:=List.getElem_of_mem hx
     have hik:i<k:=by rw[List.length_take]at hi;omega
     have e1:(g.bt.take k)[i]=g.bt.getD i BZ:=by simp[show i<g.bt.length by omega]
     rw[e1]
     exact Gv (hb _ (by simp[show i<g.bt.length by omega])).1 (hall i hik).1
    have htl:(g.bt.take k).length≤1000000:=by rw[List.length_take];omega
    have hnx:B8 (g.bt.getD k BZ)=true∧EM g.ep (g.bt.take k) (g.bt.getD k BZ)=true->∀i,i<k+1->B8 (g.bt.getD i BZ)=true∧EM g.ep (g.bt.take i) (g.bt.getD i BZ)=true:=λh i hi=>by
     rcases Nat.lt_or_ge i k with h1|h1
     ·exact hall i h1
     ·obtain rfl:i=k:=by omega
      exact h
    obtain⟨b,hbb⟩:∃b,g.bt.getD k BZ=b:=⟨_,rfl⟩
    rw[hbb]at hg ho hs hno hnx
    refine (mt q1 hg @AG @Int.toNat_natCast ?_).1
    (repeat((with_reducible refine And.intro ?_ ?_);(·exact sd)))
    refine Aa.p (LF b ho hs) ?_
    cases hr:B8 b with
    |false=>
     have e:=hno (λh=>by rw[hr]at h;exact absurd h.1 (by decide))
     refine (mp ?_).1
     exact FE b52 [] e
    |true=>
     have hfo:=Hw g.ep (g.bt.take k) b (Gv ho hr) hS htl
     refine (mp ?_).1
     (repeat((with_reducible refine And.intro ?_ ?_);(·first|exact sd|(simp[Ab,A8,AV.parts,AG];done)|(simp[Ab,A8,AV.parts,AG];omega))))
     refine (mr @Ag4 @Int.toNat_natCast ?_).1
     refine Aa.p (hfo) ?_
     cases hf:EM g.ep (g.bt.take k) b with
     |false=>
      have e:=hno (λh=>by rw[hf]at h;exact absurd h.2 (by decide))
      refine (mp ?_).1
      exact FE b52 [] e
     |true=>
      refine (mq ek ?_).1
      exact⟨k+1,⟨hlt,hnx ⟨hr,hf⟩⟩,by omega,Wk.sel [0] (by simp) rfl (by simp) rfl (by simp[AT]) (by simp[Cq,AT])⟩
   ·have q1:decide ((k:Int)<(g.bt.length:Int))=false:=decide_eq_false (by omega)
    have e:Da g=true:=BP.2 ⟨BV.1 he,h16,λi hi=>hall i (by omega)⟩
    refine (mq q1 ?_).1
    exact FE b52 [] e
  ·have q0:decide ((16:Int)<(g.bt.length:Int))=true:=decide_eq_true (by omega)
   have e:Da g=false:=by
    cases hr:Da g with
    |false=>rfl
    |true=>exact absurd (BP.1 hr).2.1 h16
   refine (mq q0 ?_).1
   exact FE b52 [] e
theorem N5 (g:Gj) (hn:g.bt.length≤1000000) (hb:∀b∈g.bt,b.ok∧E9 b):Ct Tryz.prog 52 [JP g] [] (λ_=>bA (Da g)) [] (λ_=>[]):=(My g hn hb).toCt cl cl
theorem LN (k:Int) (p:List Int) (hk:0≤k∧k<256) (hp:AY p) (hn:p.length≤2000000):An Tryz.prog 109 [O0 k,A9 .u8 p] [] (A9 .u8 (Ac (k::p))) []:=by
 have hb:AY (k::p):=λx hx=>by rcases List.mem_cons.1 hx with rfl|hx;exact hk;exact hp x hx
 have h1:[AV.lit (.int .u8 k)]++A2 .u8 p=A2 .u8 (k::p):=rfl
 have h1':AV.lit (.int .u8 k)::A2 .u8 p=A2 .u8 (k::p):=rfl
 refine RM Tryz.func109 Atc ?_
 (repeat((with_reducible refine And.intro ?_ ?_);(·exact sd)))
 refine (mq h1' ?_).1
 refine Aa.p (TW (k::p) hb (by simp;omega)) ?_;refine (mp ?_).1
 exact FA Atc []
theorem HO (k:Int) (p:List Int) (hk:0≤k∧k<256) (hp:AY p) (hn:p.length≤2000000):Ct Tryz.prog 109 [O0 k,A9 .u8 p] [] (λ_=>A9 .u8 (Ac (k::p))) [] (λ_=>[]):=(LN k p hk hp hn).toCt cl cl
theorem TG {l:List En} (h:Ens l):AY (AL l):=by
 intro x hx
 simp only[AL,List.mem_flatMap]at hx
 obtain⟨e,he,hx⟩:=hx
 exact(h e he).data x hx
theorem Anu {base:Int} {l:List En} (hb:0≤base) (h1:base+l.length<18446744073709551616) (hl:Ens l) (hr:∀i,i<l.length->Cj (base+i) (l.getD i DN)=true):∀k,k≤l.length->AY (IT base (l.take k)):=by
 intro k
 induction k with
 |zero=>intro _ x hx;simp[IT,Gg,BR]at hx
 |succ k ih=>
  intro hk x hx
  rw[Iw (by omega)]at hx
  have hm:l.getD k DN∈l:=by simp[show k<l.length by omega]
  have h2:=D2.1 (hr k (by omega))
  rcases List.mem_append.1 hx with hx|hx
  ·exact ih (by omega) x hx
  ·unfold E3 at hx
   rcases List.mem_append.1 hx with hx|hx
   ·exact M7 (by omega) (by omega) (hl _ hm).lk h2.1 x hx
   ·exact CD (by omega) (by omega) x hx
theorem F7 {b:Bt} (hb:b.ok) (hr:B8 b=true):AY (A6 b):=by
 obtain⟨r1,⟨r2,r2',r2''⟩,r3,r4⟩:=Cs.1 hr
 have b0:=hb.b0
 have h1:=Anu b0 (by omega) hb.en r4 b.en.length (Nat.le_refl _)
 rw[List.take_length]at h1
 intro x hx
 unfold A6 at hx
 rcases List.mem_append.1 hx with hx|hx
 ·exact CD (by omega) (by omega) x hx
 rcases List.mem_append.1 hx with hx|hx
 ·exact CD b0 hb.b1 x hx
 rcases List.mem_append.1 hx with hx|hx
 ·exact CD (by omega) (by omega) x hx
 rcases List.mem_append.1 hx with hx|hx
 ·exact h1 x hx
 ·exact UK r3 (TG hb.en) x hx
theorem hd3 {ep:Int} (he:1≤ep∧ep<4611686018427387904):Bz ⟨3,ep,0⟩=true:=CY.2 ⟨by(try simp only[]);omega,he,by(try simp only[]);omega,.inr rfl⟩
structure SgW (g:Gj):Prop where
 right:Da g=true
 bt:∀b∈g.bt,b.ok∧E9 b
theorem SgW.w {g:Gj} (h:SgW g):∀b∈g.bt,BtW b:=λb hb=>by
 obtain⟨i,hi,rfl⟩:=List.getElem_of_mem hb
 have h1:=((BP.1 h.right).2.2 i hi).1
 have e:g.bt.getD i BZ=g.bt[i]:=by simp[hi]
 rw[e]at h1
 exact⟨(h.bt _ hb).1,(h.bt _ hb).2,h1⟩
theorem Lr {b:Bt} (h:BtW b):((Ac (1::A6 b)).length:Int)≤2200000∧0<(Ac (1::A6 b)).length:=by
 have h1:=(IL h).2.2
 have h2:=Bh (1::A6 b)
 simp only[List.length_cons]at h2
 omega
theorem KV {l:List Bt} (h:∀b∈l,BtW b):((Bq l).length:Int)≤2200000*l.length:=by
 induction l with
 |nil=>simp[Bq]
 |cons b l ih=>
  have h1:=ih λx hx=>h x (by simp[hx])
  have h2:=Lr (h b (by simp))
  rw[FR,List.length_append,List.length_cons]
  omega
theorem QY (ep:Int):9≤(Am ⟨3,ep,0⟩).length∧(Am ⟨3,ep,0⟩).length≤40:=by
 have h1:=Ea ⟨3,ep,0⟩
 have h2:=(Bd ep).2
 have h3:(AH ⟨3,ep,0⟩).length=5+(vb ep).length:=by unfold AH BF;simp;omega
 omega
theorem I7 {g:Gj} (h:SgW g):AZ (BU g)=true:=by
 obtain⟨h1,h2,h3⟩:=BP.1 h.right
 have hl:=QY g.ep
 unfold AZ
 rw[Bool.and_eq_true,decide_eq_true_eq]
 refine⟨MI g.bt 0 0 _ (Lb h.right λb hb=>(h.bt b hb).1) (by omega) (λb hb=>Lr (h.w b hb)) (by omega),?_⟩
 unfold BU
 rw[C8];exact h2
theorem Vx {g:Gj} (h:SgW g):Az (BY g)=true∧(BY g).ok:=by
 obtain⟨h1,h2,h3⟩:=BP.1 h.right
 have hl:=QY g.ep
 have hb:=KV h.w
 have hp:(Dn g).length=(Am ⟨3,g.ep,0⟩).length+(Bq g.bt).length:=by unfold Dn;rw[List.length_append]
 have hm:=(Dp (BU g)).1
 have hm2:=(Bc.1 (I7 h)).2
 have hf:=Bh (2::AO (BU g))
 simp only[List.length_cons]at hf
 exact Lu (I7 h) h1 (by omega) (by omega)
abbrev wrA (b:List Int) (m:List Mk) (f:Ft):AV:=.agg [A9 .u8 b,Fv m,uA f.ep,iA f.bat,iA f.ent,uA f.fst,uA f.fin,iA f.at_,iA f.size]
set_option maxHeartbeats 2000000 in
set_option maxRecDepth 100000 in
theorem Mx (g:Gj) (h:SgW g):An Tryz.prog 53 [JP g] [] (wrA (CK g) (BU g) (BY g)) []:=by
 obtain⟨h1,h2,h3⟩:=BP.1 h.right
 have hl:=QY g.ep
 have hrm:=I7 h
 have hbl:=KV h.w
 obtain⟨hrf,hfo⟩:=Vx h
 have hho:=Ou ⟨3,g.ep,0⟩ (hd3 h1) (Int.le_refl 0)
 have eB:CK g=Dn g++Ac (2::AO (BU g))++Eu (BY g):=rfl
 have eP:Dn g=Am ⟨3,g.ep,0⟩++Bq g.bt:=rfl
 have eM:BU g=CR (Am ⟨3,g.ep,0⟩).length g.bt:=rfl
 have eF:BY g=GJ g.ep (BU g) (Dn g).length (Ac (2::AO (BU g))).length:=rfl
 obtain⟨HB,hHB⟩:∃HB,Am ⟨3,g.ep,0⟩=HB:=⟨_,rfl⟩
 rw[hHB]at hho eP eM hl
 obtain⟨W,hW⟩:∃W:Nat->List Int,W=λk=>HB++Bq (g.bt.take k):=⟨_,rfl⟩
 obtain⟨M,hM⟩:∃M:Nat->List Mk,M=λk=>CR HB.length (g.bt.take k):=⟨_,rfl⟩
 have hW0:W 0=HB:=by rw[hW];simp[Bq]
 have hM0:M 0=[]:=by rw[hM];simp[CR]
 have hWn:W g.bt.length=Dn g:=by rw[hW,eP];simp
 have hMn:M g.bt.length=BU g:=by rw[hM,eM];simp
 have hMl:∀k,k≤g.bt.length->(M k).length=k:=λk hk=>by rw[hM];simp only;rw[C8,List.length_take];omega
 have hlen:∀k,k≤g.bt.length->(W k).length≤40000000:=λk hk=>by
  have h4:=KV (l:=g.bt.take k) λb hb=>h.w b (List.mem_of_mem_take hb)
  rw[List.length_take]at h4
  rw[hW];simp only[List.length_append];omega
 have hWs:∀k,k<g.bt.length->W k++Ac (1::A6 (g.bt.getD k BZ))=W (k+1):=λk hk=>by
  rw[hW];simp only;rw[Yz g.bt k hk,JA,List.append_assoc]
 have hMs:∀k,k<g.bt.length->M k++[⟨(g.bt.getD k BZ).base,(g.bt.getD k BZ).en.length,(W k).length⟩]=M (k+1):=λk hk=>by
  rw[hM,hW];simp only;rw[Yz g.bt k hk,HU,List.length_append];simp
 have hpl:=(Dp (BU g)).1
 have hm2:=(Bc.1 hrm).2
 have hfl:=Bh (2::AO (BU g))
 simp only[List.length_cons]at hfl
 have hixl:(Ac (2::AO (BU g))).length≤600:=by omega
 have hir:Pi (BU g)=AO (BU g):=by unfold Pi;rw[if_pos hrm]
 have hie:(if AZ (BU g)=true then(0:Int)else 3)=0:=if_pos hrm
 have hrec:=HO 2 (AO (BU g)) (by omega) (FK (Bc.1 hrm).1 (by omega)) (by omega)
 have hix:=TN (BU g) (Fk hrm) (by omega)
 rw[hir,hie]at hix
 have hfb:=Q8 (BY g) hfo
 rw[show Ic (BY g)=Eu (BY g)from by unfold Ic;rw[if_pos hrf]]at hfb
 have hfbl:(Eu (BY g)).length≤200:=by
  have h4:=E0 (BY g)
  have h5:=Bh (Bj (BY g))
  have h6:=Dk ((Ac (Bj (BY g))).length:Int)
  unfold Eu
  rw[List.length_append];omega
 have hft:=HP g.ep (BU g) (Dn g).length (Ac (2::AO (BU g))).length (Fk hrm) (by omega)
 rw[←eF]at hft
 obtain⟨R,hR⟩:∃R,CK g=R:=⟨_,rfl⟩
 obtain⟨F,hF⟩:∃F,BY g=F:=⟨_,rfl⟩
 obtain⟨MM,hMM⟩:∃MM,BU g=MM:=⟨_,rfl⟩
 obtain⟨PP,hPP⟩:∃PP,Dn g=PP:=⟨_,rfl⟩
 rw[hF,hMM,hPP]at hft eB
 rw[hR]at eB
 rw[hMM]at hrec hix hMn
 rw[hPP]at hWn
 rw[hF]at hfb hfbl
 obtain⟨IX,hIX⟩:∃IX,Ac (2::AO MM)=IX:=⟨_,rfl⟩
 rw[hMM,hIX]at hixl
 rw[hIX]at hrec eB hft
 rw[hF,hR,hMM]
 refine RM Tryz.func53 b53 ?_
 refine Aa.n (hho) (mp ?_).1
 refine AM (α:=Nat) (λk=>[.any,.ref 0 0,.ref 1 0,.ref 2 0,.any,.any,.any,.any,.any,.any,.any,.any,.any,.any,.any,.any,.any,.any,.any,.any,.any,.any,slB g.bt,iA g.bt.length,iA k,.any,.any,.any,.any,.any,.any,.any,.any,.any,.any,.any,.any,.any,.any,.any,.any,.any,.any,.any,.any,.any,.any,.any,.any,.any,.any,.any,.any,.any,.any,.any,.any,.any,.any,.any,.any,.any,.any,.any,.any,.any,.any,.any,.any,.any,.any,.any,.any,.any,.any,.any,.any,.any,.any,.any,.any,.any,.any,.any,.any,.any,.any]) (λk=>[Vt g,.cells [.sl .full 1 [],.sl .full 1 [],uA 0,iA 0,iA 0,uA 0,uA 0,iA 0,iA 0],.cells [HS 3 (W k),.sl (.row 4) 3 (HG (M k)),uA 0,iA 0,iA 0,uA 0,uA 0,iA 0,iA 0],.row 1 (W k).length,.row 3 k]) (λk=>k≤g.bt.length) (λk=>g.bt.length-k) 0 (by simp) ((Wk.rowObj 2 1 3 rfl rfl (.inr rfl) (by omega)).trans (Wk.to (by simp[hW0,hM0,HG]) (by simp[Ca,AG]))) ?_
 intro k hk
 have hlk:=hlen k hk
 have hmk:=hMl k hk
 refine (mp ?_).1
 by_cases hlt:k<g.bt.length
 ·have q1:decide ((k:Int)<(g.bt.length:Int))=true:=decide_eq_true (by omega)
  have ek:=AJ k (by omega)
  have hg:=Km g.bt k hlt
  have hmem:g.bt.getD k BZ∈g.bt:=by simp[hlt]
  have hw:=h.w _ hmem
  have hwn:=hWs k hlt
  have hmn:=hMs k hlt
  have hlk1:=hlen (k+1) hlt
  obtain⟨b,hbb⟩:∃b,g.bt.getD k BZ=b:=⟨_,rfl⟩
  rw[hbb]at hg hw hwn hmn
  have hcl:=IL hw
  have hrc:=HO 1 (A6 b) (by omega) (F7 hw.ok hw.right) (by omega)
  have hll:(W k).length+(Ac (1::A6 b)).length=(W (k+1)).length:=by rw[←hwn,List.length_append]
  have hma:HG (M k)++[Wb ⟨b.base,b.en.length,(W k).length⟩]=HG (M (k+1)):=by rw[←hmn,F0]
  refine (mt q1 hg @AG @Int.toNat_natCast ?_).1
  (repeat((with_reducible refine And.intro ?_ ?_);(·exact sd)))
  have hml:(HG (M k)).length=k:=by rw[Ap];exact hmk
  refine Aa.p (US b hw) (mt @AA @Ab hma hml ?_).1
  (repeat((with_reducible refine And.intro ?_ ?_);(·exact sd)))
  refine Aa.p (hrc) ?_;simp only[go_sem,seval,CV,Ab,hwn,hll,ek];refine (mok ?_).1
  (repeat((with_reducible refine And.intro ?_ ?_);(·first|exact sd|(simp[Ab,A8,AV.parts,Ab];done)|(simp[Ab,A8,AV.parts,Ab];omega))))
  exact⟨k+1,hlt,by omega,Wk.sel [0,1,2,3,4] (by simp) rfl (by simp) rfl (by simp[AT,AK,Em,L3]) (by simp[Cq,AT,AN,AK,Em,L3])⟩
 ·have q1:decide ((k:Int)<(g.bt.length:Int))=false:=decide_eq_false (by omega)
  have ek:k=g.bt.length:=by omega
  subst ek
  rw[hWn]at hlk
  rw[hWn,hMn]
  refine (mq q1 ?_).1
  refine Aa.p (hix) (mp ?_).1
  refine Aa.p (hrec) (mq @Ab ?_).1
  refine Aa.p (hft) (mp ?_).1
  refine Aa.p (hfb) ?_;simp only[go_sem,seval,CV,Ab,←List.append_assoc,←eB];refine (mok ?_).1
  refine⟨by omega,by rw[List.length_append];omega,by rw[List.length_append],?_⟩
  (refine AF.wao (ys:=[A9 .u8 R,Fv MM,uA F.ep,iA F.bat,iA F.ent,uA F.fst,uA F.fin,iA F.at_,iA F.size]) 1 rfl (by repeat(first|exact Wa.refl _|exact Bo.nil|exact Wa.nil|exact Wa.none|refine Bo.cons ?_ ?_|refine Wa.agg ?_|refine Wa.slN ?_|refine Wa.slS ?_|exact Bo.refl _)) ?_;simp only[List.set_cons_zero,List.set_cons_succ])
  exact FA b53 []
theorem N4 (g:Gj) (h:SgW g):Ct Tryz.prog 53 [JP g] [] (λ_=>wrA (CK g) (BU g) (BY g)) [] (λ_=>[]):=(Mx g h).toCt cl cl
def Ib (g:Gj):List Int:=if Da g=true then CK g else[]
def Uf (g:Gj):Int:=if Da g=true then 0 else 3
set_option maxRecDepth 100000 in
theorem MA (g:Gj) (hn:g.bt.length≤1000000) (hb:∀b∈g.bt,b.ok∧E9 b):An Tryz.prog 17 [JP g] [] (.tup [A9 .u8 (Ib g),iA (Uf g)]) []:=by
 refine RM Tryz.func17 b17 ?_
 refine Aa.p (N5 g hn hb) ?_
 cases hr:Da g with
 |false=>
  have e1:Ib g=[]:=by unfold Ib;rw[hr];rfl
  have e2:Uf g=3:=by unfold Uf;rw[hr];rfl
  refine (mp ?_).1
  (refine AF.untag 2 rfl ?_;simp only[Au,List.set_cons_zero,List.set_cons_succ])
  exact FF b17 [] e1 e2
 |true=>
  have e1:Ib g=CK g:=by unfold Ib;rw[hr];rfl
  have e2:Uf g=0:=by unfold Uf;rw[hr];rfl
  refine (mp ?_).1
  refine Aa.p (N4 g ⟨hr,hb⟩) (mp ?_).1
  exact FF b17 [] e1 e2
theorem N6 (g:Gj) (hn:g.bt.length≤1000000) (hb:∀b∈g.bt,b.ok∧E9 b):Ct Tryz.prog 17 [JP g] [] (λ_=>.tup [A9 .u8 (Ib g),iA (Uf g)]) [] (λ_=>[]):=(MA g hn hb).toCt cl cl
def Eb (b:List Int):Hd×Int×(Int×Int):=if(RS.new b).header.1.code=0 then((RS.new b).header.2,(RS.new b).header.1.at_,(0,0))else(Lp,0,((RS.new b).header.1.code,(RS.new b).header.1.fat))
inductive Ev where
 |item (a:Int) (b:Bt)
 |oth (k a c:Int)
structure PS where
 ph:Nat
 buf:List Int
 fst:Int
 fed:Int
 ended:Int
 ep:Int
 lep:Int
 lbase:Int
 ln:Nat
 ms:List Mk
 want:Ft
 foot:Int
 out:List Ev
def GA:PS:=⟨0,[],0,0,0,0,0,0,0,[],JH,0,[]⟩
def BX (b:List Int):List Int×Int×Bool×(Int×Int):=
 if Dw b 2097152=true∧(b.length:Int)<Eh b 2097152 then([],0,false,(0,0))
 else if(BA b 2097152).2.2.1=1 then([],0,false,(0,0))
 else((BA b 2097152).1,(BA b 2097152).2.1-4-(BA b 2097152).1.length,(BA b 2097152).2.2.1==0,(BA b 2097152).2.2)
def PS.header (s:PS):PS×Bool×(Int×Int):=
 if(Eb s.buf).2.2.1=1 then(s,false,(0,0))
 else if(Eb s.buf).2.2.1=0 then(if(Eb s.buf).1.ver=3 then({s with ph:=1,ep:=(Eb s.buf).1.ep},true,(0,0))else(s,false,(8,4)))
 else(s,false,(Eb s.buf).2.2)
def PS.batC (s:PS) (b:Bt):Int:=if s.ms.length=16 then 2 else if s.ep<b.ep∨(0<s.ms.length∧(b.ep<s.lep∨b.base<s.lbase+s.ln))then 13 else 0
def PS.bat (s:PS) (b:Bt):PS:={s with ms:=s.ms++[⟨b.base,b.en.length,s.fst⟩],lep:=b.ep,lbase:=b.base,ln:=b.en.length,out:=s.out++[.item s.fst b]}
def PS.batch (s:PS) (q:RS):(PS×Int)×RS:=
 if(q.btch RS.blk).1.rest9.code=0 then(if s.batC (q.btch RS.blk).2=0 then(s.bat (q.btch RS.blk).2,0)else(s,s.batC (q.btch RS.blk).2),(q.btch RS.blk).1.rest9)else((s,0),(q.btch RS.blk).1.rest9)
def PS.idx (s:PS) (l:List Mk):PS:={s with ph:=2,want:=⟨s.ep,l.length,if AZ l=true then DK l l.length else 0,(Ed l).1,(Ed l).2,s.fst,s.buf.length⟩}
def PS.index (s:PS) (q:RS):(PS×Int)×RS:=
 if q.marks.1.rest9.code=0 then(if q.marks.2=s.ms then(s.idx q.marks.2,0)else(s,12),q.marks.1.rest9)else((s,0),q.marks.1.rest9)
def PS.takes (s:PS) (p:List Int):(PS×Int)×RS:=
 if(RS.new p).byte.2=1 then s.batch (RS.new p).byte.1 else if(RS.new p).byte.2=2 then s.index (RS.new p).byte.1 else((s,0),(RS.new p).byte.1.fail 7 0)
def PS.record (s:PS):PS×Bool×(Int×Int):=
 if(BX s.buf).2.2.1=true then
  (if(s.takes (BX s.buf).1).2.code=0 then((s.takes (BX s.buf).1).1.1,(s.takes (BX s.buf).1).1.2==0,BW (s.takes (BX s.buf).1).1.2 0)
   else((s.takes (BX s.buf).1).1.1,false,((s.takes (BX s.buf).1).2.code,(s.takes (BX s.buf).1).2.fat+(BX s.buf).2.1)))
 else(s,false,(BX s.buf).2.2.2)
def PS.footer (s:PS):PS×Bool×(Int×Int):=
 if(BX s.buf).2.2.1=true then
  (if(Bs (BX s.buf).1).2.1=0 then(if(Bs (BX s.buf).1).1=s.want then({s with ph:=3,foot:=s.buf.length},true,(0,0))else(s,false,(12,0)))
   else(s,false,((Bs (BX s.buf).1).2.1,(Bs (BX s.buf).1).2.2+(BX s.buf).2.1)))
 else(s,false,(BX s.buf).2.2.2)
def PS.trailer (s:PS):PS×Bool×(Int×Int):=
 if s.buf.length<12 then(s,false,(0,0))else if s.buf=A0 s.foot then({s with ph:=4},true,(0,0))else(s,false,(12,0))
def PS.rest (s:PS):PS×Bool×(Int×Int):=(s,false,(9,0))
def PS.step (s:PS):PS×Bool×(Int×Int):=
 match s.ph with
 |0=>s.header
 |1=>s.record
 |2=>s.footer
 |3=>s.trailer
 |_=>s.rest
def PS.fin (r:PS×Bool×(Int×Int)):PS:=
 if r.2.2.1=0 then(if r.2.1=true then{r.1 with fst:=r.1.fed,buf:=[]}else r.1)
 else{r.1 with out:=r.1.out++[.oth 4 (r.2.2.2+r.1.fst) r.2.2.1],ended:=4,buf:=[]}
def PS.add (s:PS) (c:Int):PS:={s with buf:=s.buf++[c],fed:=s.fed+1}
def PS.one (s:PS) (c:Int):PS:=PS.fin (s.add c).step
def PS.nild (s:PS) (c:Int):Bool:= !((s.add c).step.2.2.1==0)||(s.add c).step.2.1
def PS.feed (s:PS):List Int->PS
 |[]=>s
 |c::l=>if s.ended=0 then(s.one c).feed l else s
def PS.whole (s:PS):Bool:=decide (0<s.foot)&&(decide (s.buf.length=0)&&decide (s.fed=s.want.at_+s.want.size+s.foot+12))
def PS.close (s:PS):PS×List Ev:=
 if s.ended=0 then(if s.whole=true then({s with ended:=2,buf:=[]},[.oth 2 s.fed 0])else({s with ended:=3,buf:=[]},[.oth 3 s.fed 1]))else(s,[])
theorem Jf {b:List Int} (hb:AY b) (hn:b.length≤1000000):AY (BX b).1∧(BX b).1.length≤1000000∧0≤(BX b).2.1+2000000∧(BX b).2.1≤1000000∧((BX b).2.2.1=true->0≤(BX b).2.1):=by
 have hgi:=λhc=>Ix (b:=b) (m:=2097152) hb (by omega) hc
 have hgb:=λhc=>TS (b:=b) (m:=2097152) hc
 unfold BX
 split
 ·exact⟨λx hx=>by simp at hx,by simp,by simp,by simp,λh=>by simp at h⟩
 ·split
  ·exact⟨λx hx=>by simp at hx,by simp,by simp,by simp,λh=>by simp at h⟩
  ·by_cases hc:(BA b 2097152).2.2.1=0
   ·obtain⟨_,a2,_,a4,a5,a6⟩:=hgi hc
    have h1:=congrArg List.length a6
    have h2:=Bh (BA b 2097152).1
    rw[List.length_take]at h1
    exact⟨a2,by(try simp only[]);omega,by(try simp only[]);omega,by(try simp only[]);omega,λ_=>by(try simp only[]);omega⟩
   ·obtain⟨a1,a2⟩:=hgb hc
    refine⟨by rw[a1];exactλx hx=>by simp at hx,by rw[a1];simp,by rw[a1,a2];simp,by rw[a1,a2];simp,λh=>?_⟩
    exact absurd (by simpa using h) hc
theorem Fa.lets {s:RS} (h:Fa s) (hs:Av s):Fa s.lets:=by
 unfold RS.lets;split
 ·exact(h.take hs 4).failAt hs (hs.ok.take 4).2 _
 ·exact h.take hs 4
theorem Fa.vers {s:RS} (h:Fa s) (hs:Av s):Fa s.vers.1:=by
 unfold RS.vers
 repeat' split
 ·exact h.take hs 1
 ·exact(h.take hs 1).failAt hs (hs.ok.take 1).2 _
 ·exact h.take hs 1
theorem Fa.hplain {s:RS} (h:Fa s) (hs:Av s):Fa s.hplain.1:=by
 obtain⟨a1,a2⟩:=Iu hs
 obtain⟨b1,b2⟩:=Ku a1
 obtain⟨c1,c2⟩:=Bu b1 Aj
 have hb:=((h.lets hs).vers a1).epo b1 Aj
 show Fa ((s.hbegin.1.epo Aj).1.hbase s.hbegin.2).1
 unfold RS.hbase
 split
 ·exact Fa.epo hb c1 Bb
 ·exact hb
theorem Fa.fixed {s:RS} (h:Fa s) (hs:Av s) (n:Int):Fa (s.fixed n).1:=by
 unfold RS.fixed
 first|exact h.take hs n|(split<;>exact h.take hs n)
theorem Fa.header {s:RS} (h:Fa s) (hs:Av s):Fa s.header.1:=by
 obtain⟨a1,a2⟩:=F2 hs
 have hf:=(h.hplain hs).fixed a1 4
 unfold RS.header
 repeat' split
 ·exact hf
 ·exact hf.failAt a1 (Hi a1 4).2 _
 ·exact hf
theorem Aav {b:List Int} (hb:AY b) (hn:b.length≤1000000):0≤(Eb b).2.2.2∧(Eb b).2.2.2≤1000000:=by
 have hok:Av (RS.new b):=Av.new hb (by omega)
 have hf:=(Fa.new b).header hok
 unfold Fa at hf
 rw[(Ln hok).2]at hf
 have hnl:(RS.new b).l.length=b.length:=rfl
 unfold Eb
 split
 ·simp
 ·simp only[];omega
theorem Aek {b:List Int} (hb:AY b) (hn:b.length≤1000000):0≤(BX b).2.2.2.2∧(BX b).2.2.2.2≤1000000:=by
 have hok:Av (RS.new b):=Av.new hb (by omega)
 have hff:=(Fa.new b).frame hok 2097152
 have hfl:=(CL hok 2097152).2
 unfold Fa at hff
 rw[hfl]at hff
 have hnl:(RS.new b).l.length=b.length:=rfl
 unfold BX
 split
 ·simp
 ·split
  ·simp
  ·unfold BA
   split
   ·simp
   ·simp only[];omega
structure Dc (s:PS):Prop where
 bb:AY s.buf
 bl:(s.buf.length:Int)≤s.fed
 f0:0≤s.fst
 f1:s.fst≤s.fed
 f2:s.fed≤1000000
 ol:(s.out.length:Int)≤2*s.fed
 ml:s.ms.length≤16
 ln:s.ln≤16
 b0:0≤s.lbase
 b1:s.lbase≤4611686018427387904
 t0:0≤s.foot
 t1:s.foot≤1000000
 a0:0≤s.want.at_
 a1:s.want.at_≤1000000
 z0:0≤s.want.size
 z1:s.want.size≤1000000
theorem Dc.len {s:PS} (h:Dc s):s.buf.length≤1000000:=by have:=h.bl;have:=h.f2;omega
structure Kp (s t:PS):Prop where
 buf:t.buf=s.buf
 fst:t.fst=s.fst
 fed:t.fed=s.fed
 ended:t.ended=s.ended
 out:t.out.length≤s.out.length+1
theorem Kp.refl (s:PS):Kp s s:=⟨rfl,rfl,rfl,rfl,by omega⟩
theorem Dc.to {s t:PS} (h:Dc s) (k:Kp s t) (ho:(s.out.length:Int)+1≤2*s.fed) (ml:t.ms.length≤16) (ln:t.ln≤16) (b0:0≤t.lbase) (b1:t.lbase≤4611686018427387904) (t0:0≤t.foot) (t1:t.foot≤1000000) (a0:0≤t.want.at_) (a1:t.want.at_≤1000000) (z0:0≤t.want.size) (z1:t.want.size≤1000000):Dc t:=
 ⟨by rw[k.buf];exact h.bb,by rw[k.buf,k.fed];exact h.bl,by rw[k.fst];exact h.f0,by rw[k.fst,k.fed];exact h.f1,by rw[k.fed];exact h.f2,by have:=k.out;rw[k.fed];omega,ml,ln,b0,b1,t0,t1,a0,a1,z0,z1⟩
theorem Zb {s:PS} (h:Dc s) (ho:(s.out.length:Int)+1≤2*s.fed) {p:List Int} (hp:AY p) (hn:p.length≤1000000):Dc (s.takes p).1.1∧Kp s (s.takes p).1.1∧Av (s.takes p).2∧(s.takes p).2.l=p∧Fa (s.takes p).2:=by
 have hl:=h.len
 have hok:Av (RS.new p):=Av.new hp (by omega)
 obtain⟨q1,q2⟩:=RS.ok.byte_ hok
 have qf:=(Fa.new p).byte hok
 unfold PS.takes
 split
 ·obtain⟨k1,k2⟩:=DG q1 λs h=>B_ h
  have kf:=(qf.btch q1 (λs h=>B_ h) (λs h hf=>hf.blk h)).rest9 k1
  obtain⟨r1,r2⟩:=CZ k1
  have hB:=(NN q1 GW).1
  unfold PS.batch
  split
  ·split
   ·rename_i _ hc
    have hms:¬s.ms.length=16:=by
     intro h16
     unfold PS.batC at hc
     rw[if_pos h16]at hc
     exact absurd hc (by decide)
    have hml:=h.ml
    have hsum:=hB.sum
    have hK:Kp s (s.bat ((RS.new p).byte.1.btch RS.blk).2):=⟨rfl,rfl,rfl,rfl,by simp[PS.bat]⟩
    exact⟨h.to hK ho (by simp[PS.bat];omega) hB.len hB.ok.b0 (by show((RS.new p).byte.1.btch RS.blk).2.base≤_;omega) h.t0 h.t1 h.a0 h.a1 h.z0 h.z1,hK,r1,r2.trans (k2.trans q2),kf⟩
   ·exact⟨h,Kp.refl s,r1,r2.trans (k2.trans q2),kf⟩
  ·exact⟨h,Kp.refl s,r1,r2.trans (k2.trans q2),kf⟩
 ·split
  ·obtain⟨k1,k2⟩:=DF DR q1 16
   have kf:=(qf.marks q1).rest9 k1
   obtain⟨r1,r2⟩:=CZ k1
   unfold PS.index
   split
   ·split
    ·have hK:Kp s (s.idx (RS.new p).byte.1.marks.2):=⟨rfl,rfl,rfl,rfl,by simp[PS.idx]⟩
     have f1:=h.f1
     have f2:=h.f2
     exact⟨h.to hK ho h.ml h.ln h.b0 h.b1 h.t0 h.t1 h.f0 (by show s.fst≤_;omega) (by show(0:Int)≤s.buf.length;omega) (by show(s.buf.length:Int)≤_;omega),hK,r1,r2.trans (k2.trans q2),kf⟩
    ·exact⟨h,Kp.refl s,r1,r2.trans (k2.trans q2),kf⟩
   ·exact⟨h,Kp.refl s,r1,r2.trans (k2.trans q2),kf⟩
  ·exact⟨h,Kp.refl s,q1.fail _ _,by rw[Bl];exact q2,qf.fail (Int.le_refl _) (by omega)⟩
theorem JM {s:PS} (h:Dc s) (ho:(s.out.length:Int)+1≤2*s.fed):Dc s.step.1∧Kp s s.step.1∧ -2000000≤s.step.2.2.2∧s.step.2.2.2≤4000000:=by
 have hl:=h.len
 have gf:=Aav h.bb hl
 have pf:=Aek h.bb hl
 obtain⟨p1,p2,p3,p4,p5⟩:=Jf h.bb hl
 unfold PS.step
 split
 ·have hK:Kp s {s with ph:=1,ep:=(Eb s.buf).1.ep}:=⟨rfl,rfl,rfl,rfl,by simp⟩
  unfold PS.header
  split
  ·exact⟨h,Kp.refl s,by simp,by simp⟩
  ·split
   ·split
    ·exact⟨h.to hK ho h.ml h.ln h.b0 h.b1 h.t0 h.t1 h.a0 h.a1 h.z0 h.z1,hK,by simp,by simp⟩
    ·exact⟨h,Kp.refl s,by simp,by simp⟩
   ·exact⟨h,Kp.refl s,by(try simp only[]);omega,by(try simp only[]);omega⟩
 ·obtain⟨t1,t2,t3,t4,t5⟩:=Zb h ho p1 p2
  unfold Fa at t5
  rw[t4]at t5
  unfold PS.record
  split
  ·split
   ·refine⟨t1,t2,?_,?_⟩
    ·show-2000000≤(BW _ 0).2
     unfold BW;split<;>simp
    ·show(BW _ 0).2≤4000000
     unfold BW;split<;>simp
   ·exact⟨t1,t2,by(try simp only[]);omega,by(try simp only[]);omega⟩
  ·exact⟨h,Kp.refl s,by(try simp only[]);omega,by(try simp only[]);omega⟩
 ·have hK:Kp s {s with ph:=3,foot:=(s.buf.length:Int)}:=⟨rfl,rfl,rfl,rfl,by simp⟩
  have hrf:=G6 (p:=(BX s.buf).1) p1 (by omega)
  unfold PS.footer
  split
  ·split
   ·split
    ·exact⟨h.to hK ho h.ml h.ln h.b0 h.b1 (by(try simp only[]);omega) (by(try simp only[]);omega) h.a0 h.a1 h.z0 h.z1,hK,by simp,by simp⟩
    ·exact⟨h,Kp.refl s,by simp,by simp⟩
   ·exact⟨h,Kp.refl s,by(try simp only[]);omega,by(try simp only[]);omega⟩
  ·exact⟨h,Kp.refl s,by(try simp only[]);omega,by(try simp only[]);omega⟩
 ·have hK:Kp s {s with ph:=4}:=⟨rfl,rfl,rfl,rfl,by simp⟩
  unfold PS.trailer
  split
  ·exact⟨h,Kp.refl s,by simp,by simp⟩
  ·split
   ·exact⟨h.to hK ho h.ml h.ln h.b0 h.b1 h.t0 h.t1 h.a0 h.a1 h.z0 h.z1,hK,by simp,by simp⟩
   ·exact⟨h,Kp.refl s,by simp,by simp⟩
 ·exact⟨h,Kp.refl s,by simp[PS.rest],by simp[PS.rest]⟩
theorem K3 {s:PS} (h:Dc s) {c:Int} (hc:0≤c∧c<256) (hf:s.fed+1≤1000000):Dc (s.add c)∧((s.add c).out.length:Int)+2≤2*(s.add c).fed:=by
 have bl:=h.bl
 have ol:=h.ol
 have f1:=h.f1
 refine⟨⟨λx hx=>?_,by simp[PS.add];omega,h.f0,by show s.fst≤s.fed+1;omega,hf,by show(s.out.length:Int)≤2*(s.fed+1);omega,h.ml,h.ln,h.b0,h.b1,h.t0,h.t1,h.a0,h.a1,h.z0,h.z1⟩,by show(s.out.length:Int)+2≤2*(s.fed+1);omega⟩
 rcases List.mem_append.1 hx with hx|hx
 ·exact h.bb x hx
 ·simp at hx;subst hx;exact hc
theorem V7 {s:PS} (h:Dc s) {c:Int} (hc:0≤c∧c<256) (hf:s.fed+1≤1000000):Dc (s.one c)∧(s.one c).fed=s.fed+1∧(s.nild c=true->(s.one c).buf=[])∧(s.nild c=false->s.one c=(s.add c).step.1):=by
 obtain⟨a1,a2⟩:=K3 h hc hf
 obtain⟨s1,s2,_,_⟩:=JM a1 (by omega)
 have e1:(s.add c).fed=s.fed+1:=rfl
 have e2:=s2.fed
 have e3:=s2.out
 have f0:=s1.f0
 have f1:=s1.f1
 have f2:=s1.f2
 unfold PS.one PS.fin PS.nild
 by_cases hz:(s.add c).step.2.2.1=0
 ·rw[if_pos hz]
  by_cases hw:(s.add c).step.2.1=true
  ·rw[if_pos hw]
   refine⟨⟨λx hx=>by simp at hx,by simp;omega,by(try simp only[]);omega,by(try simp only[]);omega,f2,by(try simp only[]);omega,s1.ml,s1.ln,s1.b0,s1.b1,s1.t0,s1.t1,s1.a0,s1.a1,s1.z0,s1.z1⟩,by(try simp only[]);omega,λ_=>rfl,λh=>?_⟩
   rw[hw]at h;simp at h
  ·rw[if_neg hw]
   refine⟨s1,by omega,λh=>?_,λ_=>rfl⟩
   rw[hz]at h;simp at h;exact absurd h hw
 ·rw[if_neg hz]
  refine⟨⟨λx hx=>by simp at hx,by simp;omega,f0,f1,f2,by simp only[List.length_append,List.length_singleton];omega,s1.ml,s1.ln,s1.b0,s1.b1,s1.t0,s1.t1,s1.a0,s1.a1,s1.z0,s1.z1⟩,by(try simp only[]);omega,λ_=>rfl,λh=>?_⟩
  have h':(((s.add c).step.2.2.1==0)=false):=by simpa using hz
  rw[h']at h;simp at h
def PS.feedS (s:PS):List Int->Option Nat->PS×Option Nat
 |[],st=>(s,st)
 |c::l,st=>if s.ended=0 then(s.one c).feedS l (if s.nild c=true then some (st.getD (s.buf.length+1))else st)else(s,st)
theorem Abc:∀(l:List Int) (s:PS) (st:Option Nat),(s.feedS l st).1=s.feed l:=by
 intro l
 induction l with
 |nil=>intro s st;rfl
 |cons c l ih=>
  intro s st
  simp only[PS.feedS,PS.feed]
  split
  ·exact ih _ _
  ·rfl
theorem Akw:∀(l:List Int) (s:PS),Dc s->AY l->s.fed+l.length≤1000000->Dc (s.feed l)∧(s.feed l).fed≤s.fed+l.length:=by
 intro l
 induction l with
 |nil=>intro s h _ hn;exact⟨h,by simp[PS.feed]⟩
 |cons c l ih=>
  intro s h hb hn
  simp only[PS.feed]
  rw[List.length_cons]at hn ⊢
  split
  ·obtain⟨o1,o2,_,_⟩:=V7 h (hb c (by simp)) (by omega)
   obtain⟨i1,i2⟩:=ih (s.one c) o1 (λx hx=>hb x (by simp[hx])) (by omega)
   exact⟨i1,by omega⟩
  ·exact⟨h,by omega⟩
def CtN (P:Program) (f:FuncId) (args:List AV) (rd:List (Nat×Ad)) (r:Nat->AV) (upd:Nat->List (Nat×Ad)) (new:Nat->List Ad):Prop:=
 ∀T n,(∀p∈rd,T[p.1]? =some p.2)->(∀p∈BG n (new n),T[p.1]? =some .dead)->An P f args T (r n) (CA T (upd n++BG n (new n)))
theorem CtN.mk {P:Program} {f:FuncId} {args args₀:List AV} {S₀ S₁:List Ad} {r₀:AV} {r:Nat->AV} {rd:List (Nat×Ad)} {upd:Nat->List (Nat×Ad)} {new:Nat->List Ad} (h:An P f args₀ S₀ r₀ S₁) (is:List Nat) (hn:is.Nodup) (hl:is.length=S₀.length) (hSl:S₀.length≤S₁.length)
 (hal:∀o∈S₀,o≠ .dead) (ha:∀n N,args₀.map (λx=>x.ren (AK (is++List.range' n (S₁.length-S₀.length)) N))=args) (hr:∀n N,r₀.ren (AK (is++List.range' n (S₁.length-S₀.length)) N)=r n)
 (hrd:∀n N,is.zip (S₀.map λo=>o.ren (AK (is++List.range' n (S₁.length-S₀.length)) N))=rd)
 (hupd:∀n N,is.zip ((S₁.take S₀.length).map λo=>o.ren (AK (is++List.range' n (S₁.length-S₀.length)) N))=upd n)
 (hnew:∀n N,((S₁.drop S₀.length).map λo=>o.ren (AK (is++List.range' n (S₁.length-S₀.length)) N))=new n):CtN P f args rd r upd new:=by
 intro T n hT hd
 have hln:(new n).length=S₁.length-S₀.length:=by rw[←hnew n T.length];simp
 have hat:∀(k:Nat) (o:Ad),S₀[k]? =some o->∃i,(is++List.range' n (S₁.length-S₀.length))[k]? =some i∧T[i]? =some (o.ren (AK (is++List.range' n (S₁.length-S₀.length)) T.length)):=by
  intro k o ho
  have hk:k<is.length:=by rw[hl];exact(List.getElem?_eq_some_iff.1 ho).1
  refine⟨is[k],by rw[List.getElem?_append_left hk];simp,hT (is[k],_) ?_⟩
  rw[←hrd n T.length]
  refine List.mem_of_getElem? (i:=k) ?_
  rw[List.getElem?_zip_eq_some]
  exact⟨List.getElem?_eq_getElem hk,by rw[List.getElem?_map,ho];rfl⟩
 have hdead:∀i,i∈List.range' n (S₁.length-S₀.length)->T[i]? =some .dead:=by
  intro i hi
  rw[HT,hln]at hd
  obtain⟨j,hj,rfl⟩:=List.getElem_of_mem hi
  have hj':j<(new n).length:=by rw[hln];simpa using hj
  have:=hd ((List.range' n (S₁.length-S₀.length))[j],(new n)[j]) (by
   refine List.mem_of_getElem? (i:=j) ?_
   rw[List.getElem?_zip_eq_some]
   exact⟨List.getElem?_eq_getElem hj,List.getElem?_eq_getElem hj'⟩)
  exact this
 have hnd:(is++List.range' n (S₁.length-S₀.length)).Nodup:=by
  rw[List.nodup_append]
  refine⟨hn,List.nodup_range',λa ha1 b hb1=>?_⟩
  rintro rfl
  obtain⟨k,hk,rfl⟩:=List.getElem_of_mem ha1
  have hk':k<S₀.length:=by rw[←hl];exact hk
  obtain⟨i,h1,h2⟩:=hat k S₀[k] (List.getElem?_eq_getElem hk')
  rw[List.getElem?_append_left hk,List.getElem?_eq_getElem hk]at h1
  injection h1 with h1;subst h1
  rw[hdead _ hb1]at h2
  injection h2 with h2
  have:=hal S₀[k] (List.getElem_mem hk')
  cases ho:S₀[k]with
  |dead=>exact this ho
  |cells xs=>rw[ho]at h2;simp[Ad.ren]at h2
  |row a b=>rw[ho]at h2;simp[Ad.ren]at h2
  |mrow a b c=>rw[ho]at h2;simp[Ad.ren]at h2
  |raw a b=>rw[ho]at h2;simp[Ad.ren]at h2
 have:=h.embed T (is++List.range' n (S₁.length-S₀.length)) hnd (by simp;omega) hSl hat (λk i hk hi=>by
  rw[List.getElem?_append_right (by omega)]at hi
  exact hdead i (List.mem_of_getElem? hi))
 rw[ha,hr]at this
 have e:(is++List.range' n (S₁.length-S₀.length)).zip (S₁.map λo=>o.ren (AK (is++List.range' n (S₁.length-S₀.length)) T.length))=
  is.zip ((S₁.take S₀.length).map λo=>o.ren (AK (is++List.range' n (S₁.length-S₀.length)) T.length))++BG n (new n):=by
  rw[HT,hln,←hnew n T.length]
  conv=>lhs;rw[←List.take_append_drop S₀.length S₁]
  rw[List.map_append,List.zip_append (by simp;omega)]
  simp
 rw[e,CE,hupd]at this
 rw[CE]
 exact this
@[simp] theorem Aqd (ρ:Nat->Nat) (k:Nat):(LZ k).ren ρ=LZ k:=by
 unfold LZ
 split
 ·rw[Qk]
 ·rw[X1,List.map_replicate,Qk]
abbrev DZ:AV:=.sl .full 1 []
def evA:Ev->AV
 | .item a b=>.agg [iA 1,iA a,iA 0,iA 0,uA 0,uA 0,uA 0,iA 0,iA 0,DZ,DZ,DZ,uA 0,uA 0,uA 0,uA 0,DZ,uA b.ep,uA b.base,JN b.en]
 | .oth k a c=>.agg [iA k,iA a,iA c,iA 0,uA 0,uA 0,uA 0,iA 0,iA 0,DZ,DZ,DZ,uA 0,uA 0,uA 0,uA 0,DZ,uA 0,uA 0,DZ]
def Kh (l:List Ev):List AV:=l.map evA
theorem C2 (l:List Ev):(Kh l).length=l.length:=by simp[Kh]
theorem Yp (l:List Ev) (e:Ev):Kh l++[evA e]=Kh (l++[e]):=by simp[Kh]
@[simp] theorem JT (ρ:Nat->Nat) (l:List Ev):(Kh l).map (λx=>x.ren ρ)=Kh l:=by
 unfold Kh
 rw[List.map_map]
 congr 1
 funext e
 cases e<;>simp[evA,AT,Iq]
def ZP:Nat->FuncId
 |0=>54
 |1=>114
 |2=>242
 |3=>262
 |_=>273
abbrev R5 (s:PS) (b m o:AV):Ad:=.cells [.fn (ZP s.ph) [] [],b,iA s.fst,iA s.fed,iA s.ended,uA s.ep,uA s.lep,uA s.lbase,.sl .none 2 (List.replicate s.ln (LZ 2)),m,uA s.want.ep,iA s.want.bat,iA s.want.ent,uA s.want.fst,uA s.want.fin,iA s.want.at_,iA s.want.size,iA s.foot,o]
abbrev VX (s:PS) (j:Nat):AV:=.sl (.row j) 1 (A2 .u8 s.buf)
abbrev U7 (s:PS) (k:Nat):AV:=.sl (.row k) 3 (HG s.ms)
abbrev psV (s:PS) (o:Nat):AV:=.sl (.row o) 20 (Kh s.out)
abbrev HJ (s:PS) (j k o:Nat):List Ad:=[R5 s (VX s j) (U7 s k) (psV s o),.row 1 s.buf.length,.row 3 s.ms.length,.row 20 s.out.length]
theorem AB (ρ:Nat->Nat) (s:PS) (b m o:AV):(R5 s b m o).ren ρ=R5 s (b.ren ρ) (m.ren ρ) (o.ren ρ):=by simp[AT,Iq]
theorem AE (ρ:Nat->Nat) (s:PS) (j:Nat):(VX s j).ren ρ=VX s (ρ j):=by simp[AT,AN]
theorem AD (ρ:Nat->Nat) (s:PS) (j:Nat):(U7 s j).ren ρ=U7 s (ρ j):=by simp[AT,Em]
theorem AR (ρ:Nat->Nat) (s:PS) (j:Nat):(psV s j).ren ρ=psV s (ρ j):=by simp[AT,JT]
theorem Ct.ps {F:FuncId} {s s':PS} {r:AV} (h:An Tryz.prog F [.ref 0 0] (HJ s 1 2 3) r (HJ s' 1 2 3)) (hr:∀ρ,r.ren ρ=r) (i j k o:Nat) (hd:[i,j,k,o].Nodup):Ct Tryz.prog F [.ref i 0] ([i,j,k,o].zip (HJ s j k o)) (λ_=>r) ([i,j,k,o].zip (HJ s' j k o)) (λ_=>[]):=
 Ct.us h [i,j,k,o] hd rfl rfl (by simp) (λN=>by simp[AK]) (λN=>by simp[AK,AB,AE,AD,AR]) (λN=>by simp[AK,AB,AE,AD,AR]) (λN=>hr _)
theorem W5 (s:PS):An Tryz.prog 55 [.ref 0 0] (HJ s 1 2 3) (bA (s.ended==0)) (HJ s 1 2 3):=by
 refine RM Tryz.func55 b55 ?_
 (refine FB b55 [0,1,2,3] ?_ ?_<;>first|with_reducible rfl|(simp[Ae,Ah,Ai,Ag,AB,AE,AD,AR,AK];done)|rfl)
theorem PD (s:PS) (i j k o:Nat) (hd:[i,j,k,o].Nodup):Ct Tryz.prog 55 [.ref i 0] ([i,j,k,o].zip (HJ s j k o)) (λ_=>bA (s.ended==0)) ([i,j,k,o].zip (HJ s j k o)) (λ_=>[]):=Ct.ps (W5 s) (λρ=>by simp) i j k o hd
theorem W3 (s:PS):An Tryz.prog 273 [.ref 0 0] (HJ s 1 2 3) (.tup [bA s.rest.2.1,B9 s.rest.2.2]) (HJ s.rest.1 1 2 3):=by
 have c3:BW 9 0=(9,0):=rfl
 refine RM Tryz.func273 Ar1 ?_
 refine Aa.p (BQ 9 0) ?_;simp only[go_sem,seval,c3];refine (mok ?_).1
 (refine FB Ar1 [0,1,2,3] ?_ ?_<;>first|with_reducible rfl|(simp[Ae,Ah,Ai,Ag,PS.rest,AB,AE,AD,AR,AK];done)|rfl)
set_option maxRecDepth 100000 in
theorem OD (s:PS) (h:Dc s):An Tryz.prog 182 [.ref 0 0] (HJ s 1 2 3) (.tup [A9 .u8 (BX s.buf).1,iA (BX s.buf).2.1,bA (BX s.buf).2.2.1,B9 (BX s.buf).2.2.2]) (HJ s 1 2 3):=by
 have hl:=h.len
 have hw:=TT s.buf 2097152 h.bb (by omega)
 have hg:=Fm s.buf 2097152 h.bb (by omega) (by decide)
 have hgi:=λhc=>Ix (b:=s.buf) (m:=2097152) h.bb (by omega) hc
 have hgb:=λhc=>TS (b:=s.buf) (m:=2097152) hc
 have e:BX s.buf=if Dw s.buf 2097152=true∧(s.buf.length:Int)<Eh s.buf 2097152 then([],0,false,(0,0))
  else if(BA s.buf 2097152).2.2.1=1 then([],0,false,(0,0))
  else((BA s.buf 2097152).1,(BA s.buf 2097152).2.1-4-(BA s.buf 2097152).1.length,(BA s.buf 2097152).2.2.1==0,(BA s.buf 2097152).2.2):=rfl
 obtain⟨P,hP⟩:∃P,BX s.buf=P:=⟨_,rfl⟩
 obtain⟨G,hG⟩:∃G,BA s.buf 2097152=G:=⟨_,rfl⟩
 obtain⟨W,hW⟩:∃W,Eh s.buf 2097152=W:=⟨_,rfl⟩
 rw[hP]at e ⊢
 rw[hG]at e hg hgi hgb
 rw[hW]at e hw
 have hGl:(G.1.length:Int)≤1000000∧0≤G.2.1∧G.2.1≤1000000:=by
  by_cases hc:G.2.2.1=0
  ·obtain⟨_,_,_,a4,a5,a6⟩:=hgi hc
   have h1:=congrArg List.length a6
   have h2:=Bh G.1
   rw[List.length_take]at h1
   omega
  ·obtain⟨a1,a2⟩:=hgb hc
   rw[a1,a2];simp
 have w1:IntKind.i64.wrap (G.2.1-4)=G.2.1-4:=IntWalk.i64_in _ (by omega)
 have w2:IntKind.i64.wrap (G.2.1-4-G.1.length)=G.2.1-4-G.1.length:=IntWalk.i64_in _ (by omega)
 refine RM Tryz.func182 Acd ?_
 refine Aa.p (hw) (mp ?_).1
 by_cases hk:Dw s.buf 2097152=true∧(s.buf.length:Int)<W
 ·have q1:=hk.1
  have q2:decide ((s.buf.length:Int)<W)=true:=by simpa using hk.2
  rw[if_pos hk]at e
  refine (ms q1 q2 @Ab ?_).1
  (refine AF.untag 2 rfl ?_;simp only[Au,List.set_cons_zero,List.set_cons_succ])
  (refine FB Acd [0,1,2,3] ?_ ?_<;>first|with_reducible rfl|(simp[Ae,Ah,Ai,Ag,e,AB,AE,AD,AR,AK];done)|rfl)
 ·rw[if_neg hk]at e
  by_cases hc1:G.2.2.1=1
  ·have q3:(G.2.2.1==1)=true:=by simpa using hc1
   rw[if_pos hc1]at e
   cases hwo:Dw s.buf 2097152 with
   |true=>
    have q2:decide ((s.buf.length:Int)<W)=false:=by simp only[decide_eq_false_iff_not];exactλh=>hk ⟨hwo,h⟩
    refine (mr q2 @Ab ?_).1
    refine Aa.p (hg) (mq q3 ?_).1
    (refine AF.untag 2 rfl ?_;simp only[Au,List.set_cons_zero,List.set_cons_succ])
    (refine FB Acd [0,1,2,3] ?_ ?_<;>first|with_reducible rfl|(simp[Ae,Ah,Ai,Ag,e,AB,AE,AD,AR,AK];done)|rfl)
   |false=>
    refine (mp ?_).1
    refine Aa.p (hg) (mq q3 ?_).1
    (refine AF.untag 2 rfl ?_;simp only[Au,List.set_cons_zero,List.set_cons_succ])
    (refine FB Acd [0,1,2,3] ?_ ?_<;>first|with_reducible rfl|(simp[Ae,Ah,Ai,Ag,e,AB,AE,AD,AR,AK];done)|rfl)
  ·have q3:(G.2.2.1==1)=false:=by simpa using hc1
   rw[if_neg hc1]at e
   cases hwo:Dw s.buf 2097152 with
   |true=>
    have q2:decide ((s.buf.length:Int)<W)=false:=by simp only[decide_eq_false_iff_not];exactλh=>hk ⟨hwo,h⟩
    refine (mr q2 @Ab ?_).1
    refine Aa.p (hg) (mt q3 w1 @Ab w2 ?_).1
    refine Aa.p (Aw G.2.2.1 G.2.2.2) (mp ?_).1
    (refine FB Acd [0,1,2,3] ?_ ?_<;>first|with_reducible rfl|(simp[Ae,Ah,Ai,Ag,e,AB,AE,AD,AR,AK];done)|rfl)
   |false=>
    refine (mp ?_).1
    refine Aa.p (hg) (mt q3 w1 @Ab w2 ?_).1
    refine Aa.p (Aw G.2.2.1 G.2.2.2) (mp ?_).1
    (refine FB Acd [0,1,2,3] ?_ ?_<;>first|with_reducible rfl|(simp[Ae,Ah,Ai,Ag,e,AB,AE,AD,AR,AK];done)|rfl)
theorem Kb (s:PS) (h:Dc s) (i j k o:Nat) (hd:[i,j,k,o].Nodup):Ct Tryz.prog 182 [.ref i 0] ([i,j,k,o].zip (HJ s j k o)) (λ_=>.tup [A9 .u8 (BX s.buf).1,iA (BX s.buf).2.1,bA (BX s.buf).2.2.1,B9 (BX s.buf).2.2.2]) ([i,j,k,o].zip (HJ s j k o)) (λ_=>[]):=Ct.ps (OD s h) (λρ=>by simp[AN]) i j k o hd
theorem Anw (b:List Int):QZ b=Eb b:=rfl
set_option maxRecDepth 100000 in
theorem Rb (s:PS) (h:Dc s) (hp:s.ph=0):An Tryz.prog 54 [.ref 0 0] (HJ s 1 2 3) (.tup [bA s.header.2.1,B9 s.header.2.2]) (HJ s.header.1 1 2 3):=by
 have hl:=h.len
 have hg:=WN s.buf h.bb (by omega)
 rw[Anw]at hg
 have e:s.header=if(Eb s.buf).2.2.1=1 then(s,false,(0,0))
  else if(Eb s.buf).2.2.1=0 then(if(Eb s.buf).1.ver=3 then({s with ph:=1,ep:=(Eb s.buf).1.ep},true,(0,0))else(s,false,(8,4)))
  else(s,false,(Eb s.buf).2.2):=rfl
 obtain⟨R,hR⟩:∃R,s.header=R:=⟨_,rfl⟩
 obtain⟨G,hG⟩:∃G,Eb s.buf=G:=⟨_,rfl⟩
 rw[hG]at e hg
 rw[hR]at e ⊢
 refine RM Tryz.func54 b54 ?_
 refine Aa.p (hg) (mp ?_).1
 by_cases h1:G.2.2.1=1
 ·have c1:(G.2.2.1==1)=true:=by simpa using h1
  rw[if_pos h1]at e
  refine (mq c1 ?_).1
  (refine FB b54 [0,1,2,3] ?_ ?_<;>first|with_reducible rfl|(simp[Ae,Ah,Ai,Ag,e,AB,AE,AD,AR,AK];done)|rfl)
 ·have c1:(G.2.2.1==1)=false:=by simpa using h1
  rw[if_neg h1]at e
  refine (mq c1 ?_).1
  refine Aa.p (Aw G.2.2.1 G.2.2.2) ?_
  by_cases h0:G.2.2.1=0
  ·have c2:(G.2.2.1==0)=true:=by simpa using h0
   rw[if_pos h0]at e
   by_cases h3:G.1.ver=3
   ·have c3:(G.1.ver != 3)=false:=by simpa using h3
    rw[if_pos h3]at e
    simp only[go_sem,seval,c2,c3];refine (mok ?_).1
    (refine FB b54 [0,1,2,3] ?_ ?_<;>first|with_reducible rfl|(simp[Ae,Ah,Ai,Ag,e,AB,AE,AD,AR,AK,ZP];done)|rfl)
   ·have c3:(G.1.ver != 3)=true:=by simpa using h3
    have c4:BW 8 4=(8,4):=rfl
    rw[if_neg h3]at e
    simp only[go_sem,seval,c2,c3];refine (mok ?_).1
    refine Aa.p (BQ 8 4) (mq c4 ?_).1
    (refine FB b54 [0,1,2,3] ?_ ?_<;>first|with_reducible rfl|(simp[Ae,Ah,Ai,Ag,e,AB,AE,AD,AR,AK];done)|rfl)
  ·have c2:(G.2.2.1==0)=false:=by simpa using h0
   rw[if_neg h0]at e
   refine (mq c2 ?_).1
   (refine FB b54 [0,1,2,3] ?_ ?_<;>first|with_reducible rfl|(simp[Ae,Ah,Ai,Ag,e,AB,AE,AD,AR,AK];done)|rfl)
set_option maxRecDepth 100000 in
theorem OC (s:PS) (h:Dc s):An Tryz.prog 262 [.ref 0 0] (HJ s 1 2 3) (.tup [bA s.trailer.2.1,B9 s.trailer.2.2]) (HJ s.trailer.1 1 2 3):=by
 have hl:=h.len
 have t0:=h.t0
 have t1:=h.t1
 have e:s.trailer=if s.buf.length<12 then(s,false,(0,0))else if s.buf=A0 s.foot then({s with ph:=4},true,(0,0))else(s,false,(12,0)):=rfl
 obtain⟨R,hR⟩:∃R,s.trailer=R:=⟨_,rfl⟩
 rw[hR]at e ⊢
 have w1:IntKind.u64.wrap s.foot=s.foot:=IntWalk.u64_in _ (by omega)
 have heq:=Ia s.buf (A0 s.foot) h.bb (I3 _)
 refine RM Tryz.func262 Alx ?_
 refine Aa.p (CW) (mq @Ab ?_).1
 by_cases h1:s.buf.length<12
 ·have c1:decide ((s.buf.length:Int)<12)=true:=by simp only[decide_eq_true_eq];omega
  rw[if_pos h1]at e
  refine (mq c1 ?_).1
  (refine FB Alx [0,1,2,3] ?_ ?_<;>first|with_reducible rfl|(simp[Ae,Ah,Ai,Ag,e,AB,AE,AD,AR,AK];done)|rfl)
 ·have c1:decide ((s.buf.length:Int)<12)=false:=by simp only[decide_eq_false_iff_not];omega
  rw[if_neg h1]at e
  refine (mq c1 ?_).1
  refine Aa.p (Et s.foot s.foot w1 t0 (by omega)) (mp ?_).1
  refine Aa.p (heq) ?_
  by_cases h2:s.buf=A0 s.foot
  ·have c2:BJ s.buf (A0 s.foot)=true:=by simp[BJ,h2]
   rw[if_pos h2]at e
   refine (mq c2 ?_).1
   (refine FB Alx [0,1,2,3] ?_ ?_<;>first|with_reducible rfl|(simp[Ae,Ah,Ai,Ag,e,AB,AE,AD,AR,AK,ZP];done)|rfl)
  ·have c2:BJ s.buf (A0 s.foot)=false:=by simp[BJ,h2]
   have c4:BW 12 0=(12,0):=rfl
   rw[if_neg h2]at e
   refine (mq c2 ?_).1
   refine Aa.p (BQ 12 0) (mq c4 ?_).1
   (refine FB Alx [0,1,2,3] ?_ ?_<;>first|with_reducible rfl|(simp[Ae,Ah,Ai,Ag,e,AB,AE,AD,AR,AK];done)|rfl)
set_option maxHeartbeats 1000000 in
set_option maxRecDepth 100000 in
theorem UR (ep base:Int) (n:Nat) (hn:n≤1000000) (b0:0≤base) (b1:base+n<18446744073709551616):An Tryz.prog 78 [.agg [uA ep,uA base,.sl .none 2 (List.replicate n (LZ 2))]] [] (uA (base+n)) []:=by
 have w0:IntKind.u64.wrap (n:Int)=n:=IntWalk.u64_in _ (by omega)
 have w1:IntKind.u64.wrap (base+(n:Int))=base+n:=IntWalk.u64_in _ (by omega)
 refine RN Tryz.func78 b78 ?_;simp only[go_sem,seval,List.length_replicate,w0,w1];refine (mok ?_).1
 exact FA b78 []
theorem XD (ep base:Int) (n:Nat) (hn:n≤1000000) (b0:0≤base) (b1:base+n<18446744073709551616):Ct Tryz.prog 78 [.agg [uA ep,uA base,.sl .none 2 (List.replicate n (LZ 2))]] [] (λ_=>uA (base+n)) [] (λ_=>[]):=(UR ep base n hn b0 b1).toCt (λρ=>by simp) Ci
set_option maxHeartbeats 1000000 in
set_option maxRecDepth 100000 in
theorem T9 (s:PS) (q:RS) (h:Dc s) (hq:Av q) (hn:q.l.length≤1000000):An Tryz.prog 184 [.ref 0 0,.ref 4 0] (HJ s 1 2 3++[A7 q]) (iA (s.batch q).1.2) (HJ (s.batch q).1.1 1 2 3++[A7 (s.batch q).2]):=by
 obtain⟨k1,k2⟩:=DG hq λs h=>B_ h
 have hB:=(NN hq GW).1
 have e:s.batch q=if(q.btch RS.blk).1.rest9.code=0 then(if s.batC (q.btch RS.blk).2=0 then(s.bat (q.btch RS.blk).2,0)else(s,s.batC (q.btch RS.blk).2),(q.btch RS.blk).1.rest9)else((s,0),(q.btch RS.blk).1.rest9):=rfl
 have hct:=Hu q 4 hq hn
 obtain⟨D,hD⟩:∃D,q.btch RS.blk=D:=⟨_,rfl⟩
 obtain⟨R,hR⟩:∃R,s.batch q=R:=⟨_,rfl⟩
 rw[hD]at k1 k2 hB e hct
 rw[hR]at e ⊢
 have hlen:=hB.len
 have hsum:=hB.sum
 have hb0:=hB.ok.b0
 have ml:=h.ml
 have ln:=h.ln
 have b0:=h.b0
 have b1:=h.b1
 have eC:s.batC D.2=if s.ms.length=16 then 2 else if s.ep<D.2.ep∨(0<s.ms.length∧(D.2.ep<s.lep∨D.2.base<s.lbase+s.ln))then 13 else 0:=rfl
 refine RM Tryz.func184 UT ?_
 refine Aa.u1 (hct) rfl (mp ?_).1
 refine Aa.u1 (BL D.1 4 k1) rfl (mp ?_).1
 refine Aa.r1 (Ak D.1.rest9 4) rfl ?_
 by_cases hz:D.1.rest9.code=0
 ·rw[if_pos hz]at e
  refine (mr (AW hz) @Ap ?_).1
  by_cases h16:s.ms.length=16
  ·have c1:((s.ms.length:Int)==16)=true:=by simp only[beq_iff_eq];omega
   rw[if_pos h16]at eC
   rw[eC,if_neg (by decide)]at e
   refine (mq c1 ?_).1
   (refine FB UT [0,1,2,3,4] ?_ ?_<;>first|with_reducible rfl|(simp[Ae,Ah,Ai,Ag,e,AB,AE,AD,AR,AK];done)|rfl)
  ·have c1:((s.ms.length:Int)==16)=false:=by simp only[beq_eq_false_iff_ne,ne_eq];omega
   rw[if_neg h16]at eC
   have hol:=h.ol
   have hf2:=h.f2
   have hma:HG s.ms++[.agg [uA D.2.base,iA D.2.en.length,iA s.fst]]=HG (s.ms++[⟨D.2.base,D.2.en.length,s.fst⟩]):=(F0 s.ms ⟨D.2.base,D.2.en.length,s.fst⟩).symm
   have hev:Kh s.out++[.agg [iA 1,iA s.fst,iA 0,iA 0,uA 0,uA 0,uA 0,iA 0,iA 0,DZ,DZ,DZ,uA 0,uA 0,uA 0,uA 0,DZ,uA D.2.ep,uA D.2.base,JN D.2.en]]=Kh (s.out++[.item s.fst D.2]):=Yp s.out (.item s.fst D.2)
   have hbe:=XD s.lep s.lbase s.ln (by omega) b0 (by omega)
   refine (mq c1 ?_).1
   by_cases h1:s.ep<D.2.ep
   ·have q1:decide (s.ep<D.2.ep)=true:=by simpa using h1
    rw[if_pos (.inl h1)]at eC
    rw[eC,if_neg (by decide)]at e
    refine (mq q1 ?_).1
    (refine FB UT [0,1,2,3,4] ?_ ?_<;>first|with_reducible rfl|(simp[Ae,Ah,Ai,Ag,e,AB,AE,AD,AR,AK];done)|rfl)
   ·have q1:decide (s.ep<D.2.ep)=false:=by simpa using h1
    have hgo:(0<s.ms.length∧(D.2.ep<s.lep∨D.2.base<s.lbase+s.ln))->R=((s,13),D.1.rest9):=λh2=>by
     rw[if_pos (.inr h2)]at eC
     rw[eC,if_neg (by decide)]at e
     exact e
    have hok:¬(0<s.ms.length∧(D.2.ep<s.lep∨D.2.base<s.lbase+s.ln))->R=((s.bat D.2,0),D.1.rest9):=λh2=>by
     rw[if_neg (by rintro(h3|h3);exact h1 h3;exact h2 h3)]at eC
     rw[eC,if_pos rfl]at e
     exact e
    by_cases hm:0<s.ms.length
    ·have q2:decide (0<(s.ms.length:Int))=true:=by simp only[decide_eq_true_eq];omega
     by_cases h3:D.2.ep<s.lep
     ·have q3:decide (D.2.ep<s.lep)=true:=by simpa using h3
      have e:=hgo ⟨hm,.inl h3⟩
      refine (ms q1 q2 q3 ?_).1
      (refine FB UT [0,1,2,3,4] ?_ ?_<;>first|with_reducible rfl|(simp[Ae,Ah,Ai,Ag,e,AB,AE,AD,AR,AK];done)|rfl)
     ·have q3:decide (D.2.ep<s.lep)=false:=by simpa using h3
      refine (ms q1 q2 q3 ?_).1
      refine Aa.p (hbe) ?_
      by_cases h4:D.2.base<s.lbase+s.ln
      ·have q4:decide (D.2.base<s.lbase+s.ln)=true:=by simpa using h4
       have e:=hgo ⟨hm,.inr h4⟩
       refine (mq q4 ?_).1
       (refine FB UT [0,1,2,3,4] ?_ ?_<;>first|with_reducible rfl|(simp[Ae,Ah,Ai,Ag,e,AB,AE,AD,AR,AK];done)|rfl)
      ·have q4:decide (D.2.base<s.lbase+s.ln)=false:=by simpa using h4
       have e:=hok (λh=>by rcases h.2 with h|h;exact h3 h;exact h4 h)
       simp only[go_sem,seval,q4,AA,Ap,C2,Lj,Int.toNat_natCast,hma,hev];refine (mok ?_).1
       refine⟨by omega,rfl,by omega,by omega,by omega,by omega,rfl,by omega,rfl,?_⟩
       (refine AF.wao (ys:=[.fn (ZP s.ph) [] [],VX s 1,iA s.fst,iA s.fed,iA s.ended,uA s.ep,uA D.2.ep,uA D.2.base,.sl .none 2 (List.replicate D.2.en.length (LZ 2)),U7 (s.bat D.2) 2,uA s.want.ep,iA s.want.bat,iA s.want.ent,uA s.want.fst,uA s.want.fin,iA s.want.at_,iA s.want.size,iA s.foot,psV (s.bat D.2) 3]) 0 rfl (by repeat(first|exact Wa.refl _|exact Bo.nil|exact Wa.nil|exact Wa.none|refine Bo.cons ?_ ?_|refine Wa.agg ?_|refine Wa.slN ?_|refine Wa.slS ?_|exact Bo.refl _)) ?_;simp only[List.set_cons_zero,List.set_cons_succ])
       (refine FB UT [0,1,2,3,4] ?_ ?_<;>first|with_reducible rfl|(simp[Ae,Ah,Ai,Ag,e,PS.bat,AB,AE,AD,AR,AK];done)|rfl)
    ·have q2:decide (0<(s.ms.length:Int))=false:=by simp only[decide_eq_false_iff_not];omega
     have e:=hok (λh=>hm h.1)
     simp only[go_sem,seval,q1,q2,AA,Ap,C2,Lj,Int.toNat_natCast,hma,hev];refine (mok ?_).1
     refine⟨by omega,rfl,by omega,by omega,by omega,by omega,rfl,by omega,rfl,?_⟩
     (refine AF.wao (ys:=[.fn (ZP s.ph) [] [],VX s 1,iA s.fst,iA s.fed,iA s.ended,uA s.ep,uA D.2.ep,uA D.2.base,.sl .none 2 (List.replicate D.2.en.length (LZ 2)),U7 (s.bat D.2) 2,uA s.want.ep,iA s.want.bat,iA s.want.ent,uA s.want.fst,uA s.want.fin,iA s.want.at_,iA s.want.size,iA s.foot,psV (s.bat D.2) 3]) 0 rfl (by repeat(first|exact Wa.refl _|exact Bo.nil|exact Wa.nil|exact Wa.none|refine Bo.cons ?_ ?_|refine Wa.agg ?_|refine Wa.slN ?_|refine Wa.slS ?_|exact Bo.refl _)) ?_;simp only[List.set_cons_zero,List.set_cons_succ])
     (refine FB UT [0,1,2,3,4] ?_ ?_<;>first|with_reducible rfl|(simp[Ae,Ah,Ai,Ag,e,PS.bat,AB,AE,AD,AR,AK];done)|rfl)
 ·rw[if_neg hz]at e
  refine (mq (Ay hz) ?_).1
  (refine FB UT [0,1,2,3,4] ?_ ?_<;>first|with_reducible rfl|(simp[Ae,Ah,Ai,Ag,e,AB,AE,AD,AR,AK];done)|rfl)
set_option maxHeartbeats 1000000 in
set_option maxRecDepth 100000 in
theorem T7 (s:PS) (q:RS) (h:Dc s) (hq:Av q) (hn:q.l.length≤1000000):An Tryz.prog 185 [.ref 0 0,.ref 4 0] (HJ s 1 2 3++[A7 q]) (iA (s.index q).1.2) (HJ (s.index q).1.1 1 2 3++[A7 (s.index q).2]):=by
 obtain⟨k1,k2⟩:=L7 hq
 have hr:=Lf hq
 have h16:=(Bc.1 hr).2
 have e:s.index q=if q.marks.1.rest9.code=0 then(if q.marks.2=s.ms then(s.idx q.marks.2,0)else(s,12),q.marks.1.rest9)else((s,0),q.marks.1.rest9):=rfl
 have hct:=Jm q 4 hq (by omega)
 have hsm:=Ni q.marks.2 s.ms (by omega)
 have hen:=Gf q.marks.2 (Fk hr) (by omega)
 have hed:=Jn q.marks.2 (Fk hr) (by omega)
 rw[Ys]at hed
 have ei:s.idx q.marks.2={s with ph:=2,want:=⟨s.ep,q.marks.2.length,if AZ q.marks.2=true then DK q.marks.2 q.marks.2.length else 0,(Ed q.marks.2).1,(Ed q.marks.2).2,s.fst,s.buf.length⟩}:=rfl
 obtain⟨X,hX⟩:∃X,(if AZ q.marks.2=true then DK q.marks.2 q.marks.2.length else 0)=X:=⟨_,rfl⟩
 obtain⟨V,hV⟩:∃V,Ed q.marks.2=V:=⟨_,rfl⟩
 obtain⟨D,hD⟩:∃D,q.marks=D:=⟨_,rfl⟩
 obtain⟨R,hR⟩:∃R,s.index q=R:=⟨_,rfl⟩
 rw[hX,hV]at ei
 rw[hX]at hen
 rw[hV]at hed
 rw[hD]at k1 k2 hr h16 e hct hsm hen hed ei
 rw[hR]at e ⊢
 refine RM Tryz.func185 Al2 ?_
 refine Aa.u1 (hct) rfl ?_;refine (mp ?_).1
 refine Aa.u1 (BL D.1 4 k1) rfl ?_;refine (mp ?_).1
 refine Aa.r1 (Ak D.1.rest9 4) rfl ?_
 by_cases hz:D.1.rest9.code=0
 ·rw[if_pos hz]at e
  simp only[go_sem,seval,AW hz];refine (mok ?_).1
  refine Aa.p (hsm) ?_
  by_cases hs:D.2=s.ms
  ·have c1:Ez D.2 s.ms=true:=by simp[Ez,hs]
   rw[if_pos hs]at e
   simp only[go_sem,seval,c1,Ap,Ab];refine (mok ?_).1
   refine Aa.p (hen) ?_;refine (mp ?_).1
   refine Aa.p (hed) ?_;simp only[go_sem,seval,Ab];refine (mok ?_).1
   rw[ei]at e
   (refine FB Al2 [0,1,2,3,4] ?_ ?_<;>first|with_reducible rfl|(simp[Ae,Ah,Ai,Ag,e,AB,AE,AD,AR,AK,ZP];done)|rfl)
  ·have c1:Ez D.2 s.ms=false:=by simp[Ez,hs]
   rw[if_neg hs]at e
   simp only[go_sem,seval,c1];refine (mok ?_).1
   (refine FB Al2 [0,1,2,3,4] ?_ ?_<;>first|with_reducible rfl|(simp[Ae,Ah,Ai,Ag,e,AB,AE,AD,AR,AK];done)|rfl)
 ·rw[if_neg hz]at e
  simp only[go_sem,seval,Ay hz];refine (mok ?_).1
  (refine FB Al2 [0,1,2,3,4] ?_ ?_<;>first|with_reducible rfl|(simp[Ae,Ah,Ai,Ag,e,AB,AE,AD,AR,AK];done)|rfl)
set_option maxHeartbeats 1000000 in
set_option maxRecDepth 100000 in
theorem Rc (s:PS) (h:Dc s):An Tryz.prog 242 [.ref 0 0] (HJ s 1 2 3) (.tup [bA s.footer.2.1,B9 s.footer.2.2]) (HJ s.footer.1 1 2 3):=by
 have e:s.footer=if(BX s.buf).2.2.1=true then
  (if(Bs (BX s.buf).1).2.1=0 then(if(Bs (BX s.buf).1).1=s.want then({s with ph:=3,foot:=s.buf.length},true,(0,0))else(s,false,(12,0)))
   else(s,false,((Bs (BX s.buf).1).2.1,(Bs (BX s.buf).1).2.2+(BX s.buf).2.1)))
  else(s,false,(BX s.buf).2.2.2):=rfl
 have hl:=h.len
 have hpay:=Kb s h 0 1 2 3 (by decide)
 have hpf:=Jf h.bb hl
 obtain⟨P,hP⟩:∃P,BX s.buf=P:=⟨_,rfl⟩
 obtain⟨R,hR⟩:∃R,s.footer=R:=⟨_,rfl⟩
 rw[hP]at e hpay hpf
 obtain⟨p1,p2,p3,p4,p5⟩:=hpf
 have hft:=G6 (p:=P.1) p1 (by omega)
 have hrp:=D5 P.1 p1 (by omega)
 obtain⟨G,hG⟩:∃G,Bs P.1=G:=⟨_,rfl⟩
 rw[hG]at hft hrp e
 rw[hR]at e ⊢
 have w1:IntKind.i64.wrap (G.2.2+P.2.1)=G.2.2+P.2.1:=IntWalk.i64_in _ (by omega)
 refine RM Tryz.func242 Ahf ?_
 refine Aa.us hpay rfl rfl ?_
 refine (mp ?_).1
 cases hw:P.2.2.1 with
 |false=>
  rw[hw,if_neg (by decide)]at e
  refine (mp ?_).1
  (refine FB Ahf [0,1,2,3] ?_ ?_<;>first|with_reducible rfl|(simp[Ae,Ah,Ai,Ag,e,AB,AE,AD,AR,AK];done)|rfl)
 |true=>
  rw[hw,if_pos rfl]at e
  refine (mp ?_).1
  refine Aa.p (hrp) (mp ?_).1
  refine Aa.p (Aw G.2.1 G.2.2) ?_
  by_cases hz:G.2.1=0
  ·have c1:(G.2.1==0)=true:=by simpa using hz
   rw[if_pos hz]at e
   refine (ms c1 @Jz @LC ?_).1
   by_cases hg:G.1=s.want
   ·have c2:decide (G.1=s.want)=true:=by simpa using hg
    rw[if_pos hg]at e
    refine (mr c2 @Ab ?_).1
    (refine FB Ahf [0,1,2,3] ?_ ?_<;>first|with_reducible rfl|(simp[Ae,Ah,Ai,Ag,e,AB,AE,AD,AR,AK,ZP];done)|rfl)
   ·have c2:decide (G.1=s.want)=false:=by simpa using hg
    have c4:BW 12 0=(12,0):=rfl
    rw[if_neg hg]at e
    refine (mq c2 ?_).1
    refine Aa.p (BQ 12 0) (mq c4 ?_).1
    (refine FB Ahf [0,1,2,3] ?_ ?_<;>first|with_reducible rfl|(simp[Ae,Ah,Ai,Ag,e,AB,AE,AD,AR,AK];done)|rfl)
  ·have c1:(G.2.1==0)=false:=by simpa using hz
   have c4:BW G.2.1 (G.2.2+P.2.1)=(G.2.1,G.2.2+P.2.1):=by unfold BW;rw[if_neg hz]
   rw[if_neg hz]at e
   refine (mq c1 ?_).1
   refine Aa.p (Bi G.2.1 G.2.2 P.2.1 _ w1) (mq c4 ?_).1
   (refine FB Ahf [0,1,2,3] ?_ ?_<;>first|with_reducible rfl|(simp[Ae,Ah,Ai,Ag,e,AB,AE,AD,AR,AK];done)|rfl)
theorem Vm {s:PS} {p:List Int} (hp:AY p) (hn:p.length≤1000000):Av (s.takes p).2∧(s.takes p).2.l=p∧Fa (s.takes p).2:=by
 have hok:Av (RS.new p):=Av.new hp (by omega)
 obtain⟨q1,q2⟩:=RS.ok.byte_ hok
 have qf:=(Fa.new p).byte hok
 unfold PS.takes
 split
 ·obtain⟨k1,k2⟩:=DG q1 λs h=>B_ h
  have kf:=(qf.btch q1 (λs h=>B_ h) (λs h hf=>hf.blk h)).rest9 k1
  obtain⟨r1,r2⟩:=CZ k1
  unfold PS.batch
  split<;>exact⟨r1,r2.trans (k2.trans q2),kf⟩
 ·split
  ·obtain⟨k1,k2⟩:=L7 q1
   have kf:=(qf.marks q1).rest9 k1
   obtain⟨r1,r2⟩:=CZ k1
   unfold PS.index
   split<;>exact⟨r1,r2.trans (k2.trans q2),kf⟩
  ·exact⟨q1.fail _ _,by rw[Bl];exact q2,qf.fail (Int.le_refl _) (by omega)⟩
theorem Q_ (q:RS) (i:Nat):Ct Tryz.prog 183 [.ref i 0] [(i,A7 q)] (λ_=>iA 0) [] (λ_=>[]):=Ct.r1 (by
 have h:An Tryz.prog 183 [.ref 0 0] [A7 q] (iA 0) [A7 q]:=by
  refine RM Tryz.func183 Ast ?_
  exact FA Ast [0]
 exact h) i Ci (λρ=>Ao ρ q) (rdr_dead q) Ci
theorem W8 (s:PS) (q:RS) (h:Dc s) (hq:Av q) (hn:q.l.length≤1000000) (i j k o r:Nat) (hd:[i,j,k,o,r].Nodup):
 Ct Tryz.prog 184 [.ref i 0,.ref r 0] ([i,j,k,o,r].zip (HJ s j k o++[A7 q])) (λ_=>iA (s.batch q).1.2) ([i,j,k,o,r].zip (HJ (s.batch q).1.1 j k o++[A7 (s.batch q).2])) (λ_=>[]):=
 Ct.us (T9 s q h hq hn) [i,j,k,o,r] hd rfl rfl (by simp[A7]) (λN=>by simp[AK]) (λN=>by simp[AK,AB,AE,AD,AR,Ao]) (λN=>by simp[AK,AB,AE,AD,AR,Ao]) (λN=>by simp)
theorem W6 (s:PS) (q:RS) (h:Dc s) (hq:Av q) (hn:q.l.length≤1000000) (i j k o r:Nat) (hd:[i,j,k,o,r].Nodup):
 Ct Tryz.prog 185 [.ref i 0,.ref r 0] ([i,j,k,o,r].zip (HJ s j k o++[A7 q])) (λ_=>iA (s.index q).1.2) ([i,j,k,o,r].zip (HJ (s.index q).1.1 j k o++[A7 (s.index q).2])) (λ_=>[]):=
 Ct.us (T7 s q h hq hn) [i,j,k,o,r] hd rfl rfl (by simp[A7]) (λN=>by simp[AK]) (λN=>by simp[AK,AB,AE,AD,AR,Ao]) (λN=>by simp[AK,AB,AE,AD,AR,Ao]) (λN=>by simp)
set_option maxHeartbeats 2000000 in
set_option maxRecDepth 100000 in
theorem Ra (s:PS) (h:Dc s):An Tryz.prog 114 [.ref 0 0] (HJ s 1 2 3) (.tup [bA s.record.2.1,B9 s.record.2.2]) (HJ s.record.1 1 2 3):=by
 have e:s.record=if(BX s.buf).2.2.1=true then
  (if(s.takes (BX s.buf).1).2.code=0 then((s.takes (BX s.buf).1).1.1,(s.takes (BX s.buf).1).1.2==0,BW (s.takes (BX s.buf).1).1.2 0)
   else((s.takes (BX s.buf).1).1.1,false,((s.takes (BX s.buf).1).2.code,(s.takes (BX s.buf).1).2.fat+(BX s.buf).2.1)))
  else(s,false,(BX s.buf).2.2.2):=rfl
 have hl:=h.len
 have hpay:=Kb s h 0 1 2 3 (by decide)
 have hpf:=Jf h.bb hl
 obtain⟨P,hP⟩:∃P,BX s.buf=P:=⟨_,rfl⟩
 obtain⟨R,hR⟩:∃R,s.record=R:=⟨_,rfl⟩
 rw[hP]at e hpay hpf
 rw[hR]at e ⊢
 obtain⟨p1,p2,p3,p4,p5⟩:=hpf
 obtain⟨t1,t2,t3⟩:=Vm (s:=s) p1 p2
 have hok:Av (RS.new P.1):=Av.new p1 (by omega)
 obtain⟨q1,q2⟩:=RS.ok.byte_ hok
 have eT:s.takes P.1=if(RS.new P.1).byte.2=1 then s.batch (RS.new P.1).byte.1 else if(RS.new P.1).byte.2=2 then s.index (RS.new P.1).byte.1 else((s,0),(RS.new P.1).byte.1.fail 7 0):=rfl
 obtain⟨T,hT⟩:∃T,s.takes P.1=T:=⟨_,rfl⟩
 rw[hT]at e t1 t2 t3 eT
 unfold Fa at t3
 rw[t2]at t3
 have w1:IntKind.i64.wrap (T.2.fat+P.2.1)=T.2.fat+P.2.1:=IntWalk.i64_in _ (by omega)
 obtain⟨q,hq⟩:∃q,(RS.new P.1).byte.1=q:=⟨_,rfl⟩
 obtain⟨y,hy⟩:∃y,(RS.new P.1).byte.2=y:=⟨_,rfl⟩
 rw[hq]at q1 q2
 rw[hq,hy]at eT
 have hql:q.l.length≤1000000:=by rw[q2];exact p2
 have hfb:=W8 s q h q1 hql 0 1 2 3 6 (by decide)
 have hfi:=W6 s q h q1 hql 0 1 2 3 6 (by decide)
 refine RM Tryz.func114 UV ?_
 refine Aa.us hpay rfl rfl ?_
 refine (mp ?_).1
 cases hw:P.2.2.1 with
 |false=>
  rw[hw,if_neg (by decide)]at e
  refine (mp ?_).1
  (refine FB UV [0,1,2,3] ?_ ?_<;>first|with_reducible rfl|(simp[Ae,Ah,Ai,Ag,e,AB,AE,AD,AR,AK];done)|rfl)
 |true=>
  rw[hw,if_pos rfl]at e
  refine (mp ?_).1
  refine Aa.n (Ce P.1) (mp ?_).1
  refine Aa.u1 (CI (RS.new P.1) 6 hok.ok) rfl (mr hq hy ?_).1
  by_cases hy1:y=1
  ·have c1:(y==1)=true:=by simpa using hy1
   rw[if_pos hy1]at eT
   rw[←eT]at hfb
   refine (mq c1 ?_).1
   refine Aa.us hfb rfl rfl ?_
   refine (mp ?_).1
   refine Aa.r1 (A3 T.2 6) rfl ?_
   refine (mp ?_).1
   refine Aa.p (Bi T.2.code T.2.fat P.2.1 _ w1) (mp ?_).1
   by_cases hz:T.2.code=0
   ·have c3:BW T.2.code (T.2.fat+P.2.1)=(0,0):=by unfold BW;rw[if_pos hz]
    rw[if_pos hz]at e
    simp only[go_sem,seval,c3];refine (mok ?_).1
    refine Aa.p (Aw 0 0) (mp ?_).1
    refine Aa.p (BQ T.1.2 0) (mp ?_).1
    (refine FB UV [0,1,2,3] ?_ ?_<;>first|with_reducible rfl|(simp[Ae,Ah,Ai,Ag,e,AB,AE,AD,AR,AK];done)|rfl)
   ·have c3:BW T.2.code (T.2.fat+P.2.1)=(T.2.code,T.2.fat+P.2.1):=by unfold BW;rw[if_neg hz]
    have c4:(T.2.code==0)=false:=by simpa using hz
    rw[if_neg hz]at e
    simp only[go_sem,seval,c3];refine (mok ?_).1
    refine Aa.p (Aw T.2.code _) (mq c4 ?_).1
    (refine FB UV [0,1,2,3] ?_ ?_<;>first|with_reducible rfl|(simp[Ae,Ah,Ai,Ag,e,AB,AE,AD,AR,AK];done)|rfl)
  ·have c1:(y==1)=false:=by simpa using hy1
   rw[if_neg hy1]at eT
   by_cases hy2:y=2
   ·have c2:(y==2)=true:=by simpa using hy2
    rw[if_pos hy2]at eT
    rw[←eT]at hfi
    refine (mr c1 c2 ?_).1
    refine Aa.us hfi rfl rfl ?_
    refine (mp ?_).1
    refine Aa.r1 (A3 T.2 6) rfl ?_
    refine (mp ?_).1
    refine Aa.p (Bi T.2.code T.2.fat P.2.1 _ w1) (mp ?_).1
    by_cases hz:T.2.code=0
    ·have c3:BW T.2.code (T.2.fat+P.2.1)=(0,0):=by unfold BW;rw[if_pos hz]
     rw[if_pos hz]at e
     simp only[go_sem,seval,c3];refine (mok ?_).1
     refine Aa.p (Aw 0 0) (mp ?_).1
     refine Aa.p (BQ T.1.2 0) (mp ?_).1
     (refine FB UV [0,1,2,3] ?_ ?_<;>first|with_reducible rfl|(simp[Ae,Ah,Ai,Ag,e,AB,AE,AD,AR,AK];done)|rfl)
    ·have c3:BW T.2.code (T.2.fat+P.2.1)=(T.2.code,T.2.fat+P.2.1):=by unfold BW;rw[if_neg hz]
     have c4:(T.2.code==0)=false:=by simpa using hz
     rw[if_neg hz]at e
     simp only[go_sem,seval,c3];refine (mok ?_).1
     refine Aa.p (Aw T.2.code _) (mq c4 ?_).1
     (refine FB UV [0,1,2,3] ?_ ?_<;>first|with_reducible rfl|(simp[Ae,Ah,Ai,Ag,e,AB,AE,AD,AR,AK];done)|rfl)
   ·have c2:(y==2)=false:=by simpa using hy2
    rw[if_neg hy2]at eT
    have u1:T.1.1=s:=by rw[eT]
    have u2:T.1.2=0:=by rw[eT]
    have u3:q.fail 7 0=T.2:=by rw[eT]
    rw[u1,u2]at e
    refine (mr c1 c2 ?_).1
    refine Aa.u1 (Ar q 7 0 6) rfl (mq u3 ?_).1
    refine Aa.r1 (Q_ T.2 6) rfl (mp ?_).1
    refine Aa.r1 (A3 T.2 6) rfl ?_
    refine (mp ?_).1
    refine Aa.p (Bi T.2.code T.2.fat P.2.1 _ w1) (mp ?_).1
    by_cases hz:T.2.code=0
    ·have c3:BW T.2.code (T.2.fat+P.2.1)=(0,0):=by unfold BW;rw[if_pos hz]
     rw[if_pos hz]at e
     simp only[go_sem,seval,c3];refine (mok ?_).1
     refine Aa.p (Aw 0 0) (mp ?_).1
     refine Aa.p (BQ 0 0) (mp ?_).1
     (refine FB UV [0,1,2,3] ?_ ?_<;>first|with_reducible rfl|(simp[Ae,Ah,Ai,Ag,e,AB,AE,AD,AR,AK];done)|rfl)
    ·have c3:BW T.2.code (T.2.fat+P.2.1)=(T.2.code,T.2.fat+P.2.1):=by unfold BW;rw[if_neg hz]
     have c4:(T.2.code==0)=false:=by simpa using hz
     rw[if_neg hz]at e
     simp only[go_sem,seval,c3];refine (mok ?_).1
     refine Aa.p (Aw T.2.code _) (mq c4 ?_).1
     (refine FB UV [0,1,2,3] ?_ ?_<;>first|with_reducible rfl|(simp[Ae,Ah,Ai,Ag,e,AB,AE,AD,AR,AK];done)|rfl)
theorem W2 (s:PS) (h:Dc s):An Tryz.prog (ZP s.ph) [.ref 0 0] (HJ s 1 2 3) (.tup [bA s.step.2.1,B9 s.step.2.2]) (HJ s.step.1 1 2 3):=by
 match hp:s.ph with
 |0=>
  have e:s.step=s.header:=by simp only[PS.step,hp]
  rw[e];exact Rb s h hp
 |1=>
  have e:s.step=s.record:=by simp only[PS.step,hp]
  rw[e];exact Ra s h
 |2=>
  have e:s.step=s.footer:=by simp only[PS.step,hp]
  rw[e];exact Rc s h
 |3=>
  have e:s.step=s.trailer:=by simp only[PS.step,hp]
  rw[e];exact OC s h
 |n+4=>
  have e:s.step=s.rest:=by simp only[PS.step,hp]
  rw[e];exact W3 s
theorem Aa6 (s:PS) (h:Dc s) (i j k o:Nat) (hd:[i,j,k,o].Nodup):Ct Tryz.prog (ZP s.ph) [.ref i 0] ([i,j,k,o].zip (HJ s j k o)) (λ_=>.tup [bA s.step.2.1,B9 s.step.2.2]) ([i,j,k,o].zip (HJ s.step.1 j k o)) (λ_=>[]):=Ct.ps (W2 s h) (λρ=>by simp) i j k o hd
def psD (s:PS) (nil:Bool) (j:Nat):AV:=if nil=true then DZ else VX s j
theorem S6 (s:PS) (j:Nat):psD s true j=DZ:=rfl
theorem X4 (s:PS) (j:Nat):psD s false j=VX s j:=rfl
set_option maxHeartbeats 1000000 in
set_option maxRecDepth 100000 in
theorem Aa7 (s:PS) (c:Int) (h:Dc s) (hc:0≤c∧c<256) (hf:s.fed+1≤1000000):
 An Tryz.prog 56 [.ref 0 0,O0 c] (HJ s 1 2 3) (.tup []) [R5 (s.one c) (psD (s.one c) (s.nild c) 1) (U7 (s.one c) 2) (psV (s.one c) 3),.row 1 (s.buf.length+1),.row 3 (s.one c).ms.length,.row 20 (s.one c).out.length]:=by
 have hl:=h.len
 have bl:=h.bl
 have f1:=h.f1
 have f0:=h.f0
 obtain⟨a1,a2⟩:=K3 h hc hf
 obtain⟨s1,s2,s3,s4⟩:=JM a1 (by omega)
 have hst:=Aa6 (s.add c) a1 0 1 2 3 (by decide)
 have e:s.one c=PS.fin (s.add c).step:=rfl
 have en:s.nild c=(!((s.add c).step.2.2.1==0)||(s.add c).step.2.1):=rfl
 obtain⟨O,hO⟩:∃O,s.one c=O:=⟨_,rfl⟩
 obtain⟨Y,hY⟩:∃Y,s.nild c=Y:=⟨_,rfl⟩
 have eph:(s.add c).ph=s.ph:=rfl
 have hbn:(s.add c).buf=s.buf++[c]:=rfl
 have k1:=s2.buf
 have k2:=s2.fst
 have k3:=s2.fed
 have k4:(s.add c).fed=s.fed+1:=rfl
 have k5:(s.add c).fst=s.fst:=rfl
 obtain⟨T,hT⟩:∃T,(s.add c).step=T:=⟨_,rfl⟩
 rw[hO]at e ⊢
 rw[hY]at en ⊢
 rw[hT]at e en hst s1 s3 s4 k1 k2 k3
 rw[eph]at hst
 have ol:=s1.ol
 have ff2:=s1.f2
 have w1:IntKind.i64.wrap (s.fed+1)=s.fed+1:=IntWalk.i64_in _ (by omega)
 have w2:IntKind.i64.wrap (T.2.2.2+T.1.fst)=T.2.2.2+T.1.fst:=IntWalk.i64_in _ (by omega)
 have hia:A2 .u8 s.buf++[AV.lit (.int .u8 c)]=A2 .u8 (s.buf++[c]):=by simp[A2]
 have hil:s.buf.length+1=(s.buf++[c]).length:=by simp
 refine RN Tryz.func56 b56 ?_;refine (ms hia @Ab w1 ?_).1
 (repeat((with_reducible refine And.intro ?_ ?_);(·first|exact sd|(simp[Ab,A8,AV.parts,Ab];done)|(simp[Ab,A8,AV.parts,Ab];omega))))
 simp only[hil]
 refine Aa.us hst rfl rfl ?_
 refine (mp ?_).1
 rw[←hil]
 have b1:T.1.buf.length=s.buf.length+1:=by rw[k1,hbn,←hil]
 refine Aa.p (Aw T.2.2.1 T.2.2.2) ?_
 by_cases hz:T.2.2.1=0
 ·have c1:(T.2.2.1==0)=true:=by simpa using hz
  rw[c1]at en
  cases hw:T.2.1 with
  |true=>
   have e':O={T.1 with fst:=T.1.fed,buf:=[]}:=by rw[e];unfold PS.fin;rw[if_pos hz,if_pos hw]
   have en':Y=true:=by rw[en,hw];rfl
   refine (mq c1 ?_).1
   rw[e',en',←b1,S6]
   (refine FB b56 [0,1,2,3] ?_ ?_<;>first|with_reducible rfl|(simp[Ae,Ah,Ai,Ag,AB,AE,AD,AR,AK];done)|rfl)
  |false=>
   have e':O=T.1:=by rw[e];unfold PS.fin;rw[if_pos hz,if_neg (by rw[hw];decide)]
   have en':Y=false:=by rw[en,hw];rfl
   refine (mq c1 ?_).1
   rw[e',en',←b1,X4]
   (refine FB b56 [0,1,2,3] ?_ ?_<;>first|with_reducible rfl|(simp[Ae,Ah,Ai,Ag,AB,AE,AD,AR,AK];done)|rfl)
 ·have c1:(T.2.2.1==0)=false:=by simpa using hz
  have c3:BW T.2.2.1 (T.2.2.2+T.1.fst)=(T.2.2.1,T.2.2.2+T.1.fst):=by unfold BW;rw[if_neg hz]
  have e':O={T.1 with out:=T.1.out++[.oth 4 (T.2.2.2+T.1.fst) T.2.2.1],ended:=4,buf:=[]}:=by rw[e];unfold PS.fin;rw[if_neg hz]
  have en':Y=true:=by rw[en,c1];rfl
  have hev:Kh T.1.out++[.agg [iA 4,iA (T.2.2.2+T.1.fst),iA T.2.2.1,iA 0,uA 0,uA 0,uA 0,iA 0,iA 0,DZ,DZ,DZ,uA 0,uA 0,uA 0,uA 0,DZ,uA 0,uA 0,DZ]]=Kh (T.1.out++[.oth 4 (T.2.2.2+T.1.fst) T.2.2.1]):=Yp T.1.out (.oth 4 (T.2.2.2+T.1.fst) T.2.2.1)
  refine (mq c1 ?_).1
  refine Aa.p (Bi T.2.2.1 T.2.2.2 T.1.fst _ w2) ?_;simp only[go_sem,seval,c3,C2,hev];refine (mok ?_).1
  (repeat((with_reducible refine And.intro ?_ ?_);(·first|exact sd|(simp[Ab,A8,AV.parts,C2];done)|(simp[Ab,A8,AV.parts,C2];omega))))
  rw[e',en',←b1,S6]
  (refine FB b56 [0,1,2,3] ?_ ?_<;>first|with_reducible rfl|(simp[Ae,Ah,Ai,Ag,AB,AE,AD,AR,AK];done)|rfl)
abbrev U8 (s:PS) (j k:Nat):List Ad:=[R5 s (VX s j) (U7 s k) DZ,.row 1 s.buf.length,.row 3 s.ms.length]
def psL (s:PS):Option Nat->List Ad
 |none=>[R5 s (VX s 1) (U7 s 2) (psV s 3),.row 1 s.buf.length,.row 3 s.ms.length,.row 20 s.out.length]
 |some n=>[R5 s (VX s 4) (U7 s 2) (psV s 3),.row 1 n,.row 3 s.ms.length,.row 20 s.out.length,.row 1 s.buf.length]
def psZ (s:PS) (st:Option Nat) (j j' k:Nat):List Ad:=[R5 s (VX s (if st.isSome then j' else j)) (U7 s k) DZ,.row 1 (st.getD s.buf.length),.row 3 s.ms.length]
def psN (s:PS) (st:Option Nat):List Ad:=.row 20 s.out.length::(if st.isSome then[.row 1 s.buf.length]else[])
theorem MT (s:PS) (j j' k:Nat):psZ s none j j' k++psN s none=[R5 s (VX s j) (U7 s k) DZ,.row 1 s.buf.length,.row 3 s.ms.length,.row 20 s.out.length]:=rfl
theorem MS (s:PS) (n j j' k:Nat):psZ s (some n) j j' k++psN s (some n)=[R5 s (VX s j') (U7 s k) DZ,.row 1 n,.row 3 s.ms.length,.row 20 s.out.length,.row 1 s.buf.length]:=rfl
theorem T6 (s:PS) (c:Int) (h:Dc s) (hc:0≤c∧c<256) (hf:s.fed+1≤1000000) (i j k o:Nat) (hd:[i,j,k,o].Nodup):
 Ct Tryz.prog 56 [.ref i 0,O0 c] ([i,j,k,o].zip (HJ s j k o)) (λ_=>.tup []) ([i,j,k,o].zip [R5 (s.one c) (psD (s.one c) (s.nild c) j) (U7 (s.one c) k) (psV (s.one c) o),.row 1 (s.buf.length+1),.row 3 (s.one c).ms.length,.row 20 (s.one c).out.length]) (λ_=>[]):=by
 have h0:=Aa7 s c h hc hf
 cases hn:s.nild c with
 |true=>
  rw[hn]at h0
  rw[S6]at h0 ⊢
  exact Ct.us h0 [i,j,k,o] hd rfl rfl (by simp) (λN=>by simp[AK]) (λN=>by simp[AK,AB,AE,AD,AR]) (λN=>by simp[AK,AB,AE,AD,AR]) (λN=>by simp)
 |false=>
  rw[hn]at h0
  rw[X4]at h0 ⊢
  exact Ct.us h0 [i,j,k,o] hd rfl rfl (by simp) (λN=>by simp[AK]) (λN=>by simp[AK,AB,AE,AD,AR]) (λN=>by simp[AK,AB,AE,AD,AR]) (λN=>by simp)
set_option maxHeartbeats 2000000 in
set_option maxRecDepth 100000 in
theorem W_ (s:PS) (b:List Int) (h:Dc s) (ho:s.out=[]) (hb:AY b) (hn:s.fed+b.length≤1000000):
 An Tryz.prog 20 [.ref 0 0,A9 .u8 b] (U8 s 1 2) (.sl (.row 3) 20 (Kh (s.feedS b none).1.out)) (psZ (s.feedS b none).1 (s.feedS b none).2 1 4 2++psN (s.feedS b none).1 (s.feedS b none).2):=by
 obtain⟨F,hF⟩:∃F,s.feedS b none=F:=⟨_,rfl⟩
 have hfed:=h.f1
 have hf0:=h.f0
 rw[hF]
 refine RM Tryz.func20 b20 ?_
 refine AM (α:=Nat×PS×Option Nat) (λa=>[.ref 0 0,A9 .u8 b,.any,.any,.any,iA a.1,.any,.any,.any,.any,.any,.any,.any,.any,.any,.any,.any,.any,.any,.any,.any,.any,.any,.any,.any,.any,.any,.any,.any,.any,.any,.any,.any,.any,.any,.any]) (λa=>psL a.2.1 a.2.2) (λa=>a.1≤b.length∧Dc a.2.1∧a.2.1.fed+((b.length:Int)-a.1)≤1000000∧a.2.1.feedS (b.drop a.1) a.2.2=F) (λa=>b.length-a.1) (0,s,none) ⟨by simp,h,by simp only[];omega,by simpa using hF⟩ ((Wk.rowObj 0 18 20 rfl rfl (.inr rfl) (by omega)).trans (Wk.to (by simp[psL,ho,Kh]) (by simp[Ca]))) ?_
 rintro⟨i,u,st⟩ ⟨hi,hu,hfd,hr⟩
 simp only[]at hi hu hfd hr
 cases st with
 |none=>
  have hfin:u.feedS (b.drop i) none=(u,none)->F=(u,none):=λh=>hr.symm.trans h
  simp only[psL]
  refine (mq @Ab ?_).1
  by_cases hlt:i<b.length
  ·have q1:decide ((i:Int)<(b.length:Int))=true:=decide_eq_true (by omega)
   have ei:=AJ i (by omega)
   have g:=CC .u8 b i hlt
   have hd:b.drop i=b.getD i 0::b.drop (i+1):=by
    rw[List.drop_eq_getElem_cons hlt];simp[hlt]
   have hbc:0≤b.getD i 0∧b.getD i 0<256:=hb _ (by simp[hlt])
   rw[hd]at hr hfin
   obtain⟨c,hc⟩:∃c,b.getD i 0=c:=⟨_,rfl⟩
   rw[hc]at g hbc hr hfin
   simp only[PS.feedS]at hr hfin
   refine (mq q1 ?_).1
   refine Aa.us (PD u 0 1 2 3 (by decide)) rfl rfl ?_
   refine (mp ?_).1
   by_cases he:u.ended=0
   ·have c1:(u.ended==0)=true:=by simpa using he
    rw[if_pos he]at hr
    obtain⟨o1,o2,o3,o4⟩:=V7 hu hbc (by omega)
    have hct:=T6 u c hu hbc (by omega) 0 1 2 3 (by decide)
    refine (mt c1 @Int.toNat_natCast g @Ab ?_).1
    refine⟨by omega,by omega,?_⟩
    cases hn:u.nild c with
    |true=>
     rw[hn,S6]at hct
     rw[hn,if_pos rfl]at hr
     have hbu:=o3 hn
     refine Aa.us hct rfl rfl ?_
     refine (mq ei ?_).1
     exact⟨(i+1,u.one c,some (u.buf.length+1)),⟨hlt,o1,by simp only[];omega,hr⟩,by simp only[];omega,(Wk.rowObj 0 1 1 rfl rfl (.inr rfl) (by omega)).trans (Wk.to (by simp[hbu]) (by simp[Ca]))⟩
    |false=>
     rw[hn,X4]at hct
     rw[hn,if_neg (by decide)]at hr
     have hkb:(u.one c).buf.length=u.buf.length+1:=by
      have hk:=(JM (K3 hu hbc (by omega)).1 (by have:=(K3 hu hbc (by omega)).2;omega)).2.1.buf
      rw[o4 hn,hk];simp[PS.add]
     have hlb:=hkb.symm
     refine Aa.us hct rfl rfl ?_
     refine (mq ei ?_).1
     exact⟨(i+1,u.one c,none),⟨hlt,o1,by simp only[];omega,hr⟩,by simp only[];omega,Wk.to (by simp[hlb]) (by simp[Ca])⟩
   ·have c1:(u.ended==0)=false:=by simpa using he
    have hF:=hfin (by rw[if_neg he])
    refine (mq c1 ?_).1
    subst hF
    simp only[MT]
    (refine FB b20 [0,1,2,3] ?_ ?_<;>first|with_reducible rfl|(simp[Ae,Ah,Ai,Ag,AB,AE,AD,AR,AK];done)|rfl)
  ·have q1:decide ((i:Int)<(b.length:Int))=false:=decide_eq_false (by omega)
   have hF:=hfin (by rw[List.drop_of_length_le (by omega)];rfl)
   refine (mq q1 ?_).1
   subst hF
   simp only[MT]
   (refine FB b20 [0,1,2,3] ?_ ?_<;>first|with_reducible rfl|(simp[Ae,Ah,Ai,Ag,AB,AE,AD,AR,AK];done)|rfl)
 |some n=>
  have hfin:u.feedS (b.drop i) (some n)=(u,(some n))->F=(u,(some n)):=λh=>hr.symm.trans h
  simp only[psL]
  refine (mq @Ab ?_).1
  by_cases hlt:i<b.length
  ·have q1:decide ((i:Int)<(b.length:Int))=true:=decide_eq_true (by omega)
   have ei:=AJ i (by omega)
   have g:=CC .u8 b i hlt
   have hd:b.drop i=b.getD i 0::b.drop (i+1):=by
    rw[List.drop_eq_getElem_cons hlt];simp[hlt]
   have hbc:0≤b.getD i 0∧b.getD i 0<256:=hb _ (by simp[hlt])
   rw[hd]at hr hfin
   obtain⟨c,hc⟩:∃c,b.getD i 0=c:=⟨_,rfl⟩
   rw[hc]at g hbc hr hfin
   simp only[PS.feedS]at hr hfin
   refine (mq q1 ?_).1
   refine Aa.us (PD u 0 4 2 3 (by decide)) rfl rfl ?_
   refine (mp ?_).1
   by_cases he:u.ended=0
   ·have c1:(u.ended==0)=true:=by simpa using he
    rw[if_pos he]at hr
    obtain⟨o1,o2,o3,o4⟩:=V7 hu hbc (by omega)
    have hct:=T6 u c hu hbc (by omega) 0 4 2 3 (by decide)
    refine (mt c1 @Int.toNat_natCast g @Ab ?_).1
    refine⟨by omega,by omega,?_⟩
    cases hn:u.nild c with
    |true=>
     rw[hn,S6]at hct
     rw[hn,if_pos rfl]at hr
     have hbu:=o3 hn
     refine Aa.us hct rfl rfl ?_
     refine (mq ei ?_).1
     exact⟨(i+1,u.one c,some n),⟨hlt,o1,by simp only[];omega,hr⟩,by simp only[];omega,(Wk.rowObj 0 1 1 rfl rfl (.inr rfl) (by omega)).trans (Wk.sel [0,1,2,3,5] (by simp) rfl (by simp) rfl (by simp[hbu,AB,AE,AD,AR,AK]) (by simp[Cq,AT,AN]))⟩
    |false=>
     rw[hn,X4]at hct
     rw[hn,if_neg (by decide)]at hr
     have hkb:(u.one c).buf.length=u.buf.length+1:=by
      have hk:=(JM (K3 hu hbc (by omega)).1 (by have:=(K3 hu hbc (by omega)).2;omega)).2.1.buf
      rw[o4 hn,hk];simp[PS.add]
     have hlb:=hkb.symm
     refine Aa.us hct rfl rfl ?_
     refine (mq ei ?_).1
     exact⟨(i+1,u.one c,(some n)),⟨hlt,o1,by simp only[];omega,hr⟩,by simp only[];omega,Wk.to (by simp[hlb]) (by simp[Ca])⟩
   ·have c1:(u.ended==0)=false:=by simpa using he
    have hF:=hfin (by rw[if_neg he])
    refine (mq c1 ?_).1
    subst hF
    simp only[MS]
    (refine FB b20 [0,1,2,3,4] ?_ ?_<;>first|with_reducible rfl|(simp[Ae,Ah,Ai,Ag,AB,AE,AD,AR,AK];done)|rfl)
  ·have q1:decide ((i:Int)<(b.length:Int))=false:=decide_eq_false (by omega)
   have hF:=hfin (by rw[List.drop_of_length_le (by omega)];rfl)
   refine (mq q1 ?_).1
   subst hF
   simp only[MS]
   (refine FB b20 [0,1,2,3,4] ?_ ?_<;>first|with_reducible rfl|(simp[Ae,Ah,Ai,Ag,AB,AE,AD,AR,AK];done)|rfl)
theorem W9 (s:PS) (b:List Int) (h:Dc s) (ho:s.out=[]) (hb:AY b) (hn:s.fed+b.length≤1000000) (i j k:Nat) (hd:[i,j,k].Nodup):
 CtN Tryz.prog 20 [.ref i 0,A9 .u8 b] ([i,j,k].zip (U8 s j k)) (λn=>.sl (.row n) 20 (Kh (s.feedS b none).1.out)) (λn=>[i,j,k].zip (psZ (s.feedS b none).1 (s.feedS b none).2 j (n+1) k)) (λ_=>psN (s.feedS b none).1 (s.feedS b none).2):=by
 have h0:=W_ s b h ho hb hn
 obtain⟨⟨F,st⟩,hF⟩:∃F,s.feedS b none=F:=⟨_,rfl⟩
 rw[hF]at h0 ⊢
 simp only[]at h0 ⊢
 cases st with
 |none=>
  rw[MT]at h0
  exact CtN.mk h0 [i,j,k] hd rfl (by simp) (by simp) (λn N=>by simp[AK,AN]) (λn N=>by simp[AK,JT,List.range'_succ]) (λn N=>by simp[AK,AB,AE,AD]) (λn N=>by simp[AK,psZ,AB,AE,AD]) (λn N=>by simp[psN,AK])
 |some m=>
  rw[MS]at h0
  exact CtN.mk h0 [i,j,k] hd rfl (by simp) (by simp) (λn N=>by simp[AK,AN]) (λn N=>by simp[AK,JT,List.range'_succ]) (λn N=>by simp[AK,AB,AE,AD,List.range'_succ]) (λn N=>by simp[AK,psZ,AB,AE,AD,List.range'_succ]) (λn N=>by simp[psN,AK])
theorem Aba:An Tryz.prog 18 [] [] (.ref 0 0) [R5 GA DZ DZ DZ]:=by
 refine RM Tryz.func18 b18 ?_
 (refine AF.wao (ys:=[.fn (ZP 0) [] [],DZ,iA 0,iA 0,iA 0,uA 0,uA 0,uA 0,.sl .none 2 [],DZ,uA 0,iA 0,iA 0,uA 0,uA 0,iA 0,iA 0,iA 0,DZ]) 0 rfl (by repeat(first|exact Wa.refl _|exact Bo.nil|exact Wa.nil|exact Wa.none|refine Bo.cons ?_ ?_|refine Wa.agg ?_|refine Wa.slN ?_|refine Wa.slS ?_|exact Bo.refl _)) ?_;simp only[List.set_cons_zero,List.set_cons_succ])
 (refine FB b18 [0] ?_ ?_<;>first|with_reducible rfl|(simp[Ae,Ah,Ai,Ag,AB,GA,JH];done)|rfl)
theorem Af5:Ct Tryz.prog 18 [] [] (λn=>.ref n 0) [] (λ_=>[R5 GA DZ DZ DZ]):=Ct.n Aba (λρ=>by simp) (λn N=>by simp[AK]) (λn N=>by simp[AB])
theorem Aec:Dc GA:=⟨λx hx=>by simp[GA]at hx,by decide,by decide,by decide,by decide,by decide,by decide,by decide,by decide,by decide,by decide,by decide,by decide,by decide,by decide,by decide⟩
theorem OE (b:List Int) (hb:AY b) (hn:(b.length:Int)≤1000000) {S:List Ad} {K:KT} (i:Nat) (h1:S[i]? =some (R5 GA DZ DZ DZ))
 (hK:K (.sl (.row (S.length+2)) 20 (Kh (GA.feedS b none).1.out)) [i] [(i,R5 (GA.feedS b none).1 (VX (GA.feedS b none).1 (if(GA.feedS b none).2.isSome then S.length+3 else S.length)) (U7 (GA.feedS b none).1 (S.length+1)) DZ)]
   ([.row 1 ((GA.feedS b none).2.getD (GA.feedS b none).1.buf.length),.row 3 (GA.feedS b none).1.ms.length]++psN (GA.feedS b none).1 (GA.feedS b none).2)):
 Aa Tryz.prog 20 [.ref i 0,A9 .u8 b] S K:=by
 have hil:=(List.getElem?_eq_some_iff.1 h1).1
 refine⟨_,_,_,_,λT hT _ hd=>?_,λp hp=>?_,λp hp=>?_,hK⟩
 ·have Lp:T[S.length]? =some .dead:=hd (S.length,.row 1 ((GA.feedS b none).2.getD (GA.feedS b none).1.buf.length)) (by simp[BG])
  have hd1:T[S.length+1]? =some .dead:=hd (S.length+1,.row 3 (GA.feedS b none).1.ms.length) (by simp[BG])
  have t1:T[i]? =some (R5 GA DZ DZ DZ):=(hT i (by simp)).trans h1
  have C0:i<T.length:=(List.getElem?_eq_some_iff.1 t1).1
  refine An.rowObj (j:=1) 1 t1 rfl Lp (by omega) ?_
  refine An.rowObj (j:=9) (n:=S.length+1) 3 (k':=1) (i:=i) (ys:=[.fn (ZP 0) [] [],.sl (.row S.length) 1 [],iA 0,iA 0,iA 0,uA 0,uA 0,uA 0,.sl .none 2 [],DZ,uA 0,iA 0,iA 0,uA 0,uA 0,iA 0,iA 0,iA 0,DZ]) ?_ rfl ?_ (by omega) ?_
  ·simp[C0,GA,JH]
  ·rw[List.getElem?_set_ne (by omega),List.getElem?_set_ne (by omega)];exact hd1
  ·have hnd:[i,S.length,S.length+1].Nodup:=by
    simp only[List.nodup_cons,List.mem_cons,List.not_mem_nil,or_false,not_or,not_false_eq_true,List.nodup_nil,and_true]
    omega
   have hc:=W9 GA b Aec rfl hb (by show(0:Int)+_≤_;omega) i S.length (S.length+1) hnd
   have ht0:=(List.getElem?_eq_some_iff.1 Lp).1
   have ht1:=(List.getElem?_eq_some_iff.1 hd1).1
   have hx:=hc ((((T.set S.length (.row 1 0)).set i (.cells [.fn (ZP 0) [] [],.sl (.row S.length) 1 [],iA 0,iA 0,iA 0,uA 0,uA 0,uA 0,.sl .none 2 [],DZ,uA 0,iA 0,iA 0,uA 0,uA 0,iA 0,iA 0,iA 0,DZ])).set (S.length+1) (.row 3 0)).set i (.cells [.fn (ZP 0) [] [],.sl (.row S.length) 1 [],iA 0,iA 0,iA 0,uA 0,uA 0,uA 0,.sl .none 2 [],.sl (.row (S.length+1)) 3 [],uA 0,iA 0,iA 0,uA 0,uA 0,iA 0,iA 0,iA 0,DZ])) (S.length+2) (λp hp=>?_) (λp hp=>?_)
   ·rw[CE]at hx
    simp only[psZ,List.zip_cons_cons,List.zip_nil_right]at hx
    rw[CE,List.cons_append,List.cons_append,List.nil_append,BG,BG]
    rw[EU _ _ _ (by simp),EU _ _ _ (by simp),EU _ _ _ (by simp),EU _ _ _ (by simp)]at hx
    exact hx
   ·simp only[List.zip_cons_cons,List.zip_nil_right,List.mem_cons,List.not_mem_nil,or_false]at hp
    rcases hp with rfl|rfl|rfl
    ·simp[C0,GA,JH,A2,HG]
    ·simp only[]
     rw[List.getElem?_set_ne (by omega),List.getElem?_set_ne (by omega),List.getElem?_set_ne (by omega)]
     simp[ht0,GA]
    ·simp only[]
     rw[List.getElem?_set_ne (by omega)]
     simp[ht1,GA]
   ·have hpd:T[p.1]? =some .dead:=hd p (by
     rw[List.cons_append,List.cons_append,List.nil_append,BG,BG]
     exact List.mem_cons_of_mem _ (List.mem_cons_of_mem _ hp))
    have hge:S.length+2≤p.1:=by
     rw[HT]at hp
     have:=(List.of_mem_zip hp).1
     rw[List.mem_range']at this
     omega
    rw[List.getElem?_set_ne (by omega),List.getElem?_set_ne (by omega),List.getElem?_set_ne (by omega),List.getElem?_set_ne (by omega)]
    exact hpd
 ·simp only[List.mem_cons,List.not_mem_nil,or_false]at hp
  subst hp;simp
 ·simp only[List.mem_cons,List.not_mem_nil,or_false]at hp
  subst hp;exact hil
theorem Ct.pi {F:FuncId} {s:PS} {r:AV} (h:An Tryz.prog F [.ref 0 0] (U8 s 1 2) r (U8 s 1 2)) (hr:∀ρ,r.ren ρ=r) (i j k:Nat) (hd:[i,j,k].Nodup):Ct Tryz.prog F [.ref i 0] ([i,j,k].zip (U8 s j k)) (λ_=>r) ([i,j,k].zip (U8 s j k)) (λ_=>[]):=
 Ct.us h [i,j,k] hd rfl rfl (by simp) (λN=>by simp[AK]) (λN=>by simp[AK,AB,AE,AD]) (λN=>by simp[AK,AB,AE,AD]) (λN=>hr _)
theorem T5 (s:PS):An Tryz.prog 55 [.ref 0 0] (U8 s 1 2) (bA (s.ended==0)) (U8 s 1 2):=by
 refine RM Tryz.func55 b55 ?_
 (refine FB b55 [0,1,2] ?_ ?_<;>first|with_reducible rfl|(simp[Ae,Ah,Ai,Ag,AB,AE,AD,AK];done)|rfl)
theorem W4 (s:PS) (i j k:Nat) (hd:[i,j,k].Nodup):Ct Tryz.prog 55 [.ref i 0] ([i,j,k].zip (U8 s j k)) (λ_=>bA (s.ended==0)) ([i,j,k].zip (U8 s j k)) (λ_=>[]):=Ct.pi (T5 s) (λρ=>by simp) i j k hd
theorem T3 (s:PS) (h:Dc s):An Tryz.prog 57 [.ref 0 0] (U8 s 1 2) (bA s.whole) (U8 s 1 2):=by
 have t0:=h.t0
 have t1:=h.t1
 have a0:=h.a0
 have a1:=h.a1
 have z0:=h.z0
 have z1:=h.z1
 have w1:IntKind.i64.wrap (s.want.at_+s.want.size)=s.want.at_+s.want.size:=IntWalk.i64_in _ (by omega)
 have w2:IntKind.i64.wrap (s.want.at_+s.want.size+s.foot)=s.want.at_+s.want.size+s.foot:=IntWalk.i64_in _ (by omega)
 have w3:IntKind.i64.wrap (s.want.at_+s.want.size+s.foot+12)=s.want.at_+s.want.size+s.foot+12:=IntWalk.i64_in _ (by omega)
 have e:s.whole=(decide (0<s.foot)&&(decide (s.buf.length=0)&&decide (s.fed=s.want.at_+s.want.size+s.foot+12))):=rfl
 refine RM Tryz.func57 b57 ?_
 by_cases h1:0<s.foot
 ·have c1:decide (0<s.foot)=true:=by simpa using h1
  rw[c1,Bool.true_and]at e
  refine (mr c1 @Ab ?_).1
  by_cases h2:s.buf.length=0
  ·have c2:((s.buf.length:Int)==0)=true:=by simp only[beq_iff_eq];omega
   have e:s.whole=(s.fed==s.want.at_+s.want.size+s.foot+12):=by
    rw[e,decide_eq_true h2,Bool.true_and]
    by_cases h3:s.fed=s.want.at_+s.want.size+s.foot+12
    ·simp[h3]
    ·simp[h3]
   refine (ms c2 w1 w2 ?_).1
   refine Aa.p (CW) (mq w3 ?_).1
   (refine FB b57 [0,1,2] ?_ ?_<;>first|with_reducible rfl|(simp[Ae,Ah,Ai,Ag,e,AB,AE,AD,AK];done)|rfl)
  ·have c2:((s.buf.length:Int)==0)=false:=by simp only[beq_eq_false_iff_ne,ne_eq];omega
   have e:s.whole=false:=by rw[e,decide_eq_false h2,Bool.false_and]
   refine (mq c2 ?_).1
   (refine FB b57 [0,1,2] ?_ ?_<;>first|with_reducible rfl|(simp[Ae,Ah,Ai,Ag,e,AB,AE,AD,AK];done)|rfl)
 ·have c1:decide (0<s.foot)=false:=by simpa using h1
  rw[c1,Bool.false_and]at e
  refine (mq c1 ?_).1
  (refine FB b57 [0,1,2] ?_ ?_<;>first|with_reducible rfl|(simp[Ae,Ah,Ai,Ag,e,AB,AE,AD,AK];done)|rfl)
theorem W0 (s:PS) (h:Dc s) (i j k:Nat) (hd:[i,j,k].Nodup):Ct Tryz.prog 57 [.ref i 0] ([i,j,k].zip (U8 s j k)) (λ_=>bA s.whole) ([i,j,k].zip (U8 s j k)) (λ_=>[]):=Ct.pi (T3 s h) (λρ=>by simp) i j k hd
abbrev psQ (s:PS) (j k:Nat):List Ad:=[if s.ended=0 then R5 s.close.1 DZ (U7 s k) DZ else R5 s (VX s j) (U7 s k) DZ,.row 1 s.buf.length,.row 3 s.ms.length]
set_option maxRecDepth 100000 in
theorem T_ (s:PS) (h:Dc s):An Tryz.prog 21 [.ref 0 0] (U8 s 1 2) (.sl .none 20 (Kh s.close.2)) (psQ s 1 2):=by
 have e:s.close=if s.ended=0 then(if s.whole=true then({s with ended:=2,buf:=[]},[.oth 2 s.fed 0])else({s with ended:=3,buf:=[]},[.oth 3 s.fed 1]))else(s,[]):=rfl
 obtain⟨C,hC⟩:∃C,s.close=C:=⟨_,rfl⟩
 rw[hC]at e
 unfold psQ
 rw[hC]
 have hw:=W0 s h 0 1 2 (by decide)
 refine RM Tryz.func21 b21 ?_
 refine Aa.us (W4 s 0 1 2 (by decide)) rfl rfl ?_
 refine (mp ?_).1
 by_cases he:s.ended=0
 ·have c1:(s.ended==0)=true:=by simpa using he
  rw[if_pos he]at e ⊢
  refine (mq c1 ?_).1
  refine Aa.us hw rfl rfl ?_
  refine (mp ?_).1
  cases hwh:s.whole with
  |true=>
   rw[hwh,if_pos rfl]at e
   rw[e]
   have hev:Kh [.oth 2 s.fed 0]=[.agg [iA 2,iA s.fed,iA 0,iA 0,uA 0,uA 0,uA 0,iA 0,iA 0,DZ,DZ,DZ,uA 0,uA 0,uA 0,uA 0,DZ,uA 0,uA 0,DZ]]:=rfl
   refine (mp ?_).1
   (repeat((with_reducible refine And.intro ?_ ?_);(·exact sd)))
   (refine AF.untag 2 rfl ?_;simp only[Au,List.set_cons_zero,List.set_cons_succ])
   (refine FB b21 [0,1,2] ?_ ?_<;>first|with_reducible rfl|(simp[Ae,Ah,Ai,Ag,hev,AB,AE,AD,AK];done)|rfl)
  |false=>
   rw[hwh,if_neg (by decide)]at e
   rw[e]
   have hev:Kh [.oth 3 s.fed 1]=[.agg [iA 3,iA s.fed,iA 1,iA 0,uA 0,uA 0,uA 0,iA 0,iA 0,DZ,DZ,DZ,uA 0,uA 0,uA 0,uA 0,DZ,uA 0,uA 0,DZ]]:=rfl
   refine (mp ?_).1
   (repeat((with_reducible refine And.intro ?_ ?_);(·exact sd)))
   (refine AF.untag 2 rfl ?_;simp only[Au,List.set_cons_zero,List.set_cons_succ])
   (refine FB b21 [0,1,2] ?_ ?_<;>first|with_reducible rfl|(simp[Ae,Ah,Ai,Ag,hev,AB,AE,AD,AK];done)|rfl)
 ·have c1:(s.ended==0)=false:=by simpa using he
  rw[if_neg he]at e ⊢
  rw[e]
  refine (mq c1 ?_).1
  (refine AF.nilk 2 20 rfl ?_;simp only[List.set_cons_zero,List.set_cons_succ])
  (refine AF.untag 2 rfl ?_;simp only[Au,List.set_cons_zero,List.set_cons_succ])
  (refine FB b21 [0,1,2] ?_ ?_<;>first|with_reducible rfl|(simp[Ae,Ah,Ai,Ag,Kh,AB,AE,AD,AK];done)|rfl)
theorem Nt (s:PS) (h:Dc s) (i j k:Nat) (hd:[i,j,k].Nodup):Ct Tryz.prog 21 [.ref i 0] ([i,j,k].zip (U8 s j k)) (λ_=>.sl .none 20 (Kh s.close.2)) ([i,j,k].zip (psQ s j k)) (λ_=>[]):=by
 have h0:=T_ s h
 by_cases he:s.ended=0
 ·unfold psQ at h0 ⊢
  rw[if_pos he]at h0 ⊢
  exact Ct.us h0 [i,j,k] hd rfl rfl (by simp) (λN=>by simp[AK]) (λN=>by simp[AK,AB,AE,AD]) (λN=>by simp[AK,AB,AE,AD]) (λN=>by simp[JT])
 ·unfold psQ at h0 ⊢
  rw[if_neg he]at h0 ⊢
  exact Ct.us h0 [i,j,k] hd rfl rfl (by simp) (λN=>by simp[AK]) (λN=>by simp[AK,AB,AE,AD]) (λN=>by simp[AK,AB,AE,AD]) (λN=>by simp[JT])
def L_ (b:List Int):List Ev:=(GA.feed b).out++(GA.feed b).close.2
theorem Hm (l m:List Ev):Kh l++Kh m=Kh (l++m):=by simp[Kh]
set_option maxHeartbeats 1000000 in
set_option maxRecDepth 100000 in
theorem Abb (b:List Int) (hb:AY b) (hn:(b.length:Int)≤1000000):An Tryz.prog 28 [A9 .u8 b] [] (.sl .none 20 (Kh (L_ b))) []:=by
 have hfe:=Abc b GA none
 obtain⟨fk,fn⟩:=Akw b GA Aec hb (by show(0:Int)+_≤_;omega)
 have e:L_ b=(GA.feed b).out++(GA.feed b).close.2:=rfl
 have hcall:=λ{S:List Ad} {K:KT}=>@OE b hb hn S K
 obtain⟨⟨F,st⟩,hF⟩:∃F,GA.feedS b none=F:=⟨_,rfl⟩
 rw[hF]at hfe hcall
 simp only[]at hfe hcall
 rw[←hfe]at fk fn e
 have ol:=fk.ol
 have f2:=fk.f2
 have cl:F.close.2.length≤1:=by
  unfold PS.close
  split
  ·split<;>simp
  ·simp
 rw[e]
 refine RM Tryz.func28 b28 ?_
 refine Aa.n (Af5) (mp ?_).1
 refine hcall 0 rfl ?_
 cases st with
 |none=>
  simp only[psN,Option.getD_none,Option.isSome_none,Bool.false_eq_true,if_false]
  simp only[go_sem,seval,List.length_cons,List.length_nil,List.cons_append,List.nil_append];refine (mok ?_).1
  refine Aa.us (Nt F fk 0 1 2 (by decide)) rfl rfl ?_
  by_cases he:F.ended=0
  ·unfold psQ
   rw[if_pos he]
   refine (mr @C2 @Hm ?_).1
   refine⟨by omega,?_⟩
   (refine AF.untag 2 rfl ?_;simp only[Au,List.set_cons_zero,List.set_cons_succ])
   exact FA b28 []
  ·unfold psQ
   rw[if_neg he]
   refine (mr @C2 @Hm ?_).1
   refine⟨by omega,?_⟩
   (refine AF.untag 2 rfl ?_;simp only[Au,List.set_cons_zero,List.set_cons_succ])
   exact FA b28 []
 |some n=>
  simp only[psN,Option.getD_some,Option.isSome_some,if_true]
  simp only[go_sem,seval,List.length_cons,List.length_nil,List.cons_append,List.nil_append];refine (mok ?_).1
  refine Aa.us (Nt F fk 0 4 2 (by decide)) rfl rfl ?_
  by_cases he:F.ended=0
  ·unfold psQ
   rw[if_pos he]
   refine (mr @C2 @Hm ?_).1
   refine⟨by omega,?_⟩
   (refine AF.untag 2 rfl ?_;simp only[Au,List.set_cons_zero,List.set_cons_succ])
   exact FA b28 []
  ·unfold psQ
   rw[if_neg he]
   refine (mr @C2 @Hm ?_).1
   refine⟨by omega,?_⟩
   (refine AF.untag 2 rfl ?_;simp only[Au,List.set_cons_zero,List.set_cons_succ])
   exact FA b28 []
theorem Af6 (b:List Int) (hb:AY b) (hn:(b.length:Int)≤1000000):Ct Tryz.prog 28 [A9 .u8 b] [] (λ_=>.sl .none 20 (Kh (L_ b))) [] (λ_=>[]):=(Abb b hb hn).toCt cl cl
theorem Ajc {P:Program} {o:Oper} {t e:TypeId} {n:Nat} {ps:Array (Nat×Operand)} {zs:List Value} {l:List Int} (hop:o.op=.buildSlice t n ps) (ht:P.underlying t=some (.slice e)) (hs:Fs P e=some 1) (hz:Ey P e=some zs) (hlim:n≤16777216)
 (hps:ps.toList.map (·.1)=List.range n) (hl:ps.toList.map (·.2)=l.map λx=>.const (.int .u8 x)) (a:Act) (w:World):
 ∃B:Array Value,(execOp a.eval o).run P w=.ok (.value (.slice (some ⟨w.heap.size,0,none⟩) n n)) (w.alloc (.cells B e))∧∀(i:Nat) (x:Int),l[i]? =some x->B[i]? =some (.int .u8 x):=by
 have hlen:ps.toList.length=n:=by have:=congrArg List.length hps;simpa using this
 obtain⟨it,z,C0,hz0,hzc,ho⟩:=CX hz
 let us:List Value:=ps.toList.map λp=>a.eval p.2
 have hus:us=l.map λx=>Value.int .u8 x:=by
  have e1:us=(ps.toList.map (·.2)).map a.eval:=by simp[us]
  rw[e1,hl,List.map_map]
  congr 1
 have husl:us.length=n:=by simp[us,hlen]
 have husk:∀u∈us,u.cells.size=1:=by
  intro u hu
  rw[hus]at hu
  obtain⟨x,_,rfl⟩:=List.mem_map.1 hu
  rfl
 let A:Array Value:=(Array.range (n*1)).map (z.cells[· %z.cells.size]!)
 have hAs:A.size=n*1:=by simp[A]
 obtain⟨B,hB1,hB2,hB3,hB4⟩:=T2 1 us 0 A husk (by rw[hAs,husl,Nat.zero_add];exact Nat.le_refl _)
 have hzip:(List.range' 0 us.length).zip us=(ps.map λ(i,x)=>(i,a.eval x)).toList:=by
  rw[husl,←List.range_eq_range',←hps]
  simp only[us,Array.toList_map]
  rw[List.zip_map']
 refine⟨B,?_,λi x hx=>?_⟩
 ·simp only[execOp,hop,Instr.buildSlice,Sem.run_bind,run_underlying ht,Result.andThen_ok,B2 hs]
  rw[if_neg (by omega)]
  by_cases hn:n*1=0
  ·have hA0:A=(Array.range (n*1)).map (λx=>(#[]:Array Value)[x%(#[]:Array Value).size]!):=by
    apply Array.ext
    ·simp[A]
    ·intro i h1 h2;simp[A]at h1;omega
   rw[hzip,hA0]at hB1
   have hn':n=0:=by omega
   simp[hn']at hB1 ⊢
   simp[hB1,newRow]
  ·rw[hzip]at hB1
   have hn':¬n=0:=by omega
   simp[hn',zeroValue,typeInfo,C0,hz0]
   simp[A]at hB1
   simp[hB1,newRow]
 ·have h1:=hB4 i 0 (.int .u8 x) (by rw[hus,List.getElem?_map,hx];rfl) (by omega)
  rw[Nat.zero_add,Nat.mul_one,Nat.add_zero]at h1
  rw[h1];rfl
theorem Va {ro:Option Nat} {P:Program} {ops ops':Array Oper} {Q:Exit->Act->World->Prop}:∀(l:List Nat) (a:Act) (w:World),(∀i∈l,ops[i]? =ops'[i]?)->(∀i∈l,∀o,ops[i]? =some o->o.guard=none)->wpOpsIn (Fw ro) 0 P ops' Q l a w->wpOpsIn (Fw ro) 0 P ops Q l a w:=by
 intro l
 induction l with
 |nil=>intro a w _ _ h;exact h
 |cons i l ih=>
  intro a w he hg h
  have e:=he i (by simp)
  have ih':=λa w h=>ih a w (λj hj=>he j (by simp[hj])) (λj hj=>hg j (by simp[hj])) h
  simp only[wpOpsIn]at h ⊢
  rw[←e]at h
  cases ho:ops[i]? with
  |none=>rw[ho]at h;exact ih' _ _ h
  |some o=>
   rw[ho]at h
   have hgo:=hg i (by simp) o ho
   have hw:∀y,Region.wanted o y=true:=λy=>by simp[Region.wanted,hgo]
   simp only[hw,if_true]at h ⊢
   exact Oper.wpIn_mono (λa w h=>ih' a w h) h
theorem AC.lit {P:Program} {m id:Nat} {ops:Array Oper} {o0 o1:Oper} {t e:TypeId} {n d0 d1:Nat} {ps:Array (Nat×Operand)} {zs:List Value} {l:List Int} {tm:List AV} {S:List Ad} {Q:QT} (os:List Oper) (hops:ops.toList=o0::o1::os)
 (g:∀o∈ops.toList,o.guard=none) (hop0:o0.op=.buildSlice t n ps) (Lp:o0.dst=some d0) (hop1:o1.op=.convert t t (.tmp d0)) (hd1:o1.dst=some d1) (hne:d0≠d1) (hd0l:d0<tm.length) (hd1l:d1<tm.length)
 (ht:P.underlying t=some (.slice e)) (he:P.underlying e=some (.int .u8)) (hs:Fs P e=some 1) (hz:Ey P e=some zs) (hlim:n≤16777216) (hps:ps.toList.map (·.1)=List.range n) (hl:ps.toList.map (·.2)=l.map λx=>.const (.int .u8 x))
 {o:Oper} {cs:List RO} (hom:o.op=.move (.tmp d1)) (hod:o.dst=some d1) (hog:o.guard=none) (hc:F5 P (o::o::os).toArray=some cs)
 (h:DM P cs [] [] ((tm.set d0 .any).set d1 (.sl .none 1 (A2 .u8 l))) S (Q .normal)):AC P m (.region id ops false) tm S Q:=by
 intro G0 S0 w0 G a w hm hz0
 refine wpIn_wide.1 (wpIn_region (F:=Fw none) (n:=0) ?_)
 have hos:ops.size=os.length+2:=by rw[←Array.length_toList,hops];simp
 have h0:ops[0]? =some o0:=by rw[←Array.getElem?_toList,hops];rfl
 have h1:ops[1]? =some o1:=by rw[←Array.getElem?_toList,hops];rfl
 have g0:o0.guard=none:=g o0 (by rw[hops];simp)
 have g1:o1.guard=none:=g o1 (by rw[hops];simp)
 obtain⟨B,hB1,hB2⟩:=Ajc hop0 ht hs hz hlim hps hl a w
 have hnl:n=l.length:=by
  have e1:=congrArg List.length hps
  have e2:=congrArg List.length hl
  simp at e1 e2
  omega
 have hw0:=hz0.left.wd
 have hsz:=hz0.size
 have hconv:=Lib.run_convert_bytes_const (P:=P) w t e B n n ht he
 have hleft:=Bf.still_ (vs:=B.toList) hw0 (w':=w.alloc (.cells B e (B.size,B.size+1))) (DH.alloc w _) (λi v hv=>by simpa using hv)
 have hrep:BE (G.newImm w.heap.size B.toList) (.sl .none 1 (A2 .u8 l)) (.slice (some ⟨w.heap.size,0,none⟩) n n):=by
  have hil:(A2 .u8 l).length=n:=by rw[hnl];simp[A2]
  rw[show Value.slice (some ⟨w.heap.size,0,none⟩) n n=Value.slice (some ⟨w.heap.size,0,none⟩) (A2 .u8 l).length n by rw[hil]]
  refine .sl (b:=w.heap.size) (o:=0) (λi j=>.int .u8 (l.getD i 0)) (by omega) (λ_=>rfl) (λi x hx=>?_) (λi j hi hj=>?_) (λi j _ _=>rfl) (λi j x y hx hy=>?_) trivial
  ·obtain⟨z,_,rfl⟩:=Be hx;rfl
  ·have hi':i<l.length:=by omega
   have hj':j=0:=by omega
   subst hj'
   have:=hB2 i (l[i]) (List.getElem?_eq_getElem hi')
   simp[Gh.newImm,this,hi']
  ·obtain⟨z,hz,rfl⟩:=Be hx
   cases j with
   |zero=>simp[AV.cells]at hy;subst hy;simp[hz];exact .lit _
   |succ j=>simp[AV.cells]at hy
 have w0':Region.wanted o0 (yielded ops a.tmps)=true:=by simp[Region.wanted,g0]
 rw[hos,List.range_eq_range']
 simp only[List.range'_succ,wpOpsIn,h0,w0',if_true]
 refine FW (λc hc=>by rw[hop0]at hc;cases hc) (.inl ?_)
 unfold Oper.wp
 rw[hB1]
 simp only[Oper.upon]
 have w1':∀a:Act,Region.wanted o1 (yielded ops a.tmps)=true:=λa=>by simp[Region.wanted,g1]
 simp only[Nat.zero_add,h1,w1',if_true]
 refine FW (λc hc=>by rw[hop1]at hc;cases hc) (.inl ?_)
 unfold Oper.wp
 have hev:(a.put o0.dst (.slice (some ⟨w.heap.size,0,none⟩) n n)).eval (.tmp d0)=.slice (some ⟨w.heap.size,0,none⟩) n n:=by
  rw[Lp];simp[Act.eval,Act.put,hsz,hd0l]
 have hrun1:(execOp (a.put o0.dst (.slice (some ⟨w.heap.size,0,none⟩) n n)).eval o1).run P (w.alloc (.cells B e))=.ok (.value (.slice (some ⟨w.heap.size,0,none⟩) n n)) (w.alloc (.cells B e (B.size,B.size+1))):=by
  simp only[execOp,hop1,hev,Sem.run_bind,hconv,Result.andThen_ok,Sem.run_pure]
 rw[hrun1]
 simp only[Oper.upon]
 have hz1:=hz0.put (Bf.refl hw0) (x:=.any) (v:=.slice (some ⟨w.heap.size,0,none⟩) n n) (.any _) (some d0)
 have hz2:=hz1.put hleft hrep (some d1)
 rw[Lp,hd1]
 have hreg:=Pa (ro:=none) (Q:=λe a' w'=>∃tm' S' G',Cz G0 S0 w0 tm' S' G' a' w'∧Q e tm' S') hc hz2 h (λtm' S' G' a' w' hz' hq=>⟨_,_,G',hz',hq⟩)
 have hmv:∀(a:Act) (w:World) (K:Act->World->Prop) (Q:Exit->Act->World->Prop),o.wpIn (Fw none) 0 P a w K Q->K (a.put (some d1) (a.eval (.tmp d1))) w:=λa w K Q hh=>by
  obtain⟨_,hh⟩:=hh
  rw[Oper.semAt_eq _ _ _ (λc hc=>by rw[hom]at hc;cases hc)]at hh
  have hrm:(execOp a.eval o).run P w=.ok (.value (a.eval (.tmp d1))) w:=by simp[execOp,hom]
  rw[hrm]at hh
  rw[←hod]
  exact hh
 obtain⟨v,hv⟩:∃v,Value.slice (some ⟨w.heap.size,0,none⟩) n n=v:=⟨_,rfl⟩
 rw[hv]at hreg ⊢
 obtain⟨a2,ha2⟩:∃a2,(a.put (some d0) v).put (some d1) v=a2:=⟨_,rfl⟩
 have hsame:a2.put (some d1) (a2.eval (.tmp d1))=a2:=by
  rw[←ha2]
  have hd1':d1<a.tmps.size:=by rw[hsz];exact hd1l
  simp[Act.put,Act.eval,hd1']
 rw[ha2]at hreg ⊢
 have hs2:(o::o::os).toArray.size=os.length+2:=by simp
 rw[hs2,List.range_eq_range']at hreg
 have wo:∀y,Region.wanted o y=true:=λy=>by simp[Region.wanted,hog]
 have i0:(o::o::os).toArray[0]? =some o:=by simp
 have i1:(o::o::os).toArray[1]? =some o:=by simp
 simp only[List.range'_succ,wpOpsIn,i0,wo,if_true,Nat.zero_add,i1]at hreg
 have hreg:=hmv _ _ _ _ hreg
 rw[hsame]at hreg
 have hreg:=hmv _ _ _ _ hreg
 rw[hsame]at hreg
 refine Va (ops':=(o::o::os).toArray) _ _ _ (λi hi=>?_) (λi hi o' ho'=>?_) hreg
 ·rw[List.mem_range']at hi
  obtain⟨k,hk,rfl⟩:=hi
  rw[←Array.getElem?_toList,hops]
  rw[show 1+1+1*k=k+2 by omega]
  simp
 ·exact g o' (List.mem_of_getElem? (by rw[Array.getElem?_toList];exact ho'))
theorem AC.wk {P:Program} {m:Nat} {code:Code} {tm tm':List AV} {S S':List Ad} {Q:QT} (h:Wk m tm S tm' S') (k:AC P m code tm' S' Q):AC P m code tm S Q:=λG0 S0 w0 G a w hm hz=>by
 obtain⟨G',hz'⟩:=h G0 S0 w0 G a w hm hz
 exact k G0 S0 w0 G' a w hm hz'
theorem AC.seq {P:Program} {m:Nat} {a b:Code} {tm:List AV} {S:List Ad} {Q:QT} (h:AC P m a tm S (MP (λtm S=>AC P m b tm S Q) Q)):AC P m (.seq a b) tm S Q:=λG0 S0 w0 G x w hm hz=>by
 refine wp_seq (wp_mono (h G0 S0 w0 G x w hm hz) λe a' w' hq=>?_)
 obtain⟨tm',S',G',hz',hq⟩:=hq
 cases e with
 |normal=>exact hq G0 S0 w0 G' a' w' hm hz'
 |_=>exact⟨tm',S',G',hz',hq⟩
theorem An.bodyAC {P:Program} {f:FuncId} {fn:Func} {code:Code} {args:List AV} {S:List Ad} {r:AV} {S':List Ad} (hf:P.funcs[f]? =some fn) (hb:fn.body=some code) (hname:(fn.name== "runtime.NumGoroutine")=false)
 (h:AC P S.length code (args++List.replicate (fn.ntmps-args.length) .any) S λe tm S1=>(e=.ret∨e=.normal)∧AF P S.length fn tm S1 r S'):An P f args S r S':=by
 refine⟨⟨fn,hf,by simp[hb],hname⟩,λG w vs hw hr=>?_⟩
 refine(callsIn_wide (n:=0)).1 (callsIn_of_wp_marks hf hb trivial ?_)
 have hsz:vs.size=args.length:=by simpa using hr.1.symm
 have hz:Cz G S w (args++List.replicate (fn.ntmps-args.length) .any) S G {tmps:=vs++Array.replicate (fn.ntmps-vs.size) undef,defers:=[]} w:=by
  refine⟨Bf.refl hw,by simp[hsz],λt x v hx hv=>?_,IY.nil _ _,hw⟩
  rw[List.getElem?_append]at hx
  split at hx
  ·rename_i ht
   simp only[Array.getElem?_append]at hv
   rw[if_pos (by omega)]at hv
   exact hr.2 t x v hx (by simpa using hv)
  ·rw[List.getElem?_replicate]at hx
   split at hx
   ·injection hx with hx;subst hx;exact .any v
   ·cases hx
 refine wpIn_wide.2 (wp_mono (h G S w G _ w rfl hz) λe a' w' hq=>?_)
 obtain⟨tm',S1,G',hz',he,hfin⟩:=hq
 have key:∀(ds:List Deferred) (w':World),Cz G S w tm' S1 G' {a' with defers:=ds} w'->LeavesInM Fence.wide 0 P fn a'.tmps (λe w'=>∃v G',e=.returned v∧BE G' r v∧Bf G S w G' S' w') ds .returning w':=by
  intro ds
  induction ds with
  |nil=>
   intro w' hz'
   obtain⟨v,G'',hv,hrep,hleft⟩:=hfin G S w G' _ w' rfl hz'
   exact⟨v,hv,v,G'',rfl,hrep,hleft⟩
  |cons d ds ih=>
   intro w' hz'
   obtain⟨Ds,h1,h2,h3⟩:=hz'.defers
   cases Ds with
   |nil=>cases h2
   |cons D Ds=>
    simp only[List.map_cons,List.cons.injEq]at h2
    obtain⟨rfl,h2⟩:=h2
    have hD:=h3 D (by simp)
    refine⟨by simp,.inl ⟨D,w'.putObj D (.deferred none),rfl,run_takeDeferred hD.2,ih _ ?_⟩⟩
    have hl:=hz'.left
    refine⟨⟨hl.le,hl.wd.turnOut hD.2,⟨hl.kept.os,hl.kept.tape,hl.kept.output,by simpa[World.putObj]using hl.kept.size,λi hi hu=>?_⟩,hl.own,hl.still⟩,hz'.size,hz'.rep,⟨Ds,(List.nodup_cons.1 h1).2,h2,λD' hD'=>⟨(h3 D' (by simp[hD'])).1,?_⟩⟩,hz'.wd0⟩
    ·rw[World.putObj_heap_other (by omega)];exact hl.kept.block i hi hu
    ·rw[World.putObj_heap_other (by rintro rfl;exact(List.nodup_cons.1 h1).1 hD')];exact(h3 D' (by simp[hD'])).2
 rcases he with rfl|rfl
 ·exact key a'.defers w' hz'
 ·exact key a'.defers w' hz'
theorem Sn (b:List Int) (x y:Nat) (h:x≤y):b.take x++(b.drop x).take (y-x)=b.take y:=by
 rw[←List.take_add,show x+(y-x)=y by omega]
theorem Agc {b:List Int} {x y:Nat} (h:x<y):GM (b.take x) ⟨(b.drop x).take (y-x),0,0⟩=b.take y:=by
 show Cy (b.take x++(b.drop x).take (y-x)) 0 0=_
 rw[Sn b x y (by omega)];rfl
theorem XJ {b:List Int} {a off:Nat} (h0:1≤off) (h1:off≤a):∀n,a+n≤b.length->(∀i,i<n->b.getD (a+i) 0=b.getD (a+i-off) 0)->Cy (b.take a) off n=b.take (a+n):=by
 intro n
 induction n with
 |zero=>intro _ _;rfl
 |succ n ih=>
  intro hn he
  have h2:=ih (by omega) λi hi=>he i (by omega)
  rw[JD,h2]
  have hl:(b.take (a+n)).length=a+n:=by rw[List.length_take];omega
  have e1:(b.take (a+n)).getD (a+n-off) 0=b.getD (a+n) 0:=by
   rw[he n (by omega)]
   simp[List.getElem?_take,show a+n-off<a+n by omega]
  rw[hl,e1,show a+(n+1)=a+n+1 by omega,List.take_succ_eq_append_getElem (show a+n<b.length by omega)]
  simp[show a+n<b.length by omega]
theorem Ajs (b:List Int) (hb:b.length≤1048576):∀(f a x i:Nat),x≤a->b.length≤f+a->a≤b.length->C1 b.length (FT b f a x) i (b.take x)=(b,(0,0)):=by
 have hrun:∀x i:Nat,x≤b.length->∀r y,x≤y->y≤b.length->(∀i,C1 b.length r i (b.take y)=(b,(0,0)))->C1 b.length (Ek b x y++r) i (b.take x)=(b,(0,0)):=by
  intro x i hx r y hxy hy hr
  unfold Ek
  by_cases h:x<y
  ·rw[if_pos h,List.singleton_append,C1]
   have hl:((b.drop x).take (y-x)).length=y-x:=by rw[List.length_take,List.length_drop];omega
   have hrt:(⟨(b.drop x).take (y-x),0,0⟩:Tk).right=true:=Dy.2 (.inl (De.2 ⟨rfl,rfl,by rw[hl];omega,by rw[hl];omega⟩))
   have hm:(⟨(b.drop x).take (y-x),0,0⟩:Tk).made=((y-x:Nat):Int):=by
    unfold Tk.made
    rw[if_pos (De.2 ⟨rfl,rfl,by rw[hl];omega,by rw[hl];omega⟩),hl]
   have hw:Gc ⟨(b.drop x).take (y-x),0,0⟩ ((b.take x).length:Nat) (b.length:Nat)=0:=by
    unfold Gc
    rw[hrt,if_neg (by decide),hm,List.length_take,if_neg (by omega),if_neg (by(try simp only[]);omega)]
   rw[if_pos hw,Agc h]
   exact hr _
  ·rw[if_neg h,List.nil_append]
   obtain rfl:x=y:=by omega
   exact hr _
 have hend:∀x i:Nat,x≤b.length->C1 b.length (Ek b x b.length) i (b.take x)=(b,(0,0)):=λx i hx=>by
  have:=hrun x i hx [] b.length hx (Nat.le_refl _) λi=>by simp[C1]
  rwa[List.append_nil]at this
 intro f
 induction f with
 |zero=>intro a x i h1 h2 h3;exact hend x i (by omega)
 |succ f ih=>
  intro a x i h1 h2 h3
  have hok:=Ko b a
  rw[FT]
  split
  ·exact hend x i (by omega)
  ·split
   ·exact ih (a+1) x i (by omega) (by omega) (by omega)
   ·rename_i hz
    have hl:=hok.1.len
    have h0:=hok.1.n0
    have hm:=hok.1.most
    have ho:=hok.1.off (by omega)
    have heq:=hok.1.eq
    rw[List.append_assoc]
    refine hrun x i (by omega) _ a h1 h3 λi=>?_
    rw[List.singleton_append,C1]
    have hcp:(⟨[],(BT b a).1,(BT b a).2⟩:Tk).copy=true:=Cw.2 ⟨rfl,by(try simp only[]);omega,by(try simp only[]);omega,by(try simp only[]);omega,by(try simp only[]);omega⟩
    have hrt:(⟨[],(BT b a).1,(BT b a).2⟩:Tk).right=true:=Dy.2 (.inr hcp)
    have hnr:(⟨[],(BT b a).1,(BT b a).2⟩:Tk).run=false:=by
     cases hr:(⟨[],(BT b a).1,(BT b a).2⟩:Tk).run with
     |false=>rfl
     |true=>have:=CF hr;rw[hcp]at this;cases this
    have hmd:(⟨[],(BT b a).1,(BT b a).2⟩:Tk).made=(BT b a).2:=by
     unfold Tk.made;rw[hnr,if_neg (by decide),if_pos hcp]
    have hta:(b.take a).length=a:=by rw[List.length_take];omega
    have hw:Gc ⟨[],(BT b a).1,(BT b a).2⟩ ((b.take a).length:Nat) (b.length:Nat)=0:=by
     unfold Gc
     rw[hrt,if_neg (by decide),hmd,hta,if_neg (by omega),if_neg (by(try simp only[]);omega)]
    rw[if_pos hw]
    have hex:GM (b.take a) ⟨[],(BT b a).1,(BT b a).2⟩=b.take (a+(BT b a).2.toNat):=by
     show Cy (b.take a++[]) (BT b a).1.toNat (BT b a).2.toNat=_
     rw[List.append_nil]
     refine XJ (by omega) (by omega) _ (by omega) λj hj=>heq j (by omega)
    rw[hex]
    exact ih _ _ _ (Nat.le_refl _) (by omega) (by omega)
theorem ZO {b:List Int} (hn:b.length≤1048576) (hb:AY b) {bound:Int} (hbd:(b.length:Int)≤bound) (hp:(Bg b).length≤140737488355328):DT bound (RS.new (Bg b)) []=(b,(0,0)):=by
 have h1:=Ajs b hn b.length 0 0 0 (Nat.le_refl _) (by omega) (by omega)
 rw[List.take_zero]at h1
 have hok:Av (RS.new (Bg b)):=Av.new (MW hn hb) hp
 have h2:=Ud (b0:=b.length) (bound:=bound) (W:=b) (EG b) (RS.new (Bg b)) [] 0 hok rfl (λt ht=>JV b hb _ _ _ t ht) (BK _) h1 (λ_=>by simp;omega)
 exact h2.2.2 hbd
theorem GT {s:RS} (h:Av s) (hc:s.code=0) {x:Int} {r:List Int} (hr:s.rest=x::r):s.byte=(s.adv 1,x):=by
 have hl:=DP s h.at0 h.at1
 rw[hr,List.length_cons]at hl
 have hsk:s.skip 1=(s.adv 1,true):=by
  unfold RS.skip
  rw[if_pos hc,if_neg (by decide),if_neg (by unfold RS.left;omega)]
  rfl
 unfold RS.byte
 rw[hsk]
 simp only[if_true]
 have e:s.l.getD s.at_.toNat 0=x:=by
  unfold RS.rest at hr
  have:=congrArg (λl=>l.getD 0 0) hr
  simpa using this
 rw[e]
theorem Ac0 {s:RS} (h:Av s) (hc:s.code=0) {d r:List Int} (hd:AY d) (hn:d.length≤1048576) (hp:FJ d=true) (hr:s.rest=vb ((Bg d).length:Int)++Bg d++r):s.unpk d.length=(s.adv ((vb ((Bg d).length:Int)++Bg d).length:Int),d):=by
 have hpk:((vb ((Bg d).length:Int)).length:Int)+(Bg d).length<d.length:=by simpa[FJ]using hp
 have hb:=UI h hc (b:=Bg d) (r:=r) (m:=1048576) (by omega) (by omega) (by rw[hr];simp only[Dv])
 have hx:=ZO hn hd (Int.le_refl _) (by omega)
 unfold RS.unpk
 rw[hb]
 simp only[]
 rw[hx]
 have hac:(s.adv ((Dv (Bg d)).length:Int)).code=0:=hc
 rw[if_pos hac,if_pos rfl,if_neg (by simp)]
 rfl
theorem Alq {s:RS} (h:Av s) (hc:s.code=0) {d r:List Int} (hd:AY d) (hn:d.length≤1048576) (hr:s.rest=CM d++r):s.blk=(s.adv ((CM d).length:Int),d):=by
 obtain⟨w,hw⟩:∃w,(if FJ d=true then[(1:Int)]++(vb ((Bg d).length:Int)++Bg d)else[0]++d)=w:=⟨_,rfl⟩
 have eb:CM d=vb d.length++w:=by unfold CM;rw[hw]
 have hr1:s.rest=vb d.length++(w++r):=by rw[hr,eb,List.append_assoc]
 have hi:=Er hc (by omega:(0:Int)≤(d.length:Int)) (by omega:(d.length:Int)≤1048576) (by omega) hr1
 have ok1:=Bv h hr1
 have rs1:(s.adv ((vb d.length).length:Int)).rest=w++r:=by rw[A5 h.at0,hr1,List.drop_left]
 obtain⟨s1,hs1⟩:∃s1,s.adv ((vb (d.length:Int)).length:Int)=s1:=⟨_,rfl⟩
 have hc1:s1.code=0:=by rw[←hs1];exact hc
 rw[hs1]at hi ok1 rs1
 have key:s.bdat=(s.adv ((CM d).length:Int),d):=by
  unfold RS.bdat RS.bway
  rw[hi]
  simp only[]
  cases hp:FJ d with
  |true=>
   rw[hp,if_pos rfl]at hw
   have rs2:s1.rest=1::((vb ((Bg d).length:Int)++Bg d)++r):=by rw[rs1,←hw];simp
   have hby:=GT ok1 hc1 rs2
   have ok2:=Bv ok1 (a:=[1]) (r:=(vb ((Bg d).length:Int)++Bg d)++r) (by rw[rs2,List.singleton_append])
   have rs3:(s1.adv 1).rest=vb ((Bg d).length:Int)++Bg d++r:=by
    have:=A5 ok1.at0 1
    rw[show((1:Nat):Int)=1 from rfl,rs2]at this
    rw[this,List.drop_succ_cons,List.drop_zero]
   have hu:=Ac0 (s:=s1.adv 1) ok2 hc1 hd hn hp rs3
   rw[hby]
   simp only[]
   rw[if_pos (show(s1.adv 1).code=0 from hc1),if_neg (by decide),if_pos trivial,hu,←hs1,BH,BH,eb,←hw]
   simp only[List.length_append,List.length_singleton]
   exact Prod.ext (congrArg s.adv (by omega)) rfl
  |false=>
   rw[hp,if_neg (by decide)]at hw
   have rs2:s1.rest=0::(d++r):=by rw[rs1,←hw];simp
   have hby:=GT ok1 hc1 rs2
   have ok2:=Bv ok1 (a:=[0]) (r:=d++r) (by rw[rs2,List.singleton_append])
   have rs3:(s1.adv 1).rest=d++r:=by
    have:=A5 ok1.at0 1
    rw[show((1:Nat):Int)=1 from rfl,rs2]at this
    rw[this,List.drop_succ_cons,List.drop_zero]
   have ht:=C3 (s:=s1.adv 1) ok2 hc1 rs3
   rw[hby]
   simp only[]
   rw[if_pos (show(s1.adv 1).code=0 from hc1),if_pos trivial,ht,←hs1,BH,BH,eb,←hw]
   simp only[List.length_append,List.length_singleton]
   exact Prod.ext (congrArg s.adv (by omega)) rfl
 have hsl:(s.l.drop s.at_.toNat).take (((CM d).length:Int)).toNat=CM d:=by
  show s.rest.take _=_
  rw[hr,Int.toNat_natCast,List.take_left]
 have hL:s.blkL=(s.adv ((CM d).length:Int),(d,true)):=by
  unfold RS.blkL
  rw[key]
  simp only[]
  rw[if_pos (show(s.adv ((CM d).length:Int)).code=0 from hc)]
  have e1:(s.adv ((CM d).length:Int)).at_-s.at_=((CM d).length:Int):=by show s.at_+_-s.at_=_;omega
  rw[e1,hsl]
  simp[BJ]
 unfold RS.blk
 rw[hL]
 rfl
theorem Aip (l:List En):R4 (Gg l)=(AL l).length:=by
 induction l with
 |nil=>rfl
 |cons e l ih=>
  have e1:Gg (e::l)=(e.lk,(e.data.length:Int))::Gg l:=rfl
  have e2:AL (e::l)=e.data++AL l:=by simp[AL]
  rw[e1,R4,ih,e2,List.length_append];simp
theorem Aan (a b:List En):AL (a++b)=AL a++AL b:=by simp[AL]
theorem Ans {base:Int} {l:List En} (hl:Ens l) (hr:∀i,i<l.length->Cj (base+i) (l.getD i DN)=true) (hs:(AL l).length≤1048576) (hb:base+l.length≤4611686018427387904):Wf (CN base).nx [] (Gg l):=by
 have gen:∀(suf pre:List En),pre++suf=l->Wf (CN base).nx (Gg pre) (Gg suf):=by
  intro suf
  induction suf with
  |nil=>intro pre _;trivial
  |cons e suf ih=>
   intro pre h
   have hlen:=congrArg List.length h
   rw[List.length_append,List.length_cons]at hlen
   have hg:l.getD pre.length DN=e:=by rw[←h];simp
   have h1:=hr pre.length (by omega)
   rw[hg]at h1
   have hm:e∈l:=by rw[←h];simp
   have hj:=congrArg (λx=>(AL x).length) h
   simp only[Aan,List.length_append]at hj
   have hj2:(AL (e::suf)).length=e.data.length+(AL suf).length:=by simp[AL]
   have hpl:(Gg pre).length=pre.length:=by simp[Gg]
   have e1:Gg (e::suf)=(e.lk,(e.data.length:Int))::Gg suf:=rfl
   have e2:Gg pre++[(e.lk,(e.data.length:Int))]=Gg (pre++[e]):=by simp[Gg]
   rw[e1]
   refine⟨⟨(hl e hm).lk,by rw[hpl];exact(D2.1 h1).1,by simp,by rw[Aip];simp only[];omega,by rw[hpl];omega⟩,?_⟩
   rw[e2]
   exact ih (pre++[e]) (by rw[List.append_assoc,List.singleton_append];exact h)
 exact gen l [] rfl
theorem Alg:∀(hs hs':List En) (ns d:List Int) (acc:List En),hs.map (·.lk)=hs'.map (·.lk)->DL hs ns d acc=DL hs' ns d acc:=by
 intro hs
 induction hs with
 |nil=>
  intro hs' ns d acc h
  cases hs' with
  |nil=>rfl
  |cons e' hs'=>simp at h
 |cons e hs ih=>
  intro hs' ns d acc h
  cases hs' with
  |nil=>simp at h
  |cons e' hs'=>
   simp only[List.map_cons,List.cons.injEq]at h
   cases ns with
   |nil=>rfl
   |cons n ns=>
    simp only[DL]
    split
    ·rfl
    ·rw[h.1];exact ih _ _ _ _ h.2
theorem Uu (l:List En):DU (HZ (Gg l)) (JG (Gg l)) (AL l)=(l,true):=by
 have e1:JG (Gg l)=l.map λe=>(e.data.length:Int):=by simp[JG,Gg]
 have e2:(HZ (Gg l)).length=l.length:=by simp[HZ,Gg]
 unfold DU
 rw[e1,if_pos (by rw[e2,List.length_map]),Alg (HZ (Gg l)) l _ _ _ (by simp[HZ,Gg]),Abx]
 rfl
theorem NM {s:RS} (h:Av s) (hc:s.code=0) {b:Bt} {r:List Int} (hb:b.ok) (hr:B8 b=true) (hrest:s.rest=A6 b++r):s.btch RS.blk=(s.adv ((A6 b).length:Int),b):=by
 obtain⟨r1,⟨⟨r2,r2'⟩,r3,r4⟩,r5,r6⟩:=Cs.1 hr
 have b0:=hb.b0
 have q1:s.rest=vb b.ep++(vb b.base++(vb b.en.length++(IT b.base b.en++(CM (AL b.en)++r)))):=by rw[hrest];unfold A6;simp only[List.append_assoc]
 have p1:=Ho hc hb.e0 hb.e1 (BV.2 r1) q1
 have o1:=Bv h q1
 have q2:(s.adv ((vb b.ep).length:Int)).rest=vb b.base++(vb b.en.length++(IT b.base b.en++(CM (AL b.en)++r))):=by rw[A5 h.at0,q1,List.drop_left]
 obtain⟨s1,e1⟩:∃s1,s.adv ((vb b.ep).length:Int)=s1:=⟨_,rfl⟩
 rw[e1]at p1 o1 q2
 have c1:s1.code=0:=by rw[←e1];exact hc
 have p2:=Ho c1 hb.b0 hb.b1 (Ec.2 r3) q2
 have o2:=Bv o1 q2
 have q3:(s1.adv ((vb b.base).length:Int)).rest=vb b.en.length++(IT b.base b.en++(CM (AL b.en)++r)):=by rw[A5 o1.at0,q2,List.drop_left]
 obtain⟨s2,e2⟩:∃s2,s1.adv ((vb b.base).length:Int)=s2:=⟨_,rfl⟩
 rw[e2]at p2 o2 q3
 have c2:s2.code=0:=by rw[←e2];exact c1
 have p3:=Er c2 (by omega:(0:Int)≤(b.en.length:Int)) (by omega:(b.en.length:Int)≤16) (by omega) q3
 have o3:=Bv o2 q3
 have q4:(s2.adv ((vb (b.en.length:Int)).length:Int)).rest=IT b.base b.en++(CM (AL b.en)++r):=by rw[A5 o2.at0,q3,List.drop_left]
 obtain⟨s3,e3⟩:∃s3,s2.adv ((vb (b.en.length:Int)).length:Int)=s3:=⟨_,rfl⟩
 rw[e3]at p3 o3 q4
 have c3:s3.code=0:=by rw[←e3];exact c2
 have hwf:=Ans hb.en r6 r5 r4
 have p4:=Tj (J8 b0) (Gg b.en) [] s3 o3 c3 trivial hwf (m:=CM (AL b.en)++r) q4
 have hhl:(Gg b.en).length=b.en.length:=by simp[Gg]
 rw[hhl,List.nil_append]at p4
 have o4:=Bv o3 q4
 have q5:(s3.adv ((IT b.base b.en).length:Int)).rest=CM (AL b.en)++r:=by rw[A5 o3.at0,q4,List.drop_left]
 have p4':(CN b.base).many b.en.length s3 []=(s3.adv ((IT b.base b.en).length:Int),Gg b.en):=p4
 obtain⟨s4,e4⟩:∃s4,s3.adv ((IT b.base b.en).length:Int)=s4:=⟨_,rfl⟩
 rw[e4]at p4' o4 q5
 have c4:s4.code=0:=by rw[←e4];exact c3
 have p5:=Alq o4 c4 (TG hb.en) r5 q5
 have hbd:s.bthd=(s3,(b.ep,(b.base,(b.en.length:Int)))):=by
  unfold RS.bthd
  rw[p1];simp only[]
  rw[p2];simp only[]
  rw[p3];simp only[]
  rw[if_pos (GK.2 ⟨⟨by omega,by omega⟩,r3,r4⟩)]
 have hbe:s.bthe=(s4,Gg b.en):=by
  unfold RS.bthe
  rw[hbd];simp only[Int.toNat_natCast]
  exact p4'
 have hfi:RS.btfi s.bthe.1 s.bthe.2 (RS.blk s.bthe.1)=s4.adv ((CM (AL b.en)).length:Int):=by
  unfold RS.btfi
  rw[hbe];simp only[]
  rw[p5];simp only[]
  rw[Uu,if_pos rfl]
 unfold RS.btch
 rw[hfi,hbd,hbe]
 simp only[]
 rw[p5]
 simp only[]
 rw[Uu,if_pos c3,if_pos (show(s4.adv ((CM (AL b.en)).length:Int)).code=0 from c4)]
 have ead:s4.adv ((CM (AL b.en)).length:Int)=s.adv ((A6 b).length:Int):=by
  rw[←e4,←e3,←e2,←e1,BH,BH,BH,BH]
  have hl:(A6 b).length=(vb b.ep).length+((vb b.base).length+((vb (b.en.length:Int)).length+((IT b.base b.en).length+(CM (AL b.en)).length))):=by unfold A6;simp only[List.length_append]
  exact congrArg s.adv (by rw[hl];omega)
 rw[ead]
theorem PM {α:Type} {R:RS->RS×α} {z x:α} {k:Int} {p r:List Int} (hk:0≤k∧k<256) (hp:AY p) (hr:AY r) (hn:(Ac (k::p)++r).length≤140737488355328) (hm:p.length+1≤2097152)
 (hR:∀q,Av q->q.code=0->q.rest=p->R q=(q.adv (p.length:Int),x)):Bp R z k (Ac (k::p)++r)=(x,((Ac (k::p)).length:Int),(0,0)):=by
 have hb:AY (k::p):=λy hy=>by rcases List.mem_cons.1 hy with rfl|hy;exact hk;exact hp y hy
 have hg:=Nn (m:=2097152) hb hr hn (by rw[List.length_cons];unfold Ch;omega)
 have hok:Av (RS.new (k::p)):=Av.new hb (by rw[List.length_cons];omega)
 have hby:=GT hok rfl (BK (k::p))
 have ok1:=Bv hok (a:=[k]) (r:=p) (by rw[BK,List.singleton_append])
 have rs1:((RS.new (k::p)).adv 1).rest=p:=by
  have:=A5 hok.at0 1
  rw[show((1:Nat):Int)=1 from rfl,BK]at this
  rw[this,List.drop_succ_cons,List.drop_zero]
 have hRq:=hR ((RS.new (k::p)).adv 1) ok1 rfl rs1
 have hkr:Cg k (k::p)=(RS.new (k::p)).adv 1:=by
  unfold Cg
  rw[hby]
  simp only[if_true]
 have h9:(((RS.new (k::p)).adv 1).adv (p.length:Int)).rest9=((RS.new (k::p)).adv 1).adv (p.length:Int):=by
  unfold RS.rest9
  rw[if_neg]
  intro h
  have h2:(((RS.new (k::p)).adv 1).adv (p.length:Int)).left=((k::p).length:Int)-(0+1+p.length):=rfl
  rw[List.length_cons]at h2
  omega
 unfold Bp
 rw[hg]
 simp only[if_true]
 rw[hkr,hRq]
 simp only[]
 rw[h9,if_pos (show(((RS.new (k::p)).adv 1).adv (p.length:Int)).code=0 from rfl)]
theorem Wg:∀(l:List Bt) (a:Int) (i:Nat),i<l.length->(CR a l).getD i Cr=⟨(l.getD i BZ).base,(l.getD i BZ).en.length,a+(Bq (l.take i)).length⟩:=by
 intro l
 induction l with
 |nil=>intro a i h;simp at h
 |cons b l ih=>
  intro a i h
  cases i with
  |zero=>simp[CR,Bq]
  |succ i=>
   simp only[List.length_cons]at h
   simp only[CR,List.getD_cons_succ,List.take_succ_cons,FR,List.length_append]
   rw[ih _ i (by omega)]
   simp only[Mk.mk.injEq,true_and]
   omega
structure PX (g:Gj):Prop where
 right:Da g=true
 ok:∀b∈g.bt,b.ok
 len:∀b∈g.bt,(A6 b).length+1≤2097152
def BtR (b:Bt):Prop:=b.ok∧B8 b=true∧(A6 b).length+1≤2097152
theorem PX.mem {g:Gj} (h:PX g):∀b∈g.bt,BtR b:=λb hb=>by
 obtain⟨i,hi,rfl⟩:=List.getElem_of_mem hb
 have h1:=((BP.1 h.right).2.2 i hi).1
 have e:g.bt.getD i BZ=g.bt[i]:=by simp[hi]
 rw[e]at h1
 exact⟨h.ok _ hb,h1,h.len _ hb⟩
theorem PX.b {g:Gj} (h:PX g) {i:Nat} (hi:i<g.bt.length):BtR (g.bt.getD i BZ):=h.mem _ (by simp[hi])
theorem J9 (ep:Int):9≤(Am ⟨3,ep,0⟩).length∧(Am ⟨3,ep,0⟩).length≤40:=by
 have h1:=Ea ⟨3,ep,0⟩
 have h2:=(Bd ep).2
 have h3:(AH ⟨3,ep,0⟩).length=5+(vb ep).length:=by unfold AH BF;simp;omega
 omega
theorem Q0 {b:Bt} (h:BtR b):((Ac (1::A6 b)).length:Int)≤2200000∧0<(Ac (1::A6 b)).length:=by
 have h1:=h.2.2
 have h2:=Bh (1::A6 b)
 simp only[List.length_cons]at h2
 omega
theorem Ag7 {l:List Bt} (h:∀b∈l,BtR b):((Bq l).length:Int)≤2200000*l.length:=by
 induction l with
 |nil=>simp[Bq]
 |cons b l ih=>
  have h1:=ih λx hx=>h x (by simp[hx])
  have h2:=Q0 (h b (by simp))
  rw[FR,List.length_append,List.length_cons]
  omega
theorem PX.marks {g:Gj} (h:PX g):AZ (BU g)=true:=by
 obtain⟨h1,h2,h3⟩:=BP.1 h.right
 have hl:=J9 g.ep
 unfold AZ
 rw[Bool.and_eq_true,decide_eq_true_eq]
 refine⟨MI g.bt 0 0 _ (Lb h.right h.ok) (by omega) (λb hb=>Q0 (h.mem b hb)) (by omega),?_⟩
 unfold BU
 rw[C8];exact h2
theorem PX.lens {g:Gj} (h:PX g):(Dn g).length≤35200040∧9≤(Dn g).length∧(Ac (2::AO (BU g))).length≤600∧1≤(Ac (2::AO (BU g))).length:=by
 obtain⟨h1,h2,h3⟩:=BP.1 h.right
 have hl:=J9 g.ep
 have hb:=Ag7 h.mem
 have hp:(Dn g).length=(Am ⟨3,g.ep,0⟩).length+(Bq g.bt).length:=by unfold Dn;rw[List.length_append]
 have hm:=(Dp (BU g)).1
 have hm2:=(Bc.1 h.marks).2
 have hf:=Bh (2::AO (BU g))
 simp only[List.length_cons]at hf
 omega
theorem PX.foot {g:Gj} (h:PX g):Az (BY g)=true∧(BY g).ok:=by
 obtain⟨h1,h2,h3⟩:=BP.1 h.right
 have hl:=h.lens
 exact Lu h.marks h1 (by omega) (by omega)
theorem PQ {l:List Bt} (h:∀b∈l,BtR b):AY (Bq l):=by
 intro x hx
 simp only[Bq,List.mem_flatMap]at hx
 obtain⟨b,hb,hx⟩:=hx
 have h1:=(h b hb).2.2
 exact D4 (p:=1::A6 b) (λy hy=>by rcases List.mem_cons.1 hy with rfl|hy;decide;exact F7 (h b hb).1 (h b hb).2.1 y hy) (by rw[List.length_cons];omega) x hx
theorem Ac2 {ep a n:Int} {l:List Mk}:Fr (GJ ep l a n) l=true:=by
 unfold Fr GJ
 simp
theorem Yb {g:Gj} (h:PX g):Dh (CK g)=((BY g,((Dn g++Ac (2::AO (BU g))).length:Int),BU g),(0,0)):=by
 obtain⟨hf1,hf2⟩:=h.foot
 obtain⟨l1,l2,l3,l4⟩:=h.lens
 have hm2:=(Bc.1 h.marks).2
 have hff:=Af3 (pre:=Dn g++Ac (2::AO (BU g))) hf2 hf1
 have ea:(BY g).at_=(Dn g).length:=rfl
 have es:(BY g).size=(Ac (2::AO (BU g))).length:=rfl
 have hmid:KF (CK g) (BY g).at_ ((BY g).at_+(BY g).size)=Ac (2::AO (BU g))++[]:=by
  show((CK g).drop (BY g).at_.toNat).take ((BY g).at_+(BY g).size-(BY g).at_).toNat=_
  rw[ea,es,List.append_nil,Int.toNat_natCast,show(((Dn g).length:Int)+((Ac (2::AO (BU g))).length:Int)-(Dn g).length).toNat=(Ac (2::AO (BU g))).length by omega]
  unfold CK
  rw[List.append_assoc,List.drop_left,List.take_left]
 have hml:=(Dp (BU g)).1
 have hx:Jo (CK g) (BY g)=(BU g,((Ac (2::AO (BU g))).length:Int),(0,0)):=by
  show Bp RS.marks [] 2 (KF (CK g) (BY g).at_ ((BY g).at_+(BY g).size))=_
  rw[hmid]
  exact PM (by decide) (FK (Bc.1 h.marks).1 (by omega)) (λx hx=>by simp at hx) (by rw[List.append_nil];omega) (by omega) λq hq hc hr=>Ph hq hc h.marks (r:=[]) (by rw[List.append_nil];exact hr)
 have hif:J6 (CK g) (BY g)=(0,0):=by
  unfold J6
  rw[hx]
  simp only[if_true]
  rw[if_neg (by rw[es];omega),if_neg (by rw[show Fr (BY g) (BU g)=true from Ac2];decide)]
 unfold Dh
 rw[show AX (CK g)=(BY g,((Dn g++Ac (2::AO (BU g))).length:Int),(0,0))from hff]
 simp only[if_true]
 rw[if_neg (by rw[ea,es,List.length_append];omega),hif]
 simp only[if_true]
 rw[hx]
theorem MB {g:Gj} {i:Nat} (hi:i<g.bt.length):(BU g).getD i Cr=⟨(g.bt.getD i BZ).base,(g.bt.getD i BZ).en.length,(Am ⟨3,g.ep,0⟩++Bq (g.bt.take i)).length⟩:=by
 unfold BU
 rw[Wg _ _ i hi,List.length_append];simp
theorem Ahb {g:Gj} (h:PX g) {i:Nat} (hi:i<g.bt.length):Fh (CK g) ((BU g).getD i Cr) (BY g).at_=(g.bt.getD i BZ,(0,0)):=by
 obtain⟨hb,hr,hbl⟩:=h.b hi
 obtain⟨l1,l2,l3,l4⟩:=h.lens
 rw[MB hi]
 obtain⟨b,hbb⟩:∃b,g.bt.getD i BZ=b:=⟨_,rfl⟩
 rw[hbb]at hb hr hbl ⊢
 have hsp:g.bt=g.bt.take i++b::g.bt.drop (i+1):=by
  have h1:g.bt.drop i=b::g.bt.drop (i+1):=by rw[List.drop_eq_getElem_cons hi,←hbb];simp[hi]
  rw[←h1,List.take_append_drop]
 have hbd:Bq g.bt=Bq (g.bt.take i)++(Ac (1::A6 b)++Bq (g.bt.drop (i+1))):=by
  conv=>lhs;rw[hsp]
  simp[Bq]
 obtain⟨A,hA⟩:∃A,Am ⟨3,g.ep,0⟩++Bq (g.bt.take i)=A:=⟨_,rfl⟩
 have hP:Dn g=A++(Ac (1::A6 b)++Bq (g.bt.drop (i+1))):=by
  unfold Dn;rw[hbd,←hA,List.append_assoc]
 have hPl:(Dn g).length=A.length+((Ac (1::A6 b)).length+(Bq (g.bt.drop (i+1))).length):=by rw[hP];simp only[List.length_append]
 have hfl:=Q0 (b:=b) ⟨hb,hr,hbl⟩
 have ea:(BY g).at_=(Dn g).length:=rfl
 rw[hA]
 have hmid:KF (CK g) (A.length:Int) (BY g).at_=Ac (1::A6 b)++Bq (g.bt.drop (i+1)):=by
  show((CK g).drop ((A.length:Int)).toNat).take ((BY g).at_-A.length).toNat=_
  rw[ea,Int.toNat_natCast,show(((Dn g).length:Int)-A.length).toNat=(Ac (1::A6 b)++Bq (g.bt.drop (i+1))).length by rw[List.length_append];omega]
  unfold CK
  rw[hP]
  simp only[List.append_assoc]
  rw[List.drop_left,←List.append_assoc,List.take_left]
 have hdb:=PQ (l:=g.bt.drop (i+1)) λx hx=>h.mem x (List.mem_of_mem_drop hx)
 have hx:GX (CK g) ⟨b.base,b.en.length,A.length⟩ (BY g).at_=(b,((Ac (1::A6 b)).length:Int),(0,0)):=by
  show Bp (λq=>q.btch RS.blk) BZ 1 (KF (CK g) (A.length:Int) (BY g).at_)=_
  rw[hmid]
  exact PM (by decide) (F7 hb hr) hdb (by rw[List.length_append];omega) (by omega) λq hq hc hrs=>NM hq hc hb hr (r:=[]) (by rw[List.append_nil];exact hrs)
 unfold Fh
 rw[if_neg (by rw[ea];(try simp only[]);omega)]
 have hbf:NL (CK g) ⟨b.base,b.en.length,A.length⟩ (BY g).at_=(0,0):=by
  unfold NL
  rw[hx]
  simp
 rw[hx,hbf]
 rfl
theorem Aa4 {l:List Mk} (hr:AZ l=true) {pos:Int} {i:Nat} (hi:i<l.length) (h:C0 pos (l.getD i Cr)=true):Cc l pos=(l.getD i Cr,true):=by
 have e:EL (C0 pos) l=i:=by
  unfold EL
  rw[List.findIdx_eq hi]
  have hg:l.getD i Cr=l[i]:=by simp[hi]
  refine⟨by rw[←hg];exact h,λj hj=>?_⟩
  have hjl:j<l.length:=by omega
  have hgj:l.getD j Cr=l[j]:=by simp[hjl]
  cases hh:C0 pos l[j]with
  |false=>rfl
  |true=>
   rw[←hgj]at hh
   have:=Yf hr hjl hi hh h
   omega
 unfold Cc
 rw[e,if_pos ⟨hr,hi⟩]
theorem WX {l:List Mk} {pos:Int} (h:∀i,i<l.length->C0 pos (l.getD i Cr)=false):Cc l pos=(Cr,false):=by
 unfold Cc
 rw[if_neg]
 rintro⟨_,h2⟩
 have h3:=List.findIdx_getElem (w:=h2)
 have hg:l.getD (EL (C0 pos) l) Cr=l[EL (C0 pos) l]:=by simp[h2]
 have h4:=h _ h2
 rw[hg]at h4
 exact absurd (h3.symm.trans h4) (by decide)
theorem Tn {g:Gj} (h:PX g) {i k:Nat} (hi:i<g.bt.length) (hk:k<(g.bt.getD i BZ).en.length):C6 (CK g) ((g.bt.getD i BZ).base+k)=((g.bt.getD i BZ).en.getD k DN,(0,0)):=by
 have hml:(BU g).length=g.bt.length:=by unfold BU;rw[C8]
 have hfg:=Aa4 h.marks (pos:=(g.bt.getD i BZ).base+k) (i:=i) (by omega) (by
  rw[MB hi,ES]
  unfold Mk.fin
  simp only[]
  omega)
 have hba:=Ahb h hi
 unfold C6
 rw[Yb h]
 simp only[if_true]
 rw[hfg]
 simp only[]
 rw[if_neg (by decide),hba]
 simp only[if_true]
 unfold atP
 rw[if_pos (by omega)]
 simp only[]
 rw[show((g.bt.getD i BZ).base+(k:Int)-(g.bt.getD i BZ).base).toNat=k by omega]
theorem Z9 {g:Gj} (h:PX g) {pos:Int} (hno:∀i,i<g.bt.length->Es pos (g.bt.getD i BZ)=false):C6 (CK g) pos=(DN,(16,0)):=by
 have hml:(BU g).length=g.bt.length:=by unfold BU;rw[C8]
 have hfg:=WX (l:=BU g) (pos:=pos) λi hi=>by
  have h1:=hno i (by omega)
  rw[MB (by omega)]
  cases hh:C0 pos ⟨(g.bt.getD i BZ).base,(g.bt.getD i BZ).en.length,(Am ⟨3,g.ep,0⟩++Bq (g.bt.take i)).length⟩with
  |false=>rfl
  |true=>
   rw[ES]at hh
   have:Es pos (g.bt.getD i BZ)=true:=J7.2 hh
   rw[h1]at this
   exact absurd this (by decide)
 unfold C6
 rw[Yb h]
 simp only[if_true]
 rw[hfg]
 rfl
theorem Qa {l:List Int} {a c:Nat} (h:a≤c):l.take c=l.take a++(l.drop a).take (c-a):=(Sn l a c h).symm
theorem Aol {s:RS} (h:Av s) (hc:s.blk.1.code=0):s.code=0∧s.at_≤s.blk.1.at_∧AY s.blk.2∧s.blk.2.length≤1048576∧s.l.take s.blk.1.at_.toNat=s.l.take s.at_.toNat++CM s.blk.2:=by
 have hst:s.blkL.2.2=true:=by
  cases hb:s.blkL.2.2 with
  |true=>rfl
  |false=>
   unfold RS.blk at hc
   rw[hb,if_neg (by decide)]at hc
   exact absurd hc (IB _ (by decide))
 have e:s.blk=(s.blkL.1,s.blkL.2.1):=by unfold RS.blk;rw[if_pos hst]
 rw[e]at hc ⊢
 simp only[]at hc ⊢
 obtain⟨a1,a2,a3,a4⟩:=Rw h hc
 refine⟨a1,a2,a3,a4,?_⟩
 have hbd:s.bdat.1.code=0:=by
  by_cases hb:s.bdat.1.code=0
  ·exact hb
  ·unfold RS.blkL at hc;rw[if_neg hb]at hc;exact absurd hc hb
 have eL:s.blkL=(s.bdat.1,(s.bdat.2,BJ (CM s.bdat.2) ((s.l.drop s.at_.toNat).take (s.bdat.1.at_-s.at_).toNat))):=by unfold RS.blkL;rw[if_pos hbd]
 rw[eL]at hst a2 ⊢
 simp only[BJ,decide_eq_true_eq]at hst a2 ⊢
 have h0:=h.at0
 rw[Qa (a:=s.at_.toNat) (c:=s.bdat.1.at_.toNat) (by omega),hst,show s.bdat.1.at_.toNat-s.at_.toNat=(s.bdat.1.at_-s.at_).toNat by omega]
theorem Ant {l:List Hh} {r:List En} (h1:r.map (·.lk)=(HZ l).map (·.lk)) (h2:r.map (λe=>(e.data.length:Int))=JG l):Gg r=l:=by
 have e1:(HZ l).map (·.lk)=l.map (·.1):=by simp[HZ]
 rw[e1]at h1
 have hlen:=congrArg List.length h1
 simp at hlen
 apply List.ext_getElem
 ·simp[Gg,hlen]
 ·intro i h3 h4
  have g1:=congrArg (λx=>x[i]?) h1
  have g2:=congrArg (λx=>x[i]?) h2
  have hi:i<r.length:=by omega
  simp[JG,hi,h4]at g1 g2
  simp only[Gg,List.getElem_map]
  exact Prod.ext g1 g2
theorem Yy {s:RS} (h:Av s) (hc:(s.btch RS.blk).1.code=0):(s.btch RS.blk).2.ok∧B8 (s.btch RS.blk).2=true∧s.code=0∧s.at_<(s.btch RS.blk).1.at_∧s.l.take (s.btch RS.blk).1.at_.toNat=s.l.take s.at_.toNat++A6 (s.btch RS.blk).2:=by
 have hS:=(NN h GW).1
 have hbd:s.bthd.1.code=0:=by
  by_cases hb:s.bthd.1.code=0
  ·exact hb
  ·unfold RS.btch at hc;rw[if_neg hb]at hc;exact absurd hc hb
 have hfi:(RS.btfi s.bthe.1 s.bthe.2 (RS.blk s.bthe.1)).code=0:=by
  by_cases hb:(RS.btfi s.bthe.1 s.bthe.2 (RS.blk s.bthe.1)).code=0
  ·exact hb
  ·unfold RS.btch at hc;rw[if_pos hbd,if_neg hb]at hc;exact absurd hc hb
 have hdl:(DU (HZ s.bthe.2) (JG s.bthe.2) (RS.blk s.bthe.1).2).2=true:=by
  cases hd:(DU (HZ s.bthe.2) (JG s.bthe.2) (RS.blk s.bthe.1).2).2 with
  |true=>rfl
  |false=>
   unfold RS.btfi at hfi
   rw[hd,if_neg (by decide)]at hfi
   exact absurd hfi (IB _ (by decide))
 have ef:RS.btfi s.bthe.1 s.bthe.2 (RS.blk s.bthe.1)=(RS.blk s.bthe.1).1:=by unfold RS.btfi;rw[if_pos hdl]
 have e:s.btch RS.blk=((RS.blk s.bthe.1).1,⟨s.bthd.2.1,s.bthd.2.2.1,(DU (HZ s.bthe.2) (JG s.bthe.2) (RS.blk s.bthe.1).2).1⟩):=by
  unfold RS.btch;rw[if_pos hbd,if_pos hfi,ef]
 rw[ef]at hfi
 rw[e]at hS ⊢
 simp only[]at hS ⊢
 obtain⟨kh1,kh2⟩:=Fp h
 obtain⟨ke1,ke2⟩:=GU h
 obtain⟨b1,b2,b3,b4,b5⟩:=Aol ke1 hfi
 obtain⟨p1,p2,p3,p4,p5,p6,p7⟩:=Yx h hbd
 obtain⟨r,m1,m2,m3,m4,m5,m6⟩:=Qw (J8 p4) s.bthd.2.2.2.toNat s.bthd.1 [] kh1 trivial b1
 rw[List.nil_append]at m1 m3
 have em:s.bthe.2=r:=m1
 rw[em]at hdl hS ⊢
 have hle:(HZ r).length=(JG r).length:=by rw[EK,Jt]
 obtain⟨s1,s2⟩:=KN m3
 unfold DU at hdl hS ⊢
 rw[if_pos hle]at hdl hS ⊢
 obtain⟨x,x1,x2,x3,x4,x5,x6⟩:=KS _ _ _ [] hle hdl (λn hn=>(s2 n hn).1) b3
 rw[List.nil_append]at x1
 rw[x1]at hS ⊢
 have hh:=Ant x3 x5
 have hxl:x.length=s.bthd.2.2.2.toNat:=by rw[x2,EK,m2]
 have hjl:(AL x).length≤1048576:=by rw[x4];exact b4
 obtain⟨ka1,ka2⟩:=Bu h Aj
 obtain⟨kb1,kb2⟩:=Bu ka1 Bb
 have hfit:DS ((s.epo Aj).1.epo Bb).2 (((s.epo Aj).1.epo Bb).1.int 16).2=true:=by
  cases hf:DS ((s.epo Aj).1.epo Bb).2 (((s.epo Aj).1.epo Bb).1.int 16).2 with
  |true=>rfl
  |false=>
   unfold RS.bthd at hbd
   rw[hf,if_neg (by decide)]at hbd
   exact absurd hbd (IB _ (by decide))
 have ehd:s.bthd=((((s.epo Aj).1.epo Bb).1.int 16).1,((s.epo Aj).2,(((s.epo Aj).1.epo Bb).2,(((s.epo Aj).1.epo Bb).1.int 16).2))):=by unfold RS.bthd;rw[if_pos hfit]
 have hci:(((s.epo Aj).1.epo Bb).1.int 16).1.code=0:=by rw[ehd]at hbd;exact hbd
 obtain⟨i1,i2,i3,i4,i5⟩:=DE kb1 hci
 obtain⟨f1,f2,f3,f4,f5,f6⟩:=Hp ka1 i1
 obtain⟨g1,g2,g3,g4,g5,g6⟩:=Hp h f1
 rw[kb2.trans ka2]at i5
 rw[ka2]at f6
 have hn:((x.length:Nat):Int)=s.bthd.2.2.2:=by rw[hxl];omega
 have hright:B8 ⟨s.bthd.2.1,s.bthd.2.2.1,x⟩=true:=by
  rw[Cs]
  simp only[]
  refine⟨⟨p2,p3⟩,⟨⟨by omega,by omega⟩,by omega,by omega⟩,hjl,λi hi=>?_⟩
  have hr1:i<r.length:=by rw[m2,←hxl];exact hi
  have hg:=EA i hr1 m3
  have hx1:r[i]=(x[i].lk,(x[i].data.length:Int)):=by
   have:=congrArg (λy=>y[i]?) hh
   simp[Gg,hi,hr1]at this
   exact this.symm
  have htk:(r.take i).length=i:=by rw[List.length_take];omega
  rw[hx1]at hg
  have hgr:=hg.right
  simp only[List.nil_append,htk]at hgr
  have hsz:=(hS.small _ (show x[i]∈x from List.getElem_mem hi)).2.2
  have eg:x.getD i DN=x[i]:=by simp[hi]
  rw[eg]
  exact D2.2 ⟨hgr,hsz⟩
 refine⟨hS.ok,hright,p1,?_,?_⟩
 ·have e3:s.bthd.1.at_=(((s.epo Aj).1.epo Bb).1.int 16).1.at_:=by rw[ehd]
  have e4:s.bthd.1.at_≤s.bthe.1.at_:=m6
  omega
 ·have q1:s.l.take s.bthd.1.at_.toNat=s.l.take s.at_.toNat++(vb s.bthd.2.1++(vb s.bthd.2.2.1++vb s.bthd.2.2.2)):=by
   rw[ehd]
   simp only[]
   rw[i5,f6,g6]
   simp only[List.append_assoc]
  rw[kh2]at m4
  rw[ke2]at b5
  have m4':s.l.take s.bthe.1.at_.toNat=s.l.take s.bthd.1.at_.toNat++BR (CN s.bthd.2.2.1).enc [] r:=m4
  rw[b5,m4',q1]
  unfold A6 IT
  simp only[]
  rw[hh,hn,x4]
  simp only[List.append_assoc]
theorem NK {p:List Int} (hp:AY p) (hn:p.length≤140737488355328) (hc:(RS.new p).byte.1.code=0):p=(RS.new p).byte.2::p.drop 1∧(RS.new p).byte.1=(RS.new p).adv 1:=by
 have hok:Av (RS.new p):=Av.new hp hn
 cases p with
 |nil=>exact absurd hc (by decide)
 |cons y r=>
  have h:=GT hok rfl (BK (y::r))
  rw[h]
  exact⟨by simp,rfl⟩
structure SIn (L:List Int) (S:SD):Prop where
 pre:L.take S.r.at_.toNat=Am ⟨3,S.ep,0⟩++Bq S.bt
 ms:S.ms=CR (Am ⟨3,S.ep,0⟩).length S.bt
 bt:∀b∈S.bt,BtR b
 fo:∀i,i<S.bt.length->EM S.ep (S.bt.take i) (S.bt.getD i BZ)=true
 n:S.bt.length≤16
 ep:1≤S.ep∧S.ep<4611686018427387904
structure SIx (L:List Int) (S:SD):Prop where
 pre:L.take S.r.at_.toNat=Am ⟨3,S.ep,0⟩++Bq S.bt++Ac (2::AO S.ms)
 fst:S.fst=(Am ⟨3,S.ep,0⟩++Bq S.bt).length
 ms:S.ms=CR (Am ⟨3,S.ep,0⟩).length S.bt
 bt:∀b∈S.bt,BtR b
 fo:∀i,i<S.bt.length->EM S.ep (S.bt.take i) (S.bt.getD i BZ)=true
 n:S.bt.length≤16
 ep:1≤S.ep∧S.ep<4611686018427387904
theorem Qs {L:List Int} {S:SD} (h:L0 L S) {x:List Int} (hp:L.take S.r.at_.toNat=x):S.r.at_=(x.length:Int):=by
 have h0:=h.r.at0
 have h1:=h.r.at1
 rw[h.l]at h1
 have:=congrArg List.length hp
 rw[List.length_take]at this
 omega
theorem Aew {L:List Int} {S:SD} (h:L0 L S) (hc:S.r.code=0) (hi:SIn L S) (hc':(S.one Gk).1.r.code=0):((S.one Gk).2=false->SIn L (S.one Gk).1)∧((S.one Gk).2=true->SIx L (S.one Gk).1):=by
 obtain⟨p1,p2,p3⟩:=HQ h hc
 have hok:Av (RS.new S.pay.2.1):=Av.new p2 (by omega)
 have hpl:=Qs h hi.pre
 unfold SD.one at hc' ⊢
 by_cases hp:S.pay.1.r.code=0
 ·rw[if_pos hp]at hc' ⊢
  have hfr:=GI h.r (m:=2097152) hp
  obtain⟨_,f2,f3,f4,f5⟩:=hfr
  have e1:S.pay.2.1=(S.r.frame 2097152).2:=rfl
  have e2:S.pay.1.r=(S.r.frame 2097152).1:=rfl
  rw[h.l,hi.pre]at f5
  rw[←e1]at f2 f3 f5
  rw[←e2]at f5
  have hmf:Ch 2097152≤2097152:=KG _
  have eps:S.pay.1.ep=S.ep:=rfl
  have ebt:S.pay.1.bt=S.bt:=rfl
  have ems:S.pay.1.ms=S.ms:=rfl
  have efs:S.pay.1.fst=S.r.at_:=rfl
  by_cases h1:(RS.new S.pay.2.1).byte.2=1
  ·rw[if_pos h1]at hc' ⊢
   refine⟨λ_=>?_,λh=>by simp at h⟩
   simp only[]at hc' ⊢
   unfold SD.bat at hc' ⊢
   by_cases hw:(S.pay.1.r.wth ((Gk (RS.new S.pay.2.1).byte.1).1.rest9.code,(Gk (RS.new S.pay.2.1).byte.1).1.rest9.fat) S.pay.2.2).code=0
   ·rw[if_pos hw]at hc' ⊢
    simp only[]at hc'
    obtain⟨w1,w2,w3⟩:=Fq hw
    have hR:S.pay.1.batR (Gk (RS.new S.pay.2.1).byte.1) S.pay.2.2=S.pay.1.r∧¬S.bt.length=16∧EM S.ep S.bt (Gk (RS.new S.pay.2.1).byte.1).2.1=true:=by
     unfold SD.batR at hc' ⊢
     rw[if_pos hw]at hc' ⊢
     rw[eps,ebt]at hc' ⊢
     by_cases g1:S.bt.length=16
     ·rw[if_pos g1]at hc';exact absurd hc' (Dr (by decide))
     ·rw[if_neg g1]at hc' ⊢
      cases g2:EM S.ep S.bt (Gk (RS.new S.pay.2.1).byte.1).2.1 with
      |false=>rw[g2,if_pos rfl]at hc';exact absurd hc' (Dr (by decide))
      |true=>rw[if_neg (by decide)];exact⟨w3,g1,rfl⟩
    obtain⟨r1,r2,r3⟩:=hR
    simp only[]at w2
    obtain⟨u1,u2,u3⟩:=FD w2
    obtain⟨q1,q2⟩:=RS.ok.byte_ hok
    have hbi:=Yy q1 u1
    have edr:(Gk (RS.new S.pay.2.1).byte.1).2.1=((RS.new S.pay.2.1).byte.1.btch RS.blk).2:=rfl
    have edl:(Gk (RS.new S.pay.2.1).byte.1).1=((RS.new S.pay.2.1).byte.1.btch RS.blk).1:=rfl
    obtain⟨b1,b2,b3,b4,b5⟩:=hbi
    obtain⟨n1,n2⟩:=NK f3 (by omega) b3
    rw[edr]at r3 ⊢
    rw[edl]at u2
    obtain⟨b,hb⟩:∃b,((RS.new S.pay.2.1).byte.1.btch RS.blk).2=b:=⟨_,rfl⟩
    rw[hb]at b1 b2 b5 r3 ⊢
    have hk:Av ((RS.new S.pay.2.1).byte.1.btch RS.blk).1∧((RS.new S.pay.2.1).byte.1.btch RS.blk).1.l=(RS.new S.pay.2.1).byte.1.l:=DG q1 λs h=>B_ h
    have hlt:((RS.new S.pay.2.1).byte.1.btch RS.blk).1.l=S.pay.2.1:=hk.2.trans q2
    have hat1:=hk.1.at1
    rw[hlt]at hat1
    have hlf:((RS.new S.pay.2.1).byte.1.btch RS.blk).1.at_=(S.pay.2.1.length:Int):=by
     unfold RS.left at u2
     rw[hlt]at u2
     omega
    have hpb:S.pay.2.1=1::A6 b:=by
     rw[hlf,q2,n2]at b5
     have e3:(RS.new S.pay.2.1).l=S.pay.2.1:=rfl
     have e4:((RS.new S.pay.2.1).adv 1).at_=1:=rfl
     rw[e3,e4,Int.toNat_natCast,List.take_length]at b5
     rw[b5]
     rw[n1,h1]
     simp
    have hlen:(A6 b).length+1≤2097152:=by
     have:=congrArg List.length hpb
     rw[List.length_cons]at this
     omega
    have hBR:BtR b:=⟨b1,b2,hlen⟩
    rw[hpb]at f5
    have hfl:S.pay.1.fst=((Am ⟨3,S.ep,0⟩).length:Int)+(Bq S.bt).length:=by rw[efs,hpl,List.length_append];simp
    refine⟨?_,?_,?_,?_,?_,hi.ep⟩
    ·show L.take (S.pay.1.batR _ S.pay.2.2).at_.toNat=Am ⟨3,S.ep,0⟩++Bq (S.bt++[b])
     rw[r1,f5,JA,List.append_assoc]
    ·show S.ms++[⟨b.base,b.en.length,S.pay.1.fst⟩]=CR (Am ⟨3,S.ep,0⟩).length (S.bt++[b])
     rw[HU,←hi.ms,hfl]
    ·intro x hx
     rcases List.mem_append.1 hx with hx|hx
     ·exact hi.bt x hx
     ·simp at hx;subst hx;exact hBR
    ·intro i hilt
     have hilt':i<S.bt.length+1:=by
      have h9:i<(S.bt++[b]).length:=hilt
      rw[List.length_append,List.length_singleton]at h9;exact h9
     show EM S.ep ((S.bt++[b]).take i) ((S.bt++[b]).getD i BZ)=true
     rcases Nat.lt_or_ge i S.bt.length with h5|h5
     ·have:=hi.fo i h5
      rw[List.take_append_of_le_length (by omega)]
      have eg:(S.bt++[b]).getD i BZ=S.bt.getD i BZ:=by simp[h5,List.getElem?_append_left h5]
      rw[eg];exact this
     ·have e5:i=S.bt.length:=by omega
      subst e5
      rw[List.take_left]
      have eg:(S.bt++[b]).getD S.bt.length BZ=b:=by simp
      rw[eg];exact r3
    ·show(S.bt++[b]).length≤16
     have:=hi.n
     simp;omega
   ·rw[if_neg hw]at hc';exact absurd hc' hw
  ·rw[if_neg h1]at hc' ⊢
   by_cases h2:(RS.new S.pay.2.1).byte.2=2
   ·rw[if_pos h2]at hc' ⊢
    refine⟨λh=>by simp at h,λ_=>?_⟩
    simp only[]at hc' ⊢
    unfold SD.idx SD.idxR at hc' ⊢
    simp only[]at hc'
    by_cases hb:(S.pay.1.r.wth ((RS.new S.pay.2.1).byte.1.marks.1.rest9.code,(RS.new S.pay.2.1).byte.1.marks.1.rest9.fat) S.pay.2.2).code=0∧¬(RS.new S.pay.2.1).byte.1.marks.2=S.pay.1.ms
    ·rw[if_pos hb]at hc';exact absurd hc' (Dr (by decide))
    ·rw[if_neg hb]at hc' ⊢
     have hms:(RS.new S.pay.2.1).byte.1.marks.2=S.ms:=by
      by_cases hm:(RS.new S.pay.2.1).byte.1.marks.2=S.pay.1.ms
      ·exact hm
      ·exact absurd ⟨hc',hm⟩ hb
     obtain⟨w1,w2,w3⟩:=Fq hc'
     rw[w3]
     simp only[]at w2
     obtain⟨u1,u2,u3⟩:=FD w2
     obtain⟨q1,q2⟩:=RS.ok.byte_ hok
     obtain⟨m1,m2,m3,m4,m5⟩:=Hr DR q1 (m:=16) u1
     have m4':(RS.new S.pay.2.1).byte.1.l.take (RS.new S.pay.2.1).byte.1.marks.1.at_.toNat=(RS.new S.pay.2.1).byte.1.l.take (RS.new S.pay.2.1).byte.1.at_.toNat++AO (RS.new S.pay.2.1).byte.1.marks.2:=by
      rw[show(RS.new S.pay.2.1).byte.1.marks=Dq.counted 16 (RS.new S.pay.2.1).byte.1 from rfl,m4,List.append_assoc]
      rfl
     obtain⟨n1,n2⟩:=NK f3 (by omega) m3
     have hk:=DF DR q1 16
     have hlt:(RS.new S.pay.2.1).byte.1.marks.1.l=S.pay.2.1:=hk.2.trans q2
     have hat1:=hk.1.at1
     have hat1':(RS.new S.pay.2.1).byte.1.marks.1.at_≤((RS.new S.pay.2.1).byte.1.marks.1.l.length:Int):=hat1
     rw[hlt]at hat1'
     have hlf:(RS.new S.pay.2.1).byte.1.marks.1.at_=(S.pay.2.1.length:Int):=by
      unfold RS.left at u2
      rw[hlt]at u2
      omega
     have hpb:S.pay.2.1=2::AO S.ms:=by
      rw[hlf,q2,n2,←n2,hms,n2]at m4'
      have e3:(RS.new S.pay.2.1).l=S.pay.2.1:=rfl
      have e4:((RS.new S.pay.2.1).adv 1).at_=1:=rfl
      rw[e3,e4,Int.toNat_natCast,List.take_length]at m4'
      rw[m4',n1,h2]
      simp
     rw[hpb]at f5
     refine⟨?_,?_,hi.ms,hi.bt,hi.fo,hi.n,hi.ep⟩
     ·show L.take S.pay.1.r.at_.toNat=Am ⟨3,S.ep,0⟩++Bq S.bt++Ac (2::AO S.ms)
      exact f5
     ·show S.pay.1.fst=((Am ⟨3,S.ep,0⟩++Bq S.bt).length:Int)
      rw[efs,hpl]
   ·rw[if_neg h2]at hc'
    exact absurd (Fq hc').2.1 (Dr (by decide))
 ·rw[if_neg hp]at hc';exact absurd hc' hp
theorem Ajo {L:List Int}:∀(n:Nat) (S:SD),L0 L S->(S.r.code=0->SIn L S∧(L.length:Int)-S.r.at_<n)->(S.recs Gk n).r.code=0->SIx L (S.recs Gk n):=by
 intro n
 induction n with
 |zero=>
  intro S h hi hc
  have h1:=h.r.at1
  rw[h.l]at h1
  have:=(hi hc).2
  omega
 |succ n ih=>
  intro S h hi hc
  rw[SD.recs]at hc ⊢
  by_cases hz:S.r.code=0
  ·rw[if_pos hz]at hc ⊢
   obtain⟨i1,i2⟩:=hi hz
   obtain⟨k1,k2⟩:=M1 VS h hz
   cases hb:(S.one Gk).2 with
   |true=>
    rw[hb,if_pos rfl]at hc
    rw[if_pos rfl]
    exact(Aew h hz i1 hc).2 hb
   |false=>
    rw[hb,if_neg (by decide)]at hc
    rw[if_neg (by decide)]
    refine ih _ k1 (λhz'=>⟨(Aew h hz i1 hz').1 hb,?_⟩) hc
    have:=k2 hz'
    omega
  ·rw[if_neg hz]at hc;exact absurd hc hz
theorem Ade {l:List Int} (hb:AY l) (hl:l.length≤1000000) (hc:(SD.start l).r.code=0):SIn l (SD.start l):=by
 have hok:Av (RS.new l):=Av.new hb (by omega)
 have e:(SD.start l).r=if(RS.new l).header.2.ver=3 then(RS.new l).header.1 else(RS.new l).header.1.fail 8 4:=rfl
 rw[e]at hc
 by_cases hv:(RS.new l).header.2.ver=3
 ·rw[if_pos hv]at hc
  obtain⟨_,h2,h3,h4,h5⟩:=Pw hok hc
  obtain⟨r1,r2,r3,r4⟩:=CY.1 h2
  have hz:(RS.new l).header.2.base=0:=by
   rcases r4 with r4|r4
   ·omega
   ·exact r4
  have eh:(RS.new l).header.2=⟨3,(RS.new l).header.2.ep,0⟩:=by
   obtain⟨H,hH⟩:∃H,(RS.new l).header.2=H:=⟨_,rfl⟩
   rw[hH]at hv hz ⊢
   cases H
   simp only[]at hv hz
   rw[hv,hz]
  have e0:(RS.new l).l.take (RS.new l).at_.toNat=[]:=by simp[RS.new]
  rw[e0,List.nil_append]at h5
  refine⟨?_,rfl,λb hb=>by simp[SD.start]at hb,λi hi=>by simp[SD.start]at hi,by simp[SD.start],r2⟩
  show l.take (SD.start l).r.at_.toNat=Am ⟨3,(RS.new l).header.2.ep,0⟩++Bq []
  rw[e,if_pos hv,←eh]
  have e1:(RS.new l).l=l:=rfl
  rw[e1]at h5
  rw[h5];simp[Bq]
 ·rw[if_neg hv]at hc
  exact absurd hc (Dr (by decide))
theorem Aoj {l:List Int} (hb:AY l) (hl:l.length≤1000000) (hc:(Gi Gk l).2.1=0):l=CK (Gi Gk l).1.1∧PX (Gi Gk l).1.1∧(Gi Gk l).2=(0,0):=by
 have hs0:=Mr hb hl
 have hs1:=Ahr VS hb hl
 have hd:(SD.all Gk l).done.code=0:=by
  by_cases h:(SD.all Gk l).done.code=0
  ·exact h
  ·unfold Gi at hc;rw[if_neg h]at hc;exact absurd hc h
 have e:Gi Gk l=((⟨(SD.all Gk l).ep,(SD.all Gk l).bt⟩,(SD.all Gk l).w),(0,0)):=by unfold Gi;rw[if_pos hd]
 rw[e]
 simp only[]
 have hrc:(SD.all Gk l).r.code=0:=by
  by_cases h:(SD.all Gk l).r.code=0
  ·exact h
  ·unfold SD.done at hd;rw[if_neg h]at hd;exact absurd hd h
 have hix:SIx l (SD.all Gk l):=Ajo _ _ hs0 (λh0=>⟨Ade hb hl h0,by have:=hs0.r.at0;omega⟩) hrc
 obtain⟨S,hS⟩:∃S,SD.all Gk l=S:=⟨_,rfl⟩
 rw[hS]at hs1 hd hrc hix ⊢
 have hfin:S.fin.code=0:=by unfold SD.done at hd;rw[if_pos hrc]at hd;exact hd
 have hpc:S.pay.1.r.code=0:=by
  by_cases h:S.pay.1.r.code=0
  ·exact h
  ·unfold SD.fin at hfin;rw[if_neg h]at hfin;exact absurd hfin h
 unfold SD.fin at hfin
 rw[if_pos hpc]at hfin
 obtain⟨u1,u2,u3⟩:=FD hfin
 obtain⟨p1,p2,p3⟩:=HQ hs1 hrc
 obtain⟨_,f2,f3,f4,f5⟩:=GI hs1.r (m:=2097152) hpc
 have e1:S.pay.2.1=(S.r.frame 2097152).2:=rfl
 have e2:S.pay.1.r=(S.r.frame 2097152).1:=rfl
 have efs:S.pay.1.fst=S.r.at_:=rfl
 rw[hs1.l,hix.pre]at f5
 rw[←e1]at f3 f5
 rw[←e2]at f5
 have hpl:=Qs hs1 hix.pre
 have hpl2:=Qs p1 f5
 have htr:(S.end1.take 12).2=A0 (S.end1.at_-S.pay.1.fst)∧(S.end1.take 12).1.code=0∧S.end2=(S.end1.take 12).1:=by
  unfold SD.end2 at u1 ⊢
  by_cases h:(S.end1.take 12).2=A0 (S.end1.at_-S.pay.1.fst)
  ·rw[if_pos h]at u1 ⊢;exact⟨h,u1,rfl⟩
  ·rw[if_neg h]at u1;exact absurd u1 (Dr (by decide))
 obtain⟨t1,t2,t3⟩:=htr
 obtain⟨v1,v2,v3,v4⟩:=Kz t2
 have hen:(Bs S.pay.2.1).1=S.want∧(Bs S.pay.2.1).2.1=0∧S.end1=S.pay.1.r:=by
  unfold SD.end1 at v1 ⊢
  by_cases h:(Bs S.pay.2.1).1=S.want
  ·rw[if_pos h]at v1 ⊢
   obtain⟨w1,w2,w3⟩:=Fq v1
   exact⟨h,w2,w3⟩
  ·rw[if_neg h]at v1;exact absurd v1 (Dr (by decide))
 obtain⟨x1,x2,x3⟩:=hen
 have hfc:(RS.new S.pay.2.1).foot.1.code=0:=by
  by_cases h:(RS.new S.pay.2.1).foot.1.code=0
  ·exact h
  ·unfold Bs at x2;rw[if_neg h]at x2;exact absurd x2 h
 obtain⟨g1,g2,g3⟩:=Ym f3 (by omega) hfc
 have eft:(Bs S.pay.2.1).1=(RS.new S.pay.2.1).foot.2:=by unfold Bs;rw[if_pos hfc]
 rw[←eft,x1]at g3
 have hSg:PX ⟨S.ep,S.bt⟩:=by
  refine⟨BP.2 ⟨hix.ep,hix.n,λi hi=>⟨?_,hix.fo i hi⟩⟩,λb hb=>(hix.bt b hb).1,λb hb=>(hix.bt b hb).2.2⟩
  have hi':i<S.bt.length:=hi
  exact(hix.bt _ (show S.bt.getD i BZ∈S.bt by simp[hi'])).2.1
 have hP:Dn ⟨S.ep,S.bt⟩=Am ⟨3,S.ep,0⟩++Bq S.bt:=rfl
 have hM:BU ⟨S.ep,S.bt⟩=S.ms:=hix.ms.symm
 have hF:BY ⟨S.ep,S.bt⟩=S.want:=by
  unfold BY SD.want
  rw[hM,hP,hix.fst,hpl]
  simp only[List.length_append]
  congr 1
  omega
 refine⟨?_,hSg,trivial⟩
 unfold CK
 rw[hF,hM,hP]
 have hat:S.end1.at_-S.pay.1.fst=((Ac (Bj S.want)).length:Int):=by
  rw[x3,hpl2,efs,hpl,g3]
  simp only[List.length_append]
  omega
 have hl1:S.end1.l=l:=by rw[x3];exact p1.l
 have hall:S.end1.at_+12=(l.length:Int):=by
  rw[t3,v4]at u2
  have e9:(S.end1.adv 12).left=(S.end1.l.length:Int)-(S.end1.at_+12):=rfl
  have e10:S.end1.left=(S.end1.l.length:Int)-S.end1.at_:=rfl
  rw[e9,hl1]at u2
  rw[e10,hl1]at v3
  omega
 rw[v4]at t1
 simp only[]at t1
 rw[hat,hl1]at t1
 have h0:=p1.r.at0
 rw[←x3]at h0
 have hsplit:l=l.take S.end1.at_.toNat++l.drop S.end1.at_.toNat:=(List.take_append_drop _ _).symm
 have htk:(l.drop S.end1.at_.toNat).take (12:Int).toNat=l.drop S.end1.at_.toNat:=List.take_of_length_le (by rw[List.length_drop];omega)
 rw[htk]at t1
 conv=>lhs;rw[hsplit,t1,x3,f5,g3]
 unfold Eu
 simp only[List.append_assoc]
theorem Afy {c a:Int} (h:(BW c a).1=0):c=0:=by
 unfold BW at h
 by_cases hc:c=0
 ·exact hc
 ·rw[if_neg hc]at h;exact h
theorem Agn {b:Bt} (hb:b.ok) (hr:B8 b=true) (hn:(A6 b).length≤140737488355328):Ut (A6 b)=(b,(0,0)):=by
 have hok:Av (RS.new (A6 b)):=Av.new (F7 hb hr) hn
 have h:=NM hok rfl hb hr (r:=[]) (by rw[BK,List.append_nil])
 have h9:((RS.new (A6 b)).adv ((A6 b).length:Int)).rest9=(RS.new (A6 b)).adv ((A6 b).length:Int):=by
  unfold RS.rest9
  rw[if_neg]
  intro h
  have h2:((RS.new (A6 b)).adv ((A6 b).length:Int)).left=((A6 b).length:Int)-(0+(A6 b).length):=rfl
  omega
 unfold Ut
 rw[h]
 simp only[]
 rw[h9,if_pos (show((RS.new (A6 b)).adv ((A6 b).length:Int)).code=0 from rfl)]
theorem Alt {s:List Int} (hb:AY s) (hn:s.length≤1000000) (hc:(Bp (λq=>q.btch RS.blk) BZ 1 s).2.2.1=0):
 ∃b r,(Bp (λq=>q.btch RS.blk) BZ 1 s).1=b∧BtR b∧s=Ac (1::A6 b)++r:=by
 have hg:(BA s 2097152).2.2.1=0:=by
  by_cases h:(BA s 2097152).2.2.1=0
  ·exact h
  ·unfold Bp at hc;rw[if_neg h]at hc;exact absurd hc h
 have hr9:((Cg 1 (BA s 2097152).1).btch RS.blk).1.rest9.code=0:=by
  by_cases h:((Cg 1 (BA s 2097152).1).btch RS.blk).1.rest9.code=0
  ·exact h
  ·unfold Bp at hc;rw[if_pos hg,if_neg h]at hc;exact absurd hc h
 have e:(Bp (λq=>q.btch RS.blk) BZ 1 s).1=((Cg 1 (BA s 2097152).1).btch RS.blk).2:=by unfold Bp;rw[if_pos hg,if_pos hr9]
 rw[e]
 obtain⟨a1,a2,a3,a4,a5,a6⟩:=Ix hb (by omega) hg
 obtain⟨P,hP⟩:∃P,(BA s 2097152).1=P:=⟨_,rfl⟩
 rw[hP]at hr9 a2 a3 a6 ⊢
 have hmf:Ch 2097152≤2097152:=KG _
 have hPl:P.length≤1000000:=by
  have h1:=congrArg List.length a6
  have h2:=Bh P
  rw[List.length_take]at h1
  omega
 have hok:Av (RS.new P):=Av.new a2 (by omega)
 obtain⟨k1,k2,k3⟩:=Na 1 a2 hPl
 obtain⟨u1,u2,u3⟩:=FD hr9
 obtain⟨b1,b2,b3,b4,b5⟩:=Yy k1 u1
 have hkd:(RS.new P).byte.2=1∧Cg 1 P=(RS.new P).byte.1:=by
  unfold Cg at b3 ⊢
  by_cases h:(RS.new P).byte.2=1
  ·rw[if_pos h];exact⟨h,rfl⟩
  ·rw[if_neg h]at b3;exact absurd b3 (Dr (by decide))
 obtain⟨d1,d2⟩:=hkd
 rw[d2]at b3
 obtain⟨n1,n2⟩:=NK a2 (by omega) b3
 have hk:Av ((Cg 1 P).btch RS.blk).1∧((Cg 1 P).btch RS.blk).1.l=(Cg 1 P).l:=DG k1 λs h=>B_ h
 have hlt:((Cg 1 P).btch RS.blk).1.l=P:=hk.2.trans k2
 have hat1:=hk.1.at1
 rw[hlt]at hat1
 have hlf:((Cg 1 P).btch RS.blk).1.at_=(P.length:Int):=by
  unfold RS.left at u2
  rw[hlt]at u2
  omega
 obtain⟨b,hbb⟩:∃b,((Cg 1 P).btch RS.blk).2=b:=⟨_,rfl⟩
 rw[hbb]at b1 b2 b5 ⊢
 have hpb:P=1::A6 b:=by
  rw[hlf,k2,d2,n2]at b5
  have e4:((RS.new P).adv 1).at_=1:=rfl
  rw[e4,Int.toNat_natCast,List.take_length]at b5
  rw[b5,n1,d1]
  simp
 have hlen:(A6 b).length+1≤2097152:=by
  have:=congrArg List.length hpb
  rw[List.length_cons]at this
  omega
 refine⟨b,s.drop (BA s 2097152).2.1.toNat,rfl,⟨b1,b2,hlen⟩,?_⟩
 rw[←hpb,←a6,List.take_append_drop]
theorem X_ {s:List Int} {pos:Int} (hb:AY s) (hn:s.length≤1000000) (hc:(C6 s pos).2.1=0):
 (Dh s).2.1=0∧(Cc (Dh s).1.2.2 pos).2=true∧∃b r,BtR b∧s.drop (Cc (Dh s).1.2.2 pos).1.at_.toNat=Ac (1::A6 b)++r∧(Cc (Dh s).1.2.2 pos).1.at_<s.length∧b.base=(Cc (Dh s).1.2.2 pos).1.pos∧(b.en.length:Int)=(Cc (Dh s).1.2.2 pos).1.cnt∧(C6 s pos).1=b.en.getD (pos-b.base).toNat DN:=by
 have h1:(Dh s).2.1=0:=by
  by_cases h:(Dh s).2.1=0
  ·exact h
  ·unfold C6 at hc;rw[if_neg h]at hc;exact absurd hc h
 have h2:(Cc (Dh s).1.2.2 pos).2=true:=by
  cases h:(Cc (Dh s).1.2.2 pos).2 with
  |true=>rfl
  |false=>unfold C6 at hc;rw[if_pos h1,if_pos h]at hc;exact absurd hc (by decide)
 have h3:(Fh s (Cc (Dh s).1.2.2 pos).1 (Dh s).1.1.at_).2.1=0:=by
  by_cases h:(Fh s (Cc (Dh s).1.2.2 pos).1 (Dh s).1.1.at_).2.1=0
  ·exact h
  ·unfold C6 at hc;rw[if_pos h1,if_neg (by rw[h2];decide),if_neg h]at hc;exact absurd hc h
 have e:(C6 s pos).1=(atP (Fh s (Cc (Dh s).1.2.2 pos).1 (Dh s).1.1.at_).1 pos).1:=by
  unfold C6;rw[if_pos h1,if_neg (by rw[h2];decide),if_pos h3]
 obtain⟨m1,m2,m3⟩:=T1 h2
 have m4:=Gu m1 m2
 refine⟨h1,h2,?_⟩
 rw[e]
 obtain⟨m,hm⟩:∃m,(Cc (Dh s).1.2.2 pos).1=m:=⟨_,rfl⟩
 obtain⟨x,hx⟩:∃x,(Dh s).1.1.at_=x:=⟨_,rfl⟩
 have hxl:x≤s.length:=by
  have hf1:(AX s).2.2.1=0:=by
   by_cases h:(AX s).2.2.1=0
   ·exact h
   ·unfold Dh at h1;rw[if_neg h]at h1;exact absurd h1 h
  obtain⟨b1,b2,b3,b4,b5,b6⟩:=Q9 hb (by omega) hf1
  obtain⟨_,⟨a0,a1⟩,z0,z1⟩:=(D7 b3 b2).2.2
  unfold Dh at h1 hx
  rw[if_pos hf1]at h1 hx
  by_cases h4:(AX s).2.1<(AX s).1.at_+(AX s).1.size
  ·rw[if_pos h4]at h1;exact absurd (show(3:Int)=0 from h1) (by decide)
  ·rw[if_neg h4]at h1 hx
   by_cases h5:(J6 s (AX s).1).1=0
   ·rw[if_pos h5]at hx
    simp only[]at hx
    omega
   ·rw[if_neg h5]at h1;exact absurd h1 h5
 rw[hm]at h3 m3 m4 ⊢
 rw[hx]at h3 ⊢
 have h4:¬x≤m.at_:=by
  intro h
  unfold Fh at h3;rw[if_pos h]at h3;exact absurd (show(3:Int)=0 from h3) (by decide)
 have eb:Fh s m x=((GX s m x).1,BW (NL s m x).1 ((NL s m x).2+m.at_)):=by unfold Fh;rw[if_neg h4]
 rw[eb]at h3 ⊢
 simp only[]at h3 ⊢
 have h5:=Afy h3
 have h6:(GX s m x).2.2.1=0:=by
  by_cases h:(GX s m x).2.2.1=0
  ·exact h
  ·unfold NL at h5;rw[if_neg h]at h5;exact absurd h5 h
 have h7:(GX s m x).1.base=m.pos∧((GX s m x).1.en.length:Int)=m.cnt:=by
  by_cases h:(GX s m x).1.base=m.pos∧((GX s m x).1.en.length:Int)=m.cnt
  ·exact h
  ·unfold NL at h5;rw[if_pos h6,if_neg h]at h5;exact absurd h5 (by decide)
 obtain⟨b,r,hb1,hb2,hb3⟩:=Alt (J1 hb m.at_ x) (by have:=J0 s m.at_ x;omega) h6
 rw[show(GX s m x).1=b from hb1]at h7 ⊢
 obtain⟨p1,p2⟩:=ES.1 m3
 have hfin:m.fin=m.pos+m.cnt:=rfl
 refine⟨b,r++(s.drop m.at_.toNat).drop (x-m.at_).toNat,hb2,?_,by omega,h7.1,h7.2,?_⟩
 ·have h8:s.drop m.at_.toNat=KF s m.at_ x++(s.drop m.at_.toNat).drop (x-m.at_).toNat:=(List.take_append_drop _ _).symm
  exact h8.trans ((congrArg (· ++(s.drop m.at_.toNat).drop (x-m.at_).toNat) hb3).trans (List.append_assoc _ _ _))
 ·unfold atP
  rw[if_pos (by omega)]
noncomputable def lvA:Code:=match Tryz.f7.body with|some (.seq a _)=>a|_=>.skip
noncomputable def lvO:Array Oper:=match Tryz.f7.body with|some (.seq _ (.seq (.region _ ops _) _))=>ops|_=>#[]
noncomputable def lvR:Code:=match Tryz.f7.body with|some (.seq _ (.seq _ r))=>r|_=>.skip
def lvM:Oper:={dst:=some 8,op:=.move (.tmp 8),type:=22,pos:= "",after:=#[],guard:=none}
def lvC:C:=.seq (.reg [(none,(.load (.some 2) (.tmp 1),.some 15)),(none,(.call (.func 17) [.tmp 15],.some 16)),(none,(.mov (.tmp 16),.some 14)),(none,(.ext (.tmp 14) 0,.some 17)),(none,(.ext (.tmp 14) 1,.some 18)),(none,(.mov (.tmp 17),.some 2)),(none,(.mov (.tmp 18),.some 3))] []) (.seq (.reg [(none,(.mov (.tmp 2),.some 20)),(none,(.call (.func 8) [.tmp 20,.const (.int .u64 7)],.some 21)),(none,(.mov (.tmp 21),.some 19)),(none,(.ext (.tmp 19) 0,.some 22)),(none,(.ext (.tmp 19) 1,.some 23)),(none,(.new [.slice none 0 0,.slice none 0 0],.some 4)),(none,(.new [.int .i64 0,.int .i64 0],.some 5)),(none,(.store 2 (.tmp 4) (.tmp 22),none)),(none,(.store 2 (.tmp 5) (.tmp 23),none))] []) (.seq (.reg [(none,(.mov (.tmp 2),.some 24)),(none,(.call (.func 28) [.tmp 24],.some 25)),(none,(.mov (.tmp 25),.some 6))] []) (.seq (.reg [(none,(.mov (.tmp 3),.some 26)),(none,(.bin .eql (.tmp 26) (.const (.int .i64 0)),.some 27)),(none,(.mov (.tmp 27),.some 28)),(.some (28,.true),(.fadr 0 (.tmp 5),.some 29)),(.some (28,.true),(.load none (.tmp 29),.some 30)),(.some (28,.true),(.bin .eql (.tmp 30) (.const (.int .i64 0)),.some 31)),(none,(.pick (.tmp 28) (.tmp 31) (.const (.bool .false)),.some 32)),(none,(.mov (.tmp 32),.some 33)),(.some (33,.true),(.fadr 1 (.tmp 4),.some 34)),(.some (33,.true),(.load none (.tmp 34),.some 35)),(.some (33,.true),(.b2s (.tmp 35),.some 36)),(.some (33,.true),(.bin .eql (.tmp 36) (.const (.string (.mk (#[97,97,97,97,97,97,97,97,97,97,97,97,97,97,97,97,97,97,97,97,97,97,97,97])))),.some 37)),(none,(.pick (.tmp 33) (.tmp 37) (.const (.bool .false)),.some 38)),(none,(.mov (.tmp 38),.some 39)),(.some (39,.true),(.mov (.tmp 6),.some 40)),(.some (39,.true),(.len .false (.tmp 40),.some 41)),(.some (39,.true),(.bin .eql (.tmp 41) (.const (.int .i64 2)),.some 42)),(none,(.pick (.tmp 39) (.tmp 42) (.const (.bool .false)),.some 43)),(none,(.mov (.tmp 43),.some 44)),(.some (44,.true),(.mov (.tmp 6),.some 45)),(.some (44,.true),(.iadr 20 (.tmp 45) (.const (.int .i64 1)),.some 46)),(.some (44,.true),(.fadr 0 (.tmp 46),.some 47)),(.some (44,.true),(.load none (.tmp 47),.some 48)),(.some (44,.true),(.bin .eql (.tmp 48) (.const (.int .i64 2)),.some 49)),(none,(.pick (.tmp 44) (.tmp 49) (.const (.bool .false)),.some 50)),(none,(.mov (.tmp 50),.some 0))] []) .ret)))
def lvS:List RO:=[(none,(.mov (.tmp 8),.some 8)),(none,(.mov (.tmp 8),.some 8)),(none,(.build [.slice none 0 0,.slice none 0 0] [(1,(1,.tmp 8))],.some 9)),(none,(.bsl 2 [.tmp 9],.some 10)),(none,(.build [.int .u64 0,.int .u64 0,.slice none 0 0] [(0,(1,.const (.int .u64 1))),(1,(1,.const (.int .u64 7))),(2,(1,.tmp 10))],.some 11)),(none,(.bsl 3 [.tmp 11],.some 12)),(none,(.build [.int .u64 0,.slice none 0 0] [(0,(1,.const (.int .u64 2))),(1,(1,.tmp 12))],.some 13)),(none,(.new [.int .u64 0,.slice none 0 0],.some 1)),(none,(.store 2 (.tmp 1) (.tmp 13),none))]
theorem Aj7:Tryz.f7.body=some (.seq lvA (.seq (.region 1 lvO false) lvR)):=by kernel_rfl
theorem Atp:AU Tryz.prog lvA=some (.reg [(none,.mov (.const (.bool false)),some 0)] []):=by kernel_rfl
theorem Ato:AU Tryz.prog lvR=some lvC:=by kernel_rfl
theorem Atn:F5 Tryz.prog (lvM::lvM::lvO.toList.drop 2).toArray=some lvS:=by kernel_rfl
theorem Anm:IV Tryz.prog Tryz.f7=some [.tmp 0]:=by kernel_rfl
theorem Aj6:(Tryz.f7.name== "runtime.NumGoroutine")=false:=by kernel_rfl
def lvP:Array (Nat×Operand):=((List.range 24).map λi=>(i,Operand.const (.int .u8 97))).toArray
theorem Ann:∃o0 o1,lvO.toList=o0::o1::lvO.toList.drop 2∧o0.op=.buildSlice 22 24 lvP∧o0.dst=some 7∧o1.op=.convert 22 22 (.tmp 7)∧o1.dst=some 8:=by
 refine⟨(lvO.toList.getD 0 lvM),(lvO.toList.getD 1 lvM),?_,?_,?_,?_,?_⟩<;>kernel_rfl
theorem Afb:(lvO.toList.all λo=>o.guard.isNone)=true:=by kernel_rfl
theorem O3 {s:RS} (h:¬s.code=0) (n:Int):s.take n=(s,[]):=by
 unfold RS.take RS.skip;rw[if_neg h];rfl
theorem YN {s:RS} (h:¬s.code=0):s.vers=(s,0):=by
 unfold RS.vers;rw[O3 h,if_neg h]
theorem Ui {s:RS} (h:¬s.code=0) (ok:Int->Bool):s.epo ok=(s,0):=by
 unfold RS.epo;rw[Gm h,if_neg h]
theorem WP {s:RS} (h:¬s.code=0) (v:Int):s.hbase v=(s,0):=by
 unfold RS.hbase;split
 ·exact Ui h _
 ·rfl
theorem Ye {s u:RS} (h:s.hplain.1=u) (hu:¬u.code=0):s.header=(u,Lp):=by
 unfold RS.header RS.fixed
 rw[h,O3 hu,if_neg hu]
theorem Yh {s u:RS} {x:Int} (h:s.hbegin.1.epo Aj=(u,x)) (hu:¬u.code=0):s.header=(u,Lp):=by
 refine Ye ?_ hu
 unfold RS.hplain
 rw[h,WP hu]
theorem Yi {s u:RS} (h:s.hbegin.1=u) (hu:¬u.code=0):s.header=(u,Lp):=Yh (by rw[h,Ui hu]) hu
theorem Pq {s:RS} (h:Av s):s.left=s.rest.length:=by
 have h0:=h.at0
 have h1:=h.at1
 unfold RS.left RS.rest
 rw[List.length_drop];omega
theorem Xc {s:RS} (h:s.code=0) (a:Int):(s.fail 1 a).code=1∧(s.fail 1 a).fat=a:=by
 unfold RS.fail;rw[if_pos h];exact⟨rfl,rfl⟩
theorem WO {s:RS} {v:Int} {r:List Int} (hs:Av s) (hc:s.code=0) (h1:1≤v∧v≤3) (e1:s.rest=BF++([v]++r)):s.hbegin=(s.adv 5,v)∧Av (s.adv 5)∧(s.adv 5).rest=r:=by
 have t1:=C3 hs hc e1
 have t1':s.take 4=(s.adv 4,BF):=t1
 have hl:s.lets=s.adv 4:=by unfold RS.lets;rw[t1'];simp
 have hs1:Av (s.adv 4):=Bv hs e1
 have e2:(s.adv 4).rest=[v]++r:=by
  have:=A5 (s:=s) hs.at0 4
  have e:s.adv ((4:Nat):Int)=s.adv 4:=rfl
  rw[e,e1]at this;exact this
 have t2:=C3 hs1 (show(s.adv 4).code=0 from hc) e2
 have t2':(s.adv 4).take 1=((s.adv 4).adv 1,[v]):=t2
 have e3:(s.adv 5).rest=r:=by
  have:=A5 (s:=s.adv 4) hs1.at0 1
  have e:(s.adv 4).adv ((1:Nat):Int)=s.adv 5:=by rw[BH];rfl
  rw[e,e2]at this;exact this
 refine⟨?_,by have:=Bv hs1 e2;rw[BH]at this;exact this,e3⟩
 unfold RS.hbegin RS.vers
 rw[hl,t2']
 simp only[List.getD_cons_zero]
 rw[if_pos (show((s.adv 4).adv 1).code=0 from hc),if_pos h1,BH];rfl
def Ih (h:Hd):List Int:=if h.ver=1 then vb h.base else[]
theorem Ov (h:Hd):Am h=BF++([h.ver]++(vb h.ep++(Ih h++Aq 4 (Br (AH h))))):=by
 unfold Am
 conv=>lhs;arg 1;unfold AH
 simp only[List.append_assoc];rfl
theorem Qt (h:Hd):AH h=BF++([h.ver]++(vb h.ep++Ih h)):=by
 unfold AH Ih
 simp only[List.append_assoc]
theorem S_ (h:Hd):(AH h).length=5+((vb h.ep).length+(Ih h).length):=by
 rw[Qt];simp only[List.length_append,BF,List.length_cons,List.length_nil];omega
theorem WK {h:Hd} (hr:Bz h=true) (hb:0≤h.base) {k:Nat} (hk:k<(Am h).length):
 (RS.new ((Am h).take k)).header.1.code=1∧(RS.new ((Am h).take k)).header.1.fat=k∧
 (k<5->(RS.new ((Am h).take k)).hbegin.1.code=1∧(RS.new ((Am h).take k)).hbegin.1.fat=k)∧
 (5≤k->(RS.new ((Am h).take k)).hbegin.1.code=0∧(RS.new ((Am h).take k)).hbegin.2=h.ver):=by
 obtain⟨h1,h2,h3,h4⟩:=CY.1 hr
 have hB:=HY hr hb
 have hlen:=Ea h
 have hpl:=VY h
 have hbl:((Am h).take k).length=k:=by rw[List.length_take];omega
 have hok:Av (RS.new ((Am h).take k)):=Av.new (λx hx=>hB x (List.mem_of_mem_take hx)) (by omega)
 have hparts:=Ov h
 by_cases k5:k<5
 ·have fin:∀u:RS,(RS.new ((Am h).take k)).hbegin.1=u->u.code=1->u.fat=k->_:=λu e1 e2 e3=>by
   have e:=Yi e1 (by rw[e2];decide)
   refine(⟨by rw[e];exact e2,by rw[e];exact e3,λ_=>by rw[e1];exact⟨e2,e3⟩,λh=>by omega⟩:(RS.new ((Am h).take k)).header.1.code=1∧(RS.new ((Am h).take k)).header.1.fat=k∧
    (k<5->(RS.new ((Am h).take k)).hbegin.1.code=1∧(RS.new ((Am h).take k)).hbegin.1.fat=k)∧
    (5≤k->(RS.new ((Am h).take k)).hbegin.1.code=0∧(RS.new ((Am h).take k)).hbegin.2=h.ver))
  by_cases k4:k<4
  ·have t:=EX (s:=RS.new ((Am h).take k)) (n:=4) rfl (by decide) (by rw[Pq hok,BK,hbl];omega)
   have hl1:(RS.new ((Am h).take k)).l.length=k:=hbl
   rw[hl1]at t
   obtain⟨c1,c2⟩:=Xc (s:=RS.new ((Am h).take k)) rfl (k:Int)
   have hlt:(RS.new ((Am h).take k)).lets=(RS.new ((Am h).take k)).fail 1 k:=by
    unfold RS.lets;rw[t];simp only;rw[if_neg (by rw[c1];simp)]
   refine fin _ ?_ c1 c2
   unfold RS.hbegin
   rw[hlt,YN (by rw[c1];decide)]
  ·obtain rfl:k=4:=by omega
   have e4:(Am h).take 4=BF:=by rw[hparts];exact List.take_left' rfl
   rw[e4]at hok ⊢
   have e1:(RS.new BF).rest=BF++[]:=by rw[BK,List.append_nil]
   have t1:=C3 hok rfl e1
   have t1':(RS.new BF).take 4=((RS.new BF).adv 4,BF):=t1
   have hl:(RS.new BF).lets=(RS.new BF).adv 4:=by unfold RS.lets;rw[t1'];simp
   have hs1:Av ((RS.new BF).adv 4):=Bv hok e1
   have t2:=EX (s:=(RS.new BF).adv 4) (n:=1) rfl (by decide) (by decide)
   have hl2:(((RS.new BF).adv 4).l.length:Int)=(4:Nat):=rfl
   rw[hl2]at t2
   obtain⟨c1,c2⟩:=Xc (s:=(RS.new BF).adv 4) rfl ((4:Nat):Int)
   have hv:(RS.new BF).hbegin=(((RS.new BF).adv 4).fail 1 (4:Nat),0):=by
    unfold RS.hbegin RS.vers
    rw[hl,t2];simp only;rw[if_neg (by rw[c1];decide)]
   have e:=Yi (u:=((RS.new BF).adv 4).fail 1 (4:Nat)) (by rw[hv]) (by rw[c1];decide)
   rw[e,hv]
   exact⟨c1,c2,λ_=>⟨c1,c2⟩,λh=>by omega⟩
 ·obtain⟨j,rfl⟩:∃j,k=5+j:=⟨k-5,by omega⟩
  obtain⟨Y,hY⟩:∃Y,vb h.ep++(Ih h++Aq 4 (Br (AH h)))=Y:=⟨_,rfl⟩
  have e0:(Am h).take (5+j)=BF++([h.ver]++Y.take j):=by
   have e:Am h=(BF++[h.ver])++Y:=by rw[hparts,hY,List.append_assoc]
   have l5:(BF++[h.ver]).length=5:=rfl
   rw[e,←l5,List.take_length_add_append,List.append_assoc]
  have hl1:(((RS.new ((Am h).take (5+j))).l.length:Nat):Int)=((5+j:Nat):Int):=by rw[show(RS.new ((Am h).take (5+j))).l=(Am h).take (5+j)from rfl,hbl]
  obtain⟨w1,w2,w3⟩:=WO hok rfl h1 (by rw[BK,e0])
  have hbn:(RS.new ((Am h).take (5+j))).hbegin.1.code=0∧(RS.new ((Am h).take (5+j))).hbegin.2=h.ver:=by rw[w1];exact⟨rfl,rfl⟩
  suffices hx:(RS.new ((Am h).take (5+j))).header.1.code=1∧(RS.new ((Am h).take (5+j))).header.1.fat=((5+j:Nat):Int)from⟨hx.1,hx.2,λh=>by omega,λ_=>hbn⟩
  obtain⟨s5,hs5⟩:∃s5,(RS.new ((Am h).take (5+j))).adv 5=s5:=⟨_,rfl⟩
  have c5:s5.code=0:=by rw[←hs5];rfl
  have l5:((s5.l.length:Nat):Int)=((5+j:Nat):Int):=by rw[←hs5];exact hl1
  rw[hs5]at w1 w2 w3
  by_cases je:j<(vb h.ep).length
  ·have r5:s5.rest=(vb h.ep).take j:=by rw[w3,←hY,List.take_append_of_le_length (by omega)]
   have hv:=Mf w2 c5 (x:=h.ep) (by omega) (by omega) je r5
   have he:s5.epo Aj=({s5 with at_:=s5.l.length,code:=1,fat:=s5.l.length},0):=by
    unfold RS.epo;rw[hv];simp only;rw[if_neg (by decide)]
   have e:=Yh (s:=RS.new ((Am h).take (5+j))) (u:={s5 with at_:=s5.l.length,code:=1,fat:=s5.l.length}) (x:=0) (by rw[w1];exact he) (by show¬(1:Int)=0;decide)
   rw[e];exact⟨rfl,l5⟩
  ·have r5:s5.rest=vb h.ep++(Ih h++Aq 4 (Br (AH h))).take (j-(vb h.ep).length):=by
    rw[w3,←hY,List.take_append,List.take_of_length_le (by omega)]
   have he:=Ho (ok:=Aj) c5 (by omega) (by omega) (BV.2 h2) r5
   have k6:=Bv w2 r5
   have r6:(s5.adv ((vb h.ep).length:Int)).rest=(Ih h++Aq 4 (Br (AH h))).take (j-(vb h.ep).length):=by rw[A5 w2.at0,r5,List.drop_left]
   have l6:(((s5.adv ((vb h.ep).length:Int)).l.length:Nat):Int)=((5+j:Nat):Int):=l5
   have c6:(s5.adv ((vb h.ep).length:Int)).code=0:=c5
   generalize s5.adv ((vb h.ep).length:Int)=s6 at*
   obtain⟨m,hm⟩:∃m,j-(vb h.ep).length=m:=⟨_,rfl⟩
   rw[hm]at r6
   have hpe:(RS.new ((Am h).take (5+j))).hplain.1=(s6.hbase h.ver).1:=by
    unfold RS.hplain;rw[w1];simp only;rw[he]
   have last:∀s7:RS,(s6.hbase h.ver).1=s7->Av s7->s7.code=0->((s7.l.length:Nat):Int)=((5+j:Nat):Int)->s7.rest.length<4->(RS.new ((Am h).take (5+j))).header.1.code=1∧(RS.new ((Am h).take (5+j))).header.1.fat=((5+j:Nat):Int):=λs7 e7 k7 c7 l7 r7=>by
    have t:=EX (s:=s7) (n:=4) c7 (by decide) (by rw[Pq k7];omega)
    obtain⟨d1,d2⟩:=Xc c7 (s7.l.length:Int)
    have e:(RS.new ((Am h).take (5+j))).header=(s7.fail 1 s7.l.length,Lp):=by
     unfold RS.header RS.fixed
     rw[hpe,e7,t];simp only;rw[if_neg (by rw[d1];decide)]
    rw[e];exact⟨d1,d2.trans l7⟩
   have hll:=BD 4 (Br (AH h))
   have hp5:=S_ h
   by_cases hv:h.ver=1
   ·have hbb:Ih h=vb h.base:=by unfold Ih;rw[if_pos hv]
    rw[hbb]at r6 hp5
    by_cases jb:m<(vb h.base).length
    ·have r6':s6.rest=(vb h.base).take m:=by rw[r6,List.take_append_of_le_length (by omega)]
     have hv':=Mf k6 c6 (x:=h.base) hb (by omega) jb r6'
     have hep:s6.hbase h.ver=({s6 with at_:=s6.l.length,code:=1,fat:=s6.l.length},0):=by
      unfold RS.hbase;rw[if_pos hv];unfold RS.epo;rw[hv'];simp only;rw[if_neg (by decide)]
     have e:=Ye (s:=RS.new ((Am h).take (5+j))) (u:={s6 with at_:=s6.l.length,code:=1,fat:=s6.l.length}) (hpe.trans (by rw[hep])) (by show¬(1:Int)=0;decide)
     rw[e];exact⟨rfl,l6⟩
    ·have r6':s6.rest=vb h.base++(Aq 4 (Br (AH h))).take (m-(vb h.base).length):=by rw[r6,List.take_append,List.take_of_length_le (by omega)]
     have hep:=Ho (ok:=Bb) c6 hb (by omega) (Ec.2 h3) r6'
     refine last _ (by unfold RS.hbase;rw[if_pos hv,hep]) (Bv k6 r6') c6 l6 ?_
     rw[A5 k6.at0,r6',List.drop_left,List.length_take];omega
   ·have hbb:Ih h=[]:=by unfold Ih;rw[if_neg hv]
    rw[hbb,List.nil_append]at r6
    rw[hbb,List.length_nil]at hp5
    refine last s6 (by unfold RS.hbase;rw[if_neg hv]) k6 c6 l6 ?_
    rw[r6,List.length_take];omega
def PS.hold (s:PS) (c:List Int) (k:Nat):PS:={s with buf:=c.take k,fed:=s.fed+k}
theorem E2 (s:PS) (c:List Int) (k:Nat):(s.hold c k).buf=c.take k:=rfl
theorem F3 (s:PS) (c:List Int) (k:Nat):(s.hold c k).ph=s.ph:=rfl
theorem Aar (s:PS) (c:List Int) (k:Nat):(s.hold c k).want=s.want:=rfl
theorem Aas (s:PS) (c:List Int) (k:Nat):(s.hold c k).foot=s.foot:=rfl
theorem W7 {s:PS} {c r:List Int} {t:PS} (he:s.ended=0) (hlen:0<c.length) (hcut:∀k,0<k->k<c.length->(s.hold c k).step=(s.hold c k,false,(0,0))) (hwhole:(s.hold c c.length).step=(t,true,(0,0))):
 ∀n k,k+n=c.length->0<n->(s.hold c k).feed (c.drop k++r)=({t with fst:=t.fed,buf:=[]}:PS).feed r:=by
 intro n
 induction n with
 |zero=>intro k _ h;omega
 |succ n ih=>
  intro k hk _
  have hkl:k<c.length:=by omega
  have hd:c.drop k=c.getD k 0::c.drop (k+1):=by
   rw[List.drop_eq_getElem_cons hkl];simp[hkl]
  have hadd:(s.hold c k).add (c.getD k 0)=s.hold c (k+1):=by
   unfold PS.hold PS.add
   simp only[]
   rw[List.take_succ_eq_append_getElem hkl]
   congr 1
   ·simp[hkl]
   ·omega
  rw[hd,List.cons_append,PS.feed]
  rw[if_pos (show(s.hold c k).ended=0 from he)]
  unfold PS.one
  rw[hadd]
  by_cases hlast:n=0
  ·subst hlast
   have e:k+1=c.length:=by omega
   rw[e,hwhole,List.drop_of_length_le (by omega),List.nil_append]
   rfl
  ·rw[hcut (k+1) (by omega) (by omega)]
   have:=ih (k+1) (by omega) (by omega)
   rw[←this]
   rfl
theorem Hj {s:PS} {c r:List Int} {t:PS} (he:s.ended=0) (hb:s.buf=[]) (hlen:0<c.length) (hcut:∀k,0<k->k<c.length->(s.hold c k).step=(s.hold c k,false,(0,0))) (hwhole:(s.hold c c.length).step=(t,true,(0,0))):
 s.feed (c++r)=({t with fst:=t.fed,buf:=[]}:PS).feed r:=by
 have h:=W7 (r:=r) he hlen hcut hwhole c.length 0 (by omega) hlen
 have e:s.hold c 0=s:=by
  unfold PS.hold
  cases s
  simp only[]at hb
  subst hb
  simp
 rw[e,List.drop_zero]at h
 exact h
theorem Tc {p:List Int} (hp:AY p) (hm:p.length≤2097152) {k:Nat} (hk:k<(Ac p).length):BX ((Ac p).take k)=([],0,false,(0,0)):=by
 have h:=Aaz (m:=2097152) hp (by unfold Ch;omega) hk
 unfold BX
 rw[h]
 split
 ·rfl
 ·rw[if_pos rfl]
theorem Tb {p:List Int} (hp:AY p) (hm:p.length≤2097152):BX (Ac p)=(p,((Ac p).length:Int)-4-p.length,true,(0,0)):=by
 have hfl:=Bh p
 have hfb:AY (Ac p):=D4 hp (by omega)
 have h:=Nn (p:=p) (r:=[]) (m:=2097152) hp (λx hx=>by simp at hx) (by rw[List.append_nil];omega) (by unfold Ch;omega)
 rw[List.append_nil]at h
 have hok:okF (Ac p) 2097152=true:=by
  unfold okF
  have hc:(BA (Ac p) 2097152).2.2.1=0:=by rw[h]
  unfold BA at hc
  by_cases h1:((RS.new (Ac p)).frame 2097152).1.code=0
  ·simp[h1]
  ·rw[if_neg h1]at hc
   simp only[]at hc
   exact absurd hc h1
 have hw:=(ZW hfb (by omega) hok).2.2
 unfold BX
 rw[h,if_neg (by rintro⟨_,h2⟩;omega),if_neg (by simp)]
 rfl
theorem T8 {s:PS} {ep:Int} {r:List Int} (he:s.ended=0) (hb:s.buf=[]) (hp:s.ph=0) (hep:1≤ep∧ep<4611686018427387904):
 s.feed (Am ⟨3,ep,0⟩++r)=({s with ph:=1,ep:=ep,fst:=s.fed+(Am ⟨3,ep,0⟩).length,fed:=s.fed+(Am ⟨3,ep,0⟩).length,buf:=[]}:PS).feed r:=by
 have hl:=J9 ep
 have hH:=hd3 hep
 have hB:=HY hH (Int.le_refl 0)
 refine Hj he hb (by omega) (λk h0 hk=>?_) ?_
  (t:={s with ph:=1,ep:=ep,buf:=Am ⟨3,ep,0⟩,fed:=s.fed+(Am ⟨3,ep,0⟩).length})
 ·have hc:=WK hH (Int.le_refl 0) hk
  have e:(Eb ((Am ⟨3,ep,0⟩).take k)).2.2.1=1:=by
   unfold Eb
   rw[if_neg (by rw[hc.1];decide)]
   exact hc.1
  unfold PS.step
  rw[F3,hp]
  simp only[]
  unfold PS.header
  rw[E2,if_pos e]
 ·have hok:Av (RS.new (Am ⟨3,ep,0⟩)):=Av.new hB (by omega)
  have hw:=WI hok rfl hH (Int.le_refl 0) (r:=[]) (by rw[BK,List.append_nil])
  have e:Eb (Am ⟨3,ep,0⟩)=(⟨3,ep,0⟩,((Am ⟨3,ep,0⟩).length:Int),(0,0)):=by
   unfold Eb
   rw[hw,if_pos (show((RS.new (Am ⟨3,ep,0⟩)).adv ((Am ⟨3,ep,0⟩).length:Int)).code=0 from rfl)]
   show(_,(0:Int)+_,_)=_
   rw[Int.zero_add]
  have eb:(s.hold (Am ⟨3,ep,0⟩) (Am ⟨3,ep,0⟩).length).buf=Am ⟨3,ep,0⟩:=by rw[E2,List.take_length]
  unfold PS.step
  rw[F3,hp]
  simp only[]
  unfold PS.header
  rw[eb,e]
  simp only[]
  rw[if_neg (by decide)]
  simp only[if_true]
  unfold PS.hold
  simp only[List.take_length]
theorem T4 {s:PS} {p r:List Int} {t:PS} {q:RS} (he:s.ended=0) (hb:s.buf=[]) (hp:s.ph=1) (hbp:AY p) (hm:p.length≤2097152) (ht:(s.hold (Ac p) (Ac p).length).takes p=((t,0),q)) (hq:q.code=0):
 s.feed (Ac p++r)=({t with fst:=t.fed,buf:=[]}:PS).feed r:=by
 have hfl:=Bh p
 refine Hj he hb (by omega) (λk h0 hk=>?_) ?_
 ·have hc:=Tc hbp hm hk
  unfold PS.step
  rw[F3,hp]
  simp only[]
  unfold PS.record
  rw[E2,hc]
  rw[if_neg (by decide)]
 ·have hw:=Tb hbp hm
  have eb:(s.hold (Ac p) (Ac p).length).buf=Ac p:=by rw[E2,List.take_length]
  unfold PS.step
  rw[F3,hp]
  simp only[]
  unfold PS.record
  rw[eb,hw]
  simp only[]
  rw[if_pos trivial,ht]
  simp only[]
  rw[if_pos hq]
  rfl
theorem Sl {s:PS} {b:Bt} (hB:BtR b) (hc:s.batC b=0):∃q,s.takes (1::A6 b)=((s.bat b,0),q)∧q.code=0:=by
 have hp:AY (1::A6 b):=λy hy=>by rcases List.mem_cons.1 hy with rfl|hy;decide;exact F7 hB.1 hB.2.1 y hy
 have hn:=hB.2.2
 have hok:Av (RS.new (1::A6 b)):=Av.new hp (by rw[List.length_cons];omega)
 have hby:=GT hok rfl (BK (1::A6 b))
 have ok1:=Bv hok (a:=[1]) (r:=A6 b) (by rw[BK,List.singleton_append])
 have rs1:((RS.new (1::A6 b)).adv 1).rest=A6 b:=by
  have:=A5 hok.at0 1
  rw[show((1:Nat):Int)=1 from rfl,BK]at this
  rw[this,List.drop_succ_cons,List.drop_zero]
 have hbt:=NM (s:=(RS.new (1::A6 b)).adv 1) ok1 rfl hB.1 hB.2.1 (r:=[]) (by rw[rs1,List.append_nil])
 have h9:(((RS.new (1::A6 b)).adv 1).adv ((A6 b).length:Int)).rest9=((RS.new (1::A6 b)).adv 1).adv ((A6 b).length:Int):=by
  unfold RS.rest9
  rw[if_neg]
  intro h
  have h2:(((RS.new (1::A6 b)).adv 1).adv ((A6 b).length:Int)).left=((1::A6 b).length:Int)-(0+1+(A6 b).length):=rfl
  rw[List.length_cons]at h2
  omega
 refine⟨((RS.new (1::A6 b)).adv 1).adv ((A6 b).length:Int),?_,rfl⟩
 unfold PS.takes
 rw[hby]
 simp only[if_true]
 unfold PS.batch
 rw[hbt]
 simp only[]
 rw[h9,if_pos (show(((RS.new (1::A6 b)).adv 1).adv ((A6 b).length:Int)).code=0 from rfl),if_pos hc]
theorem Sk {s:PS} (hM:AZ s.ms=true):∃q,s.takes (2::AO s.ms)=((s.idx s.ms,0),q)∧q.code=0:=by
 have h16:=(Bc.1 hM).2
 have hbb:=FK (Bc.1 hM).1 (by omega)
 have hml:=(Dp s.ms).1
 have hp:AY (2::AO s.ms):=λy hy=>by rcases List.mem_cons.1 hy with rfl|hy;decide;exact hbb y hy
 have hok:Av (RS.new (2::AO s.ms)):=Av.new hp (by rw[List.length_cons];omega)
 have hby:=GT hok rfl (BK (2::AO s.ms))
 have ok1:=Bv hok (a:=[2]) (r:=AO s.ms) (by rw[BK,List.singleton_append])
 have rs1:((RS.new (2::AO s.ms)).adv 1).rest=AO s.ms:=by
  have:=A5 hok.at0 1
  rw[show((1:Nat):Int)=1 from rfl,BK]at this
  rw[this,List.drop_succ_cons,List.drop_zero]
 have hbt:=Ph (s:=(RS.new (2::AO s.ms)).adv 1) ok1 rfl hM (r:=[]) (by rw[rs1,List.append_nil])
 have h9:(((RS.new (2::AO s.ms)).adv 1).adv ((AO s.ms).length:Int)).rest9=((RS.new (2::AO s.ms)).adv 1).adv ((AO s.ms).length:Int):=by
  unfold RS.rest9
  rw[if_neg]
  intro h
  have h2:(((RS.new (2::AO s.ms)).adv 1).adv ((AO s.ms).length:Int)).left=((2::AO s.ms).length:Int)-(0+1+(AO s.ms).length):=rfl
  rw[List.length_cons]at h2
  omega
 refine⟨((RS.new (2::AO s.ms)).adv 1).adv ((AO s.ms).length:Int),?_,rfl⟩
 unfold PS.takes
 rw[hby]
 simp only[]
 rw[if_neg (by decide),if_pos trivial]
 unfold PS.index
 rw[hbt]
 simp only[]
 rw[h9,if_pos (show(((RS.new (2::AO s.ms)).adv 1).adv ((AO s.ms).length:Int)).code=0 from rfl),if_pos trivial]
theorem Aa8 {s:PS} {r:List Int} (he:s.ended=0) (hb:s.buf=[]) (hp:s.ph=2) (hf:s.want.ok) (hr:Az s.want=true):
 s.feed (Ac (Bj s.want)++r)=({s with ph:=3,foot:=(Ac (Bj s.want)).length,fst:=s.fed+(Ac (Bj s.want)).length,fed:=s.fed+(Ac (Bj s.want)).length,buf:=[]}:PS).feed r:=by
 have hpl:=E0 s.want
 have hpb:=HR hf hr
 have hfl:=Bh (Bj s.want)
 refine Hj he hb (by omega) (λk h0 hk=>?_) ?_
  (t:={s with ph:=3,foot:=(Ac (Bj s.want)).length,buf:=Ac (Bj s.want),fed:=s.fed+(Ac (Bj s.want)).length})
 ·have hc:=Tc hpb (by omega) hk
  unfold PS.step
  rw[F3,hp]
  simp only[]
  unfold PS.footer
  rw[E2,hc]
  rw[if_neg (by decide)]
 ·have hw:=Tb hpb (by omega)
  have eb:(s.hold (Ac (Bj s.want)) (Ac (Bj s.want)).length).buf=Ac (Bj s.want):=by rw[E2,List.take_length]
  unfold PS.step
  rw[F3,hp]
  simp only[]
  unfold PS.footer
  rw[eb,hw]
  simp only[]
  rw[if_pos trivial,MO hf hr]
  simp only[if_true,Aar]
  unfold PS.hold
  simp only[List.take_length]
theorem W1 {s:PS} (he:s.ended=0) (hb:s.buf=[]) (hp:s.ph=3):
 s.feed (A0 s.foot)={s with ph:=4,fst:=s.fed+12,fed:=s.fed+12,buf:=[]}:=by
 have htl:=Dk s.foot
 have h:=Hj (s:=s) (c:=A0 s.foot) (r:=[]) (t:={s with ph:=4,buf:=A0 s.foot,fed:=s.fed+12}) he hb (by omega) (λk h0 hk=>by
  have hk':((A0 s.foot).take k).length<12:=by rw[List.length_take];omega
  unfold PS.step
  rw[F3,hp]
  simp only[]
  unfold PS.trailer
  rw[if_pos (show(s.hold (A0 s.foot) k).buf.length<12 from hk')]) (by
  have eb:(s.hold (A0 s.foot) (A0 s.foot).length).buf=A0 s.foot:=by rw[E2,List.take_length]
  unfold PS.step
  rw[F3,hp]
  simp only[]
  unfold PS.trailer
  rw[eb,htl,if_neg (by decide),Aas,if_pos rfl]
  unfold PS.hold
  simp only[]
  rfl)
 rw[List.append_nil]at h
 rw[h]
 rfl
def HX (a:Int):List Bt->List Ev
 |[]=>[]
 |b::l=>.item a b::HX (a+(Ac (1::A6 b)).length) l
theorem TP (s:PS) (c:List Int) (k:Nat):(s.hold c k).ms=s.ms∧(s.hold c k).ep=s.ep∧(s.hold c k).lep=s.lep∧(s.hold c k).lbase=s.lbase∧(s.hold c k).ln=s.ln∧(s.hold c k).fst=s.fst∧(s.hold c k).fed=s.fed+k∧(s.hold c k).out=s.out∧(s.hold c k).ended=s.ended∧(s.hold c k).ph=s.ph∧(s.hold c k).want=s.want∧(s.hold c k).foot=s.foot:=⟨rfl,rfl,rfl,rfl,rfl,rfl,rfl,rfl,rfl,rfl,rfl,rfl⟩
structure PR (ep a:Int) (pre:List Bt) (s:PS):Prop where
 ph:s.ph=1
 ended:s.ended=0
 buf:s.buf=[]
 ep:s.ep=ep
 ms:s.ms=CR a pre
 fst:s.fst=a+(Bq pre).length
 fed:s.fed=a+(Bq pre).length
 last:¬pre=[]->s.lep=(B5 pre).ep∧s.lbase+s.ln=(B5 pre).base+(B5 pre).en.length
theorem Aa9 {ep a:Int} {r:List Int}:∀(suf pre:List Bt) (s:PS),PR ep a pre s->pre.length+suf.length≤16->(∀b∈suf,BtR b)->(∀i,i<suf.length->EM ep (pre++suf.take i) (suf.getD i BZ)=true)->
 ∃t,s.feed (Bq suf++r)=t.feed r∧PR ep a (pre++suf) t∧t.out=s.out++HX s.fst suf∧t.want=s.want∧t.foot=s.foot:=by
 intro suf
 induction suf with
 |nil=>intro pre s h _ _ _;exact⟨s,by simp[Bq],by rw[List.append_nil];exact h,by simp[HX],rfl,rfl⟩
 |cons b suf ih=>
  intro pre s h hn hb hf
  have hB:=hb b (by simp)
  have hf0:=hf 0 (by simp)
  simp only[List.take_zero,List.append_nil,List.getD_cons_zero]at hf0
  obtain⟨g1,g2⟩:=TY.1 hf0
  have hml:s.ms.length=pre.length:=by rw[h.ms,C8]
  rw[List.length_cons]at hn
  have hlen:=hB.2.2
  have hbp:AY (1::A6 b):=λy hy=>by rcases List.mem_cons.1 hy with rfl|hy;decide;exact F7 hB.1 hB.2.1 y hy
  obtain⟨H,hH⟩:∃H,s.hold (Ac (1::A6 b)) (Ac (1::A6 b)).length=H:=⟨_,rfl⟩
  obtain⟨k1,k2,k3,k4,k5,k6,k7,k8,k9,k10,k11,k12⟩:=TP s (Ac (1::A6 b)) (Ac (1::A6 b)).length
  rw[hH]at k1 k2 k3 k4 k5 k6 k7 k8 k9 k10 k11 k12
  have hbc:H.batC b=0:=by
   unfold PS.batC
   rw[k1,k2,k3,k4,k5,if_neg (by omega),if_neg]
   rintro(h1|⟨h1,h2⟩)
   ·rw[h.ep]at h1;omega
   ·have hne:¬pre=[]:=by intro h3;rw[h3]at hml;have h4:s.ms.length=0:=hml;omega
    obtain⟨l1,l2⟩:=h.last hne
    have hne':¬pre.length=0:=by intro h3;exact hne (List.eq_nil_of_length_eq_zero h3)
    rcases g2 with g2|g2
    ·exact hne' g2
    ·omega
  obtain⟨q,t1,t2⟩:=Sl hB hbc
  rw[←hH]at t1
  have hfeed:=T4 (r:=Bq suf++r) h.ended h.buf h.ph hbp (by rw[List.length_cons];omega) t1 t2
  rw[hH]at hfeed
  obtain⟨s1,hs1⟩:∃s1:PS,({H.bat b with fst:=(H.bat b).fed,buf:=[]}:PS)=s1:=⟨_,rfl⟩
  rw[hs1]at hfeed
  have hsn:(Bq (pre++[b])).length=(Bq pre).length+(Ac (1::A6 b)).length:=by rw[JA,List.length_append]
  have hR:PR ep a (pre++[b]) s1:=by
   refine⟨?_,?_,?_,?_,?_,?_,?_,λ_=>?_⟩
   ·rw[←hs1];exact k10.trans h.ph
   ·rw[←hs1];exact k9.trans h.ended
   ·rw[←hs1]
   ·rw[←hs1];exact k2.trans h.ep
   ·rw[←hs1]
    show H.ms++[⟨b.base,b.en.length,H.fst⟩]=_
    rw[k1,k6,h.ms,h.fst,HU]
   ·rw[←hs1]
    show H.fed=_
    rw[k7,h.fed,hsn]
    omega
   ·rw[←hs1]
    show H.fed=_
    rw[k7,h.fed,hsn]
    omega
   ·rw[←hs1,LD]
    exact⟨rfl,rfl⟩
  obtain⟨t,i1,i2,i3,i4,i5⟩:=ih (pre++[b]) s1 hR (by rw[List.length_append,List.length_singleton];omega) (λx hx=>hb x (by simp[hx])) (λi hi=>by
   have:=hf (i+1) (by simp;omega)
   simp only[List.take_succ_cons,List.getD_cons_succ]at this
   rw[List.append_assoc,List.singleton_append];exact this)
  refine⟨t,?_,?_,?_,?_,?_⟩
  ·rw[FR,List.append_assoc,hfeed,i1]
  ·rw[List.append_assoc,List.singleton_append]at i2;exact i2
  ·rw[i3,←hs1]
   show(H.out++[.item H.fst b])++HX H.fed suf=_
   rw[k8,k6,k7,h.fst,h.fed,List.append_assoc]
   rfl
  ·rw[i4,←hs1];exact k11
  ·rw[i5,←hs1];exact k12
theorem Af4 {g:Gj} (h:PX g):∃t,GA.feed (CK g)=t∧t.ended=0∧t.out=HX (Am ⟨3,g.ep,0⟩).length g.bt∧t.whole=true∧t.fed=(CK g).length:=by
 obtain⟨h1,h2,h3⟩:=BP.1 h.right
 obtain⟨hf1,hf2⟩:=h.foot
 have eB:CK g=Am ⟨3,g.ep,0⟩++(Bq g.bt++(Ac (2::AO (BU g))++(Ac (Bj (BY g))++A0 (Ac (Bj (BY g))).length))):=by
  unfold CK Dn Eu
  simp only[List.append_assoc]
 rw[eB,T8 rfl rfl rfl h1]
 obtain⟨s1,hs1⟩:∃s1:PS,({GA with ph:=1,ep:=g.ep,fst:=GA.fed+(Am ⟨3,g.ep,0⟩).length,fed:=GA.fed+(Am ⟨3,g.ep,0⟩).length,buf:=[]}:PS)=s1:=⟨_,rfl⟩
 rw[hs1]
 have hz:GA.fed=0:=rfl
 have hR:PR g.ep (Am ⟨3,g.ep,0⟩).length [] s1:=by
  rw[←hs1]
  exact⟨rfl,rfl,rfl,rfl,rfl,by simp[Bq,hz],by simp[Bq,hz],λh=>absurd rfl h⟩
 obtain⟨s2,b1,b2,b3,b4,b5⟩:=Aa9 (r:=Ac (2::AO (BU g))++(Ac (Bj (BY g))++A0 (Ac (Bj (BY g))).length)) g.bt [] s1 hR (by simpa using h2) h.mem (λi hi=>by simpa using(h3 i hi).2)
 rw[List.nil_append]at b2
 rw[b1]
 have hM:s2.ms=BU g:=b2.ms
 have hMr:AZ s2.ms=true:=by rw[hM];exact h.marks
 have h16:=(Bc.1 hMr).2
 have hml:=(Dp s2.ms).1
 have hmb:=FK (Bc.1 hMr).1 (by omega)
 have hbp:AY (2::AO s2.ms):=λy hy=>by rcases List.mem_cons.1 hy with rfl|hy;decide;exact hmb y hy
 obtain⟨H,hH⟩:∃H,s2.hold (Ac (2::AO s2.ms)) (Ac (2::AO s2.ms)).length=H:=⟨_,rfl⟩
 obtain⟨hHms,y2,y3,y4,y5,y6,y7,y8,y9,y10,y11,y12⟩:=TP s2 (Ac (2::AO s2.ms)) (Ac (2::AO s2.ms)).length
 rw[hH]at hHms y2 y3 y4 y5 y6 y7 y8 y9 y10 y11 y12
 obtain⟨q,t1,t2⟩:=Sk (s:=H) (by rw[hHms];exact hMr)
 rw[hHms,←hH]at t1
 have hfeed:=T4 (r:=Ac (Bj (BY g))++A0 (Ac (Bj (BY g))).length) b2.ended b2.buf b2.ph hbp (by rw[List.length_cons];omega) t1 t2
 rw[hM]at hfeed hH
 rw[hfeed,hH]
 obtain⟨s3,hs3⟩:∃s3:PS,({H.idx (BU g)with fst:=(H.idx (BU g)).fed,buf:=[]}:PS)=s3:=⟨_,rfl⟩
 rw[hs3]
 have hHb:H.buf=Ac (2::AO (BU g)):=by rw[←hH,E2,List.take_length]
 have hHf:H.fst=(Dn g).length:=by
  rw[y6,b2.fst]
  unfold Dn
  rw[List.length_append]
  simp
 have hHe:H.ep=g.ep:=y2.trans b2.ep
 have hw:s3.want=BY g:=by
  rw[←hs3]
  show(⟨H.ep,_,_,_,_,H.fst,(H.buf.length:Int)⟩:Ft)=_
  rw[hHe,hHf,hHb]
  rfl
 have m1:s3.ended=0:=by rw[←hs3];exact y9.trans b2.ended
 have m2:s3.buf=[]:=by rw[←hs3]
 have m3:s3.ph=2:=by rw[←hs3];rfl
 have m4:s3.out=HX (Am ⟨3,g.ep,0⟩).length g.bt:=by
  rw[←hs3]
  show H.out=_
  rw[y8,b3,←hs1]
  show GA.out++HX (GA.fed+_) g.bt=_
  rw[hz,Int.zero_add];rfl
 have m5:s3.fed=((Dn g).length:Int)+(Ac (2::AO (BU g))).length:=by
  rw[←hs3]
  show H.fed=_
  rw[y7,b2.fed,hM]
  unfold Dn
  rw[List.length_append]
  simp
 have hff:=Aa8 (s:=s3) (r:=A0 (Ac (Bj s3.want)).length) m1 m2 m3 (by rw[hw];exact hf2) (by rw[hw];exact hf1)
 obtain⟨s4,hs4⟩:∃s4:PS,({s3 with ph:=3,foot:=(Ac (Bj s3.want)).length,fst:=s3.fed+(Ac (Bj s3.want)).length,fed:=s3.fed+(Ac (Bj s3.want)).length,buf:=[]}:PS)=s4:=⟨_,rfl⟩
 rw[hs4]at hff
 rw[hw]at hff hs4
 rw[hff]
 have n1:s4.ended=0:=by rw[←hs4];exact m1
 have n2:s4.buf=[]:=by rw[←hs4]
 have n3:s4.ph=3:=by rw[←hs4]
 have n4:s4.foot=((Ac (Bj (BY g))).length:Int):=by rw[←hs4]
 have n5:s4.fed=s3.fed+(Ac (Bj (BY g))).length:=by rw[←hs4]
 have n6:s4.want=BY g:=by rw[←hs4]
 have n7:s4.out=s3.out:=by rw[←hs4]
 have htr:=W1 n1 n2 n3
 rw[n4]at htr
 have hfl:=Bh (Bj (BY g))
 have ea:(BY g).at_=(Dn g).length:=rfl
 have es:(BY g).size=(Ac (2::AO (BU g))).length:=rfl
 refine⟨_,htr,n1,n7.trans m4,?_,?_⟩
 ·unfold PS.whole
  simp only[]
  rw[n5,m5,n6,ea,es]
  simp
  omega
 ·show s4.fed+12=_
  have htl:=Dk ((Ac (Bj (BY g))).length:Int)
  rw[n5,m5]
  unfold Dn
  simp only[List.length_append]
  omega
theorem Amf {g:Gj} (h:PX g):(GA.feed (CK g)).out++(GA.feed (CK g)).close.2=HX (Am ⟨3,g.ep,0⟩).length g.bt++[.oth 2 (CK g).length 0]:=by
 obtain⟨t,h1,h2,h3,h4,h5⟩:=Af4 h
 rw[h1,h3]
 unfold PS.close
 rw[if_pos h2,if_pos h4,h5]
end Go.Proofs.YtileggkdbaejoaaGreat
