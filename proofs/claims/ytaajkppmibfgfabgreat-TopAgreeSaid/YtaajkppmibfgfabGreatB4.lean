/- Lemmas for TopAgree, part 4. -/
import Derived.Test.YtaajkppmibfgfabGreatB3
import Derived.Test.YtaajkppmibfgfabGreatB2
import Derived.Lib.Walk
import Derived.Lib.SliceRun
import Derived.Lib.JoinLaws
import Derived.Lib.AppendZerosOnto
import Derived.Laws.Externs
import Derived.Laws.IdiomCopy
import Derived.Laws.LoneSync
import Derived.Shelf.Spec.SlicesInsert
import Derived.Lib.SlBytesConst
import Derived.Test.YtaajkppmibfgfabGreatB1
import Derived.KernelRfl
set_option linter.all false
set_option maxRecDepth 100000
set_option maxHeartbeats 4000000
universe u v
namespace Go.Proofs.YtaajkppmibfgfabGreat
open Go.RowKit List IntWalk Go.Proofs.Tryz
def Gr (l:List Mk) (m:Mk):H9 (l++[m])=H9 l++[kC m]:=by simp[H9]
def JA (l:List Bt) (b:Bt):D7 (l++[b])=D7 l++[FD b]:=by simp[D7]
structure RdC (F:FuncId) (rd:QN):Prop where
 ok:ZQ rd
 ct:∀(q:RS) (i:Nat),Ak q->q.l.length≤1000000->Ct prog F [.ref i 0] [(i,AN q)] (λ_=>.tup [FD (rd q).2.1,bA (rd q).2.2]) [(i,AN (rd q).1)] (λ_=>[])
def XG (L:List Int) (F:FuncId) (rd:QN) (hR:RdC F rd) (S:SD) (q:RS) (a:Int) (hS:NE L S) (hc:S.r.code=0) (hq:Ak q) (hf:Fa q) (hn:q.l.length≤1000000) (ha:0≤a∧a≤1000000):
 Ah prog 122 [.ref 0 0,.ref 4 0,iA a,.fn F [] []] (MY S 1 2 3++[AN q]) (.tup []) (MY (S.bat rd q a) 1 2 3++[AN (rd q).1.rest9]):=by
 have⟨k1,k2⟩:=hR.ok.keep q hq;have hfa:=(hR.ok.fa q hq hf).rest9 k1;have hB:=hR.ok.S q hq;have⟨r1,r2⟩:=C8 k1;unfold Fa at hfa;rw[r2,k2]at hfa;have⟨D,hD⟩:=Ex (rd q);have hct:=hR.ct q 4 hq hn;rw[hD]at k1 hfa hB hct;have⟨w,hw⟩:=Ex (S.r.wth (D.1.rest9.code,D.1.rest9.fat) a);have ebat:S.bat rd q a=if w.code=0 then{S with r:=S.batR D a,bt:=S.bt++[D.2.1],ms:=S.ms++[⟨D.2.1.base,D.2.1.en.length,S.fst⟩],w:=S.w&&D.2.2}else{S with r:=w}:=by unfold SD.bat;rw[hD,hw]
 have ebatR:S.batR D a=if w.code=0 then(if S.bt.length=16 then w.fail 2 S.fst else if Ey S.ep S.bt D.2.1=false then w.fail 13 S.fst else w)else w:=by unfold SD.batR;rw[hw]
 have hwi:=I_ S (D.1.rest9.code,D.1.rest9.fat) a (by simp only[];omega) 0 1 2 3 De;rw[hw]at hwi;have hml:=hS.ml;have hnn:=hS.nn hc;have hle:=hB.len;have hb0:=hB.ok.b0;have hss:=hB.sum;rw[hD];refine RM func122 W2 ?_
 refine Cu (hct) rfl ?_;refine Cu (Bl D.1 4 k1) rfl ?_;refine Cr (AQ D.1.rest9 4) rfl ?_;refine Aa.us hwi rfl rfl (mp ?_).1;refine Aa.r1 (Ae w 1) rfl ?_;by_cases hz:w.code=0
 ·rw[if_pos hz]at ebat ebatR;refine (mr (AR hz) @Ao ?_).1;by_cases h16:S.bt.length=16
  ·rw[if_pos h16]at ebatR;have c1:((S.bt.length:Int)==16)=true:=by simp only[beq_iff_eq];omega
   refine (mq c1 ?_).1;refine Cu (Aj w 2 S.fst 1) rfl ?_;cases hsw:S.w with
   |true=>
    refine (mt hsw @Aq @Ar @Ao ?_).1;(repeat((with_reducible refine And.intro ?_ ?_);(·first|exact sd|(simp[Ab,A2,AV.parts,Ar,Ao];done)|(simp[Ab,A2,AV.parts,Ar,Ao];omega))))
    exact FK W2 [0,1,2,3,4] (by simp[ebat,ebatR,hsw,Gr,JA,Ar,Ao,Aq,AH])
   |false=>
    refine (mt hsw @Aq @Ar @Ao ?_).1;(repeat((with_reducible refine And.intro ?_ ?_);(·first|exact sd|(simp[Ab,A2,AV.parts,Ar,Ao];done)|(simp[Ab,A2,AV.parts,Ar,Ao];omega))))
    exact FK W2 [0,1,2,3,4] (by simp[ebat,ebatR,hsw,Gr,JA,Ar,Ao,Aq,AH])
  ·rw[if_neg h16]at ebatR;have c1:((S.bt.length:Int)==16)=false:=by simp only[beq_eq_false_iff_ne,ne_eq];omega
   refine (mq c1 ?_).1;refine Cp (H4 S.ep S.bt D.2.1 hB hS.bt Om) ?_;cases hfo:Ey S.ep S.bt D.2.1 with
   |false=>
    rw[hfo,if_pos rfl]at ebatR;refine (mp ?_).1;refine Cu (Aj w 13 S.fst 1) rfl ?_;cases hsw:S.w with
    |true=>
     refine (mt hsw @Aq @Ar @Ao ?_).1;(repeat((with_reducible refine And.intro ?_ ?_);(·first|exact sd|(simp[Ab,A2,AV.parts,Ar,Ao];done)|(simp[Ab,A2,AV.parts,Ar,Ao];omega))))
     exact FK W2 [0,1,2,3,4] (by simp[ebat,ebatR,hsw,Gr,JA,Ar,Ao,Aq,AH])
    |false=>
     refine (mt hsw @Aq @Ar @Ao ?_).1;(repeat((with_reducible refine And.intro ?_ ?_);(·first|exact sd|(simp[Ab,A2,AV.parts,Ar,Ao];done)|(simp[Ab,A2,AV.parts,Ar,Ao];omega))))
     exact FK W2 [0,1,2,3,4] (by simp[ebat,ebatR,hsw,Gr,JA,Ar,Ao,Aq,AH])
   |true=>
    rw[hfo,if_neg Si]at ebatR;refine (mp ?_).1;cases hsw:S.w with
    |true=>
     refine (mt hsw @Aq @Ar @Ao ?_).1;(repeat((with_reducible refine And.intro ?_ ?_);(·first|exact sd|(simp[Ab,A2,AV.parts,Ar,Ao];done)|(simp[Ab,A2,AV.parts,Ar,Ao];omega))))
     exact FK W2 [0,1,2,3,4] (by simp[ebat,ebatR,hsw,Gr,JA,Ar,Ao,Aq,AH])
    |false=>
     refine (mt hsw @Aq @Ar @Ao ?_).1;(repeat((with_reducible refine And.intro ?_ ?_);(·first|exact sd|(simp[Ab,A2,AV.parts,Ar,Ao];done)|(simp[Ab,A2,AV.parts,Ar,Ao];omega))))
     exact FK W2 [0,1,2,3,4] (by simp[ebat,ebatR,hsw,Gr,JA,Ar,Ao,Aq,AH])
 ·rw[if_neg hz]at ebat;refine (mq (Au hz) ?_).1
  exact FK W2 [0,1,2,3,4] (by simp[ebat,AH])
def Nr {s:RS} (h:Ak s):Ak s.marks.1∧s.marks.1.l=s.l:=Da F7 h 16
def XF (L:List Int) (S:SD) (q:RS) (a:Int) (hS:NE L S) (hc:S.r.code=0) (hq:Ak q) (hf:Fa q) (hn:q.l.length≤1000000) (ha:0≤a∧a≤1000000):
 Ah prog 123 [.ref 0 0,.ref 4 0,iA a] (MY S 1 2 3++[AN q]) (.tup []) (MY (S.idx q a) 1 2 3++[AN q.marks.1.rest9]):=by
 have⟨k1,k2⟩:=Nr hq;have hfa:=(hf.marks hq).rest9 k1;have⟨r1,r2⟩:=C8 k1;unfold Fa at hfa;rw[r2,k2]at hfa;have⟨D,hD⟩:=Ex q.marks;rw[hD]at k1 hfa;have⟨w,hw⟩:=Ex (S.r.wth (D.1.rest9.code,D.1.rest9.fat) a);have eidx:S.idx q a={S with r:=if w.code=0∧¬D.2=S.ms then w.fail 12 S.fst else w}:=by unfold SD.idx SD.idxR;rw[hD,hw]
 have hwi:=I_ S (D.1.rest9.code,D.1.rest9.fat) a (by simp only[];omega) 0 1 2 3 De;rw[hw]at hwi;have hlen:D.2.length≤140737488355328:=by
  have:=WG F7 hq 16;have e:DW.counted 16 q=D:=hD;rw[e]at this;omega
 rw[hD];refine RM func123 z7 ?_
 refine Aa.u1 (Kj q 4 hq Om) rfl (mq hD ?_).1;refine Cu (Bl D.1 4 k1) rfl ?_;refine Cr (AQ D.1.rest9 4) rfl ?_;refine Aa.us hwi rfl rfl (mp ?_).1;refine Aa.r1 (Ae w 1) rfl ?_;by_cases hz:w.code=0
 ·refine (mq (AR hz) ?_).1;refine Cp (OS D.2 S.ms hlen) ?_;by_cases he:D.2=S.ms
  ·have c1:Fh D.2 S.ms=true:=by simp[Fh,he]
   refine (mq c1 ?_).1
   exact FK z7 [0,1,2,3,4] (by simp[eidx,he,AH])
  ·have c1:Fh D.2 S.ms=false:=by simp[Fh,he]
   refine (mq c1 ?_).1;refine Cu (Aj w 12 S.fst 1) rfl ?_
   exact FK z7 [0,1,2,3,4] (by simp[eidx,he,hz,AH])
 ·refine (mq (Au hz) ?_).1
  exact FK z7 [0,1,2,3,4] (by simp[eidx,hz,AH])
def dN (L:List Int) (F:FuncId) (rd:QN) (hR:RdC F rd) (S:SD) (q:RS) (a:Int) (hS:NE L S) (hc:S.r.code=0) (hq:Ak q) (hf:Fa q) (hn:q.l.length≤1000000) (ha:0≤a∧a≤1000000) (i r j k p:Nat) (hd:[i,r,j,k,p].Nodup):
 Ct prog 122 [.ref i 0,.ref p 0,iA a,.fn F [] []] ([i,r,j,k,p].zip (MY S r j k++[AN q])) (λ_=>.tup []) ([i,r,j,k,p].zip (MY (S.bat rd q a) r j k++[AN (rd q).1.rest9])) (λ_=>[]):=
 Ct.us (XG L F rd hR S q a hS hc hq hf hn ha) [i,r,j,k,p] hd rfl rfl (by simp[AN]) (λN=>by simp[AH]) (λN=>by simp[AH,An]) (λN=>by simp[AH,An]) (λN=>by simp)
def dM (L:List Int) (S:SD) (q:RS) (a:Int) (hS:NE L S) (hc:S.r.code=0) (hq:Ak q) (hf:Fa q) (hn:q.l.length≤1000000) (ha:0≤a∧a≤1000000) (i r j k p:Nat) (hd:[i,r,j,k,p].Nodup):
 Ct prog 123 [.ref i 0,.ref p 0,iA a] ([i,r,j,k,p].zip (MY S r j k++[AN q])) (λ_=>.tup []) ([i,r,j,k,p].zip (MY (S.idx q a) r j k++[AN q.marks.1.rest9])) (λ_=>[]):=
 Ct.us (XF L S q a hS hc hq hf hn ha) [i,r,j,k,p] hd rfl rfl (by simp[AN]) (λN=>by simp[AH]) (λN=>by simp[AH,An]) (λN=>by simp[AH,An]) (λN=>by simp)
def mA {rd:QN} {S:SD} (h:¬S.r.code=0) (n:Nat):S.recs rd n=S:=by
 cases n with
 |zero=>rfl
 |succ n=>rw[SD.recs,if_neg h]
def Sk (L:List Int) (F:FuncId) (rd:QN) (hR:RdC F rd) (S0:SD) (N:Nat) (hS0:NE L S0) (hN:(L.length:Int)-S0.r.at_<N):
 Ah prog 51 [.ref 0 0,.fn F [] []] (MY S0 1 2 3) (.tup []) (MY (S0.recs rd N) 1 2 3):=by
 have⟨R,hRR⟩:=Ex (S0.recs rd N);rw[hRR];refine RM func51 b51 ?_
 refine AA (α:=SD×Nat) (λu=>.ref 0 0::.fn F [] []::Az (Az (Ay (Ay (Ay [.any]))))) (λu=>MY u.1 1 2 3) (λu=>NE L u.1∧(u.1.r.code=0->(L.length:Int)-u.1.r.at_<u.2)∧u.1.recs rd u.2=R) (λu=>u.2) (S0,N) ⟨hS0,λ_=>hN,hRR⟩ (Wk.to Si (by simp[BS])) ?_;rintro⟨S,n⟩ ⟨hS,hn,hr⟩;simp only[]at hS hn hr;refine (mp ?_).1;refine Aa.r1 (Ae S.r 1) rfl ?_;by_cases hc:S.r.code=0
 ·have hlt:=hn hc;have hat:=hS.r.at1;rw[hS.l]at hat;obtain⟨n,rfl⟩:∃m,n=m+1:=⟨n-1,Om⟩;have hone:=K0 hR.ok hS hc;have⟨p1,p2,p3⟩:=Oq hS hc;rw[SD.recs,if_pos hc]at hr;have⟨T,hT⟩:=Ex S.pay;have hpl:T.1.r.code=0->0≤T.2.2∧T.2.2≤1000000:=λh=>by
   rw[←hT]at h ⊢;have h1:=IM hS.r 2097152 h;have h2:=hS.hn;rw[hS.l]at h1;exact⟨h1.1,by show(S.r.frame 2097152).1.at_-4-((S.r.frame 2097152).2.length:Int)≤1000000;omega⟩
  have hok:Ak (RS.new T.2.1):=Ak.new (hT▸p2) (by rw[←hT];omega);have hln:(RS.new T.2.1).l.length≤1000000:=by rw[←hT];exact p3
  have⟨q1,q2⟩:=RS.ok.byte_ hok;have qf:=(Fa.new T.2.1).byte hok;have⟨q,hq⟩:=Ex ((RS.new T.2.1).byte.1);have⟨y,hy⟩:=Ex ((RS.new T.2.1).byte.2);have eone:S.one rd=if T.1.r.code=0 then(if y=1 then(T.1.bat rd q T.2.2,false)else if y=2 then(T.1.idx q T.2.2,true)else({T.1 with r:=T.1.r.wth ((q.fail 7 0).code,(q.fail 7 0).fat) T.2.2},false))else(T.1,true):=by
   unfold SD.one;rw[hT,hq,hy]
  have hpay:=NV S hS.r (by rw[hS.l];exact hS.hn) 0 1 2 3 De;rw[hT]at p1 hpay;rw[hq]at q1 q2 qf;have hql:q.l.length≤1000000:=by rw[q2];exact hln
  refine (mq (AR hc) ?_).1;refine Aa.us hpay rfl rfl (mp ?_).1;refine Aa.r1 (Ae T.1.r 1) rfl ?_;by_cases ht:T.1.r.code=0
  ·rw[if_pos ht]at eone;have⟨a0,a1⟩:=hpl ht;refine (mq (AR ht) ?_).1;refine Aa.n (BO T.2.1) (mp ?_).1;refine Aa.u1 (CG (RS.new T.2.1) 4 hok.ok) rfl (mr hq hy ?_).1;by_cases hy1:y=1
   ·rw[if_pos hy1]at eone;have c1:(y==1)=true:=Sx hy1
    rw[eone]at hr hone;simp only[Bool.false_eq_true,if_false]at hr hone;refine (mq c1 ?_).1;refine Aa.us (dN L F rd hR T.1 q T.2.2 p1 ht q1 qf hql ⟨a0,a1⟩ 0 1 2 3 4 De) rfl rfl (mp ?_).1;exact⟨(T.1.bat rd q T.2.2,n),⟨hone.1,λh=>by have:=hone.2 h;simp only[];omega,hr⟩,by simp only[];omega,Wk.sel [0,1,2,3] Si rfl Si rfl (by simp[AH,An]) (by simp[BP,AE,AH])⟩
   ·rw[if_neg hy1]at eone;have c1:(y==1)=false:=Sx hy1
    by_cases hy2:y=2
    ·rw[if_pos hy2]at eone;have c2:(y==2)=true:=Sx hy2
     rw[eone]at hr;simp only[if_true]at hr;refine (mr c1 c2 ?_).1;refine Aa.us (dM L T.1 q T.2.2 p1 ht q1 qf hql ⟨a0,a1⟩ 0 1 2 3 4 De) rfl rfl (mp ?_).1
     exact FK b51 [0,1,2,3] (by simp[←hr,AH])
    ·rw[if_neg hy2]at eone;have c2:(y==2)=false:=Sx hy2
     rw[eone]at hr hone;simp only[Bool.false_eq_true,if_false]at hr hone;have qff:=qf.fail (c:=7) (a:=0) (Int.le_refl _) Om;unfold Fa at qff;rw[AY]at qff;refine (mr c1 c2 ?_).1;refine Cu (Aj q 7 0 4) rfl ?_;refine Cr (AQ (q.fail 7 0) 4) rfl ?_;refine Aa.us (I_ T.1 ((q.fail 7 0).code,(q.fail 7 0).fat) T.2.2 (by simp only[];omega) 0 1 2 3 De) rfl rfl ?_;refine (mp ?_).1;exact⟨({T.1 with r:=T.1.r.wth ((q.fail 7 0).code,(q.fail 7 0).fat) T.2.2},n),⟨hone.1,λh=>by have:=hone.2 h;simp only[];omega,hr⟩,by simp only[];omega,Wk.sel [0,1,2,3] Si rfl Si rfl (by simp[AH,An]) (by simp[BP,AE,AH])⟩
  ·rw[if_neg ht]at eone;rw[eone]at hr;simp only[if_true]at hr;refine (mq (Au ht) ?_).1
   exact FK b51 [0,1,2,3] (by simp[←hr,AH])
 ·rw[mA hc]at hr;refine (mq (Au hc) ?_).1
  exact FK b51 [0,1,2,3] (by simp[←hr,AH])
def V6 (b:List Int) (hb:AW b) (hn:b.length≤100000000):Ct prog 106 [Bd .u8 b] [] (λ_=>.tup [sV (A_ b).1,iA (A_ b).2.1,Ce (A_ b).2.2]) [] (λ_=>[]):=by
 refine Ah.toCt ?_ cl cl
 have hsz:=λh=>NU hb h
 obtain⟨S,hS⟩:∃S,EC b=S:=⟨_,rfl⟩
 have e:A_ b=if S.2.1=0 then Tj b (b.length-12-S.1.toNat) (b.length-12)else(Kn,0,S.2):=by unfold A_;rw[hS]
 rw[hS]at hsz
 by_cases hs:S.2.1=0
 ·have q:(S.2.1==0)=true:=by simpa using hs
  rw[if_pos hs]at e
  obtain⟨z1,z2,z3,z4,_⟩:=hsz hs
  obtain⟨m,hm⟩:∃m:Nat,b.length=m+12:=⟨b.length-12,by omega⟩
  obtain⟨x,hx⟩:∃x:Nat,S.1=(x:Int):=⟨S.1.toNat,by omega⟩
  rw[hx,Int.toNat_natCast]at e
  obtain⟨a,ha⟩:∃a:Nat,m=a+x:=⟨m-x,by omega⟩
  have ha':m-x=a:=by omega
  have hm2:b.length-12=m:=by omega
  obtain⟨seg,hseg⟩:∃seg,(b.take m).drop a=seg:=⟨_,rfl⟩
  have lseg:seg.length=x:=by rw[←hseg,List.length_drop,List.length_take];omega
  have bseg:AW seg:=λy hy=>hb y (by rw[←hseg]at hy;exact List.mem_of_mem_take (List.mem_of_mem_drop hy))
  have kseg:Ak (RS.new seg):=Ak.new bseg (by omega)
  have hfa:=(Fa.new seg).frame kseg 2097152
  have hkp:=BA kseg 2097152
  have hfi:=λhc=>Fo kseg (m:=2097152) hc
  have hgf:Bp seg 2097152=if((RS.new seg).frame 2097152).1.code=0 then(((RS.new seg).frame 2097152).2,((RS.new seg).frame 2097152).1.at_,(0,0))else([],0,(((RS.new seg).frame 2097152).1.code,((RS.new seg).frame 2097152).1.fat)):=rfl
  have e0:(RS.new seg).l.take (RS.new seg).at_.toNat=[]:=by simp[RS.new]
  have e1:(RS.new seg).l=seg:=rfl
  unfold Tj at e
  rw[hm2,ha',hseg]at e
  obtain⟨F,hF⟩:∃F,(RS.new seg).frame 2097152=F:=⟨_,rfl⟩
  rw[hF]at hfa hkp hgf hfi
  rw[hF]at e
  rw[e0,e1,List.nil_append]at hfi
  rw[e1]at hkp
  have hfl:F.1.l.length=x:=by rw[hkp.2];exact lseg
  have hat0:=hkp.1.at0
  have hat1:=hkp.1.at1
  have hfa1:=hfa.1
  have hfa2:=hfa.2
  have hpl:F.1.code=0->AW F.2∧(F.2.length:Int)+5≤F.1.at_:=λhc=>by
   obtain⟨_,_,i3,_,i5⟩:=hfi hc
   have h1:=congrArg List.length i5
   rw[List.length_take]at h1
   have h2:=Bi F.2
   exact⟨i3,by omega⟩
  have w1:IntKind.i64.wrap ((b.length:Int)-12)=(m:Int):=by rw[IntWalk.i64_in _ (by omega)];omega
  have w2:IntKind.i64.wrap ((m:Int)-(x:Int))=(a:Int):=by rw[IntWalk.i64_in _ (by omega)];omega
  have hsl:A0 .u8 ((b.drop (a:Int).toNat).take ((m:Int)-(a:Int)).toNat)=A0 .u8 seg:=by
   rw[←hseg,List.drop_take,Int.toNat_natCast,show((m:Int)-(a:Int)).toNat=m-a by omega]
  have w3:IntKind.i64.wrap ((a:Int)+F.1.at_)=(a:Int)+F.1.at_:=IntWalk.i64_in _ (by omega)
  have w4:IntKind.i64.wrap (F.1.fat+(a:Int))=F.1.fat+a:=IntWalk.i64_in _ (by omega)
  refine RM Tryz.func106 ZM ?_
  refine Aa.p (MA b hb (by omega)) ?_;simp only[go_sem,seval,hS,hx];refine (mok ?_).1
  refine Aa.p (Ai S.2.1 S.2.2) ?_;simp only[go_sem,seval,q];refine (mok ?_).1
  refine Aa.p (C3) ?_;simp only[go_sem,seval,Ab,w1,w2,CA,Dh,hsl];refine (mok ?_).1
  (repeat((with_reducible refine And.intro ?_ ?_);(·exact sd)))
  by_cases hc:F.1.code=0
  ·rw[if_pos hc]at hgf
   rw[if_pos hc]at e
   obtain⟨p1,p2⟩:=hpl hc
   have hrf:=HD p1 (by omega)
   obtain⟨R,hR⟩:∃R,Bh F.2=R:=⟨_,rfl⟩
   rw[hR]at hrf
   rw[hR]at e
   have w5:IntKind.i64.wrap ((a:Int)+F.1.at_-4)=(a:Int)+F.1.at_-4:=IntWalk.i64_in _ (by omega)
   have w6:IntKind.i64.wrap ((a:Int)+F.1.at_-4-(F.2.length:Int))=(a:Int)+F.1.at_-4-(F.2.length:Int):=IntWalk.i64_in _ (by omega)
   have w7:IntKind.i64.wrap (R.2.2+((a:Int)+F.1.at_-4-(F.2.length:Int)))=R.2.2+((a:Int)+F.1.at_-4-(F.2.length:Int)):=IntWalk.i64_in _ (by omega)
   refine Aa.p (Hb seg 2097152 bseg (by omega) (by decide)) ?_;simp only[go_sem,seval,hgf];refine (mok ?_).1
   refine Aa.p (Ai 0 0) ?_;simp only[go_sem,seval,beq_self_eq_true];refine (mok ?_).1
   by_cases hlt:F.1.at_<(x:Int)
   ·have q2:decide (F.1.at_<(x:Int))=true:=decide_eq_true hlt
    rw[if_pos (by omega)]at e
    simp only[go_sem,seval,q2,w3];refine (mok ?_).1
    refine Aa.p (Bj 9 ((a:Int)+F.1.at_)) (mp ?_).1
    (refine FB ZM [] ?_ ?_<;>first|with_reducible rfl|(simp[Ci,EE,EH,CM,e,Kn,BB];done)|rfl)
   ·have q2:decide (F.1.at_<(x:Int))=false:=decide_eq_false hlt
    rw[if_neg (by omega)]at e
    simp only[go_sem,seval,q2];refine (mok ?_).1
    refine Aa.p (Ee F.2 p1 (by omega)) ?_;simp only[go_sem,seval,hR];refine (mok ?_).1
    refine Aa.p (Ai R.2.1 R.2.2) ?_
    by_cases hz:R.2.1=0
    ·have q3:(R.2.1==0)=true:=by simpa using hz
     rw[if_pos hz]at e
     simp only[go_sem,seval,q3];refine (mok ?_).1
     exact FE ZM [] e
    ·have q3:(R.2.1==0)=false:=by simpa using hz
     rw[if_neg hz]at e
     simp only[go_sem,seval,q3,Ab,w3,w5,w6];refine (mok ?_).1
     refine Aa.p (Ba R.2.1 R.2.2 _ _ w7) (mp ?_).1
     (refine FB ZM [] ?_ ?_<;>first|with_reducible rfl|(simp[Ci,EE,EH,CM,e,Kn,BB,hz];done)|rfl)
  ·rw[if_neg hc]at hgf
   rw[if_neg hc]at e
   have q2:(F.1.code==0)=false:=by simpa using hc
   refine Aa.p (Hb seg 2097152 bseg (by omega) (by decide)) ?_;simp only[go_sem,seval,hgf];refine (mok ?_).1
   refine Aa.p (Ai F.1.code F.1.fat) ?_;simp only[go_sem,seval,q2];refine (mok ?_).1
   refine Aa.p (Ba F.1.code F.1.fat a _ w4) (mp ?_).1
   (refine FB ZM [] ?_ ?_<;>first|with_reducible rfl|(simp[Ci,EE,EH,CM,e,Kn,BB,hc];done)|rfl)
 ·have q:(S.2.1==0)=false:=by simpa using hs
  rw[if_neg hs]at e
  refine RM Tryz.func106 ZM ?_
  refine Aa.p (MA b hb (by omega)) ?_;simp only[go_sem,seval,hS];refine (mok ?_).1
  refine Aa.p (Ai S.2.1 S.2.2) ?_;simp only[go_sem,seval,q];refine (mok ?_).1
  (refine FB ZM [] ?_ ?_<;>first|with_reducible rfl|(simp[Ci,EE,EH,CM,e,Kn];done)|rfl)
def UA (L:List Int) (F:FuncId) (rd:QN) (hR:RdC F rd) (S0:SD) (N:Nat) (hS0:NE L S0) (hN:(L.length:Int)-S0.r.at_<N) (i r j k:Nat) (hd:[i,r,j,k].Nodup):
 Ct prog 51 [.ref i 0,.fn F [] []] ([i,r,j,k].zip (MY S0 r j k)) (λ_=>.tup []) ([i,r,j,k].zip (MY (S0.recs rd N) r j k)) (λ_=>[]):=
 Ct.us (Sk L F rd hR S0 N hS0 hN) [i,r,j,k] hd rfl rfl (by simp[AN]) (λN=>by simp[AH]) (λN=>by simp[AH,An]) (λN=>by simp[AH,An]) (λN=>by simp)
def Kx (f g:Ft):(f.ep==g.ep&&(f.bat==g.bat&&(f.ent==g.ent&&(f.fst==g.fst&&(f.fin==g.fin&&(f.at_==g.at_&&(f.size==g.size&&true)))))))=decide (f=g):=by
 rw[Bool.eq_iff_iff];simp only[Bool.and_eq_true,beq_iff_eq,and_true,decide_eq_true_eq];constructor
 ·rintro⟨h1,h2,h3,h4,h5,h6,h7⟩;cases f;cases g;simp_all
 ·rintro rfl;simp
def MN (f g:Ft):(f.ep==g.ep&&(f.bat==g.bat&&(f.ent==g.ent&&(f.fst==g.fst&&(f.fin==g.fin&&(f.at_==g.at_&&f.size==g.size))))))=decide (f=g):=by
 rw[←Kx,Bool.and_true]
def lT (L:List Int) (S:SD) (hS:NE L S) (hc:S.r.code=0):Ah prog 53 [.ref 0 0] (MY S 1 2 3) (.tup []) (MY {S.pay.1 with r:=S.fin} 1 2 3):=by
 have⟨p1,p2,p3⟩:=Oq hS hc;have h0:=hS.r.at0;have h1:=hS.r.at1;have hnn:=hS.hn;rw[hS.l]at h1;have f0:=hS.f0;have f1:=hS.f1;have e1:IntKind.i64.wrap (S.r.at_-S.fst)=S.r.at_-S.fst:=i64_in _ Om;have hml:=hS.ml;have hnb:=hS.n;have⟨T,hT⟩:=Ex S.pay;have⟨W,hW⟩:=Ex S.want;have hW':Ib S.ep S.ms S.fst (S.r.at_-S.fst)=W:=hW;have hpay:=NV S hS.r (by rw[hS.l];exact hS.hn) 0 1 2 3 De;have hft:=HD (p:=T.2.1) (by rw[←hT];exact p2) (by rw[←hT];omega);have hrp:=Ee T.2.1 (by rw[←hT];exact p2) (by rw[←hT];omega);have⟨G,hG⟩:=Ex (Bh T.2.1);have hpl:T.1.r.code=0->0≤T.2.2∧T.2.2≤1000000∧0≤T.1.fst∧T.1.fst<T.1.r.at_:=λh=>by
  rw[←hT]at h ⊢;have h1:=IM hS.r 2097152 h;rw[hS.l]at h1;exact⟨h1.1,by show(S.r.frame 2097152).1.at_-4-((S.r.frame 2097152).2.length:Int)≤1000000;omega,h0,h1.2.2⟩
 have hln:T.2.1.length≤1000000:=by rw[←hT];exact p3
 rw[hT]at p1 hpay;rw[hG]at hft hrp;have⟨w,hw⟩:=Ex (T.1.r.wth G.2 T.2.2);have⟨w1,w2⟩:=KJ p1.r G.2 T.2.2;rw[hw]at w1 w2;have⟨x,hx⟩:=Ex ((if G.1=W then w else w.fail 12 T.1.fst));have x1:Ak x∧x.l=L∧x.at_=T.1.r.at_:=by
  have wa:w.at_=T.1.r.at_:=by rw[←hw];unfold RS.wth;split;rfl;unfold RS.fail;split<;>rfl
  rw[←hx];split
  ·exact⟨w1,w2.trans p1.l,wa⟩
  ·exact⟨w1.fail _ _,by rw[AY];exact w2.trans p1.l,by unfold RS.fail;split<;>exact wa⟩
 have eend1:S.end1=x:=by unfold SD.end1;rw[hT,hG,hW,hw,hx]
 have eend2:S.end2=if(x.take 12).2=A4 (x.at_-T.1.fst)then(x.take 12).1 else(x.take 12).1.fail 12 x.at_:=by unfold SD.end2;rw[eend1,hT]
 have efin:S.fin=if T.1.r.code=0 then S.end2.rest9 else T.1.r:=by unfold SD.fin;rw[hT]
 refine RM func53 b53 ?_
 refine Aa.r1 (AF S.r 1) rfl (mq e1 ?_).1;refine Aa.p (Iy S.ep S.ms S.fst (S.r.at_-S.fst) hS.mok Om) (mq hW' ?_).1;refine Aa.us hpay rfl rfl (mp ?_).1;refine Aa.r1 (Ae T.1.r 1) rfl ?_;by_cases ht:T.1.r.code=0
 ·have⟨a0,a1,a2,a3⟩:=hpl ht;rw[if_pos ht]at efin;have hwi:=I_ T.1 G.2 T.2.2 Om 0 1 2 3 De;rw[hw]at hwi;have hxat:=x1.1.at1;rw[x1.2.1]at hxat;have e2:IntKind.i64.wrap (x.at_-T.1.fst)=x.at_-T.1.fst:=i64_in _ Om;have e3:IntKind.u64.wrap (x.at_-T.1.fst)=x.at_-T.1.fst:=u64_in _ Om;have htk:=x1.1.take 12;have heq:=IY (x.take 12).2 (A4 (x.at_-T.1.fst)) (Dw x1.1.bys 12) (NJ _);have⟨V,hV⟩:=Ex (x.take 12);rw[hV]at eend2 htk heq;refine (mq (AR ht) ?_).1;refine Cp (hrp) ?_;refine Aa.us hwi rfl rfl (mr @Kx @MN ?_).1;by_cases hgw:G.1=W
  ·have c1:decide (G.1=W)=true:=Sx hgw
   rw[if_pos hgw]at hx;refine (mr c1 hx ?_).1;refine Cr (AF x 1) rfl ?_;refine Cp (C3) ?_;refine Aa.u1 (CF x 12 1 x1.1.ok) rfl (mq hV ?_).1;refine (mq e2 ?_).1;refine Cp (EJ (x.at_-T.1.fst) _ e3 Om Om) ?_;refine Cp (heq) ?_;by_cases hs:V.2=A4 (x.at_-T.1.fst)
   ·have c2:BJ V.2 (A4 (x.at_-T.1.fst))=true:=by simp[BJ,hs]
    rw[if_pos hs]at eend2;rw[eend2]at efin;rw[hT,efin];refine (mq c2 ?_).1;refine Cu (Bl V.1 1 htk) rfl ?_
    exact FK b53 [0,1,2,3] (by simp[AH])
   ·have c2:BJ V.2 (A4 (x.at_-T.1.fst))=false:=by simp[BJ,hs]
    rw[if_neg hs]at eend2;rw[eend2]at efin;rw[hT,efin];refine (mq c2 ?_).1;refine Cu (Aj V.1 12 x.at_ 1) rfl ?_;refine Cu (Bl (V.1.fail 12 x.at_) 1 (htk.fail _ _)) rfl ?_
    exact FK b53 [0,1,2,3] (by simp[AH])
  ·have c1:decide (G.1=W)=false:=Sx hgw
   rw[if_neg hgw]at hx;refine (mq c1 ?_).1;refine Aa.u1 (Aj w 12 T.1.fst 1) rfl (mq hx ?_).1;refine Cr (AF x 1) rfl ?_;refine Cp (C3) ?_;refine Aa.u1 (CF x 12 1 x1.1.ok) rfl (mq hV ?_).1;refine (mq e2 ?_).1;refine Cp (EJ (x.at_-T.1.fst) _ e3 Om Om) ?_;refine Cp (heq) ?_;by_cases hs:V.2=A4 (x.at_-T.1.fst)
   ·have c2:BJ V.2 (A4 (x.at_-T.1.fst))=true:=by simp[BJ,hs]
    rw[if_pos hs]at eend2;rw[eend2]at efin;rw[hT,efin];refine (mq c2 ?_).1;refine Cu (Bl V.1 1 htk) rfl ?_
    exact FK b53 [0,1,2,3] (by simp[AH])
   ·have c2:BJ V.2 (A4 (x.at_-T.1.fst))=false:=by simp[BJ,hs]
    rw[if_neg hs]at eend2;rw[eend2]at efin;rw[hT,efin];refine (mq c2 ?_).1;refine Cu (Aj V.1 12 x.at_ 1) rfl ?_;refine Cu (Bl (V.1.fail 12 x.at_) 1 (htk.fail _ _)) rfl ?_
    exact FK b53 [0,1,2,3] (by simp[AH])
 ·rw[if_neg ht]at efin;rw[hT,efin];refine (mq (Au ht) ?_).1
  exact FK b53 [0,1,2,3] (by simp[AH])
def A1.rowObj {G:Gh} {T:List Ad} {w:World} {i j k n k':Nat} {ys:List AV} (h:Wd G T w) (hi:T[i]? =some (.cells ys)) (hj:ys[j]? =some (.sl .full k' [])) (hd:T[n]? =some .dead) (h1:1≤k):
 ∃G',A1 G T w G' ((T.set n (.row k 0)).set i (.cells (ys.set j (.sl (.row n) k [])))) w:=by
 have hne:n≠i:=by rintro rfl;rw[hi]at hd;simp at hd
 have hjl:=(Ge hj);have⟨b,cs,t,g1,g2,g3,g4,_⟩:=h.obj i ys hi;have hv:=Array.getElem?_eq_getElem (show j<cs.size by omega);have r:=(g4 j _ _ hj hv).2;have r':Bv G (.sl .full k []) cs[j]:=r.rek;generalize hcj:cs[j]=v at*;cases r' with
 | @sl _ _ _ A c b' o vs q1 q2 q3 q4 q5 q6 q7=>
   have hc:c=0:=q7;subst hc;have⟨hl,hh⟩:=A1.rowFull (id:=n) (k:=k) (n:=0) (A:=A) h hd h1;have hi':(T.set n (.row k 0))[i]? =some (.cells ys):=by rw[getElem?_set_ne hne];exact hi
   have⟨b2,cs2,t2,p1,p2,p3,p4,_⟩:=hl.wd.obj i ys hi';have hb2:b2=b:=by
    have:=hl.le.loc i b (by simpa using g1);rw[p1]at this;injection this
   subst hb2;rw[p2]at g2;injection g2 with g2;injection g2 with e1 e1t;subst e1 e1t;refine⟨_,hl.trans (A1.turn (xs':=ys.set j (.sl (.row n) k [])) hl.wd hi' p1 (⟨rfl,rfl,rfl,rfl,λ_ _=>rfl,p2⟩:JL w w b2 (.cells cs2 t2 (0,0))) (by rw[length_set];omega) λq x u hx hu=>?_)⟩;by_cases eq:q=j
   ·subst eq;simp[hjl]at hx;subst hx;rw[hv]at hu;injection hu with hu;refine⟨?_,?_⟩
    ·rw[←hu];rfl
    ·rw[←hu];exact((Bv.sl vs q1 q2 q3 q4 q5 q6 q7:Bv G (.sl .full k []) _).mono hl.le).retag hh
   ·rw[getElem?_set_ne (Ne.symm eq)]at hx;exact p4 q x u hx hu
def Ah.rowObj {P:Program} {f:FuncId} {args:List AV} {T S':List Ad} {r:AV} {i j n k':Nat} (k:Nat) {ys:List AV} (hi:T[i]? =some (.cells ys)) (hj:ys[j]? =some (.sl .full k' [])) (hd:T[n]? =some .dead) (h1:1≤k)
 (h:Ah P f args ((T.set n (.row k 0)).set i (.cells (ys.set j (.sl (.row n) k [])))) r S'):Ah P f args T r S':=by
 refine⟨h.1,λG w vs hw hv=>?_⟩;have⟨G',hl⟩:=A1.rowObj hw hi hj hd h1;refine(h.2 G' w vs hl.wd (hv.mono hl.le)).mono ?_;rintro e w' ⟨v,G'',rfl,hr,hs⟩;exact⟨v,G'',rfl,hr,hl.trans hs⟩
def Fd (u:List (Nat×Ad)) (k:Nat) (x:Ad) (hk:k∈u.map (·.1)) (T:List Ad):Cw (T.set k x) u=Cw T u:=by
 induction u generalizing T with
 |nil=>simp at hk
 |cons p u ih=>
  rw[CR,CR];by_cases e:p.1=k
  ·subst e;rw[set_set]
  ·have hk':k∈u.map (·.1):=by
    simp only[map_cons,mem_cons]at hk;rcases hk with h|h
    ·exact absurd h.symm e
    ·exact h
   rw[set_comm _ _ (Ne.symm e),ih hk']
def PZ (L:List Int) (F:FuncId) (rd:QN) (hR:RdC F rd) (S0:SD) (N:Nat) (hS0:NE L S0) (hN:(L.length:Int)-S0.r.at_<N) (hb:S0.bt=[]) (hm:S0.ms=[]) {S:List Ad} {K:KT} (i r k1 k2:Nat) (hir:i≠r)
 (h1:S[i]? =some (.cells [.ref r 0,uA S0.ep,.sl .full k1 [],.sl .full k2 [],bA S0.w,iA S0.fst])) (h2:S[r]? =some (AN S0.r))
 (hK:K (.tup []) [i,r] [(i,sgO (S0.recs rd N) r S.length (S.length+1)),(r,AN (S0.recs rd N).r)] [.row 3 (S0.recs rd N).bt.length,.row 3 (S0.recs rd N).ms.length]):
 Aa prog 51 [.ref i 0,.fn F [] []] S K:=by
 have hil:=(Ge h1);have hrl:=(Ge h2);refine⟨_,_,_,_,λT hT _ hd=>?_,λp hp=>?_,λp hp=>?_,hK⟩
 ·have Ls:T[S.length]? =some .dead:=hd (S.length,.row 3 (S0.recs rd N).bt.length) (by simp[Bw]);have hd1:T[S.length+1]? =some .dead:=hd (S.length+1,.row 3 (S0.recs rd N).ms.length) (by simp[Bw]);have t1:T[i]? =_:=(hT i Si).trans h1;have t2:T[r]? =_:=(hT r Si).trans h2;refine Ah.rowObj (j:=2) 3 t1 rfl Ls Om ?_;refine Ah.rowObj (j:=3) (n:=S.length+1) 3 (k':=k2) (i:=i) (ys:=[.ref r 0,uA S0.ep,.sl (.row S.length) 3 [],.sl .full k2 [],bA S0.w,iA S0.fst]) ?_ rfl ?_ Om ?_
  ·have ES:i<T.length:=(Ge t1);simp[ES]
  ·rw[getElem?_set_ne Om,getElem?_set_ne Om];exact hd1
  ·have hnd:[i,r,S.length,S.length+1].Nodup:=by
    simp only[nodup_cons,mem_cons,not_mem_nil,or_false,not_or,not_false_eq_true,nodup_nil,and_true];omega
   have hc:=UA L F rd hR S0 N hS0 hN i r S.length (S.length+1) hnd;have ht0:=(Ge Ls);have ht1:=(Ge hd1);have ES:i<T.length:=(Ge t1);have hrt:r<T.length:=(Ge t2);have hx:=hc ((((T.set S.length (.row 3 0)).set i (.cells [.ref r 0,uA S0.ep,.sl (.row S.length) 3 [],.sl .full k2 [],bA S0.w,iA S0.fst])).set (S.length+1) (.row 3 0)).set i (.cells [.ref r 0,uA S0.ep,.sl (.row S.length) 3 [],.sl (.row (S.length+1)) 3 [],bA S0.w,iA S0.fst])) 0 (λp hp=>?_) (λp hp=>by simp[Bw]at hp)
   ·rw[CC,show Bw 0 []=[]from rfl,NH]at hx;rw[Fd _ _ _ Si,Fd _ _ _ Si,Fd _ _ _ Si,Fd _ _ _ Si]at hx;exact hx
   ·simp only[zip_cons_cons,zip_nil_right,mem_cons,not_mem_nil,or_false]at hp;rcases hp with rfl|rfl|rfl|rfl
    ·simp[ES,sgO,hb,hm,D7,H9]
    ·simp only[];rw[getElem?_set_ne hir,getElem?_set_ne Om,getElem?_set_ne hir,getElem?_set_ne Om];exact t2
    ·simp only[];rw[getElem?_set_ne Om,getElem?_set_ne Om,getElem?_set_ne Om,hb];simp[ht0]
    ·simp only[];rw[getElem?_set_ne Om,hm];simp[ht1]
 ·simp only[mem_cons,not_mem_nil,or_false]at hp;rcases hp with rfl|rfl<;>simp
 ·simp only[mem_cons,not_mem_nil,or_false]at hp;rcases hp with rfl|rfl
  ·exact hil
  ·exact hrl
def tP (q:RS) (hq:Ak q) (hl:q.l.length≤1000000):Ah prog 21 [.ref 0 0] [AN q] (.tup [FD (BD q).2.1,bA (BD q).2.2]) [AN (BD q).1]:=by
 refine RM func21 b21 ?_
 refine Cu (KB q 0 hq hl) rfl ?_
 exact FK b21 [0] (by simp[BD])
def cY:RdC 21 BD:=⟨St,λq i hq hl=>Ct.u1 (tP q hq hl) i CN (λρ=>An ρ _) (λρ=>An ρ _) (rdr_dead q) (λρ=>by simp[FD])⟩
def uG (L:List Int) (S:SD) (hS:NE L S) (hc:S.r.code=0) (i r j k:Nat) (hd:[i,r,j,k].Nodup):
 Ct prog 53 [.ref i 0] ([i,r,j,k].zip (MY S r j k)) (λ_=>.tup []) ([i,r,j,k].zip (MY {S.pay.1 with r:=S.fin} r j k)) (λ_=>[]):=
 Ct.us (lT L S hS hc) [i,r,j,k] hd rfl rfl (by simp[AN]) (λN=>by simp[AH]) (λN=>by simp[AH,An]) (λN=>by simp[AH,An]) (λN=>by simp)
def NY (F:FuncId) (rd:QN) (hR:RdC F rd) (l:List Int) (hb:AW l) (hl:l.length≤1000000):Ct prog 20 [Bd .u8 l,.fn F [] []] [] (λ_=>.tup [Et (BT rd l).1.1,bA (BT rd l).1.2,Ce (BT rd l).2]) [] (λ_=>[]):=by
 refine Ah.toCt ?_ cl cl
 have hok:Ak (RS.new l):=Ak.new hb Om;have hs0:=KR hb hl;have hs1:=rS hR.ok hb hl;have⟨R,hRR⟩:=Ex (BT rd l);have e0:SD.start l=⟨if(RS.new l).header.2.ver=3 then(RS.new l).header.1 else(RS.new l).header.1.fail 8 4,(RS.new l).header.2.ep,[],[],true,0⟩:=rfl;have e1:SD.all rd l=(SD.start l).recs rd (l.length+1):=rfl;have e2:BT rd l=if(SD.all rd l).done.code=0 then((⟨(SD.all rd l).ep,(SD.all rd l).bt⟩,(SD.all rd l).w),(0,0))else((CH,false),((SD.all rd l).done.code,(SD.all rd l).done.fat)):=rfl
 have⟨H,hH⟩:=Ex ((RS.new l).header);have hat:=hs0.r.at0;have⟨S0,hS0⟩:=Ex (SD.start l);have⟨S1,hS1⟩:=Ex (SD.all rd l);rw[hS1]at e1 e2 hs1;rw[hS0]at e0 e1 hs0 hat;rw[hH]at e0;rw[hRR]at e2 ⊢;have g1:S0.ep=H.2.ep:=by rw[e0]
 have g2:S0.w=true:=by rw[e0]
 have g3:S0.fst=0:=by rw[e0]
 have g4:S0.r=if H.2.ver=3 then H.1 else H.1.fail 8 4:=by rw[e0]
 have g5:S0.bt=[]:=by rw[e0]
 have g6:S0.ms=[]:=by rw[e0]
 have hrec:=@PZ l F rd hR S0 (l.length+1) hs0 Om g5 g6;rw[←e1]at hrec;have hend:=λh=>uG l S1 hs1 h
 have hdone:S1.done=if S1.r.code=0 then S1.fin else S1.r:=rfl
 refine RM func20 b20 ?_
 refine Aa.n (BO l) (mp ?_).1;refine Aa.u1 (IK (RS.new l) 2 hok) rfl (mq hH ?_).1;by_cases hv:H.2.ver=3
 ·rw[if_pos hv]at g4;have c1:(H.2.ver != 3)=false:=by simp[hv]
  refine (mq c1 ?_).1;refine hrec 3 2 1 1 De (by rw[g1,g2,g3];rfl) (by rw[g4];rfl) ?_;simp only[go_sem,seval,length_cons,length_nil];refine (mok ?_).1;refine Aa.r1 (Ae S1.r 2) rfl ?_;by_cases hc:S1.r.code=0
  ·have⟨T,hT⟩:=Ex S1.done;rw[if_pos hc,hT]at hdone;rw[hT]at e2;have he:=hend hc 3 2 5 6 De;rw[←hdone]at he;refine (mq (AR hc) ?_).1;refine Aa.us he rfl rfl (mp ?_).1;refine Cr (AQ T 2) rfl ?_;refine Aa.p (Ai T.code T.fat) ?_;by_cases hz:T.code=0
   ·rw[if_pos hz]at e2;have c2:(T.code==0)=true:=Sx hz
    refine (mq c2 ?_).1;refine WO 0 [uA S1.ep,GN S1.bt] ?_;have p1:S1.pay.1.w=S1.w:=rfl
    exact FF b20 [] e2 p1
   ·rw[if_neg hz]at e2;have c2:(T.code==0)=false:=Sx hz
    refine (mq c2 ?_).1;refine WO 0 [uA 0,GN []] ?_
    exact FK b20 [] (by simp[e2,CH])
  ·rw[if_neg hc]at hdone;rw[hdone]at e2;rw[if_neg hc]at e2;have c2:(S1.r.code==0)=false:=Sx hc
   refine (mq (Au hc) ?_).1;refine Cr (AQ S1.r 2) rfl ?_;refine Aa.p (Ai S1.r.code S1.r.fat) (mq c2 ?_).1;refine WO 0 [uA 0,GN []] ?_
   exact FK b20 [] (by simp[e2,CH])
 ·rw[if_neg hv]at g4;have c1:(H.2.ver != 3)=true:=by simp[hv]
  refine (mq c1 ?_).1;refine Cu (Aj H.1 8 4 2) rfl ?_;refine hrec 3 2 1 1 De (by rw[g1,g2,g3];rfl) (by rw[g4];rfl) ?_;simp only[go_sem,seval,length_cons,length_nil];refine (mok ?_).1;refine Aa.r1 (Ae S1.r 2) rfl ?_;by_cases hc:S1.r.code=0
  ·have⟨T,hT⟩:=Ex S1.done;rw[if_pos hc,hT]at hdone;rw[hT]at e2;have he:=hend hc 3 2 5 6 De;rw[←hdone]at he;refine (mq (AR hc) ?_).1;refine Aa.us he rfl rfl (mp ?_).1;refine Cr (AQ T 2) rfl ?_;refine Aa.p (Ai T.code T.fat) ?_;by_cases hz:T.code=0
   ·rw[if_pos hz]at e2;have c2:(T.code==0)=true:=Sx hz
    refine (mq c2 ?_).1;refine WO 0 [uA S1.ep,GN S1.bt] ?_;have p1:S1.pay.1.w=S1.w:=rfl
    exact FF b20 [] e2 p1
   ·rw[if_neg hz]at e2;have c2:(T.code==0)=false:=Sx hz
    refine (mq c2 ?_).1;refine WO 0 [uA 0,GN []] ?_
    exact FK b20 [] (by simp[e2,CH])
  ·rw[if_neg hc]at hdone;rw[hdone]at e2;rw[if_neg hc]at e2;have c2:(S1.r.code==0)=false:=Sx hc
   refine (mq (Au hc) ?_).1;refine Cr (AQ S1.r 2) rfl ?_;refine Aa.p (Ai S1.r.code S1.r.fat) (mq c2 ?_).1;refine WO 0 [uA 0,GN []] ?_
   exact FK b20 [] (by simp[e2,CH])
def Iz (l:List Int) (hb:AW l) (hl:l.length≤1000000):Ct prog 6 [Bd .u8 l] [] (λ_=>.tup [Et (BT BD l).1.1,Ce (BT BD l).2]) [] (λ_=>[]):=by
 refine Ah.toCt ?_ cl cl
 have h:=NY 21 BD cY l hb hl;have⟨R,hR⟩:=Ex (BT BD l);rw[hR]at h ⊢;refine RM func6 b6 ?_
 refine Cp (h) ?_;exact FA b6 []
def RS.loose (s:RS):RS×List Int:=(s.blkL.1,s.blkL.2.1)
def RS.wL (s:RS):Bool:=if s.bthd.1.code=0 then s.bthe.1.blkL.2.2 else false
def KH:QN:=λq=>((q.btch RS.loose).1,((q.btch RS.loose).2,q.wL&&((q.btch RS.loose).1.code==0)))
def Px {s:RS} (h:Ak s):AW s.blkL.2.1∧s.blkL.2.1.length≤1048576:=by
 by_cases hc:s.blkL.1.code=0
 ·exact(TI h hc).2.2
 ·unfold RS.blkL at hc ⊢;split
  ·rename_i h0;rw[if_pos h0]at hc;exact absurd h0 hc
  ·exact⟨λx hx=>by simp at hx,Si⟩
def qY {s:RS} (h:s.code≠0):s.blkL.1.code≠0:=by
 intro h1;unfold RS.blkL at h1;have h2:s.bdat.1.code=0:=by split at h1<;>first|assumption|exact h1
 have h3:s.bway.1.code=0:=by
  unfold RS.bdat at h2;split at h2
  ·assumption
  ·exact h2
 have h4:(s.int 1048576).1.code=0:=by
  have:s.bway.1=(s.int 1048576).1.byte.1:=rfl;rw[this]at h3;have e:(s.int 1048576).1.byte.1=((s.int 1048576).1.take 1).1:=by unfold RS.byte RS.take;split<;>rfl
  rw[e]at h3;exact(LC h3).1
 have h5:s.vint.1.code=0:=by
  unfold RS.int at h4;rw[if_pos De]at h4;unfold RS.most at h4;split at h4
  ·exact absurd h4 (CK De)
  ·exact h4
 unfold RS.vint at h5;rw[if_neg h]at h5;exact h h5
def Yn {s:RS} (h:Ak s):Ak (RS.loose s).1∧(RS.loose s).1.l=s.l∧(RS.loose s).2.length≤1048576:=⟨(Es h).1,(Es h).2,(Px h).2⟩
def Vt:∀s:RS,Ak s->Ak (RS.loose s).1∧AW (RS.loose s).2∧(RS.loose s).2.length≤1048576∧(s.code≠0->(RS.loose s).1.code≠0):=λs h=>⟨(Es h).1,(Px h).1,(Px h).2,qY⟩
def Abn:ZQ KH:=⟨λq h=>E0 h λs h=>Es h,λq h hf=>hf.btch h (λs h=>Es h) (λs h hf=>hf.blkL h),λq h=>(L7 h Vt).1⟩
def Aig (s:RS) (hs:Ak s) (hl:s.l.length≤1000000):Ah prog 58 [.ref 1 0,.ref 2 0] [AN s,.cells [.ref 0 0],.cells [bA false]] (Bd .u8 (RS.loose s).2) [AN (RS.loose s).1,.cells [.ref 0 0],.cells [bA s.blkL.2.2]]:=by
 refine RM func58 b58 ?_
 refine Cu (Ig s 0 hs hl) rfl ?_
 exact FK b58 [0,1,2] (by simp[RS.loose])
def jL (s:RS) (hs:Ak s) (hl:s.l.length≤1000000) (i j k:Nat) (h:[i,j,k].Nodup):Ct prog 58 [.ref j 0,.ref k 0] [(i,AN s),(j,.cells [.ref i 0]),(k,.cells [bA false])] (λ_=>Bd .u8 (RS.loose s).2) [(i,AN (RS.loose s).1),(j,.cells [.ref i 0]),(k,.cells [bA s.blkL.2.2])] (λ_=>[]):=
 Ct.u3 (Aig s hs hl) i j k h (λN=>by simp[AH]) (λN=>An _ _) (λN=>by simp[AH]) (λN=>by simp) (λN=>An _ _) (λN=>by simp[AH]) (λN=>by simp) (by simp[AN]) (λρ=>by simp[AM])
def TJ (s:RS) (hs:Ak s) (hl:s.l.length≤1000000):
 Ah prog 55 [.ref 0 0,.fn 58 [] [.ref 1 0,.ref 2 0]] [AN s,.cells [.ref 0 0],.cells [bA false]] (FD (s.btch RS.loose).2) [AN (s.btch RS.loose).1,.cells [.ref 0 0],.cells [bA s.wL]]:=by
 have⟨a1,a2⟩:=Bc hs Ac;have⟨b1,b2⟩:=Bc a1 AL;have⟨c1,c2⟩:=b1.int 16;have⟨d1,d2⟩:=FT hs;have⟨e1,e2⟩:=Ho hs;have⟨i1,i2,i3,i4⟩:=NC hs;have⟨u,hu⟩:=Ex ((s.epo Ac).1);have⟨ep,hep⟩:=Ex ((s.epo Ac).2);have⟨v,hv⟩:=Ex ((u.epo AL).1);have⟨ba,hba⟩:=Ex ((u.epo AL).2);have⟨w,hw⟩:=Ex ((v.int 16).1);have⟨n,hn⟩:=Ex ((v.int 16).2);have eh:s.bthd=(if DO ba n=true then w else w.fail 3 v.at_,(ep,(ba,n))):=by unfold RS.bthd;rw[hu,hep,hv,hba,hw,hn]
 rw[hu]at a1 a2;rw[hu,hv]at b1 b2;rw[hu,hv,hw]at c1 c2;rw[eh]at i1 i2 i3 i4;simp only[]at i1 i2 i3 i4;obtain⟨N,rfl⟩:∃N:Nat,n=(N:Int):=⟨n.toNat,Om⟩;have⟨H,hH⟩:=Ex ((if DO ba N=true then w else w.fail 3 v.at_));rw[hH]at eh;rw[eh]at d1 d2;simp only[]at d1 d2;have ef:(if DO ba N=true then w else w.fail 3 v.at_)=H:=hH;refine RM func55 kD ?_
 refine Aa.u1 (EY s 0 hs) rfl (mr hu hep ?_).1;refine Aa.u1 (E9 u 0 a1) rfl (mr hv hba ?_).1;refine Cr (AF v 0) rfl ?_;refine Aa.u1 (AS v 16 0 De b1.ok b1.bys) rfl (mr hw hn ?_).1;refine Cp (KA ba N i1 Om) ?_;cases hf:DO ba N with
 |false=>
  have e1:H=w.fail 3 v.at_:=by rw[←hH,hf];rfl
  have hc:¬H.code=0:=by rw[e1];unfold RS.fail;split;simp[BB];assumption
  have er:s.btch RS.loose=(H,Cc):=by unfold RS.btch;rw[eh];simp only[];rw[if_neg hc]
  have ew:s.wL=false:=by unfold RS.wL;rw[eh];simp only[];rw[if_neg hc]
  refine (mp ?_).1;refine Aa.u1 (Aj w 3 v.at_ 0) rfl ?_;simp only[go_sem,seval,←e1];refine (mok ?_).1;refine Aa.r1 (Ae H 0) rfl (mq (Au hc) ?_).1;refine WO 3 [uA 0,uA 0,Fv []] ?_
  exact FK kD [0,1,2] (by simp[ew,er,Cc,E_])
 |true=>
  have e1:H=w:=by rw[←hH,hf];rfl
  subst e1;refine (mp ?_).1;refine Aa.r1 (Ae H 0) rfl ?_;by_cases hc:H.code=0
  ·have hfi:=Hc.1 hf;have⟨Q,hQ⟩:=Ex ((C_ ba).many N H []);have eq:s.bthe=Q:=by unfold RS.bthe;rw[eh];simp only[];rw[Int.toNat_natCast];exact hQ
   rw[eq]at e1 e2;have⟨D,hD⟩:=Ex (RS.loose Q.1);have⟨g1,g2,g3⟩:=Yn e1;have hct:=jL Q.1 e1 (by rw[e2];exact hl) 0 1 2 De;have⟨W,hW⟩:=Ex Q.1.blkL.2.2;have ew:s.wL=W:=by unfold RS.wL;rw[eh];simp only[];rw[if_pos hc,eq,hW]
   rw[hD,hW]at hct;rw[hD]at g1 g2 g3;have⟨E,hE⟩:=Ex (FC (LW Q.2) (Ny Q.2) D.2);have hsm:(∀e∈LW Q.2,e.lk.length≤1000000∧∀x∈e.lk,x.bk.length≤1000000)∧(∀n∈Ny Q.2,n<9223372036854775808)∧(LW Q.2).length≤1000000:=by
    have hr:=S8 i1 d1 hc N;rw[hQ]at hr;have hs2:=LV hr.1;exact⟨hs2.1,λn hn=>by have:=hs2.2 n hn;omega,by rw[F_];omega⟩
   have eb:s.btch RS.loose=if(if E.2=true then D.1 else D.1.fail 3 Q.1.at_).code=0 then((if E.2=true then D.1 else D.1.fail 3 Q.1.at_),⟨ep,ba,E.1⟩)else((if E.2=true then D.1 else D.1.fail 3 Q.1.at_),Cc):=by
    unfold RS.btch RS.btfi;rw[eh];simp only[];rw[if_pos hc,eq,hD,hE]
   refine (mq (AR hc) ?_).1;refine Aa.u1 (MP H ba N 0 i1 Om d1 (by rw[d2];omega) Om) rfl ?_;refine (mq hQ ?_).1;refine Cr (AF Q.1 0) rfl ?_;refine Aa.u3 hct rfl rfl rfl (mp ?_).1;refine Aa.p (Pe (LW Q.2) (Ny Q.2) D.2 hsm.2.2 Om hsm.1 hsm.2.1) (mq hE ?_).1;cases hdl:E.2 with
   |true=>
    rw[hdl]at eb;simp only[if_true]at eb;refine (mp ?_).1;refine Aa.r1 (Ae D.1 0) rfl ?_;by_cases hd:D.1.code=0
    ·rw[if_pos hd]at eb;refine (mq (AR hd) ?_).1
     exact FF kD [0,1,2] ew eb
    ·rw[if_neg hd]at eb;refine (mq (Au hd) ?_).1;refine WO 3 [uA 0,uA 0,Fv []] ?_
     exact FK kD [0,1,2] (by simp[ew,eb,Cc,E_])
   |false=>
    rw[hdl]at eb;simp only[Bool.false_eq_true,if_false]at eb;have hd:¬(D.1.fail 3 Q.1.at_).code=0:=by unfold RS.fail;split;simp[BB];assumption
    rw[if_neg hd]at eb;refine (mp ?_).1;refine Cu (Aj D.1 3 Q.1.at_ 0) rfl ?_;refine Aa.r1 (Ae (D.1.fail 3 Q.1.at_) 0) rfl (mq (Au hd) ?_).1;refine WO 3 [uA 0,uA 0,Fv []] ?_
    exact FK kD [0,1,2] (by simp[ew,eb,Cc,E_])
  ·have er:s.btch RS.loose=(H,Cc):=by unfold RS.btch;rw[eh];simp only[];rw[if_neg hc]
   have ew:s.wL=false:=by unfold RS.wL;rw[eh];simp only[];rw[if_neg hc]
   refine (mq (Au hc) ?_).1;refine WO 3 [uA 0,uA 0,Fv []] ?_
   exact FK kD [0,1,2] (by simp[ew,er,Cc,E_])
def L_ (s:RS) (hs:Ak s) (hl:s.l.length≤1000000):Ah prog 23 [.ref 0 0] [AN s] (.tup [FD (KH s).2.1,bA (KH s).2.2]) [AN (KH s).1]:=by
 have hct:Ct prog 55 [.ref 0 0,.fn 58 [] [.ref 1 0,.ref 3 0]] [(0,AN s),(1,.cells [.ref 0 0]),(3,.cells [bA false])] (λ_=>FD (s.btch RS.loose).2) [(0,AN (s.btch RS.loose).1),(1,.cells [.ref 0 0]),(3,.cells [bA s.wL])] (λ_=>[]):=
  Ct.u3 (TJ s hs hl) 0 1 3 De (λN=>by simp[AH]) (λN=>An _ _) (λN=>by simp[AH]) (λN=>by simp) (λN=>An _ _) (λN=>by simp[AH]) (λN=>by simp) (by simp[AN]) (λρ=>by simp[FD])
 have er:KH s=((s.btch RS.loose).1,((s.btch RS.loose).2,s.wL&&((s.btch RS.loose).1.code==0))):=rfl;have⟨D,hD⟩:=Ex (s.btch RS.loose);have⟨w,hw⟩:=Ex s.wL;have⟨R,hR⟩:=Ex (KH s);rw[hD,hw]at hct er;rw[hR]at er ⊢;subst er;refine RM func23 b23 ?_
 refine Aa.u3 hct rfl rfl rfl (mp ?_).1;cases w with
 |true=>
  refine (mp ?_).1;refine Cr (Ae D.1 0) rfl ?_
  exact FK b23 [0] (by simp[RS.good])
 |false=>
  refine (mp ?_).1;exact FA b23 [0]
def oF:RdC 23 KH:=⟨Abn,λq i hq hl=>Ct.u1 (L_ q hq hl) i CN (λρ=>An ρ _) (λρ=>An ρ _) (rdr_dead q) (λρ=>by simp[FD])⟩
def JF (l:List Int) (hb:AW l) (hl:l.length≤1000000):Ct prog 7 [Bd .u8 l] [] (λ_=>.tup [Et (BT KH l).1.1,bA (BT KH l).1.2,Ce (BT KH l).2]) [] (λ_=>[]):=by
 refine Ah.toCt ?_ cl cl
 have h:=NY 23 KH oF l hb hl;have⟨D,hD⟩:=Ex (BT KH l);rw[hD]at h ⊢;refine RM func7 b7 ?_
 refine Cp (h) ?_;exact FA b7 []
def Ek (k:Int) (p:List Int):RS:=if(RS.new p).byte.2=k then(RS.new p).byte.1 else(RS.new p).byte.1.fail 7 0
def BZ {α:Type} (R:RS->RS×α) (z:α) (k:Int) (s:List Int):α×Int×(Int×Int):=
 if(Bp s 2097152).2.2.1=0 then
  (if(R (Ek k (Bp s 2097152).1)).1.rest9.code=0 then((R (Ek k (Bp s 2097152).1)).2,(Bp s 2097152).2.1,(0,0))
   else(z,0,((R (Ek k (Bp s 2097152).1)).1.rest9.code,(R (Ek k (Bp s 2097152).1)).1.rest9.fat+((Bp s 2097152).2.1-4-(Bp s 2097152).1.length))))
 else(z,0,(Bp s 2097152).2.2)
def Iu (f:Ft) (l:List Mk):Bool:=decide (f.bat=l.length)&&(decide (f.ent=if A5 l=true then DP l l.length else 0)&&(decide (f.fst=(Ep l).1)&&decide (f.fin=(Ep l).2)))
abbrev Vo (s:List Int) (a e:Int):List Int:=(s.drop a.toNat).take (e-a).toNat
abbrev K8 (s:List Int) (f:Ft):List Mk×Int×(Int×Int):=BZ RS.marks [] 2 (Vo s f.at_ (f.at_+f.size))
def OV (s:List Int) (f:Ft):Int×Int:=if(K8 s f).2.2.1=0 then(if(K8 s f).2.1<f.size then(9,(K8 s f).2.1)else if Iu f (K8 s f).1=false then(12,0)else(0,0))else(K8 s f).2.2
def JI (s:List Int):(Ft×Int×List Mk)×(Int×Int):=
 if(A_ s).2.2.1=0 then
  (if(A_ s).2.1<(A_ s).1.at_+(A_ s).1.size then((Kn,0,[]),(3,(A_ s).2.1))
   else if(OV s (A_ s).1).1=0 then(((A_ s).1,(A_ s).2.1,(K8 s (A_ s).1).1),(0,0))
   else((Kn,0,[]),((OV s (A_ s).1).1,(OV s (A_ s).1).2+(A_ s).1.at_)))
 else((Kn,0,[]),(A_ s).2.2)
abbrev PC (s:List Int) (m:Mk) (e:Int):Bt×Int×(Int×Int):=BZ (λq=>q.btch RS.blk) Cc 1 (Vo s m.at_ e)
def qS (s:List Int) (m:Mk) (e:Int):Int×Int:=if(PC s m e).2.2.1=0 then(if(PC s m e).1.base=m.pos∧((PC s m e).1.en.length:Int)=m.cnt then(0,0)else(12,0))else(PC s m e).2.2
def Ma (s:List Int) (m:Mk) (e:Int):Bt×(Int×Int):=
 if e≤m.at_ then(Cc,(3,m.at_))else((PC s m e).1,BB (qS s m e).1 ((qS s m e).2+m.at_))
def atP (b:Bt) (pos:Int):En×Bool:=if b.base≤pos∧pos<b.base+b.en.length then(b.en.getD (pos-b.base).toNat Dt,true)else(Dt,false)
def Gu (l:List Mk) (pos:Int):Mk×Bool:=if A5 l=true∧Ko (ES pos) l<l.length then(l.getD (Ko (ES pos) l) Dq,true)else(Dq,false)
def Vw (s:List Int) (pos:Int):En×(Int×Int):=
 if(JI s).2.1=0 then
  (if(Gu (JI s).1.2.2 pos).2=false then(Dt,(16,0))
   else if(Ma s (Gu (JI s).1.2.2 pos).1 (JI s).1.1.at_).2.1=0 then((atP (Ma s (Gu (JI s).1.2.2 pos).1 (JI s).1.1.at_).1 pos).1,(0,0))
   else(Dt,(Ma s (Gu (JI s).1.2.2 pos).1 (JI s).1.1.at_).2))
 else(Dt,(JI s).2)
def Yy {p:List Int} (k:Int) (hp:AW p) (hn:p.length≤1000000):Ak (Ek k p)∧(Ek k p).l=p∧Fa (Ek k p):=by
 have hok:Ak (RS.new p):=Ak.new hp Om;have⟨q1,q2⟩:=RS.ok.byte_ hok;have qf:=(Fa.new p).byte hok;unfold Ek;split
 ·exact⟨q1,q2,qf⟩
 ·exact⟨q1.fail _ _,by rw[AY];exact q2,qf.fail (Int.le_refl _) Om⟩
def MJ {α:Type} {R:RS->RS×α} {z:α} {k:Int} {s:List Int} (hb:AW s) (hn:s.length≤1000000) (keep:∀q,Ak q->Ak (R q).1∧(R q).1.l=q.l) (fa:∀q,Ak q->Fa q->Fa (R q).1) (A:α->Prop) (hz:A z) (hR:∀q,Ak q->q.l.length≤1000000->A (R q).2):
 A (BZ R z k s).1∧0≤(BZ R z k s).2.1∧(BZ R z k s).2.1≤s.length∧0≤(BZ R z k s).2.2.2∧(BZ R z k s).2.2.2≤3000000∧((BZ R z k s).2.2.1=0->(BZ R z k s).2.2=(0,0)):=by
 have hok:Ak (RS.new s):=Ak.new hb Om;have hff:=(Fa.new s).frame hok 2097152;have hfl:=(BA hok 2097152).2;unfold Fa at hff;rw[hfl]at hff;have hnl:(RS.new s).l.length=s.length:=rfl;have hgi:=λh=>La (b:=s) (m:=2097152) hb Om h
 have hgb:¬(Bp s 2097152).2.2.1=0->(Bp s 2097152).2.2.2=((RS.new s).frame 2097152).1.fat:=λh=>by
  unfold Bp at h ⊢;split
  ·rename_i h';rw[if_pos h']at h;exact absurd rfl h
  ·rfl
 unfold BZ;split
 ·rename_i h;have⟨a1,a2,a3,a4,a5,a6⟩:=hgi h;have hlen:=congrArg List.length a6;have hfl:=Bi (Bp s 2097152).1;rw[length_take]at hlen;have hgl:(Bp s 2097152).1.length≤1000000:=Om
  have⟨k1,k2,k3⟩:=Yy k a2 hgl;have⟨d1,d2⟩:=keep _ k1;have df:=(fa _ k1 k3).rest9 d1;have⟨r1,r2⟩:=C8 d1;unfold Fa at df;rw[r2,d2,k2]at df;split
  ·exact⟨hR _ k1 (by rw[k2];exact hgl),a4,a5,Int.le_refl _,Si,λ_=>rfl⟩
  ·rename_i h2;exact⟨hz,Int.le_refl _,by simp only[];omega,by simp only[];omega,by simp only[];omega,λh=>absurd h h2⟩
 ·rename_i h;have:=hgb h;exact⟨hz,Int.le_refl _,by simp only[];omega,by simp only[];omega,by simp only[];omega,λh'=>absurd h' h⟩
def dV {l:List Mk}:∀{p a:Int},DI p a l=true->∀m∈l,p≤m.pos∧1≤m.cnt∧m.cnt≤16∧m.pos+m.cnt≤4611686018427387904∧a<m.at_∧m.at_≤1099511627775:=by
 induction l with
 |nil=>intro p a _ m hm;simp at hm
 |cons x l ih=>
  intro p a h m hm;simp only[DI,Bool.and_eq_true,decide_eq_true_eq]at h;have⟨⟨f1,f2,f3,f4,f5,f6⟩,hr⟩:=h;rcases mem_cons.1 hm with rfl|hm
  ·exact⟨f3,f1,f2,f4,f5,f6⟩
  ·have:=ih hr m hm;have hf:x.fin=x.pos+x.cnt:=rfl;omega
def Q3 {l:List Mk} (h:A5 l=true) {m:Mk} (hm:m∈l):0≤m.pos∧1≤m.cnt∧m.cnt≤16∧m.pos+m.cnt≤4611686018427387904∧1≤m.at_∧m.at_≤1099511627775:=by
 unfold A5 at h;rw[Bool.and_eq_true]at h;have:=dV h.1 m hm;omega
def FP {l:List Mk} (h:A5 l=true):∀m∈l,m.ok:=λm hm=>by
 have:=Q3 h hm;unfold Mk.ok;omega
def Mq {q:RS} (h:Ak q):A5 q.marks.2=true:=by
 by_cases hc:q.marks.1.code=0
 ·have⟨h1,h2,_⟩:=HW F7 (m:=16) h hc;exact BY.2 ⟨h1,by have:((DW.counted 16 q).2.length:Int)≤16:=h2;show(DW.counted 16 q).2.length≤16;omega⟩
 ·have:q.marks.2=[]:=MI 16 hc;rw[this];rfl
def OU {s:List Int} (hb:AW s) (hn:s.length≤1000000):A5 (BZ RS.marks [] 2 s).1=true∧0≤(BZ RS.marks [] 2 s).2.1∧(BZ RS.marks [] 2 s).2.1≤s.length∧0≤(BZ RS.marks [] 2 s).2.2.2∧(BZ RS.marks [] 2 s).2.2.2≤3000000∧((BZ RS.marks [] 2 s).2.2.1=0->(BZ RS.marks [] 2 s).2.2=(0,0)):=
 MJ hb hn (λq h=>Da F7 h 16) (λq h hf=>hf.marks h) (λl=>A5 l=true) rfl λq h _=>Mq h
def Aau:R1 Cc:=⟨⟨De,De,De,De,λe h=>by simp[Cc]at h⟩,De,De,λe h=>by simp[Cc]at h⟩
def PB {s:List Int} (hb:AW s) (hn:s.length≤1000000):R1 (BZ (λq=>q.btch RS.blk) Cc 1 s).1∧0≤(BZ (λq=>q.btch RS.blk) Cc 1 s).2.1∧(BZ (λq=>q.btch RS.blk) Cc 1 s).2.1≤s.length∧0≤(BZ (λq=>q.btch RS.blk) Cc 1 s).2.2.2∧(BZ (λq=>q.btch RS.blk) Cc 1 s).2.2.2≤3000000∧((BZ (λq=>q.btch RS.blk) Cc 1 s).2.2.1=0->(BZ (λq=>q.btch RS.blk) Cc 1 s).2.2=(0,0)):=
 MJ hb hn (λq h=>E0 h λs h=>CE h) (λq h hf=>hf.btch h (λs h=>CE h) (λs h hf=>hf.blk h)) R1 Aau λq h _=>(L7 h Hq).1
def Nq {s:List Int} (hb:AW s) (a e:Int):AW (Vo s a e):=λx hx=>hb x (mem_of_mem_drop (mem_of_mem_take hx))
def Np (s:List Int) (a e:Int):(Vo s a e).length≤s.length:=by
 show((s.drop a.toNat).take (e-a).toNat).length≤_;rw[length_take,length_drop];omega
def Rl {s:List Int} (hb:AW s) (hn:s.length≤1000000) (hc:(JI s).2.1=0):(A_ s).2.2.1=0∧¬(A_ s).2.1<(A_ s).1.at_+(A_ s).1.size∧(OV s (A_ s).1).1=0∧JI s=(((A_ s).1,(A_ s).2.1,(K8 s (A_ s).1).1),(0,0)):=by
 unfold JI at hc ⊢;by_cases h1:(A_ s).2.2.1=0
 ·rw[if_pos h1]at hc ⊢;by_cases h2:(A_ s).2.1<(A_ s).1.at_+(A_ s).1.size
  ·rw[if_pos h2]at hc;exact absurd hc Si
  ·rw[if_neg h2]at hc ⊢;by_cases h3:(OV s (A_ s).1).1=0
   ·rw[if_pos h3]at hc ⊢;exact⟨h1,h2,h3,rfl⟩
   ·rw[if_neg h3]at hc;exact absurd hc h3
 ·rw[if_neg h1]at hc;exact absurd hc h1
def gA {s:List Int} (hb:AW s) (hn:s.length≤1000000):A5 (JI s).1.2.2=true:=by
 by_cases hc:(JI s).2.1=0
 ·rw[(Rl hb hn hc).2.2.2];exact(OU (Nq hb _ _) (by have:=Np s (A_ s).1.at_ ((A_ s).1.at_+(A_ s).1.size);omega)).1
 ·unfold JI at hc ⊢;by_cases h1:(A_ s).2.2.1=0
  ·rw[if_pos h1]at hc ⊢;by_cases h2:(A_ s).2.1<(A_ s).1.at_+(A_ s).1.size
   ·rw[if_pos h2];rfl
   ·rw[if_neg h2]at hc ⊢;by_cases h3:(OV s (A_ s).1).1=0
    ·rw[if_pos h3]at hc;exact absurd rfl hc
    ·rw[if_neg h3];rfl
  ·rw[if_neg h1];rfl
def pJ {l:List Mk} {pos:Int} (h:(Gu l pos).2=true):A5 l=true∧(Gu l pos).1∈l∧ES pos (Gu l pos).1=true:=by
 unfold Gu at h ⊢;by_cases h1:A5 l=true∧Ko (ES pos) l<l.length
 ·rw[if_pos h1]at h ⊢;have h2:=h1.2;have h3:l.getD (Ko (ES pos) l) Dq=l[Ko (ES pos) l]:=by simp[h2]
  refine⟨h1.1,?_,?_⟩
  ·show l.getD (Ko (ES pos) l) Dq∈l;rw[h3];exact getElem_mem _
  ·show ES pos (l.getD (Ko (ES pos) l) Dq)=true;rw[h3];exact findIdx_getElem (w:=h2)
 ·rw[if_neg h1]at h;exact absurd h Si
def ZJ {s:List Int} (hb:AW s) (hn:s.length≤1000000) (m:Mk) (x:Int):R1 (Ma s m x).1:=by
 unfold Ma;split
 ·exact Aau
 ·exact(PB (Nq hb _ _) (by have:=Np s m.at_ x;omega)).1
def QD (s:List Int) (hb:AW s) (hn:s.length≤1000000):Ct prog 107 [Bd .u8 s,Ul 2,.fn 108 [] []] [] (λ_=>.tup [Ik (BZ RS.marks [] 2 s).1,iA (BZ RS.marks [] 2 s).2.1,Ce (BZ RS.marks [] 2 s).2.2]) [] (λ_=>[]):=by
 refine Ah.toCt ?_ cl cl
 have hgi:=λh=>La (b:=s) (m:=2097152) hb Om h
 have⟨g,hg⟩:=Ex (Bp s 2097152);have e:BZ RS.marks [] 2 s=if g.2.2.1=0 then
  (if((RS.marks) (Ek 2 g.1)).1.rest9.code=0 then(((RS.marks) (Ek 2 g.1)).2,g.2.1,(0,0))
   else([],0,(((RS.marks) (Ek 2 g.1)).1.rest9.code,((RS.marks) (Ek 2 g.1)).1.rest9.fat+(g.2.1-4-g.1.length))))
  else([],0,g.2.2):=by unfold BZ;rw[hg]
 have⟨C,hC⟩:=Ex (BZ RS.marks [] 2 s);rw[hC]at e ⊢;rw[hg]at hgi;refine RM func107 jV ?_
 refine Aa.p (Hb s 2097152 hb Om Om) (mq hg ?_).1;refine Cp (Ai g.2.2.1 g.2.2.2) ?_;by_cases hz:g.2.2.1=0
 ·have c1:(g.2.2.1==0)=true:=Sx hz
  rw[if_pos hz]at e;have⟨a1,a2,a3,a4,a5,a6⟩:=hgi hz;have hlen:=congrArg List.length a6;have hfl:=Bi g.1;rw[length_take]at hlen;have hgl:g.1.length≤1000000:=Om
  have hnl:(g.1.length:Int)+5≤g.2.1:=Om
  have hok:Ak (RS.new g.1):=Ak.new a2 Om;have⟨q1,q2⟩:=RS.ok.byte_ hok;have qf:=(Fa.new g.1).byte hok;have w1:IntKind.i64.wrap (g.2.1-4)=g.2.1-4:=i64_in _ Om;have w2:IntKind.i64.wrap (g.2.1-4-g.1.length)=g.2.1-4-g.1.length:=i64_in _ Om;have ek:Ek 2 g.1=if(RS.new g.1).byte.2=2 then(RS.new g.1).byte.1 else(RS.new g.1).byte.1.fail 7 0:=rfl
  have⟨q,hq⟩:=Ex ((RS.new g.1).byte.1);have⟨y,hy⟩:=Ex ((RS.new g.1).byte.2);rw[hq,hy]at ek;rw[hq]at q1 q2 qf;have⟨K,hK⟩:=Ex (Ek 2 g.1);rw[hK]at e ek;have hnew:(RS.new g.1).l.length≤1000000:=hgl;have K1:Ak K∧K.l.length≤1000000∧Fa K:=by
   rw[ek];split
   ·exact⟨q1,by rw[q2];exact hnew,qf⟩
   ·exact⟨q1.fail _ _,by rw[AY,q2];exact hnew,qf.fail (Int.le_refl _) Om⟩
  have⟨k1,k2⟩:=Nr K1.1;have hfa:=(K1.2.2.marks K1.1).rest9 k1;have⟨r1,r2⟩:=C8 k1;have hct:=Kj K 2 K1.1 (by have:=K1.2.1;omega);unfold Fa at hfa;rw[r2,k2]at hfa;have⟨D,hD⟩:=Ex ((RS.marks) K)
  try simp only[]at hD e
  rw[hD]at hct k1 hfa e;have w3:IntKind.i64.wrap (D.1.rest9.fat+(g.2.1-4-g.1.length))=D.1.rest9.fat+(g.2.1-4-g.1.length):=i64_in _ (by have:=K1.2.1;omega);refine (mq c1 ?_).1;refine Aa.n (BO g.1) (mp ?_).1;refine Aa.u1 (CG (RS.new g.1) 2 hok.ok) rfl (mr hq hy ?_).1;by_cases hyk:y=2
  ·rw[if_pos hyk]at ek;have c2:(y != 2)=false:=Sx hyk
   subst ek;refine (mq c2 ?_).1;refine Cu (hct) rfl ?_;refine Cu (Bl D.1 2 k1) rfl ?_;refine Aa.r1 (AQ D.1.rest9 2) rfl (ms @Ab w1 w2 ?_).1;refine Cp (Ba D.1.rest9.code D.1.rest9.fat (g.2.1-4-g.1.length) _ w3) ?_;by_cases hr:D.1.rest9.code=0
   ·rw[if_pos hr]at e;have c3:BB D.1.rest9.code (D.1.rest9.fat+(g.2.1-4-g.1.length))=(0,0):=by unfold BB;rw[if_pos hr]
    simp only[go_sem,seval,c3];refine (mok ?_).1;refine Cp (Ai 0 0) ?_
    exact FE jV [] e
   ·rw[if_neg hr]at e;have c3:BB D.1.rest9.code (D.1.rest9.fat+(g.2.1-4-g.1.length))=(D.1.rest9.code,D.1.rest9.fat+(g.2.1-4-g.1.length)):=by unfold BB;rw[if_neg hr]
    have c4:(D.1.rest9.code==0)=false:=Sx hr
    simp only[go_sem,seval,c3];refine (mok ?_).1;refine Aa.p (Ai D.1.rest9.code _) ?_;simp only[go_sem,seval,c4];refine (mok ?_).1;(refine A6.nilk 6 3 rfl ?_;simp only[set_cons_zero,set_cons_succ]);refine UT 6 ?_
    exact FK jV [] (by simp[e,H9])
  ·rw[if_neg hyk]at ek;have c2:(y != 2)=true:=Sx hyk
   refine (mq c2 ?_).1;refine Aa.u1 (Aj q 7 0 2) rfl ?_;simp only[go_sem,seval,←ek];refine (mok ?_).1;refine Cu (hct) rfl ?_;refine Cu (Bl D.1 2 k1) rfl ?_;refine Aa.r1 (AQ D.1.rest9 2) rfl (ms @Ab w1 w2 ?_).1;refine Cp (Ba D.1.rest9.code D.1.rest9.fat (g.2.1-4-g.1.length) _ w3) ?_;by_cases hr:D.1.rest9.code=0
   ·rw[if_pos hr]at e;have c3:BB D.1.rest9.code (D.1.rest9.fat+(g.2.1-4-g.1.length))=(0,0):=by unfold BB;rw[if_pos hr]
    simp only[go_sem,seval,c3];refine (mok ?_).1;refine Cp (Ai 0 0) ?_
    exact FE jV [] e
   ·rw[if_neg hr]at e;have c3:BB D.1.rest9.code (D.1.rest9.fat+(g.2.1-4-g.1.length))=(D.1.rest9.code,D.1.rest9.fat+(g.2.1-4-g.1.length)):=by unfold BB;rw[if_neg hr]
    have c4:(D.1.rest9.code==0)=false:=Sx hr
    simp only[go_sem,seval,c3];refine (mok ?_).1;refine Aa.p (Ai D.1.rest9.code _) ?_;simp only[go_sem,seval,c4];refine (mok ?_).1;(refine A6.nilk 6 3 rfl ?_;simp only[set_cons_zero,set_cons_succ]);refine UT 6 ?_
    exact FK jV [] (by simp[e,H9])
 ·have c1:(g.2.2.1==0)=false:=Sx hz
  rw[if_neg hz]at e;refine (mq c1 ?_).1;(refine A6.nilk 6 3 rfl ?_;simp only[set_cons_zero,set_cons_succ]);refine UT 6 ?_
  exact FK jV [] (by simp[e,H9])
def QE (s:List Int) (hb:AW s) (hn:s.length≤1000000):Ct prog 112 [Bd .u8 s,Ul 1,.fn 22 [] []] [] (λ_=>.tup [FD (BZ (λq:RS=>q.btch RS.blk) Cc 1 s).1,iA (BZ (λq:RS=>q.btch RS.blk) Cc 1 s).2.1,Ce (BZ (λq:RS=>q.btch RS.blk) Cc 1 s).2.2]) [] (λ_=>[]):=by
 refine Ah.toCt ?_ cl cl
 have hgi:=λh=>La (b:=s) (m:=2097152) hb Om h
 have⟨g,hg⟩:=Ex (Bp s 2097152);have e:BZ (λq:RS=>q.btch RS.blk) Cc 1 s=if g.2.2.1=0 then
  (if(((λq:RS=>q.btch RS.blk)) (Ek 1 g.1)).1.rest9.code=0 then((((λq:RS=>q.btch RS.blk)) (Ek 1 g.1)).2,g.2.1,(0,0))
   else(Cc,0,((((λq:RS=>q.btch RS.blk)) (Ek 1 g.1)).1.rest9.code,(((λq:RS=>q.btch RS.blk)) (Ek 1 g.1)).1.rest9.fat+(g.2.1-4-g.1.length))))
  else(Cc,0,g.2.2):=by unfold BZ;rw[hg]
 have⟨C,hC⟩:=Ex (BZ (λq:RS=>q.btch RS.blk) Cc 1 s);rw[hC]at e ⊢;rw[hg]at hgi;refine RM func112 jT ?_
 refine Aa.p (Hb s 2097152 hb Om Om) (mq hg ?_).1;refine Cp (Ai g.2.2.1 g.2.2.2) ?_;by_cases hz:g.2.2.1=0
 ·have c1:(g.2.2.1==0)=true:=Sx hz
  rw[if_pos hz]at e;have⟨a1,a2,a3,a4,a5,a6⟩:=hgi hz;have hlen:=congrArg List.length a6;have hfl:=Bi g.1;rw[length_take]at hlen;have hgl:g.1.length≤1000000:=Om
  have hnl:(g.1.length:Int)+5≤g.2.1:=Om
  have hok:Ak (RS.new g.1):=Ak.new a2 Om;have⟨q1,q2⟩:=RS.ok.byte_ hok;have qf:=(Fa.new g.1).byte hok;have w1:IntKind.i64.wrap (g.2.1-4)=g.2.1-4:=i64_in _ Om;have w2:IntKind.i64.wrap (g.2.1-4-g.1.length)=g.2.1-4-g.1.length:=i64_in _ Om;have ek:Ek 1 g.1=if(RS.new g.1).byte.2=1 then(RS.new g.1).byte.1 else(RS.new g.1).byte.1.fail 7 0:=rfl
  have⟨q,hq⟩:=Ex ((RS.new g.1).byte.1);have⟨y,hy⟩:=Ex ((RS.new g.1).byte.2);rw[hq,hy]at ek;rw[hq]at q1 q2 qf;have⟨K,hK⟩:=Ex (Ek 1 g.1);rw[hK]at e ek;have hnew:(RS.new g.1).l.length≤1000000:=hgl;have K1:Ak K∧K.l.length≤1000000∧Fa K:=by
   rw[ek];split
   ·exact⟨q1,by rw[q2];exact hnew,qf⟩
   ·exact⟨q1.fail _ _,by rw[AY,q2];exact hnew,qf.fail (Int.le_refl _) Om⟩
  have⟨k1,k2⟩:=E0 K1.1 λs h=>CE h
  have hfa:=(K1.2.2.btch K1.1 (λs h=>CE h) (λs h hf=>hf.blk h)).rest9 k1;have⟨r1,r2⟩:=C8 k1;have hct:=KB K 4 K1.1 K1.2.1;unfold Fa at hfa;rw[r2,k2]at hfa;have⟨D,hD⟩:=Ex (((λq:RS=>q.btch RS.blk)) K)
  try simp only[]at hD e
  rw[hD]at hct k1 hfa e;have w3:IntKind.i64.wrap (D.1.rest9.fat+(g.2.1-4-g.1.length))=D.1.rest9.fat+(g.2.1-4-g.1.length):=i64_in _ (by have:=K1.2.1;omega);refine (mq c1 ?_).1;refine Aa.n (BO g.1) (mp ?_).1;refine Aa.u1 (CG (RS.new g.1) 4 hok.ok) rfl (mr hq hy ?_).1;by_cases hyk:y=1
  ·rw[if_pos hyk]at ek;have c2:(y != 1)=false:=Sx hyk
   subst ek;refine (mq c2 ?_).1;refine Cu (hct) rfl ?_;refine Cu (Bl D.1 4 k1) rfl ?_;refine Aa.r1 (AQ D.1.rest9 4) rfl (ms @Ab w1 w2 ?_).1;refine Cp (Ba D.1.rest9.code D.1.rest9.fat (g.2.1-4-g.1.length) _ w3) ?_;by_cases hr:D.1.rest9.code=0
   ·rw[if_pos hr]at e;have c3:BB D.1.rest9.code (D.1.rest9.fat+(g.2.1-4-g.1.length))=(0,0):=by unfold BB;rw[if_pos hr]
    simp only[go_sem,seval,c3];refine (mok ?_).1;refine Cp (Ai 0 0) ?_
    exact FE jT [] e
   ·rw[if_neg hr]at e;have c3:BB D.1.rest9.code (D.1.rest9.fat+(g.2.1-4-g.1.length))=(D.1.rest9.code,D.1.rest9.fat+(g.2.1-4-g.1.length)):=by unfold BB;rw[if_neg hr]
    have c4:(D.1.rest9.code==0)=false:=Sx hr
    simp only[go_sem,seval,c3];refine (mok ?_).1;refine Aa.p (Ai D.1.rest9.code _) ?_;simp only[go_sem,seval,c4];refine (mok ?_).1;refine WO 0 [uA 0,uA 0,Fv []] ?_
    exact FK jT [] (by simp[e,Cc,E_])
  ·rw[if_neg hyk]at ek;have c2:(y != 1)=true:=Sx hyk
   refine (mq c2 ?_).1;refine Aa.u1 (Aj q 7 0 4) rfl ?_;simp only[go_sem,seval,←ek];refine (mok ?_).1;refine Cu (hct) rfl ?_;refine Cu (Bl D.1 4 k1) rfl ?_;refine Aa.r1 (AQ D.1.rest9 4) rfl (ms @Ab w1 w2 ?_).1;refine Cp (Ba D.1.rest9.code D.1.rest9.fat (g.2.1-4-g.1.length) _ w3) ?_;by_cases hr:D.1.rest9.code=0
   ·rw[if_pos hr]at e;have c3:BB D.1.rest9.code (D.1.rest9.fat+(g.2.1-4-g.1.length))=(0,0):=by unfold BB;rw[if_pos hr]
    simp only[go_sem,seval,c3];refine (mok ?_).1;refine Cp (Ai 0 0) ?_
    exact FE jT [] e
   ·rw[if_neg hr]at e;have c3:BB D.1.rest9.code (D.1.rest9.fat+(g.2.1-4-g.1.length))=(D.1.rest9.code,D.1.rest9.fat+(g.2.1-4-g.1.length)):=by unfold BB;rw[if_neg hr]
    have c4:(D.1.rest9.code==0)=false:=Sx hr
    simp only[go_sem,seval,c3];refine (mok ?_).1;refine Aa.p (Ai D.1.rest9.code _) ?_;simp only[go_sem,seval,c4];refine (mok ?_).1;refine WO 0 [uA 0,uA 0,Fv []] ?_
    exact FK jT [] (by simp[e,Cc,E_])
 ·have c1:(g.2.2.1==0)=false:=Sx hz
  rw[if_neg hz]at e;refine (mq c1 ?_).1;refine WO 0 [uA 0,uA 0,Fv []] ?_
  exact FK jT [] (by simp[e,Cc,E_])
def a9 (l:List Mk):Ic l=Ep l:=rfl
def Vu (f:Ft) (l:List Mk) (hl:j8 l) (hn:l.length≤1000000):Ct prog 109 [sV f,Ik l] [] (λ_=>bA (Iu f l)) [] (λ_=>[]):=by
 refine Ah.toCt ?_ cl cl
 have⟨X,hX⟩:=Ex ((if A5 l=true then DP l l.length else 0));have e:Iu f l=(decide (f.bat=l.length)&&(decide (f.ent=X)&&(decide (f.fst=(Ep l).1)&&decide (f.fin=(Ep l).2)))):=by unfold Iu;rw[hX]
 have hE:=GK l hl Om;rw[hX]at hE;have hN:=Kk l hl Om;rw[a9]at hN;have⟨V,hV⟩:=Ex (Ep l);rw[hV]at hN e;refine RM func109 jU ?_
 refine Cp (hN) ?_;by_cases h1:f.bat=l.length
 ·have c1:(f.bat==(l.length:Int))=true:=Sx h1
  refine (mr @Ar c1 ?_).1;refine Cp (hE) ?_;by_cases h2:f.ent=X
  ·have c2:(f.ent==X)=true:=Sx h2
   by_cases h3:f.fst=V.1
   ·have c3:(f.fst==V.1)=true:=Sx h3
    by_cases h4:f.fin=V.2
    ·have c4:(f.fin==V.2)=true:=Sx h4
     have e':Iu f l=true:=by rw[e];simp[h1,h2,h3,h4]
     simp only[go_sem,seval,c2,c3,c4];refine (mok ?_).1
     exact FE jU [] e'
    ·have c4:(f.fin==V.2)=false:=Sx h4
     have e':Iu f l=false:=by rw[e];simp[h4]
     simp only[go_sem,seval,c2,c3,c4];refine (mok ?_).1
     exact FE jU [] e'
   ·have c3:(f.fst==V.1)=false:=Sx h3
    have e':Iu f l=false:=by rw[e];simp[h3]
    simp only[go_sem,seval,c2,c3];refine (mok ?_).1
    exact FE jU [] e'
  ·have c2:(f.ent==X)=false:=Sx h2
   have e':Iu f l=false:=by rw[e];simp[h2]
   refine (mq c2 ?_).1
   exact FE jU [] e'
 ·have c1:(f.bat==(l.length:Int))=false:=Sx h1
  have e':Iu f l=false:=by rw[e];simp[h1]
  refine (mr @Ar c1 ?_).1
  exact FE jU [] e'
abbrev plA (p:Ft×Int×List Mk):AV:=.agg [uA p.1.ep,iA p.1.bat,iA p.1.ent,uA p.1.fst,uA p.1.fin,iA p.1.at_,iA p.1.size,iA p.2.1,Ik p.2.2]
def Vv (s:List Int) (hb:AW s) (hn:s.length≤1000000):Ct prog 44 [Bd .u8 s] [] (λ_=>.tup [plA (JI s).1,Ce (JI s).2]) [] (λ_=>[]):=by
 refine Ah.toCt ?_ cl cl
 have hfi:=λh=>aY hb Om h
 have hff:=V6 s hb Om;have⟨F,hF⟩:=Ex (A_ s);have hif:OV s F.1=if(K8 s F.1).2.2.1=0 then(if(K8 s F.1).2.1<F.1.size then(9,(K8 s F.1).2.1)else if Iu F.1 (K8 s F.1).1=false then(12,0)else(0,0))else(K8 s F.1).2.2:=rfl
 have⟨R,hR⟩:=Ex (JI s);have e:JI s=if F.2.2.1=0 then
  (if F.2.1<F.1.at_+F.1.size then((Kn,0,[]),(3,F.2.1))
   else if(OV s F.1).1=0 then((F.1,F.2.1,(K8 s F.1).1),(0,0))
   else((Kn,0,[]),((OV s F.1).1,(OV s F.1).2+F.1.at_)))
  else((Kn,0,[]),F.2.2):=by unfold JI;rw[hF]
 rw[hR]at e ⊢;rw[hF]at hfi hff;refine RM func44 b44 ?_
 refine Cp (hff) ?_;refine Cp (Ai F.2.2.1 F.2.2.2) ?_;by_cases hz:F.2.2.1=0
 ·have c1:(F.2.2.1==0)=true:=Sx hz
  rw[if_pos hz]at e;have⟨b1,b2,b3,b4,b5,b6⟩:=hfi hz;have⟨_,⟨a0,a1⟩,z0,z1⟩:=(Gp b3 b2).2.2;have w1:IntKind.i64.wrap (F.1.at_+F.1.size)=F.1.at_+F.1.size:=i64_in _ Om;refine (mr c1 w1 ?_).1;by_cases h2:F.2.1<F.1.at_+F.1.size
  ·have c2:decide (F.2.1<F.1.at_+F.1.size)=true:=Sx h2
   rw[if_pos h2]at e;have c3:BB 3 F.2.1=(3,F.2.1):=rfl;refine (mq c2 ?_).1;refine Aa.p (Bj 3 F.2.1) ?_;simp only[go_sem,seval,c3];refine (mok ?_).1;refine WO 0 [uA 0,iA 0,iA 0,uA 0,uA 0,iA 0,iA 0,iA 0,Ik []] ?_
   exact FK b44 [] (by simp[e,Kn,H9])
  ·have c2:decide (F.2.1<F.1.at_+F.1.size)=false:=Sx h2
   rw[if_neg h2]at e;have hbm:=Nq hb F.1.at_ (F.1.at_+F.1.size);have hml:=Np s F.1.at_ (F.1.at_+F.1.size);have⟨x1,x2,x3,x4,x5,x6⟩:=OU hbm Om;have hct:=QD (Vo s F.1.at_ (F.1.at_+F.1.size)) hbm Om;have⟨X,hX⟩:=Ex (K8 s F.1);rw[hX]at hif e;rw[show BZ RS.marks [] 2 (Vo s F.1.at_ (F.1.at_+F.1.size))=X from hX]at x1 x2 x3 x4 x5 x6 hct;have x0:=(BY.1 x1).2;have⟨f,hf⟩:=Ex (OV s F.1);rw[hf]at hif e;refine (mq c2 ?_).1;(repeat((with_reducible refine And.intro ?_ ?_);(·first|exact sd|(simp[Ab,A2,AV.parts,Ab];done)|(simp[Ab,A2,AV.parts,Ab];omega))));refine (mr @CA @Dh ?_).1;refine Cp (hct) ?_;refine Aa.p (Ai X.2.2.1 X.2.2.2) ?_;by_cases hx:X.2.2.1=0
   ·have c3:(X.2.2.1==0)=true:=Sx hx
    rw[if_pos hx]at hif;simp only[go_sem,seval,c3];refine (mok ?_).1;by_cases hs:X.2.1<F.1.size
    ·have c4:decide (X.2.1<F.1.size)=true:=Sx hs
     rw[if_pos hs]at hif;have c5:((9:Int)==0)=false:=rfl;have c7:BB 9 X.2.1=(9,X.2.1):=rfl;simp only[go_sem,seval,c4];refine (mok ?_).1;refine Aa.p (Bj 9 X.2.1) ?_;simp only[go_sem,seval,c7];refine (mok ?_).1;have w3:IntKind.i64.wrap (X.2.1+F.1.at_)=X.2.1+F.1.at_:=i64_in _ Om;rw[hif]at e;rw[if_neg (by simpa using c5)]at e;have c6:BB 9 (X.2.1+F.1.at_)=(9,X.2.1+F.1.at_):=by unfold BB;rw[if_neg (by simpa using c5)]
     refine Aa.p (Ai 9 (X.2.1)) (mq c5 ?_).1;refine Aa.p (Ba 9 (X.2.1) F.1.at_ _ w3) ?_;simp only[go_sem,seval,c6];refine (mok ?_).1;refine WO 0 [uA 0,iA 0,iA 0,uA 0,uA 0,iA 0,iA 0,iA 0,Ik []] ?_
     exact FK b44 [] (by simp[e,Kn,H9])
    ·have c4:decide (X.2.1<F.1.size)=false:=Sx hs
     rw[if_neg hs]at hif;have ht:=Vu F.1 X.1 (FP x1) Om;simp only[go_sem,seval,c4];refine (mok ?_).1;refine Aa.p (ht) ?_;cases hto:Iu F.1 X.1 with
     |false=>
      rw[hto,if_pos rfl]at hif;have c5:((12:Int)==0)=false:=rfl;have c7:BB 12 0=(12,0):=rfl;refine (mp ?_).1;refine Aa.p (Bj 12 0) ?_;simp only[go_sem,seval,c7];refine (mok ?_).1;have w3:IntKind.i64.wrap (0+F.1.at_)=0+F.1.at_:=i64_in _ Om;rw[hif]at e;rw[if_neg (by simpa using c5)]at e;have c6:BB 12 (0+F.1.at_)=(12,0+F.1.at_):=by unfold BB;rw[if_neg (by simpa using c5)]
      refine Aa.p (Ai 12 (0)) (mq c5 ?_).1;refine Aa.p (Ba 12 (0) F.1.at_ _ w3) ?_;simp only[go_sem,seval,c6];refine (mok ?_).1;refine WO 0 [uA 0,iA 0,iA 0,uA 0,uA 0,iA 0,iA 0,iA 0,Ik []] ?_
      exact FK b44 [] (by simp[e,Kn,H9])
     |true=>
      rw[hto,if_neg De]at hif;rw[hif,if_pos rfl]at e;have c6:=x6 hx;refine (mp ?_).1;refine Aa.p (Ai X.2.2.1 X.2.2.2) ?_;simp only[go_sem,seval,c3];refine (mok ?_).1
      exact FE b44 [] e
   ·have c5:(X.2.2.1==0)=false:=Sx hx
    rw[if_neg hx]at hif;refine (mq c5 ?_).1;have w3:IntKind.i64.wrap (X.2.2.2+F.1.at_)=X.2.2.2+F.1.at_:=i64_in _ Om;rw[hif]at e;rw[if_neg (by simpa using c5)]at e;have c6:BB X.2.2.1 (X.2.2.2+F.1.at_)=(X.2.2.1,X.2.2.2+F.1.at_):=by unfold BB;rw[if_neg (by simpa using c5)]
    refine Aa.p (Ai X.2.2.1 (X.2.2.2)) (mq c5 ?_).1;refine Aa.p (Ba X.2.2.1 (X.2.2.2) F.1.at_ _ w3) ?_;simp only[go_sem,seval,c6];refine (mok ?_).1;refine WO 0 [uA 0,iA 0,iA 0,uA 0,uA 0,iA 0,iA 0,iA 0,Ik []] ?_
    exact FK b44 [] (by simp[e,Kn,H9])
 ·have c1:(F.2.2.1==0)=false:=Sx hz
  rw[if_neg hz]at e;refine (mq c1 ?_).1;refine WO 0 [uA 0,iA 0,iA 0,uA 0,uA 0,iA 0,iA 0,iA 0,Ik []] ?_
  exact FK b44 [] (by simp[e,Kn,H9])
def Ah.freeze {P:Program} {f:FuncId} {args:List AV} {k n:Nat} (zs:List AV) (h:Ah P f args [] (.ms 0 n) [.mrow k n (Cn zs)]) (hl:zs.length=n) (hk:∀z∈zs,z.cells.length=k) (hr:∀ρ,zs.map (λx=>x.ren ρ)=zs):Ah P f args [] (.sl .none k zs) []:=by
 have h1:Ah P f args [] (.sl .none k zs) [.row k n]:=by
  refine⟨h.1,λG w vs hw hra=>(h.2 G w vs hw hra).mono ?_⟩;rintro e w' ⟨v,G',rfl,hv,hs⟩;cases hv with
  | @ms _ _ A c hh hA=>
    have⟨G'',hl',hh',us,v1,v2,v3,v4,v5⟩:=A1.freeze (j:=0) hs.wd rfl hh;refine⟨_,G'',rfl,?_,by simpa using hs.trans hl'⟩;subst hl;by_cases h0:0<zs.length
    ·obtain⟨b,rfl,v6⟩:=v5 h0;exact C9 v1 v2 v3 (λi x hx=>hk x (mem_of_getElem? hx)) v6 (λi j x y u h1 h2 h3=>v4 _ y u (Nz zs hk i j x y h1 h2) h3) trivial
    ·have hzn:zs=[]:=eq_nil_of_length_eq_zero Om;subst hzn;exact Bv.sl (b:=0) (o:=0) (λ_ _=>undef) v2 (λh=>by simp at h) (λi x h=>by simp at h) (λi j h=>by simp at h) (λi j h=>by simp at h) (λi j x y h=>by simp at h) trivial
 exact h1.clean (S':=[]) [] Si rfl Si (λk i hk=>by simp at hk) (λk o h=>by simp at h) (by rw[lY,hr];rfl)
section
open Go.RowKit Go.Lib
end
section
open Go.RowKit Go.Lib
end
def Tw (e:En) (hm:DS e.lk) (hd:e.data.length≤2000000):Ah prog 115 [Lt e] [] (Lt e) []:=by
 refine RM func115 Aht ?_
 (repeat with_reducible refine Sa ?_);refine Aa.p (Rp e.lk hm.1 hm.2) (mq @Ab ?_).1;(repeat with_reducible refine Sa ?_);refine UO 1 ?_;exact FA Aht []
def MF (e:En) (hm:DS e.lk) (hd:e.data.length≤2000000):Ct Tryz.prog 115 [Lt e] [] (λ_=>Lt e) [] (λ_=>[]):=(Tw e hm hd).toCt cl cl
def OA (s:List Int) (m:Mk) (x:Int) (hb:AW s) (hn:s.length≤1000000) (hm:1≤m.at_∧m.at_≤1099511627775) (hx:0≤x∧x≤s.length):Ct prog 46 [Bd .u8 s,kC m,iA x] [] (λ_=>.tup [FD (Ma s m x).1,Ce (Ma s m x).2]) [] (λ_=>[]):=by
 refine Ah.toCt ?_ cl cl
 have⟨R,hR⟩:=Ex (Ma s m x);have e:Ma s m x=if x≤m.at_ then(Cc,(3,m.at_))else((PC s m x).1,BB (qS s m x).1 ((qS s m x).2+m.at_)):=rfl
 rw[hR]at e ⊢;refine RM func46 b46 ?_
 by_cases h1:x≤m.at_
 ·have c1:decide (x≤m.at_)=true:=Sx h1
  rw[if_pos h1]at e;have c3:BB 3 m.at_=(3,m.at_):=rfl;refine (mq c1 ?_).1;refine Aa.p (Bj 3 m.at_) ?_;simp only[go_sem,seval,c3];refine (mok ?_).1;refine WO 1 [uA 0,uA 0,Fv []] ?_
  exact FK b46 [] (by simp[e,Cc,E_])
 ·have c1:decide (x≤m.at_)=false:=Sx h1
  rw[if_neg h1]at e;have hbm:=Nq hb m.at_ x;have hml:=Np s m.at_ x;have⟨x1,x2,x3,x4,x5,x6⟩:=PB hbm Om;have hct:=QE (Vo s m.at_ x) hbm Om;have hif:qS s m x=if(PC s m x).2.2.1=0 then(if(PC s m x).1.base=m.pos∧((PC s m x).1.en.length:Int)=m.cnt then(0,0)else(12,0))else(PC s m x).2.2:=rfl
  have⟨X,hX⟩:=Ex (PC s m x);rw[hX]at hif e;rw[show BZ (λq=>q.btch RS.blk) Cc 1 (Vo s m.at_ x)=X from hX]at x1 x2 x3 x4 x5 x6 hct;have hlen:=x1.len;have w3:IntKind.i64.wrap (X.2.2.2+m.at_)=X.2.2.2+m.at_:=i64_in _ Om;have w4:IntKind.i64.wrap (0+m.at_)=0+m.at_:=i64_in _ Om;refine (mq c1 ?_).1;(repeat((with_reducible refine And.intro ?_ ?_);(·first|exact sd|(simp[Ab,A2,AV.parts,Ab];done)|(simp[Ab,A2,AV.parts,Ab];omega))));refine (mr @CA @Dh ?_).1;refine Cp (hct) ?_;refine Cp (Ai X.2.2.1 X.2.2.2) ?_;by_cases hz:X.2.2.1=0
  ·have c2:(X.2.2.1==0)=true:=Sx hz
   have c6:=x6 hz;rw[if_pos hz]at hif;by_cases hp:X.1.base=m.pos
   ·have c3:(X.1.base != m.pos)=false:=Sx hp
    by_cases hl:(X.1.en.length:Int)=m.cnt
    ·have c4:((X.1.en.length:Int) != m.cnt)=false:=Sx hl
     rw[if_pos ⟨hp,hl⟩]at hif;have c7:BB 0 (0+m.at_)=(0,0):=rfl;rw[hif]at e;simp only[c7]at e;have c8:BB X.2.2.1 (X.2.2.2+m.at_)=(0,0):=by unfold BB;rw[if_pos hz]
     simp only[go_sem,seval,c2,c3,c4,Aq];refine (mok ?_).1;refine Aa.p (Ba X.2.2.1 X.2.2.2 m.at_ _ w3) ?_;simp only[go_sem,seval,c8];refine (mok ?_).1
     exact FE b46 [] e
    ·have c4:((X.1.en.length:Int) != m.cnt)=true:=Sx hl
     rw[if_neg (λh=>hl h.2)]at hif;rw[hif]at e;have c7:BB 12 0=(12,0):=rfl;simp only[go_sem,seval,c2,c3,c4,Aq];refine (mok ?_).1;refine Aa.p (Bj 12 0) ?_;simp only[go_sem,seval,c7];refine (mok ?_).1;refine Cp (Ba 12 0 m.at_ _ w4) ?_
     exact FE b46 [] e
   ·have c3:(X.1.base != m.pos)=true:=Sx hp
    rw[if_neg (λh=>hp h.1)]at hif;rw[hif]at e;have c7:BB 12 0=(12,0):=rfl;simp only[go_sem,seval,c2,c3];refine (mok ?_).1;refine Aa.p (Bj 12 0) ?_;simp only[go_sem,seval,c7];refine (mok ?_).1;refine Cp (Ba 12 0 m.at_ _ w4) ?_
    exact FE b46 [] e
  ·have c2:(X.2.2.1==0)=false:=Sx hz
   rw[if_neg hz]at hif;rw[hif]at e;refine (mq c2 ?_).1;refine Cp (Ba X.2.2.1 X.2.2.2 m.at_ _ w3) ?_
   exact FE b46 [] e
def P7 (b:Bt) (hS:R1 b):Ct prog 113 [FD b] [] (λ_=>bA true) [] (λ_=>[]):=by
 refine Ah.toCt ?_ cl cl
 have h0:=hS.ok.b0;have h1:=hS.sum;have h2:=hS.len;have c1:decide (b.base≤b.base+b.en.length)=true:=by simp only[decide_eq_true_eq];omega
 refine RM func113 Ahu ?_
 refine Aa.p (JD b Om h0 Om) (mq c1 ?_).1;exact FA Ahu []
def vB (b:Bt) (pos:Int) (hS:R1 b) (hp:0≤pos∧pos<18446744073709551616):Ct prog 47 [FD b,uA pos] [] (λ_=>.tup [Lt (atP b pos).1,bA (atP b pos).2]) [] (λ_=>[]):=by
 refine Ah.toCt ?_ cl cl
 have h0:=hS.ok.b0;have h1:=hS.sum;have h2:=hS.len;have⟨R,hR⟩:=Ex (atP b pos);have e:atP b pos=if b.base≤pos∧pos<b.base+b.en.length then(b.en.getD (pos-b.base).toNat Dt,true)else(Dt,false):=rfl
 rw[hR]at e ⊢;refine RM func47 b47 ?_
 refine Cp (P7 b hS) ?_;by_cases ha:pos<b.base
 ·have c1:decide (pos<b.base)=true:=Sx ha
  rw[if_neg Om]at e;refine (mq c1 ?_).1;refine WO 1 [Gg [],Bd .u8 []] ?_
  exact FK b47 [] (by simp[e,Dt])
 ·have c1:decide (pos<b.base)=false:=Sx ha
  refine (mq c1 ?_).1;refine Cp (JD b Om h0 Om) ?_;by_cases hc:b.base+b.en.length≤pos
  ·have c2:decide (b.base+b.en.length≤pos)=true:=Sx hc
   rw[if_neg Om]at e;refine (mq c2 ?_).1;refine WO 1 [Gg [],Bd .u8 []] ?_
   exact FK b47 [] (by simp[e,Dt])
  ·have c2:decide (b.base+b.en.length≤pos)=false:=Sx hc
   rw[if_pos Om]at e;obtain⟨k,hk⟩:∃k:Nat,pos-b.base=(k:Int):=⟨(pos-b.base).toNat,Om⟩;have hkl:k<b.en.length:=Om
   have w1:IntKind.u64.wrap (pos-b.base)=(k:Int):=by rw[u64_in _ Om];omega
   have hmem:b.en.getD k Dt∈b.en:=by simp[hkl]
   have⟨s1,s2,s3⟩:=hS.small _ hmem;rw[hk,Int.toNat_natCast]at e;have hg:=EK b.en k hkl;have⟨x,hx⟩:=Ex (b.en.getD k Dt);rw[hx]at hg s1 s2 s3 e;have hcp:=MF x ⟨Om,λy hy=>by have:=s2 y hy;omega⟩ Om;simp only[go_sem,seval,c2,w1,Aq,Int.toNat_natCast,hg];refine (mok ?_).1;refine⟨Om,Om,?_⟩;refine Cp (hcp) ?_
   exact FE b47 [] e
def xD (l:List Mk) (pos:Int):IR l pos=Gu l pos:=rfl
def Qb (s:List Int) (pos:Int) (hb:AW s) (hn:s.length≤1000000) (hp:0≤pos∧pos<18446744073709551616):Ct prog 19 [Bd .u8 s,uA pos] [] (λ_=>.tup [Lt (Vw s pos).1,Ce (Vw s pos).2]) [] (λ_=>[]):=by
 refine Ah.toCt ?_ cl cl
 have⟨R,hR⟩:=Ex (Vw s pos);have e:Vw s pos=if(JI s).2.1=0 then
  (if(Gu (JI s).1.2.2 pos).2=false then(Dt,(16,0))
   else if(Ma s (Gu (JI s).1.2.2 pos).1 (JI s).1.1.at_).2.1=0 then((atP (Ma s (Gu (JI s).1.2.2 pos).1 (JI s).1.1.at_).1 pos).1,(0,0))
   else(Dt,(Ma s (Gu (JI s).1.2.2 pos).1 (JI s).1.1.at_).2))
  else(Dt,(JI s).2):=rfl
 have hct:=Vv s hb hn;have hlf:=λh=>Rl hb hn h
 have hlm:=gA hb hn;have hat:(JI s).2.1=0->0≤(JI s).1.1.at_∧(JI s).1.1.at_≤s.length:=λh=>by
  have⟨f1,f2,f3,f4⟩:=hlf h;have⟨b1,b2,b3,b4,b5,b6⟩:=aY hb Om f1;have⟨_,⟨a0,a1⟩,z0,z1⟩:=(Gp b3 b2).2.2;rw[f4];simp only[];omega
 rw[hR]at e ⊢;have⟨L,hL⟩:=Ex (JI s);rw[hL]at e hct hlm hat;have hfm:=YM L.1.2.2 pos (FP hlm) (by have:=(BY.1 hlm).2;omega);rw[xD]at hfm;have hin:=λh=>pJ (l:=L.1.2.2) (pos:=pos) h
 have⟨M,hM⟩:=Ex (Gu L.1.2.2 pos);rw[hM]at e hfm hin;refine RM func19 b19 ?_
 refine Cp (hct) ?_;refine Cp (Ai L.2.1 L.2.2) ?_;by_cases hz:L.2.1=0
 ·have c1:(L.2.1==0)=true:=Sx hz
  rw[if_pos hz]at e;have⟨a0,a1⟩:=hat hz;refine (mq c1 ?_).1;refine Cp (hfm) ?_;cases hf:M.2 with
  |false=>
   rw[if_pos hf]at e;have c3:BB 16 0=(16,0):=rfl;refine (mp ?_).1;refine Aa.p (Bj 16 0) ?_;simp only[go_sem,seval,c3];refine (mok ?_).1;refine WO 0 [Gg [],Bd .u8 []] ?_
   exact FK b19 [] (by simp[e,Dt])
  |true=>
   rw[if_neg (by rw[hf];decide)]at e;have⟨i1,i2,i3⟩:=hin hf;have i4:=Q3 i1 i2;have hba:=OA s M.1 L.1.1.at_ hb hn Om ⟨a0,a1⟩;have hbS:=ZJ hb hn M.1 L.1.1.at_;have⟨B,hB⟩:=Ex (Ma s M.1 L.1.1.at_);rw[hB]at hba hbS e;refine (mp ?_).1;refine Cp (hba) ?_;refine Cp (Ai B.2.1 B.2.2) ?_;by_cases hg:B.2.1=0
   ·have c2:(B.2.1==0)=true:=Sx hg
    rw[if_pos hg]at e;refine (mq c2 ?_).1;refine Cp (vB B.1 pos hbS hp) ?_
    exact FE b19 [] e
   ·have c2:(B.2.1==0)=false:=Sx hg
    rw[if_neg hg]at e;refine (mq c2 ?_).1;refine WO 0 [Gg [],Bd .u8 []] ?_
    exact FK b19 [] (by simp[e,Dt])
 ·have c1:(L.2.1==0)=false:=Sx hz
  rw[if_neg hz]at e;refine (mq c1 ?_).1;refine WO 0 [Gg [],Bd .u8 []] ?_
  exact FK b19 [] (by simp[e,Dt])
def Ga:List Int->Bool
 |a::b::r=>(decide (128≤a)&&decide (3≤b))||Ga (b::r)
 |_=>false
def YX {l:List Int} {k:Nat} (h:k+1<l.length):Ga (l.drop k)=((decide (128≤l.getD k 0)&&decide (3≤l.getD (k+1) 0))||Ga (l.drop (k+1))):=by
 have e1:l.drop k=l.getD k 0::l.getD (k+1) 0::l.drop (k+2):=by
  rw[drop_eq_getElem_cons (by omega:k<l.length),drop_eq_getElem_cons (by omega:k+1<l.length)];simp[h,show k<l.length by omega]
 have e2:l.drop (k+1)=l.getD (k+1) 0::l.drop (k+2):=by
  rw[drop_eq_getElem_cons (by omega:k+1<l.length)];simp[h]
 rw[e1,e2,Ga]
def gS {l:List Int} {k:Nat} (h:¬k+1<l.length):Ga (l.drop k)=false:=by
 have hl:(l.drop k).length≤1:=by rw[length_drop];omega
 match hd:l.drop k with
 |[]=>rfl
 |[x]=>rfl
 |a::b::r=>rw[hd]at hl;simp at hl
def Km (s:List Int):Nat->Nat->Bool
 |0,_=>false
 |n+1,j=>if j<s.length then
   (if((RS.new (s.drop j)).frame 1500).1.code=0 then
     (if 1<((RS.new (s.drop j)).frame 1500).2.length∧((RS.new (s.drop j)).frame 1500).2.getD 0 0=1∧Ga (((RS.new (s.drop j)).frame 1500).2.drop 1)=true then true
      else Km s n (j+((RS.new (s.drop j)).frame 1500).1.at_.toNat))
    else false)else false
def Kl (s:List Int):Nat->Nat->Bool
 |0,_=>false
 |n+1,i=>if i<s.length∧i<40 then(if Km s (s.length+1) i=true then true else Kl s n (i+1))else false
def YO (s:List Int):Bool:=Kl s 41 0
def gX {s:RS} (h:Ak s) {m:Int} (hc:(s.frame m).1.code=0):s.at_+5≤(s.frame m).1.at_:=by
 have h1:=Ry h hc;have h2:=S5 h (m:=BK m) h1.1;have h3:=(Ki h h1.1).2.1;omega
def VL (l:List Int) (hb:AW l) (hn:l.length≤1000000):Ct prog 17 [Bd .u8 l] [] (λ_=>bA (Ga l)) [] (λ_=>[]):=by
 refine Ah.toCt ?_ cl cl
 refine RM func17 b17 ?_
 refine AA (α:=Nat) (λk=>Bd .u8 l::.any::bA false::iA k::Az (Ay [])) (λ_=>[]) (λk=>k≤l.length∧Ga (l.drop k)=Ga l) (λk=>l.length-k) 0 ⟨Si,Si⟩ (Wk.to Si (by simp[BS])) ?_;rintro k ⟨hk,hr⟩;have ek:=Aw k Om;refine (mr ek @Ab ?_).1;by_cases hlt:k+1<l.length
 ·have q1:decide (((k:Int)+1)<(l.length:Int))=true:=decide_eq_true Om;have q1':decide (((k+1:Nat):Int)<(l.length:Int))=true:=decide_eq_true Om;have g1:=Cy .u8 l k Om;have g2:=Cy .u8 l (k+1) Om;have hs:=YX hlt;simp only[go_sem,seval,q1',Int.toNat_natCast,g1,g2,ek,Ab];refine (mok ?_).1;refine⟨Om,Om,?_⟩;by_cases ha:128≤l.getD k 0
  ·have c1:decide (128≤l.getD k 0)=true:=Sx ha
   rw[c1,Bool.true_and]at hs;simp only[go_sem,seval,c1,ek,Int.toNat_natCast,g2,Ab];refine (mok ?_).1;refine⟨Om,Om,?_⟩;by_cases hb3:3≤l.getD (k+1) 0
   ·have c2:decide (3≤l.getD (k+1) 0)=true:=Sx hb3
    rw[c2,Bool.true_or]at hs;rw[hs]at hr;refine (mq c2 ?_).1
    exact FK b17 [] (by simp[←hr])
   ·have c2:decide (3≤l.getD (k+1) 0)=false:=Sx hb3
    rw[c2,Bool.false_or]at hs;refine (mr c2 ek ?_).1;exact⟨k+1,⟨Om,hs.symm.trans hr⟩,Om,Wk.sel [] Si rfl Si rfl Si (by simp[BP,AE,AM])⟩
  ·have c1:decide (128≤l.getD k 0)=false:=Sx ha
   rw[c1,Bool.false_and,Bool.false_or]at hs;refine (mr c1 ek ?_).1;exact⟨k+1,⟨Om,hs.symm.trans hr⟩,Om,Wk.sel [] Si rfl Si rfl Si (by simp[BP,AE,AM])⟩
 ·have q1':decide (((k+1:Nat):Int)<(l.length:Int))=false:=decide_eq_false Om;have e:=gS hlt;rw[e]at hr;refine (mq q1' ?_).1
  exact FK b17 [] (by simp[←hr])
def VK (s:List Int) (hb:AW s) (hn:s.length≤1000000):Ct prog 4 [Bd .u8 s] [] (λ_=>bA (YO s)) [] (λ_=>[]):=by
 refine Ah.toCt ?_ cl cl
 have⟨R,hR⟩:=Ex (YO s);rw[hR];refine RM func4 b4 ?_
 refine AA (α:=Nat×Nat) (λu=>Bd .u8 s::.any::bA false::iA u.1::Az (Az (Az []))) (λ_=>[]) (λu=>u.1+u.2=41∧Kl s u.2 u.1=R) (λu=>u.2) (0,41) ⟨rfl,hR⟩ (Wk.to Si (by simp[BS])) ?_;rintro⟨i,n⟩ ⟨hi,hr⟩;simp only[]at hi hr;have ei:=Aw i Om;refine (mq @Ab ?_).1;by_cases hlt:i<s.length
 ·have q1:decide ((i:Int)<(s.length:Int))=true:=decide_eq_true Om;by_cases h40:i<40
  ·have q2:decide ((i:Int)<40)=true:=decide_eq_true Om;obtain⟨n,rfl⟩:∃m,n=m+1:=⟨n-1,Om⟩;rw[Kl,if_pos ⟨hlt,h40⟩]at hr;refine (mr q1 q2 ?_).1;have⟨H,hH⟩:=Ex (Km s (s.length+1) i);rw[hH]at hr;refine AA (α:=Nat×Nat) (λu=>Bd .u8 s::.any::bA false::iA i::iA u.1::Az (Az (Ay (Ay (Ay [.any,.any,.any]))))) (λ_=>[]) (λu=>s.length<u.1+u.2∧u.1≤s.length∧Km s u.2 u.1=H) (λu=>u.2) (i,s.length+1) ⟨by simp only[];omega,by simp only[];omega,hH⟩ (Wk.to Si (by simp[BS])) ?_;rintro⟨j,f⟩ ⟨hj,hjl,hh⟩;simp only[]at hj hjl hh;have hout:H=false->∃a':Nat×Nat,(a'.1+a'.2=41∧Kl s a'.2 a'.1=R)∧a'.2<n+1∧a'=(i+1,n):=λh=>⟨(i+1,n),⟨by simp only[];omega,by rw[h,if_neg De]at hr;exact hr⟩,by simp only[];omega,rfl⟩
   refine (mq @Ab ?_).1;by_cases hj2:j<s.length
   ·have q3:decide ((j:Int)<(s.length:Int))=true:=decide_eq_true Om;obtain⟨f,rfl⟩:∃m,f=m+1:=⟨f-1,Om⟩;rw[Km,if_pos hj2]at hh;have hbd:AW (s.drop j):=λx hx=>hb x (mem_of_mem_drop hx)
    have hdl:(s.drop j).length=s.length-j:=length_drop;have hok:Ak (RS.new (s.drop j)):=Ak.new hbd Om;have hct:=XV (RS.new (s.drop j)) 1500 hok De;have hfl:=λhc=>gX hok (m:=1500) hc
    have⟨fb,fl⟩:=LY hok 1500;have⟨fk1,fk2⟩:=BA hok 1500;have hat:=fk1.at1;rw[fk2]at hat;have hnl:(RS.new (s.drop j)).l.length=s.length-j:=hdl;have hcv:cv (RS.new (s.drop j))=.agg [Bd .u8 (s.drop j),iA 0,iA 0,iA 0]:=rfl;have⟨F,hF⟩:=Ex ((RS.new (s.drop j)).frame 1500);rw[hF]at hh hct hfl fb fl hat;rw[hcv]at hct;refine (mq q3 ?_).1;(repeat((with_reducible refine And.intro ?_ ?_);(·first|exact sd|(simp[Ab,A2,AV.parts,Ab];done)|(simp[Ab,A2,AV.parts,Ab];omega))));refine (mr @CA @Int.toNat_natCast ?_).1;refine Cp (hct) ?_;by_cases hc:F.1.code=0
    ·have c1:(F.1.code != 0)=false:=Sx hc
     rw[if_pos hc]at hh;have h5:=hfl hc;have h50:(RS.new (s.drop j)).at_=0:=rfl;have w1:IntKind.i64.wrap ((j:Int)+F.1.at_)=((j+F.1.at_.toNat:Nat):Int):=by rw[i64_in _ Om];omega
     have hgo:¬(1<F.2.length∧F.2.getD 0 0=1∧Ga (F.2.drop 1)=true)->Km s f (j+F.1.at_.toNat)=H:=λh=>by rw[if_neg h]at hh;exact hh
     refine (mr c1 @Ab ?_).1;by_cases h1:1<F.2.length
     ·have c2:decide (1<(F.2.length:Int))=true:=decide_eq_true Om;have g1:=Cy .u8 F.2 0 Om;refine (mt c2 @Ab @Int.toNat_zero g1 ?_).1;(repeat((with_reducible refine And.intro ?_ ?_);(·first|exact sd|(simp[Ab,A2,AV.parts,Ab];done)|(simp[Ab,A2,AV.parts,Ab];omega))));by_cases hk:F.2.getD 0 0=1
      ·have c3:(F.2.getD 0 0==1)=true:=Sx hk
       have hbd2:AW (F.2.drop 1):=λx hx=>fb x (mem_of_mem_drop hx)
       have hgr:=VL (F.2.drop 1) hbd2 (by rw[length_drop];omega);simp only[go_sem,seval,c3];refine (mok ?_).1;(repeat((with_reducible refine And.intro ?_ ?_);(·first|exact sd|(simp[Ab,A2,AV.parts,Ab];done)|(simp[Ab,A2,AV.parts,Ab];omega))));refine (mq @CA ?_).1;refine Aa.p (hgr) ?_;cases hg:Ga (F.2.drop 1)with
       |true=>
        rw[if_pos ⟨h1,hk,hg⟩]at hh;rw[←hh,if_pos rfl]at hr;refine (mp ?_).1
        exact FK b4 [] (by simp[←hr])
       |false=>
        have hh2:=hgo (λh=>by rw[hg]at h;exact absurd h.2.2 De);refine (mq w1 ?_).1;exact⟨(j+F.1.at_.toNat,f),⟨by simp only[];omega,by simp only[];omega,hh2⟩,by simp only[];omega,Wk.sel [] Si rfl Si rfl Si (by simp[BP,AE,AM])⟩
      ·have c3:(F.2.getD 0 0==1)=false:=Sx hk
       have hh2:=hgo (λh=>hk h.2.1);simp only[go_sem,seval,c3,w1];refine (mok ?_).1;exact⟨(j+F.1.at_.toNat,f),⟨by simp only[];omega,by simp only[];omega,hh2⟩,by simp only[];omega,Wk.sel [] Si rfl Si rfl Si (by simp[BP,AE,AM])⟩
     ·have c2:decide (1<(F.2.length:Int))=false:=decide_eq_false Om;have hh2:=hgo (λh=>h1 h.1);refine (mr c2 w1 ?_).1;exact⟨(j+F.1.at_.toNat,f),⟨by simp only[];omega,by simp only[];omega,hh2⟩,by simp only[];omega,Wk.sel [] Si rfl Si rfl Si (by simp[BP,AE,AM])⟩
    ·have c1:(F.1.code != 0)=true:=Sx hc
     rw[if_neg hc]at hh;obtain⟨_,h1,h2,rfl⟩:=hout hh.symm;refine (mr c1 ei ?_).1;exact⟨(i+1,n),h1,h2,Wk.sel [] Si rfl Si rfl Si (by simp[BP,AE,AM])⟩
   ·have q3:decide ((j:Int)<(s.length:Int))=false:=decide_eq_false Om;have hh':H=false:=by
     rw[←hh];cases f with
     |zero=>rfl
     |succ f=>rw[Km,if_neg hj2]
    obtain⟨_,h1,h2,rfl⟩:=hout hh';refine (mr q3 ei ?_).1;exact⟨(i+1,n),h1,h2,Wk.sel [] Si rfl Si rfl Si (by simp[BP,AE,AM])⟩
  ·have q2:decide ((i:Int)<40)=false:=decide_eq_false Om;have hr':R=false:=by
    rw[←hr];cases n with
    |zero=>rfl
    |succ n=>rw[Kl,if_neg (λh=>h40 h.2)]
   refine (mr q1 q2 ?_).1
   exact FE b4 [] hr'
 ·have q1:decide ((i:Int)<(s.length:Int))=false:=decide_eq_false Om;have hr':R=false:=by
   rw[←hr];cases n with
   |zero=>rfl
   |succ n=>rw[Kl,if_neg (λh=>hlt h.1)]
  refine (mq q1 ?_).1
  exact FE b4 [] hr'
def gQ (l:List En):List Hh:=l.map λe=>(e.lk,(e.data.length:Int))
def OY (base:Int) (l:List En):List Int:=Bo (C_ base).enc [] (gQ l)
def Eh (b:Bt):List Int:=vb b.ep++(vb b.base++(vb b.en.length++(OY b.base b.en++HZ (AK b.en))))
def Jo {base:Int} {l:List En} {k:Nat} (h:k<l.length):OY base (l.take (k+1))=OY base (l.take k)++Fm (base+k) (l.getD k Dt):=by
 have e1:l.take (k+1)=l.take k++[l.getD k Dt]:=by
  rw[take_succ_eq_append_getElem h];simp[h]
 have el:(gQ (l.take k)).length=k:=by simp[gQ];omega
 unfold OY;rw[e1];have e2:gQ (l.take k++[l.getD k Dt])=gQ (l.take k)++[((l.getD k Dt).lk,((l.getD k Dt).data.length:Int))]:=by simp[gQ]
 rw[e2,Fsq,nil_append];simp only[C_];rw[el];rfl
def Aar {base:Int} {l:List En}:∀k,k≤l.length->(OY base (l.take k)).length≤(OY base l).length:=by
 intro k hk;have gen:∀n,k+n=l.length->(OY base (l.take k)).length≤(OY base l).length:=by
  intro n
  induction n generalizing k with
  |zero=>intro h;rw[take_of_length_le Om];exact Nat.le_refl _
  |succ n ih=>
   intro h;have h1:=ih (k+1) Om Om;rw[Jo Om,length_append]at h1;omega
 exact gen (l.length-k) Om
def TQ (ok:Nat->Bool) (n:Nat):Bool:=(List.range n).all ok
def W6 {ok:Nat->Bool} {n:Nat}:TQ ok n=true↔∀i,i<n->ok i=true:=by
 simp only[TQ,all_eq_true,mem_range]
def SW (f:FuncId) (o:Ad) (ok:Nat->Bool) (ho:∀ρ,o.ren ρ=o) (hd:o≠ .dead) (l:List Bt) (hf:∀k,k<l.length->(∀i,i<k->ok i=true)->∀i,Ct prog f [iA k,FD (l.getD k Cc),.ref i 0] [(i,o)] (λ_=>bA (ok k)) [] (λ_=>[])) (hn:l.length≤1000000):
 Ah prog 153 [GN l,.fn f [] [.ref 0 0]] [o] (bA (TQ ok l.length)) [o]:=by
 refine RN func153 Adu ?_;refine (mq @Ao ?_).1
 refine AA (α:=Nat) (λk=>GN l::.fn f [] [.ref 0 0]::.any::.any::.any::.any::.any::GN l::iA l.length::iA k::Ay (Ay [.any,.any])) (λ_=>[o]) (λk=>k≤l.length∧∀i,i<k->ok i=true) (λk=>l.length-k) 0 ⟨Si,λi hi=>by omega⟩ (Wk.to Si (by simp[BS])) ?_;rintro k ⟨hk,hall⟩;refine (mp ?_).1;by_cases hlt:k<l.length
 ·have q1:decide ((k:Int)<(l.length:Int))=true:=decide_eq_true Om;have ek:=Aw k Om;have g:=GB l k hlt;have hfx:=hf k hlt hall 0;refine (mt q1 g @Ao @Int.toNat_natCast ?_).1;(repeat with_reducible refine Sa ?_);refine Aa.r1 (hfx) rfl ?_;cases hs:ok k with
  |false=>
   have e:TQ ok l.length=false:=by
    cases ha:TQ ok l.length with
    |false=>rfl
    |true=>rw[W6.1 ha k hlt]at hs;cases hs
   refine (mq hs ?_).1
   exact FF Adu [0] e ho
  |true=>
   refine (mr hs ek ?_).1;exact⟨k+1,⟨hlt,λi hi=>by
    rcases Nat.lt_or_ge i k with h|h
    ·exact hall i h
    ·obtain rfl:i=k:=Om
     exact hs⟩,Om,Wk.sel [0] Si rfl Si rfl (by simp[ho]) (by simp[BP,AE])⟩
 ·have q1:decide ((k:Int)<(l.length:Int))=false:=decide_eq_false Om;have e:TQ ok l.length=true:=W6.2 λi hi=>hall i Om
  refine (mq q1 ?_).1
  exact FF Adu [0] e ho
def VJ (f:FuncId) (o:Ad) (ok:Nat->Bool) (ho:∀ρ,o.ren ρ=o) (hd:o≠ .dead) (l:List Bt) (hf:∀k,k<l.length->(∀i,i<k->ok i=true)->∀i,Ct prog f [iA k,FD (l.getD k Cc),.ref i 0] [(i,o)] (λ_=>bA (ok k)) [] (λ_=>[])) (hn:l.length≤1000000) (i:Nat):
 Ct prog 153 [GN l,.fn f [] [.ref i 0]] [(i,o)] (λ_=>bA (TQ ok l.length)) [] (λ_=>[]):=Ct.r1 (SW f o ok ho hd l hf hn) i cl ho hd CN
structure KE (u:EL):Prop where
 n:u.bt.length≤1000000
 s:∀b∈u.bt,DG b
 ok:sM u.bt
def xT {ep:Int} {l:List Bt} {k:Nat} (hl:sM l) (hk:k≤l.length) (h:∀i,i<k->G5 ep l i=true):Xd (l.take k):=by
 intro h0;have hlen:(l.take k).length=k:=by rw[length_take];omega
 have hbl:Bf (l.take k)=l.getD (k-1) Cc:=by
  unfold Bf;rw[hlen];simp[show k-1<l.length by omega,show k-1<k by omega]
 have hm:=h (k-1) Om;unfold G5 at hm;simp only[Bool.and_eq_true]at hm;have⟨r1,⟨r2,r3⟩,r4⟩:=B2.1 hm.1.1;have hb:=hl _ (Pr l (k-1) Om);rw[hbl];exact⟨Om,hb.b0,Om⟩
def M6 (u:EL) (k:Nat) (hs:KE u) (hk:k<u.bt.length) (he:Xd (u.bt.take k)):Ah prog 154 [iA k,FD (u.bt.getD k Cc),.ref 0 0] [PU u] (bA (G5 u.ep u.bt k)) [PU u]:=by
 have hm:=Pr u.bt k hk;have hsb:=hs.s _ hm;have hok:=hs.ok _ hm;have hn:=hs.n;have hle:(u.bt.take k).length≤1000000:=by rw[length_take];omega
 have hkl:(k:Int)≤((D7 u.bt).length:Int):=by rw[Ao];omega
 have hdef:G5 u.ep u.bt k=(BL (u.bt.getD k Cc)&&D0 (u.bt.getD k Cc)&&JH u.ep (u.bt.take k) (u.bt.getD k Cc)):=rfl;obtain⟨b,hb⟩:∃b,u.bt.getD k Cc=b:=⟨_,rfl⟩;rw[hb]at hm hsb hok hdef ⊢;have hA:=SV 156 (λe=>C6 e.lk) b.en (λk hk=>M5 _ _ (hsb.lk _ (L4 b.en k hk)).1) hsb.n;have ea:(b.en.all λe=>C6 e.lk)=D0 b:=rfl;rw[ea]at hA;refine RM func154 y9 ?_
 refine Aa.p (hA) ?_;cases h1:D0 b with
 |false=>
  rw[h1,Bool.and_false,Bool.false_and]at hdef;refine (mp ?_).1
  exact FE y9 [0] hdef
 |true=>
  rw[h1,Bool.and_true]at hdef;refine (mp ?_).1;refine Aa.p (I2 b hok hsb) ?_;cases h2:BL b with
  |false=>
   rw[h2,Bool.false_and]at hdef;refine (mp ?_).1
   exact FE y9 [0] hdef
  |true=>
   rw[h2,Bool.true_and]at hdef;refine (mt @WL @Ao @Int.sub_zero @Int.toNat_natCast ?_).1;(repeat with_reducible refine Sa ?_);refine Aa.p (II u.ep (u.bt.take k) b hle he) ?_;simp only[go_sem,seval,←hdef];refine (mok ?_).1;exact FA y9 [0]
def OH (u:EL) (k:Nat) (hs:KE u) (hk:k<u.bt.length) (he:Xd (u.bt.take k)) (i:Nat):Ct prog 154 [iA k,FD (u.bt.getD k Cc),.ref i 0] [(i,PU u)] (λ_=>bA (G5 u.ep u.bt k)) [] (λ_=>[]):=
 Ct.r1 (M6 u k hs hk he) i cl (Uy u) Si CN
def Q6 {u:EL} (h:Ac u.ep=false∨32<u.bt.length):DQ u=false:=by
 cases hr:DQ u with
 |false=>rfl
 |true=>
  exfalso;unfold DQ at hr;simp only[Bool.and_eq_true,decide_eq_true_eq]at hr;have⟨⟨a,b⟩,c⟩:=hr;rcases h with h|h
  ·rw[h]at a;cases a
  ·omega
def Ql (u:EL) (hs:KE u):Ct prog 83 [Et u] [] (λ_=>bA (DQ u)) [] (λ_=>[]):=by
 refine Ah.toCt ?_ cl cl
 refine RM func83 b83 ?_
 refine Aa.p (AO u.ep) ?_;cases h1:Ac u.ep with
 |false=>
  have e:=Q6 (u:=u) (.inl h1);refine (mq h1 ?_).1
  exact FE b83 [] e
 |true=>
  by_cases h2:u.bt.length≤32
  ·have q2:decide (32<(u.bt.length:Int))=false:=decide_eq_false Om;have e:DQ u=TQ (G5 u.ep u.bt) u.bt.length:=by
    unfold DQ TQ;rw[h1,decide_eq_true h2];rfl
   refine (ms h1 @Ao q2 ?_).1;refine Aa.r1 (VJ 154 (PU u) (G5 u.ep u.bt) (Uy u) Si u.bt (λk hk hall i=>OH u k hs hk (xT hs.ok Om hall) i) hs.n _) rfl ?_;simp only[go_sem,seval,←e];refine (mok ?_).1;exact FA b83 []
  ·have q2:decide (32<(u.bt.length:Int))=true:=decide_eq_true Om;have e:=Q6 (u:=u) (.inr Om);refine (ms h1 @Ao q2 ?_).1
   exact FE b83 [] e
def VA {s:RS} {pos:Int} (h:Ak s) (p0:0≤pos) (p1:pos<18446744073709551616):DS (s.links pos).2:=by
 by_cases hc:(s.links pos).1.code=0
 ·have⟨i1,i2,i3,i4,i5⟩:=OC h p0 p1 hc;have⟨r1,r2,r3⟩:=Dz.1 i3;exact⟨Om,λx hx=>by have:=(EU.1 (r3 x hx)).1;omega⟩
 ·rw[Rn hc];exact⟨Si,Si⟩
def Ym {s:RS} (pos:Int):(C6 (s.links pos).2=false->s.lsing pos=(s.links pos).1.fail 3 s.at_)∧(C6 (s.links pos).2=true->s.lsing pos=(s.links pos).1):=by
 unfold RS.lsing;refine⟨λh=>?_,λh=>by rw[if_neg (by rw[h];rintro⟨_,h⟩;cases h)]⟩;by_cases hc:(s.links pos).1.code=0
 ·rw[if_pos ⟨hc,h⟩]
 ·rw[Rn hc]at h;cases h
abbrev bO (e base:Int):Ad:=.cells [uA e,uA base,.sl .full 1 []]
abbrev iS (t:RS) (pos left:Int):En:=⟨(t.links pos).2,((t.lsing pos).blob left).2⟩
def LN (t:RS) (e base:Int) (k:Nat) (left pos:Int) (ht:Ak t) (hp:IntKind.u64.wrap (base+k)=pos) (hk:k≤1000000) (p0:0≤pos) (p1:pos<18446744073709551616) (l0:0≤left) (l1:left≤1048576) (hn:t.l.length*32≤100000000000000):
 Ah prog 150 [iA k,.ref 1 0,.ref 2 0,.ref 3 0] [AN t,LJ 0,bO e base,aR left] (Lt (iS t pos left)) [AN ((t.lsing pos).blob left).1,LJ 0,bO e base,aR (left-((t.lsing pos).blob left).2.length)]:=by
 have w0:IntKind.u64.wrap (k:Int)=k:=u64_in _ Om;have hsk:=HL ht p0 p1;have hlk:=Ec ht p0 p1;have hsm:=VA ht p0 p1;have hl:=RX hsk.1 (m:=left) l0;have⟨f1,f2⟩:=Ym (s:=t) pos;have hlr:=Ro t pos 0 p0 p1 ht hn;have hbr:=E3 (t.lsing pos) left 0 Om hsk.1;have⟨F,hF⟩:=Ex (t.links pos);have hV:iS t pos left=⟨F.2,((t.lsing pos).blob left).2⟩:=by rw[←hF]
 rw[hF]at hlk hsm f1 f2 hlr;rw[hV];have⟨D,hD⟩:=Ex (t.lsing pos);rw[hD]at f1 f2 hl hsk hbr;rw[hD];have⟨X,hX⟩:=Ex (D.blob left);rw[hX]at hl hbr;rw[hX];have w1:IntKind.i64.wrap (left-(X.2.length:Int))=left-(X.2.length:Int):=i64_in _ Om;refine RN func150 Adv ?_;refine (mr w0 hp ?_).1
 refine Cr (AF t 0) rfl ?_;refine (mr w0 hp ?_).1;refine Cu (hlr) rfl ?_;refine Aa.p (JQ F.2 hsm.1) ?_;cases h:C6 F.2 with
 |true=>
  have ee:=f2 h;simp only[go_sem,seval,←ee];refine (mok ?_).1;refine Aa.u1 (hbr) rfl (mr @Ab w1 ?_).1;exact FA Adv [0,1,2,3]
 |false=>
  have ee:=f1 h;refine (mp ?_).1;refine Aa.u1 (Aj F.1 3 t.at_ 0) rfl ?_;simp only[go_sem,seval,←ee];refine (mok ?_).1;refine Aa.u1 (hbr) rfl (mr @Ab w1 ?_).1;exact FA Adv [0,1,2,3]
def M1 (t:RS) (e base:Int) (k:Nat) (left pos:Int) (r b c d:Nat) (hnd:[r,b,c,d].Nodup) (ht:Ak t) (hp:IntKind.u64.wrap (base+k)=pos) (hk:k≤1000000) (p0:0≤pos) (p1:pos<18446744073709551616) (l0:0≤left) (l1:left≤1048576) (hn:t.l.length*32≤100000000000000):
 Ct prog 150 [iA k,.ref b 0,.ref c 0,.ref d 0] [(r,AN t),(b,LJ r),(c,bO e base),(d,aR left)] (λ_=>Lt (iS t pos left)) [(r,AN ((t.lsing pos).blob left).1),(b,LJ r),(c,bO e base),(d,aR (left-((t.lsing pos).blob left).2.length))] (λ_=>[]):=
 Ct.u4 (LN t e base k left pos ht hp hk p0 p1 l0 l1 hn) r b c d hnd cl cl cl cl cl cl cl cl cl (by simp[AN]) cl
def Wo {s:RS} {b m:Int} (hc:¬s.code=0):(s.fall b m).1=s:=by
 have hi:(s.int m).1=s:=Jk hc;unfold RS.fall DH.counted;rw[hi];rw[Ji (λs acc hc=>?_) hc];simp only[Df];rw[B1 hc];simp only;rw[if_neg (λh=>hc h.1)]
def Yp {s:RS} {pos:Int} (hc:¬s.code=0):(s.links pos).1=s:=by
 have hi:(s.int 16).1=s:=Jk hc;unfold RS.links DH.counted;rw[hi];rw[Ji (λs acc hc=>?_) hc];have hh:s.lkHead acc=s:=by
  unfold RS.lkHead;rw[B1 hc];simp only;rw[if_neg (λh=>hc h.1)]
 simp only[Cq];rw[hh];exact Wo hc
def Oz {s:RS} {pos:Int} (hc:¬s.code=0):s.lsing pos=s:=by
 have h1:=Yp (pos:=pos) hc;unfold RS.lsing;rw[h1,if_neg (λh=>hc h.1)]
def iT (base:Int):∀s acc,¬s.code=0->((CZ base).f s acc).1=s:=by
 intro s acc hc;simp only[CZ];split
 ·simp only;rw[Oz hc,JB hc]
 ·exact Ef hc
def Qf (u:RS) (e base:Int) (N:Nat) (hu:Ak u) (b0:0≤base) (b1:base<18446744073709551616) (hN:N≤1000000) (hf:u.code=0->base+N≤4611686018427387904) (hn:u.l.length*48≤100000000000000):
 Ah prog 149 [.ref 0 0,iA N,.fn 150 [] [.ref 1 0,.ref 2 0,.ref 3 0]] [AN u,LJ 0,bO e base,aR 1048576] (Fv ((CZ base).many N u []).2) [AN ((CZ base).many N u []).1,LJ 0,bO e base,.cells [.any]]:=by
 have hF:=Ll b0;refine RM func149 Adw ?_
 refine AA (α:=RS×List En) (λa=>.ref 0 0::.any::.fn 150 [] [.ref 1 0,.ref 2 0,.ref 3 0]::.any::.any::.any::.any::.sl (.row 4) 2 (E_ a.2)::.any::.any::iA N::iA a.2.length::Ay (Ay (Ay [.any,.any]))) (λa=>[AN a.1,LJ 0,bO e base,aR (1048576-(AK a.2).length),.row 2 a.2.length]) (λa=>(CZ base).On u N a∧(a.1.code=0->u.code=0)) (λa=>N-a.2.length) (u,[]) ⟨DH.On.start hu N,λh=>h⟩ ((Wk.row 7 2 rfl (.inr rfl) De).trans (Wk.to (by simp[AK]) (by simp[BS,E_]))) ?_;rintro⟨t,acc⟩ ⟨ho,hor⟩;have hla:=ho.len;have h1:=ho.ok;have h2:=ho.l;have h6:=ho.res;have hwf:=ho.wf;simp only at h1 h2 h6 hwf hor;have hsum:=Tx hwf;refine (mp ?_).1;by_cases hlt:acc.length<N
 ·have q0:decide ((acc.length:Int)<(N:Int))=true:=decide_eq_true Om;have ei:=Aw acc.length Om;obtain⟨pos,hpos⟩:∃pos,IntKind.u64.wrap (base+(acc.length:Int))=pos:=⟨_,rfl⟩;have hpr:0≤pos∧pos<18446744073709551616:=by
   rw[←hpos,IntKind.wrap_u64];omega
  have hcl:=M1 t e base acc.length (1048576-(AK acc).length) pos 0 1 2 3 De h1 hpos Om hpr.1 hpr.2 Om Om (by rw[h2];omega);have hff:((CZ base).f t acc).1=((t.lsing pos).blob (1048576-(AK acc).length)).1∧(((t.lsing pos).blob (1048576-(AK acc).length)).1.code=0->((CZ base).f t acc).2=iS t pos (1048576-(AK acc).length)):=by
   by_cases hc0:t.code=0
   ·have hg:base+(acc.length:Int)<4611686018427387904:=by
     have:=hf (hor hc0);omega
    have hpe:pos=base+(acc.length:Int):=by rw[←hpos];exact u64_in _ Om
    rw[Ty hg,←hpe];exact⟨rfl,λ_=>rfl⟩
   ·rw[iT base t acc hc0,Oz hc0,JB hc0];exact⟨rfl,λhh=>absurd hh hc0⟩
  have hdt:(iS t pos (1048576-(AK acc).length)).data=((t.lsing pos).blob (1048576-(AK acc).length)).2:=rfl;obtain⟨V,hV⟩:∃V,iS t pos (1048576-(AK acc).length)=V:=⟨_,rfl⟩;rw[hV]at hff hcl hdt;obtain⟨D,hD⟩:∃D,(t.lsing pos).blob (1048576-(AK acc).length)=D:=⟨_,rfl⟩;rw[hD]at hff hcl hdt;have⟨hf1,hf2⟩:=hff;refine (mq q0 ?_).1;refine Aa.u4 hcl rfl rfl rfl rfl (mp ?_).1;refine Aa.r1 (Ae D.1 0) rfl (mp ?_).1;by_cases hc:D.1.code=0
  ·have hg:D.1.good=true:=by unfold RS.good;simpa using hc
   have hnx:=ho.next hF hlt (by rw[hf1];exact hc);rw[hf1,hf2 hc]at hnx;have hrd:=(hF.read t acc h1 hwf (by rw[hf1];exact hc)).1;have hss:(AK (acc++[V])).length=(AK acc).length+V.data.length:=by rw[F8,length_append]
   have e1:1048576-((AK acc).length:Int)-(D.2.length:Int)=1048576-((AK (acc++[V])).length:Int):=by rw[hss,hdt];omega
   have hsn:E_ acc++[Lt V]=E_ (acc++[V]):=by simp[E_]
   simp only[go_sem,seval,hg,hsn,Aq,ei,e1];refine (mok ?_).1;(repeat with_reducible refine Sa ?_);exact⟨(D.1,acc++[V]),⟨hnx,λ_=>hor hrd⟩,by simp;omega,Wk.sel [0,1,2,3,4] Si rfl Si rfl (by simp[AE,An]) (by simp[BP,AE,AH])⟩
  ·have hg:D.1.good=false:=by unfold RS.good;simpa using hc
   have hb:=DX (F:=CZ base) (s:=t) hlt (by rw[hf1];exact hc);rw[h6,hf1]at hb;rw[hb];have hnil:E_ []=[]:=rfl;refine (mq hg ?_).1;(refine A6.nilk 6 2 rfl ?_;simp only[set_cons_zero,set_cons_succ]);refine A6.wao (ys:=[.any]) 3 rfl (Co.cons (Wa.anyL _) Co.nil) ?_;simp only[set_cons_zero,set_cons_succ]
   exact FE Adw [0,1,2,3] hnil
 ·have q0:decide ((acc.length:Int)<(N:Int))=false:=decide_eq_false Om;have he:=G8 (F:=CZ base) (s:=t) (acc:=acc) (N:=N) Om;rw[h6]at he;rw[he];refine (mq q0 ?_).1;refine UT 6 ?_;refine A6.wao (ys:=[.any]) 3 rfl (Co.cons (Wa.anyL _) Co.nil) ?_;simp only[set_cons_zero,set_cons_succ];exact FA Adw [0,1,2,3]
def SO (u:RS) (e base:Int) (N:Nat) (hu:Ak u) (b0:0≤base) (b1:base<18446744073709551616) (hN:N≤1000000) (hf:u.code=0->base+N≤4611686018427387904) (hn:u.l.length*48≤100000000000000) (r b c d:Nat) (hnd:[r,b,c,d].Nodup):
 Ct prog 149 [.ref r 0,iA N,.fn 150 [] [.ref b 0,.ref c 0,.ref d 0]] [(r,AN u),(b,LJ r),(c,bO e base),(d,aR 1048576)] (λ_=>Fv ((CZ base).many N u []).2) [(r,AN ((CZ base).many N u []).1),(b,LJ r),(c,bO e base),(d,.cells [.any])] (λ_=>[]):=
 Ct.u4 (Qf u e base N hu b0 b1 hN hf hn) r b c d hnd cl cl cl cl cl cl cl cl cl (by simp[AN]) cl
def M2 (s:RS) (hs:Ak s) (hn:s.l.length≤1000000):Ah prog 79 [.ref 0 0] [AN s] (FD s.unpl.2) [AN (s.unpl.1)]:=by
 have⟨a,b⟩:=Bc hs Ac;have⟨c,d⟩:=Bc a AL;have hrg:=Jt a AL;have hck:=Fq c ((s.epo Ac).1.epo AL).2 1 16;have hcr:=CB (s:=((s.epo Ac).1.epo AL).1) (m:=16) c.bys;have hcs:=TC ((s.epo Ac).1.epo AL).1 ((s.epo Ac).1.epo AL).2 1 16;have hci:=λhc=>(TD c (base:=((s.epo Ac).1.epo AL).2) (least:=1) (most:=16) hc)
 have hek:=L1 c hrg.1;have hem:((s.epo Ac).1.epo AL).1.ents ((s.epo Ac).1.epo AL).2=(CZ ((s.epo Ac).1.epo AL).2).many (((s.epo Ac).1.epo AL).1.cnt ((s.epo Ac).1.epo AL).2 1 16).2.toNat (((s.epo Ac).1.epo AL).1.cnt ((s.epo Ac).1.epo AL).2 1 16).1 []:=rfl;have hun:s.unpl=((((s.epo Ac).1.epo AL).1.ents ((s.epo Ac).1.epo AL).2).1.rest9,⟨(s.epo Ac).2,((s.epo Ac).1.epo AL).2,(((s.epo Ac).1.epo AL).1.ents ((s.epo Ac).1.epo AL).2).2⟩):=rfl;rw[hun];have hE1:=EY s 0 hs;have⟨E,hE⟩:=Ex (s.epo Ac);rw[hE]at a b c d hrg hck hcr hcs hci hek hem hE1 ⊢;have hE2:=E9 E.1 0 a;have⟨P,hP⟩:=Ex (E.1.epo AL);rw[hP]at c d hrg hck hcr hcs hci hek hem hE2 ⊢;have hcn:=IJ P.1 P.2 1 16 0 c hrg.1 hrg.2 De;have⟨C,hC⟩:=Ex (P.1.cnt P.2 1 16);rw[hC]at hck hcs hci hem hcn;have hN:C.2=(C.2.toNat:Int):=Om
 have hmn:=SO C.1 E.2 P.2 C.2.toNat hck.1 hrg.1 hrg.2 Om (λhc=>by have:=(hci hc).2.2.2.2.2.1;omega) (by rw[hck.2,d,b];omega) 0 1 3 4 De;rw[←hem,←hN]at hmn;have⟨O,hO⟩:=Ex (P.1.ents P.2);rw[hO]at hek hmn ⊢;refine RM func79 b79 ?_
 refine Cu (hE1) rfl ?_;refine Cu (hE2) rfl ?_;refine Cu (hcn) rfl ?_;refine Aa.u4 hmn rfl rfl rfl rfl (mp ?_).1;refine Cu (Bl O.1 0 hek.1) rfl ?_;exact FA b79 [0]
def OF (s:RS) (i:Nat) (hs:Ak s) (hn:s.l.length≤1000000):Ct prog 79 [.ref i 0] [(i,AN s)] (λ_=>FD s.unpl.2) [(i,AN (s.unpl.1))] (λ_=>[]):=Ct.u1 (M2 s hs hn) i cl (λρ=>An ρ _) (λρ=>An ρ _) (rdr_dead _) cl
abbrev bsO (ep:Int) (acc:List Bt) (j:Nat):Ad:=.cells [uA ep,.sl (.row j) 3 (D7 acc)]
def KC (t:RS) (ep:Int) (acc:List Bt):List Bt:=if(t.frame 2097152).1.code=0 then acc++[(t.bat ep acc).2]else acc
def YZ {t:RS} (ht:Ak t) (m:Int):(t.frame m).2.length≤t.l.length:=by
 by_cases hc:(t.frame m).1.code=0
 ·have⟨f1,f2,f3,f4,f5⟩:=Fo ht hc;have h:=congrArg List.length f5;have k:=(BA ht m).1.at1;rw[(BA ht m).2]at k;rw[length_take,length_append,length_take,EV]at h;unfold CX at h;rw[length_append]at h;omega
 ·rw[RA hc];simp
def gZ {t:RS} (ht:Ak t) (m:Int):AW (t.frame m).2:=by
 by_cases hc:(t.frame m).1.code=0
 ·exact(Fo ht hc).2.2.1
 ·rw[RA hc];intro x hx;simp at hx
def LO (t:RS) (ep:Int) (acc:List Bt) (k:Int) (ht:Ak t) (hn:t.l.length≤1000000) (ha:acc.length≤1000000) (he:Xd acc):
 Ah prog 77 [iA k,.ref 1 0,.ref 2 0] [AN t,LJ 0,bsO ep acc 3,.row 3 acc.length] (FD (t.bat ep acc).2) [AN (t.bat ep acc).1,LJ 0,bsO ep (KC t ep acc) 3,.row 3 (KC t ep acc).length]:=by
 have hfk:=BA ht 2097152;have hfl:=YZ ht 2097152;have hfb:=gZ ht 2097152;have hfr:=Ks t 2097152 0 ht De;have hb:t.bat ep acc=if(t.frame 2097152).1.code=0 then
  (if(RS.new (t.frame 2097152).2).unpl.1.code=0 then
    (if JH ep acc (RS.new (t.frame 2097152).2).unpl.2=true then((t.frame 2097152).1,(RS.new (t.frame 2097152).2).unpl.2)else((t.frame 2097152).1.fail 13 t.at_,(RS.new (t.frame 2097152).2).unpl.2))
  else((t.frame 2097152).1.fail (RS.new (t.frame 2097152).2).unpl.1.code ((t.frame 2097152).1.at_-4-(t.frame 2097152).2.length+(RS.new (t.frame 2097152).2).unpl.1.fat),(RS.new (t.frame 2097152).2).unpl.2))
 else((t.frame 2097152).1,Cc):=rfl
 have hacc:KC t ep acc=if(t.frame 2097152).1.code=0 then acc++[(t.bat ep acc).2]else acc:=rfl
 obtain⟨D,hD⟩:∃D,t.frame 2097152=D:=⟨_,rfl⟩;rw[hD]at hfk hfl hfb hfr hb hacc;have hq0:Ak (RS.new D.2):=Ak.new hfb Om;have hup:=OF (RS.new D.2) 5 hq0 (by show D.2.length≤1000000;omega);have hfa:=(Fa.new D.2).unpl hq0;have huk:=cH hq0;obtain⟨U,hU⟩:∃U,(RS.new D.2).unpl=U:=⟨_,rfl⟩;rw[hU]at hup hfa huk hb;have hul:U.1.l=D.2:=huk.2;have⟨fa0,fa1⟩:=hfa;rw[hul]at fa1;have hat0:=hfk.1.at0;have hat1:=hfk.1.at1;rw[hfk.2]at hat1;have w1:IntKind.i64.wrap (D.1.at_-4)=D.1.at_-4:=i64_in _ Om;have w2:IntKind.i64.wrap (D.1.at_-4-(D.2.length:Int))=D.1.at_-4-D.2.length:=i64_in _ Om;have w3:IntKind.i64.wrap (U.1.fat+(D.1.at_-4-(D.2.length:Int)))=D.1.at_-4-D.2.length+U.1.fat:=by rw[i64_in _ Om];omega
 refine RM func77 b77 ?_
 refine Aa.r1 (AF t 0) rfl (mp ?_).1;refine Aa.u1 (hfr) rfl (mp ?_).1;refine Aa.r1 (Ae D.1 0) rfl (mp ?_).1;by_cases hc:D.1.code=0
 ·have hg:D.1.good=true:=by unfold RS.good;simpa using hc
  rw[if_pos hc]at hb hacc;refine (mq hg ?_).1;refine Aa.n (BO D.2) (mp ?_).1;refine Aa.u1 (hup) rfl (mp ?_).1;refine Aa.r1 (AQ U.1 5) rfl (mp ?_).1;refine Aa.r1 (AF D.1 0) rfl (ms @Ab w1 w2 ?_).1;have hsh:=Ba U.1.code U.1.fat (D.1.at_-4-D.2.length) _ w3;by_cases hz:U.1.code=0
  ·rw[if_pos hz]at hb;have ef:BB U.1.code (D.1.at_-4-D.2.length+U.1.fat)=(0,0):=by unfold BB;rw[if_pos hz]
   rw[ef]at hsh;refine Aa.p (hsh) (mp ?_).1;refine Aa.p (Ai 0 0) (mp ?_).1;refine Aa.p (II ep acc U.2 ha he) ?_;cases hm:JH ep acc U.2 with
   |true=>
    rw[if_pos hm]at hb;rw[hb]at hacc;rw[hb,hacc];simp only;simp only[go_sem,seval,Lo,Ao,length_append];refine (mok ?_).1;(repeat with_reducible refine Sa ?_);exact FA b77 [0,1,2,3]
   |false=>
    rw[if_neg (by rw[hm];decide)]at hb;rw[hb]at hacc;rw[hb,hacc];simp only;refine (mp ?_).1;refine Aa.u1 (Aj D.1 13 t.at_ 0) rfl ?_;simp only[go_sem,seval,Lo,Ao,length_append];refine (mok ?_).1;(repeat with_reducible refine Sa ?_);exact FA b77 [0,1,2,3]
  ·rw[if_neg hz]at hb;have ef:BB U.1.code (D.1.at_-4-D.2.length+U.1.fat)=(U.1.code,D.1.at_-4-D.2.length+U.1.fat):=by unfold BB;rw[if_neg hz]
   have q:(U.1.code==0)=false:=Sx hz
   rw[ef]at hsh;rw[hb]at hacc;rw[hb,hacc];simp only;refine Aa.p (hsh) (mp ?_).1;refine Aa.p (Ai U.1.code (D.1.at_-4-D.2.length+U.1.fat)) (mq q ?_).1;refine Aa.u1 (Aj D.1 U.1.code (D.1.at_-4-D.2.length+U.1.fat) 0) rfl ?_;simp only[go_sem,seval,Lo,Ao,length_append];refine (mok ?_).1;(repeat with_reducible refine Sa ?_);exact FA b77 [0,1,2,3]
 ·have hg:D.1.good=false:=by unfold RS.good;simpa using hc
  rw[if_neg hc]at hb hacc;rw[hb,hacc];have hnil:E_ []=[]:=rfl;refine (mq hg ?_).1;refine WO 4 [uA 0,uA 0,Fv []] ?_
  (refine FB b77 [0,1,2,3] ?_ ?_<;>first|with_reducible rfl|(simp[Cc,hnil];done)|rfl)
def M8 (t:RS) (ep:Int) (acc:List Bt) (k:Int) (ht:Ak t) (hn:t.l.length≤1000000) (ha:acc.length≤1000000) (he:Xd acc) (r b c d:Nat) (hnd:[r,b,c,d].Nodup):
 Ct prog 77 [iA k,.ref b 0,.ref c 0] [(r,AN t),(b,LJ r),(c,bsO ep acc d),(d,.row 3 acc.length)] (λ_=>FD (t.bat ep acc).2) [(r,AN (t.bat ep acc).1),(b,LJ r),(c,bsO ep (KC t ep acc) d),(d,.row 3 (KC t ep acc).length)] (λ_=>[]):=
 Ct.u4 (LO t ep acc k ht hn ha he) r b c d hnd cl cl cl cl cl cl cl cl cl (by simp[AN]) cl
def xS {ep:Int} {l:List Bt} (h:Wf (Gk ep).nx [] l):Xd l:=by
 intro h0;have hm:Bf l∈l:=by
  unfold Bf;have:l.length-1<l.length:=Om
  simp[this]
 have⟨i,hi,e⟩:=getElem_of_mem hm;have hn:=C5 i hi h;rw[e]at hn;have⟨r1,⟨r2,r3⟩,r4⟩:=B2.1 hn.rt;exact⟨Om,hn.ok.b0,Om⟩
abbrev qV (ep:Int) (F:RS×List Bt):Ad:=.cells [uA ep,if F.1.code=0 then GN F.2 else .any]
def yM (ep:Int) (F:RS×List Bt) (ρ:Nat->Nat):(qV ep F).ren ρ=qV ep F:=by
 by_cases h:F.1.code=0<;>simp[h,AE]
def Qg (u:RS) (ep:Int) (N:Nat) (hu:Ak u) (hN:N≤1000000) (hn:u.l.length≤1000000):
 Ah prog 76 [.ref 0 0,iA N,.fn 77 [] [.ref 1 0,.ref 2 0]] [AN u,LJ 0,.cells [uA ep,.sl .full 1 []]] .any [AN ((Gk ep).many N u []).1,LJ 0,qV ep ((Gk ep).many N u [])]:=by
 have hF:=TM ep;refine RM func76 b76 ?_
 refine AA (α:=RS×List Bt) (λa=>.ref 0 0::.any::.fn 77 [] [.ref 1 0,.ref 2 0]::.any::.any::.any::.any::.sl (.row 4) 3 (D7 a.2)::.any::.any::iA N::iA a.2.length::Ay (Ay (Ay [.any,.any]))) (λa=>[AN a.1,LJ 0,bsO ep a.2 3,.row 3 a.2.length,.row 3 a.2.length]) (λa=>(Gk ep).On u N a) (λa=>N-a.2.length) (u,[]) (DH.On.start hu N) ((Wk.rowObj 2 1 3 rfl rfl (.inr rfl) De).trans ((Wk.row 7 3 rfl (.inr rfl) De).trans (Wk.to (by rfl) (by simp[BS,D7])))) ?_;rintro⟨t,acc⟩ ho;have hla:=ho.len;have h1:=ho.ok;have h2:=ho.l;have h6:=ho.res;have hwf:=ho.wf;simp only at h1 h2 h6 hwf;have hends:=xS hwf;refine (mp ?_).1;by_cases hlt:acc.length<N
 ·have q0:decide ((acc.length:Int)<(N:Int))=true:=decide_eq_true Om;have ei:=Aw acc.length Om;have hcl:=M8 t ep acc acc.length h1 (by rw[h2];exact hn) Om hends 0 1 2 3 De;have hff:(Gk ep).f t acc=t.bat ep acc:=rfl;have hfc:=rC (s:=t) (ep:=ep) (acc:=acc);have hac:KC t ep acc=if(t.frame 2097152).1.code=0 then acc++[(t.bat ep acc).2]else acc:=rfl
  obtain⟨D,hD⟩:∃D,t.bat ep acc=D:=⟨_,rfl⟩;rw[hD]at hcl hff hfc hac;obtain⟨A,hA⟩:∃A,KC t ep acc=A:=⟨_,rfl⟩;rw[hA]at hcl hac;refine (mq q0 ?_).1;refine Aa.u4 hcl rfl rfl rfl rfl (mp ?_).1;refine Aa.r1 (Ae D.1 0) rfl (mp ?_).1;by_cases hc:D.1.code=0
  ·have hg:D.1.good=true:=by unfold RS.good;simpa using hc
   have hnx:=ho.next hF hlt (by rw[hff];exact hc);rw[hff]at hnx;rw[if_pos (hfc hc).1]at hac;have e1:A.length=(acc++[D.2]).length:=by rw[hac]
   rw[hac];refine (mt hg @Lo @Ao ei ?_).1;(repeat with_reducible refine Sa ?_);exact⟨(D.1,acc++[D.2]),hnx,by simp;omega,Wk.sel [0,1,2,3,4] Si rfl Si rfl (by simp[AE,An,AH]) (by simp[BP,AE,AH])⟩
  ·have hg:D.1.good=false:=by unfold RS.good;simpa using hc
   have hb:=DX (F:=Gk ep) (s:=t) hlt (by rw[hff];exact hc);rw[h6,hff]at hb;rw[hb];have hbf:qV ep (D.1,[])=.cells [uA ep,.any]:=by simp[qV,hc]
   rw[hbf];refine (mq hg ?_).1;refine A6.wa (y:=.any) 6 rfl (Wa.anyS _ _ _) ?_;simp only[set_cons_zero,set_cons_succ];refine A6.wao (ys:=[uA ep,.any]) 2 rfl (Co.cons (Wa.refl _) (Co.cons (Wa.anyS _ _ _) Co.nil)) ?_;simp only[set_cons_zero,set_cons_succ];exact FA b76 [0,1,2]
 ·have q0:decide ((acc.length:Int)<(N:Int))=false:=decide_eq_false Om;have he:=G8 (F:=Gk ep) (s:=t) (acc:=acc) (N:=N) Om;rw[h6]at he;rw[he];refine (mq q0 ?_).1;refine A6.wa (y:=.any) 6 rfl (Wa.anyS _ _ _) ?_;simp only[set_cons_zero,set_cons_succ];by_cases hc:t.code=0
  ·have hbf:qV ep (t,acc)=.cells [uA ep,GN acc]:=by simp[qV,hc]
   rw[hbf];refine UO 2 ?_;exact FA b76 [0,1,2]
  ·have hbf:qV ep (t,acc)=.cells [uA ep,.any]:=by simp[qV,hc]
   rw[hbf];refine A6.wao (ys:=[uA ep,.any]) 2 rfl (Co.cons (Wa.refl _) (Co.cons (Wa.anyS _ _ _) Co.nil)) ?_;simp only[set_cons_zero,set_cons_succ];exact FA b76 [0,1,2]
def SP (u:RS) (ep:Int) (N:Nat) (hu:Ak u) (hN:N≤1000000) (hn:u.l.length≤1000000) (r b c:Nat) (hnd:[r,b,c].Nodup):
 Ct prog 76 [.ref r 0,iA N,.fn 77 [] [.ref b 0,.ref c 0]] [(r,AN u),(b,LJ r),(c,.cells [uA ep,.sl .full 1 []])] (λ_=>.any) [(r,AN ((Gk ep).many N u []).1),(b,LJ r),(c,qV ep ((Gk ep).many N u []))] (λ_=>[]):=
 Ct.u3 (Qg u ep N hu hN hn) r b c hnd cl cl cl cl cl cl (λN=>yM ep _ _) (by simp[AN]) cl
def O0 (s:RS) (u:EL):EL×(Int×Int):=if s.code=0 then(u,(0,0))else(CH,(s.code,s.fat))
def SR (s:RS) (u:EL) (x:AV) (hx:s.code=0->x=GN u.bt) (hr:∀ρ,x.ren ρ=x) (hp:x=.any∨∃l,x=GN l):Ah prog 82 [.ref 0 0,.agg [uA u.ep,x]] [AN s] (.tup [Et (O0 s u).1,Ce (O0 s u).2]) [AN (s)]:=by
 by_cases hc:s.code=0
 ·have q:(s.code==0)=true:=Sx hc
  have e:O0 s u=(u,(0,0)):=by unfold O0;rw[if_pos hc]
  rw[e,hx hc];refine RM func82 b82 ?_
  refine Cr (AQ s 0) rfl ?_;refine Aa.p (Ai s.code s.fat) (mq q ?_).1;exact FA b82 [0]
 ·have q:(s.code==0)=false:=Sx hc
  have e:O0 s u=(CH,(s.code,s.fat)):=by unfold O0;rw[if_neg hc]
  rw[e];refine RM func82 b82 ?_
  refine Cr (AQ s 0) rfl ?_;refine Aa.p (Ai s.code s.fat) (mq q ?_).1;refine WO 2 [uA 0,GN []] ?_
  exact FK b82 [0] (by simp[CH,yK])
def OJ (b:List Int) (hb:AW b) (hn:b.length≤1000000):Ct prog 28 [Bd .u8 b] [] (λ_=>.tup [Et (dec2 b).1,Ce (dec2 b).2]) [] (λ_=>[]):=by
 refine Ah.toCt ?_ cl cl
 have hok:Ak (RS.new b):=Ak.new hb Om;have hbk:=H0 hok 2;have hir:=CB (s:=(RS.new b).begin 2) (m:=32) hbk.1.bys;have hik:=hbk.1.int 32;have hbl:(RS.new b).l=b:=rfl;have hck:=Da (TM (RS.new b).header.2.ep) hbk.1 32;have hdef:dec2 b=O0 (RS.new b).dec2.1 (RS.new b).dec2.2:=rfl;have hd1:(RS.new b).dec2=((((RS.new b).begin 2).bats (RS.new b).header.2.ep).1.rest9,⟨(RS.new b).header.2.ep,(((RS.new b).begin 2).bats (RS.new b).header.2.ep).2⟩):=rfl;rw[hdef,hd1];have hom:((RS.new b).begin 2).bats (RS.new b).header.2.ep=(Gk (RS.new b).header.2.ep).many (((RS.new b).begin 2).int 32).2.toNat (((RS.new b).begin 2).int 32).1 []:=rfl;have hck1:Ak (((RS.new b).begin 2).bats (RS.new b).header.2.ep).1:=hck.1;have hbg:=K5 (RS.new b) 2 2 hok De;have⟨H,hH⟩:=Ex ((RS.new b).header.2);rw[hH]at hck1 hom hbg ⊢;have⟨B,hB⟩:=Ex ((RS.new b).begin 2);rw[hB]at hbk hir hik hck1 hom hbg ⊢;have hin:=AS B 32 2 De hbk.1.ok hbk.1.bys;have⟨C,hC⟩:=Ex (B.int 32);rw[hC]at hir hik hom hin;have hN:C.2=(C.2.toNat:Int):=Om
 have hmn:=SP C.1 H.ep C.2.toNat hik.1 Om (by rw[hik.2,hbk.2,hbl];exact hn) 2 3 5 De;rw[←hom,←hN]at hmn;have⟨O,hO⟩:=Ex (B.bats H.ep);rw[hO]at hck1 hmn ⊢;have⟨x,hx⟩:=Ex ((if O.1.code=0 then GN O.2 else AV.any));have hx1:O.1.rest9.code=0->x=GN (⟨H.ep,O.2⟩:EL).bt:=λh=>by rw[←hx,if_pos (F1 h).1]
 have hx2:∀ρ,x.ren ρ=x:=λρ=>by rw[←hx];split<;>simp[AE]
 have hx3:x=.any∨∃l,x=GN l:=by
  rw[←hx];split
  ·exact .inr ⟨_,rfl⟩
  ·exact .inl rfl
 have hbf:qV H.ep O=.cells [uA H.ep,x]:=by rw[←hx]
 rw[hbf]at hmn;have hgt:=SR O.1.rest9 ⟨H.ep,O.2⟩ x hx1 hx2 hx3;have hgc:Ct prog 82 [.ref 2 0,.agg [uA H.ep,x]] [(2,AN O.1.rest9)] (λ_=>.tup [Et (O0 O.1.rest9 ⟨H.ep,O.2⟩).1,Ce (O0 O.1.rest9 ⟨H.ep,O.2⟩).2]) [] (λ_=>[]):=
  Ct.r1 hgt 2 (by intros;simp[AE,AH,hx2]) (λρ=>An ρ _) (rdr_dead _) cl
 have hut:Fu x=x:=by rcases hx3 with h|⟨l,h⟩<;>rw[h]<;>rfl
 refine RM func28 b28 ?_
 refine Aa.n (BO b) (mp ?_).1;refine Cu (hbg) rfl ?_;refine Cu (hin) rfl ?_;refine Aa.u3 hmn rfl rfl rfl (mp ?_).1;refine Cu (Bl O.1 2 hck1) rfl ?_;refine Aa.r1 (i:=2) (o:=AN O.1.rest9) (r:=.tup [Et (O0 O.1.rest9 ⟨H.ep,O.2⟩).1,Ce (O0 O.1.rest9 ⟨H.ep,O.2⟩).2]) (show Ct _ _ [.ref 2 0,.agg [uA H.ep,Fu x]] _ _ _ _ from by rw[hut];exact hgc) rfl ?_;refine (mp ?_).1;exact FA b28 []
structure S2 where
 t:RS
 xs:List AV
 i:Nat
structure S2.ok (ep:Int) (u:RS) (N:Nat) (s:S2):Prop where
 i:s.i≤N
 x:s.xs.length≤N
 st:(∃acc,s.xs=D7 acc∧acc.length=s.i∧(Gk ep).On u N (s.t,acc))∨(¬s.t.code=0∧(Gk ep).many N u []=(s.t,[]))
 k:3≤3
 okx:∀ρ:Nat->Nat,s.xs.map (λx=>x.ren ρ)=s.xs
structure BtW (b:Bt):Prop where
 ok:b.ok
 small:DG b
 right:BL b=true
def Ab1 {base:Int} {l:List En} (h:∀i,i<l.length->Cx (base+i) (l.getD i Dt)=true):∀k,k≤l.length->(OY base (l.take k)).length≤980*k:=by
 intro k
 induction k with
 |zero=>intro _;simp[OY,gQ,Bo]
 |succ k ih=>
  intro hk;have h1:=ih Om;have h2:=gR (C7.1 (h k Om)).1;rw[Jo Om,length_append];omega
def Lp {b:Bt} (hw:BtW b):(OY b.base b.en).length≤15680∧(HZ (AK b.en)).length≤1048587∧(Eh b).length≤1064300:=by
 have⟨r1,r2,r3,r4⟩:=B2.1 hw.right;have h1:=Ab1 r4 b.en.length (Nat.le_refl _);rw[take_length]at h1;have h2:=Py (AK b.en);have h3:=(A7 ((AK b.en).length:Int)).2;have v3:(vb ((AK b.en).length:Int)).length≤10:=Om
 have v4:=(A7 b.ep).2;have v5:=(A7 b.base).2;have v6:=(A7 (b.en.length:Int)).2;have v7:(HZ (AK b.en)).length≤1048576+1+(vb ((AK b.en).length:Int)).length:=Om
 refine⟨Om,Om,?_⟩;unfold Eh;simp only[length_append];omega
def UI (b:Bt):Int:=40+((vb ((AK b.en).length:Int)).length+(AK b.en).length)+(OY b.base b.en).length
def WV (b:Bt) (hw:BtW b):Ah prog 174 [FD b] [] (iA (UI b)) []:=by
 have hb:=hw.ok;have hs:=hw.small;have⟨r1,r2,r3,r4⟩:=B2.1 hw.right;have b0:=hb.b0;have hl:=Lp hw;obtain⟨Z,hZ⟩:∃Z:Nat->Nat,Z=λk=>(OY b.base (b.en.take k)).length:=⟨_,rfl⟩
 have hZ0:Z 0=0:=by rw[hZ];simp[OY,gQ,Bo]
 have hZn:Z b.en.length=(OY b.base b.en).length:=by rw[hZ];simp
 have hZs:∀k,k<b.en.length->Z (k+1)=Z k+(Fm (b.base+k) (b.en.getD k Dt)).length:=λk hk=>by
  rw[hZ];simp only;rw[Jo hk,length_append]
 have hZl:∀k,k≤b.en.length->Z k≤15680:=λk hk=>by
  have:=Aar (base:=b.base) (l:=b.en) k hk;rw[hZ];simp only;omega
 have hv:=(A7 ((AK b.en).length:Int)).2;have e1:max ((AK b.en).length:Int) 0=(AK b.en).length:=Om
 have bs:=JC ((AK b.en).length:Int) Om;rw[e1]at bs;obtain⟨q,hq⟩:∃q:Int,((vb ((AK b.en).length:Int)).length:Int)+(AK b.en).length=q:=⟨_,rfl⟩;have er:UI b=40+q+Z b.en.length:=by rw[←hq,hZn];rfl
 rw[hq]at bs;have w0:IntKind.i64.wrap (40+q)=40+q:=i64_in _ Om;rw[er];refine RN func174 Ag6 ?_;refine (mq @Aq ?_).1
 refine Aa.p (IT b.en hs.n (by have:=hs.s;omega)) ?_;refine (mp ?_).1;refine Aa.p (bs) (mr w0 @Aq ?_).1;refine AA (α:=Nat) (λk=>.any::.ref 0 0::.any::iA (40+q+(Z k:Int))::Ay (Ay (Fv b.en::iA b.en.length::iA k::Ay (Ay (Ay [.any,.any,.any]))))) (λ_=>[btO b]) (λk=>k≤b.en.length) (λk=>b.en.length-k) 0 Si (Wk.to (by simp[hZ0]) (by simp[BS,hZ0])) ?_;intro k hk;refine (mp ?_).1;by_cases hlt:k<b.en.length
 ·have q1:decide ((k:Int)<(b.en.length:Int))=true:=decide_eq_true Om;have ek:=Aw k Om;have g:=EK b.en k hlt;have hm:=L4 b.en k hlt;have hz:=hZs k hlt;have hzl:=hZl (k+1) hlt;have hrk:=r4 k hlt;have hok:=hb.en _ hm;have hsm:=hs.e _ hm;have wk:IntKind.u64.wrap (k:Int)=k:=u64_in _ Om;have wp:IntKind.u64.wrap (b.base+(k:Int))=b.base+k:=u64_in _ Om;obtain⟨e,he⟩:∃e,b.en.getD k Dt=e:=⟨_,rfl⟩;rw[he]at g hm hz hrk hok hsm;have hsz:Mj (b.base+k) e=((Fm (b.base+k) e).length:Int):=by unfold Mj;rw[if_pos hrk]
  have gQ:=Pd (b.base+k) e hok hsm Om Om;obtain⟨y,hy⟩:∃y,Mj (b.base+k) e=y:=⟨_,rfl⟩;rw[hy]at hsz gQ;have w2:IntKind.i64.wrap (40+q+(Z k:Int)+y)=40+q+(Z (k+1):Nat):=by rw[i64_in _ Om];omega
  simp only[go_sem,seval,q1,g,Aq,Int.toNat_natCast,wk,wp];refine (mok ?_).1;(repeat with_reducible refine Sa ?_);refine Aa.p (gQ) (mr w2 ek ?_).1;exact⟨k+1,hlt,Om,Wk.sel [0] Si rfl Si rfl (by simp[AE]) (by simp[BP,AE])⟩
 ·have q1:decide ((k:Int)<(b.en.length:Int))=false:=decide_eq_false Om;have ek:k=b.en.length:=Om
  subst ek;refine (mq q1 ?_).1;exact FA Ag6 []
def ZF (b:Bt) (hw:BtW b):Ct Tryz.prog 174 [FD b] [] (λ_=>iA (UI b)) [] (λ_=>[]):=(WV b hw).toCt cl cl
def ZG (s:WS) (b:Bt) (hs0:s.fine) (hc:s.code=0) (hm0:(s.l.length:Int)+(Eh b).length≤s.most) (hw:BtW b):Ah prog 175 [.ref 0 0,FD b] [B0 1 s,AX s] (.tup []) [B0 1 (⟨s.most,s.l++Eh b,0⟩),AX (⟨s.most,s.l++Eh b,0⟩)]:=by
 have hb:=hw.ok;have hs:=hw.small;have⟨r1,r2,r3,r4⟩:=B2.1 hw.right;have b0:=hb.b0;have hl:=Lp hw;have m0:=hs0.m0;have m1:=hs0.m1;have w4:IntKind.u64.wrap (b.en.length:Int)=b.en.length:=u64_in _ Om;have hbl:(Eh b).length=(vb b.ep).length+((vb b.base).length+((vb (b.en.length:Int)).length+((OY b.base b.en).length+(HZ (AK b.en)).length))):=by unfold Eh;simp only[length_append]
 obtain⟨m,hm⟩:∃m,s.most=m:=⟨_,rfl⟩;obtain⟨L,hL⟩:∃L,s.l=L:=⟨_,rfl⟩;have es:s=⟨m,L,0⟩:=by cases s;simp_all
 subst es;simp only at hm0 m0 m1 ⊢;have a1:(⟨m,L,0⟩:WS).epput b.ep (Ac b.ep)=⟨m,L++vb b.ep,0⟩:=by
  unfold WS.epput;rw[if_pos (Bq.2 r1),CP rfl (by simp only;omega)]
 have a2:(⟨m,L++vb b.ep,0⟩:WS).epput b.base (AL b.base)=⟨m,L++vb b.ep++vb b.base,0⟩:=by
  unfold WS.epput;rw[if_pos (DL.2 r2.2.1),CP rfl (by simp only[length_append];omega)]
 have a3:(⟨m,L++vb b.ep++vb b.base,0⟩:WS).put (vb (b.en.length:Int))=⟨m,L++vb b.ep++vb b.base++vb (b.en.length:Int),0⟩:=by
  rw[CP rfl (by simp only[length_append];omega)]
 have f1:(⟨m,L++vb b.ep,0⟩:WS).fine:=⟨by simp only;omega,by simp only;omega,by simp only[length_append];omega⟩;have f2:(⟨m,L++vb b.ep++vb b.base,0⟩:WS).fine:=⟨by simp only;omega,by simp only;omega,by simp only[length_append];omega⟩;obtain⟨A,hA⟩:∃A,L++vb b.ep++vb b.base++vb (b.en.length:Int)=A:=⟨_,rfl⟩;have hAl:A.length=L.length+(vb b.ep).length+(vb b.base).length+(vb (b.en.length:Int)).length:=by rw[←hA];simp only[length_append]
 rw[hA]at a3;obtain⟨W,hW⟩:∃W:Nat->WS,W=λk=>⟨m,A++OY b.base (b.en.take k),0⟩:=⟨_,rfl⟩
 have hlen:∀k,k≤b.en.length->(A++OY b.base (b.en.take k)).length≤m:=λk hk=>by
  have:=Aar (base:=b.base) (l:=b.en) k hk;rw[length_append];omega
 have hfine:∀k,k≤b.en.length->(W k).fine:=λk hk=>by
  have:=hlen k hk;rw[hW];exact⟨by simp only;omega,by simp only;omega,by simp only;omega⟩
 have hW0:(⟨m,A,0⟩:WS)=W 0:=by rw[hW];simp[OY,gQ,Bo]
 rw[hW0]at a3;have hWn:∀k,k<b.en.length->(W k).ehead (b.base+k) (b.en.getD k Dt)=W (k+1):=λk hk=>by
  have hl:=hlen (k+1) hk;rw[Jo hk]at hl;simp only[length_append]at hl;rw[hW];simp only;rw[iY (r4 k hk) rfl (by simp only[length_append];omega),Jo hk];simp only[append_assoc]
 have hfin:(W b.en.length).blk (AK b.en)=⟨m,L++Eh b,0⟩:=by
  rw[hW];simp only;rw[bJ rfl (by simp only[length_append,take_length];omega),←hA,take_length];unfold Eh;simp only[append_assoc]
 refine RM func175 Ag5 ?_
 refine Aa.p (I2 b hb hs) (mq hw.right ?_).1;refine Aa.u2 (Js ⟨m,L,0⟩ b.ep 0 1 De hb.e0 hb.e1 hs0) rfl rfl (mq a1 ?_).1;refine Aa.u2 (Lj ⟨m,L++vb b.ep,0⟩ b.base 0 1 De hb.b0 hb.b1 f1) rfl rfl (ms a2 @Aq w4 ?_).1;refine Aa.u2 (Br ⟨m,L++vb b.ep++vb b.base,0⟩ b.en.length 0 1 De Om Om f2.ok (f2.room _)) rfl rfl (mr a3 @Aq ?_).1;refine AA (α:=Nat) (λk=>.ref 0 0::.any::.any::.ref 2 0::Az (Ay (.any::.any::Fv b.en::iA b.en.length::iA k::Az [.any,.any]))) (λk=>[B0 1 (W k),AX (W k),btO b]) (λk=>k≤b.en.length) (λk=>b.en.length-k) 0 Si (Wk.to (by rfl) (by simp[BS])) ?_;intro k hk;refine (mp ?_).1;by_cases hlt:k<b.en.length
 ·have q1:decide ((k:Int)<(b.en.length:Int))=true:=decide_eq_true Om;have ek:=Aw k Om;have g:=EK b.en k hlt;have hme:=L4 b.en k hlt;have hok:=hb.en _ hme;have hsm:=hs.e _ hme;have hwn:=hWn k hlt;have hf:=hfine k Om;have wk:IntKind.u64.wrap (k:Int)=k:=u64_in _ Om;have wp:IntKind.u64.wrap (b.base+(k:Int))=b.base+k:=u64_in _ Om;obtain⟨e,he⟩:∃e,b.en.getD k Dt=e:=⟨_,rfl⟩;rw[he]at g hme hok hsm hwn;simp only[go_sem,seval,q1,g,Aq,Int.toNat_natCast,wk,wp];refine (mok ?_).1;(repeat with_reducible refine Sa ?_);refine Aa.u2 (QC (W k) (b.base+k) e 0 1 De hf hok hsm Om Om) rfl rfl (mr hwn ek ?_).1;exact⟨k+1,hlt,Om,Wk.sel [0,1,2] Si rfl Si rfl (by simp[AE,I6,wrow_ren,AH]) (by simp[BP,AE,AH])⟩
 ·have q1:decide ((k:Int)<(b.en.length:Int))=false:=decide_eq_false Om;have ek:k=b.en.length:=Om
  subst ek;refine (mq q1 ?_).1;refine Aa.n (Zn b.en hs.n hs.s) (mp ?_).1;refine Aa.u2 (RW (W b.en.length) (AK b.en) 0 1 De (hfine _ (Nat.le_refl _)) r3) rfl rfl (mq hfin ?_).1;exact FA Ag5 [0,1]
def jM (s:WS) (b:Bt) (i j:Nat) (h:i≠j) (hs:s.fine) (hc:s.code=0) (hm:(s.l.length:Int)+(Eh b).length≤s.most) (hw:BtW b):Ct prog 175 [.ref i 0,FD b] [(i,B0 j s),(j,AX s)] (λ_=>.tup []) [(i,B0 j (⟨s.most,s.l++Eh b,0⟩)),(j,AX (⟨s.most,s.l++Eh b,0⟩))] (λ_=>[]):=Ct.u2 (ZG s b hs hc hm hw) i j h cl cl cl cl cl (Bx _ _) (Bg _) CN
def W0 (b:Bt) (hw:BtW b):Ct prog 101 [FD b] [] (λ_=>.tup [Bd .u8 (Eh b),iA 0]) [] (λ_=>[]):=by
 refine Ah.toCt ?_ cl cl
 have⟨r1,r2,r3,r4⟩:=B2.1 hw.right;have hl:=Lp hw;have hbl:=Py (AK b.en);have v4:=(A7 b.ep).2;have v5:=(A7 b.base).2;have v6:=(A7 (b.en.length:Int)).2;have v7:=(A7 ((AK b.en).length:Int)).2;have hlen:(Eh b).length=(vb b.ep).length+((vb b.base).length+((vb (b.en.length:Int)).length+((OY b.base b.en).length+(HZ (AK b.en)).length))):=by unfold Eh;simp only[length_append]
 have hrm:UI b=40+((vb ((AK b.en).length:Int)).length+(AK b.en).length)+(OY b.base b.en).length:=rfl;have⟨m,hm⟩:=Ex (UI b);have hrr:=ZF b hw;rw[hm]at hrm hrr;have f0:(WS.new m).fine:=WS.fine.new Om;have hn:=WS.new_is (n:=m) Om;have hput:=jM (WS.new m) b 1 2 De f0 (by rw[hn]) (by rw[hn];simp;omega) hw;rw[hn]at hput;simp only[nil_append]at hput;refine RM func101 Ahy ?_
 refine Cp (hrr) ?_;refine Aa.n (E5 m) (mq hn ?_).1;refine Aa.u2 (hput) rfl rfl (mp ?_).1;refine Aa.r2 (BW ⟨m,Eh b,0⟩ 1 2 De (by simp only;omega)) rfl rfl ?_;refine (mp ?_).1
 exact FK Ahy [] (by simp[WS.bytes])
def DB (g:EL):Bool:=Ac g.ep&&(decide (g.bt.length≤16)&&(List.range g.bt.length).all λi=>BL (g.bt.getD i Cc)&&Ey g.ep (g.bt.take i) (g.bt.getD i Cc))
def DA {g:EL}:DB g=true↔(1≤g.ep∧g.ep<4611686018427387904)∧g.bt.length≤16∧∀i,i<g.bt.length->BL (g.bt.getD i Cc)=true∧Ey g.ep (g.bt.take i) (g.bt.getD i Cc)=true:=by
 unfold DB;rw[Bool.and_eq_true,Bool.and_eq_true,decide_eq_true_eq,all_eq_true,Bq];constructor
 ·rintro⟨h1,h2,h3⟩;refine⟨h1,h2,λi hi=>?_⟩;have:=h3 i (mem_range.2 hi);rw[Bool.and_eq_true]at this;exact this
 ·rintro⟨h1,h2,h3⟩;refine⟨h1,h2,λi hi=>?_⟩;rw[Bool.and_eq_true];exact h3 i (mem_range.1 hi)
def Q5 {b:Bt} (hb:b.ok) (h:BL b=true):R1 b:=by
 have⟨r1,⟨r2,r2',r2''⟩,r3,r4⟩:=B2.1 h;refine⟨hb,r2.2,r2'',λe he=>?_⟩;obtain⟨i,hi,rfl⟩:=getElem_of_mem he;have h1:=r4 i hi;have h2:b.en.getD i Dt=b.en[i]:=by simp[hi]
 rw[h2]at h1;have⟨h3,h4⟩:=C7.1 h1;have⟨h5,h6⟩:=Rk (hb.en _ (getElem_mem hi)).lk h3;exact⟨h5,h6,h4⟩
def Er (l:List Bt):List Int:=l.flatMap λb=>Ag (1::Eh b)
def EF (a:Int):List Bt->List Mk
 |[]=>[]
 |b::l=>⟨b.base,b.en.length,a⟩::EF (a+(Ag (1::Eh b)).length) l
def ZB (l:List Bt) (b:Bt):Er (l++[b])=Er l++Ag (1::Eh b):=by simp[Er]
def Ps (b:Bt) (l:List Bt):Er (b::l)=Ag (1::Eh b)++Er l:=by simp[Er]
def Vq (l:List Bt) (b:Bt):∀a,EF a (l++[b])=EF a l++[⟨b.base,b.en.length,a+(Er l).length⟩]:=by
 induction l with
 |nil=>intro a;simp[EF,Er]
 |cons x l ih=>
  intro a;simp only[cons_append,EF,ih,Ps,length_append];congr 3;simp only[Mk.mk.injEq,true_and];omega
def JP (l:List Bt):∀a,(EF a l).length=l.length:=by
 induction l with
 |nil=>intro a;rfl
 |cons x l ih=>intro a;simp[EF,ih]
def P0 (g:EL):List Int:=Am ⟨3,g.ep,0⟩++Er g.bt
def Fx (g:EL):List Mk:=EF (Am ⟨3,g.ep,0⟩).length g.bt
def J1 (g:EL):Ft:=Ib g.ep (Fx g) (P0 g).length (Ag (2::CJ (Fx g))).length
def JG (g:EL):List Int:=P0 g++Ag (2::CJ (Fx g))++IP (J1 g)
def bP:Int->List Bt->Prop
 |_,[]=>True
 |p,b::l=>p≤b.base∧1≤b.en.length∧b.en.length≤16∧b.base+b.en.length≤4611686018427387904∧bP (b.base+b.en.length) l
def I0 (l:List Bt) (b:Bt):Bf (l++[b])=b:=by simp[Bf]
def O3 {ep:Int} {bs:List Bt} {b:Bt}:Ey ep bs b=true↔b.ep≤ep∧(bs.length=0∨((Bf bs).ep≤b.ep∧(Bf bs).base+(Bf bs).en.length≤b.base)):=by
 simp[Ey]
def lX {ep:Int}:∀(suf pre:List Bt) (p:Int),(pre=[]->p=0)->(¬pre=[]->p=(Bf pre).base+(Bf pre).en.length)->(∀b∈suf,0≤b.base)->
 (∀i,i<suf.length->BL (suf.getD i Cc)=true∧Ey ep (pre++suf.take i) (suf.getD i Cc)=true)->bP p suf:=by
 intro suf
 induction suf with
 |nil=>intros;trivial
 |cons b l ih=>
  intro pre p h1 h2 h0 h;have h3:=h 0 Si;simp only[take_zero,append_nil,getD_cons_zero]at h3;have⟨r1,⟨⟨r2,r2'⟩,r3,r4⟩,r5,r6⟩:=B2.1 h3.1;have⟨f1,f2⟩:=O3.1 h3.2;refine⟨?_,r2,r2',r4,?_⟩
  ·by_cases hp:pre=[]
   ·rw[h1 hp];exact h0 b Si
   ·rw[h2 hp];rcases f2 with f2|f2
    ·exact absurd (eq_nil_of_length_eq_zero f2) hp
    ·exact f2.2
  ·refine ih (pre++[b]) _ (λh=>by simp at h) (λ_=>by rw[I0]) (λx hx=>h0 x (by simp[hx])) λi hi=>?_
   have h4:=h (i+1) (by simp;omega);simp only[take_succ_cons,getD_cons_succ]at h4;rw[append_assoc,singleton_append];exact h4
def UJ {g:EL} (hr:DB g=true) (hb:∀b∈g.bt,b.ok):bP 0 g.bt:=by
 have⟨h1,h2,h3⟩:=DA.1 hr;exact lX (ep:=g.ep) g.bt [] 0 (λ_=>rfl) (λh=>absurd rfl h) (λb hb'=>(hb b hb').b0) λi hi=>by simpa using h3 i hi
def XL:∀(l:List Bt) (p a x:Int),bP p l->a<x->(∀b∈l,((Ag (1::Eh b)).length:Int)≤2200000∧0<(Ag (1::Eh b)).length)->x+2200000*l.length≤1099511627775->DI p a (EF x l)=true:=by
 intro l
 induction l with
 |nil=>intros;rfl
 |cons b l ih=>
  intro p a x h hx hf hn;have⟨h1,h2,h3,h4,h5⟩:=h;have⟨f1,f2⟩:=hf b Si;simp only[length_cons]at hn;simp only[EF,DI,Bool.and_eq_true,decide_eq_true_eq];refine⟨⟨by(try simp only[]);omega,by(try simp only[]);omega,by(try simp only[]);omega,by(try simp only[]);omega,by(try simp only[]);omega,by(try simp only[]);omega⟩,ih _ _ _ h5 (by(try simp only[]);omega) (λy hy=>hf y (by simp[hy])) Om⟩
def V7 {ep a n:Int} {l:List Mk} (hl:A5 l=true) (he:1≤ep∧ep<4611686018427387904) (ha:1≤a∧a≤1099511627775) (hn:1≤n∧n≤2097152):AG (Ib ep l a n)=true∧(Ib ep l a n).ok:=by
 have h16:=(BY.1 hl).2;have⟨c1,c2⟩:=WH hl l.length (Nat.le_refl _);have hg:Ib ep l a n=⟨ep,l.length,DP l l.length,(Ep l).1,(Ep l).2,a,n⟩:=by unfold Ib;rw[if_pos hl]
 rw[hg];by_cases hz:l.length=0
 ·have he:Ep l=(0,0):=by unfold Ep;rw[if_pos (.inl hz)]
  rw[he];refine⟨Hy.2 ⟨by(try simp only[]);omega,by(try simp only[]);omega,by(try simp only[]);omega,NQ.2 ⟨λ_=>⟨rfl,rfl⟩,λh=>absurd (by simp[hz]) h⟩⟩,⟨by(try simp only[]);omega,by(try simp only[]);omega,by(try simp only[]);omega,Si,Si,by(try simp only[]);omega,by(try simp only[]);omega⟩⟩
 ·have he:Ep l=((l.getD 0 Dq).pos,(l.getD (l.length-1) Dq).fin):=by unfold Ep;rw[if_neg (by rintro(h|h);exact hz h;rw[hl]at h;cases h)]
  rw[he];have s1:=tT hl (l.length-1) Om;rw[show l.length-1+1=l.length by omega]at s1;have b1:=FY hl (k:=0) Om;have b2:=FY hl (k:=l.length-1) Om;have hf:(l.getD (l.length-1) Dq).fin=(l.getD (l.length-1) Dq).pos+(l.getD (l.length-1) Dq).cnt:=rfl;refine⟨Hy.2 ⟨by(try simp only[]);omega,by(try simp only[]);omega,by(try simp only[]);omega,NQ.2 ⟨λh=>absurd h (by(try simp only[]);omega),λ_=>⟨by(try simp only[]);omega,by(try simp only[]);omega,by(try simp only[]);omega⟩⟩⟩,⟨by(try simp only[]);omega,by(try simp only[]);omega,by(try simp only[]);omega,by(try simp only[]);omega,by(try simp only[]);omega,by(try simp only[]);omega,by(try simp only[]);omega⟩⟩
def XN {g:EL} {i:Nat} (hi:i<g.bt.length) (h:¬(BL (g.bt.getD i Cc)=true∧Ey g.ep (g.bt.take i) (g.bt.getD i Cc)=true)):DB g=false:=by
 cases hr:DB g with
 |false=>rfl
 |true=>exact absurd ((DA.1 hr).2.2 i hi) h
def NX (g:EL) (hn:g.bt.length≤1000000) (hb:∀b∈g.bt,b.ok∧DG b):Ah prog 42 [Et g] [] (bA (DB g)) []:=by
 refine RM func42 b42 ?_
 refine Aa.p (AO g.ep) (mp ?_).1;cases he:Ac g.ep with
 |false=>
  have e:DB g=false:=by unfold DB;rw[he,Bool.false_and]
  refine (mp ?_).1
  exact FE b42 [] e
 |true=>
  refine (mq @Ao ?_).1;by_cases h16:g.bt.length≤16
  ·have q0:decide ((16:Int)<(g.bt.length:Int))=false:=decide_eq_false Om;refine (mr q0 @Ao ?_).1;refine AA (α:=Nat) (λk=>.any::.ref 0 0::bA false::Ay (Ay (Ay (.any::GN g.bt::iA g.bt.length::iA k::Az (Ay []))))) (λ_=>[PU g]) (λk=>k≤g.bt.length∧∀i,i<k->BL (g.bt.getD i Cc)=true∧Ey g.ep (g.bt.take i) (g.bt.getD i Cc)=true) (λk=>g.bt.length-k) 0 ⟨Si,λi hi=>by omega⟩ (Wk.to Si (by simp[BS])) ?_;rintro k ⟨hk,hall⟩;refine (mp ?_).1;by_cases hlt:k<g.bt.length
   ·have q1:decide ((k:Int)<(g.bt.length:Int))=true:=decide_eq_true Om;have ek:=Aw k Om;have hg:=GB g.bt k hlt;have hmem:g.bt.getD k Cc∈g.bt:=by simp[hlt]
    have⟨ho,hs⟩:=hb _ hmem;have hno:=XN (g:=g) hlt;have hS:∀x∈g.bt.take k,R1 x:=λx hx=>by
     obtain⟨i,hi,rfl⟩:=getElem_of_mem hx;have hik:i<k:=by rw[length_take]at hi;omega
     have e1:(g.bt.take k)[i]=g.bt.getD i Cc:=by simp[show i<g.bt.length by omega]
     rw[e1];exact Q5 (hb _ (by simp[show i<g.bt.length by omega])).1 (hall i hik).1
    have htl:(g.bt.take k).length≤1000000:=by rw[length_take];omega
    have hnx:BL (g.bt.getD k Cc)=true∧Ey g.ep (g.bt.take k) (g.bt.getD k Cc)=true->∀i,i<k+1->BL (g.bt.getD i Cc)=true∧Ey g.ep (g.bt.take i) (g.bt.getD i Cc)=true:=λh i hi=>by
     rcases Nat.lt_or_ge i k with h1|h1
     ·exact hall i h1
     ·obtain rfl:i=k:=Om
      exact h
    obtain⟨b,hbb⟩:∃b,g.bt.getD k Cc=b:=⟨_,rfl⟩;rw[hbb]at hg ho hs hno hnx;refine (mt q1 hg @Ao @Int.toNat_natCast ?_).1;(repeat with_reducible refine Sa ?_);refine Aa.p (I2 b ho hs) ?_;cases hr:BL b with
    |false=>
     have e:=hno (λh=>by rw[hr]at h;exact absurd h.1 De);refine (mp ?_).1
     exact FE b42 [] e
    |true=>
     have hfo:=H4 g.ep (g.bt.take k) b (Q5 ho hr) hS htl;refine (mp ?_).1;(repeat((with_reducible refine And.intro ?_ ?_);(·first|exact sd|(simp[Ab,A2,AV.parts,Ao];done)|(simp[Ab,A2,AV.parts,Ao];omega))));refine (mr @WL @Int.toNat_natCast ?_).1;refine Aa.p (hfo) ?_;cases hf:Ey g.ep (g.bt.take k) b with
     |false=>
      have e:=hno (λh=>by rw[hf]at h;exact absurd h.2 De);refine (mp ?_).1
      exact FE b42 [] e
     |true=>
      refine (mq ek ?_).1;exact⟨k+1,⟨hlt,hnx ⟨hr,hf⟩⟩,Om,Wk.sel [0] Si rfl Si rfl (by simp[AE]) (by simp[BP,AE])⟩
   ·have q1:decide ((k:Int)<(g.bt.length:Int))=false:=decide_eq_false Om;have e:DB g=true:=DA.2 ⟨Bq.1 he,h16,λi hi=>hall i Om⟩;refine (mq q1 ?_).1
    exact FE b42 [] e
  ·have q0:decide ((16:Int)<(g.bt.length:Int))=true:=decide_eq_true Om;have e:DB g=false:=by
    cases hr:DB g with
    |false=>rfl
    |true=>exact absurd (DA.1 hr).2.1 h16
   refine (mq q0 ?_).1
   exact FE b42 [] e
def PW (g:EL) (hn:g.bt.length≤1000000) (hb:∀b∈g.bt,b.ok∧DG b):Ct Tryz.prog 42 [Et g] [] (λ_=>bA (DB g)) [] (λ_=>[]):=(NX g hn hb).toCt cl cl
def MZ (k:Int) (p:List Int) (hk:0≤k∧k<256) (hp:AW p) (hn:p.length≤2000000):Ah prog 102 [Ul k,Bd .u8 p] [] (Bd .u8 (Ag (k::p))) []:=by
 have hb:AW (k::p):=λx hx=>by rcases mem_cons.1 hx with rfl|hx;exact hk;exact hp x hx
 have h1:[AV.lit (.int .u8 k)]++A0 .u8 p=A0 .u8 (k::p):=rfl;have h1':AV.lit (.int .u8 k)::A0 .u8 p=A0 .u8 (k::p):=rfl;refine RM func102 Ahx ?_
 (repeat with_reducible refine Sa ?_);refine (mq h1' ?_).1;refine Aa.p (V5 (k::p) hb (by simp;omega)) ?_;refine (mp ?_).1;exact FA Ahx []
def Ix (k:Int) (p:List Int) (hk:0≤k∧k<256) (hp:AW p) (hn:p.length≤2000000):Ct Tryz.prog 102 [Ul k,Bd .u8 p] [] (λ_=>Bd .u8 (Ag (k::p))) [] (λ_=>[]):=(MZ k p hk hp hn).toCt cl cl
def oP {l:List En} (h:j9 l):AW (AK l):=by
 intro x hx;simp only[AK,mem_flatMap]at hx;have⟨e,he,hx⟩:=hx;exact(h e he).data x hx
def Ab2 {base:Int} {l:List En} (hb:0≤base) (h1:base+l.length<18446744073709551616) (hl:j9 l) (hr:∀i,i<l.length->Cx (base+i) (l.getD i Dt)=true):∀k,k≤l.length->AW (OY base (l.take k)):=by
 intro k
 induction k with
 |zero=>intro _ x hx;simp[OY,gQ,Bo]at hx
 |succ k ih=>
  intro hk x hx;rw[Jo Om]at hx;have hm:l.getD k Dt∈l:=by simp[show k<l.length by omega]
  have h2:=C7.1 (hr k Om);rcases mem_append.1 hx with hx|hx
  ·exact ih Om x hx
  ·unfold Fm at hx;rcases mem_append.1 hx with hx|hx
   ·exact Ke Om Om (hl _ hm).lk h2.1 x hx
   ·exact B6 Om Om x hx
def yR {b:Bt} (hb:b.ok) (hr:BL b=true):AW (Eh b):=by
 have⟨r1,⟨r2,r2',r2''⟩,r3,r4⟩:=B2.1 hr;have b0:=hb.b0;have h1:=Ab2 b0 Om hb.en r4 b.en.length (Nat.le_refl _);rw[take_length]at h1;intro x hx;unfold Eh at hx;rcases mem_append.1 hx with hx|hx
 ·exact B6 Om Om x hx
 rcases mem_append.1 hx with hx|hx
 ·exact B6 b0 hb.b1 x hx
 rcases mem_append.1 hx with hx|hx
 ·exact B6 Om Om x hx
 rcases mem_append.1 hx with hx|hx
 ·exact h1 x hx
 ·exact WU r3 (oP hb.en) x hx
def hd3 {ep:Int} (he:1≤ep∧ep<4611686018427387904):Bz ⟨3,ep,0⟩=true:=B9.2 ⟨by(try simp only[]);omega,he,by(try simp only[]);omega,.inr rfl⟩
structure SgW (g:EL):Prop where
 right:DB g=true
 bt:∀b∈g.bt,b.ok∧DG b
def SgW.w {g:EL} (h:SgW g):∀b∈g.bt,BtW b:=λb hb=>by
 obtain⟨i,hi,rfl⟩:=getElem_of_mem hb;have h1:=((DA.1 h.right).2.2 i hi).1;have e:g.bt.getD i Cc=g.bt[i]:=by simp[hi]
 rw[e]at h1;exact⟨(h.bt _ hb).1,(h.bt _ hb).2,h1⟩
def My {b:Bt} (h:BtW b):((Ag (1::Eh b)).length:Int)≤2200000∧0<(Ag (1::Eh b)).length:=by
 have h1:=(Lp h).2.2;have h2:=Bi (1::Eh b);simp only[length_cons]at h2;omega
def L8 {l:List Bt} (h:∀b∈l,BtW b):((Er l).length:Int)≤2200000*l.length:=by
 induction l with
 |nil=>simp[Er]
 |cons b l ih=>
  have h1:=ih λx hx=>h x (by simp[hx])
  have h2:=My (h b Si);rw[Ps,length_append,length_cons];omega
def Td (ep:Int):9≤(Am ⟨3,ep,0⟩).length∧(Am ⟨3,ep,0⟩).length≤40:=by
 have h1:=Em ⟨3,ep,0⟩;have h2:=(A7 ep).2;have h3:(AI ⟨3,ep,0⟩).length=5+(vb ep).length:=by unfold AI Bs;simp;omega
 omega
def J0 {g:EL} (h:SgW g):A5 (Fx g)=true:=by
 have⟨h1,h2,h3⟩:=DA.1 h.right;have hl:=Td g.ep;unfold A5;rw[Bool.and_eq_true,decide_eq_true_eq];refine⟨XL g.bt 0 0 _ (UJ h.right λb hb=>(h.bt b hb).1) Om (λb hb=>My (h.w b hb)) Om,?_⟩;unfold Fx;rw[JP];exact h2
def XH {g:EL} (h:SgW g):AG (J1 g)=true∧(J1 g).ok:=by
 have⟨h1,h2,h3⟩:=DA.1 h.right;have hl:=Td g.ep;have hb:=L8 h.w;have hp:(P0 g).length=(Am ⟨3,g.ep,0⟩).length+(Er g.bt).length:=by unfold P0;rw[length_append]
 have hm:=(Kb (Fx g)).1;have hm2:=(BY.1 (J0 h)).2;have hf:=Bi (2::CJ (Fx g));simp only[length_cons]at hf;exact V7 (J0 h) h1 Om Om
abbrev wrA (b:List Int) (m:List Mk) (f:Ft):AV:=.agg [Bd .u8 b,Ik m,uA f.ep,iA f.bat,iA f.ent,uA f.fst,uA f.fin,iA f.at_,iA f.size]
def NW (g:EL) (h:SgW g):Ah prog 43 [Et g] [] (wrA (JG g) (Fx g) (J1 g)) []:=by
 have⟨h1,h2,h3⟩:=DA.1 h.right;have hl:=Td g.ep;have hrm:=J0 h;have hbl:=L8 h.w;have⟨hrf,hfo⟩:=XH h;have hho:=Qo ⟨3,g.ep,0⟩ (hd3 h1) (Int.le_refl 0);have eB:JG g=P0 g++Ag (2::CJ (Fx g))++IP (J1 g):=rfl;have eP:P0 g=Am ⟨3,g.ep,0⟩++Er g.bt:=rfl;have eM:Fx g=EF (Am ⟨3,g.ep,0⟩).length g.bt:=rfl;have eF:J1 g=Ib g.ep (Fx g) (P0 g).length (Ag (2::CJ (Fx g))).length:=rfl;obtain⟨HB,hHB⟩:∃HB,Am ⟨3,g.ep,0⟩=HB:=⟨_,rfl⟩;rw[hHB]at hho eP eM hl;obtain⟨W,hW⟩:∃W:Nat->List Int,W=λk=>HB++Er (g.bt.take k):=⟨_,rfl⟩
 obtain⟨M,hM⟩:∃M:Nat->List Mk,M=λk=>EF HB.length (g.bt.take k):=⟨_,rfl⟩
 have hW0:W 0=HB:=by rw[hW];simp[Er]
 have hM0:M 0=[]:=by rw[hM];simp[EF]
 have hWn:W g.bt.length=P0 g:=by rw[hW,eP];simp
 have hMn:M g.bt.length=Fx g:=by rw[hM,eM];simp
 have hMl:∀k,k≤g.bt.length->(M k).length=k:=λk hk=>by rw[hM];simp only;rw[JP,length_take];omega
 have hlen:∀k,k≤g.bt.length->(W k).length≤40000000:=λk hk=>by
  have h4:=L8 (l:=g.bt.take k) λb hb=>h.w b (mem_of_mem_take hb)
  rw[length_take]at h4;rw[hW];simp only[length_append];omega
 have hWs:∀k,k<g.bt.length->W k++Ag (1::Eh (g.bt.getD k Cc))=W (k+1):=λk hk=>by
  rw[hW];simp only;rw[bF g.bt k hk,ZB,append_assoc]
 have hMs:∀k,k<g.bt.length->M k++[⟨(g.bt.getD k Cc).base,(g.bt.getD k Cc).en.length,(W k).length⟩]=M (k+1):=λk hk=>by
  rw[hM,hW];simp only;rw[bF g.bt k hk,Vq,length_append];simp
 have hpl:=(Kb (Fx g)).1;have hm2:=(BY.1 hrm).2;have hfl:=Bi (2::CJ (Fx g));simp only[length_cons]at hfl;have hixl:(Ag (2::CJ (Fx g))).length≤600:=Om
 have hir:Vr (Fx g)=CJ (Fx g):=by unfold Vr;rw[if_pos hrm]
 have hie:(if A5 (Fx g)=true then(0:Int)else 3)=0:=if_pos hrm;have hrec:=Ix 2 (CJ (Fx g)) Om (Yk (BY.1 hrm).1 Om) Om;have hix:=VV (Fx g) (FP hrm) Om;rw[hir,hie]at hix;have hfb:=Ti (J1 g) hfo;rw[show IZ (J1 g)=IP (J1 g)from by unfold IZ;rw[if_pos hrf]]at hfb;have hfbl:(IP (J1 g)).length≤200:=by
  have h4:=Ot (J1 g);have h5:=Bi (F5 (J1 g));have h6:=FU ((Ag (F5 (J1 g))).length:Int);unfold IP;rw[length_append];omega
 have hft:=Iy g.ep (Fx g) (P0 g).length (Ag (2::CJ (Fx g))).length (FP hrm) Om;rw[←eF]at hft;obtain⟨R,hR⟩:∃R,JG g=R:=⟨_,rfl⟩;obtain⟨F,hF⟩:∃F,J1 g=F:=⟨_,rfl⟩;obtain⟨MM,hMM⟩:∃MM,Fx g=MM:=⟨_,rfl⟩;obtain⟨PP,hPP⟩:∃PP,P0 g=PP:=⟨_,rfl⟩;rw[hF,hMM,hPP]at hft eB;rw[hR]at eB;rw[hMM]at hrec hix hMn;rw[hPP]at hWn;rw[hF]at hfb hfbl;obtain⟨IX,hIX⟩:∃IX,Ag (2::CJ MM)=IX:=⟨_,rfl⟩;rw[hMM,hIX]at hixl;rw[hIX]at hrec eB hft;rw[hF,hR,hMM];refine RM func43 b43 ?_
 refine Aa.n (hho) (mp ?_).1;refine AA (α:=Nat) (λk=>.any::.ref 0 0::.ref 1 0::.ref 2 0::Az (.any::.any::GN g.bt::iA g.bt.length::iA k::Az (Az (Az (Ay (Ay (Ay [.any,.any]))))))) (λk=>[PU g,.cells [.sl .full 1 [],.sl .full 1 [],uA 0,iA 0,iA 0,uA 0,uA 0,iA 0,iA 0],.cells [IE 3 (W k),.sl (.row 4) 3 (H9 (M k)),uA 0,iA 0,iA 0,uA 0,uA 0,iA 0,iA 0],.row 1 (W k).length,.row 3 k]) (λk=>k≤g.bt.length) (λk=>g.bt.length-k) 0 Si ((Wk.rowObj 2 1 3 rfl rfl (.inr rfl) Om).trans (Wk.to (by simp[hW0,hM0,H9]) (by simp[BS,Ao]))) ?_;intro k hk;have hlk:=hlen k hk;have hmk:=hMl k hk;refine (mp ?_).1;by_cases hlt:k<g.bt.length
 ·have q1:decide ((k:Int)<(g.bt.length:Int))=true:=decide_eq_true Om;have ek:=Aw k Om;have hg:=GB g.bt k hlt;have hmem:g.bt.getD k Cc∈g.bt:=by simp[hlt]
  have hw:=h.w _ hmem;have hwn:=hWs k hlt;have hmn:=hMs k hlt;have hlk1:=hlen (k+1) hlt;obtain⟨b,hbb⟩:∃b,g.bt.getD k Cc=b:=⟨_,rfl⟩;rw[hbb]at hg hw hwn hmn;have hcl:=Lp hw;have hrc:=Ix 1 (Eh b) Om (yR hw.ok hw.right) Om;have hll:(W k).length+(Ag (1::Eh b)).length=(W (k+1)).length:=by rw[←hwn,length_append]
  have hma:H9 (M k)++[kC ⟨b.base,b.en.length,(W k).length⟩]=H9 (M (k+1)):=by rw[←hmn,Gr]
  refine (mt q1 hg @Ao @Int.toNat_natCast ?_).1;(repeat with_reducible refine Sa ?_);have hml:(H9 (M k)).length=k:=by rw[Ar];exact hmk
  refine Aa.p (W0 b hw) (mt @Aq @Ab hma hml ?_).1;(repeat with_reducible refine Sa ?_);refine Aa.p (hrc) ?_;simp only[go_sem,seval,C1,Ab,hwn,hll,ek];refine (mok ?_).1;(repeat((with_reducible refine And.intro ?_ ?_);(·first|exact sd|(simp[Ab,A2,AV.parts,Ab];done)|(simp[Ab,A2,AV.parts,Ab];omega))));exact⟨k+1,hlt,Om,Wk.sel [0,1,2,3,4] Si rfl Si rfl (by simp[AE,AH,HC,Je]) (by simp[BP,AE,AM,AH,HC,Je])⟩
 ·have q1:decide ((k:Int)<(g.bt.length:Int))=false:=decide_eq_false Om;have ek:k=g.bt.length:=Om
  subst ek;rw[hWn]at hlk;rw[hWn,hMn];refine (mq q1 ?_).1;refine Aa.p (hix) (mp ?_).1;refine Aa.p (hrec) (mq @Ab ?_).1;refine Aa.p (hft) (mp ?_).1;refine Aa.p (hfb) ?_;simp only[go_sem,seval,C1,Ab,←append_assoc,←eB];refine (mok ?_).1;refine⟨Om,by rw[length_append];omega,by rw[length_append],?_⟩;refine WO 1 [Bd .u8 R,Ik MM,uA F.ep,iA F.bat,iA F.ent,uA F.fst,uA F.fin,iA F.at_,iA F.size] ?_;exact FA b43 []
def PV (g:EL) (h:SgW g):Ct Tryz.prog 43 [Et g] [] (λ_=>wrA (JG g) (Fx g) (J1 g)) [] (λ_=>[]):=(NW g h).toCt cl cl
def Ky (g:EL):List Int:=if DB g=true then JG g else[]
def Zk (g:EL):Int:=if DB g=true then 0 else 3
def PY (g:EL) (hn:g.bt.length≤1000000) (hb:∀b∈g.bt,b.ok∧DG b):Ct prog 18 [Et g] [] (λ_=>.tup [Bd .u8 (Ky g),iA (Zk g)]) [] (λ_=>[]):=by
 refine Ah.toCt ?_ cl cl
 refine RM func18 b18 ?_
 refine Aa.p (PW g hn hb) ?_;cases hr:DB g with
 |false=>
  have e1:Ky g=[]:=by unfold Ky;rw[hr];rfl
  have e2:Zk g=3:=by unfold Zk;rw[hr];rfl
  refine (mp ?_).1;refine UT 2 ?_
  exact FF b18 [] e1 e2
 |true=>
  have e1:Ky g=JG g:=by unfold Ky;rw[hr];rfl
  have e2:Zk g=0:=by unfold Zk;rw[hr];rfl
  refine (mp ?_).1;refine Cp (PV g ⟨hr,hb⟩) ?_
  exact FF b18 [] e1 e2
def CT (b:List Int):Hd×Int×(Int×Int):=if(RS.new b).header.1.code=0 then((RS.new b).header.2,(RS.new b).header.1.at_,(0,0))else(Ls,0,((RS.new b).header.1.code,(RS.new b).header.1.fat))
inductive Ev where
 |item (a:Int) (b:Bt)
 |oth (k a c:Int)
structure PS where
 ph:Nat
 buf:List Int
 fst:Int
 fed:Int
 ended:Int
 ep:Int
 lep:Int
 lbase:Int
 ln:Nat
 ms:List Mk
 want:Ft
 foot:Int
 out:List Ev
def Eu:PS:=⟨0,[],0,0,0,0,0,0,0,[],Kn,0,[]⟩
def BE (b:List Int):List Int×Int×Bool×(Int×Int):=
 if Dn b 2097152=true∧(b.length:Int)<D8 b 2097152 then([],0,false,(0,0))
 else if(Bp b 2097152).2.2.1=1 then([],0,false,(0,0))
 else((Bp b 2097152).1,(Bp b 2097152).2.1-4-(Bp b 2097152).1.length,(Bp b 2097152).2.2.1==0,(Bp b 2097152).2.2)
def PS.header (s:PS):PS×Bool×(Int×Int):=
 if(CT s.buf).2.2.1=1 then(s,false,(0,0))
 else if(CT s.buf).2.2.1=0 then(if(CT s.buf).1.ver=3 then({s with ph:=1,ep:=(CT s.buf).1.ep},true,(0,0))else(s,false,(8,4)))
 else(s,false,(CT s.buf).2.2)
def PS.batC (s:PS) (b:Bt):Int:=if s.ms.length=16 then 2 else if s.ep<b.ep∨(0<s.ms.length∧(b.ep<s.lep∨b.base<s.lbase+s.ln))then 13 else 0
def PS.bat (s:PS) (b:Bt):PS:={s with ms:=s.ms++[⟨b.base,b.en.length,s.fst⟩],lep:=b.ep,lbase:=b.base,ln:=b.en.length,out:=s.out++[.item s.fst b]}
def PS.batch (s:PS) (q:RS):(PS×Int)×RS:=
 if(q.btch RS.blk).1.rest9.code=0 then(if s.batC (q.btch RS.blk).2=0 then(s.bat (q.btch RS.blk).2,0)else(s,s.batC (q.btch RS.blk).2),(q.btch RS.blk).1.rest9)else((s,0),(q.btch RS.blk).1.rest9)
def PS.idx (s:PS) (l:List Mk):PS:={s with ph:=2,want:=⟨s.ep,l.length,if A5 l=true then DP l l.length else 0,(Ep l).1,(Ep l).2,s.fst,s.buf.length⟩}
def PS.index (s:PS) (q:RS):(PS×Int)×RS:=
 if q.marks.1.rest9.code=0 then(if q.marks.2=s.ms then(s.idx q.marks.2,0)else(s,12),q.marks.1.rest9)else((s,0),q.marks.1.rest9)
def PS.takes (s:PS) (p:List Int):(PS×Int)×RS:=
 if(RS.new p).byte.2=1 then s.batch (RS.new p).byte.1 else if(RS.new p).byte.2=2 then s.index (RS.new p).byte.1 else((s,0),(RS.new p).byte.1.fail 7 0)
def PS.record (s:PS):PS×Bool×(Int×Int):=
 if(BE s.buf).2.2.1=true then
  (if(s.takes (BE s.buf).1).2.code=0 then((s.takes (BE s.buf).1).1.1,(s.takes (BE s.buf).1).1.2==0,BB (s.takes (BE s.buf).1).1.2 0)
   else((s.takes (BE s.buf).1).1.1,false,((s.takes (BE s.buf).1).2.code,(s.takes (BE s.buf).1).2.fat+(BE s.buf).2.1)))
 else(s,false,(BE s.buf).2.2.2)
def PS.footer (s:PS):PS×Bool×(Int×Int):=
 if(BE s.buf).2.2.1=true then
  (if(Bh (BE s.buf).1).2.1=0 then(if(Bh (BE s.buf).1).1=s.want then({s with ph:=3,foot:=s.buf.length},true,(0,0))else(s,false,(12,0)))
   else(s,false,((Bh (BE s.buf).1).2.1,(Bh (BE s.buf).1).2.2+(BE s.buf).2.1)))
 else(s,false,(BE s.buf).2.2.2)
def PS.trailer (s:PS):PS×Bool×(Int×Int):=
 if s.buf.length<12 then(s,false,(0,0))else if s.buf=A4 s.foot then({s with ph:=4},true,(0,0))else(s,false,(12,0))
def PS.rest (s:PS):PS×Bool×(Int×Int):=(s,false,(9,0))
def PS.step (s:PS):PS×Bool×(Int×Int):=
 match s.ph with
 |0=>s.header
 |1=>s.record
 |2=>s.footer
 |3=>s.trailer
 |_=>s.rest
def PS.fin (r:PS×Bool×(Int×Int)):PS:=
 if r.2.2.1=0 then(if r.2.1=true then{r.1 with fst:=r.1.fed,buf:=[]}else r.1)
 else{r.1 with out:=r.1.out++[.oth 4 (r.2.2.2+r.1.fst) r.2.2.1],ended:=4,buf:=[]}
def PS.add (s:PS) (c:Int):PS:={s with buf:=s.buf++[c],fed:=s.fed+1}
def PS.one (s:PS) (c:Int):PS:=PS.fin (s.add c).step
def PS.nild (s:PS) (c:Int):Bool:= !((s.add c).step.2.2.1==0)||(s.add c).step.2.1
def PS.feed (s:PS):List Int->PS
 |[]=>s
 |c::l=>if s.ended=0 then(s.one c).feed l else s
def PS.whole (s:PS):Bool:=decide (0<s.foot)&&(decide (s.buf.length=0)&&decide (s.fed=s.want.at_+s.want.size+s.foot+12))
def PS.close (s:PS):PS×List Ev:=
 if s.ended=0 then(if s.whole=true then({s with ended:=2,buf:=[]},[.oth 2 s.fed 0])else({s with ended:=3,buf:=[]},[.oth 3 s.fed 1]))else(s,[])
def HH {b:List Int} (hb:AW b) (hn:b.length≤1000000):AW (BE b).1∧(BE b).1.length≤1000000∧0≤(BE b).2.1+2000000∧(BE b).2.1≤1000000∧((BE b).2.2.1=true->0≤(BE b).2.1):=by
 have hgi:=λhc=>La (b:=b) (m:=2097152) hb Om hc
 have hgb:=λhc=>V1 (b:=b) (m:=2097152) hc
 unfold BE;split
 ·exact⟨λx hx=>by simp at hx,Si,Si,Si,λh=>by simp at h⟩
 ·split
  ·exact⟨λx hx=>by simp at hx,Si,Si,Si,λh=>by simp at h⟩
  ·by_cases hc:(Bp b 2097152).2.2.1=0
   ·have⟨_,a2,_,a4,a5,a6⟩:=hgi hc;have h1:=congrArg List.length a6;have h2:=Bi (Bp b 2097152).1;rw[length_take]at h1;exact⟨a2,by(try simp only[]);omega,by(try simp only[]);omega,by(try simp only[]);omega,λ_=>by(try simp only[]);omega⟩
   ·have⟨a1,a2⟩:=hgb hc;refine⟨by rw[a1];exactλx hx=>by simp at hx,by rw[a1];simp,by rw[a1,a2];simp,by rw[a1,a2];simp,λh=>?_⟩;exact absurd (by simpa using h) hc
def Fa.lets {s:RS} (h:Fa s) (hs:Ak s):Fa s.lets:=by
 unfold RS.lets;split
 ·exact(h.take hs 4).failAt hs (hs.ok.take 4).2 _
 ·exact h.take hs 4
def Fa.vers {s:RS} (h:Fa s) (hs:Ak s):Fa s.vers.1:=by
 unfold RS.vers
 repeat' split
 ·exact h.take hs 1
 ·exact(h.take hs 1).failAt hs (hs.ok.take 1).2 _
 ·exact h.take hs 1
def Fa.hplain {s:RS} (h:Fa s) (hs:Ak s):Fa s.hplain.1:=by
 have⟨a1,a2⟩:=Jj hs;have⟨b1,b2⟩:=Lv a1;have⟨c1,c2⟩:=Bc b1 Ac;have hb:=((h.lets hs).vers a1).epo b1 Ac;show Fa ((s.hbegin.1.epo Ac).1.hbase s.hbegin.2).1;unfold RS.hbase;split
 ·exact Fa.epo hb c1 AL
 ·exact hb
def Fa.fixed {s:RS} (h:Fa s) (hs:Ak s) (n:Int):Fa (s.fixed n).1:=by
 unfold RS.fixed
 first|exact h.take hs n|(split<;>exact h.take hs n)
def Fa.header {s:RS} (h:Fa s) (hs:Ak s):Fa s.header.1:=by
 have⟨a1,a2⟩:=Gs hs;have hf:=(h.hplain hs).fixed a1 4;unfold RS.header
 repeat' split
 ·exact hf
 ·exact hf.failAt a1 (HS a1 4).2 _
 ·exact hf
def gT {b:List Int} (hb:AW b) (hn:b.length≤1000000):0≤(CT b).2.2.2∧(CT b).2.2.2≤1000000:=by
 have hok:Ak (RS.new b):=Ak.new hb Om;have hf:=(Fa.new b).header hok;unfold Fa at hf;rw[(Fl hok).2]at hf;have hnl:(RS.new b).l.length=b.length:=rfl;unfold CT;split
 ·simp
 ·simp only[];omega
def mW {b:List Int} (hb:AW b) (hn:b.length≤1000000):0≤(BE b).2.2.2.2∧(BE b).2.2.2.2≤1000000:=by
 have hok:Ak (RS.new b):=Ak.new hb Om;have hff:=(Fa.new b).frame hok 2097152;have hfl:=(BA hok 2097152).2;unfold Fa at hff;rw[hfl]at hff;have hnl:(RS.new b).l.length=b.length:=rfl;unfold BE;split
 ·simp
 ·split
  ·simp
  ·unfold Bp;split
   ·simp
   ·simp only[];omega
structure CL (s:PS):Prop where
 bb:AW s.buf
 bl:(s.buf.length:Int)≤s.fed
 f0:0≤s.fst
 f1:s.fst≤s.fed
 f2:s.fed≤1000000
 ol:(s.out.length:Int)≤2*s.fed
 ml:s.ms.length≤16
 ln:s.ln≤16
 b0:0≤s.lbase
 b1:s.lbase≤4611686018427387904
 t0:0≤s.foot
 t1:s.foot≤1000000
 a0:0≤s.want.at_
 a1:s.want.at_≤1000000
 z0:0≤s.want.size
 z1:s.want.size≤1000000
def CL.len {s:PS} (h:CL s):s.buf.length≤1000000:=by have:=h.bl;have:=h.f2;omega
structure Kp (s t:PS):Prop where
 buf:t.buf=s.buf
 fst:t.fst=s.fst
 fed:t.fed=s.fed
 ended:t.ended=s.ended
 out:t.out.length≤s.out.length+1
def Kp.refl (s:PS):Kp s s:=⟨rfl,rfl,rfl,rfl,Om⟩
def CL.to {s t:PS} (h:CL s) (k:Kp s t) (ho:(s.out.length:Int)+1≤2*s.fed) (ml:t.ms.length≤16) (ln:t.ln≤16) (b0:0≤t.lbase) (b1:t.lbase≤4611686018427387904) (t0:0≤t.foot) (t1:t.foot≤1000000) (a0:0≤t.want.at_) (a1:t.want.at_≤1000000) (z0:0≤t.want.size) (z1:t.want.size≤1000000):CL t:=
 ⟨by rw[k.buf];exact h.bb,by rw[k.buf,k.fed];exact h.bl,by rw[k.fst];exact h.f0,by rw[k.fst,k.fed];exact h.f1,by rw[k.fed];exact h.f2,by have:=k.out;rw[k.fed];omega,ml,ln,b0,b1,t0,t1,a0,a1,z0,z1⟩
def cW {s:PS} (h:CL s) (ho:(s.out.length:Int)+1≤2*s.fed) {p:List Int} (hp:AW p) (hn:p.length≤1000000):CL (s.takes p).1.1∧Kp s (s.takes p).1.1∧Ak (s.takes p).2∧(s.takes p).2.l=p∧Fa (s.takes p).2:=by
 have hl:=h.len;have hok:Ak (RS.new p):=Ak.new hp Om;have⟨q1,q2⟩:=RS.ok.byte_ hok;have qf:=(Fa.new p).byte hok;unfold PS.takes;split
 ·have⟨k1,k2⟩:=E0 q1 λs h=>CE h
  have kf:=(qf.btch q1 (λs h=>CE h) (λs h hf=>hf.blk h)).rest9 k1;have⟨r1,r2⟩:=C8 k1;have hB:=(L7 q1 Hq).1;unfold PS.batch;split
  ·split
   ·rename_i _ hc;have hms:¬s.ms.length=16:=by
     intro h16;unfold PS.batC at hc;rw[if_pos h16]at hc;exact absurd hc De
    have hml:=h.ml;have hsum:=hB.sum;have hK:Kp s (s.bat ((RS.new p).byte.1.btch RS.blk).2):=⟨rfl,rfl,rfl,rfl,by simp[PS.bat]⟩;exact⟨h.to hK ho (by simp[PS.bat];omega) hB.len hB.ok.b0 (by show((RS.new p).byte.1.btch RS.blk).2.base≤_;omega) h.t0 h.t1 h.a0 h.a1 h.z0 h.z1,hK,r1,r2.trans (k2.trans q2),kf⟩
   ·exact⟨h,Kp.refl s,r1,r2.trans (k2.trans q2),kf⟩
  ·exact⟨h,Kp.refl s,r1,r2.trans (k2.trans q2),kf⟩
 ·split
  ·have⟨k1,k2⟩:=Da F7 q1 16;have kf:=(qf.marks q1).rest9 k1;have⟨r1,r2⟩:=C8 k1;unfold PS.index;split
   ·split
    ·have hK:Kp s (s.idx (RS.new p).byte.1.marks.2):=⟨rfl,rfl,rfl,rfl,by simp[PS.idx]⟩;have f1:=h.f1;have f2:=h.f2;exact⟨h.to hK ho h.ml h.ln h.b0 h.b1 h.t0 h.t1 h.f0 (by show s.fst≤_;omega) (by show(0:Int)≤s.buf.length;omega) (by show(s.buf.length:Int)≤_;omega),hK,r1,r2.trans (k2.trans q2),kf⟩
    ·exact⟨h,Kp.refl s,r1,r2.trans (k2.trans q2),kf⟩
   ·exact⟨h,Kp.refl s,r1,r2.trans (k2.trans q2),kf⟩
  ·exact⟨h,Kp.refl s,q1.fail _ _,by rw[AY];exact q2,qf.fail (Int.le_refl _) Om⟩
def KQ {s:PS} (h:CL s) (ho:(s.out.length:Int)+1≤2*s.fed):CL s.step.1∧Kp s s.step.1∧ -2000000≤s.step.2.2.2∧s.step.2.2.2≤4000000:=by
 have hl:=h.len;have gf:=gT h.bb hl;have pf:=mW h.bb hl;have⟨p1,p2,p3,p4,p5⟩:=HH h.bb hl;unfold PS.step;split
 ·have hK:Kp s {s with ph:=1,ep:=(CT s.buf).1.ep}:=⟨rfl,rfl,rfl,rfl,Si⟩;unfold PS.header;split
  ·exact⟨h,Kp.refl s,Si,Si⟩
  ·split
   ·split
    ·exact⟨h.to hK ho h.ml h.ln h.b0 h.b1 h.t0 h.t1 h.a0 h.a1 h.z0 h.z1,hK,Si,Si⟩
    ·exact⟨h,Kp.refl s,Si,Si⟩
   ·exact⟨h,Kp.refl s,by(try simp only[]);omega,by(try simp only[]);omega⟩
 ·have⟨t1,t2,t3,t4,t5⟩:=cW h ho p1 p2;unfold Fa at t5;rw[t4]at t5;unfold PS.record;split
  ·split
   ·refine⟨t1,t2,?_,?_⟩
    ·show-2000000≤(BB _ 0).2;unfold BB;split<;>simp
    ·show(BB _ 0).2≤4000000;unfold BB;split<;>simp
   ·exact⟨t1,t2,by(try simp only[]);omega,by(try simp only[]);omega⟩
  ·exact⟨h,Kp.refl s,by(try simp only[]);omega,by(try simp only[]);omega⟩
 ·have hK:Kp s {s with ph:=3,foot:=(s.buf.length:Int)}:=⟨rfl,rfl,rfl,rfl,Si⟩;have hrf:=HD (p:=(BE s.buf).1) p1 Om;unfold PS.footer;split
  ·split
   ·split
    ·exact⟨h.to hK ho h.ml h.ln h.b0 h.b1 (by(try simp only[]);omega) (by(try simp only[]);omega) h.a0 h.a1 h.z0 h.z1,hK,Si,Si⟩
    ·exact⟨h,Kp.refl s,Si,Si⟩
   ·exact⟨h,Kp.refl s,by(try simp only[]);omega,by(try simp only[]);omega⟩
  ·exact⟨h,Kp.refl s,by(try simp only[]);omega,by(try simp only[]);omega⟩
 ·have hK:Kp s {s with ph:=4}:=⟨rfl,rfl,rfl,rfl,Si⟩;unfold PS.trailer;split
  ·exact⟨h,Kp.refl s,Si,Si⟩
  ·split
   ·exact⟨h.to hK ho h.ml h.ln h.b0 h.b1 h.t0 h.t1 h.a0 h.a1 h.z0 h.z1,hK,Si,Si⟩
   ·exact⟨h,Kp.refl s,Si,Si⟩
 ·exact⟨h,Kp.refl s,by simp[PS.rest],by simp[PS.rest]⟩
def KD {s:PS} (h:CL s) {c:Int} (hc:0≤c∧c<256) (hf:s.fed+1≤1000000):CL (s.add c)∧((s.add c).out.length:Int)+2≤2*(s.add c).fed:=by
 have bl:=h.bl;have ol:=h.ol;have f1:=h.f1;refine⟨⟨λx hx=>?_,by simp[PS.add];omega,h.f0,by show s.fst≤s.fed+1;omega,hf,by show(s.out.length:Int)≤2*(s.fed+1);omega,h.ml,h.ln,h.b0,h.b1,h.t0,h.t1,h.a0,h.a1,h.z0,h.z1⟩,by show(s.out.length:Int)+2≤2*(s.fed+1);omega⟩;rcases mem_append.1 hx with hx|hx
 ·exact h.bb x hx
 ·simp at hx;subst hx;exact hc
def SE {s:PS} (h:CL s) {c:Int} (hc:0≤c∧c<256) (hf:s.fed+1≤1000000):CL (s.one c)∧(s.one c).fed=s.fed+1∧(s.nild c=true->(s.one c).buf=[])∧(s.nild c=false->s.one c=(s.add c).step.1):=by
 have⟨a1,a2⟩:=KD h hc hf;have⟨s1,s2,_,_⟩:=KQ a1 Om;have e1:(s.add c).fed=s.fed+1:=rfl;have e2:=s2.fed;have e3:=s2.out;have f0:=s1.f0;have f1:=s1.f1;have f2:=s1.f2;unfold PS.one PS.fin PS.nild;by_cases hz:(s.add c).step.2.2.1=0
 ·rw[if_pos hz];by_cases hw:(s.add c).step.2.1=true
  ·rw[if_pos hw];refine⟨⟨λx hx=>by simp at hx,by simp;omega,by(try simp only[]);omega,by(try simp only[]);omega,f2,by(try simp only[]);omega,s1.ml,s1.ln,s1.b0,s1.b1,s1.t0,s1.t1,s1.a0,s1.a1,s1.z0,s1.z1⟩,by(try simp only[]);omega,λ_=>rfl,λh=>?_⟩;rw[hw]at h;simp at h
  ·rw[if_neg hw];refine⟨s1,Om,λh=>?_,λ_=>rfl⟩;rw[hz]at h;simp at h;exact absurd h hw
 ·rw[if_neg hz];refine⟨⟨λx hx=>by simp at hx,by simp;omega,f0,f1,f2,by simp only[length_append,length_singleton];omega,s1.ml,s1.ln,s1.b0,s1.b1,s1.t0,s1.t1,s1.a0,s1.a1,s1.z0,s1.z1⟩,by(try simp only[]);omega,λ_=>rfl,λh=>?_⟩;have h':(((s.add c).step.2.2.1==0)=false):=Sx hz
  rw[h']at h;simp at h
def PS.feedS (s:PS):List Int->Option Nat->PS×Option Nat
 |[],st=>(s,st)
 |c::l,st=>if s.ended=0 then(s.one c).feedS l (if s.nild c=true then some (st.getD (s.buf.length+1))else st)else(s,st)
def RG:∀(l:List Int) (s:PS) (st:Option Nat),(s.feedS l st).1=s.feed l:=by
 intro l
 induction l with
 |nil=>intro s st;rfl
 |cons c l ih=>
  intro s st;simp only[PS.feedS,PS.feed];split
  ·exact ih _ _
  ·rfl
def Tn:∀(l:List Int) (s:PS),CL s->AW l->s.fed+l.length≤1000000->CL (s.feed l)∧(s.feed l).fed≤s.fed+l.length:=by
 intro l
 induction l with
 |nil=>intro s h _ hn;exact⟨h,by simp[PS.feed]⟩
 |cons c l ih=>
  intro s h hb hn;simp only[PS.feed];rw[length_cons]at hn ⊢;split
  ·have⟨o1,o2,_,_⟩:=SE h (hb c Si) Om;have⟨i1,i2⟩:=ih (s.one c) o1 (λx hx=>hb x (by simp[hx])) Om;exact⟨i1,Om⟩
  ·exact⟨h,Om⟩
def CtN (P:Program) (f:FuncId) (args:List AV) (rd:List (Nat×Ad)) (r:Nat->AV) (upd:Nat->List (Nat×Ad)) (new:Nat->List Ad):Prop:=
 ∀T n,(∀p∈rd,T[p.1]? =some p.2)->(∀p∈Bw n (new n),T[p.1]? =some .dead)->Ah P f args T (r n) (Cw T (upd n++Bw n (new n)))
def CtN.mk {P:Program} {f:FuncId} {args args₀:List AV} {S₀ S₁:List Ad} {r₀:AV} {r:Nat->AV} {rd:List (Nat×Ad)} {upd:Nat->List (Nat×Ad)} {new:Nat->List Ad} (h:Ah P f args₀ S₀ r₀ S₁) (is:List Nat) (hn:is.Nodup) (hl:is.length=S₀.length) (hSl:S₀.length≤S₁.length)
 (hal:∀o∈S₀,o≠ .dead) (ha:∀n N,args₀.map (λx=>x.ren (AH (is++range' n (S₁.length-S₀.length)) N))=args) (hr:∀n N,r₀.ren (AH (is++range' n (S₁.length-S₀.length)) N)=r n)
 (hrd:∀n N,is.zip (S₀.map λo=>o.ren (AH (is++range' n (S₁.length-S₀.length)) N))=rd)
 (hupd:∀n N,is.zip ((S₁.take S₀.length).map λo=>o.ren (AH (is++range' n (S₁.length-S₀.length)) N))=upd n)
 (hnew:∀n N,((S₁.drop S₀.length).map λo=>o.ren (AH (is++range' n (S₁.length-S₀.length)) N))=new n):CtN P f args rd r upd new:=by
 intro T n hT hd;have hln:(new n).length=S₁.length-S₀.length:=by rw[←hnew n T.length];simp
 have hat:∀(k:Nat) (o:Ad),S₀[k]? =some o->∃i,(is++range' n (S₁.length-S₀.length))[k]? =some i∧T[i]? =some (o.ren (AH (is++range' n (S₁.length-S₀.length)) T.length)):=by
  intro k o ho;have hk:k<is.length:=by rw[hl];exact(Ge ho)
  refine⟨is[k],by rw[getElem?_append_left hk];simp,hT (is[k],_) ?_⟩;rw[←hrd n T.length];refine mem_of_getElem? (i:=k) ?_;rw[getElem?_zip_eq_some];exact⟨getElem?_eq_getElem hk,by rw[getElem?_map,ho];rfl⟩
 have hdead:∀i,i∈range' n (S₁.length-S₀.length)->T[i]? =some .dead:=by
  intro i hi;rw[IF,hln]at hd;obtain⟨j,hj,rfl⟩:=getElem_of_mem hi;have hj':j<(new n).length:=by rw[hln];simpa using hj
  have:=hd ((range' n (S₁.length-S₀.length))[j],(new n)[j]) (by
   refine mem_of_getElem? (i:=j) ?_;rw[getElem?_zip_eq_some];exact⟨getElem?_eq_getElem hj,getElem?_eq_getElem hj'⟩)
  exact this
 have hnd:(is++range' n (S₁.length-S₀.length)).Nodup:=by
  rw[nodup_append];refine⟨hn,nodup_range',λa ha1 b hb1=>?_⟩;rintro rfl;obtain⟨k,hk,rfl⟩:=getElem_of_mem ha1;have hk':k<S₀.length:=by rw[←hl];exact hk
  have⟨i,h1,h2⟩:=hat k S₀[k] (getElem?_eq_getElem hk');rw[getElem?_append_left hk,getElem?_eq_getElem hk]at h1;injection h1 with h1;subst h1;rw[hdead _ hb1]at h2;injection h2 with h2;have:=hal S₀[k] (getElem_mem hk');cases ho:S₀[k]with
  |dead=>exact this ho
  |cells xs=>rw[ho]at h2;simp[Ad.ren]at h2
  |row a b=>rw[ho]at h2;simp[Ad.ren]at h2
  |mrow a b c=>rw[ho]at h2;simp[Ad.ren]at h2
  |raw a b=>rw[ho]at h2;simp[Ad.ren]at h2
 have:=h.embed T (is++range' n (S₁.length-S₀.length)) hnd (by simp;omega) hSl hat (λk i hk hi=>by
  rw[getElem?_append_right Om]at hi;exact hdead i (mem_of_getElem? hi))
 rw[ha,hr]at this;have e:(is++range' n (S₁.length-S₀.length)).zip (S₁.map λo=>o.ren (AH (is++range' n (S₁.length-S₀.length)) T.length))=
  is.zip ((S₁.take S₀.length).map λo=>o.ren (AH (is++range' n (S₁.length-S₀.length)) T.length))++Bw n (new n):=by
  rw[IF,hln,←hnew n T.length]
  conv=>lhs;rw[←take_append_drop S₀.length S₁]
  rw[map_append,zip_append (by simp;omega)];simp
 rw[e,CC,hupd]at this;rw[CC];exact this
def Aa.ofN {P:Program} {f:FuncId} {args:List AV} {rd:List (Nat×Ad)} {r:Nat->AV} {upd:Nat->List (Nat×Ad)} {new:Nat->List Ad} {S:List Ad} {K:KT} (h:CtN P f args rd r upd new) (hrd:∀p∈rd,S[p.1]? =some p.2)
 (hu:∀p∈upd S.length,p.1∈rd.map (·.1)) (hK:K (r S.length) (rd.map (·.1)) (upd S.length) (new S.length)):Aa P f args S K:=by
 refine⟨_,_,_,_,λT hT _ hd=>h T S.length (λp hp=>?_) hd,hu,λi hi=>?_,hK⟩
 ·rw[hT p.1 (mem_map.2 ⟨p,hp,rfl⟩)];exact hrd p hp
 ·obtain⟨p,hp,rfl⟩:=mem_map.1 hi;exact(Ge (hrd p hp))
@[simp] theorem Aex (ρ:Nat->Nat) (k:Nat):(PF k).ren ρ=PF k:=by
 unfold PF;split
 ·rw[Sp]
 ·rw[Z9,map_replicate,Sp]
abbrev CY:AV:=.sl .full 1 []
def evA:Ev->AV
 | .item a b=>.agg [iA 1,iA a,iA 0,iA 0,uA 0,uA 0,uA 0,iA 0,iA 0,CY,CY,CY,uA 0,uA 0,uA 0,uA 0,CY,uA b.ep,uA b.base,Fv b.en]
 | .oth k a c=>.agg [iA k,iA a,iA c,iA 0,uA 0,uA 0,uA 0,iA 0,iA 0,CY,CY,CY,uA 0,uA 0,uA 0,uA 0,CY,uA 0,uA 0,CY]
def GO (l:List Ev):List AV:=l.map evA
def Bk (l:List Ev):(GO l).length=l.length:=by simp[GO]
def a7 (l:List Ev) (e:Ev):GO l++[evA e]=GO (l++[e]):=by simp[GO]
@[simp] theorem KW (ρ:Nat->Nat) (l:List Ev):(GO l).map (λx=>x.ren ρ)=GO l:=by
 unfold GO;rw[map_map];congr 1;funext e;cases e<;>simp[evA,AE,D2]
def fC:Nat->FuncId
 |0=>32
 |1=>86
 |2=>205
 |3=>230
 |_=>240
abbrev P5 (s:PS) (b m o:AV):Ad:=.cells [.fn (fC s.ph) [] [],b,iA s.fst,iA s.fed,iA s.ended,uA s.ep,uA s.lep,uA s.lbase,.sl .none 2 (List.replicate s.ln (PF 2)),m,uA s.want.ep,iA s.want.bat,iA s.want.ent,uA s.want.fst,uA s.want.fin,iA s.want.at_,iA s.want.size,iA s.foot,o]
abbrev U_ (s:PS) (j:Nat):AV:=.sl (.row j) 1 (A0 .u8 s.buf)
abbrev Sy (s:PS) (k:Nat):AV:=.sl (.row k) 3 (H9 s.ms)
abbrev u7 (s:PS) (o:Nat):AV:=.sl (.row o) 20 (GO s.out)
abbrev Iq (s:PS) (j k o:Nat):List Ad:=[P5 s (U_ s j) (Sy s k) (u7 s o),.row 1 s.buf.length,.row 3 s.ms.length,.row 20 s.out.length]
def Ax (ρ:Nat->Nat) (s:PS) (b m o:AV):(P5 s b m o).ren ρ=P5 s (b.ren ρ) (m.ren ρ) (o.ren ρ):=by simp[AE,D2]
def AD (ρ:Nat->Nat) (s:PS) (j:Nat):(U_ s j).ren ρ=U_ s (ρ j):=by simp[AE,AM]
def AB (ρ:Nat->Nat) (s:PS) (j:Nat):(Sy s j).ren ρ=Sy s (ρ j):=by simp[AE,HC]
def AP (ρ:Nat->Nat) (s:PS) (j:Nat):(u7 s j).ren ρ=u7 s (ρ j):=by simp[AE,KW]
def Ct.ps {F:FuncId} {s s':PS} {r:AV} (h:Ah prog F [.ref 0 0] (Iq s 1 2 3) r (Iq s' 1 2 3)) (hr:∀ρ,r.ren ρ=r) (i j k o:Nat) (hd:[i,j,k,o].Nodup):Ct prog F [.ref i 0] ([i,j,k,o].zip (Iq s j k o)) (λ_=>r) ([i,j,k,o].zip (Iq s' j k o)) (λ_=>[]):=
 Ct.us h [i,j,k,o] hd rfl rfl Si (λN=>by simp[AH]) (λN=>by simp[AH,Ax,AD,AB,AP]) (λN=>by simp[AH,Ax,AD,AB,AP]) (λN=>hr _)
def Y_ (s:PS):Ah prog 33 [.ref 0 0] (Iq s 1 2 3) (bA (s.ended==0)) (Iq s 1 2 3):=by
 refine RM func33 b33 ?_
 exact FK b33 [0,1,2,3] (by simp[Ax,AD,AB,AP,AH])
def RF (s:PS) (i j k o:Nat) (hd:[i,j,k,o].Nodup):Ct prog 33 [.ref i 0] ([i,j,k,o].zip (Iq s j k o)) (λ_=>bA (s.ended==0)) ([i,j,k,o].zip (Iq s j k o)) (λ_=>[]):=Ct.ps (Y_ s) (λρ=>by simp) i j k o hd
def Y8 (s:PS):Ah prog 240 [.ref 0 0] (Iq s 1 2 3) (.tup [bA s.rest.2.1,Ce s.rest.2.2]) (Iq s.rest.1 1 2 3):=by
 have c3:BB 9 0=(9,0):=rfl;refine RM func240 Agg ?_
 refine Aa.p (Bj 9 0) ?_;simp only[go_sem,seval,c3];refine (mok ?_).1
 exact FK Agg [0,1,2,3] (by simp[PS.rest,Ax,AD,AB,AP,AH])
def Qw (s:PS) (h:CL s):Ah prog 158 [.ref 0 0] (Iq s 1 2 3) (.tup [Bd .u8 (BE s.buf).1,iA (BE s.buf).2.1,bA (BE s.buf).2.2.1,Ce (BE s.buf).2.2.2]) (Iq s 1 2 3):=by
 have hl:=h.len;have hw:=V3 s.buf 2097152 h.bb Om;have hg:=Hb s.buf 2097152 h.bb Om De;have hgi:=λhc=>La (b:=s.buf) (m:=2097152) h.bb Om hc
 have hgb:=λhc=>V1 (b:=s.buf) (m:=2097152) hc
 have e:BE s.buf=if Dn s.buf 2097152=true∧(s.buf.length:Int)<D8 s.buf 2097152 then([],0,false,(0,0))
  else if(Bp s.buf 2097152).2.2.1=1 then([],0,false,(0,0))
  else((Bp s.buf 2097152).1,(Bp s.buf 2097152).2.1-4-(Bp s.buf 2097152).1.length,(Bp s.buf 2097152).2.2.1==0,(Bp s.buf 2097152).2.2):=rfl
 have⟨P,hP⟩:=Ex (BE s.buf);have⟨G,hG⟩:=Ex (Bp s.buf 2097152);have⟨W,hW⟩:=Ex (D8 s.buf 2097152);rw[hP]at e ⊢;rw[hG]at e hg hgi hgb;rw[hW]at e hw;have hGl:(G.1.length:Int)≤1000000∧0≤G.2.1∧G.2.1≤1000000:=by
  by_cases hc:G.2.2.1=0
  ·have⟨_,_,_,a4,a5,a6⟩:=hgi hc;have h1:=congrArg List.length a6;have h2:=Bi G.1;rw[length_take]at h1;omega
  ·have⟨a1,a2⟩:=hgb hc;rw[a1,a2];simp
 have w1:IntKind.i64.wrap (G.2.1-4)=G.2.1-4:=i64_in _ Om;have w2:IntKind.i64.wrap (G.2.1-4-G.1.length)=G.2.1-4-G.1.length:=i64_in _ Om;refine RM func158 jR ?_
 refine Cp (hw) ?_;by_cases hk:Dn s.buf 2097152=true∧(s.buf.length:Int)<W
 ·have q1:=hk.1;have q2:decide ((s.buf.length:Int)<W)=true:=by simpa using hk.2
  rw[if_pos hk]at e;refine (ms q1 q2 @Ab ?_).1;refine UT 2 ?_
  exact FK jR [0,1,2,3] (by simp[e,Ax,AD,AB,AP,AH])
 ·rw[if_neg hk]at e;by_cases hc1:G.2.2.1=1
  ·have q3:(G.2.2.1==1)=true:=Sx hc1
   rw[if_pos hc1]at e;cases hwo:Dn s.buf 2097152 with
   |true=>
    have q2:decide ((s.buf.length:Int)<W)=false:=by simp only[decide_eq_false_iff_not];exactλh=>hk ⟨hwo,h⟩
    refine (mr q2 @Ab ?_).1;refine Aa.p (hg) (mq q3 ?_).1;refine UT 2 ?_
    exact FK jR [0,1,2,3] (by simp[e,Ax,AD,AB,AP,AH])
   |false=>
    refine (mp ?_).1;refine Aa.p (hg) (mq q3 ?_).1;refine UT 2 ?_
    exact FK jR [0,1,2,3] (by simp[e,Ax,AD,AB,AP,AH])
  ·have q3:(G.2.2.1==1)=false:=Sx hc1
   rw[if_neg hc1]at e;cases hwo:Dn s.buf 2097152 with
   |true=>
    have q2:decide ((s.buf.length:Int)<W)=false:=by simp only[decide_eq_false_iff_not];exactλh=>hk ⟨hwo,h⟩
    refine (mr q2 @Ab ?_).1;refine Aa.p (hg) (mt q3 w1 @Ab w2 ?_).1;refine Cp (Ai G.2.2.1 G.2.2.2) ?_
    exact FK jR [0,1,2,3] (by simp[e,Ax,AD,AB,AP,AH])
   |false=>
    refine (mp ?_).1;refine Aa.p (hg) (mt q3 w1 @Ab w2 ?_).1;refine Cp (Ai G.2.2.1 G.2.2.2) ?_
    exact FK jR [0,1,2,3] (by simp[e,Ax,AD,AB,AP,AH])
def Ld (s:PS) (h:CL s) (i j k o:Nat) (hd:[i,j,k,o].Nodup):Ct prog 158 [.ref i 0] ([i,j,k,o].zip (Iq s j k o)) (λ_=>.tup [Bd .u8 (BE s.buf).1,iA (BE s.buf).2.1,bA (BE s.buf).2.2.1,Ce (BE s.buf).2.2.2]) ([i,j,k,o].zip (Iq s j k o)) (λ_=>[]):=Ct.ps (Qw s h) (λρ=>by simp[AM]) i j k o hd
def Ab3 (b:List Int):gU b=CT b:=rfl
def Tp (s:PS) (h:CL s) (hp:s.ph=0):Ah prog 32 [.ref 0 0] (Iq s 1 2 3) (.tup [bA s.header.2.1,Ce s.header.2.2]) (Iq s.header.1 1 2 3):=by
 have hl:=h.len;have hg:=YT s.buf h.bb Om;rw[Ab3]at hg;have e:s.header=if(CT s.buf).2.2.1=1 then(s,false,(0,0))
  else if(CT s.buf).2.2.1=0 then(if(CT s.buf).1.ver=3 then({s with ph:=1,ep:=(CT s.buf).1.ep},true,(0,0))else(s,false,(8,4)))
  else(s,false,(CT s.buf).2.2):=rfl
 have⟨R,hR⟩:=Ex s.header;have⟨G,hG⟩:=Ex (CT s.buf);rw[hG]at e hg;rw[hR]at e ⊢;refine RM func32 b32 ?_
 refine Cp (hg) ?_;by_cases h1:G.2.2.1=1
 ·have c1:(G.2.2.1==1)=true:=Sx h1
  rw[if_pos h1]at e;refine (mq c1 ?_).1
  exact FK b32 [0,1,2,3] (by simp[e,Ax,AD,AB,AP,AH])
 ·have c1:(G.2.2.1==1)=false:=Sx h1
  rw[if_neg h1]at e;refine (mq c1 ?_).1;refine Aa.p (Ai G.2.2.1 G.2.2.2) ?_;by_cases h0:G.2.2.1=0
  ·have c2:(G.2.2.1==0)=true:=Sx h0
   rw[if_pos h0]at e;by_cases h3:G.1.ver=3
   ·have c3:(G.1.ver != 3)=false:=Sx h3
    rw[if_pos h3]at e;simp only[go_sem,seval,c2,c3];refine (mok ?_).1
    exact FK b32 [0,1,2,3] (by simp[e,Ax,AD,AB,AP,AH,fC])
   ·have c3:(G.1.ver != 3)=true:=Sx h3
    have c4:BB 8 4=(8,4):=rfl;rw[if_neg h3]at e;simp only[go_sem,seval,c2,c3];refine (mok ?_).1;refine Aa.p (Bj 8 4) ?_;simp only[go_sem,seval,c4];refine (mok ?_).1
    exact FK b32 [0,1,2,3] (by simp[e,Ax,AD,AB,AP,AH])
  ·have c2:(G.2.2.1==0)=false:=Sx h0
   rw[if_neg h0]at e;refine (mq c2 ?_).1
   exact FK b32 [0,1,2,3] (by simp[e,Ax,AD,AB,AP,AH])
def Qv (s:PS) (h:CL s):Ah prog 230 [.ref 0 0] (Iq s 1 2 3) (.tup [bA s.trailer.2.1,Ce s.trailer.2.2]) (Iq s.trailer.1 1 2 3):=by
 have hl:=h.len;have t0:=h.t0;have t1:=h.t1;have e:s.trailer=if s.buf.length<12 then(s,false,(0,0))else if s.buf=A4 s.foot then({s with ph:=4},true,(0,0))else(s,false,(12,0)):=rfl
 have⟨R,hR⟩:=Ex s.trailer;rw[hR]at e ⊢;have w1:IntKind.u64.wrap s.foot=s.foot:=u64_in _ Om;have heq:=IY s.buf (A4 s.foot) h.bb (NJ _);refine RM func230 yV ?_
 refine Aa.p (C3) (mq @Ab ?_).1;by_cases h1:s.buf.length<12
 ·have c1:decide ((s.buf.length:Int)<12)=true:=by simp only[decide_eq_true_eq];omega
  rw[if_pos h1]at e;refine (mq c1 ?_).1
  exact FK yV [0,1,2,3] (by simp[e,Ax,AD,AB,AP,AH])
 ·have c1:decide ((s.buf.length:Int)<12)=false:=by simp only[decide_eq_false_iff_not];omega
  rw[if_neg h1]at e;refine (mq c1 ?_).1;refine Cp (EJ s.foot s.foot w1 t0 Om) ?_;refine Aa.p (heq) ?_;by_cases h2:s.buf=A4 s.foot
  ·have c2:BJ s.buf (A4 s.foot)=true:=by simp[BJ,h2]
   rw[if_pos h2]at e;refine (mq c2 ?_).1
   exact FK yV [0,1,2,3] (by simp[e,Ax,AD,AB,AP,AH,fC])
  ·have c2:BJ s.buf (A4 s.foot)=false:=by simp[BJ,h2]
   have c4:BB 12 0=(12,0):=rfl;rw[if_neg h2]at e;refine (mq c2 ?_).1;refine Aa.p (Bj 12 0) ?_;simp only[go_sem,seval,c4];refine (mok ?_).1
   exact FK yV [0,1,2,3] (by simp[e,Ax,AD,AB,AP,AH])
def ZH (ep base:Int) (n:Nat) (hn:n≤1000000) (b0:0≤base) (b1:base+n<18446744073709551616):Ct prog 114 [.agg [uA ep,uA base,.sl .none 2 (List.replicate n (PF 2))]] [] (λ_=>uA (base+n)) [] (λ_=>[]):=by
 refine Ah.toCt ?_ (λρ=>by simp) CN
 have w0:IntKind.u64.wrap (n:Int)=n:=u64_in _ Om;have w1:IntKind.u64.wrap (base+(n:Int))=base+n:=u64_in _ Om;refine RN func114 z8 ?_;simp only[go_sem,seval,length_replicate,w0,w1];refine (mok ?_).1
 exact FA z8 []
def Wh (s:PS) (q:RS) (h:CL s) (hq:Ak q) (hn:q.l.length≤1000000):Ah prog 160 [.ref 0 0,.ref 4 0] (Iq s 1 2 3++[AN q]) (iA (s.batch q).1.2) (Iq (s.batch q).1.1 1 2 3++[AN (s.batch q).2]):=by
 have⟨k1,k2⟩:=E0 hq λs h=>CE h
 have hB:=(L7 hq Hq).1;have e:s.batch q=if(q.btch RS.blk).1.rest9.code=0 then(if s.batC (q.btch RS.blk).2=0 then(s.bat (q.btch RS.blk).2,0)else(s,s.batC (q.btch RS.blk).2),(q.btch RS.blk).1.rest9)else((s,0),(q.btch RS.blk).1.rest9):=rfl
 have hct:=KB q 4 hq hn;have⟨D,hD⟩:=Ex (q.btch RS.blk);have⟨R,hR⟩:=Ex (s.batch q);rw[hD]at k1 k2 hB e hct;rw[hR]at e ⊢;have hlen:=hB.len;have hsum:=hB.sum;have hb0:=hB.ok.b0;have ml:=h.ml;have ln:=h.ln;have b0:=h.b0;have b1:=h.b1;have eC:s.batC D.2=if s.ms.length=16 then 2 else if s.ep<D.2.ep∨(0<s.ms.length∧(D.2.ep<s.lep∨D.2.base<s.lbase+s.ln))then 13 else 0:=rfl
 refine RM func160 W1 ?_
 refine Cu (hct) rfl ?_;refine Cu (Bl D.1 4 k1) rfl ?_;refine Aa.r1 (Ae D.1.rest9 4) rfl ?_;by_cases hz:D.1.rest9.code=0
 ·rw[if_pos hz]at e;refine (mr (AR hz) @Ar ?_).1;by_cases h16:s.ms.length=16
  ·have c1:((s.ms.length:Int)==16)=true:=by simp only[beq_iff_eq];omega
   rw[if_pos h16]at eC;rw[eC,if_neg De]at e;refine (mq c1 ?_).1
   exact FK W1 [0,1,2,3,4] (by simp[e,Ax,AD,AB,AP,AH])
  ·have c1:((s.ms.length:Int)==16)=false:=by simp only[beq_eq_false_iff_ne,ne_eq];omega
   rw[if_neg h16]at eC;have hol:=h.ol;have hf2:=h.f2;have hma:H9 s.ms++[.agg [uA D.2.base,iA D.2.en.length,iA s.fst]]=H9 (s.ms++[⟨D.2.base,D.2.en.length,s.fst⟩]):=(Gr s.ms ⟨D.2.base,D.2.en.length,s.fst⟩).symm;have hev:GO s.out++[.agg [iA 1,iA s.fst,iA 0,iA 0,uA 0,uA 0,uA 0,iA 0,iA 0,CY,CY,CY,uA 0,uA 0,uA 0,uA 0,CY,uA D.2.ep,uA D.2.base,Fv D.2.en]]=GO (s.out++[.item s.fst D.2]):=a7 s.out (.item s.fst D.2);have hbe:=ZH s.lep s.lbase s.ln Om b0 Om;refine (mq c1 ?_).1;by_cases h1:s.ep<D.2.ep
   ·have q1:decide (s.ep<D.2.ep)=true:=Sx h1
    rw[if_pos (.inl h1)]at eC;rw[eC,if_neg De]at e;refine (mq q1 ?_).1
    exact FK W1 [0,1,2,3,4] (by simp[e,Ax,AD,AB,AP,AH])
   ·have q1:decide (s.ep<D.2.ep)=false:=Sx h1
    have hgo:(0<s.ms.length∧(D.2.ep<s.lep∨D.2.base<s.lbase+s.ln))->R=((s,13),D.1.rest9):=λh2=>by
     rw[if_pos (.inr h2)]at eC;rw[eC,if_neg De]at e;exact e
    have hok:¬(0<s.ms.length∧(D.2.ep<s.lep∨D.2.base<s.lbase+s.ln))->R=((s.bat D.2,0),D.1.rest9):=λh2=>by
     rw[if_neg (by rintro(h3|h3);exact h1 h3;exact h2 h3)]at eC;rw[eC,if_pos rfl]at e;exact e
    by_cases hm:0<s.ms.length
    ·have q2:decide (0<(s.ms.length:Int))=true:=by simp only[decide_eq_true_eq];omega
     by_cases h3:D.2.ep<s.lep
     ·have q3:decide (D.2.ep<s.lep)=true:=Sx h3
      have e:=hgo ⟨hm,.inl h3⟩;refine (ms q1 q2 q3 ?_).1
      exact FK W1 [0,1,2,3,4] (by simp[e,Ax,AD,AB,AP,AH])
     ·have q3:decide (D.2.ep<s.lep)=false:=Sx h3
      refine (ms q1 q2 q3 ?_).1;refine Aa.p (hbe) ?_;by_cases h4:D.2.base<s.lbase+s.ln
      ·have q4:decide (D.2.base<s.lbase+s.ln)=true:=Sx h4
       have e:=hgo ⟨hm,.inr h4⟩;refine (mq q4 ?_).1
       exact FK W1 [0,1,2,3,4] (by simp[e,Ax,AD,AB,AP,AH])
      ·have q4:decide (D.2.base<s.lbase+s.ln)=false:=Sx h4
       have e:=hok (λh=>by rcases h.2 with h|h;exact h3 h;exact h4 h);simp only[go_sem,seval,q4,Aq,Ar,Bk,Mt,Int.toNat_natCast,hma,hev];refine (mok ?_).1;refine⟨Om,rfl,Om,Om,Om,Om,rfl,Om,rfl,?_⟩;refine WO 0 [.fn (fC s.ph) [] [],U_ s 1,iA s.fst,iA s.fed,iA s.ended,uA s.ep,uA D.2.ep,uA D.2.base,.sl .none 2 (List.replicate D.2.en.length (PF 2)),Sy (s.bat D.2) 2,uA s.want.ep,iA s.want.bat,iA s.want.ent,uA s.want.fst,uA s.want.fin,iA s.want.at_,iA s.want.size,iA s.foot,u7 (s.bat D.2) 3] ?_
       exact FK W1 [0,1,2,3,4] (by simp[e,PS.bat,Ax,AD,AB,AP,AH])
    ·have q2:decide (0<(s.ms.length:Int))=false:=by simp only[decide_eq_false_iff_not];omega
     have e:=hok (λh=>hm h.1);simp only[go_sem,seval,q1,q2,Aq,Ar,Bk,Mt,Int.toNat_natCast,hma,hev];refine (mok ?_).1;refine⟨Om,rfl,Om,Om,Om,Om,rfl,Om,rfl,?_⟩;refine WO 0 [.fn (fC s.ph) [] [],U_ s 1,iA s.fst,iA s.fed,iA s.ended,uA s.ep,uA D.2.ep,uA D.2.base,.sl .none 2 (List.replicate D.2.en.length (PF 2)),Sy (s.bat D.2) 2,uA s.want.ep,iA s.want.bat,iA s.want.ent,uA s.want.fst,uA s.want.fin,iA s.want.at_,iA s.want.size,iA s.foot,u7 (s.bat D.2) 3] ?_
     exact FK W1 [0,1,2,3,4] (by simp[e,PS.bat,Ax,AD,AB,AP,AH])
 ·rw[if_neg hz]at e;refine (mq (Au hz) ?_).1
  exact FK W1 [0,1,2,3,4] (by simp[e,Ax,AD,AB,AP,AH])
def Wg (s:PS) (q:RS) (h:CL s) (hq:Ak q) (hn:q.l.length≤1000000):Ah Tryz.prog 161 [.ref 0 0,.ref 4 0] (Iq s 1 2 3++[AN q]) (iA (s.index q).1.2) (Iq (s.index q).1.1 1 2 3++[AN (s.index q).2]):=by
 obtain⟨k1,k2⟩:=Nr hq
 have hr:=Mq hq
 have h16:=(BY.1 hr).2
 have e:s.index q=if q.marks.1.rest9.code=0 then(if q.marks.2=s.ms then(s.idx q.marks.2,0)else(s,12),q.marks.1.rest9)else((s,0),q.marks.1.rest9):=rfl
 have hct:=Kj q 4 hq (by omega)
 have hsm:=OS q.marks.2 s.ms (by omega)
 have hen:=GK q.marks.2 (FP hr) (by omega)
 have hed:=Kk q.marks.2 (FP hr) (by omega)
 rw[a9]at hed
 have ei:s.idx q.marks.2={s with ph:=2,want:=⟨s.ep,q.marks.2.length,if A5 q.marks.2=true then DP q.marks.2 q.marks.2.length else 0,(Ep q.marks.2).1,(Ep q.marks.2).2,s.fst,s.buf.length⟩}:=rfl
 obtain⟨X,hX⟩:∃X,(if A5 q.marks.2=true then DP q.marks.2 q.marks.2.length else 0)=X:=⟨_,rfl⟩
 obtain⟨V,hV⟩:∃V,Ep q.marks.2=V:=⟨_,rfl⟩
 obtain⟨D,hD⟩:∃D,q.marks=D:=⟨_,rfl⟩
 obtain⟨R,hR⟩:∃R,s.index q=R:=⟨_,rfl⟩
 rw[hX,hV]at ei
 rw[hX]at hen
 rw[hV]at hed
 rw[hD]at k1 k2 hr h16 e hct hsm hen hed ei
 rw[hR]at e ⊢
 refine RM Tryz.func161 y8 ?_
 refine Aa.u1 (hct) rfl ?_;refine (mp ?_).1
 refine Aa.u1 (Bl D.1 4 k1) rfl ?_;refine (mp ?_).1
 refine Aa.r1 (Ae D.1.rest9 4) rfl ?_
 by_cases hz:D.1.rest9.code=0
 ·rw[if_pos hz]at e
  simp only[go_sem,seval,AR hz];refine (mok ?_).1
  refine Aa.p (hsm) ?_
  by_cases hs:D.2=s.ms
  ·have c1:Fh D.2 s.ms=true:=by simp[Fh,hs]
   rw[if_pos hs]at e
   simp only[go_sem,seval,c1,Ar,Ab];refine (mok ?_).1
   refine Aa.p (hen) ?_;refine (mp ?_).1
   refine Aa.p (hed) ?_;simp only[go_sem,seval,Ab];refine (mok ?_).1
   rw[ei]at e
   (refine FB y8 [0,1,2,3,4] ?_ ?_<;>first|with_reducible rfl|(simp[Ci,EE,EH,CM,e,Ax,AD,AB,AP,AH,fC];done)|rfl)
  ·have c1:Fh D.2 s.ms=false:=by simp[Fh,hs]
   rw[if_neg hs]at e
   simp only[go_sem,seval,c1];refine (mok ?_).1
   (refine FB y8 [0,1,2,3,4] ?_ ?_<;>first|with_reducible rfl|(simp[Ci,EE,EH,CM,e,Ax,AD,AB,AP,AH];done)|rfl)
 ·rw[if_neg hz]at e
  simp only[go_sem,seval,Au hz];refine (mok ?_).1
  (refine FB y8 [0,1,2,3,4] ?_ ?_<;>first|with_reducible rfl|(simp[Ci,EE,EH,CM,e,Ax,AD,AB,AP,AH];done)|rfl)
def Tq (s:PS) (h:CL s):Ah prog 205 [.ref 0 0] (Iq s 1 2 3) (.tup [bA s.footer.2.1,Ce s.footer.2.2]) (Iq s.footer.1 1 2 3):=by
 have e:s.footer=if(BE s.buf).2.2.1=true then
  (if(Bh (BE s.buf).1).2.1=0 then(if(Bh (BE s.buf).1).1=s.want then({s with ph:=3,foot:=s.buf.length},true,(0,0))else(s,false,(12,0)))
   else(s,false,((Bh (BE s.buf).1).2.1,(Bh (BE s.buf).1).2.2+(BE s.buf).2.1)))
  else(s,false,(BE s.buf).2.2.2):=rfl
 have hl:=h.len;have hpay:=Ld s h 0 1 2 3 De;have hpf:=HH h.bb hl;have⟨P,hP⟩:=Ex (BE s.buf);have⟨R,hR⟩:=Ex s.footer;rw[hP]at e hpay hpf;have⟨p1,p2,p3,p4,p5⟩:=hpf;have hft:=HD (p:=P.1) p1 Om;have hrp:=Ee P.1 p1 Om;have⟨G,hG⟩:=Ex (Bh P.1);rw[hG]at hft hrp e;rw[hR]at e ⊢;have w1:IntKind.i64.wrap (G.2.2+P.2.1)=G.2.2+P.2.1:=i64_in _ Om;refine RM func205 rF ?_
 refine Aa.us hpay rfl rfl (mp ?_).1;cases hw:P.2.2.1 with
 |false=>
  rw[hw,if_neg De]at e;refine (mp ?_).1
  exact FK rF [0,1,2,3] (by simp[e,Ax,AD,AB,AP,AH])
 |true=>
  rw[hw,if_pos rfl]at e;refine (mp ?_).1;refine Cp (hrp) ?_;refine Aa.p (Ai G.2.1 G.2.2) ?_;by_cases hz:G.2.1=0
  ·have c1:(G.2.1==0)=true:=Sx hz
   rw[if_pos hz]at e;refine (ms c1 @Kx @MN ?_).1;by_cases hg:G.1=s.want
   ·have c2:decide (G.1=s.want)=true:=Sx hg
    rw[if_pos hg]at e;refine (mr c2 @Ab ?_).1
    exact FK rF [0,1,2,3] (by simp[e,Ax,AD,AB,AP,AH,fC])
   ·have c2:decide (G.1=s.want)=false:=Sx hg
    have c4:BB 12 0=(12,0):=rfl;rw[if_neg hg]at e;refine (mq c2 ?_).1;refine Aa.p (Bj 12 0) ?_;simp only[go_sem,seval,c4];refine (mok ?_).1
    exact FK rF [0,1,2,3] (by simp[e,Ax,AD,AB,AP,AH])
  ·have c1:(G.2.1==0)=false:=Sx hz
   have c4:BB G.2.1 (G.2.2+P.2.1)=(G.2.1,G.2.2+P.2.1):=by unfold BB;rw[if_neg hz]
   rw[if_neg hz]at e;refine (mq c1 ?_).1;refine Aa.p (Ba G.2.1 G.2.2 P.2.1 _ w1) ?_;simp only[go_sem,seval,c4];refine (mok ?_).1
   exact FK rF [0,1,2,3] (by simp[e,Ax,AD,AB,AP,AH])
def Xw {s:PS} {p:List Int} (hp:AW p) (hn:p.length≤1000000):Ak (s.takes p).2∧(s.takes p).2.l=p∧Fa (s.takes p).2:=by
 have hok:Ak (RS.new p):=Ak.new hp Om;have⟨q1,q2⟩:=RS.ok.byte_ hok;have qf:=(Fa.new p).byte hok;unfold PS.takes;split
 ·have⟨k1,k2⟩:=E0 q1 λs h=>CE h
  have kf:=(qf.btch q1 (λs h=>CE h) (λs h hf=>hf.blk h)).rest9 k1;have⟨r1,r2⟩:=C8 k1;unfold PS.batch;split<;>exact⟨r1,r2.trans (k2.trans q2),kf⟩
 ·split
  ·have⟨k1,k2⟩:=Nr q1;have kf:=(qf.marks q1).rest9 k1;have⟨r1,r2⟩:=C8 k1;unfold PS.index;split<;>exact⟨r1,r2.trans (k2.trans q2),kf⟩
  ·exact⟨q1.fail _ _,by rw[AY];exact q2,qf.fail (Int.le_refl _) Om⟩
def Tl (q:RS) (i:Nat):Ct prog 159 [.ref i 0] [(i,AN q)] (λ_=>iA 0) [] (λ_=>[]):=Ct.r1 (by
 have h:Ah prog 159 [.ref 0 0] [AN q] (iA 0) [AN q]:=by
  refine RM func159 Ahb ?_
  exact FA Ahb [0]
 exact h) i CN (λρ=>An ρ q) (rdr_dead q) CN
def Zc (s:PS) (q:RS) (h:CL s) (hq:Ak q) (hn:q.l.length≤1000000) (i j k o r:Nat) (hd:[i,j,k,o,r].Nodup):
 Ct prog 160 [.ref i 0,.ref r 0] ([i,j,k,o,r].zip (Iq s j k o++[AN q])) (λ_=>iA (s.batch q).1.2) ([i,j,k,o,r].zip (Iq (s.batch q).1.1 j k o++[AN (s.batch q).2])) (λ_=>[]):=
 Ct.us (Wh s q h hq hn) [i,j,k,o,r] hd rfl rfl (by simp[AN]) (λN=>by simp[AH]) (λN=>by simp[AH,Ax,AD,AB,AP,An]) (λN=>by simp[AH,Ax,AD,AB,AP,An]) (λN=>by simp)
def Za (s:PS) (q:RS) (h:CL s) (hq:Ak q) (hn:q.l.length≤1000000) (i j k o r:Nat) (hd:[i,j,k,o,r].Nodup):
 Ct prog 161 [.ref i 0,.ref r 0] ([i,j,k,o,r].zip (Iq s j k o++[AN q])) (λ_=>iA (s.index q).1.2) ([i,j,k,o,r].zip (Iq (s.index q).1.1 j k o++[AN (s.index q).2])) (λ_=>[]):=
 Ct.us (Wg s q h hq hn) [i,j,k,o,r] hd rfl rfl (by simp[AN]) (λN=>by simp[AH]) (λN=>by simp[AH,Ax,AD,AB,AP,An]) (λN=>by simp[AH,Ax,AD,AB,AP,An]) (λN=>by simp)
def Tm (s:PS) (h:CL s):Ah prog 86 [.ref 0 0] (Iq s 1 2 3) (.tup [bA s.record.2.1,Ce s.record.2.2]) (Iq s.record.1 1 2 3):=by
 have e:s.record=if(BE s.buf).2.2.1=true then
  (if(s.takes (BE s.buf).1).2.code=0 then((s.takes (BE s.buf).1).1.1,(s.takes (BE s.buf).1).1.2==0,BB (s.takes (BE s.buf).1).1.2 0)
   else((s.takes (BE s.buf).1).1.1,false,((s.takes (BE s.buf).1).2.code,(s.takes (BE s.buf).1).2.fat+(BE s.buf).2.1)))
  else(s,false,(BE s.buf).2.2.2):=rfl
 have hl:=h.len;have hpay:=Ld s h 0 1 2 3 De;have hpf:=HH h.bb hl;have⟨P,hP⟩:=Ex (BE s.buf);have⟨R,hR⟩:=Ex s.record;rw[hP]at e hpay hpf;rw[hR]at e ⊢;have⟨p1,p2,p3,p4,p5⟩:=hpf;have⟨t1,t2,t3⟩:=Xw (s:=s) p1 p2;have hok:Ak (RS.new P.1):=Ak.new p1 Om;have⟨q1,q2⟩:=RS.ok.byte_ hok;have eT:s.takes P.1=if(RS.new P.1).byte.2=1 then s.batch (RS.new P.1).byte.1 else if(RS.new P.1).byte.2=2 then s.index (RS.new P.1).byte.1 else((s,0),(RS.new P.1).byte.1.fail 7 0):=rfl
 have⟨T,hT⟩:=Ex (s.takes P.1);rw[hT]at e t1 t2 t3 eT;unfold Fa at t3;rw[t2]at t3;have w1:IntKind.i64.wrap (T.2.fat+P.2.1)=T.2.fat+P.2.1:=i64_in _ Om;have⟨q,hq⟩:=Ex ((RS.new P.1).byte.1);have⟨y,hy⟩:=Ex ((RS.new P.1).byte.2);rw[hq]at q1 q2;rw[hq,hy]at eT;have hql:q.l.length≤1000000:=by rw[q2];exact p2
 have hfb:=Zc s q h q1 hql 0 1 2 3 6 De;have hfi:=Za s q h q1 hql 0 1 2 3 6 De;refine RM func86 b86 ?_
 refine Aa.us hpay rfl rfl (mp ?_).1;cases hw:P.2.2.1 with
 |false=>
  rw[hw,if_neg De]at e;refine (mp ?_).1
  exact FK b86 [0,1,2,3] (by simp[e,Ax,AD,AB,AP,AH])
 |true=>
  rw[hw,if_pos rfl]at e;refine (mp ?_).1;refine Aa.n (BO P.1) (mp ?_).1;refine Aa.u1 (CG (RS.new P.1) 6 hok.ok) rfl (mr hq hy ?_).1;by_cases hy1:y=1
  ·have c1:(y==1)=true:=Sx hy1
   rw[if_pos hy1]at eT;rw[←eT]at hfb;refine (mq c1 ?_).1;refine Aa.us hfb rfl rfl (mp ?_).1;refine Cr (AQ T.2 6) rfl ?_;refine Cp (Ba T.2.code T.2.fat P.2.1 _ w1) ?_;by_cases hz:T.2.code=0
   ·have c3:BB T.2.code (T.2.fat+P.2.1)=(0,0):=by unfold BB;rw[if_pos hz]
    rw[if_pos hz]at e;simp only[go_sem,seval,c3];refine (mok ?_).1;refine Cp (Ai 0 0) ?_;refine Cp (Bj T.1.2 0) ?_
    exact FK b86 [0,1,2,3] (by simp[e,Ax,AD,AB,AP,AH])
   ·have c3:BB T.2.code (T.2.fat+P.2.1)=(T.2.code,T.2.fat+P.2.1):=by unfold BB;rw[if_neg hz]
    have c4:(T.2.code==0)=false:=Sx hz
    rw[if_neg hz]at e;simp only[go_sem,seval,c3];refine (mok ?_).1;refine Aa.p (Ai T.2.code _) ?_;simp only[go_sem,seval,c4];refine (mok ?_).1
    exact FK b86 [0,1,2,3] (by simp[e,Ax,AD,AB,AP,AH])
  ·have c1:(y==1)=false:=Sx hy1
   rw[if_neg hy1]at eT;by_cases hy2:y=2
   ·have c2:(y==2)=true:=Sx hy2
    rw[if_pos hy2]at eT;rw[←eT]at hfi;refine (mr c1 c2 ?_).1;refine Aa.us hfi rfl rfl (mp ?_).1;refine Cr (AQ T.2 6) rfl ?_;refine Cp (Ba T.2.code T.2.fat P.2.1 _ w1) ?_;by_cases hz:T.2.code=0
    ·have c3:BB T.2.code (T.2.fat+P.2.1)=(0,0):=by unfold BB;rw[if_pos hz]
     rw[if_pos hz]at e;simp only[go_sem,seval,c3];refine (mok ?_).1;refine Cp (Ai 0 0) ?_;refine Cp (Bj T.1.2 0) ?_
     exact FK b86 [0,1,2,3] (by simp[e,Ax,AD,AB,AP,AH])
    ·have c3:BB T.2.code (T.2.fat+P.2.1)=(T.2.code,T.2.fat+P.2.1):=by unfold BB;rw[if_neg hz]
     have c4:(T.2.code==0)=false:=Sx hz
     rw[if_neg hz]at e;simp only[go_sem,seval,c3];refine (mok ?_).1;refine Aa.p (Ai T.2.code _) ?_;simp only[go_sem,seval,c4];refine (mok ?_).1
     exact FK b86 [0,1,2,3] (by simp[e,Ax,AD,AB,AP,AH])
   ·have c2:(y==2)=false:=Sx hy2
    rw[if_neg hy2]at eT;have u1:T.1.1=s:=by rw[eT]
    have u2:T.1.2=0:=by rw[eT]
    have u3:q.fail 7 0=T.2:=by rw[eT]
    rw[u1,u2]at e;refine (mr c1 c2 ?_).1;refine Aa.u1 (Aj q 7 0 6) rfl (mq u3 ?_).1;refine Cr (Tl T.2 6) rfl ?_;refine Cr (AQ T.2 6) rfl ?_;refine Cp (Ba T.2.code T.2.fat P.2.1 _ w1) ?_;by_cases hz:T.2.code=0
    ·have c3:BB T.2.code (T.2.fat+P.2.1)=(0,0):=by unfold BB;rw[if_pos hz]
     rw[if_pos hz]at e;simp only[go_sem,seval,c3];refine (mok ?_).1;refine Cp (Ai 0 0) ?_;refine Cp (Bj 0 0) ?_
     exact FK b86 [0,1,2,3] (by simp[e,Ax,AD,AB,AP,AH])
    ·have c3:BB T.2.code (T.2.fat+P.2.1)=(T.2.code,T.2.fat+P.2.1):=by unfold BB;rw[if_neg hz]
     have c4:(T.2.code==0)=false:=Sx hz
     rw[if_neg hz]at e;simp only[go_sem,seval,c3];refine (mok ?_).1;refine Aa.p (Ai T.2.code _) ?_;simp only[go_sem,seval,c4];refine (mok ?_).1
     exact FK b86 [0,1,2,3] (by simp[e,Ax,AD,AB,AP,AH])
def Y7 (s:PS) (h:CL s):Ah prog (fC s.ph) [.ref 0 0] (Iq s 1 2 3) (.tup [bA s.step.2.1,Ce s.step.2.2]) (Iq s.step.1 1 2 3):=by
 match hp:s.ph with
 |0=>
  have e:s.step=s.header:=by simp only[PS.step,hp]
  rw[e];exact Tp s h hp
 |1=>
  have e:s.step=s.record:=by simp only[PS.step,hp]
  rw[e];exact Tm s h
 |2=>
  have e:s.step=s.footer:=by simp only[PS.step,hp]
  rw[e];exact Tq s h
 |3=>
  have e:s.step=s.trailer:=by simp only[PS.step,hp]
  rw[e];exact Qv s h
 |n+4=>
  have e:s.step=s.rest:=by simp only[PS.step,hp]
  rw[e];exact Y8 s
def iC (s:PS) (h:CL s) (i j k o:Nat) (hd:[i,j,k,o].Nodup):Ct prog (fC s.ph) [.ref i 0] ([i,j,k,o].zip (Iq s j k o)) (λ_=>.tup [bA s.step.2.1,Ce s.step.2.2]) ([i,j,k,o].zip (Iq s.step.1 j k o)) (λ_=>[]):=Ct.ps (Y7 s h) (λρ=>by simp) i j k o hd
def psD (s:PS) (nil:Bool) (j:Nat):AV:=if nil=true then CY else U_ s j
def U9 (s:PS) (j:Nat):psD s true j=CY:=rfl
def aC (s:PS) (j:Nat):psD s false j=U_ s j:=rfl
def iD (s:PS) (c:Int) (h:CL s) (hc:0≤c∧c<256) (hf:s.fed+1≤1000000):
 Ah prog 34 [.ref 0 0,Ul c] (Iq s 1 2 3) (.tup []) [P5 (s.one c) (psD (s.one c) (s.nild c) 1) (Sy (s.one c) 2) (u7 (s.one c) 3),.row 1 (s.buf.length+1),.row 3 (s.one c).ms.length,.row 20 (s.one c).out.length]:=by
 have hl:=h.len;have bl:=h.bl;have f1:=h.f1;have f0:=h.f0;have⟨a1,a2⟩:=KD h hc hf;have⟨s1,s2,s3,s4⟩:=KQ a1 Om;have hst:=iC (s.add c) a1 0 1 2 3 De;have e:s.one c=PS.fin (s.add c).step:=rfl;have en:s.nild c=(!((s.add c).step.2.2.1==0)||(s.add c).step.2.1):=rfl;have⟨O,hO⟩:=Ex (s.one c);have⟨Y,hY⟩:=Ex (s.nild c);have eph:(s.add c).ph=s.ph:=rfl;have hbn:(s.add c).buf=s.buf++[c]:=rfl;have k1:=s2.buf;have k2:=s2.fst;have k3:=s2.fed;have k4:(s.add c).fed=s.fed+1:=rfl;have k5:(s.add c).fst=s.fst:=rfl;have⟨T,hT⟩:=Ex ((s.add c).step);rw[hO]at e ⊢;rw[hY]at en ⊢;rw[hT]at e en hst s1 s3 s4 k1 k2 k3;rw[eph]at hst;have ol:=s1.ol;have ff2:=s1.f2;have w1:IntKind.i64.wrap (s.fed+1)=s.fed+1:=i64_in _ Om;have w2:IntKind.i64.wrap (T.2.2.2+T.1.fst)=T.2.2.2+T.1.fst:=i64_in _ Om;have hia:A0 .u8 s.buf++[AV.lit (.int .u8 c)]=A0 .u8 (s.buf++[c]):=by simp[A0]
 have hil:s.buf.length+1=(s.buf++[c]).length:=by simp
 refine RN func34 b34 ?_;refine (ms hia @Ab w1 ?_).1
 (repeat((with_reducible refine And.intro ?_ ?_);(·first|exact sd|(simp[Ab,A2,AV.parts,Ab];done)|(simp[Ab,A2,AV.parts,Ab];omega))));simp only[hil];refine Aa.us hst rfl rfl (mp ?_).1;rw[←hil];have b1:T.1.buf.length=s.buf.length+1:=by rw[k1,hbn,←hil]
 refine Aa.p (Ai T.2.2.1 T.2.2.2) ?_;by_cases hz:T.2.2.1=0
 ·have c1:(T.2.2.1==0)=true:=Sx hz
  rw[c1]at en;cases hw:T.2.1 with
  |true=>
   have e':O={T.1 with fst:=T.1.fed,buf:=[]}:=by rw[e];unfold PS.fin;rw[if_pos hz,if_pos hw]
   have en':Y=true:=by rw[en,hw];rfl
   refine (mq c1 ?_).1;rw[e',en',←b1,U9]
   exact FK b34 [0,1,2,3] (by simp[Ax,AD,AB,AP,AH])
  |false=>
   have e':O=T.1:=by rw[e];unfold PS.fin;rw[if_pos hz,if_neg (by rw[hw];decide)]
   have en':Y=false:=by rw[en,hw];rfl
   refine (mq c1 ?_).1;rw[e',en',←b1,aC]
   exact FK b34 [0,1,2,3] (by simp[Ax,AD,AB,AP,AH])
 ·have c1:(T.2.2.1==0)=false:=Sx hz
  have c3:BB T.2.2.1 (T.2.2.2+T.1.fst)=(T.2.2.1,T.2.2.2+T.1.fst):=by unfold BB;rw[if_neg hz]
  have e':O={T.1 with out:=T.1.out++[.oth 4 (T.2.2.2+T.1.fst) T.2.2.1],ended:=4,buf:=[]}:=by rw[e];unfold PS.fin;rw[if_neg hz]
  have en':Y=true:=by rw[en,c1];rfl
  have hev:GO T.1.out++[.agg [iA 4,iA (T.2.2.2+T.1.fst),iA T.2.2.1,iA 0,uA 0,uA 0,uA 0,iA 0,iA 0,CY,CY,CY,uA 0,uA 0,uA 0,uA 0,CY,uA 0,uA 0,CY]]=GO (T.1.out++[.oth 4 (T.2.2.2+T.1.fst) T.2.2.1]):=a7 T.1.out (.oth 4 (T.2.2.2+T.1.fst) T.2.2.1);refine (mq c1 ?_).1;refine Aa.p (Ba T.2.2.1 T.2.2.2 T.1.fst _ w2) ?_;simp only[go_sem,seval,c3,Bk,hev];refine (mok ?_).1;(repeat((with_reducible refine And.intro ?_ ?_);(·first|exact sd|(simp[Ab,A2,AV.parts,Bk];done)|(simp[Ab,A2,AV.parts,Bk];omega))));rw[e',en',←b1,U9]
  exact FK b34 [0,1,2,3] (by simp[Ax,AD,AB,AP,AH])
abbrev Xg (s:PS) (j k:Nat):List Ad:=[P5 s (U_ s j) (Sy s k) CY,.row 1 s.buf.length,.row 3 s.ms.length]
def psL (s:PS):Option Nat->List Ad
 |none=>[P5 s (U_ s 1) (Sy s 2) (u7 s 3),.row 1 s.buf.length,.row 3 s.ms.length,.row 20 s.out.length]
 |some n=>[P5 s (U_ s 4) (Sy s 2) (u7 s 3),.row 1 n,.row 3 s.ms.length,.row 20 s.out.length,.row 1 s.buf.length]
def sR (s:PS) (st:Option Nat) (j j' k:Nat):List Ad:=[P5 s (U_ s (if st.isSome then j' else j)) (Sy s k) CY,.row 1 (st.getD s.buf.length),.row 3 s.ms.length]
def mL (s:PS) (st:Option Nat):List Ad:=.row 20 s.out.length::(if st.isSome then[.row 1 s.buf.length]else[])
def Oh (s:PS) (j j' k:Nat):sR s none j j' k++mL s none=[P5 s (U_ s j) (Sy s k) CY,.row 1 s.buf.length,.row 3 s.ms.length,.row 20 s.out.length]:=rfl
def Og (s:PS) (n j j' k:Nat):sR s (some n) j j' k++mL s (some n)=[P5 s (U_ s j') (Sy s k) CY,.row 1 n,.row 3 s.ms.length,.row 20 s.out.length,.row 1 s.buf.length]:=rfl
def We (s:PS) (c:Int) (h:CL s) (hc:0≤c∧c<256) (hf:s.fed+1≤1000000) (i j k o:Nat) (hd:[i,j,k,o].Nodup):
 Ct prog 34 [.ref i 0,Ul c] ([i,j,k,o].zip (Iq s j k o)) (λ_=>.tup []) ([i,j,k,o].zip [P5 (s.one c) (psD (s.one c) (s.nild c) j) (Sy (s.one c) k) (u7 (s.one c) o),.row 1 (s.buf.length+1),.row 3 (s.one c).ms.length,.row 20 (s.one c).out.length]) (λ_=>[]):=by
 have h0:=iD s c h hc hf;cases hn:s.nild c with
 |true=>
  rw[hn]at h0;rw[U9]at h0 ⊢;exact Ct.us h0 [i,j,k,o] hd rfl rfl Si (λN=>by simp[AH]) (λN=>by simp[AH,Ax,AD,AB,AP]) (λN=>by simp[AH,Ax,AD,AB,AP]) (λN=>by simp)
 |false=>
  rw[hn]at h0;rw[aC]at h0 ⊢;exact Ct.us h0 [i,j,k,o] hd rfl rfl Si (λN=>by simp[AH]) (λN=>by simp[AH,Ax,AD,AB,AP]) (λN=>by simp[AH,Ax,AD,AB,AP]) (λN=>by simp)
def Zd (s:PS) (b:List Int) (h:CL s) (ho:s.out=[]) (hb:AW b) (hn:s.fed+b.length≤1000000):
 Ah prog 11 [.ref 0 0,Bd .u8 b] (Xg s 1 2) (.sl (.row 3) 20 (GO (s.feedS b none).1.out)) (sR (s.feedS b none).1 (s.feedS b none).2 1 4 2++mL (s.feedS b none).1 (s.feedS b none).2):=by
 have⟨F,hF⟩:=Ex (s.feedS b none);have hfed:=h.f1;have hf0:=h.f0;rw[hF];refine RM func11 b11 ?_
 refine AA (α:=Nat×PS×Option Nat) (λa=>.ref 0 0::Bd .u8 b::.any::.any::.any::iA a.1::Az (Ay (Ay (Ay [.any,.any])))) (λa=>psL a.2.1 a.2.2) (λa=>a.1≤b.length∧CL a.2.1∧a.2.1.fed+((b.length:Int)-a.1)≤1000000∧a.2.1.feedS (b.drop a.1) a.2.2=F) (λa=>b.length-a.1) (0,s,none) ⟨Si,h,by simp only[];omega,by simpa using hF⟩ ((Wk.rowObj 0 18 20 rfl rfl (.inr rfl) Om).trans (Wk.to (by simp[psL,ho,GO]) (by simp[BS]))) ?_;rintro⟨i,u,st⟩ ⟨hi,hu,hfd,hr⟩;simp only[]at hi hu hfd hr;cases st with
 |none=>
  have hfin:u.feedS (b.drop i) none=(u,none)->F=(u,none):=λh=>hr.symm.trans h
  simp only[psL];refine (mq @Ab ?_).1;by_cases hlt:i<b.length
  ·have q1:decide ((i:Int)<(b.length:Int))=true:=decide_eq_true Om;have ei:=Aw i Om;have g:=Cy .u8 b i hlt;have hd:b.drop i=b.getD i 0::b.drop (i+1):=by
    rw[drop_eq_getElem_cons hlt];simp[hlt]
   have hbc:0≤b.getD i 0∧b.getD i 0<256:=hb _ (by simp[hlt]);rw[hd]at hr hfin;have⟨c,hc⟩:=Ex (b.getD i 0);rw[hc]at g hbc hr hfin;simp only[PS.feedS]at hr hfin;refine (mq q1 ?_).1;refine Aa.us (RF u 0 1 2 3 De) rfl rfl (mp ?_).1;by_cases he:u.ended=0
   ·have c1:(u.ended==0)=true:=Sx he
    rw[if_pos he]at hr;have⟨o1,o2,o3,o4⟩:=SE hu hbc Om;have hct:=We u c hu hbc Om 0 1 2 3 De;refine (mt c1 @Int.toNat_natCast g @Ab ?_).1;refine⟨Om,Om,?_⟩;cases hn:u.nild c with
    |true=>
     rw[hn,U9]at hct;rw[hn,if_pos rfl]at hr;have hbu:=o3 hn;refine Aa.us hct rfl rfl (mq ei ?_).1;exact⟨(i+1,u.one c,some (u.buf.length+1)),⟨hlt,o1,by simp only[];omega,hr⟩,by simp only[];omega,(Wk.rowObj 0 1 1 rfl rfl (.inr rfl) Om).trans (Wk.to (by simp[hbu]) (by simp[BS]))⟩
    |false=>
     rw[hn,aC]at hct;rw[hn,if_neg De]at hr;have hkb:(u.one c).buf.length=u.buf.length+1:=by
      have hk:=(KQ (KD hu hbc Om).1 (by have:=(KD hu hbc Om).2;omega)).2.1.buf;rw[o4 hn,hk];simp[PS.add]
     have hlb:=hkb.symm;refine Aa.us hct rfl rfl (mq ei ?_).1;exact⟨(i+1,u.one c,none),⟨hlt,o1,by simp only[];omega,hr⟩,by simp only[];omega,Wk.to (by simp[hlb]) (by simp[BS])⟩
   ·have c1:(u.ended==0)=false:=Sx he
    have hF:=hfin (by rw[if_neg he]);refine (mq c1 ?_).1;subst hF;simp only[Oh]
    exact FK b11 [0,1,2,3] (by simp[Ax,AD,AB,AP,AH])
  ·have q1:decide ((i:Int)<(b.length:Int))=false:=decide_eq_false Om;have hF:=hfin (by rw[drop_of_length_le Om];rfl);refine (mq q1 ?_).1;subst hF;simp only[Oh]
   exact FK b11 [0,1,2,3] (by simp[Ax,AD,AB,AP,AH])
 |some n=>
  have hfin:u.feedS (b.drop i) (some n)=(u,(some n))->F=(u,(some n)):=λh=>hr.symm.trans h
  simp only[psL];refine (mq @Ab ?_).1;by_cases hlt:i<b.length
  ·have q1:decide ((i:Int)<(b.length:Int))=true:=decide_eq_true Om;have ei:=Aw i Om;have g:=Cy .u8 b i hlt;have hd:b.drop i=b.getD i 0::b.drop (i+1):=by
    rw[drop_eq_getElem_cons hlt];simp[hlt]
   have hbc:0≤b.getD i 0∧b.getD i 0<256:=hb _ (by simp[hlt]);rw[hd]at hr hfin;have⟨c,hc⟩:=Ex (b.getD i 0);rw[hc]at g hbc hr hfin;simp only[PS.feedS]at hr hfin;refine (mq q1 ?_).1;refine Aa.us (RF u 0 4 2 3 De) rfl rfl (mp ?_).1;by_cases he:u.ended=0
   ·have c1:(u.ended==0)=true:=Sx he
    rw[if_pos he]at hr;have⟨o1,o2,o3,o4⟩:=SE hu hbc Om;have hct:=We u c hu hbc Om 0 4 2 3 De;refine (mt c1 @Int.toNat_natCast g @Ab ?_).1;refine⟨Om,Om,?_⟩;cases hn:u.nild c with
    |true=>
     rw[hn,U9]at hct;rw[hn,if_pos rfl]at hr;have hbu:=o3 hn;refine Aa.us hct rfl rfl (mq ei ?_).1;exact⟨(i+1,u.one c,some n),⟨hlt,o1,by simp only[];omega,hr⟩,by simp only[];omega,(Wk.rowObj 0 1 1 rfl rfl (.inr rfl) Om).trans (Wk.sel [0,1,2,3,5] Si rfl Si rfl (by simp[hbu,Ax,AD,AB,AP,AH]) (by simp[BP,AE,AM]))⟩
    |false=>
     rw[hn,aC]at hct;rw[hn,if_neg De]at hr;have hkb:(u.one c).buf.length=u.buf.length+1:=by
      have hk:=(KQ (KD hu hbc Om).1 (by have:=(KD hu hbc Om).2;omega)).2.1.buf;rw[o4 hn,hk];simp[PS.add]
     have hlb:=hkb.symm;refine Aa.us hct rfl rfl (mq ei ?_).1;exact⟨(i+1,u.one c,(some n)),⟨hlt,o1,by simp only[];omega,hr⟩,by simp only[];omega,Wk.to (by simp[hlb]) (by simp[BS])⟩
   ·have c1:(u.ended==0)=false:=Sx he
    have hF:=hfin (by rw[if_neg he]);refine (mq c1 ?_).1;subst hF;simp only[Og]
    exact FK b11 [0,1,2,3,4] (by simp[Ax,AD,AB,AP,AH])
  ·have q1:decide ((i:Int)<(b.length:Int))=false:=decide_eq_false Om;have hF:=hfin (by rw[drop_of_length_le Om];rfl);refine (mq q1 ?_).1;subst hF;simp only[Og]
   exact FK b11 [0,1,2,3,4] (by simp[Ax,AD,AB,AP,AH])
def O8 (s:PS) (b:List Int) (h:CL s) (ho:s.out=[]) (hb:AW b) (hn:s.fed+b.length≤1000000) (i j k:Nat) (hd:[i,j,k].Nodup):
 CtN prog 11 [.ref i 0,Bd .u8 b] ([i,j,k].zip (Xg s j k)) (λn=>.sl (.row n) 20 (GO (s.feedS b none).1.out)) (λn=>[i,j,k].zip (sR (s.feedS b none).1 (s.feedS b none).2 j (n+1) k)) (λ_=>mL (s.feedS b none).1 (s.feedS b none).2):=by
 have h0:=Zd s b h ho hb hn;obtain⟨⟨F,st⟩,hF⟩:∃F,s.feedS b none=F:=⟨_,rfl⟩;rw[hF]at h0 ⊢;simp only[]at h0 ⊢;cases st with
 |none=>
  rw[Oh]at h0;exact CtN.mk h0 [i,j,k] hd rfl Si Si (λn N=>by simp[AH,AM]) (λn N=>by simp[AH,KW,range'_succ]) (λn N=>by simp[AH,Ax,AD,AB]) (λn N=>by simp[AH,sR,Ax,AD,AB]) (λn N=>by simp[mL,AH])
 |some m=>
  rw[Og]at h0;exact CtN.mk h0 [i,j,k] hd rfl Si Si (λn N=>by simp[AH,AM]) (λn N=>by simp[AH,KW,range'_succ]) (λn N=>by simp[AH,Ax,AD,AB,range'_succ]) (λn N=>by simp[AH,sR,Ax,AD,AB,range'_succ]) (λn N=>by simp[mL,AH])
def iE:Ah prog 9 [] [] (.ref 0 0) [P5 Eu CY CY CY]:=by
 refine RM func9 b9 ?_
 refine WO 0 [.fn (fC 0) [] [],CY,iA 0,iA 0,iA 0,uA 0,uA 0,uA 0,.sl .none 2 [],CY,uA 0,iA 0,iA 0,uA 0,uA 0,iA 0,iA 0,iA 0,CY] ?_
 exact FK b9 [0] (by simp[Ax,Eu,Kn])
def Wi:Ct prog 9 [] [] (λn=>.ref n 0) [] (λ_=>[P5 Eu CY CY CY]):=Ct.n iE (λρ=>by simp) (λn N=>by simp[AH]) (λn N=>by simp[Ax])
def Oi:CL Eu:=⟨λx hx=>by simp[Eu]at hx,De,De,De,De,De,De,De,De,De,De,De,De,De,De,De⟩
def Qx (b:List Int) (hb:AW b) (hn:(b.length:Int)≤1000000) {S:List Ad} {K:KT} (i:Nat) (h1:S[i]? =some (P5 Eu CY CY CY))
 (hK:K (.sl (.row (S.length+2)) 20 (GO (Eu.feedS b none).1.out)) [i] [(i,P5 (Eu.feedS b none).1 (U_ (Eu.feedS b none).1 (if(Eu.feedS b none).2.isSome then S.length+3 else S.length)) (Sy (Eu.feedS b none).1 (S.length+1)) CY)]
   ([.row 1 ((Eu.feedS b none).2.getD (Eu.feedS b none).1.buf.length),.row 3 (Eu.feedS b none).1.ms.length]++mL (Eu.feedS b none).1 (Eu.feedS b none).2)):
 Aa prog 11 [.ref i 0,Bd .u8 b] S K:=by
 have hil:=(Ge h1);refine⟨_,_,_,_,λT hT _ hd=>?_,λp hp=>?_,λp hp=>?_,hK⟩
 ·have Ls:T[S.length]? =some .dead:=hd (S.length,.row 1 ((Eu.feedS b none).2.getD (Eu.feedS b none).1.buf.length)) (by simp[Bw]);have hd1:T[S.length+1]? =some .dead:=hd (S.length+1,.row 3 (Eu.feedS b none).1.ms.length) (by simp[Bw]);have t1:T[i]? =some (P5 Eu CY CY CY):=(hT i Si).trans h1;have ES:i<T.length:=(Ge t1);refine Ah.rowObj (j:=1) 1 t1 rfl Ls Om ?_;refine Ah.rowObj (j:=9) (n:=S.length+1) 3 (k':=1) (i:=i) (ys:=[.fn (fC 0) [] [],.sl (.row S.length) 1 [],iA 0,iA 0,iA 0,uA 0,uA 0,uA 0,.sl .none 2 [],CY,uA 0,iA 0,iA 0,uA 0,uA 0,iA 0,iA 0,iA 0,CY]) ?_ rfl ?_ Om ?_
  ·simp[ES,Eu,Kn]
  ·rw[getElem?_set_ne Om,getElem?_set_ne Om];exact hd1
  ·have hnd:[i,S.length,S.length+1].Nodup:=by
    simp only[nodup_cons,mem_cons,not_mem_nil,or_false,not_or,not_false_eq_true,nodup_nil,and_true];omega
   have hc:=O8 Eu b Oi rfl hb (by show(0:Int)+_≤_;omega) i S.length (S.length+1) hnd;have ht0:=(Ge Ls);have ht1:=(Ge hd1);have hx:=hc ((((T.set S.length (.row 1 0)).set i (.cells [.fn (fC 0) [] [],.sl (.row S.length) 1 [],iA 0,iA 0,iA 0,uA 0,uA 0,uA 0,.sl .none 2 [],CY,uA 0,iA 0,iA 0,uA 0,uA 0,iA 0,iA 0,iA 0,CY])).set (S.length+1) (.row 3 0)).set i (.cells [.fn (fC 0) [] [],.sl (.row S.length) 1 [],iA 0,iA 0,iA 0,uA 0,uA 0,uA 0,.sl .none 2 [],.sl (.row (S.length+1)) 3 [],uA 0,iA 0,iA 0,uA 0,uA 0,iA 0,iA 0,iA 0,CY])) (S.length+2) (λp hp=>?_) (λp hp=>?_)
   ·rw[CC]at hx;simp only[sR,zip_cons_cons,zip_nil_right]at hx;rw[CC,cons_append,cons_append,nil_append,Bw,Bw];rw[Fd _ _ _ Si,Fd _ _ _ Si,Fd _ _ _ Si,Fd _ _ _ Si]at hx;exact hx
   ·simp only[zip_cons_cons,zip_nil_right,mem_cons,not_mem_nil,or_false]at hp;rcases hp with rfl|rfl|rfl
    ·simp[ES,Eu,Kn,A0,H9]
    ·simp only[];rw[getElem?_set_ne Om,getElem?_set_ne Om,getElem?_set_ne Om];simp[ht0,Eu]
    ·simp only[];rw[getElem?_set_ne Om];simp[ht1,Eu]
   ·have hpd:T[p.1]? =some .dead:=hd p (by
     rw[cons_append,cons_append,nil_append,Bw,Bw];exact mem_cons_of_mem _ (mem_cons_of_mem _ hp))
    have hge:S.length+2≤p.1:=by
     rw[IF]at hp;have:=(of_mem_zip hp).1;rw[mem_range']at this;omega
    rw[getElem?_set_ne Om,getElem?_set_ne Om,getElem?_set_ne Om,getElem?_set_ne Om];exact hpd
 ·simp only[mem_cons,not_mem_nil,or_false]at hp;subst hp;simp
 ·simp only[mem_cons,not_mem_nil,or_false]at hp;subst hp;exact hil
def Ct.pi {F:FuncId} {s:PS} {r:AV} (h:Ah prog F [.ref 0 0] (Xg s 1 2) r (Xg s 1 2)) (hr:∀ρ,r.ren ρ=r) (i j k:Nat) (hd:[i,j,k].Nodup):Ct prog F [.ref i 0] ([i,j,k].zip (Xg s j k)) (λ_=>r) ([i,j,k].zip (Xg s j k)) (λ_=>[]):=
 Ct.us h [i,j,k] hd rfl rfl Si (λN=>by simp[AH]) (λN=>by simp[AH,Ax,AD,AB]) (λN=>by simp[AH,Ax,AD,AB]) (λN=>hr _)
def Wc (s:PS):Ah prog 33 [.ref 0 0] (Xg s 1 2) (bA (s.ended==0)) (Xg s 1 2):=by
 refine RM func33 b33 ?_
 exact FK b33 [0,1,2] (by simp[Ax,AD,AB,AH])
def Y9 (s:PS) (i j k:Nat) (hd:[i,j,k].Nodup):Ct prog 33 [.ref i 0] ([i,j,k].zip (Xg s j k)) (λ_=>bA (s.ended==0)) ([i,j,k].zip (Xg s j k)) (λ_=>[]):=Ct.pi (Wc s) (λρ=>by simp) i j k hd
def V_ (s:PS) (h:CL s):Ah prog 35 [.ref 0 0] (Xg s 1 2) (bA s.whole) (Xg s 1 2):=by
 have t0:=h.t0;have t1:=h.t1;have a0:=h.a0;have a1:=h.a1;have z0:=h.z0;have z1:=h.z1;have w1:IntKind.i64.wrap (s.want.at_+s.want.size)=s.want.at_+s.want.size:=i64_in _ Om;have w2:IntKind.i64.wrap (s.want.at_+s.want.size+s.foot)=s.want.at_+s.want.size+s.foot:=i64_in _ Om;have w3:IntKind.i64.wrap (s.want.at_+s.want.size+s.foot+12)=s.want.at_+s.want.size+s.foot+12:=i64_in _ Om;have e:s.whole=(decide (0<s.foot)&&(decide (s.buf.length=0)&&decide (s.fed=s.want.at_+s.want.size+s.foot+12))):=rfl;refine RM func35 b35 ?_
 by_cases h1:0<s.foot
 ·have c1:decide (0<s.foot)=true:=Sx h1
  rw[c1,Bool.true_and]at e;refine (mr c1 @Ab ?_).1;by_cases h2:s.buf.length=0
  ·have c2:((s.buf.length:Int)==0)=true:=by simp only[beq_iff_eq];omega
   have e:s.whole=(s.fed==s.want.at_+s.want.size+s.foot+12):=by
    rw[e,decide_eq_true h2,Bool.true_and];by_cases h3:s.fed=s.want.at_+s.want.size+s.foot+12
    ·simp[h3]
    ·simp[h3]
   refine (ms c2 w1 w2 ?_).1;refine Aa.p (C3) (mq w3 ?_).1
   exact FK b35 [0,1,2] (by simp[e,Ax,AD,AB,AH])
  ·have c2:((s.buf.length:Int)==0)=false:=by simp only[beq_eq_false_iff_ne,ne_eq];omega
   have e:s.whole=false:=by rw[e,decide_eq_false h2,Bool.false_and]
   refine (mq c2 ?_).1
   exact FK b35 [0,1,2] (by simp[e,Ax,AD,AB,AH])
 ·have c1:decide (0<s.foot)=false:=Sx h1
  rw[c1,Bool.false_and]at e;refine (mq c1 ?_).1
  exact FK b35 [0,1,2] (by simp[e,Ax,AD,AB,AH])
def Y5 (s:PS) (h:CL s) (i j k:Nat) (hd:[i,j,k].Nodup):Ct prog 35 [.ref i 0] ([i,j,k].zip (Xg s j k)) (λ_=>bA s.whole) ([i,j,k].zip (Xg s j k)) (λ_=>[]):=Ct.pi (V_ s h) (λρ=>by simp) i j k hd
abbrev sU (s:PS) (j k:Nat):List Ad:=[if s.ended=0 then P5 s.close.1 CY (Sy s k) CY else P5 s (U_ s j) (Sy s k) CY,.row 1 s.buf.length,.row 3 s.ms.length]
def Wj (s:PS) (h:CL s):Ah prog 12 [.ref 0 0] (Xg s 1 2) (.sl .none 20 (GO s.close.2)) (sU s 1 2):=by
 have e:s.close=if s.ended=0 then(if s.whole=true then({s with ended:=2,buf:=[]},[.oth 2 s.fed 0])else({s with ended:=3,buf:=[]},[.oth 3 s.fed 1]))else(s,[]):=rfl
 have⟨C,hC⟩:=Ex s.close;rw[hC]at e;unfold sU;rw[hC];have hw:=Y5 s h 0 1 2 De;refine RM func12 b12 ?_
 refine Aa.us (Y9 s 0 1 2 De) rfl rfl (mp ?_).1;by_cases he:s.ended=0
 ·have c1:(s.ended==0)=true:=Sx he
  rw[if_pos he]at e ⊢;refine (mq c1 ?_).1;refine Aa.us hw rfl rfl (mp ?_).1;cases hwh:s.whole with
  |true=>
   rw[hwh,if_pos rfl]at e;rw[e];have hev:GO [.oth 2 s.fed 0]=[.agg [iA 2,iA s.fed,iA 0,iA 0,uA 0,uA 0,uA 0,iA 0,iA 0,CY,CY,CY,uA 0,uA 0,uA 0,uA 0,CY,uA 0,uA 0,CY]]:=rfl;refine (mp ?_).1;refine (Sr ?_).1;refine UT 2 ?_
   exact FK b12 [0,1,2] (by simp[hev,Ax,AD,AB,AH])
  |false=>
   rw[hwh,if_neg De]at e;rw[e];have hev:GO [.oth 3 s.fed 1]=[.agg [iA 3,iA s.fed,iA 1,iA 0,uA 0,uA 0,uA 0,iA 0,iA 0,CY,CY,CY,uA 0,uA 0,uA 0,uA 0,CY,uA 0,uA 0,CY]]:=rfl;refine (mp ?_).1;refine (Sr ?_).1;refine UT 2 ?_
   exact FK b12 [0,1,2] (by simp[hev,Ax,AD,AB,AH])
 ·have c1:(s.ended==0)=false:=Sx he
  rw[if_neg he]at e ⊢;rw[e];refine (mq c1 ?_).1;(refine A6.nilk 2 20 rfl ?_;simp only[set_cons_zero,set_cons_succ]);refine UT 2 ?_
  exact FK b12 [0,1,2] (by simp[GO,Ax,AD,AB,AH])
def Ku (s:PS) (h:CL s) (i j k:Nat) (hd:[i,j,k].Nodup):Ct prog 12 [.ref i 0] ([i,j,k].zip (Xg s j k)) (λ_=>.sl .none 20 (GO s.close.2)) ([i,j,k].zip (sU s j k)) (λ_=>[]):=by
 have h0:=Wj s h;by_cases he:s.ended=0
 ·unfold sU at h0 ⊢;rw[if_pos he]at h0 ⊢;exact Ct.us h0 [i,j,k] hd rfl rfl Si (λN=>by simp[AH]) (λN=>by simp[AH,Ax,AD,AB]) (λN=>by simp[AH,Ax,AD,AB]) (λN=>by simp[KW])
 ·unfold sU at h0 ⊢;rw[if_neg he]at h0 ⊢;exact Ct.us h0 [i,j,k] hd rfl rfl Si (λN=>by simp[AH]) (λN=>by simp[AH,Ax,AD,AB]) (λN=>by simp[AH,Ax,AD,AB]) (λN=>by simp[KW])
def E7 (b:List Int):List Ev:=(Eu.feed b).out++(Eu.feed b).close.2
def Eg (l m:List Ev):GO l++GO m=GO (l++m):=by simp[GO]
def Wl (b:List Int) (hb:AW b) (hn:(b.length:Int)≤1000000):Ct prog 14 [Bd .u8 b] [] (λ_=>.sl .none 20 (GO (E7 b))) [] (λ_=>[]):=by
 refine Ah.toCt ?_ cl cl
 have hfe:=RG b Eu none;have⟨fk,fn⟩:=Tn b Eu Oi hb (by show(0:Int)+_≤_;omega);have e:E7 b=(Eu.feed b).out++(Eu.feed b).close.2:=rfl;have hcall:=λ{S:List Ad} {K:KT}=>@Qx b hb hn S K
 obtain⟨⟨F,st⟩,hF⟩:∃F,Eu.feedS b none=F:=⟨_,rfl⟩;rw[hF]at hfe hcall;simp only[]at hfe hcall;rw[←hfe]at fk fn e;have ol:=fk.ol;have f2:=fk.f2;have cl:F.close.2.length≤1:=by
  unfold PS.close;split
  ·split<;>simp
  ·simp
 rw[e];refine RM func14 b14 ?_
 refine Aa.n (Wi) (mp ?_).1;refine hcall 0 rfl ?_;cases st with
 |none=>
  simp only[mL,Option.getD_none,Option.isSome_none,Bool.false_eq_true,if_false];simp only[go_sem,seval,length_cons,length_nil,cons_append,nil_append];refine (mok ?_).1;refine Aa.us (Ku F fk 0 1 2 De) rfl rfl ?_;by_cases he:F.ended=0
  ·unfold sU;rw[if_pos he];refine (mr @Bk @Eg ?_).1;refine⟨Om,?_⟩;refine UT 2 ?_;exact FA b14 []
  ·unfold sU;rw[if_neg he];refine (mr @Bk @Eg ?_).1;refine⟨Om,?_⟩;refine UT 2 ?_;exact FA b14 []
 |some n=>
  simp only[mL,Option.getD_some,Option.isSome_some,if_true];simp only[go_sem,seval,length_cons,length_nil,cons_append,nil_append];refine (mok ?_).1;refine Aa.us (Ku F fk 0 4 2 De) rfl rfl ?_;by_cases he:F.ended=0
  ·unfold sU;rw[if_pos he];refine (mr @Bk @Eg ?_).1;refine⟨Om,?_⟩;refine UT 2 ?_;exact FA b14 []
  ·unfold sU;rw[if_neg he];refine (mr @Bk @Eg ?_).1;refine⟨Om,?_⟩;refine UT 2 ?_;exact FA b14 []
abbrev Ua:AV:=.sl .none 1 []
def eA :Ct prog 89 [Ua,Ua] [] (λ_=>bA true) [] (λ_=>[]):=by
 refine Ah.toCt ?_ cl cl
 refine RM func89 b89 ?_
 refine AA (α:=Unit) (λ_=>Ua::Ua::.any::.any::.any::iA 0::Az (Ay [.any])) (λ_=>[]) (λ_=>True) (λ_=>0) () trivial (Wk.to Si (by simp[BS])) ?_;rintro _ _;refine (mp ?_).1;exact FA b89 []
def eE :Ct prog 91 [.agg [uA 0,Ua],.agg [uA 0,Ua]] [] (λ_=>bA true) [] (λ_=>[]):=by
 refine Ah.toCt ?_ cl cl
 refine RM func91 b91 ?_
 refine AA (α:=Unit) (λ_=>.any::.any::.ref 0 0::.ref 1 0::.any::iA 0::Az (Az [.any])) (λ_=>[.cells [uA 0,Ua],.cells [uA 0,Ua]]) (λ_=>True) (λ_=>0) () trivial (Wk.to Si (by simp[BS])) ?_;rintro _ _;refine (mp ?_).1;exact FA b91 []
abbrev Ae1:AV:=.agg [iA 0,uA 0,uA 0,uA 0,iA 0,iA 0,Ua,Ua,Ua,uA 0,uA 0,uA 0,uA 0,Ua]
def Q9 :Ct prog 36 [Ae1,Ae1] [] (λ_=>bA true) [] (λ_=>[]):=by
 refine Ah.toCt ?_ cl cl
 have h0:BJ [] []=true:=rfl;refine RM func36 b36 ?_
 refine Aa.p (N9 [] [] Si) (mq h0 ?_).1;refine Cp (eA) ?_;refine Aa.p (Ob [] [] (λx hx=>by simp at hx) (λx hx=>by simp at hx)) (mq h0 ?_).1;refine Cp (eE) ?_;exact FA b36 []
def P1 :Ct prog 92 [Ua,Ua] [] (λ_=>bA true) [] (λ_=>[]):=by
 refine Ah.toCt ?_ cl cl
 refine RM func92 b92 ?_
 refine AA (α:=Unit) (λ_=>Ua::Ua::.any::.any::.any::iA 0::Az (Ay [.any])) (λ_=>[]) (λ_=>True) (λ_=>0) () trivial (Wk.to Si (by simp[BS])) ?_;rintro _ _;refine (mp ?_).1;exact FA b92 []
def d8 :Ct prog 37 [.agg [uA 0,uA 0,Ua],.agg [uA 0,uA 0,Ua]] [] (λ_=>bA true) [] (λ_=>[]):=by
 refine Ah.toCt ?_ cl cl
 refine RM func37 b37 ?_
 refine Cp (P1) ?_;exact FA b37 []
def Me:Ev->Prop
 | .item _ b=>DG b∧j9 b.en
 | .oth _ _ _=>True
def ev0:Ev:=.oth 0 0 0
def aZ (l:List Ev) (k:Nat) (h:k<l.length):(GO l).getD k .any=evA (l.getD k ev0):=by simp[GO,h]
def UP (l:List Ev) (hl:∀e∈l,Me e) (hn:l.length≤1000000):Ah prog 13 [.sl .none 20 (GO l),.sl .none 20 (GO l)] [] (bA true) []:=by
 refine RN func13 b13 ?_;refine (mq @Bk ?_).1
 refine AA (α:=Nat) (λk=>.sl .none 20 (GO l)::.sl .none 20 (GO l)::.any::.any::.any::iA k::Az (Az (Az (Ay (Ay []))))) (λ_=>[]) (λk=>k≤l.length) (λk=>l.length-k) 0 Si (Wk.to Si (by simp[BS])) ?_;rintro k hk;refine (mq @Bk ?_).1;by_cases hlt:k<l.length
 ·have q1:decide ((k:Int)<(l.length:Int))=true:=by simp;omega
  have ek:=Aw k Om;have g:=aZ l k hlt;have hm:l.getD k ev0∈l:=by simp[hlt]
  have hok:=hl _ hm;obtain⟨e,he⟩:∃e,l.getD k ev0=e:=⟨_,rfl⟩;rw[he]at g hok;cases e with
  |item a b=>
   have g':(GO l).getD k .any=.agg [iA 1,iA a,iA 0,iA 0,uA 0,uA 0,uA 0,iA 0,iA 0,CY,CY,CY,uA 0,uA 0,uA 0,uA 0,CY,uA b.ep,uA b.base,Fv b.en]:=g;have hs:Hv b b=true:=by simp[Hv]
   refine (mt q1 g' @Bk @Int.toNat_natCast ?_).1;(repeat with_reducible refine Sa ?_);refine Aa.p (Q9) (mp ?_).1;refine Aa.p (N7 b b hok.1 hok.2 hok.2) (mr hs ek ?_).1;(repeat with_reducible refine Sa ?_);exact⟨k+1,Om,Om,Wk.sel [] Si rfl Si rfl Si (by simp[BP,AE,AM])⟩
  |oth c a d=>
   have g':(GO l).getD k .any=.agg [iA c,iA a,iA d,iA 0,uA 0,uA 0,uA 0,iA 0,iA 0,CY,CY,CY,uA 0,uA 0,uA 0,uA 0,CY,uA 0,uA 0,CY]:=g;refine (mt q1 g' @Bk @Int.toNat_natCast ?_).1;(repeat with_reducible refine Sa ?_);refine Aa.p (Q9) (mp ?_).1;refine Aa.p (d8) (mq ek ?_).1;(repeat with_reducible refine Sa ?_);exact⟨k+1,Om,Om,Wk.sel [] Si rfl Si rfl Si (by simp[BP,AE,AM])⟩
 ·have q1:decide ((k:Int)<(l.length:Int))=false:=by simp;omega
  refine (mq q1 ?_).1;exact FA b13 []
def XQ (l:List Ev) (hl:∀e∈l,Me e) (hn:l.length≤1000000):Ct Tryz.prog 13 [.sl .none 20 (GO l),.sl .none 20 (GO l)] [] (λ_=>bA true) [] (λ_=>[]):=(UP l hl hn).toCt cl cl
def Qq (f g:Int×Int):Int×Int:=if f.1=0 then(if g.1=0 then(0,0)else g)else f
def Eo (f g:Int×Int):Ct prog 30 [.sl .none 2 [Ce f,Ce g]] [] (λ_=>Ce (Qq f g)) [] (λ_=>[]):=by
 refine Ah.toCt ?_ cl cl
 refine RM func30 b30 ?_
 refine AA (α:=Nat) (λk=>.sl .none 2 [Ce f,Ce g]::.any::.ref 0 0::.any::.any::.sl .none 2 [Ce f,Ce g]::iA 2::iA k::Ay (Ay [.any])) (λ_=>[.cells [iA 0,iA 0]]) (λk=>k≤2∧(1≤k->f.1=0)∧(2≤k->g.1=0)) (λk=>2-k) 0 ⟨Om,λh=>by omega,λh=>by omega⟩ (Wk.to Si (by simp[BS])) ?_;rintro k ⟨hk,h1,h2⟩;refine (mp ?_).1;obtain rfl|rfl|rfl:k=0∨k=1∨k=2:=Om
 ·refine (mp ?_).1;refine Aa.p (Ai f.1 f.2) ?_;by_cases hz:f.1=0
  ·have q:(f.1==0)=true:=Sx hz
   refine (mq q ?_).1;exact⟨1,⟨Om,λ_=>hz,λh=>by omega⟩,Om,Wk.sel [0] Si rfl Si rfl Si (by simp[BP,AE,AM])⟩
  ·have q:(f.1==0)=false:=Sx hz
   have e:Qq f g=f:=by unfold Qq;rw[if_neg hz]
   refine (mq q ?_).1
   exact FE b30 [] e
 ·have hz:=h1 Om;refine (mp ?_).1;refine Aa.p (Ai g.1 g.2) ?_;by_cases hg:g.1=0
  ·have q:(g.1==0)=true:=Sx hg
   refine (mq q ?_).1;exact⟨2,⟨Om,λ_=>hz,λh=>hg⟩,Om,Wk.sel [0] Si rfl Si rfl Si (by simp[BP,AE,AM])⟩
  ·have q:(g.1==0)=false:=Sx hg
   have e:Qq f g=g:=by unfold Qq;rw[if_pos hz,if_neg hg]
   refine (mq q ?_).1
   exact FE b30 [] e
 ·have hz:=h1 Om;have hg:=h2 Om;have e:Qq f g=(0,0):=by unfold Qq;rw[if_pos hz,if_pos hg]
  refine (mp ?_).1
  exact FE b30 [] e
def sN (u:EL):EL×Int:=if 16<u.bt.length then(CH,15)else(u,0)
def JN (u:EL) (hn:u.bt.length≤1000000):Ct prog 73 [Et u] [] (λ_=>.tup [Et (sN u).1,iA (sN u).2]) [] (λ_=>[]):=by
 refine Ah.toCt ?_ cl cl
 refine RN func73 b73 ?_;refine (mq @Ao ?_).1
 by_cases h:16<u.bt.length
 ·have q:decide ((16:Int)<(u.bt.length:Int))=true:=by simp;omega
  have e:sN u=(CH,15):=by unfold sN;rw[if_pos h]
  refine (mq q ?_).1;refine WO 1 [uA 0,GN []] ?_
  exact FK b73 [] (by simp[e,CH,D7])
 ·have q:decide ((16:Int)<(u.bt.length:Int))=false:=by simp;omega
  have e:sN u=(u,0):=by unfold sN;rw[if_neg h]
  refine (mq q ?_).1
  exact FE b73 [] e
structure CpB (b:Bt):Prop where
 n:b.en.length≤1000000
 e:∀x∈b.en,DS x.lk∧x.data.length≤2000000
def WZ (b:Bt) (h:CpB b):Ah prog 157 [FD b] [] (FD b) []:=by
 have⟨hl,hn⟩:=h;refine RN func157 Ahc ?_;refine (mq @Aq ?_).1
 refine AA (α:=Nat) (λk=>.any::.ref 0 0::.ref 1 0::.sl (.row 2) 2 (E_ (b.en.take k))::.any::.any::.any::Fv b.en::iA b.en.length::iA k::Ay (Ay (Ay []))) (λk=>[.cells [uA b.ep,uA b.base,Fv b.en],.cells [uA 0,uA 0,.sl .full 1 []],.row 2 (b.en.take k).length]) (λk=>k≤b.en.length) (λk=>b.en.length-k) 0 Si ((Wk.row 3 2 rfl (.inr rfl) De).trans (Wk.to (by simp[E_]) (by simp[BS,E_]))) ?_;intro k hk;refine (mp ?_).1;by_cases hlt:k<b.en.length
 ·have q1:decide ((k:Int)<(b.en.length:Int))=true:=decide_eq_true Om;have ek:=Aw k Om;have g:=EK b.en k hlt;have hm:b.en.getD k Dt∈b.en:=by simp[hlt]
  have ht:E_ (b.en.take k)++[Lt (b.en.getD k Dt)]=E_ (b.en.take (k+1)):=by
   unfold E_;rw[take_add_one,map_append];congr 1;simp[hlt]
  have hln:(b.en.take (k+1)).length≤1000000:=by rw[length_take];omega
  have hln2:(b.en.take k).length+1=(b.en.take (k+1)).length:=by rw[length_take,length_take];omega
  refine (mt q1 g @Aq @Int.toNat_natCast ?_).1;(repeat with_reducible refine Sa ?_);refine Aa.p (MF (b.en.getD k Dt) (hn _ hm).1 (hn _ hm).2) (mt ht @Aq hln2 ek ?_).1;(repeat with_reducible refine Sa ?_);exact⟨k+1,hlt,Om,Wk.sel [0,1,2] Si rfl Si rfl (by simp[AE,D2]) (by simp[BP,AE,AH,D2])⟩
 ·have q1:decide ((k:Int)<(b.en.length:Int))=false:=decide_eq_false Om;have e:b.en.take k=b.en:=take_of_length_le Om;refine (mr q1 e ?_).1;refine UO 1 ?_;exact FA Ahc []
def ZI (b:Bt) (h:CpB b):Ct Tryz.prog 157 [FD b] [] (λ_=>FD b) [] (λ_=>[]):=(WZ b h).toCt cl cl
def PX (u:EL) (hl:u.bt.length≤1000000) (hn:∀b∈u.bt,CpB b):Ah prog 84 [Et u] [] (Et u) []:=by
 refine RN func84 b84 ?_;refine (mq @Ao ?_).1
 refine AA (α:=Nat) (λk=>.any::.ref 0 0::.ref 1 0::.sl (.row 2) 3 (D7 (u.bt.take k))::.any::.any::.any::GN u.bt::iA u.bt.length::iA k::Ay (Ay (Ay []))) (λk=>[.cells [uA u.ep,GN u.bt],.cells [uA 0,.sl .full 1 []],.row 3 (u.bt.take k).length]) (λk=>k≤u.bt.length) (λk=>u.bt.length-k) 0 Si ((Wk.row 3 3 rfl (.inr rfl) De).trans (Wk.to (by simp[D7]) (by simp[BS,D7]))) ?_;intro k hk;refine (mp ?_).1;by_cases hlt:k<u.bt.length
 ·have q1:decide ((k:Int)<(u.bt.length:Int))=true:=decide_eq_true Om;have ek:=Aw k Om;have g:=GB u.bt k hlt;have hm:u.bt.getD k Cc∈u.bt:=by simp[hlt]
  have ht:D7 (u.bt.take k)++[FD (u.bt.getD k Cc)]=D7 (u.bt.take (k+1)):=by
   unfold D7;rw[take_add_one,map_append];congr 1;simp[hlt]
  have hln:(u.bt.take (k+1)).length≤1000000:=by rw[length_take];omega
  have hln2:(u.bt.take k).length+1=(u.bt.take (k+1)).length:=by rw[length_take,length_take];omega
  refine (mt q1 g @Ao @Int.toNat_natCast ?_).1;(repeat with_reducible refine Sa ?_);refine Aa.p (ZI (u.bt.getD k Cc) (hn _ hm)) (mt ht @Ao hln2 ek ?_).1;(repeat with_reducible refine Sa ?_);exact⟨k+1,hlt,Om,Wk.sel [0,1,2] Si rfl Si rfl (by simp[AE,Je]) (by simp[BP,AE,AH,Je])⟩
 ·have q1:decide ((k:Int)<(u.bt.length:Int))=false:=decide_eq_false Om;have e:u.bt.take k=u.bt:=take_of_length_le Om;refine (mr q1 e ?_).1;refine UO 1 ?_;exact FA b84 []
def Sj (u:EL) (hl:u.bt.length≤1000000) (hn:∀b∈u.bt,CpB b):Ct Tryz.prog 84 [Et u] [] (λ_=>Et u) [] (λ_=>[]):=(PX u hl hn).toCt cl cl
def up2 (u:EL):EL×Int:=if DQ u=true then sN u else(CH,3)
def Uh (u:EL) (hs:KE u) (hl:u.bt.length≤1000000) (hn:∀b∈u.bt,CpB b):Ct prog 29 [Et u] [] (λ_=>.tup [Et (up2 u).1,iA (up2 u).2]) [] (λ_=>[]):=by
 refine Ah.toCt ?_ cl cl
 have⟨X,hX⟩:=Ex (up2 u);have e:up2 u=if DQ u=true then sN u else(CH,3):=rfl
 rw[hX]at e ⊢;refine RM func29 b29 ?_
 refine Aa.p (Ql u hs) ?_;cases hr:DQ u with
 |true=>
  rw[if_pos hr]at e;refine (mp ?_).1;refine Cp (Sj u hl hn) ?_;refine Aa.p (JN u hl) ?_;simp only[go_sem,seval,←e];refine (mok ?_).1;exact FA b29 []
 |false=>
  rw[if_neg (by rw[hr];decide)]at e;refine (mp ?_).1;refine WO 1 [uA 0,GN []] ?_
  exact FK b29 [] (by simp[e,CH,D7])
def L2 (x:O1):En:=⟨[⟨x.st,if x.hb=true then[x.bk]else[]⟩],x.data⟩
def pY (x:O1) (hn:x.data.length≤2000000):Ah prog 145 [oA x] [] (Lt (L2 x)) []:=by
 obtain⟨X,hX⟩:∃X,L2 x=X:=⟨_,rfl⟩;have e:L2 x=⟨[⟨x.st,if x.hb=true then[x.bk]else[]⟩],x.data⟩:=rfl;rw[hX]at e ⊢;refine RM func145 Adz ?_
 cases hb:x.hb with
 |true=>
  rw[if_pos hb]at e;subst e;refine (mp ?_).1;(repeat with_reducible refine Sa ?_);simp only[go_sem,seval,nil_append,Ab];refine (mok ?_).1;refine WO 1 [Gg [⟨x.st,[x.bk]⟩],Bd .u8 x.data] ?_;exact FA Adz []
 |false=>
  rw[if_neg (by rw[hb];decide)]at e;subst e;refine (mp ?_).1;(repeat with_reducible refine Sa ?_);simp only[go_sem,seval,nil_append,Ab];refine (mok ?_).1;refine WO 1 [Gg [⟨x.st,[]⟩],Bd .u8 x.data] ?_;exact FA Adz []
def Fs (x:O1) (hn:x.data.length≤2000000):Ct Tryz.prog 145 [oA x] [] (λ_=>Lt (L2 x)) [] (λ_=>[]):=(pY x hn).toCt cl cl
def Wk.mrowObj {m:Nat} {tm:List AV} {S:List Ad} (i j k:Nat) {k':Nat} {ys:List AV} (hi:S[i]? =some (.cells ys)) (hj:ys[j]? =some (.sl .full k' [])) (h1:1≤k):
 Wk m tm S tm (S.set i (.cells (ys.set j (.ms S.length 0)))++[.mrow k 0 []]):=λG0 S0 w0 G a w _ hz=>by
 have hd:=A1.dead hz.left.wd 1;have hil:=(Ge hi);have hjl:=(Ge hj);have⟨b,cs,t,g1,g2,g3,g4,_⟩:=hz.left.wd.obj i ys hi;have hv:=Array.getElem?_eq_getElem (show j<cs.size by omega);have r:=(g4 j _ _ hj hv).2;generalize hcj:cs[j]=v at*;cases r with
 | @sl _ _ _ A c b' o vs q1 q2 q3 q4 q5 q6 q7=>
   have hc:c=0:=q7;subst hc;have hid:(S++List.replicate 1 Ad.dead)[S.length]? =some .dead:=by simp
   have hl:=A1.mrowTo (j:=S.length) (k:=k) (n:=0) (c:=0) (xs:=[]) (A:=A) hd.wd (.inl hid) h1 Si (Nat.le_refl _) Om (Db.refl _ w) (λh=>by omega);have e:(S++List.replicate 1 Ad.dead).set S.length (.mrow k 0 [])=S++[.mrow k 0 []]:=by simp
   rw[e]at hl;have hi':(S++[Ad.mrow k 0 []])[i]? =some (.cells ys):=by rw[getElem?_append_left hil];exact hi
   have⟨b2,cs2,t2,p1,p2,p3,p4,_⟩:=hl.wd.obj i ys hi';have hb2:b2=b:=by
    have:=hl.le.loc i b (by simpa using g1);rw[p1]at this;injection this
   subst hb2;rw[p2]at g2;injection g2 with g2;injection g2 with e1 e1t;subst e1 e1t;have hturn:A1 (G.newHist S.length 0 (.slice A 0 0)) (S++[Ad.mrow k 0 []]) w (G.newHist S.length 0 (.slice A 0 0)) ((S++[Ad.mrow k 0 []]).set i (.cells (ys.set j (.ms S.length 0)))) w:=by
    refine A1.turn (xs':=ys.set j (.ms S.length 0)) hl.wd hi' p1 (⟨rfl,rfl,rfl,rfl,λ_ _=>rfl,p2⟩:JL w w b2 (.cells cs2 t2 (0,0))) (by rw[length_set];omega) λq x u hx hu=>?_
    by_cases eq:q=j
    ·subst eq;simp[hjl]at hx;subst hx;rw[hv]at hu;injection hu with hu;refine⟨?_,?_⟩
     ·rw[←hu];rfl
     ·rw[←hu];exact .ms (by simp[Gh.newHist]) λh=>by omega
    ·rw[getElem?_set_ne (Ne.symm eq)]at hx;exact p4 q x u hx hu
   have e2:(S++[Ad.mrow k 0 []]).set i (.cells (ys.set j (.ms S.length 0)))=S.set i (.cells (ys.set j (.ms S.length 0)))++[.mrow k 0 []]:=by rw[set_append_left _ _ hil]
   rw[e2]at hturn;have hall:=((hz.left.trans hd).trans hl).trans hturn;exact⟨_,hall,hz.size,λt' x u hx hu=>(hz.rep t' x u hx hu).mono hl.le,hz.defers,hz.wd0⟩
def Wk.mwa {m:Nat} {tm:List AV} {S:List Ad} (j:Nat) {k n:Nat} {xs ys:List AV} (hj:S[j]? =some (.mrow k n xs)) (h:Co xs ys):Wk m tm S tm (S.set j (.mrow k n ys)):=λG0 S0 w0 G a w _ hz=>by
 have⟨hk,hl,A,c,h1,h2,h3,hc6,h4⟩:=hz.left.wd.mrow j k n xs hj;have hm:=A1.mrowTo (j:=j) (k:=k) (n:=n) (c:=c) (xs:=ys) (A:=A) hz.left.wd (.inr ⟨n,xs,hj,.inr ⟨rfl,h1⟩⟩) hk (by rw[←h.1];exact hl) h3 hc6 (Db.refl _ w) (λh0=>by
  have⟨b,cs,t,e1,e2,e3,e4,_⟩:=h4 h0;refine⟨b,cs,t,e1,e2,e3,λi x v hx hv=>?_,.inr ?_⟩
  ·have hi:i<xs.length:=by rw[h.1];exact(Ge hx)
   have he:=getElem?_eq_getElem hi;have⟨o1,o2⟩:=e4 i _ v he hv;exact⟨o1,(h.2 i _ x he hx).val _ _ o2⟩
  ·simp[blk,hj,h1,e1,h0])
 exact⟨_,hz.left.trans hm,hz.size,λt' x u hx hu=>(hz.rep t' x u hx hu).mono hm.le,hz.defers,hz.wd0⟩
def Wk.freezeObj {m:Nat} {tm:List AV} {S:List Ad} (i j q k:Nat) {n:Nat} {ys xs:List AV} (zs:List AV) (hi:S[i]? =some (.cells ys)) (hj:ys[j]? =some (.ms q n)) (hq:S[q]? =some (.mrow k n xs)) (hl:zs.length=n) (hf:Cn zs=xs) (hk:∀z∈zs,z.cells.length=k):
 Wk m tm S tm ((S.set q (.row k n)).set i (.cells (ys.set j (.sl (.row q) k zs)))):=λG0 S0 w0 G a w _ hz=>by
 have hne:q≠i:=by rintro rfl;rw[hi]at hq;simp at hq
 have hjl:=(Ge hj);have⟨b,cs,t,g1,g2,g3,g4,_⟩:=hz.left.wd.obj i ys hi;have hv:=Array.getElem?_eq_getElem (show j<cs.size by omega);have r:=(g4 j _ _ hj hv).2;generalize hcj:cs[j]=v at*;cases r with
 | @ms _ _ A c hh hA=>
   have⟨G',hl',hh',vs,v1,v2,v3,v4,v5⟩:=A1.freeze hz.left.wd hq hh;have hi':(S.set q (.row k n))[i]? =some (.cells ys):=by rw[getElem?_set_ne hne];exact hi
   have⟨b2,cs2,t2,p1,p2,p3,p4,_⟩:=hl'.wd.obj i ys hi';have hb2:b2=b:=by
    have:=hl'.le.loc i b g1;rw[p1]at this;injection this
   subst hb2;rw[p2]at g2;injection g2 with g2;injection g2 with e1 e1t;subst e1 e1t;have hturn:A1 G' (S.set q (.row k n)) w G' ((S.set q (.row k n)).set i (.cells (ys.set j (.sl (.row q) k zs)))) w:=by
    refine A1.turn (xs':=ys.set j (.sl (.row q) k zs)) hl'.wd hi' p1 (⟨rfl,rfl,rfl,rfl,λ_ _=>rfl,p2⟩:JL w w b2 (.cells cs2 t2 (0,0))) (by rw[length_set];omega) λp x u hx hu=>?_
    by_cases eq:p=j
    ·subst eq;simp[hjl]at hx;subst hx;rw[hv]at hu;injection hu with hu;subst hu;refine⟨rfl,?_⟩;subst hl hf;by_cases h0:0<zs.length
     ·obtain⟨b,rfl,v6⟩:=v5 h0;exact C9 v1 v2 v3 (λi x hx=>hk x (mem_of_getElem? hx)) v6 (λi j x y u h1 h2 h3=>v4 _ y u (Nz zs hk i j x y h1 h2) h3) hh'
     ·have hzn:zs=[]:=eq_nil_of_length_eq_zero Om;subst hzn;exact Bv.sl (b:=0) (o:=0) (λ_ _=>undef) v2 (λh=>by simp at h) (λi x h=>by simp at h) (λi j h=>by simp at h) (λi j h=>by simp at h) (λi j x y h=>by simp at h) hh'
    ·rw[getElem?_set_ne (Ne.symm eq)]at hx;exact p4 p x u hx hu
   exact⟨G',(hz.left.trans hl').trans hturn,hz.size,λt' x u hx hu=>(hz.rep t' x u hx hu).mono hl'.le,hz.defers,hz.wd0⟩
def T_ (u:JU):Nat->Option (List Bt×Bt)
 |0=>none
 |k+1=>match T_ u k with
  |none=>some ([],⟨u.ep,IntKind.u64.wrap (u.base+(k:Int)),[L2 (u.en.getD k KI)]⟩)
  |some (i,l)=>if k%16=0 then some (i++[l],⟨u.ep,IntKind.u64.wrap (u.base+(k:Int)),[L2 (u.en.getD k KI)]⟩)else some (i,{l with en:=l.en++[L2 (u.en.getD k KI)]})
def upL:Option (List Bt×Bt)->List Bt
 |none=>[]
 |some (i,l)=>i++[l]
def R7 (u:JU):EL:=⟨u.ep,upL (T_ u u.en.length)⟩
def upS (u:JU):Option (List Bt×Bt)->List Ad
 |none=>[.cells [uA u.ep,uA u.base,XE u.en],.cells [uA 0,.sl .full 1 []],.cells [uA u.ep,.ms 3 0],.mrow 3 0 []]
 |some (i,l)=>[.cells [uA u.ep,uA u.base,XE u.en],.cells [uA 0,.sl .full 1 []],.cells [uA u.ep,.ms 3 (i.length+1)],.mrow 3 (i.length+1) (Cn (D7 i)++[uA l.ep,uA l.base,.sl (.row 4) 2 (E_ l.en)]),.row 2 l.en.length]
def QS (u:JU):∀k,(k=0↔T_ u k=none)∧∀i l,T_ u k=some (i,l)->i.length≤k∧l.en.length≤k∧1≤k:=by
 intro k
 induction k with
 |zero=>exact⟨by simp[T_],λi l h=>by simp[T_]at h⟩
 |succ k ih=>
  refine⟨⟨λh=>by omega,λh=>?_⟩,λi l h=>?_⟩
  ·simp only[T_]at h;split at h
   ·simp at h
   ·split at h<;>simp at h
  ·simp only[T_]at h;split at h
   ·simp only[Option.some.injEq,Prod.mk.injEq]at h;obtain⟨rfl,rfl⟩:=h;simp
   ·rename_i i' l' h';have⟨a1,a2,a3⟩:=ih.2 i' l' h';split at h
    ·simp only[Option.some.injEq,Prod.mk.injEq]at h;obtain⟨rfl,rfl⟩:=h;simp;omega
    ·simp only[Option.some.injEq,Prod.mk.injEq]at h;obtain⟨rfl,rfl⟩:=h;simp;omega
def nS (l:List O1) (k:Nat) (h:k<l.length):(Xh l).getD k .any=oA (l.getD k KI):=by simp[Xh,h]
def pF (i:List Bt):(Cn (D7 i)).length=i.length*3:=by
 induction i with
 |nil=>rfl
 |cons b i ih=>
  have e:Cn (D7 (b::i))=[uA b.ep,uA b.base,Fv b.en]++Cn (D7 i):=rfl;rw[e,length_append,ih];simp;omega
def RC (i:List Bt) (l:Bt):Cn (D7 (i++[l]))=Cn (D7 i)++[uA l.ep,uA l.base,Fv l.en]:=by
 simp[Cn,D7,AV.cells]
def at3 {F:List AV} {n:Nat} (h:F.length=n*3) (a b c:AV):(F++[a,b,c])[n*3+2]? =some c:=by
 rw[getElem?_append_right Om,show n*3+2-F.length=2 by omega];rfl
def Aer {F:List AV} {n:Nat} (h:F.length=n*3) (a b c z:AV):Ck (F++[a,b,c]) (n*3+2) [z]=F++[a,b,z]:=by
 show(F++[a,b,c]).set (n*3+2) z=_;rw[set_append_right _ _ Om,show n*3+2-F.length=2 by omega];rfl
def UL (ρ:Nat->Nat) (i:List Bt):(Cn (D7 i)).map (λx=>x.ren ρ)=Cn (D7 i):=by
 induction i with
 |nil=>rfl
 |cons b i ih=>
  have e:Cn (D7 (b::i))=[uA b.ep,uA b.base,Fv b.en]++Cn (D7 i):=rfl;rw[e,map_append,ih];simp[AE,D2]
def Ah4 (u:JU) (hn:u.en.length≤1000000) (hd:∀x∈u.en,x.data.length≤2000000):Ah Tryz.prog 74 [Sh u] [] (Et (R7 u)) []:=by
 have hE:R7 u=⟨u.ep,upL (T_ u u.en.length)⟩:=rfl
 obtain⟨X,hX⟩:∃X,R7 u=X:=⟨_,rfl⟩
 rw[hX]at hE ⊢
 refine RN Tryz.func74 b74 ?_;simp only[go_sem,Nat.reduceAdd,Nat.reduceMul,Int.reduceToNat,Nat.reduceLeDiff,Int.reduceLE,Int.reduceLT,↓reduceIte,Int.reduceBEq,Int.reduceBNe,Int.reduceAdd,Int.reduceSub,Int.reduceMul,CI];try refine CD rfl ?_
 refine AA (α:=Nat) (λk=>[.any,.ref 0 0,.ref 1 0,.ref 2 0,.any,.any,.any,.any,.any,.any,.any,XE u.en,iA u.en.length,iA k,.any,.any,.any,.any,.any,.any,.any,.any,.any,.any,.any,.any,.any,.any,.any,.any,.any,.any,.any,.any,.any,.any,.any,.any,.any,.any,.any,.any,.any,.any,.any,.any,.any,.any,.any,.any,.any,.any,.any,.any]) (λk=>upS u (T_ u k)) (λk=>k≤u.en.length) (λk=>u.en.length-k) 0 (by simp) ((Wk.mrowObj 2 1 3 rfl rfl (by decide)).trans (Wk.to (by simp[upS,T_]) (by simp[BS]))) ?_
 intro k hk
 obtain⟨f1,f2⟩:=QS u k
 by_cases hlt:k<u.en.length
 ·have q1:decide ((k:Int)<(u.en.length:Int))=true:=decide_eq_true (by omega)
  have ek:=Aw k (by omega)
  have g:=nS u.en k hlt
  have hm:u.en.getD k KI∈u.en:=by simp[hlt]
  have hdx:=hd _ hm
  have wk:IntKind.u64.wrap (k:Int)=(k:Int):=IntWalk.u64_in _ (by omega)
  have hs1:T_ u (k+1)=match T_ u k with
   |none=>some ([],⟨u.ep,IntKind.u64.wrap (u.base+(k:Int)),[L2 (u.en.getD k KI)]⟩)
   |some (i,l)=>if k%16=0 then some (i++[l],⟨u.ep,IntKind.u64.wrap (u.base+(k:Int)),[L2 (u.en.getD k KI)]⟩)else some (i,{l with en:=l.en++[L2 (u.en.getD k KI)]}):=rfl
  obtain⟨x,hx⟩:∃x,u.en.getD k KI=x:=⟨_,rfl⟩
  rw[hx]at g hdx hs1
  have tm16:(k:Int).tmod 16=((k%16:Nat):Int):=by rw[Int.tmod_eq_emod_of_nonneg (by omega)];omega
  have w0:IntKind.i64.wrap 0=0:=rfl
  cases hu:T_ u k with
  |none=>
   have hk0:=f1.2 hu
   have q16:((k:Int).tmod 16==0)=true:=by rw[tm16,hk0];rfl
   rw[hu]at hs1
   simp only[upS]
   (simp only[go_sem,Nat.reduceAdd,Nat.reduceMul,Int.reduceToNat,Nat.reduceLeDiff,Int.reduceLE,Int.reduceLT,↓reduceIte,Int.reduceBEq,Int.reduceBNe,Int.reduceAdd,Int.reduceSub,Int.reduceMul,q1,g,CI,Int.toNat_natCast,wk];try refine CD rfl ?_)
   refine⟨by omega,by omega,by omega,?_⟩
   (simp only[go_sem,Nat.reduceAdd,Nat.reduceMul,Int.reduceToNat,Nat.reduceLeDiff,Int.reduceLE,Int.reduceLT,↓reduceIte,Int.reduceBEq,Int.reduceBNe,Int.reduceAdd,Int.reduceSub,Int.reduceMul,q16,wk];try refine CD rfl ?_)
   (simp only[go_sem,Nat.reduceAdd,Nat.reduceMul,Int.reduceToNat,Nat.reduceLeDiff,Int.reduceLE,Int.reduceLT,↓reduceIte,Int.reduceBEq,Int.reduceBNe,Int.reduceAdd,Int.reduceSub,Int.reduceMul,w0];try refine CD rfl ?_)
   (repeat((with_reducible refine And.intro ?_ ?_);(·exact sd)))
   refine Aa.p (Fs x hdx) ?_
   (simp only[go_sem,Nat.reduceAdd,Nat.reduceMul,Int.reduceToNat,Nat.reduceLeDiff,Int.reduceLE,Int.reduceLT,↓reduceIte,Int.reduceBEq,Int.reduceBNe,Int.reduceAdd,Int.reduceSub,Int.reduceMul,ek];try refine CD rfl ?_)
   refine⟨by decide,rfl,k+1,hlt,by omega,?_⟩
   rw[hs1]
   exact Wk.sel [0,1,2,3,5] (by simp) rfl (by simp) rfl (by simp[AE,Cn,D7,E_,AH,D2]) (by simp[BP,AE,AH])
  |some p=>
   obtain⟨i,l⟩:=p
   obtain⟨a1,a2,a3⟩:=f2 i l hu
   have hfl:=pF i
   have wi:IntKind.i64.wrap (((i.length+1:Nat):Int)-1)=(i.length:Int):=by rw[IntWalk.i64_in _ (by omega)];omega
   have wi2:IntKind.i64.wrap (((i.length+1+1:Nat):Int)-1)=((i.length+1:Nat):Int):=by rw[IntWalk.i64_in _ (by omega)];omega
   rw[hu]at hs1
   simp only[upS]
   (simp only[go_sem,Nat.reduceAdd,Nat.reduceMul,Int.reduceToNat,Nat.reduceLeDiff,Int.reduceLE,Int.reduceLT,↓reduceIte,Int.reduceBEq,Int.reduceBNe,Int.reduceAdd,Int.reduceSub,Int.reduceMul,q1,g,CI,Int.toNat_natCast,wk];try refine CD rfl ?_)
   refine⟨by omega,by omega,by omega,?_⟩
   by_cases h16:k%16=0
   ·have q16:((k:Int).tmod 16==0)=true:=by rw[tm16,h16];rfl
    have hs2:T_ u (k+1)=some (i++[l],⟨u.ep,IntKind.u64.wrap (u.base+(k:Int)),[L2 x]⟩):=by rw[hs1];exact if_pos h16
    have hfl2:(Cn (D7 i)++[uA l.ep,uA l.base,AV.sl (GF.row 4) 2 (E_ l.en)]).length=(i.length+1)*3:=by rw[List.length_append,hfl];simp;omega
    have g3:=λa b c=>at3 hfl2 a b c
    have s3:=λa b c z=>Aer hfl2 a b c z
    (simp only[go_sem,Nat.reduceAdd,Nat.reduceMul,Int.reduceToNat,Nat.reduceLeDiff,Int.reduceLE,Int.reduceLT,↓reduceIte,Int.reduceBEq,Int.reduceBNe,Int.reduceAdd,Int.reduceSub,Int.reduceMul,q16,wk];try refine CD rfl ?_)
    (simp only[go_sem,Nat.reduceAdd,Nat.reduceMul,Int.reduceToNat,Nat.reduceLeDiff,Int.reduceLE,Int.reduceLT,↓reduceIte,Int.reduceBEq,Int.reduceBNe,Int.reduceAdd,Int.reduceSub,Int.reduceMul,wi2,Int.toNat_natCast,g3];try refine CD rfl ?_)
    refine⟨by omega,by omega,by omega,?_⟩
    refine Aa.p (Fs x hdx) ?_
    (simp only[go_sem,Nat.reduceAdd,Nat.reduceMul,Int.reduceToNat,Nat.reduceLeDiff,Int.reduceLE,Int.reduceLT,↓reduceIte,Int.reduceBEq,Int.reduceBNe,Int.reduceAdd,Int.reduceSub,Int.reduceMul,ek,s3];try refine CD rfl ?_)
    refine⟨by decide,by rw[List.length_append,hfl2];simp,rfl,k+1,hlt,by omega,?_⟩
    rw[hs2]
    refine(Wk.mwa 3 (ys:=Cn (D7 (i++[l]))++[uA u.ep,uA (IntKind.u64.wrap (u.base+(k:Int))),.sl (.row 6) 2 [Lt (L2 x)]]) rfl ?_).trans ?_
    ·rw[RC];exact Co.app (Co.app (Co.refl _) (Co.cons (Wa.refl _) (Co.cons (Wa.refl _) (Co.cons Wa.none Co.nil)))) (Co.refl _)
    ·have hil:(i++[l]).length=i.length+1:=by simp
     simp only[List.set_cons_zero,List.set_cons_succ,hil]
     exact Wk.sel [0,1,2,3,6] (by simp) rfl (by simp) rfl (by simp[AE,UL,E_,AH,D2]) (by simp[BP,AE,AH])
   ·have q16:((k:Int).tmod 16==0)=false:=by rw[tm16];simp;omega
    have hs2:T_ u (k+1)=some (i,{l with en:=l.en++[L2 x]}):=by rw[hs1];exact if_neg h16
    have g3:=λa b c=>at3 hfl a b c
    have s3:=λa b c z=>Aer hfl a b c z
    (simp only[go_sem,Nat.reduceAdd,Nat.reduceMul,Int.reduceToNat,Nat.reduceLeDiff,Int.reduceLE,Int.reduceLT,↓reduceIte,Int.reduceBEq,Int.reduceBNe,Int.reduceAdd,Int.reduceSub,Int.reduceMul,q16,wk];try refine CD rfl ?_)
    (simp only[go_sem,Nat.reduceAdd,Nat.reduceMul,Int.reduceToNat,Nat.reduceLeDiff,Int.reduceLE,Int.reduceLT,↓reduceIte,Int.reduceBEq,Int.reduceBNe,Int.reduceAdd,Int.reduceSub,Int.reduceMul,wi,Int.toNat_natCast,g3];try refine CD rfl ?_)
    refine⟨by omega,by omega,?_⟩
    refine Aa.p (Fs x hdx) ?_
    (simp only[go_sem,Nat.reduceAdd,Nat.reduceMul,Int.reduceToNat,Nat.reduceLeDiff,Int.reduceLE,Int.reduceLT,↓reduceIte,Int.reduceBEq,Int.reduceBNe,Int.reduceAdd,Int.reduceSub,Int.reduceMul,ek,s3,Aq];try refine CD rfl ?_)
    refine⟨by omega,by decide,by rw[List.length_append,hfl];simp,rfl,k+1,hlt,by omega,?_⟩
    rw[hs2]
    exact Wk.sel [0,1,2,3,4] (by simp) rfl (by simp) rfl (by simp[AE,UL,Ww,AH,D2]) (by simp[BP,AE,AH])
 ·have q1:decide ((k:Int)<(u.en.length:Int))=false:=decide_eq_false (by omega)
  obtain rfl:k=u.en.length:=by omega
  cases hu:T_ u u.en.length with
  |none=>
   rw[hu]at hE
   simp only[upS]
   (simp only[go_sem,Nat.reduceAdd,Nat.reduceMul,Int.reduceToNat,Nat.reduceLeDiff,Int.reduceLE,Int.reduceLT,↓reduceIte,Int.reduceBEq,Int.reduceBNe,Int.reduceAdd,Int.reduceSub,Int.reduceMul,q1];try refine CD rfl ?_)
   refine A6.wk (Wk.freezeObj 1 1 3 3 [] rfl rfl rfl rfl rfl (by simp)) ?_
   simp only[List.set_cons_zero,List.set_cons_succ]
   (refine A6.unobj 1 rfl ?_;simp only[List.set_cons_zero,List.set_cons_succ,List.map_cons,List.map_nil,JX,CS])
   ((refine FB b74 [] ?_ ?_);(·first|with_reducible rfl|(simp[hE,upL,D7];done)|rfl);(·simp[Ci,EE,EH,CM,hE,upL,D7]))
  |some p=>
   obtain⟨i,l⟩:=p
   rw[hu]at hE
   simp only[upS]
   (simp only[go_sem,Nat.reduceAdd,Nat.reduceMul,Int.reduceToNat,Nat.reduceLeDiff,Int.reduceLE,Int.reduceLT,↓reduceIte,Int.reduceBEq,Int.reduceBNe,Int.reduceAdd,Int.reduceSub,Int.reduceMul,q1];try refine CD rfl ?_)
   refine A6.wk ((Wk.mwa 3 (ys:=Cn (D7 (i++[l]))) rfl (by rw[RC];exact Co.app (Co.refl _) (Co.cons (Wa.refl _) (Co.cons (Wa.refl _) (Co.cons Wa.none Co.nil))))).trans (Wk.freezeObj 1 1 3 3 (D7 (i++[l])) rfl rfl rfl (by simp[D7]) rfl (λz hz=>by obtain⟨b,_,rfl⟩:=List.mem_map.1 hz;rfl))) ?_
   simp only[List.set_cons_zero,List.set_cons_succ]
   (refine A6.unobj 1 rfl ?_;simp only[List.set_cons_zero,List.set_cons_succ,List.map_cons,List.map_nil,JX,CS])
   ((refine FB b74 [] ?_ ?_);(·first|with_reducible rfl|(simp[hE,upL];done)|rfl);(·simp[Ci,EE,EH,CM,hE,upL]))
def Ug (u:JU) (hn:u.en.length≤1000000) (hd:∀x∈u.en,x.data.length≤2000000):Ct Tryz.prog 74 [Sh u] [] (λ_=>Et (R7 u)) [] (λ_=>[]):=(Ah4 u hn hd).toCt cl cl
def tE (u:JU):(R7 u).bt.length≤u.en.length+1:=by
 have h:=(QS u u.en.length).2;unfold R7;cases hu:T_ u u.en.length with
 |none=>simp[upL]
 |some p=>
  have⟨i,l⟩:=p;have:=(h i l hu).1;simp[upL];omega
def upO (u:JU):EL×Int:=if Ea u=true then sN (R7 u)else(CH,3)
def Ui (u:JU) (hs:TX u) (hn:u.en.length≤100000) (hd:∀x∈u.en,x.data.length≤2000000):Ct prog 27 [Sh u] [] (λ_=>.tup [Et (upO u).1,iA (upO u).2]) [] (λ_=>[]):=by
 refine Ah.toCt ?_ cl cl
 have hl:=tE u;have⟨X,hX⟩:=Ex (upO u);have e:upO u=if Ea u=true then sN (R7 u)else(CH,3):=rfl
 rw[hX]at e ⊢;refine RM func27 b27 ?_
 refine Aa.p (Qm u hs) ?_;cases hr:Ea u with
 |true=>
  rw[if_pos hr]at e;refine (mp ?_).1;refine Cp (Ug u Om hd) ?_;refine Aa.p (JN (R7 u) Om) ?_;simp only[go_sem,seval,←e];refine (mok ?_).1;exact FA b27 []
 |false=>
  rw[if_neg (by rw[hr];decide)]at e;refine (mp ?_).1;refine WO 1 [uA 0,GN []] ?_
  exact FK b27 [] (by simp[e,CH,D7])
def Zs {b:List Int} (hb:AW b) (hn:b.length≤1000000):(dec1 b=(lS,((RS.new b).dec1.1.code,(RS.new b).dec1.1.fat))∧¬(RS.new b).dec1.1.code=0)∨(∃u,dec1 b=(u,(0,0))∧O1s u.en∧0≤u.base∧Ea u=true∧Z6 u=b∧(RS.new b).header.1.code=0∧(RS.new b).header.2.ver=1):=by
 unfold dec1;by_cases hc:(RS.new b).dec1.1.code=0
 ·rw[if_pos hc];have⟨h1,h2,h3,h4,h5,h6⟩:=uI hb Om hc;exact .inr ⟨_,rfl,h4,h3,h5,h6,h1,h2⟩
 ·rw[if_neg hc];exact .inl ⟨rfl,hc⟩
def Pl {b:List Int} (hb:AW b) (hn:b.length≤1000000):(dec2 b=(CH,((RS.new b).dec2.1.code,(RS.new b).dec2.1.fat))∧¬(RS.new b).dec2.1.code=0)∨(∃u,dec2 b=(u,(0,0))∧sM u.bt∧DQ u=true∧Z5 u=b∧(RS.new b).header.1.code=0∧(RS.new b).header.2.ver=2):=by
 unfold dec2;by_cases hc:(RS.new b).dec2.1.code=0
 ·rw[if_pos hc];have⟨h1,h2,h3,h4,h5⟩:=uH hb Om hc;exact .inr ⟨_,rfl,h3,h4,h5,h1,h2⟩
 ·rw[if_neg hc];exact .inl ⟨rfl,hc⟩
def dH {u:JU} (b0:0≤u.base) (hr:Ea u=true):TX u:=by
 have⟨h1,h2,h3,h4,h5⟩:=Hz.1 hr;exact⟨b0,Om,Om,Om⟩
def Q1 {b:Bt} (hb:b.ok) (hr:BL b=true):DG b:=by
 have⟨r1,⟨⟨r2,r2'⟩,r3⟩,r4,r5⟩:=B2.1 hr;refine⟨Om,λe he=>?_,Om⟩;obtain⟨i,hi,rfl⟩:=getElem_of_mem he;have h:=r5 i hi;have e:b.en.getD i Dt=b.en[i]:=by simp[hi]
 rw[e]at h;have⟨h1,h2⟩:=C7.1 h;have⟨l1,l2,l3⟩:=Dz.1 h1;exact⟨⟨Om,λx hx=>by have:=(EU.1 (l3 x hx)).1;omega⟩,Om⟩
def dG {u:EL} (hb:sM u.bt) (hr:DQ u=true):KE u:=by
 have⟨h1,h2,h3⟩:=J6.1 hr;refine⟨Om,λb hbm=>?_,hb⟩;obtain⟨i,hi,rfl⟩:=getElem_of_mem hbm;have h:=h3 i hi;unfold G5 at h;simp only[Bool.and_eq_true]at h;have e:u.bt.getD i Cc=u.bt[i]:=by simp[hi]
 rw[e]at h;exact Q1 (hb _ hbm) h.1.1
def Zr {b:List Int} (hb:AW b) (hn:b.length≤1000000):KE (dec2 b).1:=by
 rcases Pl hb hn with⟨h,_⟩|⟨u,h,h1,h2,_⟩
 ·rw[h];exact⟨by simp[CH],λx hx=>by simp[CH]at hx,λx hx=>by simp[CH]at hx⟩
 ·rw[h];exact dG h1 h2
def Nf (s:List Int):(EL×Int)×(Int×Int):=
 if(Ij s).1=1 then(if(dec1 s).2.1=0 then(upO (dec1 s).1,(dec1 s).2)else((CH,0),(dec1 s).2))
 else if(Ij s).1=2 then(if(dec2 s).2.1=0 then(up2 (dec2 s).1,(dec2 s).2)else((CH,0),(dec2 s).2))
 else if(Ij s).1=3 then(((BT BD s).1.1,0),(BT BD s).2)else((CH,0),(Ij s).2)
def Mb (s:List Int):Int×Int:=Qq (Nf s).2 (BB (Nf s).1.2 0)
def QI (s:List Int):EL×(Int×(Int×Int)):=if(Mb s).1=0 then((Nf s).1.1,((Ij s).1,Mb s))else(CH,(0,Mb s))
def Acr {b:Bt} (hb:b.ok) (hr:BL b=true):CpB b:=by
 have h:=Q1 hb hr;have⟨r1,⟨⟨r2,r2'⟩,r3⟩,r4,r5⟩:=B2.1 hr;refine⟨h.n,λx hx=>⟨(h.e x hx).1,?_⟩⟩;obtain⟨i,hi,rfl⟩:=getElem_of_mem hx;have h5:=r5 i hi;have e:b.en.getD i Dt=b.en[i]:=by simp[hi]
 rw[e]at h5;have:=(C7.1 h5).2;omega
def yB {s:List Int} (hb:AW s) (hn:s.length≤1000000) (hc:(dec1 s).2.1=0):TX (dec1 s).1∧(dec1 s).1.en.length≤100000∧∀x∈(dec1 s).1.en,x.data.length≤2000000:=by
 rcases Zs hb hn with⟨h,h'⟩|⟨u,h,h1,h2,h3,_⟩
 ·rw[h]at hc;exact absurd hc h'
 ·rw[h];have⟨r1,r2,r3,r4,r5⟩:=Hz.1 h3;refine⟨dH h2 h3,by simp only[];omega,λx hx=>?_⟩;simp only[]at hx;obtain⟨i,hi,rfl⟩:=getElem_of_mem hx;have:=Sd u.en (i+1);rw[LD u.en i hi]at this;have e:u.en.getD i KI=u.en[i]:=by simp[hi]
  rw[e]at this;have h0:=KP (u.en.take i);omega
def yA {s:List Int} (hb:AW s) (hn:s.length≤1000000):KE (dec2 s).1∧(dec2 s).1.bt.length≤1000000∧∀b∈(dec2 s).1.bt,CpB b:=by
 have h:=Zr hb hn;refine⟨h,h.n,λb hbm=>?_⟩;rcases Pl hb hn with⟨h1,_⟩|⟨u,h1,h2,h3,_⟩
 ·rw[h1]at hbm;simp[CH]at hbm
 ·rw[h1]at hbm;simp only[]at hbm;have⟨r1,r2,r3⟩:=J6.1 h3;obtain⟨i,hi,rfl⟩:=getElem_of_mem hbm;have h:=r3 i hi;unfold G5 at h;simp only[Bool.and_eq_true]at h;have e:u.bt.getD i Cc=u.bt[i]:=by simp[hi]
  rw[e]at h;exact Acr (h2 _ hbm) h.1.1
def MV (s:List Int) (hb:AW s) (hn:s.length≤1000000):Ct prog 8 [Bd .u8 s] [] (λ_=>.tup [Et (QI s).1,iA (QI s).2.1,Ce (QI s).2.2]) [] (λ_=>[]):=by
 refine Ah.toCt ?_ cl cl
 have hd1:=yB hb hn;have⟨e1,e2,e3⟩:=yA hb hn;have hv:=OW s hb Om;have c1:=OK s hb hn;have c2:=OJ s hb hn;have c3:=Iz s hb hn;have eG:Nf s=if(Ij s).1=1 then(if(dec1 s).2.1=0 then(upO (dec1 s).1,(dec1 s).2)else((CH,0),(dec1 s).2))
  else if(Ij s).1=2 then(if(dec2 s).2.1=0 then(up2 (dec2 s).1,(dec2 s).2)else((CH,0),(dec2 s).2))
  else if(Ij s).1=3 then(((BT BD s).1.1,0),(BT BD s).2)else((CH,0),(Ij s).2):=rfl
 have eF:Mb s=Qq (Nf s).2 (BB (Nf s).1.2 0):=rfl;have eR:QI s=if(Mb s).1=0 then((Nf s).1.1,((Ij s).1,Mb s))else(CH,(0,Mb s)):=rfl
 have⟨V,hV⟩:=Ex (Ij s);have⟨A,hA⟩:=Ex (dec1 s);have⟨B,hB⟩:=Ex (dec2 s);have⟨D,hD⟩:=Ex (BT BD s);have⟨Y,hY⟩:=Ex (Nf s);have⟨F,hF⟩:=Ex (Mb s);have⟨R,hR⟩:=Ex (QI s);rw[hV]at hv;rw[hA]at hd1 c1;rw[hB]at e1 e2 e3 c2;rw[hD]at c3;rw[hV,hA,hB,hD,hY]at eG;rw[hY,hF]at eF;rw[hV,hY,hF,hR]at eR;rw[hR];refine RM func8 b8 ?_
 refine UD (mp ?_).1;refine Cp (hv) ?_;refine wN (mp ?_).1;by_cases v1:V.1=1
 ·have q1:(V.1==1)=true:=Sx v1
  rw[if_pos v1]at eG;refine (mq q1 ?_).1;refine Cp (c1) ?_;refine Aa.p (Ai A.2.1 A.2.2) ?_;by_cases hz:A.2.1=0
  ·have q2:(A.2.1==0)=true:=Sx hz
   rw[if_pos hz]at eG;have⟨d1,d2,d3⟩:=hd1 hz;refine (mq q2 ?_).1;refine Cp (Ui A.1 d1 d2 d3) ?_;simp only[eG]at eF eR;refine Cp (Bj ((upO A.1).2) 0) ?_;refine Aa.p (Eo (A.2) (BB ((upO A.1).2) 0)) ?_;simp only[go_sem,seval,←eF];refine (mok ?_).1;refine Aa.p (Ai F.1 F.2) ?_;by_cases hf:F.1=0
   ·have q9:(F.1==0)=true:=Sx hf
    rw[if_pos hf]at eR;refine (mq q9 ?_).1
    exact FE b8 [] eR
   ·have q9:(F.1==0)=false:=Sx hf
    rw[if_neg hf]at eR;refine (mq q9 ?_).1;refine WO 0 [uA 0,GN []] ?_
    exact FK b8 [] (by simp[eR,CH,D7])
  ·have q2:(A.2.1==0)=false:=Sx hz
   rw[if_neg hz]at eG;refine (mq q2 ?_).1;simp only[eG]at eF eR;refine Cp (Bj (0) 0) ?_;refine Aa.p (Eo (A.2) (BB (0) 0)) ?_;simp only[go_sem,seval,←eF];refine (mok ?_).1;refine Aa.p (Ai F.1 F.2) ?_;by_cases hf:F.1=0
   ·have q9:(F.1==0)=true:=Sx hf
    rw[if_pos hf]at eR;refine (mq q9 ?_).1;refine WO 0 [uA 0,GN []] ?_
    exact FK b8 [] (by simp[eR,CH,D7])
   ·have q9:(F.1==0)=false:=Sx hf
    rw[if_neg hf]at eR;refine (mq q9 ?_).1;refine WO 0 [uA 0,GN []] ?_
    exact FK b8 [] (by simp[eR,CH,D7])
 ·have q1:(V.1==1)=false:=Sx v1
  rw[if_neg v1]at eG;by_cases v2:V.1=2
  ·have q2:(V.1==2)=true:=Sx v2
   rw[if_pos v2]at eG;refine (mr q1 q2 ?_).1;refine Cp (c2) ?_;refine Aa.p (Ai B.2.1 B.2.2) ?_;by_cases hz:B.2.1=0
   ·have q3:(B.2.1==0)=true:=Sx hz
    rw[if_pos hz]at eG;refine (mq q3 ?_).1;refine Cp (Uh B.1 e1 e2 e3) ?_;simp only[eG]at eF eR;refine Cp (Bj ((up2 B.1).2) 0) ?_;refine Aa.p (Eo (B.2) (BB ((up2 B.1).2) 0)) ?_;simp only[go_sem,seval,←eF];refine (mok ?_).1;refine Aa.p (Ai F.1 F.2) ?_;by_cases hf:F.1=0
    ·have q9:(F.1==0)=true:=Sx hf
     rw[if_pos hf]at eR;refine (mq q9 ?_).1
     exact FE b8 [] eR
    ·have q9:(F.1==0)=false:=Sx hf
     rw[if_neg hf]at eR;refine (mq q9 ?_).1;refine WO 0 [uA 0,GN []] ?_
     exact FK b8 [] (by simp[eR,CH,D7])
   ·have q3:(B.2.1==0)=false:=Sx hz
    rw[if_neg hz]at eG;refine (mq q3 ?_).1;simp only[eG]at eF eR;refine Cp (Bj (0) 0) ?_;refine Aa.p (Eo (B.2) (BB (0) 0)) ?_;simp only[go_sem,seval,←eF];refine (mok ?_).1;refine Aa.p (Ai F.1 F.2) ?_;by_cases hf:F.1=0
    ·have q9:(F.1==0)=true:=Sx hf
     rw[if_pos hf]at eR;refine (mq q9 ?_).1;refine WO 0 [uA 0,GN []] ?_
     exact FK b8 [] (by simp[eR,CH,D7])
    ·have q9:(F.1==0)=false:=Sx hf
     rw[if_neg hf]at eR;refine (mq q9 ?_).1;refine WO 0 [uA 0,GN []] ?_
     exact FK b8 [] (by simp[eR,CH,D7])
  ·have q2:(V.1==2)=false:=Sx v2
   rw[if_neg v2]at eG;by_cases v3:V.1=3
   ·have q3:(V.1==3)=true:=Sx v3
    rw[if_pos v3]at eG;refine (ms q1 q2 q3 ?_).1;refine Cp (c3) ?_;simp only[eG]at eF eR;refine Cp (Bj (0) 0) ?_;refine Aa.p (Eo (D.2) (BB (0) 0)) ?_;simp only[go_sem,seval,←eF];refine (mok ?_).1;refine Aa.p (Ai F.1 F.2) ?_;by_cases hf:F.1=0
    ·have q9:(F.1==0)=true:=Sx hf
     rw[if_pos hf]at eR;refine (mq q9 ?_).1
     exact FE b8 [] eR
    ·have q9:(F.1==0)=false:=Sx hf
     rw[if_neg hf]at eR;refine (mq q9 ?_).1;refine WO 0 [uA 0,GN []] ?_
     exact FK b8 [] (by simp[eR,CH,D7])
   ·have q3:(V.1==3)=false:=Sx v3
    rw[if_neg v3]at eG;refine (ms q1 q2 q3 ?_).1;simp only[eG]at eF eR;refine Cp (Bj (0) 0) ?_;refine Aa.p (Eo (V.2) (BB (0) 0)) ?_;simp only[go_sem,seval,←eF];refine (mok ?_).1;refine Aa.p (Ai F.1 F.2) ?_;by_cases hf:F.1=0
    ·have q9:(F.1==0)=true:=Sx hf
     rw[if_pos hf]at eR;refine (mq q9 ?_).1;refine WO 0 [uA 0,GN []] ?_
     exact FK b8 [] (by simp[eR,CH,D7])
    ·have q9:(F.1==0)=false:=Sx hf
     rw[if_neg hf]at eR;refine (mq q9 ?_).1;refine WO 0 [uA 0,GN []] ?_
     exact FK b8 [] (by simp[eR,CH,D7])
def IA (s:List Int):List Int->List (List Int)
 |[]=>[s]
 |n::z=>s.take n.toNat::IA (s.drop n.toNat) z
def pcs (s z:List Int):List (List Int):=IA s (z.take 40)
def mS:∀(z s:List Int),(IA s z).flatten=s:=by
 intro z
 induction z with
 |nil=>intro s;simp[IA]
 |cons n z ih=>intro s;simp[IA,ih,take_append_drop]
def vC:∀(z s:List Int),(IA s z).length=z.length+1:=by
 intro z
 induction z with
 |nil=>intro s;rfl
 |cons n z ih=>intro s;simp[IA,ih]
def X9 (l:List (List Int)):List AV:=l.map (Bd .u8)
def HG (l:List (List Int)):(X9 l).length=l.length:=by simp[X9]
def vD (l:List (List Int)) (k:Nat) (h:k<l.length):(X9 l).getD k .any=Bd .u8 (l.getD k []):=by simp[X9,h]
@[simp] theorem Ah2 (ρ:Nat->Nat) (l:List (List Int)):(X9 l).map (λx=>x.ren ρ)=X9 l:=by simp[X9,AE]
def pcA_snoc (l:List (List Int)) (x:List Int):X9 l++[Bd .u8 x]=X9 (l++[x]):=by simp[X9]
def Xm (s z:List Int) (hs:s.length≤1000000) (hz:AW z):Ct prog 10 [Bd .u8 s,Bd .u8 z] [] (λ_=>.sl .none 1 (X9 (pcs s z))) [] (λ_=>[]):=by
 refine Ah.toCt ?_ cl cl
 have⟨X,hX⟩:=Ex (pcs s z);rw[hX];refine RN func10 b10 ?_;refine (mq @Ab ?_).1
 refine AA (α:=Nat×List Int×List (List Int)) (λa=>Bd .u8 a.2.1::Bd .u8 z::.any::.any::.any::.sl (.row 0) 1 (X9 a.2.2)::iA a.1::Az (Az [])) (λa=>[.row 1 a.2.2.length]) (λa=>a.1≤z.length∧a.1≤40∧a.2.2.length=a.1∧a.2.1.length≤1000000∧a.2.2++IA a.2.1 ((z.take 40).drop a.1)=X) (λa=>40-a.1) (0,s,[]) ⟨Si,Si,Si,hs,by simpa[pcs]using hX⟩ ((Wk.row 5 1 rfl (.inr rfl) De).trans (Wk.to (by simp[X9]) (by simp[BS,X9]))) ?_;rintro⟨i,r,d⟩ ⟨h1,h2,h3,h4,h5⟩;simp only[]at h1 h2 h3 h4 h5;refine (mq @Ab ?_).1;by_cases hlt:i<z.length
 ·have q1:decide ((i:Int)<(z.length:Int))=true:=decide_eq_true Om;by_cases h40:i<40
  ·have q2:decide ((i:Int)<40)=true:=decide_eq_true Om;have ek:=Aw i Om;have hzi:0≤z.getD i 0∧z.getD i 0<256:=hz _ (by simp[hlt]);have⟨n,hnn⟩:=Ex (z.getD i 0);have g:(A0 .u8 z).getD i .any=Ul n:=by rw[←hnn];simpa using It z i Om Om
   have hd:(z.take 40).drop i=n::(z.take 40).drop (i+1):=by
    have hl:i<(z.take 40).length:=by rw[length_take];omega
    rw[drop_eq_getElem_cons hl];congr 1;rw[←hnn];simp[hlt]
   rw[hnn]at hzi;rw[hd]at h5;simp only[IA]at h5;have w1:IntKind.i64.wrap n=n:=i64_in _ Om;obtain⟨m,hm⟩:∃m:Nat,(if(r.length:Int)<n then(r.length:Int)else n)=(m:Int):=⟨(if(r.length:Int)<n then(r.length:Int)else n).toNat,by split<;>omega⟩;have hmr:m≤r.length:=by split at hm<;>omega
   have ht:r.take n.toNat=r.take m:=by
    split at hm
    ·rw[take_of_length_le Om,take_of_length_le Om]
    ·congr 1;omega
   have hdr:r.drop n.toNat=r.drop m:=by
    split at hm
    ·rw[drop_eq_nil_of_le Om,drop_eq_nil_of_le Om]
    ·congr 1;omega
   rw[ht,hdr]at h5;simp only[go_sem,seval,q1,q2,g,Ab,Int.toNat_natCast,w1,hm,Dh,CA,pcA_snoc,HG,ek];refine (mok ?_).1;refine⟨Om,Om,Om,Om,Om,Om,Om,(i+1,r.drop m,d++[r.take m]),⟨by simp only[];omega,by simp only[];omega,by simp[h3],by simp only[length_drop];omega,by simp only[append_assoc,singleton_append];exact h5⟩,by simp only[];omega,?_⟩;exact Wk.sel [0] Si rfl Si rfl (by simp[AE]) (by simp[BP,AE,AH,AM])
  ·have q2:decide ((i:Int)<40)=false:=decide_eq_false Om;have e:(z.take 40).drop i=[]:=drop_eq_nil_of_le (by rw[length_take];omega);rw[e]at h5;simp only[IA]at h5;refine (mr q1 q2 ?_).1;(repeat((with_reducible refine And.intro ?_ ?_);(·first|exact sd|(simp[Ab,A2,AV.parts,HG];done)|(simp[Ab,A2,AV.parts,HG];omega))));refine (mr pcA_snoc h5 ?_).1;refine UT 4 ?_;exact FA b10 []
 ·have q1:decide ((i:Int)<(z.length:Int))=false:=decide_eq_false Om;have e:(z.take 40).drop i=[]:=drop_eq_nil_of_le (by rw[length_take];omega);rw[e]at h5;simp only[IA]at h5;refine (mq q1 ?_).1;(repeat((with_reducible refine And.intro ?_ ?_);(·first|exact sd|(simp[Ab,A2,AV.parts,HG];done)|(simp[Ab,A2,AV.parts,HG];omega))));refine (mr pcA_snoc h5 ?_).1;refine UT 4 ?_;exact FA b10 []
def uK {P:Program} {o:Oper} {t e:TypeId} {n:Nat} {ps:Array (Nat×Operand)} {zs:List Value} {l:List Int} (hop:o.op=.buildSlice t n ps) (ht:P.underlying t=some (.slice e)) (hs:FV P e=some 1) (hz:EM P e=some zs) (hlim:n≤16777216)
 (hps:ps.toList.map (·.1)=List.range n) (hl:ps.toList.map (·.2)=l.map λx=>.const (.int .u8 x)) (a:Act) (w:World):
 ∃B:Array Value,(execOp a.eval o).run P w=.ok (.value (.slice (some ⟨w.heap.size,0,none⟩) n n)) (w.alloc (.cells B e))∧∀(i:Nat) (x:Int),l[i]? =some x->B[i]? =some (.int .u8 x):=by
 have hlen:ps.toList.length=n:=by have:=congrArg List.length hps;simpa using this
 have⟨it,z,ES,hz0,hzc,ho⟩:=C4 hz
 let us:List Value:=ps.toList.map λp=>a.eval p.2
 have hus:us=l.map λx=>Value.int .u8 x:=by
  have e1:us=(ps.toList.map (·.2)).map a.eval:=by simp[us]
  rw[e1,hl,map_map];congr 1
 have husl:us.length=n:=by simp[us,hlen]
 have husk:∀u∈us,u.cells.size=1:=by
  intro u hu;rw[hus]at hu;obtain⟨x,_,rfl⟩:=mem_map.1 hu;rfl
 let A:Array Value:=(Array.range (n*1)).map (z.cells[· %z.cells.size]!)
 have hAs:A.size=n*1:=by simp[A]
 have⟨B,hB1,hB2,hB3,hB4⟩:=V9 1 us 0 A husk (by rw[hAs,husl,Nat.zero_add];exact Nat.le_refl _);have hzip:(range' 0 us.length).zip us=(ps.map λ(i,x)=>(i,a.eval x)).toList:=by
  rw[husl,←range_eq_range',←hps];simp only[us,Array.toList_map];rw[zip_map']
 refine⟨B,?_,λi x hx=>?_⟩
 ·simp only[execOp,hop,Instr.buildSlice,Sem.run_bind,run_underlying ht,Result.andThen_ok,BX hs];rw[if_neg Om];by_cases hn:n*1=0
  ·have hA0:A=(Array.range (n*1)).map (λx=>(#[]:Array Value)[x%(#[]:Array Value).size]!):=by
    apply Array.ext
    ·simp[A]
    ·intro i h1 h2;simp[A]at h1;omega
   rw[hzip,hA0]at hB1;have hn':n=0:=Om
   simp[hn']at hB1 ⊢;simp[hB1,newRow]
  ·rw[hzip]at hB1;have hn':¬n=0:=Om
   simp[hn',zeroValue,typeInfo,ES,hz0];simp[A]at hB1;simp[hB1,newRow]
 ·have h1:=hB4 i 0 (.int .u8 x) (by rw[hus,getElem?_map,hx];rfl) Om;rw[Nat.zero_add,Nat.mul_one,Nat.add_zero]at h1;rw[h1];rfl
def Xi {ro:Option Nat} {P:Program} {ops ops':Array Oper} {Q:Exit->Act->World->Prop}:∀(l:List Nat) (a:Act) (w:World),(∀i∈l,ops[i]? =ops'[i]?)->(∀i∈l,∀o,ops[i]? =some o->o.guard=none)->wpOpsIn (Fw ro) 0 P ops' Q l a w->wpOpsIn (Fw ro) 0 P ops Q l a w:=by
 intro l
 induction l with
 |nil=>intro a w _ _ h;exact h
 |cons i l ih=>
  intro a w he hg h;have e:=he i Si;have ih':=λa w h=>ih a w (λj hj=>he j (by simp[hj])) (λj hj=>hg j (by simp[hj])) h
  simp only[wpOpsIn]at h ⊢;rw[←e]at h;cases ho:ops[i]? with
  |none=>rw[ho]at h;exact ih' _ _ h
  |some o=>
   rw[ho]at h;have hgo:=hg i Si o ho;have hw:∀y,Region.wanted o y=true:=λy=>by simp[Region.wanted,hgo]
   simp only[hw,if_true]at h ⊢;exact Oper.wpIn_mono (λa w h=>ih' a w h) h
def AC.lit {P:Program} {m id:Nat} {ops:Array Oper} {o0 o1:Oper} {t e:TypeId} {n d0 d1:Nat} {ps:Array (Nat×Operand)} {zs:List Value} {l:List Int} {tm:List AV} {S:List Ad} {Q:QT} (os:List Oper) (hops:ops.toList=o0::o1::os)
 (g:∀o∈ops.toList,o.guard=none) (hop0:o0.op=.buildSlice t n ps) (Ls:o0.dst=some d0) (hop1:o1.op=.convert t t (.tmp d0)) (hd1:o1.dst=some d1) (hne:d0≠d1) (hd0l:d0<tm.length) (hd1l:d1<tm.length)
 (ht:P.underlying t=some (.slice e)) (he:P.underlying e=some (.int .u8)) (hs:FV P e=some 1) (hz:EM P e=some zs) (hlim:n≤16777216) (hps:ps.toList.map (·.1)=List.range n) (hl:ps.toList.map (·.2)=l.map λx=>.const (.int .u8 x))
 {o:Oper} {cs:List RO} (hom:o.op=.move (.tmp d1)) (hod:o.dst=some d1) (hog:o.guard=none) (hc:Gz P (o::o::os).toArray=some cs)
 (h:DR P cs [] [] ((tm.set d0 .any).set d1 (.sl .none 1 (A0 .u8 l))) S (Q .normal)):AC P m (.region id ops false) tm S Q:=by
 intro G0 S0 w0 G a w hm hz0;refine wpIn_wide.1 (wpIn_region (F:=Fw none) (n:=0) ?_);have hos:ops.size=os.length+2:=by rw[←Array.length_toList,hops];simp
 have h0:ops[0]? =some o0:=by rw[←Array.getElem?_toList,hops];rfl
 have h1:ops[1]? =some o1:=by rw[←Array.getElem?_toList,hops];rfl
 have g0:o0.guard=none:=g o0 (by rw[hops];simp);have g1:o1.guard=none:=g o1 (by rw[hops];simp);have⟨B,hB1,hB2⟩:=uK hop0 ht hs hz hlim hps hl a w;have hnl:n=l.length:=by
  have e1:=congrArg List.length hps;have e2:=congrArg List.length hl;simp at e1 e2;omega
 have hw0:=hz0.left.wd;have hsz:=hz0.size;have hconv:=Lib.run_convert_bytes_const (P:=P) w t e B n n ht he;have hleft:=A1.still_ (vs:=B.toList) hw0 (w':=w.alloc (.cells B e (B.size,B.size+1))) (DM.alloc w _) (λi v hv=>by simpa using hv);have hrep:Bv (G.newImm w.heap.size B.toList) (.sl .none 1 (A0 .u8 l)) (.slice (some ⟨w.heap.size,0,none⟩) n n):=by
  have hil:(A0 .u8 l).length=n:=by rw[hnl];simp[A0]
  rw[show Value.slice (some ⟨w.heap.size,0,none⟩) n n=Value.slice (some ⟨w.heap.size,0,none⟩) (A0 .u8 l).length n by rw[hil]];refine .sl (b:=w.heap.size) (o:=0) (λi j=>.int .u8 (l.getD i 0)) Om (λ_=>rfl) (λi x hx=>?_) (λi j hi hj=>?_) (λi j _ _=>rfl) (λi j x y hx hy=>?_) trivial
  ·obtain⟨z,_,rfl⟩:=A9 hx;rfl
  ·have hi':i<l.length:=Om
   have hj':j=0:=Om
   subst hj';have:=hB2 i (l[i]) (getElem?_eq_getElem hi');simp[Gh.newImm,this,hi']
  ·obtain⟨z,hz,rfl⟩:=A9 hx;cases j with
   |zero=>simp[AV.cells]at hy;subst hy;simp[hz];exact .lit _
   |succ j=>simp[AV.cells]at hy
 have w0':Region.wanted o0 (yielded ops a.tmps)=true:=by simp[Region.wanted,g0]
 rw[hos,range_eq_range'];simp only[range'_succ,wpOpsIn,h0,w0',if_true];refine Gl (λc hc=>by rw[hop0]at hc;cases hc) (.inl ?_);unfold Oper.wp;rw[hB1];simp only[Oper.upon];have w1':∀a:Act,Region.wanted o1 (yielded ops a.tmps)=true:=λa=>by simp[Region.wanted,g1]
 simp only[Nat.zero_add,h1,w1',if_true];refine Gl (λc hc=>by rw[hop1]at hc;cases hc) (.inl ?_);unfold Oper.wp;have hev:(a.put o0.dst (.slice (some ⟨w.heap.size,0,none⟩) n n)).eval (.tmp d0)=.slice (some ⟨w.heap.size,0,none⟩) n n:=by
  rw[Ls];simp[Act.eval,Act.put,hsz,hd0l]
 have hrun1:(execOp (a.put o0.dst (.slice (some ⟨w.heap.size,0,none⟩) n n)).eval o1).run P (w.alloc (.cells B e))=.ok (.value (.slice (some ⟨w.heap.size,0,none⟩) n n)) (w.alloc (.cells B e (B.size,B.size+1))):=by
  simp only[execOp,hop1,hev,Sem.run_bind,hconv,Result.andThen_ok,Sem.run_pure]
 rw[hrun1];simp only[Oper.upon];have hz1:=hz0.put (A1.refl hw0) (x:=.any) (v:=.slice (some ⟨w.heap.size,0,none⟩) n n) (.any _) (some d0);have hz2:=hz1.put hleft hrep (some d1);rw[Ls,hd1];have hreg:=Q8 (ro:=none) (Q:=λe a' w'=>∃tm' S' G',Cz G0 S0 w0 tm' S' G' a' w'∧Q e tm' S') hc hz2 h (λtm' S' G' a' w' hz' hq=>⟨_,_,G',hz',hq⟩);have hmv:∀(a:Act) (w:World) (K:Act->World->Prop) (Q:Exit->Act->World->Prop),o.wpIn (Fw none) 0 P a w K Q->K (a.put (some d1) (a.eval (.tmp d1))) w:=λa w K Q hh=>by
  have⟨_,hh⟩:=hh;rw[Oper.semAt_eq _ _ _ (λc hc=>by rw[hom]at hc;cases hc)]at hh;have hrm:(execOp a.eval o).run P w=.ok (.value (a.eval (.tmp d1))) w:=by simp[execOp,hom]
  rw[hrm]at hh;rw[←hod];exact hh
 have⟨v,hv⟩:=Ex (Value.slice (some ⟨w.heap.size,0,none⟩) n n);rw[hv]at hreg ⊢;have⟨a2,ha2⟩:=Ex ((a.put (some d0) v).put (some d1) v);have hsame:a2.put (some d1) (a2.eval (.tmp d1))=a2:=by
  rw[←ha2];have hd1':d1<a.tmps.size:=by rw[hsz];exact hd1l
  simp[Act.put,Act.eval,hd1']
 rw[ha2]at hreg ⊢;have hs2:(o::o::os).toArray.size=os.length+2:=by simp
 rw[hs2,range_eq_range']at hreg;have wo:∀y,Region.wanted o y=true:=λy=>by simp[Region.wanted,hog]
 have i0:(o::o::os).toArray[0]? =some o:=by simp
 have i1:(o::o::os).toArray[1]? =some o:=by simp
 simp only[range'_succ,wpOpsIn,i0,wo,if_true,Nat.zero_add,i1]at hreg;have hreg:=hmv _ _ _ _ hreg;rw[hsame]at hreg;have hreg:=hmv _ _ _ _ hreg;rw[hsame]at hreg;refine Xi (ops':=(o::o::os).toArray) _ _ _ (λi hi=>?_) (λi hi o' ho'=>?_) hreg
 ·rw[mem_range']at hi;obtain⟨k,hk,rfl⟩:=hi;rw[←Array.getElem?_toList,hops];rw[show 1+1+1*k=k+2 by omega];simp
 ·exact g o' (mem_of_getElem? (by rw[Array.getElem?_toList];exact ho'))
def AC.wk {P:Program} {m:Nat} {code:Code} {tm tm':List AV} {S S':List Ad} {Q:QT} (h:Wk m tm S tm' S') (k:AC P m code tm' S' Q):AC P m code tm S Q:=λG0 S0 w0 G a w hm hz=>by
 have⟨G',hz'⟩:=h G0 S0 w0 G a w hm hz;exact k G0 S0 w0 G' a w hm hz'
def AC.seq {P:Program} {m:Nat} {a b:Code} {tm:List AV} {S:List Ad} {Q:QT} (h:AC P m a tm S (Oc (λtm S=>AC P m b tm S Q) Q)):AC P m (.seq a b) tm S Q:=λG0 S0 w0 G x w hm hz=>by
 refine wp_seq (wp_mono (h G0 S0 w0 G x w hm hz) λe a' w' hq=>?_);have⟨tm',S',G',hz',hq⟩:=hq;cases e with
 |normal=>exact hq G0 S0 w0 G' a' w' hm hz'
 |_=>exact⟨tm',S',G',hz',hq⟩
def Ah.bodyAC {P:Program} {f:FuncId} {fn:Func} {code:Code} {args:List AV} {S:List Ad} {r:AV} {S':List Ad} (hf:P.funcs[f]? =some fn) (hb:fn.body=some code) (hname:(fn.name== "runtime.NumGoroutine")=false)
 (h:AC P S.length code (args++List.replicate (fn.ntmps-args.length) .any) S λe tm S1=>(e=.ret∨e=.normal)∧A6 P S.length fn tm S1 r S'):Ah P f args S r S':=by
 refine⟨⟨fn,hf,by simp[hb],hname⟩,λG w vs hw hr=>?_⟩;refine(callsIn_wide (n:=0)).1 (callsIn_of_wp_marks hf hb trivial ?_);have hsz:vs.size=args.length:=by simpa using hr.1.symm
 have hz:Cz G S w (args++List.replicate (fn.ntmps-args.length) .any) S G {tmps:=vs++Array.replicate (fn.ntmps-vs.size) undef,defers:=[]} w:=by
  refine⟨A1.refl hw,by simp[hsz],λt x v hx hv=>?_,JV.nil _ _,hw⟩;rw[getElem?_append]at hx;split at hx
  ·rename_i ht;simp only[Array.getElem?_append]at hv;rw[if_pos Om]at hv;exact hr.2 t x v hx (by simpa using hv)
  ·rw[getElem?_replicate]at hx;split at hx
   ·injection hx with hx;subst hx;exact .any v
   ·cases hx
 refine wpIn_wide.2 (wp_mono (h G S w G _ w rfl hz) λe a' w' hq=>?_);have⟨tm',S1,G',hz',he,hfin⟩:=hq;have key:∀(ds:List Deferred) (w':World),Cz G S w tm' S1 G' {a' with defers:=ds} w'->LeavesInM Fence.wide 0 P fn a'.tmps (λe w'=>∃v G',e=.returned v∧Bv G' r v∧A1 G S w G' S' w') ds .returning w':=by
  intro ds
  induction ds with
  |nil=>
   intro w' hz';have⟨v,G'',hv,hrep,hleft⟩:=hfin G S w G' _ w' rfl hz';exact⟨v,hv,v,G'',rfl,hrep,hleft⟩
  |cons d ds ih=>
   intro w' hz';have⟨Ds,h1,h2,h3⟩:=hz'.defers;cases Ds with
   |nil=>cases h2
   |cons D Ds=>
    simp only[map_cons,List.cons.injEq]at h2;obtain⟨rfl,h2⟩:=h2;have hD:=h3 D Si;refine⟨Si,.inl ⟨D,w'.putObj D (.deferred none),rfl,run_takeDeferred hD.2,ih _ ?_⟩⟩;have hl:=hz'.left;refine⟨⟨hl.le,hl.wd.turnOut hD.2,⟨hl.kept.os,hl.kept.tape,hl.kept.output,by simpa[World.putObj]using hl.kept.size,λi hi hu=>?_⟩,hl.own,hl.still⟩,hz'.size,hz'.rep,⟨Ds,(nodup_cons.1 h1).2,h2,λD' hD'=>⟨(h3 D' (by simp[hD'])).1,?_⟩⟩,hz'.wd0⟩
    ·rw[World.putObj_heap_other Om];exact hl.kept.block i hi hu
    ·rw[World.putObj_heap_other (by rintro rfl;exact(nodup_cons.1 h1).1 hD')];exact(h3 D' (by simp[hD'])).2
 rcases he with rfl|rfl
 ·exact key a'.defers w' hz'
 ·exact key a'.defers w' hz'
def BtR (b:Bt):Prop:=b.ok∧BL b=true∧(Eh b).length+1≤2097152
def oX (ep:Int):9≤(Am ⟨3,ep,0⟩).length∧(Am ⟨3,ep,0⟩).length≤40:=by
 have h1:=Em ⟨3,ep,0⟩;have h2:=(A7 ep).2;have h3:(AI ⟨3,ep,0⟩).length=5+(vb ep).length:=by unfold AI Bs;simp;omega
 omega
structure SIn (L:List Int) (S:SD):Prop where
 pre:L.take S.r.at_.toNat=Am ⟨3,S.ep,0⟩++Er S.bt
 ms:S.ms=EF (Am ⟨3,S.ep,0⟩).length S.bt
 bt:∀b∈S.bt,BtR b
 fo:∀i,i<S.bt.length->Ey S.ep (S.bt.take i) (S.bt.getD i Cc)=true
 n:S.bt.length≤16
 ep:1≤S.ep∧S.ep<4611686018427387904
def aD {L:List Int} {S:SD} (h:NE L S) {x:List Int} (hp:L.take S.r.at_.toNat=x):S.r.at_=(x.length:Int):=by
 have h0:=h.r.at0;have h1:=h.r.at1;rw[h.l]at h1;have:=congrArg List.length hp;rw[length_take]at this;omega
def Uv {l:List Int} (hb:AW l) (hl:l.length≤1000000) (hc:(SD.start l).r.code=0):SIn l (SD.start l):=by
 have hok:Ak (RS.new l):=Ak.new hb Om;have e:(SD.start l).r=if(RS.new l).header.2.ver=3 then(RS.new l).header.1 else(RS.new l).header.1.fail 8 4:=rfl
 rw[e]at hc;by_cases hv:(RS.new l).header.2.ver=3
 ·rw[if_pos hv]at hc;have⟨_,h2,h3,h4,h5⟩:=ET hok hc;have⟨r1,r2,r3,r4⟩:=B9.1 h2;have hz:(RS.new l).header.2.base=0:=by
   rcases r4 with r4|r4
   ·omega
   ·exact r4
  have eh:(RS.new l).header.2=⟨3,(RS.new l).header.2.ep,0⟩:=by
   have⟨H,hH⟩:=Ex ((RS.new l).header.2);rw[hH]at hv hz ⊢;cases H;simp only[]at hv hz;rw[hv,hz]
  have e0:(RS.new l).l.take (RS.new l).at_.toNat=[]:=by simp[RS.new]
  rw[e0,nil_append]at h5;refine⟨?_,rfl,λb hb=>by simp[SD.start]at hb,λi hi=>by simp[SD.start]at hi,by simp[SD.start],r2⟩;show l.take (SD.start l).r.at_.toNat=Am ⟨3,(RS.new l).header.2.ep,0⟩++Er [];rw[e,if_pos hv,←eh];have e1:(RS.new l).l=l:=rfl;rw[e1]at h5;rw[h5];simp[Er]
 ·rw[if_neg hv]at hc;exact absurd hc (CK De)
noncomputable def lvA:Code:=match f5.body with|some (.seq a _)=>a|_=>.skip
noncomputable def v8:Array Oper:=match f5.body with|some (.seq _ (.seq (.region _ ops _) _))=>ops|_=>#[]
noncomputable def lvR:Code:=match f5.body with|some (.seq _ (.seq _ r))=>r|_=>.skip
def lvM:Oper:={dst:=some 8,op:=.move (.tmp 8),type:=22,pos:= "",after:=#[],guard:=none}
def lvC:C:=.seq (.reg [(none,(.load (.some 2) (.tmp 1),.some 15)),(none,(.call (.func 18) [.tmp 15],.some 16)),(none,(.mov (.tmp 16),.some 14)),(none,(.ext (.tmp 14) 0,.some 17)),(none,(.ext (.tmp 14) 1,.some 18)),(none,(.mov (.tmp 17),.some 2)),(none,(.mov (.tmp 18),.some 3))] []) (.seq (.reg [(none,(.mov (.tmp 2),.some 20)),(none,(.call (.func 19) [.tmp 20,.const (.int .u64 7)],.some 21)),(none,(.mov (.tmp 21),.some 19)),(none,(.ext (.tmp 19) 0,.some 22)),(none,(.ext (.tmp 19) 1,.some 23)),(none,(.new [.slice none 0 0,.slice none 0 0],.some 4)),(none,(.new [.int .i64 0,.int .i64 0],.some 5)),(none,(.store 2 (.tmp 4) (.tmp 22),none)),(none,(.store 2 (.tmp 5) (.tmp 23),none))] []) (.seq (.reg [(none,(.mov (.tmp 2),.some 24)),(none,(.call (.func 14) [.tmp 24],.some 25)),(none,(.mov (.tmp 25),.some 6))] []) (.seq (.reg [(none,(.mov (.tmp 3),.some 26)),(none,(.bin .eql (.tmp 26) (.const (.int .i64 0)),.some 27)),(none,(.mov (.tmp 27),.some 28)),(.some (28,.true),(.fadr 0 (.tmp 5),.some 29)),(.some (28,.true),(.load none (.tmp 29),.some 30)),(.some (28,.true),(.bin .eql (.tmp 30) (.const (.int .i64 0)),.some 31)),(none,(.pick (.tmp 28) (.tmp 31) (.const (.bool .false)),.some 32)),(none,(.mov (.tmp 32),.some 33)),(.some (33,.true),(.fadr 1 (.tmp 4),.some 34)),(.some (33,.true),(.load none (.tmp 34),.some 35)),(.some (33,.true),(.b2s (.tmp 35),.some 36)),(.some (33,.true),(.bin .eql (.tmp 36) (.const (.string (.mk (#[97,97,97,97,97,97,97,97,97,97,97,97,97,97,97,97,97,97,97,97,97,97,97,97])))),.some 37)),(none,(.pick (.tmp 33) (.tmp 37) (.const (.bool .false)),.some 38)),(none,(.mov (.tmp 38),.some 39)),(.some (39,.true),(.mov (.tmp 6),.some 40)),(.some (39,.true),(.len .false (.tmp 40),.some 41)),(.some (39,.true),(.bin .eql (.tmp 41) (.const (.int .i64 2)),.some 42)),(none,(.pick (.tmp 39) (.tmp 42) (.const (.bool .false)),.some 43)),(none,(.mov (.tmp 43),.some 44)),(.some (44,.true),(.mov (.tmp 6),.some 45)),(.some (44,.true),(.iadr 20 (.tmp 45) (.const (.int .i64 1)),.some 46)),(.some (44,.true),(.fadr 0 (.tmp 46),.some 47)),(.some (44,.true),(.load none (.tmp 47),.some 48)),(.some (44,.true),(.bin .eql (.tmp 48) (.const (.int .i64 2)),.some 49)),(none,(.pick (.tmp 44) (.tmp 49) (.const (.bool .false)),.some 50)),(none,(.mov (.tmp 50),.some 0))] []) .ret)))
def lvS:List RO:=[(none,(.mov (.tmp 8),.some 8)),(none,(.mov (.tmp 8),.some 8)),(none,(.build [.slice none 0 0,.slice none 0 0] [(1,(1,.tmp 8))],.some 9)),(none,(.bsl 2 [.tmp 9],.some 10)),(none,(.build [.int .u64 0,.int .u64 0,.slice none 0 0] [(0,(1,.const (.int .u64 1))),(1,(1,.const (.int .u64 7))),(2,(1,.tmp 10))],.some 11)),(none,(.bsl 3 [.tmp 11],.some 12)),(none,(.build [.int .u64 0,.slice none 0 0] [(0,(1,.const (.int .u64 2))),(1,(1,.tmp 12))],.some 13)),(none,(.new [.int .u64 0,.slice none 0 0],.some 1)),(none,(.store 2 (.tmp 1) (.tmp 13),none))]
def vZ:f5.body=some (.seq lvA (.seq (.region 1 v8 false) lvR)):=by kernel_rfl
def Ah9:AU prog lvA=some (.reg [(none,.mov (.const (.bool false)),some 0)] []):=by kernel_rfl
def Ah8:AU prog lvR=some lvC:=by kernel_rfl
def Ah7:Gz prog (lvM::lvM::v8.toList.drop 2).toArray=some lvS:=by kernel_rfl
def Abu:JS prog f5=some [.tmp 0]:=by kernel_rfl
def vY:(f5.name== "runtime.NumGoroutine")=false:=by kernel_rfl
def lvP:Array (Nat×Operand):=((List.range 24).map λi=>(i,Operand.const (.int .u8 97))).toArray
def Abv:∃o0 o1,v8.toList=o0::o1::v8.toList.drop 2∧o0.op=.buildSlice 22 24 lvP∧o0.dst=some 7∧o1.op=.convert 22 22 (.tmp 7)∧o1.dst=some 8:=by
 refine⟨(v8.toList.getD 0 lvM),(v8.toList.getD 1 lvM),?_,?_,?_,?_,?_⟩<;>kernel_rfl
def oC:(v8.toList.all λo=>o.guard.isNone)=true:=by kernel_rfl
def QV {s:RS} (h:¬s.code=0) (n:Int):s.take n=(s,[]):=by
 unfold RS.take RS.skip;rw[if_neg h];rfl
def bW {s:RS} (h:¬s.code=0):s.vers=(s,0):=by
 unfold RS.vers;rw[QV h,if_neg h]
def Wt {s:RS} (h:¬s.code=0) (ok:Int->Bool):s.epo ok=(s,0):=by
 unfold RS.epo;rw[B1 h,if_neg h]
def YV {s:RS} (h:¬s.code=0) (v:Int):s.hbase v=(s,0):=by
 unfold RS.hbase;split
 ·exact Wt h _
 ·rfl
def aS {s u:RS} (h:s.hplain.1=u) (hu:¬u.code=0):s.header=(u,Ls):=by
 unfold RS.header RS.fixed;rw[h,QV hu,if_neg hu]
def aT {s u:RS} {x:Int} (h:s.hbegin.1.epo Ac=(u,x)) (hu:¬u.code=0):s.header=(u,Ls):=by
 refine aS ?_ hu;unfold RS.hplain;rw[h,YV hu]
def aV {s u:RS} (h:s.hbegin.1=u) (hu:¬u.code=0):s.header=(u,Ls):=aT (by rw[h,Wt hu]) hu
def Rr {s:RS} (h:Ak s):s.left=s.rest.length:=by
 have h0:=h.at0;have h1:=h.at1;unfold RS.left RS.rest;rw[length_drop];omega
def Zg {s:RS} (h:s.code=0) (a:Int):(s.fail 1 a).code=1∧(s.fail 1 a).fat=a:=by
 unfold RS.fail;rw[if_pos h];exact⟨rfl,rfl⟩
def YU {s:RS} {v:Int} {r:List Int} (hs:Ak s) (hc:s.code=0) (h1:1≤v∧v≤3) (e1:s.rest=Bs++([v]++r)):s.hbegin=(s.adv 5,v)∧Ak (s.adv 5)∧(s.adv 5).rest=r:=by
 have t1:=EA hs hc e1;have t1':s.take 4=(s.adv 4,Bs):=t1;have hl:s.lets=s.adv 4:=by unfold RS.lets;rw[t1'];simp
 have hs1:Ak (s.adv 4):=Cf hs e1;have e2:(s.adv 4).rest=[v]++r:=by
  have:=BC (s:=s) hs.at0 4;have e:s.adv ((4:Nat):Int)=s.adv 4:=rfl;rw[e,e1]at this;exact this
 have t2:=EA hs1 (show(s.adv 4).code=0 from hc) e2;have t2':(s.adv 4).take 1=((s.adv 4).adv 1,[v]):=t2;have e3:(s.adv 5).rest=r:=by
  have:=BC (s:=s.adv 4) hs1.at0 1;have e:(s.adv 4).adv ((1:Nat):Int)=s.adv 5:=by rw[BU];rfl
  rw[e,e2]at this;exact this
 refine⟨?_,by have:=Cf hs1 e2;rw[BU]at this;exact this,e3⟩;unfold RS.hbegin RS.vers;rw[hl,t2'];simp only[getD_cons_zero];rw[if_pos (show((s.adv 4).adv 1).code=0 from hc),if_pos h1,BU];rfl
def I3 (h:Hd):List Int:=if h.ver=1 then vb h.base else[]
def Qp (h:Hd):Am h=Bs++([h.ver]++(vb h.ep++(I3 h++Ap 4 (Bb (AI h))))):=by
 unfold Am
 conv=>lhs;arg 1;unfold AI
 simp only[append_assoc];rfl
def SA (h:Hd):AI h=Bs++([h.ver]++(vb h.ep++I3 h)):=by
 unfold AI I3;simp only[append_assoc]
def Vd (h:Hd):(AI h).length=5+((vb h.ep).length+(I3 h).length):=by
 rw[SA];simp only[length_append,Bs,length_cons,length_nil];omega
def YR {h:Hd} (hr:Bz h=true) (hb:0≤h.base) {k:Nat} (hk:k<(Am h).length):
 (RS.new ((Am h).take k)).header.1.code=1∧(RS.new ((Am h).take k)).header.1.fat=k∧
 (k<5->(RS.new ((Am h).take k)).hbegin.1.code=1∧(RS.new ((Am h).take k)).hbegin.1.fat=k)∧
 (5≤k->(RS.new ((Am h).take k)).hbegin.1.code=0∧(RS.new ((Am h).take k)).hbegin.2=h.ver):=by
 obtain⟨h1,h2,h3,h4⟩:=B9.1 hr;have hB:=Mw hr hb;have hlen:=Em h;have hpl:=X6 h;have hbl:((Am h).take k).length=k:=by rw[List.length_take];omega
 have hok:Ak (RS.new ((Am h).take k)):=Ak.new (λx hx=>hB x (List.mem_of_mem_take hx)) (by omega);have hparts:=Qp h;by_cases k5:k<5
 ·have fin:∀u:RS,(RS.new ((Am h).take k)).hbegin.1=u->u.code=1->u.fat=k->_:=λu e1 e2 e3=>by
   have e:=aV e1 (by rw[e2];decide);refine(⟨by rw[e];exact e2,by rw[e];exact e3,λ_=>by rw[e1];exact⟨e2,e3⟩,λh=>by omega⟩:(RS.new ((Am h).take k)).header.1.code=1∧(RS.new ((Am h).take k)).header.1.fat=k∧
    (k<5->(RS.new ((Am h).take k)).hbegin.1.code=1∧(RS.new ((Am h).take k)).hbegin.1.fat=k)∧
    (5≤k->(RS.new ((Am h).take k)).hbegin.1.code=0∧(RS.new ((Am h).take k)).hbegin.2=h.ver))
  by_cases k4:k<4
  ·have t:=Fe (s:=RS.new ((Am h).take k)) (n:=4) rfl (by decide) (by rw[Rr hok,DV,hbl];omega);have hl1:(RS.new ((Am h).take k)).l.length=k:=hbl;rw[hl1]at t;obtain⟨c1,c2⟩:=Zg (s:=RS.new ((Am h).take k)) rfl (k:Int);have hlt:(RS.new ((Am h).take k)).lets=(RS.new ((Am h).take k)).fail 1 k:=by
    unfold RS.lets;rw[t];simp only;rw[if_neg (by rw[c1];simp)]
   refine fin _ ?_ c1 c2;unfold RS.hbegin;rw[hlt,bW (by rw[c1];decide)]
  ·obtain rfl:k=4:=by omega
   have e4:(Am h).take 4=Bs:=by rw[hparts];exact List.take_left' rfl
   rw[e4]at hok ⊢;have e1:(RS.new Bs).rest=Bs++[]:=by rw[DV,List.append_nil]
   have t1:=EA hok rfl e1;have t1':(RS.new Bs).take 4=((RS.new Bs).adv 4,Bs):=t1;have hl:(RS.new Bs).lets=(RS.new Bs).adv 4:=by unfold RS.lets;rw[t1'];simp
   have hs1:Ak ((RS.new Bs).adv 4):=Cf hok e1;have t2:=Fe (s:=(RS.new Bs).adv 4) (n:=1) rfl (by decide) (by decide);have hl2:(((RS.new Bs).adv 4).l.length:Int)=(4:Nat):=rfl;rw[hl2]at t2;obtain⟨c1,c2⟩:=Zg (s:=(RS.new Bs).adv 4) rfl ((4:Nat):Int);have hv:(RS.new Bs).hbegin=(((RS.new Bs).adv 4).fail 1 (4:Nat),0):=by
    unfold RS.hbegin RS.vers;rw[hl,t2];simp only;rw[if_neg (by rw[c1];decide)]
   have e:=aV (u:=((RS.new Bs).adv 4).fail 1 (4:Nat)) (by rw[hv]) (by rw[c1];decide);rw[e,hv];exact⟨c1,c2,λ_=>⟨c1,c2⟩,λh=>by omega⟩
 ·obtain⟨j,rfl⟩:∃j,k=5+j:=⟨k-5,by omega⟩;obtain⟨Y,hY⟩:∃Y,vb h.ep++(I3 h++Ap 4 (Bb (AI h)))=Y:=⟨_,rfl⟩;have e0:(Am h).take (5+j)=Bs++([h.ver]++Y.take j):=by
   have e:Am h=(Bs++[h.ver])++Y:=by rw[hparts,hY,List.append_assoc]
   have l5:(Bs++[h.ver]).length=5:=rfl;rw[e,←l5,List.take_length_add_append,List.append_assoc]
  have hl1:(((RS.new ((Am h).take (5+j))).l.length:Nat):Int)=((5+j:Nat):Int):=by rw[show(RS.new ((Am h).take (5+j))).l=(Am h).take (5+j)from rfl,hbl]
  obtain⟨w1,w2,w3⟩:=YU hok rfl h1 (by rw[DV,e0]);have hbn:(RS.new ((Am h).take (5+j))).hbegin.1.code=0∧(RS.new ((Am h).take (5+j))).hbegin.2=h.ver:=by rw[w1];exact⟨rfl,rfl⟩
  suffices hx:(RS.new ((Am h).take (5+j))).header.1.code=1∧(RS.new ((Am h).take (5+j))).header.1.fat=((5+j:Nat):Int)from⟨hx.1,hx.2,λh=>by omega,λ_=>hbn⟩
  obtain⟨s5,hs5⟩:∃s5,(RS.new ((Am h).take (5+j))).adv 5=s5:=⟨_,rfl⟩;have c5:s5.code=0:=by rw[←hs5];rfl
  have l5:((s5.l.length:Nat):Int)=((5+j:Nat):Int):=by rw[←hs5];exact hl1
  rw[hs5]at w1 w2 w3;by_cases je:j<(vb h.ep).length
  ·have r5:s5.rest=(vb h.ep).take j:=by rw[w3,←hY,List.take_append_of_le_length (by omega)]
   have hv:=NG w2 c5 (x:=h.ep) (by omega) (by omega) je r5;have he:s5.epo Ac=({s5 with at_:=s5.l.length,code:=1,fat:=s5.l.length},0):=by
    unfold RS.epo;rw[hv];simp only;rw[if_neg (by decide)]
   have e:=aT (s:=RS.new ((Am h).take (5+j))) (u:={s5 with at_:=s5.l.length,code:=1,fat:=s5.l.length}) (x:=0) (by rw[w1];exact he) (by show¬(1:Int)=0;decide);rw[e];exact⟨rfl,l5⟩
  ·have r5:s5.rest=vb h.ep++(I3 h++Ap 4 (Bb (AI h))).take (j-(vb h.ep).length):=by
    rw[w3,←hY,List.take_append,List.take_of_length_le (by omega)]
   have he:=Ju (ok:=Ac) c5 (by omega) (by omega) (Bq.2 h2) r5;have k6:=Cf w2 r5;have r6:(s5.adv ((vb h.ep).length:Int)).rest=(I3 h++Ap 4 (Bb (AI h))).take (j-(vb h.ep).length):=by rw[BC w2.at0,r5,List.drop_left]
   have l6:(((s5.adv ((vb h.ep).length:Int)).l.length:Nat):Int)=((5+j:Nat):Int):=l5;have c6:(s5.adv ((vb h.ep).length:Int)).code=0:=c5;generalize s5.adv ((vb h.ep).length:Int)=s6 at*;obtain⟨m,hm⟩:∃m,j-(vb h.ep).length=m:=⟨_,rfl⟩;rw[hm]at r6;have hpe:(RS.new ((Am h).take (5+j))).hplain.1=(s6.hbase h.ver).1:=by
    unfold RS.hplain;rw[w1];simp only;rw[he]
   have last:∀s7:RS,(s6.hbase h.ver).1=s7->Ak s7->s7.code=0->((s7.l.length:Nat):Int)=((5+j:Nat):Int)->s7.rest.length<4->(RS.new ((Am h).take (5+j))).header.1.code=1∧(RS.new ((Am h).take (5+j))).header.1.fat=((5+j:Nat):Int):=λs7 e7 k7 c7 l7 r7=>by
    have t:=Fe (s:=s7) (n:=4) c7 (by decide) (by rw[Rr k7];omega);obtain⟨d1,d2⟩:=Zg c7 (s7.l.length:Int);have e:(RS.new ((Am h).take (5+j))).header=(s7.fail 1 s7.l.length,Ls):=by
     unfold RS.header RS.fixed;rw[hpe,e7,t];simp only;rw[if_neg (by rw[d1];decide)]
    rw[e];exact⟨d1,d2.trans l7⟩
   have hll:=BN 4 (Bb (AI h));have hp5:=Vd h;by_cases hv:h.ver=1
   ·have hbb:I3 h=vb h.base:=by unfold I3;rw[if_pos hv]
    rw[hbb]at r6 hp5;by_cases jb:m<(vb h.base).length
    ·have r6':s6.rest=(vb h.base).take m:=by rw[r6,List.take_append_of_le_length (by omega)]
     have hv':=NG k6 c6 (x:=h.base) hb (by omega) jb r6';have hep:s6.hbase h.ver=({s6 with at_:=s6.l.length,code:=1,fat:=s6.l.length},0):=by
      unfold RS.hbase;rw[if_pos hv];unfold RS.epo;rw[hv'];simp only;rw[if_neg (by decide)]
     have e:=aS (s:=RS.new ((Am h).take (5+j))) (u:={s6 with at_:=s6.l.length,code:=1,fat:=s6.l.length}) (hpe.trans (by rw[hep])) (by show¬(1:Int)=0;decide);rw[e];exact⟨rfl,l6⟩
    ·have r6':s6.rest=vb h.base++(Ap 4 (Bb (AI h))).take (m-(vb h.base).length):=by rw[r6,List.take_append,List.take_of_length_le (by omega)]
     have hep:=Ju (ok:=AL) c6 hb (by omega) (DL.2 h3) r6';refine last _ (by unfold RS.hbase;rw[if_pos hv,hep]) (Cf k6 r6') c6 l6 ?_;rw[BC k6.at0,r6',List.drop_left,List.length_take];omega
   ·have hbb:I3 h=[]:=by unfold I3;rw[if_neg hv]
    rw[hbb,List.nil_append]at r6;rw[hbb,List.length_nil]at hp5;refine last s6 (by unfold RS.hbase;rw[if_neg hv]) k6 c6 l6 ?_;rw[r6,List.length_take];omega
def PS.hold (s:PS) (c:List Int) (k:Nat):PS:={s with buf:=c.take k,fed:=s.fed+k}
def Bn (s:PS) (c:List Int) (k:Nat):(s.hold c k).buf=c.take k:=rfl
def B7 (s:PS) (c:List Int) (k:Nat):(s.hold c k).ph=s.ph:=rfl
def LU (s:PS) (c:List Int) (k:Nat):(s.hold c k).want=s.want:=rfl
def Jn (s:PS) (c:List Int) (k:Nat):(s.hold c k).foot=s.foot:=rfl
def Zb {s:PS} {c r:List Int} {t:PS} (he:s.ended=0) (hlen:0<c.length) (hcut:∀k,0<k->k<c.length->(s.hold c k).step=(s.hold c k,false,(0,0))) (hwhole:(s.hold c c.length).step=(t,true,(0,0))):
 ∀n k,k+n=c.length->0<n->(s.hold c k).feed (c.drop k++r)=({t with fst:=t.fed,buf:=[]}:PS).feed r:=by
 intro n
 induction n with
 |zero=>intro k _ h;omega
 |succ n ih=>
  intro k hk _;have hkl:k<c.length:=Om
  have hd:c.drop k=c.getD k 0::c.drop (k+1):=by
   rw[drop_eq_getElem_cons hkl];simp[hkl]
  have hadd:(s.hold c k).add (c.getD k 0)=s.hold c (k+1):=by
   unfold PS.hold PS.add;simp only[];rw[take_succ_eq_append_getElem hkl];congr 1
   ·simp[hkl]
   ·omega
  rw[hd,cons_append,PS.feed];rw[if_pos (show(s.hold c k).ended=0 from he)];unfold PS.one;rw[hadd];by_cases hlast:n=0
  ·subst hlast;have e:k+1=c.length:=Om
   rw[e,hwhole,drop_of_length_le Om,nil_append];rfl
  ·rw[hcut (k+1) Om Om];have:=ih (k+1) Om Om;rw[←this];rfl
def EW {s:PS} {c r:List Int} {t:PS} (he:s.ended=0) (hb:s.buf=[]) (hlen:0<c.length) (hcut:∀k,0<k->k<c.length->(s.hold c k).step=(s.hold c k,false,(0,0))) (hwhole:(s.hold c c.length).step=(t,true,(0,0))):
 s.feed (c++r)=({t with fst:=t.fed,buf:=[]}:PS).feed r:=by
 have h:=Zb (r:=r) he hlen hcut hwhole c.length 0 Om hlen;have e:s.hold c 0=s:=by
  unfold PS.hold;cases s;simp only[]at hb;subst hb;simp
 rw[e,drop_zero]at h;exact h
def IC {p:List Int} (hp:AW p) (hm:p.length≤2097152) {k:Nat} (hk:k<(Ag p).length):BE ((Ag p).take k)=([],0,false,(0,0)):=by
 have h:=gY (m:=2097152) hp (by unfold BK;omega) hk;unfold BE;rw[h];split
 ·rfl
 ·rw[if_pos rfl]
def IB {p:List Int} (hp:AW p) (hm:p.length≤2097152):BE (Ag p)=(p,((Ag p).length:Int)-4-p.length,true,(0,0)):=by
 have hfl:=Bi p;have hfb:AW (Ag p):=HQ hp Om;have h:=o9 (p:=p) (r:=[]) (m:=2097152) hp (λx hx=>by simp at hx) (by rw[append_nil];omega) (by unfold BK;omega);rw[append_nil]at h;have hok:okF (Ag p) 2097152=true:=by
  unfold okF;have hc:(Bp (Ag p) 2097152).2.2.1=0:=by rw[h]
  unfold Bp at hc;by_cases h1:((RS.new (Ag p)).frame 2097152).1.code=0
  ·simp[h1]
  ·rw[if_neg h1]at hc;simp only[]at hc;exact absurd hc h1
 have hw:=(fJ hfb Om hok).2.2;unfold BE;rw[h,if_neg (by rintro⟨_,h2⟩;omega),if_neg Si];rfl
def ME {s:PS} {ep:Int} {r:List Int} (he:s.ended=0) (hb:s.buf=[]) (hp:s.ph=0) (hep:1≤ep∧ep<4611686018427387904):
 s.feed (Am ⟨3,ep,0⟩++r)=({s with ph:=1,ep:=ep,fst:=s.fed+(Am ⟨3,ep,0⟩).length,fed:=s.fed+(Am ⟨3,ep,0⟩).length,buf:=[]}:PS).feed r:=by
 have hl:=oX ep;have hH:=hd3 hep;have hB:=Mw hH (Int.le_refl 0);refine EW he hb Om (λk h0 hk=>?_) ?_
  (t:={s with ph:=1,ep:=ep,buf:=Am ⟨3,ep,0⟩,fed:=s.fed+(Am ⟨3,ep,0⟩).length})
 ·have hc:=YR hH (Int.le_refl 0) hk;have e:(CT ((Am ⟨3,ep,0⟩).take k)).2.2.1=1:=by
   unfold CT;rw[if_neg (by rw[hc.1];decide)];exact hc.1
  unfold PS.step;rw[B7,hp];simp only[];unfold PS.header;rw[Bn,if_pos e]
 ·have hok:Ak (RS.new (Am ⟨3,ep,0⟩)):=Ak.new hB Om;have hw:=YP hok rfl hH (Int.le_refl 0) (r:=[]) (by rw[DV,append_nil]);have e:CT (Am ⟨3,ep,0⟩)=(⟨3,ep,0⟩,((Am ⟨3,ep,0⟩).length:Int),(0,0)):=by
   unfold CT;rw[hw,if_pos (show((RS.new (Am ⟨3,ep,0⟩)).adv ((Am ⟨3,ep,0⟩).length:Int)).code=0 from rfl)];show(_,(0:Int)+_,_)=_;rw[Int.zero_add]
  have eb:(s.hold (Am ⟨3,ep,0⟩) (Am ⟨3,ep,0⟩).length).buf=Am ⟨3,ep,0⟩:=by rw[Bn,take_length]
  unfold PS.step;rw[B7,hp];simp only[];unfold PS.header;rw[eb,e];simp only[];rw[if_neg De];simp only[if_true];unfold PS.hold;simp only[take_length]
def Wb {s:PS} {p r:List Int} {t:PS} {q:RS} (he:s.ended=0) (hb:s.buf=[]) (hp:s.ph=1) (hbp:AW p) (hm:p.length≤2097152) (ht:(s.hold (Ag p) (Ag p).length).takes p=((t,0),q)) (hq:q.code=0):
 s.feed (Ag p++r)=({t with fst:=t.fed,buf:=[]}:PS).feed r:=by
 have hfl:=Bi p;refine EW he hb Om (λk h0 hk=>?_) ?_
 ·have hc:=IC hbp hm hk;unfold PS.step;rw[B7,hp];simp only[];unfold PS.record;rw[Bn,hc];rw[if_neg De]
 ·have hw:=IB hbp hm;have eb:(s.hold (Ag p) (Ag p).length).buf=Ag p:=by rw[Bn,take_length]
  unfold PS.step;rw[B7,hp];simp only[];unfold PS.record;rw[eb,hw];simp only[];rw[if_pos trivial,ht];simp only[];rw[if_pos hq];rfl
def Y6 {s:PS} (he:s.ended=0) (hb:s.buf=[]) (hp:s.ph=3):
 s.feed (A4 s.foot)={s with ph:=4,fst:=s.fed+12,fed:=s.fed+12,buf:=[]}:=by
 have htl:=FU s.foot;have h:=EW (s:=s) (c:=A4 s.foot) (r:=[]) (t:={s with ph:=4,buf:=A4 s.foot,fed:=s.fed+12}) he hb Om (λk h0 hk=>by
  have hk':((A4 s.foot).take k).length<12:=by rw[length_take];omega
  unfold PS.step;rw[B7,hp];simp only[];unfold PS.trailer;rw[if_pos (show(s.hold (A4 s.foot) k).buf.length<12 from hk')]) (by
  have eb:(s.hold (A4 s.foot) (A4 s.foot).length).buf=A4 s.foot:=by rw[Bn,take_length]
  unfold PS.step;rw[B7,hp];simp only[];unfold PS.trailer;rw[eb,htl,if_neg De,Jn,if_pos rfl];unfold PS.hold;simp only[];rfl)
 rw[append_nil]at h;rw[h];rfl
def VX (s:PS) (c:List Int) (k:Nat):(s.hold c k).ms=s.ms∧(s.hold c k).ep=s.ep∧(s.hold c k).lep=s.lep∧(s.hold c k).lbase=s.lbase∧(s.hold c k).ln=s.ln∧(s.hold c k).fst=s.fst∧(s.hold c k).fed=s.fed+k∧(s.hold c k).out=s.out∧(s.hold c k).ended=s.ended∧(s.hold c k).ph=s.ph∧(s.hold c k).want=s.want∧(s.hold c k).foot=s.foot:=⟨rfl,rfl,rfl,rfl,rfl,rfl,rfl,rfl,rfl,rfl,rfl,rfl⟩
def sW:List Int:=List.replicate 24 97
def g7:EL:=⟨2,[⟨1,7,[⟨[],sW⟩]⟩]⟩
def V2:DB g7=true:=by decide
def Afn:∀b∈g7.bt,b.ok∧DG b:=by
 intro b hb;simp only[g7,mem_singleton]at hb;subst hb;refine⟨⟨De,De,De,De,λe he=>?_⟩,⟨De,λe he=>?_,De⟩⟩
 ·simp only[mem_singleton]at he;subst he;exact⟨λx hx=>by simp at hx,λx hx=>by simp only[sW,mem_replicate]at hx;rw[hx.2];decide⟩
 ·simp only[mem_singleton]at he;subst he;exact⟨⟨Si,λx hx=>by simp at hx⟩,De⟩
def Ab8:(JG g7).length≤3000:=by decide+kernel
def Ab9:AW (JG g7):=λx hx=>by
 have h:((JG g7).all λx=>decide (0≤x∧x<256))=true:=by kernel_rfl
 exact of_decide_eq_true (all_eq_true.1 h x hx)
def wY:Vw (JG g7) 7=(⟨[],sW⟩,(0,0)):=by kernel_rfl
def Aca:E7 (JG g7)=[.item (Am ⟨3,2,0⟩).length ⟨1,7,[⟨[],sW⟩]⟩,.oth 2 (JG g7).length 0]:=by kernel_rfl
def Fj :Ct prog 5 [] [] (λ_=>bA true) [] (λ_=>[]):=by
 refine Ah.toCt ?_ cl cl
 have⟨o0,o1,q1,q2,q3,q4,q5⟩:=Abv;refine Ah.bodyAC func5 vZ vY ?_;rw[show f5.ntmps=51 from by kernel_rfl];refine AC.seq (I4 lvA _ Ah9 _ _ _ ?_);simp only[nil_append,length_nil,Nat.sub_zero];refine (mp ?_).1;have hg:∀o∈v8.toList,o.guard=none:=λo ho=>by
  have:=all_eq_true.1 oC o ho;simpa using this
 refine AC.seq (AC.lit (l:=sW) (v8.toList.drop 2) q1 hg q2 q3 q4 q5 De Si Si (e:=5) (by kernel_rfl) (by kernel_rfl) (by kernel_rfl) (zs:=[.int .u8 0]) (by kernel_rfl) De De (by rfl) (o:=lvM) rfl rfl rfl Ah7 ?_);simp only[lvS];refine (mp ?_).1;have hseg:=PY g7 De Afn;have e1:Ky g7=JG g7:=by unfold Ky;rw[if_pos V2]
 have e2:Zk g7=0:=by unfold Zk;rw[if_pos V2]
 rw[e1,e2]at hseg;have hb:=Ab9;have hl:=Ab8;have hlk:=Qb (JG g7) 7 hb Om De;rw[wY]at hlk;have hfa:=Wl (JG g7) hb Om;rw[Aca]at hfa;have⟨B,hB⟩:=Ex (JG g7);rw[hB]at hseg hlk hfa;obtain⟨hd,hhd⟩:∃hd:Int,((Am ⟨3,2,0⟩).length:Int)=hd:=⟨_,rfl⟩;rw[hhd]at hfa;have ew:Co [uA 2,.sl .full 3 [.agg [uA 1,uA 7,.sl .full 2 [.agg [.sl .full 1 [],.sl .none 1 (A0 .u8 sW)]]]]] [uA 2,GN g7.bt]:=by
  refine Co.cons (Wa.refl _) (Co.cons ?_ Co.nil);refine Wa.slN (Co.cons (Wa.agg (Co.cons (Wa.refl _) (Co.cons (Wa.refl _) (Co.cons ?_ Co.nil)))) Co.nil);exact Wa.slN (Co.cons (Wa.agg (Co.cons Wa.nil (Co.cons (Wa.refl _) Co.nil))) Co.nil)
 refine AC.wk (Wk.wao 0 rfl ew) ?_;simp only[set_cons_zero];refine I4 lvR _ Ah8 _ _ _ ?_;simp only[lvC];refine (mp ?_).1;simp only[]at hlk;have hev:GO [Ev.item hd ⟨1,7,[⟨[],sW⟩]⟩,Ev.oth 2 (B.length:Int) 0]=[evA (Ev.item hd ⟨1,7,[⟨[],sW⟩]⟩),.agg [iA 2,iA B.length,iA 0,iA 0,uA 0,uA 0,uA 0,iA 0,iA 0,CY,CY,CY,uA 0,uA 0,uA 0,uA 0,CY,uA 0,uA 0,CY]]:=rfl;rw[hev]at hfa;have⟨X,hX⟩:=Ex (evA (Ev.item hd ⟨1,7,[⟨[],sW⟩]⟩));rw[hX]at hfa;refine Cp (hseg) ?_;refine Cp (hlk) ?_;have hbs:FN (A0 .u8 sW)=⟨#[97,97,97,97,97,97,97,97,97,97,97,97,97,97,97,97,97,97,97,97,97,97,97,97]⟩:=by rfl
 refine Aa.p (hfa) (mq hbs ?_).1;refine⟨by rfl,?_⟩;exact A6.finA Abu []
def s9:∀(l:List Int) (n:Int) (j:Nat),(BQ n (l.take j)).1≠1->BQ n (l.take j)=BQ n l:=by
 intro l
 induction l with
 |nil=>intro n j _;simp
 |cons c t ih=>
  intro n j h;cases j with
  |zero=>simp[BQ]at h
  |succ j=>
   rw[take_succ_cons,KM]at h ⊢;rw[KM];split
   ·rfl
   ·split
    ·rfl
    ·split
     ·rfl
     ·rename_i h1 h2 h3;rw[if_neg h1,if_neg h2,if_neg h3]at h;rw[ih (n+1) j h]
structure Sm (d k:Nat) (s t:RS):Prop where
 l:t.l=(s.l.drop d).take k
 n:d+k≤s.l.length
 at_:s.at_=t.at_+d
 a0:0≤t.at_
 a1:t.at_≤k
 code:t.code=s.code
 fat:s.code≠0->s.fat=t.fat+d
 c1:s.code≠1
structure Sho (d k:Nat) (s t:RS):Prop where
 l:t.l=(s.l.drop d).take k
 n:d+k≤s.l.length
 code:t.code=1
 fat:t.fat=k
 all:d+k=s.l.length->s.code=1∧s.fat=s.l.length
def Pv (d k:Nat) {β:Type} (r q:RS×β):Prop:=Sho d k r.1 q.1∨(Sm d k r.1 q.1∧q.2=r.2)
def Sm.len {d k:Nat} {s t:RS} (h:Sm d k s t):t.l.length=k:=by rw[h.l,length_take,length_drop];have:=h.n;omega
def Sho.len {d k:Nat} {s t:RS} (h:Sho d k s t):t.l.length=k:=by rw[h.l,length_take,length_drop];have:=h.n;omega
def Sm.new {s:RS} {d k:Nat} (hc:s.code=0) (ha:s.at_=d) (hn:d+k≤s.l.length):Sm d k s (RS.new ((s.l.drop d).take k)):=
 ⟨rfl,hn,by rw[ha];show(d:Int)=0+d;omega,Int.le_refl 0,by show(0:Int)≤k;omega,hc.symm,λh=>absurd hc h,by rw[hc];decide⟩
def Sm.fail {d k:Nat} {s t:RS} (h:Sm d k s t) {c a b:Int} (hc:c≠1) (h0:c≠0) (ha:a=b+d):Sm d k (s.fail c a) (t.fail c b):=by
 unfold RS.fail;rw[h.code];split
 ·refine⟨h.l,h.n,h.at_,h.a0,h.a1,?_,λ_=>?_,?_⟩
  ·simp[BB,h0]
  ·simp[BB,h0,ha]
  ·simp[BB,h0,hc]
 ·exact h
def Sho.to {d k:Nat} {s t s' t':RS} (h:Sho d k s t) (hs:s'.l=s.l) (h1:s.code≠0->s'=s) (h2:t.code≠0->t'=t):Sho d k s' t':=by
 have e:=h2 (by rw[h.code];decide);subst e;refine⟨by rw[hs];exact h.l,by rw[hs];exact h.n,h.code,h.fat,λha=>?_⟩;rw[hs]at ha;have h3:=h.all ha;have:=h1 (by rw[h3.1];decide);rw[this];exact h3
def tM {d k:Nat} {s t:RS} (h:Sm d k s t) (n:Int):Pv d k (s.take n) (t.take n):=by
 have hl:=h.len;have h1:=h.at_;have h2:=h.n;have h3:=h.a0;have h4:=h.a1;have hc:=h.code;unfold RS.take RS.skip RS.left;rw[hc];by_cases h0:s.code=0
 ·rw[if_pos h0,if_pos h0];by_cases hn:n<0
  ·rw[if_pos hn,if_pos hn];simp only[Bool.false_eq_true,if_false];exact .inr ⟨h.fail De De h1,rfl⟩
  ·rw[if_neg hn,if_neg hn];by_cases ht:(t.l.length:Int)-t.at_<n
   ·rw[if_pos ht];left;simp only[Bool.false_eq_true,if_false];have hft:(t.fail 1 t.l.length).code=1∧(t.fail 1 t.l.length).fat=k∧(t.fail 1 t.l.length).l=t.l:=by
     unfold RS.fail;rw[if_pos (hc.trans h0)];simp[BB,hl]
    by_cases hs:(s.l.length:Int)-s.at_<n
    ·rw[if_pos hs];have hfs:(s.fail 1 s.l.length).code=1∧(s.fail 1 s.l.length).fat=s.l.length∧(s.fail 1 s.l.length).l=s.l:=by
      unfold RS.fail;rw[if_pos h0];simp[BB]
     simp only[Bool.false_eq_true,if_false];exact⟨by rw[hft.2.2,hfs.2.2];exact h.l,by rw[hfs.2.2];exact h2,hft.1,hft.2.1,λ_=>⟨hfs.1,by rw[hfs.2.1,hfs.2.2]⟩⟩
    ·rw[if_neg hs];simp only[if_true];exact⟨by rw[hft.2.2];exact h.l,h2,hft.1,hft.2.1,λha=>by simp only[]at ha;omega⟩
   ·have hs:¬(s.l.length:Int)-s.at_<n:=Om
    rw[if_neg ht,if_neg hs];simp only[if_true];refine .inr ⟨⟨h.l,h2,by simp only[];omega,by simp only[];omega,by simp only[];omega,rfl,λhh=>absurd h0 hh,h.c1⟩,?_⟩;simp only[];rw[h.l];have e:s.at_.toNat=d+t.at_.toNat:=Om
    rw[e,←drop_drop,drop_take,take_take];congr 1;omega
 ·rw[if_neg h0,if_neg h0];simp only[Bool.false_eq_true,if_false];exact .inr ⟨h,rfl⟩
def kX (s:RS) (n:Int):(s.take n).1.l=s.l:=by
 unfold RS.take RS.skip
 repeat' split
 all_goals first|rfl|exact AY _ _ _
def LB {s:RS} (h:s.code≠0) (n:Int):s.take n=(s,[]):=by
 unfold RS.take RS.skip;rw[if_neg h];simp
def Aax (s:RS):s.vint.1.l=s.l:=by
 unfold RS.vint
 repeat' split
 all_goals rfl
def sZ {d k:Nat} {s t:RS} (h:Sm d k s t) (hb:AW s.l):Pv d k s.vint t.vint:=by
 have hl:=h.len;have h1:=h.at_;have h2:=h.n;have h3:=h.a0;have h4:=h.a1;have hc:=h.code;by_cases h0:s.code=0
 ·have er:t.rest=s.rest.take (k-t.at_.toNat):=by
   unfold RS.rest;rw[h.l,drop_take];have e:s.at_.toNat=d+t.at_.toNat:=Om
   rw[e,←drop_drop]
  have hrl:(t.rest.length:Int)=k-t.at_:=by unfold RS.rest;rw[length_drop,hl];omega
  have htb:AW t.rest:=λx hx=>hb x (by
   rw[er]at hx;exact mem_of_mem_drop (mem_of_mem_take hx))
  unfold RS.vint;rw[hc,if_pos h0,if_pos h0];by_cases hv:(BQ 0 t.rest).1=1
  ·rw[if_neg (show¬(BQ 0 t.rest).1=0 by rw[hv];decide),if_pos hv];left;have hall:d+k=s.l.length->t.rest=s.rest:=λha=>by
    rw[er,take_of_length_le];unfold RS.rest;rw[length_drop];omega
   by_cases h5:(BQ 0 s.rest).1=0
   ·rw[if_pos h5];exact⟨h.l,h2,rfl,by simp only[];omega,λha=>by rw[hall ha]at hv;rw[hv]at h5;exact absurd h5 De⟩
   ·rw[if_neg h5];by_cases h6:(BQ 0 s.rest).1=1
    ·rw[if_pos h6];exact⟨h.l,h2,rfl,by simp only[];omega,λha=>⟨rfl,rfl⟩⟩
    ·rw[if_neg h6];exact⟨h.l,h2,rfl,by simp only[];omega,λha=>by rw[hall ha]at hv;exact absurd hv h6⟩
  ·have e:BQ 0 t.rest=BQ 0 s.rest:=by
    rw[er]at hv ⊢;exact s9 _ _ _ hv
   right;by_cases h5:(BQ 0 s.rest).1=0
   ·have hbk:=KN htb (by rw[e];exact h5);rw[e]at hbk;rw[e,if_pos h5,if_pos h5];exact⟨⟨h.l,h2,by simp only[RS.adv];omega,by simp only[RS.adv];omega,by simp only[RS.adv];omega,by simp only[RS.adv];exact hc,λhh=>absurd h0 hh,h.c1⟩,rfl⟩
   ·have hf:=I8 t.rest 0 (Int.le_refl 0) (by rw[e];exact h5);rw[e]at hf hv;rw[e,if_neg h5,if_neg h5,if_neg hv,if_neg hv];have⟨_,f2,f3⟩:=hf;rcases f3 with f3|⟨f3,f4⟩
    ·exact absurd f3.1 hv
    ·exact⟨⟨h.l,h2,by simp only[];omega,by simp only[];omega,by simp only[];omega,rfl,λ_=>by simp only[];omega,by simp only[];omega⟩,rfl⟩
 ·rw[B1 h0,B1 (by rw[hc];exact h0)];exact .inr ⟨h,rfl⟩
structure NF {β:Type} (f:RS->RS×β):Prop where
 stay:∀s,s.code≠0->(f s).1=s
 l:∀s,(f s).1.l=s.l
 px:∀{d k:Nat} {s t:RS},Sm d k s t->AW s.l->Pv d k (f s) (f t)
def NF.bind {β γ:Type} {f:RS->RS×β} {g:β->RS->RS×γ} (hf:NF f) (hg:∀b,NF (g b)):NF (λs=>g (f s).2 (f s).1) where
 stay s h:=by
  have e:=hf.stay s h;show(g (f s).2 (f s).1).1=s;rw[(hg _).stay _ (by rw[e];exact h),e]
 l s:=((hg _).l _).trans (hf.l s)
 px {d k s t} h hb:=by
  rcases hf.px h hb with h1|⟨h1,h2⟩
  ·exact .inl (h1.to ((hg _).l _) (λhh=>(hg _).stay _ hh) (λhh=>(hg _).stay _ hh))
  ·show Pv d k (g (f s).2 (f s).1) (g (f t).2 (f t).1);rw[h2];exact(hg _).px h1 (by rw[hf.l];exact hb)
def NF.map {β γ:Type} {f:RS->RS×β} (hf:NF f) (g:β->γ):NF (λs=>((f s).1,g (f s).2)) where
 stay s h:=hf.stay s h
 l s:=hf.l s
 px h hb:=by
  rcases hf.px h hb with h1|⟨h1,h2⟩
  ·exact .inl h1
  ·exact .inr ⟨h1,by show g _=g _;rw[h2]⟩
def NF.check {β:Type} {f:RS->RS×β} (hf:NF f) (p:β->Prop) [DecidablePred p] (c:Int) (z:β) (h1:c≠1) (h0:c≠0):NF (λs=>if p (f s).2 then((f s).1.fail c s.at_,z)else f s) where
 stay s h:=by
  have e:=hf.stay s h;show(if p (f s).2 then((f s).1.fail c s.at_,z)else f s).1=s;split
  ·show(f s).1.fail c s.at_=s;rw[e,Dr h]
  ·exact e
 l s:=by
  show(if p (f s).2 then((f s).1.fail c s.at_,z)else f s).1.l=s.l;split
  ·show((f s).1.fail c s.at_).l=s.l;rw[AY,hf.l]
  ·exact hf.l s
 px {d k s t} h hb:=by
  have hat:=h.at_;rcases hf.px h hb with g1|⟨g1,g2⟩
  ·refine .inl (g1.to ?_ (λhh=>?_) (λhh=>?_))
   ·show(if p (f s).2 then((f s).1.fail c s.at_,z)else f s).1.l=_;split<;>first|rfl|exact AY _ _ _
   ·show(if p (f s).2 then((f s).1.fail c s.at_,z)else f s).1=_;split<;>first|rfl|exact Dr hh _ _
   ·show(if p (f t).2 then((f t).1.fail c t.at_,z)else f t).1=_;split<;>first|rfl|exact Dr hh _ _
  ·show Pv d k (if p (f s).2 then((f s).1.fail c s.at_,z)else f s) (if p (f t).2 then((f t).1.fail c t.at_,z)else f t);rw[g2];split
   ·exact .inr ⟨g1.fail h1 h0 hat,rfl⟩
   ·exact .inr ⟨g1,g2⟩
def Nk (n:Int):NF (λs=>s.take n):=⟨λs h=>by show(s.take n).1=s;rw[LB h],λs=>kX s n,λh _=>tM h n⟩
def Z_:NF RS.vint:=⟨λs h=>by rw[B1 h],Aax,λh hb=>sZ h hb⟩
def Abm {m:Int} (hm:0≤m):NF (λs=>s.int m):=by
 have h:=Z_.check (λv=>m<v) 2 0 De De;have e:(λs:RS=>s.int m)=(λs=>if m<s.vint.2 then(s.vint.1.fail 2 s.at_,0)else s.vint):=by
  funext s;unfold RS.int RS.most;rw[if_pos hm]
 rw[e];exact h
def Ss {m:Int} (hm:0≤m):NF (λs=>s.blob m):=(Abm hm).bind λn=>Nk n
def DC (n:Int):NF (λs=>s.fixed n):=(Nk n).map Bm
def UX (m:Int) (hm:0≤m):NF (λs=>s.frame m) where
 stay s h:=by
  have e1:(s.blob (BK m)).1=s:=(Ss (m:=BK m) (by unfold BK;omega)).stay s h;have e2:((s.blob (BK m)).1.fixed 4).1=s:=by rw[e1];exact(DC 4).stay s h
  show(s.frame m).1=s;unfold RS.frame;rw[if_neg (by rw[e2];exact h)];exact e2
 l s:=by
  have e1:(s.blob (BK m)).1.l=s.l:=(Ss (m:=BK m) (by unfold BK;omega)).l s;have e2:((s.blob (BK m)).1.fixed 4).1.l=s.l:=((DC 4).l _).trans e1;show(s.frame m).1.l=s.l;unfold RS.frame
  repeat' split
  ·exact e2
  ·show(RS.fail _ _ _).l=_;rw[AY];exact e2
  ·exact e2
 px {d k s t} h hb:=by
  have hB:=Ss (m:=BK m) (by unfold BK;omega);have hl:(s.blob (BK m)).1.l=s.l:=hB.l s;show Pv d k (s.frame m) (t.frame m);have st:∀u:RS,((u.blob (BK m)).1.code≠0->(u.frame m).1=(u.blob (BK m)).1)∧(((u.blob (BK m)).1.fixed 4).1.code≠0->(u.frame m).1=((u.blob (BK m)).1.fixed 4).1)∧(u.frame m).1.l=((u.blob (BK m)).1.fixed 4).1.l∧(u.frame m).1.l=(u.blob (BK m)).1.l:=λu=>by
   have e3:((u.blob (BK m)).1.fixed 4).1.l=(u.blob (BK m)).1.l:=(DC 4).l _;have e4:(u.frame m).1.l=((u.blob (BK m)).1.fixed 4).1.l:=by
    unfold RS.frame;repeat' split
    ·rfl
    ·exact AY _ _ _
    ·rfl
   have e5:((u.blob (BK m)).1.fixed 4).1.code≠0->(u.frame m).1=((u.blob (BK m)).1.fixed 4).1:=λhh=>by unfold RS.frame;rw[if_neg hh]
   exact⟨λhh=>by
    have e6:((u.blob (BK m)).1.fixed 4).1=(u.blob (BK m)).1:=(DC 4).stay _ hh;rw[e5 (by rw[e6];exact hh),e6],e5,e4,e4.trans e3⟩
  rcases hB.px h hb with g1|⟨g1,g2⟩
  ·exact .inl (g1.to (st s).2.2.2 (st s).1 (st t).1)
  ·rcases(DC 4).px g1 (by rw[hl];exact hb)with f1|⟨f1,f2⟩
   ·exact .inl (f1.to (st s).2.2.1 (st s).2.1 (st t).2.1)
   ·have hc:((t.blob (BK m)).1.fixed 4).1.code=((s.blob (BK m)).1.fixed 4).1.code:=f1.code;have hv:((t.blob (BK m)).1.fixed 4).2=((s.blob (BK m)).1.fixed 4).2:=f2;have hw:(t.blob (BK m)).2=(s.blob (BK m)).2:=g2;unfold RS.frame;rw[hc,hv,hw];split
    ·split
     ·exact .inr ⟨f1,rfl⟩
     ·exact .inr ⟨Sm.fail f1 De De g1.at_,rfl⟩
    ·exact .inr ⟨f1,rfl⟩
end Go.Proofs.YtaajkppmibfgfabGreat
