/- Lemmas for TopLog, part 4. -/
import Derived.Test.YtaajkppmibfgfaaGreatB3
import Derived.Test.YtaajkppmibfgfaaGreatB2
import Derived.Test.YtaajkppmibfgfaaGreatB1
import Derived.Lib.SlBytesConst
import Derived.KernelRfl
set_option linter.all false
set_option maxRecDepth 100000
set_option maxHeartbeats 4000000
universe u v
namespace Go.Proofs.YtaajkppmibfgfaaGreat
open Go.RowKit List IntWalk Go.Proofs.Tryz
def bK {s:RS} {acc:List Mk} (hf:¬(s.mark (AF acc)).fits (AF acc).fin (AF acc).at_):(D3.f s acc).1=s.m3.fail 3 s.at_∧¬(D3.f s acc).1.code=0:=by
 have key:(D3.f s acc).1=s.m3.fail 3 s.at_:=by
  show(if s.m3.code=0∧¬(s.mark (AF acc)).fits (AF acc).fin (AF acc).at_ then(s.m3.fail 3 s.at_,CU)else(s.m3,s.mark (AF acc))).1=_;by_cases hc:s.m3.code=0
  ·rw[if_pos ⟨hc,hf⟩]
  ·rw[if_neg λh=>hc h.1];unfold RS.fail;rw[if_neg hc]
 refine⟨key,?_⟩;rw[key];by_cases hc:s.m3.code=0
 ·exact BR _ _ hc De
 ·unfold RS.fail;rw[if_neg hc];exact hc
def WI {s:RS} {acc:List Mk} (hf:(s.mark (AF acc)).fits (AF acc).fin (AF acc).at_):D3.f s acc=(s.m3,s.mark (AF acc)):=by
 show(if s.m3.code=0∧¬(s.mark (AF acc)).fits (AF acc).fin (AF acc).at_ then(s.m3.fail 3 s.at_,CU)else(s.m3,s.mark (AF acc)))=_;rw[if_neg λh=>h.2 hf]
theorem T_ (s:RS) (hs:An s) (hn:s.l.length*24≤140737488355328):Ag prog 64 [.ref 0 0] [A1 s] (HT s.marks.2) [A1 (s.marks.1)]:=by
 have hir:=Er (s:=s) (m:=16) hs.bys;have⟨hi1,hi2⟩:=hs.int 16;unfold RS.marks EM.counted;refine RM func64 b64 ?_
 refine Aa.u1 (AT s 16 0 De hs.ok hs.bys) rfl ?_;generalize hu:(s.int 16).1=u at*;generalize(s.int 16).2=z at*;obtain⟨N,hN⟩:∃N,z.toNat=N:=⟨_,rfl⟩;have hz:z=(N:Int):=Om
 subst hz;rw[Int.toNat_natCast];refine (mp ?_).1;refine AA (α:=RS×List Mk) (λa=>.ref 0 0::.any::.any::.sl (.row 1) 3 (HY a.2)::uA (AF a.2).fin::iA (AF a.2).at_::.any::.any::.any::.any::.any::iA N::iA a.2.length::Az (Az (Ay (Ay [.any,.any])))) (λa=>[A1 a.1,.row 3 a.2.length]) (D3.On u N) (λa=>N-a.2.length) (u,[]) (EM.On.start hi1 N) ((Wk.row 3 3 rfl (.inr rfl) De).trans (Wk.to Si (by simp[B6,HY,AF,CU,Mk.fin]))) ?_;rintro⟨t,acc⟩ ho;have hla:=ho.len;rw[hi2]at hla;have h1:=ho.ok;have h6:=ho.res;have hw:=FN ho.wf;simp only at h1 h6 hw;have hmn:=kD h1;have hnxF:=ho.next F0;obtain⟨p,hp⟩:∃p,AF acc=p:=⟨_,rfl⟩;have hnot:=bK (s:=t) (acc:=acc);have hfit:=WI (s:=t) (acc:=acc);rw[hp]at hw hnot hfit;have⟨w1,w2,w3,w4,w5,w6⟩:=hw;have⟨n1,n2,n3,n4,n5,n6⟩:=hmn;have b2:=(h1.vint.1.int 16).1;refine (mq hp ?_).1;refine AK (λh=>?_) (λh=>?_)
 ·have hlt:acc.length<N:=Sx h
  have ei:=Am acc.length Om;have e1:IntKind.i64.wrap (p.at_+1)=p.at_+1:=i64_in _ Om;have e2:IntKind.i64.wrap (p.at_+1+t.mOn)=p.at_+t.mOn+1:=by rw[i64_in _ Om];omega
  have d1:t.vint.2=t.mBy:=rfl;have d2:(t.vint.1.int 16).2=t.mCnt:=rfl;have d3:((t.vint.1.int 16).1.int 1099511627775).2=t.mOn:=rfl;have d4:((t.vint.1.int 16).1.int 1099511627775).1=t.m3:=rfl;refine (mp ?_).1;refine Aa.r1 (AP t 0) rfl (mp ?_).1;refine Aa.u1 (B4 t 0 h1.ok h1.bys) rfl (mp ?_).1;refine Aa.u1 (AT t.vint.1 16 0 De h1.vint.1.ok h1.vint.1.bys) rfl (mq e1 ?_).1;refine Aa.u1 (AT (t.vint.1.int 16).1 1099511627775 0 De b2.ok b2.bys) rfl ?_;simp only[go_sem,seval,d1,d2,d3,d4,e2];refine (AZ ?_).1;by_cases hby:4611686018427387904≤t.mBy
  ·have q:decide (4611686018427387904≤t.mBy)=true:=Sx hby
   have hno:¬(t.mark p).fits p.fin p.at_:=by
    rintro⟨f1,f2,f3,f4,f5,f6⟩;simp only[RS.mark]at f1 f4;omega
   have⟨o1,o2⟩:=hnot hno;have hb:=F1 (F:=D3) (s:=t) hlt o2;rw[h6,o1]at hb;rw[o1]at o2;refine (mq q ?_).1;refine Aa.u1 (Ar t.m3 3 t.at_ 0) rfl (mp ?_).1;refine Aa.r1 (Ah _ 0) rfl (mq (AB o2) ?_).1;(refine A2.nilk 2 3 rfl ?_;simp only[set_cons_zero,set_cons_succ])
   exact FF b64 [0] hb @L3
  ·have q:decide (4611686018427387904≤t.mBy)=false:=Sx hby
   have e3:IntKind.u64.wrap (p.fin+t.mBy)=p.fin+t.mBy:=u64_in _ Om;have hok:(t.mark p).ok:=⟨by simp only[RS.mark];omega,by simp only[RS.mark];omega,by simp only[RS.mark];omega,by simp only[RS.mark];omega,by simp only[RS.mark];omega,by simp only[RS.mark];omega⟩;refine (mr q e3 ?_).1;refine Aa.p (Ns (t.mark p) p.fin p.at_ hok) ?_;by_cases hf:(t.mark p).fits p.fin p.at_
   ·have q2:decide ((t.mark p).fits p.fin p.at_)=true:=Sx hf
    have hff:=hfit hf;refine (mq q2 ?_).1;refine Aa.r1 (Ah t.m3 0) rfl ?_;by_cases hc:t.m3.code=0
    ·have hnx:=hnxF hlt (by rw[hff];exact hc);rw[hff]at hnx;have hl2:=hnx.len;rw[length_append,length_singleton,hi2]at hl2;have em:[AV.agg [uA (p.fin+t.mBy),iA t.mCnt,iA (p.at_+t.mOn+1)]]=[fW (t.mark p)]:=rfl;have hff2:=Y5 hf w1;refine (mt (A5 hc) em @j8 @AX ?_).1;(repeat with_reducible refine Sa ?_);refine Aa.p (Di (t.mark p) hff2.1 Om Om) (mq ei ?_).1;exact⟨(t.m3,acc++[t.mark p]),hnx,by simp;omega,Wk.sel [0,1] Si rfl Si rfl (by simp[AG,AH,AD]) (by simp[Ch,AD,EZ,RS.mark])⟩
    ·have hb:=F1 (F:=D3) (s:=t) (acc:=acc) hlt (by rw[hff];exact hc);rw[h6,hff]at hb;refine (mq (AB hc) ?_).1;(refine A2.nilk 2 3 rfl ?_;simp only[set_cons_zero,set_cons_succ])
     exact FF b64 [0] hb @L3
   ·have q2:decide ((t.mark p).fits p.fin p.at_)=false:=Sx hf
    have⟨o1,o2⟩:=hnot hf;have hb:=F1 (F:=D3) (s:=t) hlt o2;rw[h6,o1]at hb;rw[o1]at o2;refine (mq q2 ?_).1;refine Aa.u1 (Ar t.m3 3 t.at_ 0) rfl (mp ?_).1;refine Aa.r1 (Ah _ 0) rfl (mq (AB o2) ?_).1;(refine A2.nilk 2 3 rfl ?_;simp only[set_cons_zero,set_cons_succ])
    exact FF b64 [0] hb @L3
 ·have hge:N≤acc.length:=Sx h
  have hb:=M8 (F:=D3) (s:=t) hge;rw[h6]at hb;refine (mp ?_).1;refine UT 2 ?_
  exact FF b64 [0] hb @L3
def Nt (s:RS) (i:Nat) (hs:An s) (hn:s.l.length*24≤140737488355328):Ct prog 64 [.ref i 0] [(i,A1 s)] (λ_=>HT s.marks.2) [(i,A1 (s.marks.1))] (λ_=>[]):=Ct.u1 (T_ s hs hn) i cl (λρ=>AG ρ _) (λρ=>AG ρ _) (rdr_dead _) cl
def Nu (l:List Mk) (hl:fQ l) (hn:l.length≤140737488355328):Ag prog 88 [HT l] [] (iA (if AR l=true then DX l l.length else 0)) []:=by
 refine RM func88 b88 ?_
 refine Aa.p (Fh l hl hn) ?_;cases hf:AR l
 ·refine (mq hf ?_).1
  exact FE b88 [] hf
 ·have h16:=(Bd.1 hf).2;refine (mr hf @AX ?_).1;refine AA (α:=Nat) (λk=>.any::.any::.any::iA (DX l k)::.any::.any::.any::.any::.any::HT l::iA l.length::iA k::Ay (Ay [.any])) (λ_=>[]) (λk=>k≤l.length) (λk=>l.length-k) 0 Si (Wk.to Si (by simp[B6,DX])) ?_;intro k hk;refine (mp ?_).1;refine AK (λh=>?_) (λh=>?_)
  ·have hlt:k<l.length:=Sx h
   have g:=Hp l k hlt;have ei:=Am k Om;have hc:=U2 hf k hk;have hx:=FT hf hlt;have es:IntKind.i64.wrap (DX l k+(l.getD k CU).cnt)=DX l (k+1):=by rw[i64_in _ Om];rfl
   refine (mt g @AX es ei ?_).1;(repeat with_reducible refine Sa ?_);exact⟨k+1,hlt,Om,Wk.sel [] Si rfl Si rfl Si (by simp[Ch,AD])⟩
  ·have ek:k=l.length:=by simp at h;omega
   refine (mp ?_).1
   exact FF b88 [] hf ek
theorem GE (l:List Mk) (hl:fQ l) (hn:l.length≤140737488355328):Ct Tryz.prog 88 [HT l] [] (λ_=>iA (if AR l=true then DX l l.length else 0)) [] (λ_=>[]):=(Nu l hl hn).toCt cl cl
def HP (l:List Mk):Int×Int:=if l.length=0∨AR l=false then(0,0)else((l.getD 0 CU).pos,(l.getD (l.length-1) CU).fin)
def Ub (l:List Mk) (hl:fQ l) (hn:l.length≤140737488355328):Ag prog 89 [HT l] [] (.tup [uA (HP l).1,uA (HP l).2]) []:=by
 refine RN func89 b89 ?_;refine (mq @AX ?_).1
 by_cases hz:l.length=0
 ·have q:((l.length:Int)==0)=true:=by simp only[beq_iff_eq];omega
  have he:HP l=(0,0):=by unfold HP;rw[if_pos (.inl hz)]
  refine (mq q ?_).1
  exact FE b89 [] he
 ·have q:((l.length:Int)==0)=false:=by simp only[beq_eq_false_iff_ne,ne_eq];omega
  refine (mq q ?_).1;refine Aa.p (Fh l hl hn) ?_;cases hf:AR l
  ·have he:HP l=(0,0):=by unfold HP;rw[if_pos (.inr hf)]
   refine (mq hf ?_).1
   exact FE b89 [] he
  ·have he:HP l=((l.getD 0 CU).pos,(l.getD (l.length-1) CU).fin):=by unfold HP;rw[if_neg (by rintro(h|h);exact hz h;rw[hf]at h;cases h)]
   have g0:=Tv l 0 Om;have g1:=Hp l (l.length-1) Om;have ej:IntKind.i64.wrap ((l.length:Int)-1)=((l.length-1:Nat):Int):=by rw[i64_in _ Om];omega
   have hx:=FT hf (k:=l.length-1) Om;simp only[go_sem,seval,hf,g0,AX,ej,g1];refine (AZ ?_).1;(repeat with_reducible refine Sa ?_);refine Aa.p (Di (l.getD (l.length-1) CU) Om Om Om) (mp ?_).1
   exact FE b89 [] he
theorem JD (l:List Mk) (hl:fQ l) (hn:l.length≤140737488355328):Ct Tryz.prog 89 [HT l] [] (λ_=>.tup [uA (HP l).1,uA (HP l).2]) [] (λ_=>[]):=(Ub l hl hn).toCt cl cl
def Ix (l:List Mk) (pos:Int):Mk×Bool:=if AR l=true∧Iq (E9 pos) l<l.length then(l.getD (Iq (E9 pos) l) CU,true)else(CU,false)
theorem Ua (l:List Mk) (pos:Int) (hl:fQ l) (hn:l.length≤140737488355328):Ag prog 33 [HT l,uA pos] [] (.tup [fW (Ix l pos).1,bA (Ix l pos).2]) []:=by
 refine RM func33 b33 ?_
 cases hf:AR l
 ·have he:Ix l pos=(CU,false):=by unfold Ix;rw[hf];simp
  refine iM (mq @AX ?_).1;refine Aa.p (Fh l hl hn) (mq hf ?_).1
  (refine FB b33 [] ?_ ?_<;>first|with_reducible rfl|(simp[he,CU];done)|rfl)
 ·have h16:=(Bd.1 hf).2;refine SL (α:=Nat×Nat) 0 (by rfl) (λa=>HT l::uA pos::.any::.any::.ref 0 0::.any::iA a.1::iA a.2::Az (Az [.any,.any])) (λ_=>[.cells [uA 0,iA 0,iA 0]])
   (λa=>a.1≤a.2∧a.2≤l.length∧(∀i,i<a.1->(l.getD i CU).fin≤pos)∧∀i,a.2≤i->i<l.length->pos<(l.getD i CU).pos) (λa=>a.2-a.1) (λpass=>?_) ?_
  ·refine (mq @AX ?_).1;refine Aa.p (Fh l hl hn) (mq hf ?_).1;exact Q4 (Wk.to Si (by simp[B6])) (pass (0,l.length) ⟨Si,Si,by intro i hi;simp at hi,by intro i hi h;simp at hi;omega⟩)
  ·rintro⟨lo,hi⟩ ⟨h1,h2,h3,h4⟩;simp only at h1 h2 h3 h4;refine (mp ?_).1;by_cases he:lo=hi
   ·have q:((lo:Int)==hi)=true:=by simp;omega
    have hnone:Iq (E9 pos) l=l.length:=by
     refine cX λi hil=>?_
     cases hh:E9 pos (l.getD i CU)with
     |false=>rfl
     |true=>
      have:=Kh.1 hh;rcases Nat.lt_or_ge i lo with h5|h5
      ·have:=h3 i h5;omega
      ·have:=h4 i Om hil;omega
    have hfm:Ix l pos=(CU,false):=by unfold Ix;rw[hnone];simp
    refine (mq q ?_).1
    (refine FB b33 [] ?_ ?_<;>first|with_reducible rfl|(simp[hfm,CU];done)|rfl)
   ·have q:((lo:Int)==hi)=false:=by simp;omega
    have e1:IntKind.i64.wrap ((lo:Int)+hi)=lo+hi:=i64_in _ Om;have e2:IntKind.i64.wrap (((lo:Int)+hi).tdiv 2)=(((lo+hi)/2:Nat):Int):=by
     rw[Int.tdiv_eq_ediv_of_nonneg Om,i64_in _ Om];omega
    obtain⟨m,hm⟩:∃m,(lo+hi)/2=m:=⟨_,rfl⟩;rw[hm]at e2;have hml:m<l.length:=Om
    have g:=Hp l m hml;have hx:=FT hf hml;obtain⟨x,hxe⟩:∃x,l.getD m CU=x:=⟨_,rfl⟩;rw[hxe]at g hx;have ei:IntKind.i64.wrap ((m:Int)+1)=((m+1:Nat):Int):=Am m Om;by_cases c1:pos<x.pos
    ·have r1:decide (pos<x.pos)=true:=Sx c1
     simp only[go_sem,seval,q,e1,e2,g,AX,r1];refine (AZ ?_).1;(repeat with_reducible refine Sa ?_);refine⟨(lo,m),⟨by simp only;omega,by simp only;omega,h3,λi hmi hil=>?_⟩,by simp only;omega,Wk.sel [0] Si rfl Si rfl (by simp[AD]) (by simp[Ch,AD,AH])⟩;rcases Nat.lt_or_ge m i with h5|h5
     ·have h6:=J4 hf h5 hil;rw[hxe]at h6;unfold Mk.fin at h6;omega
     ·obtain rfl:i=m:=by simp only at hmi;omega
      rw[hxe];exact c1
    ·have r1:decide (pos<x.pos)=false:=Sx c1
     by_cases c2:x.fin≤pos
     ·have r2:decide (x.fin≤pos)=true:=Sx c2
      simp only[go_sem,seval,q,e1,e2,g,AX,r1];refine (AZ ?_).1;(repeat with_reducible refine Sa ?_);refine Aa.p (Di x Om Om Om) (mr r2 ei ?_).1;refine⟨(m+1,hi),⟨by simp only;omega,h2,λi hmi=>?_,h4⟩,by simp only;omega,Wk.sel [0] Si rfl Si rfl (by simp[AD]) (by simp[Ch,AD,AH])⟩;rcases Nat.lt_or_ge i m with h5|h5
      ·have h6:=J4 hf h5 hml;rw[hxe]at h6;unfold Mk.fin at c2;omega
      ·obtain rfl:i=m:=by simp only at hmi;omega
       rw[hxe];exact c2
     ·have r2:decide (x.fin≤pos)=false:=Sx c2
      have hyes:E9 pos (l.getD m CU)=true:=Kh.2 (by rw[hxe];omega);have hk2:Iq (E9 pos) l=m:=sD hml hyes λi hi=>by
       cases hh:E9 pos (l.getD i CU)with
       |false=>rfl
       |true=>have:=YZ hf Om hml hh hyes;omega
      have hfm:Ix l pos=(x,true):=by unfold Ix;rw[hk2,if_pos ⟨hf,hml⟩,hxe]
      simp only[go_sem,seval,q,e1,e2,g,AX,r1];refine (AZ ?_).1;(repeat with_reducible refine Sa ?_);refine Aa.p (Di x Om Om Om) (mq r2 ?_).1
      exact FE b33 [] hfm
theorem Xi (l:List Mk) (pos:Int) (hl:fQ l) (hn:l.length≤140737488355328):Ct Tryz.prog 33 [HT l,uA pos] [] (λ_=>.tup [fW (Ix l pos).1,bA (Ix l pos).2]) [] (λ_=>[]):=(Ua l pos hl hn).toCt cl cl
def prs (l:List (Int×Int)):List AV:=l.map λp=>.agg [uA p.1,uA p.2]
@[simp] theorem Adx (ρ:Nat->Nat) (l:List (Int×Int)):(prs l).map (λx=>x.ren ρ)=prs l:=by simp[prs,AD]
def mU (l:List Bt) (h:l.length≠0):(Mf l).getD (l.length-1) .any=Fx (BQ l):=Ja l (l.length-1) Om
def X6 {l:List Bt} (h:l.length≠0):BQ l∈l:=by
 have e:BQ l=l[l.length-1]'Om:=by unfold BQ;simp[show l.length-1<l.length by omega]
 rw[e];exact getElem_mem _
def LL (ep:Int) (bs:List Bt) (b:Bt) (hb:Vw b) (hbs:∀x∈bs,Vw x) (hn:bs.length≤1000000):Ct prog 48 [Ot ⟨ep,bs⟩,Fx b] [] (λ_=>bA (GF ep bs b)) [] (λ_=>[]):=by
 refine Ag.toCt ?_ cl cl
 refine RN func48 b48 ?_;refine (mq @Bc ?_).1
 by_cases h1:b.ep≤ep
 ·have c1:decide (ep<b.ep)=false:=by simp;omega
  refine (mq c1 ?_).1;by_cases h0:bs.length=0
  ·have c2:((bs.length:Int)==0)=true:=by simp only[beq_iff_eq];omega
   have e:GF ep bs b=true:=by unfold GF;simp[h1,h0]
   refine (mr @Bc c2 ?_).1
   exact FE b48 [] e
  ·have c2:((bs.length:Int)==0)=false:=by simp only[beq_eq_false_iff_ne,ne_eq];omega
   have hl:=hbs (BQ bs) (X6 h0);have ei:IntKind.i64.wrap ((bs.length:Int)-1)=((bs.length-1:Nat):Int):=by rw[i64_in _ Om];omega
   have g:=mU bs h0;have e:GF ep bs b=(decide ((BQ bs).ep≤b.ep)&&decide ((BQ bs).base+(BQ bs).en.length≤b.base)):=by unfold GF;simp[h1,h0]
   have hbb:=hl.ok.b0;have hss:=hl.sum;have hle:=hl.len;simp only[go_sem,seval,Bc,c2,ei,Int.toNat_natCast,g,K2];refine (AZ ?_).1;refine⟨Om,Om,?_⟩;by_cases hep:(BQ bs).ep≤b.ep
   ·have c3:decide ((BQ bs).ep≤b.ep)=true:=Sx hep
    rw[c3]at e;simp only[go_sem,seval,c3,ei,Bc,Int.toNat_natCast,g,K2];refine (AZ ?_).1;refine⟨Om,Om,?_⟩;refine Cp (K7 (BQ bs) Om hbb Om) ?_
    exact FE b48 [] e
   ·have c3:decide ((BQ bs).ep≤b.ep)=false:=Sx hep
    rw[c3]at e;simp only[go_sem,seval,c3];refine (AZ ?_).1
    exact FE b48 [] e
 ·have c1:decide (ep<b.ep)=true:=by simp;omega
  have e:GF ep bs b=false:=by unfold GF;rw[decide_eq_false h1];rfl
  refine (mq c1 ?_).1
  exact FE b48 [] e
def ME (ep:Int) (l:List Mk) (a n:Int) (hl:fQ l) (hn:l.length≤1000000):Ct prog 53 [uA ep,HT l,iA a,iA n] [] (λ_=>oM (Iu ep l a n)) [] (λ_=>[]):=by
 refine Ag.toCt ?_ cl cl
 refine RN func53 b53 ?_;refine (mq @AX ?_).1
 refine Cp (GE l hl Om) ?_;refine Cp (JD l hl Om) ?_
 exact FK b53 [] (by simp[Iu,Ez,HP])
theorem YO (l:List Mk) (m:Mk):HY (l++[m])=HY l++[fW m]:=by simp[HY]
def QU {s:RS} (h:An s):An s.marks.1∧s.marks.1.l=s.l:=EL F0 h 16
def Up (b:List Int) (hb:A7 b) (hn:b.length≤100000000):Ct prog 62 [Bj .u8 b] [] (λ_=>.tup [oM (A0 b).1,iA (A0 b).2.1,Fk (A0 b).2.2]) [] (λ_=>[]):=by
 refine Ag.toCt ?_ cl cl
 have hsz:=λh=>MC hb h
 obtain⟨S,hS⟩:∃S,D0 b=S:=⟨_,rfl⟩
 have e:A0 b=if S.2.1=0 then NH b (b.length-12-S.1.toNat) (b.length-12)else(JG,0,S.2):=by unfold A0;rw[hS]
 rw[hS]at hsz
 by_cases hs:S.2.1=0
 ·have q:(S.2.1==0)=true:=by simpa using hs
  rw[if_pos hs]at e
  obtain⟨z1,z2,z3,z4,_⟩:=hsz hs
  obtain⟨m,hm⟩:∃m:Nat,b.length=m+12:=⟨b.length-12,by omega⟩
  obtain⟨x,hx⟩:∃x:Nat,S.1=(x:Int):=⟨S.1.toNat,by omega⟩
  rw[hx,Int.toNat_natCast]at e
  obtain⟨a,ha⟩:∃a:Nat,m=a+x:=⟨m-x,by omega⟩
  have ha':m-x=a:=by omega
  have hm2:b.length-12=m:=by omega
  obtain⟨seg,hseg⟩:∃seg,(b.take m).drop a=seg:=⟨_,rfl⟩
  have lseg:seg.length=x:=by rw[←hseg,List.length_drop,List.length_take];omega
  have bseg:A7 seg:=λy hy=>hb y (by rw[←hseg]at hy;exact List.mem_of_mem_take (List.mem_of_mem_drop hy))
  have kseg:An (RS.new seg):=An.new bseg (by omega)
  have hfa:=(Fa.new seg).frame kseg 2097152
  have hkp:=E0 kseg 2097152
  have hfi:=λhc=>NB kseg (m:=2097152) hc
  have hgf:BI seg 2097152=if((RS.new seg).frame 2097152).1.code=0 then(((RS.new seg).frame 2097152).2,((RS.new seg).frame 2097152).1.at_,(0,0))else([],0,(((RS.new seg).frame 2097152).1.code,((RS.new seg).frame 2097152).1.fat)):=rfl
  have e0:(RS.new seg).l.take (RS.new seg).at_.toNat=[]:=by simp[RS.new]
  have e1:(RS.new seg).l=seg:=rfl
  unfold NH at e
  rw[hm2,ha',hseg]at e
  obtain⟨F,hF⟩:∃F,(RS.new seg).frame 2097152=F:=⟨_,rfl⟩
  rw[hF]at hfa hkp hgf hfi
  rw[hF]at e
  rw[e0,e1,List.nil_append]at hfi
  rw[e1]at hkp
  have hfl:F.1.l.length=x:=by rw[hkp.2];exact lseg
  have hat0:=hkp.1.at0
  have hat1:=hkp.1.at1
  have hfa1:=hfa.1
  have hfa2:=hfa.2
  have hpl:F.1.code=0->A7 F.2∧(F.2.length:Int)+5≤F.1.at_:=λhc=>by
   obtain⟨_,_,i3,_,i5⟩:=hfi hc
   have h1:=congrArg List.length i5
   rw[List.length_take]at h1
   have h2:=Bb F.2
   exact⟨i3,by omega⟩
  have w1:IntKind.i64.wrap ((b.length:Int)-12)=(m:Int):=by rw[IntWalk.i64_in _ (by omega)];omega
  have w2:IntKind.i64.wrap ((m:Int)-(x:Int))=(a:Int):=by rw[IntWalk.i64_in _ (by omega)];omega
  have hsl:AU .u8 ((b.drop (a:Int).toNat).take ((m:Int)-(a:Int)).toNat)=AU .u8 seg:=by
   rw[←hseg,List.drop_take,Int.toNat_natCast,show((m:Int)-(a:Int)).toNat=m-a by omega]
  have w3:IntKind.i64.wrap ((a:Int)+F.1.at_)=(a:Int)+F.1.at_:=IntWalk.i64_in _ (by omega)
  have w4:IntKind.i64.wrap (F.1.fat+(a:Int))=F.1.fat+a:=IntWalk.i64_in _ (by omega)
  refine RM Tryz.func62 x7 ?_
  refine Aa.p (Lt b hb (by omega)) ?_;simp only[go_sem,seval,hS,hx];refine (AZ ?_).1
  refine Aa.p (Ap S.2.1 S.2.2) ?_;simp only[go_sem,seval,q];refine (AZ ?_).1
  refine Aa.p (EA) ?_;simp only[go_sem,seval,Ab,w1,w2,Ep,Dh,hsl];refine (AZ ?_).1
  (repeat((with_reducible refine And.intro ?_ ?_);(·exact sd)))
  by_cases hc:F.1.code=0
  ·rw[if_pos hc]at hgf
   rw[if_pos hc]at e
   obtain⟨p1,p2⟩:=hpl hc
   have hrf:=Ju p1 (by omega)
   obtain⟨R,hR⟩:∃R,BX F.2=R:=⟨_,rfl⟩
   rw[hR]at hrf
   rw[hR]at e
   have w5:IntKind.i64.wrap ((a:Int)+F.1.at_-4)=(a:Int)+F.1.at_-4:=IntWalk.i64_in _ (by omega)
   have w6:IntKind.i64.wrap ((a:Int)+F.1.at_-4-(F.2.length:Int))=(a:Int)+F.1.at_-4-(F.2.length:Int):=IntWalk.i64_in _ (by omega)
   have w7:IntKind.i64.wrap (R.2.2+((a:Int)+F.1.at_-4-(F.2.length:Int)))=R.2.2+((a:Int)+F.1.at_-4-(F.2.length:Int)):=IntWalk.i64_in _ (by omega)
   refine Aa.p (GY seg 2097152 bseg (by omega) (by decide)) ?_;simp only[go_sem,seval,hgf];refine (AZ ?_).1
   refine Aa.p (Ap 0 0) ?_;simp only[go_sem,seval,beq_self_eq_true];refine (AZ ?_).1
   by_cases hlt:F.1.at_<(x:Int)
   ·have q2:decide (F.1.at_<(x:Int))=true:=decide_eq_true hlt
    rw[if_pos (by omega)]at e
    simp only[go_sem,seval,q2,w3];refine (AZ ?_).1
    refine Aa.p (BJ 9 ((a:Int)+F.1.at_)) (mp ?_).1
    (refine FB x7 [] ?_ ?_<;>first|with_reducible rfl|(simp[B8,D1,D4,Ci,e,JG,Cd];done)|rfl)
   ·have q2:decide (F.1.at_<(x:Int))=false:=decide_eq_false hlt
    rw[if_neg (by omega)]at e
    simp only[go_sem,seval,q2];refine (AZ ?_).1
    refine Aa.p (F5 F.2 p1 (by omega)) ?_;simp only[go_sem,seval,hR];refine (AZ ?_).1
    refine Aa.p (Ap R.2.1 R.2.2) ?_
    by_cases hz:R.2.1=0
    ·have q3:(R.2.1==0)=true:=by simpa using hz
     rw[if_pos hz]at e
     simp only[go_sem,seval,q3];refine (AZ ?_).1
     exact FE x7 [] e
    ·have q3:(R.2.1==0)=false:=by simpa using hz
     rw[if_neg hz]at e
     simp only[go_sem,seval,q3,Ab,w3,w5,w6];refine (AZ ?_).1
     refine Aa.p (Be R.2.1 R.2.2 _ _ w7) (mp ?_).1
     (refine FB x7 [] ?_ ?_<;>first|with_reducible rfl|(simp[B8,D1,D4,Ci,e,JG,Cd,hz];done)|rfl)
  ·rw[if_neg hc]at hgf
   rw[if_neg hc]at e
   have q2:(F.1.code==0)=false:=by simpa using hc
   refine Aa.p (GY seg 2097152 bseg (by omega) (by decide)) ?_;simp only[go_sem,seval,hgf];refine (AZ ?_).1
   refine Aa.p (Ap F.1.code F.1.fat) ?_;simp only[go_sem,seval,q2];refine (AZ ?_).1
   refine Aa.p (Be F.1.code F.1.fat a _ w4) (mp ?_).1
   (refine FB x7 [] ?_ ?_<;>first|with_reducible rfl|(simp[B8,D1,D4,Ci,e,JG,Cd,hc];done)|rfl)
 ·have q:(S.2.1==0)=false:=by simpa using hs
  rw[if_neg hs]at e
  refine RM Tryz.func62 x7 ?_
  refine Aa.p (Lt b hb (by omega)) ?_;simp only[go_sem,seval,hS];refine (AZ ?_).1
  refine Aa.p (Ap S.2.1 S.2.2) ?_;simp only[go_sem,seval,q];refine (AZ ?_).1
  (refine FB x7 [] ?_ ?_<;>first|with_reducible rfl|(simp[B8,D1,D4,Ci,e,JG];done)|rfl)
theorem NZ (f g:Ft):(f.ep==g.ep&&(f.bat==g.bat&&(f.ent==g.ent&&(f.fst==g.fst&&(f.fin==g.fin&&(f.at_==g.at_&&(f.size==g.size&&true)))))))=decide (f=g):=by
 rw[Bool.eq_iff_iff];simp only[Bool.and_eq_true,beq_iff_eq,and_true,decide_eq_true_eq];constructor
 ·rintro⟨h1,h2,h3,h4,h5,h6,h7⟩;cases f;cases g;simp_all
 ·rintro rfl;simp
theorem U6 (f g:Ft):(f.ep==g.ep&&(f.bat==g.bat&&(f.ent==g.ent&&(f.fst==g.fst&&(f.fin==g.fin&&(f.at_==g.at_&&f.size==g.size))))))=decide (f=g):=by
 rw[←NZ,Bool.and_true]
theorem AS.rowObj {G:Gh} {T:List Ac} {w:World} {i j k n k':Nat} {ys:List AV} (h:Wd G T w) (hi:T[i]? =some (.cells ys)) (hj:ys[j]? =some (.sl .full k' [])) (hd:T[n]? =some .dead) (h1:1≤k):
 ∃G',AS G T w G' ((T.set n (.row k 0)).set i (.cells (ys.set j (.sl (.row n) k [])))) w:=by
 have hne:n≠i:=by rintro rfl;rw[hi]at hd;simp at hd
 have hjl:=(Ge hj);have⟨b,cs,t,g1,g2,g3,g4,_⟩:=h.obj i ys hi;have hv:=Array.getElem?_eq_getElem (show j<cs.size by omega);have r:=(g4 j _ _ hj hv).2;have r':Bg G (.sl .full k []) cs[j]:=r.rek;generalize hcj:cs[j]=v at*;cases r' with
 | @sl _ _ _ A c b' o vs q1 q2 q3 q4 q5 q6 q7=>
   have hc:c=0:=q7;subst hc;have⟨hl,hh⟩:=AS.rowFull (id:=n) (k:=k) (n:=0) (A:=A) h hd h1;have hi':(T.set n (.row k 0))[i]? =some (.cells ys):=by rw[getElem?_set_ne hne];exact hi
   have⟨b2,cs2,t2,p1,p2,p3,p4,_⟩:=hl.wd.obj i ys hi';have hb2:b2=b:=by
    have:=hl.le.loc i b (by simpa using g1);rw[p1]at this;injection this
   subst hb2;rw[p2]at g2;injection g2 with g2;injection g2 with e1 e1t;subst e1 e1t;refine⟨_,hl.trans (AS.turn (xs':=ys.set j (.sl (.row n) k [])) hl.wd hi' p1 (⟨rfl,rfl,rfl,rfl,λ_ _=>rfl,p2⟩:KA w w b2 (.cells cs2 t2 (0,0))) (by rw[length_set];omega) λq x u hx hu=>?_)⟩;by_cases eq:q=j
   ·subst eq;simp[hjl]at hx;subst hx;rw[hv]at hu;injection hu with hu;refine⟨?_,?_⟩
    ·rw[←hu];rfl
    ·rw[←hu];exact((Bg.sl vs q1 q2 q3 q4 q5 q6 q7:Bg G (.sl .full k []) _).mono hl.le).retag hh
   ·rw[getElem?_set_ne (Ne.symm eq)]at hx;exact p4 q x u hx hu
theorem Ag.rowObj {P:Program} {f:FuncId} {args:List AV} {T S':List Ac} {r:AV} {i j n k':Nat} (k:Nat) {ys:List AV} (hi:T[i]? =some (.cells ys)) (hj:ys[j]? =some (.sl .full k' [])) (hd:T[n]? =some .dead) (h1:1≤k)
 (h:Ag P f args ((T.set n (.row k 0)).set i (.cells (ys.set j (.sl (.row n) k [])))) r S'):Ag P f args T r S':=by
 refine⟨h.1,λG w vs hw hv=>?_⟩;have⟨G',hl⟩:=AS.rowObj hw hi hj hd h1;refine(h.2 G' w vs hl.wd (hv.mono hl.le)).mono ?_;rintro e w' ⟨v,G'',rfl,hr,hs⟩;exact⟨v,G'',rfl,hr,hl.trans hs⟩
theorem JT (u:List (Nat×Ac)) (k:Nat) (x:Ac) (hk:k∈u.map (·.1)) (T:List Ac):Cv (T.set k x) u=Cv T u:=by
 induction u generalizing T with
 |nil=>simp at hk
 |cons p u ih=>
  rw[CF,CF];by_cases e:p.1=k
  ·subst e;rw[set_set]
  ·have hk':k∈u.map (·.1):=by
    simp only[map_cons,mem_cons]at hk;rcases hk with h|h
    ·exact absurd h.symm e
    ·exact h
   rw[set_comm _ _ (Ne.symm e),ih hk']
def DV (k:Int) (p:List Int):RS:=if(RS.new p).byte.2=k then(RS.new p).byte.1 else(RS.new p).byte.1.fail 7 0
def BN {α:Type} (R:RS->RS×α) (z:α) (k:Int) (s:List Int):α×Int×(Int×Int):=
 if(BI s 2097152).2.2.1=0 then
  (if(R (DV k (BI s 2097152).1)).1.rest9.code=0 then((R (DV k (BI s 2097152).1)).2,(BI s 2097152).2.1,(0,0))
   else(z,0,((R (DV k (BI s 2097152).1)).1.rest9.code,(R (DV k (BI s 2097152).1)).1.rest9.fat+((BI s 2097152).2.1-4-(BI s 2097152).1.length))))
 else(z,0,(BI s 2097152).2.2)
def Gg (f:Ft) (l:List Mk):Bool:=decide (f.bat=l.length)&&(decide (f.ent=if AR l=true then DX l l.length else 0)&&(decide (f.fst=(Ez l).1)&&decide (f.fin=(Ez l).2)))
abbrev LO (s:List Int) (a e:Int):List Int:=(s.drop a.toNat).take (e-a).toNat
abbrev JE (s:List Int) (f:Ft):List Mk×Int×(Int×Int):=BN RS.marks [] 2 (LO s f.at_ (f.at_+f.size))
def KX (s:List Int) (f:Ft):Int×Int:=if(JE s f).2.2.1=0 then(if(JE s f).2.1<f.size then(9,(JE s f).2.1)else if Gg f (JE s f).1=false then(12,0)else(0,0))else(JE s f).2.2
def Im (s:List Int):(Ft×Int×List Mk)×(Int×Int):=
 if(A0 s).2.2.1=0 then
  (if(A0 s).2.1<(A0 s).1.at_+(A0 s).1.size then((JG,0,[]),(3,(A0 s).2.1))
   else if(KX s (A0 s).1).1=0 then(((A0 s).1,(A0 s).2.1,(JE s (A0 s).1).1),(0,0))
   else((JG,0,[]),((KX s (A0 s).1).1,(KX s (A0 s).1).2+(A0 s).1.at_)))
 else((JG,0,[]),(A0 s).2.2)
abbrev LX (s:List Int) (m:Mk) (e:Int):Bt×Int×(Int×Int):=BN (λq=>q.btch RS.blk) Cj 1 (LO s m.at_ e)
def X4 (s:List Int) (m:Mk) (e:Int):Int×Int:=if(LX s m e).2.2.1=0 then(if(LX s m e).1.base=m.pos∧((LX s m e).1.en.length:Int)=m.cnt then(0,0)else(12,0))else(LX s m e).2.2
def JO (s:List Int) (m:Mk) (e:Int):Bt×(Int×Int):=
 if e≤m.at_ then(Cj,(3,m.at_))else((LX s m e).1,Cd (X4 s m e).1 ((X4 s m e).2+m.at_))
def atP (b:Bt) (pos:Int):En×Bool:=if b.base≤pos∧pos<b.base+b.en.length then(b.en.getD (pos-b.base).toNat B3,true)else(B3,false)
def Fz (l:List Mk) (pos:Int):Mk×Bool:=if AR l=true∧Iq (E9 pos) l<l.length then(l.getD (Iq (E9 pos) l) CU,true)else(CU,false)
def HO (s:List Int) (pos:Int):En×(Int×Int):=
 if(Im s).2.1=0 then
  (if(Fz (Im s).1.2.2 pos).2=false then(B3,(16,0))
   else if(JO s (Fz (Im s).1.2.2 pos).1 (Im s).1.1.at_).2.1=0 then((atP (JO s (Fz (Im s).1.2.2 pos).1 (Im s).1.1.at_).1 pos).1,(0,0))
   else(B3,(JO s (Fz (Im s).1.2.2 pos).1 (Im s).1.1.at_).2))
 else(B3,(Im s).2)
def W4 {p:List Int} (k:Int) (hp:A7 p) (hn:p.length≤1000000):An (DV k p)∧(DV k p).l=p∧Fa (DV k p):=by
 have hok:An (RS.new p):=An.new hp Om;have⟨q1,q2⟩:=RS.ok.byte_ hok;have qf:=(Fa.new p).byte hok;unfold DV;split
 ·exact⟨q1,q2,qf⟩
 ·exact⟨q1.fail _ _,by rw[Bx];exact q2,qf.fail (Int.le_refl _) Om⟩
def Lz {α:Type} {R:RS->RS×α} {z:α} {k:Int} {s:List Int} (hb:A7 s) (hn:s.length≤1000000) (keep:∀q,An q->An (R q).1∧(R q).1.l=q.l) (fa:∀q,An q->Fa q->Fa (R q).1) (A:α->Prop) (hz:A z) (hR:∀q,An q->q.l.length≤1000000->A (R q).2):
 A (BN R z k s).1∧0≤(BN R z k s).2.1∧(BN R z k s).2.1≤s.length∧0≤(BN R z k s).2.2.2∧(BN R z k s).2.2.2≤3000000∧((BN R z k s).2.2.1=0->(BN R z k s).2.2=(0,0)):=by
 have hok:An (RS.new s):=An.new hb Om;have hff:=(Fa.new s).frame hok 2097152;have hfl:=(E0 hok 2097152).2;unfold Fa at hff;rw[hfl]at hff;have hnl:(RS.new s).l.length=s.length:=rfl;have hgi:=λh=>Ki (b:=s) (m:=2097152) hb Om h
 have hgb:¬(BI s 2097152).2.2.1=0->(BI s 2097152).2.2.2=((RS.new s).frame 2097152).1.fat:=λh=>by
  unfold BI at h ⊢;split
  ·rename_i h';rw[if_pos h']at h;exact absurd rfl h
  ·rfl
 unfold BN;split
 ·rename_i h;have⟨a1,a2,a3,a4,a5,a6⟩:=hgi h;have hlen:=congrArg List.length a6;have hfl:=Bb (BI s 2097152).1;rw[length_take]at hlen;have hgl:(BI s 2097152).1.length≤1000000:=Om
  have⟨k1,k2,k3⟩:=W4 k a2 hgl;have⟨d1,d2⟩:=keep _ k1;have df:=(fa _ k1 k3).rest9 d1;have⟨r1,r2⟩:=Eg d1;unfold Fa at df;rw[r2,d2,k2]at df;split
  ·exact⟨hR _ k1 (by rw[k2];exact hgl),a4,a5,Int.le_refl _,Si,λ_=>rfl⟩
  ·rename_i h2;exact⟨hz,Int.le_refl _,by simp only[];omega,by simp only[];omega,by simp only[];omega,λh=>absurd h h2⟩
 ·rename_i h;have:=hgb h;exact⟨hz,Int.le_refl _,by simp only[];omega,by simp only[];omega,by simp only[];omega,λh'=>absurd h' h⟩
def Z9 {l:List Mk}:∀{p a:Int},DL p a l=true->∀m∈l,p≤m.pos∧1≤m.cnt∧m.cnt≤16∧m.pos+m.cnt≤4611686018427387904∧a<m.at_∧m.at_≤1099511627775:=by
 induction l with
 |nil=>intro p a _ m hm;simp at hm
 |cons x l ih=>
  intro p a h m hm;simp only[DL,Bool.and_eq_true,decide_eq_true_eq]at h;have⟨⟨f1,f2,f3,f4,f5,f6⟩,hr⟩:=h;rcases mem_cons.1 hm with rfl|hm
  ·exact⟨f3,f1,f2,f4,f5,f6⟩
  ·have:=ih hr m hm;have hf:x.fin=x.pos+x.cnt:=rfl;omega
def Pr {l:List Mk} (h:AR l=true) {m:Mk} (hm:m∈l):0≤m.pos∧1≤m.cnt∧m.cnt≤16∧m.pos+m.cnt≤4611686018427387904∧1≤m.at_∧m.at_≤1099511627775:=by
 unfold AR at h;rw[Bool.and_eq_true]at h;have:=Z9 h.1 m hm;omega
def FM {l:List Mk} (h:AR l=true):∀m∈l,m.ok:=λm hm=>by
 have:=Pr h hm;unfold Mk.ok;omega
def Lj {q:RS} (h:An q):AR q.marks.2=true:=by
 by_cases hc:q.marks.1.code=0
 ·have⟨h1,h2,_⟩:=JN F0 (m:=16) h hc;exact Bd.2 ⟨h1,by have:((D3.counted 16 q).2.length:Int)≤16:=h2;show(D3.counted 16 q).2.length≤16;omega⟩
 ·have:q.marks.2=[]:=U1 16 hc;rw[this];rfl
def Nv {s:List Int} (hb:A7 s) (hn:s.length≤1000000):AR (BN RS.marks [] 2 s).1=true∧0≤(BN RS.marks [] 2 s).2.1∧(BN RS.marks [] 2 s).2.1≤s.length∧0≤(BN RS.marks [] 2 s).2.2.2∧(BN RS.marks [] 2 s).2.2.2≤3000000∧((BN RS.marks [] 2 s).2.2.1=0->(BN RS.marks [] 2 s).2.2=(0,0)):=
 Lz hb hn (λq h=>EL F0 h 16) (λq h hf=>hf.marks h) (λl=>AR l=true) rfl λq h _=>Lj h
def u6:Vw Cj:=⟨⟨De,De,De,De,λe h=>by simp[Cj]at h⟩,De,De,λe h=>by simp[Cj]at h⟩
def N8 {s:List Int} (hb:A7 s) (hn:s.length≤1000000):Vw (BN (λq=>q.btch RS.blk) Cj 1 s).1∧0≤(BN (λq=>q.btch RS.blk) Cj 1 s).2.1∧(BN (λq=>q.btch RS.blk) Cj 1 s).2.1≤s.length∧0≤(BN (λq=>q.btch RS.blk) Cj 1 s).2.2.2∧(BN (λq=>q.btch RS.blk) Cj 1 s).2.2.2≤3000000∧((BN (λq=>q.btch RS.blk) Cj 1 s).2.2.1=0->(BN (λq=>q.btch RS.blk) Cj 1 s).2.2=(0,0)):=
 Lz hb hn (λq h=>Hc h λs h=>Df h) (λq h hf=>hf.btch h (λs h=>Df h) (λs h hf=>hf.blk h)) Vw u6 λq h _=>(X5 h K5).1
def L6 {s:List Int} (hb:A7 s) (a e:Int):A7 (LO s a e):=λx hx=>hb x (mem_of_mem_drop (mem_of_mem_take hx))
def L5 (s:List Int) (a e:Int):(LO s a e).length≤s.length:=by
 show((s.drop a.toNat).take (e-a).toNat).length≤_;rw[length_take,length_drop];omega
theorem PH {s:List Int} (hb:A7 s) (hn:s.length≤1000000) (hc:(Im s).2.1=0):(A0 s).2.2.1=0∧¬(A0 s).2.1<(A0 s).1.at_+(A0 s).1.size∧(KX s (A0 s).1).1=0∧Im s=(((A0 s).1,(A0 s).2.1,(JE s (A0 s).1).1),(0,0)):=by
 unfold Im at hc ⊢;by_cases h1:(A0 s).2.2.1=0
 ·rw[if_pos h1]at hc ⊢;by_cases h2:(A0 s).2.1<(A0 s).1.at_+(A0 s).1.size
  ·rw[if_pos h2]at hc;exact absurd hc Si
  ·rw[if_neg h2]at hc ⊢;by_cases h3:(KX s (A0 s).1).1=0
   ·rw[if_pos h3]at hc ⊢;exact⟨h1,h2,h3,rfl⟩
   ·rw[if_neg h3]at hc;exact absurd hc h3
 ·rw[if_neg h1]at hc;exact absurd hc h1
def bT {s:List Int} (hb:A7 s) (hn:s.length≤1000000):AR (Im s).1.2.2=true:=by
 by_cases hc:(Im s).2.1=0
 ·rw[(PH hb hn hc).2.2.2];exact(Nv (L6 hb _ _) (by have:=L5 s (A0 s).1.at_ ((A0 s).1.at_+(A0 s).1.size);omega)).1
 ·unfold Im at hc ⊢;by_cases h1:(A0 s).2.2.1=0
  ·rw[if_pos h1]at hc ⊢;by_cases h2:(A0 s).2.1<(A0 s).1.at_+(A0 s).1.size
   ·rw[if_pos h2];rfl
   ·rw[if_neg h2]at hc ⊢;by_cases h3:(KX s (A0 s).1).1=0
    ·rw[if_pos h3]at hc;exact absurd rfl hc
    ·rw[if_neg h3];rfl
  ·rw[if_neg h1];rfl
def lK {l:List Mk} {pos:Int} (h:(Fz l pos).2=true):AR l=true∧(Fz l pos).1∈l∧E9 pos (Fz l pos).1=true:=by
 unfold Fz at h ⊢;by_cases h1:AR l=true∧Iq (E9 pos) l<l.length
 ·rw[if_pos h1]at h ⊢;have h2:=h1.2;have h3:l.getD (Iq (E9 pos) l) CU=l[Iq (E9 pos) l]:=by simp[h2]
  refine⟨h1.1,?_,?_⟩
  ·show l.getD (Iq (E9 pos) l) CU∈l;rw[h3];exact getElem_mem _
  ·show E9 pos (l.getD (Iq (E9 pos) l) CU)=true;rw[h3];exact findIdx_getElem (w:=h2)
 ·rw[if_neg h1]at h;exact absurd h Si
def Yd {s:List Int} (hb:A7 s) (hn:s.length≤1000000) (m:Mk) (x:Int):Vw (JO s m x).1:=by
 unfold JO;split
 ·exact u6
 ·exact(N8 (L6 hb _ _) (by have:=L5 s m.at_ x;omega)).1
def OX (s:List Int) (hb:A7 s) (hn:s.length≤1000000):Ct prog 63 [Bj .u8 s,Yr 2,.fn 64 [] []] [] (λ_=>.tup [HT (BN RS.marks [] 2 s).1,iA (BN RS.marks [] 2 s).2.1,Fk (BN RS.marks [] 2 s).2.2]) [] (λ_=>[]):=by
 refine Ag.toCt ?_ cl cl
 have hgi:=λh=>Ki (b:=s) (m:=2097152) hb Om h
 have⟨g,hg⟩:=Ex (BI s 2097152);have e:BN RS.marks [] 2 s=if g.2.2.1=0 then
  (if((RS.marks) (DV 2 g.1)).1.rest9.code=0 then(((RS.marks) (DV 2 g.1)).2,g.2.1,(0,0))
   else([],0,(((RS.marks) (DV 2 g.1)).1.rest9.code,((RS.marks) (DV 2 g.1)).1.rest9.fat+(g.2.1-4-g.1.length))))
  else([],0,g.2.2):=by unfold BN;rw[hg]
 have⟨C,hC⟩:=Ex (BN RS.marks [] 2 s);rw[hC]at e ⊢;rw[hg]at hgi;refine RM func63 b63 ?_
 refine Aa.p (GY s 2097152 hb Om Om) (mq hg ?_).1;refine Cp (Ap g.2.2.1 g.2.2.2) ?_;by_cases hz:g.2.2.1=0
 ·have c1:(g.2.2.1==0)=true:=Sx hz
  rw[if_pos hz]at e;have⟨a1,a2,a3,a4,a5,a6⟩:=hgi hz;have hlen:=congrArg List.length a6;have hfl:=Bb g.1;rw[length_take]at hlen;have hgl:g.1.length≤1000000:=Om
  have hnl:(g.1.length:Int)+5≤g.2.1:=Om
  have hok:An (RS.new g.1):=An.new a2 Om;have⟨q1,q2⟩:=RS.ok.byte_ hok;have qf:=(Fa.new g.1).byte hok;have w1:IntKind.i64.wrap (g.2.1-4)=g.2.1-4:=i64_in _ Om;have w2:IntKind.i64.wrap (g.2.1-4-g.1.length)=g.2.1-4-g.1.length:=i64_in _ Om;have ek:DV 2 g.1=if(RS.new g.1).byte.2=2 then(RS.new g.1).byte.1 else(RS.new g.1).byte.1.fail 7 0:=rfl
  have⟨q,hq⟩:=Ex ((RS.new g.1).byte.1);have⟨y,hy⟩:=Ex ((RS.new g.1).byte.2);rw[hq,hy]at ek;rw[hq]at q1 q2 qf;have⟨K,hK⟩:=Ex (DV 2 g.1);rw[hK]at e ek;have hnew:(RS.new g.1).l.length≤1000000:=hgl;have K1:An K∧K.l.length≤1000000∧Fa K:=by
   rw[ek];split
   ·exact⟨q1,by rw[q2];exact hnew,qf⟩
   ·exact⟨q1.fail _ _,by rw[Bx,q2];exact hnew,qf.fail (Int.le_refl _) Om⟩
  have⟨k1,k2⟩:=QU K1.1;have hfa:=(K1.2.2.marks K1.1).rest9 k1;have⟨r1,r2⟩:=Eg k1;have hct:=Nt K 2 K1.1 (by have:=K1.2.1;omega);unfold Fa at hfa;rw[r2,k2]at hfa;have⟨D,hD⟩:=Ex ((RS.marks) K)
  try simp only[]at hD e
  rw[hD]at hct k1 hfa e;have w3:IntKind.i64.wrap (D.1.rest9.fat+(g.2.1-4-g.1.length))=D.1.rest9.fat+(g.2.1-4-g.1.length):=i64_in _ (by have:=K1.2.1;omega);refine (mq c1 ?_).1;refine Aa.n (C9 g.1) (mp ?_).1;refine Aa.u1 (C1 (RS.new g.1) 2 hok.ok) rfl (mr hq hy ?_).1;by_cases hyk:y=2
  ·rw[if_pos hyk]at ek;have c2:(y != 2)=false:=Sx hyk
   subst ek;refine (mq c2 ?_).1;refine Cu (hct) rfl ?_;refine Cu (CM D.1 2 k1) rfl ?_;refine Aa.r1 (Bp D.1.rest9 2) rfl (ms @Ab w1 w2 ?_).1;refine Cp (Be D.1.rest9.code D.1.rest9.fat (g.2.1-4-g.1.length) _ w3) ?_;by_cases hr:D.1.rest9.code=0
   ·rw[if_pos hr]at e;have c3:Cd D.1.rest9.code (D.1.rest9.fat+(g.2.1-4-g.1.length))=(0,0):=by unfold Cd;rw[if_pos hr]
    simp only[go_sem,seval,c3];refine (AZ ?_).1;refine Cp (Ap 0 0) ?_
    exact FE b63 [] e
   ·rw[if_neg hr]at e;have c3:Cd D.1.rest9.code (D.1.rest9.fat+(g.2.1-4-g.1.length))=(D.1.rest9.code,D.1.rest9.fat+(g.2.1-4-g.1.length)):=by unfold Cd;rw[if_neg hr]
    have c4:(D.1.rest9.code==0)=false:=Sx hr
    simp only[go_sem,seval,c3];refine (AZ ?_).1;refine Aa.p (Ap D.1.rest9.code _) ?_;simp only[go_sem,seval,c4];refine (AZ ?_).1;(refine A2.nilk 6 3 rfl ?_;simp only[set_cons_zero,set_cons_succ]);refine UT 6 ?_
    exact FK b63 [] (by simp[e,HY])
  ·rw[if_neg hyk]at ek;have c2:(y != 2)=true:=Sx hyk
   refine (mq c2 ?_).1;refine Aa.u1 (Ar q 7 0 2) rfl ?_;simp only[go_sem,seval,←ek];refine (AZ ?_).1;refine Cu (hct) rfl ?_;refine Cu (CM D.1 2 k1) rfl ?_;refine Aa.r1 (Bp D.1.rest9 2) rfl (ms @Ab w1 w2 ?_).1;refine Cp (Be D.1.rest9.code D.1.rest9.fat (g.2.1-4-g.1.length) _ w3) ?_;by_cases hr:D.1.rest9.code=0
   ·rw[if_pos hr]at e;have c3:Cd D.1.rest9.code (D.1.rest9.fat+(g.2.1-4-g.1.length))=(0,0):=by unfold Cd;rw[if_pos hr]
    simp only[go_sem,seval,c3];refine (AZ ?_).1;refine Cp (Ap 0 0) ?_
    exact FE b63 [] e
   ·rw[if_neg hr]at e;have c3:Cd D.1.rest9.code (D.1.rest9.fat+(g.2.1-4-g.1.length))=(D.1.rest9.code,D.1.rest9.fat+(g.2.1-4-g.1.length)):=by unfold Cd;rw[if_neg hr]
    have c4:(D.1.rest9.code==0)=false:=Sx hr
    simp only[go_sem,seval,c3];refine (AZ ?_).1;refine Aa.p (Ap D.1.rest9.code _) ?_;simp only[go_sem,seval,c4];refine (AZ ?_).1;(refine A2.nilk 6 3 rfl ?_;simp only[set_cons_zero,set_cons_succ]);refine UT 6 ?_
    exact FK b63 [] (by simp[e,HY])
 ·have c1:(g.2.2.1==0)=false:=Sx hz
  rw[if_neg hz]at e;refine (mq c1 ?_).1;(refine A2.nilk 6 3 rfl ?_;simp only[set_cons_zero,set_cons_succ]);refine UT 6 ?_
  exact FK b63 [] (by simp[e,HY])
def OY (s:List Int) (hb:A7 s) (hn:s.length≤1000000):Ct prog 68 [Bj .u8 s,Yr 1,.fn 69 [] []] [] (λ_=>.tup [Fx (BN (λq:RS=>q.btch RS.blk) Cj 1 s).1,iA (BN (λq:RS=>q.btch RS.blk) Cj 1 s).2.1,Fk (BN (λq:RS=>q.btch RS.blk) Cj 1 s).2.2]) [] (λ_=>[]):=by
 refine Ag.toCt ?_ cl cl
 have hgi:=λh=>Ki (b:=s) (m:=2097152) hb Om h
 have⟨g,hg⟩:=Ex (BI s 2097152);have e:BN (λq:RS=>q.btch RS.blk) Cj 1 s=if g.2.2.1=0 then
  (if(((λq:RS=>q.btch RS.blk)) (DV 1 g.1)).1.rest9.code=0 then((((λq:RS=>q.btch RS.blk)) (DV 1 g.1)).2,g.2.1,(0,0))
   else(Cj,0,((((λq:RS=>q.btch RS.blk)) (DV 1 g.1)).1.rest9.code,(((λq:RS=>q.btch RS.blk)) (DV 1 g.1)).1.rest9.fat+(g.2.1-4-g.1.length))))
  else(Cj,0,g.2.2):=by unfold BN;rw[hg]
 have⟨C,hC⟩:=Ex (BN (λq:RS=>q.btch RS.blk) Cj 1 s);rw[hC]at e ⊢;rw[hg]at hgi;refine RM func68 b68 ?_
 refine Aa.p (GY s 2097152 hb Om Om) (mq hg ?_).1;refine Cp (Ap g.2.2.1 g.2.2.2) ?_;by_cases hz:g.2.2.1=0
 ·have c1:(g.2.2.1==0)=true:=Sx hz
  rw[if_pos hz]at e;have⟨a1,a2,a3,a4,a5,a6⟩:=hgi hz;have hlen:=congrArg List.length a6;have hfl:=Bb g.1;rw[length_take]at hlen;have hgl:g.1.length≤1000000:=Om
  have hnl:(g.1.length:Int)+5≤g.2.1:=Om
  have hok:An (RS.new g.1):=An.new a2 Om;have⟨q1,q2⟩:=RS.ok.byte_ hok;have qf:=(Fa.new g.1).byte hok;have w1:IntKind.i64.wrap (g.2.1-4)=g.2.1-4:=i64_in _ Om;have w2:IntKind.i64.wrap (g.2.1-4-g.1.length)=g.2.1-4-g.1.length:=i64_in _ Om;have ek:DV 1 g.1=if(RS.new g.1).byte.2=1 then(RS.new g.1).byte.1 else(RS.new g.1).byte.1.fail 7 0:=rfl
  have⟨q,hq⟩:=Ex ((RS.new g.1).byte.1);have⟨y,hy⟩:=Ex ((RS.new g.1).byte.2);rw[hq,hy]at ek;rw[hq]at q1 q2 qf;have⟨K,hK⟩:=Ex (DV 1 g.1);rw[hK]at e ek;have hnew:(RS.new g.1).l.length≤1000000:=hgl;have K1:An K∧K.l.length≤1000000∧Fa K:=by
   rw[ek];split
   ·exact⟨q1,by rw[q2];exact hnew,qf⟩
   ·exact⟨q1.fail _ _,by rw[Bx,q2];exact hnew,qf.fail (Int.le_refl _) Om⟩
  have⟨k1,k2⟩:=Hc K1.1 λs h=>Df h
  have hfa:=(K1.2.2.btch K1.1 (λs h=>Df h) (λs h hf=>hf.blk h)).rest9 k1;have⟨r1,r2⟩:=Eg k1;have hct:=N7 K 4 K1.1 K1.2.1;unfold Fa at hfa;rw[r2,k2]at hfa;have⟨D,hD⟩:=Ex (((λq:RS=>q.btch RS.blk)) K)
  try simp only[]at hD e
  rw[hD]at hct k1 hfa e;have w3:IntKind.i64.wrap (D.1.rest9.fat+(g.2.1-4-g.1.length))=D.1.rest9.fat+(g.2.1-4-g.1.length):=i64_in _ (by have:=K1.2.1;omega);refine (mq c1 ?_).1;refine Aa.n (C9 g.1) (mp ?_).1;refine Aa.u1 (C1 (RS.new g.1) 4 hok.ok) rfl (mr hq hy ?_).1;by_cases hyk:y=1
  ·rw[if_pos hyk]at ek;have c2:(y != 1)=false:=Sx hyk
   subst ek;refine (mq c2 ?_).1;refine Cu (hct) rfl ?_;refine Cu (CM D.1 4 k1) rfl ?_;refine Aa.r1 (Bp D.1.rest9 4) rfl (ms @Ab w1 w2 ?_).1;refine Cp (Be D.1.rest9.code D.1.rest9.fat (g.2.1-4-g.1.length) _ w3) ?_;by_cases hr:D.1.rest9.code=0
   ·rw[if_pos hr]at e;have c3:Cd D.1.rest9.code (D.1.rest9.fat+(g.2.1-4-g.1.length))=(0,0):=by unfold Cd;rw[if_pos hr]
    simp only[go_sem,seval,c3];refine (AZ ?_).1;refine Cp (Ap 0 0) ?_
    exact FE b68 [] e
   ·rw[if_neg hr]at e;have c3:Cd D.1.rest9.code (D.1.rest9.fat+(g.2.1-4-g.1.length))=(D.1.rest9.code,D.1.rest9.fat+(g.2.1-4-g.1.length)):=by unfold Cd;rw[if_neg hr]
    have c4:(D.1.rest9.code==0)=false:=Sx hr
    simp only[go_sem,seval,c3];refine (AZ ?_).1;refine Aa.p (Ap D.1.rest9.code _) ?_;simp only[go_sem,seval,c4];refine (AZ ?_).1;refine WO 0 [uA 0,uA 0,Fy []] ?_
    exact FK b68 [] (by simp[e,Cj,H0])
  ·rw[if_neg hyk]at ek;have c2:(y != 1)=true:=Sx hyk
   refine (mq c2 ?_).1;refine Aa.u1 (Ar q 7 0 4) rfl ?_;simp only[go_sem,seval,←ek];refine (AZ ?_).1;refine Cu (hct) rfl ?_;refine Cu (CM D.1 4 k1) rfl ?_;refine Aa.r1 (Bp D.1.rest9 4) rfl (ms @Ab w1 w2 ?_).1;refine Cp (Be D.1.rest9.code D.1.rest9.fat (g.2.1-4-g.1.length) _ w3) ?_;by_cases hr:D.1.rest9.code=0
   ·rw[if_pos hr]at e;have c3:Cd D.1.rest9.code (D.1.rest9.fat+(g.2.1-4-g.1.length))=(0,0):=by unfold Cd;rw[if_pos hr]
    simp only[go_sem,seval,c3];refine (AZ ?_).1;refine Cp (Ap 0 0) ?_
    exact FE b68 [] e
   ·rw[if_neg hr]at e;have c3:Cd D.1.rest9.code (D.1.rest9.fat+(g.2.1-4-g.1.length))=(D.1.rest9.code,D.1.rest9.fat+(g.2.1-4-g.1.length)):=by unfold Cd;rw[if_neg hr]
    have c4:(D.1.rest9.code==0)=false:=Sx hr
    simp only[go_sem,seval,c3];refine (AZ ?_).1;refine Aa.p (Ap D.1.rest9.code _) ?_;simp only[go_sem,seval,c4];refine (AZ ?_).1;refine WO 0 [uA 0,uA 0,Fy []] ?_
    exact FK b68 [] (by simp[e,Cj,H0])
 ·have c1:(g.2.2.1==0)=false:=Sx hz
  rw[if_neg hz]at e;refine (mq c1 ?_).1;refine WO 0 [uA 0,uA 0,Fy []] ?_
  exact FK b68 [] (by simp[e,Cj,H0])
theorem Zc (l:List Mk):HP l=Ez l:=rfl
def TD (f:Ft) (l:List Mk) (hl:fQ l) (hn:l.length≤1000000):Ct prog 65 [oM f,HT l] [] (λ_=>bA (Gg f l)) [] (λ_=>[]):=by
 refine Ag.toCt ?_ cl cl
 have⟨X,hX⟩:=Ex ((if AR l=true then DX l l.length else 0));have e:Gg f l=(decide (f.bat=l.length)&&(decide (f.ent=X)&&(decide (f.fst=(Ez l).1)&&decide (f.fin=(Ez l).2)))):=by unfold Gg;rw[hX]
 have hE:=GE l hl Om;rw[hX]at hE;have hN:=JD l hl Om;rw[Zc]at hN;have⟨V,hV⟩:=Ex (Ez l);rw[hV]at hN e;refine RM func65 b65 ?_
 refine Cp (hN) ?_;by_cases h1:f.bat=l.length
 ·have c1:(f.bat==(l.length:Int))=true:=Sx h1
  refine (mr @AX c1 ?_).1;refine Cp (hE) ?_;by_cases h2:f.ent=X
  ·have c2:(f.ent==X)=true:=Sx h2
   by_cases h3:f.fst=V.1
   ·have c3:(f.fst==V.1)=true:=Sx h3
    by_cases h4:f.fin=V.2
    ·have c4:(f.fin==V.2)=true:=Sx h4
     have e':Gg f l=true:=by rw[e];simp[h1,h2,h3,h4]
     simp only[go_sem,seval,c2,c3,c4];refine (AZ ?_).1
     exact FE b65 [] e'
    ·have c4:(f.fin==V.2)=false:=Sx h4
     have e':Gg f l=false:=by rw[e];simp[h4]
     simp only[go_sem,seval,c2,c3,c4];refine (AZ ?_).1
     exact FE b65 [] e'
   ·have c3:(f.fst==V.1)=false:=Sx h3
    have e':Gg f l=false:=by rw[e];simp[h3]
    simp only[go_sem,seval,c2,c3];refine (AZ ?_).1
    exact FE b65 [] e'
  ·have c2:(f.ent==X)=false:=Sx h2
   have e':Gg f l=false:=by rw[e];simp[h2]
   refine (mq c2 ?_).1
   exact FE b65 [] e'
 ·have c1:(f.bat==(l.length:Int))=false:=Sx h1
  have e':Gg f l=false:=by rw[e];simp[h1]
  refine (mr @AX c1 ?_).1
  exact FE b65 [] e'
abbrev plA (p:Ft×Int×List Mk):AV:=.agg [uA p.1.ep,iA p.1.bat,iA p.1.ent,uA p.1.fst,uA p.1.fin,iA p.1.at_,iA p.1.size,iA p.2.1,HT p.2.2]
def TE (s:List Int) (hb:A7 s) (hn:s.length≤1000000):Ct prog 31 [Bj .u8 s] [] (λ_=>.tup [plA (Im s).1,Fk (Im s).2]) [] (λ_=>[]):=by
 refine Ag.toCt ?_ cl cl
 have hfi:=λh=>Y6 hb Om h
 have hff:=Up s hb Om;have⟨F,hF⟩:=Ex (A0 s);have hif:KX s F.1=if(JE s F.1).2.2.1=0 then(if(JE s F.1).2.1<F.1.size then(9,(JE s F.1).2.1)else if Gg F.1 (JE s F.1).1=false then(12,0)else(0,0))else(JE s F.1).2.2:=rfl
 have⟨R,hR⟩:=Ex (Im s);have e:Im s=if F.2.2.1=0 then
  (if F.2.1<F.1.at_+F.1.size then((JG,0,[]),(3,F.2.1))
   else if(KX s F.1).1=0 then((F.1,F.2.1,(JE s F.1).1),(0,0))
   else((JG,0,[]),((KX s F.1).1,(KX s F.1).2+F.1.at_)))
  else((JG,0,[]),F.2.2):=by unfold Im;rw[hF]
 rw[hR]at e ⊢;rw[hF]at hfi hff;refine RM func31 x8 ?_
 refine Cp (hff) ?_;refine Cp (Ap F.2.2.1 F.2.2.2) ?_;by_cases hz:F.2.2.1=0
 ·have c1:(F.2.2.1==0)=true:=Sx hz
  rw[if_pos hz]at e;have⟨b1,b2,b3,b4,b5,b6⟩:=hfi hz;have⟨_,⟨a0,a1⟩,z0,z1⟩:=(Ff b3 b2).2.2;have w1:IntKind.i64.wrap (F.1.at_+F.1.size)=F.1.at_+F.1.size:=i64_in _ Om;refine (mr c1 w1 ?_).1;by_cases h2:F.2.1<F.1.at_+F.1.size
  ·have c2:decide (F.2.1<F.1.at_+F.1.size)=true:=Sx h2
   rw[if_pos h2]at e;have c3:Cd 3 F.2.1=(3,F.2.1):=rfl;refine (mq c2 ?_).1;refine Aa.p (BJ 3 F.2.1) ?_;simp only[go_sem,seval,c3];refine (AZ ?_).1;refine WO 0 [uA 0,iA 0,iA 0,uA 0,uA 0,iA 0,iA 0,iA 0,HT []] ?_
   exact FK x8 [] (by simp[e,JG,HY])
  ·have c2:decide (F.2.1<F.1.at_+F.1.size)=false:=Sx h2
   rw[if_neg h2]at e;have hbm:=L6 hb F.1.at_ (F.1.at_+F.1.size);have hml:=L5 s F.1.at_ (F.1.at_+F.1.size);have⟨x1,x2,x3,x4,x5,x6⟩:=Nv hbm Om;have hct:=OX (LO s F.1.at_ (F.1.at_+F.1.size)) hbm Om;have⟨X,hX⟩:=Ex (JE s F.1);rw[hX]at hif e;rw[show BN RS.marks [] 2 (LO s F.1.at_ (F.1.at_+F.1.size))=X from hX]at x1 x2 x3 x4 x5 x6 hct;have x0:=(Bd.1 x1).2;have⟨f,hf⟩:=Ex (KX s F.1);rw[hf]at hif e;refine (mq c2 ?_).1;(repeat((with_reducible refine And.intro ?_ ?_);(·first|exact sd|(simp[Ab,BK,AV.parts,Ab];done)|(simp[Ab,BK,AV.parts,Ab];omega))));refine (mr @Ep @Dh ?_).1;refine Cp (hct) ?_;refine Aa.p (Ap X.2.2.1 X.2.2.2) ?_;by_cases hx:X.2.2.1=0
   ·have c3:(X.2.2.1==0)=true:=Sx hx
    rw[if_pos hx]at hif;simp only[go_sem,seval,c3];refine (AZ ?_).1;by_cases hs:X.2.1<F.1.size
    ·have c4:decide (X.2.1<F.1.size)=true:=Sx hs
     rw[if_pos hs]at hif;have c5:((9:Int)==0)=false:=rfl;have c7:Cd 9 X.2.1=(9,X.2.1):=rfl;simp only[go_sem,seval,c4];refine (AZ ?_).1;refine Aa.p (BJ 9 X.2.1) ?_;simp only[go_sem,seval,c7];refine (AZ ?_).1;have w3:IntKind.i64.wrap (X.2.1+F.1.at_)=X.2.1+F.1.at_:=i64_in _ Om;rw[hif]at e;rw[if_neg (by simpa using c5)]at e;have c6:Cd 9 (X.2.1+F.1.at_)=(9,X.2.1+F.1.at_):=by unfold Cd;rw[if_neg (by simpa using c5)]
     refine Aa.p (Ap 9 (X.2.1)) (mq c5 ?_).1;refine Aa.p (Be 9 (X.2.1) F.1.at_ _ w3) ?_;simp only[go_sem,seval,c6];refine (AZ ?_).1;refine WO 0 [uA 0,iA 0,iA 0,uA 0,uA 0,iA 0,iA 0,iA 0,HT []] ?_
     exact FK x8 [] (by simp[e,JG,HY])
    ·have c4:decide (X.2.1<F.1.size)=false:=Sx hs
     rw[if_neg hs]at hif;have ht:=TD F.1 X.1 (FM x1) Om;simp only[go_sem,seval,c4];refine (AZ ?_).1;refine Aa.p (ht) ?_;cases hto:Gg F.1 X.1 with
     |false=>
      rw[hto,if_pos rfl]at hif;have c5:((12:Int)==0)=false:=rfl;have c7:Cd 12 0=(12,0):=rfl;refine (mp ?_).1;refine Aa.p (BJ 12 0) ?_;simp only[go_sem,seval,c7];refine (AZ ?_).1;have w3:IntKind.i64.wrap (0+F.1.at_)=0+F.1.at_:=i64_in _ Om;rw[hif]at e;rw[if_neg (by simpa using c5)]at e;have c6:Cd 12 (0+F.1.at_)=(12,0+F.1.at_):=by unfold Cd;rw[if_neg (by simpa using c5)]
      refine Aa.p (Ap 12 (0)) (mq c5 ?_).1;refine Aa.p (Be 12 (0) F.1.at_ _ w3) ?_;simp only[go_sem,seval,c6];refine (AZ ?_).1;refine WO 0 [uA 0,iA 0,iA 0,uA 0,uA 0,iA 0,iA 0,iA 0,HT []] ?_
      exact FK x8 [] (by simp[e,JG,HY])
     |true=>
      rw[hto,if_neg De]at hif;rw[hif,if_pos rfl]at e;have c6:=x6 hx;refine (mp ?_).1;refine Aa.p (Ap X.2.2.1 X.2.2.2) ?_;simp only[go_sem,seval,c3];refine (AZ ?_).1
      exact FE x8 [] e
   ·have c5:(X.2.2.1==0)=false:=Sx hx
    rw[if_neg hx]at hif;refine (mq c5 ?_).1;have w3:IntKind.i64.wrap (X.2.2.2+F.1.at_)=X.2.2.2+F.1.at_:=i64_in _ Om;rw[hif]at e;rw[if_neg (by simpa using c5)]at e;have c6:Cd X.2.2.1 (X.2.2.2+F.1.at_)=(X.2.2.1,X.2.2.2+F.1.at_):=by unfold Cd;rw[if_neg (by simpa using c5)]
    refine Aa.p (Ap X.2.2.1 (X.2.2.2)) (mq c5 ?_).1;refine Aa.p (Be X.2.2.1 (X.2.2.2) F.1.at_ _ w3) ?_;simp only[go_sem,seval,c6];refine (AZ ?_).1;refine WO 0 [uA 0,iA 0,iA 0,uA 0,uA 0,iA 0,iA 0,iA 0,HT []] ?_
    exact FK x8 [] (by simp[e,JG,HY])
 ·have c1:(F.2.2.1==0)=false:=Sx hz
  rw[if_neg hz]at e;refine (mq c1 ?_).1;refine WO 0 [uA 0,iA 0,iA 0,uA 0,uA 0,iA 0,iA 0,iA 0,HT []] ?_
  exact FK x8 [] (by simp[e,JG,HY])
def Rt (e:En) (hm:B7 e.lk) (hd:e.data.length≤2000000):Ag prog 72 [OW e] [] (OW e) []:=by
 refine RM func72 b72 ?_
 (repeat with_reducible refine Sa ?_);refine Aa.p (KQ e.lk hm.1 hm.2) (mq @Ab ?_).1;(repeat with_reducible refine Sa ?_);refine UO 1 ?_;exact FA b72 []
theorem UN (e:En) (hm:B7 e.lk) (hd:e.data.length≤2000000):Ct Tryz.prog 72 [OW e] [] (λ_=>OW e) [] (λ_=>[]):=(Rt e hm hd).toCt cl cl
def M_ (s:List Int) (m:Mk) (x:Int) (hb:A7 s) (hn:s.length≤1000000) (hm:1≤m.at_∧m.at_≤1099511627775) (hx:0≤x∧x≤s.length):Ct prog 35 [Bj .u8 s,fW m,iA x] [] (λ_=>.tup [Fx (JO s m x).1,Fk (JO s m x).2]) [] (λ_=>[]):=by
 refine Ag.toCt ?_ cl cl
 have⟨R,hR⟩:=Ex (JO s m x);have e:JO s m x=if x≤m.at_ then(Cj,(3,m.at_))else((LX s m x).1,Cd (X4 s m x).1 ((X4 s m x).2+m.at_)):=rfl
 rw[hR]at e ⊢;refine RM func35 b35 ?_
 by_cases h1:x≤m.at_
 ·have c1:decide (x≤m.at_)=true:=Sx h1
  rw[if_pos h1]at e;have c3:Cd 3 m.at_=(3,m.at_):=rfl;refine (mq c1 ?_).1;refine Aa.p (BJ 3 m.at_) ?_;simp only[go_sem,seval,c3];refine (AZ ?_).1;refine WO 1 [uA 0,uA 0,Fy []] ?_
  exact FK b35 [] (by simp[e,Cj,H0])
 ·have c1:decide (x≤m.at_)=false:=Sx h1
  rw[if_neg h1]at e;have hbm:=L6 hb m.at_ x;have hml:=L5 s m.at_ x;have⟨x1,x2,x3,x4,x5,x6⟩:=N8 hbm Om;have hct:=OY (LO s m.at_ x) hbm Om;have hif:X4 s m x=if(LX s m x).2.2.1=0 then(if(LX s m x).1.base=m.pos∧((LX s m x).1.en.length:Int)=m.cnt then(0,0)else(12,0))else(LX s m x).2.2:=rfl
  have⟨X,hX⟩:=Ex (LX s m x);rw[hX]at hif e;rw[show BN (λq=>q.btch RS.blk) Cj 1 (LO s m.at_ x)=X from hX]at x1 x2 x3 x4 x5 x6 hct;have hlen:=x1.len;have w3:IntKind.i64.wrap (X.2.2.2+m.at_)=X.2.2.2+m.at_:=i64_in _ Om;have w4:IntKind.i64.wrap (0+m.at_)=0+m.at_:=i64_in _ Om;refine (mq c1 ?_).1;(repeat((with_reducible refine And.intro ?_ ?_);(·first|exact sd|(simp[Ab,BK,AV.parts,Ab];done)|(simp[Ab,BK,AV.parts,Ab];omega))));refine (mr @Ep @Dh ?_).1;refine Cp (hct) ?_;refine Cp (Ap X.2.2.1 X.2.2.2) ?_;by_cases hz:X.2.2.1=0
  ·have c2:(X.2.2.1==0)=true:=Sx hz
   have c6:=x6 hz;rw[if_pos hz]at hif;by_cases hp:X.1.base=m.pos
   ·have c3:(X.1.base != m.pos)=false:=Sx hp
    by_cases hl:(X.1.en.length:Int)=m.cnt
    ·have c4:((X.1.en.length:Int) != m.cnt)=false:=Sx hl
     rw[if_pos ⟨hp,hl⟩]at hif;have c7:Cd 0 (0+m.at_)=(0,0):=rfl;rw[hif]at e;simp only[c7]at e;have c8:Cd X.2.2.1 (X.2.2.2+m.at_)=(0,0):=by unfold Cd;rw[if_pos hz]
     simp only[go_sem,seval,c2,c3,c4,Ax];refine (AZ ?_).1;refine Aa.p (Be X.2.2.1 X.2.2.2 m.at_ _ w3) ?_;simp only[go_sem,seval,c8];refine (AZ ?_).1
     exact FE b35 [] e
    ·have c4:((X.1.en.length:Int) != m.cnt)=true:=Sx hl
     rw[if_neg (λh=>hl h.2)]at hif;rw[hif]at e;have c7:Cd 12 0=(12,0):=rfl;simp only[go_sem,seval,c2,c3,c4,Ax];refine (AZ ?_).1;refine Aa.p (BJ 12 0) ?_;simp only[go_sem,seval,c7];refine (AZ ?_).1;refine Cp (Be 12 0 m.at_ _ w4) ?_
     exact FE b35 [] e
   ·have c3:(X.1.base != m.pos)=true:=Sx hp
    rw[if_neg (λh=>hp h.1)]at hif;rw[hif]at e;have c7:Cd 12 0=(12,0):=rfl;simp only[go_sem,seval,c2,c3];refine (AZ ?_).1;refine Aa.p (BJ 12 0) ?_;simp only[go_sem,seval,c7];refine (AZ ?_).1;refine Cp (Be 12 0 m.at_ _ w4) ?_
    exact FE b35 [] e
  ·have c2:(X.2.2.1==0)=false:=Sx hz
   rw[if_neg hz]at hif;rw[hif]at e;refine (mq c2 ?_).1;refine Cp (Be X.2.2.1 X.2.2.2 m.at_ _ w3) ?_
   exact FE b35 [] e
def OB (b:Bt) (hS:Vw b):Ct prog 70 [Fx b] [] (λ_=>bA true) [] (λ_=>[]):=by
 refine Ag.toCt ?_ cl cl
 have h0:=hS.ok.b0;have h1:=hS.sum;have h2:=hS.len;have c1:decide (b.base≤b.base+b.en.length)=true:=by simp only[decide_eq_true_eq];omega
 refine RM func70 b70 ?_
 refine Aa.p (K7 b Om h0 Om) (mq c1 ?_).1;exact FA b70 []
def qM (b:Bt) (pos:Int) (hS:Vw b) (hp:0≤pos∧pos<18446744073709551616):Ct prog 36 [Fx b,uA pos] [] (λ_=>.tup [OW (atP b pos).1,bA (atP b pos).2]) [] (λ_=>[]):=by
 refine Ag.toCt ?_ cl cl
 have h0:=hS.ok.b0;have h1:=hS.sum;have h2:=hS.len;have⟨R,hR⟩:=Ex (atP b pos);have e:atP b pos=if b.base≤pos∧pos<b.base+b.en.length then(b.en.getD (pos-b.base).toNat B3,true)else(B3,false):=rfl
 rw[hR]at e ⊢;refine RM func36 b36 ?_
 refine Cp (OB b hS) ?_;by_cases ha:pos<b.base
 ·have c1:decide (pos<b.base)=true:=Sx ha
  rw[if_neg Om]at e;refine (mq c1 ?_).1;refine WO 1 [C3 [],Bj .u8 []] ?_
  exact FK b36 [] (by simp[e,B3])
 ·have c1:decide (pos<b.base)=false:=Sx ha
  refine (mq c1 ?_).1;refine Cp (K7 b Om h0 Om) ?_;by_cases hc:b.base+b.en.length≤pos
  ·have c2:decide (b.base+b.en.length≤pos)=true:=Sx hc
   rw[if_neg Om]at e;refine (mq c2 ?_).1;refine WO 1 [C3 [],Bj .u8 []] ?_
   exact FK b36 [] (by simp[e,B3])
  ·have c2:decide (b.base+b.en.length≤pos)=false:=Sx hc
   rw[if_pos Om]at e;obtain⟨k,hk⟩:∃k:Nat,pos-b.base=(k:Int):=⟨(pos-b.base).toNat,Om⟩;have hkl:k<b.en.length:=Om
   have w1:IntKind.u64.wrap (pos-b.base)=(k:Int):=by rw[u64_in _ Om];omega
   have hmem:b.en.getD k B3∈b.en:=by simp[hkl]
   have⟨s1,s2,s3⟩:=hS.small _ hmem;rw[hk,Int.toNat_natCast]at e;have hg:=DT b.en k hkl;have⟨x,hx⟩:=Ex (b.en.getD k B3);rw[hx]at hg s1 s2 s3 e;have hcp:=UN x ⟨Om,λy hy=>by have:=s2 y hy;omega⟩ Om;simp only[go_sem,seval,c2,w1,Ax,Int.toNat_natCast,hg];refine (AZ ?_).1;refine⟨Om,Om,?_⟩;refine Cp (hcp) ?_
   exact FE b36 [] e
theorem sG (l:List Mk) (pos:Int):Ix l pos=Fz l pos:=rfl
def GD (s:List Int) (pos:Int) (hb:A7 s) (hn:s.length≤1000000) (hp:0≤pos∧pos<18446744073709551616):Ct prog 15 [Bj .u8 s,uA pos] [] (λ_=>.tup [OW (HO s pos).1,Fk (HO s pos).2]) [] (λ_=>[]):=by
 refine Ag.toCt ?_ cl cl
 have⟨R,hR⟩:=Ex (HO s pos);have e:HO s pos=if(Im s).2.1=0 then
  (if(Fz (Im s).1.2.2 pos).2=false then(B3,(16,0))
   else if(JO s (Fz (Im s).1.2.2 pos).1 (Im s).1.1.at_).2.1=0 then((atP (JO s (Fz (Im s).1.2.2 pos).1 (Im s).1.1.at_).1 pos).1,(0,0))
   else(B3,(JO s (Fz (Im s).1.2.2 pos).1 (Im s).1.1.at_).2))
  else(B3,(Im s).2):=rfl
 have hct:=TE s hb hn;have hlf:=λh=>PH hb hn h
 have hlm:=bT hb hn;have hat:(Im s).2.1=0->0≤(Im s).1.1.at_∧(Im s).1.1.at_≤s.length:=λh=>by
  have⟨f1,f2,f3,f4⟩:=hlf h;have⟨b1,b2,b3,b4,b5,b6⟩:=Y6 hb Om f1;have⟨_,⟨a0,a1⟩,z0,z1⟩:=(Ff b3 b2).2.2;rw[f4];simp only[];omega
 rw[hR]at e ⊢;have⟨L,hL⟩:=Ex (Im s);rw[hL]at e hct hlm hat;have hfm:=Xi L.1.2.2 pos (FM hlm) (by have:=(Bd.1 hlm).2;omega);rw[sG]at hfm;have hin:=λh=>lK (l:=L.1.2.2) (pos:=pos) h
 have⟨M,hM⟩:=Ex (Fz L.1.2.2 pos);rw[hM]at e hfm hin;refine RM func15 b15 ?_
 refine Cp (hct) ?_;refine Cp (Ap L.2.1 L.2.2) ?_;by_cases hz:L.2.1=0
 ·have c1:(L.2.1==0)=true:=Sx hz
  rw[if_pos hz]at e;have⟨a0,a1⟩:=hat hz;refine (mq c1 ?_).1;refine Cp (hfm) ?_;cases hf:M.2 with
  |false=>
   rw[if_pos hf]at e;have c3:Cd 16 0=(16,0):=rfl;refine (mp ?_).1;refine Aa.p (BJ 16 0) ?_;simp only[go_sem,seval,c3];refine (AZ ?_).1;refine WO 0 [C3 [],Bj .u8 []] ?_
   exact FK b15 [] (by simp[e,B3])
  |true=>
   rw[if_neg (by rw[hf];decide)]at e;have⟨i1,i2,i3⟩:=hin hf;have i4:=Pr i1 i2;have hba:=M_ s M.1 L.1.1.at_ hb hn Om ⟨a0,a1⟩;have hbS:=Yd hb hn M.1 L.1.1.at_;have⟨B,hB⟩:=Ex (JO s M.1 L.1.1.at_);rw[hB]at hba hbS e;refine (mp ?_).1;refine Cp (hba) ?_;refine Cp (Ap B.2.1 B.2.2) ?_;by_cases hg:B.2.1=0
   ·have c2:(B.2.1==0)=true:=Sx hg
    rw[if_pos hg]at e;refine (mq c2 ?_).1;refine Cp (qM B.1 pos hbS hp) ?_
    exact FE b15 [] e
   ·have c2:(B.2.1==0)=false:=Sx hg
    rw[if_neg hg]at e;refine (mq c2 ?_).1;refine WO 0 [C3 [],Bj .u8 []] ?_
    exact FK b15 [] (by simp[e,B3])
 ·have c1:(L.2.1==0)=false:=Sx hz
  rw[if_neg hz]at e;refine (mq c1 ?_).1;refine WO 0 [C3 [],Bj .u8 []] ?_
  exact FK b15 [] (by simp[e,B3])
def Ht (l:List En):List Hh:=l.map λe=>(e.lk,(e.data.length:Int))
def JF (base:Int) (l:List En):List Int:=BL (CS base).enc [] (Ht l)
def Bk (b:Bt):List Int:=vb b.ep++(vb b.base++(vb b.en.length++(JF b.base b.en++CW (Ak b.en))))
theorem IZ {base:Int} {l:List En} {k:Nat} (h:k<l.length):JF base (l.take (k+1))=JF base (l.take k)++Fj (base+k) (l.getD k B3):=by
 have e1:l.take (k+1)=l.take k++[l.getD k B3]:=by
  rw[take_succ_eq_append_getElem h];simp[h]
 have el:(Ht (l.take k)).length=k:=by simp[Ht];omega
 unfold JF;rw[e1];have e2:Ht (l.take k++[l.getD k B3])=Ht (l.take k)++[((l.getD k B3).lk,((l.getD k B3).data.length:Int))]:=by simp[Ht]
 rw[e2,G_,nil_append];simp only[CS];rw[el];rfl
def uX {base:Int} {l:List En}:∀k,k≤l.length->(JF base (l.take k)).length≤(JF base l).length:=by
 intro k hk;have gen:∀n,k+n=l.length->(JF base (l.take k)).length≤(JF base l).length:=by
  intro n
  induction n generalizing k with
  |zero=>intro h;rw[take_of_length_le Om];exact Nat.le_refl _
  |succ n ih=>
   intro h;have h1:=ih (k+1) Om Om;rw[IZ Om,length_append]at h1;omega
 exact gen (l.length-k) Om
def Xf:∀(l:List En),(∀e∈l,e.data.length≤500)->(Ak l).length≤500*l.length:=by
 intro l
 induction l with
 |nil=>intro _;simp[Ak]
 |cons e l ih=>
  intro h;have h1:=h e (mem_cons_self ..);have h2:=ih λx hx=>h x (mem_cons_of_mem _ hx)
  have ej:Ak (e::l)=e.data++Ak l:=by simp[Ak]
  rw[ej,length_append,length_cons];omega
def Il (b:Bt):Bool:=EJ b.en||decide (300<((Ak b.en).length:Int))
theorem TX (b:Bt):Ag prog 14 [Fx b] [] (bA (Il b)) []:=by
 refine RM func14 b14 ?_
 refine AA (α:=Nat×Int) (λa=>.any::.ref 0 0::.any::iA a.2::iA a.1::Az (Ay (Ay [.any,.any,.any]))) (λ_=>[btO b]) (λa=>a.1≤b.en.length∧a.1≤30∧(EJ b.en=false->a.2=((Ak (b.en.take a.1)).length:Int))) (λa=>b.en.length-a.1) (0,0) ⟨Si,Si,λ_=>by simp[Ak]⟩ (Wk.to Si (by simp[B6])) ?_;rintro⟨k,n⟩ ⟨hk,hk2,hsum⟩;simp only at hk hk2 hsum;have fin:(EJ b.en=false->n=((Ak b.en).length:Int))->(EJ b.en||decide (300<n))=Il b:=λh=>by
  unfold Il;cases hm:EJ b.en with
  |true=>rfl
  |false=>rw[h hm]
 refine (mq @Ax ?_).1;by_cases hlt:k<b.en.length
 ·have q1:decide ((k:Int)<(b.en.length:Int))=true:=decide_eq_true Om;by_cases h3:k<30
  ·have q2:decide ((k:Int)<30)=true:=decide_eq_true Om;have ek:=Am k Om;have g:=DT b.en k hlt;simp only[go_sem,seval,q1,q2,g,Ax,Int.toNat_natCast,Ab,ek];refine (AZ ?_).1;(repeat with_reducible refine Sa ?_);refine⟨(k+1,IntKind.i64.wrap (n+((b.en.getD k B3).data.length:Int))),⟨hlt,h3,λhm=>?_⟩,by simp only;omega,Wk.to Si (by simp[B6])⟩;simp only;have⟨m1,m2⟩:=M9 hm;have hd:=(Kd (m2 _ (Ru b.en k hlt))).2;have hj:=Xe b.en k hlt;have hjl:=Xf (b.en.take k) λe he=>(Kd (m2 e (mem_of_mem_take he))).2
   have htl:(b.en.take k).length=k:=by rw[length_take];omega
   rw[hsum hm,i64_in _ Om,hj];omega
  ·have q2:decide ((k:Int)<30)=false:=decide_eq_false Om;refine (mr q1 q2 ?_).1;refine Aa.p (Ni b.en) ?_;have hM:EJ b.en=true∨EJ b.en=false:=by cases EJ b.en<;>simp
   rcases hM with hM|hM
   ·have e:=fin λh=>by rw[hM]at h;cases h
    rw[hM,Bool.true_or]at e;refine (mq hM ?_).1
    (refine FB b14 [] ?_ ?_<;>first|with_reducible rfl|(simp[←e];done)|rfl)
   ·have:=(M9 hM).1;have hkl:k=b.en.length:=Om
    omega
 ·have q1:decide ((k:Int)<(b.en.length:Int))=false:=decide_eq_false Om;have htk:b.en.take k=b.en:=take_of_length_le Om;rw[htk]at hsum;have e:=fin hsum;refine (mq q1 ?_).1;refine Aa.p (Ni b.en) ?_;cases hM:EJ b.en with
  |true=>
   rw[hM,Bool.true_or]at e;refine (mp ?_).1
   (refine FB b14 [] ?_ ?_<;>first|with_reducible rfl|(simp[←e];done)|rfl)
  |false=>
   rw[hM,Bool.false_or]at e;refine (mq e ?_).1;exact FA b14 []
theorem W0 (b:Bt):Ct Tryz.prog 14 [Fx b] [] (λ_=>bA (Il b)) [] (λ_=>[]):=(TX b).toCt cl cl
def Ij (l:List Bt):Bool:=(l.take 20).any Il||decide (20<(l.length:Int))
def kH {l:List Bt} (h:Ij l=false):l.length≤20∧∀b∈l,Il b=false:=by
 unfold Ij at h;rw[Bool.or_eq_false_iff]at h;have h1:l.length≤20:=by have:=h.2;simp only[decide_eq_false_iff_not]at this;omega
 refine⟨h1,λb hb=>?_⟩;have h2:=h.1;rw[take_of_length_le h1,any_eq_false]at h2;simpa using h2 b hb
theorem TW (u:GH):Ag prog 4 [Ot u] [] (bA (Ij u.bt)) []:=by
 refine RM func4 b4 ?_
 refine AA (α:=Nat) (λk=>.any::.ref 0 0::.any::iA k::Az (Ay [.any])) (λ_=>[vZ u]) (λk=>k≤u.bt.length∧k≤20∧∀i,i<k->Il (u.bt.getD i Cj)=false) (λk=>u.bt.length-k) 0 ⟨Si,Si,λi hi=>by omega⟩ (Wk.to Si (by simp[B6])) ?_;rintro k ⟨hk,hk2,hall⟩;have hno:k=u.bt.length∨k=20->(u.bt.take 20).any Il=false:=λhor=>by
  rw[any_eq_false];intro t ht;obtain⟨i,hi,rfl⟩:=getElem_of_mem ht;simp only[length_take]at hi;have:=hall i Om;have e:u.bt.getD i Cj=u.bt[i]'Om:=by simp[show i<u.bt.length by omega]
  rw[e]at this;simp only[getElem_take];rw[this];decide
 refine (mq @Bc ?_).1;by_cases hlt:k<u.bt.length
 ·have q1:decide ((k:Int)<(u.bt.length:Int))=true:=decide_eq_true Om;by_cases h3:k<20
  ·have q2:decide ((k:Int)<20)=true:=decide_eq_true Om;have ek:=Am k Om;have g:=Ja u.bt k hlt;simp only[go_sem,seval,q1,q2,g,Bc,Int.toNat_natCast];refine (AZ ?_).1;(repeat with_reducible refine Sa ?_);refine Aa.p (W0 (u.bt.getD k Cj)) ?_;cases hL:Il (u.bt.getD k Cj)with
   |true=>
    have e:Ij u.bt=true:=by
     unfold Ij;rw[Bool.or_eq_true,any_eq_true];refine .inl ⟨u.bt.getD k Cj,?_,hL⟩;rw[mem_take_iff_getElem];exact⟨k,Om,by simp[hlt]⟩
    refine (mp ?_).1
    exact FE b4 [] e
   |false=>
    refine (mq ek ?_).1;exact⟨k+1,⟨hlt,h3,λi hi=>by
     rcases Nat.lt_or_ge i k with h|h
     ·exact hall i h
     ·obtain rfl:i=k:=Om
      exact hL⟩,Om,Wk.to Si (by simp[B6])⟩
  ·have q2:decide ((k:Int)<20)=false:=decide_eq_false Om;have e:decide (20<(u.bt.length:Int))=Ij u.bt:=by
    unfold Ij;rw[hno (.inr Om)];rfl
   refine (mt q1 q2 @Bc e ?_).1;exact FA b4 []
 ·have q1:decide ((k:Int)<(u.bt.length:Int))=false:=decide_eq_false Om;have e:decide (20<(u.bt.length:Int))=Ij u.bt:=by
   unfold Ij;rw[hno (.inl Om)];rfl
  refine (ms q1 @Bc e ?_).1;exact FA b4 []
theorem WZ (u:GH):Ct Tryz.prog 4 [Ot u] [] (λ_=>bA (Ij u.bt)) [] (λ_=>[]):=(TW u).toCt cl cl
structure S2 where
 t:RS
 xs:List AV
 i:Nat
structure S2.ok (ep:Int) (u:RS) (N:Nat) (s:S2):Prop where
 i:s.i≤N
 x:s.xs.length≤N
 st:(∃acc,s.xs=Mf acc∧acc.length=s.i∧(Ack ep).On u N (s.t,acc))∨(¬s.t.code=0∧(Ack ep).many N u []=(s.t,[]))
 k:3≤3
 okx:∀ρ:Nat->Nat,s.xs.map (λx=>x.ren ρ)=s.xs
structure oO (b:Bt):Prop where
 ok:b.ok
 small:Dm b
 right:Bw b=true
def wU {base:Int} {l:List En} (h:∀i,i<l.length->Cw (base+i) (l.getD i B3)=true):∀k,k≤l.length->(JF base (l.take k)).length≤980*k:=by
 intro k
 induction k with
 |zero=>intro _;simp[JF,Ht,BL]
 |succ k ih=>
  intro hk;have h1:=ih Om;have h2:=cT (DB.1 (h k Om)).1;rw[IZ Om,length_append];omega
def HI {b:Bt} (hw:oO b):(JF b.base b.en).length≤15680∧(CW (Ak b.en)).length≤1048587∧(Bk b).length≤1064300:=by
 have⟨r1,r2,r3,r4⟩:=BW.1 hw.right;have h1:=wU r4 b.en.length (Nat.le_refl _);rw[take_length]at h1;have h2:=Kw (Ak b.en);have h3:=(A4 ((Ak b.en).length:Int)).2;have v3:(vb ((Ak b.en).length:Int)).length≤10:=Om
 have v4:=(A4 b.ep).2;have v5:=(A4 b.base).2;have v6:=(A4 (b.en.length:Int)).2;have v7:(CW (Ak b.en)).length≤1048576+1+(vb ((Ak b.en).length:Int)).length:=Om
 refine⟨Om,Om,?_⟩;unfold Bk;simp only[length_append];omega
def SQ (b:Bt):Int:=40+((vb ((Ak b.en).length:Int)).length+(Ak b.en).length)+(JF b.base b.en).length
theorem Vf (b:Bt) (hw:oO b):Ag prog 84 [Fx b] [] (iA (SQ b)) []:=by
 have hb:=hw.ok;have hs:=hw.small;have⟨r1,r2,r3,r4⟩:=BW.1 hw.right;have b0:=hb.b0;have hl:=HI hw;obtain⟨Z,hZ⟩:∃Z:Nat->Nat,Z=λk=>(JF b.base (b.en.take k)).length:=⟨_,rfl⟩
 have hZ0:Z 0=0:=by rw[hZ];simp[JF,Ht,BL]
 have hZn:Z b.en.length=(JF b.base b.en).length:=by rw[hZ];simp
 have hZs:∀k,k<b.en.length->Z (k+1)=Z k+(Fj (b.base+k) (b.en.getD k B3)).length:=λk hk=>by
  rw[hZ];simp only;rw[IZ hk,length_append]
 have hZl:∀k,k≤b.en.length->Z k≤15680:=λk hk=>by
  have:=uX (base:=b.base) (l:=b.en) k hk;rw[hZ];simp only;omega
 have hv:=(A4 ((Ak b.en).length:Int)).2;have e1:max ((Ak b.en).length:Int) 0=(Ak b.en).length:=Om
 have bs:=Jc ((Ak b.en).length:Int) Om;rw[e1]at bs;obtain⟨q,hq⟩:∃q:Int,((vb ((Ak b.en).length:Int)).length:Int)+(Ak b.en).length=q:=⟨_,rfl⟩;have er:SQ b=40+q+Z b.en.length:=by rw[←hq,hZn];rfl
 rw[hq]at bs;have w0:IntKind.i64.wrap (40+q)=40+q:=i64_in _ Om;rw[er];refine RN func84 b84 ?_;refine (mq @Ax ?_).1
 refine Aa.p (Iz b.en hs.n (by have:=hs.s;omega)) ?_;refine (mp ?_).1;refine Aa.p (bs) (mr w0 @Ax ?_).1;refine AA (α:=Nat) (λk=>.any::.ref 0 0::.any::iA (40+q+(Z k:Int))::Ay (Ay (Fy b.en::iA b.en.length::iA k::Ay (Ay (Ay [.any,.any,.any]))))) (λ_=>[btO b]) (λk=>k≤b.en.length) (λk=>b.en.length-k) 0 Si (Wk.to (by simp[hZ0]) (by simp[B6,hZ0])) ?_;intro k hk;refine (mp ?_).1;by_cases hlt:k<b.en.length
 ·have q1:decide ((k:Int)<(b.en.length:Int))=true:=decide_eq_true Om;have ek:=Am k Om;have g:=DT b.en k hlt;have hm:=Ru b.en k hlt;have hz:=hZs k hlt;have hzl:=hZl (k+1) hlt;have hrk:=r4 k hlt;have hok:=hb.en _ hm;have hsm:=hs.e _ hm;have wk:IntKind.u64.wrap (k:Int)=k:=u64_in _ Om;have wp:IntKind.u64.wrap (b.base+(k:Int))=b.base+k:=u64_in _ Om;obtain⟨e,he⟩:∃e,b.en.getD k B3=e:=⟨_,rfl⟩;rw[he]at g hm hz hrk hok hsm;have hsz:Lg (b.base+k) e=((Fj (b.base+k) e).length:Int):=by unfold Lg;rw[if_pos hrk]
  have Ht:=NQ (b.base+k) e hok hsm Om Om;obtain⟨y,hy⟩:∃y,Lg (b.base+k) e=y:=⟨_,rfl⟩;rw[hy]at hsz Ht;have w2:IntKind.i64.wrap (40+q+(Z k:Int)+y)=40+q+(Z (k+1):Nat):=by rw[i64_in _ Om];omega
  simp only[go_sem,seval,q1,g,Ax,Int.toNat_natCast,wk,wp];refine (AZ ?_).1;(repeat with_reducible refine Sa ?_);refine Aa.p (Ht) (mr w2 ek ?_).1;exact⟨k+1,hlt,Om,Wk.sel [0] Si rfl Si rfl (by simp[AD]) (by simp[Ch,AD])⟩
 ·have q1:decide ((k:Int)<(b.en.length:Int))=false:=decide_eq_false Om;have ek:k=b.en.length:=Om
  subst ek;refine (mq q1 ?_).1;exact FA b84 []
theorem Ya (b:Bt) (hw:oO b):Ct Tryz.prog 84 [Fx b] [] (λ_=>iA (SQ b)) [] (λ_=>[]):=(Vf b hw).toCt cl cl
theorem Yb (s:WS) (b:Bt) (hs0:s.fine) (hc:s.code=0) (hm0:(s.l.length:Int)+(Bk b).length≤s.most) (hw:oO b):Ag prog 85 [.ref 0 0,Fx b] [B5 1 s,AQ s] (.tup []) [B5 1 (⟨s.most,s.l++Bk b,0⟩),AQ (⟨s.most,s.l++Bk b,0⟩)]:=by
 have hb:=hw.ok;have hs:=hw.small;have⟨r1,r2,r3,r4⟩:=BW.1 hw.right;have b0:=hb.b0;have hl:=HI hw;have m0:=hs0.m0;have m1:=hs0.m1;have w4:IntKind.u64.wrap (b.en.length:Int)=b.en.length:=u64_in _ Om;have hbl:(Bk b).length=(vb b.ep).length+((vb b.base).length+((vb (b.en.length:Int)).length+((JF b.base b.en).length+(CW (Ak b.en)).length))):=by unfold Bk;simp only[length_append]
 obtain⟨m,hm⟩:∃m,s.most=m:=⟨_,rfl⟩;obtain⟨L,hL⟩:∃L,s.l=L:=⟨_,rfl⟩;have es:s=⟨m,L,0⟩:=by cases s;simp_all
 subst es;simp only at hm0 m0 m1 ⊢;have a1:(⟨m,L,0⟩:WS).epput b.ep (Ae b.ep)=⟨m,L++vb b.ep,0⟩:=by
  unfold WS.epput;rw[if_pos (BS.2 r1),CO rfl (by simp only;omega)]
 have a2:(⟨m,L++vb b.ep,0⟩:WS).epput b.base (Bh b.base)=⟨m,L++vb b.ep++vb b.base,0⟩:=by
  unfold WS.epput;rw[if_pos (Ew.2 r2.2.1),CO rfl (by simp only[length_append];omega)]
 have a3:(⟨m,L++vb b.ep++vb b.base,0⟩:WS).put (vb (b.en.length:Int))=⟨m,L++vb b.ep++vb b.base++vb (b.en.length:Int),0⟩:=by
  rw[CO rfl (by simp only[length_append];omega)]
 have f1:(⟨m,L++vb b.ep,0⟩:WS).fine:=⟨by simp only;omega,by simp only;omega,by simp only[length_append];omega⟩;have f2:(⟨m,L++vb b.ep++vb b.base,0⟩:WS).fine:=⟨by simp only;omega,by simp only;omega,by simp only[length_append];omega⟩;obtain⟨A,hA⟩:∃A,L++vb b.ep++vb b.base++vb (b.en.length:Int)=A:=⟨_,rfl⟩;have hAl:A.length=L.length+(vb b.ep).length+(vb b.base).length+(vb (b.en.length:Int)).length:=by rw[←hA];simp only[length_append]
 rw[hA]at a3;obtain⟨W,hW⟩:∃W:Nat->WS,W=λk=>⟨m,A++JF b.base (b.en.take k),0⟩:=⟨_,rfl⟩
 have hlen:∀k,k≤b.en.length->(A++JF b.base (b.en.take k)).length≤m:=λk hk=>by
  have:=uX (base:=b.base) (l:=b.en) k hk;rw[length_append];omega
 have hfine:∀k,k≤b.en.length->(W k).fine:=λk hk=>by
  have:=hlen k hk;rw[hW];exact⟨by simp only;omega,by simp only;omega,by simp only;omega⟩
 have hW0:(⟨m,A,0⟩:WS)=W 0:=by rw[hW];simp[JF,Ht,BL]
 rw[hW0]at a3;have hWn:∀k,k<b.en.length->(W k).ehead (b.base+k) (b.en.getD k B3)=W (k+1):=λk hk=>by
  have hl:=hlen (k+1) hk;rw[IZ hk]at hl;simp only[length_append]at hl;rw[hW];simp only;rw[eD (r4 k hk) rfl (by simp only[length_append];omega),IZ hk];simp only[append_assoc]
 have hfin:(W b.en.length).blk (Ak b.en)=⟨m,L++Bk b,0⟩:=by
  rw[hW];simp only;rw[Zl rfl (by simp only[length_append,take_length];omega),←hA,take_length];unfold Bk;simp only[append_assoc]
 refine RM func85 b85 ?_
 refine Aa.p (Gu b hb hs) (mq hw.right ?_).1;refine Aa.u2 (I4 ⟨m,L,0⟩ b.ep 0 1 De hb.e0 hb.e1 hs0) rfl rfl (mq a1 ?_).1;refine Aa.u2 (Kt ⟨m,L++vb b.ep,0⟩ b.base 0 1 De hb.b0 hb.b1 f1) rfl rfl (ms a2 @Ax w4 ?_).1;refine Aa.u2 (Bm ⟨m,L++vb b.ep++vb b.base,0⟩ b.en.length 0 1 De Om Om f2.ok (f2.room _)) rfl rfl (mr a3 @Ax ?_).1;refine AA (α:=Nat) (λk=>.ref 0 0::.any::.any::.ref 2 0::Az (Ay (.any::.any::Fy b.en::iA b.en.length::iA k::Az [.any,.any]))) (λk=>[B5 1 (W k),AQ (W k),btO b]) (λk=>k≤b.en.length) (λk=>b.en.length-k) 0 Si (Wk.to (by rfl) (by simp[B6])) ?_;intro k hk;refine (mp ?_).1;by_cases hlt:k<b.en.length
 ·have q1:decide ((k:Int)<(b.en.length:Int))=true:=decide_eq_true Om;have ek:=Am k Om;have g:=DT b.en k hlt;have hme:=Ru b.en k hlt;have hok:=hb.en _ hme;have hsm:=hs.e _ hme;have hwn:=hWn k hlt;have hf:=hfine k Om;have wk:IntKind.u64.wrap (k:Int)=k:=u64_in _ Om;have wp:IntKind.u64.wrap (b.base+(k:Int))=b.base+k:=u64_in _ Om;obtain⟨e,he⟩:∃e,b.en.getD k B3=e:=⟨_,rfl⟩;rw[he]at g hme hok hsm hwn;simp only[go_sem,seval,q1,g,Ax,Int.toNat_natCast,wk,wp];refine (AZ ?_).1;(repeat with_reducible refine Sa ?_);refine Aa.u2 (OV (W k) (b.base+k) e 0 1 De hf hok hsm Om Om) rfl rfl (mr hwn ek ?_).1;exact⟨k+1,hlt,Om,Wk.sel [0,1,2] Si rfl Si rfl (by simp[AD,IL,wrow_ren,AH]) (by simp[Ch,AD,AH])⟩
 ·have q1:decide ((k:Int)<(b.en.length:Int))=false:=decide_eq_false Om;have ek:k=b.en.length:=Om
  subst ek;refine (mq q1 ?_).1;refine Aa.n (XS b.en hs.n hs.s) (mp ?_).1;refine Aa.u2 (Qe (W b.en.length) (Ak b.en) 0 1 De (hfine _ (Nat.le_refl _)) r3) rfl rfl (mq hfin ?_).1;exact FA b85 [0,1]
def fC (s:WS) (b:Bt) (i j:Nat) (h:i≠j) (hs:s.fine) (hc:s.code=0) (hm:(s.l.length:Int)+(Bk b).length≤s.most) (hw:oO b):Ct prog 85 [.ref i 0,Fx b] [(i,B5 j s),(j,AQ s)] (λ_=>.tup []) [(i,B5 j (⟨s.most,s.l++Bk b,0⟩)),(j,AQ (⟨s.most,s.l++Bk b,0⟩))] (λ_=>[]):=Ct.u2 (Yb s b hs hc hm hw) i j h cl cl cl cl cl (Bu _ _) (Bi _) Dl
def Vl (b:Bt) (hw:oO b):Ct prog 50 [Fx b] [] (λ_=>.tup [Bj .u8 (Bk b),iA 0]) [] (λ_=>[]):=by
 refine Ag.toCt ?_ cl cl
 have⟨r1,r2,r3,r4⟩:=BW.1 hw.right;have hl:=HI hw;have hbl:=Kw (Ak b.en);have v4:=(A4 b.ep).2;have v5:=(A4 b.base).2;have v6:=(A4 (b.en.length:Int)).2;have v7:=(A4 ((Ak b.en).length:Int)).2;have hlen:(Bk b).length=(vb b.ep).length+((vb b.base).length+((vb (b.en.length:Int)).length+((JF b.base b.en).length+(CW (Ak b.en)).length))):=by unfold Bk;simp only[length_append]
 have hrm:SQ b=40+((vb ((Ak b.en).length:Int)).length+(Ak b.en).length)+(JF b.base b.en).length:=rfl;have⟨m,hm⟩:=Ex (SQ b);have hrr:=Ya b hw;rw[hm]at hrm hrr;have f0:(WS.new m).fine:=WS.fine.new Om;have hn:=WS.new_is (n:=m) Om;have hput:=fC (WS.new m) b 1 2 De f0 (by rw[hn]) (by rw[hn];simp;omega) hw;rw[hn]at hput;simp only[nil_append]at hput;refine RM func50 b50 ?_
 refine Cp (hrr) ?_;refine Aa.n (E6 m) (mq hn ?_).1;refine Aa.u2 (hput) rfl rfl (mp ?_).1;refine Aa.r2 (B0 ⟨m,Bk b,0⟩ 1 2 De (by simp only;omega)) rfl rfl ?_;refine (mp ?_).1
 exact FK b50 [] (by simp[WS.bytes])
def C4 (g:GH):Bool:=Ae g.ep&&(decide (g.bt.length≤16)&&(List.range g.bt.length).all λi=>Bw (g.bt.getD i Cj)&&GF g.ep (g.bt.take i) (g.bt.getD i Cj))
def BD {g:GH}:C4 g=true↔(1≤g.ep∧g.ep<4611686018427387904)∧g.bt.length≤16∧∀i,i<g.bt.length->Bw (g.bt.getD i Cj)=true∧GF g.ep (g.bt.take i) (g.bt.getD i Cj)=true:=by
 unfold C4;rw[Bool.and_eq_true,Bool.and_eq_true,decide_eq_true_eq,all_eq_true,BS];constructor
 ·rintro⟨h1,h2,h3⟩;refine⟨h1,h2,λi hi=>?_⟩;have:=h3 i (mem_range.2 hi);rw[Bool.and_eq_true]at this;exact this
 ·rintro⟨h1,h2,h3⟩;refine⟨h1,h2,λi hi=>?_⟩;rw[Bool.and_eq_true];exact h3 i (mem_range.1 hi)
def Pt {b:Bt} (hb:b.ok) (h:Bw b=true):Vw b:=by
 have⟨r1,⟨r2,r2',r2''⟩,r3,r4⟩:=BW.1 h;refine⟨hb,r2.2,r2'',λe he=>?_⟩;obtain⟨i,hi,rfl⟩:=getElem_of_mem he;have h1:=r4 i hi;have h2:b.en.getD i B3=b.en[i]:=by simp[hi]
 rw[h2]at h1;have⟨h3,h4⟩:=DB.1 h1;have⟨h5,h6⟩:=PG (hb.en _ (getElem_mem hi)).lk h3;exact⟨h5,h6,h4⟩
def BA (l:List Bt):List Int:=l.flatMap λb=>Ad (1::Bk b)
def C6 (a:Int):List Bt->List Mk
 |[]=>[]
 |b::l=>⟨b.base,b.en.length,a⟩::C6 (a+(Ad (1::Bk b)).length) l
theorem N1 (l:List Bt) (b:Bt):BA (l++[b])=BA l++Ad (1::Bk b):=by simp[BA]
theorem E4 (b:Bt) (l:List Bt):BA (b::l)=Ad (1::Bk b)++BA l:=by simp[BA]
theorem Ll (l:List Bt) (b:Bt):∀a,C6 a (l++[b])=C6 a l++[⟨b.base,b.en.length,a+(BA l).length⟩]:=by
 induction l with
 |nil=>intro a;simp[C6,BA]
 |cons x l ih=>
  intro a;simp only[cons_append,C6,ih,E4,length_append];congr 3;simp only[Mk.mk.injEq,true_and];omega
theorem Dg (l:List Bt):∀a,(C6 a l).length=l.length:=by
 induction l with
 |nil=>intro a;rfl
 |cons x l ih=>intro a;simp[C6,ih]
def DJ (g:GH):List Int:=Ai ⟨3,g.ep,0⟩++BA g.bt
def BU (g:GH):List Mk:=C6 (Ai ⟨3,g.ep,0⟩).length g.bt
def B2 (g:GH):Ft:=Iu g.ep (BU g) (DJ g).length (Ad (2::AJ (BU g))).length
def CB (g:GH):List Int:=DJ g++Ad (2::AJ (BU g))++EP (B2 g)
def Zq:Int->List Bt->Prop
 |_,[]=>True
 |p,b::l=>p≤b.base∧1≤b.en.length∧b.en.length≤16∧b.base+b.en.length≤4611686018427387904∧Zq (b.base+b.en.length) l
theorem LC (l:List Bt) (b:Bt):BQ (l++[b])=b:=by simp[BQ]
def Uq {ep:Int} {bs:List Bt} {b:Bt}:GF ep bs b=true↔b.ep≤ep∧(bs.length=0∨((BQ bs).ep≤b.ep∧(BQ bs).base+(BQ bs).en.length≤b.base)):=by
 simp[GF]
def iP {ep:Int}:∀(suf pre:List Bt) (p:Int),(pre=[]->p=0)->(¬pre=[]->p=(BQ pre).base+(BQ pre).en.length)->(∀b∈suf,0≤b.base)->
 (∀i,i<suf.length->Bw (suf.getD i Cj)=true∧GF ep (pre++suf.take i) (suf.getD i Cj)=true)->Zq p suf:=by
 intro suf
 induction suf with
 |nil=>intros;trivial
 |cons b l ih=>
  intro pre p h1 h2 h0 h;have h3:=h 0 Si;simp only[take_zero,append_nil,getD_cons_zero]at h3;have⟨r1,⟨⟨r2,r2'⟩,r3,r4⟩,r5,r6⟩:=BW.1 h3.1;have⟨f1,f2⟩:=Uq.1 h3.2;refine⟨?_,r2,r2',r4,?_⟩
  ·by_cases hp:pre=[]
   ·rw[h1 hp];exact h0 b Si
   ·rw[h2 hp];rcases f2 with f2|f2
    ·exact absurd (eq_nil_of_length_eq_zero f2) hp
    ·exact f2.2
  ·refine ih (pre++[b]) _ (λh=>by simp at h) (λ_=>by rw[LC]) (λx hx=>h0 x (by simp[hx])) λi hi=>?_
   have h4:=h (i+1) (by simp;omega);simp only[take_succ_cons,getD_cons_succ]at h4;rw[append_assoc,singleton_append];exact h4
def Lh {g:GH} (hr:C4 g=true) (hb:∀b∈g.bt,b.ok):Zq 0 g.bt:=by
 have⟨h1,h2,h3⟩:=BD.1 hr;exact iP (ep:=g.ep) g.bt [] 0 (λ_=>rfl) (λh=>absurd rfl h) (λb hb'=>(hb b hb').b0) λi hi=>by simpa using h3 i hi
def MQ:∀(l:List Bt) (p a x:Int),Zq p l->a<x->(∀b∈l,((Ad (1::Bk b)).length:Int)≤2200000∧0<(Ad (1::Bk b)).length)->x+2200000*l.length≤1099511627775->DL p a (C6 x l)=true:=by
 intro l
 induction l with
 |nil=>intros;rfl
 |cons b l ih=>
  intro p a x h hx hf hn;have⟨h1,h2,h3,h4,h5⟩:=h;have⟨f1,f2⟩:=hf b Si;simp only[length_cons]at hn;simp only[C6,DL,Bool.and_eq_true,decide_eq_true_eq];refine⟨⟨by(try simp only[]);omega,by(try simp only[]);omega,by(try simp only[]);omega,by(try simp only[]);omega,by(try simp only[]);omega,by(try simp only[]);omega⟩,ih _ _ _ h5 (by(try simp only[]);omega) (λy hy=>hf y (by simp[hy])) Om⟩
def Lu {ep a n:Int} {l:List Mk} (hl:AR l=true) (he:1≤ep∧ep<4611686018427387904) (ha:1≤a∧a≤1099511627775) (hn:1≤n∧n≤2097152):Aw (Iu ep l a n)=true∧(Iu ep l a n).ok:=by
 have h16:=(Bd.1 hl).2;have⟨c1,c2⟩:=U2 hl l.length (Nat.le_refl _);have hg:Iu ep l a n=⟨ep,l.length,DX l l.length,(Ez l).1,(Ez l).2,a,n⟩:=by unfold Iu;rw[if_pos hl]
 rw[hg];by_cases hz:l.length=0
 ·have he:Ez l=(0,0):=by unfold Ez;rw[if_pos (.inl hz)]
  rw[he];refine⟨FV.2 ⟨by(try simp only[]);omega,by(try simp only[]);omega,by(try simp only[]);omega,Mz.2 ⟨λ_=>⟨rfl,rfl⟩,λh=>absurd (by simp[hz]) h⟩⟩,⟨by(try simp only[]);omega,by(try simp only[]);omega,by(try simp only[]);omega,Si,Si,by(try simp only[]);omega,by(try simp only[]);omega⟩⟩
 ·have he:Ez l=((l.getD 0 CU).pos,(l.getD (l.length-1) CU).fin):=by unfold Ez;rw[if_neg (by rintro(h|h);exact hz h;rw[hl]at h;cases h)]
  rw[he];have s1:=pD hl (l.length-1) Om;rw[show l.length-1+1=l.length by omega]at s1;have b1:=FT hl (k:=0) Om;have b2:=FT hl (k:=l.length-1) Om;have hf:(l.getD (l.length-1) CU).fin=(l.getD (l.length-1) CU).pos+(l.getD (l.length-1) CU).cnt:=rfl;refine⟨FV.2 ⟨by(try simp only[]);omega,by(try simp only[]);omega,by(try simp only[]);omega,Mz.2 ⟨λh=>absurd h (by(try simp only[]);omega),λ_=>⟨by(try simp only[]);omega,by(try simp only[]);omega,by(try simp only[]);omega⟩⟩⟩,⟨by(try simp only[]);omega,by(try simp only[]);omega,by(try simp only[]);omega,by(try simp only[]);omega,by(try simp only[]);omega,by(try simp only[]);omega,by(try simp only[]);omega⟩⟩
def T6 {l:List En} (h:oD l):A7 (Ak l):=by
 intro x hx;simp only[Ak,mem_flatMap]at hx;have⟨e,he,hx⟩:=hx;exact(h e he).data x hx
def wV {base:Int} {l:List En} (hb:0≤base) (h1:base+l.length<18446744073709551616) (hl:oD l) (hr:∀i,i<l.length->Cw (base+i) (l.getD i B3)=true):∀k,k≤l.length->A7 (JF base (l.take k)):=by
 intro k
 induction k with
 |zero=>intro _ x hx;simp[JF,Ht,BL]at hx
 |succ k ih=>
  intro hk x hx;rw[IZ Om]at hx;have hm:l.getD k B3∈l:=by simp[show k<l.length by omega]
  have h2:=DB.1 (hr k Om);rcases mem_append.1 hx with hx|hx
  ·exact ih Om x hx
  ·unfold Fj at hx;rcases mem_append.1 hx with hx|hx
   ·exact Nb Om Om (hl _ hm).lk h2.1 x hx
   ·exact CG Om Om x hx
def Ky {b:Bt} (hb:b.ok) (hr:Bw b=true):A7 (Bk b):=by
 have⟨r1,⟨r2,r2',r2''⟩,r3,r4⟩:=BW.1 hr;have b0:=hb.b0;have h1:=wV b0 Om hb.en r4 b.en.length (Nat.le_refl _);rw[take_length]at h1;intro x hx;unfold Bk at hx;rcases mem_append.1 hx with hx|hx
 ·exact CG Om Om x hx
 rcases mem_append.1 hx with hx|hx
 ·exact CG b0 hb.b1 x hx
 rcases mem_append.1 hx with hx|hx
 ·exact CG Om Om x hx
 rcases mem_append.1 hx with hx|hx
 ·exact h1 x hx
 ·exact Ve r3 (T6 hb.en) x hx
def hd3 {ep:Int} (he:1≤ep∧ep<4611686018427387904):Bv ⟨3,ep,0⟩=true:=DA.2 ⟨by(try simp only[]);omega,he,by(try simp only[]);omega,.inr rfl⟩
def Eu (b:List Int):Hd×Int×(Int×Int):=if(RS.new b).header.1.code=0 then((RS.new b).header.2,(RS.new b).header.1.at_,(0,0))else(Nz,0,((RS.new b).header.1.code,(RS.new b).header.1.fat))
inductive Ev where
 |item (a:Int) (b:Bt)
 |oth (k a c:Int)
structure PS where
 ph:Nat
 buf:List Int
 fst:Int
 fed:Int
 ended:Int
 ep:Int
 lep:Int
 lbase:Int
 ln:Nat
 ms:List Mk
 want:Ft
 foot:Int
 out:List Ev
def Ga:PS:=⟨0,[],0,0,0,0,0,0,0,[],JG,0,[]⟩
def BV (b:List Int):List Int×Int×Bool×(Int×Int):=
 if D7 b 2097152=true∧(b.length:Int)<Ed b 2097152 then([],0,false,(0,0))
 else if(BI b 2097152).2.2.1=1 then([],0,false,(0,0))
 else((BI b 2097152).1,(BI b 2097152).2.1-4-(BI b 2097152).1.length,(BI b 2097152).2.2.1==0,(BI b 2097152).2.2)
def PS.header (s:PS):PS×Bool×(Int×Int):=
 if(Eu s.buf).2.2.1=1 then(s,false,(0,0))
 else if(Eu s.buf).2.2.1=0 then(if(Eu s.buf).1.ver=3 then({s with ph:=1,ep:=(Eu s.buf).1.ep},true,(0,0))else(s,false,(8,4)))
 else(s,false,(Eu s.buf).2.2)
def PS.batC (s:PS) (b:Bt):Int:=if s.ms.length=16 then 2 else if s.ep<b.ep∨(0<s.ms.length∧(b.ep<s.lep∨b.base<s.lbase+s.ln))then 13 else 0
def PS.bat (s:PS) (b:Bt):PS:={s with ms:=s.ms++[⟨b.base,b.en.length,s.fst⟩],lep:=b.ep,lbase:=b.base,ln:=b.en.length,out:=s.out++[.item s.fst b]}
def PS.batch (s:PS) (q:RS):(PS×Int)×RS:=
 if(q.btch RS.blk).1.rest9.code=0 then(if s.batC (q.btch RS.blk).2=0 then(s.bat (q.btch RS.blk).2,0)else(s,s.batC (q.btch RS.blk).2),(q.btch RS.blk).1.rest9)else((s,0),(q.btch RS.blk).1.rest9)
def PS.idx (s:PS) (l:List Mk):PS:={s with ph:=2,want:=⟨s.ep,l.length,if AR l=true then DX l l.length else 0,(Ez l).1,(Ez l).2,s.fst,s.buf.length⟩}
def PS.index (s:PS) (q:RS):(PS×Int)×RS:=
 if q.marks.1.rest9.code=0 then(if q.marks.2=s.ms then(s.idx q.marks.2,0)else(s,12),q.marks.1.rest9)else((s,0),q.marks.1.rest9)
def PS.takes (s:PS) (p:List Int):(PS×Int)×RS:=
 if(RS.new p).byte.2=1 then s.batch (RS.new p).byte.1 else if(RS.new p).byte.2=2 then s.index (RS.new p).byte.1 else((s,0),(RS.new p).byte.1.fail 7 0)
def PS.record (s:PS):PS×Bool×(Int×Int):=
 if(BV s.buf).2.2.1=true then
  (if(s.takes (BV s.buf).1).2.code=0 then((s.takes (BV s.buf).1).1.1,(s.takes (BV s.buf).1).1.2==0,Cd (s.takes (BV s.buf).1).1.2 0)
   else((s.takes (BV s.buf).1).1.1,false,((s.takes (BV s.buf).1).2.code,(s.takes (BV s.buf).1).2.fat+(BV s.buf).2.1)))
 else(s,false,(BV s.buf).2.2.2)
def PS.footer (s:PS):PS×Bool×(Int×Int):=
 if(BV s.buf).2.2.1=true then
  (if(BX (BV s.buf).1).2.1=0 then(if(BX (BV s.buf).1).1=s.want then({s with ph:=3,foot:=s.buf.length},true,(0,0))else(s,false,(12,0)))
   else(s,false,((BX (BV s.buf).1).2.1,(BX (BV s.buf).1).2.2+(BV s.buf).2.1)))
 else(s,false,(BV s.buf).2.2.2)
def PS.trailer (s:PS):PS×Bool×(Int×Int):=
 if s.buf.length<12 then(s,false,(0,0))else if s.buf=A8 s.foot then({s with ph:=4},true,(0,0))else(s,false,(12,0))
def PS.rest (s:PS):PS×Bool×(Int×Int):=(s,false,(9,0))
def PS.step (s:PS):PS×Bool×(Int×Int):=
 match s.ph with
 |0=>s.header
 |1=>s.record
 |2=>s.footer
 |3=>s.trailer
 |_=>s.rest
def PS.fin (r:PS×Bool×(Int×Int)):PS:=
 if r.2.2.1=0 then(if r.2.1=true then{r.1 with fst:=r.1.fed,buf:=[]}else r.1)
 else{r.1 with out:=r.1.out++[.oth 4 (r.2.2.2+r.1.fst) r.2.2.1],ended:=4,buf:=[]}
def PS.add (s:PS) (c:Int):PS:={s with buf:=s.buf++[c],fed:=s.fed+1}
def PS.one (s:PS) (c:Int):PS:=PS.fin (s.add c).step
def PS.nild (s:PS) (c:Int):Bool:= !((s.add c).step.2.2.1==0)||(s.add c).step.2.1
def PS.feed (s:PS):List Int->PS
 |[]=>s
 |c::l=>if s.ended=0 then(s.one c).feed l else s
def PS.whole (s:PS):Bool:=decide (0<s.foot)&&(decide (s.buf.length=0)&&decide (s.fed=s.want.at_+s.want.size+s.foot+12))
def PS.close (s:PS):PS×List Ev:=
 if s.ended=0 then(if s.whole=true then({s with ended:=2,buf:=[]},[.oth 2 s.fed 0])else({s with ended:=3,buf:=[]},[.oth 3 s.fed 1]))else(s,[])
def Jy {b:List Int} (hb:A7 b) (hn:b.length≤1000000):A7 (BV b).1∧(BV b).1.length≤1000000∧0≤(BV b).2.1+2000000∧(BV b).2.1≤1000000∧((BV b).2.2.1=true->0≤(BV b).2.1):=by
 have hgi:=λhc=>Ki (b:=b) (m:=2097152) hb Om hc
 have hgb:=λhc=>Uj (b:=b) (m:=2097152) hc
 unfold BV;split
 ·exact⟨λx hx=>by simp at hx,Si,Si,Si,λh=>by simp at h⟩
 ·split
  ·exact⟨λx hx=>by simp at hx,Si,Si,Si,λh=>by simp at h⟩
  ·by_cases hc:(BI b 2097152).2.2.1=0
   ·have⟨_,a2,_,a4,a5,a6⟩:=hgi hc;have h1:=congrArg List.length a6;have h2:=Bb (BI b 2097152).1;rw[length_take]at h1;exact⟨a2,by(try simp only[]);omega,by(try simp only[]);omega,by(try simp only[]);omega,λ_=>by(try simp only[]);omega⟩
   ·have⟨a1,a2⟩:=hgb hc;refine⟨by rw[a1];exactλx hx=>by simp at hx,by rw[a1];simp,by rw[a1,a2];simp,by rw[a1,a2];simp,λh=>?_⟩;exact absurd (by simpa using h) hc
theorem Fa.lets {s:RS} (h:Fa s) (hs:An s):Fa s.lets:=by
 unfold RS.lets;split
 ·exact(h.take hs 4).failAt hs (hs.ok.take 4).2 _
 ·exact h.take hs 4
theorem Fa.vers {s:RS} (h:Fa s) (hs:An s):Fa s.vers.1:=by
 unfold RS.vers
 repeat' split
 ·exact h.take hs 1
 ·exact(h.take hs 1).failAt hs (hs.ok.take 1).2 _
 ·exact h.take hs 1
theorem Fa.hplain {s:RS} (h:Fa s) (hs:An s):Fa s.hplain.1:=by
 have⟨a1,a2⟩:=IW hs;have⟨b1,b2⟩:=KD a1;have⟨c1,c2⟩:=Bz b1 Ae;have hb:=((h.lets hs).vers a1).epo b1 Ae;show Fa ((s.hbegin.1.epo Ae).1.hbase s.hbegin.2).1;unfold RS.hbase;split
 ·exact Fa.epo hb c1 Bh
 ·exact hb
theorem Fa.fixed {s:RS} (h:Fa s) (hs:An s) (n:Int):Fa (s.fixed n).1:=by
 unfold RS.fixed
 first|exact h.take hs n|(split<;>exact h.take hs n)
theorem Fa.header {s:RS} (h:Fa s) (hs:An s):Fa s.header.1:=by
 have⟨a1,a2⟩:=Gn hs;have hf:=(h.hplain hs).fixed a1 4;unfold RS.header
 repeat' split
 ·exact hf
 ·exact hf.failAt a1 (Hy a1 4).2 _
 ·exact hf
def cU {b:List Int} (hb:A7 b) (hn:b.length≤1000000):0≤(Eu b).2.2.2∧(Eu b).2.2.2≤1000000:=by
 have hok:An (RS.new b):=An.new hb Om;have hf:=(Fa.new b).header hok;unfold Fa at hf;rw[(Uf hok).2]at hf;have hnl:(RS.new b).l.length=b.length:=rfl;unfold Eu;split
 ·simp
 ·simp only[];omega
def jG {b:List Int} (hb:A7 b) (hn:b.length≤1000000):0≤(BV b).2.2.2.2∧(BV b).2.2.2.2≤1000000:=by
 have hok:An (RS.new b):=An.new hb Om;have hff:=(Fa.new b).frame hok 2097152;have hfl:=(E0 hok 2097152).2;unfold Fa at hff;rw[hfl]at hff;have hnl:(RS.new b).l.length=b.length:=rfl;unfold BV;split
 ·simp
 ·split
  ·simp
  ·unfold BI;split
   ·simp
   ·simp only[];omega
structure CX (s:PS):Prop where
 bb:A7 s.buf
 bl:(s.buf.length:Int)≤s.fed
 f0:0≤s.fst
 f1:s.fst≤s.fed
 f2:s.fed≤1000000
 ol:(s.out.length:Int)≤2*s.fed
 ml:s.ms.length≤16
 ln:s.ln≤16
 b0:0≤s.lbase
 b1:s.lbase≤4611686018427387904
 t0:0≤s.foot
 t1:s.foot≤1000000
 a0:0≤s.want.at_
 a1:s.want.at_≤1000000
 z0:0≤s.want.size
 z1:s.want.size≤1000000
theorem CX.len {s:PS} (h:CX s):s.buf.length≤1000000:=by have:=h.bl;have:=h.f2;omega
structure Kp (s t:PS):Prop where
 buf:t.buf=s.buf
 fst:t.fst=s.fst
 fed:t.fed=s.fed
 ended:t.ended=s.ended
 out:t.out.length≤s.out.length+1
theorem Kp.refl (s:PS):Kp s s:=⟨rfl,rfl,rfl,rfl,Om⟩
theorem CX.to {s t:PS} (h:CX s) (k:Kp s t) (ho:(s.out.length:Int)+1≤2*s.fed) (ml:t.ms.length≤16) (ln:t.ln≤16) (b0:0≤t.lbase) (b1:t.lbase≤4611686018427387904) (t0:0≤t.foot) (t1:t.foot≤1000000) (a0:0≤t.want.at_) (a1:t.want.at_≤1000000) (z0:0≤t.want.size) (z1:t.want.size≤1000000):CX t:=
 ⟨by rw[k.buf];exact h.bb,by rw[k.buf,k.fed];exact h.bl,by rw[k.fst];exact h.f0,by rw[k.fst,k.fed];exact h.f1,by rw[k.fed];exact h.f2,by have:=k.out;rw[k.fed];omega,ml,ln,b0,b1,t0,t1,a0,a1,z0,z1⟩
def ZR {s:PS} (h:CX s) (ho:(s.out.length:Int)+1≤2*s.fed) {p:List Int} (hp:A7 p) (hn:p.length≤1000000):CX (s.takes p).1.1∧Kp s (s.takes p).1.1∧An (s.takes p).2∧(s.takes p).2.l=p∧Fa (s.takes p).2:=by
 have hl:=h.len;have hok:An (RS.new p):=An.new hp Om;have⟨q1,q2⟩:=RS.ok.byte_ hok;have qf:=(Fa.new p).byte hok;unfold PS.takes;split
 ·have⟨k1,k2⟩:=Hc q1 λs h=>Df h
  have kf:=(qf.btch q1 (λs h=>Df h) (λs h hf=>hf.blk h)).rest9 k1;have⟨r1,r2⟩:=Eg k1;have hB:=(X5 q1 K5).1;unfold PS.batch;split
  ·split
   ·rename_i _ hc;have hms:¬s.ms.length=16:=by
     intro h16;unfold PS.batC at hc;rw[if_pos h16]at hc;exact absurd hc De
    have hml:=h.ml;have hsum:=hB.sum;have hK:Kp s (s.bat ((RS.new p).byte.1.btch RS.blk).2):=⟨rfl,rfl,rfl,rfl,by simp[PS.bat]⟩;exact⟨h.to hK ho (by simp[PS.bat];omega) hB.len hB.ok.b0 (by show((RS.new p).byte.1.btch RS.blk).2.base≤_;omega) h.t0 h.t1 h.a0 h.a1 h.z0 h.z1,hK,r1,r2.trans (k2.trans q2),kf⟩
   ·exact⟨h,Kp.refl s,r1,r2.trans (k2.trans q2),kf⟩
  ·exact⟨h,Kp.refl s,r1,r2.trans (k2.trans q2),kf⟩
 ·split
  ·have⟨k1,k2⟩:=EL F0 q1 16;have kf:=(qf.marks q1).rest9 k1;have⟨r1,r2⟩:=Eg k1;unfold PS.index;split
   ·split
    ·have hK:Kp s (s.idx (RS.new p).byte.1.marks.2):=⟨rfl,rfl,rfl,rfl,by simp[PS.idx]⟩;have f1:=h.f1;have f2:=h.f2;exact⟨h.to hK ho h.ml h.ln h.b0 h.b1 h.t0 h.t1 h.f0 (by show s.fst≤_;omega) (by show(0:Int)≤s.buf.length;omega) (by show(s.buf.length:Int)≤_;omega),hK,r1,r2.trans (k2.trans q2),kf⟩
    ·exact⟨h,Kp.refl s,r1,r2.trans (k2.trans q2),kf⟩
   ·exact⟨h,Kp.refl s,r1,r2.trans (k2.trans q2),kf⟩
  ·exact⟨h,Kp.refl s,q1.fail _ _,by rw[Bx];exact q2,qf.fail (Int.le_refl _) Om⟩
def J0 {s:PS} (h:CX s) (ho:(s.out.length:Int)+1≤2*s.fed):CX s.step.1∧Kp s s.step.1∧ -2000000≤s.step.2.2.2∧s.step.2.2.2≤4000000:=by
 have hl:=h.len;have gf:=cU h.bb hl;have pf:=jG h.bb hl;have⟨p1,p2,p3,p4,p5⟩:=Jy h.bb hl;unfold PS.step;split
 ·have hK:Kp s {s with ph:=1,ep:=(Eu s.buf).1.ep}:=⟨rfl,rfl,rfl,rfl,Si⟩;unfold PS.header;split
  ·exact⟨h,Kp.refl s,Si,Si⟩
  ·split
   ·split
    ·exact⟨h.to hK ho h.ml h.ln h.b0 h.b1 h.t0 h.t1 h.a0 h.a1 h.z0 h.z1,hK,Si,Si⟩
    ·exact⟨h,Kp.refl s,Si,Si⟩
   ·exact⟨h,Kp.refl s,by(try simp only[]);omega,by(try simp only[]);omega⟩
 ·have⟨t1,t2,t3,t4,t5⟩:=ZR h ho p1 p2;unfold Fa at t5;rw[t4]at t5;unfold PS.record;split
  ·split
   ·refine⟨t1,t2,?_,?_⟩
    ·show-2000000≤(Cd _ 0).2;unfold Cd;split<;>simp
    ·show(Cd _ 0).2≤4000000;unfold Cd;split<;>simp
   ·exact⟨t1,t2,by(try simp only[]);omega,by(try simp only[]);omega⟩
  ·exact⟨h,Kp.refl s,by(try simp only[]);omega,by(try simp only[]);omega⟩
 ·have hK:Kp s {s with ph:=3,foot:=(s.buf.length:Int)}:=⟨rfl,rfl,rfl,rfl,Si⟩;have hrf:=Ju (p:=(BV s.buf).1) p1 Om;unfold PS.footer;split
  ·split
   ·split
    ·exact⟨h.to hK ho h.ml h.ln h.b0 h.b1 (by(try simp only[]);omega) (by(try simp only[]);omega) h.a0 h.a1 h.z0 h.z1,hK,Si,Si⟩
    ·exact⟨h,Kp.refl s,Si,Si⟩
   ·exact⟨h,Kp.refl s,by(try simp only[]);omega,by(try simp only[]);omega⟩
  ·exact⟨h,Kp.refl s,by(try simp only[]);omega,by(try simp only[]);omega⟩
 ·have hK:Kp s {s with ph:=4}:=⟨rfl,rfl,rfl,rfl,Si⟩;unfold PS.trailer;split
  ·exact⟨h,Kp.refl s,Si,Si⟩
  ·split
   ·exact⟨h.to hK ho h.ml h.ln h.b0 h.b1 h.t0 h.t1 h.a0 h.a1 h.z0 h.z1,hK,Si,Si⟩
   ·exact⟨h,Kp.refl s,Si,Si⟩
 ·exact⟨h,Kp.refl s,by simp[PS.rest],by simp[PS.rest]⟩
def La {s:PS} (h:CX s) {c:Int} (hc:0≤c∧c<256) (hf:s.fed+1≤1000000):CX (s.add c)∧((s.add c).out.length:Int)+2≤2*(s.add c).fed:=by
 have bl:=h.bl;have ol:=h.ol;have f1:=h.f1;refine⟨⟨λx hx=>?_,by simp[PS.add];omega,h.f0,by show s.fst≤s.fed+1;omega,hf,by show(s.out.length:Int)≤2*(s.fed+1);omega,h.ml,h.ln,h.b0,h.b1,h.t0,h.t1,h.a0,h.a1,h.z0,h.z1⟩,by show(s.out.length:Int)+2≤2*(s.fed+1);omega⟩;rcases mem_append.1 hx with hx|hx
 ·exact h.bb x hx
 ·simp at hx;subst hx;exact hc
def WA {s:PS} (h:CX s) {c:Int} (hc:0≤c∧c<256) (hf:s.fed+1≤1000000):CX (s.one c)∧(s.one c).fed=s.fed+1∧(s.nild c=true->(s.one c).buf=[])∧(s.nild c=false->s.one c=(s.add c).step.1):=by
 have⟨a1,a2⟩:=La h hc hf;have⟨s1,s2,_,_⟩:=J0 a1 Om;have e1:(s.add c).fed=s.fed+1:=rfl;have e2:=s2.fed;have e3:=s2.out;have f0:=s1.f0;have f1:=s1.f1;have f2:=s1.f2;unfold PS.one PS.fin PS.nild;by_cases hz:(s.add c).step.2.2.1=0
 ·rw[if_pos hz];by_cases hw:(s.add c).step.2.1=true
  ·rw[if_pos hw];refine⟨⟨λx hx=>by simp at hx,by simp;omega,by(try simp only[]);omega,by(try simp only[]);omega,f2,by(try simp only[]);omega,s1.ml,s1.ln,s1.b0,s1.b1,s1.t0,s1.t1,s1.a0,s1.a1,s1.z0,s1.z1⟩,by(try simp only[]);omega,λ_=>rfl,λh=>?_⟩;rw[hw]at h;simp at h
  ·rw[if_neg hw];refine⟨s1,Om,λh=>?_,λ_=>rfl⟩;rw[hz]at h;simp at h;exact absurd h hw
 ·rw[if_neg hz];refine⟨⟨λx hx=>by simp at hx,by simp;omega,f0,f1,f2,by simp only[length_append,length_singleton];omega,s1.ml,s1.ln,s1.b0,s1.b1,s1.t0,s1.t1,s1.a0,s1.a1,s1.z0,s1.z1⟩,by(try simp only[]);omega,λ_=>rfl,λh=>?_⟩;have h':(((s.add c).step.2.2.1==0)=false):=Sx hz
  rw[h']at h;simp at h
def PS.feedS (s:PS):List Int->Option Nat->PS×Option Nat
 |[],st=>(s,st)
 |c::l,st=>if s.ended=0 then(s.one c).feedS l (if s.nild c=true then some (st.getD (s.buf.length+1))else st)else(s,st)
def P0:∀(l:List Int) (s:PS) (st:Option Nat),(s.feedS l st).1=s.feed l:=by
 intro l
 induction l with
 |nil=>intro s st;rfl
 |cons c l ih=>
  intro s st;simp only[PS.feedS,PS.feed];split
  ·exact ih _ _
  ·rfl
def Y8:∀(l:List Int) (s:PS),CX s->A7 l->s.fed+l.length≤1000000->CX (s.feed l)∧(s.feed l).fed≤s.fed+l.length:=by
 intro l
 induction l with
 |nil=>intro s h _ hn;exact⟨h,by simp[PS.feed]⟩
 |cons c l ih=>
  intro s h hb hn;simp only[PS.feed];rw[length_cons]at hn ⊢;split
  ·have⟨o1,o2,_,_⟩:=WA h (hb c Si) Om;have⟨i1,i2⟩:=ih (s.one c) o1 (λx hx=>hb x (by simp[hx])) Om;exact⟨i1,Om⟩
  ·exact⟨h,Om⟩
theorem gQ (b:List Int) (x y:Nat) (h:x≤y):b.take x++(b.drop x).take (y-x)=b.take y:=by
 rw[←take_add,show x+(y-x)=y by omega]
theorem lU {b:List Int} {x y:Nat} (h:x<y):G6 (b.take x) ⟨(b.drop x).take (y-x),0,0⟩=b.take y:=by
 show CD (b.take x++(b.drop x).take (y-x)) 0 0=_;rw[gQ b x y Om];rfl
def Yh {b:List Int} {a off:Nat} (h0:1≤off) (h1:off≤a):∀n,a+n≤b.length->(∀i,i<n->b.getD (a+i) 0=b.getD (a+i-off) 0)->CD (b.take a) off n=b.take (a+n):=by
 intro n
 induction n with
 |zero=>intro _ _;rfl
 |succ n ih=>
  intro hn he;have h2:=ih Om λi hi=>he i Om
  rw[JP,h2];have hl:(b.take (a+n)).length=a+n:=by rw[length_take];omega
  have e1:(b.take (a+n)).getD (a+n-off) 0=b.getD (a+n) 0:=by
   rw[he n Om];simp[getElem?_take,show a+n-off<a+n by omega]
  rw[hl,e1,show a+(n+1)=a+n+1 by omega,take_succ_eq_append_getElem (show a+n<b.length by omega)];simp[show a+n<b.length by omega]
def qK (b:List Int) (hb:b.length≤1048576):∀(f a x i:Nat),x≤a->b.length≤f+a->a≤b.length->C8 b.length (Gb b f a x) i (b.take x)=(b,(0,0)):=by
 have hrun:∀x i:Nat,x≤b.length->∀r y,x≤y->y≤b.length->(∀i,C8 b.length r i (b.take y)=(b,(0,0)))->C8 b.length (EF b x y++r) i (b.take x)=(b,(0,0)):=by
  intro x i hx r y hxy hy hr;unfold EF;by_cases h:x<y
  ·rw[if_pos h,singleton_append,C8];have hl:((b.drop x).take (y-x)).length=y-x:=by rw[length_take,length_drop];omega
   have hrt:(⟨(b.drop x).take (y-x),0,0⟩:Tk).right=true:=DK.2 (.inl (Dn.2 ⟨rfl,rfl,by rw[hl];omega,by rw[hl];omega⟩));have hm:(⟨(b.drop x).take (y-x),0,0⟩:Tk).made=((y-x:Nat):Int):=by
    unfold Tk.made;rw[if_pos (Dn.2 ⟨rfl,rfl,by rw[hl];omega,by rw[hl];omega⟩),hl]
   have hw:Gz ⟨(b.drop x).take (y-x),0,0⟩ ((b.take x).length:Nat) (b.length:Nat)=0:=by
    unfold Gz;rw[hrt,if_neg De,hm,length_take,if_neg Om,if_neg (by(try simp only[]);omega)]
   rw[if_pos hw,lU h];exact hr _
  ·rw[if_neg h,nil_append];obtain rfl:x=y:=Om
   exact hr _
 have hend:∀x i:Nat,x≤b.length->C8 b.length (EF b x b.length) i (b.take x)=(b,(0,0)):=λx i hx=>by
  have:=hrun x i hx [] b.length hx (Nat.le_refl _) λi=>by simp[C8]
  rwa[append_nil]at this
 intro f
 induction f with
 |zero=>intro a x i h1 h2 h3;exact hend x i Om
 |succ f ih=>
  intro a x i h1 h2 h3;have hok:=Kx b a;rw[Gb];split
  ·exact hend x i Om
  ·split
   ·exact ih (a+1) x i Om Om Om
   ·rename_i hz;have hl:=hok.1.len;have h0:=hok.1.n0;have hm:=hok.1.most;have ho:=hok.1.off Om;have heq:=hok.1.eq;rw[append_assoc];refine hrun x i Om _ a h1 h3 λi=>?_
    rw[singleton_append,C8];have hcp:(⟨[],(BO b a).1,(BO b a).2⟩:Tk).copy=true:=Cy.2 ⟨rfl,by(try simp only[]);omega,by(try simp only[]);omega,by(try simp only[]);omega,by(try simp only[]);omega⟩;have hrt:(⟨[],(BO b a).1,(BO b a).2⟩:Tk).right=true:=DK.2 (.inr hcp);have hnr:(⟨[],(BO b a).1,(BO b a).2⟩:Tk).run=false:=by
     cases hr:(⟨[],(BO b a).1,(BO b a).2⟩:Tk).run with
     |false=>rfl
     |true=>have:=CI hr;rw[hcp]at this;cases this
    have hmd:(⟨[],(BO b a).1,(BO b a).2⟩:Tk).made=(BO b a).2:=by
     unfold Tk.made;rw[hnr,if_neg De,if_pos hcp]
    have hta:(b.take a).length=a:=by rw[length_take];omega
    have hw:Gz ⟨[],(BO b a).1,(BO b a).2⟩ ((b.take a).length:Nat) (b.length:Nat)=0:=by
     unfold Gz;rw[hrt,if_neg De,hmd,hta,if_neg Om,if_neg (by(try simp only[]);omega)]
    rw[if_pos hw];have hex:G6 (b.take a) ⟨[],(BO b a).1,(BO b a).2⟩=b.take (a+(BO b a).2.toNat):=by
     show CD (b.take a++[]) (BO b a).1.toNat (BO b a).2.toNat=_;rw[append_nil];refine Yh Om Om _ Om λj hj=>heq j Om
    rw[hex];exact ih _ _ _ (Nat.le_refl _) Om Om
def aL {b:List Int} (hn:b.length≤1048576) (hb:A7 b) {bound:Int} (hbd:(b.length:Int)≤bound) (hp:(A9 b).length≤140737488355328):Ei bound (RS.new (A9 b)) []=(b,(0,0)):=by
 have h1:=qK b hn b.length 0 0 0 (Nat.le_refl _) Om Om;rw[take_zero]at h1;have hok:An (RS.new (A9 b)):=An.new (M1 hn hb) hp;have h2:=UF (b0:=b.length) (bound:=bound) (W:=b) (EX b) (RS.new (A9 b)) [] 0 hok rfl (λt ht=>J7 b hb _ _ _ t ht) (BB _) h1 (λ_=>by simp;omega);exact h2.2.2 hbd
def IF {s:RS} (h:An s) (hc:s.code=0) {x:Int} {r:List Int} (hr:s.rest=x::r):s.byte=(s.adv 1,x):=by
 have hl:=EI s h.at0 h.at1;rw[hr,length_cons]at hl;have hsk:s.skip 1=(s.adv 1,true):=by
  unfold RS.skip;rw[if_pos hc,if_neg De,if_neg (by unfold RS.left;omega)];rfl
 unfold RS.byte;rw[hsk];simp only[if_true];have e:s.l.getD s.at_.toNat 0=x:=by
  unfold RS.rest at hr;have:=congrArg (λl=>l.getD 0 0) hr;simpa using this
 rw[e]
def gE {s:RS} (h:An s) (hc:s.code=0) {d r:List Int} (hd:A7 d) (hn:d.length≤1048576) (hp:FY d=true) (hr:s.rest=vb ((A9 d).length:Int)++A9 d++r):s.unpk d.length=(s.adv ((vb ((A9 d).length:Int)++A9 d).length:Int),d):=by
 have hpk:((vb ((A9 d).length:Int)).length:Int)+(A9 d).length<d.length:=by simpa[FY]using hp
 have hb:=Vc h hc (b:=A9 d) (r:=r) (m:=1048576) Om Om (by rw[hr];simp only[Dd]);have hx:=aL hn hd (Int.le_refl _) Om;unfold RS.unpk;rw[hb];simp only[];rw[hx];have hac:(s.adv ((Dd (A9 d)).length:Int)).code=0:=hc;rw[if_pos hac,if_pos rfl,if_neg Si];rfl
def tN {s:RS} (h:An s) (hc:s.code=0) {d r:List Int} (hd:A7 d) (hn:d.length≤1048576) (hr:s.rest=CW d++r):s.blk=(s.adv ((CW d).length:Int),d):=by
 obtain⟨w,hw⟩:∃w,(if FY d=true then[(1:Int)]++(vb ((A9 d).length:Int)++A9 d)else[0]++d)=w:=⟨_,rfl⟩;have eb:CW d=vb d.length++w:=by unfold CW;rw[hw]
 have hr1:s.rest=vb d.length++(w++r):=by rw[hr,eb,append_assoc]
 have hi:=Ec hc (by omega:(0:Int)≤(d.length:Int)) (by omega:(d.length:Int)≤1048576) Om hr1;have ok1:=Bl h hr1;have rs1:(s.adv ((vb d.length).length:Int)).rest=w++r:=by rw[AW h.at0,hr1,drop_left]
 obtain⟨s1,hs1⟩:∃s1,s.adv ((vb (d.length:Int)).length:Int)=s1:=⟨_,rfl⟩;have hc1:s1.code=0:=by rw[←hs1];exact hc
 rw[hs1]at hi ok1 rs1;have key:s.bdat=(s.adv ((CW d).length:Int),d):=by
  unfold RS.bdat RS.bway;rw[hi];simp only[];cases hp:FY d with
  |true=>
   rw[hp,if_pos rfl]at hw;have rs2:s1.rest=1::((vb ((A9 d).length:Int)++A9 d)++r):=by rw[rs1,←hw];simp
   have hby:=IF ok1 hc1 rs2;have ok2:=Bl ok1 (a:=[1]) (r:=(vb ((A9 d).length:Int)++A9 d)++r) (by rw[rs2,singleton_append]);have rs3:(s1.adv 1).rest=vb ((A9 d).length:Int)++A9 d++r:=by
    have:=AW ok1.at0 1;rw[show((1:Nat):Int)=1 from rfl,rs2]at this;rw[this,drop_succ_cons,drop_zero]
   have hu:=gE (s:=s1.adv 1) ok2 hc1 hd hn hp rs3;rw[hby];simp only[];rw[if_pos (show(s1.adv 1).code=0 from hc1),if_neg De,if_pos trivial,hu,←hs1,Bs,Bs,eb,←hw];simp only[length_append,length_singleton];exact Prod.ext (congrArg s.adv Om) rfl
  |false=>
   rw[hp,if_neg De]at hw;have rs2:s1.rest=0::(d++r):=by rw[rs1,←hw];simp
   have hby:=IF ok1 hc1 rs2;have ok2:=Bl ok1 (a:=[0]) (r:=d++r) (by rw[rs2,singleton_append]);have rs3:(s1.adv 1).rest=d++r:=by
    have:=AW ok1.at0 1;rw[show((1:Nat):Int)=1 from rfl,rs2]at this;rw[this,drop_succ_cons,drop_zero]
   have ht:=Da (s:=s1.adv 1) ok2 hc1 rs3;rw[hby];simp only[];rw[if_pos (show(s1.adv 1).code=0 from hc1),if_pos trivial,ht,←hs1,Bs,Bs,eb,←hw];simp only[length_append,length_singleton];exact Prod.ext (congrArg s.adv Om) rfl
 have hsl:(s.l.drop s.at_.toNat).take (((CW d).length:Int)).toNat=CW d:=by
  show s.rest.take _=_;rw[hr,Int.toNat_natCast,take_left]
 have hL:s.blkL=(s.adv ((CW d).length:Int),(d,true)):=by
  unfold RS.blkL;rw[key];simp only[];rw[if_pos (show(s.adv ((CW d).length:Int)).code=0 from hc)];have e1:(s.adv ((CW d).length:Int)).at_-s.at_=((CW d).length:Int):=by show s.at_+_-s.at_=_;omega
  rw[e1,hsl];simp[Ca]
 unfold RS.blk;rw[hL];rfl
theorem pA (l:List En):R_ (Ht l)=(Ak l).length:=by
 induction l with
 |nil=>rfl
 |cons e l ih=>
  have e1:Ht (e::l)=(e.lk,(e.data.length:Int))::Ht l:=rfl;have e2:Ak (e::l)=e.data++Ak l:=by simp[Ak]
  rw[e1,R_,ih,e2,length_append];simp
theorem cL (a b:List En):Ak (a++b)=Ak a++Ak b:=by simp[Ak]
def wT {base:Int} {l:List En} (hl:oD l) (hr:∀i,i<l.length->Cw (base+i) (l.getD i B3)=true) (hs:(Ak l).length≤1048576) (hb:base+l.length≤4611686018427387904):Wf (CS base).nx [] (Ht l):=by
 have gen:∀(suf pre:List En),pre++suf=l->Wf (CS base).nx (Ht pre) (Ht suf):=by
  intro suf
  induction suf with
  |nil=>intro pre _;trivial
  |cons e suf ih=>
   intro pre h;have hlen:=congrArg List.length h;rw[length_append,length_cons]at hlen;have hg:l.getD pre.length B3=e:=by rw[←h];simp
   have h1:=hr pre.length Om;rw[hg]at h1;have hm:e∈l:=by rw[←h];simp
   have hj:=congrArg (λx=>(Ak x).length) h;simp only[cL,length_append]at hj;have hj2:(Ak (e::suf)).length=e.data.length+(Ak suf).length:=by simp[Ak]
   have hpl:(Ht pre).length=pre.length:=by simp[Ht]
   have e1:Ht (e::suf)=(e.lk,(e.data.length:Int))::Ht suf:=rfl;have e2:Ht pre++[(e.lk,(e.data.length:Int))]=Ht (pre++[e]):=by simp[Ht]
   rw[e1];refine⟨⟨(hl e hm).lk,by rw[hpl];exact(DB.1 h1).1,Si,by rw[pA];simp only[];omega,by rw[hpl];omega⟩,?_⟩;rw[e2];exact ih (pre++[e]) (by rw[append_assoc,singleton_append];exact h)
 exact gen l [] rfl
theorem tC:∀(hs hs':List En) (ns d:List Int) (acc:List En),hs.map (·.lk)=hs'.map (·.lk)->DY hs ns d acc=DY hs' ns d acc:=by
 intro hs
 induction hs with
 |nil=>
  intro hs' ns d acc h;cases hs' with
  |nil=>rfl
  |cons e' hs'=>simp at h
 |cons e hs ih=>
  intro hs' ns d acc h;cases hs' with
  |nil=>simp at h
  |cons e' hs'=>
   simp only[map_cons,List.cons.injEq]at h;cases ns with
   |nil=>rfl
   |cons n ns=>
    simp only[DY];split
    ·rfl
    ·rw[h.1];exact ih _ _ _ _ h.2
theorem UX (l:List En):Fm (KB (Ht l)) (Mb (Ht l)) (Ak l)=(l,true):=by
 have e1:Mb (Ht l)=l.map λe=>(e.data.length:Int):=by simp[Mb,Ht]
 have e2:(KB (Ht l)).length=l.length:=by simp[KB,Ht]
 unfold Fm;rw[e1,if_pos (by rw[e2,length_map]),tC (KB (Ht l)) l _ _ _ (by simp[KB,Ht]),eI];rfl
def U7 {s:RS} (h:An s) (hc:s.code=0) {b:Bt} {r:List Int} (hb:b.ok) (hr:Bw b=true) (hrest:s.rest=Bk b++r):s.btch RS.blk=(s.adv ((Bk b).length:Int),b):=by
 have⟨r1,⟨⟨r2,r2'⟩,r3,r4⟩,r5,r6⟩:=BW.1 hr;have b0:=hb.b0;have q1:s.rest=vb b.ep++(vb b.base++(vb b.en.length++(JF b.base b.en++(CW (Ak b.en)++r)))):=by rw[hrest];unfold Bk;simp only[append_assoc]
 have p1:=HE hc hb.e0 hb.e1 (BS.2 r1) q1;have o1:=Bl h q1;have q2:(s.adv ((vb b.ep).length:Int)).rest=vb b.base++(vb b.en.length++(JF b.base b.en++(CW (Ak b.en)++r))):=by rw[AW h.at0,q1,drop_left]
 obtain⟨s1,e1⟩:∃s1,s.adv ((vb b.ep).length:Int)=s1:=⟨_,rfl⟩;rw[e1]at p1 o1 q2;have c1:s1.code=0:=by rw[←e1];exact hc
 have p2:=HE c1 hb.b0 hb.b1 (Ew.2 r3) q2;have o2:=Bl o1 q2;have q3:(s1.adv ((vb b.base).length:Int)).rest=vb b.en.length++(JF b.base b.en++(CW (Ak b.en)++r)):=by rw[AW o1.at0,q2,drop_left]
 obtain⟨s2,e2⟩:∃s2,s1.adv ((vb b.base).length:Int)=s2:=⟨_,rfl⟩;rw[e2]at p2 o2 q3;have c2:s2.code=0:=by rw[←e2];exact c1
 have p3:=Ec c2 (by omega:(0:Int)≤(b.en.length:Int)) (by omega:(b.en.length:Int)≤16) Om q3;have o3:=Bl o2 q3;have q4:(s2.adv ((vb (b.en.length:Int)).length:Int)).rest=JF b.base b.en++(CW (Ak b.en)++r):=by rw[AW o2.at0,q3,drop_left]
 obtain⟨s3,e3⟩:∃s3,s2.adv ((vb (b.en.length:Int)).length:Int)=s3:=⟨_,rfl⟩;rw[e3]at p3 o3 q4;have c3:s3.code=0:=by rw[←e3];exact c2
 have hwf:=wT hb.en r6 r5 r4;have p4:=TB (L_ b0) (Ht b.en) [] s3 o3 c3 trivial hwf (m:=CW (Ak b.en)++r) q4;have hhl:(Ht b.en).length=b.en.length:=by simp[Ht]
 rw[hhl,nil_append]at p4;have o4:=Bl o3 q4;have q5:(s3.adv ((JF b.base b.en).length:Int)).rest=CW (Ak b.en)++r:=by rw[AW o3.at0,q4,drop_left]
 have p4':(CS b.base).many b.en.length s3 []=(s3.adv ((JF b.base b.en).length:Int),Ht b.en):=p4;obtain⟨s4,e4⟩:∃s4,s3.adv ((JF b.base b.en).length:Int)=s4:=⟨_,rfl⟩;rw[e4]at p4' o4 q5;have c4:s4.code=0:=by rw[←e4];exact c3
 have p5:=tN o4 c4 (T6 hb.en) r5 q5;have hbd:s.bthd=(s3,(b.ep,(b.base,(b.en.length:Int)))):=by
  unfold RS.bthd;rw[p1];simp only[];rw[p2];simp only[];rw[p3];simp only[];rw[if_pos (GZ.2 ⟨⟨Om,Om⟩,r3,r4⟩)]
 have hbe:s.bthe=(s4,Ht b.en):=by
  unfold RS.bthe;rw[hbd];simp only[Int.toNat_natCast];exact p4'
 have hfi:RS.btfi s.bthe.1 s.bthe.2 (RS.blk s.bthe.1)=s4.adv ((CW (Ak b.en)).length:Int):=by
  unfold RS.btfi;rw[hbe];simp only[];rw[p5];simp only[];rw[UX,if_pos rfl]
 unfold RS.btch;rw[hfi,hbd,hbe];simp only[];rw[p5];simp only[];rw[UX,if_pos c3,if_pos (show(s4.adv ((CW (Ak b.en)).length:Int)).code=0 from c4)];have ead:s4.adv ((CW (Ak b.en)).length:Int)=s.adv ((Bk b).length:Int):=by
  rw[←e4,←e3,←e2,←e1,Bs,Bs,Bs,Bs];have hl:(Bk b).length=(vb b.ep).length+((vb b.base).length+((vb (b.en.length:Int)).length+((JF b.base b.en).length+(CW (Ak b.en)).length))):=by unfold Bk;simp only[length_append]
  exact congrArg s.adv (by rw[hl];omega)
 rw[ead]
def Qa {α:Type} {R:RS->RS×α} {z x:α} {k:Int} {p r:List Int} (hk:0≤k∧k<256) (hp:A7 p) (hr:A7 r) (hn:(Ad (k::p)++r).length≤140737488355328) (hm:p.length+1≤2097152)
 (hR:∀q,An q->q.code=0->q.rest=p->R q=(q.adv (p.length:Int),x)):BN R z k (Ad (k::p)++r)=(x,((Ad (k::p)).length:Int),(0,0)):=by
 have hb:A7 (k::p):=λy hy=>by rcases mem_cons.1 hy with rfl|hy;exact hk;exact hp y hy
 have hg:=Ui (m:=2097152) hb hr hn (by rw[length_cons];unfold CN;omega);have hok:An (RS.new (k::p)):=An.new hb (by rw[length_cons];omega);have hby:=IF hok rfl (BB (k::p));have ok1:=Bl hok (a:=[k]) (r:=p) (by rw[BB,singleton_append]);have rs1:((RS.new (k::p)).adv 1).rest=p:=by
  have:=AW hok.at0 1;rw[show((1:Nat):Int)=1 from rfl,BB]at this;rw[this,drop_succ_cons,drop_zero]
 have hRq:=hR ((RS.new (k::p)).adv 1) ok1 rfl rs1;have hkr:DV k (k::p)=(RS.new (k::p)).adv 1:=by
  unfold DV;rw[hby];simp only[if_true]
 have h9:(((RS.new (k::p)).adv 1).adv (p.length:Int)).rest9=((RS.new (k::p)).adv 1).adv (p.length:Int):=by
  unfold RS.rest9;rw[if_neg];intro h;have h2:(((RS.new (k::p)).adv 1).adv (p.length:Int)).left=((k::p).length:Int)-(0+1+p.length):=rfl;rw[length_cons]at h2;omega
 unfold BN;rw[hg];simp only[if_true];rw[hkr,hRq];simp only[];rw[h9,if_pos (show(((RS.new (k::p)).adv 1).adv (p.length:Int)).code=0 from rfl)]
theorem WH:∀(l:List Bt) (a:Int) (i:Nat),i<l.length->(C6 a l).getD i CU=⟨(l.getD i Cj).base,(l.getD i Cj).en.length,a+(BA (l.take i)).length⟩:=by
 intro l
 induction l with
 |nil=>intro a i h;simp at h
 |cons b l ih=>
  intro a i h;cases i with
  |zero=>simp[C6,BA]
  |succ i=>
   simp only[length_cons]at h;simp only[C6,getD_cons_succ,take_succ_cons,E4,length_append];rw[ih _ i Om];simp only[Mk.mk.injEq,true_and];omega
structure Vy (g:GH):Prop where
 right:C4 g=true
 ok:∀b∈g.bt,b.ok
 len:∀b∈g.bt,(Bk b).length+1≤2097152
def uK (b:Bt):Prop:=b.ok∧Bw b=true∧(Bk b).length+1≤2097152
theorem Vy.mem {g:GH} (h:Vy g):∀b∈g.bt,uK b:=λb hb=>by
 obtain⟨i,hi,rfl⟩:=getElem_of_mem hb;have h1:=((BD.1 h.right).2.2 i hi).1;have e:g.bt.getD i Cj=g.bt[i]:=by simp[hi]
 rw[e]at h1;exact⟨h.ok _ hb,h1,h.len _ hb⟩
theorem Vy.b {g:GH} (h:Vy g) {i:Nat} (hi:i<g.bt.length):uK (g.bt.getD i Cj):=h.mem _ (by simp[hi])
def Ny (ep:Int):9≤(Ai ⟨3,ep,0⟩).length∧(Ai ⟨3,ep,0⟩).length≤40:=by
 have h1:=Et ⟨3,ep,0⟩;have h2:=(A4 ep).2;have h3:(AE ⟨3,ep,0⟩).length=5+(vb ep).length:=by unfold AE Br;simp;omega
 omega
def Rf {b:Bt} (h:uK b):((Ad (1::Bk b)).length:Int)≤2200000∧0<(Ad (1::Bk b)).length:=by
 have h1:=h.2.2;have h2:=Bb (1::Bk b);simp only[length_cons]at h2;omega
def mX {l:List Bt} (h:∀b∈l,uK b):((BA l).length:Int)≤2200000*l.length:=by
 induction l with
 |nil=>simp[BA]
 |cons b l ih=>
  have h1:=ih λx hx=>h x (by simp[hx])
  have h2:=Rf (h b Si);rw[E4,length_append,length_cons];omega
theorem Vy.marks {g:GH} (h:Vy g):AR (BU g)=true:=by
 have⟨h1,h2,h3⟩:=BD.1 h.right;have hl:=Ny g.ep;unfold AR;rw[Bool.and_eq_true,decide_eq_true_eq];refine⟨MQ g.bt 0 0 _ (Lh h.right h.ok) Om (λb hb=>Rf (h.mem b hb)) Om,?_⟩;unfold BU;rw[Dg];exact h2
theorem Vy.lens {g:GH} (h:Vy g):(DJ g).length≤35200040∧9≤(DJ g).length∧(Ad (2::AJ (BU g))).length≤600∧1≤(Ad (2::AJ (BU g))).length:=by
 have⟨h1,h2,h3⟩:=BD.1 h.right;have hl:=Ny g.ep;have hb:=mX h.mem;have hp:(DJ g).length=(Ai ⟨3,g.ep,0⟩).length+(BA g.bt).length:=by unfold DJ;rw[length_append]
 have hm:=(C7 (BU g)).1;have hm2:=(Bd.1 h.marks).2;have hf:=Bb (2::AJ (BU g));simp only[length_cons]at hf;omega
theorem Vy.foot {g:GH} (h:Vy g):Aw (B2 g)=true∧(B2 g).ok:=by
 have⟨h1,h2,h3⟩:=BD.1 h.right;have hl:=h.lens;exact Lu h.marks h1 Om Om
def Qd {l:List Bt} (h:∀b∈l,uK b):A7 (BA l):=by
 intro x hx;simp only[BA,mem_flatMap]at hx;have⟨b,hb,hx⟩:=hx;have h1:=(h b hb).2.2;exact DD (p:=1::Bk b) (λy hy=>by rcases mem_cons.1 hy with rfl|hy;decide;exact Ky (h b hb).1 (h b hb).2.1 y hy) (by rw[length_cons];omega) x hx
theorem gG {ep a n:Int} {l:List Mk}:Gg (Iu ep l a n) l=true:=by
 unfold Gg Iu;simp
theorem rK {g:GH} (h:Vy g):Im (CB g)=((B2 g,((DJ g++Ad (2::AJ (BU g))).length:Int),BU g),(0,0)):=by
 have⟨hf1,hf2⟩:=h.foot;have⟨l1,l2,l3,l4⟩:=h.lens;have hm2:=(Bd.1 h.marks).2;have hff:=lJ (pre:=DJ g++Ad (2::AJ (BU g))) hf2 hf1;have ea:(B2 g).at_=(DJ g).length:=rfl;have es:(B2 g).size=(Ad (2::AJ (BU g))).length:=rfl;have hmid:LO (CB g) (B2 g).at_ ((B2 g).at_+(B2 g).size)=Ad (2::AJ (BU g))++[]:=by
  show((CB g).drop (B2 g).at_.toNat).take ((B2 g).at_+(B2 g).size-(B2 g).at_).toNat=_;rw[ea,es,append_nil,Int.toNat_natCast,show(((DJ g).length:Int)+((Ad (2::AJ (BU g))).length:Int)-(DJ g).length).toNat=(Ad (2::AJ (BU g))).length by omega];unfold CB;rw[append_assoc,drop_left,take_left]
 have hml:=(C7 (BU g)).1;have hx:JE (CB g) (B2 g)=(BU g,((Ad (2::AJ (BU g))).length:Int),(0,0)):=by
  show BN RS.marks [] 2 (LO (CB g) (B2 g).at_ ((B2 g).at_+(B2 g).size))=_;rw[hmid];exact Qa De (FZ (Bd.1 h.marks).1 Om) (λx hx=>by simp at hx) (by rw[append_nil];omega) Om λq hq hc hr=>PB hq hc h.marks (r:=[]) (by rw[append_nil];exact hr)
 have hif:KX (CB g) (B2 g)=(0,0):=by
  unfold KX;rw[hx];simp only[if_true];rw[if_neg (by rw[es];omega),if_neg (by rw[show Gg (B2 g) (BU g)=true from gG];decide)]
 unfold Im;rw[show A0 (CB g)=(B2 g,((DJ g++Ad (2::AJ (BU g))).length:Int),(0,0))from hff];simp only[if_true];rw[if_neg (by rw[ea,es,length_append];omega),hif];simp only[if_true];rw[hx]
theorem SJ {g:GH} {i:Nat} (hi:i<g.bt.length):(BU g).getD i CU=⟨(g.bt.getD i Cj).base,(g.bt.getD i Cj).en.length,(Ai ⟨3,g.ep,0⟩++BA (g.bt.take i)).length⟩:=by
 unfold BU;rw[WH _ _ i hi,length_append];simp
def nB {g:GH} (h:Vy g) {i:Nat} (hi:i<g.bt.length):JO (CB g) ((BU g).getD i CU) (B2 g).at_=(g.bt.getD i Cj,(0,0)):=by
 have⟨hb,hr,hbl⟩:=h.b hi;have⟨l1,l2,l3,l4⟩:=h.lens;rw[SJ hi];have⟨b,hbb⟩:=Ex (g.bt.getD i Cj);rw[hbb]at hb hr hbl ⊢;have hsp:g.bt=g.bt.take i++b::g.bt.drop (i+1):=by
  have h1:g.bt.drop i=b::g.bt.drop (i+1):=by rw[drop_eq_getElem_cons hi,←hbb];simp[hi]
  rw[←h1,take_append_drop]
 have hbd:BA g.bt=BA (g.bt.take i)++(Ad (1::Bk b)++BA (g.bt.drop (i+1))):=by
  conv=>lhs;rw[hsp]
  simp[BA]
 have⟨A,hA⟩:=Ex (Ai ⟨3,g.ep,0⟩++BA (g.bt.take i));have hP:DJ g=A++(Ad (1::Bk b)++BA (g.bt.drop (i+1))):=by
  unfold DJ;rw[hbd,←hA,append_assoc]
 have hPl:(DJ g).length=A.length+((Ad (1::Bk b)).length+(BA (g.bt.drop (i+1))).length):=by rw[hP];simp only[length_append]
 have hfl:=Rf (b:=b) ⟨hb,hr,hbl⟩;have ea:(B2 g).at_=(DJ g).length:=rfl;rw[hA];have hmid:LO (CB g) (A.length:Int) (B2 g).at_=Ad (1::Bk b)++BA (g.bt.drop (i+1)):=by
  show((CB g).drop ((A.length:Int)).toNat).take ((B2 g).at_-A.length).toNat=_;rw[ea,Int.toNat_natCast,show(((DJ g).length:Int)-A.length).toNat=(Ad (1::Bk b)++BA (g.bt.drop (i+1))).length by rw[length_append];omega];unfold CB;rw[hP];simp only[append_assoc];rw[drop_left,←append_assoc,take_left]
 have hdb:=Qd (l:=g.bt.drop (i+1)) λx hx=>h.mem x (mem_of_mem_drop hx)
 have hx:LX (CB g) ⟨b.base,b.en.length,A.length⟩ (B2 g).at_=(b,((Ad (1::Bk b)).length:Int),(0,0)):=by
  show BN (λq=>q.btch RS.blk) Cj 1 (LO (CB g) (A.length:Int) (B2 g).at_)=_;rw[hmid];exact Qa De (Ky hb hr) hdb (by rw[length_append];omega) Om λq hq hc hrs=>U7 hq hc hb hr (r:=[]) (by rw[append_nil];exact hrs)
 unfold JO;rw[if_neg (by rw[ea];(try simp only[]);omega)];have hbf:X4 (CB g) ⟨b.base,b.en.length,A.length⟩ (B2 g).at_=(0,0):=by
  unfold X4;rw[hx];simp
 rw[hx,hbf];rfl
def dG {l:List Mk} (hr:AR l=true) {pos:Int} {i:Nat} (hi:i<l.length) (h:E9 pos (l.getD i CU)=true):Fz l pos=(l.getD i CU,true):=by
 have e:Iq (E9 pos) l=i:=by
  unfold Iq;rw[findIdx_eq hi];have hg:l.getD i CU=l[i]:=by simp[hi]
  refine⟨by rw[←hg];exact h,λj hj=>?_⟩;have hjl:j<l.length:=Om
  have hgj:l.getD j CU=l[j]:=by simp[hjl]
  cases hh:E9 pos l[j]with
  |false=>rfl
  |true=>
   rw[←hgj]at hh;have:=YZ hr hjl hi hh h;omega
 unfold Fz;rw[e,if_pos ⟨hr,hi⟩]
def TF {g:GH} (h:Vy g) {i k:Nat} (hi:i<g.bt.length) (hk:k<(g.bt.getD i Cj).en.length):HO (CB g) ((g.bt.getD i Cj).base+k)=((g.bt.getD i Cj).en.getD k B3,(0,0)):=by
 have hml:(BU g).length=g.bt.length:=by unfold BU;rw[Dg]
 have hfg:=dG h.marks (pos:=(g.bt.getD i Cj).base+k) (i:=i) Om (by
  rw[SJ hi,Kh];unfold Mk.fin;simp only[];omega)
 have hba:=nB h hi;unfold HO;rw[rK h];simp only[if_true];rw[hfg];simp only[];rw[if_neg De,hba];simp only[if_true];unfold atP;rw[if_pos Om];simp only[];rw[show((g.bt.getD i Cj).base+(k:Int)-(g.bt.getD i Cj).base).toNat=k by omega]
theorem Ph {s:RS} (h:¬s.code=0) (n:Int):s.take n=(s,[]):=by
 unfold RS.take RS.skip;rw[if_neg h];rfl
theorem Zx {s:RS} (h:¬s.code=0):s.vers=(s,0):=by
 unfold RS.vers;rw[Ph h,if_neg h]
theorem UJ {s:RS} (h:¬s.code=0) (ok:Int->Bool):s.epo ok=(s,0):=by
 unfold RS.epo;rw[H1 h,if_neg h]
theorem Xr {s:RS} (h:¬s.code=0) (v:Int):s.hbase v=(s,0):=by
 unfold RS.hbase;split
 ·exact UJ h _
 ·rfl
def YY {s u:RS} (h:s.hplain.1=u) (hu:¬u.code=0):s.header=(u,Nz):=by
 unfold RS.header RS.fixed;rw[h,Ph hu,if_neg hu]
def Y1 {s u:RS} {x:Int} (h:s.hbegin.1.epo Ae=(u,x)) (hu:¬u.code=0):s.header=(u,Nz):=by
 refine YY ?_ hu;unfold RS.hplain;rw[h,Xr hu]
def Y2 {s u:RS} (h:s.hbegin.1=u) (hu:¬u.code=0):s.header=(u,Nz):=Y1 (by rw[h,UJ hu]) hu
theorem PJ {s:RS} (h:An s):s.left=s.rest.length:=by
 have h0:=h.at0;have h1:=h.at1;unfold RS.left RS.rest;rw[length_drop];omega
def XM {s:RS} (h:s.code=0) (a:Int):(s.fail 1 a).code=1∧(s.fail 1 a).fat=a:=by
 unfold RS.fail;rw[if_pos h];exact⟨rfl,rfl⟩
def Xq {s:RS} {v:Int} {r:List Int} (hs:An s) (hc:s.code=0) (h1:1≤v∧v≤3) (e1:s.rest=Br++([v]++r)):s.hbegin=(s.adv 5,v)∧An (s.adv 5)∧(s.adv 5).rest=r:=by
 have t1:=Da hs hc e1;have t1':s.take 4=(s.adv 4,Br):=t1;have hl:s.lets=s.adv 4:=by unfold RS.lets;rw[t1'];simp
 have hs1:An (s.adv 4):=Bl hs e1;have e2:(s.adv 4).rest=[v]++r:=by
  have:=AW (s:=s) hs.at0 4;have e:s.adv ((4:Nat):Int)=s.adv 4:=rfl;rw[e,e1]at this;exact this
 have t2:=Da hs1 (show(s.adv 4).code=0 from hc) e2;have t2':(s.adv 4).take 1=((s.adv 4).adv 1,[v]):=t2;have e3:(s.adv 5).rest=r:=by
  have:=AW (s:=s.adv 4) hs1.at0 1;have e:(s.adv 4).adv ((1:Nat):Int)=s.adv 5:=by rw[Bs];rfl
  rw[e,e2]at this;exact this
 refine⟨?_,by have:=Bl hs1 e2;rw[Bs]at this;exact this,e3⟩;unfold RS.hbegin RS.vers;rw[hl,t2'];simp only[getD_cons_zero];rw[if_pos (show((s.adv 4).adv 1).code=0 from hc),if_pos h1,Bs];rfl
def IH (h:Hd):List Int:=if h.ver=1 then vb h.base else[]
def OK (h:Hd):Ai h=Br++([h.ver]++(vb h.ep++(IH h++Aj 4 (Bq (AE h))))):=by
 unfold Ai
 conv=>lhs;arg 1;unfold AE
 simp only[append_assoc];rfl
theorem QO (h:Hd):AE h=Br++([h.ver]++(vb h.ep++IH h)):=by
 unfold AE IH;simp only[append_assoc]
def Te (h:Hd):(AE h).length=5+((vb h.ep).length+(IH h).length):=by
 rw[QO];simp only[length_append,Br,length_cons,length_nil];omega
theorem Xm {h:Hd} (hr:Bv h=true) (hb:0≤h.base) {k:Nat} (hk:k<(Ai h).length):
 (RS.new ((Ai h).take k)).header.1.code=1∧(RS.new ((Ai h).take k)).header.1.fat=k∧
 (k<5->(RS.new ((Ai h).take k)).hbegin.1.code=1∧(RS.new ((Ai h).take k)).hbegin.1.fat=k)∧
 (5≤k->(RS.new ((Ai h).take k)).hbegin.1.code=0∧(RS.new ((Ai h).take k)).hbegin.2=h.ver):=by
 obtain⟨h1,h2,h3,h4⟩:=DA.1 hr;have hB:=Ip hr hb;have hlen:=Et h;have hpl:=Wo h;have hbl:((Ai h).take k).length=k:=by rw[List.length_take];omega
 have hok:An (RS.new ((Ai h).take k)):=An.new (λx hx=>hB x (List.mem_of_mem_take hx)) (by omega);have hparts:=OK h;by_cases k5:k<5
 ·have fin:∀u:RS,(RS.new ((Ai h).take k)).hbegin.1=u->u.code=1->u.fat=k->_:=λu e1 e2 e3=>by
   have e:=Y2 e1 (by rw[e2];decide);refine(⟨by rw[e];exact e2,by rw[e];exact e3,λ_=>by rw[e1];exact⟨e2,e3⟩,λh=>by omega⟩:(RS.new ((Ai h).take k)).header.1.code=1∧(RS.new ((Ai h).take k)).header.1.fat=k∧
    (k<5->(RS.new ((Ai h).take k)).hbegin.1.code=1∧(RS.new ((Ai h).take k)).hbegin.1.fat=k)∧
    (5≤k->(RS.new ((Ai h).take k)).hbegin.1.code=0∧(RS.new ((Ai h).take k)).hbegin.2=h.ver))
  by_cases k4:k<4
  ·have t:=Fd (s:=RS.new ((Ai h).take k)) (n:=4) rfl (by decide) (by rw[PJ hok,BB,hbl];omega);have hl1:(RS.new ((Ai h).take k)).l.length=k:=hbl;rw[hl1]at t;obtain⟨c1,c2⟩:=XM (s:=RS.new ((Ai h).take k)) rfl (k:Int);have hlt:(RS.new ((Ai h).take k)).lets=(RS.new ((Ai h).take k)).fail 1 k:=by
    unfold RS.lets;rw[t];simp only;rw[if_neg (by rw[c1];simp)]
   refine fin _ ?_ c1 c2;unfold RS.hbegin;rw[hlt,Zx (by rw[c1];decide)]
  ·obtain rfl:k=4:=by omega
   have e4:(Ai h).take 4=Br:=by rw[hparts];exact List.take_left' rfl
   rw[e4]at hok ⊢;have e1:(RS.new Br).rest=Br++[]:=by rw[BB,List.append_nil]
   have t1:=Da hok rfl e1;have t1':(RS.new Br).take 4=((RS.new Br).adv 4,Br):=t1;have hl:(RS.new Br).lets=(RS.new Br).adv 4:=by unfold RS.lets;rw[t1'];simp
   have hs1:An ((RS.new Br).adv 4):=Bl hok e1;have t2:=Fd (s:=(RS.new Br).adv 4) (n:=1) rfl (by decide) (by decide);have hl2:(((RS.new Br).adv 4).l.length:Int)=(4:Nat):=rfl;rw[hl2]at t2;obtain⟨c1,c2⟩:=XM (s:=(RS.new Br).adv 4) rfl ((4:Nat):Int);have hv:(RS.new Br).hbegin=(((RS.new Br).adv 4).fail 1 (4:Nat),0):=by
    unfold RS.hbegin RS.vers;rw[hl,t2];simp only;rw[if_neg (by rw[c1];decide)]
   have e:=Y2 (u:=((RS.new Br).adv 4).fail 1 (4:Nat)) (by rw[hv]) (by rw[c1];decide);rw[e,hv];exact⟨c1,c2,λ_=>⟨c1,c2⟩,λh=>by omega⟩
 ·obtain⟨j,rfl⟩:∃j,k=5+j:=⟨k-5,by omega⟩;obtain⟨Y,hY⟩:∃Y,vb h.ep++(IH h++Aj 4 (Bq (AE h)))=Y:=⟨_,rfl⟩;have e0:(Ai h).take (5+j)=Br++([h.ver]++Y.take j):=by
   have e:Ai h=(Br++[h.ver])++Y:=by rw[hparts,hY,List.append_assoc]
   have l5:(Br++[h.ver]).length=5:=rfl;rw[e,←l5,List.take_length_add_append,List.append_assoc]
  have hl1:(((RS.new ((Ai h).take (5+j))).l.length:Nat):Int)=((5+j:Nat):Int):=by rw[show(RS.new ((Ai h).take (5+j))).l=(Ai h).take (5+j)from rfl,hbl]
  obtain⟨w1,w2,w3⟩:=Xq hok rfl h1 (by rw[BB,e0]);have hbn:(RS.new ((Ai h).take (5+j))).hbegin.1.code=0∧(RS.new ((Ai h).take (5+j))).hbegin.2=h.ver:=by rw[w1];exact⟨rfl,rfl⟩
  suffices hx:(RS.new ((Ai h).take (5+j))).header.1.code=1∧(RS.new ((Ai h).take (5+j))).header.1.fat=((5+j:Nat):Int)from⟨hx.1,hx.2,λh=>by omega,λ_=>hbn⟩
  obtain⟨s5,hs5⟩:∃s5,(RS.new ((Ai h).take (5+j))).adv 5=s5:=⟨_,rfl⟩;have c5:s5.code=0:=by rw[←hs5];rfl
  have l5:((s5.l.length:Nat):Int)=((5+j:Nat):Int):=by rw[←hs5];exact hl1
  rw[hs5]at w1 w2 w3;by_cases je:j<(vb h.ep).length
  ·have r5:s5.rest=(vb h.ep).take j:=by rw[w3,←hY,List.take_append_of_le_length (by omega)]
   have hv:=Mj w2 c5 (x:=h.ep) (by omega) (by omega) je r5;have he:s5.epo Ae=({s5 with at_:=s5.l.length,code:=1,fat:=s5.l.length},0):=by
    unfold RS.epo;rw[hv];simp only;rw[if_neg (by decide)]
   have e:=Y1 (s:=RS.new ((Ai h).take (5+j))) (u:={s5 with at_:=s5.l.length,code:=1,fat:=s5.l.length}) (x:=0) (by rw[w1];exact he) (by show¬(1:Int)=0;decide);rw[e];exact⟨rfl,l5⟩
  ·have r5:s5.rest=vb h.ep++(IH h++Aj 4 (Bq (AE h))).take (j-(vb h.ep).length):=by
    rw[w3,←hY,List.take_append,List.take_of_length_le (by omega)]
   have he:=HE (ok:=Ae) c5 (by omega) (by omega) (BS.2 h2) r5;have k6:=Bl w2 r5;have r6:(s5.adv ((vb h.ep).length:Int)).rest=(IH h++Aj 4 (Bq (AE h))).take (j-(vb h.ep).length):=by rw[AW w2.at0,r5,List.drop_left]
   have l6:(((s5.adv ((vb h.ep).length:Int)).l.length:Nat):Int)=((5+j:Nat):Int):=l5;have c6:(s5.adv ((vb h.ep).length:Int)).code=0:=c5;generalize s5.adv ((vb h.ep).length:Int)=s6 at*;obtain⟨m,hm⟩:∃m,j-(vb h.ep).length=m:=⟨_,rfl⟩;rw[hm]at r6;have hpe:(RS.new ((Ai h).take (5+j))).hplain.1=(s6.hbase h.ver).1:=by
    unfold RS.hplain;rw[w1];simp only;rw[he]
   have last:∀s7:RS,(s6.hbase h.ver).1=s7->An s7->s7.code=0->((s7.l.length:Nat):Int)=((5+j:Nat):Int)->s7.rest.length<4->(RS.new ((Ai h).take (5+j))).header.1.code=1∧(RS.new ((Ai h).take (5+j))).header.1.fat=((5+j:Nat):Int):=λs7 e7 k7 c7 l7 r7=>by
    have t:=Fd (s:=s7) (n:=4) c7 (by decide) (by rw[PJ k7];omega);obtain⟨d1,d2⟩:=XM c7 (s7.l.length:Int);have e:(RS.new ((Ai h).take (5+j))).header=(s7.fail 1 s7.l.length,Nz):=by
     unfold RS.header RS.fixed;rw[hpe,e7,t];simp only;rw[if_neg (by rw[d1];decide)]
    rw[e];exact⟨d1,d2.trans l7⟩
   have hll:=Bo 4 (Bq (AE h));have hp5:=Te h;by_cases hv:h.ver=1
   ·have hbb:IH h=vb h.base:=by unfold IH;rw[if_pos hv]
    rw[hbb]at r6 hp5;by_cases jb:m<(vb h.base).length
    ·have r6':s6.rest=(vb h.base).take m:=by rw[r6,List.take_append_of_le_length (by omega)]
     have hv':=Mj k6 c6 (x:=h.base) hb (by omega) jb r6';have hep:s6.hbase h.ver=({s6 with at_:=s6.l.length,code:=1,fat:=s6.l.length},0):=by
      unfold RS.hbase;rw[if_pos hv];unfold RS.epo;rw[hv'];simp only;rw[if_neg (by decide)]
     have e:=YY (s:=RS.new ((Ai h).take (5+j))) (u:={s6 with at_:=s6.l.length,code:=1,fat:=s6.l.length}) (hpe.trans (by rw[hep])) (by show¬(1:Int)=0;decide);rw[e];exact⟨rfl,l6⟩
    ·have r6':s6.rest=vb h.base++(Aj 4 (Bq (AE h))).take (m-(vb h.base).length):=by rw[r6,List.take_append,List.take_of_length_le (by omega)]
     have hep:=HE (ok:=Bh) c6 hb (by omega) (Ew.2 h3) r6';refine last _ (by unfold RS.hbase;rw[if_pos hv,hep]) (Bl k6 r6') c6 l6 ?_;rw[AW k6.at0,r6',List.drop_left,List.length_take];omega
   ·have hbb:IH h=[]:=by unfold IH;rw[if_neg hv]
    rw[hbb,List.nil_append]at r6;rw[hbb,List.length_nil]at hp5;refine last s6 (by unfold RS.hbase;rw[if_neg hv]) k6 c6 l6 ?_;rw[r6,List.length_take];omega
def PS.hold (s:PS) (c:List Int) (k:Nat):PS:={s with buf:=c.take k,fed:=s.fed+k}
theorem Fi (s:PS) (c:List Int) (k:Nat):(s.hold c k).buf=c.take k:=rfl
theorem Gp (s:PS) (c:List Int) (k:Nat):(s.hold c k).ph=s.ph:=rfl
theorem cQ (s:PS) (c:List Int) (k:Nat):(s.hold c k).want=s.want:=rfl
theorem cR (s:PS) (c:List Int) (k:Nat):(s.hold c k).foot=s.foot:=rfl
def XH {s:PS} {c r:List Int} {t:PS} (he:s.ended=0) (hlen:0<c.length) (hcut:∀k,0<k->k<c.length->(s.hold c k).step=(s.hold c k,false,(0,0))) (hwhole:(s.hold c c.length).step=(t,true,(0,0))):
 ∀n k,k+n=c.length->0<n->(s.hold c k).feed (c.drop k++r)=({t with fst:=t.fed,buf:=[]}:PS).feed r:=by
 intro n
 induction n with
 |zero=>intro k _ h;omega
 |succ n ih=>
  intro k hk _;have hkl:k<c.length:=Om
  have hd:c.drop k=c.getD k 0::c.drop (k+1):=by
   rw[drop_eq_getElem_cons hkl];simp[hkl]
  have hadd:(s.hold c k).add (c.getD k 0)=s.hold c (k+1):=by
   unfold PS.hold PS.add;simp only[];rw[take_succ_eq_append_getElem hkl];congr 1
   ·simp[hkl]
   ·omega
  rw[hd,cons_append,PS.feed];rw[if_pos (show(s.hold c k).ended=0 from he)];unfold PS.one;rw[hadd];by_cases hlast:n=0
  ·subst hlast;have e:k+1=c.length:=Om
   rw[e,hwhole,drop_of_length_le Om,nil_append];rfl
  ·rw[hcut (k+1) Om Om];have:=ih (k+1) Om Om;rw[←this];rfl
def Hz {s:PS} {c r:List Int} {t:PS} (he:s.ended=0) (hb:s.buf=[]) (hlen:0<c.length) (hcut:∀k,0<k->k<c.length->(s.hold c k).step=(s.hold c k,false,(0,0))) (hwhole:(s.hold c c.length).step=(t,true,(0,0))):
 s.feed (c++r)=({t with fst:=t.fed,buf:=[]}:PS).feed r:=by
 have h:=XH (r:=r) he hlen hcut hwhole c.length 0 Om hlen;have e:s.hold c 0=s:=by
  unfold PS.hold;cases s;simp only[]at hb;subst hb;simp
 rw[e,drop_zero]at h;exact h
def Tn {p:List Int} (hp:A7 p) (hm:p.length≤2097152) {k:Nat} (hk:k<(Ad p).length):BV ((Ad p).take k)=([],0,false,(0,0)):=by
 have h:=cZ (m:=2097152) hp (by unfold CN;omega) hk;unfold BV;rw[h];split
 ·rfl
 ·rw[if_pos rfl]
def Tm {p:List Int} (hp:A7 p) (hm:p.length≤2097152):BV (Ad p)=(p,((Ad p).length:Int)-4-p.length,true,(0,0)):=by
 have hfl:=Bb p;have hfb:A7 (Ad p):=DD hp Om;have h:=Ui (p:=p) (r:=[]) (m:=2097152) hp (λx hx=>by simp at hx) (by rw[append_nil];omega) (by unfold CN;omega);rw[append_nil]at h;have hok:okF (Ad p) 2097152=true:=by
  unfold okF;have hc:(BI (Ad p) 2097152).2.2.1=0:=by rw[h]
  unfold BI at hc;by_cases h1:((RS.new (Ad p)).frame 2097152).1.code=0
  ·simp[h1]
  ·rw[if_neg h1]at hc;simp only[]at hc;exact absurd hc h1
 have hw:=(aW hfb Om hok).2.2;unfold BV;rw[h,if_neg (by rintro⟨_,h2⟩;omega),if_neg Si];rfl
theorem Uz {s:PS} {ep:Int} {r:List Int} (he:s.ended=0) (hb:s.buf=[]) (hp:s.ph=0) (hep:1≤ep∧ep<4611686018427387904):
 s.feed (Ai ⟨3,ep,0⟩++r)=({s with ph:=1,ep:=ep,fst:=s.fed+(Ai ⟨3,ep,0⟩).length,fed:=s.fed+(Ai ⟨3,ep,0⟩).length,buf:=[]}:PS).feed r:=by
 have hl:=Ny ep;have hH:=hd3 hep;have hB:=Ip hH (Int.le_refl 0);refine Hz he hb Om (λk h0 hk=>?_) ?_
  (t:={s with ph:=1,ep:=ep,buf:=Ai ⟨3,ep,0⟩,fed:=s.fed+(Ai ⟨3,ep,0⟩).length})
 ·have hc:=Xm hH (Int.le_refl 0) hk;have e:(Eu ((Ai ⟨3,ep,0⟩).take k)).2.2.1=1:=by
   unfold Eu;rw[if_neg (by rw[hc.1];decide)];exact hc.1
  unfold PS.step;rw[Gp,hp];simp only[];unfold PS.header;rw[Fi,if_pos e]
 ·have hok:An (RS.new (Ai ⟨3,ep,0⟩)):=An.new hB Om;have hw:=Xk hok rfl hH (Int.le_refl 0) (r:=[]) (by rw[BB,append_nil]);have e:Eu (Ai ⟨3,ep,0⟩)=(⟨3,ep,0⟩,((Ai ⟨3,ep,0⟩).length:Int),(0,0)):=by
   unfold Eu;rw[hw,if_pos (show((RS.new (Ai ⟨3,ep,0⟩)).adv ((Ai ⟨3,ep,0⟩).length:Int)).code=0 from rfl)];show(_,(0:Int)+_,_)=_;rw[Int.zero_add]
  have eb:(s.hold (Ai ⟨3,ep,0⟩) (Ai ⟨3,ep,0⟩).length).buf=Ai ⟨3,ep,0⟩:=by rw[Fi,take_length]
  unfold PS.step;rw[Gp,hp];simp only[];unfold PS.header;rw[eb,e];simp only[];rw[if_neg De];simp only[if_true];unfold PS.hold;simp only[take_length]
def Uv {s:PS} {p r:List Int} {t:PS} {q:RS} (he:s.ended=0) (hb:s.buf=[]) (hp:s.ph=1) (hbp:A7 p) (hm:p.length≤2097152) (ht:(s.hold (Ad p) (Ad p).length).takes p=((t,0),q)) (hq:q.code=0):
 s.feed (Ad p++r)=({t with fst:=t.fed,buf:=[]}:PS).feed r:=by
 have hfl:=Bb p;refine Hz he hb Om (λk h0 hk=>?_) ?_
 ·have hc:=Tn hbp hm hk;unfold PS.step;rw[Gp,hp];simp only[];unfold PS.record;rw[Fi,hc];rw[if_neg De]
 ·have hw:=Tm hbp hm;have eb:(s.hold (Ad p) (Ad p).length).buf=Ad p:=by rw[Fi,take_length]
  unfold PS.step;rw[Gp,hp];simp only[];unfold PS.record;rw[eb,hw];simp only[];rw[if_pos trivial,ht];simp only[];rw[if_pos hq];rfl
def SE {s:PS} {b:Bt} (hB:uK b) (hc:s.batC b=0):∃q,s.takes (1::Bk b)=((s.bat b,0),q)∧q.code=0:=by
 have hp:A7 (1::Bk b):=λy hy=>by rcases mem_cons.1 hy with rfl|hy;decide;exact Ky hB.1 hB.2.1 y hy
 have hn:=hB.2.2;have hok:An (RS.new (1::Bk b)):=An.new hp (by rw[length_cons];omega);have hby:=IF hok rfl (BB (1::Bk b));have ok1:=Bl hok (a:=[1]) (r:=Bk b) (by rw[BB,singleton_append]);have rs1:((RS.new (1::Bk b)).adv 1).rest=Bk b:=by
  have:=AW hok.at0 1;rw[show((1:Nat):Int)=1 from rfl,BB]at this;rw[this,drop_succ_cons,drop_zero]
 have hbt:=U7 (s:=(RS.new (1::Bk b)).adv 1) ok1 rfl hB.1 hB.2.1 (r:=[]) (by rw[rs1,append_nil]);have h9:(((RS.new (1::Bk b)).adv 1).adv ((Bk b).length:Int)).rest9=((RS.new (1::Bk b)).adv 1).adv ((Bk b).length:Int):=by
  unfold RS.rest9;rw[if_neg];intro h;have h2:(((RS.new (1::Bk b)).adv 1).adv ((Bk b).length:Int)).left=((1::Bk b).length:Int)-(0+1+(Bk b).length):=rfl;rw[length_cons]at h2;omega
 refine⟨((RS.new (1::Bk b)).adv 1).adv ((Bk b).length:Int),?_,rfl⟩;unfold PS.takes;rw[hby];simp only[if_true];unfold PS.batch;rw[hbt];simp only[];rw[h9,if_pos (show(((RS.new (1::Bk b)).adv 1).adv ((Bk b).length:Int)).code=0 from rfl),if_pos hc]
def SC {s:PS} (hM:AR s.ms=true):∃q,s.takes (2::AJ s.ms)=((s.idx s.ms,0),q)∧q.code=0:=by
 have h16:=(Bd.1 hM).2;have hbb:=FZ (Bd.1 hM).1 Om;have hml:=(C7 s.ms).1;have hp:A7 (2::AJ s.ms):=λy hy=>by rcases mem_cons.1 hy with rfl|hy;decide;exact hbb y hy
 have hok:An (RS.new (2::AJ s.ms)):=An.new hp (by rw[length_cons];omega);have hby:=IF hok rfl (BB (2::AJ s.ms));have ok1:=Bl hok (a:=[2]) (r:=AJ s.ms) (by rw[BB,singleton_append]);have rs1:((RS.new (2::AJ s.ms)).adv 1).rest=AJ s.ms:=by
  have:=AW hok.at0 1;rw[show((1:Nat):Int)=1 from rfl,BB]at this;rw[this,drop_succ_cons,drop_zero]
 have hbt:=PB (s:=(RS.new (2::AJ s.ms)).adv 1) ok1 rfl hM (r:=[]) (by rw[rs1,append_nil]);have h9:(((RS.new (2::AJ s.ms)).adv 1).adv ((AJ s.ms).length:Int)).rest9=((RS.new (2::AJ s.ms)).adv 1).adv ((AJ s.ms).length:Int):=by
  unfold RS.rest9;rw[if_neg];intro h;have h2:(((RS.new (2::AJ s.ms)).adv 1).adv ((AJ s.ms).length:Int)).left=((2::AJ s.ms).length:Int)-(0+1+(AJ s.ms).length):=rfl;rw[length_cons]at h2;omega
 refine⟨((RS.new (2::AJ s.ms)).adv 1).adv ((AJ s.ms).length:Int),?_,rfl⟩;unfold PS.takes;rw[hby];simp only[];rw[if_neg De,if_pos trivial];unfold PS.index;rw[hbt];simp only[];rw[h9,if_pos (show(((RS.new (2::AJ s.ms)).adv 1).adv ((AJ s.ms).length:Int)).code=0 from rfl),if_pos trivial]
def dK {s:PS} {r:List Int} (he:s.ended=0) (hb:s.buf=[]) (hp:s.ph=2) (hf:s.want.ok) (hr:Aw s.want=true):
 s.feed (Ad (Ba s.want)++r)=({s with ph:=3,foot:=(Ad (Ba s.want)).length,fst:=s.fed+(Ad (Ba s.want)).length,fed:=s.fed+(Ad (Ba s.want)).length,buf:=[]}:PS).feed r:=by
 have hpl:=Fg s.want;have hpb:=H_ hf hr;have hfl:=Bb (Ba s.want);refine Hz he hb Om (λk h0 hk=>?_) ?_
  (t:={s with ph:=3,foot:=(Ad (Ba s.want)).length,buf:=Ad (Ba s.want),fed:=s.fed+(Ad (Ba s.want)).length})
 ·have hc:=Tn hpb Om hk;unfold PS.step;rw[Gp,hp];simp only[];unfold PS.footer;rw[Fi,hc];rw[if_neg De]
 ·have hw:=Tm hpb Om;have eb:(s.hold (Ad (Ba s.want)) (Ad (Ba s.want)).length).buf=Ad (Ba s.want):=by rw[Fi,take_length]
  unfold PS.step;rw[Gp,hp];simp only[];unfold PS.footer;rw[eb,hw];simp only[];rw[if_pos trivial,MT hf hr];simp only[if_true,cQ];unfold PS.hold;simp only[take_length]
def XA {s:PS} (he:s.ended=0) (hb:s.buf=[]) (hp:s.ph=3):
 s.feed (A8 s.foot)={s with ph:=4,fst:=s.fed+12,fed:=s.fed+12,buf:=[]}:=by
 have htl:=Dw s.foot;have h:=Hz (s:=s) (c:=A8 s.foot) (r:=[]) (t:={s with ph:=4,buf:=A8 s.foot,fed:=s.fed+12}) he hb Om (λk h0 hk=>by
  have hk':((A8 s.foot).take k).length<12:=by rw[length_take];omega
  unfold PS.step;rw[Gp,hp];simp only[];unfold PS.trailer;rw[if_pos (show(s.hold (A8 s.foot) k).buf.length<12 from hk')]) (by
  have eb:(s.hold (A8 s.foot) (A8 s.foot).length).buf=A8 s.foot:=by rw[Fi,take_length]
  unfold PS.step;rw[Gp,hp];simp only[];unfold PS.trailer;rw[eb,htl,if_neg De,cR,if_pos rfl];unfold PS.hold;simp only[];rfl)
 rw[append_nil]at h;rw[h];rfl
def Fv (a:Int):List Bt->List Ev
 |[]=>[]
 |b::l=>.item a b::Fv (a+(Ad (1::Bk b)).length) l
theorem E8 (l:List Bt):∀a,(Fv a l).length=l.length:=by
 induction l with
 |nil=>intro a;rfl
 |cons b l ih=>intro a;simp[Fv,ih]
def Ue (s:PS) (c:List Int) (k:Nat):(s.hold c k).ms=s.ms∧(s.hold c k).ep=s.ep∧(s.hold c k).lep=s.lep∧(s.hold c k).lbase=s.lbase∧(s.hold c k).ln=s.ln∧(s.hold c k).fst=s.fst∧(s.hold c k).fed=s.fed+k∧(s.hold c k).out=s.out∧(s.hold c k).ended=s.ended∧(s.hold c k).ph=s.ph∧(s.hold c k).want=s.want∧(s.hold c k).foot=s.foot:=⟨rfl,rfl,rfl,rfl,rfl,rfl,rfl,rfl,rfl,rfl,rfl,rfl⟩
structure PR (ep a:Int) (pre:List Bt) (s:PS):Prop where
 ph:s.ph=1
 ended:s.ended=0
 buf:s.buf=[]
 ep:s.ep=ep
 ms:s.ms=C6 a pre
 fst:s.fst=a+(BA pre).length
 fed:s.fed=a+(BA pre).length
 last:¬pre=[]->s.lep=(BQ pre).ep∧s.lbase+s.ln=(BQ pre).base+(BQ pre).en.length
def dL {ep a:Int} {r:List Int}:∀(suf pre:List Bt) (s:PS),PR ep a pre s->pre.length+suf.length≤16->(∀b∈suf,uK b)->(∀i,i<suf.length->GF ep (pre++suf.take i) (suf.getD i Cj)=true)->
 ∃t,s.feed (BA suf++r)=t.feed r∧PR ep a (pre++suf) t∧t.out=s.out++Fv s.fst suf∧t.want=s.want∧t.foot=s.foot:=by
 intro suf
 induction suf with
 |nil=>intro pre s h _ _ _;exact⟨s,by simp[BA],by rw[append_nil];exact h,by simp[Fv],rfl,rfl⟩
 |cons b suf ih=>
  intro pre s h hn hb hf;have hB:=hb b Si;have hf0:=hf 0 Si;simp only[take_zero,append_nil,getD_cons_zero]at hf0;have⟨g1,g2⟩:=Uq.1 hf0;have hml:s.ms.length=pre.length:=by rw[h.ms,Dg]
  rw[length_cons]at hn;have hlen:=hB.2.2;have hbp:A7 (1::Bk b):=λy hy=>by rcases mem_cons.1 hy with rfl|hy;decide;exact Ky hB.1 hB.2.1 y hy
  have⟨H,hH⟩:=Ex (s.hold (Ad (1::Bk b)) (Ad (1::Bk b)).length);have⟨k1,k2,k3,k4,k5,k6,k7,k8,k9,k10,k11,k12⟩:=Ue s (Ad (1::Bk b)) (Ad (1::Bk b)).length;rw[hH]at k1 k2 k3 k4 k5 k6 k7 k8 k9 k10 k11 k12;have hbc:H.batC b=0:=by
   unfold PS.batC;rw[k1,k2,k3,k4,k5,if_neg Om,if_neg];rintro(h1|⟨h1,h2⟩)
   ·rw[h.ep]at h1;omega
   ·have hne:¬pre=[]:=by intro h3;rw[h3]at hml;have h4:s.ms.length=0:=hml;omega
    have⟨l1,l2⟩:=h.last hne;have hne':¬pre.length=0:=by intro h3;exact hne (eq_nil_of_length_eq_zero h3)
    rcases g2 with g2|g2
    ·exact hne' g2
    ·omega
  have⟨q,t1,t2⟩:=SE hB hbc;rw[←hH]at t1;have hfeed:=Uv (r:=BA suf++r) h.ended h.buf h.ph hbp (by rw[length_cons];omega) t1 t2;rw[hH]at hfeed;obtain⟨s1,hs1⟩:∃s1:PS,({H.bat b with fst:=(H.bat b).fed,buf:=[]}:PS)=s1:=⟨_,rfl⟩;rw[hs1]at hfeed;have hsn:(BA (pre++[b])).length=(BA pre).length+(Ad (1::Bk b)).length:=by rw[N1,length_append]
  have hR:PR ep a (pre++[b]) s1:=by
   refine⟨?_,?_,?_,?_,?_,?_,?_,λ_=>?_⟩
   ·rw[←hs1];exact k10.trans h.ph
   ·rw[←hs1];exact k9.trans h.ended
   ·rw[←hs1]
   ·rw[←hs1];exact k2.trans h.ep
   ·rw[←hs1];show H.ms++[⟨b.base,b.en.length,H.fst⟩]=_;rw[k1,k6,h.ms,h.fst,Ll]
   ·rw[←hs1];show H.fed=_;rw[k7,h.fed,hsn];omega
   ·rw[←hs1];show H.fed=_;rw[k7,h.fed,hsn];omega
   ·rw[←hs1,LC];exact⟨rfl,rfl⟩
  have⟨t,i1,i2,i3,i4,i5⟩:=ih (pre++[b]) s1 hR (by rw[length_append,length_singleton];omega) (λx hx=>hb x (by simp[hx])) (λi hi=>by
   have:=hf (i+1) (by simp;omega);simp only[take_succ_cons,getD_cons_succ]at this;rw[append_assoc,singleton_append];exact this)
  refine⟨t,?_,?_,?_,?_,?_⟩
  ·rw[E4,append_assoc,hfeed,i1]
  ·rw[append_assoc,singleton_append]at i2;exact i2
  ·rw[i3,←hs1];show(H.out++[.item H.fst b])++Fv H.fed suf=_;rw[k8,k6,k7,h.fst,h.fed,append_assoc];rfl
  ·rw[i4,←hs1];exact k11
  ·rw[i5,←hs1];exact k12
def lL {g:GH} (h:Vy g):∃t,Ga.feed (CB g)=t∧t.ended=0∧t.out=Fv (Ai ⟨3,g.ep,0⟩).length g.bt∧t.whole=true∧t.fed=(CB g).length:=by
 have⟨h1,h2,h3⟩:=BD.1 h.right;have⟨hf1,hf2⟩:=h.foot;have eB:CB g=Ai ⟨3,g.ep,0⟩++(BA g.bt++(Ad (2::AJ (BU g))++(Ad (Ba (B2 g))++A8 (Ad (Ba (B2 g))).length))):=by
  unfold CB DJ EP;simp only[append_assoc]
 rw[eB,Uz rfl rfl rfl h1];obtain⟨s1,hs1⟩:∃s1:PS,({Ga with ph:=1,ep:=g.ep,fst:=Ga.fed+(Ai ⟨3,g.ep,0⟩).length,fed:=Ga.fed+(Ai ⟨3,g.ep,0⟩).length,buf:=[]}:PS)=s1:=⟨_,rfl⟩;rw[hs1];have hz:Ga.fed=0:=rfl;have hR:PR g.ep (Ai ⟨3,g.ep,0⟩).length [] s1:=by
  rw[←hs1];exact⟨rfl,rfl,rfl,rfl,rfl,by simp[BA,hz],by simp[BA,hz],λh=>absurd rfl h⟩
 have⟨s2,b1,b2,b3,b4,b5⟩:=dL (r:=Ad (2::AJ (BU g))++(Ad (Ba (B2 g))++A8 (Ad (Ba (B2 g))).length)) g.bt [] s1 hR (by simpa using h2) h.mem (λi hi=>by simpa using(h3 i hi).2);rw[nil_append]at b2;rw[b1];have hM:s2.ms=BU g:=b2.ms;have hMr:AR s2.ms=true:=by rw[hM];exact h.marks
 have h16:=(Bd.1 hMr).2;have hml:=(C7 s2.ms).1;have hmb:=FZ (Bd.1 hMr).1 Om;have hbp:A7 (2::AJ s2.ms):=λy hy=>by rcases mem_cons.1 hy with rfl|hy;decide;exact hmb y hy
 have⟨H,hH⟩:=Ex (s2.hold (Ad (2::AJ s2.ms)) (Ad (2::AJ s2.ms)).length);have⟨hHms,y2,y3,y4,y5,y6,y7,y8,y9,y10,y11,y12⟩:=Ue s2 (Ad (2::AJ s2.ms)) (Ad (2::AJ s2.ms)).length;rw[hH]at hHms y2 y3 y4 y5 y6 y7 y8 y9 y10 y11 y12;have⟨q,t1,t2⟩:=SC (s:=H) (by rw[hHms];exact hMr);rw[hHms,←hH]at t1;have hfeed:=Uv (r:=Ad (Ba (B2 g))++A8 (Ad (Ba (B2 g))).length) b2.ended b2.buf b2.ph hbp (by rw[length_cons];omega) t1 t2;rw[hM]at hfeed hH;rw[hfeed,hH];obtain⟨s3,hs3⟩:∃s3:PS,({H.idx (BU g)with fst:=(H.idx (BU g)).fed,buf:=[]}:PS)=s3:=⟨_,rfl⟩;rw[hs3];have hHb:H.buf=Ad (2::AJ (BU g)):=by rw[←hH,Fi,take_length]
 have hHf:H.fst=(DJ g).length:=by
  rw[y6,b2.fst];unfold DJ;rw[length_append];simp
 have hHe:H.ep=g.ep:=y2.trans b2.ep;have hw:s3.want=B2 g:=by
  rw[←hs3];show(⟨H.ep,_,_,_,_,H.fst,(H.buf.length:Int)⟩:Ft)=_;rw[hHe,hHf,hHb];rfl
 have m1:s3.ended=0:=by rw[←hs3];exact y9.trans b2.ended
 have m2:s3.buf=[]:=by rw[←hs3]
 have m3:s3.ph=2:=by rw[←hs3];rfl
 have m4:s3.out=Fv (Ai ⟨3,g.ep,0⟩).length g.bt:=by
  rw[←hs3];show H.out=_;rw[y8,b3,←hs1];show Ga.out++Fv (Ga.fed+_) g.bt=_;rw[hz,Int.zero_add];rfl
 have m5:s3.fed=((DJ g).length:Int)+(Ad (2::AJ (BU g))).length:=by
  rw[←hs3];show H.fed=_;rw[y7,b2.fed,hM];unfold DJ;rw[length_append];simp
 have hff:=dK (s:=s3) (r:=A8 (Ad (Ba s3.want)).length) m1 m2 m3 (by rw[hw];exact hf2) (by rw[hw];exact hf1);obtain⟨s4,hs4⟩:∃s4:PS,({s3 with ph:=3,foot:=(Ad (Ba s3.want)).length,fst:=s3.fed+(Ad (Ba s3.want)).length,fed:=s3.fed+(Ad (Ba s3.want)).length,buf:=[]}:PS)=s4:=⟨_,rfl⟩;rw[hs4]at hff;rw[hw]at hff hs4;rw[hff];have n1:s4.ended=0:=by rw[←hs4];exact m1
 have n2:s4.buf=[]:=by rw[←hs4]
 have n3:s4.ph=3:=by rw[←hs4]
 have n4:s4.foot=((Ad (Ba (B2 g))).length:Int):=by rw[←hs4]
 have n5:s4.fed=s3.fed+(Ad (Ba (B2 g))).length:=by rw[←hs4]
 have n6:s4.want=B2 g:=by rw[←hs4]
 have n7:s4.out=s3.out:=by rw[←hs4]
 have htr:=XA n1 n2 n3;rw[n4]at htr;have hfl:=Bb (Ba (B2 g));have ea:(B2 g).at_=(DJ g).length:=rfl;have es:(B2 g).size=(Ad (2::AJ (BU g))).length:=rfl;refine⟨_,htr,n1,n7.trans m4,?_,?_⟩
 ·unfold PS.whole;simp only[];rw[n5,m5,n6,ea,es];simp;omega
 ·show s4.fed+12=_;have htl:=Dw ((Ad (Ba (B2 g))).length:Int);rw[n5,m5];unfold DJ;simp only[length_append];omega
def uI {g:GH} (h:Vy g):(Ga.feed (CB g)).out++(Ga.feed (CB g)).close.2=Fv (Ai ⟨3,g.ep,0⟩).length g.bt++[.oth 2 (CB g).length 0]:=by
 have⟨t,h1,h2,h3,h4,h5⟩:=lL h;rw[h1,h3];unfold PS.close;rw[if_pos h2,if_pos h4,h5]
def Fo (l:List Lk):List Lk:=l.map λx=>⟨x.st,[]⟩
def II (e:En):En:=⟨Fo e.lk,e.data⟩
def A3 (b:Bt):Bt:=⟨b.ep,b.base,b.en.map II⟩
def JW (t:List Lk) (x:Lk):Lk:=⟨x.st,(t.getD (B9 t x.st) B_).bk⟩
def JV (pos:Int) (s:List Lk×List Lk) (x:Lk):List Lk×List Lk:=(s.1++[JW s.2 x],El s.2 (LS (JW s.2 x) pos))
def Fs (pos:Int) (t l:List Lk):List Lk×List Lk:=l.foldl (JV pos) ([],t)
def ES (base:Int) (s:List En×List Lk) (e:En):List En×List Lk:=(s.1++[⟨(Fs (base+s.1.length) s.2 e.lk).1,e.data⟩],(Fs (base+s.1.length) s.2 e.lk).2)
def FD (base:Int) (t:List Lk) (l:List En):List En×List Lk:=l.foldl (ES base) ([],t)
def Dj (b:Bt) (t:List Lk):Bt×List Lk:=(⟨b.ep,b.base,(FD b.base t b.en).1⟩,(FD b.base t b.en).2)
def BG (b:Bt) (t:List Lk):Bt×List Lk:=Dj (A3 b) t
def CL (l:List Bt):List Bt×List Lk:=l.foldl (λs b=>(s.1++[(BG b s.2).1],(BG b s.2).2)) ([],[])
def Sc {l:List Lk} {x y:Lk} (h:y∈El l x):y∈l∨y=x:=by
 unfold El at h;split at h
 ·exact mem_or_eq_of_mem_set h
 ·rcases mem_append.1 h with h|h
  ·exact .inl (mem_of_mem_take h)
  ·rcases mem_cons.1 h with h|h
   ·exact .inr h
   ·exact .inl (mem_of_mem_drop h)
def oQ (l:List Lk) (x:Lk):(El l x).length≤l.length+1:=by
 have:=O8 l x;split at this<;>omega
def NG {t:List Lk} {st:Int}:t.getD (B9 t st) B_=B_∨(t.getD (B9 t st) B_∈t∧(t.getD (B9 t st) B_).st=st):=by
 by_cases h:B9 t st<t.length
 ·refine .inr ⟨by simp[h],?_⟩;have:=findIdx_getElem (p:=λy:Lk=>y.st==st) (w:=h);have e:t.getD (B9 t st) B_=t[B9 t st]:=by simp[h]
  rw[e];exact eq_of_beq this
 ·exact .inl (by simp[h])
def KC (Q:Int->Int->Prop) (l:List Lk):Prop:=∀x∈l,∀p∈x.bk,Q p x.st
section
variable {Q:Int->Int->Prop}
theorem KC.nil:KC Q []:=λx h=>by simp at h
theorem KC.snoc {l:List Lk} {x:Lk} (h:KC Q l) (hx:∀p∈x.bk,Q p x.st):KC Q (l++[x]):=λy hy=>by
 rcases mem_append.1 hy with hy|hy
 ·exact h y hy
 ·rw[mem_singleton.1 hy];exact hx
theorem KC.x {t:List Lk} (h:KC Q t) (x:Lk):∀p∈(JW t x).bk,Q p (JW t x).st:=by
 intro p hp;rcases NG (t:=t) (st:=x.st)with e|⟨e1,e2⟩
 ·unfold JW at hp;rw[e]at hp;simp[B_]at hp
 ·have:=h _ e1 p hp;rw[e2]at this;exact this
theorem KC.ext {x:Lk} {pos:Int} (h:∀p∈x.bk,Q p x.st) (hp:Q pos x.st):∀p∈(LS x pos).bk,Q p (LS x pos).st:=by
 intro p h1;have h2:=mem_of_mem_take h1;rcases mem_cons.1 h2 with h2|h2
 ·rw[h2];exact hp
 ·exact h p h2
theorem KC.put {t:List Lk} {y:Lk} (h:KC Q t) (hy:∀p∈y.bk,Q p y.st):KC Q (El t y):=λz hz=>by
 rcases Sc hz with hz|hz
 ·exact h z hz
 ·rw[hz];exact hy
def Sz {pos:Int}:∀(l:List Lk) (s:List Lk×List Lk),KC Q s.1->KC Q s.2->(∀x∈l,Q pos x.st)->KC Q (l.foldl (JV pos) s).1∧KC Q (l.foldl (JV pos) s).2
 |[],s,h1,h2,_=>⟨h1,h2⟩
 |x::l,s,h1,h2,h3=>Sz l (JV pos s x) (h1.snoc (h2.x x)) (h2.put (KC.ext (h2.x x) (h3 x Si))) (λy hy=>h3 y (by simp[hy]))
theorem Qw {pos:Int}:∀(l:List Lk) (s:List Lk×List Lk),(l.foldl (JV pos) s).1.map (·.st)=s.1.map (·.st)++l.map (·.st)
 |[],s=>by simp
 |x::l,s=>by rw[foldl_cons,Qw l];simp[JV,JW]
def SA {base:Int}:∀(l:List En) (s:List En×List Lk),(∀e∈s.1,KC Q e.lk)->KC Q s.2->(∀i,i<l.length->∀x∈(l.getD i B3).lk,Q (base+(s.1.length+i:Nat)) x.st)->(∀e∈(l.foldl (ES base) s).1,KC Q e.lk)∧KC Q (l.foldl (ES base) s).2
 |[],s,h1,h2,_=>⟨h1,h2⟩
 |e::l,s,h1,h2,h3=>by
  have⟨a,b⟩:=Sz (Q:=Q) (pos:=base+s.1.length) e.lk ([],s.2) KC.nil h2 (λx hx=>by simpa using h3 0 Si x (by simpa using hx));refine SA l (ES base s e) (λy hy=>?_) b (λi hi x hx=>?_)
  ·rcases mem_append.1 hy with hy|hy
   ·exact h1 y hy
   ·rw[mem_singleton.1 hy];exact a
  ·have:=h3 (i+1) (by simpa using hi) x (by simpa using hx);simp only[ES,length_append,length_singleton];rw[show s.1.length+1+i=s.1.length+(i+1) by omega];exact this
end
theorem Ms {base:Int}:∀(l:List En) (s:List En×List Lk),(l.foldl (ES base) s).1.length=s.1.length+l.length
 |[],s=>by simp
 |e::l,s=>by rw[foldl_cons,Ms l];simp[ES];omega
theorem JY {base:Int}:∀(l:List En) (s:List En×List Lk) (i:Nat),(i<s.1.length->(l.foldl (ES base) s).1.getD i B3=s.1.getD i B3)∧
 (i<l.length->((l.foldl (ES base) s).1.getD (s.1.length+i) B3).lk.map (·.st)=(l.getD i B3).lk.map (·.st)∧((l.foldl (ES base) s).1.getD (s.1.length+i) B3).data=(l.getD i B3).data)
 |[],s,i=>⟨λ_=>rfl,λh=>by simp at h⟩
 |e::l,s,i=>by
  have hl:(ES base s e).1.length=s.1.length+1:=by simp[ES]
  refine⟨λh=>?_,λh=>?_⟩
  ·rw[foldl_cons,(JY l (ES base s e) i).1 Om];simp[ES,getElem?_append,h]
  ·rw[foldl_cons];cases i with
   |zero=>
    rw[Nat.add_zero,(JY l (ES base s e) s.1.length).1 Om];have:=Qw (pos:=base+s.1.length) e.lk ([],s.2);simp[ES,Fs,this]
   |succ i=>
    have:=(JY (base:=base) l (ES base s e) i).2 (by simpa using h);rw[hl,show s.1.length+1+i=s.1.length+(i+1) by omega]at this;simpa using this
theorem IN (b:Bt) (t:List Lk):(Dj b t).1.en.length=b.en.length:=by simp[Dj,FD,Ms]
def SB (b:Bt) (t:List Lk) (i:Nat) (h:i<b.en.length):((Dj b t).1.en.getD i B3).lk.map (·.st)=(b.en.getD i B3).lk.map (·.st)∧((Dj b t).1.en.getD i B3).data=(b.en.getD i B3).data:=by
 have:=(JY (base:=b.base) b.en ([],t) i).2 h;simpa[Dj,FD]using this
def vC (l:List Bt) (p st:Int):Prop:=∃b∈l,∃k:Nat,k<b.en.length∧p=b.base+k∧st∈(b.en.getD k B3).lk.map (·.st)
theorem vC.mono {l m:List Bt} {p st:Int} (h:vC l p st):vC (l++m) p st:=by
 have⟨b,hb,r⟩:=h;exact⟨b,by simp[hb],r⟩
theorem KC.mono {Q R:Int->Int->Prop} {l:List Lk} (h:KC Q l) (hr:∀p st,Q p st->R p st):KC R l:=λx hx p hp=>hr _ _ (h x hx p hp)
def uJ (s:List Bt×List Lk):Prop:=(∀b∈s.1,∀e∈b.en,KC (vC s.1) e.lk)∧KC (vC s.1) s.2
def VL {l:List Bt} {t:List Lk} (h:uJ (l,t)) (b:Bt):uJ (l++[(BG b t).1],(BG b t).2):=by
 have⟨h1,h2⟩:=h;have hm:∀p st,vC l p st->vC (l++[(BG b t).1]) p st:=λp st h=>h.mono
 have⟨a,c⟩:=SA (Q:=vC (l++[(BG b t).1])) (base:=b.base) (A3 b).en ([],t) (λe h=>by simp at h) (h2.mono hm) (λi hi x hx=>by
  have hg:=SB (A3 b) t i hi;refine⟨(BG b t).1,Si,i,by unfold BG;rw[IN];exact hi,by simp[BG,Dj,A3],?_⟩;unfold BG;rw[hg.1];exact mem_map.2 ⟨x,hx,rfl⟩)
 refine⟨λb' hb' e he=>?_,c⟩;rcases mem_append.1 hb' with hb'|hb'
 ·exact(h1 b' hb' e he).mono hm
 ·rw[mem_singleton.1 hb']at he;exact a e he
theorem Pe (l:List Bt) (b:Bt):CL (l++[b])=((CL l).1++[(BG b (CL l).2).1],(BG b (CL l).2).2):=by simp[CL]
def gO (l:List Bt):uJ (CL l):=by
 have gen:∀n,∀l:List Bt,l.length=n->uJ (CL l):=by
  intro n
  induction n with
  |zero=>intro l h;rw[eq_nil_of_length_eq_zero h];exact⟨λb hb=>by simp[CL]at hb,KC.nil⟩
  |succ n ih=>
   intro l h;rcases eq_nil_or_concat l with rfl|⟨l,b,rfl⟩
   ·exact⟨λb hb=>by simp[CL]at hb,KC.nil⟩
   ·rw[concat_eq_append]at h ⊢;rw[Pe];exact VL (ih l (by simpa using h)) b
 exact gen _ l rfl
def Hg (N:Nat) (t:List Lk):Prop:=t.length≤N∧∀y∈t,y.ok∧y.bk.length≤4
theorem Hg.smalls {N:Nat} {t:List Lk} (h:Hg N t) (hN:N≤1000000):B7 t:=⟨by have:=h.1;omega,λy hy=>by have:=(h.2 y hy).2;omega⟩
theorem Hg.x {N:Nat} {t:List Lk} (h:Hg N t) {x:Lk} (hx:x.ok):(JW t x).ok∧(JW t x).bk.length≤4:=by
 rcases NG (t:=t) (st:=x.st)with e|⟨e1,e2⟩
 ·unfold JW;rw[e];exact⟨⟨hx.s0,hx.s1,λp hp=>by simp[B_]at hp⟩,by simp[B_]⟩
 ·exact⟨⟨hx.s0,hx.s1,(h.2 _ e1).1.b⟩,(h.2 _ e1).2⟩
theorem Hg.put {N:Nat} {t:List Lk} (h:Hg N t) {x:Lk} (hx:x.ok) {pos:Int} (hp:0≤pos∧pos<18446744073709551616):Hg (N+1) (El t (LS x pos)):=by
 refine⟨by have:=oQ t (LS x pos);have:=h.1;omega,λy hy=>?_⟩;rcases Sc hy with hy|hy
 ·exact h.2 y hy
 ·rw[hy];refine⟨⟨hx.s0,hx.s1,λp h1=>?_⟩,by unfold LS;simp;omega⟩;have h2:=mem_of_mem_take h1;rcases mem_cons.1 h2 with h2|h2
  ·rw[h2];exact hp
  ·exact hx.b p h2
def Qx {pos:Int} (hp:0≤pos∧pos<18446744073709551616):∀(l:List Lk) (s:List Lk×List Lk) (N M:Nat),Hg M s.1->Hg N s.2->(∀x∈l,x.ok)->Hg (M+l.length) (l.foldl (JV pos) s).1∧Hg (N+l.length) (l.foldl (JV pos) s).2
 |[],s,N,M,h1,h2,_=>⟨h1,h2⟩
 |x::l,s,N,M,h1,h2,h3=>by
  have hx:=h2.x (h3 x Si);have:=Qx hp l (JV pos s x) (N+1) (M+1) (by
   refine⟨by have:=h1.1;simp[JV];omega,λy hy=>?_⟩;rcases mem_append.1 hy with hy|hy
   ·exact h1.2 y hy
   ·rw[mem_singleton.1 hy];exact hx) (h2.put hx.1 hp) (λy hy=>h3 y (by simp[hy]))
  rw[length_cons,show M+(l.length+1)=M+1+l.length by omega,show N+(l.length+1)=N+1+l.length by omega];exact this
structure fR (e:En):Prop where
 ok:e.ok
 n:e.lk.length≤16
 k:∀x∈e.lk,x.bk.length≤4
def Qy {base:Int}:∀(l:List En) (s:List En×List Lk) (N:Nat),0≤base->base+s.1.length+l.length<18446744073709551616->(∀e∈s.1,fR e)->Hg N s.2->(∀e∈l,fR e)->(∀e∈(l.foldl (ES base) s).1,fR e)∧Hg (N+16*l.length) (l.foldl (ES base) s).2
 |[],s,N,_,_,h1,h2,_=>⟨h1,h2⟩
 |e::l,s,N,b0,b1,h1,h2,h3=>by
  have he:=h3 e Si;rw[length_cons]at b1;have⟨a,c⟩:=Qx (pos:=base+s.1.length) Om e.lk ([],s.2) N 0 ⟨Si,λy hy=>by simp at hy⟩ h2 he.ok.lk;have hn:=he.n;have:=Qy l (ES base s e) (N+16) b0 (by simp[ES];omega) (λy hy=>by
   rcases mem_append.1 hy with hy|hy
   ·exact h1 y hy
   ·rw[mem_singleton.1 hy];exact⟨⟨λx hx=>(a.2 x hx).1,he.ok.data⟩,by have h:=a.1;show(List.foldl (JV (base+s.1.length)) ([],s.2) e.lk).1.length≤16;omega,λx hx=>(a.2 x hx).2⟩) ⟨by have h:=c.1;show(List.foldl (JV (base+s.1.length)) ([],s.2) e.lk).2.length≤_;omega,c.2⟩ (λy hy=>h3 y (by simp[hy]))
  rw[length_cons,show N+16*(l.length+1)=N+16+16*l.length by omega];exact this
def PO {l m:List En} (h:l.map (·.data)=m.map (·.data)):Ak l=Ak m:=by
 have e:∀l:List En,Ak l=(l.map (·.data)).flatten:=λl=>by simp[Ak,flatMap]
 rw[e,e,h]
theorem Qh (b:Bt):Ak (A3 b).en=Ak b.en:=PO (by simp[A3,II])
theorem Pg {base:Int}:∀(l:List En) (s:List En×List Lk),(l.foldl (ES base) s).1.map (·.data)=s.1.map (·.data)++l.map (·.data)
 |[],s=>by simp
 |e::l,s=>by rw[foldl_cons,Pg l];simp[ES]
def Sy (b:Bt) (t:List Lk):Ak (Dj b t).1.en=Ak b.en:=PO (by simp[Dj,FD,Pg])
def Mg {b:Bt} (h:b.ok):(A3 b).ok:=by
 refine⟨h.e0,h.e1,h.b0,h.b1,λe he=>?_⟩;obtain⟨e',he',rfl⟩:=mem_map.1 he;refine⟨λx hx=>?_,(h.en _ he').data⟩;obtain⟨y,hy,rfl⟩:=mem_map.1 hx;exact⟨((h.en _ he').lk y hy).s0,((h.en _ he').lk y hy).s1,λp hp=>by simp at hp⟩
def KI {b:Bt} {t:List Lk} {N:Nat} (hb:b.ok) (ht:Hg N t) (hr:Bw (A3 b)=true):(BG b t).1.ok∧(∀e∈(BG b t).1.en,fR e)∧Hg (N+256) (BG b t).2∧(BG b t).1.en.length≤16:=by
 have hbo:=Mg hb;have⟨r1,⟨r2,r3,r4⟩,r5,r6⟩:=BW.1 hr;have hen:∀e∈(A3 b).en,fR e:=λe he=>by
  refine⟨hbo.en e he,?_,λx hx=>?_⟩
  ·obtain⟨i,hi,rfl⟩:=getElem_of_mem he;have:=(Dz.1 (DB.1 (r6 i hi)).1).1;simpa[hi]using this
  ·obtain⟨e',he',rfl⟩:=mem_map.1 he;obtain⟨y,hy,rfl⟩:=mem_map.1 hx;simp
 have⟨a,c⟩:=Qy (A3 b).en ([],t) N hbo.b0 (by simp only[length_nil];omega) (λe he=>by simp at he) ht hen;refine⟨⟨hb.e0,hb.e1,hb.b0,hb.b1,λe he=>(a e he).ok⟩,a,⟨by have:=c.1;show(List.foldl (ES (A3 b).base) ([],t) (A3 b).en).2.length≤_;omega,c.2⟩,by unfold BG;rw[IN];exact r2.2⟩
def Vk (b:Bt) (h:vD b):Ct prog 41 [Fx b] [] (λn=>mV n b) [] (λ_=>BF b.en):=
 Ct.n (RF b h) (λρ=>by simp[AD,CA]) (λn N=>by
  rw[Cc];have re:=DE b.en 0 n (AH (range' n b.en.length) N) (λi hi=>by rw[Nat.zero_add];exact Eb (by rw[getElem?_range' hi];simp));simp[AD,re]) (λn N=>EW _ _)
theorem QX (l m:List Lk):Dt (l++m)=Dt l++Dt m:=by simp[Dt,EO,Fl]
def Ig (l:List Lk) (i:Nat):List Lk:=Fo (l.take i)++l.drop i
theorem kC (l:List Lk) (i:Nat) (h:i≤l.length):(Ig l i).length=l.length:=by simp[Ig,Fo];omega
theorem wK {l:List Lk} {i:Nat} (h:i<l.length):Dt (Ig l i)=Dt (Fo (l.take i))++(uA (l.getD i B_).st::GB (l.getD i B_).bk::Dt (l.drop (i+1))):=by
 have e:l.drop i=l.getD i B_::l.drop (i+1):=by rw[drop_eq_getElem_cons h];simp[h]
 unfold Ig;rw[e,QX];rfl
theorem Qi {l:List Lk} {i:Nat} (h:i≤l.length):(Dt (Fo (l.take i))).length=i*2:=by
 rw[Hr];simp[Fo];omega
def qY {l:List Lk} {i:Nat} (h:i<l.length) (z:AV):Ce (Dt (Ig l i)) (i*2+1) [z]=Dt (Fo (l.take i))++(uA (l.getD i B_).st::z::Dt (l.drop (i+1))):=by
 rw[wK h];show(Dt (Fo (l.take i))++_).set (i*2+1) z=_;rw[set_append_right _ _ (by rw[Qi Om];omega),Qi Om,show i*2+1-i*2=1 by omega];rfl
theorem j9 {l:List Lk} {i:Nat} (h:i<l.length):Dt (Ig l (i+1))=Dt (Fo (l.take i))++(uA (l.getD i B_).st::GB []::Dt (l.drop (i+1))):=by
 have e:l.take (i+1)=l.take i++[l.getD i B_]:=by rw[take_add_one];congr 1;simp[h]
 unfold Ig;rw[e,Fo,map_append,←Fo,QX,QX,append_assoc];rfl
def wJ {l:List Lk} {i:Nat} (h:i<l.length):DG (Dt (Fo (l.take i))++(uA (l.getD i B_).st::.sl .full 1 []::Dt (l.drop (i+1)))) (Dt (Ig l (i+1))):=by
 rw[j9 h];exact DG.app (DG.refl _) (DG.cons (Wa.refl _) (DG.cons Wa.none (DG.refl _)))
def Ih (l:List En) (k:Nat):List En:=(l.take k).map II++l.drop k
theorem Tx (l:List En) (k:Nat) (h:k≤l.length):(Ih l k).length=l.length:=by simp[Ih];omega
theorem bH {l:List En} {k:Nat} (h:k<l.length):Ih l (k+1)=(Ih l k).set k (II (l.getD k B3)):=by
 have e:l.drop k=l.getD k B3::l.drop (k+1):=by rw[drop_eq_getElem_cons h];simp[h]
 have e2:l.take (k+1)=l.take k++[l.getD k B3]:=by rw[take_add_one];congr 1;simp[h]
 unfold Ih;rw[e,e2,set_append_right _ _ (by simp;omega)];simp[Nat.min_eq_left (Nat.le_of_lt h)]
theorem q9 {l:List En} {k:Nat} (h:k<l.length):(Ih l k).getD k B3=l.getD k B3:=by
 have e:l.drop k=l.getD k B3::l.drop (k+1):=by rw[drop_eq_getElem_cons h];simp[h]
 have hl:((l.take k).map II).length=k:=by simp;omega
 unfold Ih;rw[e,getD_eq_getElem?_getD,getElem?_append_right Om,hl,Nat.sub_self];rfl
theorem Pq (l:List En) (k:Nat) (e:En):BF (l.set k e)=(BF l).set k (LP e.lk):=by simp[BF,map_set]
theorem P6:∀(l:List En) (n:Nat),CV n (l.map II)=CV n l
 |[],n=>rfl
 |e::l,n=>by
  rw[map_cons,CV,CV,P6 l];congr 1;simp[xH,II,Fo]
theorem Zo (b:Bt) (h:vD b):Ag prog 18 [Fx b] [] (mV 0 (A3 b)) (BF (A3 b).en):=by
 have hc:=Vk b h;have⟨hl,hn⟩:=h;have hRl0:=Cc b.en;have hRr0:=λρ=>EW ρ b.en
 obtain⟨R0,hR0⟩:∃R,BF b.en=R:=⟨_,rfl⟩;rw[hR0]at hc hRl0;have s0:∀x y,(R0++[x]).set b.en.length y=R0++[y]:=λx y=>by rw[←hRl0];simp
 have g0:∀x,(R0++[x])[b.en.length]? =some x:=λx=>by rw[←hRl0];simp
 refine RN func18 b18 ?_;refine (mq @Ax ?_).1
 refine Aa.n (hc) ?_;simp only[go_sem,seval,hRl0,append_assoc,s0,g0,Ey];refine (AZ ?_).1;refine AA (α:=Nat) (λk=>.any::.ref 0 0::.ref 1 0::.ref (b.en.length+1+1) 0::.any::.any::.any::.any::.any::.any::.sl .none 2 (CV 2 b.en)::iA b.en.length::iA k::Az [.any]) (λk=>.cells [uA b.ep,uA b.base,Fy b.en]::.cells [uA 0,uA 0,.sl .full 1 []]::(BF (Ih b.en k)++[.cells [uA b.ep,uA b.base,.sl .none 2 (CV 2 b.en)]])) (λk=>k≤b.en.length) (λk=>b.en.length-k) 0 Si (Wk.to (by simp[Ih,hR0]) (by simp[B6])) ?_;intro k hk;have hRl:(BF (Ih b.en k)).length=b.en.length:=by rw[Cc,Tx _ _ hk]
 have hRr:=λρ=>EW ρ (Ih b.en k)
 by_cases hlt:k<b.en.length
 ·have hRk:=KN (Ih b.en k) k (by rw[Tx _ _ hk];exact hlt);rw[q9 hlt]at hRk;have hRn:BF (Ih b.en (k+1))=(BF (Ih b.en k)).set k (LP (II (b.en.getD k B3)).lk):=by rw[bH hlt,Pq]
  obtain⟨R,hR⟩:∃R,BF (Ih b.en k)=R:=⟨_,rfl⟩;rw[hR]at hRl hRr hRk hRn;rw[hR];have q1:decide ((k:Int)<(b.en.length:Int))=true:=decide_eq_true Om;have ek:=Am k Om;have g:=NR b.en 2 k hlt;rw[show 2+k=k+1+1 by omega]at g;have hm:b.en.getD k B3∈b.en:=by simp[hlt]
  have c0:=hn _ hm;obtain⟨e,he⟩:∃e,b.en.getD k B3=e:=⟨_,rfl⟩;rw[he]at g c0 hRk hRn;have g1:∀x y,(R++[x,y])[b.en.length+1]? =some y:=λx y=>by rw[←hRl];simp
  have s1:∀x y z,(R++[x,y]).set (b.en.length+1) z=R++[x,z]:=λx y z=>by rw[←hRl];simp
  have hRx:∀x,(R++[x]).length=b.en.length+1:=λx=>by rw[←hRl];simp
  simp only[go_sem,seval,q1,g,Ey,Int.toNat_natCast,hRx,append_assoc,g1,s1];refine (AZ ?_).1;(repeat with_reducible refine Sa ?_);refine AA (α:=Nat) (λi=>.any::.ref 0 0::.ref 1 0::.ref (b.en.length+1+1) 0::.any::.ref (b.en.length+1+1+1) 0::.any::.any::.any::.any::.sl .none 2 (CV 2 b.en)::iA b.en.length::iA k::.any::.any::.any::.any::.any::iA e.lk.length::iA i::Ay (Ay [.any,.any])) (λi=>.cells [uA b.ep,uA b.base,Fy b.en]::.cells [uA 0,uA 0,.sl .full 1 []]::(R.set k (.mrow 2 e.lk.length (Dt (Ig e.lk i)))++[.cells [uA b.ep,uA b.base,.sl .none 2 (CV 2 b.en)],.cells [.ms (k+1+1) e.lk.length,Bj .u8 e.data]])) (λi=>i≤e.lk.length) (λi=>e.lk.length-i) 0 Si (Wk.to (by
   have e1:R.set k (.mrow 2 e.lk.length (Dt (Ig e.lk 0)))=R:=by
    have e2:Ig e.lk 0=e.lk:=by simp[Ig,Fo]
    rw[e2];have⟨h1,h2⟩:=List.getElem?_eq_some_iff.1 hRk;have h3:R.set k R[k]=R:=set_getElem_self h1;rw[h2]at h3;exact h3
   rw[e1]) (by simp[B6])) ?_
  intro i hi;by_cases hil:i<e.lk.length
  ·have q2:decide ((i:Int)<(e.lk.length:Int))=true:=decide_eq_true Om;have ei:=Am i (by have:=c0.1.1;omega);have hcl:(Dt (Ig e.lk i)).length=e.lk.length*2:=by rw[Hr,kC _ _ hi]
   have hp:=qY hil (.sl .full 1 []);have hwa:=wJ hil;obtain⟨F,hF⟩:∃F,Dt (Ig e.lk i)=F:=⟨_,rfl⟩;obtain⟨F2,hF2⟩:∃F2,Dt (Fo (e.lk.take i))++(uA (e.lk.getD i B_).st::.sl .full 1 []::Dt (e.lk.drop (i+1)))=F2:=⟨_,rfl⟩;rw[hF]at hcl hp;rw[hF2]at hp hwa;rw[hF];have g2:∀z x y,(R.set k z++[x,y])[b.en.length+1]? =some y:=λz x y=>by rw[←hRl];simp
   have g3:∀z x y,(R.set k z++[x,y])[k]? =some z:=λz x y=>by rw[getElem?_append_left (by simp;omega)];simp[hRl,hlt]
   have s3:∀z x y v,(R.set k z++[x,y]).set k v=R.set k v++[x,y]:=λz x y v=>by rw[set_append_left _ _ (by simp;omega)];simp
   simp only[go_sem,seval,q2,g2,g3,s3,hcl,hp,Int.toNat_natCast,ei];refine (AZ ?_).1;(repeat with_reducible refine Sa ?_);exact⟨i+1,hil,Om,(Wk.mwa (k+1+1) (ys:=Dt (Ig e.lk (i+1))) (g3 _ _ _) hwa).trans (Wk.to (congrArg (λX=>_::_::X) (s3 _ _ _ _)) (by simp[B6]))⟩
  ·have q2:decide ((i:Int)<(e.lk.length:Int))=false:=decide_eq_false Om;have hie:i=e.lk.length:=Om
   subst hie;refine (mr q2 ek ?_).1;have e1:LP (II e).lk=.mrow 2 e.lk.length (Dt (Ig e.lk e.lk.length)):=by simp[Ig,II,Fo]
   refine⟨k+1,hlt,Om,?_⟩;rw[hRn,e1];refine Wk.drop3 (A:=[_,_]) (R:=R.set k _) (B:=[_]) (D:=[_]) (Nat.zero_le _) (λρ h1=>?_);simp only[length_cons,length_nil,length_set,hRl]at h1;have r0:=h1 0 Om;have r1:=h1 1 Om;have r2:=h1 (b.en.length+1+1) Om;have re:=DE b.en 2 2 ρ (λi hi=>h1 (2+i) Om);exact⟨by simp[CA],by rw[map_set,hRr,DP,DR],by simp[re],by simp[Ch,AD,r0,r1,r2,re]⟩
 ·have q1:decide ((k:Int)<(b.en.length:Int))=false:=decide_eq_false Om;have hke:k=b.en.length:=Om
  subst hke;have e1:Ih b.en b.en.length=(A3 b).en:=by simp[Ih,A3]
  rw[e1]at hRl hRr;rw[e1];obtain⟨R,hR⟩:∃R,BF (A3 b).en=R:=⟨_,rfl⟩;rw[hR]at hRl hRr;rw[hR];have g1:∀x,(R++[x])[b.en.length]? =some x:=λx=>by rw[←hRl];simp
  refine (mr q1 g1 ?_).1;refine A2.mid (A:=[_,_]) (D:=[_]) b18.all.2.1 (λρ h1=>⟨hRr ρ,?_⟩);have re:=DE b.en 0 2 ρ (λi hi=>by have:=h1 i Om;simp only[length_cons,length_nil]at this;rw[Nat.zero_add];omega);have eb:CV 0 (A3 b).en=CV 0 b.en:=P6 b.en 0;simp[B8,D1,D4,Ci,mV,eb,re];simp[A3]
def xX (b:Bt) (h:vD b):Ct prog 18 [Fx b] [] (λn=>mV n (A3 b)) [] (λ_=>BF (A3 b).en):=
 Ct.n (Zo b h) (λρ=>by simp[AD,CA]) (λn N=>by
  rw[Cc];have re:=DE (A3 b).en 0 n (AH (range' n (A3 b).en.length) N) (λi hi=>by rw[Nat.zero_add];exact Eb (by rw[getElem?_range' hi];simp));simp[AD,re]) (λn N=>EW _ _)
def Ws (x y:Lk):Ct prog 43 [F3 x,F3 y] [] (λ_=>iA (if x.st≤y.st then-1 else 1)) [] (λ_=>[]):=by
 refine Ag.toCt ?_ cl cl
 refine RM func43 b43 ?_
 by_cases h:x.st≤y.st
 ·have q:decide (x.st≤y.st)=true:=decide_eq_true h;rw[if_pos h];refine (mq q ?_).1;exact FA b43 []
 ·have q:decide (x.st≤y.st)=false:=decide_eq_false h;rw[if_neg h];refine (mq q ?_).1;exact FA b43 []
def Ji (l:List Lk):Nat->Bool
 |0=>true
 |1=>true
 |i+2=>if(l.getD (i+1) B_).st≤(l.getD i B_).st then false else Ji l (i+1)
theorem cM (l:List Lk) (hn:l.length≤1000000):Ag prog 42 [C3 l,.fn 43 [] []] [] (bA (Ji l l.length)) []:=by
 have w0:IntKind.i64.wrap ((l.length:Int)-1)=(l.length:Int)-1:=i64_in _ Om;obtain⟨X,hX⟩:∃X,Ji l l.length=X:=⟨_,rfl⟩;rw[hX];refine RN func42 b42 ?_;refine (mr @Ao w0 ?_).1
 refine AA (α:=Nat) (λk=>C3 l::.fn 43 [] []::.any::.any::.any::iA ((k:Int)-1)::Az [.any,.any,.any]) (λ_=>[]) (λk=>k≤l.length∧Ji l k=X) (λk=>k) l.length ⟨Nat.le_refl _,hX⟩ (Wk.to Si (by simp[B6])) ?_;rintro k ⟨hk,hk2⟩;refine (mp ?_).1
 match k,hk,hk2 with
 |0,_,hk2=>
  have q1:decide ((0:Int)<((0:Nat):Int)-1)=false:=by decide
  have e:X=true:=by rw[←hk2];rfl
  refine (mr q1 e ?_).1;exact FA b42 []
 |1,_,hk2=>
  have q1:decide ((0:Int)<((1:Nat):Int)-1)=false:=by decide
  have e:X=true:=by rw[←hk2];rfl
  refine (mr q1 e ?_).1;exact FA b42 []
 |i+2,hk,hk2=>
  have q1:decide ((0:Int)<((i+2:Nat):Int)-1)=true:=decide_eq_true Om;have e1:((i+2:Nat):Int)-1=((i+1:Nat):Int):=Om
  have w1:IntKind.i64.wrap (((i+1:Nat):Int)-1)=(i:Int):=by rw[i64_in _ Om];omega
  have ga:=Cm l (i+1) Om;have gb:=Cm l i Om;obtain⟨x,hx⟩:∃x,l.getD (i+1) B_=x:=⟨_,rfl⟩;obtain⟨y,hy⟩:∃y,l.getD i B_=y:=⟨_,rfl⟩;rw[hx]at ga;rw[hy]at gb;simp only[Ji]at hk2;rw[hx,hy]at hk2;rw[e1]at q1;simp only[go_sem,seval,e1,q1,w1,ga,gb,Ao,Int.toNat_natCast];refine (AZ ?_).1;(repeat with_reducible refine Sa ?_);refine Aa.p (Ws x y) ?_;by_cases h:x.st≤y.st
  ·rw[if_pos h]at hk2 ⊢;simp only[go_sem,seval,←hk2];refine (AZ ?_).1;exact FA b42 []
  ·rw[if_neg h]at hk2 ⊢;refine (mq w1 ?_).1;exact⟨i+1,⟨Om,hk2⟩,Om,Wk.to Si (by simp[B6])⟩
theorem kW (l:List Lk) (hn:l.length≤1000000):Ct Tryz.prog 42 [C3 l,.fn 43 [] []] [] (λ_=>bA (Ji l l.length)) [] (λ_=>[]):=(cM l hn).toCt cl cl
def aP (l:List Lk) (hn:l.length≤1000000):Ct prog 19 [C3 l] [] (λ_=>bA (Ji l l.length)) [] (λ_=>[]):=by
 refine Ag.toCt ?_ cl cl
 refine RM func19 b19 ?_
 refine Cp (kW l hn) ?_;exact FA b19 []
theorem Pd (pos:Int) (t l:List Lk) (x:Lk):Fs pos t (l++[x])=JV pos (Fs pos t l) x:=by simp[Fs]
theorem JX (pos:Int) (t l:List Lk):(Fs pos t l).1.length=l.length:=by
 have:=congrArg List.length (Qw (pos:=pos) l ([],t));simpa[Fs]using this
theorem Pf (base:Int) (t:List Lk) (l:List En) (e:En):FD base t (l++[e])=ES base (FD base t l) e:=by simp[FD]
theorem Mt (base:Int) (t:List Lk) (l:List En):(FD base t l).1.length=l.length:=by
 have:=Ms (base:=base) l ([],t);simpa[FD]using this
def Ie (pos:Int) (t l:List Lk) (i:Nat):List Lk:=(Fs pos t (l.take i)).1++l.drop i
def Ic (base:Int) (t:List Lk) (l:List En) (k:Nat):List En:=(FD base t (l.take k)).1++l.drop k
def kB {pos:Int} {t l:List Lk} {i:Nat} (h:i≤l.length):(Ie pos t l i).length=l.length:=by simp[Ie,JX];omega
theorem Tw {base:Int} {t:List Lk} {l:List En} {k:Nat} (h:k≤l.length):(Ic base t l k).length=l.length:=by simp[Ic,Mt];omega
def bG {pos:Int} {t l:List Lk} {i:Nat} (h:i<l.length):Ie pos t l (i+1)=(Ie pos t l i).set i (JW (Fs pos t (l.take i)).2 (l.getD i B_))∧(Fs pos t (l.take (i+1))).2=El (Fs pos t (l.take i)).2 (LS (JW (Fs pos t (l.take i)).2 (l.getD i B_)) pos):=by
 have e:l.drop i=l.getD i B_::l.drop (i+1):=by rw[drop_eq_getElem_cons h];simp[h]
 have e2:l.take (i+1)=l.take i++[l.getD i B_]:=by rw[take_add_one];congr 1;simp[h]
 have hl:(Fs pos t (l.take i)).1.length=i:=by rw[JX,length_take];omega
 refine⟨?_,by rw[e2,Pd];rfl⟩;unfold Ie;rw[e,e2,Pd,set_append_right _ _ Om,hl,Nat.sub_self];simp[JV]
theorem q8 {pos:Int} {t l:List Lk} {i:Nat} (h:i<l.length):(Ie pos t l i).getD i B_=l.getD i B_:=by
 have e:l.drop i=l.getD i B_::l.drop (i+1):=by rw[drop_eq_getElem_cons h];simp[h]
 have hl:(Fs pos t (l.take i)).1.length=i:=by rw[JX,length_take];omega
 unfold Ie;rw[e,getD_eq_getElem?_getD,getElem?_append_right Om,hl,Nat.sub_self];rfl
def bF {base:Int} {t:List Lk} {l:List En} {k:Nat} (h:k<l.length):Ic base t l (k+1)=(Ic base t l k).set k ⟨(Fs (base+k) (FD base t (l.take k)).2 (l.getD k B3).lk).1,(l.getD k B3).data⟩∧(FD base t (l.take (k+1))).2=(Fs (base+k) (FD base t (l.take k)).2 (l.getD k B3).lk).2:=by
 have e:l.drop k=l.getD k B3::l.drop (k+1):=by rw[drop_eq_getElem_cons h];simp[h]
 have e2:l.take (k+1)=l.take k++[l.getD k B3]:=by rw[take_add_one];congr 1;simp[h]
 have hl:(FD base t (l.take k)).1.length=k:=by rw[Mt,length_take];omega
 refine⟨?_,by rw[e2,Pf];simp[ES,hl]⟩;unfold Ic;rw[e,e2,Pf,set_append_right _ _ Om,hl,Nat.sub_self];simp[ES,hl]
theorem qZ {base:Int} {t:List Lk} {l:List En} {k:Nat} (h:k<l.length):(Ic base t l k).getD k B3=l.getD k B3:=by
 have e:l.drop k=l.getD k B3::l.drop (k+1):=by rw[drop_eq_getElem_cons h];simp[h]
 have hl:(FD base t (l.take k)).1.length=k:=by rw[Mt,length_take];omega
 unfold Ic;rw[e,getD_eq_getElem?_getD,getElem?_append_right Om,hl,Nat.sub_self];rfl
theorem NS:∀(l m:List En) (n:Nat),l.length=m.length->(∀i,i<l.length->(l.getD i B3).lk.length=(m.getD i B3).lk.length∧(l.getD i B3).data=(m.getD i B3).data)->CV n l=CV n m
 |[],[],n,_,_=>rfl
 |[],e::m,n,h,_=>by simp at h
 |e::l,[],n,h,_=>by simp at h
 |e::l,f::m,n,h,hi=>by
  rw[CV,CV,NS l m (n+1) (by simpa using h) (λi h=>by simpa using hi (i+1) (by simpa using h))];have h0:=hi 0 Si;simp only[getD_cons_zero]at h0;simp only[xH];rw[h0.1,h0.2]
def mA (b:Bt) (t:List Lk) (n:Nat):CV n (Dj b t).1.en=CV n b.en:=
 NS _ _ n (IN b t) λi hi=>by
  have⟨h1,h2⟩:=SB b t i (by rw[←IN b t];exact hi);exact⟨by simpa using congrArg List.length h1,h2⟩
theorem dF (l:List Lk) (id:Int):(if B9 l id=l.length then B_ else l.getD (B9 l id) B_)=l.getD (B9 l id) B_:=by
 split
 ·rename_i h;rw[h];simp
 ·rfl
structure ThM (b:Bt) (t:List Lk):Prop where
 n:b.en.length≤1000000
 l:∀e∈b.en,e.lk.length≤1000000
 b0:0≤b.base
 b1:b.base+b.en.length<18446744073709551616
 s:∀k,k<b.en.length->∀i,i≤(b.en.getD k B3).lk.length->B7 (Fs (b.base+k) (FD b.base t (b.en.take k)).2 ((b.en.getD k B3).lk.take i)).2
theorem Sv (b:Bt) (t:List Lk) (h:ThM b t):Ag prog 20 [mV 0 b,C3 t] (BF b.en) (.tup [mV 0 (Dj b t).1,C3 (Dj b t).2]) (BF (Dj b t).1.en):=by
 have⟨hn,hl,hb0,hb1,hS⟩:=h;have hRl0:=Cc b.en;obtain⟨R0,hR0⟩:∃R,BF b.en=R:=⟨_,rfl⟩;rw[hR0]at hRl0;rw[hR0];have x0:∀x,(R0++[x]).length=b.en.length+1:=λx=>by rw[←hRl0];simp
 have s0:∀x y,(R0++[x]).set b.en.length y=R0++[y]:=λx y=>by rw[←hRl0];simp
 have g0:∀x l,(R0++x::l)[b.en.length]? =some x:=λx l=>by rw[←hRl0];simp
 refine RN func20 b20 ?_;simp only[go_sem,seval,hRl0,x0,s0,g0,Ey,append_assoc];refine (AZ ?_).1
 refine AA (α:=Nat) (λk=>.any::C3 (FD b.base t (b.en.take k)).2::.ref b.en.length 0::.any::.ref (b.en.length+1) 0::.sl .full 1 []::.any::.any::.any::.any::.any::.any::.any::.sl .none 2 (CV 0 b.en)::iA b.en.length::iA k::Az (Az (Ay (Ay [])))) (λk=>BF (Ic b.base t b.en k)++[.cells [uA b.ep,uA b.base,.sl .none 2 (CV 0 b.en)],.cells [uA 0,uA 0,.sl .full 1 []]]) (λk=>k≤b.en.length) (λk=>b.en.length-k) 0 Si (Wk.to (by simp[Ic,FD,hR0]) (by simp[B6,FD])) ?_;intro k hk;have hRl:(BF (Ic b.base t b.en k)).length=b.en.length:=by rw[Cc,Tw hk]
 have hRr:=λρ=>EW ρ (Ic b.base t b.en k)
 by_cases hlt:k<b.en.length
 ·have hRk:=KN (Ic b.base t b.en k) k (by rw[Tw hk];exact hlt);rw[qZ hlt]at hRk;have⟨nx1,nx2⟩:=bF (base:=b.base) (t:=t) hlt;have hRn:BF (Ic b.base t b.en (k+1))=(BF (Ic b.base t b.en k)).set k (LP (Fs (b.base+k) (FD b.base t (b.en.take k)).2 (b.en.getD k B3).lk).1):=by rw[nx1,Pq]
  have hSk:=hS k hlt;have hm:b.en.getD k B3∈b.en:=by simp[hlt]
  have hle:=hl _ hm;have q1:decide ((k:Int)<(b.en.length:Int))=true:=decide_eq_true Om;have ek:=Am k Om;have uk:IntKind.u64.wrap (k:Int)=(k:Int):=u64_in _ Om;have ub:IntKind.u64.wrap (b.base+(k:Int))=b.base+(k:Int):=u64_in _ Om;have g:=NR b.en 0 k hlt;rw[Nat.zero_add]at g;obtain⟨R,hR⟩:∃R,BF (Ic b.base t b.en k)=R:=⟨_,rfl⟩;obtain⟨e,he⟩:∃e,b.en.getD k B3=e:=⟨_,rfl⟩;obtain⟨T,hT⟩:∃T,(FD b.base t (b.en.take k)).2=T:=⟨_,rfl⟩;rw[hR,hT,he]at hRn;rw[he]at hRk g hle hSk;rw[hT]at hSk;rw[hT,he]at nx2;rw[hR]at hRl hRr hRk;rw[hR,hT];obtain⟨B,hB⟩:∃B,b.base=B:=⟨_,rfl⟩;rw[hB]at ub hRn hSk nx2;have x1:∀x y,(R++[x,y]).length=b.en.length+1+1:=λx y=>by rw[←hRl];simp
  have g1:∀x y z l,(R++x::y::z::l)[b.en.length+1+1]? =some z:=λx y z l=>by rw[←hRl];simp[Nat.add_assoc]
  have s1:∀x y z l v,(R++x::y::z::l).set (b.en.length+1+1) v=R++x::y::v::l:=λx y z l v=>by rw[←hRl];simp[Nat.add_assoc]
  simp only[go_sem,seval,q1,g,Ey,Int.toNat_natCast,x1,g1,s1,append_assoc,hB];refine (AZ ?_).1;(repeat with_reducible refine Sa ?_);refine AA (α:=Nat) (λi=>.any::C3 (Fs (B+k) T (e.lk.take i)).2::.ref b.en.length 0::.any::.ref (b.en.length+1) 0::.sl .full 1 []::iA k::.ref (b.en.length+1+1) 0::.any::.any::.any::.any::.any::.sl .none 2 (CV 0 b.en)::iA b.en.length::iA k::.any::.any::.any::.any::.any::.ms k e.lk.length::iA e.lk.length::iA i::Az (Az [])) (λi=>R.set k (.mrow 2 e.lk.length (Dt (Ie (B+k) T e.lk i)))++[.cells [uA b.ep,uA B,.sl .none 2 (CV 0 b.en)],.cells [uA 0,uA 0,.sl .full 1 []],.cells [.ms k e.lk.length,Bj .u8 e.data]]) (λi=>i≤e.lk.length) (λi=>e.lk.length-i) 0 Si (Wk.to (by
   have e1:R.set k (.mrow 2 e.lk.length (Dt (Ie (B+k) T e.lk 0)))=R:=by
    have e2:Ie (B+k) T e.lk 0=e.lk:=by simp[Ie,Fs]
    rw[e2];have⟨h1,h2⟩:=List.getElem?_eq_some_iff.1 hRk;have h3:R.set k R[k]=R:=set_getElem_self h1;rw[h2]at h3;exact h3
   rw[e1]) (by simp[B6,Fs])) ?_
  intro i hi;by_cases hil:i<e.lk.length
  ·have q2:decide ((i:Int)<(e.lk.length:Int))=true:=decide_eq_true Om;have ei:=Am i Om;have hSi:=hSk i hi;have⟨m1,m2⟩:=bG (pos:=B+k) (t:=T) hil;have hml:=kB (pos:=B+k) (t:=T) hi;have hcl:(Dt (Ie (B+k) T e.lk i)).length=e.lk.length*2:=by rw[Hr,hml]
   have hg:=TK (Ie (B+k) T e.lk i) i (by rw[hml];exact hil);rw[q8 hil]at hg;obtain⟨x,hx⟩:∃x,e.lk.getD i B_=x:=⟨_,rfl⟩;rw[hx]at hg m1 m2;obtain⟨Ti,hTi⟩:∃Ti,(Fs (B+k) T (e.lk.take i)).2=Ti:=⟨_,rfl⟩;rw[hTi]at hSi m1 m2;rw[hTi];have hp:=YU (Ie (B+k) T e.lk i) (JW Ti x) i (by rw[hml];exact hil);rw[←m1]at hp;obtain⟨F,hF⟩:∃F,Dt (Ie (B+k) T e.lk i)=F:=⟨_,rfl⟩;rw[hF]at hcl hp hg;rw[hF];have hfd:=cD Ti x.st hSi;rw[dF]at hfd;obtain⟨f,hf⟩:∃f,Ti.getD (B9 Ti x.st) B_=f:=⟨_,rfl⟩;have hfb:f.bk.length≤1000000:=by
    rcases NG (t:=Ti) (st:=x.st)with h1|⟨h1,_⟩
    ·rw[←hf,h1];simp[B_]
    ·rw[←hf];exact hSi.2 _ h1
   have hxe:JW Ti x=⟨x.st,f.bk⟩:=by unfold JW;rw[hf]
   rw[hf]at hfd;rw[hxe]at hp m2;have hex:=TT ⟨x.st,f.bk⟩ (B+k) hfb;have hwi:=bX Ti (LS ⟨x.st,f.bk⟩ (B+k)) hSi (by simp[LS];omega);rw[←m2]at hwi;have gk:∀z l,(R.set k z++l)[k]? =some z:=λz l=>by rw[getElem?_append_left (by simp;omega)];simp[hRl,hlt]
   have sk:∀z l v,(R.set k z++l).set k v=R.set k v++l:=λz l v=>by rw[set_append_left _ _ (by simp;omega)];simp
   have y0:∀z x y u,(R.set k z++[x,y,u]).length=b.en.length+1+1+1:=λz x y u=>by rw[←hRl];simp
   have y1:∀z x y u v,(R.set k z++[x,y,u,v]).length=b.en.length+1+1+1+1:=λz x y u v=>by rw[←hRl];simp
   have h0:∀z x l,(R.set k z++x::l)[b.en.length]? =some x:=λz x l=>by rw[←hRl];simp
   have h2:∀z x y u l,(R.set k z++x::y::u::l)[b.en.length+1+1]? =some u:=λz x y u l=>by rw[←hRl];simp[Nat.add_assoc]
   have h3:∀z x y u v l,(R.set k z++x::y::u::v::l)[b.en.length+1+1+1]? =some v:=λz x y u v l=>by rw[←hRl];simp[Nat.add_assoc]
   have h4:∀z x y u v w l,(R.set k z++x::y::u::v::w::l)[b.en.length+1+1+1+1]? =some w:=λz x y u v w l=>by rw[←hRl];simp[Nat.add_assoc]
   have s3:∀z x y u v l a,(R.set k z++x::y::u::v::l).set (b.en.length+1+1+1) a=R.set k z++x::y::u::a::l:=λz x y u v l a=>by rw[←hRl];simp[Nat.add_assoc]
   have s4:∀z x y u v w l a,(R.set k z++x::y::u::v::w::l).set (b.en.length+1+1+1+1) a=R.set k z++x::y::u::v::a::l:=λz x y u v w l a=>by rw[←hRl];simp[Nat.add_assoc]
   simp only[go_sem,seval,q2,gk,hg,hcl,Int.toNat_natCast,y0,h3,s3,append_assoc];refine (AZ ?_).1;(repeat with_reducible refine Sa ?_);refine Aa.p (hfd) ?_;simp only[go_sem,seval,y1,h2,h3,h4,s3,s4,gk,sk,hp,hcl,h0,uk,ub,Int.toNat_natCast,append_assoc];refine (AZ ?_).1;(repeat with_reducible refine Sa ?_);refine Aa.p (hex) (mp ?_).1;refine Aa.p (hwi) (mq ei ?_).1;refine⟨i+1,hil,Om,?_⟩;refine Wk.drop3 (A:=[]) (R:=R.set k _) (B:=[_,_,_]) (D:=[_,_]) (by simp;omega) (λρ h1=>?_);simp only[length_cons,length_nil,length_set,hRl]at h1;have r1:=h1 b.en.length Om;have r2:=h1 (b.en.length+1) Om;have r3:=h1 (b.en.length+1+1) Om;have rk:=h1 k Om;have re:=DE b.en 0 0 ρ (λi hi=>h1 (0+i) Om);exact⟨rfl,by rw[map_set,hRr,DP,DR],by simp[re,rk,AI],by simp[Ch,AD,r1,r2,r3,rk,re,DM]⟩
  ·have q2:decide ((i:Int)<(e.lk.length:Int))=false:=decide_eq_false Om;have hie:i=e.lk.length:=Om
   subst hie;refine (mr q2 ek ?_).1;refine⟨k+1,hlt,Om,?_⟩;have e2:(Fs (B+k) T e.lk).1.length=e.lk.length:=JX _ _ _;have e1:LP (Fs (B+k) T e.lk).1=.mrow 2 e.lk.length (Dt (Ie (B+k) T e.lk e.lk.length)):=by simp[Ie,e2]
   rw[hRn,e1,nx2,take_length];refine Wk.drop3 (A:=[]) (R:=R.set k _) (B:=[_,_]) (D:=[_]) (by simp;omega) (λρ h1=>?_);simp only[length_cons,length_nil,length_set,hRl]at h1;have r1:=h1 b.en.length Om;have r2:=h1 (b.en.length+1) Om;have re:=DE b.en 0 0 ρ (λi hi=>h1 (0+i) Om);exact⟨rfl,by rw[map_set,hRr,DP,DR],by simp[re],by simp[Ch,AD,r1,r2,re,DM]⟩
 ·have q1:decide ((k:Int)<(b.en.length:Int))=false:=decide_eq_false Om;have hke:k=b.en.length:=Om
  subst hke;have e1:Ic b.base t b.en b.en.length=(Dj b t).1.en:=by simp[Ic,Dj]
  have e2:(FD b.base t (b.en.take b.en.length)).2=(Dj b t).2:=by simp[Dj]
  have e3:=mA b t 0;rw[e1]at hRl hRr;rw[e1,e2];obtain⟨R,hR⟩:∃R,BF (Dj b t).1.en=R:=⟨_,rfl⟩;rw[hR]at hRl hRr;rw[hR];have g1:∀x l,(R++x::l)[b.en.length]? =some x:=λx l=>by rw[←hRl];simp
  have g2:∀x y l,(R++x::y::l)[b.en.length+1]? =some y:=λx y l=>by rw[←hRl];simp
  have s2:∀x y l z,(R++x::y::l).set (b.en.length+1) z=R++x::z::l:=λx y l z=>by rw[←hRl];simp
  refine (mt q1 g1 g2 s2 ?_).1;refine A2.front (D:=[_,_]) b20.all.2.1 Om (λρ h1=>⟨hRr ρ,?_⟩);have re:=DE b.en 0 0 ρ (λi hi=>h1 (0+i) Om);simp[B8,D1,D4,Ci,mV,e3,re,g2,DM];simp[Dj]
def EG:Nat->List En->List (Nat×List AV)
 |_,[]=>[]
 |n,e::l=>(n,EO e.lk)::EG (n+1) l
def Jh (l:List En):List Ac:=l.map λe=>.row 2 e.lk.length
theorem J3 (l:List En):(Jh l).length=l.length:=by simp[Jh]
def Z7 (ρ:Nat->Nat) (l:List En):(Jh l).map (λo=>o.ren ρ)=Jh l:=by
 unfold Jh;rw[map_map];exact map_congr_left λe _=>rfl
def J2:∀(l:List En) (n:Nat),∀p∈EG n l,∃i,i<l.length∧p=(n+i,EO (l.getD i B3).lk)
 |[],n,p,h=>by simp[EG]at h
 |e::l,n,p,h=>by
  rw[EG]at h;rcases mem_cons.1 h with h|h
  ·exact⟨0,Si,by rw[h];rfl⟩
  ·have⟨i,h1,h2⟩:=J2 l (n+1) p h;exact⟨i+1,by simpa using h1,by rw[h2,getD_cons_succ,show n+1+i=n+(i+1) by omega]⟩
def H8:∀(l:List En) (n:Nat),((EG n l).map (·.1)).Nodup
 |[],n=>by simp[EG]
 |e::l,n=>by
  rw[EG,map_cons,nodup_cons];refine⟨λh=>?_,H8 l (n+1)⟩;have⟨p,h1,h2⟩:=mem_map.1 h;have⟨i,_,h3⟩:=J2 l (n+1) p h1;rw[h3]at h2;simp only at h2;omega
def Y4:∀(l:List En) (P:List Ac),fzT 2 (EG P.length l) (P++BF l)=P++Jh l
 |[],P=>rfl
 |e::l,P=>by
  have h:=Y4 l (P++[.row 2 e.lk.length]);rw[length_append,length_singleton,append_assoc,append_assoc]at h;rw[EG];simp only[fzT,foldl_cons];have e1:(P++BF (e::l)).set P.length (.row 2 (EO e.lk).length)=P++([.row 2 e.lk.length]++BF l):=by
   rw[set_append_right _ _ (Nat.le_refl _),Nat.sub_self,Ao];rfl
  rw[e1];exact h
def MN (l:List En):∀p∈EG 0 l,(BF l)[p.1]? =some (.mrow 2 p.2.length (flat p.2)):=λp hp=>by
 have⟨i,h1,h2⟩:=J2 l 0 p hp;rw[h2,Nat.zero_add,KN l i h1];simp only[Ao]
def YF (l:List En):∀p∈EG 0 l,∀z∈p.2,z.cells.length=2:=λp hp z hz=>by
 have⟨i,h1,h2⟩:=J2 l 0 p hp;rw[h2]at hz;exact TG _ z hz
def Yo {G:Gh}:∀(l:List En) (n:Nat),(∀p∈EG n l,∀v,Bg G (.ms p.1 p.2.length) v->Bg G (.sl .none 2 p.2) v)->GG G (CV n l) (H0 l)
 |[],n,_=>GG.nil
 |e::l,n,h=>by
  have h0:=h (n,EO e.lk) (by rw[EG];simp);rw[Ao]at h0;exact GG.cons (Qk.agg (GG.cons (M5 rfl rfl h0) (GG.cons (Qk.refl _) GG.nil))) (Yo l (n+1) λp hp=>h p (by rw[EG];exact mem_cons_of_mem _ hp))
def fY {G:Gh} (b:Bt) (h:Fzd 2 G (EG 0 b.en)):Qk G (mV 0 b) (Fx b):=
 Qk.agg (GG.cons (Qk.refl _) (GG.cons (Qk.refl _) (GG.cons (Qk.sl (Yo b.en 0 h)) GG.nil)))
def xY (b:Bt) (h:vD b):Ct prog 18 [Fx b] [] (λ_=>Fx (A3 b)) [] (λ_=>[]):=by
 refine Ag.toCt ?_ cl cl
 have h1:=(Zo b h).fzL 2 (EG 0 (A3 b).en) (H8 _ _) (MN _) (YF _) (r':=Fx (A3 b)) (λG v hf hr=>(fY _ hf).val v hr);exact h1.clean (S':=[]) [] Si rfl Si (λk i hk=>by simp at hk) (λk o h=>by simp at h) (by simp[CA])
def Sw (b:Bt) (t:List Lk) (h:ThM b t):Ag prog 20 [mV 0 b,C3 t] (BF b.en) (.tup [Fx (Dj b t).1,C3 (Dj b t).2]) (Jh (Dj b t).1.en):=by
 have h1:=(Sv b t h).fzL 2 (EG 0 (Dj b t).1.en) (H8 _ _) (MN _) (YF _) (r':=.tup [Fx (Dj b t).1,C3 (Dj b t).2]) (λG v hf hr=>(Qk.tup (GG.cons (fY _ hf) (GG.cons (Qk.refl _) GG.nil))).val v hr);have e:=Y4 (Dj b t).1.en [];rw[nil_append,nil_append]at e;rw[show EG 0 (Dj b t).1.en=EG ([]:List Ac).length (Dj b t).1.en from rfl,e]at h1;exact h1
def VK (b:Bt) (t:List Lk) (h:ThM b t) (n:Nat):Ct prog 20 [mV n b,C3 t] ((range' n b.en.length).zip (BF b.en)) (λ_=>.tup [Fx (Dj b t).1,C3 (Dj b t).2]) ((range' n b.en.length).zip (Jh (Dj b t).1.en)) (λ_=>[]):=
 Ct.us (Sw b t h) (range' n b.en.length) nodup_range' (by simp[Cc]) (by rw[J3,Cc,IN]) (λo ho=>by
  obtain⟨e,_,rfl⟩:=mem_map.1 ho;simp)
  (λN=>by
    have re:=DE b.en 0 n (AH (range' n b.en.length) N) (λi hi=>by rw[Nat.zero_add];exact Eb (by rw[getElem?_range' hi];simp));simp[AD,re,DM])
  (λN=>EW _ _) (λN=>Z7 _ _) (λN=>by simp[CA,DM])
def Mr (b:Bt) (t:List Lk):Bool:=Bw (A3 b)&&Ji t t.length&&Bw (Dj (A3 b) t).1
def Qv (b:Bt) (t:List Lk):AV:=if Mr b t=true then .tup [Fx (BG b t).1,C3 (BG b t).2,iA 0]else .tup [Fx Cj,C3 [],iA 3]
def tQ {b:Bt} (hb:b.ok) (hr:Bw (A3 b)=true):∀e∈(A3 b).en,fR e:=λe he=>by
 have⟨r1,⟨r2,r3,r4⟩,r5,r6⟩:=BW.1 hr;refine⟨(Mg hb).en e he,?_,λx hx=>?_⟩
 ·obtain⟨i,hi,rfl⟩:=getElem_of_mem he;have:=(Dz.1 (DB.1 (r6 i hi)).1).1;simpa[hi]using this
 ·obtain⟨e',he',rfl⟩:=mem_map.1 he;obtain⟨y,hy,rfl⟩:=mem_map.1 hx;simp
def vS {b:Bt} {t:List Lk} {N:Nat} (hb:b.ok) (ht:Hg N t) (hN:N≤500000) (hr:Bw (A3 b)=true):ThM (A3 b) t:=by
 have hbo:=Mg hb;have hen:=tQ hb hr;have⟨r1,⟨r2,r3,r4⟩,r5,r6⟩:=BW.1 hr;have b0:=hbo.b0;refine⟨Om,λe he=>by have:=(hen e he).n;omega,b0,Om,λk hk i hi=>?_⟩;have hm:(A3 b).en.getD k B3∈(A3 b).en:=by simp[hk]
 have hl:=(hen _ hm).n;have hkl:((A3 b).en.take k).length=k:=by rw[length_take];omega
 have h1:=(Qy (base:=(A3 b).base) ((A3 b).en.take k) ([],t) N b0 (by simp only[length_nil,hkl];omega) (λe he=>by simp at he) ht (λe he=>hen e (mem_of_mem_take he))).2;rw[hkl]at h1;have h2:=(Qx (pos:=(A3 b).base+k) Om (((A3 b).en.getD k B3).lk.take i) ([],(FD (A3 b).base t ((A3 b).en.take k)).2) (N+16*k) 0 ⟨Si,λy hy=>by simp at hy⟩ h1 (λx hx=>(hen _ hm).ok.lk x (mem_of_mem_take hx))).2;have hil:(((A3 b).en.getD k B3).lk.take i).length≤16:=by rw[length_take];omega
 exact h2.smalls Om
def kV {l:List En} {e:En} (h:e∈l):e.data.length≤(Ak l).length:=by
 induction l with
 |nil=>simp at h
 |cons x l ih=>
  have e1:Ak (x::l)=x.data++Ak l:=by simp[Ak]
  rw[e1,length_append];rcases mem_cons.1 h with rfl|h
  ·omega
  ·have:=ih h;omega
def JU {b:Bt} {t:List Lk} {N:Nat} (hb:b.ok) (ht:Hg N t) (hr:Bw (A3 b)=true):Dm (BG b t).1:=by
 have⟨h1,h2,h3,h4⟩:=KI hb ht hr;have hj:=Sy (A3 b) t;have⟨r1,r2,r5,r6⟩:=BW.1 hr;have hj2:Ak (BG b t).1.en=Ak (A3 b).en:=hj;refine⟨Om,λe he=>?_,by rw[hj2];omega⟩;have he2:=h2 e he;have hn:=he2.n;refine⟨⟨Om,λx hx=>by have:=he2.k x hx;omega⟩,?_⟩;have h5:=kV he;rw[hj2]at h5;omega
def Pa:∀(U R P:List Ac),U.length=R.length->Cv (P++R) ((range' P.length U.length).zip U)=P++U
 |[],[],P,_=>rfl
 |[],r::R,P,h=>by simp at h
 |u::U,[],P,h=>by simp at h
 |u::U,r::R,P,h=>by
  have ih:=Pa U R (P++[u]) (by simpa using h);rw[length_append,length_singleton,append_assoc,append_assoc]at ih;rw[length_cons,range'_succ,zip_cons_cons,CF];have e1:(P++r::R).set P.length u=P++([u]++R):=by rw[set_append_right _ _ (Nat.le_refl _),Nat.sub_self];rfl
  rw[e1];exact ih
def pY (R P:List Ac):(range' P.length R.length).map (λi=>(P++R)[i]?)=R.map some:=by
 apply ext_getElem?;intro j;by_cases hj:j<R.length
 ·rw[getElem?_map,getElem?_range' hj,Option.map_some,getElem?_append_right Om,show P.length+1*j-P.length=j by omega,getElem?_map];simp[hj]
 ·rw[getElem?_eq_none (by simp;omega),getElem?_eq_none (by simp;omega)]
theorem QP (b:Bt) (t:List Lk) (N:Nat) (hb:b.ok) (hs:Dm (A3 b)) (hc:vD b) (ht:Hg N t) (hN:N≤500000):Ag prog 6 [Fx b,C3 t] [] (Qv b t) []:=by
 have hsm:=ht.smalls Om;have hbf:=xY b hc;have hbm:=xX b hc;have hri:=Gu (A3 b) (Mg hb) hs;have hrs:=aP t hsm.1;have hlc:=KQ t hsm.1 hsm.2;have eR:Qv b t=if Mr b t=true then .tup [Fx (BG b t).1,C3 (BG b t).2,iA 0]else .tup [Fx Cj,C3 [],iA 3]:=rfl
 have eO:Mr b t=(Bw (A3 b)&&Ji t t.length&&Bw (Dj (A3 b) t).1):=rfl;have⟨X,hX⟩:=Ex (Qv b t);rw[hX]at eR ⊢;refine RM func6 b6 ?_
 refine Cp (hbf) ?_;refine Aa.p (hri) ?_;cases hr1:Bw (A3 b)with
 |false=>
  rw[hr1,Bool.false_and,Bool.false_and]at eO;rw[eO,if_neg De]at eR;refine (mp ?_).1;(refine A2.nilk 5 2 rfl ?_;simp only[set_cons_zero,set_cons_succ]);refine WO 1 [uA 0,uA 0,Fy []] ?_;rw[eR]
  exact FK b6 [] (by simp[Cj,EO])
 |true=>
  refine (mp ?_).1;refine Aa.p (hrs) ?_;cases hr2:Ji t t.length with
  |false=>
   rw[hr1,hr2,Bool.and_false,Bool.false_and]at eO;rw[eO,if_neg De]at eR;refine (mp ?_).1;(refine A2.nilk 5 2 rfl ?_;simp only[set_cons_zero,set_cons_succ]);refine WO 1 [uA 0,uA 0,Fy []] ?_;rw[eR]
   exact FK b6 [] (by simp[Cj,EO])
  |true=>
   rw[hr1,hr2,Bool.and_true,Bool.true_and]at eO;have htf:=VK (A3 b) t (vS hb ht hN hr1) 2;have hri2:=Gu (BG b t).1 (KI hb ht hr1).1 (JU hb ht hr1);refine (mp ?_).1;refine Aa.n (hbm) (mp ?_).1;refine Cp (hlc) ?_;have hRl:=Cc (A3 b).en;have hUl:(Jh (Dj (A3 b) t).1.en).length=(A3 b).en.length:=by rw[J3,IN]
   have⟨R,hR⟩:=Ex (BF (A3 b).en);have⟨U,hU⟩:=Ex (Jh (Dj (A3 b) t).1.en);rw[hR]at hRl htf;rw[hU]at hUl htf;rw[hR];have hup:∀x y,Cv (x::y::R) ((range' 2 (A3 b).en.length).zip U)=x::y::U:=λx y=>by
    have:=Pa U R [x,y] Om;rw[hUl]at this;exact this
   have hat:∀x y,(range' 2 (A3 b).en.length).map (λi=>(x::y::R)[i]?)=R.map some:=λx y=>by
    have:=pY R [x,y];rw[hRl]at this;exact this
   have g1:∀x,(U++[x])[(A3 b).en.length]? =some x:=λx=>by rw[←hUl];simp
   have s1:∀x y,(U++[x]).set (A3 b).en.length y=U++[y]:=λx y=>by rw[←hUl];simp
   refine Aa.us htf (by simp[hRl]) (hat _ _) (mt hup hUl g1 s1 ?_).1;have et:BG b t=Dj (A3 b) t:=rfl;rw[et]at hri2;refine Aa.p (hri2) ?_;cases hr3:Bw (Dj (A3 b) t).1 with
   |false=>
    rw[hr3]at eO;rw[eO,if_neg De]at eR;refine (mp ?_).1;(refine A2.nilk 5 2 rfl ?_;simp only[set_cons_zero,set_cons_succ]);refine WO 1 [uA 0,uA 0,Fy []] ?_;rw[eR]
    exact FK b6 [] (by simp[Cj,EO])
   |true=>
    rw[hr3]at eO;rw[eO,if_pos rfl,et]at eR;refine (mq g1 ?_).1;rw[eR];exact FA b6 []
def Tj (b:Bt) (t:List Lk) (N:Nat) (hb:b.ok) (hs:Dm (A3 b)) (hc:vD b) (ht:Hg N t) (hN:N≤500000):Ct prog 6 [Fx b,C3 t] [] (λ_=>Qv b t) [] (λ_=>[]):=
 (QP b t N hb hs hc ht hN).toCt (λρ=>by simp[CA,DM]) (λρ=>by unfold Qv;split<;>simp[CA,DM])
structure R6 (s:List Int) (b:Bt):Prop where
 ok:b.ok
 n:b.en.length≤1000000
 fits:b.base+b.en.length<18446744073709551616
 sm:∀e∈b.en,B7 e.lk
 own:∀k,k<b.en.length->HO s (b.base+k)=(b.en.getD k B3,(0,0))
 led:∀e∈b.en,∀x∈e.lk,∀p∈x.bk,(HO s p).2=(0,0)∧(HO s p).1.lk.length≤1000000∧x.st∈(HO s p).1.lk.map (·.st)
def oZ (l:List Int) (k:Nat) (h:k<l.length):(AU .u64 l).getD k .any=uA (l.getD k 0):=by simp[AU,h]
theorem VD (s:List Int) (b:Bt) (hb:A7 s) (hn:s.length≤1000000) (h:R6 s b):Ag prog 13 [Bj .u8 s,Fx b] [] (bA true) []:=by
 have⟨hok,hbn,hfit,hsm,hown,hled⟩:=h;have hb0:=hok.b0;refine RM func13 b13 ?_
 refine AA (α:=Nat) (λk=>Bj .u8 s::.any::.any::.ref 0 0::.any::iA k::Az (Az (Az (Az (Az (Ay (Ay [.any,.any]))))))) (λ_=>[.cells [uA b.ep,uA b.base,Fy b.en]]) (λk=>k≤b.en.length) (λk=>b.en.length-k) 0 Si (Wk.to Si (by simp[B6])) ?_;intro k hk;refine (mq @Ax ?_).1;by_cases hlt:k<b.en.length
 ·have q1:decide ((k:Int)<(b.en.length:Int))=true:=decide_eq_true Om;have ek:=Am k Om;have uk:IntKind.u64.wrap (k:Int)=(k:Int):=u64_in _ Om;have ub:IntKind.u64.wrap (b.base+(k:Int))=b.base+(k:Int):=u64_in _ Om;have g:=DT b.en k hlt;have hm:b.en.getD k B3∈b.en:=by simp[hlt]
  have ho:=hown k hlt;have hlk:=GD s (b.base+k) hb hn Om;have hl:=hled _ hm;have hs:=hsm _ hm;have heo:=hok.en _ hm;obtain⟨e,he⟩:∃e,b.en.getD k B3=e:=⟨_,rfl⟩;rw[he]at g ho hl hs heo;rw[ho]at hlk;have hsa:=MS e e hs heo.data heo.data;rw[V0]at hsa;refine (ms q1 uk ub ?_).1;refine Aa.p (hlk) (ms g @Ax @Int.toNat_natCast ?_).1;(repeat with_reducible refine Sa ?_);refine Aa.p (hsa) (mq @Ao ?_).1;refine AA (α:=Nat) (λj=>Bj .u8 s::.any::.any::.ref 0 0::.any::iA k::Az (Az (Ay (Ay (C3 e.lk::iA e.lk.length::iA j::Az (Az (Ay (Ay (Ay [.any,.any,.any]))))))))) (λ_=>[.cells [uA b.ep,uA b.base,Fy b.en]]) (λj=>j≤e.lk.length) (λj=>e.lk.length-j) 0 Si (Wk.sel [0] Si rfl Si rfl (by simp[CA]) (by simp[Ch,AD,DM,AI])) ?_;intro j hj;refine (mp ?_).1;by_cases hjl:j<e.lk.length
  ·have q2:decide ((j:Int)<(e.lk.length:Int))=true:=decide_eq_true Om;have ej:=Am j (by have:=hs.1;omega);have gj:=Cm e.lk j hjl;have hmx:e.lk.getD j B_∈e.lk:=by simp[hjl]
   have hlx:=hl _ hmx;have hxo:=heo.lk _ hmx;have hxs:=hs.2 _ hmx;obtain⟨x,hx⟩:∃x,e.lk.getD j B_=x:=⟨_,rfl⟩;rw[hx]at gj hlx hxo hxs;refine (mt q2 gj @Ao @Int.toNat_natCast ?_).1;(repeat with_reducible refine Sa ?_);refine AA (α:=Nat) (λi=>Bj .u8 s::.any::.any::.ref 0 0::.any::iA k::.any::.any::.any::.ref 1 0::iA i::Az (Az (.any::.any::.any::C3 e.lk::iA e.lk.length::iA j::Az (Az (Ay (Ay (Ay [.any,.any,.any]))))))) (λ_=>[.cells [uA b.ep,uA b.base,Fy b.en],.cells [uA x.st,GB x.bk]]) (λi=>i≤x.bk.length) (λi=>x.bk.length-i) 0 Si (Wk.to Si (by simp[B6])) ?_;intro i hi;refine (mq @Ab ?_).1;by_cases hil:i<x.bk.length
   ·have q3:decide ((i:Int)<(x.bk.length:Int))=true:=decide_eq_true Om;have ei:=Am i Om;have gi:=oZ x.bk i hil;have hmp:x.bk.getD i 0∈x.bk:=by simp[hil]
    have hp:=hxo.b _ hmp;have⟨l1,l2,l3⟩:=hlx _ hmp;obtain⟨p,hpe⟩:∃p,x.bk.getD i 0=p:=⟨_,rfl⟩;rw[hpe]at gi hp l1 l2 l3;have hlp:=GD s p hb hn hp;rw[l1]at hlp;obtain⟨y,hy⟩:∃y,(HO s p).1=y:=⟨_,rfl⟩;rw[hy]at hlp l2 l3;refine (mt q3 gi @Ab @Int.toNat_natCast ?_).1;(repeat with_reducible refine Sa ?_);refine Aa.p (hlp) (mp ?_).1;refine AA (α:=Nat) (λa=>Bj .u8 s::.any::.any::.ref 0 0::.any::iA k::.any::.any::.any::.ref 1 0::iA i::.ref 2 0::.ref 3 0::bA ((y.lk.take a).any λz=>z.st==x.st)::iA a::Az (Ay (Ay (Ay (.any::.any::.any::C3 e.lk::iA e.lk.length::iA j::Az (Az (Ay (Ay (Ay [.any,.any,.any]))))))))) (λ_=>[.cells [uA b.ep,uA b.base,Fy b.en],.cells [uA x.st,GB x.bk],.cells [C3 y.lk,Bj .u8 y.data],.cells [iA 0,iA 0]]) (λa=>a≤y.lk.length) (λa=>y.lk.length-a) 0 Si (Wk.to Si (by simp[B6])) ?_;intro a ha;refine (mq @Ao ?_).1;by_cases hal:a<y.lk.length
    ·have q4:decide ((a:Int)<(y.lk.length:Int))=true:=decide_eq_true Om;have ea:=Am a Om;have ga:=Cm y.lk a hal;have et:(y.lk.take (a+1)).any (λz=>z.st==x.st)=((y.lk.take a).any (λz=>z.st==x.st)||((y.lk.getD a B_).st==x.st)):=by
      rw[take_add_one,any_append];simp[hal]
     obtain⟨z,hz⟩:∃z,y.lk.getD a B_=z:=⟨_,rfl⟩;rw[hz]at ga et;cases hc:(y.lk.take a).any (λz=>z.st==x.st)with
     |true=>
      rw[hc,Bool.true_or]at et;refine (ms q4 hc ea ?_).1;exact⟨a+1,hal,Om,Wk.to Si (by simp[B6,et])⟩
     |false=>
      rw[hc,Bool.false_or]at et;simp only[go_sem,seval,q4,hc,ga,Ao,Int.toNat_natCast,ea];refine (AZ ?_).1;(repeat with_reducible refine Sa ?_);exact⟨a+1,hal,Om,Wk.to Si (by simp[B6,et])⟩
    ·have q4:decide ((a:Int)<(y.lk.length:Int))=false:=decide_eq_false Om;have et:(y.lk.take a).any (λz=>z.st==x.st)=true:=by
      rw[take_of_length_le Om,any_eq_true];have⟨z,h1,h2⟩:=mem_map.1 l3;exact⟨z,h1,by simpa using h2⟩
     refine (ms q4 et ei ?_).1;exact⟨i+1,hil,Om,Wk.sel [0,1] Si rfl Si rfl (by simp[CA,AI]) (by simp[Ch,AD,DM,AI,AH])⟩
   ·have q3:decide ((i:Int)<(x.bk.length:Int))=false:=decide_eq_false Om;refine (mr q3 ej ?_).1;exact⟨j+1,hjl,Om,Wk.sel [0] Si rfl Si rfl (by simp[CA]) (by simp[Ch,AD,DM,AI])⟩
  ·have q2:decide ((j:Int)<(e.lk.length:Int))=false:=decide_eq_false Om;refine (mr q2 ek ?_).1;exact⟨k+1,hlt,Om,Wk.to Si (by simp[B6])⟩
 ·have q1:decide ((k:Int)<(b.en.length:Int))=false:=decide_eq_false Om;refine (mq q1 ?_).1;exact FA b13 []
theorem ZG (s:List Int) (b:Bt) (hb:A7 s) (hn:s.length≤1000000) (h:R6 s b):Ct Tryz.prog 13 [Bj .u8 s,Fx b] [] (λ_=>bA true) [] (λ_=>[]):=(VD s b hb hn h).toCt cl cl
def V7 {g:GH} {i:Nat} (hi:i<g.bt.length) (h:¬(Bw (g.bt.getD i Cj)=true∧GF g.ep (g.bt.take i) (g.bt.getD i Cj)=true)):C4 g=false:=by
 cases hr:C4 g with
 |false=>rfl
 |true=>exact absurd ((BD.1 hr).2.2 i hi) h
theorem MF (g:GH) (hn:g.bt.length≤1000000) (hb:∀b∈g.bt,b.ok∧Dm b):Ag prog 22 [Ot g] [] (bA (C4 g)) []:=by
 refine RM func22 b22 ?_
 refine Aa.p (AL g.ep) (mp ?_).1;cases he:Ae g.ep with
 |false=>
  have e:C4 g=false:=by unfold C4;rw[he,Bool.false_and]
  refine (mp ?_).1
  exact FE b22 [] e
 |true=>
  refine (mq @Bc ?_).1;by_cases h16:g.bt.length≤16
  ·have q0:decide ((16:Int)<(g.bt.length:Int))=false:=decide_eq_false Om;refine (mr q0 @Bc ?_).1;refine AA (α:=Nat) (λk=>.any::.ref 0 0::bA false::Ay (Ay (Ay (.any::uP g.bt::iA g.bt.length::iA k::Az (Ay []))))) (λ_=>[vZ g]) (λk=>k≤g.bt.length∧∀i,i<k->Bw (g.bt.getD i Cj)=true∧GF g.ep (g.bt.take i) (g.bt.getD i Cj)=true) (λk=>g.bt.length-k) 0 ⟨Si,λi hi=>by omega⟩ (Wk.to Si (by simp[B6])) ?_;rintro k ⟨hk,hall⟩;refine (mp ?_).1;by_cases hlt:k<g.bt.length
   ·have q1:decide ((k:Int)<(g.bt.length:Int))=true:=decide_eq_true Om;have ek:=Am k Om;have hg:=Ja g.bt k hlt;have hmem:g.bt.getD k Cj∈g.bt:=by simp[hlt]
    have⟨ho,hs⟩:=hb _ hmem;have hno:=V7 (g:=g) hlt;have hS:∀x∈g.bt.take k,Vw x:=λx hx=>by
     obtain⟨i,hi,rfl⟩:=getElem_of_mem hx;have hik:i<k:=by rw[length_take]at hi;omega
     have e1:(g.bt.take k)[i]=g.bt.getD i Cj:=by simp[show i<g.bt.length by omega]
     rw[e1];exact Pt (hb _ (by simp[show i<g.bt.length by omega])).1 (hall i hik).1
    have htl:(g.bt.take k).length≤1000000:=by rw[length_take];omega
    have hnx:Bw (g.bt.getD k Cj)=true∧GF g.ep (g.bt.take k) (g.bt.getD k Cj)=true->∀i,i<k+1->Bw (g.bt.getD i Cj)=true∧GF g.ep (g.bt.take i) (g.bt.getD i Cj)=true:=λh i hi=>by
     rcases Nat.lt_or_ge i k with h1|h1
     ·exact hall i h1
     ·obtain rfl:i=k:=Om
      exact h
    obtain⟨b,hbb⟩:∃b,g.bt.getD k Cj=b:=⟨_,rfl⟩;rw[hbb]at hg ho hs hno hnx;refine (mt q1 hg @Bc @Int.toNat_natCast ?_).1;(repeat with_reducible refine Sa ?_);refine Aa.p (Gu b ho hs) ?_;cases hr:Bw b with
    |false=>
     have e:=hno (λh=>by rw[hr]at h;exact absurd h.1 De);refine (mp ?_).1
     exact FE b22 [] e
    |true=>
     have hfo:=LL g.ep (g.bt.take k) b (Pt ho hr) hS htl;refine (mp ?_).1;(repeat((with_reducible refine And.intro ?_ ?_);(·first|exact sd|(simp[Ab,BK,AV.parts,Bc];done)|(simp[Ab,BK,AV.parts,Bc];omega))));refine (mr @mT @Int.toNat_natCast ?_).1;refine Aa.p (hfo) ?_;cases hf:GF g.ep (g.bt.take k) b with
     |false=>
      have e:=hno (λh=>by rw[hf]at h;exact absurd h.2 De);refine (mp ?_).1
      exact FE b22 [] e
     |true=>
      refine (mq ek ?_).1;exact⟨k+1,⟨hlt,hnx ⟨hr,hf⟩⟩,Om,Wk.sel [0] Si rfl Si rfl (by simp[AD]) (by simp[Ch,AD])⟩
   ·have q1:decide ((k:Int)<(g.bt.length:Int))=false:=decide_eq_false Om;have e:C4 g=true:=BD.2 ⟨BS.1 he,h16,λi hi=>hall i Om⟩;refine (mq q1 ?_).1
    exact FE b22 [] e
  ·have q0:decide ((16:Int)<(g.bt.length:Int))=true:=decide_eq_true Om;have e:C4 g=false:=by
    cases hr:C4 g with
    |false=>rfl
    |true=>exact absurd (BD.1 hr).2.1 h16
   refine (mq q0 ?_).1
   exact FE b22 [] e
theorem Ov (g:GH) (hn:g.bt.length≤1000000) (hb:∀b∈g.bt,b.ok∧Dm b):Ct Tryz.prog 22 [Ot g] [] (λ_=>bA (C4 g)) [] (λ_=>[]):=(MF g hn hb).toCt cl cl
def LK (k:Int) (p:List Int) (hk:0≤k∧k<256) (hp:A7 p) (hn:p.length≤2000000):Ag prog 51 [Yr k,Bj .u8 p] [] (Bj .u8 (Ad (k::p))) []:=by
 have hb:A7 (k::p):=λx hx=>by rcases mem_cons.1 hx with rfl|hx;exact hk;exact hp x hx
 have h1:[AV.lit (.int .u8 k)]++AU .u8 p=AU .u8 (k::p):=rfl;have h1':AV.lit (.int .u8 k)::AU .u8 p=AU .u8 (k::p):=rfl;refine RM func51 b51 ?_
 (repeat with_reducible refine Sa ?_);refine (mq h1' ?_).1;refine Aa.p (Uo (k::p) hb (by simp;omega)) ?_;refine (mp ?_).1;exact FA b51 []
theorem H6 (k:Int) (p:List Int) (hk:0≤k∧k<256) (hp:A7 p) (hn:p.length≤2000000):Ct Tryz.prog 51 [Yr k,Bj .u8 p] [] (λ_=>Bj .u8 (Ad (k::p))) [] (λ_=>[]):=(LK k p hk hp hn).toCt cl cl
structure nZ (g:GH):Prop where
 right:C4 g=true
 bt:∀b∈g.bt,b.ok∧Dm b
theorem nZ.w {g:GH} (h:nZ g):∀b∈g.bt,oO b:=λb hb=>by
 obtain⟨i,hi,rfl⟩:=getElem_of_mem hb;have h1:=((BD.1 h.right).2.2 i hi).1;have e:g.bt.getD i Cj=g.bt[i]:=by simp[hi]
 rw[e]at h1;exact⟨(h.bt _ hb).1,(h.bt _ hb).2,h1⟩
def Lr {b:Bt} (h:oO b):((Ad (1::Bk b)).length:Int)≤2200000∧0<(Ad (1::Bk b)).length:=by
 have h1:=(HI h).2.2;have h2:=Bb (1::Bk b);simp only[length_cons]at h2;omega
def K3 {l:List Bt} (h:∀b∈l,oO b):((BA l).length:Int)≤2200000*l.length:=by
 induction l with
 |nil=>simp[BA]
 |cons b l ih=>
  have h1:=ih λx hx=>h x (by simp[hx])
  have h2:=Lr (h b Si);rw[E4,length_append,length_cons];omega
def Ma (ep:Int):9≤(Ai ⟨3,ep,0⟩).length∧(Ai ⟨3,ep,0⟩).length≤40:=by
 have h1:=Et ⟨3,ep,0⟩;have h2:=(A4 ep).2;have h3:(AE ⟨3,ep,0⟩).length=5+(vb ep).length:=by unfold AE Br;simp;omega
 omega
def Hk {g:GH} (h:nZ g):AR (BU g)=true:=by
 have⟨h1,h2,h3⟩:=BD.1 h.right;have hl:=Ma g.ep;unfold AR;rw[Bool.and_eq_true,decide_eq_true_eq];refine⟨MQ g.bt 0 0 _ (Lh h.right λb hb=>(h.bt b hb).1) Om (λb hb=>Lr (h.w b hb)) Om,?_⟩;unfold BU;rw[Dg];exact h2
def MG {g:GH} (h:nZ g):Aw (B2 g)=true∧(B2 g).ok:=by
 have⟨h1,h2,h3⟩:=BD.1 h.right;have hl:=Ma g.ep;have hb:=K3 h.w;have hp:(DJ g).length=(Ai ⟨3,g.ep,0⟩).length+(BA g.bt).length:=by unfold DJ;rw[length_append]
 have hm:=(C7 (BU g)).1;have hm2:=(Bd.1 (Hk h)).2;have hf:=Bb (2::AJ (BU g));simp only[length_cons]at hf;exact Lu (Hk h) h1 Om Om
abbrev wrA (b:List Int) (m:List Mk) (f:Ft):AV:=.agg [Bj .u8 b,HT m,uA f.ep,iA f.bat,iA f.ent,uA f.fst,uA f.fin,iA f.at_,iA f.size]
theorem MD (g:GH) (h:nZ g):Ag prog 23 [Ot g] [] (wrA (CB g) (BU g) (B2 g)) []:=by
 have⟨h1,h2,h3⟩:=BD.1 h.right;have hl:=Ma g.ep;have hrm:=Hk h;have hbl:=K3 h.w;have⟨hrf,hfo⟩:=MG h;have hho:=OJ ⟨3,g.ep,0⟩ (hd3 h1) (Int.le_refl 0);have eB:CB g=DJ g++Ad (2::AJ (BU g))++EP (B2 g):=rfl;have eP:DJ g=Ai ⟨3,g.ep,0⟩++BA g.bt:=rfl;have eM:BU g=C6 (Ai ⟨3,g.ep,0⟩).length g.bt:=rfl;have eF:B2 g=Iu g.ep (BU g) (DJ g).length (Ad (2::AJ (BU g))).length:=rfl;obtain⟨HB,hHB⟩:∃HB,Ai ⟨3,g.ep,0⟩=HB:=⟨_,rfl⟩;rw[hHB]at hho eP eM hl;obtain⟨W,hW⟩:∃W:Nat->List Int,W=λk=>HB++BA (g.bt.take k):=⟨_,rfl⟩
 obtain⟨M,hM⟩:∃M:Nat->List Mk,M=λk=>C6 HB.length (g.bt.take k):=⟨_,rfl⟩
 have hW0:W 0=HB:=by rw[hW];simp[BA]
 have hM0:M 0=[]:=by rw[hM];simp[C6]
 have hWn:W g.bt.length=DJ g:=by rw[hW,eP];simp
 have hMn:M g.bt.length=BU g:=by rw[hM,eM];simp
 have hMl:∀k,k≤g.bt.length->(M k).length=k:=λk hk=>by rw[hM];simp only;rw[Dg,length_take];omega
 have hlen:∀k,k≤g.bt.length->(W k).length≤40000000:=λk hk=>by
  have h4:=K3 (l:=g.bt.take k) λb hb=>h.w b (mem_of_mem_take hb)
  rw[length_take]at h4;rw[hW];simp only[length_append];omega
 have hWs:∀k,k<g.bt.length->W k++Ad (1::Bk (g.bt.getD k Cj))=W (k+1):=λk hk=>by
  rw[hW];simp only;rw[Zi g.bt k hk,N1,append_assoc]
 have hMs:∀k,k<g.bt.length->M k++[⟨(g.bt.getD k Cj).base,(g.bt.getD k Cj).en.length,(W k).length⟩]=M (k+1):=λk hk=>by
  rw[hM,hW];simp only;rw[Zi g.bt k hk,Ll,length_append];simp
 have hpl:=(C7 (BU g)).1;have hm2:=(Bd.1 hrm).2;have hfl:=Bb (2::AJ (BU g));simp only[length_cons]at hfl;have hixl:(Ad (2::AJ (BU g))).length≤600:=Om
 have hir:TA (BU g)=AJ (BU g):=by unfold TA;rw[if_pos hrm]
 have hie:(if AR (BU g)=true then(0:Int)else 3)=0:=if_pos hrm;have hrec:=H6 2 (AJ (BU g)) Om (FZ (Bd.1 hrm).1 Om) Om;have hix:=Uc (BU g) (FM hrm) Om;rw[hir,hie]at hix;have hfb:=Ri (B2 g) hfo;rw[show IE (B2 g)=EP (B2 g)from by unfold IE;rw[if_pos hrf]]at hfb;have hfbl:(EP (B2 g)).length≤200:=by
  have h4:=Fg (B2 g);have h5:=Bb (Ba (B2 g));have h6:=Dw ((Ad (Ba (B2 g))).length:Int);unfold EP;rw[length_append];omega
 have hft:=ME g.ep (BU g) (DJ g).length (Ad (2::AJ (BU g))).length (FM hrm) Om;rw[←eF]at hft;obtain⟨R,hR⟩:∃R,CB g=R:=⟨_,rfl⟩;obtain⟨F,hF⟩:∃F,B2 g=F:=⟨_,rfl⟩;obtain⟨MM,hMM⟩:∃MM,BU g=MM:=⟨_,rfl⟩;obtain⟨PP,hPP⟩:∃PP,DJ g=PP:=⟨_,rfl⟩;rw[hF,hMM,hPP]at hft eB;rw[hR]at eB;rw[hMM]at hrec hix hMn;rw[hPP]at hWn;rw[hF]at hfb hfbl;obtain⟨IX,hIX⟩:∃IX,Ad (2::AJ MM)=IX:=⟨_,rfl⟩;rw[hMM,hIX]at hixl;rw[hIX]at hrec eB hft;rw[hF,hR,hMM];refine RM func23 b23 ?_
 refine Aa.n (hho) (mp ?_).1;refine AA (α:=Nat) (λk=>.any::.ref 0 0::.ref 1 0::.ref 2 0::Az (.any::.any::uP g.bt::iA g.bt.length::iA k::Az (Az (Az (Ay (Ay (Ay [.any,.any]))))))) (λk=>[vZ g,.cells [.sl .full 1 [],.sl .full 1 [],uA 0,iA 0,iA 0,uA 0,uA 0,iA 0,iA 0],.cells [Ia 3 (W k),.sl (.row 4) 3 (HY (M k)),uA 0,iA 0,iA 0,uA 0,uA 0,iA 0,iA 0],.row 1 (W k).length,.row 3 k]) (λk=>k≤g.bt.length) (λk=>g.bt.length-k) 0 Si ((Wk.rowObj 2 1 3 rfl rfl (.inr rfl) Om).trans (Wk.to (by simp[hW0,hM0,HY]) (by simp[B6,Bc]))) ?_;intro k hk;have hlk:=hlen k hk;have hmk:=hMl k hk;refine (mp ?_).1;by_cases hlt:k<g.bt.length
 ·have q1:decide ((k:Int)<(g.bt.length:Int))=true:=decide_eq_true Om;have ek:=Am k Om;have hg:=Ja g.bt k hlt;have hmem:g.bt.getD k Cj∈g.bt:=by simp[hlt]
  have hw:=h.w _ hmem;have hwn:=hWs k hlt;have hmn:=hMs k hlt;have hlk1:=hlen (k+1) hlt;obtain⟨b,hbb⟩:∃b,g.bt.getD k Cj=b:=⟨_,rfl⟩;rw[hbb]at hg hw hwn hmn;have hcl:=HI hw;have hrc:=H6 1 (Bk b) Om (Ky hw.ok hw.right) Om;have hll:(W k).length+(Ad (1::Bk b)).length=(W (k+1)).length:=by rw[←hwn,length_append]
  have hma:HY (M k)++[fW ⟨b.base,b.en.length,(W k).length⟩]=HY (M (k+1)):=by rw[←hmn,YO]
  refine (mt q1 hg @Bc @Int.toNat_natCast ?_).1;(repeat with_reducible refine Sa ?_);have hml:(HY (M k)).length=k:=by rw[AX];exact hmk
  refine Aa.p (Vl b hw) (mt @Ax @Ab hma hml ?_).1;(repeat with_reducible refine Sa ?_);refine Aa.p (hrc) ?_;simp only[go_sem,seval,C0,Ab,hwn,hll,ek];refine (AZ ?_).1;(repeat((with_reducible refine And.intro ?_ ?_);(·first|exact sd|(simp[Ab,BK,AV.parts,Ab];done)|(simp[Ab,BK,AV.parts,Ab];omega))));exact⟨k+1,hlt,Om,Wk.sel [0,1,2,3,4] Si rfl Si rfl (by simp[AD,AH,QH,IS]) (by simp[Ch,AD,AI,AH,QH,IS])⟩
 ·have q1:decide ((k:Int)<(g.bt.length:Int))=false:=decide_eq_false Om;have ek:k=g.bt.length:=Om
  subst ek;rw[hWn]at hlk;rw[hWn,hMn];refine (mq q1 ?_).1;refine Aa.p (hix) (mp ?_).1;refine Aa.p (hrec) (mq @Ab ?_).1;refine Aa.p (hft) (mp ?_).1;refine Aa.p (hfb) ?_;simp only[go_sem,seval,C0,Ab,←append_assoc,←eB];refine (AZ ?_).1;refine⟨Om,by rw[length_append];omega,by rw[length_append],?_⟩;refine WO 1 [Bj .u8 R,HT MM,uA F.ep,iA F.bat,iA F.ent,uA F.fst,uA F.fin,iA F.at_,iA F.size] ?_;exact FA b23 []
theorem Ou (g:GH) (h:nZ g):Ct Tryz.prog 23 [Ot g] [] (λ_=>wrA (CB g) (BU g) (B2 g)) [] (λ_=>[]):=(MD g h).toCt cl cl
def F8 (g:GH):List Int:=if C4 g=true then CB g else[]
def NL (g:GH):Int:=if C4 g=true then 0 else 3
def Jg (g:GH) (hn:g.bt.length≤1000000) (hb:∀b∈g.bt,b.ok∧Dm b):Ct prog 7 [Ot g] [] (λ_=>.tup [Bj .u8 (F8 g),iA (NL g)]) [] (λ_=>[]):=by
 refine Ag.toCt ?_ cl cl
 refine RM func7 b7 ?_
 refine Aa.p (Ov g hn hb) ?_;cases hr:C4 g with
 |false=>
  have e1:F8 g=[]:=by unfold F8;rw[hr];rfl
  have e2:NL g=3:=by unfold NL;rw[hr];rfl
  refine (mp ?_).1;refine UT 2 ?_
  exact FF b7 [] e1 e2
 |true=>
  have e1:F8 g=CB g:=by unfold F8;rw[hr];rfl
  have e2:NL g=0:=by unfold NL;rw[hr];rfl
  refine (mp ?_).1;refine Cp (Ou g ⟨hr,hb⟩) ?_
  exact FF b7 [] e1 e2
structure Yk (k:Nat) (s:List Bt×List Lk):Prop where
 len:s.1.length=k
 bt:∀b∈s.1,b.ok∧Dm b∧(Ak b.en).length≤300
 tl:Hg (256*k) s.2
theorem Yk.zero:Yk 0 ([],[]):=⟨rfl,λb h=>by simp at h,Si,λy h=>by simp at h⟩
theorem Yk.next {k:Nat} {s:List Bt×List Lk} (h:Yk k s) {b:Bt} (hb:b.ok) (hj:(Ak b.en).length≤300) (hr:Bw (A3 b)=true):Yk (k+1) (s.1++[(BG b s.2).1],(BG b s.2).2):=by
 have⟨h1,h2,h3,h4⟩:=KI hb h.tl hr;refine⟨by simp[h.len],λx hx=>?_,by rw[show 256*(k+1)=256*k+256 by omega];exact h3⟩;rcases mem_append.1 hx with hx|hx
 ·exact h.bt x hx
 ·rw[mem_singleton.1 hx];refine⟨h1,JU hb h.tl hr,?_⟩;have e:Ak (BG b s.2).1.en=Ak (A3 b).en:=Sy _ _;rw[e,Qh];exact hj
def kJ {b:Bt} (h:Il b=false):vD b∧Dm (A3 b)∧(Ak b.en).length≤300:=by
 unfold Il at h;rw[Bool.or_eq_false_iff]at h;have⟨m1,m2⟩:=M9 h.1;have hj:(Ak b.en).length≤300:=by have:=h.2;simp only[decide_eq_false_iff_not]at this;omega
 refine⟨⟨Om,λe he=>?_⟩,⟨by simp[A3];omega,λe he=>?_,by rw[Qh];omega⟩,hj⟩
 ·have⟨s1,s2⟩:=Kd (m2 e he);exact⟨s1.1,Om⟩
 ·obtain⟨e',he',rfl⟩:=mem_map.1 he;have⟨s1,s2⟩:=Kd (m2 e' he');refine⟨⟨by have:=s1.1.1;simpa[II,Fo]using this,λx hx=>?_⟩,by show e'.data.length≤_;omega⟩;obtain⟨y,hy,rfl⟩:=mem_map.1 hx;simp
def X7 {l:List Bt} (h:∀b∈l,oO b∧(Ak b.en).length≤300):((BA l).length:Int)≤17000*l.length:=by
 induction l with
 |nil=>simp[BA]
 |cons b l ih=>
  have h1:=ih λx hx=>h x (by simp[hx])
  have⟨hw,hj⟩:=h b Si;have h2:=(HI hw).1;have h3:=Kw (Ak b.en);have v3:=(A4 ((Ak b.en).length:Int)).2;have v4:=(A4 b.ep).2;have v5:=(A4 b.base).2;have v6:=(A4 (b.en.length:Int)).2;have h4:(Bk b).length≤16100:=by
   unfold Bk;simp only[length_append];omega
  have h5:=Bb (1::Bk b);simp only[length_cons]at h5;rw[E4,length_append,length_cons];omega
def pT {g:GH} (h:nZ g) (hj:∀b∈g.bt,(Ak b.en).length≤300):(CB g).length≤500000:=by
 have⟨h1,h2,h3⟩:=BD.1 h.right;have hl:=Ma g.ep;have hb:=X7 (l:=g.bt) λb hb=>⟨h.w b hb,hj b hb⟩
 have hm:=(C7 (BU g)).1;have hm2:(BU g).length=g.bt.length:=by unfold BU;rw[Dg]
 have hf:=Bb (2::AJ (BU g));simp only[length_cons]at hf;have h4:=Fg (B2 g);have h5:=Bb (Ba (B2 g));have h6:=Dw ((Ad (Ba (B2 g))).length:Int);unfold CB DJ EP;simp only[length_append];omega
def VX {g:GH} (h:nZ g):Vy g:=⟨h.right,λb hb=>(h.bt b hb).1,λb hb=>by have:=(HI (h.w b hb)).2.2;omega⟩
def iK {g:GH} (h:nZ g):A7 (CB g):=λx hx=>by
 have⟨h1,h2,h3⟩:=BD.1 h.right;have hrm:=Hk h;have⟨hrf,hfo⟩:=MG h;have hw:=Bd.1 hrm;have hpl:=(C7 (BU g)).1;unfold CB DJ at hx;rcases mem_append.1 hx with hx|hx
 ·rcases mem_append.1 hx with hx|hx
  ·rcases mem_append.1 hx with hx|hx
   ·exact Ip (hd3 h1) (Int.le_refl 0) x hx
   ·exact Qd (VX h).mem x hx
  ·refine DD (λy hy=>?_) (by rw[length_cons];omega) x hx;rcases mem_cons.1 hy with rfl|hy
   ·decide
   ·exact FZ hw.1 Om y hy
 ·exact dB hfo hrf x hx
def bQ {ep:Int} {l:List Bt} (hw:nZ ⟨ep,(CL l).1⟩):∀b∈(CL l).1,R6 (CB ⟨ep,(CL l).1⟩) b:=λb hb=>by
 obtain⟨i,hi,rfl⟩:=getElem_of_mem hb;have hR:=VX hw;have e:(CL l).1.getD i Cj=(CL l).1[i]:=by simp[hi]
 have hr:=((BD.1 hw.right).2.2 i hi).1;have⟨r1,⟨r2,r3,r4⟩,r5,r6⟩:=BW.1 hr;simp only[e]at r2 r3 r4;have⟨o1,o2⟩:=hw.bt _ hb;refine⟨o1,Om,Om,λx hx=>(o2.e x hx).1,λk hk=>?_,λx hx y hy p hp=>?_⟩
 ·have:=TF hR (i:=i) (k:=k) hi (by rw[e];exact hk);simp only[e]at this;exact this
 ·have⟨b',hb',k,hk,e1,e2⟩:=(gO l).1 _ hb x hx y hy p hp;obtain⟨j,hj,rfl⟩:=getElem_of_mem hb';have e3:(CL l).1.getD j Cj=(CL l).1[j]:=by simp[hj]
  have:=TF hR (i:=j) (k:=k) hj (by rw[e3];exact hk);simp only[e3]at this;rw[e1,this];have hm:(CL l).1[j].en.getD k B3∈(CL l).1[j].en:=by simp[hk]
  refine⟨rfl,?_,e2⟩;exact((hw.bt _ hb').2.e _ hm).1.1
def CtN (P:Program) (f:FuncId) (args:List AV) (rd:List (Nat×Ac)) (r:Nat->AV) (upd:Nat->List (Nat×Ac)) (new:Nat->List Ac):Prop:=
 ∀T n,(∀p∈rd,T[p.1]? =some p.2)->(∀p∈BC n (new n),T[p.1]? =some .dead)->Ag P f args T (r n) (Cv T (upd n++BC n (new n)))
theorem CtN.mk {P:Program} {f:FuncId} {args args₀:List AV} {S₀ S₁:List Ac} {r₀:AV} {r:Nat->AV} {rd:List (Nat×Ac)} {upd:Nat->List (Nat×Ac)} {new:Nat->List Ac} (h:Ag P f args₀ S₀ r₀ S₁) (is:List Nat) (hn:is.Nodup) (hl:is.length=S₀.length) (hSl:S₀.length≤S₁.length)
 (hal:∀o∈S₀,o≠ .dead) (ha:∀n N,args₀.map (λx=>x.ren (AH (is++range' n (S₁.length-S₀.length)) N))=args) (hr:∀n N,r₀.ren (AH (is++range' n (S₁.length-S₀.length)) N)=r n)
 (hrd:∀n N,is.zip (S₀.map λo=>o.ren (AH (is++range' n (S₁.length-S₀.length)) N))=rd)
 (hupd:∀n N,is.zip ((S₁.take S₀.length).map λo=>o.ren (AH (is++range' n (S₁.length-S₀.length)) N))=upd n)
 (hnew:∀n N,((S₁.drop S₀.length).map λo=>o.ren (AH (is++range' n (S₁.length-S₀.length)) N))=new n):CtN P f args rd r upd new:=by
 intro T n hT hd;have hln:(new n).length=S₁.length-S₀.length:=by rw[←hnew n T.length];simp
 have hat:∀(k:Nat) (o:Ac),S₀[k]? =some o->∃i,(is++range' n (S₁.length-S₀.length))[k]? =some i∧T[i]? =some (o.ren (AH (is++range' n (S₁.length-S₀.length)) T.length)):=by
  intro k o ho;have hk:k<is.length:=by rw[hl];exact(Ge ho)
  refine⟨is[k],by rw[getElem?_append_left hk];simp,hT (is[k],_) ?_⟩;rw[←hrd n T.length];refine mem_of_getElem? (i:=k) ?_;rw[getElem?_zip_eq_some];exact⟨getElem?_eq_getElem hk,by rw[getElem?_map,ho];rfl⟩
 have hdead:∀i,i∈range' n (S₁.length-S₀.length)->T[i]? =some .dead:=by
  intro i hi;rw[Ib,hln]at hd;obtain⟨j,hj,rfl⟩:=getElem_of_mem hi;have hj':j<(new n).length:=by rw[hln];simpa using hj
  have:=hd ((range' n (S₁.length-S₀.length))[j],(new n)[j]) (by
   refine mem_of_getElem? (i:=j) ?_;rw[getElem?_zip_eq_some];exact⟨getElem?_eq_getElem hj,getElem?_eq_getElem hj'⟩)
  exact this
 have hnd:(is++range' n (S₁.length-S₀.length)).Nodup:=by
  rw[nodup_append];refine⟨hn,nodup_range',λa ha1 b hb1=>?_⟩;rintro rfl;obtain⟨k,hk,rfl⟩:=getElem_of_mem ha1;have hk':k<S₀.length:=by rw[←hl];exact hk
  have⟨i,h1,h2⟩:=hat k S₀[k] (getElem?_eq_getElem hk');rw[getElem?_append_left hk,getElem?_eq_getElem hk]at h1;injection h1 with h1;subst h1;rw[hdead _ hb1]at h2;injection h2 with h2;have:=hal S₀[k] (getElem_mem hk');cases ho:S₀[k]with
  |dead=>exact this ho
  |cells xs=>rw[ho]at h2;simp[Ac.ren]at h2
  |row a b=>rw[ho]at h2;simp[Ac.ren]at h2
  |mrow a b c=>rw[ho]at h2;simp[Ac.ren]at h2
  |raw a b=>rw[ho]at h2;simp[Ac.ren]at h2
 have:=h.embed T (is++range' n (S₁.length-S₀.length)) hnd (by simp;omega) hSl hat (λk i hk hi=>by
  rw[getElem?_append_right Om]at hi;exact hdead i (mem_of_getElem? hi))
 rw[ha,hr]at this;have e:(is++range' n (S₁.length-S₀.length)).zip (S₁.map λo=>o.ren (AH (is++range' n (S₁.length-S₀.length)) T.length))=
  is.zip ((S₁.take S₀.length).map λo=>o.ren (AH (is++range' n (S₁.length-S₀.length)) T.length))++BC n (new n):=by
  rw[Ib,hln,←hnew n T.length]
  conv=>lhs;rw[←take_append_drop S₀.length S₁]
  rw[map_append,zip_append (by simp;omega)];simp
 rw[e,CZ,hupd]at this;rw[CZ];exact this
theorem Aa.ofN {P:Program} {f:FuncId} {args:List AV} {rd:List (Nat×Ac)} {r:Nat->AV} {upd:Nat->List (Nat×Ac)} {new:Nat->List Ac} {S:List Ac} {K:KT} (h:CtN P f args rd r upd new) (hrd:∀p∈rd,S[p.1]? =some p.2)
 (hu:∀p∈upd S.length,p.1∈rd.map (·.1)) (hK:K (r S.length) (rd.map (·.1)) (upd S.length) (new S.length)):Aa P f args S K:=by
 refine⟨_,_,_,_,λT hT _ hd=>h T S.length (λp hp=>?_) hd,hu,λi hi=>?_,hK⟩
 ·rw[hT p.1 (mem_map.2 ⟨p,hp,rfl⟩)];exact hrd p hp
 ·obtain⟨p,hp,rfl⟩:=mem_map.1 hi;exact(Ge (hrd p hp))
@[simp] theorem Aa4 (ρ:Nat->Nat) (k:Nat):(N_ k).ren ρ=N_ k:=by
 unfold N_;split
 ·rw[QI]
 ·rw[YH,map_replicate,QI]
abbrev Dr:AV:=.sl .full 1 []
def uZ:Ev->AV
 | .item a b=>.agg [iA 1,iA a,iA 0,iA 0,uA 0,uA 0,uA 0,iA 0,iA 0,Dr,Dr,Dr,uA 0,uA 0,uA 0,uA 0,Dr,uA b.ep,uA b.base,Fy b.en]
 | .oth k a c=>.agg [iA k,iA a,iA c,iA 0,uA 0,uA 0,uA 0,iA 0,iA 0,Dr,Dr,Dr,uA 0,uA 0,uA 0,uA 0,Dr,uA 0,uA 0,Dr]
def HZ (l:List Ev):List AV:=l.map uZ
theorem BY (l:List Ev):(HZ l).length=l.length:=by simp[HZ]
def Za (l:List Ev) (e:Ev):HZ l++[uZ e]=HZ (l++[e]):=by simp[HZ]
@[simp] theorem IR (ρ:Nat->Nat) (l:List Ev):(HZ l).map (λx=>x.ren ρ)=HZ l:=by
 unfold HZ;rw[map_map];congr 1;funext e;cases e<;>simp[uZ,AD,CA]
def aO:Nat->FuncId
 |0=>24
 |1=>56
 |2=>150
 |3=>177
 |_=>191
abbrev Oz (s:PS) (b m o:AV):Ac:=.cells [.fn (aO s.ph) [] [],b,iA s.fst,iA s.fed,iA s.ended,uA s.ep,uA s.lep,uA s.lbase,.sl .none 2 (List.replicate s.ln (N_ 2)),m,uA s.want.ep,iA s.want.bat,iA s.want.ent,uA s.want.fst,uA s.want.fin,iA s.want.at_,iA s.want.size,iA s.foot,o]
abbrev Ta (s:PS) (j:Nat):AV:=.sl (.row j) 1 (AU .u8 s.buf)
abbrev QM (s:PS) (k:Nat):AV:=.sl (.row k) 3 (HY s.ms)
abbrev qJ (s:PS) (o:Nat):AV:=.sl (.row o) 20 (HZ s.out)
abbrev HX (s:PS) (j k o:Nat):List Ac:=[Oz s (Ta s j) (QM s k) (qJ s o),.row 1 s.buf.length,.row 3 s.ms.length,.row 20 s.out.length]
theorem Aq (ρ:Nat->Nat) (s:PS) (b m o:AV):(Oz s b m o).ren ρ=Oz s (b.ren ρ) (m.ren ρ) (o.ren ρ):=by simp[AD,CA]
theorem Av (ρ:Nat->Nat) (s:PS) (j:Nat):(Ta s j).ren ρ=Ta s (ρ j):=by simp[AD,AI]
theorem Au (ρ:Nat->Nat) (s:PS) (j:Nat):(QM s j).ren ρ=QM s (ρ j):=by simp[AD,QH]
theorem AM (ρ:Nat->Nat) (s:PS) (j:Nat):(qJ s j).ren ρ=qJ s (ρ j):=by simp[AD,IR]
theorem Ct.ps {F:FuncId} {s s':PS} {r:AV} (h:Ag prog F [.ref 0 0] (HX s 1 2 3) r (HX s' 1 2 3)) (hr:∀ρ,r.ren ρ=r) (i j k o:Nat) (hd:[i,j,k,o].Nodup):Ct prog F [.ref i 0] ([i,j,k,o].zip (HX s j k o)) (λ_=>r) ([i,j,k,o].zip (HX s' j k o)) (λ_=>[]):=
 Ct.us h [i,j,k,o] hd rfl rfl Si (λN=>by simp[AH]) (λN=>by simp[AH,Aq,Av,Au,AM]) (λN=>by simp[AH,Aq,Av,Au,AM]) (λN=>hr _)
def XE (s:PS):Ag prog 25 [.ref 0 0] (HX s 1 2 3) (bA (s.ended==0)) (HX s 1 2 3):=by
 refine RM func25 b25 ?_
 exact FK b25 [0,1,2,3] (by simp[Aq,Av,Au,AM,AH])
def PZ (s:PS) (i j k o:Nat) (hd:[i,j,k,o].Nodup):Ct prog 25 [.ref i 0] ([i,j,k,o].zip (HX s j k o)) (λ_=>bA (s.ended==0)) ([i,j,k,o].zip (HX s j k o)) (λ_=>[]):=Ct.ps (XE s) (λρ=>by simp) i j k o hd
def XC (s:PS):Ag prog 191 [.ref 0 0] (HX s 1 2 3) (.tup [bA s.rest.2.1,Fk s.rest.2.2]) (HX s.rest.1 1 2 3):=by
 have c3:Cd 9 0=(9,0):=rfl;refine RM func191 Acv ?_
 refine Aa.p (BJ 9 0) ?_;simp only[go_sem,seval,c3];refine (AZ ?_).1
 exact FK Acv [0,1,2,3] (by simp[PS.rest,Aq,Av,Au,AM,AH])
theorem OQ (s:PS) (h:CX s):Ag prog 96 [.ref 0 0] (HX s 1 2 3) (.tup [Bj .u8 (BV s.buf).1,iA (BV s.buf).2.1,bA (BV s.buf).2.2.1,Fk (BV s.buf).2.2.2]) (HX s 1 2 3):=by
 have hl:=h.len;have hw:=Ul s.buf 2097152 h.bb Om;have hg:=GY s.buf 2097152 h.bb Om De;have hgi:=λhc=>Ki (b:=s.buf) (m:=2097152) h.bb Om hc
 have hgb:=λhc=>Uj (b:=s.buf) (m:=2097152) hc
 have e:BV s.buf=if D7 s.buf 2097152=true∧(s.buf.length:Int)<Ed s.buf 2097152 then([],0,false,(0,0))
  else if(BI s.buf 2097152).2.2.1=1 then([],0,false,(0,0))
  else((BI s.buf 2097152).1,(BI s.buf 2097152).2.1-4-(BI s.buf 2097152).1.length,(BI s.buf 2097152).2.2.1==0,(BI s.buf 2097152).2.2):=rfl
 have⟨P,hP⟩:=Ex (BV s.buf);have⟨G,hG⟩:=Ex (BI s.buf 2097152);have⟨W,hW⟩:=Ex (Ed s.buf 2097152);rw[hP]at e ⊢;rw[hG]at e hg hgi hgb;rw[hW]at e hw;have hGl:(G.1.length:Int)≤1000000∧0≤G.2.1∧G.2.1≤1000000:=by
  by_cases hc:G.2.2.1=0
  ·have⟨_,_,_,a4,a5,a6⟩:=hgi hc;have h1:=congrArg List.length a6;have h2:=Bb G.1;rw[length_take]at h1;omega
  ·have⟨a1,a2⟩:=hgb hc;rw[a1,a2];simp
 have w1:IntKind.i64.wrap (G.2.1-4)=G.2.1-4:=i64_in _ Om;have w2:IntKind.i64.wrap (G.2.1-4-G.1.length)=G.2.1-4-G.1.length:=i64_in _ Om;refine RM func96 b96 ?_
 refine Cp (hw) ?_;by_cases hk:D7 s.buf 2097152=true∧(s.buf.length:Int)<W
 ·have q1:=hk.1;have q2:decide ((s.buf.length:Int)<W)=true:=by simpa using hk.2
  rw[if_pos hk]at e;refine (ms q1 q2 @Ab ?_).1;refine UT 2 ?_
  exact FK b96 [0,1,2,3] (by simp[e,Aq,Av,Au,AM,AH])
 ·rw[if_neg hk]at e;by_cases hc1:G.2.2.1=1
  ·have q3:(G.2.2.1==1)=true:=Sx hc1
   rw[if_pos hc1]at e;cases hwo:D7 s.buf 2097152 with
   |true=>
    have q2:decide ((s.buf.length:Int)<W)=false:=by simp only[decide_eq_false_iff_not];exactλh=>hk ⟨hwo,h⟩
    refine (mr q2 @Ab ?_).1;refine Aa.p (hg) (mq q3 ?_).1;refine UT 2 ?_
    exact FK b96 [0,1,2,3] (by simp[e,Aq,Av,Au,AM,AH])
   |false=>
    refine (mp ?_).1;refine Aa.p (hg) (mq q3 ?_).1;refine UT 2 ?_
    exact FK b96 [0,1,2,3] (by simp[e,Aq,Av,Au,AM,AH])
  ·have q3:(G.2.2.1==1)=false:=Sx hc1
   rw[if_neg hc1]at e;cases hwo:D7 s.buf 2097152 with
   |true=>
    have q2:decide ((s.buf.length:Int)<W)=false:=by simp only[decide_eq_false_iff_not];exactλh=>hk ⟨hwo,h⟩
    refine (mr q2 @Ab ?_).1;refine Aa.p (hg) (mt q3 w1 @Ab w2 ?_).1;refine Cp (Ap G.2.2.1 G.2.2.2) ?_
    exact FK b96 [0,1,2,3] (by simp[e,Aq,Av,Au,AM,AH])
   |false=>
    refine (mp ?_).1;refine Aa.p (hg) (mt q3 w1 @Ab w2 ?_).1;refine Cp (Ap G.2.2.1 G.2.2.2) ?_
    exact FK b96 [0,1,2,3] (by simp[e,Aq,Av,Au,AM,AH])
def Km (s:PS) (h:CX s) (i j k o:Nat) (hd:[i,j,k,o].Nodup):Ct prog 96 [.ref i 0] ([i,j,k,o].zip (HX s j k o)) (λ_=>.tup [Bj .u8 (BV s.buf).1,iA (BV s.buf).2.1,bA (BV s.buf).2.2.1,Fk (BV s.buf).2.2.2]) ([i,j,k,o].zip (HX s j k o)) (λ_=>[]):=Ct.ps (OQ s h) (λρ=>by simp[AI]) i j k o hd
theorem wW (b:List Int):cV b=Eu b:=rfl
theorem Rl (s:PS) (h:CX s) (hp:s.ph=0):Ag prog 24 [.ref 0 0] (HX s 1 2 3) (.tup [bA s.header.2.1,Fk s.header.2.2]) (HX s.header.1 1 2 3):=by
 have hl:=h.len;have hg:=Xp s.buf h.bb Om;rw[wW]at hg;have e:s.header=if(Eu s.buf).2.2.1=1 then(s,false,(0,0))
  else if(Eu s.buf).2.2.1=0 then(if(Eu s.buf).1.ver=3 then({s with ph:=1,ep:=(Eu s.buf).1.ep},true,(0,0))else(s,false,(8,4)))
  else(s,false,(Eu s.buf).2.2):=rfl
 have⟨R,hR⟩:=Ex s.header;have⟨G,hG⟩:=Ex (Eu s.buf);rw[hG]at e hg;rw[hR]at e ⊢;refine RM func24 b24 ?_
 refine Cp (hg) ?_;by_cases h1:G.2.2.1=1
 ·have c1:(G.2.2.1==1)=true:=Sx h1
  rw[if_pos h1]at e;refine (mq c1 ?_).1
  exact FK b24 [0,1,2,3] (by simp[e,Aq,Av,Au,AM,AH])
 ·have c1:(G.2.2.1==1)=false:=Sx h1
  rw[if_neg h1]at e;refine (mq c1 ?_).1;refine Aa.p (Ap G.2.2.1 G.2.2.2) ?_;by_cases h0:G.2.2.1=0
  ·have c2:(G.2.2.1==0)=true:=Sx h0
   rw[if_pos h0]at e;by_cases h3:G.1.ver=3
   ·have c3:(G.1.ver != 3)=false:=Sx h3
    rw[if_pos h3]at e;simp only[go_sem,seval,c2,c3];refine (AZ ?_).1
    exact FK b24 [0,1,2,3] (by simp[e,Aq,Av,Au,AM,AH,aO])
   ·have c3:(G.1.ver != 3)=true:=Sx h3
    have c4:Cd 8 4=(8,4):=rfl;rw[if_neg h3]at e;simp only[go_sem,seval,c2,c3];refine (AZ ?_).1;refine Aa.p (BJ 8 4) ?_;simp only[go_sem,seval,c4];refine (AZ ?_).1
    exact FK b24 [0,1,2,3] (by simp[e,Aq,Av,Au,AM,AH])
  ·have c2:(G.2.2.1==0)=false:=Sx h0
   rw[if_neg h0]at e;refine (mq c2 ?_).1
   exact FK b24 [0,1,2,3] (by simp[e,Aq,Av,Au,AM,AH])
theorem OP (s:PS) (h:CX s):Ag prog 177 [.ref 0 0] (HX s 1 2 3) (.tup [bA s.trailer.2.1,Fk s.trailer.2.2]) (HX s.trailer.1 1 2 3):=by
 have hl:=h.len;have t0:=h.t0;have t1:=h.t1;have e:s.trailer=if s.buf.length<12 then(s,false,(0,0))else if s.buf=A8 s.foot then({s with ph:=4},true,(0,0))else(s,false,(12,0)):=rfl
 have⟨R,hR⟩:=Ex s.trailer;rw[hR]at e ⊢;have w1:IntKind.u64.wrap s.foot=s.foot:=u64_in _ Om;have heq:=LB s.buf (A8 s.foot) h.bb (Mo _);refine RM func177 tX ?_
 refine Aa.p (EA) (mq @Ab ?_).1;by_cases h1:s.buf.length<12
 ·have c1:decide ((s.buf.length:Int)<12)=true:=by simp only[decide_eq_true_eq];omega
  rw[if_pos h1]at e;refine (mq c1 ?_).1
  exact FK tX [0,1,2,3] (by simp[e,Aq,Av,Au,AM,AH])
 ·have c1:decide ((s.buf.length:Int)<12)=false:=by simp only[decide_eq_false_iff_not];omega
  rw[if_neg h1]at e;refine (mq c1 ?_).1;refine Cp (Ir s.foot s.foot w1 t0 Om) ?_;refine Aa.p (heq) ?_;by_cases h2:s.buf=A8 s.foot
  ·have c2:Ca s.buf (A8 s.foot)=true:=by simp[Ca,h2]
   rw[if_pos h2]at e;refine (mq c2 ?_).1
   exact FK tX [0,1,2,3] (by simp[e,Aq,Av,Au,AM,AH,aO])
  ·have c2:Ca s.buf (A8 s.foot)=false:=by simp[Ca,h2]
   have c4:Cd 12 0=(12,0):=rfl;rw[if_neg h2]at e;refine (mq c2 ?_).1;refine Aa.p (BJ 12 0) ?_;simp only[go_sem,seval,c4];refine (AZ ?_).1
   exact FK tX [0,1,2,3] (by simp[e,Aq,Av,Au,AM,AH])
def Yc (ep base:Int) (n:Nat) (hn:n≤1000000) (b0:0≤base) (b1:base+n<18446744073709551616):Ct prog 71 [.agg [uA ep,uA base,.sl .none 2 (List.replicate n (N_ 2))]] [] (λ_=>uA (base+n)) [] (λ_=>[]):=by
 refine Ag.toCt ?_ (λρ=>by simp) Dl
 have w0:IntKind.u64.wrap (n:Int)=n:=u64_in _ Om;have w1:IntKind.u64.wrap (base+(n:Int))=base+n:=u64_in _ Om;refine RN func71 b71 ?_;simp only[go_sem,seval,length_replicate,w0,w1];refine (AZ ?_).1
 exact FA b71 []
theorem UA (s:PS) (q:RS) (h:CX s) (hq:An q) (hn:q.l.length≤1000000):Ag prog 99 [.ref 0 0,.ref 4 0] (HX s 1 2 3++[A1 q]) (iA (s.batch q).1.2) (HX (s.batch q).1.1 1 2 3++[A1 (s.batch q).2]):=by
 have⟨k1,k2⟩:=Hc hq λs h=>Df h
 have hB:=(X5 hq K5).1;have e:s.batch q=if(q.btch RS.blk).1.rest9.code=0 then(if s.batC (q.btch RS.blk).2=0 then(s.bat (q.btch RS.blk).2,0)else(s,s.batC (q.btch RS.blk).2),(q.btch RS.blk).1.rest9)else((s,0),(q.btch RS.blk).1.rest9):=rfl
 have hct:=N7 q 4 hq hn;have⟨D,hD⟩:=Ex (q.btch RS.blk);have⟨R,hR⟩:=Ex (s.batch q);rw[hD]at k1 k2 hB e hct;rw[hR]at e ⊢;have hlen:=hB.len;have hsum:=hB.sum;have hb0:=hB.ok.b0;have ml:=h.ml;have ln:=h.ln;have b0:=h.b0;have b1:=h.b1;have eC:s.batC D.2=if s.ms.length=16 then 2 else if s.ep<D.2.ep∨(0<s.ms.length∧(D.2.ep<s.lep∨D.2.base<s.lbase+s.ln))then 13 else 0:=rfl
 refine RM func99 u7 ?_
 refine Cu (hct) rfl ?_;refine Cu (CM D.1 4 k1) rfl ?_;refine Aa.r1 (Ah D.1.rest9 4) rfl ?_;by_cases hz:D.1.rest9.code=0
 ·rw[if_pos hz]at e;refine (mr (A5 hz) @AX ?_).1;by_cases h16:s.ms.length=16
  ·have c1:((s.ms.length:Int)==16)=true:=by simp only[beq_iff_eq];omega
   rw[if_pos h16]at eC;rw[eC,if_neg De]at e;refine (mq c1 ?_).1
   exact FK u7 [0,1,2,3,4] (by simp[e,Aq,Av,Au,AM,AH])
  ·have c1:((s.ms.length:Int)==16)=false:=by simp only[beq_eq_false_iff_ne,ne_eq];omega
   rw[if_neg h16]at eC;have hol:=h.ol;have hf2:=h.f2;have hma:HY s.ms++[.agg [uA D.2.base,iA D.2.en.length,iA s.fst]]=HY (s.ms++[⟨D.2.base,D.2.en.length,s.fst⟩]):=(YO s.ms ⟨D.2.base,D.2.en.length,s.fst⟩).symm;have hev:HZ s.out++[.agg [iA 1,iA s.fst,iA 0,iA 0,uA 0,uA 0,uA 0,iA 0,iA 0,Dr,Dr,Dr,uA 0,uA 0,uA 0,uA 0,Dr,uA D.2.ep,uA D.2.base,Fy D.2.en]]=HZ (s.out++[.item s.fst D.2]):=Za s.out (.item s.fst D.2);have hbe:=Yc s.lep s.lbase s.ln Om b0 Om;refine (mq c1 ?_).1;by_cases h1:s.ep<D.2.ep
   ·have q1:decide (s.ep<D.2.ep)=true:=Sx h1
    rw[if_pos (.inl h1)]at eC;rw[eC,if_neg De]at e;refine (mq q1 ?_).1
    exact FK u7 [0,1,2,3,4] (by simp[e,Aq,Av,Au,AM,AH])
   ·have q1:decide (s.ep<D.2.ep)=false:=Sx h1
    have hgo:(0<s.ms.length∧(D.2.ep<s.lep∨D.2.base<s.lbase+s.ln))->R=((s,13),D.1.rest9):=λh2=>by
     rw[if_pos (.inr h2)]at eC;rw[eC,if_neg De]at e;exact e
    have hok:¬(0<s.ms.length∧(D.2.ep<s.lep∨D.2.base<s.lbase+s.ln))->R=((s.bat D.2,0),D.1.rest9):=λh2=>by
     rw[if_neg (by rintro(h3|h3);exact h1 h3;exact h2 h3)]at eC;rw[eC,if_pos rfl]at e;exact e
    by_cases hm:0<s.ms.length
    ·have q2:decide (0<(s.ms.length:Int))=true:=by simp only[decide_eq_true_eq];omega
     by_cases h3:D.2.ep<s.lep
     ·have q3:decide (D.2.ep<s.lep)=true:=Sx h3
      have e:=hgo ⟨hm,.inl h3⟩;refine (ms q1 q2 q3 ?_).1
      exact FK u7 [0,1,2,3,4] (by simp[e,Aq,Av,Au,AM,AH])
     ·have q3:decide (D.2.ep<s.lep)=false:=Sx h3
      refine (ms q1 q2 q3 ?_).1;refine Aa.p (hbe) ?_;by_cases h4:D.2.base<s.lbase+s.ln
      ·have q4:decide (D.2.base<s.lbase+s.ln)=true:=Sx h4
       have e:=hgo ⟨hm,.inr h4⟩;refine (mq q4 ?_).1
       exact FK u7 [0,1,2,3,4] (by simp[e,Aq,Av,Au,AM,AH])
      ·have q4:decide (D.2.base<s.lbase+s.ln)=false:=Sx h4
       have e:=hok (λh=>by rcases h.2 with h|h;exact h3 h;exact h4 h);simp only[go_sem,seval,q4,Ax,AX,BY,Ln,Int.toNat_natCast,hma,hev];refine (AZ ?_).1;refine⟨Om,rfl,Om,Om,Om,Om,rfl,Om,rfl,?_⟩;refine WO 0 [.fn (aO s.ph) [] [],Ta s 1,iA s.fst,iA s.fed,iA s.ended,uA s.ep,uA D.2.ep,uA D.2.base,.sl .none 2 (List.replicate D.2.en.length (N_ 2)),QM (s.bat D.2) 2,uA s.want.ep,iA s.want.bat,iA s.want.ent,uA s.want.fst,uA s.want.fin,iA s.want.at_,iA s.want.size,iA s.foot,qJ (s.bat D.2) 3] ?_
       exact FK u7 [0,1,2,3,4] (by simp[e,PS.bat,Aq,Av,Au,AM,AH])
    ·have q2:decide (0<(s.ms.length:Int))=false:=by simp only[decide_eq_false_iff_not];omega
     have e:=hok (λh=>hm h.1);simp only[go_sem,seval,q1,q2,Ax,AX,BY,Ln,Int.toNat_natCast,hma,hev];refine (AZ ?_).1;refine⟨Om,rfl,Om,Om,Om,Om,rfl,Om,rfl,?_⟩;refine WO 0 [.fn (aO s.ph) [] [],Ta s 1,iA s.fst,iA s.fed,iA s.ended,uA s.ep,uA D.2.ep,uA D.2.base,.sl .none 2 (List.replicate D.2.en.length (N_ 2)),QM (s.bat D.2) 2,uA s.want.ep,iA s.want.bat,iA s.want.ent,uA s.want.fst,uA s.want.fin,iA s.want.at_,iA s.want.size,iA s.foot,qJ (s.bat D.2) 3] ?_
     exact FK u7 [0,1,2,3,4] (by simp[e,PS.bat,Aq,Av,Au,AM,AH])
 ·rw[if_neg hz]at e;refine (mq (AB hz) ?_).1
  exact FK u7 [0,1,2,3,4] (by simp[e,Aq,Av,Au,AM,AH])
theorem Uy (s:PS) (q:RS) (h:CX s) (hq:An q) (hn:q.l.length≤1000000):Ag Tryz.prog 100 [.ref 0 0,.ref 4 0] (HX s 1 2 3++[A1 q]) (iA (s.index q).1.2) (HX (s.index q).1.1 1 2 3++[A1 (s.index q).2]):=by
 obtain⟨k1,k2⟩:=QU hq
 have hr:=Lj hq
 have h16:=(Bd.1 hr).2
 have e:s.index q=if q.marks.1.rest9.code=0 then(if q.marks.2=s.ms then(s.idx q.marks.2,0)else(s,12),q.marks.1.rest9)else((s,0),q.marks.1.rest9):=rfl
 have hct:=Nt q 4 hq (by omega)
 have hsm:=Xg q.marks.2 s.ms (by omega)
 have hen:=GE q.marks.2 (FM hr) (by omega)
 have hed:=JD q.marks.2 (FM hr) (by omega)
 rw[Zc]at hed
 have ei:s.idx q.marks.2={s with ph:=2,want:=⟨s.ep,q.marks.2.length,if AR q.marks.2=true then DX q.marks.2 q.marks.2.length else 0,(Ez q.marks.2).1,(Ez q.marks.2).2,s.fst,s.buf.length⟩}:=rfl
 obtain⟨X,hX⟩:∃X,(if AR q.marks.2=true then DX q.marks.2 q.marks.2.length else 0)=X:=⟨_,rfl⟩
 obtain⟨V,hV⟩:∃V,Ez q.marks.2=V:=⟨_,rfl⟩
 obtain⟨D,hD⟩:∃D,q.marks=D:=⟨_,rfl⟩
 obtain⟨R,hR⟩:∃R,s.index q=R:=⟨_,rfl⟩
 rw[hX,hV]at ei
 rw[hX]at hen
 rw[hV]at hed
 rw[hD]at k1 k2 hr h16 e hct hsm hen hed ei
 rw[hR]at e ⊢
 refine RM Tryz.func100 uB ?_
 refine Aa.u1 (hct) rfl ?_;refine (mp ?_).1
 refine Aa.u1 (CM D.1 4 k1) rfl ?_;refine (mp ?_).1
 refine Aa.r1 (Ah D.1.rest9 4) rfl ?_
 by_cases hz:D.1.rest9.code=0
 ·rw[if_pos hz]at e
  simp only[go_sem,seval,A5 hz];refine (AZ ?_).1
  refine Aa.p (hsm) ?_
  by_cases hs:D.2=s.ms
  ·have c1:GL D.2 s.ms=true:=by simp[GL,hs]
   rw[if_pos hs]at e
   simp only[go_sem,seval,c1,AX,Ab];refine (AZ ?_).1
   refine Aa.p (hen) ?_;refine (mp ?_).1
   refine Aa.p (hed) ?_;simp only[go_sem,seval,Ab];refine (AZ ?_).1
   rw[ei]at e
   (refine FB uB [0,1,2,3,4] ?_ ?_<;>first|with_reducible rfl|(simp[B8,D1,D4,Ci,e,Aq,Av,Au,AM,AH,aO];done)|rfl)
  ·have c1:GL D.2 s.ms=false:=by simp[GL,hs]
   rw[if_neg hs]at e
   simp only[go_sem,seval,c1];refine (AZ ?_).1
   (refine FB uB [0,1,2,3,4] ?_ ?_<;>first|with_reducible rfl|(simp[B8,D1,D4,Ci,e,Aq,Av,Au,AM,AH];done)|rfl)
 ·rw[if_neg hz]at e
  simp only[go_sem,seval,AB hz];refine (AZ ?_).1
  (refine FB uB [0,1,2,3,4] ?_ ?_<;>first|with_reducible rfl|(simp[B8,D1,D4,Ci,e,Aq,Av,Au,AM,AH];done)|rfl)
theorem Rm (s:PS) (h:CX s):Ag prog 150 [.ref 0 0] (HX s 1 2 3) (.tup [bA s.footer.2.1,Fk s.footer.2.2]) (HX s.footer.1 1 2 3):=by
 have e:s.footer=if(BV s.buf).2.2.1=true then
  (if(BX (BV s.buf).1).2.1=0 then(if(BX (BV s.buf).1).1=s.want then({s with ph:=3,foot:=s.buf.length},true,(0,0))else(s,false,(12,0)))
   else(s,false,((BX (BV s.buf).1).2.1,(BX (BV s.buf).1).2.2+(BV s.buf).2.1)))
  else(s,false,(BV s.buf).2.2.2):=rfl
 have hl:=h.len;have hpay:=Km s h 0 1 2 3 De;have hpf:=Jy h.bb hl;have⟨P,hP⟩:=Ex (BV s.buf);have⟨R,hR⟩:=Ex s.footer;rw[hP]at e hpay hpf;have⟨p1,p2,p3,p4,p5⟩:=hpf;have hft:=Ju (p:=P.1) p1 Om;have hrp:=F5 P.1 p1 Om;have⟨G,hG⟩:=Ex (BX P.1);rw[hG]at hft hrp e;rw[hR]at e ⊢;have w1:IntKind.i64.wrap (G.2.2+P.2.1)=G.2.2+P.2.1:=i64_in _ Om;refine RM func150 nG ?_
 refine Aa.us hpay rfl rfl (mp ?_).1;cases hw:P.2.2.1 with
 |false=>
  rw[hw,if_neg De]at e;refine (mp ?_).1
  exact FK nG [0,1,2,3] (by simp[e,Aq,Av,Au,AM,AH])
 |true=>
  rw[hw,if_pos rfl]at e;refine (mp ?_).1;refine Cp (hrp) ?_;refine Aa.p (Ap G.2.1 G.2.2) ?_;by_cases hz:G.2.1=0
  ·have c1:(G.2.1==0)=true:=Sx hz
   rw[if_pos hz]at e;refine (ms c1 @NZ @U6 ?_).1;by_cases hg:G.1=s.want
   ·have c2:decide (G.1=s.want)=true:=Sx hg
    rw[if_pos hg]at e;refine (mr c2 @Ab ?_).1
    exact FK nG [0,1,2,3] (by simp[e,Aq,Av,Au,AM,AH,aO])
   ·have c2:decide (G.1=s.want)=false:=Sx hg
    have c4:Cd 12 0=(12,0):=rfl;rw[if_neg hg]at e;refine (mq c2 ?_).1;refine Aa.p (BJ 12 0) ?_;simp only[go_sem,seval,c4];refine (AZ ?_).1
    exact FK nG [0,1,2,3] (by simp[e,Aq,Av,Au,AM,AH])
  ·have c1:(G.2.1==0)=false:=Sx hz
   have c4:Cd G.2.1 (G.2.2+P.2.1)=(G.2.1,G.2.2+P.2.1):=by unfold Cd;rw[if_neg hz]
   rw[if_neg hz]at e;refine (mq c1 ?_).1;refine Aa.p (Be G.2.1 G.2.2 P.2.1 _ w1) ?_;simp only[go_sem,seval,c4];refine (AZ ?_).1
   exact FK nG [0,1,2,3] (by simp[e,Aq,Av,Au,AM,AH])
def VO {s:PS} {p:List Int} (hp:A7 p) (hn:p.length≤1000000):An (s.takes p).2∧(s.takes p).2.l=p∧Fa (s.takes p).2:=by
 have hok:An (RS.new p):=An.new hp Om;have⟨q1,q2⟩:=RS.ok.byte_ hok;have qf:=(Fa.new p).byte hok;unfold PS.takes;split
 ·have⟨k1,k2⟩:=Hc q1 λs h=>Df h
  have kf:=(qf.btch q1 (λs h=>Df h) (λs h hf=>hf.blk h)).rest9 k1;have⟨r1,r2⟩:=Eg k1;unfold PS.batch;split<;>exact⟨r1,r2.trans (k2.trans q2),kf⟩
 ·split
  ·have⟨k1,k2⟩:=QU q1;have kf:=(qf.marks q1).rest9 k1;have⟨r1,r2⟩:=Eg k1;unfold PS.index;split<;>exact⟨r1,r2.trans (k2.trans q2),kf⟩
  ·exact⟨q1.fail _ _,by rw[Bx];exact q2,qf.fail (Int.le_refl _) Om⟩
def Rj (q:RS) (i:Nat):Ct prog 97 [.ref i 0] [(i,A1 q)] (λ_=>iA 0) [] (λ_=>[]):=Ct.r1 (by
 have h:Ag prog 97 [.ref 0 0] [A1 q] (iA 0) [A1 q]:=by
  refine RM func97 b97 ?_
  exact FA b97 [0]
 exact h) i Dl (λρ=>AG ρ q) (rdr_dead q) Dl
def XI (s:PS) (q:RS) (h:CX s) (hq:An q) (hn:q.l.length≤1000000) (i j k o r:Nat) (hd:[i,j,k,o,r].Nodup):
 Ct prog 99 [.ref i 0,.ref r 0] ([i,j,k,o,r].zip (HX s j k o++[A1 q])) (λ_=>iA (s.batch q).1.2) ([i,j,k,o,r].zip (HX (s.batch q).1.1 j k o++[A1 (s.batch q).2])) (λ_=>[]):=
 Ct.us (UA s q h hq hn) [i,j,k,o,r] hd rfl rfl (by simp[A1]) (λN=>by simp[AH]) (λN=>by simp[AH,Aq,Av,Au,AM,AG]) (λN=>by simp[AH,Aq,Av,Au,AM,AG]) (λN=>by simp)
def XF (s:PS) (q:RS) (h:CX s) (hq:An q) (hn:q.l.length≤1000000) (i j k o r:Nat) (hd:[i,j,k,o,r].Nodup):
 Ct prog 100 [.ref i 0,.ref r 0] ([i,j,k,o,r].zip (HX s j k o++[A1 q])) (λ_=>iA (s.index q).1.2) ([i,j,k,o,r].zip (HX (s.index q).1.1 j k o++[A1 (s.index q).2])) (λ_=>[]):=
 Ct.us (Uy s q h hq hn) [i,j,k,o,r] hd rfl rfl (by simp[A1]) (λN=>by simp[AH]) (λN=>by simp[AH,Aq,Av,Au,AM,AG]) (λN=>by simp[AH,Aq,Av,Au,AM,AG]) (λN=>by simp)
theorem Rk (s:PS) (h:CX s):Ag prog 56 [.ref 0 0] (HX s 1 2 3) (.tup [bA s.record.2.1,Fk s.record.2.2]) (HX s.record.1 1 2 3):=by
 have e:s.record=if(BV s.buf).2.2.1=true then
  (if(s.takes (BV s.buf).1).2.code=0 then((s.takes (BV s.buf).1).1.1,(s.takes (BV s.buf).1).1.2==0,Cd (s.takes (BV s.buf).1).1.2 0)
   else((s.takes (BV s.buf).1).1.1,false,((s.takes (BV s.buf).1).2.code,(s.takes (BV s.buf).1).2.fat+(BV s.buf).2.1)))
  else(s,false,(BV s.buf).2.2.2):=rfl
 have hl:=h.len;have hpay:=Km s h 0 1 2 3 De;have hpf:=Jy h.bb hl;have⟨P,hP⟩:=Ex (BV s.buf);have⟨R,hR⟩:=Ex s.record;rw[hP]at e hpay hpf;rw[hR]at e ⊢;have⟨p1,p2,p3,p4,p5⟩:=hpf;have⟨t1,t2,t3⟩:=VO (s:=s) p1 p2;have hok:An (RS.new P.1):=An.new p1 Om;have⟨q1,q2⟩:=RS.ok.byte_ hok;have eT:s.takes P.1=if(RS.new P.1).byte.2=1 then s.batch (RS.new P.1).byte.1 else if(RS.new P.1).byte.2=2 then s.index (RS.new P.1).byte.1 else((s,0),(RS.new P.1).byte.1.fail 7 0):=rfl
 have⟨T,hT⟩:=Ex (s.takes P.1);rw[hT]at e t1 t2 t3 eT;unfold Fa at t3;rw[t2]at t3;have w1:IntKind.i64.wrap (T.2.fat+P.2.1)=T.2.fat+P.2.1:=i64_in _ Om;have⟨q,hq⟩:=Ex ((RS.new P.1).byte.1);have⟨y,hy⟩:=Ex ((RS.new P.1).byte.2);rw[hq]at q1 q2;rw[hq,hy]at eT;have hql:q.l.length≤1000000:=by rw[q2];exact p2
 have hfb:=XI s q h q1 hql 0 1 2 3 6 De;have hfi:=XF s q h q1 hql 0 1 2 3 6 De;refine RM func56 u9 ?_
 refine Aa.us hpay rfl rfl (mp ?_).1;cases hw:P.2.2.1 with
 |false=>
  rw[hw,if_neg De]at e;refine (mp ?_).1
  exact FK u9 [0,1,2,3] (by simp[e,Aq,Av,Au,AM,AH])
 |true=>
  rw[hw,if_pos rfl]at e;refine (mp ?_).1;refine Aa.n (C9 P.1) (mp ?_).1;refine Aa.u1 (C1 (RS.new P.1) 6 hok.ok) rfl (mr hq hy ?_).1;by_cases hy1:y=1
  ·have c1:(y==1)=true:=Sx hy1
   rw[if_pos hy1]at eT;rw[←eT]at hfb;refine (mq c1 ?_).1;refine Aa.us hfb rfl rfl (mp ?_).1;refine Cr (Bp T.2 6) rfl ?_;refine Cp (Be T.2.code T.2.fat P.2.1 _ w1) ?_;by_cases hz:T.2.code=0
   ·have c3:Cd T.2.code (T.2.fat+P.2.1)=(0,0):=by unfold Cd;rw[if_pos hz]
    rw[if_pos hz]at e;simp only[go_sem,seval,c3];refine (AZ ?_).1;refine Cp (Ap 0 0) ?_;refine Cp (BJ T.1.2 0) ?_
    exact FK u9 [0,1,2,3] (by simp[e,Aq,Av,Au,AM,AH])
   ·have c3:Cd T.2.code (T.2.fat+P.2.1)=(T.2.code,T.2.fat+P.2.1):=by unfold Cd;rw[if_neg hz]
    have c4:(T.2.code==0)=false:=Sx hz
    rw[if_neg hz]at e;simp only[go_sem,seval,c3];refine (AZ ?_).1;refine Aa.p (Ap T.2.code _) ?_;simp only[go_sem,seval,c4];refine (AZ ?_).1
    exact FK u9 [0,1,2,3] (by simp[e,Aq,Av,Au,AM,AH])
  ·have c1:(y==1)=false:=Sx hy1
   rw[if_neg hy1]at eT;by_cases hy2:y=2
   ·have c2:(y==2)=true:=Sx hy2
    rw[if_pos hy2]at eT;rw[←eT]at hfi;refine (mr c1 c2 ?_).1;refine Aa.us hfi rfl rfl (mp ?_).1;refine Cr (Bp T.2 6) rfl ?_;refine Cp (Be T.2.code T.2.fat P.2.1 _ w1) ?_;by_cases hz:T.2.code=0
    ·have c3:Cd T.2.code (T.2.fat+P.2.1)=(0,0):=by unfold Cd;rw[if_pos hz]
     rw[if_pos hz]at e;simp only[go_sem,seval,c3];refine (AZ ?_).1;refine Cp (Ap 0 0) ?_;refine Cp (BJ T.1.2 0) ?_
     exact FK u9 [0,1,2,3] (by simp[e,Aq,Av,Au,AM,AH])
    ·have c3:Cd T.2.code (T.2.fat+P.2.1)=(T.2.code,T.2.fat+P.2.1):=by unfold Cd;rw[if_neg hz]
     have c4:(T.2.code==0)=false:=Sx hz
     rw[if_neg hz]at e;simp only[go_sem,seval,c3];refine (AZ ?_).1;refine Aa.p (Ap T.2.code _) ?_;simp only[go_sem,seval,c4];refine (AZ ?_).1
     exact FK u9 [0,1,2,3] (by simp[e,Aq,Av,Au,AM,AH])
   ·have c2:(y==2)=false:=Sx hy2
    rw[if_neg hy2]at eT;have u1:T.1.1=s:=by rw[eT]
    have u2:T.1.2=0:=by rw[eT]
    have u3:q.fail 7 0=T.2:=by rw[eT]
    rw[u1,u2]at e;refine (mr c1 c2 ?_).1;refine Aa.u1 (Ar q 7 0 6) rfl (mq u3 ?_).1;refine Cr (Rj T.2 6) rfl ?_;refine Cr (Bp T.2 6) rfl ?_;refine Cp (Be T.2.code T.2.fat P.2.1 _ w1) ?_;by_cases hz:T.2.code=0
    ·have c3:Cd T.2.code (T.2.fat+P.2.1)=(0,0):=by unfold Cd;rw[if_pos hz]
     rw[if_pos hz]at e;simp only[go_sem,seval,c3];refine (AZ ?_).1;refine Cp (Ap 0 0) ?_;refine Cp (BJ 0 0) ?_
     exact FK u9 [0,1,2,3] (by simp[e,Aq,Av,Au,AM,AH])
    ·have c3:Cd T.2.code (T.2.fat+P.2.1)=(T.2.code,T.2.fat+P.2.1):=by unfold Cd;rw[if_neg hz]
     have c4:(T.2.code==0)=false:=Sx hz
     rw[if_neg hz]at e;simp only[go_sem,seval,c3];refine (AZ ?_).1;refine Aa.p (Ap T.2.code _) ?_;simp only[go_sem,seval,c4];refine (AZ ?_).1
     exact FK u9 [0,1,2,3] (by simp[e,Aq,Av,Au,AM,AH])
def XB (s:PS) (h:CX s):Ag prog (aO s.ph) [.ref 0 0] (HX s 1 2 3) (.tup [bA s.step.2.1,Fk s.step.2.2]) (HX s.step.1 1 2 3):=by
 match hp:s.ph with
 |0=>
  have e:s.step=s.header:=by simp only[PS.step,hp]
  rw[e];exact Rl s h hp
 |1=>
  have e:s.step=s.record:=by simp only[PS.step,hp]
  rw[e];exact Rk s h
 |2=>
  have e:s.step=s.footer:=by simp only[PS.step,hp]
  rw[e];exact Rm s h
 |3=>
  have e:s.step=s.trailer:=by simp only[PS.step,hp]
  rw[e];exact OP s h
 |n+4=>
  have e:s.step=s.rest:=by simp only[PS.step,hp]
  rw[e];exact XC s
def dI (s:PS) (h:CX s) (i j k o:Nat) (hd:[i,j,k,o].Nodup):Ct prog (aO s.ph) [.ref i 0] ([i,j,k,o].zip (HX s j k o)) (λ_=>.tup [bA s.step.2.1,Fk s.step.2.2]) ([i,j,k,o].zip (HX s.step.1 j k o)) (λ_=>[]):=Ct.ps (XB s h) (λρ=>by simp) i j k o hd
def psD (s:PS) (nil:Bool) (j:Nat):AV:=if nil=true then Dr else Ta s j
theorem S_ (s:PS) (j:Nat):psD s true j=Dr:=rfl
theorem YK (s:PS) (j:Nat):psD s false j=Ta s j:=rfl
theorem dJ (s:PS) (c:Int) (h:CX s) (hc:0≤c∧c<256) (hf:s.fed+1≤1000000):
 Ag prog 26 [.ref 0 0,Yr c] (HX s 1 2 3) (.tup []) [Oz (s.one c) (psD (s.one c) (s.nild c) 1) (QM (s.one c) 2) (qJ (s.one c) 3),.row 1 (s.buf.length+1),.row 3 (s.one c).ms.length,.row 20 (s.one c).out.length]:=by
 have hl:=h.len;have bl:=h.bl;have f1:=h.f1;have f0:=h.f0;have⟨a1,a2⟩:=La h hc hf;have⟨s1,s2,s3,s4⟩:=J0 a1 Om;have hst:=dI (s.add c) a1 0 1 2 3 De;have e:s.one c=PS.fin (s.add c).step:=rfl;have en:s.nild c=(!((s.add c).step.2.2.1==0)||(s.add c).step.2.1):=rfl;have⟨O,hO⟩:=Ex (s.one c);have⟨Y,hY⟩:=Ex (s.nild c);have eph:(s.add c).ph=s.ph:=rfl;have hbn:(s.add c).buf=s.buf++[c]:=rfl;have k1:=s2.buf;have k2:=s2.fst;have k3:=s2.fed;have k4:(s.add c).fed=s.fed+1:=rfl;have k5:(s.add c).fst=s.fst:=rfl;have⟨T,hT⟩:=Ex ((s.add c).step);rw[hO]at e ⊢;rw[hY]at en ⊢;rw[hT]at e en hst s1 s3 s4 k1 k2 k3;rw[eph]at hst;have ol:=s1.ol;have ff2:=s1.f2;have w1:IntKind.i64.wrap (s.fed+1)=s.fed+1:=i64_in _ Om;have w2:IntKind.i64.wrap (T.2.2.2+T.1.fst)=T.2.2.2+T.1.fst:=i64_in _ Om;have hia:AU .u8 s.buf++[AV.lit (.int .u8 c)]=AU .u8 (s.buf++[c]):=by simp[AU]
 have hil:s.buf.length+1=(s.buf++[c]).length:=by simp
 refine RN func26 b26 ?_;refine (ms hia @Ab w1 ?_).1
 (repeat((with_reducible refine And.intro ?_ ?_);(·first|exact sd|(simp[Ab,BK,AV.parts,Ab];done)|(simp[Ab,BK,AV.parts,Ab];omega))));simp only[hil];refine Aa.us hst rfl rfl (mp ?_).1;rw[←hil];have b1:T.1.buf.length=s.buf.length+1:=by rw[k1,hbn,←hil]
 refine Aa.p (Ap T.2.2.1 T.2.2.2) ?_;by_cases hz:T.2.2.1=0
 ·have c1:(T.2.2.1==0)=true:=Sx hz
  rw[c1]at en;cases hw:T.2.1 with
  |true=>
   have e':O={T.1 with fst:=T.1.fed,buf:=[]}:=by rw[e];unfold PS.fin;rw[if_pos hz,if_pos hw]
   have en':Y=true:=by rw[en,hw];rfl
   refine (mq c1 ?_).1;rw[e',en',←b1,S_]
   exact FK b26 [0,1,2,3] (by simp[Aq,Av,Au,AM,AH])
  |false=>
   have e':O=T.1:=by rw[e];unfold PS.fin;rw[if_pos hz,if_neg (by rw[hw];decide)]
   have en':Y=false:=by rw[en,hw];rfl
   refine (mq c1 ?_).1;rw[e',en',←b1,YK]
   exact FK b26 [0,1,2,3] (by simp[Aq,Av,Au,AM,AH])
 ·have c1:(T.2.2.1==0)=false:=Sx hz
  have c3:Cd T.2.2.1 (T.2.2.2+T.1.fst)=(T.2.2.1,T.2.2.2+T.1.fst):=by unfold Cd;rw[if_neg hz]
  have e':O={T.1 with out:=T.1.out++[.oth 4 (T.2.2.2+T.1.fst) T.2.2.1],ended:=4,buf:=[]}:=by rw[e];unfold PS.fin;rw[if_neg hz]
  have en':Y=true:=by rw[en,c1];rfl
  have hev:HZ T.1.out++[.agg [iA 4,iA (T.2.2.2+T.1.fst),iA T.2.2.1,iA 0,uA 0,uA 0,uA 0,iA 0,iA 0,Dr,Dr,Dr,uA 0,uA 0,uA 0,uA 0,Dr,uA 0,uA 0,Dr]]=HZ (T.1.out++[.oth 4 (T.2.2.2+T.1.fst) T.2.2.1]):=Za T.1.out (.oth 4 (T.2.2.2+T.1.fst) T.2.2.1);refine (mq c1 ?_).1;refine Aa.p (Be T.2.2.1 T.2.2.2 T.1.fst _ w2) ?_;simp only[go_sem,seval,c3,BY,hev];refine (AZ ?_).1;(repeat((with_reducible refine And.intro ?_ ?_);(·first|exact sd|(simp[Ab,BK,AV.parts,BY];done)|(simp[Ab,BK,AV.parts,BY];omega))));rw[e',en',←b1,S_]
  exact FK b26 [0,1,2,3] (by simp[Aq,Av,Au,AM,AH])
abbrev Vx (s:PS) (j k:Nat):List Ac:=[Oz s (Ta s j) (QM s k) Dr,.row 1 s.buf.length,.row 3 s.ms.length]
def psL (s:PS):Option Nat->List Ac
 |none=>[Oz s (Ta s 1) (QM s 2) (qJ s 3),.row 1 s.buf.length,.row 3 s.ms.length,.row 20 s.out.length]
 |some n=>[Oz s (Ta s 4) (QM s 2) (qJ s 3),.row 1 n,.row 3 s.ms.length,.row 20 s.out.length,.row 1 s.buf.length]
def oJ (s:PS) (st:Option Nat) (j j' k:Nat):List Ac:=[Oz s (Ta s (if st.isSome then j' else j)) (QM s k) Dr,.row 1 (st.getD s.buf.length),.row 3 s.ms.length]
def i6 (s:PS) (st:Option Nat):List Ac:=.row 20 s.out.length::(if st.isSome then[.row 1 s.buf.length]else[])
theorem MY (s:PS) (j j' k:Nat):oJ s none j j' k++i6 s none=[Oz s (Ta s j) (QM s k) Dr,.row 1 s.buf.length,.row 3 s.ms.length,.row 20 s.out.length]:=rfl
theorem MX (s:PS) (n j j' k:Nat):oJ s (some n) j j' k++i6 s (some n)=[Oz s (Ta s j') (QM s k) Dr,.row 1 n,.row 3 s.ms.length,.row 20 s.out.length,.row 1 s.buf.length]:=rfl
def Ux (s:PS) (c:Int) (h:CX s) (hc:0≤c∧c<256) (hf:s.fed+1≤1000000) (i j k o:Nat) (hd:[i,j,k,o].Nodup):
 Ct prog 26 [.ref i 0,Yr c] ([i,j,k,o].zip (HX s j k o)) (λ_=>.tup []) ([i,j,k,o].zip [Oz (s.one c) (psD (s.one c) (s.nild c) j) (QM (s.one c) k) (qJ (s.one c) o),.row 1 (s.buf.length+1),.row 3 (s.one c).ms.length,.row 20 (s.one c).out.length]) (λ_=>[]):=by
 have h0:=dJ s c h hc hf;cases hn:s.nild c with
 |true=>
  rw[hn]at h0;rw[S_]at h0 ⊢;exact Ct.us h0 [i,j,k,o] hd rfl rfl Si (λN=>by simp[AH]) (λN=>by simp[AH,Aq,Av,Au,AM]) (λN=>by simp[AH,Aq,Av,Au,AM]) (λN=>by simp)
 |false=>
  rw[hn]at h0;rw[YK]at h0 ⊢;exact Ct.us h0 [i,j,k,o] hd rfl rfl Si (λN=>by simp[AH]) (λN=>by simp[AH,Aq,Av,Au,AM]) (λN=>by simp[AH,Aq,Av,Au,AM]) (λN=>by simp)
theorem XJ (s:PS) (b:List Int) (h:CX s) (ho:s.out=[]) (hb:A7 b) (hn:s.fed+b.length≤1000000):
 Ag prog 10 [.ref 0 0,Bj .u8 b] (Vx s 1 2) (.sl (.row 3) 20 (HZ (s.feedS b none).1.out)) (oJ (s.feedS b none).1 (s.feedS b none).2 1 4 2++i6 (s.feedS b none).1 (s.feedS b none).2):=by
 have⟨F,hF⟩:=Ex (s.feedS b none);have hfed:=h.f1;have hf0:=h.f0;rw[hF];refine RM func10 b10 ?_
 refine AA (α:=Nat×PS×Option Nat) (λa=>.ref 0 0::Bj .u8 b::.any::.any::.any::iA a.1::Az (Ay (Ay (Ay [.any,.any])))) (λa=>psL a.2.1 a.2.2) (λa=>a.1≤b.length∧CX a.2.1∧a.2.1.fed+((b.length:Int)-a.1)≤1000000∧a.2.1.feedS (b.drop a.1) a.2.2=F) (λa=>b.length-a.1) (0,s,none) ⟨Si,h,by simp only[];omega,by simpa using hF⟩ ((Wk.rowObj 0 18 20 rfl rfl (.inr rfl) Om).trans (Wk.to (by simp[psL,ho,HZ]) (by simp[B6]))) ?_;rintro⟨i,u,st⟩ ⟨hi,hu,hfd,hr⟩;simp only[]at hi hu hfd hr;cases st with
 |none=>
  have hfin:u.feedS (b.drop i) none=(u,none)->F=(u,none):=λh=>hr.symm.trans h
  simp only[psL];refine (mq @Ab ?_).1;by_cases hlt:i<b.length
  ·have q1:decide ((i:Int)<(b.length:Int))=true:=decide_eq_true Om;have ei:=Am i Om;have g:=DS .u8 b i hlt;have hd:b.drop i=b.getD i 0::b.drop (i+1):=by
    rw[drop_eq_getElem_cons hlt];simp[hlt]
   have hbc:0≤b.getD i 0∧b.getD i 0<256:=hb _ (by simp[hlt]);rw[hd]at hr hfin;have⟨c,hc⟩:=Ex (b.getD i 0);rw[hc]at g hbc hr hfin;simp only[PS.feedS]at hr hfin;refine (mq q1 ?_).1;refine Aa.us (PZ u 0 1 2 3 De) rfl rfl (mp ?_).1;by_cases he:u.ended=0
   ·have c1:(u.ended==0)=true:=Sx he
    rw[if_pos he]at hr;have⟨o1,o2,o3,o4⟩:=WA hu hbc Om;have hct:=Ux u c hu hbc Om 0 1 2 3 De;refine (mt c1 @Int.toNat_natCast g @Ab ?_).1;refine⟨Om,Om,?_⟩;cases hn:u.nild c with
    |true=>
     rw[hn,S_]at hct;rw[hn,if_pos rfl]at hr;have hbu:=o3 hn;refine Aa.us hct rfl rfl (mq ei ?_).1;exact⟨(i+1,u.one c,some (u.buf.length+1)),⟨hlt,o1,by simp only[];omega,hr⟩,by simp only[];omega,(Wk.rowObj 0 1 1 rfl rfl (.inr rfl) Om).trans (Wk.to (by simp[hbu]) (by simp[B6]))⟩
    |false=>
     rw[hn,YK]at hct;rw[hn,if_neg De]at hr;have hkb:(u.one c).buf.length=u.buf.length+1:=by
      have hk:=(J0 (La hu hbc Om).1 (by have:=(La hu hbc Om).2;omega)).2.1.buf;rw[o4 hn,hk];simp[PS.add]
     have hlb:=hkb.symm;refine Aa.us hct rfl rfl (mq ei ?_).1;exact⟨(i+1,u.one c,none),⟨hlt,o1,by simp only[];omega,hr⟩,by simp only[];omega,Wk.to (by simp[hlb]) (by simp[B6])⟩
   ·have c1:(u.ended==0)=false:=Sx he
    have hF:=hfin (by rw[if_neg he]);refine (mq c1 ?_).1;subst hF;simp only[MY]
    exact FK b10 [0,1,2,3] (by simp[Aq,Av,Au,AM,AH])
  ·have q1:decide ((i:Int)<(b.length:Int))=false:=decide_eq_false Om;have hF:=hfin (by rw[drop_of_length_le Om];rfl);refine (mq q1 ?_).1;subst hF;simp only[MY]
   exact FK b10 [0,1,2,3] (by simp[Aq,Av,Au,AM,AH])
 |some n=>
  have hfin:u.feedS (b.drop i) (some n)=(u,(some n))->F=(u,(some n)):=λh=>hr.symm.trans h
  simp only[psL];refine (mq @Ab ?_).1;by_cases hlt:i<b.length
  ·have q1:decide ((i:Int)<(b.length:Int))=true:=decide_eq_true Om;have ei:=Am i Om;have g:=DS .u8 b i hlt;have hd:b.drop i=b.getD i 0::b.drop (i+1):=by
    rw[drop_eq_getElem_cons hlt];simp[hlt]
   have hbc:0≤b.getD i 0∧b.getD i 0<256:=hb _ (by simp[hlt]);rw[hd]at hr hfin;have⟨c,hc⟩:=Ex (b.getD i 0);rw[hc]at g hbc hr hfin;simp only[PS.feedS]at hr hfin;refine (mq q1 ?_).1;refine Aa.us (PZ u 0 4 2 3 De) rfl rfl (mp ?_).1;by_cases he:u.ended=0
   ·have c1:(u.ended==0)=true:=Sx he
    rw[if_pos he]at hr;have⟨o1,o2,o3,o4⟩:=WA hu hbc Om;have hct:=Ux u c hu hbc Om 0 4 2 3 De;refine (mt c1 @Int.toNat_natCast g @Ab ?_).1;refine⟨Om,Om,?_⟩;cases hn:u.nild c with
    |true=>
     rw[hn,S_]at hct;rw[hn,if_pos rfl]at hr;have hbu:=o3 hn;refine Aa.us hct rfl rfl (mq ei ?_).1;exact⟨(i+1,u.one c,some n),⟨hlt,o1,by simp only[];omega,hr⟩,by simp only[];omega,(Wk.rowObj 0 1 1 rfl rfl (.inr rfl) Om).trans (Wk.sel [0,1,2,3,5] Si rfl Si rfl (by simp[hbu,Aq,Av,Au,AM,AH]) (by simp[Ch,AD,AI]))⟩
    |false=>
     rw[hn,YK]at hct;rw[hn,if_neg De]at hr;have hkb:(u.one c).buf.length=u.buf.length+1:=by
      have hk:=(J0 (La hu hbc Om).1 (by have:=(La hu hbc Om).2;omega)).2.1.buf;rw[o4 hn,hk];simp[PS.add]
     have hlb:=hkb.symm;refine Aa.us hct rfl rfl (mq ei ?_).1;exact⟨(i+1,u.one c,(some n)),⟨hlt,o1,by simp only[];omega,hr⟩,by simp only[];omega,Wk.to (by simp[hlb]) (by simp[B6])⟩
   ·have c1:(u.ended==0)=false:=Sx he
    have hF:=hfin (by rw[if_neg he]);refine (mq c1 ?_).1;subst hF;simp only[MX]
    exact FK b10 [0,1,2,3,4] (by simp[Aq,Av,Au,AM,AH])
  ·have q1:decide ((i:Int)<(b.length:Int))=false:=decide_eq_false Om;have hF:=hfin (by rw[drop_of_length_le Om];rfl);refine (mq q1 ?_).1;subst hF;simp only[MX]
   exact FK b10 [0,1,2,3,4] (by simp[Aq,Av,Au,AM,AH])
def NI (s:PS) (b:List Int) (h:CX s) (ho:s.out=[]) (hb:A7 b) (hn:s.fed+b.length≤1000000) (i j k:Nat) (hd:[i,j,k].Nodup):
 CtN prog 10 [.ref i 0,Bj .u8 b] ([i,j,k].zip (Vx s j k)) (λn=>.sl (.row n) 20 (HZ (s.feedS b none).1.out)) (λn=>[i,j,k].zip (oJ (s.feedS b none).1 (s.feedS b none).2 j (n+1) k)) (λ_=>i6 (s.feedS b none).1 (s.feedS b none).2):=by
 have h0:=XJ s b h ho hb hn;obtain⟨⟨F,st⟩,hF⟩:∃F,s.feedS b none=F:=⟨_,rfl⟩;rw[hF]at h0 ⊢;simp only[]at h0 ⊢;cases st with
 |none=>
  rw[MY]at h0;exact CtN.mk h0 [i,j,k] hd rfl Si Si (λn N=>by simp[AH,AI]) (λn N=>by simp[AH,IR,range'_succ]) (λn N=>by simp[AH,Aq,Av,Au]) (λn N=>by simp[AH,oJ,Aq,Av,Au]) (λn N=>by simp[i6,AH])
 |some m=>
  rw[MX]at h0;exact CtN.mk h0 [i,j,k] hd rfl Si Si (λn N=>by simp[AH,AI]) (λn N=>by simp[AH,IR,range'_succ]) (λn N=>by simp[AH,Aq,Av,Au,range'_succ]) (λn N=>by simp[AH,oJ,Aq,Av,Au,range'_succ]) (λn N=>by simp[i6,AH])
def dM:Ag prog 8 [] [] (.ref 0 0) [Oz Ga Dr Dr Dr]:=by
 refine RM func8 b8 ?_
 refine WO 0 [.fn (aO 0) [] [],Dr,iA 0,iA 0,iA 0,uA 0,uA 0,uA 0,.sl .none 2 [],Dr,uA 0,iA 0,iA 0,uA 0,uA 0,iA 0,iA 0,iA 0,Dr] ?_
 exact FK b8 [0] (by simp[Aq,Ga,JG])
def UB:Ct prog 8 [] [] (λn=>.ref n 0) [] (λ_=>[Oz Ga Dr Dr Dr]):=Ct.n dM (λρ=>by simp) (λn N=>by simp[AH]) (λn N=>by simp[Aq])
def Wn:CX Ga:=⟨λx hx=>by simp[Ga]at hx,De,De,De,De,De,De,De,De,De,De,De,De,De,De,De⟩
def OR (b:List Int) (hb:A7 b) (hn:(b.length:Int)≤1000000) {S:List Ac} {K:KT} (i:Nat) (h1:S[i]? =some (Oz Ga Dr Dr Dr))
 (hK:K (.sl (.row (S.length+2)) 20 (HZ (Ga.feedS b none).1.out)) [i] [(i,Oz (Ga.feedS b none).1 (Ta (Ga.feedS b none).1 (if(Ga.feedS b none).2.isSome then S.length+3 else S.length)) (QM (Ga.feedS b none).1 (S.length+1)) Dr)]
   ([.row 1 ((Ga.feedS b none).2.getD (Ga.feedS b none).1.buf.length),.row 3 (Ga.feedS b none).1.ms.length]++i6 (Ga.feedS b none).1 (Ga.feedS b none).2)):
 Aa prog 10 [.ref i 0,Bj .u8 b] S K:=by
 have hil:=(Ge h1);refine⟨_,_,_,_,λT hT _ hd=>?_,λp hp=>?_,λp hp=>?_,hK⟩
 ·have Nz:T[S.length]? =some .dead:=hd (S.length,.row 1 ((Ga.feedS b none).2.getD (Ga.feedS b none).1.buf.length)) (by simp[BC]);have hd1:T[S.length+1]? =some .dead:=hd (S.length+1,.row 3 (Ga.feedS b none).1.ms.length) (by simp[BC]);have t1:T[i]? =some (Oz Ga Dr Dr Dr):=(hT i Si).trans h1;have E9:i<T.length:=(Ge t1);refine Ag.rowObj (j:=1) 1 t1 rfl Nz Om ?_;refine Ag.rowObj (j:=9) (n:=S.length+1) 3 (k':=1) (i:=i) (ys:=[.fn (aO 0) [] [],.sl (.row S.length) 1 [],iA 0,iA 0,iA 0,uA 0,uA 0,uA 0,.sl .none 2 [],Dr,uA 0,iA 0,iA 0,uA 0,uA 0,iA 0,iA 0,iA 0,Dr]) ?_ rfl ?_ Om ?_
  ·simp[E9,Ga,JG]
  ·rw[getElem?_set_ne Om,getElem?_set_ne Om];exact hd1
  ·have hnd:[i,S.length,S.length+1].Nodup:=by
    simp only[nodup_cons,mem_cons,not_mem_nil,or_false,not_or,not_false_eq_true,nodup_nil,and_true];omega
   have hc:=NI Ga b Wn rfl hb (by show(0:Int)+_≤_;omega) i S.length (S.length+1) hnd;have ht0:=(Ge Nz);have ht1:=(Ge hd1);have hx:=hc ((((T.set S.length (.row 1 0)).set i (.cells [.fn (aO 0) [] [],.sl (.row S.length) 1 [],iA 0,iA 0,iA 0,uA 0,uA 0,uA 0,.sl .none 2 [],Dr,uA 0,iA 0,iA 0,uA 0,uA 0,iA 0,iA 0,iA 0,Dr])).set (S.length+1) (.row 3 0)).set i (.cells [.fn (aO 0) [] [],.sl (.row S.length) 1 [],iA 0,iA 0,iA 0,uA 0,uA 0,uA 0,.sl .none 2 [],.sl (.row (S.length+1)) 3 [],uA 0,iA 0,iA 0,uA 0,uA 0,iA 0,iA 0,iA 0,Dr])) (S.length+2) (λp hp=>?_) (λp hp=>?_)
   ·rw[CZ]at hx;simp only[oJ,zip_cons_cons,zip_nil_right]at hx;rw[CZ,cons_append,cons_append,nil_append,BC,BC];rw[JT _ _ _ Si,JT _ _ _ Si,JT _ _ _ Si,JT _ _ _ Si]at hx;exact hx
   ·simp only[zip_cons_cons,zip_nil_right,mem_cons,not_mem_nil,or_false]at hp;rcases hp with rfl|rfl|rfl
    ·simp[E9,Ga,JG,AU,HY]
    ·simp only[];rw[getElem?_set_ne Om,getElem?_set_ne Om,getElem?_set_ne Om];simp[ht0,Ga]
    ·simp only[];rw[getElem?_set_ne Om];simp[ht1,Ga]
   ·have hpd:T[p.1]? =some .dead:=hd p (by
     rw[cons_append,cons_append,nil_append,BC,BC];exact mem_cons_of_mem _ (mem_cons_of_mem _ hp))
    have hge:S.length+2≤p.1:=by
     rw[Ib]at hp;have:=(of_mem_zip hp).1;rw[mem_range']at this;omega
    rw[getElem?_set_ne Om,getElem?_set_ne Om,getElem?_set_ne Om,getElem?_set_ne Om];exact hpd
 ·simp only[mem_cons,not_mem_nil,or_false]at hp;subst hp;simp
 ·simp only[mem_cons,not_mem_nil,or_false]at hp;subst hp;exact hil
theorem Ct.pi {F:FuncId} {s:PS} {r:AV} (h:Ag prog F [.ref 0 0] (Vx s 1 2) r (Vx s 1 2)) (hr:∀ρ,r.ren ρ=r) (i j k:Nat) (hd:[i,j,k].Nodup):Ct prog F [.ref i 0] ([i,j,k].zip (Vx s j k)) (λ_=>r) ([i,j,k].zip (Vx s j k)) (λ_=>[]):=
 Ct.us h [i,j,k] hd rfl rfl Si (λN=>by simp[AH]) (λN=>by simp[AH,Aq,Av,Au]) (λN=>by simp[AH,Aq,Av,Au]) (λN=>hr _)
def Uw (s:PS):Ag prog 25 [.ref 0 0] (Vx s 1 2) (bA (s.ended==0)) (Vx s 1 2):=by
 refine RM func25 b25 ?_
 exact FK b25 [0,1,2] (by simp[Aq,Av,Au,AH])
def XD (s:PS) (i j k:Nat) (hd:[i,j,k].Nodup):Ct prog 25 [.ref i 0] ([i,j,k].zip (Vx s j k)) (λ_=>bA (s.ended==0)) ([i,j,k].zip (Vx s j k)) (λ_=>[]):=Ct.pi (Uw s) (λρ=>by simp) i j k hd
def Uu (s:PS) (h:CX s):Ag prog 27 [.ref 0 0] (Vx s 1 2) (bA s.whole) (Vx s 1 2):=by
 have t0:=h.t0;have t1:=h.t1;have a0:=h.a0;have a1:=h.a1;have z0:=h.z0;have z1:=h.z1;have w1:IntKind.i64.wrap (s.want.at_+s.want.size)=s.want.at_+s.want.size:=i64_in _ Om;have w2:IntKind.i64.wrap (s.want.at_+s.want.size+s.foot)=s.want.at_+s.want.size+s.foot:=i64_in _ Om;have w3:IntKind.i64.wrap (s.want.at_+s.want.size+s.foot+12)=s.want.at_+s.want.size+s.foot+12:=i64_in _ Om;have e:s.whole=(decide (0<s.foot)&&(decide (s.buf.length=0)&&decide (s.fed=s.want.at_+s.want.size+s.foot+12))):=rfl;refine RM func27 b27 ?_
 by_cases h1:0<s.foot
 ·have c1:decide (0<s.foot)=true:=Sx h1
  rw[c1,Bool.true_and]at e;refine (mr c1 @Ab ?_).1;by_cases h2:s.buf.length=0
  ·have c2:((s.buf.length:Int)==0)=true:=by simp only[beq_iff_eq];omega
   have e:s.whole=(s.fed==s.want.at_+s.want.size+s.foot+12):=by
    rw[e,decide_eq_true h2,Bool.true_and];by_cases h3:s.fed=s.want.at_+s.want.size+s.foot+12
    ·simp[h3]
    ·simp[h3]
   refine (ms c2 w1 w2 ?_).1;refine Aa.p (EA) (mq w3 ?_).1
   exact FK b27 [0,1,2] (by simp[e,Aq,Av,Au,AH])
  ·have c2:((s.buf.length:Int)==0)=false:=by simp only[beq_eq_false_iff_ne,ne_eq];omega
   have e:s.whole=false:=by rw[e,decide_eq_false h2,Bool.false_and]
   refine (mq c2 ?_).1
   exact FK b27 [0,1,2] (by simp[e,Aq,Av,Au,AH])
 ·have c1:decide (0<s.foot)=false:=Sx h1
  rw[c1,Bool.false_and]at e;refine (mq c1 ?_).1
  exact FK b27 [0,1,2] (by simp[e,Aq,Av,Au,AH])
def Xz (s:PS) (h:CX s) (i j k:Nat) (hd:[i,j,k].Nodup):Ct prog 27 [.ref i 0] ([i,j,k].zip (Vx s j k)) (λ_=>bA s.whole) ([i,j,k].zip (Vx s j k)) (λ_=>[]):=Ct.pi (Uu s h) (λρ=>by simp) i j k hd
abbrev oK (s:PS) (j k:Nat):List Ac:=[if s.ended=0 then Oz s.close.1 Dr (QM s k) Dr else Oz s (Ta s j) (QM s k) Dr,.row 1 s.buf.length,.row 3 s.ms.length]
theorem UC (s:PS) (h:CX s):Ag prog 11 [.ref 0 0] (Vx s 1 2) (.sl .none 20 (HZ s.close.2)) (oK s 1 2):=by
 have e:s.close=if s.ended=0 then(if s.whole=true then({s with ended:=2,buf:=[]},[.oth 2 s.fed 0])else({s with ended:=3,buf:=[]},[.oth 3 s.fed 1]))else(s,[]):=rfl
 have⟨C,hC⟩:=Ex s.close;rw[hC]at e;unfold oK;rw[hC];have hw:=Xz s h 0 1 2 De;refine RM func11 b11 ?_
 refine Aa.us (XD s 0 1 2 De) rfl rfl (mp ?_).1;by_cases he:s.ended=0
 ·have c1:(s.ended==0)=true:=Sx he
  rw[if_pos he]at e ⊢;refine (mq c1 ?_).1;refine Aa.us hw rfl rfl (mp ?_).1;cases hwh:s.whole with
  |true=>
   rw[hwh,if_pos rfl]at e;rw[e];have hev:HZ [.oth 2 s.fed 0]=[.agg [iA 2,iA s.fed,iA 0,iA 0,uA 0,uA 0,uA 0,iA 0,iA 0,Dr,Dr,Dr,uA 0,uA 0,uA 0,uA 0,Dr,uA 0,uA 0,Dr]]:=rfl;refine (mp ?_).1;refine (Sr ?_).1;refine UT 2 ?_
   exact FK b11 [0,1,2] (by simp[hev,Aq,Av,Au,AH])
  |false=>
   rw[hwh,if_neg De]at e;rw[e];have hev:HZ [.oth 3 s.fed 1]=[.agg [iA 3,iA s.fed,iA 1,iA 0,uA 0,uA 0,uA 0,iA 0,iA 0,Dr,Dr,Dr,uA 0,uA 0,uA 0,uA 0,Dr,uA 0,uA 0,Dr]]:=rfl;refine (mp ?_).1;refine (Sr ?_).1;refine UT 2 ?_
   exact FK b11 [0,1,2] (by simp[hev,Aq,Av,Au,AH])
 ·have c1:(s.ended==0)=false:=Sx he
  rw[if_neg he]at e ⊢;rw[e];refine (mq c1 ?_).1;(refine A2.nilk 2 20 rfl ?_;simp only[set_cons_zero,set_cons_succ]);refine UT 2 ?_
  exact FK b11 [0,1,2] (by simp[HZ,Aq,Av,Au,AH])
def JJ (s:PS) (h:CX s) (i j k:Nat) (hd:[i,j,k].Nodup):Ct prog 11 [.ref i 0] ([i,j,k].zip (Vx s j k)) (λ_=>.sl .none 20 (HZ s.close.2)) ([i,j,k].zip (oK s j k)) (λ_=>[]):=by
 have h0:=UC s h;by_cases he:s.ended=0
 ·unfold oK at h0 ⊢;rw[if_pos he]at h0 ⊢;exact Ct.us h0 [i,j,k] hd rfl rfl Si (λN=>by simp[AH]) (λN=>by simp[AH,Aq,Av,Au]) (λN=>by simp[AH,Aq,Av,Au]) (λN=>by simp[IR])
 ·unfold oK at h0 ⊢;rw[if_neg he]at h0 ⊢;exact Ct.us h0 [i,j,k] hd rfl rfl Si (λN=>by simp[AH]) (λN=>by simp[AH,Aq,Av,Au]) (λN=>by simp[AH,Aq,Av,Au]) (λN=>by simp[IR])
def Kn (b:List Int):List Ev:=(Ga.feed b).out++(Ga.feed b).close.2
theorem Ej (l m:List Ev):HZ l++HZ m=HZ (l++m):=by simp[HZ]
def lN (b:List Int) (hb:A7 b) (hn:(b.length:Int)≤1000000):Ct prog 16 [Bj .u8 b] [] (λ_=>.sl .none 20 (HZ (Kn b))) [] (λ_=>[]):=by
 refine Ag.toCt ?_ cl cl
 have hfe:=P0 b Ga none;have⟨fk,fn⟩:=Y8 b Ga Wn hb (by show(0:Int)+_≤_;omega);have e:Kn b=(Ga.feed b).out++(Ga.feed b).close.2:=rfl;have hcall:=λ{S:List Ac} {K:KT}=>@OR b hb hn S K
 obtain⟨⟨F,st⟩,hF⟩:∃F,Ga.feedS b none=F:=⟨_,rfl⟩;rw[hF]at hfe hcall;simp only[]at hfe hcall;rw[←hfe]at fk fn e;have ol:=fk.ol;have f2:=fk.f2;have cl:F.close.2.length≤1:=by
  unfold PS.close;split
  ·split<;>simp
  ·simp
 rw[e];refine RM func16 b16 ?_
 refine Aa.n (UB) (mp ?_).1;refine hcall 0 rfl ?_;cases st with
 |none=>
  simp only[i6,Option.getD_none,Option.isSome_none,Bool.false_eq_true,if_false];simp only[go_sem,seval,length_cons,length_nil,cons_append,nil_append];refine (AZ ?_).1;refine Aa.us (JJ F fk 0 1 2 De) rfl rfl ?_;by_cases he:F.ended=0
  ·unfold oK;rw[if_pos he];refine (mr @BY @Ej ?_).1;refine⟨Om,?_⟩;refine UT 2 ?_;exact FA b16 []
  ·unfold oK;rw[if_neg he];refine (mr @BY @Ej ?_).1;refine⟨Om,?_⟩;refine UT 2 ?_;exact FA b16 []
 |some n=>
  simp only[i6,Option.getD_some,Option.isSome_some,if_true];simp only[go_sem,seval,length_cons,length_nil,cons_append,nil_append];refine (AZ ?_).1;refine Aa.us (JJ F fk 0 4 2 De) rfl rfl ?_;by_cases he:F.ended=0
  ·unfold oK;rw[if_pos he];refine (mr @BY @Ej ?_).1;refine⟨Om,?_⟩;refine UT 2 ?_;exact FA b16 []
  ·unfold oK;rw[if_neg he];refine (mr @BY @Ej ?_).1;refine⟨Om,?_⟩;refine UT 2 ?_;exact FA b16 []
def pV {P:Program} {o:Oper} {t e:TypeId} {n:Nat} {ps:Array (Nat×Operand)} {zs:List Value} {l:List Int} (hop:o.op=.buildSlice t n ps) (ht:P.underlying t=some (.slice e)) (hs:FP P e=some 1) (hz:EN P e=some zs) (hlim:n≤16777216)
 (hps:ps.toList.map (·.1)=List.range n) (hl:ps.toList.map (·.2)=l.map λx=>.const (.int .u8 x)) (a:Act) (w:World):
 ∃B:Array Value,(execOp a.eval o).run P w=.ok (.value (.slice (some ⟨w.heap.size,0,none⟩) n n)) (w.alloc (.cells B e))∧∀(i:Nat) (x:Int),l[i]? =some x->B[i]? =some (.int .u8 x):=by
 have hlen:ps.toList.length=n:=by have:=congrArg List.length hps;simpa using this
 have⟨it,z,E9,hz0,hzc,ho⟩:=C2 hz
 let us:List Value:=ps.toList.map λp=>a.eval p.2
 have hus:us=l.map λx=>Value.int .u8 x:=by
  have e1:us=(ps.toList.map (·.2)).map a.eval:=by simp[us]
  rw[e1,hl,map_map];congr 1
 have husl:us.length=n:=by simp[us,hlen]
 have husk:∀u∈us,u.cells.size=1:=by
  intro u hu;rw[hus]at hu;obtain⟨x,_,rfl⟩:=mem_map.1 hu;rfl
 let A:Array Value:=(Array.range (n*1)).map (z.cells[· %z.cells.size]!)
 have hAs:A.size=n*1:=by simp[A]
 have⟨B,hB1,hB2,hB3,hB4⟩:=Ut 1 us 0 A husk (by rw[hAs,husl,Nat.zero_add];exact Nat.le_refl _);have hzip:(range' 0 us.length).zip us=(ps.map λ(i,x)=>(i,a.eval x)).toList:=by
  rw[husl,←range_eq_range',←hps];simp only[us,Array.toList_map];rw[zip_map']
 refine⟨B,?_,λi x hx=>?_⟩
 ·simp only[execOp,hop,Instr.buildSlice,Sem.run_bind,run_underlying ht,Result.andThen_ok,B1 hs];rw[if_neg Om];by_cases hn:n*1=0
  ·have hA0:A=(Array.range (n*1)).map (λx=>(#[]:Array Value)[x%(#[]:Array Value).size]!):=by
    apply Array.ext
    ·simp[A]
    ·intro i h1 h2;simp[A]at h1;omega
   rw[hzip,hA0]at hB1;have hn':n=0:=Om
   simp[hn']at hB1 ⊢;simp[hB1,newRow]
  ·rw[hzip]at hB1;have hn':¬n=0:=Om
   simp[hn',zeroValue,typeInfo,E9,hz0];simp[A]at hB1;simp[hB1,newRow]
 ·have h1:=hB4 i 0 (.int .u8 x) (by rw[hus,getElem?_map,hx];rfl) Om;rw[Nat.zero_add,Nat.mul_one,Nat.add_zero]at h1;rw[h1];rfl
def Vz {ro:Option Nat} {P:Program} {ops ops':Array Oper} {Q:Exit->Act->World->Prop}:∀(l:List Nat) (a:Act) (w:World),(∀i∈l,ops[i]? =ops'[i]?)->(∀i∈l,∀o,ops[i]? =some o->o.guard=none)->wpOpsIn (Fw ro) 0 P ops' Q l a w->wpOpsIn (Fw ro) 0 P ops Q l a w:=by
 intro l
 induction l with
 |nil=>intro a w _ _ h;exact h
 |cons i l ih=>
  intro a w he hg h;have e:=he i Si;have ih':=λa w h=>ih a w (λj hj=>he j (by simp[hj])) (λj hj=>hg j (by simp[hj])) h
  simp only[wpOpsIn]at h ⊢;rw[←e]at h;cases ho:ops[i]? with
  |none=>rw[ho]at h;exact ih' _ _ h
  |some o=>
   rw[ho]at h;have hgo:=hg i Si o ho;have hw:∀y,Region.wanted o y=true:=λy=>by simp[Region.wanted,hgo]
   simp only[hw,if_true]at h ⊢;exact Oper.wpIn_mono (λa w h=>ih' a w h) h
theorem AC.lit {P:Program} {m id:Nat} {ops:Array Oper} {o0 o1:Oper} {t e:TypeId} {n d0 d1:Nat} {ps:Array (Nat×Operand)} {zs:List Value} {l:List Int} {tm:List AV} {S:List Ac} {Q:QT} (os:List Oper) (hops:ops.toList=o0::o1::os)
 (g:∀o∈ops.toList,o.guard=none) (hop0:o0.op=.buildSlice t n ps) (Nz:o0.dst=some d0) (hop1:o1.op=.convert t t (.tmp d0)) (hd1:o1.dst=some d1) (hne:d0≠d1) (hd0l:d0<tm.length) (hd1l:d1<tm.length)
 (ht:P.underlying t=some (.slice e)) (he:P.underlying e=some (.int .u8)) (hs:FP P e=some 1) (hz:EN P e=some zs) (hlim:n≤16777216) (hps:ps.toList.map (·.1)=List.range n) (hl:ps.toList.map (·.2)=l.map λx=>.const (.int .u8 x))
 {o:Oper} {cs:List RO} (hom:o.op=.move (.tmp d1)) (hod:o.dst=some d1) (hog:o.guard=none) (hc:Gs P (o::o::os).toArray=some cs)
 (h:DZ P cs [] [] ((tm.set d0 .any).set d1 (.sl .none 1 (AU .u8 l))) S (Q .normal)):AC P m (.region id ops false) tm S Q:=by
 intro G0 S0 w0 G a w hm hz0;refine wpIn_wide.1 (wpIn_region (F:=Fw none) (n:=0) ?_);have hos:ops.size=os.length+2:=by rw[←Array.length_toList,hops];simp
 have h0:ops[0]? =some o0:=by rw[←Array.getElem?_toList,hops];rfl
 have h1:ops[1]? =some o1:=by rw[←Array.getElem?_toList,hops];rfl
 have g0:o0.guard=none:=g o0 (by rw[hops];simp);have g1:o1.guard=none:=g o1 (by rw[hops];simp);have⟨B,hB1,hB2⟩:=pV hop0 ht hs hz hlim hps hl a w;have hnl:n=l.length:=by
  have e1:=congrArg List.length hps;have e2:=congrArg List.length hl;simp at e1 e2;omega
 have hw0:=hz0.left.wd;have hsz:=hz0.size;have hconv:=Lib.run_convert_bytes_const (P:=P) w t e B n n ht he;have hleft:=AS.still_ (vs:=B.toList) hw0 (w':=w.alloc (.cells B e (B.size,B.size+1))) (C_.alloc w _) (λi v hv=>by simpa using hv);have hrep:Bg (G.newImm w.heap.size B.toList) (.sl .none 1 (AU .u8 l)) (.slice (some ⟨w.heap.size,0,none⟩) n n):=by
  have hil:(AU .u8 l).length=n:=by rw[hnl];simp[AU]
  rw[show Value.slice (some ⟨w.heap.size,0,none⟩) n n=Value.slice (some ⟨w.heap.size,0,none⟩) (AU .u8 l).length n by rw[hil]];refine .sl (b:=w.heap.size) (o:=0) (λi j=>.int .u8 (l.getD i 0)) Om (λ_=>rfl) (λi x hx=>?_) (λi j hi hj=>?_) (λi j _ _=>rfl) (λi j x y hx hy=>?_) trivial
  ·obtain⟨z,_,rfl⟩:=A6 hx;rfl
  ·have hi':i<l.length:=Om
   have hj':j=0:=Om
   subst hj';have:=hB2 i (l[i]) (getElem?_eq_getElem hi');simp[Gh.newImm,this,hi']
  ·obtain⟨z,hz,rfl⟩:=A6 hx;cases j with
   |zero=>simp[AV.cells]at hy;subst hy;simp[hz];exact .lit _
   |succ j=>simp[AV.cells]at hy
 have w0':Region.wanted o0 (yielded ops a.tmps)=true:=by simp[Region.wanted,g0]
 rw[hos,range_eq_range'];simp only[range'_succ,wpOpsIn,h0,w0',if_true];refine Gf (λc hc=>by rw[hop0]at hc;cases hc) (.inl ?_);unfold Oper.wp;rw[hB1];simp only[Oper.upon];have w1':∀a:Act,Region.wanted o1 (yielded ops a.tmps)=true:=λa=>by simp[Region.wanted,g1]
 simp only[Nat.zero_add,h1,w1',if_true];refine Gf (λc hc=>by rw[hop1]at hc;cases hc) (.inl ?_);unfold Oper.wp;have hev:(a.put o0.dst (.slice (some ⟨w.heap.size,0,none⟩) n n)).eval (.tmp d0)=.slice (some ⟨w.heap.size,0,none⟩) n n:=by
  rw[Nz];simp[Act.eval,Act.put,hsz,hd0l]
 have hrun1:(execOp (a.put o0.dst (.slice (some ⟨w.heap.size,0,none⟩) n n)).eval o1).run P (w.alloc (.cells B e))=.ok (.value (.slice (some ⟨w.heap.size,0,none⟩) n n)) (w.alloc (.cells B e (B.size,B.size+1))):=by
  simp only[execOp,hop1,hev,Sem.run_bind,hconv,Result.andThen_ok,Sem.run_pure]
 rw[hrun1];simp only[Oper.upon];have hz1:=hz0.put (AS.refl hw0) (x:=.any) (v:=.slice (some ⟨w.heap.size,0,none⟩) n n) (.any _) (some d0);have hz2:=hz1.put hleft hrep (some d1);rw[Nz,hd1];have hreg:=Pw (ro:=none) (Q:=λe a' w'=>∃tm' S' G',Cz G0 S0 w0 tm' S' G' a' w'∧Q e tm' S') hc hz2 h (λtm' S' G' a' w' hz' hq=>⟨_,_,G',hz',hq⟩);have hmv:∀(a:Act) (w:World) (K:Act->World->Prop) (Q:Exit->Act->World->Prop),o.wpIn (Fw none) 0 P a w K Q->K (a.put (some d1) (a.eval (.tmp d1))) w:=λa w K Q hh=>by
  have⟨_,hh⟩:=hh;rw[Oper.semAt_eq _ _ _ (λc hc=>by rw[hom]at hc;cases hc)]at hh;have hrm:(execOp a.eval o).run P w=.ok (.value (a.eval (.tmp d1))) w:=by simp[execOp,hom]
  rw[hrm]at hh;rw[←hod];exact hh
 have⟨v,hv⟩:=Ex (Value.slice (some ⟨w.heap.size,0,none⟩) n n);rw[hv]at hreg ⊢;have⟨a2,ha2⟩:=Ex ((a.put (some d0) v).put (some d1) v);have hsame:a2.put (some d1) (a2.eval (.tmp d1))=a2:=by
  rw[←ha2];have hd1':d1<a.tmps.size:=by rw[hsz];exact hd1l
  simp[Act.put,Act.eval,hd1']
 rw[ha2]at hreg ⊢;have hs2:(o::o::os).toArray.size=os.length+2:=by simp
 rw[hs2,range_eq_range']at hreg;have wo:∀y,Region.wanted o y=true:=λy=>by simp[Region.wanted,hog]
 have i0:(o::o::os).toArray[0]? =some o:=by simp
 have i1:(o::o::os).toArray[1]? =some o:=by simp
 simp only[range'_succ,wpOpsIn,i0,wo,if_true,Nat.zero_add,i1]at hreg;have hreg:=hmv _ _ _ _ hreg;rw[hsame]at hreg;have hreg:=hmv _ _ _ _ hreg;rw[hsame]at hreg;refine Vz (ops':=(o::o::os).toArray) _ _ _ (λi hi=>?_) (λi hi o' ho'=>?_) hreg
 ·rw[mem_range']at hi;obtain⟨k,hk,rfl⟩:=hi;rw[←Array.getElem?_toList,hops];rw[show 1+1+1*k=k+2 by omega];simp
 ·exact g o' (mem_of_getElem? (by rw[Array.getElem?_toList];exact ho'))
theorem AC.wk {P:Program} {m:Nat} {code:Code} {tm tm':List AV} {S S':List Ac} {Q:QT} (h:Wk m tm S tm' S') (k:AC P m code tm' S' Q):AC P m code tm S Q:=λG0 S0 w0 G a w hm hz=>by
 have⟨G',hz'⟩:=h G0 S0 w0 G a w hm hz;exact k G0 S0 w0 G' a w hm hz'
theorem AC.seq {P:Program} {m:Nat} {a b:Code} {tm:List AV} {S:List Ac} {Q:QT} (h:AC P m a tm S (MU (λtm S=>AC P m b tm S Q) Q)):AC P m (.seq a b) tm S Q:=λG0 S0 w0 G x w hm hz=>by
 refine wp_seq (wp_mono (h G0 S0 w0 G x w hm hz) λe a' w' hq=>?_);have⟨tm',S',G',hz',hq⟩:=hq;cases e with
 |normal=>exact hq G0 S0 w0 G' a' w' hm hz'
 |_=>exact⟨tm',S',G',hz',hq⟩
theorem Ag.bodyAC {P:Program} {f:FuncId} {fn:Func} {code:Code} {args:List AV} {S:List Ac} {r:AV} {S':List Ac} (hf:P.funcs[f]? =some fn) (hb:fn.body=some code) (hname:(fn.name== "runtime.NumGoroutine")=false)
 (h:AC P S.length code (args++List.replicate (fn.ntmps-args.length) .any) S λe tm S1=>(e=.ret∨e=.normal)∧A2 P S.length fn tm S1 r S'):Ag P f args S r S':=by
 refine⟨⟨fn,hf,by simp[hb],hname⟩,λG w vs hw hr=>?_⟩;refine(callsIn_wide (n:=0)).1 (callsIn_of_wp_marks hf hb trivial ?_);have hsz:vs.size=args.length:=by simpa using hr.1.symm
 have hz:Cz G S w (args++List.replicate (fn.ntmps-args.length) .any) S G {tmps:=vs++Array.replicate (fn.ntmps-vs.size) undef,defers:=[]} w:=by
  refine⟨AS.refl hw,by simp[hsz],λt x v hx hv=>?_,Jm.nil _ _,hw⟩;rw[getElem?_append]at hx;split at hx
  ·rename_i ht;simp only[Array.getElem?_append]at hv;rw[if_pos Om]at hv;exact hr.2 t x v hx (by simpa using hv)
  ·rw[getElem?_replicate]at hx;split at hx
   ·injection hx with hx;subst hx;exact .any v
   ·cases hx
 refine wpIn_wide.2 (wp_mono (h G S w G _ w rfl hz) λe a' w' hq=>?_);have⟨tm',S1,G',hz',he,hfin⟩:=hq;have key:∀(ds:List Deferred) (w':World),Cz G S w tm' S1 G' {a' with defers:=ds} w'->LeavesInM Fence.wide 0 P fn a'.tmps (λe w'=>∃v G',e=.returned v∧Bg G' r v∧AS G S w G' S' w') ds .returning w':=by
  intro ds
  induction ds with
  |nil=>
   intro w' hz';have⟨v,G'',hv,hrep,hleft⟩:=hfin G S w G' _ w' rfl hz';exact⟨v,hv,v,G'',rfl,hrep,hleft⟩
  |cons d ds ih=>
   intro w' hz';have⟨Ds,h1,h2,h3⟩:=hz'.defers;cases Ds with
   |nil=>cases h2
   |cons D Ds=>
    simp only[map_cons,List.cons.injEq]at h2;obtain⟨rfl,h2⟩:=h2;have hD:=h3 D Si;refine⟨Si,.inl ⟨D,w'.putObj D (.deferred none),rfl,run_takeDeferred hD.2,ih _ ?_⟩⟩;have hl:=hz'.left;refine⟨⟨hl.le,hl.wd.turnOut hD.2,⟨hl.kept.os,hl.kept.tape,hl.kept.output,by simpa[World.putObj]using hl.kept.size,λi hi hu=>?_⟩,hl.own,hl.still⟩,hz'.size,hz'.rep,⟨Ds,(nodup_cons.1 h1).2,h2,λD' hD'=>⟨(h3 D' (by simp[hD'])).1,?_⟩⟩,hz'.wd0⟩
    ·rw[World.putObj_heap_other Om];exact hl.kept.block i hi hu
    ·rw[World.putObj_heap_other (by rintro rfl;exact(nodup_cons.1 h1).1 hD')];exact(h3 D' (by simp[hD'])).2
 rcases he with rfl|rfl
 ·exact key a'.defers w' hz'
 ·exact key a'.defers w' hz'
noncomputable def lvA:Code:=match f5.body with|some (.seq a _)=>a|_=>.skip
noncomputable def rF:Array Oper:=match f5.body with|some (.seq _ (.seq (.region _ ops _) _))=>ops|_=>#[]
noncomputable def lvR:Code:=match f5.body with|some (.seq _ (.seq _ r))=>r|_=>.skip
def lvM:Oper:={dst:=some 8,op:=.move (.tmp 8),type:=26,pos:= "",after:=#[],guard:=none}
def lvC:C:=.seq (.reg [(none,(.load (.some 2) (.tmp 1),.some 15)),(none,(.call (.func 7) [.tmp 15],.some 16)),(none,(.mov (.tmp 16),.some 14)),(none,(.ext (.tmp 14) 0,.some 17)),(none,(.ext (.tmp 14) 1,.some 18)),(none,(.mov (.tmp 17),.some 2)),(none,(.mov (.tmp 18),.some 3))] []) (.seq (.reg [(none,(.mov (.tmp 2),.some 20)),(none,(.call (.func 15) [.tmp 20,.const (.int .u64 7)],.some 21)),(none,(.mov (.tmp 21),.some 19)),(none,(.ext (.tmp 19) 0,.some 22)),(none,(.ext (.tmp 19) 1,.some 23)),(none,(.new [.slice none 0 0,.slice none 0 0],.some 4)),(none,(.new [.int .i64 0,.int .i64 0],.some 5)),(none,(.store 2 (.tmp 4) (.tmp 22),none)),(none,(.store 2 (.tmp 5) (.tmp 23),none))] []) (.seq (.reg [(none,(.mov (.tmp 2),.some 24)),(none,(.call (.func 16) [.tmp 24],.some 25)),(none,(.mov (.tmp 25),.some 6))] []) (.seq (.reg [(none,(.mov (.tmp 3),.some 26)),(none,(.bin .eql (.tmp 26) (.const (.int .i64 0)),.some 27)),(none,(.mov (.tmp 27),.some 28)),(.some (28,.true),(.fadr 0 (.tmp 5),.some 29)),(.some (28,.true),(.load none (.tmp 29),.some 30)),(.some (28,.true),(.bin .eql (.tmp 30) (.const (.int .i64 0)),.some 31)),(none,(.pick (.tmp 28) (.tmp 31) (.const (.bool .false)),.some 32)),(none,(.mov (.tmp 32),.some 33)),(.some (33,.true),(.fadr 1 (.tmp 4),.some 34)),(.some (33,.true),(.load none (.tmp 34),.some 35)),(.some (33,.true),(.b2s (.tmp 35),.some 36)),(.some (33,.true),(.bin .eql (.tmp 36) (.const (.string (.mk (#[97,97,97,97,97,97,97,97,97,97,97,97,97,97,97,97,97,97,97,97,97,97,97,97])))),.some 37)),(none,(.pick (.tmp 33) (.tmp 37) (.const (.bool .false)),.some 38)),(none,(.mov (.tmp 38),.some 39)),(.some (39,.true),(.mov (.tmp 6),.some 40)),(.some (39,.true),(.len .false (.tmp 40),.some 41)),(.some (39,.true),(.bin .eql (.tmp 41) (.const (.int .i64 2)),.some 42)),(none,(.pick (.tmp 39) (.tmp 42) (.const (.bool .false)),.some 43)),(none,(.mov (.tmp 43),.some 44)),(.some (44,.true),(.mov (.tmp 6),.some 45)),(.some (44,.true),(.iadr 20 (.tmp 45) (.const (.int .i64 1)),.some 46)),(.some (44,.true),(.fadr 0 (.tmp 46),.some 47)),(.some (44,.true),(.load none (.tmp 47),.some 48)),(.some (44,.true),(.bin .eql (.tmp 48) (.const (.int .i64 2)),.some 49)),(none,(.pick (.tmp 44) (.tmp 49) (.const (.bool .false)),.some 50)),(none,(.mov (.tmp 50),.some 0))] []) .ret)))
def lvS:List RO:=[(none,(.mov (.tmp 8),.some 8)),(none,(.mov (.tmp 8),.some 8)),(none,(.build [.slice none 0 0,.slice none 0 0] [(1,(1,.tmp 8))],.some 9)),(none,(.bsl 2 [.tmp 9],.some 10)),(none,(.build [.int .u64 0,.int .u64 0,.slice none 0 0] [(0,(1,.const (.int .u64 1))),(1,(1,.const (.int .u64 7))),(2,(1,.tmp 10))],.some 11)),(none,(.bsl 3 [.tmp 11],.some 12)),(none,(.build [.int .u64 0,.slice none 0 0] [(0,(1,.const (.int .u64 2))),(1,(1,.tmp 12))],.some 13)),(none,(.new [.int .u64 0,.slice none 0 0],.some 1)),(none,(.store 2 (.tmp 1) (.tmp 13),none))]
def rE:f5.body=some (.seq lvA (.seq (.region 1 rF false) lvR)):=by kernel_rfl
def Ad9:AO prog lvA=some (.reg [(none,.mov (.const (.bool false)),some 0)] []):=by kernel_rfl
def Ad8:AO prog lvR=some lvC:=by kernel_rfl
def Ad7:Gs prog (lvM::lvM::rF.toList.drop 2).toArray=some lvS:=by kernel_rfl
def wL:Ha prog f5=some [.tmp 0]:=by kernel_rfl
def rD:(f5.name== "runtime.NumGoroutine")=false:=by kernel_rfl
def lvP:Array (Nat×Operand):=((List.range 24).map λi=>(i,Operand.const (.int .u8 97))).toArray
def wM:∃o0 o1,rF.toList=o0::o1::rF.toList.drop 2∧o0.op=.buildSlice 26 24 lvP∧o0.dst=some 7∧o1.op=.convert 26 26 (.tmp 7)∧o1.dst=some 8:=by
 refine⟨(rF.toList.getD 0 lvM),(rF.toList.getD 1 lvM),?_,?_,?_,?_,?_⟩<;>kernel_rfl
def kF:(rF.toList.all λo=>o.guard.isNone)=true:=by kernel_rfl
def oN:List Int:=List.replicate 24 97
def g7:GH:=⟨2,[⟨1,7,[⟨[],oN⟩]⟩]⟩
theorem Uk:C4 g7=true:=by decide
def Aby:∀b∈g7.bt,b.ok∧Dm b:=by
 intro b hb;simp only[g7,mem_singleton]at hb;subst hb;refine⟨⟨De,De,De,De,λe he=>?_⟩,⟨De,λe he=>?_,De⟩⟩
 ·simp only[mem_singleton]at he;subst he;exact⟨λx hx=>by simp at hx,λx hx=>by simp only[oN,mem_replicate]at hx;rw[hx.2];decide⟩
 ·simp only[mem_singleton]at he;subst he;exact⟨⟨Si,λx hx=>by simp at hx⟩,De⟩
theorem xA:(CB g7).length≤3000:=by decide+kernel
theorem xB:A7 (CB g7):=λx hx=>by
 have h:((CB g7).all λx=>decide (0≤x∧x<256))=true:=by kernel_rfl
 exact of_decide_eq_true (all_eq_true.1 h x hx)
theorem sC:HO (CB g7) 7=(⟨[],oN⟩,(0,0)):=by kernel_rfl
theorem xC:Kn (CB g7)=[.item (Ai ⟨3,2,0⟩).length ⟨1,7,[⟨[],oN⟩]⟩,.oth 2 (CB g7).length 0]:=by kernel_rfl
def Ke :Ct prog 5 [] [] (λ_=>bA true) [] (λ_=>[]):=by
 refine Ag.toCt ?_ cl cl
 have⟨o0,o1,q1,q2,q3,q4,q5⟩:=wM;refine Ag.bodyAC func5 rE rD ?_;rw[show f5.ntmps=51 from by kernel_rfl];refine AC.seq (IJ lvA _ Ad9 _ _ _ ?_);simp only[nil_append,length_nil,Nat.sub_zero];refine (mp ?_).1;have hg:∀o∈rF.toList,o.guard=none:=λo ho=>by
  have:=all_eq_true.1 kF o ho;simpa using this
 refine AC.seq (AC.lit (l:=oN) (rF.toList.drop 2) q1 hg q2 q3 q4 q5 De Si Si (e:=5) (by kernel_rfl) (by kernel_rfl) (by kernel_rfl) (zs:=[.int .u8 0]) (by kernel_rfl) De De (by rfl) (o:=lvM) rfl rfl rfl Ad7 ?_);simp only[lvS];refine (mp ?_).1;have hseg:=Jg g7 De Aby;have e1:F8 g7=CB g7:=by unfold F8;rw[if_pos Uk]
 have e2:NL g7=0:=by unfold NL;rw[if_pos Uk]
 rw[e1,e2]at hseg;have hb:=xB;have hl:=xA;have hlk:=GD (CB g7) 7 hb Om De;rw[sC]at hlk;have hfa:=lN (CB g7) hb Om;rw[xC]at hfa;have⟨B,hB⟩:=Ex (CB g7);rw[hB]at hseg hlk hfa;obtain⟨hd,hhd⟩:∃hd:Int,((Ai ⟨3,2,0⟩).length:Int)=hd:=⟨_,rfl⟩;rw[hhd]at hfa;have ew:DG [uA 2,.sl .full 3 [.agg [uA 1,uA 7,.sl .full 2 [.agg [.sl .full 1 [],.sl .none 1 (AU .u8 oN)]]]]] [uA 2,uP g7.bt]:=by
  refine DG.cons (Wa.refl _) (DG.cons ?_ DG.nil);refine Wa.slN (DG.cons (Wa.agg (DG.cons (Wa.refl _) (DG.cons (Wa.refl _) (DG.cons ?_ DG.nil)))) DG.nil);exact Wa.slN (DG.cons (Wa.agg (DG.cons Wa.nil (DG.cons (Wa.refl _) DG.nil))) DG.nil)
 refine AC.wk (Wk.wao 0 rfl ew) ?_;simp only[set_cons_zero];refine IJ lvR _ Ad8 _ _ _ ?_;simp only[lvC];refine (mp ?_).1;simp only[]at hlk;have hev:HZ [Ev.item hd ⟨1,7,[⟨[],oN⟩]⟩,Ev.oth 2 (B.length:Int) 0]=[uZ (Ev.item hd ⟨1,7,[⟨[],oN⟩]⟩),.agg [iA 2,iA B.length,iA 0,iA 0,uA 0,uA 0,uA 0,iA 0,iA 0,Dr,Dr,Dr,uA 0,uA 0,uA 0,uA 0,Dr,uA 0,uA 0,Dr]]:=rfl;rw[hev]at hfa;have⟨X,hX⟩:=Ex (uZ (Ev.item hd ⟨1,7,[⟨[],oN⟩]⟩));rw[hX]at hfa;refine Cp (hseg) ?_;refine Cp (hlk) ?_;have hbs:FJ (AU .u8 oN)=⟨#[97,97,97,97,97,97,97,97,97,97,97,97,97,97,97,97,97,97,97,97,97,97,97,97]⟩:=by rfl
 refine Aa.p (hfa) (mq hbs ?_).1;refine⟨by rfl,?_⟩;exact A2.finA wL []
def ev0:Ev:=.oth 0 0 0
theorem Y_ (l:List Ev) (k:Nat) (h:k<l.length):(HZ l).getD k .any=uZ (l.getD k ev0):=by simp[HZ,h]
def H9 (s:List Int):List Int->List (List Int)
 |[]=>[s]
 |n::z=>s.take n.toNat::H9 (s.drop n.toNat) z
def pcs (s z:List Int):List (List Int):=H9 s (z.take 40)
def jE:∀(z s:List Int),(H9 s z).flatten=s:=by
 intro z
 induction z with
 |nil=>intro s;simp[H9]
 |cons n z ih=>intro s;simp[H9,ih,take_append_drop]
theorem qN:∀(z s:List Int),(H9 s z).length=z.length+1:=by
 intro z
 induction z with
 |nil=>intro s;rfl
 |cons n z ih=>intro s;simp[H9,ih]
def Wt (l:List (List Int)):List AV:=l.map (Bj .u8)
theorem Ho (l:List (List Int)):(Wt l).length=l.length:=by simp[Wt]
def qO (l:List (List Int)) (k:Nat) (h:k<l.length):(Wt l).getD k .any=Bj .u8 (l.getD k []):=by simp[Wt,h]
@[simp] theorem Ady (ρ:Nat->Nat) (l:List (List Int)):(Wt l).map (λx=>x.ren ρ)=Wt l:=by simp[Wt,AD]
theorem pcA_snoc (l:List (List Int)) (x:List Int):Wt l++[Bj .u8 x]=Wt (l++[x]):=by simp[Wt]
def VC (s z:List Int) (hs:s.length≤1000000) (hz:A7 z):Ct prog 9 [Bj .u8 s,Bj .u8 z] [] (λ_=>.sl .none 1 (Wt (pcs s z))) [] (λ_=>[]):=by
 refine Ag.toCt ?_ cl cl
 have⟨X,hX⟩:=Ex (pcs s z);rw[hX];refine RN func9 b9 ?_;refine (mq @Ab ?_).1
 refine AA (α:=Nat×List Int×List (List Int)) (λa=>Bj .u8 a.2.1::Bj .u8 z::.any::.any::.any::.sl (.row 0) 1 (Wt a.2.2)::iA a.1::Az (Az [])) (λa=>[.row 1 a.2.2.length]) (λa=>a.1≤z.length∧a.1≤40∧a.2.2.length=a.1∧a.2.1.length≤1000000∧a.2.2++H9 a.2.1 ((z.take 40).drop a.1)=X) (λa=>40-a.1) (0,s,[]) ⟨Si,Si,Si,hs,by simpa[pcs]using hX⟩ ((Wk.row 5 1 rfl (.inr rfl) De).trans (Wk.to (by simp[Wt]) (by simp[B6,Wt]))) ?_;rintro⟨i,r,d⟩ ⟨h1,h2,h3,h4,h5⟩;simp only[]at h1 h2 h3 h4 h5;refine (mq @Ab ?_).1;by_cases hlt:i<z.length
 ·have q1:decide ((i:Int)<(z.length:Int))=true:=decide_eq_true Om;by_cases h40:i<40
  ·have q2:decide ((i:Int)<40)=true:=decide_eq_true Om;have ek:=Am i Om;have hzi:0≤z.getD i 0∧z.getD i 0<256:=hz _ (by simp[hlt]);have⟨n,hnn⟩:=Ex (z.getD i 0);have g:(AU .u8 z).getD i .any=Yr n:=by rw[←hnn];simpa using Qq z i Om Om
   have hd:(z.take 40).drop i=n::(z.take 40).drop (i+1):=by
    have hl:i<(z.take 40).length:=by rw[length_take];omega
    rw[drop_eq_getElem_cons hl];congr 1;rw[←hnn];simp[hlt]
   rw[hnn]at hzi;rw[hd]at h5;simp only[H9]at h5;have w1:IntKind.i64.wrap n=n:=i64_in _ Om;obtain⟨m,hm⟩:∃m:Nat,(if(r.length:Int)<n then(r.length:Int)else n)=(m:Int):=⟨(if(r.length:Int)<n then(r.length:Int)else n).toNat,by split<;>omega⟩;have hmr:m≤r.length:=by split at hm<;>omega
   have ht:r.take n.toNat=r.take m:=by
    split at hm
    ·rw[take_of_length_le Om,take_of_length_le Om]
    ·congr 1;omega
   have hdr:r.drop n.toNat=r.drop m:=by
    split at hm
    ·rw[drop_eq_nil_of_le Om,drop_eq_nil_of_le Om]
    ·congr 1;omega
   rw[ht,hdr]at h5;simp only[go_sem,seval,q1,q2,g,Ab,Int.toNat_natCast,w1,hm,Dh,Ep,pcA_snoc,Ho,ek];refine (AZ ?_).1;refine⟨Om,Om,Om,Om,Om,Om,Om,(i+1,r.drop m,d++[r.take m]),⟨by simp only[];omega,by simp only[];omega,by simp[h3],by simp only[length_drop];omega,by simp only[append_assoc,singleton_append];exact h5⟩,by simp only[];omega,?_⟩;exact Wk.sel [0] Si rfl Si rfl (by simp[AD]) (by simp[Ch,AD,AH,AI])
  ·have q2:decide ((i:Int)<40)=false:=decide_eq_false Om;have e:(z.take 40).drop i=[]:=drop_eq_nil_of_le (by rw[length_take];omega);rw[e]at h5;simp only[H9]at h5;refine (mr q1 q2 ?_).1;(repeat((with_reducible refine And.intro ?_ ?_);(·first|exact sd|(simp[Ab,BK,AV.parts,Ho];done)|(simp[Ab,BK,AV.parts,Ho];omega))));refine (mr pcA_snoc h5 ?_).1;refine UT 4 ?_;exact FA b9 []
 ·have q1:decide ((i:Int)<(z.length:Int))=false:=decide_eq_false Om;have e:(z.take 40).drop i=[]:=drop_eq_nil_of_le (by rw[length_take];omega);rw[e]at h5;simp only[H9]at h5;refine (mq q1 ?_).1;(repeat((with_reducible refine And.intro ?_ ?_);(·first|exact sd|(simp[Ab,BK,AV.parts,Ho];done)|(simp[Ab,BK,AV.parts,Ho];omega))));refine (mr pcA_snoc h5 ?_).1;refine UT 4 ?_;exact FA b9 []
structure Sm (d k:Nat) (s t:RS):Prop where
 l:t.l=(s.l.drop d).take k
 n:d+k≤s.l.length
 at_:s.at_=t.at_+d
 a0:0≤t.at_
 a1:t.at_≤k
 code:t.code=s.code
 fat:s.code≠0->s.fat=t.fat+d
 c1:s.code≠1
structure Sho (d k:Nat) (s t:RS):Prop where
 l:t.l=(s.l.drop d).take k
 n:d+k≤s.l.length
 code:t.code=1
 fat:t.fat=k
 all:d+k=s.l.length->s.code=1∧s.fat=s.l.length
def Pv (d k:Nat) {β:Type} (r q:RS×β):Prop:=Sho d k r.1 q.1∨(Sm d k r.1 q.1∧q.2=r.2)
theorem Sm.len {d k:Nat} {s t:RS} (h:Sm d k s t):t.l.length=k:=by rw[h.l,length_take,length_drop];have:=h.n;omega
theorem Sho.len {d k:Nat} {s t:RS} (h:Sho d k s t):t.l.length=k:=by rw[h.l,length_take,length_drop];have:=h.n;omega
theorem Sm.new {s:RS} {d k:Nat} (hc:s.code=0) (ha:s.at_=d) (hn:d+k≤s.l.length):Sm d k s (RS.new ((s.l.drop d).take k)):=
 ⟨rfl,hn,by rw[ha];show(d:Int)=0+d;omega,Int.le_refl 0,by show(0:Int)≤k;omega,hc.symm,λh=>absurd hc h,by rw[hc];decide⟩
theorem Sm.fail {d k:Nat} {s t:RS} (h:Sm d k s t) {c a b:Int} (hc:c≠1) (h0:c≠0) (ha:a=b+d):Sm d k (s.fail c a) (t.fail c b):=by
 unfold RS.fail;rw[h.code];split
 ·refine⟨h.l,h.n,h.at_,h.a0,h.a1,?_,λ_=>?_,?_⟩
  ·simp[Cd,h0]
  ·simp[Cd,h0,ha]
  ·simp[Cd,h0,hc]
 ·exact h
theorem Sho.to {d k:Nat} {s t s' t':RS} (h:Sho d k s t) (hs:s'.l=s.l) (h1:s.code≠0->s'=s) (h2:t.code≠0->t'=t):Sho d k s' t':=by
 have e:=h2 (by rw[h.code];decide);subst e;refine⟨by rw[hs];exact h.l,by rw[hs];exact h.n,h.code,h.fat,λha=>?_⟩;rw[hs]at ha;have h3:=h.all ha;have:=h1 (by rw[h3.1];decide);rw[this];exact h3
structure Rd1 {β:Type} (f:RS->RS×β):Prop where
 stay:∀s,s.code≠0->(f s).1=s
 l:∀s,(f s).1.l=s.l
 px:∀{d k:Nat} {s t:RS},Sm d k s t->A7 s.l->Pv d k (f s) (f t)
theorem Rd1.bind {β γ:Type} {f:RS->RS×β} {g:β->RS->RS×γ} (hf:Rd1 f) (hg:∀b,Rd1 (g b)):Rd1 (λs=>g (f s).2 (f s).1) where
 stay s h:=by
  have e:=hf.stay s h;show(g (f s).2 (f s).1).1=s;rw[(hg _).stay _ (by rw[e];exact h),e]
 l s:=((hg _).l _).trans (hf.l s)
 px {d k s t} h hb:=by
  rcases hf.px h hb with h1|⟨h1,h2⟩
  ·exact .inl (h1.to ((hg _).l _) (λhh=>(hg _).stay _ hh) (λhh=>(hg _).stay _ hh))
  ·show Pv d k (g (f s).2 (f s).1) (g (f t).2 (f t).1);rw[h2];exact(hg _).px h1 (by rw[hf.l];exact hb)
theorem Rd1.map {β γ:Type} {f:RS->RS×β} (hf:Rd1 f) (g:β->γ):Rd1 (λs=>((f s).1,g (f s).2)) where
 stay s h:=hf.stay s h
 l s:=hf.l s
 px h hb:=by
  rcases hf.px h hb with h1|⟨h1,h2⟩
  ·exact .inl h1
  ·exact .inr ⟨h1,by show g _=g _;rw[h2]⟩
theorem XG {s:PS} (h:s.ended≠0) (l:List Int):s.feed l=s:=by
 cases l with
 |nil=>rfl
 |cons c l=>rw[PS.feed,if_neg h]
def PS.pre (X:List Ev) (s:PS):PS:={s with out:=X++s.out}
theorem aM (X:List Ev) (s:PS) (p:List Int):(s.pre X).takes p=(((s.takes p).1.1.pre X,(s.takes p).1.2),(s.takes p).2):=by
 unfold PS.takes;split
 ·unfold PS.batch;split
  ·have e:(s.pre X).batC ((RS.new p).byte.1.btch RS.blk).2=s.batC ((RS.new p).byte.1.btch RS.blk).2:=rfl;rw[e];split
   ·have e2:(s.pre X).bat ((RS.new p).byte.1.btch RS.blk).2=(s.bat ((RS.new p).byte.1.btch RS.blk).2).pre X:=by simp[PS.pre,PS.bat,append_assoc]
    rw[e2]
   ·rfl
  ·rfl
 ·split
  ·unfold PS.index;split
   ·have e:(s.pre X).ms=s.ms:=rfl;rw[e];split<;>rfl
   ·rfl
  ·rfl
theorem i8 (X:List Ev) (s:PS):(s.pre X).step=(s.step.1.pre X,s.step.2):=by
 have hb:(s.pre X).buf=s.buf:=rfl;have hp:(s.pre X).ph=s.ph:=rfl;unfold PS.step;rw[hp];split
 ·unfold PS.header;rw[hb]
  repeat' split
  all_goals rfl
 ·unfold PS.record;rw[hb];split
  ·rw[aM];simp only[];split<;>rfl
  ·rfl
 ·unfold PS.footer;rw[hb,show(s.pre X).want=s.want from rfl]
  repeat' split
  all_goals rfl
 ·unfold PS.trailer;rw[hb,show(s.pre X).foot=s.foot from rfl]
  repeat' split
  all_goals rfl
 ·rfl
theorem qL (X:List Ev) (s:PS) (c:Int):(s.pre X).one c=(s.one c).pre X:=by
 have e:(s.pre X).add c=(s.add c).pre X:=rfl;unfold PS.one;rw[e,i8];unfold PS.fin;simp only[];split
 ·split<;>rfl
 ·simp[PS.pre,append_assoc]
def jA (X:List Ev):∀(l:List Int) (s:PS),(s.pre X).feed l=(s.feed l).pre X:=by
 intro l
 induction l with
 |nil=>intro s;rfl
 |cons c l ih=>
  intro s;rw[PS.feed,PS.feed,qL,ih,show(s.pre X).ended=s.ended from rfl];split<;>rfl
theorem lM:∀(a b:List Int) (s:PS),s.feed (a++b)=(s.feed a).feed b:=by
 intro a
 induction a with
 |nil=>intro b s;rfl
 |cons c a ih=>
  intro b s;rw[cons_append,PS.feed,PS.feed,ih];split
  ·rfl
  ·rename_i h;rw[XG h]
def PS.clr (s:PS):PS:={s with out:=[]}
def PS.many (s:PS):List (List Int)->List Ev
 |[]=>s.close.2
 |b::l=>(s.feed b).out++(s.feed b).clr.many l
theorem bM:∀(l:List (List Int)) (s:PS),s.out=[]->s.many l=(s.feed l.flatten).out++(s.feed l.flatten).close.2:=by
 intro l
 induction l with
 |nil=>intro s h;simp[PS.many,PS.feed,h]
 |cons b l ih=>
  intro s h;rw[PS.many,ih _ rfl,flatten_cons,lM];have e:s.feed b=((s.feed b).clr).pre (s.feed b).out:=by unfold PS.pre PS.clr;simp
  have e2:=jA (s.feed b).out l.flatten (s.feed b).clr;rw[←e]at e2;rw[e2];have e3:(((s.feed b).clr.feed l.flatten).pre (s.feed b).out).close.2=((s.feed b).clr.feed l.flatten).close.2:=by
   unfold PS.close;rw[show(((s.feed b).clr.feed l.flatten).pre (s.feed b).out).ended=((s.feed b).clr.feed l.flatten).ended from rfl,show(((s.feed b).clr.feed l.flatten).pre (s.feed b).out).whole=((s.feed b).clr.feed l.flatten).whole from rfl];split
   ·split<;>rfl
   ·rfl
  rw[e3,←append_assoc];rfl
def mK {s:PS} (h:CX s):CX s.clr:=by
 have:=h.f0;have:=h.f1;exact⟨h.bb,h.bl,h.f0,h.f1,h.f2,by show((0:Nat):Int)≤2*s.fed;omega,h.ml,h.ln,h.b0,h.b1,h.t0,h.t1,h.a0,h.a1,h.z0,h.z1⟩
theorem xW (l:List Bt) (x:Bt):Mf l++[Fx x]=Mf (l++[x]):=by simp[Mf]
def Nq:∀(l:List Bt) (a:Int) (i:Nat),i<l.length->∃c,(Fv a l).getD i ev0=.item c (l.getD i Cj)
 |[],a,i,h=>by simp at h
 |b::l,a,0,h=>⟨a,rfl⟩
 |b::l,a,i+1,h=>Nq l _ i (by simpa using h)
abbrev lgS (g h:GH) (s:PS) (E:List Ev):List Ac:=[.cells [uA g.ep,uP g.bt],.cells [uA h.ep,.sl (.row 2) 3 (Mf h.bt)],.row 3 h.bt.length,Oz s (Ta s 4) (QM s 5) Dr,.row 1 s.buf.length,.row 3 s.ms.length,.row 20 E.length]
theorem WY (g:GH) (z:List Int) (hg:Bts g.bt) (hz:A7 z):Ag prog 3 [Ot g,Bj .u8 z] [] (bA true) []:=by
 refine RM func3 b3 ?_
 refine Aa.p (WZ g) ?_;cases hL:Ij g.bt with
 |true=>
  refine (mp ?_).1;refine Aa.p (Ke) (mp ?_).1;exact FA b3 []
 |false=>
  have⟨L1,L2⟩:=kH hL;refine (mp ?_).1;refine AA (α:=Nat) (λk=>.any::Bj .u8 z::.ref 0 0::.any::bA false::.ref 1 0::C3 (CL (g.bt.take k)).2::iA k::Az (Az (Az (Az (Az (Az (Az (Ay [.any,.any])))))))) (λk=>[.cells [uA g.ep,uP g.bt],.cells [uA g.ep,.sl (.row 2) 3 (Mf (CL (g.bt.take k)).1)],.row 3 (CL (g.bt.take k)).1.length]) (λk=>k≤g.bt.length∧Yk k (CL (g.bt.take k))) (λk=>g.bt.length-k) 0 ⟨Si,Yk.zero⟩ ((Wk.rowObj 1 1 3 rfl rfl (.inr rfl) Om).trans ((Wk.nilk 6 2 rfl).trans (Wk.to (by simp[CL,Mf]) (by simp[B6,CL,EO])))) ?_;rintro k ⟨hk,hP⟩;refine (mq @Bc ?_).1;by_cases hlt:k<g.bt.length
  ·have q1:decide ((k:Int)<(g.bt.length:Int))=true:=decide_eq_true Om;have ek:=Am k Om;have hgt:=Ja g.bt k hlt;have hm:g.bt.getD k Cj∈g.bt:=by simp[hlt]
   have htk:g.bt.take (k+1)=g.bt.take k++[g.bt.getD k Cj]:=by rw[take_add_one];congr 1;simp[hlt]
   have hbo:=hg _ hm;have⟨c1,c2,c3⟩:=kJ (L2 _ hm);have hsn:=Pe (g.bt.take k) (g.bt.getD k Cj);rw[←htk]at hsn;obtain⟨b,hbb⟩:∃b,g.bt.getD k Cj=b:=⟨_,rfl⟩;rw[hbb]at hgt hbo c1 c2 c3 hsn;have hth:=Tj b (CL (g.bt.take k)).2 (256*k) hbo c2 c1 hP.tl Om;have hnx:=λhr=>hP.next hbo c3 hr
   rw[←hsn]at hnx;have hpl:=hP.len;have e1:Mf (CL (g.bt.take k)).1++[Fx (BG b (CL (g.bt.take k)).2).1]=Mf (CL (g.bt.take (k+1))).1:=by rw[hsn,xW]
   have e2:(CL (g.bt.take (k+1))).1.length=k+1:=by rw[hsn,length_append,hpl];rfl
   have e3:(CL (g.bt.take (k+1))).2=(BG b (CL (g.bt.take k)).2).2:=by rw[hsn]
   obtain⟨P,hPe⟩:∃P,CL (g.bt.take k)=P:=⟨_,rfl⟩;rw[hPe]at hth hpl e1 e3;rw[hPe];refine (mt q1 hgt @Bc @Int.toNat_natCast ?_).1;(repeat with_reducible refine Sa ?_);cases hO:Mr b P.2 with
   |false=>
    rw[show Qv b P.2=.tup [Fx Cj,C3 [],iA 3] by unfold Qv;rw[hO];rfl]at hth;refine Aa.p (hth) (mp ?_).1;refine Aa.p (Ke) (mp ?_).1;exact FA b3 []
   |true=>
    rw[show Qv b P.2=.tup [Fx (BG b P.2).1,C3 (BG b P.2).2,iA 0] by unfold Qv;rw[hO];rfl]at hth;have hr:Bw (A3 b)=true:=by unfold Mr at hO;simp only[Bool.and_eq_true]at hO;exact hO.1.1
    have hn:=hnx hr;refine Aa.p (hth) (mt e1 @Bc hpl ek ?_).1;(repeat with_reducible refine Sa ?_);refine⟨k+1,⟨hlt,hn⟩,Om,?_⟩;rw[e2,e3];exact Wk.sel [0,1,2] Si rfl Si rfl (by simp[AD,AH,IS]) (by simp[Ch,AD,AH,DM,AI])
  ·have q1:decide ((k:Int)<(g.bt.length:Int))=false:=decide_eq_false Om;have hke:g.bt.take k=g.bt:=take_of_length_le Om;rw[hke]at hP;rw[hke];have hbt:∀b∈(CL g.bt).1,b.ok∧Dm b:=λb hb=>⟨(hP.bt b hb).1,(hP.bt b hb).2.1⟩
   have hsb:=Jg ⟨g.ep,(CL g.bt).1⟩ (by rw[hP.len];omega) hbt;cases hr:C4 ⟨g.ep,(CL g.bt).1⟩with
   |false=>
    rw[show F8 ⟨g.ep,(CL g.bt).1⟩=[] by unfold F8;rw[hr];rfl,show NL ⟨g.ep,(CL g.bt).1⟩=3 by unfold NL;rw[hr];rfl]at hsb;refine (mq q1 ?_).1;refine Aa.p (hsb) (mp ?_).1;refine Aa.p (Ke) (mp ?_).1;exact FA b3 []
   |true=>
    have hW:nZ ⟨g.ep,(CL g.bt).1⟩:=⟨hr,hbt⟩;have hsl:=pT hW (λb hb=>(hP.bt b hb).2.2);have hbs:=iK hW;have hfo:=bQ hW;have hao:=uI (VX hW);rw[show F8 ⟨g.ep,(CL g.bt).1⟩=CB ⟨g.ep,(CL g.bt).1⟩ by unfold F8;rw[hr];rfl,show NL ⟨g.ep,(CL g.bt).1⟩=0 by unfold NL;rw[hr];rfl]at hsb;obtain⟨s,hs⟩:∃s,CB ⟨g.ep,(CL g.bt).1⟩=s:=⟨_,rfl⟩;rw[hs]at hsl hbs hfo hao hsb;have hpi:=VC s z Om hz;obtain⟨M,hM⟩:∃M,CL g.bt=M:=⟨_,rfl⟩;rw[hM]at hbt hsb hfo hao hP;rw[hM];have hMl:=hP.len;obtain⟨P,hPe⟩:∃P,pcs s z=P:=⟨_,rfl⟩;rw[hPe]at hpi;refine (mq q1 ?_).1;refine Aa.p (hsb) (mp ?_).1;refine Aa.n (UB) (mp ?_).1;refine Aa.p (hpi) (mq @Ho ?_).1;have hfl:P.flatten=s:=by rw[←hPe];exact jE _ _
    have h0:Ga.many P=Kn s:=by rw[bM P Ga rfl,hfl];rfl
    obtain⟨V,hV⟩:∃V,Kn s=V:=⟨_,rfl⟩;have hPl:P.length≤41:=by rw[←hPe];unfold pcs;rw[qN,length_take];omega
    have hPb:∀b∈P,A7 b:=λb hbm x hx=>hbs x (by rw[←hfl];exact mem_flatten.2 ⟨b,hbm,hx⟩)
    have hVo:V=Fv (Ai ⟨3,g.ep,0⟩).length M.1++[.oth 2 s.length 0]:=by rw[←hV];exact hao
    have hVl:V.length=M.1.length+1:=by rw[hVo,length_append,E8];rfl
    rw[hV]at h0;refine AA (α:=Nat×PS×List Ev) (λa=>Ay (.any::.ref 1 0::.any::.any::.any::.any::.any::Bj .u8 s::.any::.ref 3 0::.sl (.row 6) 20 (HZ a.2.2)::Az (Az (Az (.sl .none 1 (Wt P)::iA P.length::iA a.1::Az (Az (Az (Ay (Ay (Ay [])))))))))) (λa=>lgS g ⟨g.ep,M.1⟩ a.2.1 a.2.2) (λa=>a.1≤P.length∧CX a.2.1∧a.2.1.out=[]∧a.2.1.fed+((P.drop a.1).flatten).length≤1000000∧a.2.2++a.2.1.many (P.drop a.1)=V) (λa=>P.length-a.1) (0,Ga,[]) ⟨Si,Wn,rfl,by simp only[drop_zero];rw[hfl];show(0:Int)+_≤_;omega,by simpa using h0⟩
     ((Wk.rowObj 3 1 1 rfl rfl (.inr rfl) Om).trans ((Wk.rowObj 3 9 3 rfl rfl (.inr rfl) Om).trans ((Wk.row 14 20 rfl (.inr rfl) De).trans (Wk.to (by simp[lgS,Ga,HZ,HY,JG]) (by simp[B6,HZ]))))) ?_
    rintro⟨i,u,E⟩ ⟨i1,i2,i3,i4,i5⟩;simp only[]at i1 i2 i3 i4 i5;refine (mp ?_).1;by_cases hlt:i<P.length
    ·have q1:decide ((i:Int)<(P.length:Int))=true:=decide_eq_true Om;have ek:=Am i Om;have hg:=qO P i hlt;have hbm:P.getD i []∈P:=by simp[hlt]
     have hdr:P.drop i=P.getD i []::P.drop (i+1):=by rw[drop_eq_getElem_cons hlt];simp[hlt]
     have hbb:=hPb _ hbm;obtain⟨b,hbe⟩:∃b,P.getD i []=b:=⟨_,rfl⟩;rw[hbe]at hg hdr hbb;rw[hdr]at i4 i5;rw[flatten_cons,length_append]at i4;rw[PS.many]at i5;have hct:=NI u b i2 i3 hbb Om 3 4 5 De;have hfs:=P0 b u none;have⟨fk,fn⟩:=Y8 b u i2 hbb Om;obtain⟨⟨F,st⟩,hF⟩:∃F,u.feedS b none=F:=⟨_,rfl⟩;rw[hF]at hct hfs;simp only[]at hct hfs;rw[←hfs]at fk fn i5;have hlen:=congrArg List.length i5;rw[length_append,length_append]at hlen;refine (mt q1 hg @Ho @Int.toNat_natCast ?_).1;(repeat with_reducible refine Sa ?_);refine Aa.ofN hct Si (by simp[oJ]) ?_;cases st with
     |none=>
      simp only[i6,oJ,Option.getD_none,Option.isSome_none,Bool.false_eq_true,if_false];refine (ms @BY @Ej ek ?_).1;refine⟨Om,(i+1,F.clr,E++F.out),⟨hlt,mK fk,rfl,by show F.fed+_≤_;simp only[];omega,by simp only[append_assoc];exact i5⟩,by simp only[];omega,?_⟩;exact Wk.sel [0,1,2,3,4,5,6] Si rfl Si rfl (by simp[AD,Aq,Av,Au,IS,PS.clr,AH]) (by simp[Ch,AD,AH,AI])
     |some m=>
      simp only[i6,oJ,Option.getD_some,Option.isSome_some,if_true];refine (ms @BY @Ej ek ?_).1;refine⟨Om,(i+1,F.clr,E++F.out),⟨hlt,mK fk,rfl,by show F.fed+_≤_;simp only[];omega,by simp only[append_assoc];exact i5⟩,by simp only[];omega,?_⟩;exact Wk.sel [0,1,2,3,8,5,6] Si rfl Si rfl (by simp[AD,Aq,Av,Au,IS,PS.clr,AH]) (by simp[Ch,AD,AH,AI])
    ·have q1:decide ((i:Int)<(P.length:Int))=false:=decide_eq_false Om;have e0:P.drop i=[]:=drop_eq_nil_of_le Om;rw[e0]at i5;simp only[PS.many]at i5;have hlen:=congrArg List.length i5;rw[length_append]at hlen;have hcl:=JJ u i2 3 4 5 De;obtain⟨O,hO⟩:∃O:Ac,(if u.ended=0 then Oz u.close.1 Dr (QM u 5) Dr else Oz u (Ta u 4) (QM u 5) Dr)=O:=⟨_,rfl⟩;unfold oK at hcl;rw[hO]at hcl;have hvm:IntKind.i64.wrap ((M.1.length:Int)+1)=((M.1.length+1:Nat):Int):=Am _ Om;have hve:((V.length:Int) != ((M.1.length+1:Nat):Int))=false:=by rw[hVl];simp
     have hvk:(HZ V).getD M.1.length .any=.agg [iA 2,iA s.length,iA 0,iA 0,uA 0,uA 0,uA 0,iA 0,iA 0,Dr,Dr,Dr,uA 0,uA 0,uA 0,uA 0,Dr,uA 0,uA 0,Dr]:=by
      rw[Y_ V _ Om,hVo,getD_eq_getElem?_getD,getElem?_append_right (by rw[E8];omega),E8,Nat.sub_self];rfl
     refine (mq q1 ?_).1;refine Aa.us hcl rfl rfl (ms @BY @Ej i5 ?_).1;refine⟨Om,?_⟩;simp only[go_sem,seval,BY,Bc,hvm,hve,hvk,Int.toNat_natCast];refine (AZ ?_).1;(repeat with_reducible refine Sa ?_);refine AA (α:=Nat) (λj=>Ay (.any::.ref 1 0::.any::.any::.any::.any::.any::Bj .u8 s::.any::.any::.sl .none 20 (HZ V)::.any::.any::iA j::Az (Az (Az (Az (Az (Az (Ay (Ay (Ay [])))))))))) (λ_=>[.cells [uA g.ep,uP g.bt],.cells [uA g.ep,.sl (.row 2) 3 (Mf M.1)],.row 3 M.1.length]) (λj=>j≤M.1.length) (λj=>M.1.length-j) 0 Si ((Wk.untag 14 rfl).trans (Wk.sel [0,1,2] Si rfl Si rfl (by simp[AD,AH,IS]) (by simp[Ch,AD,AH,IR,AI,Fr]))) ?_;intro j hj;refine (mq @Bc ?_).1;by_cases hjl:j<M.1.length
     ·have q2:decide ((j:Int)<(M.1.length:Int))=true:=decide_eq_true Om;have ej:=Am j Om;have hbg:=Ja M.1 j hjl;have hbm:M.1.getD j Cj∈M.1:=by simp[hjl]
      have⟨c,hc⟩:=Nq M.1 (Ai ⟨3,g.ep,0⟩).length j hjl;have hvj:(HZ V).getD j .any=uZ (.item c (M.1.getD j Cj)):=by
       rw[Y_ V _ Om,hVo,getD_eq_getElem?_getD,getElem?_append_left (by rw[E8];omega),←getD_eq_getElem?_getD,hc]
      obtain⟨b,hbe⟩:∃b,M.1.getD j Cj=b:=⟨_,rfl⟩;rw[hbe]at hbg hbm hvj;simp only[uZ]at hvj;have⟨o1,o2⟩:=hbt _ hbm;have hsm:=Wb b b o2 o1.en o1.en;rw[show Jr b b=true from(MI b b).2 rfl]at hsm;have hfd:=ZG s b hbs Om (hfo b hbm);simp only[go_sem,seval,q2,hbg,hvj,Bc,BY,Int.toNat_natCast];refine (AZ ?_).1;(repeat with_reducible refine Sa ?_);refine Aa.p (hsm) (ms hbg @Bc @Int.toNat_natCast ?_).1;(repeat with_reducible refine Sa ?_);refine Aa.p (hfd) (mq ej ?_).1;exact⟨j+1,hjl,Om,Wk.to Si (by simp[B6])⟩
     ·have q2:decide ((j:Int)<(M.1.length:Int))=false:=decide_eq_false Om;refine (mq q2 ?_).1;refine Aa.p (Ke) (mp ?_).1;exact FA b3 []
end Go.Proofs.YtaajkppmibfgfaaGreat
