/- Lemmas for TopAgree, part 1. -/
import Derived.Test.YtaajkppmibfgfabGreatB0
import Derived.Laws.StructEq
import Derived.KernelRfl
import Derived.IntWalk
set_option linter.all false
set_option maxRecDepth 100000
set_option maxHeartbeats 4000000
universe u v
namespace Go.Proofs.YtaajkppmibfgfabGreat
open Go.RowKit List
def Ie (b:Int) (acc:List Int):Int:=acc.getLastD b
def WN (b:Int) (acc:List Int) (x:Int):Ie b (acc++[x])=x:=by simp[Ie]
def yN (b:Int) (acc:List Int) (h:0<acc.length):Ie b acc=acc.getD (acc.length-1) 0:=by
 rcases eq_nil_or_concat acc with rfl|⟨l,x,rfl⟩
 ·simp at h
 ·simp[Ie]
def Pt (b:Int) (l:List Int) (i:Nat) (h:i≤l.length):Ie b (l.take i)=if i=0 then b else l.getD (i-1) 0:=by
 split
 ·rename_i h0;subst h0;rfl
 ·rw[yN _ _ (by simp;omega)];have:(l.take i).length=i:=by simp;omega
  rw[this];simp[show i-1<i from by omega]
def LZ (b:Int) (acc:List Int) (x:Int):Prop:=0≤x∧x<Ie b acc
def Df (b:Int):DH Int:=
 ⟨λs acc=>if s.vint.1.code=0∧Ie b acc≤s.vint.2 then(s.vint.1.fail 13 s.at_,0)else(s.vint.1,Ie b acc-1-s.vint.2),λacc x=>vb (Ie b acc-1-x),LZ b⟩
def NA {b:Int} {acc:List Int} (h:Wf (LZ b) [] acc):Ie b acc≤b:=by
 have gen:∀n,∀acc:List Int,acc.length=n->Wf (LZ b) [] acc->Ie b acc≤b:=by
  intro n
  induction n with
  |zero=>intro acc h _;rw[eq_nil_of_length_eq_zero h];exact Int.le_refl _
  |succ n ih=>
   intro acc h hw;rcases eq_nil_or_concat acc with rfl|⟨l,x,rfl⟩
   ·simp at h
   ·rw[concat_eq_append]at h hw ⊢;have⟨h1,h2⟩:=CO.1 hw;have:=ih l (by simpa using h) h1;rw[WN];have h3:x<Ie b ([]++l):=h2.2;simp only[nil_append]at h3;omega
 exact gen _ acc rfl h
def BF {s:RS} (c a:Int) (h:s.code=0) (hc:c≠0):¬(s.fail c a).code=0:=by
 unfold RS.fail;rw[if_pos h];simp[BB,hc]
def Lf {b:Int} (hb:b<18446744073709551616):(Df b).Ok:=by
 refine⟨λs acc h _=>?_,λs acc h hw hc=>?_,λs acc x r h hc hw hx hr=>?_,λacc x hw hx=>?_⟩
 ·have⟨a,c⟩:=h.vint;simp only[Df];split
  ·exact⟨a.fail _ _,by rw[AY];exact c⟩
  ·exact⟨a,c⟩
 ·simp only[Df]at hc ⊢;by_cases hf:s.vint.1.code=0∧Ie b acc≤s.vint.2
  ·rw[if_pos hf]at hc;exact absurd hc (BF _ _ hf.1 De)
  ·rw[if_neg hf]at hc ⊢;have⟨v1,v2,v3⟩:=B8 h hc;have ha:=DT h hc;have hv:=A8 (s:=s) h.bys;have hlt:s.vint.2<Ie b acc:=by
    rcases Int.lt_or_le s.vint.2 (Ie b acc)with h1|h1
    ·exact h1
    ·exact absurd ⟨hc,h1⟩ hf
   have e:Ie b acc-1-(Ie b acc-1-s.vint.2)=s.vint.2:=Om
   refine⟨v3,⟨by simp only;omega,by simp only;omega⟩,by simp only;omega,?_⟩;simp only;rw[e];exact v1
 ·have hle:=NA hw;have⟨x0,x1⟩:=hx;simp only[Df]at hr ⊢;have hv:=Fc hc Om Om hr;rw[hv];simp only;rw[if_neg Om];simp only[Prod.mk.injEq,true_and];omega
 ·have hle:=NA hw;have⟨x0,x1⟩:=hx;exact B6 Om Om
def Cs (b:Int) (l:List Int):Bool:=(List.range l.length).all λi=>decide (l.getD i 0<if i=0 then b else l.getD (i-1) 0)
def Jp {b:Int} {l:List Int}:Cs b l=true↔∀i,i<l.length->l.getD i 0<if i=0 then b else l.getD (i-1) 0:=by
 unfold Cs;simp only[all_eq_true,mem_range,decide_eq_true_eq]
def iF {b:Int} {l:List Int} {i:Nat} (hi:i<l.length) (h:(if i=0 then b else l.getD (i-1) 0)≤l.getD i 0):Cs b l=false:=by
 cases hr:Cs b l with
 |false=>rfl
 |true=>have:=Jp.1 hr i hi;omega
def Wn {b:Int} {l:List Int} (hl:H2 l):Cs b l=true↔Wf (LZ b) [] l:=by
 rw[Jp];constructor
 ·intro h;refine Uc λk hk=>?_
  have h1:=h k hk;have h2:=hl _ (CU l k hk);simp only[nil_append];unfold LZ;rw[Pt b l k Om];have e:l.getD k 0=l[k]:=by simp[hk]
  rw[e]at h1 h2;exact⟨h2.1,h1⟩
 ·intro h i hi;have:=C5 i hi h;simp only[nil_append]at this;unfold LZ at this;rw[Pt b l i Om]at this;have e:l.getD i 0=l[i]:=by simp[hi]
  rw[e];exact this.2
def dst (b:Int) (l:List Int) (i:Nat):Int:=(if i=0 then b else l.getD (i-1) 0)-1-l.getD i 0
def Dm (b:Int) (l:List Int) (k:Nat):List Int:=(List.range k).map (dst b l)
def Jx (b:Int) (l:List Int) (k:Nat):Dm b l (k+1)=Dm b l k++[dst b l k]:=by simp[Dm,range_succ]
def DY (b:Int) (l:List Int) (k:Nat):(Dm b l k).length=k:=by simp[Dm]
def Wx (b:Int) (l:List Int) (n k:Nat) (h:k<n):(Dm b l n).getD k 0=dst b l k:=by simp[Dm,h]
def L5 {b:Int} {l:List Int} (hb:b<18446744073709551616) (hl:H2 l) (hf:Cs b l=true) {i:Nat} (hi:i<l.length):0≤dst b l i∧dst b l i<18446744073709551616:=by
 have h1:=Jp.1 hf i hi;have h2:=hl _ (CU l i hi);unfold dst;split at h1
 ·rename_i h0;rw[if_pos h0];omega
 ·rename_i h0;rw[if_neg h0];have:=hl _ (CU l (i-1) Om);omega
def qA {b:Int} {l:List Int} (hb:b<18446744073709551616) (hl:H2 l) (hf:Cs b l=true) {k:Nat} (hk:k≤l.length):H2 (Dm b l k):=by
 intro x hx;simp only[Dm,mem_map,mem_range]at hx;obtain⟨i,hi,rfl⟩:=hx;exact L5 hb hl hf Om
def RI {b:Int} {l:List Int}:Bo (Df b).enc [] l=JW (Dm b l l.length):=by
 have gen:∀k,k≤l.length->Bo (Df b).enc [] (l.take k)=JW (Dm b l k):=by
  intro k
  induction k with
  |zero=>intro _;simp[Bo,Dm,JW]
  |succ k ih=>
   intro hk;rw[FO l k Om,Fsq,ih Om,Jx,Ud];congr 1;simp only[Df,nil_append];rw[Pt b l k Om];rfl
 have:=gen l.length (Nat.le_refl _);rwa[take_length]at this
def DD (b:Int) (l:List Int):List Int:=vb l.length++JW (Dm b l l.length)
def RS.fall (s:RS) (b m:Int):RS×List Int:=(Df b).counted m s
def bat (b:Int) (l:List Int) (i:Nat):Int:=if i=0 then b else l.getD (i-1) 0
def rA (b:Int) (l:List Int) (i:Nat):bat b l (i+1)=l.getD i 0:=by simp[bat]
def x8 (b:Int) (l:List Int) (i:Nat):dst b l i=bat b l i-1-l.getD i 0:=rfl
def iG {b:Int} {l:List Int}:Cs b l=true↔∀i,i<l.length->l.getD i 0<bat b l i:=Jp
def mov (l:List Int) (d:Int):List Int:=l.map λx=>x+d
structure Lk where
 st:Int
 bk:List Int
 deriving DecidableEq
def Ei:Lk:=⟨0,[]⟩
structure Lk.ok (x:Lk):Prop where
 s0:0≤x.st
 s1:x.st<18446744073709551616
 b:H2 x.bk
def PL (l:List Lk):Prop:=∀x∈l,x.ok
def H_ (acc:List Lk):Int:=(acc.getLastD ⟨-1,[]⟩).st
def v9:H_ []= -1:=rfl
def oD (acc:List Lk) (x:Lk):H_ (acc++[x])=x.st:=by simp[H_]
def aN (l:List Lk) (h:0<l.length):H_ l=(l.getD (l.length-1) Ei).st:=by
 rcases eq_nil_or_concat l with rfl|⟨l,x,rfl⟩
 ·simp at h
 ·simp[H_]
def K4 (l:List Lk) (i:Nat) (h:i≤l.length):H_ (l.take i)=if i=0 then-1 else(l.getD (i-1) Ei).st:=by
 split
 ·rename_i h0;subst h0;rfl
 ·rw[aN _ (by simp;omega)];have:(l.take i).length=i:=by simp;omega
  rw[this];simp[show i-1<i by omega]
def OE (pos:Int) (acc:List Lk) (x:Lk):Prop:=H_ acc<x.st∧x.st<18446744073709551616∧H2 x.bk∧Cs pos x.bk=true∧x.bk.length≤4
def RS.lkHead (s:RS) (acc:List Lk):RS:=if s.vint.1.code=0∧18446744073709551616≤H_ acc+1+s.vint.2 then s.vint.1.fail 13 s.at_ else s.vint.1
def Cq (pos:Int):DH Lk:=
 ⟨λs acc=>(((s.lkHead acc).fall pos 4).1,⟨H_ acc+1+s.vint.2,((s.lkHead acc).fall pos 4).2⟩),λacc x=>vb (x.st-H_ acc-1)++DD pos x.bk,OE pos⟩
def LM {pos:Int} {acc:List Lk} (h:Wf (OE pos) [] acc): -1≤H_ acc∧H_ acc<18446744073709551616:=by
 have gen:∀n,∀acc:List Lk,acc.length=n->Wf (OE pos) [] acc-> -1≤H_ acc∧H_ acc<18446744073709551616:=by
  intro n
  induction n with
  |zero=>intro acc h _;rw[eq_nil_of_length_eq_zero h];exact⟨Int.le_refl _,De⟩
  |succ n ih=>
   intro acc h hw;rcases eq_nil_or_concat acc with rfl|⟨l,x,rfl⟩
   ·simp at h
   ·rw[concat_eq_append]at h hw ⊢;have⟨h1,h2⟩:=CO.1 hw;have:=ih l (by simpa using h) h1;rw[oD];have h3:H_ ([]++l)<x.st:=h2.1;simp only[nil_append]at h3;exact⟨Om,h2.2.1⟩
 exact gen _ acc rfl h
def RH {s:RS} {b:Int} (h:Ak s) (hb:b<18446744073709551616) (m:Int):Ak (s.fall b m).1∧(s.fall b m).1.l=s.l:=Da (Lf hb) h m
def iJ {b:Int} {l:List Int} (hb:b<18446744073709551616) (hl:H2 l) (hf:Cs b l=true) (hn:l.length<18446744073709551616):AW (DD b l):=by
 unfold DD;intro y hy;rcases mem_append.1 hy with hy|hy
 ·exact B6 Om Om y hy
 ·exact tB (qA hb hl hf (Nat.le_refl _)) y hy
def Tr {s:RS} {b m:Int} (h:Ak s) (b0:0≤b) (hb:b<18446744073709551616) (hc:(s.fall b m).1.code=0):s.code=0∧H2 (s.fall b m).2∧Cs b (s.fall b m).2=true∧((s.fall b m).2.length:Int)≤m∧s.at_<(s.fall b m).1.at_∧s.l.take (s.fall b m).1.at_.toNat=s.l.take s.at_.toNat++DD b (s.fall b m).2:=by
 have⟨c1,c2,c3,c4,c5⟩:=HW (Lf hb) h hc;have hu:H2 (s.fall b m).2:=by
  intro x hx;obtain⟨i,hi,rfl⟩:=getElem_of_mem hx;have hn:=C5 i hi c1;have hw:=I7 i c1;have hl:=NA hw;simp only[nil_append]at hn;have hn1:0≤(s.fall b m).2[i]∧(s.fall b m).2[i]<Ie b ((s.fall b m).2.take i):=hn;exact⟨hn1.1,by have:Ie b ((s.fall b m).2.take i)≤b:=hl;omega⟩
 refine⟨c3,hu,(Wn hu).2 c1,c2,c5,?_⟩;have e:Bo (Df b).enc [] ((Df b).counted m s).2=JW (Dm b ((Df b).counted m s).2 ((Df b).counted m s).2.length):=RI;rw[e,append_assoc]at c4;exact c4
def pM {s:RS} {b m:Int} {l r:List Int} (h:Ak s) (hc:s.code=0) (hb:b<18446744073709551616) (hl:H2 l) (hf:Cs b l=true) (hm:(l.length:Int)≤m) (hn:l.length<18446744073709551616) (hr:s.rest=DD b l++r):s.fall b m=(s.adv ((DD b l).length:Int),l):=by
 have hw:=(Wn hl).1 hf;unfold DD at hr ⊢;rw[append_assoc]at hr;have e:Bo (Df b).enc [] l=JW (Dm b l l.length):=RI;have:=MH (Lf hb) h hc hm hw hn (r:=r) (by rw[e];exact hr);unfold RS.fall;rw[this,e,length_append];rfl
def IH {pos:Int} (p0:0≤pos) (p1:pos<18446744073709551616):(Cq pos).Ok:=by
 refine⟨λs acc h _=>?_,λs acc h hw hc=>?_,λs acc x r h hc hw hx hr=>?_,λacc x hw hx=>?_⟩
 ·have⟨a,c⟩:=h.vint;have hk:Ak (s.lkHead acc)∧(s.lkHead acc).l=s.l:=by
   unfold RS.lkHead;split
   ·exact⟨a.fail _ _,by rw[AY];exact c⟩
   ·exact⟨a,c⟩
  have hf:=RH hk.1 p1 4;exact⟨hf.1,hf.2.trans hk.2⟩
 ·have hg:=LM hw;have hv:=A8 (s:=s) h.bys;have⟨a,c⟩:=h.vint;have hkh:(s.lkHead acc).code=0∧Ak (s.lkHead acc):=by
   have hk:Ak (s.lkHead acc):=by
    unfold RS.lkHead;split
    ·exact a.fail _ _
    ·exact a
   exact⟨(Tr hk p0 p1 hc).1,hk⟩
  have hno:¬(s.vint.1.code=0∧18446744073709551616≤H_ acc+1+s.vint.2):=by
   intro hx;have:=hkh.1;unfold RS.lkHead at this;rw[if_pos hx]at this;exact absurd this (BF _ _ hx.1 De)
  have hke:s.lkHead acc=s.vint.1:=by unfold RS.lkHead;rw[if_neg hno]
  have hc':((s.lkHead acc).fall pos 4).1.code=0:=hc;rw[hke]at hkh hc';have⟨f1,f2,f3,f4,f5,f6⟩:=Tr hkh.2 p0 p1 hc';have⟨v1,v2,v3⟩:=B8 h hkh.1;have ha:=DT h hkh.1;have hlt:H_ acc+1+s.vint.2<18446744073709551616:=by
   rcases Int.lt_or_le (H_ acc+1+s.vint.2) 18446744073709551616 with h1|h1
   ·exact h1
   ·exact absurd ⟨hkh.1,h1⟩ hno
  simp only[Cq];rw[hke];refine⟨v3,⟨by simp only;omega,hlt,f2,f3,by simp only;omega⟩,Om,?_⟩;rw[c]at f6;rw[f6,v1,append_assoc];have e:H_ acc+1+s.vint.2-H_ acc-1=s.vint.2:=Om
  rw[e]
 ·have hg:=LM hw;have⟨x1,x2,x3,x4,x5⟩:=hx;simp only[Cq]at hr ⊢;rw[append_assoc]at hr;have hv:=Fc hc Om Om hr;have hok:=Cf h hr;have hke:s.lkHead acc=s.adv ((vb (x.st-H_ acc-1)).length:Int):=by
   unfold RS.lkHead;rw[hv];simp only;rw[if_neg Om]
  have hr2:(s.adv ((vb (x.st-H_ acc-1)).length:Int)).rest=DD pos x.bk++r:=by rw[BC h.at0,hr,drop_left]
  have hfo:=pM (m:=4) hok (show(s.adv ((vb (x.st-H_ acc-1)).length:Int)).code=0 from hc) p1 x3 x4 Om Om hr2;rw[hke,hfo,hv,BU];simp only[Prod.mk.injEq];refine⟨by rw[length_append];rfl,?_⟩;cases x;simp only[Lk.mk.injEq,and_true];simp only at x1;omega
 ·have hg:=LM hw;have⟨x1,x2,x3,x4,x5⟩:=hx;intro y hy;rcases mem_append.1 hy with hy|hy
  ·exact B6 Om Om y hy
  ·exact iJ p1 x3 x4 Om y hy
def ED (l:List Lk):Bool:=(List.range l.length).all λi=>decide (i=0∨(l.getD (i-1) Ei).st<(l.getD i Ei).st)
def FX {l:List Lk}:ED l=true↔∀i,i<l.length->0<i->(l.getD (i-1) Ei).st<(l.getD i Ei).st:=by
 unfold ED;rw[all_eq_true];constructor
 ·intro h i hi h0;have:=h i (mem_range.2 hi);simp only[decide_eq_true_eq]at this;omega
 ·intro h i hi;simp only[decide_eq_true_eq];rcases Nat.eq_zero_or_pos i with h0|h0
  ·exact .inl h0
  ·exact .inr (h i (mem_range.1 hi) h0)
def Ha (pos:Int) (x:Lk):Bool:=decide (x.bk.length≤4)&&Cs pos x.bk
def EU {pos:Int} {x:Lk}:Ha pos x=true↔x.bk.length≤4∧Cs pos x.bk=true:=by simp[Ha]
def BH (pos:Int) (l:List Lk):Bool:=decide (l.length≤16)&&ED l&&l.all (Ha pos)
def Dz {pos:Int} {l:List Lk}:BH pos l=true↔l.length≤16∧ED l=true∧∀x∈l,Ha pos x=true:=by
 simp[BH,and_assoc]
def EI (l:List Lk) (k:Nat) (h:k<l.length):l.getD k Ei∈l:=by simp[h]
def FQ {pos:Int} {l:List Lk} (hl:PL l):BH pos l=true↔l.length≤16∧Wf (OE pos) [] l:=by
 rw[Dz];constructor
 ·rintro⟨h1,h2,h3⟩;refine⟨h1,Uc λk hk=>?_⟩;have e:l[k]=l.getD k Ei:=by simp[hk]
  have hm:=EI l k hk;rw[e,nil_append];have⟨g1,g2⟩:=EU.1 (h3 _ hm);have ho:=hl _ hm;refine⟨?_,ho.s1,ho.b,g2,g1⟩;rw[K4 l k Om];split
  ·have:=ho.s0;omega
  ·exact FX.1 h2 k hk Om
 ·rintro⟨h1,h2⟩;have key:∀k,k<l.length->OE pos (l.take k) (l.getD k Ei):=λk hk=>by
   have:=C5 k hk h2;have e:l[k]=l.getD k Ei:=by simp[hk]
   rw[e,nil_append]at this;exact this
  refine⟨h1,FX.2 λi hi h0=>?_,λx hx=>?_⟩
  ·have:=(key i hi).1;rw[K4 l i Om,if_neg Om]at this;exact this
  ·obtain⟨i,hi,rfl⟩:=getElem_of_mem hx;have e:l[i]=l.getD i Ei:=by simp[hi]
   rw[e];have⟨_,_,_,k4,k5⟩:=key i hi;exact EU.2 ⟨k5,k4⟩
def BR (pos:Int) (l:List Lk):List Int:=vb l.length++Bo (Cq pos).enc [] l
def RS.links (s:RS) (pos:Int):RS×List Lk:=(Cq pos).counted 16 s
def Ec {s:RS} {pos:Int} (h:Ak s) (p0:0≤pos) (p1:pos<18446744073709551616):Ak (s.links pos).1∧(s.links pos).1.l=s.l:=Da (IH p0 p1) h 16
def Rn {s:RS} {pos:Int} (hc:¬(s.links pos).1.code=0):(s.links pos).2=[]:=MI 16 hc
def OC {s:RS} {pos:Int} (h:Ak s) (p0:0≤pos) (p1:pos<18446744073709551616) (hc:(s.links pos).1.code=0):s.code=0∧PL (s.links pos).2∧BH pos (s.links pos).2=true∧s.at_<(s.links pos).1.at_∧s.l.take (s.links pos).1.at_.toNat=s.l.take s.at_.toNat++BR pos (s.links pos).2:=by
 have⟨c1,c2,c3,c4,c5⟩:=HW (IH p0 p1) h hc;have hks:PL (s.links pos).2:=by
  intro x hx;obtain⟨i,hi,rfl⟩:=getElem_of_mem hx;have hn:=C5 i hi c1;have hg:=LM (I7 i c1);rw[nil_append]at hn;have⟨n1,n2,n3,n4,n5⟩:=hn;exact⟨by have: -1≤H_ ((s.links pos).2.take i):=hg.1;have n1':H_ ((s.links pos).2.take i)<((s.links pos).2[i]).st:=n1;omega,n2,n3⟩
 refine⟨c3,hks,(FQ hks).2 ⟨by have:((s.links pos).2.length:Int)≤16:=c2;omega,c1⟩,c5,?_⟩;rw[append_assoc]at c4;exact c4
def Rm {s:RS} {pos:Int} {l:List Lk} {r:List Int} (h:Ak s) (hc:s.code=0) (p0:0≤pos) (p1:pos<18446744073709551616) (hl:PL l) (hr:BH pos l=true) (hrest:s.rest=BR pos l++r):s.links pos=(s.adv ((BR pos l).length:Int),l):=by
 have⟨h1,h2⟩:=(FQ hl).1 hr;unfold BR at hrest ⊢;rw[append_assoc]at hrest;have:=MH (IH p0 p1) h hc (m:=16) Om h2 Om hrest;unfold RS.links;rw[this,length_append];rfl
def Ke {pos:Int} {l:List Lk} (p0:0≤pos) (p1:pos<18446744073709551616) (hl:PL l) (hr:BH pos l=true):AW (BR pos l):=by
 have⟨h1,h2⟩:=(FQ hl).1 hr;intro y hy;rcases mem_append.1 hy with hy|hy
 ·exact B6 Om Om y hy
 ·exact Ph (acc:=[]) (IH p0 p1) trivial h2 y hy
section
variable {P:Program}
def Tu:List Value->List Value->Bool
 | .int _ a::xs,.int _ b::ys=>(a==b)&&Tu xs ys
 |_,_=>true
def aJ (xs ys:List Value):Prop:=xs.length=ys.length∧∀(j:Nat) (u v:Value),xs[j]? =some u->ys[j]? =some v->∃k a b,u=.int k a∧v=.int k b
def aJ.tail {u v:Value} {xs ys:List Value} (h:aJ (u::xs) (v::ys)):aJ xs ys:=⟨by simpa using h.1,λj a b ha hb=>h.2 (j+1) a b (by simpa using ha) (by simpa using hb)⟩
def aJ.take {xs ys:List Value} (h:aJ xs ys) (n:Nat):aJ (xs.take n) (ys.take n):=⟨by simp[h.1],λj a b ha hb=>by
 rw[getElem?_take]at ha hb;split at ha
 ·rename_i hj;rw[if_pos hj]at hb;exact h.2 j a b ha hb
 ·cases ha⟩
def aJ.drop {xs ys:List Value} (h:aJ xs ys) (n:Nat):aJ (xs.drop n) (ys.drop n):=⟨by simp[h.1],λj a b ha hb=>by
 rw[getElem?_drop]at ha hb;exact h.2 _ a b ha hb⟩
def RK {xs ys:List Value} (h:aJ xs ys) (n:Nat):Tu xs ys=(Tu (xs.take n) (ys.take n)&&Tu (xs.drop n) (ys.drop n)):=by
 induction n generalizing xs ys with
 |zero=>simp[Tu]
 |succ n ih=>
  match xs,ys,h with
  |[],[],_=>simp[Tu]
  |u::xs,v::ys,h=>
   obtain⟨k,a,b,rfl,rfl⟩:=h.2 0 u v rfl rfl;simp only[take_succ_cons,drop_succ_cons,Tu];rw[ih h.tail,Bool.and_assoc]
  |[],_::_,h=>exact absurd h.1 Si
  |_::_,[],h=>exact absurd h.1 Si
def TR (a:Option Nat) (vs:Array Value):Value:=match a with
 |none=>vs.getD 0 undef
 |some _=>.agg vs
def E4 {t:TypeId} {a:Option Nat} {s:Nat} (ha:DZ P t=some a) (hs:FV P t=some s) (h1:a=none->s=1) (vs:Array Value) (off:Nat) (hle:off+s≤vs.size) (w:World):
 (part t vs off).run P w=.ok (TR a (vs.extract off (off+s))) w:=by
 cases a with
 |none=>
  have:=h1 rfl;subst this;have hv:vs[off]? =some vs[off]:=Array.getElem?_eq_getElem Om;simp[part,Hx ha,hv,TR,show 0<min (off+1) vs.size-off by omega]
 |some n=>
  simp[part,GJ ha,BX hs,TR]
def N1:∀(d:Nat) (t:TypeId) (n:Nat) (a:Option Nat),IQ P d t=some n->DZ P t=some a->(a=none->n=1)->∀(D:Nat) (xs ys:Array Value),d≤D->xs.size=n->ys.size=n->aJ xs.toList ys.toList->∀w:World,
 (Op.equalIn D t (TR a xs) (TR a ys)).run P w=.ok (Tu xs.toList ys.toList) w:=by
 intro d
 induction d with
 |zero=>intro t n a h;simp[IQ]at h
 |succ d ih=>
  intro t n a h ha h1 D xs ys hD hx hy hok w;obtain⟨D,rfl⟩:∃D',D=D'+1:=⟨D-1,Om⟩;simp only[IQ]at h;cases hu:P.underlying t with
  |none=>simp[hu]at h
  |some ds=>
   rw[hu]at h;cases ds with
   |int k=>
    have han:a=none:=by simpa[DZ,hu]using ha.symm
    subst han;have hn:=h1 rfl;subst hn;have⟨xl⟩:=xs;have⟨yl⟩:=ys
    match xl,yl,hx,hy with
    |[u],[v],_,_=>
     obtain⟨k',p,q,rfl,rfl⟩:=hok.2 0 u v rfl rfl;have:=run_equalIn_int (P:=P) w D t k' k p q hu;simpa[TR,Tu]using this
   |struct fs=>
    simp only at h;split at h
    ·cases h
    ·rename_i hst;have hagg:∃m,a=some m:=by
      cases a with
      |none=>have⟨d',hd',hq,_⟩:=Mc ha;rw[hu]at hd';injection hd' with e;exact(hq _ e.symm).elim
      |some m=>exact⟨m,rfl⟩
     obtain⟨m,rfl⟩:=hagg;simp only[TR];have hfo:P.fieldsOf t=fs:=by simp[Program.fieldsOf,hu]
     rw[run_equalIn_struct (P:=P) w D t xs ys (by rw[hfo];exact hu) (by simpa using hst),hfo];have key:∀(l:List Field) (off:Nat),off≤n->l.foldl (λacc f=>acc.bind λoff=>match IQ P d f.type,DZ P f.type with
      |some s,some a=>if f.name≠ "_"∧f.offset=off∧FV P f.type=some s∧(a=none->s=1)then some (off+s)else none
      |_,_=>none) (some off)=some n->(Op.eqFields D xs ys l).run P w=.ok (Tu (xs.toList.drop off) (ys.toList.drop off)) w:=by
      intro l
      induction l with
      |nil=>
       intro off hoff hl;simp at hl;subst hl;rw[drop_eq_nil_of_le (by simp;omega),drop_eq_nil_of_le (by simp;omega)];simp[Op.eqFields,Tu]
      |cons f l ihl=>
       intro off hoff hl;have hnone:∀l:List Field,l.foldl (λacc f=>acc.bind λoff=>match IQ P d f.type,DZ P f.type with
        |some s,some a=>if f.name≠ "_"∧f.offset=off∧FV P f.type=some s∧(a=none->s=1)then some (off+s)else none
        |_,_=>none) none=(none:Option Nat):=by
        intro l;induction l with
        |nil=>rfl
        |cons g l ih=>simpa using ih
       have hmono:∀(l:List Field) (o:Nat),l.foldl (λacc f=>acc.bind λoff=>match IQ P d f.type,DZ P f.type with
        |some s,some a=>if f.name≠ "_"∧f.offset=off∧FV P f.type=some s∧(a=none->s=1)then some (off+s)else none
        |_,_=>none) (some o)=some n->o≤n:=by
        intro l;induction l with
        |nil=>intro o ho;simp at ho;omega
        |cons g l ih=>
         intro o ho;simp only[foldl_cons,Option.bind_some]at ho;split at ho
         ·split at ho
          ·have:=ih _ ho;omega
          ·rw[hnone]at ho;cases ho
         ·rw[hnone]at ho;cases ho
       simp only[foldl_cons,Option.bind_some]at hl;split at hl
       ·rename_i s a' hs' ha';split at hl
        ·rename_i hc;have⟨hname,hfoff,hsz,h1'⟩:=hc;have hle:=hmono _ _ hl;subst hfoff;have e1:=E4 ha' hsz h1' xs f.offset Om w;have e2:=E4 ha' hsz h1' ys f.offset Om w;have hokp:aJ (xs.extract f.offset (f.offset+s)).toList (ys.extract f.offset (f.offset+s)).toList:=by
          simp only[Array.toList_extract,extract_eq_take_drop];exact(hok.drop _).take _
         have e3:=ih f.type s a' hs' ha' h1' D _ _ Om (by simp;omega) (by simp;omega) hokp w;have e4:=ihl _ hle hl;simp only[Op.eqFields];rw[if_pos hname];simp only[Sem.run_bind,e1,e2,e3,Result.andThen_ok];have hsp:=RK (hok.drop f.offset) s;simp only[Array.toList_extract,extract_eq_take_drop,Nat.add_sub_cancel_left]at*;rw[hsp,drop_drop,drop_drop];cases hb:Tu (List.take s (List.drop f.offset xs.toList)) (List.take s (List.drop f.offset ys.toList))
         ·simp
         ·simp[e4]
        ·rw[hnone]at hl;cases hl
       ·rw[hnone]at hl;cases hl
     have:=key fs.toList 0 (Nat.zero_le _) h;simpa using this
   |array len e=>
    simp only at h;split at h
    ·rename_i s a' hs' ha';split at h
     ·rename_i hc;have⟨hsz,h1'⟩:=hc;injection h with h;have hagg:∃m,a=some m:=by
       cases a with
       |none=>have⟨d',hd',_,hq⟩:=Mc ha;rw[hu]at hd';injection hd' with e;exact(hq _ _ e.symm).elim
       |some m=>exact⟨m,rfl⟩
      obtain⟨m,rfl⟩:=hagg;simp only[TR,Op.equalIn,Sem.run_bind,run_underlying hu,Result.andThen_ok,BX hsz];have step:∀i,i<len->(do
       let p ←part e xs (i*s)
       let q ←part e ys (i*s)
       Op.equalIn D e p q).run P w=.ok (Tu ((xs.toList.drop (i*s)).take s) ((ys.toList.drop (i*s)).take s)) w:=by
       intro i hi;have hle:i*s+s≤n:=by
        rw[←h];have:(i+1)*s≤len*s:=Nat.mul_le_mul_right _ Om;rw[Nat.add_mul]at this;omega
       have e1:=E4 ha' hsz h1' xs (i*s) Om w;have e2:=E4 ha' hsz h1' ys (i*s) Om w;have hokp:aJ (xs.extract (i*s) (i*s+s)).toList (ys.extract (i*s) (i*s+s)).toList:=by
        simp only[Array.toList_extract,extract_eq_take_drop];exact(hok.drop _).take _
       have e3:=ih e s a' hs' ha' h1' D _ _ Om (by simp;omega) (by simp;omega) hokp w;simp only[Sem.run_bind,e1,e2,e3,Result.andThen_ok];simp only[Array.toList_extract,extract_eq_take_drop,Nat.add_sub_cancel_left]
      have key:∀(r i:Nat),i+r=len->(forIn (range' i r) ((none,()):Option Bool×Unit) λi _=>do
       let p ←part e xs (i*s)
       let q ←part e ys (i*s)
       let b ←Op.equalIn D e p q
       if(!b)=true then pure (ForInStep.done ((some false,()):Option Bool×Unit))else pure (ForInStep.yield (none,()))).run P w=.ok (if Tu (xs.toList.drop (i*s)) (ys.toList.drop (i*s))then none else some false,()) w:=by
       intro r
       induction r with
       |zero=>
        intro i hi;rw[drop_eq_nil_of_le (by simp;rw[hx,←h,show i=len by omega];exact Nat.le_refl _),drop_eq_nil_of_le (by simp;rw[hy,←h,show i=len by omega];exact Nat.le_refl _)];simp[Tu]
       |succ r ihr=>
        intro i hi;have e1:=step i Om;have e2:=ihr (i+1) Om;rw[range'_succ,forIn_cons];have hsp:=RK (hok.drop (i*s)) s;rw[drop_drop,drop_drop,show i*s+s=(i+1)*s by rw[Nat.add_mul];omega]at hsp;rw[hsp];simp only[Sem.run_bind]at e1 ⊢;generalize(part e xs (i*s)).run P w=r1 at e1 ⊢;cases r1 with
        |halt x w1=>simp[Result.andThen]at e1
        |ok p w1=>
         simp only[Result.andThen_ok]at e1 ⊢;generalize(part e ys (i*s)).run P w1=r2 at e1 ⊢;cases r2 with
         |halt x w2=>simp[Result.andThen]at e1
         |ok q w2=>
          simp only[Result.andThen_ok]at e1 ⊢;rw[e1];cases Tu ((xs.toList.drop (i*s)).take s) ((ys.toList.drop (i*s)).take s)
          ·simp
          ·simpa using e2
      have e0:=key len 0 Om;simp only[Nat.zero_mul,drop_zero]at e0;rw[Std.Legacy.Range.forIn_eq_forIn_range'];simp only[Std.Legacy.Range.size,Nat.sub_zero,Nat.add_sub_cancel,Nat.div_one];rw[e0];cases Tu xs.toList ys.toList<;>simp
     ·cases h
    ·cases h
   |_=>simp at h
def xP {G:Gh}:∀{xs ys:List AV} {vs us:List Value},JK xs ys=true->Cg G xs vs->Cg G ys us->aJ vs us∧Tu vs us=Fb xs ys:=by
 intro xs
 induction xs with
 |nil=>
  intro ys vs us h r1 r2;cases ys with
  |nil=>
   have hv:vs=[]:=eq_nil_of_length_eq_zero (by simpa using r1.1.symm);have hu:us=[]:=eq_nil_of_length_eq_zero (by simpa using r2.1.symm);subst hv hu;exact⟨⟨rfl,λj u v h=>by simp at h⟩,rfl⟩
  |cons=>simp[JK]at h
 |cons x xs ih=>
  intro ys vs us h r1 r2;cases ys with
  |nil=>cases x with
   |lit v=>cases v<;>simp[JK]at h
   |_=>simp[JK]at h
  |cons y ys=>
   cases x with
   |lit v=>
    cases v with
    |int k a=>
     cases y with
     |lit v'=>
      cases v' with
      |int k' b=>
       simp only[JK,Bool.and_eq_true,beq_iff_eq]at h;obtain⟨rfl,h⟩:=h;cases vs with
       |nil=>simpa using r1.1
       |cons v vs=>
        cases us with
        |nil=>simpa using r2.1
        |cons u us=>
         have e1:=A3 (r1.2 0 _ v rfl rfl);have e2:=A3 (r2.2 0 _ u rfl rfl);subst e1 e2;have⟨h1,h2⟩:=ih (ys:=ys) (vs:=vs) (us:=us) h ⟨by simpa using r1.1,λj x v hx hv=>r1.2 (j+1) x v (by simpa using hx) (by simpa using hv)⟩ ⟨by simpa using r2.1,λj x v hx hv=>r2.2 (j+1) x v (by simpa using hx) (by simpa using hv)⟩;refine⟨⟨by simp[h1.1],λj p q hp hq=>?_⟩,by simp[Tu,Fb,h2]⟩;cases j with
         |zero=>simp at hp hq;exact⟨k,a,b,hp.symm,hq.symm⟩
         |succ j=>exact h1.2 j p q (by simpa using hp) (by simpa using hq)
      |_=>simp[JK]at h
     |_=>simp[JK]at h
    |_=>simp[JK]at h
   |_=>simp[JK]at h
def Ni {o:Oper} {ρ:Operand->AV} {S:List Ad} {K:KT} {op:BinOp} {t t':TypeId} {x y:Operand} {neg:Bool} {n m:Nat} (hop:o.op=.binOp op t x y t') (ha:DZ P t=some (some m)) (hg:P.eqGuardType P.depth t=false) (hf:IQ P 9 t=some n)
 (hn:op=if neg then .neq else .eql) (h:YH neg n (ρ x) (ρ y) K):Gf P o ρ S K:=by
 unfold YH at h;split at h
 ·rename_i xs ys hx hy;have⟨hl,hok,hK⟩:=h;refine AT (λG a w T _ hr=>⟨_,?_,.lit _⟩) hK;have rx:=hr x (by simp[hop,Op.operands]);have ry:=hr y (by simp[hop,Op.operands]);rw[hx]at rx;rw[hy]at ry;generalize e1:a.eval x=vx at rx;generalize e2:a.eval y=vy at ry;cases rx with
  | @agg _ vs h0 h2 h3=>
    cases ry with
    | @agg _ us g0 g2 g3=>
      have⟨hv,he⟩:=xP (G:=G) (vs:=vs.toList) (us:=us.toList) hok ⟨by simpa using h0,λj x v hx hv=>h3 j x v hx (by simpa using hv)⟩ ⟨by simpa using g0,λj x v hx hv=>g3 j x v hx (by simpa using hv)⟩;have hvs:vs.size=n:=by rw[←h0];exact hl
      have hus:us.size=n:=by have:=hv.1;simp at this;omega
      have heq:=N1 (P:=P) 9 t n (some m) hf ha (λh=>by cases h) 10000 vs us De hvs hus hv w;simp only[TR]at heq;have hgd:=run_eqGuard_agg (P:=P) w op t x y vs us hg;cases neg<;>simp at hn<;>subst hn<;>simp[execOp,hop,e1,e2,hgd,run_eql_struct,run_neq_struct,heq,he]
 ·exact h.elim
def Pj {o:Oper} {i:I} {ρ:Operand->AV} {S:List Ad} {K:KT} (hc:IW P o=some i) (h:B_ P i ρ S K):Gf P o ρ S K:=by
 unfold IW at hc;split at hc
 ·rename_i x hop;injection hc with hc;subst hc;exact Z0 (.inl hop) h
 ·rename_i x hop;injection hc with hc;subst hc;exact Z0 (.inr hop) h
 ·rename_i c a b hop;injection hc with hc;subst hc;exact lE hop h
 ·rename_i e hop;cases hz:EM P e with
  |none=>simp[hz]at hc
  |some zs=>simp[hz]at hc;subst hc;exact tW hop hz h
 ·rename_i e x hop;injection hc with hc;subst hc;exact uB hop h
 ·rename_i t ps hop;split at hc
  ·rename_i fs z ht hz;split at hc
   ·rename_i hfs;cases hq:M0 (λp:Nat×Operand=>(fs[p.1]?).bind λf=>(FV P f.type).map λs=>(f.offset,s,p.2)) ps.toList with
    |none=>simp[hq]at hc
    |some qs=>simp[hq]at hc;subst hc;exact LF hop ht hz hfs hq h
   ·cases hc
  ·rename_i n e z ht hz;cases hs:FV P e with
   |none=>simp[hs]at hc
   |some s=>simp[hs]at hc;subst hc;exact MX hop ht hz hs h
  ·cases hc
 ·rename_i t n ps hop;split at hc
  ·rename_i e ht;split at hc
   ·rename_i s z hs hz;split at hc
    ·rename_i hcond;injection hc with hc;subst hc;exact t9 hop ht hs hz hcond.1 hcond.2.1 hcond.2.2.1 hcond.2.2.2 h
    ·cases hc
   ·cases hc
  ·cases hc
 ·rename_i t a hop;cases hn:DZ P t with
  |none=>simp[hn]at hc
  |some n=>simp[hn]at hc;subst hc;exact lI hop hn h
 ·rename_i t a x hop;cases hn:FV P t with
  |none=>simp[hn]at hc
  |some n=>simp[hn]at hc;subst hc;exact dC hop hn h
 ·rename_i x hop;injection hc with hc;subst hc;exact tV hop h
 ·rename_i op t x y t' hop;split at hc
  ·injection hc with hc;subst hc;exact Z4 hop h
  ·injection hc with hc;subst hc;exact Z4 hop h
  ·rename_i ht;split at hc
   ·rename_i e;injection hc with hc;subst hc;exact Z3 hop ht (neg:=false) (by simpa using e) h
   ·split at hc
    ·rename_i e;injection hc with hc;subst hc;exact Z3 hop ht (neg:=true) (by simpa using e) h
    ·cases hc
  ·rename_i e ht;split at hc
   ·split at hc
    ·rename_i e;injection hc with hc;subst hc;exact Z1 hop ht (neg:=false) (by simpa using e) h
    ·split at hc
     ·rename_i e;injection hc with hc;subst hc;exact Z1 hop ht (neg:=true) (by simpa using e) h
     ·cases hc
   ·cases hc
  ·rename_i fs ht;split at hc
   ·cases hc
   ·rename_i hg;have hg':P.eqGuardType P.depth t=false:=Sx hg
    split at hc
    ·rename_i n m hf ha;split at hc
     ·rename_i e;injection hc with hc;subst hc;exact Ni hop ha hg' hf (neg:=false) (by simpa using e) h
     ·split at hc
      ·rename_i e;injection hc with hc;subst hc;exact Ni hop ha hg' hf (neg:=true) (by simpa using e) h
      ·cases hc
    ·cases hc
  ·rename_i n0 e0 ht;split at hc
   ·cases hc
   ·rename_i hg;have hg':P.eqGuardType P.depth t=false:=Sx hg
    split at hc
    ·rename_i n m hf ha;split at hc
     ·rename_i e;injection hc with hc;subst hc;exact Ni hop ha hg' hf (neg:=false) (by simpa using e) h
     ·split at hc
      ·rename_i e;injection hc with hc;subst hc;exact Ni hop ha hg' hf (neg:=true) (by simpa using e) h
      ·cases hc
    ·cases hc
  ·rename_i d1 d2 d3 ht;split at hc
   ·rename_i e;injection hc with hc;subst hc;exact Z2 hop ht (neg:=false) (by simpa using e) h
   ·split at hc
    ·rename_i e;injection hc with hc;subst hc;exact Z2 hop ht (neg:=true) (by simpa using e) h
    ·cases hc
  ·cases hc
 ·rename_i op t x hop;injection hc with hc;subst hc;exact Abd hop h
 ·rename_i src dst x hop;split at hc
  ·rename_i k0 k hs hd;injection hc with hc;subst hc;exact t8 hop hs hd h
  ·rename_i e hs hd;split at hc
   ·rename_i he;injection hc with hc;subst hc;exact uC hop hs he hd h
   ·cases hc
  ·rename_i e hs hd;split at hc
   ·rename_i he;injection hc with hc;subst hc;exact tU hop hs hd he h
   ·cases hc
  ·cases hc
 ·rename_i t x lo hi mx hop;split at hc
  ·rename_i e ht;cases hs:FV P e with
   |none=>simp[hs]at hc
   |some s=>simp[hs]at hc;subst hc;exact dD hop ht hs h
  ·rename_i ht;split at hc
   ·rename_i hm;have:mx=none:=Sx hm
    subst this;injection hc with hc;subst hc;exact lC hop ht h
   ·cases hc
  ·cases hc
 ·rename_i t x f hop;split at hc
  ·rename_i fs ht;split at hc
   ·rename_i fd hf;split at hc
    ·rename_i s hs;split at hc
     ·rename_i h1;injection hc with hc;subst hc;exact lM hop ht hf hs h1 h
     ·cases hc
    ·cases hc
   ·cases hc
  ·cases hc
 ·rename_i t x f hop;split at hc
  ·rename_i fs ht;split at hc
   ·rename_i fd hf;cases hn:DZ P fd.type with
    |none=>simp[hn]at hc
    |some n=>simp[hn]at hc;subst hc;exact t6 hop ht hf hn h
   ·cases hc
  ·cases hc
 ·rename_i t x ix hop;split at hc
  ·rename_i e ht;cases hs:FV P e with
   |none=>simp[hs]at hc
   |some s=>simp[hs]at hc;subst hc;exact lL hop ht hs h
  ·rename_i n e ht;cases hs:FV P e with
   |none=>simp[hs]at hc
   |some s=>simp[hs]at hc;subst hc;exact lQ hop ht hs h
  ·cases hc
 ·rename_i t x ix hop;split at hc
  ·rename_i n e ht;split at hc
   ·rename_i s a hs ha;injection hc with hc;subst hc;exact tZ hop ht hs ha h
   ·cases hc
  ·rename_i ht;injection hc with hc;subst hc;exact lD hop ht h
  ·cases hc
 ·rename_i x i hop;injection hc with hc;subst hc;exact t7 hop h
 ·rename_i f a b hop;injection hc with hc;subst hc;exact tX hop h
 ·rename_i t l c hop;split at hc
  ·rename_i e ht;split at hc
   ·rename_i i z hi hz;split at hc
    ·rename_i hcond;injection hc with hc;subst hc;exact lH hop ht hi hz hcond.1 hcond.2 h
    ·cases hc
   ·cases hc
  ·cases hc
 ·rename_i t hop;injection hc with hc;subst hc;exact dF hop h
 ·rename_i t x k hop;split at hc
  ·rename_i kt e ht;split at hc
   ·rename_i hk he;injection hc with hc;subst hc;exact dE hop ht hk he h
   ·cases hc
  ·cases hc
 ·rename_i t x k v hop;split at hc
  ·rename_i kt e ht;split at hc
   ·rename_i hk;injection hc with hc;subst hc;exact lG hop ht hk h
   ·cases hc
  ·cases hc
 ·rename_i c hop;split at hc
  ·rename_i f hcal;injection hc with hc;subst hc;exact lN hop hcal h
  ·rename_i hcal;split at hc
   ·rename_i t t' s x hat ha;split at hc
    ·rename_i e ht;split at hc
     ·rename_i i z hi hz;split at hc
      ·rename_i hcond;obtain⟨rfl,h1,h2,h3⟩:=hcond;injection hc with hc;subst hc;exact uD hop hcal ha hat ht hi hz h1 h2 h3 h
      ·cases hc
     ·cases hc
    ·cases hc
   ·cases hc
  ·rename_i hcal;split at hc
   ·rename_i t x hat ha;split at hc
    ·rename_i e ht;injection hc with hc;subst hc;exact tY hop hcal ha hat ht h
    ·rename_i ht;injection hc with hc;subst hc;exact lJ hop hcal ha hat ht h
    ·rename_i n e ht;injection hc with hc;subst hc;exact lK hop hcal ha hat ht h
    ·cases hc
   ·cases hc
  ·rename_i hcal;split at hc
   ·rename_i x y ha;injection hc with hc;subst hc;exact lF (isMax:=true) (_t:=0) hop hcal ha h
   ·cases hc
  ·rename_i hcal;split at hc
   ·rename_i x y ha;injection hc with hc;subst hc;exact lF (isMax:=false) (_t:=0) hop hcal ha h
   ·cases hc
  ·cases hc
 ·cases hc
end
def tch:I->Bool
 | .new _| .box _| .load _ _| .store _ _ _| .call _ _| .app _ _ _ _| .mksl _ _ _ _| .mkmap| .mlook _ _| .mput _ _ _=>true
 |_=>false
def iZ {P:Program} {i:I} {ρ:Operand->AV} {S:List Ad} {K:KT} (ht:tch i=false) (h:B_ P i ρ S K):B_ P i ρ S (λv rd upd new=>(rd=[]∧upd=[]∧new=[])∧K v rd upd new):=by
 cases i<;>simp only[tch,Bool.true_eq_false]at ht<;>clear ht<;>dsimp only[B_]at h ⊢
 case mov=>exact⟨⟨by trivial,by trivial,by trivial⟩,h⟩
 case pick=>unfold OM at h ⊢;split at h<;>simp_all
 case build=>unfold HM at h ⊢;split at h<;>simp_all
 case bsl=>exact⟨h.1,⟨by trivial,by trivial,by trivial⟩,h.2⟩
 case nilc=>unfold S3 at h ⊢;split at h<;>simp_all
 case bin op x y=>
  unfold VQ at h ⊢;split at h
  ·cases op<;>dsimp only[Dl]at h ⊢ <;>first|exact⟨h.1,⟨by trivial,by trivial,by trivial⟩,h.2⟩|exact⟨h.1,h.2.1,⟨by trivial,by trivial,by trivial⟩,h.2.2⟩
  ·cases op<;>dsimp only[Yz]at h ⊢ <;>first|exact⟨⟨by trivial,by trivial,by trivial⟩,h⟩|exact h.elim
  ·exact h.elim
 case eqb=>unfold YG at h ⊢;split at h<;>simp_all
 case eqa=>unfold YH at h ⊢;split at h<;>simp_all
 case eqp=>unfold VO at h ⊢;split at h<;>simp_all
 case eqf=>unfold VP at h ⊢;split at h<;>simp_all
 case un=>unfold wM at h ⊢;split at h<;>simp_all
 case cvt=>unfold YI at h ⊢;split at h<;>simp_all
 case b2s=>unfold YJ at h ⊢;split at h<;>simp_all
 case s2b=>unfold YA at h ⊢;split at h<;>simp_all
 case slice=>
  unfold Ed at h ⊢;split at h
  ·split at h
   ·rename_i l hh hl hhh;simp only[];have⟨h1,h2,h3,h4,h5⟩:=h;refine⟨h1,h2,h3,h4,?_⟩;split at h5
    ·exact⟨⟨by trivial,by trivial,by trivial⟩,h5⟩
    ·exact⟨h5.1,⟨by trivial,by trivial,by trivial⟩,h5.2⟩
   ·exact h.elim
  ·exact h.elim
 case sstr=>
  unfold Rt at h ⊢;split at h
  ·split at h
   ·rename_i l hh hl hhh;simp only[];exact⟨h.1,h.2.1,h.2.2.1,⟨by trivial,by trivial,by trivial⟩,h.2.2.2⟩
   ·exact h.elim
  ·exact h.elim
 case fadr=>unfold K7 at h ⊢;split at h<;>simp_all
 case fld=>unfold LT at h ⊢;(repeat' split at h)<;>simp_all
 case iadr=>
  unfold Mu at h ⊢;split at h
  ·exact⟨h.1,h.2.1,h.2.2.1,⟨by trivial,by trivial,by trivial⟩,h.2.2.2⟩
  ·exact⟨h.1,h.2.1,⟨by trivial,by trivial,by trivial⟩,h.2.2⟩
  ·exact h.elim
 case aadr=>unfold Mv at h ⊢;split at h<;>simp_all
 case idx=>unfold YE LT at h ⊢;(repeat' split at h)<;>simp_all
 case sidx=>
  unfold Ru at h ⊢;split at h
  ·exact⟨h.1,h.2.1,⟨by trivial,by trivial,by trivial⟩,h.2.2⟩
  ·exact h.elim
 case ext=>unfold YF at h ⊢;(repeat' split at h)<;>simp_all
 case mkf=>exact⟨⟨by trivial,by trivial,by trivial⟩,h⟩
 case len=>unfold ON at h ⊢;split at h<;>simp_all
 case lenc=>exact⟨⟨by trivial,by trivial,by trivial⟩,h⟩
 case mx=>unfold kMx at h ⊢;split at h<;>simp_all
abbrev RO:=Option (Nat×Bool)×I×Option Nat
def D_ (tm:List AV) (d:Option Nat) (v:AV):List AV:=match d with
 |some t=>tm.set t v
 |none=>tm
def gdK (x:AV) (want:Bool) (run skip:Prop):Prop:=
 match x with
 | .lit (.bool b)=>if b=want then run else skip
 | .lit _=>skip
 |_=>False
def Acq (a b:List Nat):Bool:=a.all λx=> !b.contains x
def P_ (u:List (Nat×Nat)) (tr:List (List Nat×List Nat)):Bool:=
 u.all λp=>Acq (tr.getD p.1 ([],[])).2 (tr.getD p.2 ([],[])).1&&Acq (tr.getD p.2 ([],[])).2 (tr.getD p.1 ([],[])).1
def DR (P:Program):List RO->List (Nat×Nat)->List (List Nat×List Nat)->List AV->List Ad->(List AV->List Ad->Prop)->Prop
 |[],u,tr,tm,S,Q=>P_ u tr=true∧Q tm S
 |(none,i,d)::rest,u,tr,tm,S,Q=>B_ P i (ev tm) S λv rd upd new=>DR P rest u (tr++[(rd,upd.map (·.1)++(Bw S.length new).map (·.1))]) (D_ tm d v) (Cw S upd++new) Q
 |(some (t,want),i,d)::rest,u,tr,tm,S,Q=>gdK (tm.getD t .any) want
    (B_ P i (ev tm) S λv rd upd new=>DR P rest u (tr++[(rd,upd.map (·.1)++(Bw S.length new).map (·.1))]) (D_ tm d v) (Cw S upd++new) Q)
    (DR P rest u (tr++[([],[])]) (D_ tm d (.lit undef)) S Q)
structure KF where
 ran:Bool
 v:AV
 rd:List Nat
 upd:List (Nat×Ad)
 new:List Ad
def sT (dst:Nat->Option Nat) (r:Nat->KF) (tm:List AV):Nat->List AV
 |0=>tm
 |i+1=>D_ (sT dst r tm i) (dst i) (r i).v
def sS (r:Nat->KF) (S:List Ad):Nat->List Ad
 |0=>S
 |i+1=>Cw (sS r S i) (r i).upd++(r i).new
def GG (P:Program) (o:Oper) (i:I) (g:Option (Nat×Bool)) (tm:List AV) (S:List Ad) (r:KF):Prop:=
 if r.ran then(∀t w,g=some (t,w)->tm.getD t .any=.lit (.bool w))∧Eff P o (ev tm) S r.v r.rd r.upd r.new∧(∀p∈r.upd,p.1∈r.rd)∧(∀i∈r.rd,i<S.length)∧(tch i=false->r.rd=[]∧r.upd=[]∧r.new=[])
 else(∃t w u,g=some (t,w)∧tm.getD t .any=.lit u∧u≠ .bool w)∧r.v=.lit undef∧r.rd=[]∧r.upd=[]∧r.new=[]
def Qr (r:KF) (N:Nat):List Nat×List Nat:=(r.rd,r.upd.map (·.1)++(Bw N r.new).map (·.1))
def UE (dst:Nat->Option Nat) (r:Nat->KF) (tm:List AV) (i:Nat):sT (λj=>dst (j+1)) (λj=>r (j+1)) (D_ tm (dst 0) (r 0).v) i=sT dst r tm (i+1):=by
 induction i with
 |zero=>rfl
 |succ i ih=>simp only[sT,ih]
def N0 (r:Nat->KF) (S:List Ad) (i:Nat):sS (λj=>r (j+1)) (Cw S (r 0).upd++(r 0).new) i=sS r S (i+1):=by
 induction i with
 |zero=>rfl
 |succ i ih=>simp only[sS,ih]
def R0 {P:Program}:∀(os:List Oper) (cs:List RO) (u:List (Nat×Nat)) (tr:List (List Nat×List Nat)) (tm:List AV) (S:List Ad) (Q:List AV->List Ad->Prop),
 os.length=cs.length->(∀(j:Nat) (o:Oper) (c:RO),os[j]? =some o->cs[j]? =some c->IW P o=some c.2.1∧o.dst=c.2.2)->DR P cs u tr tm S Q->
 ∃r:Nat->KF,(∀(j:Nat) (o:Oper) (c:RO),os[j]? =some o->cs[j]? =some c->GG P o c.2.1 c.1 (sT (λj=>(os[j]?).bind (·.dst)) r tm j) (sS r S j) (r j))∧
  P_ u (tr++(List.range os.length).map λj=>Qr (r j) (sS r S j).length)=true∧Q (sT (λj=>(os[j]?).bind (·.dst)) r tm os.length) (sS r S os.length):=by
 intro os
 induction os with
 |nil=>
  intro cs u tr tm S Q hl hc h;have:cs=[]:=eq_nil_of_length_eq_zero (by simpa using hl.symm);subst this;simp only[DR]at h;exact⟨λ_=>⟨false,.any,[],[],[]⟩,λj o c ho=>by simp at ho,by simpa using h.1,h.2⟩
 |cons o os ih=>
  intro cs u tr tm S Q hl hc h;cases cs with
  |nil=>simp at hl
  |cons c cs=>
   have⟨g,i,d⟩:=c;have⟨hco,hd⟩:=hc 0 o (g,i,d) rfl rfl;simp only at hco hd;subst hd;have hcs:∀(j:Nat) (o':Oper) (c:RO),os[j]? =some o'->cs[j]? =some c->IW P o'=some c.2.1∧o'.dst=c.2.2:=λj o' c h1 h2=>hc (j+1) o' c (by simpa using h1) (by simpa using h2)
   have hl':os.length=cs.length:=Sx hl
   have fin:∀(r0:KF),GG P o i g tm S r0->DR P cs u (tr++[Qr r0 S.length]) (D_ tm o.dst r0.v) (Cw S r0.upd++r0.new) Q->
    ∃r:Nat->KF,(∀(j:Nat) (o':Oper) (c:RO),(o::os)[j]? =some o'->((g,i,o.dst)::cs)[j]? =some c->GG P o' c.2.1 c.1 (sT (λj=>((o::os)[j]?).bind (·.dst)) r tm j) (sS r S j) (r j))∧
     P_ u (tr++(List.range (o::os).length).map λj=>Qr (r j) (sS r S j).length)=true∧Q (sT (λj=>((o::os)[j]?).bind (·.dst)) r tm (o::os).length) (sS r S (o::os).length):=by
    intro r0 h0 hrest;have⟨r',h1,h2,h3⟩:=ih cs u _ _ _ Q hl' hcs hrest;refine⟨λj=>match j with|0=>r0|j+1=>r' j,λj o' c ho hc'=>?_,?_,?_⟩
    ·cases j with
     |zero=>simp at ho hc';subst ho hc';exact h0
     |succ j=>
      have:=h1 j o' c (by simpa using ho) (by simpa using hc');rw[←UE,←N0];exact this
    ·rw[length_cons,range_succ_eq_map];rw[append_assoc]at h2;simp only[map_cons,map_map,singleton_append]at h2 ⊢;have e:(λj=>Qr (r' j) (sS r' (Cw S r0.upd++r0.new) j).length)=(λj=>Qr ((λj=>match j with|0=>r0|j+1=>r' j:Nat->KF) j) (sS (λj=>match j with|0=>r0|j+1=>r' j) S j).length)∘Nat.succ:=by
      funext j;simp only[Function.comp,Nat.succ_eq_add_one];rw[←N0]
     rw[e]at h2;exact h2
    ·rw[length_cons,←UE,←N0];exact h3
   have run:B_ P i (ev tm) S (λv rd upd new=>DR P cs u (tr++[(rd,upd.map (·.1)++(Bw S.length new).map (·.1))]) (D_ tm o.dst v) (Cw S upd++new) Q)->(∀t w,g=some (t,w)->tm.getD t .any=.lit (.bool w))->
    ∃r0,GG P o i g tm S r0∧DR P cs u (tr++[Qr r0 S.length]) (D_ tm o.dst r0.v) (Cw S r0.upd++r0.new) Q:=by
    intro he hg;by_cases ht:tch i=false
    ·have⟨v,rd,upd,new,h1,h2,h2',h2'',h3⟩:=Pj hco (iZ ht he);exact⟨⟨true,v,rd,upd,new⟩,by simp only[GG,if_true];exact⟨hg,h1,h2,h2',λ_=>h2''⟩,h3⟩
    ·have⟨v,rd,upd,new,h1,h2,h2',h3⟩:=Pj hco he;exact⟨⟨true,v,rd,upd,new⟩,by simp only[GG,if_true];exact⟨hg,h1,h2,h2',λe=>(ht e).elim⟩,h3⟩
   cases g with
   |none=>
    simp only[DR]at h;have⟨r0,h1,h2⟩:=run h (λt w e=>by cases e);exact fin r0 h1 h2
   |some g=>
    have⟨t,want⟩:=g;simp only[DR,gdK]at h;have skip:∀u',tm.getD t .any=.lit u'->u'≠ .bool want->DR P cs u (tr++[([],[])]) (D_ tm o.dst (.lit undef)) S Q->∃r0,GG P o i (some (t,want)) tm S r0∧DR P cs u (tr++[Qr r0 S.length]) (D_ tm o.dst r0.v) (Cw S r0.upd++r0.new) Q:=by
     intro u' hu' hne hk;exact⟨⟨false,.lit undef,[],[],[]⟩,by unfold GG;rw[if_neg Si];exact⟨⟨t,want,u',rfl,hu',hne⟩,rfl,rfl,rfl,rfl⟩,by simpa[Qr,Bw]using hk⟩
    split at h
    ·rename_i b hb;split at h
     ·rename_i hbw;subst hbw;have⟨r0,h1,h2⟩:=run h (λt' w e=>by injection e with e;injection e with e1 e2;subst e1 e2;exact hb);exact fin r0 h1 h2
     ·rename_i hbw;have⟨r0,h1,h2⟩:=skip _ hb (λe=>by injection e with e;exact hbw e) h;exact fin r0 h1 h2
    ·rename_i x u' hne hu';have⟨r0,h1,h2⟩:=skip u' hu' (λe=>hne want (by rw[e])) h;exact fin r0 h1 h2
    ·exact h.elim
def Fw (ro:Option Nat):Fence:={Fence.wide with round:=ro}
def uM {ro:Option Nat} {P:Program} {row:String} {args:Array Value} {w:World} {R:Value->World->Prop} (h:Rows P row args w R):RowsIn (Fw ro) 0 P row args w R:=
 λc cs _=>let⟨v,w',r,s⟩:=h c cs;⟨v,w',r,stepsIn_wide.2 s⟩
def qO {ro:Option Nat} {P:Program} {f:FuncId} {args:Array Value} {w:World} {R:Ending->World->Prop} (h:Calls P f args w R):CallsIn (Fw ro) 0 P f args w R:=by
 have:CallsIn Fence.wide 0 P f args w R:=callsIn_wide.2 h;exact this
def Gl {P:Program} {o:Oper} (hd:∀c,o.op≠ .defer c) {ro:Option Nat} {a:Act} {w:World} {K:Act->World->Prop} {Q:Exit->Act->World->Prop} (h:OwpG P o a w K Q):o.wpIn (Fw ro) 0 P a w K Q:=by
 refine⟨λ_ _=>trivial,?_⟩;rw[Oper.semAt_eq _ _ _ hd];rcases h with h|⟨l,f,tmps,as,body,hrun,hr⟩
 ·unfold Oper.wp at h;generalize(execOp a.eval o).run P w=r at h;cases r with
  |ok x w'=>
   cases x<;>simp only[Oper.upon,Oper.uponIn]at h ⊢ <;>first
    |exact h
    |exact⟨λh0=>by simp[Fw,Fence.wide]at h0,qO h⟩
    |exact⟨λh0=>by simp[Fw,Fence.wide]at h0,uM h⟩
  |halt x w'=>cases x<;>simp only[Oper.upon,Oper.uponIn]at h ⊢ <;>exact h
 ·rw[hrun];refine⟨λh0=>by simp[Fw,Fence.wide]at h0,?_⟩;have:RoundIn (Fw ro) 0 P l f tmps as body w λe w'=>∃v,e=.returned v∧K (a.put o.dst v) w':=hr
  refine this.mono ?_;rintro e w' ⟨v,rfl,hK⟩;exact hK
def Lm {P:Program} {o:Oper} {i:I} (h:IW P o=some i):∀c,o.op≠ .defer c:=by
 intro c hc;unfold IW at h;rw[hc]at h;cases h
def JV (w0 w:World) (ds:List Deferred):Prop:=
 ∃Ds:List Nat,Ds.Nodup∧ds=Ds.map (λD=>{target:=.collected D,args:=#[]})∧∀D∈Ds,w0.heap.size≤D∧w.heap[D]? =some (.deferred (some []))
def JV.nil (w0 w:World):JV w0 w []:=⟨[],Si,rfl,λD h=>by simp at h⟩
def yP {G:Gh} {T:List Ad} {w:World} (h:Wd G T w) {i b:Nat} (hb:blk G T i=some b):∃o,w.heap[b]? =some o∧∀d,o≠ .deferred d:=by
 unfold blk at hb;split at hb
 ·rename_i xs hi;have⟨b',cs,t,h1,h2,_⟩:=h.obj i xs hi;rw[h1]at hb;injection hb with hb;subst hb;exact⟨_,h2,Si⟩
 ·rename_i k n hi;have⟨_,A,c,h1,h2,h3,h4⟩:=h.row i k n hi;rw[h1]at hb;split at hb
  ·rename_i a _ c' heq;split at hb
   ·rename_i hlt;injection heq with heq;injection heq with e1 e2 e3;subst e1 e3;have⟨b',cs,t,h5,h6,_⟩:=h4 hlt;injection h5 with h5;injection hb with hb;rw[←hb,h5];exact⟨_,h6,Si⟩
   ·cases hb
  ·cases hb
 ·rename_i k n xs hi;have⟨_,_,A,c,h1,h2,h3,_,h4⟩:=h.mrow i k n xs hi;rw[h1]at hb;split at hb
  ·rename_i a _ c' heq;split at hb
   ·rename_i hlt;injection heq with heq;injection heq with e1 e2 e3;subst e1 e3;have⟨b',cs,t,h5,h6,_⟩:=h4 hlt;injection h5 with h5;injection hb with hb;rw[←hb,h5];exact⟨_,h6,Si⟩
   ·cases hb
  ·cases hb
 ·rename_i o xs hi;have⟨b',vs,h1,h2,_⟩:=h.raw i o xs hi;rw[h1]at hb;injection hb with hb;subst hb;exact⟨_,h2,by cases o<;>simp[Fr.obj]⟩
 ·cases hb
def JV.left {w0 w w':World} {ds:List Deferred} {G G':Gh} {S S':List Ad} (h:JV w0 w ds) (hw:Wd G S w) (hl:A1 G S w G' S' w'):JV w0 w' ds:=by
 have⟨Ds,h1,h2,h3⟩:=h;refine⟨Ds,h1,h2,λD hD=>⟨(h3 D hD).1,?_⟩⟩;have h4:=(h3 D hD).2;refine(hl.kept.block D (Array.getElem?_eq_some_iff.1 h4).1 λi hi=>?_).trans h4;have⟨o,g1,g2⟩:=yP hw hi;rw[h4]at g1;injection g1 with g1;exact g2 _ g1.symm
def Wd.turnOut {G:Gh} {T:List Ad} {w:World} (h:Wd G T w) {D:Nat} {d d':Option (List Deferred)} (hD:w.heap[D]? =some (.deferred d)):Wd G T (w.putObj D (.deferred d')):=by
 have other:∀{b:Nat} {o:Obj},w.heap[b]? =some o->(∀d,o≠ .deferred d)->(w.putObj D (.deferred d')).heap[b]? =some o:=λ{b o} hb ho=>by
  rw[World.putObj_heap_other]
  ·exact hb
  ·rintro rfl;rw[hD]at hb;injection hb with hb;exact ho _ hb.symm
 refine⟨λb i v hv=>?_,h.dom,λi xs hi=>?_,λj k n hj=>?_,λj k n xs hj=>?_,λi o xs hi=>?_,h.sep⟩
 ·have hc:=h.imm b i v hv;have⟨o,ho,hk⟩:=cells_of_cell hc;refine(World.cell?_of_block (w:=w) ?_).trans hc;rw[ho];exact other ho (λd e=>by subst e;simp[Obj.isCells]at hk)
 ·have⟨b,cs,t,h1,h2,h3,h4,h5⟩:=h.obj i xs hi;exact⟨b,cs,t,h1,other h2 Si,h3,h4,h5⟩
 ·have⟨h0,A,c,h1,h2,h3,h4⟩:=h.row j k n hj;refine⟨h0,A,c,h1,h2,h3,λhlt=>?_⟩;have⟨b,cs,t,g1,g2,g3,g4⟩:=h4 hlt;exact⟨b,cs,t,g1,other g2 Si,g3,g4⟩
 ·have⟨h0,hl,A,c,h1,h2,h3,hc6,h4⟩:=h.mrow j k n xs hj;refine⟨h0,hl,A,c,h1,h2,h3,hc6,λhlt=>?_⟩;have⟨b,cs,t,g1,g2,g3,g4⟩:=h4 hlt;exact⟨b,cs,t,g1,other g2 Si,g3,g4⟩
 ·have⟨b,vs,h1,h2,h3⟩:=h.raw i o xs hi;exact⟨b,vs,h1,other h2 (by cases o<;>simp[Fr.obj]),h3⟩
structure Cz (G0:Gh) (S0:List Ad) (w0:World) (tm:List AV) (S:List Ad) (G:Gh) (a:Act) (w:World):Prop where
 left:A1 G0 S0 w0 G S w
 size:a.tmps.size=tm.length
 rep:∀(t:Nat) (x:AV) (v:Value),tm[t]? =some x->a.tmps[t]? =some v->Bv G x v
 defers:JV w0 w a.defers
 wd0:Wd G0 S0 w0
def Cz.ev {G0:Gh} {S0:List Ad} {w0:World} {tm:List AV} {S:List Ad} {G:Gh} {a:Act} {w:World} (h:Cz G0 S0 w0 tm S G a w) (x:Operand):Bv G (ev tm x) (a.eval x):=by
 cases x with
 |tmp t=>
  simp only[Proofs.YtaajkppmibfgfabGreat.ev,Act.eval];by_cases ht:t<tm.length
  ·have h1:=getElem?_eq_getElem ht;have h2:=Array.getElem?_eq_getElem (show t<a.tmps.size by rw[h.size];exact ht);have:=h.rep t _ _ h1 h2;simpa[ht,h.size]using this
  ·simp[ht];exact .any _
 |const v=>exact uQ G v
 |global g=>exact .any _
 |func f=>
  exact .fn Si Si (λj x v h=>by simp at h) (λj x v h=>by simp at h)
def Cz.put {G0:Gh} {S0:List Ad} {w0:World} {tm:List AV} {S S':List Ad} {G G':Gh} {a:Act} {w w':World} (h:Cz G0 S0 w0 tm S G a w) (hl:A1 G S w G' S' w') {x:AV} {v:Value} (hv:Bv G' x v) (d:Option Nat):
 Cz G0 S0 w0 (D_ tm d x) S' G' (a.put d v) w':=by
 refine⟨h.left.trans hl,?_,λt y u hy hu=>?_,?_,h.wd0⟩
 ·cases d<;>simp[Act.put,D_,h.size]
 ·cases d with
  |none=>exact(h.rep t y u hy hu).mono hl.le
  |some d=>
   simp only[D_,Act.put]at hy hu;by_cases e:t=d
   ·subst e;rw[getElem?_set]at hy;rw[Array.getElem?_setIfInBounds]at hu;simp only[if_true]at hy hu;split at hy
    ·injection hy with hy;subst hy;rw[if_pos (by rw[h.size];assumption)]at hu;injection hu with hu;subst hu;exact hv
    ·cases hy
   ·rw[getElem?_set_ne (Ne.symm e)]at hy;rw[Array.getElem?_setIfInBounds_ne (Ne.symm e)]at hu;exact(h.rep t y u hy hu).mono hl.le
 ·have:(a.put d v).defers=a.defers:=by cases d<;>rfl
  rw[this];exact h.defers.left h.left.wd hl
def A1.dead {G:Gh} {S:List Ad} {w:World} (h:Wd G S w) (n:Nat):A1 G S w G (S++List.replicate n .dead) w:=by
 have hold:∀{i:Nat} {o:Ad},(S++List.replicate n .dead)[i]? =some o->o≠ .dead->S[i]? =some o:=λ{i o} e hne=>by
  rw[getElem?_append]at e;split at e
  ·exact e
  ·rw[getElem?_replicate]at e;split at e
   ·injection e with e;exact(hne e.symm).elim
   ·cases e
 have hblk:∀i,blk G (S++List.replicate n .dead) i=blk G S i:=by
  intro i;by_cases hi:i<S.length
  ·simp[blk,getElem?_append_left hi]
  ·have h1:S[i]? =none:=getElem?_eq_none Om;cases he:(S++List.replicate n Ad.dead)[i]? with
   |none=>simp[blk,he,h1]
   |some o=>
    cases o with
    |dead=>simp[blk,he,h1]
    |cells xs=>have:=hold he Si;rw[h1]at this;cases this
    |row k m=>have:=hold he Si;rw[h1]at this;cases this
    |mrow k m xs=>have:=hold he Si;rw[h1]at this;cases this
    |raw o xs=>have:=hold he Si;rw[h1]at this;cases this
 refine⟨Gh.Le.refl _,⟨h.imm,λi hi=>?_,λi xs hi=>h.obj i xs (hold hi Si),λj k m hj=>h.row j k m (hold hj Si),λj k m xs hj=>h.mrow j k m xs (hold hj Si),λi o xs hi=>h.raw i o xs (hold hi Si),λi j b hi hj=>h.sep i j b (by rw[←hblk];exact hi) (by rw[←hblk];exact hj)⟩,Db.refl _ _,λi b hb=>.inr ⟨i,by rw[←hblk];exact hb⟩,λ_ _ _ h=>.inl h⟩;by_cases hlt:i<S.length
 ·rw[getElem?_append_left hlt]at hi;exact h.dom i hi
 ·exact h.dom i (.inl (getElem?_eq_none Om))
def K3 {n:Nat} {l:List Ad} {p:Nat×Ad} (h:p∈Bw n l):n≤p.1∧p.1<n+l.length∧l[p.1-n]? =some p.2:=by
 induction l generalizing n with
 |nil=>cases h
 |cons o l ih=>
  simp only[Bw,mem_cons]at h;rcases h with rfl|h
  ·simp
  ·have⟨h1,h2,h3⟩:=ih h;refine⟨Om,by simp;omega,?_⟩;rw[show p.1-n=(p.1-(n+1))+1 by omega];simpa using h3
def Uj (S:List Ad) (new:List Ad):∀(n:Nat),n=S.length->Cw (S++List.replicate new.length .dead) (Bw n new)=S++new:=by
 induction new generalizing S with
 |nil=>intro n hn;simp[Bw]
 |cons o new ih=>
  intro n hn;subst hn;simp only[length_cons,Bw,CR,replicate_succ];have:(S++Ad.dead::List.replicate new.length Ad.dead).set S.length o=(S++[o])++List.replicate new.length Ad.dead:=by
   rw[set_append_right _ _ (Nat.le_refl _)];simp
  rw[this,ih (S++[o]) (S.length+1) Si];simp
def CC (T:List Ad) (u v:List (Nat×Ad)):Cw T (u++v)=Cw (Cw T u) v:=by
 induction u generalizing T with
 |nil=>rfl
 |cons p u ih=>simp[ih]
def QR (S R:List Ad) (u:List (Nat×Ad)) (h:∀p∈u,p.1<S.length):Cw (S++R) u=Cw S u++R:=by
 induction u generalizing S with
 |nil=>rfl
 |cons p u ih=>
  rw[CR,CR,set_append_left _ _ (h p Si),ih _ (λq hq=>by simpa using h q (by simp[hq]))]
section
variable {P:Program}
def cZ {o:Oper} {G0:Gh} {S0:List Ad} {w0:World} {tm:List AV} {S:List Ad} {G:Gh} {a:Act} {w:World} (hz:Cz G0 S0 w0 tm S G a w) {v:AV} {rd:List Nat} {upd:List (Nat×Ad)} {new:List Ad}
 (he:Eff P o (ev tm) S v rd upd new) (hu:∀p∈upd,p.1∈rd) (hrd:∀i∈rd,i<S.length) (K:Act->World->Prop) (Q:Exit->Act->World->Prop)
 (hk:∀G' a' w',Cz G0 S0 w0 (D_ tm o.dst v) (Cw S upd++new) G' a' w'->K a' w'):OwpG P o a w K Q:=by
 have hd:=A1.dead hz.left.wd new.length;refine he (S++List.replicate new.length .dead) (λi hi=>getElem?_append_left (hrd i hi)) (λp hp=>?_) G a w hd.wd (λx _=>hz.ev x) K Q λv' w' G' hv hl=>hk G' _ _ ?_
 ·have⟨h1,h2,_⟩:=K3 hp;rw[getElem?_append_right h1,getElem?_replicate,if_pos Om]
 ·have e:Cw (S++List.replicate new.length .dead) (upd++Bw S.length new)=Cw S upd++new:=by
   rw[CC,QR _ _ _ (λp hp=>hrd _ (hu p hp))];exact Uj _ _ _ Si
  rw[e]at hl;exact hz.put (hd.trans hl) hv o.dst
end
def Gz (P:Program) (ops:Array Oper):Option (List RO):=
 M0 (λo:Oper=>match IW P o with
  |none=>none
  |some i=>match o.guard with
   |none=>some (none,i,o.dst)
   |some (j,want)=>match(ops[j]?).bind (·.dst)with
    |some t=>some (some (t,want),i,o.dst)
    |none=>none) ops.toList
section
variable {P:Program} {ops:Array Oper} {cs:List RO}
def Pn (h:Gz P ops=some cs):ops.toList.length=cs.length∧∀(j:Nat) (o:Oper) (c:RO),ops.toList[j]? =some o->cs[j]? =some c->
 (IW P o=some c.2.1∧o.dst=c.2.2)∧(o.guard=none∧c.1=none∨∃g want t,o.guard=some (g,want)∧(ops[g]?).bind (·.dst)=some t∧c.1=some (t,want)):=by
 have⟨h1,h2⟩:=Vi h;refine⟨h1,λj o c ho hc=>?_⟩;have e:=h2 j o c ho hc;split at e
 ·cases e
 ·rename_i i hi;split at e
  ·rename_i hg;injection e with e;subst e;exact⟨⟨hi,rfl⟩,.inl ⟨hg,rfl⟩⟩
  ·rename_i g want hg;split at e
   ·rename_i t ht;injection e with e;subst e;exact⟨⟨hi,rfl⟩,.inr ⟨g,want,t,hg,ht,rfl⟩⟩
   ·cases e
def QQ {G0:Gh} {S0:List Ad} {w0:World} {tm:List AV} {S:List Ad} {G:Gh} {a:Act} {w:World} (hz:Cz G0 S0 w0 tm S G a w) {o:Oper} {i:I} {c:Option (Nat×Bool)} {tm':List AV} {S':List Ad} {r:KF}
 (hg:o.guard=none∧c=none∨∃g want t,o.guard=some (g,want)∧(ops[g]?).bind (·.dst)=some t∧c=some (t,want)) (htm:∀t w,c=some (t,w)->tm.getD t .any=tm'.getD t .any) (hr:GG P o i c tm' S' r):
 Region.wanted o (yielded ops a.tmps)=r.ran:=by
 have look:∀{t:Nat} {u:Value},tm.getD t .any=.lit u->a.tmps[t]? =some u:=λ{t u} e=>by
  by_cases ht:t<tm.length
  ·have h1:tm[t]? =some (.lit u):=by rw[←e];simp[ht]
   have h2:=Array.getElem?_eq_getElem (show t<a.tmps.size by rw[hz.size];exact ht);rw[h2,A3 (hz.rep t _ _ h1 h2)]
  ·simp[ht]at e
 unfold GG at hr;cases hran:r.ran with
 |true=>
  rw[hran,if_pos rfl]at hr;rcases hg with⟨h1,_⟩|⟨g,want,t,h1,h2,h3⟩
  ·simp[Region.wanted,h1]
  ·have e:=look ((htm t want h3).trans (hr.1 t want h3));simp[Region.wanted,h1,yielded,h2,e]
 |false=>
  rw[hran,if_neg Si]at hr;have⟨⟨t,want,u,hc,hu,hne⟩,_⟩:=hr;rcases hg with⟨_,h1⟩|⟨g,want',t',h1,h2,h3⟩
  ·rw[h1]at hc;cases hc
  ·rw[h3]at hc;injection hc with hc;injection hc with e1 e2;subst e1 e2;have e:=look ((htm t' want' h3).trans hu);simp only[Region.wanted,h1,yielded,h2,Option.bind_some,e];cases u<;>simp;rintro rfl;exact hne rfl
def Q8 {ro:Option Nat} {G0:Gh} {S0:List Ad} {w0:World} {tm:List AV} {S:List Ad} {G:Gh} {a:Act} {w:World} (hc:Gz P ops=some cs) (hz:Cz G0 S0 w0 tm S G a w) {QA:List AV->List Ad->Prop} (h:DR P cs [] [] tm S QA)
 (Q:Exit->Act->World->Prop) (hQ:∀tm' S' G' a' w',Cz G0 S0 w0 tm' S' G' a' w'->QA tm' S'->Q .normal a' w'):wpOpsIn (Fw ro) 0 P ops Q (List.range ops.size) a w:=by
 have⟨hl,hat⟩:=Pn hc;have⟨r,hrec,_,hfin⟩:=R0 ops.toList cs [] [] tm S QA hl (λj o c h1 h2=>(hat j o c h1 h2).1) h;have key:∀(k i:Nat) (G:Gh) (a:Act) (w:World),i+k=ops.size->Cz G0 S0 w0 (sT (λj=>(ops.toList[j]?).bind (·.dst)) r tm i) (sS r S i) G a w->wpOpsIn (Fw ro) 0 P ops Q (range' i k) a w:=by
  intro k
  induction k with
  |zero=>
   intro i G a w hi hz;have e:i=ops.toList.length:=by simp;omega
   subst e;exact hQ _ _ _ _ _ hz hfin
  |succ k ih=>
   intro i G a w hi hz;have hlt:i<ops.size:=Om
   have ho:ops[i]? =some ops[i]:=Array.getElem?_eq_getElem hlt;have hol:ops.toList[i]? =some ops[i]:=by simp
   have hcl:cs[i]? =some (cs[i]'(by rw[←hl];simpa using hlt)):=getElem?_eq_getElem _;have⟨hco,hg⟩:=hat i _ _ hol hcl;have hr:=hrec i _ _ hol hcl;have hw:=QQ (ops:=ops) hz hg (λt w e=>rfl) hr;simp only[range'_succ,wpOpsIn,ho,hw];unfold GG at hr;have hnext:∀{x:AV},D_ (sT (λj=>(ops.toList[j]?).bind (·.dst)) r tm i) (ops[i]).dst (r i).v=sT (λj=>(ops.toList[j]?).bind (·.dst)) r tm (i+1):=λ{x}=>by
    simp only[sT,hol,Option.bind_some]
   cases hran:(r i).ran with
   |true=>
    rw[hran,if_pos rfl]at hr;have⟨_,he,hu,hrd,_⟩:=hr;simp only[if_true];refine Gl (Lm hco.1) ?_;refine cZ hz he hu hrd _ _ λG' a' w' hz'=>ih (i+1) G' a' w' Om ?_
    rw[hnext (x:=.any)]at hz';exact hz'
   |false=>
    rw[hran,if_neg Si]at hr;have⟨_,hv,hrd,hu,hn⟩:=hr;simp only[Bool.false_eq_true,if_false];refine⟨λ_ _=>trivial,ih (i+1) G _ w Om ?_⟩;have:=hz.put (A1.refl hz.left.wd) (x:=.lit undef) (v:=undef) (.lit _) (ops[i]).dst;rw[←hv,hnext (x:=.any)]at this;simpa[sS,hu,hn]using this
 have:=key ops.size 0 G a w Om hz;rwa[range_eq_range']
def UM {ro:Option Nat} {id:Nat} {G0:Gh} {S0:List Ad} {w0:World} {tm:List AV} {S:List Ad} {G:Gh} {a:Act} {w:World} (hc:Gz P ops=some cs) (hz:Cz G0 S0 w0 tm S G a w) {QA:List AV->List Ad->Prop} (h:DR P cs [] [] tm S QA)
 (Q:Exit->Act->World->Prop) (hQ:∀tm' S' G' a' w',Cz G0 S0 w0 tm' S' G' a' w'->QA tm' S'->Q .normal a' w'):(Code.region id ops false).wpIn (Fw ro) 0 P Q a w:=wpIn_region (Q8 hc hz h Q hQ)
end
def Pk (o:Oper):List Nat:=(o.after.toList.filter λe=>Region.binds .any e).map (·.on)
def qZ:List Oper->List Nat->List Nat
 |[],acc=>acc
 |o::os,acc=>qZ os (acc++[(Pk o).foldl (λs e=>s|||2^e|||acc.getD e 0) 0])
def kT (xs:List Operand):List Nat:=xs.filterMap λ | .tmp t=>some t|_=>none
def D3 (o:Oper) (c:RO):List Nat:=kT o.op.operands.toList++o.dst.toList++(match c.1 with|some (t,_)=>[t]|none=>[])
def rR (o:Oper) (c:RO) (o':Oper) (c':RO):Bool:=
 (match o.dst with|some d=> !(D3 o' c').contains d|none=>true)&&(match o'.dst with|some d=> !(D3 o c).contains d|none=>true)
def nC (n:Nat):List (Nat×Nat):=(List.range n).flatMap λk=>(List.range k).map λi=>(i,k)
def ZU (n:Nat) (bef:List Nat):List (Nat×Nat):=(nC n).filter λp=> !(bef.getD p.2 0).testBit p.1
def Lz (cs:List RO) (i:Nat):Bool:=match cs[i]? with|some c=>tch c.2.1|none=>false
def uE (ops:List Oper) (cs:List RO) (u:List (Nat×Nat)):Bool:=
 u.all λp=>match ops[p.1]?,cs[p.1]?,ops[p.2]?,cs[p.2]? with
  |some o,some c,some o',some c'=>rR o c o' c'
  |_,_,_,_=>true
def Gy (P:Program) (ops:Array Oper) (draw:Bool):Option (List RO×List (Nat×Nat)):=
 match Gz P ops with
 |none=>none
 |some cs=>if draw then
   let u:=ZU ops.size (qZ ops.toList [])
   if P.follows .mixedOrders&&(ops.toList.zipIdx.all λp=>(Pk p.1).all (· <p.2))&&uE ops.toList cs u then some (cs,u.filter λp=>Lz cs p.1&&Lz cs p.2)else none
  else some (cs,[])
def Rh {n i k:Nat} (h:i<k) (hk:k<n):(i,k)∈nC n:=by
 simp only[nC,mem_flatMap,mem_range,mem_map];exact⟨k,hk,i,h,rfl⟩
def MO (D:Nat->Prop):∀(os:List Oper) (acc:List Nat),(∀(k:Nat) (o:Oper),os[k]? =some o->D (acc.length+k)->∀e∈Pk o,D e)->(∀k,k<acc.length->D k->∀i,(acc.getD k 0).testBit i=true->D i)->
 ∀k,k<acc.length+os.length->D k->∀i,((qZ os acc).getD k 0).testBit i=true->D i:=by
 intro os
 induction os with
 |nil=>intro acc _ h k hk;exact h k (by simpa using hk)
 |cons o os ih=>
  intro acc hd h k hk hDk i hi;simp only[qZ]at hi;refine ih (acc++[(Pk o).foldl (λs e=>s|||2^e|||acc.getD e 0) 0]) (λk o' ho hD=>hd (k+1) o' (by simpa using ho) (by rw[←Nat.add_assoc,Nat.add_right_comm];simpa using hD)) (λk' hk' hD' j hj=>?_) k (by simp at hk ⊢;omega) hDk i hi;by_cases e:k'<acc.length
  ·refine h k' e hD' j ?_;simpa[getElem?_append_left e]using hj
  ·have hk0:k'=acc.length:=by simp at hk';omega
   subst hk0;have hj':((Pk o).foldl (λs e=>s|||2^e|||acc.getD e 0) 0).testBit j=true:=Sx hj
   have hdir:=hd 0 o rfl (by simpa using hD');have key:∀(l:List Nat) (s:Nat),(∀e∈l,D e)->(l.foldl (λs e=>s|||2^e|||acc.getD e 0) s).testBit j=true->s.testBit j=true∨D j:=by
    intro l
    induction l with
    |nil=>intro s _ h;exact .inl h
    |cons e l ihl=>
     intro s hl hs;rcases ihl _ (λx hx=>hl x (by simp[hx])) hs with h1|h1
     ·rw[Nat.testBit_or,Nat.testBit_or]at h1;simp only[Bool.or_eq_true]at h1;rcases h1 with(h1|h1)|h1
      ·exact .inl h1
      ·rw[Nat.testBit_two_pow]at h1;have:e=j:=Sx h1
       subst this;exact .inr (hl e Si)
      ·right;by_cases hea:e<acc.length
       ·exact h e hea (hl e Si) j h1
       ·simp[getElem?_eq_none (Nat.le_of_not_lt hea)]at h1
     ·exact .inr h1
   rcases key (Pk o) 0 hdir hj' with h1|h1
   ·simp at h1
   ·exact h1
def Cm {α:Type} (D:Nat->Bool) (f:Nat->Option α):Nat->Option α
 |0=>none
 |n+1=>if D n then(match f n with|some v=>some v|none=>Cm D f n)else Cm D f n
def Ej {α:Type} {D D':Nat->Bool} {f:Nat->Option α}:∀{n:Nat},(∀i,i<n->f i≠none->D i=D' i)->Cm D f n=Cm D' f n:=by
 intro n
 induction n with
 |zero=>intro _;rfl
 |succ n ih=>
  intro h;have e:=ih λi hi=>h i Om
  simp only[Cm];cases hf:f n with
  |none=>simp[e]
  |some v=>rw[h n Om (by simp[hf]),e]
def LQ {α:Type} {D:Nat->Bool} {f:Nat->Option α} {j:Nat}:∀{n:Nat},j≤n->(∀i,j≤i->i<n->f i≠none->D i=false)->Cm D f n=Cm D f j:=by
 intro n
 induction n with
 |zero=>intro h _;have:j=0:=Om
        subst this;rfl
 |succ n ih=>
  intro hj h;by_cases e:j=n+1
  ·subst e;rfl
  ·simp only[Cm];rw[←ih Om λi h1 h2=>h i h1 Om];cases hf:f n with
   |none=>simp
   |some v=>simp[h n Om Om (by simp[hf])]
def OL {α:Type} {D:Nat->Bool} {f:Nat->Option α}:∀{n:Nat},(∀i,i<n->D i=true->f i=none)->Cm D f n=none:=by
 intro n
 induction n with
 |zero=>intro _;rfl
 |succ n ih=>
  intro h;simp only[Cm,ih λi hi=>h i Om];cases hD:D n with
  |true=>simp[h n Om hD]
  |false=>simp
def Rs {α:Type} {D:Nat->Bool} {f:Nat->Option α} {j:Nat} {v:α} {n:Nat} (hj:j<n) (hD:D j=true) (hf:f j=some v) (h:∀i,j<i->i<n->f i≠none->D i=false):Cm D f n=some v:=by
 rw[LQ (j:=j+1) Om λi h1 h2 h3=>h i Om h2 h3];simp[Cm,hD,hf]
def Yd {α:Type}:Option α->Option α->Option α
 |some x,_=>some x
 |none,y=>y
section
variable {dst:Nat->Option Nat} {r:Nat->KF} {tm:List AV} {S:List Ad}
def fT (dst:Nat->Option Nat) (r:Nat->KF) (t i:Nat):Option AV:=if dst i=some t then some (r i).v else none
def Ez (r:Nat->KF) (S:List Ad) (i:Nat):List (Nat×Ad):=(r i).upd++Bw (sS r S i).length (r i).new
def fS (r:Nat->KF) (S:List Ad) (q i:Nat):Option Ad:=if q∈(Ez r S i).map (·.1)then(sS r S (i+1))[q]? else none
def LH (i:Nat):(sT dst r tm i).length=tm.length:=by
 induction i with
 |zero=>rfl
 |succ i ih=>simp only[sT,D_];split<;>simp[ih]
def Aak (t i:Nat):(sT dst r tm i)[t]? =if t<tm.length then Yd (Cm (λ_=>true) (fT dst r t) i) tm[t]? else none:=by
 induction i with
 |zero=>
  simp only[sT,Cm,Yd];split
  ·rfl
  ·exact getElem?_eq_none Om
 |succ i ih=>
  simp only[sT,Cm,fT,if_true];cases hd:dst i with
  |none=>simpa[D_]using ih
  |some d=>
   simp only[D_];by_cases e:d=t
   ·subst e;by_cases hlt:d<tm.length
    ·simp[hlt,Yd,LH]
    ·rw[if_neg hlt];exact getElem?_eq_none (by simp[LH];omega)
   ·rw[getElem?_set_ne e,ih];simp[e]
def KS (i j:Nat) (h:i≤j):(sS r S i).length≤(sS r S j).length:=by
 induction j with
 |zero=>have:i=0:=Om
        subst this;exact Nat.le_refl _
 |succ j ih=>
  by_cases e:i=j+1
  ·subst e;exact Nat.le_refl _
  ·have:=ih Om;simp only[sS,length_append,Ir];omega
def KL {i:Nat} (hu:∀p∈(r i).upd,p.1<(sS r S i).length) {q:Nat} (hq:q∈(Ez r S i).map (·.1)):q<(sS r S (i+1)).length:=by
 simp only[Ez,map_append,mem_append,mem_map]at hq;simp only[sS,length_append,Ir];rcases hq with⟨p,hp,rfl⟩|⟨p,hp,rfl⟩
 ·have:=hu p hp;omega
 ·have:=(K3 hp).2.1;omega
def cG (T T':List Ad) (u:List (Nat×Ad)) {q:Nat} (hq:q∈u.map (·.1)) (h:q<T.length) (h':q<T'.length):(Cw T u)[q]? =(Cw T' u)[q]? :=by
 induction u generalizing T T' with
 |nil=>simp at hq
 |cons p u ih=>
  simp only[CR];by_cases e:q∈u.map (·.1)
  ·exact ih _ _ e (by simpa using h) (by simpa using h')
  ·simp only[map_cons,mem_cons]at hq;rcases hq with rfl|hq
   ·rw[Dv _ _ _ e,Dv _ _ _ e];simp[h,h']
   ·exact(e hq).elim
def Z7 (i:Nat) (hu:∀p∈(r i).upd,p.1<(sS r S i).length):Cw (sS r S i++List.replicate (r i).new.length .dead) (Ez r S i)=sS r S (i+1):=by
 simp only[Ez,sS];rw[CC,QR _ _ _ hu,Uj _ _ _ Si]
def Aal (n:Nat) (hu:∀i,i<n->∀p∈(r i).upd,p.1<(sS r S i).length) (q:Nat):(sS r S n)[q]? =Yd (Cm (λ_=>true) (fS r S q) n) S[q]? :=by
 induction n with
 |zero=>rfl
 |succ i ih=>
  have hi:=hu i Om;simp only[Cm,if_true];by_cases hq:q∈(Ez r S i).map (·.1)
  ·have hlt:=KL hi hq;have e:fS r S q i=some ((sS r S (i+1))[q]'hlt):=by simp[fS,hq]
   rw[e];simp[Yd]
  ·have e:fS r S q i=none:=by simp[fS,hq]
   rw[e];show _=Yd (Cm (λ_=>true) (fS r S q) i) S[q]?;rw[←ih λj hj=>hu j Om];have hstep:=Z7 (r:=r) (S:=S) i hi;rw[←hstep,Dv _ _ _ hq];by_cases hlt:q<(sS r S i).length
   ·rw[getElem?_append_left hlt]
   ·rw[getElem?_append_right Om,getElem?_eq_none (show(sS r S i).length≤q by omega),getElem?_replicate];rw[if_neg];intro hcon;apply hq;have hmem:∀(l:List Ad) (n q:Nat),n≤q->q<n+l.length->q∈(Bw n l).map (·.1):=by
     intro l
     induction l with
     |nil=>intro n q h1 h2;simp at h2;omega
     |cons o l ihl=>
      intro n q h1 h2;simp only[Bw,map_cons,mem_cons];by_cases e:q=n
      ·exact .inl e
      ·exact .inr (ihl (n+1) q Om (by simp at h2;omega))
    simp only[Ez,map_append,mem_append];exact .inr (hmem _ _ q Om Om)
end
def Qc {l:List Bool} {i:Nat} (h:l[i]? =some false):(l.set i true).countP (λb=> !b)+1=l.countP (λb=> !b):=by
 induction l generalizing i with
 |nil=>simp at h
 |cons b l ih=>
  cases i with
  |zero=>simp at h;subst h;simp
  |succ i=>
   simp at h;have:=ih h;simp only[set_cons_succ,countP_cons];omega
section
variable {P:Program} {ops:Array Oper} {cs:List RO}
def UN {ro:Option Nat} {id:Nat} {G0:Gh} {S0:List Ad} {w0:World} {tm:List AV} {S:List Ad} {G:Gh} {a:Act} {w:World} {u:List (Nat×Nat)} (hc:Gy P ops true=some (cs,u)) (hz:Cz G0 S0 w0 tm S G a w) {QA:List AV->List Ad->Prop}
 (h:DR P cs u [] tm S QA) (Q:Exit->Act->World->Prop) (hQ:∀tm' S' G' a' w',Cz G0 S0 w0 tm' S' G' a' w'->QA tm' S'->Q .normal a' w'):(Code.region id ops true).wpIn (Fw ro) 0 P Q a w:=by
 unfold Gy at hc;split at hc
 ·cases hc
 rename_i cs' hcs;simp only[if_true]at hc;split at hc
 case isFalse=>cases hc
 rename_i hcond;injection hc with hc;injection hc with e1 e2;subst e1;simp only[Bool.and_eq_true]at hcond;have⟨⟨hmix,hdir⟩,hslots⟩:=hcond;have⟨hl,hat⟩:=Pn hcs;have⟨r,hrec,hok,hfin⟩:=R0 ops.toList cs' u [] tm S QA hl (λj o c h1 h2=>(hat j o c h1 h2).1) h
 let n:=ops.toList.length
 have hn:n=ops.size:=by simp[n]
 let dst:Nat->Option Nat:=λj=>(ops.toList[j]?).bind (·.dst)
 let bef:=qZ ops.toList []
 have hol:∀j,j<n->∃o c,ops.toList[j]? =some o∧ops[j]? =some o∧cs'[j]? =some c:=λj hj=>by
  have h1:=getElem?_eq_getElem (show j<ops.toList.length from hj);exact⟨_,_,h1,Si,getElem?_eq_getElem (show j<cs'.length by rw[←hl];exact hj)⟩
 have hup:∀i,i<n->(∀p∈(r i).upd,p.1∈(r i).rd)∧∀q∈(r i).rd,q<(sS r S i).length:=λi hi=>by
  have⟨o,c,h1,_,h3⟩:=hol i hi;have hr:=hrec i o c h1 h3;unfold GG at hr;split at hr
  ·exact⟨hr.2.2.1,hr.2.2.2.1⟩
  ·have⟨_,_,h4,h5,_⟩:=hr;rw[h4,h5];exact⟨(λp hp=>by cases hp),(λq hq=>by cases hq)⟩
 have hupd:∀i,i<n->∀p∈(r i).upd,p.1<(sS r S i).length:=λi hi p hp=>(hup i hi).2 _ ((hup i hi).1 p hp)
 have hopen:∀i k,i<k->k<n->(bef.getD k 0).testBit i=false->(∀q∈(Ez r S i).map (·.1),q∉(r k).rd)∧(∀q∈(Ez r S k).map (·.1),q∉(r i).rd):=by
  intro i k hik hk hb;have pure0:∀j,j<n->Lz cs' j=false->(r j).rd=[]∧(Ez r S j)=[]:=λj hj ht=>by
   have⟨o,c,h1,_,h3⟩:=hol j hj;have hr:=hrec j o c h1 h3;simp only[Lz,h3]at ht;unfold GG at hr;split at hr
   ·have⟨e1,e2,e3⟩:=hr.2.2.2.2 ht;exact⟨e1,by simp[Ez,e2,e3,Bw]⟩
   ·have⟨_,_,e1,e2,e3⟩:=hr;exact⟨e1,by simp[Ez,e2,e3,Bw]⟩
  by_cases hti:Lz cs' i=true
  ·by_cases htk:Lz cs' k=true
   ·have hmem:(i,k)∈u:=by
     rw[←e2];simp only[mem_filter,ZU];exact⟨⟨Rh hik Om,by simpa[bef]using hb⟩,by simp[hti,htk]⟩
    have hd:=all_eq_true.1 hok (i,k) hmem;have hget:∀j,j<n->(([]:List (List Nat×List Nat))++(List.range ops.toList.length).map λj=>Qr (r j) (sS r S j).length).getD j ([],[])=((r j).rd,(Ez r S j).map (·.1)):=λj hj=>by
     have:(List.range ops.toList.length)[j]? =some j:=getElem?_range hj;rw[nil_append,getD_eq_getElem?_getD,getElem?_map,this];simp[Qr,Ez]
    rw[hget i Om,hget k hk]at hd;simp only[Bool.and_eq_true,Acq,all_eq_true,Bool.not_eq_true',contains_eq_mem,decide_eq_false_iff_not]at hd;exact hd
   ·have⟨e1,e3⟩:=pure0 k hk (by simpa using htk);rw[e1,e3];exact⟨(λq _ hq=>by cases hq),(λq hq=>by simp at hq)⟩
  ·have⟨e1,e3⟩:=pure0 i Om (by simpa using hti);rw[e1,e3];exact⟨(λq hq=>by simp at hq),(λq _ hq=>by cases hq)⟩
 have hslot:∀i k,i<k->k<n->(bef.getD k 0).testBit i=false->∀o c o' c',ops.toList[i]? =some o->cs'[i]? =some c->ops.toList[k]? =some o'->cs'[k]? =some c'->
  (∀d,o.dst=some d->d∉D3 o' c')∧(∀d,o'.dst=some d->d∉D3 o c):=by
  intro i k hik hk hb o c o' c' h1 h2 h3 h4;have hmem:(i,k)∈ZU ops.size bef:=by
   simp only[mem_filter,ZU];exact⟨Rh hik Om,by simpa using hb⟩
  have hd:=all_eq_true.1 hslots (i,k) hmem;simp only[h1,h2,h3,h4,rR,Bool.and_eq_true]at hd;refine⟨λd hd'=>?_,λd hd'=>?_⟩
  ·have:=hd.1;rw[hd']at this;simpa using this
  ·have:=hd.2;rw[hd']at this;simpa using this
 let N:=(sS r S n).length
 have inv:∀(fuel:Nat) (listed:Array Bool) (tmD:List AV) (SD:List Ad) (G:Gh) (a:Act) (w:World),listed.size=n->listed.toList.countP (λb=> !b)≤fuel->
  (∀i,i<n->listed.getD i false=true->∀e∈(ops.toList[i]?).elim [] Pk,listed.getD e false=true)->
  tmD.length=tm.length->(∀t,t<tm.length->tmD[t]? =Yd (Cm (λi=>listed.getD i false) (fT dst r t) n) tm[t]?)->
  SD.length=N->(∀q,q<N->SD[q]? =some ((Yd (Cm (λi=>listed.getD i false) (fS r S q) n) S[q]?).getD .dead))->
  Cz G0 S0 w0 tmD SD G a w->wpAnyIn (Fw ro) 0 P .any ops Q fuel listed a w:=by
  have fin:∀(listed:Array Bool) (tmD:List AV) (SD:List Ad) (G:Gh) (a:Act) (w:World),(∀i,i<n->listed.getD i false=true)->tmD.length=tm.length->
   (∀t,t<tm.length->tmD[t]? =Yd (Cm (λi=>listed.getD i false) (fT dst r t) n) tm[t]?)->SD.length=N->(∀q,q<N->SD[q]? =some ((Yd (Cm (λi=>listed.getD i false) (fS r S q) n) S[q]?).getD .dead))->
   Cz G0 S0 w0 tmD SD G a w->Q .normal a w:=by
   intro listed tmD SD G a w hall htl ht hsl hs hz;have e1:tmD=sT dst r tm n:=by
    apply ext_getElem?;intro t;by_cases hlt:t<tm.length
    ·rw[ht t hlt,Aak,if_pos hlt,Ej (D':=λ_=>true) λi hi _=>hall i hi]
    ·rw[getElem?_eq_none Om,getElem?_eq_none (by rw[LH];omega)]
   have e2:SD=sS r S n:=by
    apply ext_getElem?;intro q;by_cases hlt:q<N
    ·have h1:=Aal (r:=r) (S:=S) n hupd q;have h2:=getElem?_eq_getElem (show q<(sS r S n).length from hlt);rw[hs q hlt,Ej (D':=λ_=>true) λi hi _=>hall i hi,←h1,h2];rfl
    ·rw[getElem?_eq_none Om,getElem?_eq_none (by show N≤q;omega)]
   subst e1 e2;exact hQ _ _ _ _ _ hz hfin
  have allDone:∀(listed:Array Bool),listed.size=n->Region.ready .any ops listed=[]->∀i,i<n->listed.getD i false=true:=by
   intro listed hsz hr i
   induction i using Nat.strongRecOn with
   |_ i ihi=>
    intro hi;have⟨o,c,h1,h2,h3⟩:=hol i hi;cases hb:listed.getD i false with
    |true=>rfl
    |false=>
     exfalso;have hmem:i∈Region.ready .any ops listed:=by
      simp only[Region.ready,mem_filter,mem_range];refine⟨Om,?_⟩;have hb':listed.getD i true=false:=by
       simp only[Array.getD_eq_getD_getElem?]at hb ⊢;rw[Array.getElem?_eq_getElem (show i<listed.size by omega)]at hb ⊢;exact hb
      rw[hb',h2];simp only[Bool.not_false,Bool.true_and,Option.map_some,Option.getD_some];rw[Array.all_eq_true];intro k hk;by_cases hbind:Region.binds .any o.after[k]=true
      ·have hd:o.after[k].on∈Pk o:=by
        simp only[Pk,mem_map,mem_filter];exact⟨o.after[k],⟨Si,hbind⟩,rfl⟩
       have hz0:=all_eq_true.1 hdir (o,i) (by
        rw[mem_zipIdx_iff_getElem?];exact h1)
       have hlt:=all_eq_true.1 hz0 _ hd;have hlt':o.after[k].on<i:=Sx hlt
       rw[ihi _ hlt' Om];simp
      ·simp[hbind]
     rw[hr]at hmem;cases hmem
  have readyOf:∀(listed:Array Bool) (j:Nat),listed.size=n->j∈Region.ready .any ops listed->j<n∧listed[j]? =some false∧∀e∈(ops.toList[j]?).elim [] Pk,listed.getD e false=true:=by
   intro listed j hsz hj;simp only[Region.ready,mem_filter,mem_range,Bool.and_eq_true]at hj;have⟨hj1,hj2,hj3⟩:=hj;have⟨o,c,h1,h2,h3⟩:=hol j Om;refine⟨Om,?_,?_⟩
   ·have:=Array.getElem?_eq_getElem (show j<listed.size by omega);rw[this];simp only[Array.getD_eq_getD_getElem?,this,Option.getD_some]at hj2;simpa using hj2
   ·rw[h2]at hj3;simp only[Option.map_some,Option.getD_some,Array.all_eq_true]at hj3;rw[h1];intro e he;simp only[Option.elim,Pk,mem_map,mem_filter]at he;obtain⟨ed,⟨hm,hb⟩,rfl⟩:=he;obtain⟨k,hk,rfl⟩:=getElem_of_mem hm;have:=hj3 k (by simpa using hk);simp only[Array.getElem_toList]at hb ⊢;rw[hb]at this;simpa using this
  intro fuel
  induction fuel with
  |zero=>
   intro listed tmD SD G a w hsz hcnt _ htl ht hsl hs hz;have hall:∀i,i<n->listed.getD i false=true:=by
    intro i hi;have h0:listed.toList.countP (λb=> !b)=0:=Om
    rw[countP_eq_zero]at h0;have hg:=Array.getElem?_eq_getElem (show i<listed.size by omega);have:=h0 listed[i] Si;simp only[Array.getD_eq_getD_getElem?,hg,Option.getD_some];simpa using this
   refine⟨?_,fin listed tmD SD G a w hall htl ht hsl hs hz⟩;cases hr:Region.ready .any ops listed with
   |nil=>rfl
   |cons j rest=>
    have⟨h1,h2,_⟩:=readyOf listed j hsz (by rw[hr];simp);have:=hall j h1;simp[h2]at this
  |succ fuel ih=>
   intro listed tmD SD G a w hsz hcnt hcl htl ht hsl hs hz;refine⟨λhr=>fin listed tmD SD G a w (allDone listed hsz hr) htl ht hsl hs hz,λj hj=>?_⟩;have⟨hjn,hjf,hjd⟩:=readyOf listed j hsz hj;have⟨o,c,h1,h2,h3⟩:=hol j hjn;rw[h1]at hjd;simp only[Option.elim]at hjd
   let D:Nat->Bool:=λi=>listed.getD i false
   have hDj:D j=false:=by simp[D,hjf]
   have before_:∀i,i<j->(bef.getD j 0).testBit i=true->D i=true:=by
    intro i hij hb;have:=MO (λi=>D i=true∨i=j) ops.toList [] (λk o' ho hD e he=>by
     left;simp only[length_nil,Nat.zero_add]at hD;rcases hD with hD|rfl
     ·have hk:k<n:=(Ge ho);have:=hcl k hk hD e;rw[ho]at this;exact this he
     ·rw[h1]at ho;injection ho with ho;subst ho;exact hjd e he) (λk hk=>by simp at hk) j (by simp;omega) (.inr rfl) i hb
    rcases this with h|h
    ·exact h
    ·omega
   have after_:∀i,j<i->i<n->(bef.getD i 0).testBit j=true->D i=false:=by
    intro i hji hi hb;cases hD:D i with
    |false=>rfl
    |true=>
     have:=MO (λi=>D i=true) ops.toList [] (λk o' ho hD e he=>by
      simp only[length_nil,Nat.zero_add]at hD;have hk:k<n:=(Ge ho);have:=hcl k hk hD e;rw[ho]at this;exact this he) (λk hk=>by simp at hk) i (by simp;omega) hD j hb
     rw[hDj]at this;cases this
   have htmp:∀t,t∈D3 o c->(∀i,i<j->fT dst r t i≠none->D i=true)∧∀i,j<i->i<n->fT dst r t i≠none->D i=false:=by
    intro t htn;have hdst:∀i,fT dst r t i≠none->dst i=some t:=λi hi=>by
     unfold fT at hi;by_cases e:dst i=some t
     ·exact e
     ·simp[e]at hi
    refine⟨λi hij hi=>?_,λi hji hi hne=>?_⟩
    ·have hd:=hdst i hi;have⟨o',c',g1,g1',g3⟩:=hol i Om;have hd':o'.dst=some t:=by simpa[dst,g1']using hd
     cases hb:(bef.getD j 0).testBit i with
     |true=>exact before_ i hij hb
     |false=>exact((hslot i j hij hjn hb o' c' o c g1 g3 h1 h3).1 t hd' htn).elim
    ·have hd:=hdst i hne;have⟨o',c',g1,g1',g3⟩:=hol i hi;have hd':o'.dst=some t:=by simpa[dst,g1']using hd
     cases hb:(bef.getD i 0).testBit j with
     |true=>exact after_ i hji hi hb
     |false=>exact((hslot j i hji hi hb o c o' c' h1 h3 g1 g3).2 t hd' htn).elim
   have hsame:∀t,t∈D3 o c->tmD[t]? =(sT dst r tm j)[t]? :=by
    intro t htn;have⟨q1,q2⟩:=htmp t htn;rw[Aak];by_cases hlt:t<tm.length
    ·rw[if_pos hlt,ht t hlt,LQ (j:=j) Om (λi hi1 hi2 hne=>by
      by_cases e:i=j
      ·subst e;exact hDj
      ·exact q2 i Om hi2 hne),Ej (D':=λ_=>true) λi hi hne=>q1 i hi hne]
    ·rw[if_neg hlt,getElem?_eq_none Om]
   have hev:∀x∈o.op.operands,ev tmD x=ev (sT dst r tm j) x:=by
    intro x hx;cases x with
    |tmp t=>
     have:t∈D3 o c:=by
      simp only[D3,kT,mem_append,mem_filterMap];left;left;exact⟨.tmp t,by simpa using hx,rfl⟩
     simp only[ev,getD_eq_getElem?_getD,hsame t this]
    |_=>rfl
   have hplace:∀q,(q∈(r j).rd∨q∈(Ez r S j).map (·.1))->(∀i,j<i->i<n->fS r S q i≠none->D i=false):=by
    intro q hq i hji hi hne;have hqi:q∈(Ez r S i).map (·.1):=by
     unfold fS at hne;by_cases e:q∈(Ez r S i).map (·.1)
     ·exact e
     ·simp[e]at hne
    cases hb:(bef.getD i 0).testBit j with
    |true=>exact after_ i hji hi hb
    |false=>
     exfalso;have⟨g1,g2⟩:=hopen j i hji hi hb;rcases hq with hq|hq
     ·exact g2 q hqi hq
     ·
      simp only[Ez,map_append,mem_append,mem_map]at hqi;rcases hqi with⟨p,hp,rfl⟩|⟨p,hp,rfl⟩
      ·exact g1 _ hq ((hup i hi).1 p hp)
      ·have h5:=(K3 hp).1;have h6:=KL (hupd j hjn) hq;have h7:=KS (r:=r) (S:=S) (j+1) i Om;omega
   have hrdlt:∀q∈(r j).rd,q<(sS r S j).length:=(hup j hjn).2;have hNle:∀i,i≤n->(sS r S i).length≤N:=λi hi=>KS i n hi
   have hread:∀q∈(r j).rd,SD[q]? =(sS r S j)[q]? :=by
    intro q hq;have hlt:=hrdlt q hq;have hltN:q<N:=Nat.lt_of_lt_of_le hlt (hNle j Om);have hpl:=hplace q (.inl hq);have e1:Cm D (fS r S q) n=Cm (λ_=>true) (fS r S q) j:=by
     rw[LQ (j:=j) Om (λi hi1 hi2 hne=>by
      by_cases e:i=j
      ·subst e;exact hDj
      ·exact hpl i Om hi2 hne)]
     refine Ej λi hi hne=>?_
     have hqi:q∈(Ez r S i).map (·.1):=by
      unfold fS at hne;by_cases e:q∈(Ez r S i).map (·.1)
      ·exact e
      ·simp[e]at hne
     cases hb:(bef.getD j 0).testBit i with
     |true=>exact before_ i hi hb
     |false=>exact((hopen i j hi hjn hb).1 q hqi hq).elim
    have e2:=Aal (r:=r) (S:=S) j (λi hi=>hupd i Om) q;rw[hs q hltN];show some ((Yd (Cm D (fS r S q) n) S[q]?).getD .dead)=_;rw[e1,←e2,getElem?_eq_getElem hlt];rfl
   have hfree:∀p∈Bw (sS r S j).length (r j).new,SD[p.1]? =some .dead:=by
    intro p hp;have⟨g1,g2,_⟩:=K3 hp;have hw:p.1∈(Ez r S j).map (·.1):=by simp only[Ez,map_append,mem_append,mem_map];exact .inr ⟨p,hp,rfl⟩
    have hltN:p.1<N:=Nat.lt_of_lt_of_le (KL (hupd j hjn) hw) (hNle (j+1) Om);have hpl:=hplace p.1 (.inr hw);have e1:Cm D (fS r S p.1) n=none:=OL λi hi hD=>by
     cases hne:fS r S p.1 i with
     |none=>rfl
     |some x=>
      exfalso;have hqi:p.1∈(Ez r S i).map (·.1):=by
       unfold fS at hne;by_cases e:p.1∈(Ez r S i).map (·.1)
       ·exact e
       ·simp[e]at hne
      rcases Nat.lt_trichotomy i j with h|h|h
      ·have h6:=KL (hupd i hi) hqi;have h7:=KS (r:=r) (S:=S) (i+1) j Om;omega
      ·subst h;rw[hDj]at hD;cases hD
      ·have:=hpl i h hi (by rw[hne];simp);rw[this]at hD;cases hD
    rw[hs p.1 hltN];show some ((Yd (Cm D (fS r S p.1) n) S[p.1]?).getD .dead)=_;have h0:=KS (r:=r) (S:=S) 0 j Om;simp only[sS]at h0;rw[e1,getElem?_eq_none Om];rfl
   have next:∀(G':Gh) (a':Act) (w':World),Cz G0 S0 w0 (D_ tmD o.dst (r j).v) (Cw SD (Ez r S j)) G' a' w'->wpAnyIn (Fw ro) 0 P .any ops Q fuel (listed.setIfInBounds j true) a' w':=by
    intro G' a' w' hz';have hDn:∀i,(listed.setIfInBounds j true).getD i false=if i=j then true else D i:=by
     intro i;by_cases e:i=j
     ·subst e;simp[show i<listed.size by omega]
     ·simp only[e,if_false,D,Array.getD_eq_getD_getElem?,Array.getElem?_setIfInBounds_ne (Ne.symm e)]
    refine ih _ _ _ G' a' w' (by simp[hsz]) ?_ (λi hi hD e he=>?_) ?_ (λt htl'=>?_) (by simp[hsl]) (λq hq=>?_) hz'
    ·have:=Qc (l:=listed.toList) (i:=j) (by simpa using hjf);simp only[Array.toList_setIfInBounds];omega
    ·rw[hDn]at hD ⊢;split
     ·rfl
     ·by_cases e':i=j
      ·subst e';rw[h1]at he;exact hjd e he
      ·rw[if_neg e']at hD;exact hcl i hi hD e he
    ·cases ho:o.dst<;>simp[D_,htl]
    ·have hcongr:∀f:Nat->Option AV,f j=none->Cm (λi=>(listed.setIfInBounds j true).getD i false) f n=Cm D f n:=λf hf=>Ej λi hi hne=>by
      rw[hDn];split
      ·rename_i e;subst e;exact(hne hf).elim
      ·rfl
     have hdj:dst j=o.dst:=by simp[dst,h2]
     by_cases hd:o.dst=some t
     ·have hf:fT dst r t j=some (r j).v:=by simp[fT,hdj,hd]
      have htn:t∈D3 o c:=by simp[D3,hd]
      rw[Rs (j:=j) (v:=(r j).v) hjn (by simp[hDn]) hf (λi h5 h6 h7=>by rw[hDn,if_neg Om];exact(htmp t htn).2 i h5 h6 h7)];simp[D_,hd,Yd,htl,htl']
     ·have hf:fT dst r t j=none:=by simp[fT,hdj,hd]
      rw[hcongr _ hf];show _=Yd (Cm (λi=>listed.getD i false) (fT dst r t) n) tm[t]?;rw[←ht t htl'];cases ho:o.dst with
      |none=>rfl
      |some d=>simp only[D_];rw[getElem?_set_ne];rintro rfl;exact hd ho
    ·by_cases hqw:q∈(Ez r S j).map (·.1)
     ·have hlt:=KL (hupd j hjn) hqw;have hf:fS r S q j=some ((sS r S (j+1))[q]'hlt):=by simp[fS,hqw]
      rw[Rs (j:=j) hjn (by simp[hDn]) hf (λi h5 h6 h7=>by rw[hDn,if_neg Om];exact hplace q (.inr hqw) i h5 h6 h7)];have hst:=Z7 (r:=r) (S:=S) j (hupd j hjn);have e3:=cG SD (sS r S j++List.replicate (r j).new.length .dead) (Ez r S j) hqw Om (by simp only[length_append,length_replicate];simp only[sS,length_append,Ir]at hlt;exact hlt);rw[e3,hst,getElem?_eq_getElem hlt];rfl
     ·have hf:fS r S q j=none:=by simp[fS,hqw]
      rw[Dv _ _ _ hqw,hs q hq];congr 3;refine Ej λi hi hne=>?_
      rw[hDn];split
      ·rename_i e;subst e;exact(hne hf).elim
      ·rfl
   have⟨hco,hg⟩:=hat j o c h1 h3;have hr:=hrec j o c h1 h3;have hwant:=QQ (ops:=ops) hz hg (λt wn e=>by
    have:t∈D3 o c:=by simp[D3,e]
    simp only[getD_eq_getElem?_getD,hsame t this];rfl) hr
   unfold wpOpIn;rw[h2];simp only[hwant];unfold GG at hr;cases hran:(r j).ran with
   |true=>
    rw[hran,if_pos rfl]at hr;have⟨_,he,hu,hrd,_⟩:=hr;simp only[if_true];refine Gl (Lm hco.1) ?_;refine he SD hread hfree G a w hz.left.wd (λx hx=>by rw[←hev x hx];exact hz.ev x) _ _ λv' w' G' hv hl=>next G' _ w' ?_
    exact hz.put hl hv o.dst
   |false=>
    rw[hran,if_neg Si]at hr;have⟨_,hv,hrd,hu,hnw⟩:=hr;simp only[Bool.false_eq_true,if_false];refine⟨λ_ _=>trivial,next G _ w ?_⟩;have:=hz.put (A1.refl hz.left.wd) (x:=.lit undef) (v:=undef) (.lit _) o.dst;rw[←hv]at this;have e0:Ez r S j=[]:=by simp[Ez,hu,hnw,Bw]
    rw[e0,NH];exact this
 have hSN:S.length≤N:=KS (r:=r) (S:=S) 0 n Om;have hLD:∀{α:Type} (f:Nat->Option α),Cm (λi=>(Array.replicate ops.size false).getD i false) f n=none:=by
  intro α f;refine OL λi hi hD=>?_
  have hlt:i<ops.size:=Om
  simp[hlt]at hD
 have hD0:=A1.dead hz.left.wd (N-S.length);have hzD:Cz G0 S0 w0 tm (S++List.replicate (N-S.length) .dead) G a {w with drawn:=w.drawn+1}:=by
  have hl:=hz.left.trans hD0;refine⟨⟨hl.le,hl.wd.drawn rfl,⟨hl.kept.os,hl.kept.tape,hl.kept.output,hl.kept.size,hl.kept.block⟩,hl.own,hl.still⟩,hz.size,hz.rep,hz.defers,hz.wd0⟩
 refine wpIn_region_any hmix (inv ops.size (Array.replicate ops.size false) tm (S++List.replicate (N-S.length) .dead) G a _ (by simp[hn]) (Nat.le_trans countP_le_length Si) (λi hi h=>by
  have:i<ops.size:=Om
  simp[this]at h) rfl (λt ht=>?_) ?_ (λq hq=>?_) hzD)
 ·rw[hLD];rfl
 ·simp;omega
 ·rw[hLD];simp only[Yd];by_cases hlt:q<S.length
  ·rw[getElem?_append_left hlt,getElem?_eq_getElem hlt];rfl
  ·rw[getElem?_append_right Om,getElem?_replicate,if_pos Om,getElem?_eq_none (show S.length≤q by omega)];rfl
end
inductive C where
 |skip
 |reg (ops:List RO) (u:List (Nat×Nat))
 |seq (a b:C)
 |cond (c:Operand) (a b:C)
 |block (id:Nat) (c:C)
 |loop (c:C)
 |exit (id:Nat)
 |scope (c:C)
 |label (l:Nat)
 |goto (l:Nat)
 |ret
 |rng (g:Operand) (ps:List Nat) (a b:C)
def AU (P:Program):Code->Option C
 | .skip=>some .skip
 | .region _ ops draw=>(Gy P ops draw).map λp=>.reg p.1 p.2
 | .seq a b=>match AU P a,AU P b with
   |some x,some y=>some (.seq x y)
   |_,_=>none
 | .cond c a b=>match AU P a,AU P b with
   |some x,some y=>some (.cond c x y)
   |_,_=>none
 | .block id c=>(AU P c).map (.block id)
 | .loop c=>(AU P c).map .loop
 | .exit id=>some (.exit id)
 | .scope c=>(AU P c).map .scope
 | .label l=>some (.label l)
 | .goto l=>some (.goto l)
 | .ret=>some .ret
 | .rangeFunc g ps a b=>match AU P a,AU P b with
   |some x,some y=>some (.rng g ps.toList x y)
   |_,_=>none
 |_=>none
abbrev QT:=Exit->List AV->List Ad->Prop
def Wk (m:Nat) (tm:List AV) (S:List Ad) (tm':List AV) (S':List Ad):Prop:=
 ∀G0 S0 w0 G a w,S0.length=m->Cz G0 S0 w0 tm S G a w->∃G',Cz G0 S0 w0 tm' S' G' a w
def Wk.refl (m:Nat) (tm:List AV) (S:List Ad):Wk m tm S tm S:=λ_ _ _ G _ _ _ h=>⟨G,h⟩
def Wk.trans {m:Nat} {tm tm' tm'':List AV} {S S' S'':List Ad} (h:Wk m tm S tm' S') (k:Wk m tm' S' tm'' S''):Wk m tm S tm'' S'':=λG0 S0 w0 G a w e hz=>by
 have⟨G',h'⟩:=h G0 S0 w0 G a w e hz;exact k G0 S0 w0 G' a w e h'
def AC (P:Program) (m:Nat) (code:Code) (tm:List AV) (S:List Ad) (Q:QT):Prop:=
 ∀G0 S0 w0 G a w,S0.length=m->Cz G0 S0 w0 tm S G a w->code.wp P (λe a' w'=>∃tm' S' G',Cz G0 S0 w0 tm' S' G' a' w'∧Q e tm' S') a w
def Oc (k:List AV->List Ad->Prop) (Q:QT):QT
 | .normal,tm,S=>k tm S
 |e,tm,S=>Q e tm S
def HF (id:Nat) (Q:QT):QT
 | .exit id',tm,S=>if id'=id then Q .normal tm S else Q (.exit id') tm S
 |e,tm,S=>Q e tm S
def aw (P:Program) (m:Nat):C->List AV->List Ad->QT->Prop
 | .skip,tm,S,Q=>Q .normal tm S
 | .reg ops u,tm,S,Q=>DR P ops u [] tm S (Q .normal)
 | .seq a b,tm,S,Q=>aw P m a tm S (Oc (λtm S=>aw P m b tm S Q) Q)
 | .cond c a b,tm,S,Q=>match ev tm c with
   | .lit (.bool t)=>(t=true->aw P m a tm S Q)∧(t=false->aw P m b tm S Q)
   |_=>False
 | .block id c,tm,S,Q=>aw P m c tm S (HF id Q)
 | .loop c,tm,S,Q=>∃I:Nat->List AV->List Ad->Prop,(∃n tm' S',Wk m tm S tm' S'∧I n tm' S')∧∀n tm S,I n tm S->aw P m c tm S (Oc (λtm' S'=>∃n' tm'' S'',Wk m tm' S' tm'' S''∧I n' tm'' S''∧n'<n) Q)
 | .exit id,tm,S,Q=>Q (.exit id) tm S
 | .scope c,tm,S,Q=>∀code,AU P code=some c->AC P m (.scope code) tm S Q
 | .label _,tm,S,Q=>∃tm' S',Wk m tm S tm' S'∧Q .normal tm' S'
 | .goto l,tm,S,Q=>Q (.goto l) tm S
 | .ret,tm,S,Q=>Q .ret tm S
 | .rng g ps ca cb,tm,S,Q=>∀a b,AU P a=some ca->AU P b=some cb->AC P m (.rangeFunc g ps.toArray a b) tm S Q
def I4 {P:Program} {m:Nat}:∀(code:Code) (c:C),AU P code=some c->∀(tm:List AV) (S:List Ad) (Q:QT),aw P m c tm S Q->AC P m code tm S Q:=by
 intro code
 induction code with
 |skip=>
  intro c hc tm S Q h G0 S0 w0 G a w hm hz;simp only[AU]at hc;injection hc with hc;subst hc;exact wp_skip ⟨_,_,G,hz,h⟩
 |region id ops draw=>
  intro c hc tm S Q h G0 S0 w0 G a w hm hz;simp only[AU]at hc;cases hr:Gy P ops draw with
  |none=>simp[hr]at hc
  |some p=>
   have⟨cs,u⟩:=p;simp[hr]at hc;subst hc;cases draw with
   |true=>exact wpIn_wide.1 (UN (ro:=none) hr hz h _ λtm' S' G' a' w' hz' hq=>⟨_,_,G',hz',hq⟩)
   |false=>
    simp only[Gy]at hr;cases hcs:Gz P ops with
    |none=>simp[hcs]at hr
    |some cs'=>
     simp[hcs]at hr;obtain⟨rfl,rfl⟩:=hr;exact wpIn_wide.1 (UM (ro:=none) hcs hz h _ λtm' S' G' a' w' hz' hq=>⟨_,_,G',hz',hq⟩)
 |seq a b iha ihb=>
  intro c hc tm S Q h G0 S0 w0 G act w hm hz;simp only[AU]at hc;split at hc
  ·rename_i x y hx hy;injection hc with hc;subst hc;refine wp_seq (wp_mono (iha x hx tm S _ h G0 S0 w0 G act w hm hz) λe a' w' hq=>?_);have⟨tm',S',G',hz',hq⟩:=hq;cases e with
   |normal=>exact ihb y hy tm' S' Q hq G0 S0 w0 G' a' w' hm hz'
   |_=>exact⟨tm',S',G',hz',hq⟩
  ·cases hc
 |cond x a b iha ihb=>
  intro c hc tm S Q h G0 S0 w0 G act w hm hz;simp only[AU]at hc;split at hc
  ·rename_i x' y hx hy;injection hc with hc;subst hc;simp only[aw]at h;split at h
   ·rename_i t ht;have r:=hz.ev x;rw[ht]at r;refine wp_cond (N6 r) ?_;cases t with
    |true=>exact iha x' hx tm S Q (h.1 rfl) G0 S0 w0 G act w hm hz
    |false=>exact ihb y hy tm S Q (h.2 rfl) G0 S0 w0 G act w hm hz
   ·exact h.elim
  ·cases hc
 |block id b ih=>
  intro c hc tm S Q h G0 S0 w0 G a w hm hz;simp only[AU]at hc;cases hb:AU P b with
  |none=>simp[hb]at hc
  |some x=>
   simp[hb]at hc;subst hc;refine wp_block (wp_mono (ih x hb tm S _ h G0 S0 w0 G a w hm hz) λe a' w' hq=>?_);have⟨tm',S',G',hz',hq⟩:=hq;cases e with
   |exit id'=>
    simp only[HF]at hq;simp only[Exit.inBlock];split
    ·rename_i e;rw[if_pos e]at hq;exact⟨tm',S',G',hz',hq⟩
    ·rename_i e;rw[if_neg e]at hq;exact⟨tm',S',G',hz',hq⟩
   |_=>exact⟨tm',S',G',hz',hq⟩
 |loop b ih=>
  intro c hc tm S Q h G0 S0 w0 G a w hm hz;simp only[AU]at hc;cases hb:AU P b with
  |none=>simp[hb]at hc
  |some x=>
   simp[hb]at hc;subst hc;have⟨I,⟨n0,tm0,S1,hw0,h0⟩,hround⟩:=h;have⟨G1,hz1⟩:=hw0 G0 S0 w0 G a w hm hz;have key:∀(n:Nat) (tm:List AV) (S:List Ad) (G:Gh) (a:Act) (w:World),I n tm S->Cz G0 S0 w0 tm S G a w->
    ∀(b':Frame) (k:List Item) (cs:List Frame),∃e a' w',(∃tm' S' G',Cz G0 S0 w0 tm' S' G' a' w'∧Q e tm' S')∧Arrives P (lone (b'.at a (.code b::.inLoop b::k)) cs w) b' k cs e a' w':=by
    intro n
    induction n using Nat.strongRecOn with
    |_ n ihn=>
     intro tm S G a w hI hz b' k cs;have⟨e,a₁,w₁,⟨tm',S',G',hz',hq⟩,harr⟩:=ih x hb tm S _ (hround n tm S hI) G0 S0 w0 G a w hm hz b' (.inLoop b::k) cs;cases e with
     |normal=>
      have⟨n',tm'',S'',hwk,hI',hlt⟩:=hq;have⟨G'',hz''⟩:=hwk G0 S0 w0 G' a₁ w₁ hm hz';have⟨e₂,a₂,w₂,hq₂,harr₂⟩:=ihn n' hlt tm'' S'' G'' a₁ w₁ hI' hz'' b' k cs;exact⟨e₂,a₂,w₂,hq₂,.of_steps (Steps.trans harr (.one step_inLoop)) harr₂⟩
     |exit id=>exact⟨_,a₁,w₁,⟨tm',S',G',hz',hq⟩,.pass (x:=.inLoop b) rfl (λ_ _=>.inl Si) harr⟩
     |goto l=>exact⟨_,a₁,w₁,⟨tm',S',G',hz',hq⟩,.pass (x:=.inLoop b) rfl (λ_ _=>.inl Si) harr⟩
     |ret=>exact⟨_,a₁,w₁,⟨tm',S',G',hz',hq⟩,.pass (x:=.inLoop b) rfl (λ_ _=>.inl Si) harr⟩
     |panic ch=>exact⟨_,a₁,w₁,⟨tm',S',G',hz',hq⟩,.pass (x:=.inLoop b) rfl (λ_ _=>.inl Si) harr⟩
     |outgrown=>exact⟨_,a₁,w₁,⟨tm',S',G',hz',hq⟩,.pass (x:=.inLoop b) rfl (λ_ _=>.inl Si) harr⟩
   intro b' k cs;have⟨e,a',w',hq,harr⟩:=key n0 tm0 S1 G1 a w h0 hz1 b' k cs;exact⟨e,a',w',hq,.of_steps (.one step_loop) harr⟩
 |exit id=>
  intro c hc tm S Q h G0 S0 w0 G a w hm hz;simp only[AU]at hc;injection hc with hc;subst hc;exact wp_exit ⟨_,_,G,hz,h⟩
 |scope b ih=>
  intro c hc tm S Q h;simp only[AU]at hc;cases hb:AU P b with
  |none=>simp[hb]at hc
  |some x=>simp[hb]at hc;subst hc;exact h b hb
 |label l=>
  intro c hc tm S Q h G0 S0 w0 G a w hm hz;simp only[AU]at hc;injection hc with hc;subst hc;have⟨tm',S',hwk,hq⟩:=h;have⟨G',hz'⟩:=hwk G0 S0 w0 G a w hm hz;exact wp_label ⟨_,_,G',hz',hq⟩
 |goto l=>
  intro c hc tm S Q h G0 S0 w0 G a w hm hz;simp only[AU]at hc;injection hc with hc;subst hc;exact wp_goto ⟨_,_,G,hz,h⟩
 |ret=>
  intro c hc tm S Q h G0 S0 w0 G a w hm hz;simp only[AU]at hc;injection hc with hc;subst hc;exact wp_ret ⟨_,_,G,hz,h⟩
 |rangeFunc f ps x y _ _=>
  intro c hc tm S Q h;simp only[AU]at hc;split at hc
  ·rename_i x' y' hx hy;injection hc with hc;subst hc;have:=h x y hx hy;simpa using this
  ·cases hc
 |refuse s=>intro c hc;simp[AU]at hc
def Hf:C->Nat->Option C
 | .seq a b,l=>match Hf a l with
   |some r=>some (.seq r b)
   |none=>Hf b l
 | .label l',l=>if l'==l then some .skip else none
 |_,_=>none
def Y3 {P:Program}:∀(code:Code) (c:C) (l:Nat),AU P code=some c->(∀r,Hf c l=some r->∃rest,findLabel code l=some rest∧AU P rest=some r)∧(Hf c l=none->findLabel code l=none):=by
 intro code
 induction code with
 |seq a b iha ihb=>
  intro c l hc;simp only[AU]at hc;split at hc
  ·rename_i x y hx hy;injection hc with hc;subst hc;have⟨a1,a2⟩:=iha x l hx;have⟨b1,b2⟩:=ihb y l hy;simp only[Hf,findLabel];cases hfa:Hf x l with
   |some r=>
    have⟨rest,h1,h2⟩:=a1 r hfa;refine⟨λr' h=>?_,λh=>by cases h⟩;injection h with h;subst h;exact⟨.seq rest b,by rw[h1],by simp[AU,h2,hy]⟩
   |none=>
    rw[a2 hfa];exact⟨λr' h=>b1 r' h,λh=>b2 h⟩
  ·cases hc
 |label l'=>
  intro c l hc;simp only[AU]at hc;injection hc with hc;subst hc;simp only[Hf,findLabel];split
  ·exact⟨λr h=>⟨.skip,rfl,by injection h with h;subst h;rfl⟩,λh=>by cases h⟩
  ·exact⟨λr h=>(by cases h),λ_=>rfl⟩
 |skip=>intro c l hc;simp only[AU]at hc;injection hc with hc;subst hc;exact⟨λr h=>(by cases h),λ_=>rfl⟩
 |region id ops d=>
  intro c l hc;simp only[AU]at hc;cases hr:Gy P ops d with
  |none=>simp[hr]at hc
  |some p=>simp[hr]at hc;subst hc;exact⟨λr h=>(by cases h),λ_=>rfl⟩
 |cond x a b _ _=>
  intro c l hc;simp only[AU]at hc;split at hc
  ·injection hc with hc;subst hc;exact⟨λr h=>(by cases h),λ_=>rfl⟩
  ·cases hc
 |block id b _=>
  intro c l hc;simp only[AU]at hc;cases hb:AU P b with
  |none=>simp[hb]at hc
  |some p=>simp[hb]at hc;subst hc;exact⟨λr h=>(by cases h),λ_=>rfl⟩
 |loop b _=>
  intro c l hc;simp only[AU]at hc;cases hb:AU P b with
  |none=>simp[hb]at hc
  |some p=>simp[hb]at hc;subst hc;exact⟨λr h=>(by cases h),λ_=>rfl⟩
 |scope b _=>
  intro c l hc;simp only[AU]at hc;cases hb:AU P b with
  |none=>simp[hb]at hc
  |some p=>simp[hb]at hc;subst hc;exact⟨λr h=>(by cases h),λ_=>rfl⟩
 |exit id=>intro c l hc;simp only[AU]at hc;injection hc with hc;subst hc;exact⟨λr h=>(by cases h),λ_=>rfl⟩
 |goto id=>intro c l hc;simp only[AU]at hc;injection hc with hc;subst hc;exact⟨λr h=>(by cases h),λ_=>rfl⟩
 |ret=>intro c l hc;simp only[AU]at hc;injection hc with hc;subst hc;exact⟨λr h=>(by cases h),λ_=>rfl⟩
 |rangeFunc f ps x y _ _=>
  intro c l hc;simp only[AU]at hc;split at hc
  ·injection hc with hc;subst hc;simp[Hf,findLabel]
  ·cases hc
 |refuse s=>intro c l hc;simp[AU]at hc
def Aao (m:Nat) (J:Nat->List AV->List Ad->Prop) (Q:QT):QT
 | .goto l,tm,S=>∃tm' S',Wk m tm S tm' S'∧J l tm' S'
 |e,tm,S=>Q e tm S
def J2 {P:Program} {m:Nat} {c:C} {tm:List AV} {S:List Ad} {Q:QT} (J:Nat->Nat->List AV->List Ad->Prop) (first:aw P m c tm S (Aao m (λl tm S=>∃n,J n l tm S) Q))
 (pass:∀n l tm S,J n l tm S->∃r,Hf c l=some r∧aw P m r tm S (Aao m (λl' tm' S'=>∃n',J n' l' tm' S'∧n'<n) Q)):aw P m (.scope c) tm S Q:=by
 intro code hc G0 S0 w0 G a w hm hz;have key:∀(n:Nat) (l:Nat) (tm:List AV) (S:List Ad) (G:Gh) (a:Act) (w:World),J n l tm S->Cz G0 S0 w0 tm S G a w->∃rest,findLabel code l=some rest∧
  ∀(b:Frame) (k:List Item) (cs:List Frame),∃e a' w',(∃tm' S' G',Cz G0 S0 w0 tm' S' G' a' w'∧Q e tm' S')∧Arrives P (lone (b.at a (.code rest::.inScope code::k)) cs w) b k cs e a' w':=by
  intro n
  induction n using Nat.strongRecOn with
  |_ n ih=>
   intro l tm S G a w hJ hz;have⟨r,hr,hpass⟩:=pass n l tm S hJ;have⟨rest,hrest,hcr⟩:=(Y3 code c l hc).1 r hr;refine⟨rest,hrest,λb k cs=>?_⟩;have⟨e,a₁,w₁,⟨tm',S',G',hz',hq⟩,harr⟩:=I4 rest r hcr tm S _ hpass G0 S0 w0 G a w hm hz b (.inScope code::k) cs;cases e with
   |normal=>exact⟨.normal,a₁,w₁,⟨tm',S',G',hz',hq⟩,Steps.trans harr (.one step_inScope)⟩
   |exit id=>exact⟨.exit id,a₁,w₁,⟨tm',S',G',hz',hq⟩,λk' hk=>harr k' (by simp[exitTo,hk])⟩
   |goto l'=>
    have⟨tm'',S'',hwk,n',hJ',hlt⟩:=hq;have⟨G'',hz''⟩:=hwk G0 S0 w0 G' a₁ w₁ hm hz';have⟨rest',hrest',hgo⟩:=ih n' hlt l' tm'' S'' G'' a₁ w₁ hJ' hz'';have⟨e₂,a₂,w₂,hq₂,harr₂⟩:=hgo b k cs;exact⟨e₂,a₂,w₂,hq₂,.of_steps (harr _ (by simp[gotoIn,hrest'])) harr₂⟩
   |ret=>exact⟨_,a₁,w₁,⟨tm',S',G',hz',hq⟩,harr⟩
   |panic ch=>exact⟨_,a₁,w₁,⟨tm',S',G',hz',hq⟩,harr⟩
   |outgrown=>exact⟨_,a₁,w₁,⟨tm',S',G',hz',hq⟩,harr⟩
 intro b k cs;have⟨e,a₁,w₁,⟨tm',S',G',hz',hq⟩,harr⟩:=I4 code c hc tm S _ first G0 S0 w0 G a w hm hz b (.inScope code::k) cs
 cases e with
 |normal=>exact⟨.normal,a₁,w₁,⟨tm',S',G',hz',hq⟩,.head step_scope (Steps.trans harr (.one step_inScope))⟩
 |exit id=>exact⟨.exit id,a₁,w₁,⟨tm',S',G',hz',hq⟩,λk' hk=>.head step_scope (harr k' (by simp[exitTo,hk]))⟩
 |goto l'=>
  have⟨tm'',S'',hwk,n',hJ'⟩:=hq;have⟨G'',hz''⟩:=hwk G0 S0 w0 G' a₁ w₁ hm hz';have⟨rest',hrest',hgo⟩:=key n' l' tm'' S'' G'' a₁ w₁ hJ' hz'';have⟨e₂,a₂,w₂,hq₂,harr₂⟩:=hgo b k cs;exact⟨e₂,a₂,w₂,hq₂,.of_steps (.head step_scope (harr _ (by simp[gotoIn,hrest']))) harr₂⟩
 |ret=>exact⟨_,a₁,w₁,⟨tm',S',G',hz',hq⟩,.of_steps (.one step_scope) harr⟩
 |panic ch=>exact⟨_,a₁,w₁,⟨tm',S',G',hz',hq⟩,.of_steps (.one step_scope) harr⟩
 |outgrown=>exact⟨_,a₁,w₁,⟨tm',S',G',hz',hq⟩,.of_steps (.one step_scope) harr⟩
inductive RV where
 |tmp (t:Nat)
 |cell (t:Nat) (n:Option Nat)
def JS (P:Program) (fn:Func):Option (List RV):=
 M0 (λr:ResultVar=>match r with
  | .tmp t=>some (.tmp t)
  | .cell a t=>(DZ P t).map λn=>.cell a n) fn.results.toList
def EH (n:Option Nat) (x:AV) (S:List Ad):Option AV:=
 match x with
 | .iptr cs=>match n with
   |none=>cs.head?
   |some n=>if n≤cs.length then some (.agg (cs.take n))else none
 | .ref i o=>match S[i]? with
   |some (.cells xs)=>match n with
    |none=>xs[o]?
    |some n=>if o+n≤xs.length then some (.agg ((xs.drop o).take n))else none
   |_=>none
 |_=>none
def EE (tm:List AV) (S:List Ad):RV->Option AV
 | .tmp t=>some (tm.getD t .any)
 | .cell t n=>EH n (tm.getD t .any) S
def Ci (tm:List AV) (S:List Ad):List RV->Option (List AV)
 |[]=>some []
 |r::rs=>match EE tm S r,Ci tm S rs with
  |some x,some xs=>some (x::xs)
  |_,_=>none
def CM (xs:List AV):AV:=match xs with
 |[x]=>x
 |xs=>.tup xs
def A6 (P:Program) (m:Nat) (fn:Func) (tm:List AV) (S:List Ad) (r:AV) (S':List Ad):Prop:=
 ∀G0 S0 w0 G a w,S0.length=m->Cz G0 S0 w0 tm S G a w->∃v G',(results fn a.tmps).run P w=.ok v w∧Bv G' r v∧A1 G0 S0 w0 G' S' w
def A6.wk {P:Program} {m:Nat} {fn:Func} {tm tm':List AV} {S S' S'':List Ad} {r:AV} (h:Wk m tm S tm' S') (k:A6 P m fn tm' S' r S''):A6 P m fn tm S r S'':=λG0 S0 w0 G a w e hz=>by
 have⟨G',h'⟩:=h G0 S0 w0 G a w e hz;exact k G0 S0 w0 G' a w e h'
def dT {P:Program} {t:TypeId} {n:Option Nat} (hn:DZ P t=some n) {G:Gh} {S:List Ad} {w:World} (hw:Wd G S w) {x y:AV} {v:Value} (h:EH n x S=some y) (r:Bv G x v):
 ∃ad u,v=.pointer (some ad)∧(loadVar t ad).run P w=.ok u w∧Bv G y u:=by
 unfold EH at h;split at h
 ·rename_i cs;cases r with
  | @iptr _ b off vs h1 h2 h3=>
    refine⟨⟨b,off,none⟩,?_⟩;cases n with
    |none=>
     cases cs with
     |nil=>simp at h
     |cons c cs=>
      simp at h;subst h;have h0:=hw.imm _ _ _ (h1 0 Si);exact⟨_,rfl,Dc hn (by simpa using h0),h3 0 _ Si⟩
    |some n=>
     simp only at h;split at h
     ·rename_i hle;injection h with h;subst h;refine⟨_,rfl,Dd hn vs λj hj=>by rw[BM];exact hw.imm _ _ _ (h1 j Om),DU vs (by simp;omega) (λj hj=>h2 j Om) λj y hy=>h3 j y ?_⟩;rw[getElem?_take]at hy;split at hy<;>simp_all
     ·cases h
 ·rename_i i off;cases r with
  | @ref _ _ b hb=>
    refine⟨⟨b,off,none⟩,?_⟩;split at h
    ·rename_i xs hS;have⟨b',cs,t',g1,g2,g3,g4,_⟩:=hw.obj i xs hS;rw[hb]at g1;injection g1 with g1;subst g1;cases n with
     |none=>
      have hlt:off<cs.size:=by rw[g3];exact(Ge h)
      have hc:cs[off]? =some cs[off]:=Array.getElem?_eq_getElem hlt;exact⟨_,rfl,Dc hn ((D6 g2 off).trans hc),(g4 off y _ h hc).2⟩
     |some n=>
      simp only at h;split at h
      ·rename_i hle;injection h with h;subst h;have hc:∀j,j<n->cs[off+j]? =some (cs.getD (off+j) undef):=λj hj=>by
        rw[Array.getElem?_eq_getElem (show off+j<cs.size by omega)];simp[show off+j<cs.size by omega]
       refine⟨_,rfl,Dd hn (λj=>cs.getD (off+j) undef) λj hj=>by rw[BM];exact(D6 g2 _).trans (hc j hj),DU _ (by simp;omega) (λj hj=>?_) λj y hy=>?_⟩
       ·exact(g4 (off+j) _ _ (getElem?_eq_getElem (show off+j<xs.length by omega)) (hc j hj)).1
       ·have hjn:j<n:=by
         rcases Nat.lt_or_ge j n with h|h
         ·exact h
         ·rw[getElem?_take,if_neg Om]at hy;cases hy
        refine(g4 (off+j) y _ ?_ (hc j hjn)).2;rw[getElem?_take,if_pos hjn,getElem?_drop]at hy;exact hy
      ·cases h
    ·cases h
 ·cases h
def UF {P:Program} {fn:Func} {rv:List RV} (hr:JS P fn=some rv) {tm:List AV} {S:List Ad} {xs:List AV} (h:Ci tm S rv=some xs) {G0:Gh} {S0:List Ad} {w0:World} {G:Gh} {a:Act} {w:World} (hz:Cz G0 S0 w0 tm S G a w):
 ∃v,(results fn a.tmps).run P w=.ok v w∧Bv G (CM xs) v:=by
 obtain⟨F,hF⟩:∃F:ResultVar->Sem Value,F=(λr=>match r with
  | .tmp t=>pure (a.tmps.getD t undef)
  | .cell q t=>do loadVar t (←asAddr (a.tmps.getD q undef))):=⟨_,rfl⟩
 have hFt:∀t,F (.tmp t)=pure (a.tmps.getD t undef):=λt=>by rw[hF]
 have hFc:∀q t,F (.cell q t)=(do loadVar t (←asAddr (a.tmps.getD q undef)):Sem Value):=λq t=>by rw[hF]
 have key:∀(rs:List ResultVar) (rv:List RV) (xs:List AV),M0 (λr:ResultVar=>match r with
  | .tmp t=>some (.tmp t)
  | .cell a t=>(DZ P t).map λn=>.cell a n) rs=some rv->Ci tm S rv=some xs->∃vs:List Value,(rs.mapM F).run P w=.ok vs w∧Cg G xs vs:=by
  intro rs
  induction rs with
  |nil=>intro rv xs h1 h2;simp[M0]at h1;subst h1;simp[Ci]at h2;subst h2;exact⟨[],Si,Cg.nil _⟩
  |cons r rs ih=>
   intro rv xs h1 h2;simp only[M0]at h1;split at h1
   ·rename_i y ys hy hys;injection h1 with h1;subst h1;simp only[Ci]at h2;split at h2
    ·rename_i x xs' hx hxs;injection h2 with h2;subst h2;have⟨vs,hv,hrep⟩:=ih ys xs' hys hxs;cases r with
     |tmp t=>
      injection hy with hy;subst hy;simp only[EE]at hx;injection hx with hx;subst hx;have:=hz.ev (.tmp t);simp only[ev,Act.eval]at this;exact⟨_,by rw[mapM_cons];simp only[Sem.run_bind,hFt,Sem.run_pure,Result.andThen_ok,hv],Cg.cons this hrep⟩
     |cell q t=>
      simp only at hy;cases hn:DZ P t with
      |none=>simp[hn]at hy
      |some n=>
       simp[hn]at hy;subst hy;simp only[EE]at hx;have:=hz.ev (.tmp q);simp only[ev,Act.eval]at this;have⟨ad,u,e1,e2,e3⟩:=dT (P:=P) hn hz.left.wd hx this;refine⟨u::vs,?_,Cg.cons e3 hrep⟩;rw[mapM_cons];simp only[Sem.run_bind,hFc,e1,asAddr,Sem.run_pure,Result.andThen_ok,e2,hv]
    ·cases h2
   ·cases h1
 have⟨vs,hv,hrep⟩:=key fn.results.toList rv xs hr h;have hm:(fn.results.mapM F).run P w=.ok vs.toArray w:=by
  rw[Array.mapM_eq_mapM_toList];simp only[Sem.run_map,hv,Result.andThen_ok]
 have e:results fn a.tmps=(do let vs ←fn.results.mapM F;pure (if h:vs.size=1 then vs[0]else .tuple vs)):=by rw[hF];rfl
 rw[e];simp only[Sem.run_bind,hm,Result.andThen_ok,Sem.run_pure];refine⟨_,rfl,?_⟩
 match xs,vs,hrep with
 |[x],[v],hrep=>exact hrep.2 0 x v rfl rfl
 |[],[],_=>exact .tup rfl (λj x v h=>by simp at h)
 |x::y::xs,v::u::vs,hrep=>
  have:¬(v::u::vs).toArray.size=1:=by simp
  rw[dif_neg this];exact .tup (by simpa using hrep.1) (λj x v hx hv=>hrep.2 j x v hx (by simpa using hv))
 |[],_::_,hrep=>simpa using hrep.1
 |_::_,[],hrep=>simpa using hrep.1
 |[_],_::_::_,hrep=>simpa using hrep.1
 |_::_::_,[_],hrep=>simpa using hrep.1
def A6.res {P:Program} {m:Nat} {fn:Func} {rv:List RV} (hr:JS P fn=some rv) {tm:List AV} {S:List Ad} {xs:List AV} (h:Ci tm S rv=some xs):A6 P m fn tm S (CM xs) S:=λG0 S0 w0 G a w _ hz=>by
 have⟨v,h1,h2⟩:=UF hr h hz;exact⟨v,G,h1,h2,hz.left⟩
def A6.sel {P:Program} {m:Nat} {fn:Func} {tm:List AV} {S S':List Ad} {r r':AV} (h:A6 P m fn tm S r' S) (ids:List Nat) (hn:ids.Nodup) (hl:ids.length=S'.length) (hm:m≤S'.length)
 (hp:∀(k i:Nat),k<m->ids[k]? =some i->i=k) (hT:∀(k:Nat) (o:Ad),S'[k]? =some o->∃i,ids[k]? =some i∧S[i]? =some (o.ren (AH ids S.length))) (hr:r.ren (AH ids S.length)=r'):A6 P m fn tm S r S':=λG0 S0 w0 G a w e hz=>by
 have⟨v,G',hv,hrep,hs⟩:=h G0 S0 w0 G a w e hz;have hD:∀(k i:Nat),S'.length≤k->ids[k]? =some i->S[i]? =some .dead:=λk i hk hi=>by
  rw[getElem?_eq_none Om]at hi;cases hi
 have⟨hwd,hblk⟩:=Wd.pull hs.wd ids hn Om hT hD;have hid:∀k,k<m->AH ids S.length k=k:=λk hk=>by
  have e:ids[k]? =some (ids[k]'Om):=by simp
  rw[Nv e];exact hp k _ hk e
 have hw0:∀i,m≤i->G0.loc i=none∧∀n,G0.hist i n=none:=λi hi=>hz.wd0.dom i (.inl (getElem?_eq_none Om))
 refine⟨v,_,hv,hrep.pull r hr,⟨⟨hs.le.imm,λi b hb=>?_,λi n u hb=>?_⟩,hwd,hs.kept,λi b hb=>?_,hs.still⟩⟩
 ·have hi:i<m:=by
   rcases Nat.lt_or_ge i m with h|h
   ·exact h
   ·rw[(hw0 i h).1]at hb;cases hb
  show G'.loc (AH ids S.length i)=_;rw[hid i hi];exact hs.le.loc i b hb
 ·have hi:i<m:=by
   rcases Nat.lt_or_ge i m with h|h
   ·exact h
   ·rw[(hw0 i h).2]at hb;cases hb
  show G'.hist (AH ids S.length i) n=_;rw[hid i hi];exact hs.le.hist i n u hb
 ·rcases hblk i with h|h
  ·rw[h]at hb;cases hb
  ·rw[h]at hb;exact hs.own _ b hb
def Ah.body {P:Program} {f:FuncId} {fn:Func} {code:Code} {c:C} {args:List AV} {S:List Ad} {r:AV} {S':List Ad} (hf:P.funcs[f]? =some fn) (hb:fn.body=some code) (hname:(fn.name== "runtime.NumGoroutine")=false) (hc:AU P code=some c)
 (h:aw P S.length c (args++List.replicate (fn.ntmps-args.length) .any) S λe tm S1=>(e=.ret∨e=.normal)∧A6 P S.length fn tm S1 r S'):Ah P f args S r S':=by
 refine⟨⟨fn,hf,by simp[hb],hname⟩,λG w vs hw hr=>?_⟩;refine(callsIn_wide (n:=0)).1 (callsIn_of_wp_marks hf hb trivial ?_);have hsz:vs.size=args.length:=by simpa using hr.1.symm
 have hz:Cz G S w (args++List.replicate (fn.ntmps-args.length) .any) S G {tmps:=vs++Array.replicate (fn.ntmps-vs.size) undef,defers:=[]} w:=by
  refine⟨A1.refl hw,by simp[hsz],λt x v hx hv=>?_,JV.nil _ _,hw⟩;rw[getElem?_append]at hx;split at hx
  ·rename_i ht;simp only[Array.getElem?_append]at hv;rw[if_pos Om]at hv;exact hr.2 t x v hx (by simpa using hv)
  ·rw[getElem?_replicate]at hx;split at hx
   ·injection hx with hx;subst hx;exact .any v
   ·cases hx
 refine wpIn_wide.2 (wp_mono (I4 code c hc _ S _ h G S w G _ w rfl hz) λe a' w' hq=>?_);have⟨tm',S1,G',hz',he,hfin⟩:=hq;have key:∀(ds:List Deferred) (w':World),Cz G S w tm' S1 G' {a' with defers:=ds} w'->LeavesInM Fence.wide 0 P fn a'.tmps (λe w'=>∃v G',e=.returned v∧Bv G' r v∧A1 G S w G' S' w') ds .returning w':=by
  intro ds
  induction ds with
  |nil=>
   intro w' hz';have⟨v,G'',hv,hrep,hleft⟩:=hfin G S w G' _ w' rfl hz';exact⟨v,hv,v,G'',rfl,hrep,hleft⟩
  |cons d ds ih=>
   intro w' hz';have⟨Ds,h1,h2,h3⟩:=hz'.defers;cases Ds with
   |nil=>cases h2
   |cons D Ds=>
    simp only[map_cons,List.cons.injEq]at h2;obtain⟨rfl,h2⟩:=h2;have hD:=h3 D Si;refine⟨Si,.inl ⟨D,w'.putObj D (.deferred none),rfl,run_takeDeferred hD.2,ih _ ?_⟩⟩;have hl:=hz'.left;refine⟨⟨hl.le,hl.wd.turnOut hD.2,⟨hl.kept.os,hl.kept.tape,hl.kept.output,by simpa[World.putObj]using hl.kept.size,λi hi hu=>?_⟩,hl.own,hl.still⟩,hz'.size,hz'.rep,⟨Ds,(nodup_cons.1 h1).2,h2,λD' hD'=>⟨(h3 D' (by simp[hD'])).1,?_⟩⟩,hz'.wd0⟩
    ·rw[World.putObj_heap_other Om];exact hl.kept.block i hi hu
    ·rw[World.putObj_heap_other (by rintro rfl;exact(nodup_cons.1 h1).1 hD')];exact(h3 D' (by simp[hD'])).2
 rcases he with rfl|rfl
 ·exact key a'.defers w' hz'
 ·exact key a'.defers w' hz'
def zM (a d:Nat):RO:=(none,.mov (.tmp a),some d)
def zV (v:Value) (d:Nat):RO:=(none,.mov (.const v),some d)
def zF (o a d:Nat):RO:=(none,.fadr o (.tmp a),some d)
def zL (a d:Nat):RO:=(none,.load none (.tmp a),some d)
def zN (n a d:Nat):RO:=(none,.load (some n) (.tmp a),some d)
def zS (n a b:Nat):RO:=(none,.store n (.tmp a) (.tmp b),none)
def zC (f:FuncId) (xs:List Nat) (d:Nat):RO:=(none,.call (.func f) (xs.map .tmp),some d)
def zE (a i d:Nat):RO:=(none,.ext (.tmp a) i,some d)
def zU (a d:Nat):RO:=(none,.len false (.tmp a),some d)
def zB (op:BinOp) (a b d:Nat):RO:=(none,.bin op (.tmp a) (.tmp b),some d)
def zI (op:BinOp) (a:Nat) (n:Int) (d:Nat):RO:=(none,.bin op (.tmp a) (.const (.int .i64 n)),some d)
def zJ (k a i d:Nat):RO:=(none,.iadr k (.tmp a) (.tmp i),some d)
def zG (t:Nat) (w:Bool) (r:RO):RO:=(some (t,w),r.2)
def Aek (t:Nat) (w:Bool) (g:Option (Nat×Bool)) (r:I×Option Nat):zG t w (g,r)=(some (t,w),r):=rfl
def Ct (P:Program) (f:FuncId) (args:List AV) (rd:List (Nat×Ad)) (r:Nat->AV) (upd:List (Nat×Ad)) (new:Nat->List Ad):Prop:=
 ∀T n,(∀p∈rd,T[p.1]? =some p.2)->(∀p∈Bw n (new n),T[p.1]? =some .dead)->Ah P f args T (r n) (Cw T (upd++Bw n (new n)))
def Aa.of {P:Program} {f:FuncId} {args:List AV} {rd:List (Nat×Ad)} {r:Nat->AV} {upd:List (Nat×Ad)} {new:Nat->List Ad} {S:List Ad} {K:KT} (h:Ct P f args rd r upd new) (hrd:∀p∈rd,S[p.1]? =some p.2)
 (hu:∀p∈upd,p.1∈rd.map (·.1)) (hK:K (r S.length) (rd.map (·.1)) upd (new S.length)):Aa P f args S K:=by
 refine⟨_,_,_,_,λT hT _ hd=>h T S.length (λp hp=>?_) hd,hu,λi hi=>?_,hK⟩
 ·rw[hT p.1 (mem_map.2 ⟨p,hp,rfl⟩)];exact hrd p hp
 ·obtain⟨p,hp,rfl⟩:=mem_map.1 hi;exact(Ge (hrd p hp))
def cF (T:List Ad) (u:List (Nat×Ad)) (h:∀p∈u,T[p.1]? =some p.2):Cw T u=T:=by
 induction u with
 |nil=>rfl
 |cons p u ih=>
  have:T.set p.1 p.2=T:=by
   apply ext_getElem?;intro q;by_cases e:q=p.1
   ·subst e;have hp:=h p Si;rw[getElem?_set_self (Ge hp),hp]
   ·rw[getElem?_set_ne (Ne.symm e)]
  rw[CR,this];exact ih λq hq=>h q (by simp[hq])
def IF (n:Nat) (l:List Ad):Bw n l=(range' n l.length).zip l:=by
 induction l generalizing n with
 |nil=>rfl
 |cons o l ih=>simp[Bw,ih,range'_succ]
def Ct.mk {P:Program} {f:FuncId} {args args₀:List AV} {S₀ S₁:List Ad} {r₀:AV} {r:Nat->AV} {rd upd:List (Nat×Ad)} {new:Nat->List Ad} (h:Ah P f args₀ S₀ r₀ S₁) (is:List Nat) (hn:is.Nodup) (hl:is.length=S₀.length) (hSl:S₀.length≤S₁.length)
 (hal:∀o∈S₀,o≠ .dead) (ha:∀n N,args₀.map (λx=>x.ren (AH (is++range' n (S₁.length-S₀.length)) N))=args) (hr:∀n N,r₀.ren (AH (is++range' n (S₁.length-S₀.length)) N)=r n)
 (hrd:∀n N,is.zip (S₀.map λo=>o.ren (AH (is++range' n (S₁.length-S₀.length)) N))=rd)
 (hupd:(∀n N,is.zip ((S₁.take S₀.length).map λo=>o.ren (AH (is++range' n (S₁.length-S₀.length)) N))=upd)∨upd=[]∧S₁.take S₀.length=S₀)
 (hnew:∀n N,((S₁.drop S₀.length).map λo=>o.ren (AH (is++range' n (S₁.length-S₀.length)) N))=new n):Ct P f args rd r upd new:=by
 intro T n hT hd;have hln:(new n).length=S₁.length-S₀.length:=by rw[←hnew n T.length];simp
 have hat:∀(k:Nat) (o:Ad),S₀[k]? =some o->∃i,(is++range' n (S₁.length-S₀.length))[k]? =some i∧T[i]? =some (o.ren (AH (is++range' n (S₁.length-S₀.length)) T.length)):=by
  intro k o ho;have hk:k<is.length:=by rw[hl];exact(Ge ho)
  refine⟨is[k],by rw[getElem?_append_left hk];simp,hT (is[k],_) ?_⟩;rw[←hrd n T.length];refine mem_of_getElem? (i:=k) ?_;rw[getElem?_zip_eq_some];exact⟨getElem?_eq_getElem hk,by rw[getElem?_map,ho];rfl⟩
 have hdead:∀i,i∈range' n (S₁.length-S₀.length)->T[i]? =some .dead:=by
  intro i hi;rw[IF,hln]at hd;obtain⟨j,hj,rfl⟩:=getElem_of_mem hi;have hj':j<(new n).length:=by rw[hln];simpa using hj
  have:=hd ((range' n (S₁.length-S₀.length))[j],(new n)[j]) (by
   refine mem_of_getElem? (i:=j) ?_;rw[getElem?_zip_eq_some];exact⟨getElem?_eq_getElem hj,getElem?_eq_getElem hj'⟩)
  exact this
 have hnd:(is++range' n (S₁.length-S₀.length)).Nodup:=by
  rw[nodup_append];refine⟨hn,nodup_range',λa ha1 b hb1=>?_⟩;rintro rfl;obtain⟨k,hk,rfl⟩:=getElem_of_mem ha1;have hk':k<S₀.length:=by rw[←hl];exact hk
  have⟨i,h1,h2⟩:=hat k S₀[k] (getElem?_eq_getElem hk');rw[getElem?_append_left hk,getElem?_eq_getElem hk]at h1;injection h1 with h1;subst h1;rw[hdead _ hb1]at h2;injection h2 with h2;have:=hal S₀[k] (getElem_mem hk');cases ho:S₀[k]with
  |dead=>exact this ho
  |cells xs=>rw[ho]at h2;simp[Ad.ren]at h2
  |row a b=>rw[ho]at h2;simp[Ad.ren]at h2
  |mrow a b c=>rw[ho]at h2;simp[Ad.ren]at h2
  |raw a b=>rw[ho]at h2;simp[Ad.ren]at h2
 have:=h.embed T (is++range' n (S₁.length-S₀.length)) hnd (by simp;omega) hSl hat (λk i hk hi=>by
  rw[getElem?_append_right Om]at hi;exact hdead i (mem_of_getElem? hi))
 rw[ha,hr]at this;have e:(is++range' n (S₁.length-S₀.length)).zip (S₁.map λo=>o.ren (AH (is++range' n (S₁.length-S₀.length)) T.length))=
  is.zip ((S₁.take S₀.length).map λo=>o.ren (AH (is++range' n (S₁.length-S₀.length)) T.length))++Bw n (new n):=by
  rw[IF,hln,←hnew n T.length]
  conv=>lhs;rw[←take_append_drop S₀.length S₁]
  rw[map_append,zip_append (by simp;omega)];simp
 rw[e,CC]at this;rw[CC];rcases hupd with hupd|⟨rfl,hsame⟩
 ·rw[hupd]at this;exact this
 ·rw[hsame,cF T _ (λp hp=>?_)]at this
  ·exact this
  ·rw[hrd]at hp;exact hT p hp
def BS:List AV->List AV->Prop
 |[],[]=>True
 |x::xs,y::ys=>(y=.any∨x=y)∧BS xs ys
 |_,_=>False
def oI:∀{xs ys:List AV},BS xs ys->xs.length=ys.length∧∀(t:Nat) (y:AV),ys[t]? =some y->y=.any∨xs[t]? =some y:=by
 intro xs
 induction xs with
 |nil=>intro ys h;cases ys with
  |nil=>exact⟨rfl,λt y h=>by simp at h⟩
  |cons=>exact h.elim
 |cons x xs ih=>intro ys h;cases ys with
  |nil=>exact h.elim
  |cons y ys=>
   have⟨h1,h2⟩:=h;have⟨g1,g2⟩:=ih h2;refine⟨by simp[g1],λt z hz=>?_⟩;cases t with
   |zero=>simp at hz;subst hz;rcases h1 with h|h;exact .inl h;exact .inr (by simp[h])
   |succ t=>simp at hz;simpa using g2 t z hz
def Wk.forget {m:Nat} {tm tm':List AV} {S:List Ad} (h:BS tm tm'):Wk m tm S tm' S:=λG0 S0 w0 G a w _ hz=>by
 have⟨h1,h2⟩:=oI h;refine⟨G,hz.left,by rw[hz.size,h1],λt x v hx hv=>?_,hz.defers,hz.wd0⟩;rcases h2 t x hx with rfl|h
 ·exact .any v
 ·exact hz.rep t x v h hv
def Wk.to {m:Nat} {tm tm':List AV} {S S':List Ad} (hS:S=S') (h:BS tm tm'):Wk m tm S tm' S':=hS▸Wk.forget h
def BP (ρ:Nat->Nat):List AV->List AV->Prop
 |[],[]=>True
 |x::xs,y::ys=>(y=.any∨x=y.ren ρ)∧BP ρ xs ys
 |_,_=>False
def dL {ρ:Nat->Nat}:∀{xs ys:List AV},BP ρ xs ys->xs.length=ys.length∧∀(t:Nat) (y:AV),ys[t]? =some y->y=.any∨xs[t]? =some (y.ren ρ):=by
 intro xs
 induction xs with
 |nil=>intro ys h;cases ys with
  |nil=>exact⟨rfl,λt y h=>by simp at h⟩
  |cons=>exact h.elim
 |cons x xs ih=>intro ys h;cases ys with
  |nil=>exact h.elim
  |cons y ys=>
   have⟨h1,h2⟩:=h;have⟨g1,g2⟩:=ih h2;refine⟨by simp[g1],λt z hz=>?_⟩;cases t with
   |zero=>simp at hz;subst hz;rcases h1 with h|h;exact .inl h;exact .inr (by simp[h])
   |succ t=>simp at hz;simpa using g2 t z hz
def A1.sel {G0:Gh} {S0:List Ad} {w0:World} {G:Gh} {S:List Ad} {w:World} (hs:A1 G0 S0 w0 G S w) (h0:Wd G0 S0 w0) {S':List Ad} (ids:List Nat) (hn:ids.Nodup) (hl:ids.length=S'.length) (hm:S0.length≤S'.length)
 (hp:∀(k i:Nat),k<S0.length->ids[k]? =some i->i=k) (hT:∀(k:Nat) (o:Ad),S'[k]? =some o->∃i,ids[k]? =some i∧S[i]? =some (o.ren (AH ids S.length))):A1 G0 S0 w0 (G.pull (AH ids S.length)) S' w:=by
 have hD:∀(k i:Nat),S'.length≤k->ids[k]? =some i->S[i]? =some .dead:=λk i hk hi=>by
  rw[getElem?_eq_none Om]at hi;cases hi
 have⟨hwd,hblk⟩:=Wd.pull hs.wd ids hn Om hT hD;have hid:∀k,k<S0.length->AH ids S.length k=k:=λk hk=>by
  have e:ids[k]? =some (ids[k]'Om):=by simp
  rw[Nv e];exact hp k _ hk e
 have hw0:∀i,S0.length≤i->G0.loc i=none∧∀n,G0.hist i n=none:=λi hi=>h0.dom i (.inl (getElem?_eq_none Om))
 refine⟨⟨hs.le.imm,λi b hb=>?_,λi n u hb=>?_⟩,hwd,hs.kept,λi b hb=>?_,hs.still⟩
 ·have hi:i<S0.length:=by
   rcases Nat.lt_or_ge i S0.length with h|h
   ·exact h
   ·rw[(hw0 i h).1]at hb;cases hb
  show G.loc (AH ids S.length i)=_;rw[hid i hi];exact hs.le.loc i b hb
 ·have hi:i<S0.length:=by
   rcases Nat.lt_or_ge i S0.length with h|h
   ·exact h
   ·rw[(hw0 i h).2]at hb;cases hb
  show G.hist (AH ids S.length i) n=_;rw[hid i hi];exact hs.le.hist i n u hb
 ·rcases hblk i with h|h
  ·rw[h]at hb;cases hb
  ·rw[h]at hb;exact hs.own _ b hb
def Wk.sel {m:Nat} {tm tm':List AV} {S S':List Ad} (ids:List Nat) (hn:ids.Nodup) (hl:ids.length=S'.length) (hm:m≤S'.length) (hp:ids.take m=List.range m)
 (hT:ids.map (λi=>S[i]?)=S'.map λo=>some (o.ren (AH ids S.length))) (ht:BP (AH ids S.length) tm tm'):Wk m tm S tm' S':=λG0 S0 w0 G a w e hz=>by
 have⟨h1,h2⟩:=dL ht;refine⟨_,A1.sel hz.left hz.wd0 (S':=S') ids hn hl Om (λk i hk hi=>?_) (λk o ho=>?_),by rw[hz.size,h1],λt x v hx hv=>?_,hz.defers,hz.wd0⟩
 ·have:(ids.take m)[k]? =some i:=by rw[getElem?_take,if_pos Om];exact hi
  rw[hp,getElem?_range Om]at this;injection this with this;exact this.symm
 ·have hk:k<ids.length:=by rw[hl];exact(Ge ho)
  refine⟨ids[k],Si,?_⟩;have:=congrArg (λl:List (Option Ad)=>l[k]?) hT;simp only[getElem?_map,getElem?_eq_getElem hk,ho,Option.map_some]at this;injection this
 ·rcases h2 t x hx with rfl|h
  ·exact .any v
  ·exact(hz.rep t _ v h hv).pull x rfl
def A1.reobj {G:Gh} {T:List Ad} {w:World} {i:Nat} {xs xs':List AV} (h:Wd G T w) (hi:T[i]? =some (.cells xs)) (hl:xs'.length=xs.length) (hc:∀(k:Nat) (x:AV) (v:Value),xs'[k]? =some x->(∀y,xs[k]? =some y->Bv G y v)->Bv G x v):
 A1 G T w G (T.set i (.cells xs')) w:=by
 have⟨b,cs,t,h1,h2,h3,h4,_⟩:=h.obj i xs hi;refine A1.turn h hi h1 (⟨rfl,rfl,rfl,rfl,λ_ _=>rfl,h2⟩:JL w w b (.cells cs t (0,0))) Om λk x v hx hv=>?_
 have hk:k<xs.length:=by rw[←hl];exact(Ge hx)
 have:=h4 k _ v (getElem?_eq_getElem hk) hv;refine⟨this.1,hc k x v hx λy hy=>?_⟩;rw[getElem?_eq_getElem hk]at hy;injection hy with hy;subst hy;exact this.2
def Wk.row {m:Nat} {tm:List AV} {S:List Ad} (t k:Nat) {k':Nat} {xs:List AV} (ht:tm[t]? =some (.sl .full k' xs)) (hk:k'=k∨xs=[]) (h1:1≤k):Wk m tm S (tm.set t (.sl (.row S.length) k xs)) (S++[.row k xs.length]):=λG0 S0 w0 G a w _ hz=>by
 have hd:=A1.dead hz.left.wd 1;have htl:=(Ge ht);have hlt:t<a.tmps.size:=by rw[hz.size];exact htl
 have hv:=Array.getElem?_eq_getElem hlt;have r:=hz.rep t _ _ ht hv;have r':Bv G (.sl .full k xs) a.tmps[t]:=by
  rcases hk with rfl|rfl
  ·exact r
  ·exact r.rek
 generalize a.tmps[t]=v at*;cases r' with
 | @sl _ _ _ A c b o vs q1 q2 q3 q4 q5 q6 q7=>
   have hc:c=xs.length:=q7;subst hc;have hid:(S++List.replicate 1 Ad.dead)[S.length]? =some .dead:=by simp
   have⟨hl,hh⟩:=A1.rowFull (id:=S.length) (k:=k) (n:=xs.length) (A:=A) hd.wd hid h1;have e:(S++List.replicate 1 Ad.dead).set S.length (.row k xs.length)=S++[.row k xs.length]:=by simp
   rw[e]at hl;have hall:=(hz.left.trans hd).trans hl;refine⟨_,hall,by simp[hz.size],λt' x u hx hu=>?_,hz.defers,hz.wd0⟩;by_cases et:t'=t
   ·subst et;simp[htl]at hx;subst hx;rw[hv]at hu;injection hu with hu;subst hu;exact((Bv.sl vs q1 q2 q3 q4 q5 q6 q7:Bv G (.sl .full k xs) _).mono hl.le).retag hh
   ·rw[getElem?_set_ne (Ne.symm et)]at hx;exact(hz.rep t' x u hx hu).mono hl.le
def Wk.rowObj {m:Nat} {tm:List AV} {S:List Ad} (i j k:Nat) {k':Nat} {ys xs:List AV} (hi:S[i]? =some (.cells ys)) (hj:ys[j]? =some (.sl .full k' xs)) (hk:k'=k∨xs=[]) (h1:1≤k):
 Wk m tm S tm (S.set i (.cells (ys.set j (.sl (.row S.length) k xs)))++[.row k xs.length]):=λG0 S0 w0 G a w _ hz=>by
 have hd:=A1.dead hz.left.wd 1;have hil:=(Ge hi);have hjl:=(Ge hj);have⟨b,cs,t,g1,g2,g3,g4,_⟩:=hz.left.wd.obj i ys hi;have hv:=Array.getElem?_eq_getElem (show j<cs.size by omega);have r:=(g4 j _ _ hj hv).2;have r':Bv G (.sl .full k xs) cs[j]:=by
  rcases hk with rfl|rfl
  ·exact r
  ·exact r.rek
 generalize hcj:cs[j]=v at*;cases r' with
 | @sl _ _ _ A c b' o vs q1 q2 q3 q4 q5 q6 q7=>
   have hc:c=xs.length:=q7;subst hc;have hid:(S++List.replicate 1 Ad.dead)[S.length]? =some .dead:=by simp
   have⟨hl,hh⟩:=A1.rowFull (id:=S.length) (k:=k) (n:=xs.length) (A:=A) hd.wd hid h1;have e:(S++List.replicate 1 Ad.dead).set S.length (.row k xs.length)=S++[.row k xs.length]:=by simp
   rw[e]at hl;have hi':(S++[Ad.row k xs.length])[i]? =some (.cells ys):=by rw[getElem?_append_left hil];exact hi
   have⟨b2,cs2,t2,p1,p2,p3,p4,_⟩:=hl.wd.obj i ys hi';have hb2:b2=b:=by
    have:=hl.le.loc i b (by simpa using g1);rw[p1]at this;injection this
   subst hb2;rw[p2]at g2;injection g2 with g2;injection g2 with e1 e1t;subst e1 e1t;have hturn:A1 (G.newHist S.length xs.length (.slice A xs.length xs.length)) (S++[Ad.row k xs.length]) w (G.newHist S.length xs.length (.slice A xs.length xs.length)) ((S++[Ad.row k xs.length]).set i (.cells (ys.set j (.sl (.row S.length) k xs)))) w:=by
    refine A1.turn (xs':=ys.set j (.sl (.row S.length) k xs)) hl.wd hi' p1 (⟨rfl,rfl,rfl,rfl,λ_ _=>rfl,p2⟩:JL w w b2 (.cells cs2 t2 (0,0))) (by rw[length_set];omega) λq x u hx hu=>?_
    by_cases eq:q=j
    ·subst eq;simp[hjl]at hx;subst hx;rw[hv]at hu;injection hu with hu;refine⟨?_,?_⟩
     ·rw[←hu];rfl
     ·rw[←hu];exact((Bv.sl vs q1 q2 q3 q4 q5 q6 q7:Bv G (.sl .full k xs) _).mono hl.le).retag hh
    ·rw[getElem?_set_ne (Ne.symm eq)]at hx;exact p4 q x u hx hu
   have e2:(S++[Ad.row k xs.length]).set i (.cells (ys.set j (.sl (.row S.length) k xs)))=S.set i (.cells (ys.set j (.sl (.row S.length) k xs)))++[.row k xs.length]:=by rw[set_append_left _ _ hil]
   rw[e2]at hturn;have hall:=((hz.left.trans hd).trans hl).trans hturn;exact⟨_,hall,hz.size,λt' x u hx hu=>(hz.rep t' x u hx hu).mono hl.le,hz.defers,hz.wd0⟩
def Wk.mrow {m:Nat} {tm:List AV} {S:List Ad} (t k:Nat) {k':Nat} (ht:tm[t]? =some (.sl .full k' [])) (h1:1≤k):Wk m tm S (tm.set t (.ms S.length 0)) (S++[.mrow k 0 []]):=λG0 S0 w0 G a w _ hz=>by
 have hd:=A1.dead hz.left.wd 1;have htl:=(Ge ht);have hlt:t<a.tmps.size:=by rw[hz.size];exact htl
 have hv:=Array.getElem?_eq_getElem hlt;have r:=hz.rep t _ _ ht hv;generalize a.tmps[t]=v at*;cases r with
 | @sl _ _ _ A c b o vs q1 q2 q3 q4 q5 q6 q7=>
   have hc:c=0:=q7;subst hc;have hid:(S++List.replicate 1 Ad.dead)[S.length]? =some .dead:=by simp
   have hl:=A1.mrowTo (j:=S.length) (k:=k) (n:=0) (c:=0) (xs:=[]) (A:=A) hd.wd (.inl hid) h1 Si (Nat.le_refl _) Om (Db.refl _ w) (λh=>by omega);have e:(S++List.replicate 1 Ad.dead).set S.length (.mrow k 0 [])=S++[.mrow k 0 []]:=by simp
   rw[e]at hl;have hall:=(hz.left.trans hd).trans hl;refine⟨_,hall,by simp[hz.size],λt' x u hx hu=>?_,hz.defers,hz.wd0⟩;by_cases et:t'=t
   ·subst et;simp[htl]at hx;subst hx;rw[hv]at hu;injection hu with hu;subst hu;exact .ms (by simp[Gh.newHist]) λh=>by omega
   ·rw[getElem?_set_ne (Ne.symm et)]at hx;exact(hz.rep t' x u hx hu).mono hl.le
def Nz {k:Nat}:∀(ys:List AV),(∀x∈ys,x.cells.length=k)->∀(i j:Nat) (x y:AV),ys[i]? =some x->x.cells[j]? =some y->(Cn ys)[i*k+j]? =some y
 |[],_=>λi j x y h _=>by simp at h
 |x::ys,hk=>λi j z y hz hy=>by
  have hx:x.cells.length=k:=hk x Si;have e:Cn (x::ys)=x.cells++Cn ys:=by simp[Cn]
  rw[e];cases i with
  |zero=>
   simp at hz;subst hz;have:=(Ge hy);rw[Nat.zero_mul,Nat.zero_add,getElem?_append_left this];exact hy
  |succ i=>
   have:=Nz ys (λx h=>hk x (by simp[h])) i j z y (by simpa using hz) hy;rw[Nat.add_mul,Nat.one_mul,getElem?_append_right Om,hx,show i*k+k+j-k=i*k+j by omega];exact this
def Wk.freeze {m:Nat} {tm:List AV} {S:List Ad} (t j k:Nat) {n:Nat} {xs:List AV} (zs:List AV) (ht:tm[t]? =some (.ms j n)) (hj:S[j]? =some (.mrow k n xs)) (hl:zs.length=n) (hf:Cn zs=xs) (hk:∀z∈zs,z.cells.length=k):
 Wk m tm S (tm.set t (.sl (.row j) k zs)) (S.set j (.row k n)):=λG0 S0 w0 G a w _ hz=>by
 have htl:=(Ge ht);have hlt:t<a.tmps.size:=by rw[hz.size];exact htl
 have hv:=Array.getElem?_eq_getElem hlt;have r:=hz.rep t _ _ ht hv;generalize a.tmps[t]=v at*;cases r with
 | @ms _ _ A c hh hA=>
   have⟨G',hl',hh',vs,v1,v2,v3,v4,v5⟩:=A1.freeze hz.left.wd hj hh;refine⟨G',hz.left.trans hl',by simp[hz.size],λt' x u hx hu=>?_,hz.defers,hz.wd0⟩;by_cases et:t'=t
   ·subst et;simp[htl]at hx;subst hx;rw[hv]at hu;injection hu with hu;subst hu;subst hl hf;by_cases h0:0<zs.length
    ·obtain⟨b,rfl,v6⟩:=v5 h0;exact C9 v1 v2 v3 (λi x hx=>hk x (mem_of_getElem? hx)) v6 (λi j x y u h1 h2 h3=>v4 _ y u (Nz zs hk i j x y h1 h2) h3) hh'
    ·have hzn:zs=[]:=eq_nil_of_length_eq_zero Om;subst hzn;exact Bv.sl (b:=0) (o:=0) (λ_ _=>undef) v2 (λh=>by simp at h) (λi x h=>by simp at h) (λi j h=>by simp at h) (λi j h=>by simp at h) (λi j x y h=>by simp at h) hh'
   ·rw[getElem?_set_ne (Ne.symm et)]at hx;exact(hz.rep t' x u hx hu).mono hl'.le
def RP {P:Program} {i:I} {ρ:Operand->AV} {S:List Ad} {K K':KT} (hK:∀v rd upd new,K v rd upd new->K' v rd upd new) (h:B_ P i ρ S K):B_ P i ρ S K':=by
 cases i<;>dsimp only[B_]at h ⊢
 case mov=>exact hK _ _ _ _ h
 case pick=>unfold OM at h ⊢;split at h<;>first|exact hK _ _ _ _ h|exact h.elim
 case new=>exact hK _ _ _ _ h
 case box=>unfold OQ at h ⊢;split at h<;>first|exact hK _ _ _ _ h|exact h.elim
 case build=>unfold HM at h ⊢;split at h<;>first|exact hK _ _ _ _ h|exact h.elim
 case bsl=>exact⟨h.1,hK _ _ _ _ h.2⟩
 case load=>unfold K6 YD at h ⊢;(repeat' split at h)<;>first|exact hK _ _ _ _ h|exact⟨h.1,hK _ _ _ _ h.2⟩|exact⟨h.1,h.2.1,h.2.2.1,hK _ _ _ _ h.2.2.2⟩|exact h.2.elim|exact h.elim
 case store=>unfold Kh SY at h ⊢;(repeat' split at h)<;>first|exact⟨h.1,h.2.1,hK _ _ _ _ h.2.2⟩|exact⟨h.1,h.2.1,h.2.2.1,h.2.2.2.1,hK _ _ _ _ h.2.2.2.2⟩|exact h.elim
 case nilc=>unfold S3 at h ⊢;split at h<;>first|exact hK _ _ _ _ h|exact h.elim
 case bin op x y=>
  unfold VQ at h ⊢;split at h
  ·cases op<;>dsimp only[Dl]at h ⊢ <;>first|exact⟨h.1,hK _ _ _ _ h.2⟩|exact⟨h.1,h.2.1,hK _ _ _ _ h.2.2⟩
  ·cases op<;>dsimp only[Yz]at h ⊢ <;>first|exact hK _ _ _ _ h|exact h.elim
  ·exact h.elim
 case eqb=>unfold YG at h ⊢;split at h<;>first|exact hK _ _ _ _ h|exact h.elim
 case eqa=>unfold YH at h ⊢;split at h<;>first|exact⟨h.1,h.2.1,hK _ _ _ _ h.2.2⟩|exact h.elim
 case eqp=>unfold VO at h ⊢;split at h<;>first|exact hK _ _ _ _ h|exact h.elim
 case un=>unfold wM at h ⊢;split at h<;>first|exact hK _ _ _ _ h|exact h.elim
 case cvt=>unfold YI at h ⊢;split at h<;>first|exact hK _ _ _ _ h|exact h.elim
 case b2s=>unfold YJ at h ⊢;split at h<;>first|exact⟨h.1,h.2.1,hK _ _ _ _ h.2.2⟩|exact h.elim
 case s2b=>unfold YA at h ⊢;split at h<;>first|exact⟨h.1,hK _ _ _ _ h.2⟩|exact h.elim
 case slice=>
  unfold Ed at h ⊢;split at h
  ·split at h
   ·rename_i l hh hl hhh;have⟨h1,h2,h3,h4,h5⟩:=h;refine⟨h1,h2,h3,h4,?_⟩;split at h5
    ·exact hK _ _ _ _ h5
    ·exact⟨h5.1,hK _ _ _ _ h5.2⟩
   ·exact h.elim
  ·exact h.elim
 case sstr=>
  unfold Rt at h ⊢;split at h
  ·split at h
   ·rename_i l hh hl hhh;exact⟨h.1,h.2.1,h.2.2.1,hK _ _ _ _ h.2.2.2⟩
   ·exact h.elim
  ·exact h.elim
 case fadr=>unfold K7 at h ⊢;split at h<;>first|exact hK _ _ _ _ h|exact h.elim
 case fld=>unfold LT at h ⊢;(repeat' split at h)<;>first|exact hK _ _ _ _ h|exact⟨h.1,hK _ _ _ _ h.2⟩|exact h.elim
 case iadr=>unfold Mu at h ⊢;split at h<;>first|exact⟨h.1,h.2.1,h.2.2.1,hK _ _ _ _ h.2.2.2⟩|exact⟨h.1,h.2.1,hK _ _ _ _ h.2.2⟩|exact h.elim
 case aadr=>unfold Mv at h ⊢;split at h<;>first|exact⟨h.1,h.2.1,hK _ _ _ _ h.2.2⟩|exact h.elim
 case idx=>unfold YE LT at h ⊢;(repeat' split at h)<;>first|exact⟨h.1,h.2.1,hK _ _ _ _ h.2.2⟩|exact⟨h.1,h.2.1,h.2.2.1,hK _ _ _ _ h.2.2.2⟩|exact h.elim|exact h.2.2.elim
 case sidx=>unfold Ru at h ⊢;split at h<;>first|exact⟨h.1,h.2.1,hK _ _ _ _ h.2.2⟩|exact h.elim
 case ext=>unfold YF at h ⊢;(repeat' split at h)<;>first|exact hK _ _ _ _ h|exact h.elim
 case mkf=>exact hK _ _ _ _ h
 case call=>
  unfold OP at h ⊢;split at h
  ·have⟨v,rd,upd,new,h1,h2,h3,h4⟩:=h;exact⟨v,rd,upd,new,h1,h2,h3,hK _ _ _ _ h4⟩
  ·have⟨go,S',h1,h2,h3,h4⟩:=h;exact⟨go,S',h1,h2,h3,hK _ _ _ _ h4⟩
  ·exact h.elim
 case mkmap=>exact hK _ _ _ _ h
 case mlook=>unfold LS at h ⊢;(repeat' split at h)<;>first|exact hK _ _ _ _ h|exact h.elim
 case mput=>unfold Rv at h ⊢;(repeat' split at h)<;>first|exact hK _ _ _ _ h|exact h.elim
 case eqf=>unfold VP at h ⊢;(repeat' split at h)<;>first|exact hK _ _ _ _ h|exact h.elim
 case app=>
  unfold S4 at h ⊢;split at h
  ·unfold aQ at h ⊢;split at h
   ·exact⟨h.1,h.2.1,h.2.2.1,h.2.2.2.1,hK _ _ _ _ h.2.2.2.2⟩
   ·exact h.elim
  ·exact⟨h.1,h.2.1,h.2.2.1,h.2.2.2.1,hK _ _ _ _ h.2.2.2.2⟩
  ·have⟨h1,h2,h3,h4⟩:=h;refine⟨h1,h2,h3,?_⟩;split at h4
   ·exact hK _ _ _ _ h4
   ·exact⟨h4.1,hK _ _ _ _ h4.2⟩
   ·exact h4.elim
  ·exact h.elim
 case len=>unfold ON at h ⊢;split at h<;>first|exact hK _ _ _ _ h|exact h.elim
 case lenc=>exact hK _ _ _ _ h
 case mx=>unfold kMx at h ⊢;split at h<;>first|exact hK _ _ _ _ h|exact h.elim
 case mksl=>unfold Mt at h ⊢;split at h<;>first|exact⟨h.1,h.2.1,h.2.2.1,h.2.2.2.1,hK _ _ _ _ h.2.2.2.2⟩|exact h.elim
def j6 {P:Program} {R R':List AV->List Ad->Prop} (hR:∀tm S,R tm S->R' tm S):∀(cs:List RO) (u:List (Nat×Nat)) (tr:List (List Nat×List Nat)) (tm:List AV) (S:List Ad),DR P cs u tr tm S R->DR P cs u tr tm S R':=by
 intro cs
 induction cs with
 |nil=>intro u tr tm S h;exact⟨h.1,hR _ _ h.2⟩
 |cons c cs ih=>
  have⟨g,i,d⟩:=c;intro u tr tm S h;cases g with
  |none=>exact RP (λ_ _ _ _=>ih _ _ _ _) h
  |some g=>
   have⟨t,want⟩:=g;simp only[DR,gdK]at h ⊢;split at h
   ·split at h
    ·rename_i h1 h2;rw[if_pos h2];exact RP (λ_ _ _ _=>ih _ _ _ _) h
    ·rename_i h1 h2;rw[if_neg h2];exact ih _ _ _ _ h
   ·exact ih _ _ _ _ h
   ·exact h.elim
def GC {P:Program} {m:Nat}:∀{c:C} {tm:List AV} {S:List Ad} {Q Q':QT},aw P m c tm S Q->(∀e tm S,Q e tm S->Q' e tm S)->aw P m c tm S Q':=by
 intro c
 induction c with
 |skip=>intro tm S Q Q' h hq;exact hq _ _ _ h
 |reg ops u=>intro tm S Q Q' h hq;exact j6 (hq .normal) _ _ _ _ _ h
 |seq a b iha ihb=>
  intro tm S Q Q' h hq;refine iha h λe tm S h=>?_
  cases e with
  |normal=>exact ihb h hq
  |_=>exact hq _ _ _ h
 |cond x a b iha ihb=>
  intro tm S Q Q' h hq;simp only[aw]at h ⊢;split at h
  ·exact⟨λe=>iha (h.1 e) hq,λe=>ihb (h.2 e) hq⟩
  ·exact h.elim
 |block id b ih=>
  intro tm S Q Q' h hq;refine ih h λe tm S h=>?_
  cases e with
  |exit id'=>
   simp only[HF]at h ⊢;split
   ·rename_i e;rw[if_pos e]at h;exact hq _ _ _ h
   ·rename_i e;rw[if_neg e]at h;exact hq _ _ _ h
  |_=>exact hq _ _ _ h
 |loop b ih=>
  intro tm S Q Q' h hq;have⟨I,h0,hr⟩:=h;refine⟨I,h0,λn tm S hI=>ih (hr n tm S hI) λe tm S h=>?_⟩;cases e with
  |normal=>exact h
  |_=>exact hq _ _ _ h
 |exit id=>intro tm S Q Q' h hq;exact hq _ _ _ h
 |scope b ih=>
  intro tm S Q Q' h hq code hc G0 S0 w0 G a w hm hz;exact wp_mono (h code hc G0 S0 w0 G a w hm hz) λe a' w' ⟨tm',S',G',hz',hq'⟩=>⟨tm',S',G',hz',hq _ _ _ hq'⟩
 |label l=>intro tm S Q Q' h hq;have⟨tm',S',hwk,h⟩:=h;exact⟨tm',S',hwk,hq _ _ _ h⟩
 |goto l=>intro tm S Q Q' h hq;exact hq _ _ _ h
 |ret=>intro tm S Q Q' h hq;exact hq _ _ _ h
 |rng g ps a b _ _=>
  intro tm S Q Q' h hq ca cb h1 h2 G0 S0 w0 G a w hm hz;exact wp_mono (h ca cb h1 h2 G0 S0 w0 G a w hm hz) λe a' w' ⟨tm',S',G',hz',hq'⟩=>⟨tm',S',G',hz',hq _ _ _ hq'⟩
section
variable {P:Program} {m:Nat} {tm:List AV} {S:List Ad} {Q:QT}
def mF (P:Program) (m:Nat) (b:C) (Q:QT):QT:=Oc (λtm S=>aw P m b tm S Q) Q
def UY (b:C):mF P m b Q .normal tm S=aw P m b tm S Q:=(rfl)
def mE (b:C):mF P m b Q .ret tm S=Q .ret tm S:=(rfl)
def eQ (b:C) (id:Nat):mF P m b Q (.exit id) tm S=Q (.exit id) tm S:=(rfl)
def eO (b:C) (l:Nat):mF P m b Q (.goto l) tm S=Q (.goto l) tm S:=(rfl)
def P4 (id:Nat):HF id Q .normal tm S=Q .normal tm S:=(rfl)
def X4 (id:Nat):HF id Q .ret tm S=Q .ret tm S:=(rfl)
def U6 (id id':Nat):HF id Q (.exit id') tm S=if id'=id then Q .normal tm S else Q (.exit id') tm S:=(rfl)
def U5 (id l:Nat):HF id Q (.goto l) tm S=Q (.goto l) tm S:=(rfl)
def aA {α:Type} (m:Nat) (tmF:α->List AV) (SF:α->List Ad) (ok:α->Prop) (μ:α->Nat) (a:α) (Q:QT):QT:=Oc (λtm S=>∃a',ok a'∧μ a'<μ a∧Wk m tm S (tmF a') (SF a')) Q
section
variable {α:Type} {tmF:α->List AV} {SF:α->List Ad} {ok:α->Prop} {μ:α->Nat} {a:α}
def Sw:aA m tmF SF ok μ a Q .normal tm S=∃a',ok a'∧μ a'<μ a∧Wk m tm S (tmF a') (SF a'):=(rfl)
def eW:aA m tmF SF ok μ a Q .ret tm S=Q .ret tm S:=(rfl)
def X3 (id:Nat):aA m tmF SF ok μ a Q (.exit id) tm S=Q (.exit id) tm S:=(rfl)
end
def AA {α:Type} {c:C} (tmF:α->List AV) (SF:α->List Ad) (ok:α->Prop) (μ:α->Nat) (a:α) (ha:ok a) (h0:Wk m tm S (tmF a) (SF a)) (hr:∀a,ok a->aw P m c (tmF a) (SF a) (aA m tmF SF ok μ a Q)):aw P m (.loop c) tm S Q:=by
 refine⟨λn tm S=>∃a,ok a∧tm=tmF a∧S=SF a∧n=μ a,⟨_,_,_,h0,a,ha,rfl,rfl,rfl⟩,λn tm S ⟨a,ha,h1,h2,h3⟩=>?_⟩;subst h1 h2 h3;refine GC (hr a ha) λe tm' S' hq=>?_
 cases e with
 |normal=>
  have⟨a',h1,h2,h3⟩:=hq;exact⟨μ a',_,_,h3,⟨a',h1,rfl,rfl,rfl⟩,h2⟩
 |_=>exact hq
def Sl (P:Program) (m:Nat) (c:C) (Q:QT):List Unit->List AV->List Ad->Prop
 |[],_,_=>False
 |_::f,tm,S=>aw P m c tm S (Oc (λtm S=>Sl P m c Q f tm S) Q)
def mI (P:Program) (m:Nat) (c:C) (Q:QT) (f:List Unit):QT:=Oc (λtm S=>Sl P m c Q f tm S) Q
section
variable {c:C} {f:List Unit}
def UH (u:Unit):Sl P m c Q (u::f) tm S=aw P m c tm S (mI P m c Q f):=(rfl)
def U2:mI P m c Q f .normal tm S=Sl P m c Q f tm S:=(rfl)
def mH:mI P m c Q f .ret tm S=Q .ret tm S:=(rfl)
def eV (id:Nat):mI P m c Q f (.exit id) tm S=Q (.exit id) tm S:=(rfl)
def eU (l:Nat):mI P m c Q f (.goto l) tm S=Q (.goto l) tm S:=(rfl)
end
def J7 {α:Type} (m l:Nat) (tmF:α->List AV) (SF:α->List Ad) (ok:α->Prop) (Q:QT):QT
 | .goto l',tm,S=>l'=l∧∃a,ok a∧Wk m tm S (tmF a) (SF a)
 |e,tm,S=>Q e tm S
def KX {α:Type} (m l:Nat) (tmF:α->List AV) (SF:α->List Ad) (ok:α->Prop) (μ:α->Nat) (a:α) (Q:QT):QT
 | .goto l',tm,S=>l'=l∧∃a',ok a'∧μ a'<μ a∧Wk m tm S (tmF a') (SF a')
 |e,tm,S=>Q e tm S
section
variable {α:Type} {l:Nat} {tmF:α->List AV} {SF:α->List Ad} {ok:α->Prop} {μ:α->Nat} {a:α}
def P3:J7 m l tmF SF ok Q .normal tm S=Q .normal tm S:=(rfl)
def X2:J7 m l tmF SF ok Q .ret tm S=Q .ret tm S:=(rfl)
def U1 (id:Nat):J7 m l tmF SF ok Q (.exit id) tm S=Q (.exit id) tm S:=(rfl)
def U0 (l':Nat):J7 m l tmF SF ok Q (.goto l') tm S=(l'=l∧∃a,ok a∧Wk m tm S (tmF a) (SF a)):=(rfl)
def Od:KX m l tmF SF ok μ a Q .normal tm S=Q .normal tm S:=(rfl)
def UZ:KX m l tmF SF ok μ a Q .ret tm S=Q .ret tm S:=(rfl)
def Sv (id:Nat):KX m l tmF SF ok μ a Q (.exit id) tm S=Q (.exit id) tm S:=(rfl)
def Su (l':Nat):KX m l tmF SF ok μ a Q (.goto l') tm S=(l'=l∧∃a',ok a'∧μ a'<μ a∧Wk m tm S (tmF a') (SF a')):=(rfl)
end
def UC {α:Type} {c r:C} (l:Nat) (hf:Hf c l=some r) (tmF:α->List AV) (SF:α->List Ad) (ok:α->Prop) (μ:α->Nat) (first:(∀a,ok a->aw P m r (tmF a) (SF a) (J7 m l tmF SF ok Q))->aw P m c tm S (J7 m l tmF SF ok Q)) (pass:∀a,ok a->aw P m r (tmF a) (SF a) (KX m l tmF SF ok μ a Q)):aw P m (.scope c) tm S Q:=by
 refine J2 (λn l' tm S=>l'=l∧∃a,ok a∧tm=tmF a∧S=SF a∧n=μ a) (GC (first λa ha=>GC (pass a ha) λe tm' S' hq=>?_) λe tm' S' hq=>?_) λn l' tm S ⟨hl,a,ha,h1,h2,h3⟩=>⟨r,by rw[hl];exact hf,?_⟩
 ·cases e with
  |goto l'=>have⟨h1,a',h2,_,h4⟩:=hq;exact⟨h1,a',h2,h4⟩
  |_=>exact hq
 ·cases e with
  |goto l'=>have⟨h1,a,h2,h3⟩:=hq;exact⟨_,_,h3,μ a,h1,a,h2,rfl,rfl,rfl⟩
  |_=>exact hq
 ·subst h1 h2 h3;refine GC (pass a ha) λe tm' S' hq=>?_
  cases e with
  |goto l'=>have⟨h1,a',h2,h3,h4⟩:=hq;exact⟨_,_,h4,μ a',⟨h1,a',h2,rfl,rfl,rfl⟩,h3⟩
  |_=>exact hq
def cdK (P:Program) (m:Nat) (x:AV) (a b:C) (tm:List AV) (S:List Ad) (Q:QT):Prop:=match x with
 | .lit (.bool t)=>(t=true->aw P m a tm S Q)∧(t=false->aw P m b tm S Q)
 |_=>False
def qN (a b:C):cdK P m (.lit (.bool true)) a b tm S Q=aw P m a tm S Q:=by simp[cdK]
def jG (a b:C):cdK P m (.lit (.bool false)) a b tm S Q=aw P m b tm S Q:=by simp[cdK]
def Av {t:Bool} {a b:C} (h1:t=true->aw P m a tm S Q) (h2:t=false->aw P m b tm S Q):cdK P m (.lit (.bool t)) a b tm S Q:=⟨h1,h2⟩
def Aaa:aw P m .skip tm S Q=Q .normal tm S:=(rfl)
def Aed (ops:List RO) (u:List (Nat×Nat)):aw P m (.reg ops u) tm S Q=DR P ops u [] tm S (Q .normal):=(rfl)
def Aea (a b:C):aw P m (.seq a b) tm S Q=aw P m a tm S (mF P m b Q):=(rfl)
def Aad (c:Operand) (a b:C):aw P m (.cond c a b) tm S Q=cdK P m (ev tm c) a b tm S Q:=by
 cases h:ev tm c with
 |lit v=>cases v<;>simp[aw,cdK,h]
 |_=>simp[aw,cdK,h]
def rP (id:Nat) (c:C):aw P m (.block id c) tm S Q=aw P m c tm S (HF id Q):=(rfl)
def Aac (id:Nat):aw P m (.exit id) tm S Q=Q (.exit id) tm S:=(rfl)
def Abz (m:Nat) (tm:List AV) (S:List Ad) (R:List AV->List Ad->Prop):Prop:=∃tm' S',Wk m tm S tm' S'∧R tm' S'
def Nu {R:List AV->List Ad->Prop} {tm':List AV} {S':List Ad} (h:Wk m tm S tm' S') (k:R tm' S'):Abz m tm S R:=⟨tm',S',h,k⟩
def rO (l:Nat):aw P m (.label l) tm S Q=Abz m tm S (Q .normal):=(rfl)
def Aab (l:Nat):aw P m (.goto l) tm S Q=Q (.goto l) tm S:=(rfl)
def Aec:aw P m .ret tm S Q=Q .ret tm S:=(rfl)
def uO (P:Program) (m:Nat) (g:Operand) (ps:List Nat) (a b:C) (tm:List AV) (S:List Ad) (Q:QT):Prop:=aw P m (.rng g ps a b) tm S Q
def Aeb (g:Operand) (ps:List Nat) (a b:C):aw P m (.rng g ps a b) tm S Q=uO P m g ps a b tm S Q:=(rfl)
def YB (P:Program) (rest:List RO) (u:List (Nat×Nat)) (tr:List (List Nat×List Nat)) (tm:List AV) (S:List Ad) (d:Option Nat) (R:List AV->List Ad->Prop):KT:=λv rd upd new=>
 DR P rest u (tr++[(rd,upd.map (·.1)++(Bw S.length new).map (·.1))]) (D_ tm d v) (Cw S upd++new) R
def gdF (P:Program) (x:AV) (want:Bool) (i:I) (rest:List RO) (u:List (Nat×Nat)) (tr:List (List Nat×List Nat)) (tm:List AV) (S:List Ad) (d:Option Nat) (R:List AV->List Ad->Prop):Prop:=
 gdK x want (B_ P i (ev tm) S (YB P rest u tr tm S d R)) (DR P rest u (tr++[([],[])]) (D_ tm d (.lit undef)) S R)
variable {rest:List RO} {u:List (Nat×Nat)} {tr:List (List Nat×List Nat)} {d:Option Nat} {R:List AV->List Ad->Prop}
def SZ (v:AV) (rd:List Nat) (upd:List (Nat×Ad)) (new:List Ad):YB P rest u tr tm S d R v rd upd new=DR P rest u (tr++[(rd,upd.map (·.1)++(Bw S.length new).map (·.1))]) (D_ tm d v) (Cw S upd++new) R:=(rfl)
def gG (v:AV):YB P rest u tr tm S d R v [] [] []=DR P rest u (tr++[([],[])]) (D_ tm d v) S R:=by
 simp[YB,Bw]
def rY:DR P [] u tr tm S R=(P_ u tr=true∧R tm S):=(rfl)
def jZ:DR P [] [] tr tm S R=R tm S:=by simp[DR,P_]
def j7 (i:I):DR P ((none,i,d)::rest) u tr tm S R=B_ P i (ev tm) S (YB P rest u tr tm S d R):=(rfl)
def ZO (t:Nat) (want:Bool) (i:I):DR P ((some (t,want),i,d)::rest) u tr tm S R=gdF P (tm.getD t .any) want i rest u tr tm S d R:=(rfl)
def Ab4 (i:I):gdF P (.lit (.bool true)) true i rest u tr tm S d R=B_ P i (ev tm) S (YB P rest u tr tm S d R):=(rfl)
def Ab7 (i:I):gdF P (.lit (.bool false)) false i rest u tr tm S d R=B_ P i (ev tm) S (YB P rest u tr tm S d R):=(rfl)
def Ab5 (i:I):gdF P (.lit (.bool true)) false i rest u tr tm S d R=DR P rest u (tr++[([],[])]) (D_ tm d (.lit undef)) S R:=(rfl)
def Ab6 (i:I):gdF P (.lit (.bool false)) true i rest u tr tm S d R=DR P rest u (tr++[([],[])]) (D_ tm d (.lit undef)) S R:=(rfl)
def gV (want:Bool) (i:I):gdF P (.lit undef) want i rest u tr tm S d R=DR P rest u (tr++[([],[])]) (D_ tm d (.lit undef)) S R:=(rfl)
def dJ (t:Nat) (v:AV):D_ tm (some t) v=tm.set t v:=(rfl)
def dK (v:AV):D_ tm none v=tm:=(rfl)
def Acc (t:Nat):ev tm (.tmp t)=tm.getD t .any:=(rfl)
def pV (v:Value):ev tm (.const v)=AV.ofC v:=(rfl)
def xI (f:FuncId):ev tm (.func f)=.fn f [] []:=(rfl)
def vQ (k:IntKind) (n:Int):AV.ofC (.int k n)=.lit (.int k n):=(rfl)
def nM (b:Bool):AV.ofC (.bool b)=.lit (.bool b):=(rfl)
def Ye (s:ByteArray):AV.ofC (.string s)=.lit (.string s):=(rfl)
def vP:AV.ofC (.slice none 0 0)=.sl .full 1 []:=(rfl)
def vO:AV.ofC (.pointer none)=.lit (.pointer none):=(rfl)
def nP (k:IntKind) (n:Int):AV.ofC1 (.int k n)=.lit (.int k n):=(rfl)
def fN (b:Bool):AV.ofC1 (.bool b)=.lit (.bool b):=(rfl)
def Vk (s:ByteArray):AV.ofC1 (.string s)=.lit (.string s):=(rfl)
def nO:AV.ofC1 (.slice none 0 0)=.sl .full 1 []:=(rfl)
def nN:AV.ofC1 (.pointer none)=.lit (.pointer none):=(rfl)
def P9 (k:IntKind) (n:Int):(AV.lit (.int k n)).parts=some [.lit (.int k n)]:=(rfl)
def Ow (b:Bool):(AV.lit (.bool b)).parts=some [.lit (.bool b)]:=(rfl)
def LK (s:ByteArray):(AV.lit (.string s)).parts=some [.lit (.string s)]:=(rfl)
def P8:(AV.lit (.pointer none)).parts=some [.lit (.pointer none)]:=(rfl)
def fF (xs:List AV):(AV.agg xs).parts=some xs:=(rfl)
def fE (i o:Nat):(AV.ref i o).parts=some [.ref i o]:=(rfl)
def Ya (cs:List AV):(AV.iptr cs).parts=some [.iptr cs]:=(rfl)
def mY (t:GF) (k:Nat) (xs:List AV):(AV.sl t k xs).parts=some [.sl t k xs]:=(rfl)
def nA (f:FuncId) (a b:List AV):(AV.fn f a b).parts=some [.fn f a b]:=(rfl)
def L6 (xs:List AV):(AV.agg xs).cells=xs:=(rfl)
def Jy (v:Value):(AV.lit v).cells=[.lit v]:=(rfl)
def qM (t:GF) (k:Nat) (xs:List AV):(AV.sl t k xs).cells=[.sl t k xs]:=(rfl)
def XB (xs:List AV) (o:Nat):Ck xs o []=xs:=(rfl)
def Uw (xs:List AV) (o:Nat) (c:AV) (cs:List AV):Ck xs o (c::cs)=Ck (xs.set o c) (o+1) cs:=(rfl)
variable {ρ:Operand->AV} {K:KT}
def Afr (x:Operand):B_ P (.mov x) ρ S K=K (ρ x) [] [] []:=(rfl)
def Acg (c a b:Operand):B_ P (.pick c a b) ρ S K=OM (ρ c) (ρ a) (ρ b) K:=(rfl)
def Afq (zs:List Value):B_ P (.new zs) ρ S K=K (.ref S.length 0) [] [] [.cells (zs.map AV.ofC1)]:=(rfl)
def Af3 (x:Operand):B_ P (.box x) ρ S K=OQ (ρ x) S.length K:=(rfl)
def xZ (zs:List Value) (ps:List (Nat×Nat×Operand)):B_ P (.build zs ps) ρ S K=HM (zs.map AV.ofC1) (ps.map λp=>(p.1,p.2.1,ρ p.2.2)) K:=(rfl)
def Af2 (k:Nat) (xs:List Operand):B_ P (.bsl k xs) ρ S K=wP k (xs.map ρ) K:=(rfl)
def Ack (n:Option Nat) (a:Operand):B_ P (.load n a) ρ S K=K6 n (ρ a) S K:=(rfl)
def xV (n:Nat) (a x:Operand):B_ P (.store n a x) ρ S K=Kh n (ρ a) (ρ x) S K:=(rfl)
def Ach (x:Operand):B_ P (.nilc x) ρ S K=S3 (ρ x) K:=(rfl)
def Af4 (op:BinOp) (x y:Operand):B_ P (.bin op x y) ρ S K=VQ op (ρ x) (ρ y) K:=(rfl)
def Afz (b:Bool) (x y:Operand):B_ P (.eqb b x y) ρ S K=YG b (ρ x) (ρ y) K:=(rfl)
def Af0 (b:Bool) (n:Nat) (x y:Operand):B_ P (.eqa b n x y) ρ S K=YH b n (ρ x) (ρ y) K:=(rfl)
def Afx (b:Bool) (x y:Operand):B_ P (.eqp b x y) ρ S K=VO b (ρ x) (ρ y) K:=(rfl)
def Aic (op:UnOp) (x:Operand):B_ P (.un op x) ρ S K=wM op (ρ x) K:=(rfl)
def Af1 (k:IntKind) (x:Operand):B_ P (.cvt k x) ρ S K=YI k (ρ x) K:=(rfl)
def Af5 (x:Operand):B_ P (.b2s x) ρ S K=YJ (ρ x) K:=(rfl)
def Afp (x:Operand):B_ P (.s2b x) ρ S K=YA (ρ x) K:=(rfl)
def xW (k:Nat) (x:Operand) (lo hi mx:Option Operand):B_ P (.slice k x lo hi mx) ρ S K=Ed k (ρ x) (lo.map ρ) (hi.map ρ) (mx.map ρ) K:=(rfl)
def Ace (x:Operand) (lo hi:Option Operand):B_ P (.sstr x lo hi) ρ S K=Rt (ρ x) (lo.map ρ) (hi.map ρ) K:=(rfl)
def Acn (off:Nat) (x:Operand):B_ P (.fadr off x) ρ S K=K7 off (ρ x) K:=(rfl)
def Afv (off:Nat) (n:Option Nat) (x:Operand):B_ P (.fld off n x) ρ S K=LT off n (ρ x) K:=(rfl)
def Acm (k:Nat) (x ix:Operand):B_ P (.iadr k x ix) ρ S K=Mu k (ρ x) (ρ ix) K:=(rfl)
def Acp (n k:Nat) (x ix:Operand):B_ P (.aadr n k x ix) ρ S K=Mv n k (ρ x) (ρ ix) K:=(rfl)
def Afu (n k:Nat) (a:Option Nat) (x ix:Operand):B_ P (.idx n k a x ix) ρ S K=YE n k a (ρ x) (ρ ix) K:=(rfl)
def Acf (x ix:Operand):B_ P (.sidx x ix) ρ S K=Ru (ρ x) (ρ ix) K:=(rfl)
def Afw (x:Operand) (i:Nat):B_ P (.ext x i) ρ S K=YF (ρ x) i K:=(rfl)
def Afs (f:FuncId) (a b:List Operand):B_ P (.mkf f a b) ρ S K=K (.fn f (a.map ρ) (b.map ρ)) [] [] []:=(rfl)
def Aco (f:Operand) (args:List Operand):B_ P (.call f args) ρ S K=OP P (ρ f) (args.map ρ) S K:=(rfl)
def Af6 (k b:Nat) (s x:Operand):B_ P (.app k b s x) ρ S K=S4 k b (ρ s) (ρ x) S K:=(rfl)
def Aft (b:Bool) (x:Operand):B_ P (.len b x) ρ S K=ON b (ρ x) K:=(rfl)
def Acl (n:Nat):B_ P (.lenc n) ρ S K=K (.lit (.int .i64 n)) [] [] []:=(rfl)
def Aid (b:Bool) (x y:Operand):B_ P (.mx b x y) ρ S K=kMx b (ρ x) (ρ y) K:=(rfl)
def xY:B_ P .mkmap ρ S K=K (.mapr S.length) [] [] [.raw (.imap []) []]:=(rfl)
def xX (x k:Operand):B_ P (.mlook x k) ρ S K=LS (ρ x) (ρ k) S K:=(rfl)
def Aci (x k v:Operand):B_ P (.mput x k v) ρ S K=Rv (ρ x) (ρ k) (ρ v) S K:=(rfl)
def Afy (b:Bool) (x y:Operand):B_ P (.eqf b x y) ρ S K=VP b (ρ x) (ρ y) K:=(rfl)
def nW (i:Nat) (a:Int):LS (.mapr i) (.lit (.int .u32 a)) S K=match S[i]? with
 |some (.raw (.imap l) _)=>K (.lit (.int .i64 (Gi l a))) [i] [] []
 |_=>False:=(rfl)
def vU (i:Nat) (a u:Int):Rv (.mapr i) (.lit (.int .u32 a)) (.lit (.int .i64 u)) S K=match S[i]? with
 |some (.raw (.imap l) _)=>K .any [i] [(i,.raw (.imap (Io l a u)) [])] []
 |_=>False:=(rfl)
def Acd (neg:Bool) (f:FuncId) (a b:List AV):VP neg (.fn f a b) (.lit .nilFunc) K=K (.lit (.bool neg)) [] [] []:=(rfl)
def xM (neg:Bool):VP neg (.lit .nilFunc) (.lit .nilFunc) K=K (.lit (.bool !neg)) [] [] []:=(rfl)
def nL:AV.ofC .nilFunc=.lit .nilFunc:=(rfl)
def fM:AV.ofC1 .nilFunc=.lit .nilFunc:=(rfl)
def fL:AV.ofC1 (.map none)=.lit (.map none):=(rfl)
def Ov:(AV.lit .nilFunc).parts=some [.lit .nilFunc]:=(rfl)
def Ou:(AV.lit (.map none)).parts=some [.lit (.map none)]:=(rfl)
def X_ (i:Nat):(AV.mapr i).parts=some [.mapr i]:=(rfl)
def wR (f:FuncId) (a b:List AV) (n:Nat):OQ (.fn f a b) n K=K (.ref n 0) [] [] [.cells [.fn f a b]]:=(rfl)
def yG (q:Nat) (args:List AV):OP P (.yv q) args S K=rZ P q args S K:=(rfl)
def Acj (k b:Nat) (l c:Operand):B_ P (.mksl k b l c) ρ S K=Mt k b (ρ l) (ρ c) S.length K:=(rfl)
def gH (t:Bool) (x y:AV):OM (.lit (.bool t)) x y K=K (bif t then x else y) [] [] []:=(rfl)
def oO (op:BinOp) (k k':IntKind) (a b:Int):VQ op (.lit (.int k a)) (.lit (.int k' b)) K=Dl op k a k' b K:=(rfl)
def oN (op:BinOp) (a b:ByteArray):VQ op (.lit (.string a)) (.lit (.string b)) K=Yz op a b K:=(rfl)
def Afl (k:IntKind) (a b:Int):Dl .add k a k b K=K (.lit (.int k (k.wrap (a+b)))) [] [] []:=by simp[Dl]
def Ae8 (k:IntKind) (a b:Int):Dl .sub k a k b K=K (.lit (.int k (k.wrap (a-b)))) [] [] []:=by simp[Dl]
def Afe (k:IntKind) (a b:Int):Dl .mul k a k b K=K (.lit (.int k (k.wrap (a*b)))) [] [] []:=by simp[Dl]
def Afc (k:IntKind) (a b:Int):Dl .quo k a k b K=(b≠0∧K (.lit (.int k (k.wrap (a.tdiv b)))) [] [] []):=by simp[Dl]
def Afb (k:IntKind) (a b:Int):Dl .rem k a k b K=(b≠0∧K (.lit (.int k (a.tmod b))) [] [] []):=by simp[Dl]
def Afk (k:IntKind) (a b:Int):Dl .and k a k b K=K (.lit (.int k (Cv .and k a b))) [] [] []:=by simp[Dl]
def Aia (k:IntKind) (a b:Int):Dl .or k a k b K=K (.lit (.int k (Cv .or k a b))) [] [] []:=by simp[Dl]
def Ae7 (k:IntKind) (a b:Int):Dl .xor k a k b K=K (.lit (.int k (Cv .xor k a b))) [] [] []:=by simp[Dl]
def oV (k:IntKind) (a b:Int):Dl .andNot k a k b K=K (.lit (.int k (Cv .andNot k a b))) [] [] []:=by simp[Dl]
def Afa (k k':IntKind) (a b:Int):Dl .shl k a k' b K=(0≤b∧K (.lit (.int k (k.wrap (a*2^min b.toNat k.bits)))) [] [] []):=(rfl)
def Ae9 (k k':IntKind) (a b:Int):Dl .shr k a k' b K=(0≤b∧K (.lit (.int k (a.fdiv (2^min b.toNat k.bits)))) [] [] []):=(rfl)
def Afj (k:IntKind) (a b:Int):Dl .eql k a k b K=K (.lit (.bool (a==b))) [] [] []:=by simp[Dl]
def Afd (k:IntKind) (a b:Int):Dl .neq k a k b K=K (.lit (.bool (a != b))) [] [] []:=by simp[Dl]
def Aff (k:IntKind) (a b:Int):Dl .lss k a k b K=K (.lit (.bool (decide (a<b)))) [] [] []:=by simp[Dl]
def Afg (k:IntKind) (a b:Int):Dl .leq k a k b K=K (.lit (.bool (decide (a≤b)))) [] [] []:=by simp[Dl]
def Afh (k:IntKind) (a b:Int):Dl .gtr k a k b K=K (.lit (.bool (decide (b<a)))) [] [] []:=by simp[Dl]
def Afi (k:IntKind) (a b:Int):Dl .geq k a k b K=K (.lit (.bool (decide (b≤a)))) [] [] []:=by simp[Dl]
def Aev (a b:ByteArray):Yz .eql a b K=K (.lit (.bool (a.toList==b.toList))) [] [] []:=(rfl)
def Aeu (a b:ByteArray):Yz .neq a b K=K (.lit (.bool (!(a.toList==b.toList)))) [] [] []:=(rfl)
def oL (k:IntKind) (a:Int) (n:Nat):OQ (.lit (.int k a)) n K=K (.ref n 0) [] [] [.cells [.lit (.int k a)]]:=(rfl)
def gJ (b:Bool) (n:Nat):OQ (.lit (.bool b)) n K=K (.ref n 0) [] [] [.cells [.lit (.bool b)]]:=(rfl)
def oM (xs:List AV) (n:Nat):OQ (.agg xs) n K=K (.ref n 0) [] [] [.cells xs]:=(rfl)
def oK (i o:Nat) (n:Nat):OQ (.ref i o) n K=K (.ref n 0) [] [] [.cells [.ref i o]]:=(rfl)
def wQ (t:GF) (k:Nat) (xs:List AV) (n:Nat):OQ (.sl t k xs) n K=K (.ref n 0) [] [] [.cells [.sl t k xs]]:=(rfl)
def gI (cells:List AV) (ps:List (Nat×Nat×AV)):HM cells ps K=match Lc cells ps with
 |some cs=>K (.agg cs) [] [] []
 |none=>False:=(rfl)
def iB (cells:List AV):Lc cells []=some cells:=(rfl)
def Y4 (cells:List AV) (off size:Nat) (x:AV) (rest:List (Nat×Nat×AV)):Lc cells ((off,size,x)::rest)=match x.parts with
 |some cs=>if cs.length=size∧off+size≤cells.length then Lc (Ck cells off cs) rest else none
 |none=>none:=(rfl)
def wO (k:Nat) (xs:List AV):wP k xs K=(xs.all (fK k)=true∧K (.sl .full k xs) [] [] []):=(rfl)
def A2 (k:Nat) (x:AV):fK k x=match x.parts with
 |some cs=>cs.length==k
 |none=>false:=(rfl)
def wK (x:AV) (cs:List AV):K6 none (.iptr (x::cs)) S K=K x [] [] []:=(rfl)
def wJ (n:Nat) (cs:List AV):K6 (some n) (.iptr cs) S K=(n≤cs.length∧K (.agg (cs.take n)) [] [] []):=(rfl)
def Ae3 (n:Option Nat) (i o:Nat):K6 n (.ref i o) S K=match S[i]? with
 |some (.cells xs)=>match n with
  |none=>match xs[o]? with
   |some x=>K x [i] [] []
   |none=>False
  |some n=>o+n≤xs.length∧K (.agg ((xs.drop o).take n)) [i] [] []
 |_=>False:=(rfl)
def Abc (n i o:Nat) (x:AV):Kh n (.ref i o) x S K=match S[i]? with
 |some (.cells xs)=>match x.parts with
  |some cs=>cs.length=n∧o+n≤xs.length∧K .any [i] [(i,.cells (Ck xs o cs))] []
  |none=>False
 |_=>False:=(rfl)
def Aby (n:Option Nat) (j g o:Nat):K6 n (.mref j g o) S K=match S[j]? with
 |some (.mrow _ m xs)=>m=g∧match n with
  |none=>match xs[o]? with
   |some x=>K x [j] [] []
   |none=>False
  |some n=>0<n∧o+n≤xs.length∧K (.agg ((xs.drop o).take n)) [j] [] []
 |_=>False:=(rfl)
def tR (n j g o:Nat) (x:AV):Kh n (.mref j g o) x S K=match S[j]? with
 |some (.mrow k m xs)=>match x.parts with
  |some cs=>m=g∧0<n∧cs.length=n∧o+n≤xs.length∧K .any [j] [(j,.mrow k m (Ck xs o cs))] []
  |none=>False
 |_=>False:=(rfl)
def nT (j g o:Nat):S3 (.mref j g o) K=K (.mref j g o) [] [] []:=(rfl)
def iN (off j g o:Nat):K7 off (.mref j g o) K=K (.mref j g (o+off)) [] [] []:=(rfl)
def wV (k j g:Nat) (k1:IntKind) (i:Int):Mu k (.ms j g) (.lit (.int k1 i)) K=(0≤i∧i<g∧K (.mref j g (i.toNat*k)) [] [] []):=(rfl)
def Abx (j g:Nat):ON false (.ms j g) K=K (.lit (.int .i64 g)) [] [] []:=(rfl)
def Aee (k bytes j g ky:Nat) (t:GF) (ys:List AV):S4 k bytes (.ms j g) (.sl t ky ys) S K=match S[j]? with
 |some (.mrow k' m xs)=>k'=k∧m=g∧(ky=k∨ys=[])∧(g+ys.length)*bytes≤140737488355328∧K (.ms j (g+ys.length)) [j] [(j,.mrow k (g+ys.length) (xs++Cn ys))] []
 |_=>False:=(rfl)
def Aae (k bytes ks ky:Nat) (t:GF) (xs ys:List AV):S4 k bytes (.sl t ks xs) (.slc ky ys) S K=
 (t=.full∧xs=[]∧(ky=k∨ys=[])∧ys.length*bytes≤140737488355328∧K (.ms S.length ys.length) [] [] [.mrow k ys.length (Cn ys)]):=(rfl)
def mZ (j g:Nat):(AV.ms j g).parts=some [.ms j g]:=(rfl)
def g8 (x:AV) (ys:List AV):Cn (x::ys)=x.cells++Cn ys:=by simp[Cn]
def vS (i o:Nat):S3 (.ref i o) K=K (.ref i o) [] [] []:=(rfl)
def nU (cs:List AV):S3 (.iptr cs) K=K (.iptr cs) [] [] []:=(rfl)
def xN (neg a b:Bool):YG neg (.lit (.bool a)) (.lit (.bool b)) K=K (.lit (.bool (if neg then !(a==b)else a==b))) [] [] []:=(rfl)
def xO (neg:Bool) (n:Nat) (xs ys:List AV):YH neg n (.agg xs) (.agg ys) K=(xs.length=n∧JK xs ys=true∧K (.lit (.bool (if neg then !(Fb xs ys)else Fb xs ys))) [] [] []):=(rfl)
def WJ:Fb [] []=true:=(rfl)
def TE (k k':IntKind) (a b:Int) (xs ys:List AV):Fb (.lit (.int k a)::xs) (.lit (.int k' b)::ys)=((a==b)&&Fb xs ys):=(rfl)
def pW:JK [] []=true:=(rfl)
def iR (k:IntKind) (a b:Int) (xs ys:List AV):JK (.lit (.int k a)::xs) (.lit (.int k b)::ys)=JK xs ys:=by simp[JK]
def xK (neg:Bool) (i o:Nat):VO neg (.ref i o) (.lit (.pointer none)) K=K (.lit (.bool neg)) [] [] []:=(rfl)
def xL (neg:Bool):VO neg (.lit (.pointer none)) (.lit (.pointer none)) K=K (.lit (.bool !neg)) [] [] []:=(rfl)
def Aa7 (k:IntKind) (n:Int):wM .neg (.lit (.int k n)) K=K (.lit (.int k (k.wrap (0-n)))) [] [] []:=(rfl)
def Aa5 (k:IntKind) (n:Int):wM .xor (.lit (.int k n)) K=K (.lit (.int k (Cv .xor k (if k.signed then-1 else k.max) n))) [] [] []:=(rfl)
def Aa6 (b:Bool):wM .not (.lit (.bool b)) K=K (.lit (.bool !b)) [] [] []:=(rfl)
def yC (k k':IntKind) (n:Int):YI k (.lit (.int k' n)) K=K (.lit (.int k (k.wrap n))) [] [] []:=(rfl)
def Acu (t:GF) (k:Nat) (xs:List AV):YJ (.sl t k xs) K=((k=1∨xs=[])∧xs.all (·.isU8)=true∧K (.lit (.string (FN xs))) [] [] []):=(rfl)
def uJ (s:ByteArray):YA (.lit (.string s)) K=(s.size≤140737488355328∧K (.sl .none 1 (s.data.toList.map λb=>.lit (.int .u8 b.toNat))) [] [] []):=(rfl)
def Abe (k ks:Nat) (t:GF) (xs:List AV) (k1 k2:IntKind) (l h:Int):Ed k (.sl t ks xs) (some (.lit (.int k1 l))) (some (.lit (.int k2 h))) none K=
 ((ks=k∨xs=[])∧0≤l∧l≤h∧h≤xs.length∧K (.sl .none ks ((xs.drop l.toNat).take (h-l).toNat)) [] [] []):=(rfl)
def Aes (k ks:Nat) (t:GF) (xs:List AV) (k2:IntKind) (h:Int):Ed k (.sl t ks xs) none (some (.lit (.int k2 h))) none K=
 ((ks=k∨xs=[])∧0≤h∧h≤xs.length∧K (.sl .none ks (xs.take h.toNat)) [] [] []):=by
 simp[Ed,jJ,AV.i,lV]
def XD (k ks:Nat) (xs:List AV) (k1:IntKind) (l:Int):Ed k (.sl .full ks xs) (some (.lit (.int k1 l))) none none K=
 ((ks=k∨xs=[])∧0≤l∧l≤xs.length∧K (.sl .full ks (xs.drop l.toNat)) [] [] []):=by
 simp only[Ed,jJ,AV.i,lV,Int.le_refl,true_and];congr 4;funext;rw[take_of_length_le];simp;omega
def XC (k ks:Nat) (xs:List AV) (k1:IntKind) (l:Int):Ed k (.sl .none ks xs) (some (.lit (.int k1 l))) none none K=
 ((ks=k∨xs=[])∧0≤l∧l≤xs.length∧K (.sl .none ks (xs.drop l.toNat)) [] [] []):=by
 simp only[Ed,jJ,AV.i,lV,Int.le_refl,true_and];congr 4;funext;rw[take_of_length_le];simp;omega
def Sg (k ks:Nat) (t:GF) (xs:List AV) (k2 k3:IntKind) (h m:Int):Ed k (.sl t ks xs) none (some (.lit (.int k2 h))) (some (.lit (.int k3 m))) K=
 ((ks=k∨xs=[])∧0≤h∧h≤xs.length∧m=h∧K (.sl .full ks (xs.take h.toNat)) [] [] []):=by
 simp[Ed,jJ,AV.i]
def pP (off i o:Nat):K7 off (.ref i o) K=K (.ref i (o+off)) [] [] []:=(rfl)
def iO (off:Nat) (cs:List AV):K7 off (.iptr cs) K=K (.iptr (cs.drop off)) [] [] []:=(rfl)
def xC (off:Nat) (xs:List AV):LT off none (.agg xs) K=match xs[off]? with
 |some x=>K x [] [] []
 |none=>False:=(rfl)
def Afo (off n:Nat) (xs:List AV):LT off (some n) (.agg xs) K=(off+n≤xs.length∧K (.agg ((xs.drop off).take n)) [] [] []):=(rfl)
def wU (k ks:Nat) (t:GF) (xs:List AV) (k1:IntKind) (i:Int):Mu k (.sl t ks xs) (.lit (.int k1 i)) K=(ks=k∧0≤i∧i<xs.length∧K (.iptr (xs.getD i.toNat .any).cells) [] [] []):=(rfl)
def rX (len k i o:Nat) (k1:IntKind) (n:Int):Mv len k (.ref i o) (.lit (.int k1 n)) K=(0≤n∧n<len∧K (.ref i (o+n.toNat*k)) [] [] []):=(rfl)
def jY (len k:Nat) (cs:List AV) (k1:IntKind) (n:Int):Mv len k (.iptr cs) (.lit (.int k1 n)) K=(0≤n∧n<len∧K (.iptr (cs.drop (n.toNat*k))) [] [] []):=(rfl)
def wT (len k:Nat) (n:Option Nat) (xs:List AV) (k1:IntKind) (i:Int):YE len k n (.agg xs) (.lit (.int k1 i)) K=(0≤i∧i<len∧LT (i.toNat*k) n (.agg xs) K):=(rfl)
def xG (xs:List AV) (i:Nat):YF (.tup xs) i K=match xs[i]? with
 |some x=>K x [] [] []
 |none=>False:=(rfl)
def yH (f:FuncId) (a b args:List AV):OP P (.fn f a b) args S K=Aa P f (a++args++b) S K:=(rfl)
def rQ (k bytes ks ky:Nat) (t:GF) (xs ys:List AV):S4 k bytes (.sl .full ks xs) (.sl t ky ys) S K=
 ((ks=k∨xs=[])∧(ky=k∨ys=[])∧(xs.length+ys.length)*bytes≤140737488355328∧K (.sl (.row S.length) k (xs++ys)) [] [] [.row k (xs.length+ys.length)]):=(rfl)
def Aaf (k bytes ks ky j:Nat) (t:GF) (xs ys:List AV):S4 k bytes (.sl (.row j) ks xs) (.sl t ky ys) S K=
 ((ks=k∨xs=[])∧(ky=k∨ys=[])∧(xs.length+ys.length)*bytes≤140737488355328∧S[j]? =some (.row k xs.length)∧K (.sl (.row j) k (xs++ys)) [j] [(j,.row k (xs.length+ys.length))] []):=(rfl)
def Abw (t:GF) (k:Nat) (xs:List AV):ON false (.sl t k xs) K=K (.lit (.int .i64 xs.length)) [] [] []:=(rfl)
def wI (s:ByteArray):ON true (.lit (.string s)) K=K (.lit (.int .i64 s.size)) [] [] []:=(rfl)
def Abr (b:Bool) (k k':IntKind) (x y:Int):kMx b (.lit (.int k x)) (.lit (.int k' y)) K=K (.lit (.int k (if b then(if y>x then y else x)else if y<x then y else x))) [] [] []:=(rfl)
def nK (tr:List (List Nat×List Nat)):P_ [] tr=true:=(rfl)
end
def U4 (P:Program) (m:Nat) (fn:Func) (r:AV) (S':List Ad):QT:=λe tm S1=>(e=.ret∨e=.normal)∧A6 P m fn tm S1 r S'
section
variable {P:Program} {m:Nat} {fn:Func} {r:AV} {S':List Ad} {tm:List AV} {S:List Ad}
def mJ:U4 P m fn r S' .ret tm S=A6 P m fn tm S r S':=by simp[U4]
def U3:U4 P m fn r S' .normal tm S=A6 P m fn tm S r S':=by simp[U4]
def Ah.run {f:FuncId} {c:C} {args:List AV} {tm:List AV} {n:Nat} (hf:P.funcs[f]? =some fn) (hb:fn.body.bind (AU P)=some c) (hname:(fn.name== "runtime.NumGoroutine")=false) (hn:fn.ntmps=n)
 (ht:args++List.replicate (n-args.length) .any=tm) (h:aw P S.length c tm S (U4 P S.length fn r S')):Ah P f args S r S':=by
 cases hbd:fn.body with
 |none=>simp[hbd]at hb
 |some code=>
  simp[hbd]at hb;refine Ah.body hf hbd hname hb ?_;rw[hn,ht];exact h
def CD {u:List (Nat×Nat)} {tr:List (List Nat×List Nat)} {p:Prop} (h:P_ u tr=true) (hp:p):P_ u tr=true∧p:=⟨h,hp⟩
def A6.fin {rv:List RV} (hr:JS P fn=some rv) (ids:List Nat) (hn:ids.Nodup) (hl:ids.length=S'.length) (hm:m≤S'.length) (hp:ids.take m=List.range m)
 (hT:ids.map (λi=>S[i]?)=S'.map λo=>some (o.ren (AH ids S.length))) (hx0:(Ci tm S rv).map CM=some (r.ren (AH ids S.length))):A6 P m fn tm S r S':=by
 obtain⟨xs,h,hx⟩:∃xs,Ci tm S rv=some xs∧r.ren (AH ids S.length)=CM xs:=by
  cases hq:Ci tm S rv with
  |none=>simp[hq]at hx0
  |some xs=>simp[hq]at hx0;exact⟨xs,rfl,hx0.symm⟩
 refine A6.sel (r':=CM xs) (A6.res hr h) ids hn hl hm (λk i hk hi=>?_) (λk o ho=>?_) hx
 ·have:(ids.take m)[k]? =some i:=by rw[getElem?_take,if_pos Om];exact hi
  rw[hp,getElem?_range Om]at this;injection this with this;exact this.symm
 ·have hk:k<ids.length:=by rw[hl];exact(Ge ho)
  refine⟨ids[k],Si,?_⟩;have:=congrArg (λl:List (Option Ad)=>l[k]?) hT;simp only[getElem?_map,getElem?_eq_getElem hk,ho,Option.map_some]at this;injection this
def uV (ρ:Nat->Nat) (v:Value):(AV.lit v).ren ρ=.lit v:=by simp[AV.ren]
def uT (ρ:Nat->Nat) (i o:Nat):(AV.ref i o).ren ρ=.ref (ρ i) o:=by simp[AV.ren]
def Abi (ρ:Nat->Nat) (j g:Nat):(AV.ms j g).ren ρ=.ms (ρ j) g:=by simp[AV.ren]
def uS (ρ:Nat->Nat) (k:Nat) (xs:List AV):(AV.slc k xs).ren ρ=.slc k (xs.map λx=>x.ren ρ):=by simp[AV.ren]
def fG (ρ:Nat->Nat) (k n:Nat) (xs:List AV):(Ad.mrow k n xs).ren ρ=.mrow k n (xs.map λx=>x.ren ρ):=(rfl)
def lZ (ρ:Nat->Nat) (i:Nat):(AV.mapr i).ren ρ=.mapr (ρ i):=by simp[AV.ren]
def Abh (ρ:Nat->Nat) (i:Nat):(AV.yv i).ren ρ=.yv (ρ i):=by simp[AV.ren]
def nG (ρ:Nat->Nat) (o:Fr) (xs:List AV):(Ad.raw o xs).ren ρ=.raw o (xs.map λx=>x.ren ρ):=(rfl)
def Sp (ρ:Nat->Nat):AV.any.ren ρ=.any:=by simp[AV.ren]
def Z9 (ρ:Nat->Nat) (xs:List AV):(AV.agg xs).ren ρ=.agg (xs.map λx=>x.ren ρ):=by simp[AV.ren]
def uR (ρ:Nat->Nat) (xs:List AV):(AV.tup xs).ren ρ=.tup (xs.map λx=>x.ren ρ):=by simp[AV.ren]
def lY (ρ:Nat->Nat) (t:GF) (k:Nat) (xs:List AV):(AV.sl t k xs).ren ρ=.sl (t.ren ρ) k (xs.map λx=>x.ren ρ):=by simp[AV.ren]
def Abk (ρ:Nat->Nat) (f:FuncId) (a b:List AV):(AV.fn f a b).ren ρ=.fn f (a.map λx=>x.ren ρ) (b.map λx=>x.ren ρ):=by simp[AV.ren]
def cJ (ρ:Nat->Nat):GF.none.ren ρ=.none:=(rfl)
def cK (ρ:Nat->Nat):GF.full.ren ρ=.full:=(rfl)
def kO (ρ:Nat->Nat) (j:Nat):(GF.row j).ren ρ=.row (ρ j):=(rfl)
def Yb (ρ:Nat->Nat) (xs:List AV):(Ad.cells xs).ren ρ=.cells (xs.map λx=>x.ren ρ):=(rfl)
def nF (ρ:Nat->Nat) (k n:Nat):(Ad.row k n).ren ρ=.row k n:=(rfl)
def fH (ρ:Nat->Nat):Ad.dead.ren ρ=.dead:=(rfl)
def AE (i:Nat) (ids:List Nat) (N:Nat):AH (i::ids) N 0=i:=(rfl)
def Ae6 (i j:Nat) (ids:List Nat) (N:Nat):AH (i::j::ids) N 1=j:=(rfl)
def Ae5 (i j k:Nat) (ids:List Nat) (N:Nat):AH (i::j::k::ids) N 2=k:=(rfl)
def Ae4 (i j k l:Nat) (ids:List Nat) (N:Nat):AH (i::j::k::l::ids) N 3=l:=(rfl)
def A0 (k:IntKind) (l:List Int):List AV:=l.map λz=>.lit (.int k z)
def AM (ρ:Nat->Nat) (k:IntKind) (l:List Int):(A0 k l).map (λx=>x.ren ρ)=A0 k l:=by simp[A0,AV.ren]
def Ab (k:IntKind) (l:List Int):(A0 k l).length=l.length:=by simp[A0]
def C1 (k:IntKind) (l m:List Int):A0 k l++A0 k m=A0 k (l++m):=by simp[A0]
def oR (k:IntKind):A0 k []=[]:=(rfl)
def Cy (k:IntKind) (l:List Int) (i:Nat) (h:i<l.length):(A0 k l).getD i .any=.lit (.int k (l.getD i 0)):=by
 simp[A0,h]
def Dh (k:IntKind) (l:List Int) (n:Nat):(A0 k l).take n=A0 k (l.take n):=by simp[A0]
def CA (k:IntKind) (l:List Int) (n:Nat):(A0 k l).drop n=A0 k (l.drop n):=by simp[A0]
def Nw (l:List Int):(A0 .u8 l).all (·.isU8)=true:=by simp[A0,AV.isU8]
def Vj (k:IntKind) (z:Int):fK 1 (.lit (.int k z))=true:=(rfl)
def gM (k:IntKind) (l:List Int):(A0 k l).all (fK 1)=true:=by simp[A0,Vj]
def Aeo:IntKind.i64.wrap 1=1:=(rfl)
def Aen:IntKind.i64.wrap 2=2:=(rfl)
def Aem:IntKind.i64.wrap 3=3:=(rfl)
def Ael:IntKind.i64.wrap 4=4:=(rfl)
def Fu:AV->AV
 | .sl _ k xs=>.sl .none k xs
 |x=>x
def untag:AV->AV
 | .sl _ k xs=>.sl .none k xs
 | .agg xs=>.agg (xs.map Fu)
 |x=>x
def F2 {G:Gh} {x:AV} {v:Value} (r:Bv G x v):Bv G (Fu x) v:=by
 cases x with
 |sl t k xs=>cases r with
  |sl vs hc hA hk h1 h2 h3 ht=>exact .sl vs hc hA hk h1 h2 h3 trivial
 |_=>exact r
def d7 {G:Gh} {x:AV} {v:Value} (r:Bv G x v):Bv G (untag x) v:=by
 cases x with
 |sl t k xs=>exact F2 (x:=.sl t k xs) r
 |agg xs=>cases r with
  |agg h0 h2 h3=>exact .agg (by simpa using h0) h2 (λj x v hx hv=>by
    obtain⟨y,hy,rfl⟩:=A9 hx;exact F2 (h3 j y v hy hv))
 |_=>exact r
def Wk.untag {tm:List AV} {S:List Ad} (t:Nat) {x:AV} (ht:tm[t]? =some x):Wk m tm S (tm.set t (Fu x)) S:=λG0 S0 w0 G a w _ hz=>by
 have htl:=(Ge ht);refine⟨G,hz.left,by simp[hz.size],λt' y u hx hu=>?_,hz.defers,hz.wd0⟩;by_cases et:t'=t
 ·subst et;simp[htl]at hx;subst hx;exact F2 (hz.rep t' x u ht hu)
 ·rw[getElem?_set_ne (Ne.symm et)]at hx;exact hz.rep t' y u hx hu
def A6.untag (t:Nat) {x:AV} (ht:tm[t]? =some x) (h:A6 P m fn (tm.set t (Fu x)) S r S'):A6 P m fn tm S r S':=A6.wk (Wk.untag t ht) h
def Wk.nilk {tm:List AV} {S:List Ad} (t k:Nat) {g:GF} {k':Nat} (ht:tm[t]? =some (.sl g k' [])):Wk m tm S (tm.set t (.sl .none k [])) S:=λG0 S0 w0 G a w _ hz=>by
 have htl:=(Ge ht);refine⟨G,hz.left,by simp[hz.size],λt' y u hx hu=>?_,hz.defers,hz.wd0⟩;by_cases et:t'=t
 ·subst et;simp[htl]at hx;subst hx;exact(F2 (hz.rep t' _ u ht hu)).rek
 ·rw[getElem?_set_ne (Ne.symm et)]at hx;exact hz.rep t' y u hx hu
def A6.nilk (t k:Nat) {g:GF} {k':Nat} (ht:tm[t]? =some (.sl g k' [])) (h:A6 P m fn (tm.set t (.sl .none k [])) S r S'):A6 P m fn tm S r S':=A6.wk (Wk.nilk t k ht) h
def Wk.unobj {tm:List AV} {S:List Ad} (i:Nat) {xs:List AV} (hi:S[i]? =some (.cells xs)):Wk m tm S tm (S.set i (.cells (xs.map Fu))):=λG0 S0 w0 G a w _ hz=>by
 refine⟨G,hz.left.trans (A1.reobj hz.left.wd hi Si λk x v hx h=>?_),hz.size,hz.rep,hz.defers,hz.wd0⟩;obtain⟨y,hy,rfl⟩:=A9 hx;exact F2 (h y hy)
def A6.unobj (i:Nat) {xs:List AV} (hi:S[i]? =some (.cells xs)) (h:A6 P m fn tm (S.set i (.cells (xs.map Fu))) r S'):A6 P m fn tm S r S':=A6.wk (Wk.unobj i hi) h
def JX (v:Value):Fu (.lit v)=.lit v:=(rfl)
def CS (t:GF) (k:Nat) (xs:List AV):Fu (.sl t k xs)=.sl .none k xs:=(rfl)
def Ah.untag {f:FuncId} {args:List AV} {S:List Ad} (h:Ah P f (args.map untag) S r S'):Ah P f args S r S':=
 ⟨h.1,λG w vs hw hr=>h.2 G w vs hw ⟨by simpa using hr.1,λj x v hx hv=>by
   obtain⟨y,hy,rfl⟩:=A9 hx;exact d7 (hr.2 j y v hy hv)⟩⟩
def Ct.untag {f:FuncId} {args:List AV} {rd:List (Nat×Ad)} {r:Nat->AV} {upd:List (Nat×Ad)} {new:Nat->List Ad} (h:Ct P f (args.map untag) rd r upd new):Ct P f args rd r upd new:=
 λT n h1 h2=>(h T n h1 h2).untag
def Ct.p {f:FuncId} {args:List AV} {r:AV} (h:Ah P f args [] r []) (ha:∀ρ,args.map (λx=>x.ren ρ)=args) (hr:∀ρ,r.ren ρ=r):Ct P f args [] (λ_=>r) [] (λ_=>[]):=
 Ct.mk h [] Si rfl Si Si (λn N=>ha _) (λn N=>hr _) (λn N=>rfl) (.inl λn N=>rfl) (λn N=>rfl)
def Ct.r1 {f:FuncId} {args args₀:List AV} {o:Ad} {r:AV} (h:Ah P f args₀ [o] r [o]) (i:Nat) (ha:∀N,args₀.map (λx=>x.ren (AH [i] N))=args) (ho:∀ρ,o.ren ρ=o) (hd:o≠ .dead) (hr:∀ρ,r.ren ρ=r):Ct P f args [(i,o)] (λ_=>r) [] (λ_=>[]):=
 Ct.mk h [i] Si rfl Si (by simpa using hd) (λn N=>ha N) (λn N=>hr _) (λn N=>by simp[ho]) (.inr ⟨rfl,rfl⟩) (λn N=>rfl)
def Ct.u1 {f:FuncId} {args args₀:List AV} {o o':Ad} {r:AV} (h:Ah P f args₀ [o] r [o']) (i:Nat) (ha:∀N,args₀.map (λx=>x.ren (AH [i] N))=args) (ho:∀ρ,o.ren ρ=o) (ho':∀ρ,o'.ren ρ=o') (hd:o≠ .dead) (hr:∀ρ,r.ren ρ=r):
 Ct P f args [(i,o)] (λ_=>r) [(i,o')] (λ_=>[]):=
 Ct.mk h [i] Si rfl Si (by simpa using hd) (λn N=>ha N) (λn N=>hr _) (λn N=>by simp[ho]) (.inl λn N=>by simp[ho']) (λn N=>rfl)
def Ct.n {f:FuncId} {args:List AV} {r₀:AV} {r:Nat->AV} {S₁:List Ad} {new:Nat->List Ad} (h:Ah P f args [] r₀ S₁) (ha:∀ρ,args.map (λx=>x.ren ρ)=args) (hr:∀n N,r₀.ren (AH (range' n S₁.length) N)=r n)
 (hn:∀n N,(S₁.map λo=>o.ren (AH (range' n S₁.length) N))=new n):Ct P f args [] r [] new:=
 Ct.mk h [] Si rfl Si Si (λn N=>ha _) (λn N=>by simpa using hr n N) (λn N=>rfl) (.inl λn N=>rfl) (λn N=>by simpa using hn n N)
def Ct.un {f:FuncId} {args args₀:List AV} {o o':Ad} {r₀:AV} {r:Nat->AV} {S₁:List Ad} {new:Nat->List Ad} (h:Ah P f args₀ [o] r₀ (o'::S₁)) (i:Nat) (ha:∀n N,args₀.map (λx=>x.ren (AH (i::range' n S₁.length) N))=args) (ho:∀ρ,o.ren ρ=o) (ho':∀ρ,o'.ren ρ=o') (hd:o≠ .dead)
 (hr:∀n N,r₀.ren (AH (i::range' n S₁.length) N)=r n) (hn:∀n N,(S₁.map λo=>o.ren (AH (i::range' n S₁.length) N))=new n):Ct P f args [(i,o)] r [(i,o')] new:=
 Ct.mk h [i] Si rfl Si (by simpa using hd) (λn N=>by simpa using ha n N) (λn N=>by simpa using hr n N) (λn N=>by simp[ho]) (.inl λn N=>by simp[ho']) (λn N=>by simpa using hn n N)
def Ah.toCt {f:FuncId} {args:List AV} {r:AV} (h:Ah P f args [] r []) (ha:∀ρ,args.map (λx=>x.ren ρ)=args) (hr:∀ρ,r.ren ρ=r):Ct P f args [] (λ_=>r) [] (λ_=>[]):=Ct.p h ha hr
variable {K:KT} {f:FuncId} {args:List AV}
def Aa.p {r:AV} (h:Ct P f (args.map Proofs.YtaajkppmibfgfabGreat.untag) [] (λ_=>r) [] (λ_=>[])) (hK:K r [] [] []):Aa P f args S K:=Aa.of h.untag Si Si hK
def Aa.r1 {r:AV} {i:Nat} {o:Ad} (h:Ct P f (args.map Proofs.YtaajkppmibfgfabGreat.untag) [(i,o)] (λ_=>r) [] (λ_=>[])) (hS:S[i]? =some o) (hK:K r [i] [] []):Aa P f args S K:=Aa.of h.untag (by simpa using hS) Si hK
def Aa.u1 {r:AV} {i:Nat} {o o':Ad} (h:Ct P f (args.map Proofs.YtaajkppmibfgfabGreat.untag) [(i,o)] (λ_=>r) [(i,o')] (λ_=>[])) (hS:S[i]? =some o) (hK:K r [i] [(i,o')] []):Aa P f args S K:=Aa.of h.untag (by simpa using hS) Si hK
def Aa.n {r:Nat->AV} {new:Nat->List Ad} (h:Ct P f (args.map Proofs.YtaajkppmibfgfabGreat.untag) [] r [] new) (hK:K (r S.length) [] [] (new S.length)):Aa P f args S K:=Aa.of h.untag Si Si hK
def Aa.un {r:Nat->AV} {i:Nat} {o o':Ad} {new:Nat->List Ad} (h:Ct P f (args.map Proofs.YtaajkppmibfgfabGreat.untag) [(i,o)] r [(i,o')] new) (hS:S[i]? =some o) (hK:K (r S.length) [i] [(i,o')] (new S.length)):Aa P f args S K:=Aa.of h.untag (by simpa using hS) Si hK
end
section
variable {P:Program} {S:List Ad} {K:KT} {f:FuncId} {args args₀:List AV}
def Ct.u2 {o₀ p₀ o₁ p₁ o p o' p':Ad} {r:AV} (h:Ah P f args₀ [o₀,p₀] r [o₁,p₁]) (i j:Nat) (hij:i≠j) (ha:∀N,args₀.map (λx=>x.ren (AH [i,j] N))=args)
 (ho:∀N,o₀.ren (AH [i,j] N)=o) (hp:∀N,p₀.ren (AH [i,j] N)=p) (ho':∀N,o₁.ren (AH [i,j] N)=o') (hp':∀N,p₁.ren (AH [i,j] N)=p') (hd:o₀≠ .dead) (hd':p₀≠ .dead) (hr:∀ρ,r.ren ρ=r):
 Ct P f args [(i,o),(j,p)] (λ_=>r) [(i,o'),(j,p')] (λ_=>[]):=
 Ct.mk h [i,j] (by simpa using hij) rfl Si (by simp[hd,hd']) (λn N=>by simpa using ha N) (λn N=>hr _) (λn N=>by simp[ho,hp]) (.inl λn N=>by simp[ho',hp']) (λn N=>rfl)
def Ct.r2 {o₀ p₀ o p:Ad} {r:AV} (h:Ah P f args₀ [o₀,p₀] r [o₀,p₀]) (i j:Nat) (hij:i≠j) (ha:∀N,args₀.map (λx=>x.ren (AH [i,j] N))=args)
 (ho:∀N,o₀.ren (AH [i,j] N)=o) (hp:∀N,p₀.ren (AH [i,j] N)=p) (hd:o₀≠ .dead) (hd':p₀≠ .dead) (hr:∀ρ,r.ren ρ=r):
 Ct P f args [(i,o),(j,p)] (λ_=>r) [] (λ_=>[]):=
 Ct.mk h [i,j] (by simpa using hij) rfl Si (by simp[hd,hd']) (λn N=>by simpa using ha N) (λn N=>hr _) (λn N=>by simp[ho,hp]) (.inr ⟨rfl,rfl⟩) (λn N=>rfl)
def Aa.r2 {r:AV} {i j:Nat} {o p:Ad} (h:Ct P f (args.map Proofs.YtaajkppmibfgfabGreat.untag) [(i,o),(j,p)] (λ_=>r) [] (λ_=>[])) (hS:S[i]? =some o) (hS':S[j]? =some p) (hK:K r [i,j] [] []):Aa P f args S K:=Aa.of h.untag (by simp[hS,hS']) Si hK
def Aa.u2 {r:AV} {i j:Nat} {o p o' p':Ad} (h:Ct P f (args.map Proofs.YtaajkppmibfgfabGreat.untag) [(i,o),(j,p)] (λ_=>r) [(i,o'),(j,p')] (λ_=>[])) (hS:S[i]? =some o) (hS':S[j]? =some p) (hK:K r [i,j] [(i,o'),(j,p')] []):Aa P f args S K:=Aa.of h.untag (by simp[hS,hS']) Si hK
end
attribute [go_sem]
 UH U2 mH eV eU Sw eW X3 P3 X2 U1 U0 Od UZ
 Sv Su UY mE eQ eO P4 X4 U6 U5 qN jG Aaa Aed
 Aea Aad rP Aac rO Aab Aec gG rY jZ j7 ZO Ab4 Ab7
 Ab5 Ab6 gV dJ dK Acc pV xI vQ nM Ye vP vO nP
 fN Vk nO nN P9 Ow LK P8 fF fE Ya mY nA L6
 Jy qM XB Uw Afr Acg Afq Af3 xZ Af2 Ack xV Ach Af4
 Afz Af0 Afx Aic Af1 Af5 Afp xW Ace Acn Afv Acm Acp Afu
 Acf Afw Afs Aco Af6 Aft Acl Aid Acj gH oO oN Afl Ae8
 Afe Afc Afb Afk Aia Ae7 oV Afa Ae9 Afj Afd Aff Afg Afh
 Afi Aev Aeu oL gJ oM oK wQ gI iB Y4 wO A2 wK
 wJ Ae3 Abc Aby tR nT iN wV Abx Aee Aae mZ g8 pE vS nU xN xO WJ TE pW iR xK xL Aa7
 Aa5 Aa6 yC Acu uJ pP iO xC Afo wU rX jY wT xG yH
 rQ Aaf Abw wI Abr nK Abe Aes XD XC Sg SZ getD_cons_zero getD_cons_succ
 set_cons_zero set_cons_succ getElem?_cons_zero getElem?_cons_succ map_cons map_nil length_cons length_nil nil_append cons_append append_nil NH CR Bw
 List.replicate Nat.zero_add Nat.add_zero Option.map_some Option.map_none drop_zero drop_succ_cons take_succ_cons take_zero drop_nil take_nil and_true true_and Nat.le_refl
 Int.le_refl Nat.zero_le Bool.false_eq_true or_true true_or Bool.not_true Bool.not_false cond_true cond_false Int.cast_ofNat_Int all_cons all_nil Vj gM
 Bool.and_true Bool.and_self decide_false decide_true beq_self_eq_true bne_self_eq_false Aeo Aen Aem Ael
 Aeb xY xX Aci Afy nW vU Acd xM nL fM fL Ov Ou X_ wR yG
section
variable {P:Program} {m:Nat} {tm:List AV} {S:List Ad} {Q:QT}
def UD {c:C} (h:aw P m c tm S (J7 (α:=Unit) m 0 (λ_=>[]) (λ_=>[]) (λ_=>False) Q)):aw P m (.scope c) tm S Q:=by
 refine J2 (λ_ _ _ _=>False) (GC h λe tm' S' hq=>?_) λn l' tm S h=>h.elim
 cases e with
 |goto l'=>have⟨_,a,h2,_⟩:=hq;exact h2.elim
 |_=>exact hq
def wN {R:List AV->List Ad->Prop} (h:R tm S):Abz m tm S R:=Nu (Wk.refl _ _ _) h
end
attribute [simp] lZ Abh nG Abi uS fG uV uT Sp Z9 uR lY Abk cJ cK kO Yb nF fH AE Ae6 Ae5 Ae4 AM oR
attribute [go_sem] mJ U3 zM zV zF zL zN zS zC zE zU zB zI zJ Aek
def cl {p:Prop} (h:p:=by(intros;simp[AH,range'_succ])):p:=h
def sd {p:Prop} (h:p:=by first|with_reducible assumption|omega|with_reducible rfl|(simp only[length_append,length_cons,length_nil,length_singleton];omega)|(simp[Ab,A2,AV.parts];done)|(simp[Ab,A2,AV.parts];omega)|rfl):p:=h
section
variable {P:Program} {m:Nat} {fn:Func} {r:AV} {S':List Ad} {tm:List AV} {S:List Ad}
def A6.finA {rv:List RV} (hr:JS P fn=some rv) (ids:List Nat) (hn:ids.Nodup:=by decide) (hl:ids.length=S'.length:=by rfl) (hm:m≤S'.length:=by simp) (hp:ids.take m=List.range m:=by rfl)
 (hT:ids.map (λi=>S[i]?)=S'.map (λo=>some (o.ren (AH ids S.length))):=by first|with_reducible rfl|(simp;done)|rfl) (hx0:(Ci tm S rv).map CM=some (r.ren (AH ids S.length)):=by simp[Ci,EE,EH,CM]):A6 P m fn tm S r S':=A6.fin hr ids hn hl hm hp hT hx0
end
def E6 {u:List (Nat×Nat)} {tr:List (List Nat×List Nat)} {p:Prop} (h:P_ u tr=true):(P_ u tr=true∧p)=p:=by rw[h];simp
structure U (a:Prop):Prop where
 i:a
def mp {a b:Prop} (x:b) (h:a=b:=by simp only[go_sem,seval];first|((with_reducible refine E6 ?_);exact rfl)|exact rfl):U a:=⟨h.mpr x⟩
def mok {a b:Prop} (x:b) (h:a=b:=by first|((with_reducible refine E6 ?_);exact rfl)|exact rfl):U a:=⟨h.mpr x⟩
def mq {p a b:Prop} (e:p) (x:b) (h:p->a=b:=by intro e;simp only[go_sem,seval,e];first|((with_reducible refine E6 ?_);exact rfl)|exact rfl):U a:=⟨(h e).mpr x⟩
def mr {p q a b:Prop} (e:p) (f:q) (x:b) (h:p->q->a=b:=by intro e f;simp only[go_sem,seval,e,f];first|((with_reducible refine E6 ?_);exact rfl)|exact rfl):U a:=⟨(h e f).mpr x⟩
def ms {p q r a b:Prop} (e:p) (f:q) (g:r) (x:b) (h:p->q->r->a=b:=by intro e f g;simp only[go_sem,seval,e,f,g];first|((with_reducible refine E6 ?_);exact rfl)|exact rfl):U a:=⟨(h e f g).mpr x⟩
def mt {p q r s a b:Prop} (e:p) (f:q) (g:r) (k:s) (x:b) (h:p->q->r->s->a=b:=by intro e f g k;simp only[go_sem,seval,e,f,g,k];first|((with_reducible refine E6 ?_);exact rfl)|exact rfl):U a:=⟨(h e f g k).mpr x⟩
def Is (P:Program) (f:Func) (c:C) (r:List RV) (n:Nat):Prop:=((f.body.bind (AU P)).bind λc=>(JS P f).bind λr=>cond (f.name== "runtime.NumGoroutine") none (some (c,r,f.ntmps)))=some (c,r,n)
def Is.all {P:Program} {f:Func} {c:C} {r:List RV} {n:Nat} (h:Is P f c r n):f.body.bind (AU P)=some c∧JS P f=some r∧(f.name== "runtime.NumGoroutine")=false∧f.ntmps=n:=by
 unfold Is at h
 cases h1:f.body.bind (AU P) with
 |none=>rw[h1]at h;cases h
 |some c1=>
  rw[h1]at h
  cases h2:JS P f with
  |none=>rw[h2]at h;cases h
  |some r1=>
   rw[h2]at h
   cases h3:f.name== "runtime.NumGoroutine" with
   |true=>rw[h3]at h;cases h
   |false=>rw[h3]at h;cases h;exact⟨rfl,rfl,rfl,rfl⟩
def ki {P:Program} {f:Func} {c:C} {r:List RV} {n:Nat} (h:((f.body.bind (AU P)).bind λc=>(JS P f).bind λr=>cond (f.name== "runtime.NumGoroutine") none (some (c,r,f.ntmps)))=some (c,r,n):=by kernel_rfl):Is P f c r n:=h
section
variable {P:Program} {m:Nat} {fn:Func} {r:AV} {S':List Ad} {tm:List AV} {S:List Ad} {c:C} {rv:List RV} {n:Nat}
def RN {f:FuncId} {args:List AV} (hf:P.funcs[f]?=some fn) (hb:Is P fn c rv n) (h:aw P S.length c tm S (U4 P S.length fn r S')) (ht:args++List.replicate (n-args.length) .any=tm:=by simp only[List.cons_append,List.nil_append,List.length_cons,List.length_nil,Nat.zero_add,Nat.reduceAdd,Nat.reduceSub,List.replicate];rfl):Ah P f args S r S':=Ah.run hf hb.all.1 hb.all.2.2.1 hb.all.2.2.2 ht h
def RM {f:FuncId} {args:List AV} {b:Prop} (hf:P.funcs[f]?=some fn) (hb:Is P fn c rv n) (x:b) (ht:args++List.replicate (n-args.length) .any=tm:=by simp only[List.cons_append,List.nil_append,List.length_cons,List.length_nil,Nat.zero_add,Nat.reduceAdd,Nat.reduceSub,List.replicate];rfl) (h:aw P S.length c tm S (U4 P S.length fn r S')=b:=by simp only[go_sem,seval];first|((with_reducible refine E6 ?_);exact rfl)|exact rfl):Ah P f args S r S':=RN hf hb (h.mpr x) ht
def FB (hr:Is P fn c rv n) (ids:List Nat) (hT:ids.map (λi=>S[i]?)=S'.map λo=>some (o.ren (AH ids S.length))) (hx0:(Ci tm S rv).map CM=some (r.ren (AH ids S.length))) (hn:ids.Nodup:=by decide) (hl:ids.length=S'.length:=by rfl) (hm:m≤S'.length:=by simp) (hp:ids.take m=List.range m:=by rfl):A6 P m fn tm S r S':=A6.fin hr.all.2.1 ids hn hl hm hp hT hx0
def FK (hr:Is P fn c rv n) (ids:List Nat) (h:ids.map (λi=>S[i]?)=S'.map (λo=>some (o.ren (AH ids S.length)))∧(Ci tm S rv).map CM=some (r.ren (AH ids S.length))) (hn:ids.Nodup:=by decide) (hl:ids.length=S'.length:=by rfl) (hm:m≤S'.length:=by simp) (hp:ids.take m=List.range m:=by rfl):A6 P m fn tm S r S':=FB hr ids h.1 h.2 hn hl hm hp
def FA (hr:Is P fn c rv n) (ids:List Nat) (hn:ids.Nodup:=by decide) (hl:ids.length=S'.length:=by rfl) (hm:m≤S'.length:=by simp) (hp:ids.take m=List.range m:=by rfl) (hT:ids.map (λi=>S[i]?)=S'.map (λo=>some (o.ren (AH ids S.length))):=by first|with_reducible rfl|(simp;done)|rfl) (hx0:(Ci tm S rv).map CM=some (r.ren (AH ids S.length)):=by simp[Ci,EE,EH,CM]):A6 P m fn tm S r S':=A6.fin hr.all.2.1 ids hn hl hm hp hT hx0
def FE {p:Prop} (hr:Is P fn c rv n) (ids:List Nat) (e:p) (hn:ids.Nodup:=by decide) (hl:ids.length=S'.length:=by rfl) (hm:m≤S'.length:=by simp) (hp:ids.take m=List.range m:=by rfl) (hT:p->ids.map (λi=>S[i]?)=S'.map (λo=>some (o.ren (AH ids S.length))):=by intro e;first|with_reducible rfl|(simp[e];done)|rfl) (hx0:p->(Ci tm S rv).map CM=some (r.ren (AH ids S.length)):=by intro e;simp[Ci,EE,EH,CM,e]):A6 P m fn tm S r S':=A6.fin hr.all.2.1 ids hn hl hm hp (hT e) (hx0 e)
def FF {p q:Prop} (hr:Is P fn c rv n) (ids:List Nat) (e:p) (f:q) (hn:ids.Nodup:=by decide) (hl:ids.length=S'.length:=by rfl) (hm:m≤S'.length:=by simp) (hp:ids.take m=List.range m:=by rfl) (hT:p->q->ids.map (λi=>S[i]?)=S'.map (λo=>some (o.ren (AH ids S.length))):=by intro e f;first|with_reducible rfl|(simp[e,f];done)|rfl) (hx0:p->q->(Ci tm S rv).map CM=some (r.ren (AH ids S.length)):=by intro e f;simp[Ci,EE,EH,CM,e,f]):A6 P m fn tm S r S':=A6.fin hr.all.2.1 ids hn hl hm hp (hT e f) (hx0 e f)
end
def zA (a b d:Nat):RO:=(none,.pick (.tmp a) (.tmp b) (.const (.bool .false)),some d)
def zO (a b d:Nat):RO:=(none,.pick (.tmp a) (.const (.bool .true)) (.tmp b),some d)
def zH (a d:Nat):RO:=(none,.nilc (.tmp a),some d)
def zQ (a d:Nat):RO:=(none,.un .not (.tmp a),some d)
def zX (l:List Value) (d:Nat):RO:=(none,.new l,some d)
def zY (a d:Nat):RO:=(none,.box (.tmp a),some d)
def zK (k:IntKind) (a d:Nat):RO:=(none,.cvt k (.tmp a),some d)
def zP (k b s x d:Nat):RO:=(none,.app k b (.tmp s) (.tmp x),some d)
def zD (l:List Value) (p:List (Nat×Nat×Operand)) (d:Nat):RO:=(none,.build l p,some d)
def zR (f:FuncId) (l:List Operand) (d:Nat):RO:=(none,.call (.func f) l,some d)
def zW (o:I) (d:Nat):RO:=(none,o,some d)
def zT (t:Nat) (r:RO):RO:=zG t true r
def zZ (t:Nat) (r:RO):RO:=zG t false r
def zk (n:Int):Operand:=.const (.int .i64 n)
def zi:Value:=.int .i64 0
def zu:Value:=.int .u64 0
def zn:Value:=.slice none 0 0
def zf:Value:=.bool .false
def zt:Value:=.bool .true
def zq (l:List RO) (x:C):C:=.seq (.reg l []) x
def zc (a:Nat) (x:C):C:=.cond (.tmp a) x .skip
attribute [go_sem] List.zip_cons_cons List.zip_nil_right zA zO zH zQ zX zY zK zP zD zR zW zT zZ zk zi zu zn zf zt zq zc
section
variable {P:Program} {f:FuncId} {args:List AV} {S:List Ad} {K:KT} {b:Prop}
def Cp {r:AV} (h:Ct P f (args.map Proofs.YtaajkppmibfgfabGreat.untag) [] (λ_=>r) [] (λ_=>[])) (x:b) (e:K r [] [] []=b:=by simp only[go_sem,seval];first|((with_reducible refine E6 ?_);exact rfl)|exact rfl):Aa P f args S K:=Aa.p h (e.mpr x)
def Cr {r:AV} {i:Nat} {o:Ad} (h:Ct P f (args.map Proofs.YtaajkppmibfgfabGreat.untag) [(i,o)] (λ_=>r) [] (λ_=>[])) (hS:S[i]? =some o) (x:b) (e:K r [i] [] []=b:=by simp only[go_sem,seval];first|((with_reducible refine E6 ?_);exact rfl)|exact rfl):Aa P f args S K:=Aa.r1 h hS (e.mpr x)
def Cu {r:AV} {i:Nat} {o o':Ad} (h:Ct P f (args.map Proofs.YtaajkppmibfgfabGreat.untag) [(i,o)] (λ_=>r) [(i,o')] (λ_=>[])) (hS:S[i]? =some o) (x:b) (e:K r [i] [(i,o')] []=b:=by simp only[go_sem,seval];first|((with_reducible refine E6 ?_);exact rfl)|exact rfl):Aa P f args S K:=Aa.u1 h hS (e.mpr x)
section
variable {m:Nat} {fn:Func} {tm:List AV} {S':List Ad} {r:AV}
def UT (t:Nat) {x:AV} (k:b) (ht:tm[t]? =some x:=by rfl) (e:A6 P m fn (tm.set t (Fu x)) S r S'=b:=by simp only[CS,List.set_cons_zero,List.set_cons_succ];exact rfl):A6 P m fn tm S r S':=A6.untag t ht (e.mpr k)
def UO (i:Nat) {xs:List AV} (k:b) (hi:S[i]? =some (.cells xs):=by rfl) (e:A6 P m fn tm (S.set i (.cells (xs.map Fu))) r S'=b:=by simp only[List.set_cons_zero,List.set_cons_succ,List.map_cons,List.map_nil,JX,CS];exact rfl):A6 P m fn tm S r S':=A6.unobj i hi (e.mpr k)
end
def Sa {a b:Prop} (x:b) (h:a:=by with_unfolding_all exact sd):a∧b:=⟨h,x⟩
def Sr {a b:Prop} (x:b) (h:b->a:=by intro h;(repeat with_reducible refine Sa ?_);exact h):U a:=⟨h x⟩
abbrev Ay (l:List AV):List AV:=.any::.any::.any::.any::l
abbrev Az (l:List AV):List AV:=.any::.any::.any::.any::.any::.any::.any::.any::.any::.any::.any::.any::.any::.any::.any::.any::l
attribute [go_sem] Ay Az
attribute [simp] Ay Az Ci EE EH CM
end
def Gw (c:Nat):Nat:=if c%2=1 then(c/2)^^^2197175160 else c/2
def Bu:Nat->Nat->Nat
 |0,c=>c
 |n+1,c=>Bu n (Gw c)
def kE (a b:Nat):(a^^^b)%2=(a%2+b%2)%2:=by
 have h:(a^^^b)%2^1=(a%2^1)^^^(b%2^1):=Nat.xor_mod_two_pow;rw[Nat.pow_one]at h;rw[h];rcases Nat.mod_two_eq_zero_or_one a with ha|ha<;>rcases Nat.mod_two_eq_zero_or_one b with hb|hb<;>rw[ha,hb]<;>rfl
def nxl (a b c:Nat):a^^^(b^^^c)=b^^^(a^^^c):=by rw[←Nat.xor_assoc,Nat.xor_comm a b,Nat.xor_assoc]
def jA (a b:Nat):Gw (a^^^b)=Gw a^^^Gw b:=by
 have hm:=kE a b;have hd:(a^^^b)/2=a/2^^^b/2:=Nat.xor_div_two;unfold Gw;rw[hd];rcases Nat.mod_two_eq_zero_or_one a with ha|ha<;>rcases Nat.mod_two_eq_zero_or_one b with hb|hb<;>rw[ha,hb]at hm<;>simp only[hm,ha,hb]
 ·simp
 ·simp[Nat.xor_assoc]
 ·simp only[if_pos,Nat.reduceAdd,Nat.reduceMod];simp[Nat.xor_assoc];rw[Nat.xor_comm (b/2)]
 ·simp[Nat.xor_assoc,nxl];rw[Nat.xor_comm (a/2)]
def Zt (n:Nat):∀a b:Nat,Bu n (a^^^b)=Bu n a^^^Bu n b:=by
 induction n with
 |zero=>intro a b;rfl
 |succ n ih=>intro a b;simp only[Bu,jA,ih]
def jB (m:Nat):Gw (2*m)=m:=by
 unfold Gw;rw[if_neg Om];omega
def Zu (n:Nat):∀m:Nat,Bu n (2^n*m)=m:=by
 induction n with
 |zero=>intro m;simp[Bu]
 |succ n ih=>
  intro m;rw[Bu,Nat.pow_succ,show 2^n*2*m=2*(2^n*m)from by rw[Nat.mul_comm (2^n) 2,Nat.mul_assoc],jB,ih]
def qD {c:Nat} (h:c<4294967296):Gw c<4294967296:=by
 unfold Gw;split
 ·have:c/2^^^2197175160<2^32:=Nat.xor_lt_two_pow Om Om;simpa using this
 ·omega
def Hn (n:Nat):∀{c:Nat},c<4294967296->Bu n c<4294967296:=by
 induction n with
 |zero=>intro c h;exact h
 |succ n ih=>intro c h;exact ih (qD h)
def Pm (m:Nat):∀(n c:Nat),Bu (m+n) c=Bu n (Bu m c):=by
 induction m with
 |zero=>intro n c;simp[Bu]
 |succ m ih=>intro n c;rw[show m+1+n=(m+n)+1 from by omega,Bu,ih,Bu]
def dB (n c:Nat):c=(2^n*(c/2^n))^^^(c%2^n):=by
 apply Nat.eq_of_testBit_eq;intro i;rw[Nat.testBit_xor,Nat.testBit_mod_two_pow,Nat.mul_comm,Nat.testBit_mul_two_pow,Nat.testBit_div_two_pow];by_cases h:i<n
 ·simp[h,show¬n≤i by omega]
 ·simp[h,show n≤i by omega,show i-n+n=i by omega]
def WE (c:Nat):Bu 4 c=(c/16)^^^Bu 4 (c%16):=by
 have h:=dB 4 c
 conv=>lhs;rw[h]
 rw[Zt,Zu]
def ML (c x:Nat):Nat:=Bu 8 (c^^^x)
def Zx (c x:Nat):ML c x=Bu 4 (Bu 4 (c^^^x)):=Pm 4 4 _
def Gj (c:Nat) (l:List Nat):Nat:=l.foldl ML c
def RR (c:Nat) (l:List Nat) (x:Nat):Gj c (l++[x])=ML (Gj c l) x:=by simp[Gj]
def qL {c x:Nat} (h:c<4294967296) (hx:x<256):ML c x<4294967296:=by
 have:c^^^x<2^32:=Nat.xor_lt_two_pow Om Om;exact Hn 8 (by simpa using this)
def NB {c:Nat} (h:c<4294967296):∀{l:List Nat},(∀x∈l,x<256)->Gj c l<4294967296:=by
 intro l
 induction l generalizing c with
 |nil=>intro _;exact h
 |cons x l ih=>intro hl;exact ih (qL h (hl x (mem_cons_self ..))) λy hy=>hl y (mem_cons_of_mem _ hy)
def Ew (l:List Int):List Nat:=l.map Int.toNat
def Nm {l:List Int} (h:AW l):∀x∈Ew l,x<256:=by
 intro x hx;simp only[Ew,mem_map]at hx;obtain⟨y,hy,rfl⟩:=hx;have:=h y hy;omega
def Bb (l:List Int):Int:=4294967295-(Gj 4294967295 (Ew l):Nat)
def DE {l:List Int} (h:AW l):0≤Bb l∧Bb l<4294967296:=by
 have:=NB (c:=4294967295) Om (Nm h);unfold Bb;omega
def Ag (p:List Int):List Int:=CX p++Ap 4 (Bb p)
def BK (m:Int):Int:=min m 2097152
def RS.frame (s:RS) (m:Int):RS×List Int:=
 if((s.blob (BK m)).1.fixed 4).1.code=0 then
  (if((s.blob (BK m)).1.fixed 4).2=Bb (s.blob (BK m)).2 then(((s.blob (BK m)).1.fixed 4).1,(s.blob (BK m)).2)else(((s.blob (BK m)).1.fixed 4).1.fail 6 (s.blob (BK m)).1.at_,[]))
 else(((s.blob (BK m)).1.fixed 4).1,[])
def EV (p:List Int):(Ag p).length=(CX p).length+4:=by unfold Ag;rw[length_append,BN]
def HS {s:RS} (h:Ak s) (n:Int):Ak (s.fixed n).1∧(s.fixed n).1.l=s.l:=⟨h.take n,(h.ok.take n).2⟩
def BA {s:RS} (h:Ak s) (m:Int):Ak (s.frame m).1∧(s.frame m).1.l=s.l:=by
 have⟨a,b⟩:=RS.ok.blob h (BK m);have⟨c,d⟩:=HS a 4;unfold RS.frame
 repeat' split
 ·exact⟨c,d.trans b⟩
 ·exact⟨c.fail _ _,by rw[AY];exact d.trans b⟩
 ·exact⟨c,d.trans b⟩
def Kq {s:RS} {m:Int} (hc:(s.frame m).1.code=0):((s.blob (BK m)).1.fixed 4).1.code=0∧((s.blob (BK m)).1.fixed 4).2=Bb (s.blob (BK m)).2∧s.frame m=(((s.blob (BK m)).1.fixed 4).1,(s.blob (BK m)).2):=by
 unfold RS.frame at hc ⊢;by_cases h1:((s.blob (BK m)).1.fixed 4).1.code=0
 ·rw[if_pos h1]at hc ⊢;by_cases h2:((s.blob (BK m)).1.fixed 4).2=Bb (s.blob (BK m)).2
  ·rw[if_pos h2];exact⟨h1,h2,rfl⟩
  ·rw[if_neg h2]at hc;unfold RS.fail at hc;rw[if_pos h1]at hc;simp[BB]at hc
 ·rw[if_neg h1]at hc;exact absurd hc h1
def RA {s:RS} {m:Int} (hc:¬(s.frame m).1.code=0):(s.frame m).2=[]:=by
 unfold RS.frame at hc ⊢;by_cases h1:((s.blob (BK m)).1.fixed 4).1.code=0
 ·rw[if_pos h1]at hc ⊢;by_cases h2:((s.blob (BK m)).1.fixed 4).2=Bb (s.blob (BK m)).2
  ·rw[if_pos h2]at hc;exact absurd h1 hc
  ·rw[if_neg h2]
 ·rw[if_neg h1]
def Fo {s:RS} (h:Ak s) {m:Int} (hc:(s.frame m).1.code=0):s.code=0∧((s.frame m).2.length:Int)≤BK m∧AW (s.frame m).2∧s.at_<(s.frame m).1.at_∧s.l.take (s.frame m).1.at_.toNat=s.l.take s.at_.toNat++Ag (s.frame m).2:=by
 have⟨h1,h2,h3⟩:=Kq hc;have⟨a,b⟩:=RS.ok.blob h (BK m);have t:=Be a (n:=4) h1;have⟨t1,t2,t3,t4,t5⟩:=t;have⟨b1,b2,b3,b4⟩:=ND h t1;have hs:=Gc h (BK m);rw[h3];refine⟨b1,b2,hs.2,?_,?_⟩
 ·show s.at_<((s.blob (BK m)).1.take 4).1.at_;omega
 ·show s.l.take ((s.blob (BK m)).1.take 4).1.at_.toNat=_;rw[b]at t5;rw[t5,b4,append_assoc];unfold Ag;congr 2;have hb:AW ((s.blob (BK m)).1.take 4).2:=Dw a.bys 4;have hl:=G9 hb;have hlen:((s.blob (BK m)).1.take 4).2.length=4:=Om
  rw[hlen]at hl;rw[←h2];exact hl.symm
def Rx {s:RS} (h:Ak s) (hc:s.code=0) {p r:List Int} {m:Int} (hp:AW p) (hm:(p.length:Int)≤BK m) (hr:s.rest=Ag p++r):s.frame m=(s.adv ((Ag p).length:Int),p):=by
 have hn:p.length<18446744073709551616:=by unfold BK at hm;omega
 unfold Ag at hr;rw[append_assoc]at hr;have hb:=Pw h hc hm hn hr;have hs2:=Cf h hr;have hr2:(s.adv ((CX p).length:Int)).rest=Ap 4 (Bb p)++r:=by rw[BC h.at0,hr,drop_left]
 have ht:=EA hs2 (show(s.adv ((CX p).length:Int)).code=0 from hc) hr2;rw[BN]at ht;have ht':(s.adv ((CX p).length:Int)).take 4=((s.adv ((CX p).length:Int)).adv 4,Ap 4 (Bb p)):=ht;have hcr:=DE hp;have hf:(s.adv ((CX p).length:Int)).fixed 4=(s.adv ((Ag p).length:Int),Bb p):=by
  unfold RS.fixed;rw[ht',RD 4 _ hcr.1 (by simpa using hcr.2),BU,EV];congr 2
 unfold RS.frame;rw[hb];simp only;rw[hf];simp only;rw[if_pos (show(s.adv ((Ag p).length:Int)).code=0 from hc),if_pos trivial]
def HQ {p:List Int} (hp:AW p) (h:p.length<18446744073709551616):AW (Ag p):=by
 intro y hy;rcases mem_append.1 hy with hy|hy
 ·rcases mem_append.1 hy with hy|hy
  ·exact B6 Om Om y hy
  ·exact hp y hy
 ·exact EG 4 _ y hy
def NG {s:RS} (h:Ak s) (hc:s.code=0) {x:Int} (x0:0≤x) (x1:x<18446744073709551616) {k:Nat} (hk:k<(vb x).length) (hr:s.rest=(vb x).take k):s.vint=({s with at_:=s.l.length,code:=1,fat:=s.l.length},0):=by
 have key:∀(n k:Nat) (y:Int) (i:Int),0≤y->y<128^(n+1)->0≤i->(i=0∨0<y)->i+n≤9->(i+n=9->y<2*128^n)->k<(JM n y).length->(BQ i ((JM n y).take k)).1=1:=by
  intro n
  induction n with
  |zero=>
   intro k y i y0 y1 i0 iy _ _ hk;have hk0:k=0:=by simp only[JM,length_cons,length_nil]at hk;omega
   subst hk0;simp[BQ]
  |succ n ih=>
   intro k y i y0 y1 i0 iy i9 hy9 hk;simp only[JM]at hk ⊢;by_cases hlt:y<128
   ·rw[if_pos hlt]at hk ⊢;simp at hk;subst hk;simp[BQ]
   ·rw[if_neg hlt]at hk ⊢;cases k with
    |zero=>simp[BQ]
    |succ k=>
     simp only[take_succ_cons,length_cons,Nat.add_lt_add_iff_right]at hk ⊢;have hp:(0:Int)<128^n:=Int.pow_pos Om;rw[KM,if_neg Om,if_neg Om,if_neg Om];rw[Int.pow_succ]at y1;refine ih k (y/128) (i+1) Om Om Om (.inr Om) Om (λh=>?_) hk;have:=hy9 Om;rw[Int.pow_succ]at this;omega
 have h1:(BQ 0 ((vb x).take k)).1=1:=key 9 k x 0 x0 Om Om (.inl rfl) Om (λ_=>by omega) hk;unfold RS.vint;rw[if_pos hc,hr,h1];rfl
def Jg (n a:Nat) (h:a<2^n):(BitVec.ofInt n (a:Int)).toNat=a:=by
 rw[BitVec.toNat_ofInt,←Int.natCast_emod,Int.toNat_natCast,Nat.mod_eq_of_lt h]
def QP (a b:Nat) (ha:a<4294967296) (hb:b<4294967296):Cv .xor .u32 a b=((a^^^b:Nat):Int):=by
 show IntKind.u32.wrap ((BitVec.ofInt 32 (a:Int)^^^BitVec.ofInt 32 (b:Int)).toNat:Int)=_;have h:a^^^b<2^32:=Nat.xor_lt_two_pow Om Om;rw[BitVec.toNat_xor,Jg 32 a Om,Jg 32 b Om,IntWalk.u32_in _ Om]
def Aav (a b:Nat) (ha:a<4294967296) (hb:b<4294967296):Cv .and .u32 a b=((a&&&b:Nat):Int):=by
 show IntKind.u32.wrap ((BitVec.ofInt 32 (a:Int)&&&BitVec.ofInt 32 (b:Int)).toNat:Int)=_;have h:a&&&b<2^32:=Nat.and_lt_two_pow a Om;rw[BitVec.toNat_and,Jg 32 a Om,Jg 32 b Om,IntWalk.u32_in _ Om]
def Aie (a:Nat) (ha:a<4294967296):Cv .and .u32 a 1=((a%2:Nat):Int):=by
 have:=Aav a 1 ha Om;rw[Nat.and_one_is_mod]at this;exact this
def Aaw (a:Nat) (ha:a<4294967296):Cv .and .u32 a 15=((a%16:Nat):Int):=by
 have:=Aav a 15 ha Om;rw[show(15:Nat)=2^4-1 from rfl,Nat.and_two_pow_sub_one_eq_mod]at this;exact this
def pA (a:Nat) (ha:a<4294967296):4294967295^^^a=4294967295-a:=by
 apply Nat.eq_of_testBit_eq;intro i;rw[Nat.testBit_xor,show(4294967295:Nat)=2^32-1 from rfl,Nat.testBit_two_pow_sub_one,show 2^32-1-a=2^32-(a+1)from by omega,Nat.testBit_two_pow_sub_succ Om];by_cases hi:i<32
 ·simp[hi]
 ·have:a.testBit i=false:=Nat.testBit_lt_two_pow (Nat.lt_of_lt_of_le (show a<2^32 by omega) (Nat.pow_le_pow_right Om Om));simp[hi,this]
def Ae0 (a:Nat) (ha:a<4294967296):Cv .xor .u32 4294967295 a=4294967295-(a:Int):=by
 have h:=QP 4294967295 a Om ha;rw[pA a ha]at h;refine h.trans ?_;omega
def lR (a k:Nat):(a:Int).fdiv (2^k)=((a/2^k:Nat):Int):=by
 rw[Int.fdiv_eq_ediv_of_nonneg _ (by exact_mod_cast Nat.zero_le _)];simp
def Vm (a b:List Int):Ew (a++b)=Ew a++Ew b:=by simp[Ew]
def Dy (n:Int):Int:=(vb (max n 0)).length+max n 0+4
def Mi {p:List Int}:Dy p.length=(Ag p).length:=by
 rw[EV];unfold Dy CX;have:max (p.length:Int) 0=p.length:=Om
 rw[this,length_append];omega
def Ux (n:Int):5≤Dy n∧Dy n≤max n 0+14:=by
 unfold Dy;have:=A7 (max n 0);omega
def Ox (m:Int):BK m≤2097152:=by unfold BK;omega
def Bp (b:List Int) (m:Int):List Int×Int×(Int×Int):=if((RS.new b).frame m).1.code=0 then(((RS.new b).frame m).2,((RS.new b).frame m).1.at_,(0,0))else([],0,(((RS.new b).frame m).1.code,((RS.new b).frame m).1.fat))
def D8 (b:List Int) (m:Int):Int:=if((RS.new b).int (BK m)).1.code=0 then Dy ((RS.new b).int (BK m)).2 else 0
def Dn (b:List Int) (m:Int):Bool:=((RS.new b).int (BK m)).1.code==0
def okF (b:List Int) (m:Int):Bool:=((RS.new b).frame m).1.code==0
def Ry {s:RS} (h:Ak s) {m:Int} (hc:(s.frame m).1.code=0):(s.int (BK m)).1.code=0∧(s.frame m).1.at_=(s.int (BK m)).1.at_+(s.int (BK m)).2+4:=by
 have⟨h1,h2,h3⟩:=Kq hc;have⟨a,b⟩:=RS.ok.blob h (BK m);have⟨t1,t2,t3,t4,t5⟩:=Be a (n:=4) h1;have hi:=h.int (BK m);have⟨u1,u2,u3,u4,u5⟩:=Be hi.1 (n:=(s.int (BK m)).2) t1;refine⟨u1,?_⟩;rw[h3];show((s.blob (BK m)).1.take 4).1.at_=_;rw[t4];show((s.int (BK m)).1.take (s.int (BK m)).2).1.at_+4=_;rw[u4]
def fJ {b:List Int} {m:Int} (hb:AW b) (hn:b.length≤140737488355328) (h:okF b m=true):Dn b m=true∧((RS.new b).frame m).1.at_=D8 b m∧D8 b m≤b.length:=by
 have hok:Ak (RS.new b):=Ak.new hb hn;have hc:((RS.new b).frame m).1.code=0:=by simpa[okF]using h
 have⟨h1,h2⟩:=Ry hok hc;have⟨i1,i2,i3,i4,i5⟩:=Di hok h1;have hw:D8 b m=Dy ((RS.new b).int (BK m)).2:=by unfold D8;rw[if_pos h1]
 have⟨k1,k2⟩:=BA hok m;have hat1:=k1.at1;rw[k2]at hat1;have hl:((RS.new b).int (BK m)).1.at_=(vb ((RS.new b).int (BK m)).2).length:=by
  have e:=congrArg List.length i5;have hi:=(hok.int (BK m)).1.at1;have hi2:=(hok.int (BK m)).2;have hi0:=(hok.int (BK m)).1.at0;rw[hi2]at hi;simp only[length_take,length_append,RS.new]at e hi;simp only[RS.new]at hi0;simp only[RS.new];simp at e;omega
 have hmx:max ((RS.new b).int (BK m)).2 0=((RS.new b).int (BK m)).2:=Om
 refine⟨by unfold Dn;rw[h1];rfl,?_,?_⟩
 ·rw[h2,hw,hl];unfold Dy;rw[hmx]
 ·have:((RS.new b).frame m).1.at_=D8 b m:=by rw[h2,hw,hl];unfold Dy;rw[hmx]
  rw[←this];exact hat1
def Cl (s:RS):Prop:=s.code=0->s.fat=0
def Cl.new (l:List Int):Cl (RS.new l):=λ_=>rfl
def Cl.fail {s:RS} (h:Cl s) (c a:Int):Cl (s.fail c a):=by
 unfold RS.fail;split
 ·intro hc;simp only[BB]at hc ⊢;by_cases h0:c=0
  ·rw[if_pos h0]
  ·rw[if_neg h0]at hc;exact absurd hc h0
 ·exact h
def Cl.adv {s:RS} (h:Cl s) (i:Int):Cl (s.adv i):=h
def Cl.skip {s:RS} (h:Cl s) (n:Int):Cl (s.skip n).1:=by
 unfold RS.skip
 repeat' split
 all_goals first|exact h.fail _ _|exact h
def Cl.take {s:RS} (h:Cl s) (n:Int):Cl (s.take n).1:=by
 unfold RS.take;split<;>exact h.skip n
def Cl.byte {s:RS} (h:Cl s):Cl s.byte.1:=by
 unfold RS.byte;split<;>exact h.skip 1
def Cl.vint {s:RS} (h:Cl s):Cl s.vint.1:=by
 unfold RS.vint;split
 ·split
  ·exact h
  ·split
   ·intro hc;simp at hc
   ·rename_i h1 _;intro hc;exact absurd hc h1
 ·exact h
def Cl.most {s:RS} (h:Cl s) (m:Int):Cl (s.most m).1:=by
 unfold RS.most;split
 ·exact h.vint.fail _ _
 ·exact h.vint
def Cl.int {s:RS} (h:Cl s) (m:Int):Cl (s.int m).1:=by
 unfold RS.int;split
 ·exact h.most m
 ·exact h.vint.fail _ _
def Cl.blob {s:RS} (h:Cl s) (m:Int):Cl (s.blob m).1:=(h.int m).take _
def Cl.fixed {s:RS} (h:Cl s) (n:Int):Cl (s.fixed n).1:=h.take n
def Cl.frame {s:RS} (h:Cl s) (m:Int):Cl (s.frame m).1:=by
 have:=(h.blob (BK m)).fixed 4;unfold RS.frame
 repeat' split
 ·exact this
 ·exact this.fail _ _
 ·exact this
def o9 {p r:List Int} {m:Int} (hp:AW p) (hr:AW r) (hn:(Ag p++r).length≤140737488355328) (hm:(p.length:Int)≤BK m):Bp (Ag p++r) m=(p,((Ag p).length:Int),(0,0)):=by
 have hpl:p.length<18446744073709551616:=by have:=Ox m;omega
 have hb:AW (Ag p++r):=λx hx=>by rcases mem_append.1 hx with hx|hx;exact HQ hp hpl x hx;exact hr x hx
 have h:=Rx (Ak.new hb hn) rfl hp hm (DV _);unfold Bp;rw[h,if_pos (show((RS.new (Ag p++r)).adv ((Ag p).length:Int)).code=0 from rfl)];show(p,(0:Int)+((Ag p).length:Int),(0,0))=_;rw[Int.zero_add]
def Fe {s:RS} {n:Int} (hc:s.code=0) (h0:0≤n) (h:s.left<n):s.take n=(s.fail 1 s.l.length,[]):=by
 have hs:s.skip n=(s.fail 1 s.l.length,false):=by
  unfold RS.skip;rw[if_pos hc,if_neg Om,if_pos h]
 unfold RS.take;rw[hs];rfl
def WR {b x:List Int} {m:Int} {n:Int} {t:RS} (hi:(RS.new b).int (BK m)=(t,n)) (hx:t.take n=(t.fail 1 t.l.length,x)) (hc:t.code=0):Bp b m=([],0,(1,(t.l.length:Int))):=by
 have hB:(RS.new b).blob (BK m)=(t.fail 1 t.l.length,x):=by unfold RS.blob;rw[hi];exact hx
 have hf:(t.fail 1 t.l.length)={t with code:=1,fat:=t.l.length}:=by unfold RS.fail;rw[if_pos hc];simp[BB]
 have hfx:((RS.new b).blob (BK m)).1.fixed 4=(t.fail 1 t.l.length,0):=by
  rw[hB];unfold RS.fixed;rw[GQ (by rw[hf];simp)];rfl
 have hF:(RS.new b).frame m=(t.fail 1 t.l.length,[]):=by
  unfold RS.frame;rw[hfx];simp only;rw[if_neg (by rw[hf];simp)]
 unfold Bp;rw[hF];simp only;rw[if_neg (by rw[hf];simp),hf]
def gY {p:List Int} {m:Int} (hp:AW p) (hm:(p.length:Int)≤BK m) {k:Nat} (hk:k<(Ag p).length):Bp ((Ag p).take k) m=([],0,(1,(k:Int))):=by
 have hml:=Ox m;have hv:=A7 (p.length:Int);have h4:=BN 4 (Bb p);have hfl:(Ag p).length=(vb (p.length:Int)).length+p.length+4:=by rw[EV];unfold CX;rw[length_append]
 have hB:AW ((Ag p).take k):=λx hx=>HQ hp Om x (mem_of_mem_take hx)
 have hbl:((Ag p).take k).length=k:=by rw[length_take];omega
 have hok:Ak (RS.new ((Ag p).take k)):=Ak.new hB Om;have hfe:Ag p=vb (p.length:Int)++(p++Ap 4 (Bb p)):=by unfold Ag CX;rw[append_assoc]
 by_cases h1:k<(vb (p.length:Int)).length
 ·have e:(Ag p).take k=(vb (p.length:Int)).take k:=by rw[hfe,take_append_of_le_length Om]
  have hc:=NG hok rfl Om Om h1 ((DV _).trans e);have hi:(RS.new ((Ag p).take k)).int (BK m)=({RS.new ((Ag p).take k)with at_:=((Ag p).take k).length,code:=1,fat:=((Ag p).take k).length},0):=by
   unfold RS.int RS.most;rw[hc,if_pos Om];simp only;rw[if_neg Om];rfl
  have hBl:(RS.new ((Ag p).take k)).blob (BK m)=({RS.new ((Ag p).take k)with at_:=((Ag p).take k).length,code:=1,fat:=((Ag p).take k).length},[]):=by
   unfold RS.blob;rw[hi];exact GQ Si
  have hfx:((RS.new ((Ag p).take k)).blob (BK m)).1.fixed 4=({RS.new ((Ag p).take k)with at_:=((Ag p).take k).length,code:=1,fat:=((Ag p).take k).length},0):=by
   rw[hBl];unfold RS.fixed;rw[GQ Si];rfl
  have hF:(RS.new ((Ag p).take k)).frame m=({RS.new ((Ag p).take k)with at_:=((Ag p).take k).length,code:=1,fat:=((Ag p).take k).length},[]):=by
   unfold RS.frame;rw[hfx];simp only;rw[if_neg Si]
  unfold Bp;rw[hF];simp only;rw[if_neg Si,hbl]
 ·have e:(Ag p).take k=vb (p.length:Int)++(p++Ap 4 (Bb p)).take (k-(vb (p.length:Int)).length):=by
   rw[hfe,take_append,take_of_length_le Om]
  have hi:=Jl (s:=RS.new ((Ag p).take k)) (x:=(p.length:Int)) (m:=BK m) rfl Om hm Om ((DV _).trans e);have ht:((RS.new ((Ag p).take k)).adv ((vb (p.length:Int)).length:Int)).left=(k:Int)-(vb (p.length:Int)).length:=by
   show(((Ag p).take k).length:Int)-(0+((vb (p.length:Int)).length:Int))=_;rw[hbl];omega
  by_cases h2:k<(vb (p.length:Int)).length+p.length
  ·have hx:=Fe (s:=(RS.new ((Ag p).take k)).adv ((vb (p.length:Int)).length:Int)) (n:=(p.length:Int)) rfl Om (by rw[ht];omega);have:=WR hi hx rfl;rw[this];show([],0,(1,((((Ag p).take k).length:Nat):Int)))=_;rw[hbl]
  ·have hok2:=Cf hok ((DV _).trans e);have hr2:((RS.new ((Ag p).take k)).adv ((vb (p.length:Int)).length:Int)).rest=p++(Ap 4 (Bb p)).take (k-(vb (p.length:Int)).length-p.length):=by
    rw[BC hok.at0,DV,e,drop_left,take_append,take_of_length_le Om]
   have hx:=EA hok2 (show((RS.new ((Ag p).take k)).adv ((vb (p.length:Int)).length:Int)).code=0 from rfl) hr2;obtain⟨u,hu⟩:∃u,((RS.new ((Ag p).take k)).adv ((vb (p.length:Int)).length:Int)).adv (p.length:Int)=u:=⟨_,rfl⟩;rw[hu]at hx;have hBl:(RS.new ((Ag p).take k)).blob (BK m)=(u,p):=by unfold RS.blob;rw[hi];exact hx
   have huc:u.code=0:=by rw[←hu];rfl
   have hul:u.l.length=k:=by rw[←hu];exact hbl
   have hua:u.at_=(vb (p.length:Int)).length+p.length:=by rw[←hu];show(0:Int)+_+_=_;omega
   have hf:(u.fail 1 u.l.length)={u with code:=1,fat:=u.l.length}:=by unfold RS.fail;rw[if_pos huc];simp[BB]
   have hsh:=Fe (s:=u) (n:=4) huc Om (by unfold RS.left;rw[hul,hua];omega);have hfx:((RS.new ((Ag p).take k)).blob (BK m)).1.fixed 4=(u.fail 1 u.l.length,0):=by
    rw[hBl];unfold RS.fixed;rw[hsh];rfl
   have hF:(RS.new ((Ag p).take k)).frame m=(u.fail 1 u.l.length,[]):=by
    unfold RS.frame;rw[hfx];simp only;rw[if_neg (by rw[hf];simp)]
   unfold Bp;rw[hF];simp only;rw[if_neg (by rw[hf];simp),hf];simp only;rw[hul]
def La {b:List Int} {m:Int} (hb:AW b) (hn:b.length≤140737488355328) (hc:(Bp b m).2.2.1=0):
 (Bp b m).2.2=(0,0)∧AW (Bp b m).1∧((Bp b m).1.length:Int)≤BK m∧0≤(Bp b m).2.1∧(Bp b m).2.1≤b.length∧b.take (Bp b m).2.1.toNat=Ag (Bp b m).1:=by
 have hok:Ak (RS.new b):=Ak.new hb hn;by_cases h:((RS.new b).frame m).1.code=0
 ·have e:Bp b m=(((RS.new b).frame m).2,((RS.new b).frame m).1.at_,(0,0)):=by unfold Bp;rw[if_pos h]
  have⟨i1,i2,i3,i4,i5⟩:=Fo hok h;have⟨k1,k2⟩:=BA hok m;have h5:=k1.at1;have h6:=k1.at0;rw[k2]at h5;rw[e];refine⟨rfl,i3,i2,h6,h5,?_⟩;have:(RS.new b).l.take (RS.new b).at_.toNat=[]:=by simp[RS.new]
  rw[this,nil_append]at i5;exact i5
 ·have e:Bp b m=([],0,(((RS.new b).frame m).1.code,((RS.new b).frame m).1.fat)):=by unfold Bp;rw[if_neg h]
  rw[e]at hc;exact absurd hc h
def V1 {b:List Int} {m:Int} (hc:¬(Bp b m).2.2.1=0):(Bp b m).1=[]∧(Bp b m).2.1=0:=by
 unfold Bp at hc ⊢;split
 ·rename_i h;rw[if_pos h]at hc;exact absurd rfl hc
 ·exact⟨rfl,rfl⟩
structure En where
 lk:List Lk
 data:List Int
def Dt:En:=⟨[],[]⟩
structure En.ok (e:En):Prop where
 lk:PL e.lk
 data:AW e.data
def j9 (l:List En):Prop:=∀e∈l,e.ok
def Cx (pos:Int) (e:En):Bool:=BH pos e.lk&&decide (e.data.length≤1048576)
def C7 {pos:Int} {e:En}:Cx pos e=true↔BH pos e.lk=true∧e.data.length≤1048576:=by simp[Cx]
def Fm (pos:Int) (e:En):List Int:=BR pos e.lk++vb e.data.length
def RS.ehead (s:RS) (pos m:Int):RS×(List Lk×Int):=if((s.links pos).1.int m).1.code=0 then(((s.links pos).1.int m).1,((s.links pos).2,((s.links pos).1.int m).2))else(((s.links pos).1.int m).1,([],0))
def Pi {s:RS} {pos:Int} (h:Ak s) (p0:0≤pos) (p1:pos<18446744073709551616) (m:Int):Ak (s.ehead pos m).1∧(s.ehead pos m).1.l=s.l:=by
 have⟨a,b⟩:=Ec h p0 p1;have⟨c,d⟩:=a.int m;unfold RS.ehead;split<;>exact⟨c,d.trans b⟩
def Cl.many {β:Type} {F:DH β} (hF:∀s acc,Cl s->Cl (F.f s acc).1):∀(n:Nat) (s:RS) (acc:List β),Cl s->Cl (F.many n s acc).1:=by
 intro n
 induction n with
 |zero=>intro s acc h;exact h
 |succ n ih=>
  intro s acc h;unfold DH.many;split
  ·exact ih _ _ (hF s acc h)
  ·exact hF s acc h
def Cl.counted {β:Type} {F:DH β} (hF:∀s acc,Cl s->Cl (F.f s acc).1) {s:RS} (h:Cl s) (m:Int):Cl (F.counted m s).1:=Cl.many hF _ _ _ (h.int m)
def Cl.fall {s:RS} (h:Cl s) (b m:Int):Cl (s.fall b m).1:=by
 refine Cl.counted (F:=Df b) (λs acc h=>?_) h m;simp only[Df];split
 ·exact h.vint.fail _ _
 ·exact h.vint
def Cl.links {s:RS} (h:Cl s) (pos:Int):Cl (s.links pos).1:=by
 refine Cl.counted (F:=Cq pos) (λs acc h=>?_) h 16;simp only[Cq];refine Cl.fall ?_ _ _;unfold RS.lkHead;split
 ·exact h.vint.fail _ _
 ·exact h.vint
def Cl.ehead {s:RS} (h:Cl s) (pos m:Int):Cl (s.ehead pos m).1:=by
 unfold RS.ehead;split<;>exact(h.links pos).int m
def iX {s:RS} {pos m:Int} {e:En} {r:List Int} (h:Ak s) (hc:s.code=0) (p0:0≤pos) (p1:pos<18446744073709551616) (he:e.ok) (hr:BH pos e.lk=true) (hm:(e.data.length:Int)≤m) (hn:e.data.length<18446744073709551616) (hrest:s.rest=Fm pos e++r):
 s.ehead pos m=(s.adv ((Fm pos e).length:Int),(e.lk,(e.data.length:Int))):=by
 unfold Fm at hrest ⊢;rw[append_assoc]at hrest;have hl:=Rm h hc p0 p1 he.lk hr hrest;have h2:=Cf h hrest;have e2:(s.adv ((BR pos e.lk).length:Int)).rest=vb (e.data.length:Int)++r:=by rw[BC h.at0,hrest,drop_left]
 have hi:=Jl (m:=m) (show(s.adv ((BR pos e.lk).length:Int)).code=0 from hc) Om hm Om e2;unfold RS.ehead;rw[hl];simp only;rw[hi];simp only;rw[if_pos (show((s.adv ((BR pos e.lk).length:Int)).adv ((vb (e.data.length:Int)).length:Int)).code=0 from hc),BU,length_append];rfl
def AK (l:List En):List Int:=l.flatMap (·.data)
def F8 (l:List En) (e:En):AK (l++[e])=AK l++e.data:=by simp[AK]
def GM:List En->List Int->List Int->List En->List En×Bool
 |e::hs,n::ns,d,acc=>if n<0∨(d.length:Int)<n then([],false)else GM hs ns (d.drop n.toNat) (acc++[⟨e.lk,d.take n.toNat⟩])
 |_,_,d,acc=>if d.length=0 then(acc,true)else([],false)
def FC (hs:List En) (ns:List Int) (d:List Int):List En×Bool:=if hs.length=ns.length then GM hs ns d []else([],false)
def J8 (b:List Int) (hb:b.length≤1048576):∀(f a x:Nat),x≤a->∀t∈GY b f a x,t.right=true
 |0,a,x,h1,t,ht=>by
  simp only[GY,Fi]at ht;split at ht
  ·simp at ht;subst ht;simp[Tk.right,Tk.run];omega
  ·simp at ht
 |f+1,a,x,h1,t,ht=>by
  have hok:=Pz b a;have hl:=hok.1.len;have h0:=hok.1.n0;have hm:=hok.1.most;simp only[GY]at ht;split at ht
  ·simp only[Fi]at ht;split at ht
   ·simp at ht;subst ht;simp[Tk.right,Tk.run];omega
   ·simp at ht
  ·rename_i ha;split at ht
   ·exact J8 b hb f (a+1) x Om t ht
   ·rename_i hz;have ho:=hok.1.off Om;simp only[mem_append,mem_singleton]at ht;rcases ht with(ht|ht)|ht
    ·simp only[Fi]at ht;split at ht
     ·simp at ht;subst ht;simp[Tk.right,Tk.run];omega
     ·simp at ht
    ·subst ht;simp[Tk.right,Tk.copy];right;omega
    ·exact J8 b hb f _ _ (Nat.le_refl _) t ht
def Ol (b:List Int) (hb:AW b):∀(f a x:Nat),∀t∈GY b f a x,AW t.lit
 |0,a,x,t,ht=>by
  simp only[GY,Fi]at ht;split at ht
  ·simp at ht;subst ht;intro y hy;exact hb y (mem_of_mem_drop (mem_of_mem_take hy))
  ·simp at ht
 |f+1,a,x,t,ht=>by
  simp only[GY]at ht;split at ht
  ·simp only[Fi]at ht;split at ht
   ·simp at ht;subst ht;intro y hy;exact hb y (mem_of_mem_drop (mem_of_mem_take hy))
   ·simp at ht
  ·split at ht
   ·exact Ol b hb f (a+1) x t ht
   ·simp only[mem_append,mem_singleton]at ht;rcases ht with(ht|ht)|ht
    ·simp only[Fi]at ht;split at ht
     ·simp at ht;subst ht;intro y hy;exact hb y (mem_of_mem_drop (mem_of_mem_take hy))
     ·simp at ht
    ·subst ht;intro y hy;simp at hy
    ·exact Ol b hb f _ _ t ht
def B3 (b:List Int):List Int:=H3 (Fz b)
def KY {b:List Int} (hb:b.length≤1048576):∀t∈Fz b,t.right=true:=J8 b hb _ _ _ (Nat.le_refl _)
def X5 {b:List Int} (hn:b.length≤1048576) (hb:AW b):AW (B3 b):=by
 intro y hy;simp only[B3,H3,mem_flatMap]at hy;have⟨t,ht,hy⟩:=hy;exact kR (KY hn t ht) (Ol b hb _ _ _ t ht) y hy
def ID (b:List Int):Bool:=decide (((vb ((B3 b).length:Int)).length:Int)+(B3 b).length<b.length)
def HZ (b:List Int):List Int:=vb b.length++(if ID b=true then[1]++(vb ((B3 b).length:Int)++B3 b)else[0]++b)
def Py (b:List Int):((HZ b).length:Int)≤(vb (b.length:Int)).length+b.length+1:=by
 unfold HZ;cases h:ID b with
 |true=>
  have:((vb ((B3 b).length:Int)).length:Int)+(B3 b).length<b.length:=by simpa[ID]using h
  simp only[if_true,length_append,length_singleton];omega
 |false=>simp only[Bool.false_eq_true,if_false,length_append,length_singleton];omega
def WU {b:List Int} (hn:b.length≤1048576) (hb:AW b):AW (HZ b):=by
 have h1:AW (vb (b.length:Int)):=B6 Om Om;unfold HZ;intro x hx;rcases mem_append.1 hx with hx|hx
 ·exact h1 x hx
 ·split at hx
  ·rename_i hp;have:((vb ((B3 b).length:Int)).length:Int)+(B3 b).length<b.length:=by simpa[ID]using hp
   simp only[mem_append,mem_singleton]at hx;rcases hx with hx|hx|hx
   ·subst hx;decide
   ·exact B6 (x:=((B3 b).length:Int)) Om Om x hx
   ·exact X5 hn hb x hx
  ·simp only[mem_append,mem_singleton]at hx;rcases hx with hx|hx
   ·subst hx;decide
   ·exact hb x hx
def RS.unpk (s:RS) (n:Int):RS×List Int:=
 if(s.blob 1048576).1.code=0 then
  (if(EX n (RS.new (s.blob 1048576).2) []).2.1=0 then
    (if((EX n (RS.new (s.blob 1048576).2) []).1.length:Int)<n then((s.blob 1048576).1.fail 3 (s.blob 1048576).1.at_,(EX n (RS.new (s.blob 1048576).2) []).1)else((s.blob 1048576).1,(EX n (RS.new (s.blob 1048576).2) []).1))
  else((s.blob 1048576).1.fail (EX n (RS.new (s.blob 1048576).2) []).2.1 ((EX n (RS.new (s.blob 1048576).2) []).2.2+((s.blob 1048576).1.at_-(s.blob 1048576).2.length)),(EX n (RS.new (s.blob 1048576).2) []).1))
 else((s.blob 1048576).1,[])
def RS.bway (s:RS):RS×(Int×Int):=((s.int 1048576).1.byte.1,((s.int 1048576).2,(s.int 1048576).1.byte.2))
def RS.bdat (s:RS):RS×List Int:=
 if s.bway.1.code=0 then
  (if s.bway.2.2=0 then s.bway.1.take s.bway.2.1 else if s.bway.2.2=1 then s.bway.1.unpk s.bway.2.1 else(s.bway.1.fail 7 (s.bway.1.at_-1),[]))
 else(s.bway.1,[])
def RS.blkL (s:RS):RS×(List Int×Bool):=
 if s.bdat.1.code=0 then(s.bdat.1,(s.bdat.2,BJ (HZ s.bdat.2) ((s.l.drop s.at_.toNat).take (s.bdat.1.at_-s.at_).toNat)))else(s.bdat.1,([],false))
def RS.blk (s:RS):RS×List Int:=if s.blkL.2.2=true then(s.blkL.1,s.blkL.2.1)else(s.blkL.1.fail 12 s.blkL.1.at_,[])
def E2 {s:RS} (h:Ak s) (m:Int):Ak (s.blob m).1∧(s.blob m).1.l=s.l∧AW (s.blob m).2∧(s.blob m).2.length≤s.l.length:=by
 have⟨h1,h2⟩:=h.int m;unfold RS.blob;refine⟨h1.take _,by rw[(h1.ok.take _).2,h2],Dw h1.bys _,?_⟩;have:=Uu (s.int m).1 (s.int m).2;rw[h2]at this;exact this
def RS.ok.byte_ {s:RS} (h:Ak s):Ak s.byte.1∧s.byte.1.l=s.l:=by
 have h1:=h.skip 1;have h2:=(h.ok.skip 1).2;unfold RS.byte;split
 ·exact⟨h1,h2⟩
 ·exact⟨h1,h2⟩
def Jz {s:RS} (h:Ak s):Ak s.bway.1∧s.bway.1.l=s.l:=by
 have⟨h1,h2⟩:=h.int 1048576;have⟨h3,h4⟩:=RS.ok.byte_ h1;exact⟨h3,h4.trans h2⟩
def cI {s:RS} (h:Ak s) (n:Int):Ak (s.unpk n).1∧(s.unpk n).1.l=s.l:=by
 have⟨h1,h2,_⟩:=E2 h 1048576;unfold RS.unpk
 repeat' split
 all_goals first|exact⟨h1,h2⟩|exact⟨h1.fail _ _,by rw[AY];exact h2⟩
def RZ {s:RS} (h:Ak s):Ak s.bdat.1∧s.bdat.1.l=s.l:=by
 have⟨h1,h2⟩:=Jz h;have⟨h3,h4⟩:=cI h1 s.bway.2.1;unfold RS.bdat
 repeat' split
 all_goals first|exact⟨h1,h2⟩|exact⟨h3,h4.trans h2⟩|exact⟨h1.fail _ _,by rw[AY];exact h2⟩|exact⟨h1.take _,by rw[(h1.ok.take _).2,h2]⟩
def Es {s:RS} (h:Ak s):Ak s.blkL.1∧s.blkL.1.l=s.l:=by
 have:=RZ h;unfold RS.blkL;split<;>exact this
def CE {s:RS} (h:Ak s):Ak s.blk.1∧s.blk.1.l=s.l:=by
 have⟨h1,h2⟩:=Es h;unfold RS.blk;split
 ·exact⟨h1,h2⟩
 ·exact⟨h1.fail _ _,by rw[AY];exact h2⟩
def Ac (e:Int):Bool:=decide (1≤e)&&decide (e<4611686018427387904)
def AL (e:Int):Bool:=decide (e<4611686018427387904)
def RS.epo (s:RS) (ok:Int->Bool):RS×Int:=if s.vint.1.code=0 then(if ok s.vint.2=true then s.vint else(s.vint.1.fail 3 s.at_,0))else(s.vint.1,0)
def Bq {e:Int}:Ac e=true↔1≤e∧e<4611686018427387904:=by simp[Ac]
def DL {e:Int}:AL e=true↔e<4611686018427387904:=by simp[AL]
def Bc {s:RS} (h:Ak s) (ok:Int->Bool):Ak (s.epo ok).1∧(s.epo ok).1.l=s.l:=by
 have⟨a,b⟩:=h.vint;unfold RS.epo
 repeat' split
 ·exact⟨a,b⟩
 ·exact⟨a.fail _ _,by rw[AY];exact b⟩
 ·exact⟨a,b⟩
def iK {s:RS} (a:Int) (h:s.code=0):¬(s.fail 3 a).code=0:=by
 unfold RS.fail;rw[if_pos h];simp[BB]
def pX {s:RS} {ok:Int->Bool} (hc:(s.epo ok).1.code=0):s.vint.1.code=0∧ok s.vint.2=true∧s.epo ok=s.vint:=by
 unfold RS.epo at hc ⊢;by_cases h:s.vint.1.code=0
 ·rw[if_pos h]at hc ⊢;by_cases ho:ok s.vint.2=true
  ·rw[if_pos ho];exact⟨h,ho,rfl⟩
  ·rw[if_neg ho]at hc;exact absurd hc (iK _ h)
 ·rw[if_neg h]at hc;exact absurd hc h
def HV {s:RS} (h:Ak s) {ok:Int->Bool} (hc:(s.epo ok).1.code=0):s.code=0∧0≤(s.epo ok).2∧(s.epo ok).2<18446744073709551616∧ok (s.epo ok).2=true∧s.at_<(s.epo ok).1.at_∧s.l.take (s.epo ok).1.at_.toNat=s.l.take s.at_.toNat++vb (s.epo ok).2:=by
 have⟨h1,h2,h3⟩:=pX hc;have hv:=A8 (s:=s) h.bys;have⟨v1,v2,v3⟩:=B8 h h1;have ha:=DT h h1;rw[h3];exact⟨v3,hv.1,hv.2,h2,Om,v1⟩
def Ju {s:RS} {ok:Int->Bool} {x:Int} {r:List Int} (hc:s.code=0) (h0:0≤x) (h1:x<18446744073709551616) (ho:ok x=true) (hr:s.rest=vb x++r):s.epo ok=(s.adv ((vb x).length:Int),x):=by
 have hv:=Fc hc h0 h1 hr;unfold RS.epo;rw[hv];simp only;rw[if_pos (show(s.adv ((vb x).length:Int)).code=0 from hc),if_pos ho]
def a8 {s:RS} {ok:Int->Bool} (hc:¬(s.epo ok).1.code=0):(s.epo ok).2=0:=by
 unfold RS.epo at hc ⊢;split
 ·rename_i h;rw[if_pos h]at hc;split
  ·rename_i ho;rw[if_pos ho]at hc;exact absurd h hc
  ·rfl
 ·rfl
def Cl.epo {s:RS} (h:Cl s) (ok:Int->Bool):Cl (s.epo ok).1:=by
 unfold RS.epo
 repeat' split
 ·exact h.vint
 ·exact h.vint.fail _ _
 ·exact h.vint
structure Hd where
 ver:Int
 ep:Int
 base:Int
 deriving DecidableEq
def Ls:Hd:=⟨0,0,0⟩
structure Hd.ok (h:Hd):Prop where
 v0: -9223372036854775808≤h.ver
 v1:h.ver<9223372036854775808
 e0:0≤h.ep
 e1:h.ep<18446744073709551616
 b0:0≤h.base
 b1:h.base<18446744073709551616
def Bz (h:Hd):Bool:=decide (1≤h.ver∧h.ver≤3)&&Ac h.ep&&AL h.base&&(decide (h.ver=1)||decide (h.base=0))
def B9 {h:Hd}:Bz h=true↔(1≤h.ver∧h.ver≤3)∧(1≤h.ep∧h.ep<4611686018427387904)∧h.base<4611686018427387904∧(h.ver=1∨h.base=0):=by
 simp[Bz,Bq,DL,and_assoc]
def Bs:List Int:=[84,72,79,76]
def AI (h:Hd):List Int:=Bs++[h.ver]++vb h.ep++(if h.ver=1 then vb h.base else[])
def Am (h:Hd):List Int:=AI h++Ap 4 (Bb (AI h))
def RS.lets (s:RS):RS:=if(s.take 4).1.code=0∧(s.take 4).2≠Bs then(s.take 4).1.fail 14 s.at_ else(s.take 4).1
def RS.vers (s:RS):RS×Int:=
 if(s.take 1).1.code=0 then(if 1≤(s.take 1).2.getD 0 0∧(s.take 1).2.getD 0 0≤3 then((s.take 1).1,(s.take 1).2.getD 0 0)else((s.take 1).1.fail 8 s.at_,0))else((s.take 1).1,0)
def RS.hbegin (s:RS):RS×Int:=s.lets.vers
def RS.hbase (s:RS) (v:Int):RS×Int:=if v=1 then s.epo AL else(s,0)
def RS.hplain (s:RS):RS×Hd:=(((s.hbegin.1.epo Ac).1.hbase s.hbegin.2).1,⟨s.hbegin.2,(s.hbegin.1.epo Ac).2,((s.hbegin.1.epo Ac).1.hbase s.hbegin.2).2⟩)
def RS.from (s t:RS):List Int:=(s.l.drop s.at_.toNat).take (t.at_.toNat-s.at_.toNat)
def RS.header (s:RS):RS×Hd:=
 if(s.hplain.1.fixed 4).1.code=0 then(if(s.hplain.1.fixed 4).2=Bb (s.from s.hplain.1)then((s.hplain.1.fixed 4).1,s.hplain.2)else((s.hplain.1.fixed 4).1.fail 6 s.hplain.1.at_,Ls))else((s.hplain.1.fixed 4).1,Ls)
def Cl.lets {s:RS} (h:Cl s):Cl s.lets:=by
 unfold RS.lets;split
 ·exact(h.take 4).fail _ _
 ·exact h.take 4
def Cl.vers {s:RS} (h:Cl s):Cl s.vers.1:=by
 unfold RS.vers
 repeat' split
 ·exact h.take 1
 ·exact(h.take 1).fail _ _
 ·exact h.take 1
def Cl.hbase {s:RS} (h:Cl s) (v:Int):Cl (s.hbase v).1:=by
 unfold RS.hbase;split
 ·exact h.epo _
 ·exact h
def Cl.hplain {s:RS} (h:Cl s):Cl s.hplain.1:=((h.lets.vers).epo Ac).hbase _
def Cl.header {s:RS} (h:Cl s):Cl s.header.1:=by
 unfold RS.header
 repeat' split
 ·exact h.hplain.fixed 4
 ·exact(h.hplain.fixed 4).fail _ _
 ·exact h.hplain.fixed 4
def Jj {s:RS} (h:Ak s):Ak s.lets∧s.lets.l=s.l:=by
 have a:=h.take 4;have b:=(h.ok.take 4).2;unfold RS.lets;split
 ·exact⟨a.fail _ _,by rw[AY];exact b⟩
 ·exact⟨a,b⟩
def Lv {s:RS} (h:Ak s):Ak s.vers.1∧s.vers.1.l=s.l:=by
 have a:=h.take 1;have b:=(h.ok.take 1).2;unfold RS.vers
 repeat' split
 ·exact⟨a,b⟩
 ·exact⟨a.fail _ _,by rw[AY];exact b⟩
 ·exact⟨a,b⟩
def Mx {s:RS} (h:Ak s):Ak s.hbegin.1∧s.hbegin.1.l=s.l:=by
 have⟨a,b⟩:=Jj h;have⟨c,d⟩:=Lv a;exact⟨c,d.trans b⟩
def YW {s:RS} (h:Ak s) (v:Int):Ak (s.hbase v).1∧(s.hbase v).1.l=s.l:=by
 unfold RS.hbase;split
 ·exact Bc h _
 ·exact⟨h,rfl⟩
def Gs {s:RS} (h:Ak s):Ak s.hplain.1∧s.hplain.1.l=s.l:=by
 have⟨a,b⟩:=Mx h;have⟨c,d⟩:=Bc a Ac;have⟨e,f⟩:=YW c s.hbegin.2;exact⟨e,f.trans (d.trans b)⟩
def Fl {s:RS} (h:Ak s):Ak s.header.1∧s.header.1.l=s.l:=by
 have⟨a,b⟩:=Gs h;have⟨c,d⟩:=HS a 4;unfold RS.header
 repeat' split
 ·exact⟨c,d.trans b⟩
 ·exact⟨c.fail _ _,by rw[AY];exact d.trans b⟩
 ·exact⟨c,d.trans b⟩
def wG {s:RS} (h:Ak s) (hc:s.lets.code=0):s.code=0∧s.lets.at_=s.at_+4∧s.l.take s.lets.at_.toNat=s.l.take s.at_.toNat++Bs:=by
 unfold RS.lets at hc ⊢;by_cases hx:(s.take 4).1.code=0∧(s.take 4).2≠Bs
 ·rw[if_pos hx]at hc;exact absurd hc (BF _ _ hx.1 De)
 ·rw[if_neg hx]at hc ⊢;have⟨t1,t2,t3,t4,t5⟩:=Be h hc;have e:(s.take 4).2=Bs:=by
   by_cases he:(s.take 4).2=Bs
   ·exact he
   ·exact absurd ⟨hc,he⟩ hx
  rw[e]at t5;exact⟨t1,t4,t5⟩
def tA {s:RS} (h:Ak s) (hc:s.vers.1.code=0):s.code=0∧1≤s.vers.2∧s.vers.2≤3∧s.vers.1.at_=s.at_+1∧s.l.take s.vers.1.at_.toNat=s.l.take s.at_.toNat++[s.vers.2]:=by
 unfold RS.vers at hc ⊢;by_cases h1:(s.take 1).1.code=0
 ·rw[if_pos h1]at hc ⊢;by_cases h2:1≤(s.take 1).2.getD 0 0∧(s.take 1).2.getD 0 0≤3
  ·rw[if_pos h2];have⟨t1,t2,t3,t4,t5⟩:=Be h h1;have e:(s.take 1).2=[(s.take 1).2.getD 0 0]:=by
    match hx:(s.take 1).2,t3 with
    |[x],_=>rfl
    |[],t3=>simp at t3
    |x::y::z,t3=>simp only[length_cons]at t3;omega
   exact⟨t1,h2.1,h2.2,t4,by rw[t5];congr 1⟩
  ·rw[if_neg h2]at hc;exact absurd hc (BF _ _ h1 De)
 ·rw[if_neg h1]at hc;exact absurd hc h1
def oZ {s:RS} (h:Ak s) {v:Int} (hc:(s.hbase v).1.code=0):s.code=0∧0≤(s.hbase v).2∧(s.hbase v).2<4611686018427387904∧(v=1∨(s.hbase v).2=0)∧s.at_≤(s.hbase v).1.at_∧s.l.take (s.hbase v).1.at_.toNat=s.l.take s.at_.toNat++(if v=1 then vb (s.hbase v).2 else[]):=by
 unfold RS.hbase at hc ⊢;by_cases hv:v=1
 ·rw[if_pos hv]at hc ⊢;have⟨e1,e2,e3,e4,e5,e6⟩:=HV h hc;rw[if_pos hv];exact⟨e1,e2,DL.1 e4,.inl hv,Om,e6⟩
 ·rw[if_neg hv]at hc ⊢;rw[if_neg hv];exact⟨hc,Int.le_refl _,by show(0:Int)<4611686018427387904;decide,.inr rfl,Int.le_refl _,Si⟩
def Rw {s:RS} (h:Ak s) (hc:s.hplain.1.code=0):s.code=0∧Bz s.hplain.2=true∧0≤s.hplain.2.base∧s.at_+6≤s.hplain.1.at_∧s.l.take s.hplain.1.at_.toNat=s.l.take s.at_.toNat++AI s.hplain.2:=by
 have⟨a1,a2⟩:=Jj h;have⟨b1,b2⟩:=Lv a1;have⟨c1,c2⟩:=Bc b1 Ac;have⟨d1,d2,d3,d4,d5,d6⟩:=oZ c1 hc;have⟨e1,e2,e3,e4,e5,e6⟩:=HV b1 d1;have⟨f1,f2,f3,f4,f5⟩:=tA a1 e1;have⟨g1,g2,g3⟩:=wG h f1;have er:=Bq.1 e4;refine⟨g1,B9.2 ⟨⟨f2,f3⟩,er,d3,d4⟩,d2,?_,?_⟩
 ·have x1:s.hplain.1.at_=((s.hbegin.1.epo Ac).1.hbase s.hbegin.2).1.at_:=rfl;rw[x1];have x2:s.hbegin.1.at_=s.lets.at_+1:=f4;have x3:s.hbegin.1.at_<(s.hbegin.1.epo Ac).1.at_:=e5;have x4:(s.hbegin.1.epo Ac).1.at_≤((s.hbegin.1.epo Ac).1.hbase s.hbegin.2).1.at_:=d5;omega
 ·rw[c2,b2,a2]at d6;rw[b2,a2]at e6;rw[a2]at f5;have y1:s.l.take s.hplain.1.at_.toNat=s.l.take (s.lets.vers.1.epo Ac).1.at_.toNat++(if s.hbegin.2=1 then vb s.hplain.2.base else[]):=d6;rw[y1,e6,f5,g3];simp only[append_assoc];rfl
def LX {s t:RS} (h0:0≤s.at_) (h1:s.at_≤t.at_) {x:List Int} (hx:s.l.take t.at_.toNat=s.l.take s.at_.toNat++x) (hl:s.at_≤s.l.length):s.from t=x:=by
 unfold RS.from;have hA:(s.l.take s.at_.toNat).length=s.at_.toNat:=by rw[length_take];omega
 have e:=congrArg (List.drop s.at_.toNat) hx;rw[drop_take]at e;exact e.trans (drop_left' hA)
def F4 {h:Hd} (hr:Bz h=true) (hb:0≤h.base):AW (AI h):=by
 have⟨h1,h2,h3,h4⟩:=B9.1 hr;intro y hy;unfold AI at hy;rcases mem_append.1 hy with hy|hy
 ·rcases mem_append.1 hy with hy|hy
  ·simp only[Bs,cons_append,nil_append,mem_cons,not_mem_nil,or_false]at hy;omega
  ·exact B6 Om Om y hy
 ·split at hy
  ·exact B6 hb Om y hy
  ·simp at hy
def X6 (h:Hd):6≤(AI h).length∧(AI h).length≤25:=by
 unfold AI;have h1:=A7 h.ep;have h2:=A7 h.base;simp only[length_append,Bs,length_cons,length_nil];split
 ·omega
 ·simp only[length_nil];omega
def Em (h:Hd):(Am h).length=(AI h).length+4:=by unfold Am;rw[length_append,BN]
def Mw {h:Hd} (hr:Bz h=true) (hb:0≤h.base):AW (Am h):=by
 intro y hy;rcases mem_append.1 hy with hy|hy
 ·exact F4 hr hb y hy
 ·exact EG 4 _ y hy
def ET {s:RS} (h:Ak s) (hc:s.header.1.code=0):s.code=0∧Bz s.header.2=true∧0≤s.header.2.base∧s.at_+10≤s.header.1.at_∧s.l.take s.header.1.at_.toNat=s.l.take s.at_.toNat++Am s.header.2:=by
 unfold RS.header at hc ⊢;by_cases h1:(s.hplain.1.fixed 4).1.code=0
 ·rw[if_pos h1]at hc ⊢;by_cases h2:(s.hplain.1.fixed 4).2=Bb (s.from s.hplain.1)
  ·rw[if_pos h2];have⟨a,b⟩:=Gs h;have⟨t1,t2,t3,t4,t5⟩:=Be a (n:=4) h1;have⟨p1,p2,p3,p4,p5⟩:=Rw h t1;have hfr:=LX h.at0 Om p5 h.at1;have hfix:(s.hplain.1.fixed 4).1.at_=s.hplain.1.at_+4:=t4;refine⟨p1,p2,p3,by simp only;omega,?_⟩;rw[b]at t5;show s.l.take (s.hplain.1.take 4).1.at_.toNat=_;rw[t5,p5,append_assoc];unfold Am;congr 2;have hb:AW (s.hplain.1.take 4).2:=Dw a.bys 4;have hl:=G9 hb;have hlen:(s.hplain.1.take 4).2.length=4:=Om
   rw[hlen]at hl;have h2':Bm (s.hplain.1.take 4).2=Bb (AI s.hplain.2):=by rw[←hfr];exact h2
   rw[←h2'];exact hl.symm
  ·rw[if_neg h2]at hc;exact absurd hc (BF _ _ h1 De)
 ·rw[if_neg h1]at hc;exact absurd hc h1
def HP {s:RS} (hc:¬s.header.1.code=0):s.header.2=Ls:=by
 unfold RS.header at hc ⊢
 repeat' split
 ·rename_i h1 h2;rw[if_pos h1,if_pos h2]at hc;exact absurd h1 hc
 ·rfl
 ·rfl
def YN {s:RS} {h:Hd} {r:List Int} (hs:Ak s) (hc:s.code=0) (hr:Bz h=true) (hb:0≤h.base) (hrest:s.rest=AI h++r):s.hplain=(s.adv ((AI h).length:Int),h):=by
 have⟨h1,h2,h3,h4⟩:=B9.1 hr;have e1:s.rest=Bs++([h.ver]++(vb h.ep++((if h.ver=1 then vb h.base else[])++r))):=by rw[hrest];unfold AI;simp only[append_assoc]
 have t1:=EA hs hc e1;have t1':s.take 4=(s.adv 4,Bs):=t1;have hl:s.lets=s.adv 4:=by unfold RS.lets;rw[t1'];simp
 have hs1:Ak (s.adv 4):=Cf hs e1;have e2:(s.adv 4).rest=[h.ver]++(vb h.ep++((if h.ver=1 then vb h.base else[])++r)):=by
  have:=BC (s:=s) hs.at0 4;have e:s.adv ((4:Nat):Int)=s.adv 4:=rfl;rw[e,e1]at this;exact this
 have t2:=EA hs1 (show(s.adv 4).code=0 from hc) e2;have t2':(s.adv 4).take 1=((s.adv 4).adv 1,[h.ver]):=t2;have hv:s.hbegin=(s.adv 5,h.ver):=by
  unfold RS.hbegin RS.vers;rw[hl,t2'];simp only[getD_cons_zero];rw[if_pos (show((s.adv 4).adv 1).code=0 from hc),if_pos h1,BU];rfl
 have hs2:Ak (s.adv 5):=by have:=Cf hs1 e2;rw[BU]at this;exact this
 have e3:(s.adv 5).rest=vb h.ep++((if h.ver=1 then vb h.base else[])++r):=by
  have:=BC (s:=s.adv 4) hs1.at0 1;have e:(s.adv 4).adv ((1:Nat):Int)=s.adv 5:=by rw[BU];rfl
  rw[e,e2]at this;exact this
 have hep:=Ju (ok:=Ac) (show(s.adv 5).code=0 from hc) Om Om (Bq.2 h2) e3;have hs3:=Cf hs2 e3;have e4:((s.adv 5).adv ((vb h.ep).length:Int)).rest=(if h.ver=1 then vb h.base else[])++r:=by rw[BC hs2.at0,e3,drop_left]
 have hlen:((AI h).length:Int)=5+(vb h.ep).length+(if h.ver=1 then vb h.base else[]).length:=by
  unfold AI;simp only[length_append,Bs,length_cons,length_nil];omega
 have hba:((s.adv 5).adv ((vb h.ep).length:Int)).hbase h.ver=(s.adv ((AI h).length:Int),h.base):=by
  unfold RS.hbase;by_cases hv1:h.ver=1
  ·rw[if_pos hv1];rw[if_pos hv1]at e4 hlen;have:=Ju (ok:=AL) (show((s.adv 5).adv ((vb h.ep).length:Int)).code=0 from hc) hb Om (DL.2 h3) e4;rw[this,BU,BU,hlen,Int.add_assoc]
  ·rw[if_neg hv1];rw[if_neg hv1]at hlen;have hb0:h.base=0:=Om
   rw[BU,hlen,hb0];simp
 unfold RS.hplain;rw[hv];simp only;rw[hep];simp only;rw[hba]
def YP {s:RS} {h:Hd} {r:List Int} (hs:Ak s) (hc:s.code=0) (hr:Bz h=true) (hb:0≤h.base) (hrest:s.rest=Am h++r):s.header=(s.adv ((Am h).length:Int),h):=by
 have e1:s.rest=AI h++(Ap 4 (Bb (AI h))++r):=by rw[hrest];unfold Am;rw[append_assoc]
 have hp:=YN hs hc hr hb e1;have hs1:=Cf hs e1;have e2:(s.adv ((AI h).length:Int)).rest=Ap 4 (Bb (AI h))++r:=by rw[BC hs.at0,e1,drop_left]
 have ht:=EA hs1 (show(s.adv ((AI h).length:Int)).code=0 from hc) e2;rw[BN]at ht;have hcr:=DE (F4 hr hb);have hf:(s.adv ((AI h).length:Int)).fixed 4=(s.adv ((Am h).length:Int),Bb (AI h)):=by
  unfold RS.fixed;have ht':(s.adv ((AI h).length:Int)).take 4=((s.adv ((AI h).length:Int)).adv 4,Ap 4 (Bb (AI h))):=ht;rw[ht',RD 4 _ hcr.1 (by simpa using hcr.2),BU,Em];rfl
 have hfr:s.from (s.adv ((AI h).length:Int))=AI h:=by
  unfold RS.from;have h0:=hs.at0;have e3:(s.adv ((AI h).length:Int)).at_.toNat-s.at_.toNat=(AI h).length:=by
   show(s.at_+((AI h).length:Int)).toNat-s.at_.toNat=_;omega
  rw[e3];show s.rest.take _=_;rw[e1,take_left]
 unfold RS.header;rw[hp];simp only;rw[hf];simp only;rw[if_pos (show(s.adv ((Am h).length:Int)).code=0 from hc),hfr,if_pos rfl]
section
variable {pre:List Int}
end
structure Ft where
 ep:Int
 bat:Int
 ent:Int
 fst:Int
 fin:Int
 at_:Int
 size:Int
 deriving DecidableEq
def Kn:Ft:=⟨0,0,0,0,0,0,0⟩
structure Ft.ok (f:Ft):Prop where
 ep:0≤f.ep∧f.ep<18446744073709551616
 bat: -9223372036854775808≤f.bat∧f.bat<9223372036854775808
 ent: -9223372036854775808≤f.ent∧f.ent<9223372036854775808
 fst:0≤f.fst∧f.fst<18446744073709551616
 fin:0≤f.fin∧f.fin<18446744073709551616
 at_: -9223372036854775808≤f.at_∧f.at_<9223372036854775808
 size: -9223372036854775808≤f.size∧f.size<9223372036854775808
def Dx (f:Ft):Bool:=if f.bat=0 then decide (f.fst=0∧f.fin=0)else decide (f.fst<f.fin∧f.fin≤4611686018427387904∧f.ent≤f.fin-f.fst)
def AG (f:Ft):Bool:=Ac f.ep&&decide (0≤f.bat∧f.bat≤16∧f.bat≤f.ent∧f.ent≤16*f.bat)&&decide (1≤f.at_∧f.at_≤1099511627775∧1≤f.size∧f.size≤2097152)&&Dx f
def NQ {f:Ft}:Dx f=true↔(f.bat=0->f.fst=0∧f.fin=0)∧(¬f.bat=0->f.fst<f.fin∧f.fin≤4611686018427387904∧f.ent≤f.fin-f.fst):=by
 unfold Dx;split<;>rename_i h<;>simp[h]
def Hy {f:Ft}:AG f=true↔(1≤f.ep∧f.ep<4611686018427387904)∧(0≤f.bat∧f.bat≤16∧f.bat≤f.ent∧f.ent≤16*f.bat)∧(1≤f.at_∧f.at_≤1099511627775∧1≤f.size∧f.size≤2097152)∧Dx f=true:=by
 simp only[AG,Bool.and_eq_true,decide_eq_true_eq,Bq,and_assoc]
def F5 (f:Ft):List Int:=[3]++vb f.ep++vb f.bat++vb f.ent++vb f.fst++vb f.fin++vb f.at_++vb f.size
def A4 (x:Int):List Int:=Ap 4 x++Ap 4 (Bb (Ap 4 x))++[76,79,72,84]
def IP (f:Ft):List Int:=Ag (F5 f)++A4 (Ag (F5 f)).length
def RS.fkind (s:RS):RS:=if(s.take 1).1.code=0∧¬(s.take 1).2.getD 0 0=3 then(s.take 1).1.fail 7 0 else(s.take 1).1
def RS.fnums (s:RS):RS×Ft:=
 let a:=s.epo Ac
 let b:=a.1.int 65536
 let c:=b.1.int 65536
 let d:=c.1.vint
 let e:=d.1.vint
 let f:=e.1.int 1099511627776
 let g:=f.1.int 1099511627776
 (g.1,⟨a.2,b.2,c.2,d.2,e.2,f.2,g.2⟩)
def RS.rest9 (s:RS):RS:=if 0<s.left then s.fail 9 s.at_ else s
def RS.fcheck (s:RS) (f:Ft):RS:=if AG f=true then s else s.fail 3 0
def RS.foot (s:RS):RS×Ft:=((s.fkind.fnums.1.fcheck s.fkind.fnums.2).rest9,s.fkind.fnums.2)
def Bh (p:List Int):Ft×(Int×Int):=if(RS.new p).foot.1.code=0 then((RS.new p).foot.2,(0,0))else(Kn,((RS.new p).foot.1.code,(RS.new p).foot.1.fat))
def Kt {s:RS} (h:Ak s):Ak s.fkind∧s.fkind.l=s.l:=by
 have a:=h.take 1;have b:=(h.ok.take 1).2;unfold RS.fkind;split
 ·exact⟨a.fail _ _,by rw[AY];exact b⟩
 ·exact⟨a,b⟩
def O4 {s:RS} (h:Ak s):Ak s.fnums.1∧s.fnums.1.l=s.l:=by
 unfold RS.fnums;simp only;have⟨a,a'⟩:=Bc h Ac;have⟨b,b'⟩:=a.int 65536;have⟨c,c'⟩:=b.int 65536;have⟨d,d'⟩:=c.vint;have⟨e,e'⟩:=d.vint;have⟨f,f'⟩:=e.int 1099511627776;have⟨g,g'⟩:=f.int 1099511627776;exact⟨g,g'.trans (f'.trans (e'.trans (d'.trans (c'.trans (b'.trans a')))))⟩
def F1 {s:RS} (h:s.rest9.code=0):s.code=0∧s.left≤0∧s.rest9=s:=by
 unfold RS.rest9 at h ⊢;by_cases hl:0<s.left
 ·rw[if_pos hl]at h;by_cases hc:s.code=0
  ·exact absurd h (BF _ _ hc De)
  ·unfold RS.fail at h;rw[if_neg hc]at h;exact absurd h hc
 ·rw[if_neg hl]at h ⊢;exact⟨h,Om,rfl⟩
def Wm {s:RS} {f:Ft} (h:(s.fcheck f).code=0):s.code=0∧AG f=true∧s.fcheck f=s:=by
 unfold RS.fcheck at h ⊢;by_cases hr:AG f=true
 ·rw[if_pos hr]at h ⊢;exact⟨h,hr,rfl⟩
 ·rw[if_neg hr]at h;by_cases hc:s.code=0
  ·exact absurd h (BF _ _ hc De)
  ·unfold RS.fail at h;rw[if_neg hc]at h;exact absurd h hc
def pG {s:RS} (h:Ak s) (hc:s.fkind.code=0):s.code=0∧s.fkind.at_=s.at_+1∧s.l.take s.fkind.at_.toNat=s.l.take s.at_.toNat++[3]:=by
 unfold RS.fkind at hc ⊢;by_cases hx:(s.take 1).1.code=0∧¬(s.take 1).2.getD 0 0=3
 ·rw[if_pos hx]at hc;exact absurd hc (BF _ _ hx.1 De)
 ·rw[if_neg hx]at hc ⊢;have⟨t1,t2,t3,t4,t5⟩:=Be h hc;have e3:(s.take 1).2.getD 0 0=3:=by
   by_cases he:(s.take 1).2.getD 0 0=3
   ·exact he
   ·exact absurd ⟨hc,he⟩ hx
  have e:(s.take 1).2=[3]:=by
   match hx:(s.take 1).2,t3 with
   |[x],_=>rw[hx]at e3;simp at e3;rw[e3]
   |[],t3=>simp at t3
   |x::y::z,t3=>simp only[length_cons]at t3;omega
  rw[e]at t5;exact⟨t1,t4,t5⟩
def Ki {s:RS} (h:Ak s) {m:Int} (hc:(s.int m).1.code=0):s.code=0∧0≤(s.int m).2∧(s.int m).2≤m∧s.l.take (s.int m).1.at_.toNat=s.l.take s.at_.toNat++vb (s.int m).2:=by
 have⟨a,b,c,_,e⟩:=Di h hc;exact⟨a,b,c,e⟩
def pD {s:RS} (h:Ak s) (hc:s.fnums.1.code=0):s.code=0∧s.fnums.2.ok∧s.l.take s.fnums.1.at_.toNat=s.l.take s.at_.toNat++(vb s.fnums.2.ep++vb s.fnums.2.bat++vb s.fnums.2.ent++vb s.fnums.2.fst++vb s.fnums.2.fin++vb s.fnums.2.at_++vb s.fnums.2.size):=by
 unfold RS.fnums at hc ⊢;simp only at hc ⊢;have⟨a,a'⟩:=Bc h Ac;have⟨b,b'⟩:=a.int 65536;have⟨c,c'⟩:=b.int 65536;have⟨d,d'⟩:=c.vint;have⟨e,e'⟩:=d.vint;have⟨f,f'⟩:=e.int 1099511627776;have⟨g1,g2,g3,g4⟩:=Ki f hc;have⟨f1,f2,f3,f4⟩:=Ki e g1;have⟨e4,_,e1⟩:=B8 d f1;have e2:=A8 (s:=(((s.epo Ac).1.int 65536).1.int 65536).1.vint.1) d.bys;have⟨d4,_,d1⟩:=B8 c e1;have d2:=A8 (s:=(((s.epo Ac).1.int 65536).1.int 65536).1) c.bys;have⟨c1,c2,c3,c4⟩:=Ki b d1;have⟨b1,b2,b3,b4⟩:=Ki a c1;have⟨a1,a2,a3,_,_,a4⟩:=HV h b1;refine⟨a1,⟨⟨a2,a3⟩,by simp only;omega,by simp only;omega,d2,e2,by simp only;omega,by simp only;omega⟩,?_⟩;rw[f',e',d',c',b',a']at g4;rw[e',d',c',b',a']at f4;rw[d',c',b',a']at e4;rw[c',b',a']at d4;rw[b',a']at c4;rw[a']at b4;rw[g4,f4,e4,d4,c4,b4,a4];simp only[append_assoc]
def xA {p:List Int} (hp:AW p) (hn:p.length≤140737488355328) (hc:(RS.new p).foot.1.code=0):AG (RS.new p).foot.2=true∧(RS.new p).foot.2.ok∧p=F5 (RS.new p).foot.2:=by
 have h:Ak (RS.new p):=Ak.new hp hn;have⟨r1,r2,r3⟩:=F1 hc;have⟨k1,k2,k3⟩:=Wm r1;have⟨q1,q2⟩:=Kt h;have⟨n1,n2,n3⟩:=pD q1 k1;have⟨m1,m2,m3⟩:=pG h n1;rw[k3]at r2;have⟨z1,z2⟩:=O4 q1;refine⟨k2,n2,?_⟩;rw[q2,m3]at n3;have e0:(RS.new p).l.take (RS.new p).at_.toNat=[]:=by simp[RS.new]
 have e1:(RS.new p).l=p:=rfl;rw[e0,e1,nil_append]at n3;have ha:=z1.at0;have hl:p.length≤(RS.new p).fkind.fnums.1.at_.toNat:=by
  unfold RS.left at r2;rw[z2,q2,e1]at r2;omega
 rw[take_of_length_le hl]at n3;unfold F5;simp only[append_assoc]at n3 ⊢;exact n3
def Ot (f:Ft):8≤(F5 f).length∧(F5 f).length≤71:=by
 unfold F5;have h1:=A7 f.ep;have h2:=A7 f.bat;have h3:=A7 f.ent;have h4:=A7 f.fst;have h5:=A7 f.fin;have h6:=A7 f.at_;have h7:=A7 f.size;simp only[length_append,length_cons,length_nil];omega
def Gp {f:Ft} (hf:f.ok) (hr:AG f=true):(0≤f.bat∧f.bat≤16)∧(0≤f.ent∧f.ent≤256)∧(f.fst<18446744073709551616)∧(1≤f.at_∧f.at_≤1099511627775)∧(1≤f.size∧f.size≤2097152):=by
 have⟨a,b,c,d⟩:=Hy.1 hr;have:=hf.fst;omega
def mX {f:Ft} (hf:f.ok) (hr:AG f=true):AW (F5 f):=by
 have⟨a,b,c,d,e⟩:=Gp hf hr;have app:∀{x y:List Int},AW x->AW y->AW (x++y):=λhx hy z hz=>by rcases mem_append.1 hz with hz|hz;exact hx z hz;exact hy z hz
 unfold F5;refine app (app (app (app (app (app (app ?_ ?_) ?_) ?_) ?_) ?_) ?_) ?_
 ·intro y hy;simp at hy;omega
 ·exact B6 hf.ep.1 hf.ep.2
 ·exact B6 Om Om
 ·exact B6 Om Om
 ·exact B6 hf.fst.1 hf.fst.2
 ·exact B6 hf.fin.1 hf.fin.2
 ·exact B6 Om Om
 ·exact B6 Om Om
def Ip:List Int:=[76,79,72,84]
def EC (s:List Int):Int×(Int×Int):=
 if s.length<12 then(0,(1,s.length))else
 if¬(s.drop (s.length-12)).drop 8=Ip then(0,(14,(s.length:Int)-4))else
 if¬Bm (((s.drop (s.length-12)).drop 4).take 4)=Bb ((s.drop (s.length-12)).take 4)then(0,(6,(s.length:Int)-8))else
 if(s.length:Int)-12<Bm ((s.drop (s.length-12)).take 4)then(0,(3,(s.length:Int)-12))else(Bm ((s.drop (s.length-12)).take 4),(0,0))
def Tj (s:List Int) (a e:Nat):Ft×Int×(Int×Int):=
 if((RS.new ((s.take e).drop a)).frame 2097152).1.code=0 then
  (if((RS.new ((s.take e).drop a)).frame 2097152).1.at_<(e:Int)-a then(Kn,0,(9,(a:Int)+((RS.new ((s.take e).drop a)).frame 2097152).1.at_))
  else if(Bh ((RS.new ((s.take e).drop a)).frame 2097152).2).2.1=0 then((Bh ((RS.new ((s.take e).drop a)).frame 2097152).2).1,(a:Int),(0,0))
  else(Kn,0,((Bh ((RS.new ((s.take e).drop a)).frame 2097152).2).2.1,(Bh ((RS.new ((s.take e).drop a)).frame 2097152).2).2.2+(a+((RS.new ((s.take e).drop a)).frame 2097152).1.at_-4-((RS.new ((s.take e).drop a)).frame 2097152).2.length))))
 else(Kn,0,(((RS.new ((s.take e).drop a)).frame 2097152).1.code,((RS.new ((s.take e).drop a)).frame 2097152).1.fat+a))
def A_ (s:List Int):Ft×Int×(Int×Int):=
 if(EC s).2.1=0 then Tj s (s.length-12-(EC s).1.toNat) (s.length-12)else(Kn,0,(EC s).2)
def NU {s:List Int} (hs:AW s) (h:(EC s).2.1=0):12≤s.length∧(EC s).2=(0,0)∧0≤(EC s).1∧(EC s).1≤(s.length:Int)-12∧s.drop (s.length-12)=A4 (EC s).1:=by
 unfold EC at h ⊢;by_cases h1:s.length<12
 ·rw[if_pos h1]at h;exact absurd h Si
 ·rw[if_neg h1]at h ⊢;by_cases h2:¬(s.drop (s.length-12)).drop 8=Ip
  ·rw[if_pos h2]at h;exact absurd h Si
  ·rw[if_neg h2]at h ⊢;by_cases h3:¬Bm (((s.drop (s.length-12)).drop 4).take 4)=Bb ((s.drop (s.length-12)).take 4)
   ·rw[if_pos h3]at h;exact absurd h Si
   ·rw[if_neg h3]at h ⊢;by_cases h4:(s.length:Int)-12<Bm ((s.drop (s.length-12)).take 4)
    ·rw[if_pos h4]at h;exact absurd h Si
    ·rw[if_neg h4];have htl:(s.drop (s.length-12)).length=12:=by rw[length_drop];omega
     have htb:AW (s.drop (s.length-12)):=λx hx=>hs x (mem_of_mem_drop hx)
     generalize s.drop (s.length-12)=t at*;have b1:AW (t.take 4):=λx hx=>htb x (mem_of_mem_take hx)
     have b2:AW ((t.drop 4).take 4):=λx hx=>htb x (mem_of_mem_drop (mem_of_mem_take hx))
     have l1:=G9 b1;have l2:=G9 b2;rw[show(t.take 4).length=4 by rw[length_take];omega]at l1;rw[show((t.drop 4).take 4).length=4 by rw[length_take,length_drop];omega]at l2;have r1:=Fp b1;refine⟨Om,rfl,r1.1,by simp only;omega,?_⟩;simp only[Decidable.not_not]at h2 h3;unfold A4;simp only;rw[l1,←h3,l2];have e1:t=t.take 4++t.drop 4:=(take_append_drop 4 t).symm;have e2:t.drop 4=(t.drop 4).take 4++(t.drop 4).drop 4:=(take_append_drop 4 _).symm;have e3:(t.drop 4).drop 4=Ip:=by rw[drop_drop];exact h2
     conv=>lhs;rw[e1,e2,e3]
     rw[append_assoc];rfl
def FU (x:Int):(A4 x).length=12:=by
 unfold A4;simp only[length_append,BN,length_cons,length_nil]
def NJ (x:Int):AW (A4 x):=by
 intro y hy;unfold A4 at hy;rcases mem_append.1 hy with hy|hy
 ·rcases mem_append.1 hy with hy|hy
  ·exact EG 4 _ y hy
  ·exact EG 4 _ y hy
 ·simp at hy;omega
def Bi (p:List Int):(Ag p).length≤p.length+14∧p.length+5≤(Ag p).length:=by
 rw[EV];unfold CX;rw[length_append];have:=A7 (p.length:Int);omega
def aY {s:List Int} (hs:AW s) (hn:s.length≤140737488355328) (hc:(A_ s).2.2.1=0):(A_ s).2.2=(0,0)∧AG (A_ s).1=true∧(A_ s).1.ok∧0≤(A_ s).2.1∧(A_ s).2.1+12≤s.length∧s.drop (A_ s).2.1.toNat=IP (A_ s).1:=by
 unfold A_ at hc ⊢;by_cases h0:(EC s).2.1=0
 ·rw[if_pos h0]at hc ⊢;have⟨z1,z2,z3,z4,z5⟩:=NU hs h0;obtain⟨x,hx⟩:∃x:Nat,(EC s).1=(x:Int):=⟨(EC s).1.toNat,Om⟩;rw[hx]at hc z4 z5 ⊢;rw[Int.toNat_natCast]at hc ⊢;have⟨a,ha⟩:=Ex (s.length-12-x);rw[ha]at hc ⊢;have hb:AW ((s.take (s.length-12)).drop a):=λy hy=>hs y (mem_of_mem_take (mem_of_mem_drop hy))
  have hbl:((s.take (s.length-12)).drop a).length=x:=by rw[length_drop,length_take];omega
  have hok:Ak (RS.new ((s.take (s.length-12)).drop a)):=Ak.new hb Om;unfold Tj at hc ⊢;by_cases h1:((RS.new ((s.take (s.length-12)).drop a)).frame 2097152).1.code=0
  ·rw[if_pos h1]at hc ⊢;by_cases h2:((RS.new ((s.take (s.length-12)).drop a)).frame 2097152).1.at_<((s.length-12:Nat):Int)-a
   ·rw[if_pos h2]at hc;exact absurd hc Si
   ·rw[if_neg h2]at hc ⊢;have⟨i1,i2,i3,i4,i5⟩:=Fo hok h1;have⟨k1,k2⟩:=BA hok 2097152;have hle:=k1.at1;rw[k2]at hle;have e0:(RS.new ((s.take (s.length-12)).drop a)).l.take (RS.new ((s.take (s.length-12)).drop a)).at_.toNat=[]:=by simp[RS.new]
    rw[e0,nil_append]at i5;have e1:(RS.new ((s.take (s.length-12)).drop a)).l=(s.take (s.length-12)).drop a:=rfl;rw[e1]at i5 hle;generalize hF:(RS.new ((s.take (s.length-12)).drop a)).frame 2097152=F at*;have hfe:(s.take (s.length-12)).drop a=Ag F.2:=by
     have e2:=take_of_length_le (l:=(s.take (s.length-12)).drop a) (i:=F.1.at_.toNat) Om;rw[e2]at i5;exact i5
    have hfl:=congrArg List.length hfe;have hpl:=Bi F.2;by_cases h3:(Bh F.2).2.1=0
    ·rw[if_pos h3];simp only;have hc3:(RS.new F.2).foot.1.code=0:=by
      by_cases h:(RS.new F.2).foot.1.code=0
      ·exact h
      ·unfold Bh at h3;rw[if_neg h]at h3;exact absurd h3 h
     have⟨f1,f2,f3⟩:=xA i3 Om hc3;have hrf:Bh F.2=((RS.new F.2).foot.2,(0,0)):=by unfold Bh;rw[if_pos hc3]
     rw[hrf];refine⟨trivial,f1,f2,Om,Om,?_⟩;simp only[Int.toNat_natCast];have hsd:s.drop a=(s.take (s.length-12)).drop a++s.drop (s.length-12):=by
      conv=>lhs;rw[←take_append_drop (s.length-12) s]
      rw[drop_append_of_le_length (by rw[length_take];omega)]
     have hxl:(x:Int)=((Ag F.2).length:Int):=Om
     rw[hsd,hfe,z5,hxl];unfold IP;rw[←f3]
    ·rw[if_neg h3]at hc;exact absurd hc h3
  ·rw[if_neg h1]at hc;exact absurd hc h1
 ·rw[if_neg h0]at hc;exact absurd hc h0
def Fa (s:RS):Prop:=0≤s.fat∧s.fat≤s.l.length
def Fa.new (l:List Int):Fa (RS.new l):=⟨Int.le_refl _,by show(0:Int)≤_;omega⟩
def Fa.fail {s:RS} (h:Fa s) {c a:Int} (a0:0≤a) (a1:a≤s.l.length):Fa (s.fail c a):=by
 unfold RS.fail;split
 ·unfold BB;split
  ·exact⟨Int.le_refl _,by show(0:Int)≤_;omega⟩
  ·exact⟨a0,a1⟩
 ·exact h
def Fa.skip {s:RS} (h:Fa s) (hs:Ak s) (n:Int):Fa (s.skip n).1:=by
 have h0:=hs.at0;have h1:=hs.at1;unfold RS.skip
 repeat' split
 ·exact h.fail h0 h1
 ·exact h.fail Om Om
 ·exact h
 ·exact h
def Fa.take {s:RS} (h:Fa s) (hs:Ak s) (n:Int):Fa (s.take n).1:=by
 unfold RS.take;split<;>exact h.skip hs n
def Aaz:∀(l:List Int) (n:Int),n≤(BQ n l).2.1:=by
 intro l
 induction l with
 |nil=>intro n;unfold BQ;exact Int.le_refl _
 |cons c t ih=>
  intro n;unfold BQ
  repeat' split
  ·exact Int.le_refl _
  ·exact Int.le_refl _
  ·show n≤n+1;omega
  ·have:=ih (n+1);show n≤(BQ (n+1) t).2.1;omega
  ·have:=ih (n+1);show n≤(BQ (n+1) t).2.1;omega
def Fa.vint {s:RS} (h:Fa s) (hs:Ak s):Fa s.vint.1:=by
 have hk:=hs.vint.1;have h0:=hs.at0;have hg:=Aaz s.rest 0;unfold RS.vint at hk ⊢;by_cases hc:s.code=0
 ·rw[if_pos hc]at hk ⊢;by_cases hv:(BQ 0 s.rest).1=0
  ·rw[if_pos hv];exact h
  ·rw[if_neg hv]at hk ⊢;by_cases h1:(BQ 0 s.rest).1=1
   ·rw[if_pos h1];exact⟨by show(0:Int)≤(s.l.length:Int);omega,Int.le_refl _⟩
   ·rw[if_neg h1]at hk ⊢;have:=hk.at1;simp only at this;exact⟨by show 0≤s.at_+(BQ 0 s.rest).2.1;omega,by show s.at_+(BQ 0 s.rest).2.1≤(s.l.length:Int);omega⟩
 ·rw[if_neg hc];exact h
def Fa.int {s:RS} (h:Fa s) (hs:Ak s) (m:Int):Fa (s.int m).1:=by
 have hv:=h.vint hs;have hl:=hs.vint.2;have h0:=hs.at0;have h1:=hs.at1;have hf:Fa (s.vint.1.fail 2 s.at_):=hv.fail h0 (by rw[hl];exact h1);unfold RS.int RS.most
 repeat' split
 ·exact hf
 ·exact hv
 ·exact hf
def Fa.blob {s:RS} (h:Fa s) (hs:Ak s) (m:Int):Fa (s.blob m).1:=(h.int hs m).take (hs.int m).1 _
def Fa.frame {s:RS} (h:Fa s) (hs:Ak s) (m:Int):Fa (s.frame m).1:=by
 have hb:=h.blob hs (BK m);have⟨kb,lb⟩:=RS.ok.blob hs (BK m);have hf:Fa ((s.blob (BK m)).1.fixed 4).1:=hb.take kb 4;have⟨kf,lf⟩:=HS kb 4;unfold RS.frame
 repeat' split
 ·exact hf
 ·exact hf.fail kb.at0 (by rw[lf];exact kb.at1)
 ·exact hf
def Fa.epo {s:RS} (h:Fa s) (hs:Ak s) (ok:Int->Bool):Fa (s.epo ok).1:=by
 have hv:=h.vint hs;have hl:=hs.vint.2;unfold RS.epo
 repeat' split
 ·exact hv
 ·exact hv.fail hs.at0 (by rw[hl];exact hs.at1)
 ·exact hv
def Fa.foot {p:List Int} (hp:AW p) (hn:p.length≤140737488355328):Fa (RS.new p).foot.1∧(RS.new p).foot.1.l=p:=by
 have h0:Ak (RS.new p):=Ak.new hp hn;have f0:=Fa.new p;have⟨k1,l1⟩:=Kt h0;have f1:Fa (RS.new p).fkind:=by
  have ft:=f0.take h0 1;unfold RS.fkind;split
  ·exact ft.fail (Int.le_refl _) Om
  ·exact ft
 have⟨k2,l2⟩:=O4 k1;have f2:Fa (RS.new p).fkind.fnums.1:=by
  unfold RS.fnums;simp only;have⟨a,_⟩:=Bc k1 Ac;have fa:=f1.epo k1 Ac;have⟨b,_⟩:=a.int 65536;have fb:=fa.int a 65536;have⟨c,_⟩:=b.int 65536;have fc:=fb.int b 65536;have⟨d,_⟩:=c.vint;have fd:=fc.vint c;have⟨e,_⟩:=d.vint;have fe:=fd.vint d;have⟨g,_⟩:=e.int 1099511627776;have fg:=fe.int e 1099511627776;exact fg.int g 1099511627776
 have f3:Fa ((RS.new p).fkind.fnums.1.fcheck (RS.new p).fkind.fnums.2)∧((RS.new p).fkind.fnums.1.fcheck (RS.new p).fkind.fnums.2).l=p∧((RS.new p).fkind.fnums.1.fcheck (RS.new p).fkind.fnums.2).at_=(RS.new p).fkind.fnums.1.at_:=by
  unfold RS.fcheck;split
  ·exact⟨f2,l2.trans l1,rfl⟩
  ·exact⟨f2.fail (Int.le_refl _) Om,by rw[AY];exact l2.trans l1,Gv _ _ _⟩
 have hat0:=k2.at0;have hat1:=k2.at1;rw[l2,l1]at hat1;have e1:(RS.new p).l=p:=rfl;rw[e1]at hat1;unfold RS.foot RS.rest9;simp only;split
 ·exact⟨f3.1.fail (by rw[f3.2.2];exact hat0) (by rw[f3.2.2,f3.2.1];exact hat1),by rw[AY];exact f3.2.1⟩
 ·exact⟨f3.1,f3.2.1⟩
def HD {p:List Int} (hp:AW p) (hn:p.length≤140737488355328):0≤(Bh p).2.2∧(Bh p).2.2≤p.length:=by
 have⟨f,l⟩:=Fa.foot hp hn;unfold Bh;split
 ·exact⟨Int.le_refl _,by show(0:Int)≤_;omega⟩
 ·have:=f.2;rw[l]at this;exact⟨f.1,this⟩
def pU {bound:Int}:∀(n:Nat) (s:RS) (out:List Int),Ak s->s.left≤n->AW out->AW (EX bound s out).1:=by
 have nil:AW []:=λx hx=>by simp at hx
 intro n
 induction n with
 |zero=>intro s out _ hl ho;rw[Hk Om];exact ho
 |succ n ih=>
  intro s out h hl ho;by_cases hp:0<s.left
  ·by_cases hh:s.thead.1.code=0
   ·by_cases hb:bound<out.length+s.thead.2.2
    ·rw[Jr hp hh hb];exact nil
    ·by_cases ht:s.token.1.code=0
     ·by_cases hf:(out.length:Int)<s.token.2.off
      ·rw[Li hp hh hb ht hf];exact nil
      ·rw[Hi h hp hh hb ht hf];have⟨t1,t2,t3⟩:=D9 h ht;have⟨i1,i2,i3,i4,i5⟩:=Iv h ht;refine ih _ _ t2 Om (jX _ _ _ λy hy=>?_);rcases mem_append.1 hy with hy|hy
       ·exact ho y hy
       ·exact i3 y hy
     ·rw[Gb hp hh hb ht];exact nil
   ·rw[Hj hp hh];exact nil
  ·rw[Hk hp];exact ho
section
variable {α:Type} {d:α} {cp:α->α}
end
def Fa.thead {s:RS} (h:Fa s) (hs:Ak s):Fa s.thead.1:=by
 have h1:=h.vint hs;have h2:=(hs.vint).2;have f1:∀c,Fa (s.vint.1.fail c s.at_):=λc=>h1.fail hs.at0 (by rw[h2];exact hs.at1)
 unfold RS.thead
 repeat' split
 all_goals first|exact h1|exact f1 _
def Fa.toff {s:RS} (h:Fa s) (hs:Ak s):Fa s.toff.1:=by
 have h1:=h.vint hs;have h2:=(hs.vint).2;have f1:∀c,Fa (s.vint.1.fail c s.at_):=λc=>h1.fail hs.at0 (by rw[h2];exact hs.at1)
 unfold RS.toff
 repeat' split
 all_goals first|exact h1|exact f1 _
def Fa.token {s:RS} (h:Fa s) (hs:Ak s):Fa s.token.1:=by
 have h1:=h.thead hs;have hk:=(EO hs).1;have h2:=h1.toff hk;have h3:=h1.take hk s.thead.2.2;unfold RS.token
 repeat' split
 all_goals first|exact h1|exact h2|exact h3
def Wq {bound:Int}:∀(n:Nat) (s:RS) (out:List Int),Ak s->Fa s->s.left≤n->0≤(EX bound s out).2.2∧(EX bound s out).2.2≤s.l.length:=by
 intro n
 induction n with
 |zero=>intro s out h hf hl;rw[Hk Om];exact⟨Int.le_refl _,by show(0:Int)≤_;omega⟩
 |succ n ih=>
  intro s out h hf hl;by_cases hp:0<s.left
  ·have k1:=EO h;have k2:=NL h;by_cases hh:s.thead.1.code=0
   ·by_cases hb:bound<out.length+s.thead.2.2
    ·rw[Jr hp hh hb];exact⟨h.at0,h.at1⟩
    ·by_cases ht:s.token.1.code=0
     ·by_cases ho:(out.length:Int)<s.token.2.off
      ·rw[Li hp hh hb ht ho];have a0:=k1.1.at0;have a1:=k1.1.at1;rw[k1.2]at a1;exact⟨a0,a1⟩
      ·rw[Hi h hp hh hb ht ho];have⟨t1,t2,t3⟩:=D9 h ht;have:=ih s.token.1 (Zh out s.token.2) t2 (hf.token h) Om;rw[k2.2]at this;exact this
     ·rw[Gb hp hh hb ht];have:=hf.token h;unfold Fa at this;rw[k2.2]at this;exact this
   ·rw[Hj hp hh];have:=hf.thead h;unfold Fa at this;rw[k1.2]at this;exact this
  ·rw[Hk hp];exact⟨Int.le_refl _,by show(0:Int)≤_;omega⟩
def Kz {s:RS} (hs:Ak s) (m:Int) (hc:(s.blob m).1.code=0):0≤(s.blob m).1.at_-(s.blob m).2.length∧(s.blob m).1.at_≤s.l.length:=by
 have⟨h1,h2⟩:=hs.int m;have⟨k1,k2,k3,k4⟩:=E2 hs m;have:=Be h1 (n:=(s.int m).2) hc;have⟨_,_,e1,e2,_⟩:=this;have h3:=h1.at0;have h4:=k1.at1;rw[k2]at h4;refine⟨?_,h4⟩;show 0≤((s.int m).1.take (s.int m).2).1.at_-(((s.int m).1.take (s.int m).2).2.length:Int);rw[e2,e1];omega
def Fa.unpk {s:RS} (h:Fa s) (hs:Ak s) (n:Int):Fa (s.unpk n).1:=by
 have h1:=h.blob hs 1048576;have⟨k1,k2,k3,k4⟩:=E2 hs 1048576;unfold RS.unpk;split
 ·rename_i hc;have hp:=Kz hs 1048576 hc;have ha:=k1.at0;have hf:=Wq (bound:=n) _ (RS.new (s.blob 1048576).2) [] (Ak.new k3 (by have:=hs.len;omega)) (Fa.new _) (Int.self_le_toNat _);have hl:(RS.new (s.blob 1048576).2).l.length=(s.blob 1048576).2.length:=rfl;split
  ·split
   ·exact h1.fail ha (by rw[k2];exact hp.2)
   ·exact h1
  ·exact h1.fail Om (by rw[k2];omega)
 ·exact h1
def bE {s:RS} (hs:Ak s) (hc:s.byte.1.code=0):s.code=0∧1≤s.byte.1.at_∧s.byte.1.at_=s.at_+1:=by
 have e:s.byte.1=(s.take 1).1:=by unfold RS.byte RS.take;split<;>rfl
 rw[e]at hc ⊢;have⟨h1,_,_,h2,_⟩:=Be hs (n:=1) hc;have:=hs.at0;exact⟨h1,Om,h2⟩
def Fa.byte {s:RS} (h:Fa s) (hs:Ak s):Fa s.byte.1:=by
 have:=h.skip hs 1;unfold RS.byte;split<;>exact this
def Fa.bway {s:RS} (h:Fa s) (hs:Ak s):Fa s.bway.1:=(h.int hs 1048576).byte (hs.int 1048576).1
def Fa.bdat {s:RS} (h:Fa s) (hs:Ak s):Fa s.bdat.1:=by
 have h1:=h.bway hs;have⟨k1,k2⟩:=Jz hs;unfold RS.bdat;split
 ·rename_i hc;have hb:=bE (hs.int 1048576).1 hc;have hb1:1≤s.bway.1.at_:=hb.2.1;have hb2:=k1.at1
  repeat' split
  ·exact h1.take k1 _
  ·exact h1.unpk k1 _
  ·exact h1.fail Om Om
 ·exact h1
def Fa.blkL {s:RS} (h:Fa s) (hs:Ak s):Fa s.blkL.1:=by
 have:=h.bdat hs;unfold RS.blkL;split<;>exact this
def Fa.blk {s:RS} (h:Fa s) (hs:Ak s):Fa s.blk.1:=by
 have h1:=h.blkL hs;have⟨k1,k2⟩:=Es hs;unfold RS.blk;split
 ·exact h1
 ·exact h1.fail k1.at0 k1.at1
def tG {s:RS} (hs:Ak s) {n:Int} (hn:n≤1048576) (hc:(s.unpk n).1.code=0):s.code=0∧s.at_≤(s.unpk n).1.at_∧AW (s.unpk n).2∧(s.unpk n).2.length≤1048576:=by
 have⟨k1,k2,k3,k4⟩:=E2 hs 1048576;have hok:Ak (RS.new (s.blob 1048576).2):=Ak.new k3 (by have:=hs.len;omega);have hle:=xH (bound:=n) _ (RS.new (s.blob 1048576).2) [] hok (Int.self_le_toNat _) (by simp;omega);have hby:=pU (bound:=n) _ (RS.new (s.blob 1048576).2) [] hok (Int.self_le_toNat _) (λx hx=>by simp at hx);unfold RS.unpk at hc ⊢;split at hc
 ·rename_i h0;have hb:=Be (hs.int 1048576).1 (n:=(s.int 1048576).2) h0;have hi:=S5 hs hb.1;have hh:s.code=0:=(Ki hs hb.1).1;have ha:s.at_≤(s.blob 1048576).1.at_:=by
   show s.at_≤((s.int 1048576).1.take (s.int 1048576).2).1.at_;rw[hb.2.2.2.1];have:=hb.2.1;omega
  rw[if_pos h0];split at hc
  ·rename_i h1;rw[if_pos h1];split at hc
   ·exact absurd hc (by unfold RS.fail;rw[if_pos h0];simp[BB])
   ·rename_i h2;rw[if_neg h2];exact⟨hh,ha,hby,by simp only[];omega⟩
  ·rename_i h1;exact absurd hc (by unfold RS.fail;rw[if_pos h0];simp only[BB];rw[if_neg h1];exact h1)
 ·rename_i h0;exact absurd hc h0
def bK {s:RS} (hs:Ak s) (hc:s.bdat.1.code=0):s.code=0∧s.at_≤s.bdat.1.at_∧AW s.bdat.2∧s.bdat.2.length≤1048576:=by
 have⟨k1,k2⟩:=Jz hs;have key:s.bway.1.code=0->s.code=0∧s.at_≤s.bway.1.at_∧s.bway.2.1≤1048576:=λh0=>by
  have⟨b1,b2,b3⟩:=bE (hs.int 1048576).1 (show(s.int 1048576).1.byte.1.code=0 from h0);have hi:=S5 hs b1;have hj:=Ki hs b1;refine⟨hj.1,?_,hj.2.2.1⟩;show s.at_≤(s.int 1048576).1.byte.1.at_;omega
 unfold RS.bdat at hc ⊢;split at hc
 ·rename_i h0;have⟨c1,c2,c3⟩:=key h0;rw[if_pos h0];split at hc
  ·rename_i h1;rw[if_pos h1];have hb:=Be k1 hc;exact⟨c1,by rw[hb.2.2.2.1];have:=hb.2.1;omega,Dw k1.bys _,by have:=hb.2.2.1;omega⟩
  ·rename_i h1;rw[if_neg h1];split at hc
   ·rename_i h2;rw[if_pos h2];have:=tG k1 c3 hc;exact⟨c1,Om,this.2.2⟩
   ·exact absurd hc (by unfold RS.fail;rw[if_pos h0];simp[BB])
 ·rename_i h0;exact absurd hc h0
def TI {s:RS} (hs:Ak s) (hc:s.blkL.1.code=0):s.code=0∧s.at_≤s.blkL.1.at_∧AW s.blkL.2.1∧s.blkL.2.1.length≤1048576:=by
 unfold RS.blkL at hc ⊢;split at hc
 ·rename_i h;rw[if_pos h];exact bK hs h
 ·rename_i h;exact absurd hc h
structure O1 where
 st:Int
 bk:Int
 hb:Bool
 data:List Int
 deriving DecidableEq
def KI:O1:=⟨0,0,false,[]⟩
structure O1.ok (x:O1):Prop where
 s0:0≤x.st
 s1:x.st<18446744073709551616
 b0:0≤x.bk
 b1:x.bk<18446744073709551616
 data:AW x.data
def O1s (l:List O1):Prop:=∀x∈l,x.ok
structure JU where
 ep:Int
 base:Int
 en:List O1
 deriving DecidableEq
def lS:JU:=⟨0,0,[]⟩
def B5 (l:List O1):Int:=((l.flatMap (·.data)).length:Int)
def lB:B5 []=0:=rfl
def KP (l:List O1):0≤B5 l:=by unfold B5;omega
def LE (l:List O1) (x:O1):B5 (l++[x])=B5 l+x.data.length:=by simp[B5]
def vR (l:List O1) (k:Nat) (h:k<l.length):l.take (k+1)=l.take k++[l.getD k KI]:=by
 rw[take_succ_eq_append_getElem h];simp[h]
def Abq (l:List O1) (k:Nat) (h:k<l.length):l.getD k KI∈l:=by simp[h]
def LD (l:List O1) (k:Nat) (h:k<l.length):B5 (l.take (k+1))=B5 (l.take k)+(l.getD k KI).data.length:=by rw[vR l k h,LE]
def Sd (l:List O1) (k:Nat):B5 (l.take k)≤B5 l:=by
 have e:l.flatMap (·.data)=(l.take k).flatMap (·.data)++(l.drop k).flatMap (·.data):=by rw[←flatMap_append,take_append_drop]
 unfold B5;rw[e,length_append];omega
def CV (base n:Int):Bool:=decide (base<4611686018427387904)&&decide (base+n≤4611686018427387904)
def He {base n:Int}:CV base n=true↔base<4611686018427387904∧base+n≤4611686018427387904:=by simp[CV]
def IL (pos:Int) (x:O1):Bool:=if x.hb=true then decide (x.bk<pos)else decide (x.bk=0)
def Ea (u:JU):Bool:=Ac u.ep&&decide (u.en.length≤400)&&CV u.base u.en.length&&decide (B5 u.en≤1048576)&&(List.range u.en.length).all λi=>IL (u.base+i) (u.en.getD i KI)
def Hz {u:JU}:Ea u=true↔(1≤u.ep∧u.ep<4611686018427387904)∧u.en.length≤400∧(u.base<4611686018427387904∧u.base+u.en.length≤4611686018427387904)∧B5 u.en≤1048576∧∀i,i<u.en.length->IL (u.base+i) (u.en.getD i KI)=true:=by
 unfold Ea;simp only[Bool.and_eq_true,decide_eq_true_eq,Bq,He,all_eq_true,mem_range,and_assoc]
def Gd (pos:Int) (x:O1):Int:=if x.hb=true then pos-x.bk else 0
def Dk {s:RS} {c:Int} (a:Int) (h:¬c=0):¬(s.fail c a).code=0:=by
 unfold RS.fail;by_cases hc:s.code=0
 ·rw[if_pos hc];simp only[BB,if_neg h];exact h
 ·rw[if_neg hc];exact hc
def Ef {s:RS} {c a:Int} (h:¬s.code=0):s.fail c a=s:=by unfold RS.fail;rw[if_neg h]
def RS.oback (s:RS) (pos:Int):RS:=if s.vint.1.vint.1.code=0∧pos<s.vint.1.vint.2 then s.vint.1.vint.1.fail 3 s.vint.1.at_ else s.vint.1.vint.1
def Im (s:RS) (pos:Int) (d:List Int):O1:=if 0<s.vint.1.vint.2∧(s.oback pos).code=0 then⟨s.vint.2,pos-s.vint.1.vint.2,true,d⟩else⟨s.vint.2,0,false,d⟩
structure Aez (base:Int) (acc:List O1) (x:O1):Prop where
 s0:0≤x.st
 s1:x.st<18446744073709551616
 b0:0≤x.bk
 good:IL (base+acc.length) x=true
 data:AW x.data
 sum:B5 acc+x.data.length≤1048576
 pos:base+acc.length<4611686018427387904
def Eb (base:Int):DH O1:=⟨λs acc=>if base+acc.length<4611686018427387904 then(((s.oback (base+acc.length)).blob (1048576-B5 acc)).1,Im s (base+acc.length) ((s.oback (base+acc.length)).blob (1048576-B5 acc)).2)else(s.fail 3 0,KI),
 λacc x=>vb x.st++(vb (Gd (base+acc.length) x)++CX x.data),λacc x=>Aez base acc x⟩
def SH {base:Int} {s:RS} {acc:List O1} (h:base+acc.length<4611686018427387904):(Eb base).f s acc=(((s.oback (base+acc.length)).blob (1048576-B5 acc)).1,Im s (base+acc.length) ((s.oback (base+acc.length)).blob (1048576-B5 acc)).2):=by
 simp only[Eb];rw[if_pos h]
def F6 {s:RS} (h:Ak s) (pos:Int):Ak (s.oback pos)∧(s.oback pos).l=s.l:=by
 have⟨a,b⟩:=h.vint;have⟨c,d⟩:=a.vint;unfold RS.oback;split
 ·exact⟨c.fail _ _,by rw[AY];exact d.trans b⟩
 ·exact⟨c,d.trans b⟩
def Vl {s:RS} {pos:Int} (hc:(s.oback pos).code=0):s.vint.1.vint.1.code=0∧s.vint.1.vint.2≤pos∧s.oback pos=s.vint.1.vint.1:=by
 unfold RS.oback at hc ⊢;by_cases h:s.vint.1.vint.1.code=0∧pos<s.vint.1.vint.2
 ·rw[if_pos h]at hc;exact absurd hc (Dk _ De)
 ·rw[if_neg h]at hc ⊢;exact⟨hc,Om,rfl⟩
def RY {b:List Int} (h:AW b) (hn:b.length<18446744073709551616):AW (CX b):=by
 intro y hy;rcases mem_append.1 hy with hy|hy
 ·exact B6 Om Om y hy
 ·exact h y hy
def MQ {pos:Int} {x:O1} (h:IL pos x=true) (b0:0≤x.bk):0≤Gd pos x∧(0≤pos->Gd pos x≤pos)∧(0<Gd pos x↔x.hb=true)∧(x.hb=false->x.bk=0):=by
 unfold IL at h;unfold Gd;cases hb:x.hb with
 |true=>rw[hb]at h;simp at h ⊢;omega
 |false=>rw[hb]at h;simp at h ⊢;exact h
def SG {base:Int} (b0:0≤base):(Eb base).Ok:=by
 refine⟨λs acc h _=>?_,λs acc h hw hc=>?_,λs acc x r h hc hw hx hr=>?_,λacc x hw hx=>?_⟩
 ·by_cases hp:base+acc.length<4611686018427387904
  ·rw[SH hp];have⟨a,b⟩:=F6 h (base+acc.length);have⟨c,d⟩:=RS.ok.blob a (1048576-B5 acc);exact⟨c,d.trans b⟩
  ·simp only[Eb];rw[if_neg hp];exact⟨h.fail _ _,AY _ _ _⟩
 ·by_cases hp:base+acc.length<4611686018427387904
  ·rw[SH hp]at hc ⊢;simp only at hc ⊢;have⟨a,b⟩:=F6 h (base+acc.length);have⟨d1,d2,d3,d4⟩:=ND a hc;have⟨o1,o2,o3⟩:=Vl d1;have⟨v1,v2⟩:=h.vint;have c1:=bV o1;have r1:=A8 (s:=s) h.bys;have r2:=A8 (s:=s.vint.1) v1.bys;have⟨x1,x2,x3⟩:=B8 h c1;have⟨y1,y2,y3⟩:=B8 v1 o1;have xa:=DT h c1;have ya:=DT v1 o1;have hsh:=Gc a (1048576-B5 acc);have hV:Im s (base+acc.length) ((s.oback (base+acc.length)).blob (1048576-B5 acc)).2=if 0<s.vint.1.vint.2 then⟨s.vint.2,base+acc.length-s.vint.1.vint.2,true,((s.oback (base+acc.length)).blob (1048576-B5 acc)).2⟩else⟨s.vint.2,0,false,((s.oback (base+acc.length)).blob (1048576-B5 acc)).2⟩:=by
    unfold Im;rw[d1];simp
   have hbk:Gd (base+acc.length) (Im s (base+acc.length) ((s.oback (base+acc.length)).blob (1048576-B5 acc)).2)=s.vint.1.vint.2:=by
    rw[hV];unfold Gd;split
    ·simp;omega
    ·simp;omega
   have hst:(Im s (base+acc.length) ((s.oback (base+acc.length)).blob (1048576-B5 acc)).2).st=s.vint.2:=by rw[hV];split<;>rfl
   have hda:(Im s (base+acc.length) ((s.oback (base+acc.length)).blob (1048576-B5 acc)).2).data=((s.oback (base+acc.length)).blob (1048576-B5 acc)).2:=by rw[hV];split<;>rfl
   rw[o3]at d3;refine⟨x3,⟨by rw[hst];omega,by rw[hst];omega,?_,?_,by rw[hda];exact hsh.2,by rw[hda];omega,hp⟩,by rw[o3];omega,?_⟩
   ·rw[hV];split<;>simp;omega
   ·rw[hV];unfold IL;split<;>simp;omega
   ·simp only[Eb];rw[hbk,hst,hda];rw[b,o3]at d4;rw[o3,d4];rw[x2]at y1;rw[y1,x1];simp only[append_assoc]
  ·simp only[Eb]at hc;rw[if_neg hp]at hc;exact absurd hc (Dk _ De)
 ·have⟨x1,x2,x3,x4,x5,x6,x7⟩:=hx;have hbr:=MQ x4 x3;rw[SH x7];simp only[Eb]at hr ⊢;rw[append_assoc,append_assoc]at hr;have hs0:=KP acc;have h1:=Fc hc x1 x2 hr;have k1:=Cf h hr;have e2:(s.adv ((vb x.st).length:Int)).rest=vb (Gd (base+acc.length) x)++(CX x.data++r):=by rw[BC h.at0,hr,drop_left]
  have h2:=Fc (show(s.adv ((vb x.st).length:Int)).code=0 from hc) hbr.1 (by have:=hbr.2.1 Om;omega) e2;have k2:=Cf k1 e2;have e3:((s.adv ((vb x.st).length:Int)).adv ((vb (Gd (base+acc.length) x)).length:Int)).rest=CX x.data++r:=by rw[BC k1.at0,e2,drop_left]
  have ho:s.oback (base+acc.length)=(s.adv ((vb x.st).length:Int)).adv ((vb (Gd (base+acc.length) x)).length:Int):=by
   unfold RS.oback;rw[h1];simp only;rw[h2];simp only;rw[if_neg (by have:=hbr.2.1 Om;omega)]
  have h3:=Pw (m:=1048576-B5 acc) k2 (show((s.adv ((vb x.st).length:Int)).adv ((vb (Gd (base+acc.length) x)).length:Int)).code=0 from hc) Om Om e3;rw[ho,h3];simp only[Prod.mk.injEq];refine⟨by rw[BU,BU,length_append,length_append];congr 1,?_⟩;unfold Im;rw[ho,h1];simp only;rw[h2];simp only;have hcc:((s.adv ((vb x.st).length:Int)).adv ((vb (Gd (base+acc.length) x)).length:Int)).code=0:=hc;cases hb:x.hb with
  |true=>
   rw[if_pos ⟨hbr.2.2.1.2 hb,hcc⟩];have e:base+ ↑acc.length-Gd (base+ ↑acc.length) x=x.bk:=by unfold Gd;rw[if_pos hb];omega
   rw[e];cases x;simp only at hb;subst hb;rfl
  |false=>
   have hno:¬0<Gd (base+acc.length) x:=λhh=>by have:=hbr.2.2.1.1 hh;rw[hb]at this;cases this
   rw[if_neg (by intro hh;exact hno hh.1)];have h0:=hbr.2.2.2 hb;cases x;simp only at hb h0;subst hb h0;rfl
 ·have⟨x1,x2,x3,x4,x5,x6,x7⟩:=hx;have hbr:=MQ x4 x3;have hs0:=KP acc;intro y hy;simp only[Eb]at hy;rcases mem_append.1 hy with hy|hy
  ·exact B6 x1 x2 y hy
  ·rcases mem_append.1 hy with hy|hy
   ·exact B6 hbr.1 (by have:=hbr.2.1 Om;omega) y hy
   ·exact RY x5 Om y hy
def aH {base:Int}:∀{l:List O1},Wf (Eb base).nx [] l->B5 l≤1048576:=by
 intro l h;rcases eq_nil_or_concat l with rfl|⟨l,x,rfl⟩
 ·rw[lB];decide
 ·rw[concat_eq_append]at h ⊢;have:=(CO.1 h).2;rw[LE];exact this.sum
def dX {u:JU} (hl:O1s u.en):Ea u=true↔(1≤u.ep∧u.ep<4611686018427387904)∧u.en.length≤400∧(u.base<4611686018427387904∧u.base+u.en.length≤4611686018427387904)∧Wf (Eb u.base).nx [] u.en:=by
 rw[Hz];constructor
 ·rintro⟨h1,h2,h3,h4,h5⟩;refine⟨h1,h2,h3,Uc λk hk=>?_⟩;have e:u.en[k]=u.en.getD k KI:=by simp[hk]
  rw[e,nil_append];have ho:=hl _ (Abq u.en k hk);have el:(u.en.take k).length=k:=by simp;omega
  refine⟨ho.s0,ho.s1,ho.b0,by rw[el];exact h5 k hk,ho.data,?_,by rw[el];omega⟩;have:=Sd u.en (k+1);rw[LD u.en k hk]at this;omega
 ·rintro⟨h1,h2,h3,h4⟩;refine⟨h1,h2,h3,aH h4,λi hi=>?_⟩;have:=C5 i hi h4;have e:u.en[i]=u.en.getD i KI:=by simp[hi]
  have el:(u.en.take i).length=i:=by simp;omega
  rw[e,nil_append]at this;have hg:=this.good;rw[el]at hg;exact hg
def bH (u:JU):List Int:=vb u.en.length++Bo (Eb u.base).enc [] u.en
def Z6 (u:JU):List Int:=Am ⟨1,u.ep,u.base⟩++(bH u++Ap 4 (Bb (bH u)))
def RS.begin (s:RS) (v:Int):RS:=if s.header.1.code=0∧¬s.header.2.ver=v then s.header.1.fail 8 4 else s.header.1
def RS.cnt (s:RS) (base least most:Int):RS×Int:=if(s.int most).1.code=0∧((s.int most).2<least∨CV base (s.int most).2=false)then((s.int most).1.fail 3 s.at_,(s.int most).2)else s.int most
def RS.olds (s:RS) (base:Int):RS×List O1:=(Eb base).many (s.cnt base 0 400).2.toNat (s.cnt base 0 400).1 []
def RS.sum4 (s t:RS):RS:=if(t.fixed 4).1.code=0∧¬(t.fixed 4).2=Bb (s.from t)then(t.fixed 4).1.fail 6 t.at_ else(t.fixed 4).1
def RS.dec1 (s:RS):RS×JU:=(((s.begin 1).sum4 ((s.begin 1).olds s.header.2.base).1).rest9,⟨s.header.2.ep,s.header.2.base,((s.begin 1).olds s.header.2.base).2⟩)
def dec1 (b:List Int):JU×(Int×Int):=if(RS.new b).dec1.1.code=0 then((RS.new b).dec1.2,(0,0))else(lS,((RS.new b).dec1.1.code,(RS.new b).dec1.1.fat))
def H0 {s:RS} (h:Ak s) (v:Int):Ak (s.begin v)∧(s.begin v).l=s.l:=by
 have⟨a,b⟩:=Fl h;unfold RS.begin;split
 ·exact⟨a.fail _ _,by rw[AY];exact b⟩
 ·exact⟨a,b⟩
def Fq {s:RS} (h:Ak s) (base least most:Int):Ak (s.cnt base least most).1∧(s.cnt base least most).1.l=s.l:=by
 have⟨a,b⟩:=h.int most;unfold RS.cnt;split
 ·exact⟨a.fail _ _,by simp only;rw[AY];exact b⟩
 ·exact⟨a,b⟩
def TC (s:RS) (base least most:Int):(s.cnt base least most).2=(s.int most).2:=by unfold RS.cnt;split<;>rfl
def TD {s:RS} (h:Ak s) {base least most:Int} (hc:(s.cnt base least most).1.code=0):s.code=0∧least≤(s.cnt base least most).2∧0≤(s.cnt base least most).2∧(s.cnt base least most).2≤most∧base<4611686018427387904∧base+(s.cnt base least most).2≤4611686018427387904∧s.at_<(s.cnt base least most).1.at_∧s.l.take (s.cnt base least most).1.at_.toNat=s.l.take s.at_.toNat++vb (s.cnt base least most).2:=by
 unfold RS.cnt at hc ⊢;by_cases hh:(s.int most).1.code=0∧((s.int most).2<least∨CV base (s.int most).2=false)
 ·rw[if_pos hh]at hc;exact absurd hc (Dk _ De)
 ·rw[if_neg hh]at hc ⊢;have⟨i1,i2,i3,i4,i5⟩:=Di h hc;have hf:CV base (s.int most).2=true:=by
   cases hf:CV base (s.int most).2 with
   |true=>rfl
   |false=>exact absurd ⟨hc,.inr hf⟩ hh
  have hl:¬(s.int most).2<least:=λhx=>hh ⟨hc,.inl hx⟩
  have⟨f1,f2⟩:=He.1 hf;exact⟨i1,Om,i2,i3,f1,f2,i4,i5⟩
def yF {s:RS} {base least most x:Int} {r:List Int} (hc:s.code=0) (h0:0≤x) (hl:least≤x) (h1:x≤most) (h2:x<18446744073709551616) (hf:CV base x=true) (hr:s.rest=vb x++r):s.cnt base least most=(s.adv ((vb x).length:Int),x):=by
 have hi:=Jl hc h0 h1 h2 hr;unfold RS.cnt;rw[hi];simp only;rw[if_neg];rw[hf];rintro⟨_,hh|hh⟩
 ·omega
 ·cases hh
def Jk {s:RS} {m:Int} (hc:¬s.code=0):(s.int m).1=s:=by
 unfold RS.int RS.most;rw[B1 hc];simp only
 repeat' split
 all_goals first|rfl|exact Ef hc
def qH {s:RS} {base least most:Int} (hc:¬s.code=0):(s.cnt base least most).1=s:=by
 have hi:=Jk (m:=most) hc;unfold RS.cnt;rw[hi,if_neg (λhh=>hc hh.1)];exact hi
def Re {s:RS} (h:Ak s) {base:Int} (b0:0≤base):Ak (s.olds base).1∧(s.olds base).1.l=s.l:=by
 have⟨a,b⟩:=Fq h base 0 400;have⟨c,d⟩:=Jh (SG b0) (s.cnt base 0 400).2.toNat (s.cnt base 0 400).1 [] a trivial;exact⟨c,d.trans b⟩
def vK {s:RS} (h:Ak s) {base:Int} (b0:0≤base) (hc:(s.olds base).1.code=0):s.code=0∧Wf (Eb base).nx [] (s.olds base).2∧(s.olds base).2.length≤400∧base<4611686018427387904∧base+(s.olds base).2.length≤4611686018427387904∧s.at_<(s.olds base).1.at_∧
 s.l.take (s.olds base).1.at_.toNat=s.l.take s.at_.toNat++(vb (s.olds base).2.length++Bo (Eb base).enc [] (s.olds base).2):=by
 have⟨a,b⟩:=Fq h base 0 400;have⟨r,q1,q2,q3,q4,q5,q6⟩:=Ns (SG b0) (s.cnt base 0 400).2.toNat (s.cnt base 0 400).1 [] a trivial hc;have⟨c1,c2,c3,c4,c5,c6,c7,c8⟩:=TD h q5;have hr:(s.olds base).2=r:=q1;have hn:(s.cnt base 0 400).2=(r.length:Int):=Om
 rw[hr];rw[b]at q4;have hq6:(s.cnt base 0 400).1.at_≤(s.olds base).1.at_:=q6;have hq4:s.l.take (s.olds base).1.at_.toNat=s.l.take (s.cnt base 0 400).1.at_.toNat++Bo (Eb base).enc [] r:=q4;refine⟨c1,q3,Om,c5,Om,Om,?_⟩;rw[hq4,c8,append_assoc,hn]
def PA {s:RS} {v:Int} (hc:(s.begin v).code=0):s.header.1.code=0∧s.header.2.ver=v∧s.begin v=s.header.1:=by
 unfold RS.begin at hc ⊢;by_cases h:s.header.1.code=0∧¬s.header.2.ver=v
 ·rw[if_pos h]at hc;exact absurd hc (Dk _ De)
 ·rw[if_neg h]at hc ⊢;refine⟨hc,?_,rfl⟩;rcases Classical.em (s.header.2.ver=v)with hv|hv
  ·exact hv
  ·exact absurd ⟨hc,hv⟩ h
def QX {s t:RS} (ht:Ak t):Ak (s.sum4 t)∧(s.sum4 t).l=t.l:=by
 have a:=ht.take 4;have b:=(ht.ok.take 4).2;unfold RS.sum4;split
 ·exact⟨a.fail _ _,by rw[AY];exact b⟩
 ·exact⟨a,b⟩
def tO {s t:RS} (ht:Ak t) (hc:(s.sum4 t).code=0):t.code=0∧(s.sum4 t).at_=t.at_+4∧t.l.take (s.sum4 t).at_.toNat=t.l.take t.at_.toNat++Ap 4 (Bb (s.from t)):=by
 unfold RS.sum4 at hc ⊢;by_cases h:(t.fixed 4).1.code=0∧¬(t.fixed 4).2=Bb (s.from t)
 ·rw[if_pos h]at hc;exact absurd hc (Dk _ De)
 ·rw[if_neg h]at hc ⊢;have⟨t1,t2,t3,t4,t5⟩:=Be ht (n:=4) hc;have he:(t.fixed 4).2=Bb (s.from t):=by
   rcases Classical.em ((t.fixed 4).2=Bb (s.from t))with hv|hv
   ·exact hv
   ·exact absurd ⟨hc,hv⟩ h
  refine⟨t1,t4,?_⟩;show t.l.take (t.take 4).1.at_.toNat=_;rw[t5];congr 1;have hb:AW (t.take 4).2:=Dw ht.bys 4;have hl:=G9 hb;have hlen:(t.take 4).2.length=4:=Om
  rw[hlen]at hl;rw[←he];exact hl.symm
def Ji {β:Type} {F:DH β} (hF:∀s acc,¬s.code=0->(F.f s acc).1=s) {N:Nat} {s:RS} (hc:¬s.code=0):F.many N s []=(s,[]):=by
 cases N with
 |zero=>rfl
 |succ N=>
  have h:=hF s [] hc;simp only[DH.many];rw[h,if_neg hc]
def JB {s:RS} {m:Int} (hc:¬s.code=0):(s.blob m).1=s:=by
 have hi:=Jk (m:=m) hc;unfold RS.blob;rw[hi,GQ hc]
def LL (base:Int):∀s acc,¬s.code=0->((Eb base).f s acc).1=s:=by
 intro s acc hc;have ho:∀pos,s.oback pos=s:=λpos=>by
  unfold RS.oback;rw[B1 hc];simp only;rw[B1 hc];simp only;rw[if_neg (λh=>hc h.1)]
 simp only[Eb];split
 ·simp only;rw[ho,JB hc]
 ·exact Ef hc
def fI {s:RS} {base:Int} (hc:¬s.code=0):s.olds base=(s,[]):=by
 have h:(s.cnt base 0 400).1=s:=qH hc;unfold RS.olds;rw[h];exact Ji (LL base) hc
def dZ {s:RS} (hc:¬s.code=0):s.rest9=s:=by
 unfold RS.rest9;split
 ·exact Ef hc
 ·rfl
def cX {s t:RS} (hc:¬t.code=0):s.sum4 t=t:=by
 have h:t.fixed 4=(t,Bm []):=by unfold RS.fixed;rw[GQ hc]
 unfold RS.sum4;rw[h];simp only;rw[if_neg (λh=>hc h.1)]
def i8 {s:RS} (hc:¬(s.begin 1).code=0):s.dec1.1=s.begin 1:=by
 unfold RS.dec1;rw[fI hc];simp only;rw[cX hc,dZ hc]
def vL {base:Int} {l:List O1} (h:Wf (Eb base).nx [] l):O1s l:=by
 intro x hx;obtain⟨i,hi,rfl⟩:=getElem_of_mem hx;have hn:=C5 i hi h;rw[nil_append]at hn;have⟨n1,n2,n3,n4,n5,n6,n7⟩:=hn;refine⟨n1,n2,n3,?_,n5⟩;have el:(l.take i).length=i:=by rw[length_take];omega
 rw[el]at n4 n7;unfold IL at n4;split at n4<;>simp at n4<;>omega
def uI {b:List Int} (hb:AW b) (hn:b.length≤140737488355328) (hc:(RS.new b).dec1.1.code=0):(RS.new b).header.1.code=0∧(RS.new b).header.2.ver=1∧0≤(RS.new b).dec1.2.base∧O1s (RS.new b).dec1.2.en∧Ea (RS.new b).dec1.2=true∧Z6 (RS.new b).dec1.2=b:=by
 have hok:Ak (RS.new b):=Ak.new hb hn;have⟨r1,r2,r3⟩:=F1 hc;have hbk:=H0 hok 1;have hhk:=Fl hok;have hcb:∀h:((RS.new b).begin 1).code=0,0≤(RS.new b).header.2.base:=λh=>by
  have⟨g1,g2,g3⟩:=PA h;exact(ET hok g1).2.2.1
 by_cases hcode:((RS.new b).begin 1).code=0
 ·have⟨g1,g2,g3⟩:=PA hcode;have⟨i1,i2,i3,i4,i5⟩:=ET hok g1;have⟨ok1,ok2⟩:=Re hbk.1 i3;have⟨s1,s2,s3⟩:=tO ok1 r1;have⟨o1,o2,o3,o4,o5,o6,o7⟩:=vK hbk.1 i3 s1;have sk:=QX (s:=(RS.new b).begin 1) ok1;have hfr:=LX (s:=(RS.new b).begin 1) (t:=(((RS.new b).begin 1).olds (RS.new b).header.2.base).1) hbk.1.at0 Om o7 hbk.1.at1;have hO:=vL o2;have⟨rh1,rh2,rh3,rh4⟩:=B9.1 i2;have hr1:Ea (RS.new b).dec1.2=true:=(dX hO).2 ⟨rh2,o3,⟨o4,o5⟩,o2⟩;refine⟨g1,g2,i3,hO,hr1,?_⟩;have hbl:(RS.new b).l=b:=rfl;rw[hfr]at s3;rw[ok2,hbk.2,hbl]at s3;rw[hbk.2,hbl]at o7;have e0:(RS.new b).l.take (RS.new b).at_.toNat=[]:=by simp[RS.new]
  rw[e0,nil_append,hbl,←g3]at i5;rw[o7,i5]at s3;have hat:(((RS.new b).begin 1).sum4 (((RS.new b).begin 1).olds (RS.new b).header.2.base).1).at_.toNat=b.length:=by
   have h1:=sk.1.at1;rw[sk.2,ok2,hbk.2,hbl]at h1;unfold RS.left at r2;rw[sk.2,ok2,hbk.2,hbl]at r2;omega
  rw[hat,take_length]at s3;have hh:(RS.new b).header.2=⟨1,(RS.new b).header.2.ep,(RS.new b).header.2.base⟩:=by
   cases hx:(RS.new b).header.2 with
   |mk v e ba=>rw[hx]at g2;simp only at g2;rw[g2]
  have hgoal:Z6 (RS.new b).dec1.2=Am (RS.new b).header.2++(bH (RS.new b).dec1.2++Ap 4 (Bb (bH (RS.new b).dec1.2))):=by
   unfold Z6;rw[hh];rfl
  rw[hgoal];refine Eq.trans ?_ s3.symm;rw[append_assoc];rfl
 ·have:(RS.new b).dec1.1=(RS.new b).begin 1:=i8 hcode;rw[this]at hc;exact absurd hc hcode
end Go.Proofs.YtaajkppmibfgfabGreat
