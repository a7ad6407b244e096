/- Lemmas for TopAgree, part 2. -/
import Derived.Test.YtaajkppmibfgfabGreatB1
import Derived.Test.YtaajkppmibfgfabGreatProg
import Derived.KernelRfl
import Derived.Test.YtaajkppmibfgfabGreatB0
set_option linter.all false
set_option maxRecDepth 100000
set_option maxHeartbeats 4000000
universe u v
namespace Go.Proofs.YtaajkppmibfgfabGreat
open Go.RowKit List IntWalk Go.Proofs.Tryz
instance:DecidableEq En:=λa b=>decidable_of_iff (a.lk=b.lk∧a.data=b.data) ⟨λ⟨h1,h2⟩=>by cases a;cases b;simp only at h1 h2;rw[h1,h2],λh=>by subst h;exact⟨rfl,rfl⟩⟩
structure Bt where
 ep:Int
 base:Int
 en:List En
 deriving DecidableEq
def Cc:Bt:=⟨0,0,[]⟩
structure Bt.ok (b:Bt):Prop where
 e0:0≤b.ep
 e1:b.ep<18446744073709551616
 b0:0≤b.base
 b1:b.base<18446744073709551616
 en:j9 b.en
def sM (l:List Bt):Prop:=∀b∈l,b.ok
def C6 (l:List Lk):Bool:=l.all λx=>decide (x.bk.length≤1)
def D0 (b:Bt):Bool:=b.en.all λe=>C6 e.lk
def DO (base n:Int):Bool:=decide (1≤n∧n≤16)&&CV base n
def Hc {base n:Int}:DO base n=true↔(1≤n∧n≤16)∧base<4611686018427387904∧base+n≤4611686018427387904:=by simp[DO,He]
def BL (b:Bt):Bool:=Ac b.ep&&DO b.base b.en.length&&decide ((AK b.en).length≤1048576)&&(List.range b.en.length).all λi=>Cx (b.base+i) (b.en.getD i Dt)
def B2 {b:Bt}:BL b=true↔(1≤b.ep∧b.ep<4611686018427387904)∧((1≤b.en.length∧b.en.length≤16)∧b.base<4611686018427387904∧b.base+b.en.length≤4611686018427387904)∧(AK b.en).length≤1048576∧∀i,i<b.en.length->Cx (b.base+i) (b.en.getD i Dt)=true:=by
 have e:((1:Int)≤(b.en.length:Int)∧(b.en.length:Int)≤16)↔(1≤b.en.length∧b.en.length≤16):=Om
 unfold BL;simp only[Bool.and_eq_true,decide_eq_true_eq,Bq,Hc,all_eq_true,mem_range,and_assoc];constructor
 ·rintro⟨a,b,c,d,e,f,g,h⟩;exact⟨a,b,Om,Om,e,f,g,h⟩
 ·rintro⟨a,b,c,d,e,f,g,h⟩;exact⟨a,b,Om,Om,e,f,g,h⟩
def xU (l:List En) (k:Nat) (h:k<l.length):l.take (k+1)=l.take k++[l.getD k Dt]:=by
 rw[take_succ_eq_append_getElem h];simp[h]
def L4 (l:List En) (k:Nat) (h:k<l.length):l.getD k Dt∈l:=by simp[h]
def YK (l:List En) (k:Nat) (h:k<l.length):(AK (l.take (k+1))).length=(AK (l.take k)).length+(l.getD k Dt).data.length:=by rw[xU l k h,F8,length_append]
def oQ (l:List En) (k:Nat):(AK (l.take k)).length≤(AK l).length:=by
 have e:AK l=AK (l.take k)++AK (l.drop k):=by unfold AK;rw[←flatMap_append,take_append_drop]
 rw[e,length_append];omega
def RS.lsing (s:RS) (pos:Int):RS:=if(s.links pos).1.code=0∧C6 (s.links pos).2=false then(s.links pos).1.fail 3 s.at_ else(s.links pos).1
structure Aat (base:Int) (acc:List En) (e:En):Prop where
 lk:PL e.lk
 rt:BH (base+acc.length) e.lk=true
 sg:C6 e.lk=true
 data:AW e.data
 sum:((AK acc).length:Int)+e.data.length≤1048576
 pos:base+acc.length<4611686018427387904
def CZ (base:Int):DH En:=⟨λs acc=>if base+acc.length<4611686018427387904 then(((s.lsing (base+acc.length)).blob (1048576-(AK acc).length)).1,⟨(s.links (base+acc.length)).2,((s.lsing (base+acc.length)).blob (1048576-(AK acc).length)).2⟩)else(s.fail 3 0,Dt),
 λacc e=>BR (base+acc.length) e.lk++CX e.data,λacc e=>Aat base acc e⟩
def Ty {base:Int} {s:RS} {acc:List En} (h:base+acc.length<4611686018427387904):(CZ base).f s acc=(((s.lsing (base+acc.length)).blob (1048576-(AK acc).length)).1,⟨(s.links (base+acc.length)).2,((s.lsing (base+acc.length)).blob (1048576-(AK acc).length)).2⟩):=by
 simp only[CZ];rw[if_pos h]
def HL {s:RS} (h:Ak s) {pos:Int} (p0:0≤pos) (p1:pos<18446744073709551616):Ak (s.lsing pos)∧(s.lsing pos).l=s.l:=by
 have⟨a,b⟩:=Ec h p0 p1;unfold RS.lsing;split
 ·exact⟨a.fail _ _,by rw[AY];exact b⟩
 ·exact⟨a,b⟩
def oE {s:RS} {pos:Int} (hc:(s.lsing pos).code=0):(s.links pos).1.code=0∧C6 (s.links pos).2=true∧s.lsing pos=(s.links pos).1:=by
 unfold RS.lsing at hc ⊢;by_cases h:(s.links pos).1.code=0∧C6 (s.links pos).2=false
 ·rw[if_pos h]at hc;exact absurd hc (Dk _ De)
 ·rw[if_neg h]at hc ⊢;refine⟨hc,?_,rfl⟩;cases hs:C6 (s.links pos).2 with
  |true=>rfl
  |false=>exact absurd ⟨hc,hs⟩ h
def Ll {base:Int} (b0:0≤base):(CZ base).Ok:=by
 refine⟨λs acc h _=>?_,λs acc h hw hc=>?_,λs acc x r h hc hw hx hr=>?_,λacc x hw hx=>?_⟩
 ·by_cases hp:base+acc.length<4611686018427387904
  ·rw[Ty hp];have⟨a,b⟩:=HL h (pos:=base+acc.length) Om Om;have⟨c,d⟩:=RS.ok.blob a (1048576-(AK acc).length);exact⟨c,d.trans b⟩
  ·simp only[CZ];rw[if_neg hp];exact⟨h.fail _ _,AY _ _ _⟩
 ·by_cases hp:base+acc.length<4611686018427387904
  ·rw[Ty hp]at hc ⊢;simp only at hc ⊢;have⟨a,b⟩:=HL h (pos:=base+acc.length) Om Om;have⟨d1,d2,d3,d4⟩:=ND a hc;have⟨l1,l2,l3⟩:=oE d1;have⟨i1,i2,i3,i4,i5⟩:=OC h Om Om l1;have hsh:=Gc a (1048576-(AK acc).length);rw[l3]at d3;refine⟨i1,⟨i2,i3,l2,hsh.2,by simp only;omega,hp⟩,by rw[l3];omega,?_⟩;simp only[CZ];rw[b,l3]at d4;rw[l3,d4,i5,append_assoc]
  ·simp only[CZ]at hc;rw[if_neg hp]at hc;exact absurd hc (Dk _ De)
 ·have⟨x1,x2,x3,x4,x5,x6⟩:=hx;rw[Ty x6];simp only[CZ]at hr ⊢;rw[append_assoc]at hr;have h1:=Rm h hc Om Om x1 x2 hr;have k1:=Cf h hr;have e2:(s.adv ((BR (base+acc.length) x.lk).length:Int)).rest=CX x.data++r:=by rw[BC h.at0,hr,drop_left]
  have hl:s.lsing (base+acc.length)=s.adv ((BR (base+acc.length) x.lk).length:Int):=by
   unfold RS.lsing;rw[h1];simp only;rw[if_neg (by rw[x3];rintro⟨_,h⟩;cases h)]
  have h2:=Pw (m:=1048576-(AK acc).length) k1 (show(s.adv ((BR (base+acc.length) x.lk).length:Int)).code=0 from hc) Om Om e2;rw[hl,h2,h1];simp only[Prod.mk.injEq];exact⟨by rw[BU,length_append];rfl,trivial⟩
 ·have⟨x1,x2,x3,x4,x5,x6⟩:=hx;intro y hy;simp only[CZ]at hy;rcases mem_append.1 hy with hy|hy
  ·exact Ke Om Om x1 x2 y hy
  ·exact RY x4 Om y hy
def Tx {base:Int}:∀{l:List En},Wf (CZ base).nx [] l->(AK l).length≤1048576:=by
 intro l h;rcases eq_nil_or_concat l with rfl|⟨l,x,rfl⟩
 ·simp[AK]
 ·rw[concat_eq_append]at h ⊢;have:=(CO.1 h).2.sum;rw[nil_append]at this;rw[F8,length_append];omega
def xR {base:Int} {l:List En} (h:Wf (CZ base).nx [] l):j9 l:=by
 intro x hx;obtain⟨i,hi,rfl⟩:=getElem_of_mem hx;have hn:=C5 i hi h;exact⟨hn.lk,hn.data⟩
def Ml {b:Bt}:D0 b=true↔∀i,i<b.en.length->C6 (b.en.getD i Dt).lk=true:=by
 unfold D0;rw[all_eq_true];constructor
 ·intro h i hi;exact h _ (L4 b.en i hi)
 ·intro h x hx;obtain⟨i,hi,rfl⟩:=getElem_of_mem hx;have:=h i hi;simpa[hi]using this
def Jb {b:Bt} (hl:j9 b.en):BL b=true∧D0 b=true↔(1≤b.ep∧b.ep<4611686018427387904)∧((1≤b.en.length∧b.en.length≤16)∧b.base<4611686018427387904∧b.base+b.en.length≤4611686018427387904)∧Wf (CZ b.base).nx [] b.en:=by
 rw[B2];constructor
 ·rintro⟨⟨h1,h2,h3,h4⟩,h5⟩;refine⟨h1,h2,Uc λk hk=>?_⟩;have e:b.en[k]=b.en.getD k Dt:=by simp[hk]
  rw[e,nil_append];have ho:=hl _ (L4 b.en k hk);have el:(b.en.take k).length=k:=by simp;omega
  refine⟨ho.lk,by rw[el];exact(C7.1 (h4 k hk)).1,Ml.1 h5 k hk,ho.data,?_,by rw[el];omega⟩;have:=oQ b.en (k+1);rw[YK b.en k hk]at this;omega
 ·rintro⟨h1,h2,h3⟩;have key:∀i,i<b.en.length->Aat b.base (b.en.take i) (b.en.getD i Dt):=λi hi=>by
   have:=C5 i hi h3;have e:b.en[i]=b.en.getD i Dt:=by simp[hi]
   rw[e,nil_append]at this;exact this
  refine⟨⟨h1,h2,Tx h3,λi hi=>?_⟩,Ml.2 λi hi=>(key i hi).sg⟩;have hk:=key i hi;have el:(b.en.take i).length=i:=by simp;omega
  have hr:=hk.rt;rw[el]at hr;exact C7.2 ⟨hr,by have:=hk.sum;omega⟩
def J_ (b:Bt):List Int:=vb b.ep++(vb b.base++(vb b.en.length++Bo (CZ b.base).enc [] b.en))
def RS.ents (s:RS) (base:Int):RS×List En:=(CZ base).many (s.cnt base 1 16).2.toNat (s.cnt base 1 16).1 []
def RS.unpl (s:RS):RS×Bt:=((((s.epo Ac).1.epo AL).1.ents ((s.epo Ac).1.epo AL).2).1.rest9,⟨(s.epo Ac).2,((s.epo Ac).1.epo AL).2,(((s.epo Ac).1.epo AL).1.ents ((s.epo Ac).1.epo AL).2).2⟩)
def Jt {s:RS} (h:Ak s) (ok:Int->Bool):0≤(s.epo ok).2∧(s.epo ok).2<18446744073709551616:=by
 by_cases hc:(s.epo ok).1.code=0
 ·have⟨_,a,b,_⟩:=HV h hc;exact⟨a,b⟩
 ·rw[a8 hc];exact⟨De,De⟩
def L1 {s:RS} (h:Ak s) {base:Int} (b0:0≤base):Ak (s.ents base).1∧(s.ents base).1.l=s.l:=by
 have⟨a,b⟩:=Fq h base 1 16;have⟨c,d⟩:=Jh (Ll b0) (s.cnt base 1 16).2.toNat (s.cnt base 1 16).1 [] a trivial;exact⟨c,d.trans b⟩
def xQ {s:RS} (h:Ak s) {base:Int} (b0:0≤base) (hc:(s.ents base).1.code=0):s.code=0∧Wf (CZ base).nx [] (s.ents base).2∧1≤(s.ents base).2.length∧(s.ents base).2.length≤16∧base<4611686018427387904∧base+(s.ents base).2.length≤4611686018427387904∧s.at_<(s.ents base).1.at_∧
 s.l.take (s.ents base).1.at_.toNat=s.l.take s.at_.toNat++(vb (s.ents base).2.length++Bo (CZ base).enc [] (s.ents base).2):=by
 have⟨a,b⟩:=Fq h base 1 16;have⟨r,q1,q2,q3,q4,q5,q6⟩:=Ns (Ll b0) (s.cnt base 1 16).2.toNat (s.cnt base 1 16).1 [] a trivial hc;have⟨c1,c2,c3,c4,c5,c6,c7,c8⟩:=TD h q5;have hr:(s.ents base).2=r:=q1;have hn:(s.cnt base 1 16).2=(r.length:Int):=Om
 rw[hr];rw[b]at q4;have hq6:(s.cnt base 1 16).1.at_≤(s.ents base).1.at_:=q6;have hq4:s.l.take (s.ents base).1.at_.toNat=s.l.take (s.cnt base 1 16).1.at_.toNat++Bo (CZ base).enc [] r:=q4;refine⟨c1,q3,Om,Om,c5,Om,Om,?_⟩;rw[hq4,c8,append_assoc,hn]
def cH {s:RS} (h:Ak s):Ak s.unpl.1∧s.unpl.1.l=s.l:=by
 have⟨a,b⟩:=Bc h Ac;have⟨c,d⟩:=Bc a AL;have⟨e,f⟩:=L1 c (Jt a AL).1;have hr:Ak (((s.epo Ac).1.epo AL).1.ents ((s.epo Ac).1.epo AL).2).1.rest9∧(((s.epo Ac).1.epo AL).1.ents ((s.epo Ac).1.epo AL).2).1.rest9.l=s.l:=by
  unfold RS.rest9;split
  ·exact⟨e.fail _ _,by rw[AY];exact f.trans (d.trans b)⟩
  ·exact⟨e,f.trans (d.trans b)⟩
 exact hr
def tF {p:List Int} (hp:AW p) (hn:p.length≤140737488355328) (hc:(RS.new p).unpl.1.code=0):(RS.new p).unpl.2.ok∧BL (RS.new p).unpl.2=true∧D0 (RS.new p).unpl.2=true∧J_ (RS.new p).unpl.2=p:=by
 have h:Ak (RS.new p):=Ak.new hp hn;have⟨r1,r2,r3⟩:=F1 hc;have⟨a,b⟩:=Bc h Ac;have⟨c,d⟩:=Bc a AL;have hrg:=Jt a AL;have⟨k1,k2⟩:=L1 c hrg.1;have⟨e1,e2,e3,e4,e5,e6,e7,e8⟩:=xQ c hrg.1 r1;have⟨p1,p2,p3,p4,p5,p6⟩:=HV a e1;have⟨q1,q2,q3,q4,q5,q6⟩:=HV h p1;have hen:=xR e2;have hok:(RS.new p).unpl.2.ok:=⟨q2,q3,p2,p3,hen⟩;have hrb:=(Jb (b:=(RS.new p).unpl.2) hen).2 ⟨Bq.1 q4,⟨⟨e3,e4⟩,e5,e6⟩,e2⟩;refine⟨hok,hrb.1,hrb.2,?_⟩;have hl:(RS.new p).l=p:=rfl;have e0:(RS.new p).l.take (RS.new p).at_.toNat=[]:=by simp[RS.new]
 rw[d,b,hl]at e8;rw[b,hl]at p6;rw[e0,hl,nil_append]at q6;rw[p6,q6]at e8;have hat:((((RS.new p).epo Ac).1.epo AL).1.ents (((RS.new p).epo Ac).1.epo AL).2).1.at_.toNat=p.length:=by
  have h1:=k1.at1;rw[k2,d,b,hl]at h1;unfold RS.left at r2;rw[k2,d,b,hl]at r2;have h0:=k1.at0;omega
 rw[hat,take_length]at e8;have hg:J_ (RS.new p).unpl.2=vb ((RS.new p).epo Ac).2++(vb (((RS.new p).epo Ac).1.epo AL).2++(vb ((((RS.new p).epo Ac).1.epo AL).1.ents (((RS.new p).epo Ac).1.epo AL).2).2.length++Bo (CZ (((RS.new p).epo Ac).1.epo AL).2).enc [] ((((RS.new p).epo Ac).1.epo AL).1.ents (((RS.new p).epo Ac).1.epo AL).2).2)):=rfl;rw[hg];refine Eq.trans ?_ e8.symm;rw[append_assoc]
def SK {pos:Int} {l:List Lk} (hl:PL l) (hr:BH pos l=true):(BR pos l).length≤970:=by
 have⟨h1,h2⟩:=(FQ hl).1 hr;have hb:=p8 (enc:=(Cq pos).enc) 60 (λacc x hx=>by
  have:=hx.2.2.2.2;have e1:=(A7 (x.st-H_ acc-1)).2;have e2:=(A7 (x.bk.length:Int)).2;have e3:=Nh (Dm pos x.bk x.bk.length);rw[DY]at e3;simp only[Cq,DD,length_append];omega) h2
 have e4:=(A7 (l.length:Int)).2;unfold BR;rw[length_append];omega
def iW {base:Int} (b0:0≤base):∀{l:List En},Wf (CZ base).nx [] l->(Bo (CZ base).enc [] l).length≤980*l.length+(AK l).length:=by
 intro l
 induction hn:l.length generalizing l with
 |zero=>intro _;rw[eq_nil_of_length_eq_zero hn];simp[Bo]
 |succ n ih=>
  intro h;rcases eq_nil_or_concat l with rfl|⟨l,x,rfl⟩
  ·simp at hn
  ·rw[concat_eq_append]at h hn ⊢;have⟨h1,h2⟩:=CO.1 h;have:=ih (l:=l) (by simpa using hn) h1;rw[nil_append]at h2;have e1:=SK h2.lk h2.rt;have e3:=(A7 (x.data.length:Int)).2;have e4:((CZ base).enc l x).length=(BR (base+l.length) x.lk).length+((vb (x.data.length:Int)).length+x.data.length):=by simp only[CZ,length_append,CX]
   rw[Fsq,F8,length_append,length_append,nil_append,e4];omega
def SB {b:Bt} (hb:b.ok) (hr:BL b=true) (hs:D0 b=true):(J_ b).length≤1080000:=by
 have⟨g1,g2,hwf⟩:=(Jb hb.en).1 ⟨hr,hs⟩;have h1:=iW hb.b0 hwf;have h2:=Tx hwf;have e1:=(A7 b.ep).2;have e2:=(A7 b.base).2;have e3:=(A7 (b.en.length:Int)).2;unfold J_;simp only[length_append];omega
def SC {b:Bt} (hb:b.ok) (hr:BL b=true) (hs:D0 b=true):AW (J_ b):=by
 have⟨g1,g2,hwf⟩:=(Jb hb.en).1 ⟨hr,hs⟩;intro y hy;rcases mem_append.1 hy with hy|hy
 ·exact B6 hb.e0 hb.e1 y hy
 ·rcases mem_append.1 hy with hy|hy
  ·exact B6 hb.b0 hb.b1 y hy
  ·rcases mem_append.1 hy with hy|hy
   ·exact B6 Om Om y hy
   ·exact Ph (acc:=[]) (Ll hb.b0) trivial hwf y hy
def kN {b:Bt} (hb:b.ok) (hr:BL b=true) (hs:D0 b=true):(RS.new (J_ b)).unpl=((RS.new (J_ b)).adv ((J_ b).length:Int),b):=by
 have⟨g1,⟨g2,g3,g4⟩,hwf⟩:=(Jb hb.en).1 ⟨hr,hs⟩;have hB:=SC hb hr hs;have hn:=SB hb hr hs;have k0:Ak (RS.new (J_ b)):=Ak.new hB Om;have e0:(RS.new (J_ b)).rest=vb b.ep++(vb b.base++(vb b.en.length++Bo (CZ b.base).enc [] b.en)):=DV _;have h1:=Ju (ok:=Ac) (show(RS.new (J_ b)).code=0 from rfl) hb.e0 hb.e1 (Bq.2 g1) e0;have k1:=Cf k0 e0;have e1:((RS.new (J_ b)).adv ((vb b.ep).length:Int)).rest=vb b.base++(vb b.en.length++Bo (CZ b.base).enc [] b.en):=by rw[BC k0.at0,e0,drop_left]
 have h2:=Ju (ok:=AL) (show((RS.new (J_ b)).adv ((vb b.ep).length:Int)).code=0 from rfl) hb.b0 hb.b1 (DL.2 g3) e1;have k2:=Cf k1 e1;have e2:(((RS.new (J_ b)).adv ((vb b.ep).length:Int)).adv ((vb b.base).length:Int)).rest=vb b.en.length++Bo (CZ b.base).enc [] b.en:=by rw[BC k1.at0,e1,drop_left]
 have h3:=yF (base:=b.base) (least:=1) (most:=16) (show(((RS.new (J_ b)).adv ((vb b.ep).length:Int)).adv ((vb b.base).length:Int)).code=0 from rfl) (by omega:(0:Int)≤(b.en.length:Int)) Om Om Om (He.2 ⟨g3,g4⟩) e2;have k3:=Cf k2 e2;have e3:((((RS.new (J_ b)).adv ((vb b.ep).length:Int)).adv ((vb b.base).length:Int)).adv ((vb (b.en.length:Int)).length:Int)).rest=Bo (CZ b.base).enc [] b.en++[]:=by rw[BC k2.at0,e2,drop_left,append_nil]
 have h4:=Vs (Ll hb.b0) b.en [] _ k3 rfl trivial hwf e3;have h5:(((RS.new (J_ b)).adv ((vb b.ep).length:Int)).adv ((vb b.base).length:Int)).ents b.base=((RS.new (J_ b)).adv ((J_ b).length:Int),b.en):=by
  unfold RS.ents;rw[h3];simp only[Int.toNat_natCast];rw[h4,BU,BU,BU];have hlen:((J_ b).length:Int)=(vb b.ep).length+((vb b.base).length+((vb (b.en.length:Int)).length+(Bo (CZ b.base).enc [] b.en).length)):=by unfold J_;simp only[length_append];omega
  rw[hlen,nil_append]
 unfold RS.unpl;rw[h1];simp only;rw[h2];simp only;rw[h5];simp only;have h6:((RS.new (J_ b)).adv ((J_ b).length:Int)).rest9=(RS.new (J_ b)).adv ((J_ b).length:Int):=by
  unfold RS.rest9;rw[if_neg];show¬0<((J_ b).length:Int)-(0+((J_ b).length:Int));omega
 rw[h6]
def Fa.many {β:Type} {F:DH β} (hF:∀s acc,Fa s->Ak s->Fa (F.f s acc).1∧Ak (F.f s acc).1):∀(N:Nat) (s:RS) (acc:List β),Fa s->Ak s->Fa (F.many N s acc).1∧Ak (F.many N s acc).1:=by
 intro N
 induction N with
 |zero=>intro s acc h k;exact⟨h,k⟩
 |succ N ih=>
  intro s acc h k;have⟨a,b⟩:=hF s acc h k;simp only[DH.many];split
  ·exact ih _ _ a b
  ·exact⟨a,b⟩
def Fa.at {s:RS} (h:Fa s) (hs:Ak s) {c:Int} {t:RS} (hl:t.l=s.l) (ht:Ak t):Fa (s.fail c t.at_):=h.fail ht.at0 (by rw[←hl];exact ht.at1)
def Fa.fall {s:RS} (h:Fa s) (hs:Ak s) (b m:Int):Fa (s.fall b m).1:=by
 refine(Fa.many (F:=Df b) (λs acc h hs=>?_) _ _ _ (h.int hs m) (hs.int m).1).1;simp only[Df];have hv:=hs.vint;split
 ·exact⟨(h.vint hs).at hv.1 hv.2.symm hs,hv.1.fail _ _⟩
 ·exact⟨h.vint hs,hv.1⟩
def Fa.links {s:RS} (h:Fa s) (hs:Ak s) {pos:Int} (p1:pos<18446744073709551616):Fa (s.links pos).1:=by
 refine(Fa.many (F:=Cq pos) (λs acc h hs=>?_) _ _ _ (h.int hs 16) (hs.int 16).1).1;simp only[Cq];have hv:=hs.vint;have hh:Fa (s.lkHead acc)∧Ak (s.lkHead acc):=by
  unfold RS.lkHead;split
  ·exact⟨(h.vint hs).at hv.1 hv.2.symm hs,hv.1.fail _ _⟩
  ·exact⟨h.vint hs,hv.1⟩
 exact⟨hh.1.fall hh.2 pos 4,(RH hh.2 p1 4).1⟩
def Fa.cnt {s:RS} (h:Fa s) (hs:Ak s) (base least most:Int):Fa (s.cnt base least most).1:=by
 have hi:=hs.int most;unfold RS.cnt;split
 ·exact(h.int hs most).at hi.1 hi.2.symm hs
 ·exact h.int hs most
def Fa.lsing {s:RS} (h:Fa s) (hs:Ak s) {pos:Int} (p0:0≤pos) (p1:pos<18446744073709551616):Fa (s.lsing pos):=by
 have hk:=Ec hs p0 p1;unfold RS.lsing;split
 ·exact(h.links hs p1).at hk.1 hk.2.symm hs
 ·exact h.links hs p1
def Fa.rest9 {s:RS} (h:Fa s) (hs:Ak s):Fa s.rest9:=by
 unfold RS.rest9;split
 ·exact h.at hs rfl hs
 ·exact h
def Fa.ents {s:RS} (h:Fa s) (hs:Ak s) {base:Int} (b0:0≤base):Fa (s.ents base).1∧Ak (s.ents base).1:=by
 have hc:=Fq hs base 1 16;refine Fa.many (F:=CZ base) (λs acc h hs=>?_) (s.cnt base 1 16).2.toNat (s.cnt base 1 16).1 [] (h.cnt hs base 1 16) hc.1;simp only[CZ];split
 ·rename_i hp;have k:=HL hs (pos:=base+acc.length) Om Om;exact⟨Fa.blob (Fa.lsing h hs Om Om) k.1 _,(RS.ok.blob k.1 _).1⟩
 ·exact⟨h.fail (Int.le_refl 0) Om,hs.fail _ _⟩
def Fa.unpl {s:RS} (h:Fa s) (hs:Ak s):Fa s.unpl.1:=by
 have⟨a,b⟩:=Bc hs Ac;have⟨c,d⟩:=Bc a AL;have f4:=((h.epo hs Ac).epo a AL).ents c (Jt a AL).1;exact f4.1.rest9 f4.2
structure EL where
 ep:Int
 bt:List Bt
 deriving DecidableEq
def CH:EL:=⟨0,[]⟩
def Bf (acc:List Bt):Bt:=acc.getD (acc.length-1) Cc
def JH (ep:Int) (acc:List Bt) (b:Bt):Bool:=decide (b.ep≤ep)&&(decide (acc.length=0)||(decide ((Bf acc).ep≤b.ep)&&decide ((Bf acc).base+(Bf acc).en.length≤b.base)))
def RS.bat (s:RS) (ep:Int) (acc:List Bt):RS×Bt:=
 if(s.frame 2097152).1.code=0 then
  (if(RS.new (s.frame 2097152).2).unpl.1.code=0 then
    (if JH ep acc (RS.new (s.frame 2097152).2).unpl.2=true then((s.frame 2097152).1,(RS.new (s.frame 2097152).2).unpl.2)else((s.frame 2097152).1.fail 13 s.at_,(RS.new (s.frame 2097152).2).unpl.2))
  else((s.frame 2097152).1.fail (RS.new (s.frame 2097152).2).unpl.1.code ((s.frame 2097152).1.at_-4-(s.frame 2097152).2.length+(RS.new (s.frame 2097152).2).unpl.1.fat),(RS.new (s.frame 2097152).2).unpl.2))
 else((s.frame 2097152).1,Cc)
structure Af7 (ep:Int) (acc:List Bt) (b:Bt):Prop where
 ok:b.ok
 rt:BL b=true
 sg:D0 b=true
 may:JH ep acc b=true
def Gk (ep:Int):DH Bt:=⟨λs acc=>s.bat ep acc,λ_ b=>Ag (J_ b),λacc b=>Af7 ep acc b⟩
def rB {s:RS} (h:Ak s) (ep:Int) (acc:List Bt):Ak (s.bat ep acc).1∧(s.bat ep acc).1.l=s.l:=by
 have⟨a,b⟩:=BA h 2097152;unfold RS.bat
 repeat' split
 ·exact⟨a,b⟩
 ·exact⟨a.fail _ _,by simp only;rw[AY];exact b⟩
 ·exact⟨a.fail _ _,by simp only;rw[AY];exact b⟩
 ·exact⟨a,b⟩
def rC {s:RS} {ep:Int} {acc:List Bt} (hc:(s.bat ep acc).1.code=0):(s.frame 2097152).1.code=0∧(RS.new (s.frame 2097152).2).unpl.1.code=0∧JH ep acc (RS.new (s.frame 2097152).2).unpl.2=true∧s.bat ep acc=((s.frame 2097152).1,(RS.new (s.frame 2097152).2).unpl.2):=by
 unfold RS.bat at hc ⊢;by_cases h1:(s.frame 2097152).1.code=0
 ·rw[if_pos h1]at hc ⊢;by_cases h2:(RS.new (s.frame 2097152).2).unpl.1.code=0
  ·rw[if_pos h2]at hc ⊢;by_cases h3:JH ep acc (RS.new (s.frame 2097152).2).unpl.2=true
   ·rw[if_pos h3];exact⟨h1,h2,h3,rfl⟩
   ·rw[if_neg h3]at hc;exact absurd hc (Dk _ De)
  ·rw[if_neg h2]at hc;exact absurd hc (Dk _ h2)
 ·rw[if_neg h1]at hc;exact absurd hc h1
def TM (ep:Int):(Gk ep).Ok:=by
 refine⟨λs acc h _=>rB h ep acc,λs acc h hw hc=>?_,λs acc x r h hc hw hx hr=>?_,λacc x hw hx=>?_⟩
 ·have⟨h1,h2,h3,h4⟩:=rC hc;have⟨f1,f2,f3,f4,f5⟩:=Fo h h1;have hlen:(s.frame 2097152).2.length≤140737488355328:=by unfold BK at f2;omega
  have⟨u1,u2,u3,u4⟩:=tF f3 hlen h2;have e:(Gk ep).f s acc=((s.frame 2097152).1,(RS.new (s.frame 2097152).2).unpl.2):=h4;rw[e];exact⟨f1,⟨u1,u2,u3,h3⟩,f4,by simp only[Gk];rw[u4];exact f5⟩
 ·have⟨x1,x2,x3,x4⟩:=hx;have hB:=SC x1 x2 x3;have hn:=SB x1 x2 x3;have hf:=Rx (m:=2097152) h hc hB (by unfold BK;omega) hr;have hu:=kN x1 x2 x3;show s.bat ep acc=_;unfold RS.bat;rw[hf];simp only;rw[hu];simp only;rw[if_pos (show(s.adv ((Ag (J_ x)).length:Int)).code=0 from hc),if_pos (show((RS.new (J_ x)).adv ((J_ x).length:Int)).code=0 from rfl),if_pos x4];rfl
 ·exact HQ (SC hx.ok hx.rt hx.sg) (by have:=SB hx.ok hx.rt hx.sg;omega)
def G5 (ep:Int) (l:List Bt) (i:Nat):Bool:=BL (l.getD i Cc)&&D0 (l.getD i Cc)&&JH ep (l.take i) (l.getD i Cc)
def DQ (u:EL):Bool:=Ac u.ep&&decide (u.bt.length≤32)&&(List.range u.bt.length).all λi=>G5 u.ep u.bt i
def J6 {u:EL}:DQ u=true↔(1≤u.ep∧u.ep<4611686018427387904)∧u.bt.length≤32∧∀i,i<u.bt.length->G5 u.ep u.bt i=true:=by
 unfold DQ;simp only[Bool.and_eq_true,decide_eq_true_eq,Bq,all_eq_true,mem_range,and_assoc]
def Pr (l:List Bt) (k:Nat) (h:k<l.length):l.getD k Cc∈l:=by simp[h]
def bF (l:List Bt) (k:Nat) (h:k<l.length):l.take (k+1)=l.take k++[l.getD k Cc]:=by
 rw[take_succ_eq_append_getElem h];simp[h]
def dW {u:EL} (hl:sM u.bt):DQ u=true↔(1≤u.ep∧u.ep<4611686018427387904)∧u.bt.length≤32∧Wf (Gk u.ep).nx [] u.bt:=by
 rw[J6];constructor
 ·rintro⟨h1,h2,h3⟩;refine⟨h1,h2,Uc λk hk=>?_⟩;have e:u.bt[k]=u.bt.getD k Cc:=by simp[hk]
  rw[e,nil_append];have:=h3 k hk;unfold G5 at this;simp only[Bool.and_eq_true]at this;exact⟨hl _ (Pr u.bt k hk),this.1.1,this.1.2,this.2⟩
 ·rintro⟨h1,h2,h3⟩;refine⟨h1,h2,λi hi=>?_⟩;have:=C5 i hi h3;have e:u.bt[i]=u.bt.getD i Cc:=by simp[hi]
  rw[e,nil_append]at this;unfold G5;rw[this.rt,this.sg,this.may];rfl
def Z5 (u:EL):List Int:=Am ⟨2,u.ep,0⟩++(vb u.bt.length++Bo (Gk u.ep).enc [] u.bt)
def RS.bats (s:RS) (ep:Int):RS×List Bt:=(Gk ep).counted 32 s
def RS.dec2 (s:RS):RS×EL:=(((s.begin 2).bats s.header.2.ep).1.rest9,⟨s.header.2.ep,((s.begin 2).bats s.header.2.ep).2⟩)
def dec2 (b:List Int):EL×(Int×Int):=if(RS.new b).dec2.1.code=0 then((RS.new b).dec2.2,(0,0))else(CH,((RS.new b).dec2.1.code,(RS.new b).dec2.1.fat))
def q8 {ep:Int} {l:List Bt} (h:Wf (Gk ep).nx [] l):sM l:=by
 intro x hx;obtain⟨i,hi,rfl⟩:=getElem_of_mem hx;exact(C5 i hi h).ok
def uH {b:List Int} (hb:AW b) (hn:b.length≤140737488355328) (hc:(RS.new b).dec2.1.code=0):(RS.new b).header.1.code=0∧(RS.new b).header.2.ver=2∧sM (RS.new b).dec2.2.bt∧DQ (RS.new b).dec2.2=true∧Z5 (RS.new b).dec2.2=b:=by
 have hok:Ak (RS.new b):=Ak.new hb hn;have⟨r1,r2,r3⟩:=F1 hc;have hbk:=H0 hok 2;have hF:=TM (RS.new b).header.2.ep;have⟨c1,c2,c3,c4,c5⟩:=HW hF hbk.1 (m:=32) r1;have ck:=Da hF hbk.1 32;have⟨g1,g2,g3⟩:=PA c3;have⟨i1,i2,i3,i4,i5⟩:=ET hok g1;have hbts:=q8 c1;have⟨rh1,rh2,rh3,rh4⟩:=B9.1 i2;have hr2:DQ (RS.new b).dec2.2=true:=(dW (u:=(RS.new b).dec2.2) hbts).2 ⟨rh2,by show((RS.new b).begin 2 |>.bats (RS.new b).header.2.ep).2.length≤32;have:(((RS.new b).begin 2).bats (RS.new b).header.2.ep).2.length≤(32:Int):=c2;omega,c1⟩;refine⟨g1,g2,hbts,hr2,?_⟩;have hbl:(RS.new b).l=b:=rfl;rw[hbk.2,hbl]at c4;have e0:(RS.new b).l.take (RS.new b).at_.toNat=[]:=by simp[RS.new]
 rw[e0,nil_append,hbl,←g3]at i5;rw[i5]at c4;have hat:((Gk (RS.new b).header.2.ep).counted 32 ((RS.new b).begin 2)).1.at_.toNat=b.length:=by
  have h1:=ck.1.at1;rw[ck.2,hbk.2,hbl]at h1;have r2':((Gk (RS.new b).header.2.ep).counted 32 ((RS.new b).begin 2)).1.left≤0:=r2;unfold RS.left at r2';rw[ck.2,hbk.2,hbl]at r2';have h0:=ck.1.at0;omega
 rw[hat,take_length]at c4;have hh:(RS.new b).header.2=⟨2,(RS.new b).header.2.ep,0⟩:=by
  cases hx:(RS.new b).header.2 with
  |mk v e ba=>
   rw[hx]at g2 rh4;simp only at g2 rh4;have:ba=0:=Om
   rw[g2,this]
 have hgoal:Z5 (RS.new b).dec2.2=Am (RS.new b).header.2++(vb ((RS.new b).dec2.2.bt.length:Int)++Bo (Gk (RS.new b).header.2.ep).enc [] (RS.new b).dec2.2.bt):=by
  unfold Z5;rw[hh];rfl
 rw[hgoal];refine Eq.trans ?_ c4.symm;rw[append_assoc];rfl
abbrev Hh:=List Lk×Int
def Xf:List Hh->Int
 |[]=>0
 |x::l=>x.2+Xf l
def lA (l:List Hh) (x:Hh):Xf (l++[x])=Xf l+x.2:=by
 induction l with
 |nil=>simp[Xf]
 |cons y l ih=>simp only[cons_append,Xf,ih];omega
structure Afm (base:Int) (acc:List Hh) (x:Hh):Prop where
 lk:PL x.1
 right:BH (base+acc.length) x.1=true
 sz:0≤x.2
 sum:Xf acc+x.2≤1048576
 pos:base+acc.length<4611686018427387904
def C_ (base:Int):DH Hh:=⟨λs acc=>if base+acc.length<4611686018427387904 then s.ehead (base+acc.length) (1048576-Xf acc)else(s.fail 3 0,([],0)),
 λacc x=>BR (base+acc.length) x.1++vb x.2,λacc x=>Afm base acc x⟩
def S_ {base:Int} {s:RS} {acc:List Hh} (h:base+acc.length<4611686018427387904):(C_ base).f s acc=s.ehead (base+acc.length) (1048576-Xf acc):=by
 simp only[C_];rw[if_pos h]
def p9 {s:RS} {pos m:Int} (h:Ak s) (p0:0≤pos) (p1:pos<18446744073709551616) (hc:(s.ehead pos m).1.code=0):
 s.code=0∧PL (s.ehead pos m).2.1∧BH pos (s.ehead pos m).2.1=true∧0≤(s.ehead pos m).2.2∧(s.ehead pos m).2.2≤m∧s.at_<(s.ehead pos m).1.at_∧
 s.l.take (s.ehead pos m).1.at_.toNat=s.l.take s.at_.toNat++(BR pos (s.ehead pos m).2.1++vb (s.ehead pos m).2.2):=by
 have⟨a,b⟩:=Ec h p0 p1;unfold RS.ehead at hc ⊢;split at hc
 ·rename_i h0;rw[if_pos h0];have⟨c1,c2,c3,c4,c5⟩:=Di a h0;have⟨i1,i2,i3,i4,i5⟩:=OC h p0 p1 c1;refine⟨i1,i2,i3,c2,c3,by simp only[];omega,?_⟩;simp only[];rw[b]at c5;rw[c5,i5,append_assoc]
 ·rename_i h0;exact absurd hc h0
def NO {base:Int}:∀{r acc:List Hh},Wf (C_ base).nx acc r->0≤Xf r
 |[],_,_=>Int.le_refl _
 |x::r,acc,h=>by
  have h1:=h.1.sz;have h2:=NO h.2;simp only[Xf];omega
def S9 {base:Int} (b0:0≤base):(C_ base).Ok:=by
 refine⟨λs acc h _=>?_,λs acc h hw hc=>?_,λs acc x r h hc hw hx hr=>?_,λacc x hw hx=>?_⟩
 ·by_cases hp:base+acc.length<4611686018427387904
  ·rw[S_ hp];exact Pi h Om Om _
  ·simp only[C_];rw[if_neg hp];exact⟨h.fail _ _,AY _ _ _⟩
 ·by_cases hp:base+acc.length<4611686018427387904
  ·rw[S_ hp]at hc ⊢;have⟨e1,e2,e3,e4,e5,e6,e7⟩:=p9 h Om Om hc;exact⟨e1,⟨e2,e3,e4,Om,hp⟩,e6,e7⟩
  ·simp only[C_]at hc;rw[if_neg hp]at hc;exact absurd hc (Dk _ De)
 ·have⟨x1,x2,x3,x4,x5⟩:=hx;have hnn:=NO hw;rw[S_ x5];have ex:Fm (base+acc.length) ⟨x.1,List.replicate x.2.toNat 0⟩=BR (base+acc.length) x.1++vb x.2:=by
   unfold Fm;simp only[length_replicate];rw[Int.toNat_of_nonneg x3]
  have:=iX (e:=⟨x.1,List.replicate x.2.toNat 0⟩) (m:=1048576-Xf acc) h hc Om Om ⟨x1,λy hy=>by rw[mem_replicate]at hy;rw[hy.2];decide⟩ x2 (by simp;omega) (by simp;omega) (by rw[ex];exact hr);rw[this,ex];simp only[length_replicate,C_];rw[Int.toNat_of_nonneg x3]
 ·have⟨x1,x2,x3,x4,x5⟩:=hx;intro y hy;simp only[C_]at hy;have hnn:=NO hw;rcases mem_append.1 hy with hy|hy
  ·exact Ke Om Om x1 x2 y hy
  ·exact B6 (x:=x.2) x3 Om y hy
def LW (l:List Hh):List En:=l.map λx=>⟨x.1,[]⟩
def Ny (l:List Hh):List Int:=l.map (·.2)
def F_ (l:List Hh):(LW l).length=l.length:=by simp[LW]
def OZ (l:List Hh):(Ny l).length=l.length:=by simp[Ny]
def RS.bthd (s:RS):RS×(Int×(Int×Int)):=
 (if DO ((s.epo Ac).1.epo AL).2 (((s.epo Ac).1.epo AL).1.int 16).2=true then(((s.epo Ac).1.epo AL).1.int 16).1 else(((s.epo Ac).1.epo AL).1.int 16).1.fail 3 ((s.epo Ac).1.epo AL).1.at_,
   ((s.epo Ac).2,(((s.epo Ac).1.epo AL).2,(((s.epo Ac).1.epo AL).1.int 16).2)))
def RS.bthe (s:RS):RS×List Hh:=(C_ s.bthd.2.2.1).many s.bthd.2.2.2.toNat s.bthd.1 []
def RS.btfi (h:RS) (q:List Hh) (d:RS×List Int):RS:=if(FC (LW q) (Ny q) d.2).2=true then d.1 else d.1.fail 3 h.at_
def RS.btch (s:RS) (blk:RS->RS×List Int):RS×Bt:=
 if s.bthd.1.code=0 then
  (if(RS.btfi s.bthe.1 s.bthe.2 (blk s.bthe.1)).code=0 then(RS.btfi s.bthe.1 s.bthe.2 (blk s.bthe.1),⟨s.bthd.2.1,s.bthd.2.2.1,(FC (LW s.bthe.2) (Ny s.bthe.2) (blk s.bthe.1).2).1⟩)
  else(RS.btfi s.bthe.1 s.bthe.2 (blk s.bthe.1),Cc))
 else(s.bthd.1,Cc)
def FT {s:RS} (h:Ak s):Ak s.bthd.1∧s.bthd.1.l=s.l:=by
 have⟨a1,a2⟩:=Bc h Ac;have⟨b1,b2⟩:=Bc a1 AL;have⟨c1,c2⟩:=b1.int 16;unfold RS.bthd;split
 ·exact⟨c1,c2.trans (b2.trans a2)⟩
 ·exact⟨c1.fail _ _,by rw[AY];exact c2.trans (b2.trans a2)⟩
def NC {s:RS} (h:Ak s):0≤s.bthd.2.2.1∧s.bthd.2.2.1<4611686018427387904∧0≤s.bthd.2.2.2∧s.bthd.2.2.2≤16:=by
 have⟨a1,a2⟩:=Bc h Ac;have⟨b1,b2⟩:=Bc a1 AL;have hi:=CB (s:=((s.epo Ac).1.epo AL).1) (m:=16) b1.bys;have hp:0≤((s.epo Ac).1.epo AL).2∧((s.epo Ac).1.epo AL).2<4611686018427387904:=by
  by_cases hc:((s.epo Ac).1.epo AL).1.code=0
  ·have⟨_,c1,_,c2,_⟩:=HV a1 hc;exact⟨c1,by simpa[AL]using c2⟩
  ·rw[a8 hc];omega
 exact⟨hp.1,hp.2,hi.1,by have:=hi.2;show(((s.epo Ac).1.epo AL).1.int 16).2≤_;omega⟩
def Ho {s:RS} (h:Ak s):Ak s.bthe.1∧s.bthe.1.l=s.l:=by
 have⟨a1,a2⟩:=FT h;have⟨b1,b2⟩:=Jh (S9 (NC h).1) s.bthd.2.2.2.toNat s.bthd.1 [] a1 trivial;exact⟨b1,b2.trans a2⟩
def S8 {base:Int} (b0:0≤base) {s:RS} (hs:Ak s) (hc:s.code=0) (N:Nat):Wf (C_ base).nx [] ((C_ base).many N s []).2∧((C_ base).many N s []).2.length≤N∧(((C_ base).many N s []).1.code=0->((C_ base).many N s []).2.length=N):=by
 by_cases h:((C_ base).many N s []).1.code=0
 ·have⟨r,h1,h2,h3,_⟩:=Ns (S9 b0) N s [] hs trivial h;rw[nil_append]at h1 h3;rw[h1];exact⟨h3,Om,λ_=>h2⟩
 ·rw[HK N s [] (.inr rfl) h];exact⟨trivial,Si,λh'=>absurd h' h⟩
def LV {base:Int} {l:List Hh} (h:Wf (C_ base).nx [] l):(∀e∈LW l,e.lk.length≤1000000∧∀x∈e.lk,x.bk.length≤1000000)∧(∀n∈Ny l,0≤n∧n≤1048576):=by
 have key:∀x∈l,(x.1.length≤1000000∧∀y∈x.1,y.bk.length≤1000000)∧0≤x.2∧x.2≤1048576:=λx hx=>by
  obtain⟨i,hi,rfl⟩:=getElem_of_mem hx;have hn:=C5 i hi h;have hp:=NO (I7 i h);rw[nil_append]at hn;have⟨r1,r2⟩:=(FQ hn.lk).1 hn.right;refine⟨⟨Om,λy hy=>?_⟩,hn.sz,by have:=hn.sum;omega⟩;obtain⟨j,hj,rfl⟩:=getElem_of_mem hy;have:=(C5 j hj r2).2.2.2.2;omega
 constructor
 ·intro e he;simp only[LW,mem_map]at he;obtain⟨x,hx,rfl⟩:=he;exact(key x hx).1
 ·intro n hn;simp only[Ny,mem_map]at hn;obtain⟨x,hx,rfl⟩:=hn;exact(key x hx).2
def bI {s:RS} (h:Ak s):s.blk.2.length≤1048576:=by
 unfold RS.blk;split
 ·rename_i hw;have hc:s.blkL.1.code=0:=by
   unfold RS.blkL at hw ⊢;split at hw
   ·rename_i hc;rw[if_pos hc];exact hc
   ·simp at hw
  exact(TI h hc).2.2.2
 ·simp
def jI {h:RS} {q:List Hh} {d:RS×List Int} (hd:Ak d.1):Ak (RS.btfi h q d)∧(RS.btfi h q d).l=d.1.l:=by
 unfold RS.btfi;split
 ·exact⟨hd,rfl⟩
 ·exact⟨hd.fail _ _,AY _ _ _⟩
def E0 {s:RS} (h:Ak s) {blk:RS->RS×List Int} (hb:∀s,Ak s->Ak (blk s).1∧(blk s).1.l=s.l):Ak (s.btch blk).1∧(s.btch blk).1.l=s.l:=by
 have⟨a1,a2⟩:=FT h;have⟨b1,b2⟩:=Ho h;have⟨c1,c2⟩:=hb _ b1;have⟨d1,d2⟩:=jI (h:=s.bthe.1) (q:=s.bthe.2) c1;unfold RS.btch
 repeat' split
 ·exact⟨d1,d2.trans (c2.trans b2)⟩
 ·exact⟨d1,d2.trans (c2.trans b2)⟩
 ·exact⟨a1,a2⟩
structure Mk where
 pos:Int
 cnt:Int
 at_:Int
deriving DecidableEq
def Mk.fin (m:Mk):Int:=m.pos+m.cnt
def Mk.ok (m:Mk):Prop:=0≤m.pos∧m.pos<18446744073709551616∧ -9223372036854775808≤m.cnt∧m.cnt<9223372036854775808∧ -9223372036854775808≤m.at_∧m.at_<9223372036854775808
def Dq:Mk:=⟨0,0,0⟩
def Mk.fits (m:Mk) (pos at_:Int):Prop:=1≤m.cnt∧m.cnt≤16∧pos≤m.pos∧m.pos+m.cnt≤4611686018427387904∧at_<m.at_∧m.at_≤1099511627775
instance (m:Mk) (pos at_:Int):Decidable (m.fits pos at_):=by unfold Mk.fits;infer_instance
def AJ (acc:List Mk):Mk:=acc.getLastD Dq
def ER (acc:List Mk) (m:Mk):AJ (acc++[m])=m:=by simp[AJ]
def IG (acc:List Mk) (m:Mk):Prop:=m.fits (AJ acc).fin (AJ acc).at_
def HJ (acc:List Mk) (m:Mk):List Int:=vb (m.pos-(AJ acc).fin)++(vb m.cnt++vb (m.at_-(AJ acc).at_-1))
def RS.m3 (s:RS):RS:=((s.vint.1.int 16).1.int 1099511627775).1
def RS.mBy (s:RS):Int:=s.vint.2
def RS.mCnt (s:RS):Int:=(s.vint.1.int 16).2
def RS.mOn (s:RS):Int:=((s.vint.1.int 16).1.int 1099511627775).2
def RS.mark (s:RS) (p:Mk):Mk:=⟨p.fin+s.mBy,s.mCnt,p.at_+s.mOn+1⟩
def DW:DH Mk:=
 ⟨λs acc=>if s.m3.code=0∧¬(s.mark (AJ acc)).fits (AJ acc).fin (AJ acc).at_ then(s.m3.fail 3 s.at_,Dq)else(s.m3,s.mark (AJ acc)),HJ,IG⟩
def aM {s:RS} (h:Ak s):Ak s.m3∧s.m3.l=s.l:=by
 have⟨a,b⟩:=h.vint;have⟨c,d⟩:=a.int 16;have⟨e,f⟩:=c.int 1099511627775;exact⟨e,f.trans (d.trans b)⟩
def FR {acc:List Mk} (h:Wf IG [] acc):0≤(AJ acc).fin∧(AJ acc).fin≤4611686018427387904∧0≤(AJ acc).at_∧(AJ acc).at_≤1099511627775∧0≤(AJ acc).pos∧0≤(AJ acc).cnt:=by
 have gen:∀n,∀acc:List Mk,acc.length=n->Wf IG [] acc->0≤(AJ acc).fin∧(AJ acc).fin≤4611686018427387904∧0≤(AJ acc).at_∧(AJ acc).at_≤1099511627775∧0≤(AJ acc).pos∧0≤(AJ acc).cnt:=by
  intro n
  induction n with
  |zero=>intro acc h _;rw[eq_nil_of_length_eq_zero h];decide
  |succ n ih=>
   intro acc h hw;rcases eq_nil_or_concat acc with rfl|⟨l,x,rfl⟩
   ·simp at h
   ·rw[concat_eq_append]at h hw ⊢;have⟨h1,h2⟩:=CO.1 hw;have:=ih l (by simpa using h) h1;rw[ER];have h3:x.fits (AJ ([]++l)).fin (AJ ([]++l)).at_:=h2;simp only[nil_append]at h3;have⟨q1,q2,q3,q4,q5,q6⟩:=h3;unfold Mk.fin at*;omega
 exact gen _ acc rfl h
def nY {s:RS} (h:Ak s):0≤s.mBy∧s.mBy<18446744073709551616∧0≤s.mCnt∧s.mCnt≤16∧0≤s.mOn∧s.mOn≤1099511627775:=by
 have a:=A8 (s:=s) h.bys;have b:=CB (s:=s.vint.1) (m:=16) h.vint.1.bys;have c:=CB (s:=(s.vint.1.int 16).1) (m:=1099511627775) (h.vint.1.int 16).1.bys;unfold RS.mBy RS.mCnt RS.mOn;omega
def vX {s:RS} (h:Ak s) (hc:s.m3.code=0):s.code=0∧s.vint.1.code=0∧(s.vint.1.int 16).1.code=0∧s.at_<s.m3.at_∧s.l.take s.m3.at_.toNat=s.l.take s.at_.toNat++(vb s.mBy++(vb s.mCnt++vb s.mOn)):=by
 have⟨a,b⟩:=h.vint;have⟨c,d⟩:=a.int 16;have⟨i1,i2,i3,i4,i5⟩:=Di c hc;have⟨j1,j2,j3,j4,j5⟩:=Di a i1;have⟨v1,v2,v3⟩:=B8 h j1;have ha:=DT h j1;refine⟨v3,j1,i1,by unfold RS.m3;omega,?_⟩;rw[d,b]at i5;rw[b]at j5;unfold RS.m3 RS.mBy RS.mCnt RS.mOn;rw[i5,j5,v1];simp
def F7:DW.Ok:=by
 refine⟨λs acc h _=>?_,λs acc h hw hc=>?_,λs acc x r h hc hw hx hr=>?_,λacc x hw hx=>?_⟩
 ·have⟨a,c⟩:=aM h;simp only[DW];split
  ·exact⟨a.fail _ _,by rw[AY];exact c⟩
  ·exact⟨a,c⟩
 ·simp only[DW]at hc ⊢;by_cases hf:s.m3.code=0∧¬(s.mark (AJ acc)).fits (AJ acc).fin (AJ acc).at_
  ·rw[if_pos hf]at hc;exact absurd hc (BF _ _ hf.1 De)
  ·rw[if_neg hf]at hc ⊢;have⟨v1,v2,v3,v4,v5⟩:=vX h hc;have hfit:(s.mark (AJ acc)).fits (AJ acc).fin (AJ acc).at_:=by
    by_cases hq:(s.mark (AJ acc)).fits (AJ acc).fin (AJ acc).at_
    ·exact hq
    ·exact absurd ⟨hc,hq⟩ hf
   refine⟨v1,hfit,v4,?_⟩;simp only;rw[v5];congr 1;unfold HJ RS.mark;simp only;rw[show(AJ acc).fin+s.mBy-(AJ acc).fin=s.mBy from by omega,show(AJ acc).at_+s.mOn+1-(AJ acc).at_-1=s.mOn from by omega]
 ·have hl:=FR hw;have hx':=hx;have⟨q1,q2,q3,q4,q5,q6⟩:=hx';simp only[DW,HJ,append_assoc]at hr ⊢;have v:=Fc hc Om Om hr;have a:=Cf h hr;have hr2:(s.adv ((vb (x.pos-(AJ acc).fin)).length:Int)).rest=vb x.cnt++(vb (x.at_-(AJ acc).at_-1)++r):=by rw[BC h.at0,hr,drop_left]
  have i:=Jl (m:=16) (show(s.adv ((vb (x.pos-(AJ acc).fin)).length:Int)).code=0 from hc) Om Om Om hr2;have b:=Cf a hr2;have hr3:((s.adv ((vb (x.pos-(AJ acc).fin)).length:Int)).adv ((vb x.cnt).length:Int)).rest=vb (x.at_-(AJ acc).at_-1)++r:=by rw[BC a.at0,hr2,drop_left]
  have j:=Jl (m:=1099511627775) (show((s.adv ((vb (x.pos-(AJ acc).fin)).length:Int)).adv ((vb x.cnt).length:Int)).code=0 from hc) Om Om Om hr3;have e3:s.m3=s.adv ((vb (x.pos-(AJ acc).fin)++(vb x.cnt++vb (x.at_-(AJ acc).at_-1))).length:Int):=by
   unfold RS.m3;rw[v];simp only;rw[i];simp only;rw[j];simp only[BU,length_append];congr 1;omega
  have eb:s.mark (AJ acc)=x:=by
   unfold RS.mark RS.mBy RS.mCnt RS.mOn;rw[v];simp only;rw[i];simp only;rw[j];cases x;simp only[Mk.mk.injEq];refine⟨Om,trivial,Om⟩
  rw[eb,e3,if_neg (λhh=>hh.2 hx)]
 ·have hl:=FR hw;have⟨q1,q2,q3,q4,q5,q6⟩:=hx;intro y hy;simp only[DW,HJ,mem_append]at hy;rcases hy with hy|hy|hy
  ·exact B6 Om Om y hy
  ·exact B6 Om Om y hy
  ·exact B6 Om Om y hy
def DI:Int->Int->List Mk->Bool
 |_,_,[]=>true
 |pos,at_,m::r=>decide (m.fits pos at_)&&DI m.fin m.at_ r
def So:∀{l acc:List Mk},DI (AJ acc).fin (AJ acc).at_ l=true↔Wf IG acc l:=by
 intro l
 induction l with
 |nil=>intro acc;simp[DI,Wf]
 |cons m l ih=>
  intro acc;have:=ih (acc:=acc++[m]);rw[ER]at this;simp only[DI,Wf,Bool.and_eq_true,decide_eq_true_eq,this];rfl
def A5 (l:List Mk):Bool:=DI 0 0 l&&decide (l.length≤16)
def BY {l:List Mk}:A5 l=true↔Wf IG [] l∧l.length≤16:=by
 unfold A5;rw[Bool.and_eq_true,decide_eq_true_eq];have:=So (l:=l) (acc:=[]);rw[show(AJ []).fin=0 from rfl,show(AJ []).at_=0 from rfl]at this;rw[this]
def CJ (l:List Mk):List Int:=vb l.length++Bo HJ [] l
def RS.marks (s:RS):RS×List Mk:=DW.counted 16 s
def Yx (l:List Mk) (k:Nat) (h:k≤l.length):AJ (l.take k)=if k=0 then Dq else l.getD (k-1) Dq:=by
 cases k with
 |zero=>rfl
 |succ k=>
  rw[take_succ_eq_append_getElem (show k<l.length from by omega),ER];simp[show k<l.length from by omega]
def G6 (acc:List Mk) (m:Mk):List Int:=[m.pos-(AJ acc).fin,m.cnt,m.at_-(AJ acc).at_-1]
def Lw:∀(l acc:List Mk),JW (Bo G6 acc l)=Bo HJ acc l:=by
 intro l
 induction l with
 |nil=>intro acc;rfl
 |cons x l ih=>
  intro acc;simp only[Bo];rw[←ih (acc++[x])];simp[JW,G6,HJ]
def fU:∀(l acc:List Mk),(Bo G6 acc l).length=3*l.length:=by
 intro l
 induction l with
 |nil=>intro acc;rfl
 |cons x l ih=>intro acc;simp only[Bo,length_append,ih,G6,length_cons,length_nil];omega
def Kb (l:List Mk):(CJ l).length≤10+30*l.length∧l.length<(CJ l).length:=by
 have h1:=Nh (Bo G6 [] l);have h2:=Aa1 (Bo G6 [] l);rw[Lw,fU]at h1 h2;have h3:=A7 (l.length:Int);unfold CJ;rw[length_append];omega
def Yk {l:List Mk} (h:Wf IG [] l) (hn:l.length<18446744073709551616):AW (CJ l):=by
 intro y hy;rcases mem_append.1 hy with hy|hy
 ·exact B6 Om Om y hy
 ·exact Ph (F:=DW) (acc:=[]) F7 trivial h y hy
def dU {l:List Mk} {k:Nat} (h:k<l.length) (hf:¬(l.getD k Dq).fits (AJ (l.take k)).fin (AJ (l.take k)).at_):A5 l=false:=by
 cases hr:A5 l with
 |false=>rfl
 |true=>
  have h2:=C5 k h (BY.1 hr).1;have h3:l[k]=l.getD k Dq:=by simp[h]
  rw[h3]at h2;simp only[nil_append]at h2;exact absurd h2 hf
def Fa.failAt {s t:RS} (h:Fa t) (hs:Ak s) (hl:t.l=s.l) (c:Int):Fa (t.fail c s.at_):=h.fail hs.at0 (by rw[hl];exact hs.at1)
def Fa.ehead {s:RS} (hf:Fa s) (h:Ak s) {pos:Int} (p0:0≤pos) (p1:pos<18446744073709551616) (m:Int):Fa (s.ehead pos m).1:=by
 have h1:=(hf.links h p1).int (Ec h p0 p1).1 m;unfold RS.ehead;split<;>exact h1
def Fa.marks {s:RS} (hf:Fa s) (h:Ak s):Fa s.marks.1:=by
 refine(Fa.many (F:=DW) (λs acc hf h=>?_) _ _ _ (hf.int h 16) (h.int 16).1).1;have h1:Fa s.m3:=((hf.vint h).int h.vint.1 16).int (h.vint.1.int 16).1 1099511627775;have h2:=aM h;simp only[DW];split
 ·exact⟨h1.failAt h h2.2 3,h2.1.fail _ _⟩
 ·exact⟨h1,h2.1⟩
def C8 {s:RS} (h:Ak s):Ak s.rest9∧s.rest9.l=s.l:=by
 unfold RS.rest9;split
 ·exact⟨h.fail _ _,AY _ _ _⟩
 ·exact⟨h,rfl⟩
def Fa.bthe {s:RS} (hf:Fa s) (h:Ak s):Fa s.bthe.1:=by
 have⟨a1,a2⟩:=Bc h Ac;have⟨b1,b2⟩:=Bc a1 AL;have f2:=((hf.epo h Ac).epo a1 AL);have f3:=f2.int b1 16;have hd:Fa s.bthd.1:=by
  unfold RS.bthd;split
  ·exact f3
  ·exact f3.failAt b1 (b1.int 16).2 3
 have hb:=NC h;refine(Fa.many (F:=C_ s.bthd.2.2.1) (λs' acc hf' h'=>?_) _ _ _ hd (FT h).1).1;simp only[C_];split
 ·exact⟨hf'.ehead h' Om Om _,(Pi h' Om Om _).1⟩
 ·exact⟨hf'.fail (Int.le_refl _) (by have:=h'.at0;have:=h'.at1;omega),h'.fail _ _⟩
def Fa.bthd {s:RS} (hf:Fa s) (h:Ak s):Fa s.bthd.1:=by
 have⟨a1,a2⟩:=Bc h Ac;have⟨b1,b2⟩:=Bc a1 AL;have f2:=((hf.epo h Ac).epo a1 AL);have f3:=f2.int b1 16;unfold RS.bthd;split
 ·exact f3
 ·exact f3.failAt b1 (b1.int 16).2 3
def Fa.btch {s:RS} (hf:Fa s) (h:Ak s) {blk:RS->RS×List Int} (hb:∀s,Ak s->Ak (blk s).1∧(blk s).1.l=s.l) (hfb:∀s,Ak s->Fa s->Fa (blk s).1):Fa (s.btch blk).1:=by
 have h1:=Ho h;have h2:=hfb _ h1.1 (hf.bthe h);have h3:Fa (RS.btfi s.bthe.1 s.bthe.2 (blk s.bthe.1)):=by
  unfold RS.btfi;split
  ·exact h2
  ·exact h2.failAt h1.1 (hb _ h1.1).2 3
 unfold RS.btch
 repeat' split
 ·exact h3
 ·exact h3
 ·exact hf.bthd h
structure SD where
 r:RS
 ep:Int
 bt:List Bt
 ms:List Mk
 w:Bool
 fst:Int
def Ey (ep:Int) (bs:List Bt) (b:Bt):Bool:=decide (b.ep≤ep)&&(decide (bs.length=0)||(decide ((Bf bs).ep≤b.ep)&&decide ((Bf bs).base+(Bf bs).en.length≤b.base)))
def RS.wth (s:RS) (f:Int×Int) (a:Int):RS:=if f.1=0 then s else s.fail f.1 (f.2+a)
def SD.pay (S:SD):SD×(List Int×Int):=({S with r:=(S.r.frame 2097152).1,fst:=S.r.at_},((S.r.frame 2097152).2,(S.r.frame 2097152).1.at_-4-(S.r.frame 2097152).2.length))
abbrev QN:=RS->RS×(Bt×Bool)
def SD.batR (S:SD) (D:RS×(Bt×Bool)) (a:Int):RS:=
 if(S.r.wth (D.1.rest9.code,D.1.rest9.fat) a).code=0 then
  (if S.bt.length=16 then(S.r.wth (D.1.rest9.code,D.1.rest9.fat) a).fail 2 S.fst else if Ey S.ep S.bt D.2.1=false then(S.r.wth (D.1.rest9.code,D.1.rest9.fat) a).fail 13 S.fst else S.r.wth (D.1.rest9.code,D.1.rest9.fat) a)
 else S.r.wth (D.1.rest9.code,D.1.rest9.fat) a
def SD.bat (rd:QN) (S:SD) (q:RS) (a:Int):SD:=
 if(S.r.wth ((rd q).1.rest9.code,(rd q).1.rest9.fat) a).code=0 then
  {S with r:=S.batR (rd q) a,bt:=S.bt++[(rd q).2.1],ms:=S.ms++[⟨(rd q).2.1.base,(rd q).2.1.en.length,S.fst⟩],w:=S.w&&(rd q).2.2}
 else{S with r:=S.r.wth ((rd q).1.rest9.code,(rd q).1.rest9.fat) a}
def SD.idxR (S:SD) (q:RS) (a:Int):RS:=
 if(S.r.wth (q.marks.1.rest9.code,q.marks.1.rest9.fat) a).code=0∧¬q.marks.2=S.ms then(S.r.wth (q.marks.1.rest9.code,q.marks.1.rest9.fat) a).fail 12 S.fst else S.r.wth (q.marks.1.rest9.code,q.marks.1.rest9.fat) a
def SD.idx (S:SD) (q:RS) (a:Int):SD:={S with r:=S.idxR q a}
def SD.one (rd:QN) (S:SD):SD×Bool:=
 if S.pay.1.r.code=0 then
  (if(RS.new S.pay.2.1).byte.2=1 then(S.pay.1.bat rd (RS.new S.pay.2.1).byte.1 S.pay.2.2,false)
  else if(RS.new S.pay.2.1).byte.2=2 then(S.pay.1.idx (RS.new S.pay.2.1).byte.1 S.pay.2.2,true)
  else({S.pay.1 with r:=S.pay.1.r.wth (((RS.new S.pay.2.1).byte.1.fail 7 0).code,((RS.new S.pay.2.1).byte.1.fail 7 0).fat) S.pay.2.2},false))
 else(S.pay.1,true)
def SD.recs (rd:QN):Nat->SD->SD
 |0,S=>S
 |n+1,S=>if S.r.code=0 then(if(S.one rd).2=true then(S.one rd).1 else SD.recs rd n (S.one rd).1)else S
def RQ:∀(hs:List En) (ns d:List Int) (acc:List En),hs.length=ns.length->(GM hs ns d acc).2=true->(∀n∈ns,0≤n)->AW d->
 ∃r,(GM hs ns d acc).1=acc++r∧r.length=hs.length∧r.map (·.lk)=hs.map (·.lk)∧AK r=d∧r.map (λe=>(e.data.length:Int))=ns∧∀e∈r,AW e.data
 |[],[],d,acc,_,h,_,_=>by
  simp only[GM]at h ⊢;split at h
  ·rename_i hd;rw[if_pos hd];exact⟨[],Si,rfl,rfl,(eq_nil_of_length_eq_zero hd).symm▸rfl,rfl,Si⟩
  ·simp at h
 |[],_::_,_,_,hl,_,_,_=>by simp at hl
 |_::_,[],_,_,hl,_,_,_=>by simp at hl
 |e::hs,n::ns,d,acc,hl,h,hn,hb=>by
  simp only[GM]at h ⊢;split at h
  ·simp at h
  ·rename_i hc;rw[if_neg hc];have n0:=hn n Si;have⟨r,h1,h2,h3,h4,h5,h6⟩:=RQ hs ns (d.drop n.toNat) (acc++[⟨e.lk,d.take n.toNat⟩]) (by simpa using hl) h (λk hk=>hn k (by simp[hk])) (hb.drop _);have hlen:(d.take n.toNat).length=n.toNat:=by simp;omega
   refine⟨⟨e.lk,d.take n.toNat⟩::r,by rw[h1];simp,by simp[h2],by simp[h3],?_,?_,λx hx=>?_⟩
   ·show d.take n.toNat++AK r=d;rw[h4,take_append_drop]
   ·simp only[map_cons,hlen,h5];rw[Int.toNat_of_nonneg n0]
   ·rcases mem_cons.1 hx with rfl|hx
    ·exactλy hy=>hb y (mem_of_mem_take hy)
    ·exact h6 x hx
structure R1 (b:Bt):Prop where
 ok:b.ok
 len:b.en.length≤16
 sum:b.base+b.en.length≤4611686018427387904
 small:∀e∈b.en,e.lk.length≤16∧(∀x∈e.lk,x.bk.length≤4)∧e.data.length≤1048576
def R1.zero:R1 Cc:=⟨⟨De,De,De,De,λe he=>by cases he⟩,De,De,λe he=>by cases he⟩
def Rk {pos:Int} {l:List Lk} (hl:PL l) (hr:BH pos l=true):l.length≤16∧∀x∈l,x.bk.length≤4:=by
 have⟨r1,r2⟩:=(FQ hl).1 hr;refine⟨r1,λy hy=>?_⟩;obtain⟨j,hj,rfl⟩:=getElem_of_mem hy;exact(C5 j hj r2).2.2.2.2
def yL {s:RS} (h:Ak s) (hc:s.bthd.1.code=0):s.code=0∧1≤s.bthd.2.1∧s.bthd.2.1<4611686018427387904∧0≤s.bthd.2.2.1∧1≤s.bthd.2.2.2∧s.bthd.2.2.2≤16∧s.bthd.2.2.1+s.bthd.2.2.2≤4611686018427387904:=by
 have⟨a1,a2⟩:=Bc h Ac;have⟨b1,b2⟩:=Bc a1 AL;unfold RS.bthd at hc ⊢;simp only[]at hc ⊢;split at hc
 ·rename_i hf;have h3:=(Di b1 hc).1;have⟨e1,e2,e3,e4,_⟩:=HV a1 h3;have⟨g1,g2,g3,g4,_⟩:=HV h e1;have hfi:=Hc.1 hf;have:1≤(s.epo Ac).2∧(s.epo Ac).2<4611686018427387904:=by simpa[Ac]using g4
  exact⟨g1,this.1,this.2,e2,hfi.1.1,hfi.1.2,hfi.2.2⟩
 ·exact absurd hc (by unfold RS.fail;split;simp[BB];assumption)
def L7 {s:RS} (h:Ak s) {blk:RS->RS×List Int} (hb:∀s,Ak s->Ak (blk s).1∧AW (blk s).2∧(blk s).2.length≤1048576∧(s.code≠0->(blk s).1.code≠0)):
 R1 (s.btch blk).2∧((s.btch blk).1.code=0->1≤(s.btch blk).2.en.length∧1≤(s.btch blk).2.ep):=by
 unfold RS.btch;split
 ·rename_i hc;have⟨p1,p2,p3,p4,p5,p6,p7⟩:=yL h hc;have⟨k1,k2⟩:=Ho h;have⟨q1,q2,q3,q4⟩:=hb _ k1;split
  ·rename_i hf;have hdl:(FC (LW s.bthe.2) (Ny s.bthe.2) (blk s.bthe.1).2).2=true:=by
    cases hd:(FC (LW s.bthe.2) (Ny s.bthe.2) (blk s.bthe.1).2).2 with
    |true=>rfl
    |false=>
     unfold RS.btfi at hf;rw[hd,if_neg Si]at hf;exact absurd hf (by unfold RS.fail;split;simp[BB];assumption)
   have hcode:(blk s.bthe.1).1.code=0:=by
    unfold RS.btfi at hf;rw[if_pos hdl]at hf;exact hf
   have hcd:s.bthe.1.code=0:=by
    by_cases hz:s.bthe.1.code=0
    ·exact hz
    ·exact absurd hcode (q4 hz)
   have⟨w1,w2,w3⟩:=S8 p4 (FT h).1 hc s.bthd.2.2.2.toNat;have hlen:=w3 hcd;have⟨m1,m2⟩:=LV w1;have hle:(LW s.bthe.2).length=(Ny s.bthe.2).length:=by rw[F_,OZ]
   unfold FC at hdl ⊢;rw[if_pos hle]at hdl ⊢;have⟨r,r1,r2,r3,r4,r5,r6⟩:=RQ _ _ _ [] hle hdl (λn hn=>(m2 n hn).1) q2;rw[nil_append]at r1;rw[r1];have hrl:r.length=s.bthd.2.2.2.toNat:=by rw[r2,F_];exact hlen
   have hlk:∀e∈r,PL e.lk∧e.lk.length≤16∧∀x∈e.lk,x.bk.length≤4:=λe he=>by
    have h1:e.lk∈r.map (·.lk):=mem_map.2 ⟨e,he,rfl⟩;rw[r3]at h1;simp only[LW,map_map,mem_map,Function.comp]at h1;have⟨x,hx,hxe⟩:=h1;obtain⟨i,hi,rfl⟩:=getElem_of_mem hx;have hn:=C5 i hi w1;rw[←hxe];exact⟨hn.lk,Rk hn.lk hn.right⟩
   have hdt:∀e∈r,e.data.length≤1048576:=λe he=>by
    have h1:(e.data.length:Int)∈r.map (λe=>(e.data.length:Int)):=mem_map.2 ⟨e,he,rfl⟩;rw[r5]at h1;have:=(m2 _ h1).2;omega
   exact⟨⟨⟨by simp only[];omega,by simp only[];omega,p4,by simp only[];omega,λe he=>⟨(hlk e he).1,r6 e he⟩⟩,by simp only[];omega,by simp only[];omega,λe he=>⟨(hlk e he).2.1,(hlk e he).2.2,hdt e he⟩⟩,λ_=>⟨by simp only[];omega,p2⟩⟩
  ·exact⟨R1.zero,λh=>by rename_i hf;exact absurd h hf⟩
 ·exact⟨R1.zero,λh=>by rename_i hf;exact absurd h hf⟩
def Dr {s:RS} (h:¬s.code=0) (c a:Int):s.fail c a=s:=by unfold RS.fail;rw[if_neg h]
def CK {s:RS} {c a:Int} (hc:c≠0):¬(s.fail c a).code=0:=by
 unfold RS.fail;split
 ·simp[BB,hc]
 ·assumption
def yQ {s:RS} (h:s.code≠0):s.blk.1.code≠0:=by
 intro hc;have h1:s.blkL.1.code=0:=by
  unfold RS.blk at hc;split at hc
  ·exact hc
  ·exact absurd hc (CK De)
 unfold RS.blkL at h1;have h2:s.bdat.1.code=0:=by split at h1<;>first|assumption|exact h1
 have h3:s.bway.1.code=0:=by
  unfold RS.bdat at h2;split at h2
  ·assumption
  ·exact h2
 have h4:(s.int 1048576).1.code=0:=by
  have:s.bway.1=(s.int 1048576).1.byte.1:=rfl;rw[this]at h3;have e:(s.int 1048576).1.byte.1=((s.int 1048576).1.take 1).1:=by unfold RS.byte RS.take;split<;>rfl
  rw[e]at h3;exact(LC h3).1
 have h5:s.vint.1.code=0:=by
  unfold RS.int at h4;rw[if_pos De]at h4;unfold RS.most at h4;split at h4
  ·exact absurd h4 (CK De)
  ·exact h4
 unfold RS.vint at h5;rw[if_neg h]at h5;exact h h5
def Hq:∀s:RS,Ak s->Ak s.blk.1∧AW s.blk.2∧s.blk.2.length≤1048576∧(s.code≠0->s.blk.1.code≠0):=by
 intro s h;refine⟨(CE h).1,?_,bI h,yQ⟩;unfold RS.blk;split
 ·rename_i hw;have hc:s.blkL.1.code=0:=by
   unfold RS.blkL at hw ⊢;split at hw
   ·rename_i hc;rw[if_pos hc];exact hc
   ·simp at hw
  exact(TI h hc).2.2.1
 ·intro x hx;simp at hx
structure ZQ (rd:QN):Prop where
 keep:∀q,Ak q->Ak (rd q).1∧(rd q).1.l=q.l
 fa:∀q,Ak q->Fa q->Fa (rd q).1
 S:∀q,Ak q->R1 (rd q).2.1
def BD:QN:=λq=>((q.btch RS.blk).1,((q.btch RS.blk).2,true))
def St:ZQ BD:=⟨λq h=>E0 h λs h=>CE h,λq h hf=>hf.btch h (λs h=>CE h) (λs h hf=>hf.blk h),λq h=>(L7 h Hq).1⟩
structure NE (L:List Int) (S:SD):Prop where
 r:Ak S.r
 l:S.r.l=L
 f0:0≤S.fst
 f1:S.fst≤L.length
 bt:∀b∈S.bt,R1 b
 ml:S.ms.length=S.bt.length
 mok:∀m∈S.ms,m.ok
 n:S.bt.length≤17
 nn:S.r.code=0->S.bt.length≤16
 hn:L.length≤1000000
def LY {s:RS} (h:Ak s) (m:Int):AW (s.frame m).2∧(s.frame m).2.length≤s.l.length:=by
 have⟨h1,h2,h3,h4⟩:=E2 h (BK m);unfold RS.frame
 repeat' split
 ·exact⟨h3,h4⟩
 ·exact⟨λx hx=>by simp at hx,Si⟩
 ·exact⟨λx hx=>by simp at hx,Si⟩
def KJ {s:RS} (h:Ak s) (f:Int×Int) (a:Int):Ak (s.wth f a)∧(s.wth f a).l=s.l:=by
 unfold RS.wth;split
 ·exact⟨h,rfl⟩
 ·exact⟨h.fail _ _,AY _ _ _⟩
def KK {s:RS} {f:Int×Int} {a:Int} (h:(s.wth f a).code=0):s.code=0∧f.1=0∧s.wth f a=s:=by
 unfold RS.wth at h ⊢;split at h
 ·rename_i hf;rw[if_pos hf];exact⟨h,hf,rfl⟩
 ·rename_i hf;exact absurd h (CK hf)
def IM {s:RS} (h:Ak s) (m:Int) (hc:(s.frame m).1.code=0):0≤(s.frame m).1.at_-4-(s.frame m).2.length∧(s.frame m).1.at_≤s.l.length∧s.at_<(s.frame m).1.at_:=by
 have⟨k1,k2⟩:=BA h m;have⟨g1,g2,g3⟩:=Kq hc;have⟨b1,b2,b3,b4⟩:=E2 h (BK m);have ht:=Be b1 (n:=4) (show((s.blob (BK m)).1.take 4).1.code=0 from g1);have hp:=Kz h (BK m) ht.1;have e1:(s.frame m).1.at_=(s.blob (BK m)).1.at_+4:=by rw[g3];exact ht.2.2.2.1
 have e2:(s.frame m).2=(s.blob (BK m)).2:=by rw[g3]
 have a1:=k1.at1;rw[k2]at a1;exact⟨by rw[e1,e2];omega,a1,(Fo h hc).2.2.2.1⟩
def Oq {L:List Int} {S:SD} (h:NE L S) (hc:S.r.code=0):NE L S.pay.1∧AW S.pay.2.1∧S.pay.2.1.length≤1000000:=by
 have⟨k1,k2⟩:=BA h.r 2097152;have⟨b1,b2⟩:=LY h.r 2097152;have h0:=h.r.at0;have h1:=h.r.at1;rw[h.l]at h1;refine⟨⟨k1,k2.trans h.l,h0,h1,h.bt,h.ml,h.mok,h.n,λ_=>h.nn hc,h.hn⟩,b1,?_⟩;have:=h.hn;rw[h.l]at b2;exact Nat.le_trans b2 this
def dR {L:List Int} {rd:QN} (hrd:ZQ rd) {S:SD} (h:NE L S) (hc:S.r.code=0) {q:RS} (hq:Ak q) (a:Int):NE L (S.bat rd q a):=by
 have⟨w1,w2⟩:=KJ h.r ((rd q).1.rest9.code,(rd q).1.rest9.fat) a;have hS:=hrd.S q hq;have hn:=h.nn hc;have f0:=h.f0;have f1:=h.f1;have hh:=h.hn;unfold SD.bat;split
 ·rename_i hw;have hR:Ak (S.batR (rd q) a)∧(S.batR (rd q) a).l=L∧((S.batR (rd q) a).code=0->S.bt.length≠16):=by
   unfold SD.batR;rw[if_pos hw]
   repeat' split
   ·exact⟨w1.fail _ _,by rw[AY];exact w2.trans h.l,λhz=>absurd hz (CK De)⟩
   ·exact⟨w1.fail _ _,by rw[AY];exact w2.trans h.l,λhz=>absurd hz (CK De)⟩
   ·rename_i h16 _;exact⟨w1,w2.trans h.l,λ_=>h16⟩
  refine⟨hR.1,hR.2.1,f0,f1,λb hb=>?_,by simp[h.ml],λm hm=>?_,by simp only[length_append,length_singleton];omega,λhz=>?_,hh⟩
  ·rcases mem_append.1 hb with hb|hb
   ·exact h.bt b hb
   ·simp at hb;subst hb;exact hS
  ·rcases mem_append.1 hm with hm|hm
   ·exact h.mok m hm
   ·simp at hm;subst hm;have h1:=hS.ok.b0;have h2:=hS.sum;have h3:=hS.len;refine⟨h1,?_,?_,?_,?_,?_⟩<;>simp only[]<;>omega
  ·have:=hR.2.2 hz;simp only[length_append,length_singleton];omega
 ·exact⟨w1,w2.trans h.l,f0,f1,h.bt,h.ml,h.mok,h.n,λ_=>hn,hh⟩
def oU {L:List Int} {S:SD} (h:NE L S) (hc:S.r.code=0) (q:RS) (a:Int):NE L (S.idx q a):=by
 have⟨w1,w2⟩:=KJ h.r (q.marks.1.rest9.code,q.marks.1.rest9.fat) a;have hR:Ak (S.idxR q a)∧(S.idxR q a).l=L:=by
  unfold SD.idxR;split
  ·exact⟨w1.fail _ _,by rw[AY];exact w2.trans h.l⟩
  ·exact⟨w1,w2.trans h.l⟩
 exact⟨hR.1,hR.2,h.f0,h.f1,h.bt,h.ml,h.mok,h.n,λ_=>h.nn hc,h.hn⟩
def K0 {L:List Int} {rd:QN} (hrd:ZQ rd) {S:SD} (h:NE L S) (hc:S.r.code=0):NE L (S.one rd).1∧((S.one rd).1.r.code=0->S.r.at_<(S.one rd).1.r.at_):=by
 have⟨p1,p2,p3⟩:=Oq h hc;have hok:Ak (RS.new S.pay.2.1):=Ak.new p2 Om;have⟨q1,q2⟩:=RS.ok.byte_ hok;unfold SD.one;split
 ·rename_i hp;have hlt:=(IM h.r 2097152 hp).2.2;have e:S.pay.1.r.at_=(S.r.frame 2097152).1.at_:=rfl
  repeat' split
  ·refine⟨dR hrd p1 hp q1 _,λhz=>?_⟩;simp only[]at hz ⊢;unfold SD.bat at hz ⊢;split at hz
   ·rename_i hw;rw[if_pos hw];simp only[]at hz ⊢;unfold SD.batR at hz ⊢;rw[if_pos hw]at hz ⊢
    repeat' split at hz
    ·exact absurd hz (CK De)
    ·exact absurd hz (CK De)
    ·rename_i g1 g2;rw[if_neg g1,if_neg g2,(KK hw).2.2];exact hlt
   ·rename_i hw;exact absurd hz hw
  ·refine⟨oU p1 hp _ _,λhz=>?_⟩;simp only[]at hz ⊢;unfold SD.idx SD.idxR at hz ⊢;simp only[]at hz ⊢;split at hz
   ·exact absurd hz (CK De)
   ·rename_i hw;rw[if_neg hw,(KK hz).2.2];exact hlt
  ·have⟨w1,w2⟩:=KJ p1.r (((RS.new S.pay.2.1).byte.1.fail 7 0).code,((RS.new S.pay.2.1).byte.1.fail 7 0).fat) S.pay.2.2;refine⟨⟨w1,w2.trans p1.l,p1.f0,p1.f1,p1.bt,p1.ml,p1.mok,p1.n,λ_=>p1.nn hp,p1.hn⟩,λhz=>?_⟩;exact absurd (KK hz).2.1 (CK De)
 ·rename_i hp;exact⟨p1,λhz=>absurd hz hp⟩
def eK {L:List Int} {rd:QN} (hrd:ZQ rd):∀(n:Nat) (S:SD),NE L S->NE L (S.recs rd n):=by
 intro n
 induction n with
 |zero=>intro S h;exact h
 |succ n ih=>
  intro S h;simp only[SD.recs];split
  ·rename_i hc;have:=(K0 hrd h hc).1;split
   ·exact this
   ·exact ih _ this
  ·exact h
def DP (l:List Mk):Nat->Int
 |0=>0
 |k+1=>DP l k+(l.getD k Dq).cnt
def Q4 {l:List Mk} (h:A5 l=true) {k:Nat} (hk:k<l.length):(l.getD k Dq).fits (AJ (l.take k)).fin (AJ (l.take k)).at_:=by
 have h2:=C5 k hk (BY.1 h).1;have h3:l[k]=l.getD k Dq:=by simp[hk]
 rw[h3,nil_append]at h2;exact h2
def FY {l:List Mk} (h:A5 l=true) {k:Nat} (hk:k<l.length):0≤(l.getD k Dq).pos∧1≤(l.getD k Dq).cnt∧(l.getD k Dq).cnt≤16∧(l.getD k Dq).pos+(l.getD k Dq).cnt≤4611686018427387904:=by
 have h1:=Q4 h hk;have h2:=FR (I7 k (BY.1 h).1);have⟨a,b,c,d,e,f⟩:=h1;omega
def J5 {l:List Mk} (h:A5 l=true) {k:Nat} (hk:k+1<l.length):(l.getD k Dq).fin≤(l.getD (k+1) Dq).pos:=by
 have h1:=Q4 h hk;rw[Yx l (k+1) Om,if_neg Om]at h1;exact h1.2.2.1
def Sn {l:List Mk} (h:A5 l=true):∀(d i:Nat),i+d+1<l.length->(l.getD i Dq).fin≤(l.getD (i+d+1) Dq).pos:=by
 intro d
 induction d with
 |zero=>intro i hi;exact J5 h hi
 |succ d ih=>
  intro i hi;have h1:=ih i Om;have h2:=FY h (k:=i+d+1) Om;have h3:=J5 h (k:=i+d+1) hi;unfold Mk.fin at*;rw[show i+(d+1)+1=i+d+1+1 from by omega];omega
def KU {l:List Mk} (h:A5 l=true) {i j:Nat} (hij:i<j) (hj:j<l.length):(l.getD i Dq).fin≤(l.getD j Dq).pos:=by
 have:=Sn h (j-i-1) i Om;rwa[show i+(j-i-1)+1=j from by omega]at this
def WH {l:List Mk} (h:A5 l=true):∀k,k≤l.length->(k:Int)≤DP l k∧DP l k≤16*k:=by
 intro k
 induction k with
 |zero=>intro _;simp[DP]
 |succ k ih=>
  intro hk;have h1:=ih Om;have h2:=FY h (k:=k) Om;simp only[DP];omega
def tT {l:List Mk} (h:A5 l=true):∀k,k<l.length->DP l (k+1)≤(l.getD k Dq).fin-(l.getD 0 Dq).pos:=by
 intro k
 induction k with
 |zero=>intro _;simp only[DP,Mk.fin];omega
 |succ k ih=>
  intro hk;have h1:=ih Om;have h2:=J5 h hk;rw[show DP l (k+1+1)=DP l (k+1)+(l.getD (k+1) Dq).cnt from rfl];unfold Mk.fin at*;omega
def ES (pos:Int) (m:Mk):Bool:=decide (m.pos≤pos)&&decide (pos<m.fin)
def Nx {pos:Int} {m:Mk}:ES pos m=true↔m.pos≤pos∧pos<m.fin:=by simp[ES]
def wW {l:List Mk} (h:A5 l=true) {pos:Int} {i j:Nat} (hi:i<l.length) (hj:j<l.length) (h1:ES pos (l.getD i Dq)=true) (h2:ES pos (l.getD j Dq)=true):i=j:=by
 have a:=Nx.1 h1;have b:=Nx.1 h2;rcases Nat.lt_trichotomy i j with h3|h3|h3
 ·have:=KU h h3 hj;omega
 ·exact h3
 ·have:=KU h h3 hi;omega
def Ko (p:Mk->Bool) (l:List Mk):Nat:=l.findIdx p
def wZ {p:Mk->Bool} {l:List Mk} {k:Nat} (hk:k<l.length) (h1:p (l.getD k Dq)=true) (h2:∀i,i<k->p (l.getD i Dq)=false):Ko p l=k:=by
 have e:l.getD k Dq=l[k]:=by simp[hk]
 rw[e]at h1;unfold Ko;rw[findIdx_eq hk];refine⟨h1,λj hj=>?_⟩;have:=h2 j hj;have e2:l.getD j Dq=l[j]'Om:=by simp[show j<l.length by omega]
 rw[e2]at this;simpa using this
def gW {p:Mk->Bool} {l:List Mk} (h:∀i,i<l.length->p (l.getD i Dq)=false):Ko p l=l.length:=by
 unfold Ko;rw[findIdx_eq_length];intro x hx;obtain⟨i,hi,rfl⟩:=getElem_of_mem hx;have:=h i hi;have e2:l.getD i Dq=l[i]:=by simp[hi]
 rw[e2]at this;exact this
def Ep (l:List Mk):Int×Int:=if l.length=0∨A5 l=false then(0,0)else((l.getD 0 Dq).pos,(l.getD (l.length-1) Dq).fin)
def Ib (ep:Int) (l:List Mk) (a n:Int):Ft:=⟨ep,l.length,if A5 l=true then DP l l.length else 0,(Ep l).1,(Ep l).2,a,n⟩
def SD.want (S:SD):Ft:=Ib S.ep S.ms S.fst (S.r.at_-S.fst)
def SD.end1 (S:SD):RS:=if(Bh S.pay.2.1).1=S.want then S.pay.1.r.wth (Bh S.pay.2.1).2 S.pay.2.2 else(S.pay.1.r.wth (Bh S.pay.2.1).2 S.pay.2.2).fail 12 S.pay.1.fst
def SD.end2 (S:SD):RS:=if(S.end1.take 12).2=A4 (S.end1.at_-S.pay.1.fst)then(S.end1.take 12).1 else(S.end1.take 12).1.fail 12 S.end1.at_
def SD.fin (S:SD):RS:=if S.pay.1.r.code=0 then S.end2.rest9 else S.pay.1.r
def SD.start (l:List Int):SD:=⟨if(RS.new l).header.2.ver=3 then(RS.new l).header.1 else(RS.new l).header.1.fail 8 4,(RS.new l).header.2.ep,[],[],true,0⟩
def SD.all (rd:QN) (l:List Int):SD:=(SD.start l).recs rd (l.length+1)
def SD.done (S:SD):RS:=if S.r.code=0 then S.fin else S.r
def BT (rd:QN) (l:List Int):(EL×Bool)×(Int×Int):=
 if(SD.all rd l).done.code=0 then((⟨(SD.all rd l).ep,(SD.all rd l).bt⟩,(SD.all rd l).w),(0,0))else((CH,false),((SD.all rd l).done.code,(SD.all rd l).done.fat))
def KR {l:List Int} (hb:AW l) (hl:l.length≤1000000):NE l (SD.start l):=by
 have hok:Ak (RS.new l):=Ak.new hb Om;have⟨h1,h2⟩:=Fl hok;have h3:Ak (if(RS.new l).header.2.ver=3 then(RS.new l).header.1 else(RS.new l).header.1.fail 8 4)∧(if(RS.new l).header.2.ver=3 then(RS.new l).header.1 else(RS.new l).header.1.fail 8 4).l=l:=by
  split
  ·exact⟨h1,h2⟩
  ·exact⟨h1.fail _ _,by rw[AY];exact h2⟩
 exact⟨h3.1,h3.2,Int.le_refl _,by show(0:Int)≤_;omega,λb h=>by simp[SD.start]at h,rfl,λb h=>by simp[SD.start]at h,by simp[SD.start],λ_=>by simp[SD.start],hl⟩
def rS {rd:QN} (hrd:ZQ rd) {l:List Int} (hb:AW l) (hl:l.length≤1000000):NE l (SD.all rd l):=eK hrd _ _ (KR hb hl)
section
variable {P:Program} {f:FuncId} {args args₀:List AV} {S:List Ad} {K:KT}
def Ct.o1 {o o':Ad} {r₀ r:AV} (h:Ah P f args₀ [o] r₀ [o']) (i:Nat) (ha:∀N,args₀.map (λx=>x.ren (AH [i] N))=args) (ho:∀ρ,o.ren ρ=o) (ho':∀ρ,o'.ren ρ=o') (hd:o≠ .dead) (hr:∀N,r₀.ren (AH [i] N)=r):
 Ct P f args [(i,o)] (λ_=>r) [(i,o')] (λ_=>[]):=
 Ct.mk h [i] Si rfl Si (by simpa using hd) (λn N=>ha N) (λn N=>by simpa using hr N) (λn N=>by simp[ho]) (.inl λn N=>by simp[ho']) (λn N=>rfl)
def Aa.o1 {r:AV} {i:Nat} {o o':Ad} (h:Ct P f args [(i,o)] (λ_=>r) [(i,o')] (λ_=>[])) (hS:S[i]? =some o) (hK:K r [i] [(i,o')] []):Aa P f args S K:=Aa.of h (by simpa using hS) Si hK
end
section
variable {P:Program} {f:FuncId} {args args':List AV} {S:List Ad} {K:KT}
end
section
variable {P:Program} {f:FuncId} {args args':List AV} {S:List Ad} {K:KT} {m:Nat} {fn:Func}
end
structure Wa (x y:AV):Prop where
 len:x.cells.length=y.cells.length
 val:∀(G:Gh) (v:Value),Bv G x v->Bv G y v
 cel:∀(j:Nat) (a b:AV),x.cells[j]? =some a->y.cells[j]? =some b->∀(G:Gh) (v:Value),Bv G a v->Bv G b v
def Co (xs ys:List AV):Prop:=xs.length=ys.length∧∀(j:Nat) (x y:AV),xs[j]? =some x->ys[j]? =some y->Wa x y
def Wa.refl (x:AV):Wa x x:=⟨rfl,λ_ _ r=>r,λj a b ha hb G v r=>by rw[ha]at hb;injection hb with hb;subst hb;exact r⟩
def Co.nil:Co [] []:=⟨rfl,λj x y h=>by simp at h⟩
def Co.cons {x y:AV} {xs ys:List AV} (h:Wa x y) (k:Co xs ys):Co (x::xs) (y::ys):=by
 refine⟨by simp[k.1],λj a b ha hb=>?_⟩;cases j with
 |zero=>simp at ha hb;subst ha hb;exact h
 |succ j=>simp at ha hb;exact k.2 j a b ha hb
def Co.refl (xs:List AV):Co xs xs:=⟨rfl,λj x y hx hy=>by rw[hx]at hy;injection hy with hy;subst hy;exact .refl _⟩
def Co.map {α:Type} {f g:α->AV} (h:∀x,Wa (f x) (g x)) (l:List α):Co (l.map f) (l.map g):=⟨Si,λj x y hx hy=>by
 obtain⟨a,ha,rfl⟩:=A9 hx;obtain⟨b,hb,rfl⟩:=A9 hy;rw[ha]at hb;injection hb with hb;subst hb;exact h a⟩
def Co.app {xs ys xs' ys':List AV} (h:Co xs ys) (k:Co xs' ys'):Co (xs++xs') (ys++ys'):=by
 refine⟨by simp[h.1,k.1],λj x y hx hy=>?_⟩;rw[getElem?_append]at hx hy;rw[h.1]at hx;split at hx
 ·rename_i hl;rw[if_pos hl]at hy;exact h.2 j x y hx hy
 ·rename_i hl;rw[if_neg hl]at hy;exact k.2 _ x y hx hy
def Nl {x y:AV} (hx:x.cells=[x]) (hy:y.cells=[y]) (h:∀(G:Gh) (v:Value),Bv G x v->Bv G y v):Wa x y:=by
 refine⟨by rw[hx,hy];rfl,h,λj a b ha hb G v r=>?_⟩;rw[hx]at ha;rw[hy]at hb;cases j with
 |zero=>simp at ha hb;subst ha hb;exact h G v r
 |succ j=>simp at ha
def Wa.sl {t t':GF} {k k':Nat} {xs ys:List AV} (ht:t'=.none∨t'=t) (hk:k=k'∨xs=[]) (hw:Co xs ys):Wa (.sl t k xs) (.sl t' k' ys):=by
 have⟨hl,h⟩:=hw;refine Nl rfl rfl λG v r=>?_
 cases r with
 | @sl _ _ _ A c b o vs hc hA hk1 h1 h2 h3 ht1=>
   have htag:Ih G t' A ys.length c:=by
    rcases ht with rfl|rfl
    ·trivial
    ·rw[←hl];exact ht1
   have main:Bv G (.sl t' k' ys) (.slice A ys.length c):=by
    rcases hk with rfl|rfl
    ·refine .sl (b:=b) (o:=o) vs (by rw[←hl];exact hc) (by rw[←hl];exact hA) (λi y hy=>?_) (by rw[←hl];exact h1) (by rw[←hl];exact h2) (λi j y z hy hz=>?_) htag
     ·have hi:i<xs.length:=by rw[hl];exact(Ge hy)
      have hx:=getElem?_eq_getElem hi;rw[←(h i _ y hx hy).len];exact hk1 i _ hx
     ·have hi:i<xs.length:=by rw[hl];exact(Ge hy)
      have hx:=getElem?_eq_getElem hi;have hw:=h i _ y hx hy;have hj:j<xs[i].cells.length:=by rw[hw.len];exact(Ge hz)
      have hu:=getElem?_eq_getElem hj;exact hw.cel j _ z hu hz G _ (h3 i j _ _ hx hu)
    ·obtain rfl:ys=[]:=eq_nil_of_length_eq_zero (by rw[←hl];rfl);exact .sl (b:=b) (o:=o) vs Si Si Si Si Si Si htag
   rw[←hl]at main;exact main
def Wa.agg {xs ys:List AV} (hw:Co xs ys):Wa (.agg xs) (.agg ys):=by
 have⟨hl,h⟩:=hw;refine⟨hl,λG v r=>?_,λj a b ha hb G v r=>(h j a b ha hb).val G v r⟩;cases r with
 | @agg _ vs h0 h2 h3=>
   refine .agg (by rw[←hl];exact h0) h2 λj y v hy hv=>?_
   have hj:j<xs.length:=by rw[hl];exact(Ge hy)
   have hx:=getElem?_eq_getElem hj;exact(h j _ y hx hy).val G v (h3 j _ v hx hv)
def Wa.tup {xs ys:List AV} (hw:Co xs ys):Wa (.tup xs) (.tup ys):=by
 have⟨hl,h⟩:=hw;refine Nl rfl rfl λG v r=>?_
 cases r with
 | @tup _ vs h0 h3=>
   refine .tup (by rw[←hl];exact h0) λj y v hy hv=>?_
   have hj:j<xs.length:=by rw[hl];exact(Ge hy)
   have hx:=getElem?_eq_getElem hj;exact(h j _ y hx hy).val G v (h3 j _ v hx hv)
def Wa.slN {t:GF} {k:Nat} {xs ys:List AV} (h:Co xs ys):Wa (.sl t k xs) (.sl .none k ys):=.sl (.inl rfl) (.inl rfl) h
def Wa.slS {t:GF} {k:Nat} {xs ys:List AV} (h:Co xs ys):Wa (.sl t k xs) (.sl t k ys):=.sl (.inr rfl) (.inl rfl) h
def Wa.none {t:GF} {k:Nat} {xs:List AV}:Wa (.sl t k xs) (.sl .none k xs):=.slN (Co.refl xs)
def Wa.slc {t:GF} {k:Nat} {xs:List AV}:Wa (.sl t k xs) (.slc k xs):=Nl rfl rfl λG v r=>.slc ((Wa.none (t:=t)).val G v r)
def Wa.nil {t:GF} {k k':Nat}:Wa (.sl t k []) (.sl .none k' []):=.sl (.inl rfl) (.inr rfl) Co.nil
section
variable {P:Program} {f:FuncId} {args args':List AV} {S:List Ad} {m:Nat} {fn:Func} {tm:List AV}
def Wk.wa (t:Nat) {x y:AV} (ht:tm[t]? =some x) (h:Wa x y):Wk m tm S (tm.set t y) S:=λG0 S0 w0 G a w _ hz=>by
 have htl:=(Ge ht);refine⟨G,hz.left,by simp[hz.size],λt' z u hx hu=>?_,hz.defers,hz.wd0⟩;by_cases et:t'=t
 ·subst et;simp[htl]at hx;subst hx;exact h.val _ _ (hz.rep t' x u ht hu)
 ·rw[getElem?_set_ne (Ne.symm et)]at hx;exact hz.rep t' z u hx hu
def A6.wa {S':List Ad} {r:AV} (t:Nat) {x y:AV} (ht:tm[t]? =some x) (h:Wa x y) (k:A6 P m fn (tm.set t y) S r S'):A6 P m fn tm S r S':=A6.wk (Wk.wa t ht h) k
def Wk.wao (i:Nat) {xs ys:List AV} (hi:S[i]? =some (.cells xs)) (h:Co xs ys):Wk m tm S tm (S.set i (.cells ys)):=λG0 S0 w0 G a w _ hz=>by
 refine⟨G,hz.left.trans (A1.reobj hz.left.wd hi h.1.symm λk y v hy hx=>?_),hz.size,hz.rep,hz.defers,hz.wd0⟩;have hk:k<xs.length:=by rw[h.1];exact(Ge hy)
 have he:=getElem?_eq_getElem hk;exact(h.2 k _ y he hy).val _ _ (hx _ he)
def A6.wao {S':List Ad} {r:AV} (i:Nat) {xs ys:List AV} (hi:S[i]? =some (.cells xs)) (h:Co xs ys) (k:A6 P m fn tm (S.set i (.cells ys)) r S'):A6 P m fn tm S r S':=A6.wk (Wk.wao i hi h) k
end
section
variable {P:Program} {S:List Ad} {b:Prop} {m:Nat} {fn:Func} {tm:List AV} {S':List Ad} {r:AV}
def Wp {xs ys:List AV} (h:Co xs ys:=by repeat(first|exact Wa.refl _|exact Co.nil|exact Wa.nil|exact Wa.none|refine Co.cons ?_ ?_|refine Wa.agg ?_|refine Wa.slN ?_|refine Wa.slS ?_|exact Co.refl _)):Co xs ys:=h
def WO (i:Nat) {xs:List AV} (ys:List AV) (k:b) (hi:S[i]? =some (.cells xs):=by rfl) (h:Co xs ys:=by exact Wp) (e:A6 P m fn tm (S.set i (.cells ys)) r S'=b:=by simp only[List.set_cons_zero,List.set_cons_succ];exact rfl):A6 P m fn tm S r S':=A6.wao i hi h (e.mpr k)
end
def Il:Code->Bool
 | .skip| .region _ _ _| .exit _| .ret=>true
 | .seq a b| .cond _ a b=>Il a&&Il b
 | .block _ c=>Il c
 |_=>false
def W3 {P:Program} {m:Nat} (ro:Option Nat):∀(code:Code) (c:C),AU P code=some c->Il code=true->∀(tm:List AV) (S:List Ad) (Q:QT),aw P m c tm S Q->∀G0 S0 w0 G a w,S0.length=m->Cz G0 S0 w0 tm S G a w->
 code.wpIn (Fw ro) 0 P (λe a' w'=>∃tm' S' G',Cz G0 S0 w0 tm' S' G' a' w'∧Q e tm' S') a w:=by
 intro code
 induction code with
 |skip=>
  intro c hc _ tm S Q h G0 S0 w0 G a w hm hz;simp only[AU]at hc;injection hc with hc;subst hc;exact wpIn_skip ⟨_,_,G,hz,h⟩
 |region id ops draw=>
  intro c hc _ tm S Q h G0 S0 w0 G a w hm hz;simp only[AU]at hc;cases hr:Gy P ops draw with
  |none=>simp[hr]at hc
  |some p=>
   have⟨cs,u⟩:=p;simp[hr]at hc;subst hc;cases draw with
   |true=>exact UN (ro:=ro) hr hz h _ λtm' S' G' a' w' hz' hq=>⟨_,_,G',hz',hq⟩
   |false=>
    simp only[Gy]at hr;cases hcs:Gz P ops with
    |none=>simp[hcs]at hr
    |some cs'=>
     simp[hcs]at hr;obtain⟨rfl,rfl⟩:=hr;exact UM (ro:=ro) hcs hz h _ λtm' S' G' a' w' hz' hq=>⟨_,_,G',hz',hq⟩
 |seq a b iha ihb=>
  intro c hc hf tm S Q h G0 S0 w0 G act w hm hz;simp only[Il,Bool.and_eq_true]at hf;simp only[AU]at hc;split at hc
  ·rename_i x y hx hy;injection hc with hc;subst hc;refine wpIn_seq (wpIn_mono (iha x hx hf.1 tm S _ h G0 S0 w0 G act w hm hz) λe a' w' hq=>?_);have⟨tm',S',G',hz',hq⟩:=hq;cases e with
   |normal=>exact ihb y hy hf.2 tm' S' Q hq G0 S0 w0 G' a' w' hm hz'
   |_=>exact⟨tm',S',G',hz',hq⟩
  ·cases hc
 |cond x a b iha ihb=>
  intro c hc hf tm S Q h G0 S0 w0 G act w hm hz;simp only[Il,Bool.and_eq_true]at hf;simp only[AU]at hc;split at hc
  ·rename_i x' y hx hy;injection hc with hc;subst hc;simp only[aw]at h;split at h
   ·rename_i t ht;have r:=hz.ev x;rw[ht]at r;refine wpIn_cond (N6 r) ?_;cases t with
    |true=>exact iha x' hx hf.1 tm S Q (h.1 rfl) G0 S0 w0 G act w hm hz
    |false=>exact ihb y hy hf.2 tm S Q (h.2 rfl) G0 S0 w0 G act w hm hz
   ·exact h.elim
  ·cases hc
 |block id b ih=>
  intro c hc hf tm S Q h G0 S0 w0 G a w hm hz;simp only[Il]at hf;simp only[AU]at hc;cases hb:AU P b with
  |none=>simp[hb]at hc
  |some x=>
   simp[hb]at hc;subst hc;refine wpIn_block (wpIn_mono (ih x hb hf tm S _ h G0 S0 w0 G a w hm hz) λe a' w' hq=>?_);have⟨tm',S',G',hz',hq⟩:=hq;cases e with
   |exit id'=>
    simp only[HF]at hq;simp only[Exit.inBlock];split
    ·rename_i e;rw[if_pos e]at hq;exact⟨tm',S',G',hz',hq⟩
    ·rename_i e;rw[if_neg e]at hq;exact⟨tm',S',G',hz',hq⟩
   |_=>exact⟨tm',S',G',hz',hq⟩
 |exit id=>
  intro c hc _ tm S Q h G0 S0 w0 G a w hm hz;simp only[AU]at hc;injection hc with hc;subst hc;exact wpIn_exit ⟨_,_,G,hz,h⟩
 |ret=>
  intro c hc _ tm S Q h G0 S0 w0 G a w hm hz;simp only[AU]at hc;injection hc with hc;subst hc;exact wpIn_ret ⟨_,_,G,hz,h⟩
 |loop b _=>intro c _ hf;simp[Il]at hf
 |scope b _=>intro c _ hf;simp[Il]at hf
 |label l=>intro c _ hf;simp[Il]at hf
 |goto l=>intro c _ hf;simp[Il]at hf
 |rangeFunc f ps x y _ _=>intro c _ hf;simp[Il]at hf
 |refuse s=>intro c _ hf;simp[Il]at hf
def N4:C->Bool
 | .skip| .reg _ _| .exit _| .ret=>true
 | .seq a b| .cond _ a b=>N4 a&&N4 b
 | .block _ c=>N4 c
 |_=>false
def lW {P:Program}:∀(code:Code) (c:C),AU P code=some c->N4 c=true->Il code=true:=by
 intro code
 induction code with
 |skip=>intro c _ _;rfl
 |region id ops draw=>intro c _ _;rfl
 |exit id=>intro c _ _;rfl
 |ret=>intro c _ _;rfl
 |seq a b iha ihb=>
  intro c hc hf;simp only[AU]at hc;split at hc
  ·rename_i x y hx hy;injection hc with hc;subst hc;simp only[N4,Bool.and_eq_true]at hf;simp only[Il,Bool.and_eq_true];exact⟨iha x hx hf.1,ihb y hy hf.2⟩
  ·cases hc
 |cond o a b iha ihb=>
  intro c hc hf;simp only[AU]at hc;split at hc
  ·rename_i x y hx hy;injection hc with hc;subst hc;simp only[N4,Bool.and_eq_true]at hf;simp only[Il,Bool.and_eq_true];exact⟨iha x hx hf.1,ihb y hy hf.2⟩
  ·cases hc
 |block id b ih=>
  intro c hc hf;simp only[AU]at hc;cases hb:AU P b with
  |none=>simp[hb]at hc
  |some x=>simp[hb]at hc;subst hc;exact ih x hb hf
 |loop b _=>
  intro c hc hf;simp only[AU]at hc;cases hb:AU P b with
  |none=>simp[hb]at hc
  |some x=>simp[hb]at hc;subst hc;simp[N4]at hf
 |scope b _=>
  intro c hc hf;simp only[AU]at hc;cases hb:AU P b with
  |none=>simp[hb]at hc
  |some x=>simp[hb]at hc;subst hc;simp[N4]at hf
 |label l=>intro c hc hf;simp only[AU]at hc;injection hc with hc;subst hc;simp[N4]at hf
 |goto l=>intro c hc hf;simp only[AU]at hc;injection hc with hc;subst hc;simp[N4]at hf
 |rangeFunc f ps a b _ _=>
  intro c hc hf;simp only[AU]at hc;split at hc
  ·injection hc with hc;subst hc;simp[N4]at hf
  ·cases hc
 |refuse s=>intro c hc hf;simp[AU]at hc
def uN {P:Program} {m:Nat} {g:Operand} {ps:List Nat} {a b:C} {tm tm':List AV} {S S':List Ad} {Q:QT} (hw:Wk m tm S tm' S') (h:uO P m g ps a b tm' S' Q):uO P m g ps a b tm S Q:=by
 intro ca cb h1 h2 G0 S0 w0 G act w hm hz;have⟨G',hz'⟩:=hw G0 S0 w0 G act w hm hz;exact h ca cb h1 h2 G0 S0 w0 G' act w hm hz'
def jmp:Exit->Option (Option Code)
 | .normal=>some none
 | .ret=>some (some .ret)
 | .exit id=>some (some (.exit id))
 | .goto l=>some (some (.goto l))
 |_=>none
def Ah5 (q:Nat) (r:LpR) (tm:List AV) (S':List Ad) (go:Bool):QT:=λe _ S2=>
 ∃j,jmp e=some j∧S2[q]? =some (.raw (.lp {r with state:=.busy}) tm)∧go=j.isNone∧S'=S2.set q (.raw (.lp {r with state:=if j.isNone then .ready else .done,pending:=j}) tm)
def Ah6 (P:Program) (m q:Nat) (r:LpR) (tm:List AV) (cB:C) (S':List Ad) (go:Bool):QT
 | .normal,tm1,S1=>S1[q]? =some (.raw (.lp r) tm)∧aw P m cB tm1 (S1.set q (.raw (.lp {r with state:=.busy}) tm)) (Ah5 q r tm S' go)
 |_,_,_=>False
def MC {G:Gh}:∀(ps:List Nat) (args:List AV) (vs:List Value) (tm:List AV) (tv:Array Value),args.length=vs.length->Cg G args vs->tm.length=tv.size->(∀(t:Nat) (x:AV) (v:Value),tm[t]? =some x->tv[t]? =some v->Bv G x v)->
 ((ps.zip args).foldl (λtm p=>tm.set p.1 p.2) tm).length=((ps.zip vs).foldl (λt p=>t.setIfInBounds p.1 p.2) tv).size∧
 ∀(t:Nat) (x:AV) (v:Value),((ps.zip args).foldl (λtm p=>tm.set p.1 p.2) tm)[t]? =some x->((ps.zip vs).foldl (λt p=>t.setIfInBounds p.1 p.2) tv)[t]? =some v->Bv G x v
 |[],args,vs,tm,tv,_,_,h3,h4=>⟨by simpa using h3,by simpa using h4⟩
 |p::ps,[],[],tm,tv,_,_,h3,h4=>⟨by simpa using h3,by simpa using h4⟩
 |p::ps,x::args,v::vs,tm,tv,h1,h2,h3,h4=>by
  simp only[zip_cons_cons,foldl_cons];refine MC ps args vs (tm.set p x) (tv.setIfInBounds p v) (by simpa using h1) ⟨by simpa using h1,λj y u hy hu=>h2.2 (j+1) y u (by simpa using hy) (by simpa using hu)⟩ (by simpa using h3) λt y u hy hu=>?_
  by_cases e:t=p
  ·subst e;rw[getElem?_set]at hy;rw[Array.getElem?_setIfInBounds]at hu;simp only[if_true]at hy hu;split at hy
   ·injection hy with hy;subst hy;rw[if_pos Om]at hu;injection hu with hu;subst hu;exact h2.2 0 x v Si Si
   ·cases hy
  ·rw[getElem?_set_ne (Ne.symm e)]at hy;rw[Array.getElem?_setIfInBounds_ne (Ne.symm e)]at hu;exact h4 t y u hy hu
def Cz.lp {G0:Gh} {S0:List Ad} {w0:World} {tm:List AV} {S:List Ad} {G:Gh} {a:Act} {w:World} (h:Cz G0 S0 w0 tm S G a w) {q b:Nat} {r r':LpR} {tl:List AV} {tv:List Value} (hq:S[q]? =some (.raw (.lp r) tl)) (hb:G.loc q=some b)
 (hh:w.heap[b]? =some ((Fr.lp r).obj tv)) (hr:Cg G tl tv):A1 G S w G (S.set q (.raw (.lp r') tl)) (w.putObj b ((Fr.lp r').obj tv))∧Cz G0 S0 w0 tm (S.set q (.raw (.lp r') tl)) G a (w.putObj b ((Fr.lp r').obj tv)):=by
 have hl:A1 G S w G (S.set q (.raw (.lp r') tl)) (w.putObj b ((Fr.lp r').obj tv)):=A1.rawTo (o':=.lp r') h.left.wd hq hb (Mg _ hh) hr;exact⟨hl,h.left.trans hl,h.size,h.rep,h.defers.left h.left.wd hl,h.wd0⟩
def YC.of {P:Program} {q:Nat} {args:List AV} {S S':List Ad} {go:Bool} {r:LpR} {tm:List AV} {cA cB:C} (hS:S[q]? =some (.raw (.lp r) tm)) (hst:r.state=.ready) (hn:args.length=r.params.size)
 (hA:AU P r.assign=some cA) (hB:AU P r.body=some cB) (fA:Il r.assign=true) (fB:Il r.body=true)
 (h:aw P S.length cA ((r.params.toList.zip args).foldl (λtm p=>tm.set p.1 p.2) tm) S (Ah6 P S.length q r tm cB S' go)):YC P q args S S' go:=by
 intro G w l vs hw hl hargs;have⟨b,tv,h1,h2,h3⟩:=hw.raw q (.lp r) tm hS;rw[hl]at h1;injection h1 with h1;subst h1;have hsz:vs.size=r.params.size:=by rw[←hn];simpa using hargs.1.symm
 have hf:=MC r.params.toList args vs.toList tm tv.toArray (by simpa using hargs.1) hargs (by simpa using h3.1) (λt x v hx hv=>h3.2 t x v hx (by simpa using hv));refine⟨_,_,_,_,run_yield h2 hsz,?_⟩;have hfold:(r.params.zip vs).foldl (λtmps (t,a)=>tmps.setIfInBounds t a) tv.toArray=(r.params.toList.zip vs.toList).foldl (λt p=>t.setIfInBounds p.1 p.2) tv.toArray:=by
  rw[←Array.toList_zip,Array.foldl_toList]
 have hz:Cz G S w ((r.params.toList.zip args).foldl (λtm p=>tm.set p.1 p.2) tm) S G {tmps:=(r.params.zip vs).foldl (λtmps (t,a)=>tmps.setIfInBounds t a) tv.toArray,defers:=[]} w:=by
  refine⟨A1.refl hw,?_,λt x v hx hv=>?_,JV.nil _ _,hw⟩
  ·show Array.size (Array.foldl _ _ _)=_;rw[hfold];exact hf.1.symm
  ·refine hf.2 t x v hx ?_;rw[←hfold];exact hv
 have hround:=W3 (some l) r.assign cA hA fA _ S _ h G S w G _ w rfl hz;refine roundIn_of_wpIn (F:=Fence.wide) trivial (wpIn_mono hround ?_);rintro e a1 w1 ⟨tm1,S1,G1,hz1,hq1⟩;cases e with
 |normal=>
  have⟨hS1,hb1⟩:=hq1;have⟨b',tv1,g1,g2,g3⟩:=hz1.left.wd.raw q (.lp r) tm hS1;have e1:=hz1.left.le.loc q l hl;rw[e1]at g1;injection g1 with g1;subst g1;have⟨hl2,hz2⟩:=hz1.lp (r':={r with state:=.busy}) hS1 e1 g2 g3;refine⟨_,run_beginRound g2 hst,wpIn_mono (W3 (some l) r.body cB hB fB _ _ _ hb1 G S w G1 a1 _ rfl hz2) ?_⟩;rintro e2 a2 w2 ⟨tm2,S2,G2,hz3,hq2⟩;obtain⟨j,hj,hS2,rfl,rfl⟩:=hq2;have⟨b',tv2,k1,k2,k3⟩:=hz3.left.wd.raw q _ tm hS2;have e2':=hz3.left.le.loc q l hl;rw[e2']at k1;injection k1 with k1;subst k1;have hend:=run_endRound (P:=P) j k2;have⟨hl4,hz4⟩:=hz3.lp (r':={r with state:=if j.isNone then .ready else .done,pending:=j}) hS2 e2' k2 k3;cases e2<;>simp only[jmp,Option.some.injEq,reduceCtorEq]at hj
  all_goals(subst hj;exact⟨_,_,hend,G2,rfl,hz4.left⟩)
 |_=>exact hq1.elim
def jq (Q:QT) (tm:List AV) (S:List Ad):Option Code->Prop
 |none=>Q .normal tm S
 |some .ret=>Q .ret tm S
 |some (.exit id)=>Q (.exit id) tm S
 |some (.goto l)=>Q (.goto l) tm S
 |_=>False
def X1 {P:Program} {m:Nat} {g:Operand} {ps:List Nat} {a b:C} {tm:List AV} {S:List Ad} {Q:QT} {gf:FuncId} {caps:List AV} (hg:ev tm g=.fn gf [] caps)
 (h:∀(fn:FuncId) (D:Nat) (ca cb:Code),AU P ca=some a->AU P cb=some b->∃rv S2 r2,Ah P gf (.yv S.length::caps) (S++[.raw (.lp ⟨.ready,none,fn,ps.toArray,ca,cb,D⟩) tm]) rv S2∧
   S2[S.length]? =some (.raw (.lp r2) tm)∧r2.state≠ .busy∧jq Q tm (S2.set S.length (.raw (.lp {r2 with state:=.exhausted}) tm)) r2.pending):uO P m g ps a b tm S Q:=by
 intro ca cb hca hcb G0 S0 w0 G act w hm hz;refine wpIn_wide.1 (wpIn_rangeFunc (F:=Fence.wide) (n:=0) λfn _=>?_);have⟨rv,S2,⟨st,pe,f1,p1,a1,b1,d1⟩,hd,hS2,hst,hj⟩:=h fn w.heap.size ca cb hca hcb;have rf:=hz.ev g;rw[hg]at rf;generalize ef:act.eval g=vf at rf;cases rf with
 | @fn _ _ _ fv cv q1 q2 q3 q4=>
   have hfv:fv=#[]:=by
    have:fv.size=0:=by simpa using q1.symm
    exact Array.eq_empty_of_size_eq_zero this
   subst hfv;have hm1:=DM.alloc w (.deferred (some []));have hl1:=A1.more hz.left.wd hm1;have hl2:=A1.dead hl1.wd 1;obtain⟨mD,hrec⟩:∃mD:LpR,mD=⟨.ready,none,fn,ps.toArray,ca,cb,w.heap.size⟩:=⟨_,rfl⟩;have hrep0:Cg G tm act.tmps.toList:=⟨by simpa using hz.size.symm,λt x v hx hv=>hz.rep t x v hx (by simpa using hv)⟩;have hm3:DM (w.alloc (.deferred (some []))) ((w.alloc (.deferred (some []))).alloc ((Fr.lp mD).obj act.tmps.toList)) ((Fr.lp mD).obj act.tmps.toList):=DM.alloc _ _;have hl3:=A1.rawNew (o:=.lp mD) (xs:=tm) (vs:=act.tmps.toList) (id:=S.length) hl2.wd Si hrep0 hm3;have hS3:(S++List.replicate 1 Ad.dead).set S.length (.raw (.lp mD) tm)=S++[.raw (.lp mD) tm]:=by simp
   rw[hS3]at hl3;have hsz:(w.alloc (.deferred (some []))).heap.size=w.heap.size+1:=by simp
   rw[hsz]at hl3;have hl13:=(hl1.trans hl2).trans hl3;generalize hG3:G.newLoc S.length (w.heap.size+1)=G3 at hl3 hl13;have hloc:G3.loc S.length=some (w.heap.size+1):=by rw[←hG3];simp[Gh.newLoc]
   have hcall:(Instr.enterLoop fn act.tmps ps.toArray ca cb none).run P w=.ok (w.heap.size+1,[{target:=.collected w.heap.size,args:=#[]}]) ((w.alloc (.deferred (some []))).alloc ((Fr.lp mD).obj act.tmps.toList)):=by
    rw[run_enterLoop_outer,hrec];simp[Fr.obj]
   generalize hw3:(w.alloc (.deferred (some []))).alloc ((Fr.lp mD).obj act.tmps.toList)=w3 at hl3 hl13 hcall;have⟨⟨fnn,hfn,hbody,hname⟩,hdoes⟩:=hd;have hargs:Cg G3 (.yv S.length::caps) ((#[Value.func (.yield (w.heap.size+1)) #[] #[]]:Array Value)++cv).toList:=by
    rw[Array.toList_append];exact Cg.cons (.yv hloc) ⟨by simpa using q2,λj x v hx hv=>(q4 j x v hx (by simpa using hv)).mono hl13.le⟩
   refine⟨w.heap.size+1,[{target:=.collected w.heap.size,args:=#[]}],w3,{target:=.fn (.func gf) cv,args:=#[.func (.yield (w.heap.size+1)) #[] #[]]},w3,gf,#[.func (.yield (w.heap.size+1)) #[] #[]]++cv,w3,hcall,?_,λ_ _=>trivial,?_,λh0=>by simp[Fence.wide]at h0,?_⟩
   ·have hc:∀v:Value,act.eval (.const v)=v:=λ_=>rfl
    simp[resolve,ef,Deferred.ofValue,hc]
   ·have hname':¬fnn.name= "runtime.NumGoroutine":=Sx hname
    simp[invoke,callFunc,hfn,hname'];cases hbd:fnn.body with
    |none=>simp[hbd]at hbody
    |some _=>simp
   ·subst hrec;refine callsIn_wide.2 ((hdoes G3 w3 _ hl3.wd hargs).mono ?_);rintro e w4 ⟨v,G4,rfl,hv,hl4⟩;have hloc4:=hl4.le.loc _ _ hloc;have⟨b',tv4,k1,k2,k3⟩:=hl4.wd.raw S.length _ tm hS2;rw[hloc4]at k1;injection k1 with k1;subst k1;refine⟨pe,_,run_endLoop k2 hst,?_⟩;have hD0:w3.heap[w.heap.size]? =some (.deferred (some [])):=by
     rw[←hw3];exact(Below.heap_alloc _ _ _ Si).trans (World.alloc_heap_new w _)
    have hmk:JV w0 w3 ({target:=.collected w.heap.size,args:=#[]}::act.defers):=by
     have⟨Ds,g1,g2,g3⟩:=hz.defers.left hz.left.wd hl13;have⟨Ds',g1',g2',g3'⟩:=hz.defers;refine⟨w.heap.size::Ds,nodup_cons.2 ⟨λhmem=>?_,g1⟩,by rw[g2];rfl,λD hD=>?_⟩
     ·have:Ds=Ds':=by
       have:=g2.symm.trans g2';exact(List.map_inj_right (λx y hxy=>by injection hxy with hxy;injection hxy)).1 this
      rw[this]at hmem;have:=(Array.getElem?_eq_some_iff.1 (g3' _ hmem).2).1;omega
     ·rcases mem_cons.1 hD with rfl|hD
      ·exact⟨hz.left.kept.size,hD0⟩
      ·exact g3 D hD
    have hcz:Cz G0 S0 w0 tm S2 G4 {act with defers:={target:=.collected w.heap.size,args:=#[]}::act.defers} w4:=
     ⟨(hz.left.trans hl13).trans hl4,hz.size,λt x v hx hv=>((hz.rep t x v hx hv).mono hl13.le).mono hl4.le,hmk.left hl3.wd hl4,hz.wd0⟩
    have⟨_,hcz'⟩:=hcz.lp (r':=⟨.exhausted,pe,f1,p1,a1,b1,d1⟩) hS2 hloc4 k2 k3;cases pe with
    |none=>exact⟨_,_,G4,hcz',hj⟩
    |some c=>
     cases c with
     |ret=>exact wpIn_ret ⟨_,_,G4,hcz',hj⟩
     |exit id=>exact wpIn_exit ⟨_,_,G4,hcz',hj⟩
     |goto l=>exact wpIn_goto ⟨_,_,G4,hcz',hj⟩
     |_=>exact hj.elim
def b3:Is prog f3 (zq [zV zf 4] (.seq (zq [zM 0 18,zU 18 19,zI .gtr 19 800 20,zM 20 21,zZ 21 (zM 0 22),zZ 21 (zC 4 [22] 23),zO 21 23 24] (zc 24 (zq [zC 5 [] 25,zM 25 4] .ret))) (zq [zM 0 27,zC 6 [27] 28,zM 28 26,zE 26 0 29,zE 26 1 30,zX [zu,zn] 5,zX [zi,zi] 6,zS 2 5 29,zS 2 6 30] (zq [zM 0 32,zC 7 [32] 33,zM 33 31,zE 31 0 34,zE 31 1 35,zE 31 2 36,zX [zu,zn] 7,zX [zi,zi] 9,zS 2 7 34,zM 35 8,zS 2 9 36] (zq [zM 0 38,zC 8 [38] 39,zM 39 37,zE 37 0 40,zE 37 1 41,zE 37 2 42,zX [zu,zn] 10,zX [zi,zi] 12,zS 2 10 40,zM 41 11,zS 2 12 42] (zq [zC 9 [] 43,zM 43 13] (zq [zV zn 14] (.seq (zq [zM 0 44,zM 1 45,zC 10 [44,45] 46,zU 46 47,zV zi 48] (.block 0 (.loop (zq [zB .lss 48 47 49] (.seq (.cond (.tmp 49) .skip (.exit 0)) (.seq (.block 1 (zq [zJ 1 46 48 50,zL 50 51,zM 51 16] (.reg [zM 14 52,zM 13 53,zM 16 54,zC 11 [53,54] 55,zP 20 240 52 55 56,zM 56 14] []))) (.reg [zI .add 48 1 57,zM 57 48] []))))))) (zq [zM 14 58,zM 13 59,zC 12 [59] 60,zP 20 240 58 60 61,zM 61 14] (.seq (zq [zM 14 62,zM 0 63,zC 14 [63] 64,zC 13 [62,64] 65,zQ 65 66,zM 66 67,zZ 67 (zM 14 68),zZ 67 (zU 68 69),zZ 67 (zI .eql 69 0 70),zO 67 70 71] (zc 71 (zq [zV zf 4] .ret))) (zq [zM 14 72,zM 14 73,zU 73 74,zI .sub 74 1 75,zJ 20 72 75 76,zN 20 76 77,zX [zi,zi,zi,zi,zu,zu,zu,zi,zi,zn,zn,zn,zu,zu,zu,zu,zn,zu,zu,zn] 17,zS 20 17 77] (.seq (zq [zF 0 6 78,zL 78 79,zI .eql 79 0 80] (zc 80 (zq [zF 0 9 81,zL 81 82,zI .eql 82 0 83,zM 83 84,zT 84 (zM 8 85),zA 84 85 86,zM 86 87,zT 87 (zF 0 12 88),zT 87 (zL 88 89),zT 87 (zI .eql 89 0 90),zA 87 90 91,zM 91 92,zT 92 (zM 11 93),zT 92 (zI .eql 93 3 94),zA 92 94 95,zM 95 96,zT 96 (zF 0 17 97),zT 96 (zL 97 98),zT 96 (zI .eql 98 2 99),zA 96 99 100,zM 100 101,zT 101 (zN 2 5 102),zT 101 (zN 2 7 103),zT 101 (zC 15 [102,103] 104),zA 101 104 105,zM 105 106,zT 106 (zN 2 5 107),zT 106 (zN 2 10 108),zT 106 (zC 15 [107,108] 109),zA 106 109 110,zM 110 111,zT 111 (zM 14 112),zT 111 (zU 112 113),zT 111 (zF 1 5 114),zT 111 (zL 114 115),zT 111 (zU 115 116),zT 111 (zI .add 116 1 117),zT 111 (zB .eql 113 117 118),zA 111 118 119,zM 119 120,zT 120 (zC 5 [] 121),zA 120 121 122,zM 122 4] .ret))) (.seq (zq [zM 11 123,zI .eql 123 3 124,zM 124 125,zZ 125 (zF 0 17 126),zZ 125 (zL 126 127),zZ 125 (zI .eql 127 2 128),zO 125 128 129,zM 129 130,zZ 130 (zF 2 17 131),zZ 130 (zL 131 132),zZ 130 (zF 0 6 133),zZ 130 (zL 133 134),zZ 130 (zB .neq 132 134 135),zO 130 135 136,zM 136 137,zZ 137 (zF 1 17 138),zZ 137 (zL 138 139),zZ 137 (zF 1 6 140),zZ 137 (zL 140 141),zZ 137 (zB .neq 139 141 142),zO 137 142 143,zM 143 144,zZ 144 (zF 0 9 145),zZ 144 (zL 145 146),zZ 144 (zI .eql 146 0 147),zZ 144 (zM 147 148),zT 148 (zF 0 6 149),zT 148 (zL 149 150),zT 148 (zI .neq 150 12 151),(.some (144,.false),(.pick (.tmp 148) (.tmp 151) (.const (.bool .false)),.some 152)),zO 144 152 153] (zc 153 (zq [zV zf 4] .ret))) (zq [zF 0 12 154,zL 154 155,zI .eql 155 0 156,zM 156 157,zZ 157 (zM 8 158),(.some (157,.false),(.un .not (.tmp 158),.some 159)),zO 157 159 160,zM 160 161,zZ 161 (zF 0 9 162),zZ 161 (zL 162 163),zZ 161 (zI .eql 163 0 164),zO 161 164 165,zM 165 166,zT 166 (zC 5 [] 167),zA 166 167 168,zM 168 4] .ret)))))))))))))) [.tmp 4] 169:=ki
def b6:Is prog f6 (zq [zX [zu,zn] 2,zX [zi,zi] 3] (zq [zM 0 8,zR 20 [.tmp 8,.func 21] 9,zM 9 7,zE 7 0 10,zE 7 1 11,zE 7 2 12,zX [zu,zn] 4,zX [zi,zi] 6,zS 2 4 10,zM 11 5,zS 2 6 12] (.seq (.reg [zN 2 4 13,zN 2 6 14,zS 2 2 13,zS 2 3 14] [(0,1),(1,2)]) .ret))) [.cell 2 (.some 2),.cell 3 (.some 2)] 15:=ki
def b7:Is prog f7 (zq [zX [zu,zn] 2,zV zf 3,zX [zi,zi] 4] (zq [zM 0 5,zR 20 [.tmp 5,.func 23] 6,zE 6 0 7,zE 6 1 8,zE 6 2 9,zS 2 2 7,zM 8 3,zS 2 4 9] .ret)) [.cell 2 (.some 2),.tmp 3,.cell 4 (.some 2)] 10:=ki
def b11:Is prog f11 (zq [zV zn 4] (.seq (zq [zM 0 7,zW (.eqp .false (.tmp 7) (.const (.pointer none))) 8] (zc 8 (zq [zV zn 4] .ret))) (zq [zM 0 9,zH 9 10,zF 18 10 11,(none,(.store 1 (.tmp 11) (.const (.slice none 0 0)),none))] (.seq (zq [zV zi 5] (.block 0 (.loop (.seq (zq [zM 5 12,zM 1 13,zU 13 14,zB .lss 12 14 15,zM 15 16,zT 16 (zM 0 17),zT 16 (zC 33 [17] 18),zA 16 18 19] (.cond (.tmp 19) .skip (.exit 0))) (.seq (.block 1 (.reg [zM 0 22,zM 1 23,zM 5 24,zJ 1 23 24 25,zL 25 26,zC 34 [22,26] 27] [])) (.reg [zM 5 20,zI .add 20 1 21,zM 21 5] [])))))) (zq [zM 0 28,zH 28 29,zF 18 29 30,zL 30 31,zM 31 6] (zq [zM 0 32,zH 32 33,zF 18 33 34,(none,(.store 1 (.tmp 34) (.const (.slice none 0 0)),none))] (zq [zM 6 35,zM 35 4] .ret))))))) [.tmp 4] 36:=ki
def b15:Is prog f15 (zq [zY 0 2,zY 1 3,zV zf 4] (.seq (zq [zF 0 2 6,zL 6 7,zF 0 3 8,zL 8 9,zB .neq 7 9 10,zM 10 11,zZ 11 (zF 1 2 12),zZ 11 (zL 12 13),zZ 11 (zU 13 14),zZ 11 (zF 1 3 15),zZ 11 (zL 15 16),zZ 11 (zU 16 17),zZ 11 (zB .neq 14 17 18),zO 11 18 19] (zc 19 (zq [zV zf 4] .ret))) (.seq (zq [zV zi 5] (.block 0 (.loop (.seq (zq [zM 5 20,zF 1 2 21,zL 21 22,zU 22 23,zB .lss 20 23 24] (.cond (.tmp 24) .skip (.exit 0))) (.seq (.block 1 (.seq (.reg [zF 1 2 27,zL 27 28,zM 5 29,zJ 3 28 29 30,zN 3 30 31,zF 1 3 32,zL 32 33,zM 5 34,zJ 3 33 34 35,zN 3 35 36,zC 37 [31,36] 37,zQ 37 38] [(1,6),(4,6),(1,9),(4,9)]) (zc 38 (zq [zV zf 4] .ret)))) (.reg [zM 5 25,zI .add 25 1 26,zM 26 5] [])))))) (zq [zV zt 4] .ret)))) [.tmp 4] 39:=ki
def b17:Is prog f17 (zq [zV zf 2] (.seq (zq [zV zi 3] (.block 0 (.loop (.seq (zq [zM 3 4,zI .add 4 1 5,zM 0 6,zU 6 7,zB .lss 5 7 8] (.cond (.tmp 8) .skip (.exit 0))) (.seq (.block 1 (zq [zM 0 11,zM 3 12,zJ 1 11 12 13,zL 13 14,zW (.bin .geq (.tmp 14) (.const (.int .u8 128))) 15,zM 15 16,zT 16 (zM 0 17),zT 16 (zM 3 18),zT 16 (zI .add 18 1 19),zT 16 (zJ 1 17 19 20),zT 16 (zL 20 21),(.some (16,.true),(.bin .geq (.tmp 21) (.const (.int .u8 3)),.some 22)),zA 16 22 23] (zc 23 (zq [zV zt 2] .ret)))) (.reg [zM 3 9,zI .add 9 1 10,zM 10 3] [])))))) (zq [zV zf 2] .ret))) [.tmp 2] 24:=ki
def b22:Is prog f22 (zq [zY 0 1,zX [zu,zu,zn] 2] (zq [zL 1 3,zW (.mkf 56 [] [.tmp 1]) 4,zC 55 [3,4] 5,zS 3 2 5] .ret)) [.cell 2 (.some 3)] 6:=ki
def b25:Is prog f25 (zq [zX [zu,zu,zn] 2,zX [zi,zi] 3] (zq [zM 0 13,zC 48 [13] 14,zX [.pointer none] 4,zS 1 4 14] (zq [zL 4 15,zR 61 [.tmp 15,zk 1] 16,zX [zi,zu,zu] 5,zS 3 5 16] (zq [zL 4 17,zC 62 [17] 18,zX [zi] 7,zM 18 6,(none,(.store 1 (.tmp 7) (zk 1048576),none))] (zq [zL 4 19,zF 2 5 20,zL 20 21,zR 63 [.tmp 19,.tmp 21,zk 0,zk 400] 22,zM 22 8] (zq [zF 1 5 23,zL 23 24,zF 2 5 25,zL 25 26,zD [zu,zu,zn] [(0,(1,.tmp 24)),(1,(1,.tmp 26))] 27,zX [zu,zu,zn] 9,zS 3 9 27] (zq [zL 4 28,zM 8 29,zW (.mkf 65 [] [.tmp 4,.tmp 5,.tmp 7]) 30,zC 64 [28,29,30] 31,zF 2 9 32,zS 1 32 31] (zq [zL 4 33,zC 62 [33] 34,zM 34 10] (zq [zL 4 35,zM 6 36,zC 67 [35,36] 37,zM 37 11] (.seq (zq [zL 4 38,zR 68 [.tmp 38,zk 4] 39,zM 39 12] (zq [zM 12 40,zM 11 41,zC 69 [41] 42,zK .u64 42 43,zB .neq 40 43 44] (zc 44 (.reg [zL 4 45,zM 10 46,zR 50 [.tmp 45,zk 6,.tmp 46] 47] [])))) (zq [zL 4 48,zC 70 [48] 49] (zq [zL 4 50,zN 3 9 51,zC 71 [50,51] 52,zE 52 0 53,zE 52 1 54,zS 3 2 53,zS 2 3 54] .ret)))))))))))) [.cell 2 (.some 3),.cell 3 (.some 2)] 55:=ki
def b28:Is prog f28 (zq [zX [zu,zn] 2,zX [zi,zi] 3] (zq [zM 0 8,zC 48 [8] 9,zX [.pointer none] 4,zS 1 4 9] (zq [zL 4 10,zR 61 [.tmp 10,zk 2] 11,zX [zi,zu,zu] 5,zS 3 5 11] (zq [zL 4 12,zR 75 [.tmp 12,zk 32] 13,zM 13 6] (zq [zF 1 5 14,zL 14 15,zD [zu,zn] [(0,(1,.tmp 15))] 16,zX [zu,zn] 7,zS 2 7 16] (zq [zL 4 17,zM 6 18,zW (.mkf 77 [] [.tmp 4,.tmp 7]) 19,zC 76 [17,18,19] 20] (zq [zL 4 21,zC 70 [21] 22] (zq [zL 4 23,zN 2 7 24,zC 82 [23,24] 25,zE 25 0 26,zE 25 1 27,zS 2 2 26,zS 2 3 27] .ret)))))))) [.cell 2 (.some 2),.cell 3 (.some 2)] 28:=ki
def b29:Is prog f29 (zq [zY 0 1,zX [zu,zn] 2,zV zi 3] (.seq (zq [zN 2 1 4,zC 83 [4] 5,zQ 5 6] (zc 6 (zq [zD [zu,zn] [] 7,zS 2 2 7,zV (.int .i64 3) 3] .ret))) (zq [zF 0 1 8,zL 8 9,zF 1 1 10,zL 10 11,zD [zu,zn] [(0,(1,.tmp 9)),(1,(1,.tmp 11))] 12,zC 84 [12] 13,zC 73 [13] 14,zE 14 0 15,zE 14 1 16,zS 2 2 15,zM 16 3] .ret))) [.cell 2 (.some 2),.tmp 3] 17:=ki
def b30:Is prog f30 (zq [zX [zi,zi] 2] (.seq (zq [zM 0 5,zU 5 6,zV zi 7] (.block 0 (.loop (zq [zB .lss 7 6 8] (.seq (.cond (.tmp 8) .skip (.exit 0)) (.seq (.block 1 (zq [zJ 2 5 7 9,zN 2 9 10,zX [zi,zi] 4,zS 2 4 10] (zq [zN 2 4 11,zC 26 [11] 12,zQ 12 13] (zc 13 (zq [zN 2 4 14,zS 2 2 14] .ret))))) (.reg [zI .add 7 1 15,zM 15 7] []))))))) (zq [zD [zi,zi] [] 16,zS 2 2 16] .ret))) [.cell 2 (.some 2)] 17:=ki
def b31:Is prog f31 (zq [zX [zi,zi] 4] (.seq (zq [zM 0 5,zI .eql 5 0 6] (zc 6 (zq [zD [zi,zi] [] 7,zS 2 4 7] .ret))) (zq [zM 0 8,zM 1 9,zD [zi,zi] [(0,(1,.tmp 8)),(1,(1,.tmp 9))] 10,zS 2 4 10] .ret))) [.cell 4 (.some 2)] 11:=ki
def b46:Is prog f46 (zq [zY 1 4,zX [zu,zu,zn] 6,zX [zi,zi] 7] (.seq (zq [zF 2 4 11,zL 11 12,zM 2 13,zB .geq 12 13 14] (zc 14 (zq [zD [zu,zu,zn] [] 15,zF 2 4 16,zL 16 17,zR 31 [zk 3,.tmp 17] 18,zS 3 6 15,zS 2 7 18] .ret))) (zq [zM 0 20,zF 2 4 21,zL 21 22,zM 2 23,zW (.slice 1 (.tmp 20) (.some (.tmp 22)) (.some (.tmp 23)) none) 24,zR 112 [.tmp 24,.const (.int .u8 1),.func 22] 25,zM 25 19,zE 19 0 26,zE 19 1 27,zE 19 2 28,zX [zu,zu,zn] 8,zX [zi,zi] 10,zS 3 8 26,zM 27 9,zS 2 10 28] (.seq (zq [zN 2 10 29,zC 26 [29] 30,zM 30 31,zT 31 (zF 1 8 32),zT 31 (zL 32 33),zT 31 (zF 0 4 34),zT 31 (zL 34 35),zT 31 (zB .neq 33 35 36),zT 31 (zM 36 37),zZ 37 (zF 2 8 38),zZ 37 (zL 38 39),zZ 37 (zU 39 40),zZ 37 (zF 1 4 41),zZ 37 (zL 41 42),zZ 37 (zB .neq 40 42 43),(.some (31,.true),(.pick (.tmp 37) (.const (.bool .true)) (.tmp 43),.some 44)),zA 31 44 45] (zc 45 (.reg [zR 31 [zk 12,zk 0] 46,zS 2 10 46] []))) (.seq (.reg [zN 3 8 47,zN 2 10 48,zF 2 4 49,zL 49 50,zC 80 [48,50] 51,zS 3 6 47,zS 2 7 51] [(0,1),(0,3),(1,3),(0,4)]) .ret))))) [.cell 6 (.some 3),.cell 7 (.some 2)] 52:=ki
def b50:Is prog f50 (zq [zM 0 6,zC 52 [6] 7] (zc 7 (.reg [zM 0 8,zM 1 9,zM 2 10,zC 31 [9,10] 11,zH 8 12,zF 2 12 13,zS 2 13 11] []))) [] 14:=ki
def kD:Is prog f55 (zq [zX [zu,zu,zn] 4] (zq [zM 0 13,zC 116 [13] 14,zM 0 15,zC 118 [15] 16,zD [zu,zu,zn] [(0,(1,.tmp 14)),(1,(1,.tmp 16))] 17,zX [zu,zu,zn] 5,zS 3 5 17] (zq [zM 0 18,zC 62 [18] 19,zM 19 6] (zq [zM 0 20,zR 75 [.tmp 20,zk 16] 21,zM 21 7] (.seq (zq [zF 1 5 22,zL 22 23,zM 7 24,zC 129 [23,24] 25,zQ 25 26] (zc 26 (.reg [zM 0 27,zM 6 28,zR 50 [.tmp 27,zk 3,.tmp 28] 29] []))) (.seq (zq [zM 0 30,zC 52 [30] 31,zQ 31 32] (zc 32 (zq [zD [zu,zu,zn] [] 33,zS 3 4 33] .ret))) (zq [zM 0 35,zF 1 5 36,zL 36 37,zM 7 38,zC 130 [35,37,38] 39,zM 39 34,zE 34 0 40,zE 34 1 41,zM 40 8,zM 41 9] (zq [zM 0 42,zC 62 [42] 43,zM 43 6] (zq [zM 1 44,zW (.call (.tmp 44) []) 45,zM 45 10] (zq [zM 8 47,zM 9 48,zM 10 49,zC 131 [47,48,49] 50,zM 50 46,zE 46 0 51,zE 46 1 52,zM 51 11,zM 52 12] (.seq (zq [zM 12 53,zQ 53 54] (zc 54 (.reg [zM 0 55,zM 6 56,zR 50 [.tmp 55,zk 3,.tmp 56] 57] []))) (.seq (zq [zM 0 58,zC 52 [58] 59,zQ 59 60] (zc 60 (zq [zD [zu,zu,zn] [] 61,zS 3 4 61] .ret))) (zq [zM 11 62,zF 2 5 63,zS 1 63 62] (zq [zN 3 5 64,zS 3 4 64] .ret)))))))))))))) [.cell 4 (.some 3)] 65:=ki
def b56:Is prog f56 (zq [zV zn 1] (zq [zL 0 2,zR 57 [.tmp 2,zk 1048576] 3,zM 3 1] .ret)) [.tmp 1] 4:=ki
def b57:Is prog f57 (zq [zV zn 4] (zq [zM 0 8,zM 1 9,zC 59 [8,9] 10,zM 10 7,zE 7 0 11,zE 7 1 12,zM 11 5,zM 12 6] (zq [zM 6 13,zM 0 14,zW (.mkf 50 [.tmp 14] []) 15,zM 0 16,zC 62 [16] 17,zC 132 [13,15,17] 18] (.seq (zq [zM 0 19,zC 52 [19] 20,zQ 20 21] (zc 21 (zq [zV zn 4] .ret))) (zq [zM 5 22,zM 22 4] .ret))))) [.tmp 4] 23:=ki
def b69:Is prog f69 (zq [zV (.int .u32 0) 2] (zq [zC 140 [] 3,zM 0 4,zC 139 [3,4] 5,zC 138 [5] 6,zM 6 2] .ret)) [.tmp 2] 7:=ki
def b70:Is prog f70 (zq [zM 0 2,zC 141 [2] 3,zI .gtr 3 0 4] (zc 4 (.reg [zM 0 5,zM 0 6,zH 6 7,zF 1 7 8,zL 8 9,zR 50 [.tmp 5,zk 9,.tmp 9] 10] []))) [] 11:=ki
def b73:Is prog f73 (zq [zY 0 1,zX [zu,zn] 2,zV zi 3] (.seq (zq [zF 1 1 4,zL 4 5,zU 5 6,zI .gtr 6 16 7] (zc 7 (zq [zD [zu,zn] [] 8,zS 2 2 8,zV (.int .i64 15) 3] .ret))) (zq [zN 2 1 9,zS 2 2 9,zV zi 3] .ret))) [.cell 2 (.some 2),.tmp 3] 10:=ki
def b75:Is prog f75 (zq [zV zi 4] (.seq (zq [zM 1 6,zI .geq 6 0 7] (zc 7 (zq [zM 0 8,zM 1 9,zK .u64 9 10,zC 146 [8,10] 11,zK .i64 11 12,zM 12 4] .ret))) (zq [zM 0 13,zC 62 [13] 14,zM 14 5] (zq [zM 0 15,zC 136 [15] 16] (zq [zM 0 17,zM 5 18,zR 50 [.tmp 17,zk 2,.tmp 18] 19] (zq [zV zi 4] .ret)))))) [.tmp 4] 20:=ki
def b76:Is prog f76 (zq [zV zn 6] (zq [zV zn 7] (.seq (zq [zM 1 10,zV zi 11] (.block 0 (.loop (zq [zB .lss 11 10 12] (.seq (.cond (.tmp 12) .skip (.exit 0)) (.seq (.block 1 (zq [zM 11 13,zM 13 8] (zq [zM 2 14,zM 8 15,zW (.call (.tmp 14) [.tmp 15]) 16,zX [zu,zu,zn] 9,zS 3 9 16] (.seq (zq [zM 0 17,zC 52 [17] 18,zQ 18 19] (zc 19 (zq [zV zn 6] .ret))) (.reg [zM 7 20,zN 3 9 21,zW (.bsl 3 [.tmp 21]) 22,zP 3 40 20 22 23,zM 23 7] []))))) (.reg [zI .add 11 1 24,zM 24 11] []))))))) (zq [zM 7 25,zM 25 6] .ret)))) [.tmp 6] 26:=ki
def b78:Is prog f78 (zq [zV zn 4] (zq [zM 0 8,zM 1 9,zC 147 [9] 10,zC 137 [8,10] 11,zM 11 5] (zq [zM 0 12,zC 62 [12] 13,zM 13 6] (zq [zM 0 14,zR 68 [.tmp 14,zk 4] 15,zM 15 7] (zq [zM 5 16,zM 7 17,zM 0 18,zW (.mkf 50 [.tmp 18] []) 19,zM 6 20,zC 148 [16,17,19,20] 21] (.seq (zq [zM 0 22,zC 52 [22] 23,zQ 23 24] (zc 24 (zq [zV zn 4] .ret))) (zq [zM 5 25,zM 25 4] .ret))))))) [.tmp 4] 26:=ki
def b79:Is prog f79 (zq [zY 0 1,zX [zu,zu,zn] 2] (.seq (.reg [zL 1 6,zC 116 [6] 7,zL 1 8,zC 118 [8] 9,zD [zu,zu,zn] [(0,(1,.tmp 7)),(1,(1,.tmp 9))] 10,zX [zu,zu,zn] 3,zS 3 3 10] [(0,2),(1,2),(0,5),(1,5),(2,5),(3,5)]) (zq [zX [zi] 4,(none,(.store 1 (.tmp 4) (zk 1048576),none))] (zq [zL 1 11,zF 1 3 12,zL 12 13,zR 63 [.tmp 11,.tmp 13,zk 1,zk 16] 14,zM 14 5] (zq [zL 1 15,zM 5 16,zW (.mkf 150 [] [.tmp 1,.tmp 3,.tmp 4]) 17,zC 149 [15,16,17] 18,zF 2 3 19,zS 1 19 18] (zq [zL 1 20,zC 70 [20] 21] (zq [zN 3 3 22,zS 3 2 22] .ret))))))) [.cell 2 (.some 3)] 23:=ki
def b81:Is prog f81 (zq [zY 2 5,zV zf 6] (zq [zM 1 8,zU 8 9,zM 9 7] (.seq (.reg [zF 0 5 10,zL 10 11,zM 0 12,zB .leq 11 12 13,zM 13 14,zT 14 (zM 7 15),zT 14 (zI .eql 15 0 16),zT 14 (zM 16 17),zZ 17 (zF 0 5 18),zZ 17 (zL 18 19),zZ 17 (zM 1 20),zZ 17 (zM 7 21),zZ 17 (zI .sub 21 1 22),zZ 17 (zJ 3 20 22 23),zZ 17 (zF 0 23 24),zZ 17 (zL 24 25),zZ 17 (zB .geq 19 25 26),zZ 17 (zM 26 27),zT 27 (zF 1 5 28),zT 27 (zL 28 29),zT 27 (zM 1 30),zT 27 (zM 7 31),zT 27 (zI .sub 31 1 32),zT 27 (zJ 3 30 32 33),zT 27 (zN 3 33 34),zT 27 (zC 114 [34] 35),zT 27 (zB .geq 29 35 36),(.some (17,.false),(.pick (.tmp 27) (.tmp 36) (.const (.bool .false)),.some 37)),(.some (14,.true),(.pick (.tmp 17) (.const (.bool .true)) (.tmp 37),.some 38)),zA 14 38 39,zM 39 6] [(9,15),(19,24),(19,25)]) .ret))) [.tmp 6] 40:=ki
def b83:Is prog f83 (zq [zY 0 1,zV zf 2] (.seq (zq [zF 0 1 3,zL 3 4,zC 97 [4] 5,zQ 5 6,zM 6 7,zZ 7 (zF 1 1 8),zZ 7 (zL 8 9),zZ 7 (zU 9 10),zZ 7 (zI .gtr 10 32 11),zO 7 11 12] (zc 12 (zq [zV zf 2] .ret))) (zq [zF 1 1 13,zL 13 14,zW (.mkf 154 [] [.tmp 1]) 15,zC 153 [14,15] 16,zM 16 2] .ret))) [.tmp 2] 17:=ki
def b87:Is prog f87 (zq [zV zi 0] (zq [zV (.int .i64 12) 0] .ret)) [.tmp 0] 1:=ki
def b96:Is prog f96 (zq [zX [zi,zi] 4] (zq [zD [zi,zi] [] 6,zX [zi,zi] 5,zS 2 5 6] (.seq (zq [zM 0 7,zI .neq 7 0 8] (zc 8 (.reg [zM 0 9,zM 1 10,zF 0 5 11,zS 1 11 9,zF 1 5 12,zS 1 12 10] []))) (zq [zN 2 5 13,zS 2 4 13] .ret)))) [.cell 4 (.some 2)] 14:=ki
def Ahr:Is prog f117 (zq [zV zf 2] (zq [zM 0 3,zI .eql 3 1 4,zM 4 2] .ret)) [.tmp 2] 5:=ki
def Ad7:Is prog f119 (zq [zY 0 1,zV zn 2] (zq [zC 171 [] 6,zC 170 [6] 7,zM 7 3] (zq [zM 3 8,zW (.call (.func 187) [.tmp 8,.const (.string (.mk (#[84,72,79,76])))]) 9] (zq [zM 3 10,zF 0 1 11,zL 11 12,zK .u8 12 13,zW (.bsl 1 [.tmp 13]) 14,zC 188 [10,14] 15] (zq [zM 3 16,zF 1 1 17,zL 17 18,zC 189 [16,18] 19] (.seq (zq [zF 0 1 20,zL 20 21,zC 117 [21] 22] (zc 22 (.reg [zM 3 23,zF 2 1 24,zL 24 25,zC 190 [23,25] 26] []))) (zq [zM 3 28,zC 173 [28] 29,zM 29 27,zE 27 0 30,zE 27 1 31,zM 30 4,zM 31 5] (zq [zM 4 32,zM 32 2] .ret)))))))) [.tmp 2] 33:=ki
def Ahp:Is prog f120 (zq [zV zn 2,zV zi 3] (zq [zM 0 5,zM 0 6,zH 6 7,zF 0 7 8,zL 8 9,zC 62 [9] 10,zH 5 11,zF 5 11 12,zS 1 12 10] (zq [zM 0 13,zH 13 14,zF 0 14 15,zL 15 16,zR 78 [.tmp 16,zk 2097152] 17,zM 17 4] (zq [zM 4 18,zM 0 19,zH 19 20,zF 0 20 21,zL 21 22,zC 62 [22] 23,zI .sub 23 4 24,zM 4 25,zU 25 26,zB .sub 24 26 27,zM 18 2,zM 27 3] .ret)))) [.tmp 2,.tmp 3] 28:=ki
def TP:Is prog f125 (zq [zX [zu,zi,zi,zu,zu,zi,zi] 2,zX [zi,zi] 3] (zq [zM 0 7,zC 48 [7] 8,zM 8 4] (.seq (zq [zM 4 9,zC 121 [9] 10,zW (.bin .neq (.tmp 10) (.const (.int .u8 3))) 11] (zc 11 (.reg [zM 4 12,zR 50 [.tmp 12,zk 7,zk 0] 13] []))) (zq [zM 4 14,zC 116 [14] 15,zD [zu,zi,zi,zu,zu,zi,zi] [(0,(1,.tmp 15))] 16,zX [zu,zi,zi,zu,zu,zi,zi] 5,zS 7 5 16] (zq [zM 4 17,zR 75 [.tmp 17,zk 65536] 18,zM 4 19,zR 75 [.tmp 19,zk 65536] 20,zF 1 5 21,zS 1 21 18,zF 2 5 22,zS 1 22 20] (zq [zM 4 23,zC 136 [23] 24,zM 4 25,zC 136 [25] 26,zF 3 5 27,zS 1 27 24,zF 4 5 28,zS 1 28 26] (zq [zM 4 29,zR 75 [.tmp 29,zk 1099511627776] 30,zM 4 31,zR 75 [.tmp 31,zk 1099511627776] 32,zF 5 5 33,zS 1 33 30,zF 6 5 34,zS 1 34 32] (.seq (zq [zN 7 5 35,zC 193 [35] 36,zQ 36 37] (zc 37 (.reg [zM 4 38,zR 50 [.tmp 38,zk 3,zk 0] 39] []))) (zq [zM 4 40,zC 70 [40] 41] (.seq (zq [zM 4 42,zC 54 [42] 43,zX [zi,zi] 6,zS 2 6 43] (zq [zN 2 6 44,zC 26 [44] 45,zQ 45 46] (zc 46 (.seq (.reg [zD [zu,zi,zi,zu,zu,zi,zi] [] 47,zN 2 6 48,zS 7 2 47,zS 2 3 48] [(1,2)]) .ret)))) (zq [zN 7 5 49,zD [zi,zi] [] 50,zS 7 2 49,zS 2 3 50] .ret))))))))))) [.cell 2 (.some 7),.cell 3 (.some 2)] 51:=ki
def Ad3:Is prog f130 (zq [zV zn 6,zV zn 7] (zq [zV zn 8] (zq [zV zn 9] (zq [zV (.int .i64 1048576) 10] (.seq (zq [zM 2 14,zV zi 15] (.block 0 (.loop (zq [zB .lss 15 14 16] (.seq (.cond (.tmp 16) .skip (.exit 0)) (.seq (.block 1 (zq [zM 15 17,zM 17 11] (zq [zM 0 19,zM 1 20,zM 11 21,zK .u64 21 22,zB .add 20 22 23,zM 10 24,zC 196 [19,23,24] 25,zM 25 18,zE 18 0 26,zE 18 1 27,zX [zn,zn] 12,zS 2 12 26,zM 27 13] (.seq (zq [zM 0 28,zC 52 [28] 29,zQ 29 30] (zc 30 (zq [zV zn 6,zV zn 7] .ret))) (zq [zM 10 31,zM 13 32,zB .sub 31 32 33,zM 33 10] (.reg [zM 8 34,zN 2 12 35,zW (.bsl 2 [.tmp 35]) 36,zP 2 48 34 36 37,zM 9 38,zM 13 39,zW (.bsl 1 [.tmp 39]) 40,zP 1 8 38 40 41,zM 37 8,zM 41 9] [])))))) (.reg [zI .add 15 1 42,zM 42 15] []))))))) (zq [zM 8 43,zM 9 44,zM 43 6,zM 44 7] .ret)))))) [.tmp 6,.tmp 7] 45:=ki
def z6:Is prog f144 (zq [zY 1 4,zV zf 5] (zq [zF 2 4 6,zL 6 7,zM 7 8,zT 8 (zF 1 4 9),zT 8 (zL 9 10),zT 8 (zF 1 2 11),zT 8 (zL 11 12),zT 8 (zM 0 13),(.some (8,.true),(.cvt .u64 (.tmp 13),.some 14)),zT 8 (zB .add 12 14 15),zT 8 (zB .lss 10 15 16),zA 8 16 17,zM 17 18,zZ 18 (zF 2 4 19),zZ 18 (zL 19 20),(.some (18,.false),(.un .not (.tmp 20),.some 21)),zZ 18 (zM 21 22),zT 22 (zF 1 4 23),zT 22 (zL 23 24),(.some (22,.true),(.bin .eql (.tmp 24) (.const (.int .u64 0)),.some 25)),(.some (18,.false),(.pick (.tmp 22) (.tmp 25) (.const (.bool .false)),.some 26)),zO 18 26 27,zM 27 5] .ret)) [.tmp 5] 28:=ki
def Adx:Is prog f148 (zq [zM 0 8,zC 69 [8] 9,zK .u64 9 10,zM 1 11,zB .neq 10 11 12] (zc 12 (.reg [zM 2 13,zM 3 14,zW (.call (.tmp 13) [zk 6,.tmp 14]) 15] []))) [] 16:=ki
def Adw:Is prog f149 (zq [zV zn 6] (zq [zV zn 7] (.seq (zq [zM 1 10,zV zi 11] (.block 0 (.loop (zq [zB .lss 11 10 12] (.seq (.cond (.tmp 12) .skip (.exit 0)) (.seq (.block 1 (zq [zM 11 13,zM 13 8] (zq [zM 2 14,zM 8 15,zW (.call (.tmp 14) [.tmp 15]) 16,zX [zn,zn] 9,zS 2 9 16] (.seq (zq [zM 0 17,zC 52 [17] 18,zQ 18 19] (zc 19 (zq [zV zn 6] .ret))) (.reg [zM 7 20,zN 2 9 21,zW (.bsl 2 [.tmp 21]) 22,zP 2 48 20 22 23,zM 23 7] []))))) (.reg [zI .add 11 1 24,zM 24 11] []))))))) (zq [zM 7 25,zM 25 6] .ret)))) [.tmp 6] 26:=ki
def rK:Is prog f151 (zq [zV zn 4] (zq [zV zn 5] (.seq (zq [zM 0 10,zR 75 [.tmp 10,zk 16] 11,zV zi 12] (.block 0 (.loop (zq [zB .lss 12 11 13] (.seq (.cond (.tmp 13) .skip (.exit 0)) (.seq (.block 1 (zq [zM 12 14,zM 14 6] (zq [zM 0 15,zC 62 [15] 16,zM 16 7] (zq [zM 0 17,zC 136 [17] 18,zD [zu,zn] [(0,(1,.tmp 18))] 19,zX [zu,zn] 8,zS 2 8 19] (.seq (zq [zM 6 20,zI .gtr 20 0 21] (zc 21 (zq [zM 5 22,zM 6 23,zI .sub 23 1 24,zJ 2 22 24 25,zF 0 25 26,zL 26 27,zM 27 9] (.seq (zq [zF 0 8 28,zL 28 29,zM 9 30,zW (.un .xor (.tmp 30)) 31,zB .geq 29 31 32] (zc 32 (.reg [zM 0 33,zM 7 34,zR 50 [.tmp 33,zk 13,.tmp 34] 35] []))) (.reg [zF 0 8 36,zL 36 37,zM 9 38,zW (.bin .add (.tmp 38) (.const (.int .u64 1))) 39,zB .add 37 39 40,zF 0 8 41,zS 1 41 40] []))))) (zq [zM 0 42,zM 1 43,zR 201 [.tmp 42,.tmp 43,zk 4] 44,zF 1 8 45,zS 1 45 44] (.seq (zq [zM 0 46,zC 52 [46] 47,zQ 47 48] (zc 48 (zq [zV zn 4] .ret))) (.reg [zM 5 49,zN 2 8 50,zW (.bsl 2 [.tmp 50]) 51,zP 2 32 49 51 52,zM 52 5] [])))))))) (.reg [zI .add 12 1 53,zM 53 12] []))))))) (zq [zM 5 54,zM 54 4] .ret)))) [.tmp 4] 55:=ki
def Adt:Is prog f155 (zq [zV zf 4] (.seq (zq [zM 0 7,zU 7 8,zV zi 9] (.block 0 (.loop (zq [zB .lss 9 8 10] (.seq (.cond (.tmp 10) .skip (.exit 0)) (.seq (.block 1 (zq [zM 9 11,zJ 2 7 9 12,zN 2 12 13,zX [zn,zn] 6,zM 11 5,zS 2 6 13] (zq [zM 1 14,zM 5 15,zN 2 6 16,zW (.call (.tmp 14) [.tmp 15,.tmp 16]) 17,zQ 17 18] (zc 18 (zq [zV zf 4] .ret))))) (.reg [zI .add 9 1 19,zM 19 9] []))))))) (zq [zV zt 4] .ret))) [.tmp 4] 20:=ki
def Adp:Is prog f169 (zq [zY 1 3,zV zf 4] (zq [zM 0 5,zF 0 3 6,zL 6 7,zC 207 [5,7] 8,zM 8 9,zT 9 (zF 1 3 10),zT 9 (zL 10 11),zT 9 (zU 11 12),zT 9 (zI .leq 12 1048576 13),zA 9 13 14,zM 14 4] .ret)) [.tmp 4] 15:=ki
def rI:Is prog f173 (zq [zV zn 2,zV zi 3] (.seq (zq [zM 0 5,zC 211 [5] 6,zM 6 4] (zq [zM 4 7,zI .neq 7 0 8] (zc 8 (zq [zM 4 9,zV zn 2,zM 9 3] .ret)))) (zq [zW (.bsl 1 []) 10,zM 0 11,zH 11 12,zF 1 12 13,zL 13 14,zP 1 1 10 14 15,zM 15 2,zV zi 3] .ret))) [.tmp 2,.tmp 3] 16:=ki
def y7:Is prog f176 (zq [zV zn 2,zV zi 3] (zq [zM 0 5,zU 5 6,zC 216 [6] 7,zC 170 [7] 8,zM 8 4] (zq [zM 4 9,zM 0 10,zC 217 [9,10] 11] (zq [zM 4 12,zC 173 [12] 13,zE 13 0 14,zE 13 1 15,zM 14 2,zM 15 3] .ret)))) [.tmp 2,.tmp 3] 16:=ki
def Adj:Is prog f196 (zq [zX [zn,zn] 6,zV zi 7] (zq [zM 0 10,zM 1 11,zC 151 [10,11] 12,zD [zn,zn] [(0,(1,.tmp 12))] 13,zX [zn,zn] 8,zS 2 8 13] (zq [zM 0 14,zM 2 15,zC 75 [14,15] 16,zM 16 9] (.seq (zq [zM 0 17,zC 52 [17] 18,zQ 18 19] (zc 19 (zq [zD [zn,zn] [] 20,zS 2 6 20,zV zi 7] .ret))) (zq [zN 2 8 21,zM 9 22,zS 2 6 21,zM 22 7] .ret))))) [.cell 6 (.some 2),.tmp 7] 23:=ki
def Adi:Is prog f197 (zq [zV zn 4,zX [zi,zi] 5] (.scope (zq [zM 0 13,zC 48 [13] 14,zM 14 6] (zq [zV zn 7] (zq [zV zf 8] (zq [zV zi 9,zV zi 10,zV zi 11] (.seq (.label 1) (.seq (zq [zM 6 15,zC 141 [15] 16,zI .eql 16 0 17,zM 17 18,zZ 18 (zM 6 19),zZ 18 (zC 52 [19] 20),(.some (18,.false),(.un .not (.tmp 20),.some 21)),zO 18 21 22] (zc 22 (.goto 0))) (zq [zM 6 23,zC 62 [23] 24,zM 24 9] (zq [zM 6 26,zC 224 [26] 27,zM 27 25,zE 25 0 28,zE 25 1 29,zM 28 8,zM 29 10] (.seq (zq [zM 10 30,zM 1 31,zM 7 32,zU 32 33,zB .sub 31 33 34,zB .gtr 30 34 35] (zc 35 (zq [zM 6 36,zM 9 37,zR 50 [.tmp 36,zk 11,.tmp 37] 38] (.goto 0)))) (.seq (zq [zM 8 39,zQ 39 40] (zc 40 (zq [zM 7 41,zM 6 42,zM 10 43,zC 126 [42,43] 44,zP 1 1 41 44 45,zM 45 7] (.goto 1)))) (zq [zM 6 46,zC 62 [46] 47,zM 47 9] (zq [zM 6 48,zC 225 [48] 49,zM 49 11] (.seq (zq [zM 11 50,zM 7 51,zU 51 52,zB .gtr 50 52 53] (zc 53 (.reg [zM 6 54,zM 9 55,zR 50 [.tmp 54,zk 10,.tmp 55] 56] []))) (.seq (zq [zM 6 57,zC 52 [57] 58] (zc 58 (.reg [zM 7 59,zM 11 60,zM 10 61,zC 226 [59,60,61] 62,zM 62 7] []))) (.seq (.goto 1) (.seq (.label 0) (.seq (zq [zM 6 63,zC 54 [63] 64,zX [zi,zi] 12,zS 2 12 64] (zq [zN 2 12 65,zC 26 [65] 66,zQ 66 67] (zc 67 (zq [zN 2 12 68,zV zn 4,zS 2 5 68] .ret)))) (zq [zM 7 69,zD [zi,zi] [] 70,zM 69 4,zS 2 5 70] .ret)))))))))))))))))))) [.tmp 4,.cell 5 (.some 2)] 71:=ki
def Agw:Is prog f200 (zq [zX [.int .u32 0,.int .u32 0,.int .u32 0,.int .u32 0,.int .u32 0,.int .u32 0,.int .u32 0,.int .u32 0,.int .u32 0,.int .u32 0,.int .u32 0,.int .u32 0,.int .u32 0,.int .u32 0,.int .u32 0,.int .u32 0] 0] (zq [zX [.int .u32 0,.int .u32 0,.int .u32 0,.int .u32 0,.int .u32 0,.int .u32 0,.int .u32 0,.int .u32 0,.int .u32 0,.int .u32 0,.int .u32 0,.int .u32 0,.int .u32 0,.int .u32 0,.int .u32 0,.int .u32 0] 1] (.seq (zq [zV zi 4] (.block 0 (.loop (zq [zI .lss 4 16 5] (.seq (.cond (.tmp 5) .skip (.exit 0)) (.seq (.block 1 (zq [zM 4 6,zM 6 2] (zq [zM 2 7,zK .u32 7 8,zM 8 3] (.seq (zq [zV zi 9] (.block 2 (.loop (zq [zI .lss 9 4 10] (.seq (.cond (.tmp 10) .skip (.exit 2)) (.seq (.block 3 (.reg [zM 3 11,zC 229 [11] 12,zM 12 3] [])) (.reg [zI .add 9 1 13,zM 13 9] []))))))) (.reg [zM 2 14,zM 3 15,zW (.aadr 16 1 (.tmp 1) (.tmp 14)) 16,zS 1 16 15] []))))) (.reg [zI .add 4 1 17,zM 17 4] []))))))) (zq [zN 16 1 18,zS 16 0 18] .ret)))) [.cell 0 (.some 16)] 19:=ki
def Adg:Is prog f202 (zq [zV zf 4] (.seq (zq [zM 0 7,zU 7 8,zV zi 9] (.block 0 (.loop (zq [zB .lss 9 8 10] (.seq (.cond (.tmp 10) .skip (.exit 0)) (.seq (.block 1 (zq [zM 9 11,zJ 2 7 9 12,zN 2 12 13,zX [zu,zn] 6,zM 11 5,zS 2 6 13] (zq [zM 1 14,zM 5 15,zN 2 6 16,zW (.call (.tmp 14) [.tmp 15,.tmp 16]) 17,zQ 17 18] (zc 18 (zq [zV zf 4] .ret))))) (.reg [zI .add 9 1 19,zM 19 9] []))))))) (zq [zV zt 4] .ret))) [.tmp 4] 20:=ki
def Ade:Is prog f210 (zq [zM 0 4,zC 211 [4] 5,zI .eql 5 0 6] (zc 6 (.reg [zM 0 7,zM 1 8,zH 7 9,zF 2 9 10,zS 1 10 8] []))) [] 11:=ki
def Ags:Is prog f213 (.reg [zM 0 4,zM 1 5,zC 237 [5] 6,zC 188 [4,6] 7] []) [] 8:=ki
def Agq:Is prog f216 (zq [zV zi 2] (zq [zM 0 3,zC 198 [3] 4,zI .add 4 4 5,zM 5 2] .ret)) [.tmp 2] 6:=ki
def Ago:Is prog f219 (zq [zY 0 1,zX [zu,zn] 2] (zq [zW (.bsl 1 []) 3,zF 1 1 4,zL 4 5,zP 1 8 3 5 6,zF 1 1 7,zS 1 7 6] (zq [zN 2 1 8,zS 2 2 8] .ret))) [.cell 2 (.some 2)] 9:=ki
def jP:Is prog f223 (zq [zY 0 1,zV zf 2] (.seq (zq [zF 1 1 3,zL 3 4,zI .eql 4 0 5] (zc 5 (zq [zF 3 1 6,zL 6 7,zW (.bin .eql (.tmp 7) (.const (.int .u64 0))) 8,zM 8 9,zT 9 (zF 4 1 10),zT 9 (zL 10 11),(.some (9,.true),(.bin .eql (.tmp 11) (.const (.int .u64 0)),.some 12)),zA 9 12 13,zM 13 2] .ret))) (zq [zF 3 1 14,zL 14 15,zF 4 1 16,zL 16 17,zB .lss 15 17 18,zM 18 19,zT 19 (zF 4 1 20),zT 19 (zL 20 21),(.some (19,.true),(.bin .leq (.tmp 21) (.const (.int .u64 4611686018427387904)),.some 22)),zA 19 22 23,zM 23 24,zT 24 (zF 4 1 25),zT 24 (zL 25 26),zT 24 (zF 3 1 27),zT 24 (zL 27 28),zT 24 (zB .sub 26 28 29),zT 24 (zF 2 1 30),zT 24 (zL 30 31),(.some (24,.true),(.cvt .u64 (.tmp 31),.some 32)),zT 24 (zB .geq 29 32 33),zA 24 33 34,zM 34 2] .ret))) [.tmp 2] 35:=ki
def jO:Is prog f224 (zq [zV zf 2,zV zi 3] (zq [zM 0 9,zC 62 [9] 10,zM 10 4] (zq [zM 0 11,zC 136 [11] 12,zM 12 5] (.seq (zq [zM 0 13,zC 52 [13] 14,zQ 14 15] (zc 15 (zq [zV zf 2,zV zi 3] .ret))) (zq [zM 5 16,zW (.bin .rem (.tmp 16) (.const (.int .u64 2))) 17,zW (.bin .eql (.tmp 17) (.const (.int .u64 1))) 18,zM 18 6,zV (.int .i64 1) 7,zV (.int .i64 1048576) 8] (.seq (zq [zM 6 19] (zc 19 (.reg [zV (.int .i64 4) 7,zV (.int .i64 1048576) 8] []))) (.seq (zq [zM 5 20,zW (.bin .quo (.tmp 20) (.const (.int .u64 2))) 21,zM 8 22,zM 7 23,zB .sub 22 23 24,zK .u64 24 25,zB .gtr 21 25 26] (zc 26 (zq [zM 0 27,zM 4 28,zR 50 [.tmp 27,zk 2,.tmp 28] 29] (zq [zV zf 2,zV zi 3] .ret)))) (zq [zM 6 30,zM 5 31,zW (.bin .quo (.tmp 31) (.const (.int .u64 2))) 32,zK .i64 32 33,zM 7 34,zB .add 33 34 35,zM 30 2,zM 35 3] .ret)))))))) [.tmp 2,.tmp 3] 36:=ki
def yW:Is prog f225 (zq [zV zi 2] (zq [zM 0 5,zC 62 [5] 6,zM 6 3] (zq [zM 0 7,zC 136 [7] 8,zM 8 4] (.seq (zq [zM 4 9,zW (.bin .geq (.tmp 9) (.const (.int .u64 65536))) 10] (zc 10 (.reg [zM 0 11,zM 3 12,zR 50 [.tmp 11,zk 10,.tmp 12] 13] []))) (.seq (zq [zM 0 14,zC 52 [14] 15,zQ 15 16] (zc 16 (zq [zV zi 2] .ret))) (zq [zM 4 17,zK .i64 17 18,zI .add 18 1 19,zM 19 2] .ret)))))) [.tmp 2] 20:=ki
def Ac8:Is prog f229 (zq [zV (.int .u32 0) 2] (.seq (zq [zM 0 3,zW (.bin .and (.tmp 3) (.const (.int .u32 1))) 4,zW (.bin .eql (.tmp 4) (.const (.int .u32 1))) 5] (zc 5 (zq [zM 0 6,zW (.bin .shr (.tmp 6) (.const (.int .u64 1))) 7,zW (.bin .xor (.tmp 7) (.const (.int .u32 2197175160))) 8,zM 8 2] .ret))) (zq [zM 0 9,zW (.bin .shr (.tmp 9) (.const (.int .u64 1))) 10,zM 10 2] .ret))) [.tmp 2] 11:=ki
def Ac7:Is prog f231 (zq [zV zf 4] (.seq (zq [zM 0 6,zU 6 7,zV zi 8] (.block 0 (.loop (zq [zB .lss 8 7 9] (.seq (.cond (.tmp 9) .skip (.exit 0)) (.seq (.block 1 (zq [zM 8 10,zM 10 5] (.seq (.reg [zM 5 11,zI .gtr 11 0 12,zM 12 13,zT 13 (zM 1 14),zT 13 (zM 0 15),zT 13 (zM 5 16),zT 13 (zJ 2 15 16 17),zT 13 (zN 2 17 18),(.some (13,.true),(.call (.tmp 14) [.tmp 18],.some 19)),zT 13 (zM 1 20),zT 13 (zM 0 21),zT 13 (zM 5 22),zT 13 (zI .sub 22 1 23),zT 13 (zJ 2 21 23 24),zT 13 (zN 2 24 25),(.some (13,.true),(.call (.tmp 20) [.tmp 25],.some 26)),zT 13 (zB .leq 19 26 27),zA 13 27 28] [(7,14),(8,14)]) (zc 28 (zq [zV zf 4] .ret))))) (.reg [zI .add 8 1 29,zM 29 8] []))))))) (zq [zV zt 4] .ret))) [.tmp 4] 30:=ki
def Agk:Is prog f232 (zq [zY 0 1,zV zu 2] (zq [zF 0 1 3,zL 3 4,zM 4 2] .ret)) [.tmp 2] 5:=ki
def Ac3:Is prog f238 (.seq (zq [zM 1 8,zM 2 9,zC 207 [8,9] 10,zQ 10 11] (zc 11 (zq [zM 0 12,zR 210 [.tmp 12,zk 3] 13] .ret))) (zq [zM 0 14,zM 2 15,zU 15 16,zK .u64 16 17,zC 213 [14,17] 18] (zq [zM 2 19,zC 242 [19] 20,zU 20 21,zV zi 22] (.block 0 (.loop (zq [zB .lss 22 21 23] (.seq (.cond (.tmp 23) .skip (.exit 0)) (.seq (.block 1 (zq [zM 22 24,zJ 1 20 22 25,zL 25 26,zM 24 6,zM 26 7] (zq [zM 0 27,zM 7 28,zC 213 [27,28] 29] (.reg [zM 0 30,zM 1 31,zM 2 32,zM 6 33,zJ 2 32 33 34,zF 1 34 35,zL 35 36,zC 244 [30,31,36] 37] [])))) (.reg [zI .add 22 1 38,zM 38 22] []))))))))) [] 39:=ki
def Age:Is prog f245 (zq [zY 0 1,zV zn 2,zV zi 3] (.seq (zq [zL 1 11,zU 11 12,zI .gtr 12 1048576 13] (zc 13 (zq [zV zn 2,zV (.int .i64 2) 3] .ret))) (zq [zX [zn] 4] (zq [zX [zi] 5,(none,(.store 1 (.tmp 5) (zk 0),none))] (zq [zW (.mkf 247 [] [.tmp 5,.tmp 4,.tmp 1]) 14,zM 14 6] (zq [zL 1 15,zC 248 [15] 16,zM 16 7] (.seq (zq [zV zi 8] (.block 0 (.loop (.seq (zq [zM 8 17,zL 1 18,zU 18 19,zB .lss 17 19 20] (.cond (.tmp 20) .skip (.exit 0))) (.block 1 (zq [zM 7 22,zM 8 23,zC 249 [22,23] 24,zM 24 21,zE 21 0 25,zE 21 1 26,zM 25 9,zM 26 10] (.seq (zq [zM 10 27,zI .eql 27 0 28] (zc 28 (zq [zM 8 29,zI .add 29 1 30,zM 30 8] (.exit 1)))) (zq [zM 6 31,zM 8 32,zW (.call (.tmp 31) [.tmp 32]) 33] (zq [zL 4 34,zM 9 35,zM 10 36,zD [zn,zi,zi] [(1,(1,.tmp 35)),(2,(1,.tmp 36))] 37,zW (.bsl 3 [.tmp 37]) 38,zP 3 40 34 38 39,zS 1 4 39] (zq [zM 8 40,zM 10 41,zB .add 40 41 42,zM 42 8] (.reg [zM 8 43,zS 1 5 43] []))))))))))) (zq [zM 6 44,zL 1 45,zU 45 46,zW (.call (.tmp 44) [.tmp 46]) 47] (zq [zL 4 48,zM 48 2,zV zi 3] .ret))))))))) [.tmp 2,.tmp 3] 49:=ki
def Acz:Is prog f246 (zq [zV zn 2,zV zi 3] (zq [zM 0 7,zC 250 [7] 8,zC 170 [8] 9,zM 9 4] (.seq (zq [zM 0 10,zU 10 11,zV zi 12] (.block 0 (.loop (zq [zB .lss 12 11 13] (.seq (.cond (.tmp 13) .skip (.exit 0)) (.seq (.block 1 (zq [zJ 3 10 12 14,zN 3 14 15,zX [zn,zi,zi] 6,zS 3 6 15] (.reg [zM 4 16,zN 3 6 17,zC 251 [16,17] 18] []))) (.reg [zI .add 12 1 19,zM 19 12] []))))))) (zq [zM 4 20,zC 173 [20] 21,zE 21 0 22,zE 21 1 23,zM 22 2,zM 23 3] .ret)))) [.tmp 2,.tmp 3] 24:=ki
def Acy:Is prog f249 (zq [zY 0 2,zY 1 3,zV zi 4,zV zi 5] (.seq (zq [zL 2 10,zW (.eqp .false (.tmp 10) (.const (.pointer none))) 11] (zc 11 (zq [zV zi 4,zV zi 5] .ret))) (.seq (.reg [zL 2 12,zH 12 13,zF 1 13 14,zL 14 15,zL 3 16,zL 2 17,zH 17 18,zF 0 18 19,zL 19 20,zU 20 21,zW (.mx .false (.tmp 16) (.tmp 21)) 22,zC 253 [15,22] 23] [(0,4),(3,4),(0,5),(3,5),(4,5),(0,8),(3,8),(4,8)]) (zq [zX [zi] 6,zX [zi] 7,(none,(.store 1 (.tmp 6) (zk 0),none)),(none,(.store 1 (.tmp 7) (zk 0),none))] (.seq (.seq (.reg [zL 2 24,zH 24 25,zF 1 25 26,zL 26 27,zL 3 28,zC 254 [27,28] 29] [(0,4),(3,4)]) (.block 0 (.rng (.tmp 29) [30] (.reg [zM 30 8] []) (.block 1 (zq [zL 2 31,zH 31 32,zF 2 32 33,zL 33 34,zI .add 34 1 35,zH 31 36,zF 2 36 37,zS 1 37 35] (.seq (.seq (.reg [zL 2 38,zH 38 39,zF 0 39 40,zL 40 41,zL 3 42,zL 3 43,zM 8 44,zB .sub 43 44 45,zC 255 [41,42,45] 46,zM 46 9] [(0,4),(3,4),(0,5),(3,5),(4,5)]) (zq [zM 9 47,zL 7 48,zB .gtr 47 48 49] (zc 49 (.reg [zL 3 50,zM 8 51,zB .sub 50 51 52,zM 9 53,zS 1 6 52,zS 1 7 53] [])))) (.seq (.reg [zL 3 54,zL 7 55,zB .add 54 55 56,zL 2 57,zH 57 58,zF 0 58 59,zL 59 60,zU 60 61,zB .eql 56 61 62] [(0,1),(0,3),(1,3),(0,6),(1,6)]) (zc 62 (.exit 0))))))))) (zq [zL 6 63,zL 7 64,zC 256 [63,64] 65,zE 65 0 66,zE 65 1 67,zM 66 4,zM 67 5] .ret)))))) [.tmp 4,.tmp 5] 68:=ki
def Aga:Is prog f253 (zq [zV zi 4] (zq [zV zi 5] (.seq (.block 0 (.loop (.seq (zq [zM 0 6,zC 258 [6] 7,zM 1 8,zB .lss 7 8 9,zM 9 10,zT 10 (zM 0 11),zT 10 (zC 259 [11] 12),zA 10 12 13] (.cond (.tmp 13) .skip (.exit 0))) (.block 1 (.reg [zM 5 14,zI .add 14 1 15,zM 15 5] []))))) (zq [zM 5 16,zM 16 4] .ret)))) [.tmp 4] 17:=ki
def TN:Is prog f257 (zq [zY 0 1,zV zf 2] (zq [zF 0 1 4,zL 4 5,zU 5 6,zM 6 3] (.seq (.block 0 (.seq (.block 3 (.block 2 (.seq (.block 1 (.seq (.seq (zq [zF 1 1 8,zL 8 9,zI .eql 9 0 10,zM 10 7] (zc 7 (.exit 1))) (.seq (zq [zM 3 12,zI .gtr 12 0 13,zM 13 11] (zc 11 (.exit 2))) (zq [zF 1 1 15,zL 15 16,zI .lss 16 0 17,zM 17 18,zZ 18 (zF 1 1 19),zZ 18 (zL 19 20),zZ 18 (zI .gtr 20 65536 21),zO 18 21 22,zM 22 14] (zc 14 (.exit 3))))) (.exit 0))) (.seq (zq [zF 2 1 23,zL 23 24,zI .eql 24 0 25,zM 25 26,zT 26 (zM 3 27),zT 26 (zI .geq 27 1 28),zA 26 28 29,zM 29 30,zT 30 (zM 3 31),zT 30 (zI .leq 31 1048576 32),zA 30 32 33,zM 33 2] .ret) (.exit 0))))) (.seq (zq [zV zf 2] .ret) (.exit 0)))) (zq [zF 2 1 34,zL 34 35,zI .geq 35 4 36,zM 36 37,zT 37 (zF 2 1 38),zT 37 (zL 38 39),zT 37 (zI .leq 39 1048576 40),zA 37 40 41,zM 41 2] .ret)))) [.tmp 2] 42:=ki
def Af8:Is prog f258 (zq [zV zi 2] (.seq (zq [zM 0 3,zW (.eqp .false (.tmp 3) (.const (.pointer none))) 4] (zc 4 (zq [zV zi 2] .ret))) (zq [zM 0 5,zH 5 6,zF 2 6 7,zL 7 8,zU 8 9,zM 9 2] .ret))) [.tmp 2] 10:=ki
def rD:Is prog f260 (.seq (zq [zL 1 8,zW (.eqp .false (.tmp 8) (.const (.pointer none))) 9] (zc 9 .ret)) (.seq (.reg [zL 1 11,zH 11 12,zF 0 12 13,zL 13 14,zL 2 15,zC 261 [14,15] 16,zM 16 10,zE 10 0 17,zE 10 1 18,zM 17 4,zM 18 5] [(0,4),(3,4)]) (.seq (zq [zM 5 19,zQ 19 20] (zc 20 .ret)) (zq [zL 1 21,zH 21 22,zF 1 22 23,zL 23 24,zM 4 25,zW (.mlook (.tmp 24) (.tmp 25)) 26,zM 26 6] (.block 0 (.loop (.seq (zq [zM 6 27,zI .gtr 27 0 28] (.cond (.tmp 28) .skip (.exit 0))) (.seq (.block 1 (zq [zM 6 37,zI .sub 37 1 38,zM 38 7] (.seq (zq [zL 2 39,zM 7 40,zB .sub 39 40 41,zI .gtr 41 65536 42] (zc 42 .ret)) (zq [zM 7 43,zL 2 44,zB .lss 43 44 45,zM 45 46,zT 46 (zM 0 47),zT 46 (zM 7 48),(.some (46,.true),(.call (.tmp 47) [.tmp 48],.some 49)),(.some (46,.true),(.un .not (.tmp 49),.some 50)),zA 46 50 51] (zc 51 .ret))))) (.reg [zL 1 29,zH 29 30,zF 2 30 31,zL 31 32,zM 6 33,zI .sub 33 1 34,zJ 1 32 34 35,zL 35 36,zM 36 6] []))))))))) [] 52:=ki
def b9:Is prog f9 (zq [zV (.pointer none) 0] (zq [zD [.nilFunc,zn,zi,zi,zi,zu,zu,zu,zn,zn,zu,zi,zi,zu,zu,zi,zi,zi,zn] [(0,(1,.func 32))] 1,zY 1 2,zM 2 0] .ret)) [.tmp 0] 3:=ki
def b10:Is prog f10 (zq [zV zn 4] (zq [zV zn 5] (.seq (zq [zV zi 6] (.block 0 (.loop (.seq (zq [zM 6 8,zM 1 9,zU 9 10,zB .lss 8 10 11,zM 11 12,zT 12 (zM 6 13),zT 12 (zI .lss 13 40 14),zA 12 14 15] (.cond (.tmp 15) .skip (.exit 0))) (.seq (.block 1 (zq [zM 1 18,zM 6 19,zJ 1 18 19 20,zL 20 21,zK .i64 21 22,zM 0 23,zU 23 24,zW (.mx .false (.tmp 22) (.tmp 24)) 25,zM 25 7] (zq [zM 5 26,zM 0 27,zM 7 28,zW (.slice 1 (.tmp 27) none (.some (.tmp 28)) none) 29,zW (.bsl 1 [.tmp 29]) 30,zP 1 24 26 30 31,zM 31 5] (.reg [zM 0 32,zM 7 33,zW (.slice 1 (.tmp 32) (.some (.tmp 33)) none none) 34,zM 34 0] [])))) (.reg [zM 6 16,zI .add 16 1 17,zM 17 6] [])))))) (zq [zM 5 35,zM 0 36,zW (.bsl 1 [.tmp 36]) 37,zP 1 24 35 37 38,zM 38 4] .ret)))) [.tmp 4] 39:=ki
def b16:Is prog f16 (zq [zY 0 2,zX [zn,zi,zi,zi] 4,zV zn 5] (.seq (zq [zM 1 10,zI .gtr 10 2097152 11] (zc 11 (.reg [zV (.int .i64 2097152) 1] []))) (zq [zN 4 2 13,zM 1 14,zC 38 [13,14] 15,zM 15 12,zE 12 0 16,zE 12 1 17,zX [zn,zi,zi,zi] 6,zS 4 6 16,zM 17 7] (zq [zN 4 6 19,zR 39 [.tmp 19,zk 4] 20,zM 20 18,zE 18 0 21,zE 18 1 22,zX [zn,zi,zi,zi] 8,zS 4 8 21,zM 22 9] (.seq (zq [zF 2 8 23,zF 0 23 24,zL 24 25,zI .eql 25 0 26,zM 26 27,zT 27 (zM 9 28),zT 27 (zM 7 29),zT 27 (zC 40 [29] 30),(.some (27,.true),(.cvt .u64 (.tmp 30),.some 31)),zT 27 (zB .neq 28 31 32),zA 27 32 33] (zc 33 (.reg [zN 4 8 34,zF 1 6 35,zL 35 36,zR 41 [.tmp 34,zk 6,.tmp 36] 37,zS 4 8 37] []))) (.seq (zq [zF 2 8 38,zF 0 38 39,zL 39 40,zI .neq 40 0 41] (zc 41 (zq [zN 4 8 42,zS 4 4 42,zV zn 5] .ret))) (zq [zN 4 8 43,zM 7 44,zS 4 4 43,zM 44 5] .ret))))))) [.cell 4 (.some 4),.tmp 5] 45:=ki
def b18:Is prog f18 (zq [zY 0 1,zV zn 2,zV zi 3] (.seq (zq [zN 2 1 4,zC 42 [4] 5,zQ 5 6] (zc 6 (zq [zV zn 2,zV (.int .i64 3) 3] .ret))) (zq [zN 2 1 7,zC 43 [7] 8,zW (.fld 0 none (.tmp 8)) 9,zM 9 2,zV zi 3] .ret))) [.tmp 2,.tmp 3] 10:=ki
def b19:Is prog f19 (zq [zX [zn,zn] 4,zX [zi,zi] 5] (zq [zM 0 14,zC 44 [14] 15,zM 15 13,zE 13 0 16,zE 13 1 17,zX [zu,zi,zi,zu,zu,zi,zi,zi,zn] 6,zX [zi,zi] 7,zS 9 6 16,zS 2 7 17] (.seq (zq [zN 2 7 18,zC 26 [18] 19,zQ 19 20] (zc 20 (.seq (.reg [zD [zn,zn] [] 21,zN 2 7 22,zS 2 4 21,zS 2 5 22] [(1,2)]) .ret))) (zq [zF 8 6 24,zL 24 25,zM 1 26,zC 45 [25,26] 27,zM 27 23,zE 23 0 28,zE 23 1 29,zX [zu,zi,zi] 8,zS 3 8 28,zM 29 9] (.seq (zq [zM 9 30,zQ 30 31] (zc 31 (zq [zD [zn,zn] [] 32,zR 31 [zk 16,zk 0] 33,zS 2 4 32,zS 2 5 33] .ret))) (zq [zM 0 35,zN 3 8 36,zF 0 6 37,zF 5 37 38,zL 38 39,zC 46 [35,36,39] 40,zM 40 34,zE 34 0 41,zE 34 1 42,zX [zu,zu,zn] 10,zS 3 10 41,zS 2 7 42] (.seq (zq [zN 2 7 43,zC 26 [43] 44,zQ 44 45] (zc 45 (.seq (.reg [zD [zn,zn] [] 46,zN 2 7 47,zS 2 4 46,zS 2 5 47] [(1,2)]) .ret))) (zq [zN 3 10 49,zM 1 50,zC 47 [49,50] 51,zM 51 48,zE 48 0 52,zE 48 1 53,zX [zn,zn] 11,zS 2 11 52,zM 53 12] (zq [zN 2 11 54,zD [zi,zi] [] 55,zS 2 4 54,zS 2 5 55] .ret))))))))) [.cell 4 (.some 2),.cell 5 (.some 2)] 56:=ki
def b27:Is prog f27 (zq [zY 0 1,zX [zu,zn] 2,zV zi 3] (.seq (zq [zN 3 1 4,zC 72 [4] 5,zQ 5 6] (zc 6 (zq [zD [zu,zn] [] 7,zS 2 2 7,zV (.int .i64 3) 3] .ret))) (zq [zN 3 1 8,zC 74 [8] 9,zC 73 [9] 10,zE 10 0 11,zE 10 1 12,zS 2 2 11,zM 12 3] .ret))) [.cell 2 (.some 2),.tmp 3] 13:=ki
def b33:Is prog f33 (zq [zV zf 2] (zq [zM 0 3,zW (.eqp .true (.tmp 3) (.const (.pointer none))) 4,zM 4 5,zT 5 (zM 0 6),(.some (5,.true),(.nilc (.tmp 6),.some 7)),zT 5 (zF 0 7 8),zT 5 (zL 8 9),(.some (5,.true),(.eqf .true (.tmp 9) (.const .nilFunc),.some 10)),zA 5 10 11,zM 11 12,zT 12 (zM 0 13),(.some (12,.true),(.nilc (.tmp 13),.some 14)),zT 12 (zF 4 14 15),zT 12 (zL 15 16),zT 12 (zI .eql 16 0 17),zA 12 17 18,zM 18 2] .ret)) [.tmp 2] 19:=ki
def b40:Is prog f40 (zq [zV (.int .u32 0) 2] (zq [zM 0 3,zR 95 [.const (.int .u32 4294967295),.tmp 3] 4,zW (.bin .sub (.const (.int .u32 4294967295)) (.tmp 4)) 5,zM 5 2] .ret)) [.tmp 2] 6:=ki
def b47:Is prog f47 (zq [zY 0 2,zX [zn,zn] 4,zV zf 5] (.seq (zq [zN 3 2 6,zC 113 [6] 7,zQ 7 8,zM 8 9,zZ 9 (zM 1 10),zZ 9 (zF 1 2 11),zZ 9 (zL 11 12),zZ 9 (zB .lss 10 12 13),zO 9 13 14,zM 14 15,zZ 15 (zM 1 16),zZ 15 (zN 3 2 17),zZ 15 (zC 114 [17] 18),zZ 15 (zB .geq 16 18 19),zO 15 19 20] (zc 20 (zq [zD [zn,zn] [] 21,zS 2 4 21,zV zf 5] .ret))) (zq [zF 2 2 22,zL 22 23,zM 1 24,zF 1 2 25,zL 25 26,zB .sub 24 26 27,zJ 2 23 27 28,zN 2 28 29,zC 115 [29] 30,zS 2 4 30,zV zt 5] .ret))) [.cell 4 (.some 2),.tmp 5] 31:=ki
def b48:Is prog f48 (zq [zV (.pointer none) 2] (zq [zM 0 3,zM 0 4,zU 4 5,zM 0 6,zU 6 7,zW (.slice 1 (.tmp 3) none (.some (.tmp 5)) (.some (.tmp 7))) 8,zD [zn,zi,zi,zi] [(0,(1,.tmp 8))] 9,zY 9 10,zM 10 2] .ret)) [.tmp 2] 11:=ki
def b51:Is prog f51 (.block 0 (.loop (.seq (zq [zM 0 7,zH 7 8,zF 0 8 9,zL 9 10,zC 52 [10] 11] (.cond (.tmp 11) .skip (.exit 0))) (.block 1 (zq [zM 0 13,zC 120 [13] 14,zM 14 12,zE 12 0 15,zE 12 1 16,zM 15 4,zM 16 5] (.seq (zq [zM 0 17,zH 17 18,zF 0 18 19,zL 19 20,zC 52 [20] 21,zQ 21 22] (zc 22 .ret)) (zq [zM 4 23,zC 48 [23] 24,zM 24 6] (zq [zM 6 25,zC 121 [25] 26] (.block 2 (zq [zW (.bin .eql (.tmp 26) (.const (.int .u8 1))) 35,zM 35 34] (.cond (.tmp 34) (.reg [zM 0 36,zM 6 37,zM 5 38,zM 1 39,zC 122 [36,37,38,39] 40] []) (zq [zW (.bin .eql (.tmp 26) (.const (.int .u8 2))) 42,zM 42 41] (.cond (.tmp 41) (zq [zM 0 43,zM 6 44,zM 5 45,zC 123 [43,44,45] 46] .ret) (zq [zM 6 27,zR 50 [.tmp 27,zk 7,zk 0] 28] (.reg [zM 0 29,zM 6 30,zC 54 [30] 31,zM 5 32,zC 124 [29,31,32] 33] []))))))))))))))) [] 47:=ki
def b58:Is prog f58 (zq [zV zn 2] (zq [zL 0 6,zR 59 [.tmp 6,zk 1048576] 7,zM 7 5,zE 5 0 8,zE 5 1 9,zM 8 3,zM 9 4] (zq [zM 4 10,zS 1 1 10] (zq [zM 3 11,zM 11 2] .ret)))) [.tmp 2] 12:=ki
def b65:Is prog f65 (zq [zX [zu,zu,.bool .false,zn] 5] (zq [zL 1 7,zF 2 2 8,zL 8 9,zM 0 10,zK .u64 10 11,zB .add 9 11 12,zL 3 13,zC 66 [7,12,13] 14,zX [zu,zu,.bool .false,zn] 6,zS 4 6 14] (zq [zL 3 15,zF 3 6 16,zL 16 17,zU 17 18,zB .sub 15 18 19,zS 1 3 19] (zq [zN 4 6 20,zS 4 5 20] .ret)))) [.cell 5 (.some 4)] 21:=ki
def b68:Is prog f68 (zq [zV zu 4] (zq [zV zu 5] (.seq (zq [zM 0 8,zM 1 9,zW (.mx .true (.tmp 9) (zk 0)) 10,zW (.mx .false (.tmp 10) (zk 8)) 11,zC 126 [8,11] 12,zU 12 13,zV zi 14] (.block 0 (.loop (zq [zB .lss 14 13 15] (.seq (.cond (.tmp 15) .skip (.exit 0)) (.seq (.block 1 (zq [zM 14 16,zJ 1 12 14 17,zL 17 18,zM 16 6,zM 18 7] (.reg [zM 5 19,zM 7 20,zK .u64 20 21,zM 6 22,zW (.bin .mul (zk 8) (.tmp 22)) 23,zB .shl 21 23 24,zB .or 19 24 25,zM 25 5] []))) (.reg [zI .add 14 1 26,zM 26 14] []))))))) (zq [zM 5 27,zM 27 4] .ret)))) [.tmp 4] 28:=ki
def b71:Is prog f71 (zq [zY 1 3,zX [zu,zu,zn] 4,zX [zi,zi] 5] (.seq (zq [zM 0 8,zC 54 [8] 9,zX [zi,zi] 6,zS 2 6 9] (zq [zN 2 6 10,zC 26 [10] 11,zQ 11 12] (zc 12 (zq [zX [zu,zu,zn] 7] (.seq (.reg [zN 3 7 13,zN 2 6 14,zS 3 4 13,zS 2 5 14] [(0,1),(1,2)]) .ret))))) (zq [zN 3 3 15,zD [zi,zi] [] 16,zS 3 4 15,zS 2 5 16] .ret))) [.cell 4 (.some 3),.cell 5 (.some 2)] 17:=ki
def b77:Is prog f77 (zq [zX [zu,zu,zn] 4] (zq [zL 1 10,zC 62 [10] 11,zM 11 5] (zq [zL 1 12,zR 78 [.tmp 12,zk 2097152] 13,zM 13 6] (.seq (zq [zL 1 14,zC 52 [14] 15,zQ 15 16] (zc 16 (zq [zD [zu,zu,zn] [] 17,zS 3 4 17] .ret))) (zq [zM 6 18,zC 48 [18] 19,zM 19 7] (zq [zM 7 20,zC 79 [20] 21,zX [zu,zu,zn] 8,zS 3 8 21] (.seq (.seq (.reg [zM 7 22,zC 54 [22] 23,zL 1 24,zC 62 [24] 25,zI .sub 25 4 26,zM 6 27,zU 27 28,zB .sub 26 28 29,zC 80 [23,29] 30,zX [zi,zi] 9,zS 2 9 30] [(1,2),(1,9),(2,9),(3,9),(8,9)]) (zq [zN 2 9 31,zC 26 [31] 32,zQ 32 33] (.cond (.tmp 33) (.reg [zL 1 34,zF 0 9 35,zL 35 36,zF 1 9 37,zL 37 38,zC 50 [34,36,38] 39] []) (zq [zF 0 2 40,zL 40 41,zF 1 2 42,zL 42 43,zN 3 8 44,zC 81 [41,43,44] 45,zQ 45 46] (zc 46 (.reg [zL 1 47,zM 5 48,zR 50 [.tmp 47,zk 13,.tmp 48] 49] [])))))) (zq [zF 1 2 50,zL 50 51,zN 3 8 52,zW (.bsl 3 [.tmp 52]) 53,zP 3 40 51 53 54,zF 1 2 55,zS 1 55 54] (zq [zN 3 8 56,zS 3 4 56] .ret))))))))) [.cell 4 (.some 3)] 57:=ki
def b89:Is prog f89 (zq [zV zf 4] (.seq (zq [zM 0 6,zU 6 7,zM 1 8,zU 8 9,zB .neq 7 9 10] (zc 10 (zq [zV zf 4] .ret))) (.seq (zq [zV zi 5] (.block 0 (.loop (.seq (zq [zM 5 11,zM 0 12,zU 12 13,zB .lss 11 13 14] (.cond (.tmp 14) .skip (.exit 0))) (.seq (.block 1 (.seq (.reg [zM 0 17,zM 5 18,zJ 2 17 18 19,zN 2 19 20,zM 1 21,zM 5 22,zJ 2 21 22 23,zN 2 23 24,zC 162 [20,24] 25,zQ 25 26] [(3,7)]) (zc 26 (zq [zV zf 4] .ret)))) (.reg [zM 5 15,zI .add 15 1 16,zM 16 5] [])))))) (zq [zV zt 4] .ret)))) [.tmp 4] 27:=ki
def b97:Is prog f97 (zq [zV zf 2] (zq [zM 0 3,zW (.bin .geq (.tmp 3) (.const (.int .u64 1))) 4,zM 4 5,zT 5 (zM 0 6),(.some (5,.true),(.bin .lss (.tmp 6) (.const (.int .u64 4611686018427387904)),.some 7)),zA 5 7 8,zM 8 2] .ret)) [.tmp 2] 9:=ki
def b98:Is prog f98 (zq [zY 0 1,zV zf 2] (.seq (zq [zF 0 1 5,zL 5 6,zC 97 [6] 7,zQ 7 8,zM 8 9,zZ 9 (zF 1 1 10),zZ 9 (zL 10 11),zZ 9 (zF 2 1 12),zZ 9 (zL 12 13),zZ 9 (zU 13 14),zZ 9 (zC 129 [11,14] 15),(.some (9,.false),(.un .not (.tmp 15),.some 16)),zO 9 16 17,zM 17 18,zZ 18 (zF 2 1 19),zZ 18 (zL 19 20),zZ 18 (zC 168 [20] 21),zZ 18 (zI .gtr 21 1048576 22),zO 18 22 23] (zc 23 (zq [zV zf 2] .ret))) (.seq (zq [zF 2 1 24,zL 24 25,zU 25 26,zV zi 27] (.block 0 (.loop (zq [zB .lss 27 26 28] (.seq (.cond (.tmp 28) .skip (.exit 0)) (.seq (.block 1 (zq [zM 27 29,zJ 2 25 27 30,zN 2 30 31,zX [zn,zn] 4,zM 29 3,zS 2 4 31] (zq [zF 1 1 32,zL 32 33,zM 3 34,zK .u64 34 35,zB .add 33 35 36,zN 2 4 37,zC 169 [36,37] 38,zQ 38 39] (zc 39 (zq [zV zf 2] .ret))))) (.reg [zI .add 27 1 40,zM 40 27] []))))))) (zq [zV zt 2] .ret)))) [.tmp 2] 41:=ki
def b99:Is prog f99 (zq [zY 0 2,zY 1 3,zV zf 4] (.seq (zq [zF 0 3 6,zL 6 7,zF 0 2 8,zL 8 9,zB .gtr 7 9 10] (zc 10 (zq [zV zf 4] .ret))) (zq [zF 1 2 11,zL 11 12,zU 12 13,zM 13 5] (.seq (.reg [zM 5 14,zI .eql 14 0 15,zM 15 16,zZ 16 (zF 0 3 17),zZ 16 (zL 17 18),zZ 16 (zF 1 2 19),zZ 16 (zL 19 20),zZ 16 (zM 5 21),zZ 16 (zI .sub 21 1 22),zZ 16 (zJ 3 20 22 23),zZ 16 (zF 0 23 24),zZ 16 (zL 24 25),zZ 16 (zB .geq 18 25 26),zZ 16 (zM 26 27),zT 27 (zF 1 3 28),zT 27 (zL 28 29),zT 27 (zF 1 2 30),zT 27 (zL 30 31),zT 27 (zM 5 32),zT 27 (zI .sub 32 1 33),zT 27 (zJ 3 31 33 34),zT 27 (zN 3 34 35),zT 27 (zC 114 [35] 36),zT 27 (zB .geq 29 36 37),(.some (16,.false),(.pick (.tmp 27) (.tmp 37) (.const (.bool .false)),.some 38)),zO 16 38 39,zM 39 4] [(4,6),(4,11),(15,17),(15,21),(15,22)]) .ret)))) [.tmp 4] 40:=ki
def Ahy:Is prog f101 (zq [zY 0 1,zV zn 2,zV zi 3] (zq [zN 3 1 5,zC 174 [5] 6,zC 170 [6] 7,zM 7 4] (zq [zM 4 8,zN 3 1 9,zC 175 [8,9] 10] (zq [zM 4 11,zC 173 [11] 12,zE 12 0 13,zE 12 1 14,zM 13 2,zM 14 3] .ret)))) [.tmp 2,.tmp 3] 15:=ki
def Ad9:Is prog f103 (zq [zV zn 2,zV zi 3] (zq [zR 170 [zk 1024] 5,zM 5 4] (zq [zM 4 6,zM 0 7,zC 177 [6,7] 8] (zq [zM 4 9,zC 173 [9] 10,zE 10 0 11,zE 10 1 12,zM 11 2,zM 12 3] .ret)))) [.tmp 2,.tmp 3] 13:=ki
def Ahw:Is prog f104 (zq [zX [zu,zi,zi,zu,zu,zi,zi] 8] (zq [zM 0 10,zM 1 11,zU 11 12,zM 1 13,zC 178 [13] 14,zM 2 15,zM 3 16,zD [zu,zi,zi,zu,zu,zi,zi] [(0,(1,.tmp 10)),(1,(1,.tmp 12)),(2,(1,.tmp 14)),(5,(1,.tmp 15)),(6,(1,.tmp 16))] 17,zX [zu,zi,zi,zu,zu,zi,zi] 9,zS 7 9 17] (zq [zM 1 19,zC 179 [19] 20,zM 20 18,zE 18 0 21,zE 18 1 22,zF 3 9 23,zS 1 23 21,zF 4 9 24,zS 1 24 22] (zq [zN 7 9 25,zS 7 8 25] .ret)))) [.cell 8 (.some 7)] 26:=ki
def z9:Is prog f105 (zq [zY 0 1,zV zn 2,zV zi 3] (zq [zN 7 1 8,zC 180 [8] 9,zM 9 7,zE 7 0 10,zE 7 1 11,zM 10 4,zM 11 5] (.seq (zq [zM 5 12,zI .neq 12 0 13] (zc 13 (zq [zM 5 14,zV zn 2,zM 14 3] .ret))) (zq [zM 4 16,zC 176 [16] 17,zM 17 15,zE 15 0 18,zE 15 1 19,zM 18 6,zM 19 5] (zq [zM 6 20,zM 6 21,zU 21 22,zC 128 [22] 23,zP 1 1 20 23 24,zM 5 25,zM 24 2,zM 25 3] .ret))))) [.tmp 2,.tmp 3] 26:=ki
def Ahv:Is prog f111 (zq [zY 0 1,zV zu 2] (zq [zF 0 1 3,zL 3 4,zF 1 1 5,zL 5 6,zK .u64 6 7,zB .add 4 7 8,zM 8 2] .ret)) [.tmp 2] 9:=ki
def jT:Is prog f112 (zq [zX [zu,zu,zn] 6,zV zi 7,zX [zi,zi] 8] (zq [zX [zu,zu,zn] 9] (zq [zM 0 17,zR 182 [.tmp 17,zk 2097152] 18,zM 18 16,zE 16 0 19,zE 16 1 20,zE 16 2 21,zX [zi,zi] 12,zM 19 10,zM 20 11,zS 2 12 21] (.seq (zq [zN 2 12 22,zC 26 [22] 23,zQ 23 24] (zc 24 (.seq (.reg [zN 3 9 25,zN 2 12 26,zS 3 6 25,zV zi 7,zS 2 8 26] [(0,1),(1,2)]) .ret))) (zq [zM 10 27,zC 48 [27] 28,zM 28 13] (.seq (zq [zM 13 29,zC 121 [29] 30,zM 1 31,zB .neq 30 31 32] (zc 32 (.reg [zM 13 33,zR 50 [.tmp 33,zk 7,zk 0] 34] []))) (zq [zM 2 35,zM 13 36,zW (.call (.tmp 35) [.tmp 36]) 37,zX [zu,zu,zn] 14,zS 3 14 37] (zq [zM 13 38,zC 70 [38] 39] (.seq (zq [zM 13 40,zC 54 [40] 41,zM 11 42,zI .sub 42 4 43,zM 10 44,zU 44 45,zB .sub 43 45 46,zC 80 [41,46] 47,zX [zi,zi] 15,zS 2 15 47] (zq [zN 2 15 48,zC 26 [48] 49,zQ 49 50] (zc 50 (.seq (.reg [zN 3 9 51,zN 2 15 52,zS 3 6 51,zV zi 7,zS 2 8 52] [(0,1),(1,2)]) .ret)))) (zq [zN 3 14 53,zM 11 54,zD [zi,zi] [] 55,zS 3 6 53,zM 54 7,zS 2 8 55] .ret)))))))))) [.cell 6 (.some 3),.tmp 7,.cell 8 (.some 2)] 56:=ki
def Ahs:Is prog f116 (zq [zV zu 2] (zq [zM 0 3,zR 185 [.tmp 3,.func 97] 4,zM 4 2] .ret)) [.tmp 2] 5:=ki
def W2:Is prog f122 (zq [zM 3 11,zM 1 12,zW (.call (.tmp 11) [.tmp 12]) 13,zM 13 10,zE 10 0 14,zE 10 1 15,zX [zu,zu,zn] 8,zS 3 8 14,zM 15 9] (zq [zM 1 16,zC 70 [16] 17] (zq [zM 0 18,zM 1 19,zC 54 [19] 20,zM 2 21,zC 124 [18,20,21] 22] (.seq (.block 0 (zq [zM 0 24,zH 24 25,zF 0 25 26,zL 26 27,zC 52 [27] 28,zQ 28 29,zM 29 23] (.cond (.tmp 23) .ret (zq [zM 0 31,zH 31 32,zF 1 32 33,zF 1 33 34,zL 34 35,zU 35 36,zI .eql 36 16 37,zM 37 30] (.cond (.tmp 30) (.reg [zM 0 38,zH 38 39,zF 0 39 40,zL 40 41,zM 0 42,zH 42 43,zF 5 43 44,zL 44 45,zR 50 [.tmp 41,zk 2,.tmp 45] 46] [(3,7)]) (.seq (.reg [zM 0 48,zH 48 49,zF 1 49 50,zN 2 50 51,zN 3 8 52,zC 99 [51,52] 53,zQ 53 54,zM 54 47] [(3,4)]) (zc 47 (.reg [zM 0 55,zH 55 56,zF 0 56 57,zL 57 58,zM 0 59,zH 59 60,zF 5 60 61,zL 61 62,zR 50 [.tmp 58,zk 13,.tmp 62] 63] [(3,7)])))))))) (zq [zM 0 64,zM 0 65,zH 65 66,zF 4 66 67,zL 67 68,zM 68 69,zT 69 (zM 9 70),zA 69 70 71,zH 64 72,zF 4 72 73,zS 1 73 71] (.seq (.reg [zM 0 74,zM 0 75,zH 75 76,zF 3 76 77,zL 77 78,zF 1 8 79,zL 79 80,zF 2 8 81,zL 81 82,zU 82 83,zM 0 84,zH 84 85,zF 5 85 86,zL 86 87,zD [zu,zi,zi] [(0,(1,.tmp 80)),(1,(1,.tmp 83)),(2,(1,.tmp 87))] 88,zW (.bsl 3 [.tmp 88]) 89,zP 3 24 78 89 90,zH 74 91,zF 3 91 92,zS 1 92 90] [(4,6),(4,8),(6,8),(4,13),(6,13),(8,13)]) (.reg [zM 0 93,zM 0 94,zH 94 95,zF 1 95 96,zF 1 96 97,zL 97 98,zN 3 8 99,zW (.bsl 3 [.tmp 99]) 100,zP 3 40 98 100 101,zH 93 102,zF 1 102 103,zF 1 103 104,zS 1 104 101] [(5,6)]))))))) [] 105:=ki
def Ad4:Is prog f126 (zq [zV zn 4] (.seq (zq [zM 0 5,zM 1 6,zC 191 [5,6] 7,zQ 7 8] (zc 8 (zq [zV zn 4] .ret))) (.seq (.reg [zW (.bsl 1 []) 9,zM 0 10,zH 10 11,zF 0 11 12,zL 12 13,zM 0 14,zH 14 15,zF 1 15 16,zL 16 17,zM 1 18,zB .sub 17 18 19,zM 0 20,zH 20 21,zF 1 21 22,zL 22 23,zW (.slice 1 (.tmp 13) (.some (.tmp 19)) (.some (.tmp 23)) none) 24,zP 1 1 9 24 25,zM 25 4] [(4,8),(4,14),(8,14)]) .ret))) [.tmp 4] 26:=ki
def Ahn:Is prog f128 (zq [zV zn 2] (zq [zC 87 [] 7,zC 170 [7] 8,zM 8 3] (zq [zM 0 9,zK .u64 9 10,zR 194 [.tmp 10,zk 4] 11,zM 11 4] (zq [zM 3 12,zM 4 13,zC 188 [12,13] 14] (zq [zM 3 15,zM 4 16,zC 69 [16] 17,zK .u64 17 18,zR 195 [.tmp 15,.tmp 18,zk 4] 19] (zq [zM 3 20,zW (.call (.func 187) [.tmp 20,.const (.string (.mk (#[76,79,72,84])))]) 21] (zq [zM 3 23,zC 173 [23] 24,zM 24 22,zE 22 0 25,zE 22 1 26,zM 25 5,zM 26 6] (zq [zM 5 27,zM 27 2] .ret)))))))) [.tmp 2] 28:=ki
def Ad2:Is prog f132 (zq [zM 0 6,zQ 6 7] (zc 7 (.reg [zM 1 8,zM 2 9,zW (.call (.tmp 8) [zk 12,.tmp 9]) 10] []))) [] 11:=ki
def jS:Is prog f136 (zq [zV zu 2] (.scope (zq [zV zu 3] (zq [zV (.int .u8 0) 4] (zq [zM 0 7,zC 62 [7] 8,zV zi 5,zM 8 6] (.seq (.label 0) (zq [zM 0 9,zC 121 [9] 10,zM 10 4] (.seq (.block 0 (zq [zM 0 12,zC 52 [12] 13,zQ 13 14,zM 14 11] (.cond (.tmp 11) (zq [zV zu 2] .ret) (zq [zM 5 16,zI .eql 16 63 17,zM 17 18,zT 18 (zM 4 19),(.some (18,.true),(.bin .gtr (.tmp 19) (.const (.int .u8 1)),.some 20)),zA 18 20 21,zM 21 15] (.cond (.tmp 15) (zq [zM 0 22,zM 0 23,zC 62 [23] 24,zI .sub 24 1 25,zR 50 [.tmp 22,zk 5,.tmp 25] 26] (zq [zV zu 2] .ret)) (zq [zM 4 28,zW (.bin .eql (.tmp 28) (.const (.int .u8 0))) 29,zM 29 30,zT 30 (zM 0 31),zT 30 (zC 62 [31] 32),zT 30 (zI .sub 32 1 33),zT 30 (zM 6 34),zT 30 (zB .gtr 33 34 35),zA 30 35 36,zM 36 27] (zc 27 (zq [zM 0 37,zM 0 38,zC 62 [38] 39,zI .sub 39 1 40,zR 50 [.tmp 37,zk 4,.tmp 40] 41] (zq [zV zu 2] .ret))))))))) (zq [zM 3 42,zM 4 43,zW (.bin .rem (.tmp 43) (.const (.int .u8 128))) 44,zK .u64 44 45,zM 5 46,zB .shl 45 46 47,zB .or 42 47 48,zM 48 3] (zq [zM 5 49,zI .add 49 7 50,zM 50 5] (.seq (zq [zM 4 51,zW (.bin .geq (.tmp 51) (.const (.int .u8 128))) 52] (zc 52 (.goto 0))) (zq [zM 3 53,zM 53 2] .ret)))))))))))) [.tmp 2] 54:=ki
def Ahj:Is prog f139 (zq [zV (.int .u32 0) 4] (zq [zC 200 [] 8,zX [.int .u32 0,.int .u32 0,.int .u32 0,.int .u32 0,.int .u32 0,.int .u32 0,.int .u32 0,.int .u32 0,.int .u32 0,.int .u32 0,.int .u32 0,.int .u32 0,.int .u32 0,.int .u32 0,.int .u32 0,.int .u32 0] 5,zS 16 5 8] (.seq (zq [zM 1 9,zU 9 10,zV zi 11] (.block 0 (.loop (zq [zB .lss 11 10 12] (.seq (.cond (.tmp 12) .skip (.exit 0)) (.seq (.block 1 (zq [zJ 1 9 11 13,zL 13 14,zM 14 7] (zq [zM 0 15,zM 7 16,zK .u32 16 17,zB .xor 15 17 18,zM 18 0] (zq [zM 0 19,zW (.bin .shr (.tmp 19) (.const (.int .u64 4))) 20,zM 0 21,zW (.bin .and (.tmp 21) (.const (.int .u32 15))) 22,zW (.aadr 16 1 (.tmp 5) (.tmp 22)) 23,zL 23 24,zB .xor 20 24 25,zM 25 0] (.reg [zM 0 26,zW (.bin .shr (.tmp 26) (.const (.int .u64 4))) 27,zM 0 28,zW (.bin .and (.tmp 28) (.const (.int .u32 15))) 29,zW (.aadr 16 1 (.tmp 5) (.tmp 29)) 30,zL 30 31,zB .xor 27 31 32,zM 32 0] []))))) (.reg [zI .add 11 1 33,zM 33 11] []))))))) (zq [zM 0 34,zM 34 4] .ret)))) [.tmp 4] 35:=ki
def Ahh:Is prog f141 (zq [zV zi 2] (.seq (zq [zM 0 3,zW (.eqp .false (.tmp 3) (.const (.pointer none))) 4] (zc 4 (zq [zV zi 2] .ret))) (.seq (.reg [zM 0 5,zH 5 6,zF 0 6 7,zL 7 8,zU 8 9,zM 0 10,zH 10 11,zF 1 11 12,zL 12 13,zB .sub 9 13 14,zM 14 2] [(3,8)]) .ret))) [.tmp 2] 15:=ki
def Ady:Is prog f146 (zq [zV zu 4] (zq [zM 0 7,zC 62 [7] 8,zM 8 5] (zq [zM 0 9,zC 136 [9] 10,zM 10 6] (.seq (zq [zM 6 11,zM 1 12,zB .gtr 11 12 13] (zc 13 (zq [zM 0 14,zM 5 15,zR 50 [.tmp 14,zk 2,.tmp 15] 16] (zq [zV zu 4] .ret)))) (zq [zM 6 17,zM 17 4] .ret))))) [.tmp 4] 18:=ki
def Ahf:Is prog f147 (zq [zV zi 2] (zq [zM 0 3,zW (.mx .false (.tmp 3) (zk 2097152)) 4,zM 4 2] .ret)) [.tmp 2] 5:=ki
def Adv:Is prog f150 (zq [zX [zn,zn] 5] (zq [zL 1 8,zC 62 [8] 9,zM 9 6] (zq [zL 1 10,zF 1 2 11,zL 11 12,zM 0 13,zK .u64 13 14,zB .add 12 14 15,zC 151 [10,15] 16,zD [zn,zn] [(0,(1,.tmp 16))] 17,zX [zn,zn] 7,zS 2 7 17] (.seq (zq [zF 0 7 18,zL 18 19,zC 152 [19] 20,zQ 20 21] (zc 21 (.reg [zL 1 22,zM 6 23,zR 50 [.tmp 22,zk 3,.tmp 23] 24] []))) (zq [zL 1 25,zL 3 26,zC 137 [25,26] 27,zF 1 7 28,zS 1 28 27] (zq [zL 3 29,zF 1 7 30,zL 30 31,zU 31 32,zB .sub 29 32 33,zS 1 3 33] (zq [zN 2 7 34,zS 2 5 34] .ret))))))) [.cell 5 (.some 2)] 35:=ki
def Adu:Is prog f153 (zq [zV zf 4] (.seq (zq [zM 0 7,zU 7 8,zV zi 9] (.block 0 (.loop (zq [zB .lss 9 8 10] (.seq (.cond (.tmp 10) .skip (.exit 0)) (.seq (.block 1 (zq [zM 9 11,zJ 3 7 9 12,zN 3 12 13,zX [zu,zu,zn] 6,zM 11 5,zS 3 6 13] (zq [zM 1 14,zM 5 15,zN 3 6 16,zW (.call (.tmp 14) [.tmp 15,.tmp 16]) 17,zQ 17 18] (zc 18 (zq [zV zf 4] .ret))))) (.reg [zI .add 9 1 19,zM 19 9] []))))))) (zq [zV zt 4] .ret))) [.tmp 4] 20:=ki
def W1:Is prog f160 (zq [zV zi 4] (zq [zM 1 7,zC 22 [7] 8,zX [zu,zu,zn] 5,zS 3 5 8] (zq [zM 1 9,zC 70 [9] 10] (.seq (zq [zM 1 11,zC 52 [11] 12,zQ 12 13] (zc 13 (zq [zV zi 4] .ret))) (zq [zM 0 14,zH 14 15,zF 9 15 16,zL 16 17,zU 17 18,zM 18 6] (.seq (.block 0 (zq [zM 6 20,zI .eql 20 16 21,zM 21 19] (.cond (.tmp 19) (zq [zV (.int .i64 2) 4] .ret) (.seq (.reg [zF 0 5 23,zL 23 24,zM 0 25,zH 25 26,zF 5 26 27,zL 27 28,zB .gtr 24 28 29,zM 29 30,zZ 30 (zM 6 31),zZ 30 (zI .gtr 31 0 32),zZ 30 (zM 32 33),zT 33 (zF 0 5 34),zT 33 (zL 34 35),zT 33 (zM 0 36),(.some (33,.true),(.nilc (.tmp 36),.some 37)),zT 33 (zF 6 37 38),zT 33 (zF 0 38 39),zT 33 (zL 39 40),zT 33 (zB .lss 35 40 41),zT 33 (zM 41 42),zZ 42 (zF 1 5 43),zZ 42 (zL 43 44),zZ 42 (zM 0 45),(.some (42,.false),(.nilc (.tmp 45),.some 46)),zZ 42 (zF 6 46 47),zZ 42 (zN 3 47 48),zZ 42 (zC 114 [48] 49),zZ 42 (zB .lss 44 49 50),(.some (33,.true),(.pick (.tmp 42) (.const (.bool .true)) (.tmp 50),.some 51)),(.some (30,.false),(.pick (.tmp 33) (.tmp 51) (.const (.bool .false)),.some 52)),zO 30 52 53,zM 53 22] [(1,5),(12,17),(21,25),(21,26)]) (zc 22 (zq [zV (.int .i64 13) 4] .ret)))))) (.seq (.reg [zM 0 54,zM 0 55,zH 55 56,zF 9 56 57,zL 57 58,zF 1 5 59,zL 59 60,zF 2 5 61,zL 61 62,zU 62 63,zM 0 64,zH 64 65,zF 2 65 66,zL 66 67,zD [zu,zi,zi] [(0,(1,.tmp 60)),(1,(1,.tmp 63)),(2,(1,.tmp 67))] 68,zW (.bsl 3 [.tmp 68]) 69,zP 3 24 58 69 70,zH 54 71,zF 9 71 72,zS 1 72 70] [(4,6),(4,8),(6,8),(4,13),(6,13),(8,13)]) (.seq (.reg [zM 0 73,zF 0 5 74,zL 74 75,zF 1 5 76,zL 76 77,zF 2 5 78,zL 78 79,zU 79 80,zW (.mksl 2 48 (.tmp 80) (.tmp 80)) 81,zD [zu,zu,zn] [(0,(1,.tmp 75)),(1,(1,.tmp 77)),(2,(1,.tmp 81))] 82,zH 73 83,zF 6 83 84,zS 3 84 82] [(2,4),(2,6),(4,6),(2,8),(4,8)]) (.seq (.reg [zM 0 85,zM 0 86,zH 86 87,zF 18 87 88,zL 88 89,zM 0 90,zH 90 91,zF 2 91 92,zL 92 93,zN 3 5 94,zD [zi,zi,zi,zi,zu,zu,zu,zi,zi,zn,zn,zn,zu,zu,zu,zu,zn,zu,zu,zn] [(0,(1,zk 1)),(1,(1,.tmp 93)),(17,(3,.tmp 94))] 95,zW (.bsl 20 [.tmp 95]) 96,zP 20 240 89 96 97,zH 85 98,zF 18 98 99,zS 1 99 97] [(4,8),(4,9),(8,9)]) (zq [zV zi 4] .ret)))))))))) [.tmp 4] 100:=ki
def y8:Is prog f161 (zq [zV zi 4] (zq [zM 1 6,zC 108 [6] 7,zM 7 5] (zq [zM 1 8,zC 70 [8] 9] (.seq (zq [zM 1 10,zC 52 [10] 11,zQ 11 12] (zc 12 (zq [zV zi 4] .ret))) (.seq (zq [zM 5 13,zM 0 14,zH 14 15,zF 9 15 16,zL 16 17,zC 192 [13,17] 18,zQ 18 19] (zc 19 (zq [zV (.int .i64 12) 4] .ret))) (.seq (.reg [zM 0 20,zM 0 21,zH 21 22,zF 5 22 23,zL 23 24,zM 5 25,zU 25 26,zM 5 27,zC 178 [27] 28,zM 0 29,zH 29 30,zF 2 30 31,zL 31 32,zM 0 33,zH 33 34,zF 1 34 35,zL 35 36,zU 36 37,zD [zu,zi,zi,zu,zu,zi,zi] [(0,(1,.tmp 24)),(1,(1,.tmp 26)),(2,(1,.tmp 28)),(5,(1,.tmp 32)),(6,(1,.tmp 37))] 38,zH 20 39,zF 10 39 40,zS 7 40 38] [(4,8),(4,12),(8,12),(4,16),(8,16),(12,16)]) (zq [zM 0 42,zM 0 43,zM 5 44,zC 179 [44] 45,zM 45 41,zE 41 0 46,zE 41 1 47,zH 42 48,zF 10 48 49,zF 3 49 50,zS 1 50 46,zH 43 51,zF 10 51 52,zF 4 52 53,zS 1 53 47] (zq [zM 0 54,zH 54 55,zF 0 55 56,(none,(.store 1 (.tmp 56) (.func 205),none))] (zq [zV zi 4] .ret))))))))) [.tmp 4] 57:=ki
def Aha:Is prog f167 (zq [zV (.int .u32 0) 4] (zq [zM 0 7,zM 1 8,zK .u32 8 9,zB .xor 7 9 10,zM 10 0] (.seq (zq [zV zi 5] (.block 0 (.loop (.seq (zq [zM 5 11,zI .lss 11 8 12] (.cond (.tmp 12) .skip (.exit 0))) (.seq (.block 1 (zq [zM 0 15,zW (.bin .rem (.tmp 15) (.const (.int .u32 2))) 16,zM 16 6] (zq [zM 0 17,zW (.bin .quo (.tmp 17) (.const (.int .u32 2))) 18,zM 18 0] (zq [zM 6 19,zW (.bin .eql (.tmp 19) (.const (.int .u32 1))) 20] (zc 20 (.reg [zM 0 21,zW (.bin .xor (.tmp 21) (.const (.int .u32 2197175160))) 22,zM 22 0] [])))))) (.reg [zM 5 13,zI .add 13 1 14,zM 14 5] [])))))) (zq [zM 0 23,zM 23 4] .ret)))) [.tmp 4] 24:=ki
def Ado:Is prog f172 (zq [zY 1 3] (.seq (zq [zN 3 3 5,zC 209 [5] 6,zQ 6 7] (zc 7 (zq [zM 0 8,zR 210 [.tmp 8,zk 3] 9] .ret))) (zq [zN 3 3 10,zC 119 [10] 11,zM 11 4] (zq [zM 0 12,zM 4 13,zC 188 [12,13] 14] (.reg [zM 0 15,zM 4 16,zC 69 [16] 17,zK .u64 17 18,zR 195 [.tmp 15,.tmp 18,zk 4] 19] []))))) [] 20:=ki
def Ag5:Is prog f175 (zq [zY 1 3] (.seq (zq [zN 3 3 6,zC 98 [6] 7,zQ 7 8] (zc 8 (zq [zM 0 9,zR 210 [.tmp 9,zk 3] 10] .ret))) (zq [zM 0 11,zF 0 3 12,zL 12 13,zC 189 [11,13] 14] (zq [zM 0 15,zF 1 3 16,zL 16 17,zC 190 [15,17] 18] (zq [zM 0 19,zF 2 3 20,zL 20 21,zU 21 22,zK .u64 22 23,zC 213 [19,23] 24] (.seq (zq [zF 2 3 25,zL 25 26,zU 26 27,zV zi 28] (.block 0 (.loop (zq [zB .lss 28 27 29] (.seq (.cond (.tmp 29) .skip (.exit 0)) (.seq (.block 1 (zq [zM 28 30,zJ 2 26 28 31,zN 2 31 32,zX [zn,zn] 5,zM 30 4,zS 2 5 32] (.reg [zM 0 33,zF 1 3 34,zL 34 35,zM 4 36,zK .u64 36 37,zB .add 35 37 38,zN 2 5 39,zC 214 [33,38,39] 40] []))) (.reg [zI .add 28 1 41,zM 41 28] []))))))) (.reg [zM 0 42,zF 2 3 43,zL 43 44,zC 215 [44] 45,zC 199 [42,45] 46] []))))))) [] 47:=ki
def Adl:Is prog f180 (zq [zY 0 1,zV zn 2,zV zi 3] (zq [zR 170 [zk 80] 7,zM 7 4] (.seq (zq [zN 7 1 8,zC 193 [8] 9,zQ 9 10] (zc 10 (.reg [zM 4 11,zR 210 [.tmp 11,zk 3] 12] []))) (zq [zM 4 13,zW (.bsl 1 [.const (.int .u8 3)]) 14,zC 188 [13,14] 15] (zq [zM 4 16,zF 0 1 17,zL 17 18,zC 189 [16,18] 19] (.seq (zq [zF 1 1 20,zL 20 21,zK .u64 21 22,zF 2 1 23,zL 23 24,zK .u64 24 25,zF 3 1 26,zL 26 27,zF 4 1 28,zL 28 29,zF 5 1 30,zL 30 31,zK .u64 31 32,zF 6 1 33,zL 33 34,zK .u64 34 35,zW (.bsl 1 [.tmp 22,.tmp 25,.tmp 27,.tmp 29,.tmp 32,.tmp 35]) 36,zU 36 37,zV zi 38] (.block 0 (.loop (zq [zB .lss 38 37 39] (.seq (.cond (.tmp 39) .skip (.exit 0)) (.seq (.block 1 (zq [zJ 1 36 38 40,zL 40 41,zM 41 6] (.reg [zM 4 42,zM 6 43,zC 213 [42,43] 44] []))) (.reg [zI .add 38 1 45,zM 45 38] []))))))) (zq [zM 4 46,zC 173 [46] 47,zE 47 0 48,zE 47 1 49,zM 48 2,zM 49 3] .ret))))))) [.tmp 2,.tmp 3] 50:=ki
def jQ:Is prog f181 (zq [zV zi 2,zX [zi,zi] 3] (zq [zM 0 11,zU 11 12,zM 12 4] (.seq (zq [zM 4 13,zC 87 [] 14,zB .lss 13 14 15] (zc 15 (zq [zM 4 16,zR 31 [zk 1,.tmp 16] 17,zV zi 2,zS 2 3 17] .ret))) (zq [zM 0 18,zC 48 [18] 19,zM 19 5] (zq [zM 4 20,zC 87 [] 21,zB .sub 20 21 22,zM 22 6] (zq [zM 5 23,zM 6 24,zC 191 [23,24] 25] (zq [zM 5 26,zR 218 [.tmp 26,zk 4] 27,zM 27 7] (zq [zM 7 28,zR 126 [.tmp 28,zk 4] 29,zC 69 [29] 30,zM 30 8] (zq [zM 5 31,zR 68 [.tmp 31,zk 4] 32,zM 32 9] (zq [zM 5 33,zR 68 [.tmp 33,zk 4] 34,zM 34 10] (.seq (.block 0 (zq [zM 5 36,zR 126 [.tmp 36,zk 4] 37,zW (.b2s (.tmp 37)) 38,zW (.bin .neq (.tmp 38) (.const (.string (.mk (#[76,79,72,84]))))) 39,zM 39 35] (.cond (.tmp 35) (zq [zM 4 40,zI .sub 40 4 41,zR 31 [zk 14,.tmp 41] 42,zV zi 2,zS 2 3 42] .ret) (zq [zM 10 44,zM 8 45,zK .u64 45 46,zB .neq 44 46 47,zM 47 43] (.cond (.tmp 43) (zq [zM 4 48,zI .sub 48 4 49,zI .sub 49 4 50,zR 31 [zk 6,.tmp 50] 51,zV zi 2,zS 2 3 51] .ret) (zq [zM 9 53,zM 6 54,zK .u64 54 55,zB .gtr 53 55 56,zM 56 52] (zc 52 (zq [zM 6 57,zR 31 [zk 3,.tmp 57] 58,zV zi 2,zS 2 3 58] .ret)))))))) (zq [zM 9 59,zK .i64 59 60,zD [zi,zi] [] 61,zM 60 2,zS 2 3 61] .ret)))))))))))) [.tmp 2,.cell 3 (.some 2)] 62:=ki
def Ag4:Is prog f184 (zq [zV zn 2] (zq [zV zn 3] (.seq (zq [zM 0 6,zU 6 7,zV zi 8] (.block 0 (.loop (zq [zB .lss 8 7 9] (.seq (.cond (.tmp 9) .skip (.exit 0)) (.seq (.block 1 (zq [zJ 2 6 8 10,zN 2 10 11,zX [zu,zn] 5,zS 2 5 11] (.reg [zM 3 12,zN 2 5 13,zC 219 [13] 14,zW (.bsl 2 [.tmp 14]) 15,zP 2 32 12 15 16,zM 16 3] []))) (.reg [zI .add 8 1 17,zM 17 8] []))))))) (zq [zM 3 18,zM 18 2] .ret)))) [.tmp 2] 19:=ki
def rH:Is prog f185 (zq [zV zu 4] (zq [zM 0 7,zC 62 [7] 8,zM 8 5] (zq [zM 0 9,zC 136 [9] 10,zM 10 6] (.seq (zq [zM 1 11,zM 6 12,zW (.call (.tmp 11) [.tmp 12]) 13,zQ 13 14] (zc 14 (.reg [zM 0 15,zM 5 16,zR 50 [.tmp 15,zk 3,.tmp 16] 17] []))) (.seq (zq [zM 0 18,zC 52 [18] 19,zQ 19 20] (zc 20 (zq [zV zu 4] .ret))) (zq [zM 6 21,zM 21 4] .ret)))))) [.tmp 4] 22:=ki
def Ag2:Is prog f189 (.reg [zM 0 4,zM 1 5,zM 1 6,zC 97 [6] 7,zC 221 [4,5,7] 8] []) [] 9:=ki
def Ag0:Is prog f192 (zq [zV zf 4] (zq [zM 0 5,zM 1 6,zC 222 [5,6] 7,zM 7 4] .ret)) [.tmp 4] 8:=ki
def Agz:Is prog f194 (zq [zV zn 4] (zq [zV zn 5] (.seq (zq [zM 1 6,zW (.mx .true (.tmp 6) (zk 0)) 7,zW (.mx .false (.tmp 7) (zk 8)) 8,zV zi 9] (.block 0 (.loop (zq [zB .lss 9 8 10] (.seq (.cond (.tmp 10) .skip (.exit 0)) (.seq (.block 1 (zq [zM 5 11,zM 0 12,zW (.bin .rem (.tmp 12) (.const (.int .u64 256))) 13,zK .u8 13 14,zW (.bsl 1 [.tmp 14]) 15,zP 1 1 11 15 16,zM 16 5] (.reg [zM 0 17,zW (.bin .quo (.tmp 17) (.const (.int .u64 256))) 18,zM 18 0] []))) (.reg [zI .add 9 1 19,zM 19 9] []))))))) (zq [zM 5 20,zM 20 4] .ret)))) [.tmp 4] 21:=ki
def rF:Is prog f205 (zq [zV zf 2,zX [zi,zi] 3] (zq [zM 0 10,zC 158 [10] 11,zM 11 9,zE 9 0 12,zE 9 1 13,zE 9 2 14,zE 9 3 15,zX [zi,zi] 7,zM 12 4,zM 13 5,zM 14 6,zS 2 7 15] (.seq (zq [zM 6 16,zQ 16 17] (zc 17 (zq [zN 2 7 18,zV zf 2,zS 2 3 18] .ret))) (zq [zM 4 20,zC 125 [20] 21,zM 21 19,zE 19 0 22,zE 19 1 23,zX [zu,zi,zi,zu,zu,zi,zi] 8,zS 7 8 22,zS 2 7 23] (.seq (.block 0 (zq [zN 2 7 25,zC 26 [25] 26,zQ 26 27,zM 27 24] (.cond (.tmp 24) (zq [zN 2 7 28,zM 5 29,zC 80 [28,29] 30,zV zf 2,zS 2 3 30] .ret) (.seq (.reg [zN 7 8 32,zM 0 33,zH 33 34,zF 10 34 35,zN 7 35 36,zW (.eqa .true 7 (.tmp 32) (.tmp 36)) 37,zM 37 31] [(0,4)]) (zc 31 (zq [zR 31 [zk 12,zk 0] 38,zV zf 2,zS 2 3 38] .ret)))))) (zq [zM 0 39,zM 0 40,zM 0 41,zH 41 42,zF 1 42 43,zL 43 44,zU 44 45,zH 39 46,zF 17 46 47,zS 1 47 45,zH 40 48,zF 0 48 49,(none,(.store 1 (.tmp 49) (.func 230),none))] (zq [zD [zi,zi] [] 50,zV zt 2,zS 2 3 50] .ret))))))) [.tmp 2,.cell 3 (.some 2)] 51:=ki
def rE:Is prog f206 (zq [zV zu 2,zV zi 3,zX [zi,zi] 4] (.seq (zq [zV zi 5] (.block 0 (.loop (.seq (zq [zM 5 8,zM 0 9,zU 9 10,zB .lss 8 10 11] (.cond (.tmp 11) .skip (.exit 0))) (.seq (.block 1 (.seq (zq [zM 5 14,zI .eql 14 9 15,zM 15 16,zT 16 (zM 0 17),zT 16 (zM 5 18),zT 16 (zJ 1 17 18 19),zT 16 (zL 19 20),(.some (16,.true),(.bin .gtr (.tmp 20) (.const (.int .u8 1)),.some 21)),zA 16 21 22] (zc 22 (zq [zM 5 23,zR 96 [zk 5,.tmp 23] 24,zV zu 2,zV zi 3,zS 2 4 24] .ret))) (.seq (zq [zM 5 25,zI .gtr 25 0 26,zM 26 27,zT 27 (zM 0 28),zT 27 (zM 5 29),zT 27 (zJ 1 28 29 30),zT 27 (zL 30 31),(.some (27,.true),(.bin .eql (.tmp 31) (.const (.int .u8 0)),.some 32)),zA 27 32 33] (zc 33 (zq [zM 5 34,zR 96 [zk 4,.tmp 34] 35,zV zu 2,zV zi 3,zS 2 4 35] .ret))) (zq [zM 0 36,zM 5 37,zJ 1 36 37 38,zL 38 39,zW (.bin .lss (.tmp 39) (.const (.int .u8 128))) 40] (zc 40 (zq [zV zu 6] (.seq (zq [zM 5 41,zM 41 7] (.block 2 (.loop (.seq (zq [zM 7 42,zI .geq 42 0 43] (.cond (.tmp 43) .skip (.exit 2))) (.seq (.block 3 (.reg [zM 6 46,zW (.bin .mul (.const (.int .u64 128)) (.tmp 46)) 47,zM 0 48,zM 7 49,zJ 1 48 49 50,zL 50 51,zW (.bin .rem (.tmp 51) (.const (.int .u8 128))) 52,zK .u64 52 53,zB .add 47 53 54,zM 54 6] [])) (.reg [zM 7 44,zI .sub 44 1 45,zM 45 7] [])))))) (zq [zM 6 55,zM 5 56,zI .add 56 1 57,zD [zi,zi] [] 58,zM 55 2,zM 57 3,zS 2 4 58] .ret)))))))) (.reg [zM 5 12,zI .add 12 1 13,zM 13 5] [])))))) (zq [zM 0 59,zU 59 60,zR 96 [zk 1,.tmp 60] 61,zV zu 2,zV zi 3,zS 2 4 61] .ret))) [.tmp 2,.tmp 3,.cell 4 (.some 2)] 62:=ki
def Agr:Is prog f215 (zq [zV zn 2] (zq [zM 0 6,zC 168 [6] 7,zW (.mksl 1 1 (zk 0) (.tmp 7)) 8,zM 8 3] (.seq (zq [zM 0 9,zU 9 10,zV zi 11] (.block 0 (.loop (zq [zB .lss 11 10 12] (.seq (.cond (.tmp 12) .skip (.exit 0)) (.seq (.block 1 (zq [zJ 2 9 11 13,zN 2 13 14,zX [zn,zn] 5,zS 2 5 14] (.reg [zM 3 15,zF 1 5 16,zL 16 17,zP 1 1 15 17 18,zM 18 3] []))) (.reg [zI .add 11 1 19,zM 19 11] []))))))) (zq [zM 3 20,zM 20 2] .ret)))) [.tmp 2] 21:=ki
def Adb:Is prog f217 (.seq (zq [zM 1 4,zU 4 5,zI .gtr 5 2097152 6] (zc 6 (zq [zM 0 7,zR 210 [.tmp 7,zk 2] 8] .ret))) (zq [zM 0 9,zM 1 10,zC 228 [9,10] 11] (.reg [zM 0 12,zM 1 13,zC 69 [13] 14,zK .u64 14 15,zR 195 [.tmp 12,.tmp 15,zk 4] 16] []))) [] 17:=ki
def Ada:Is prog f221 (.seq (zq [zM 2 6,zQ 6 7] (zc 7 (zq [zM 0 8,zR 210 [.tmp 8,zk 3] 9] .ret))) (.reg [zM 0 10,zM 1 11,zC 213 [10,11] 12] [])) [] 13:=ki
def yX:Is prog f222 (zq [zV zf 4] (.seq (zq [zM 0 6,zU 6 7,zM 1 8,zU 8 9,zB .neq 7 9 10] (zc 10 (zq [zV zf 4] .ret))) (.seq (zq [zM 0 11,zU 11 12,zV zi 13] (.block 0 (.loop (zq [zB .lss 13 12 14] (.seq (.cond (.tmp 14) .skip (.exit 0)) (.seq (.block 1 (zq [zM 13 15,zM 15 5] (.seq (.reg [zM 0 16,zM 5 17,zJ 3 16 17 18,zN 3 18 19,zM 1 20,zM 5 21,zJ 3 20 21 22,zN 3 22 23,zW (.eqa .true 3 (.tmp 19) (.tmp 23)) 24] [(3,7)]) (zc 24 (zq [zV zf 4] .ret))))) (.reg [zI .add 13 1 25,zM 25 13] []))))))) (zq [zV zt 4] .ret)))) [.tmp 4] 26:=ki
def Agh:Is prog f239 (zq [zV zn 2,zV zi 3] (zq [zM 0 7,zC 245 [7] 8,zM 8 6,zE 6 0 9,zE 6 1 10,zM 9 4,zM 10 5] (.seq (zq [zM 5 11,zI .neq 11 0 12] (zc 12 (zq [zM 5 13,zV zn 2,zM 13 3] .ret))) (zq [zM 4 14,zC 246 [14] 15,zE 15 0 16,zE 15 1 17,zM 16 2,zM 17 3] .ret)))) [.tmp 2,.tmp 3] 18:=ki
def Agg:Is prog f240 (zq [zV zf 2,zX [zi,zi] 3] (zq [zR 31 [zk 9,zk 0] 4,zV zf 2,zS 2 3 4] .ret)) [.tmp 2,.cell 3 (.some 2)] 5:=ki
def Ac2:Is prog f241 (zq [zV zn 4,zV zf 5] (zq [zV zn 6] (.seq (zq [zM 1 9,zU 9 10,zV zi 11] (.block 0 (.loop (zq [zB .lss 11 10 12] (.seq (.cond (.tmp 12) .skip (.exit 0)) (.seq (.block 1 (zq [zJ 1 9 11 13,zL 13 14,zM 14 8] (.seq (zq [zM 8 15,zM 0 16,zB .geq 15 16 17] (zc 17 (zq [zV zn 4,zV zf 5] .ret))) (zq [zM 6 18,zM 0 19,zM 8 20,zB .sub 19 20 21,zW (.bin .sub (.tmp 21) (.const (.int .u64 1))) 22,zW (.bsl 1 [.tmp 22]) 23,zP 1 8 18 23 24,zM 24 6] (.reg [zM 8 25,zM 25 0] []))))) (.reg [zI .add 11 1 26,zM 26 11] []))))))) (zq [zM 6 27,zM 27 4,zV zt 5] .ret)))) [.tmp 4,.tmp 5] 28:=ki
def Agf:Is prog f242 (zq [zV zn 2] (zq [zV zn 3] (.seq (zq [zM 0 7,zU 7 8,zV zi 9] (.block 0 (.loop (zq [zB .lss 9 8 10] (.seq (.cond (.tmp 10) .skip (.exit 0)) (.seq (.block 1 (zq [zM 9 11,zJ 2 7 9 12,zN 2 12 13,zX [zu,zn] 5,zM 11 4,zS 2 5 13] (zq [zF 0 5 14,zL 14 15,zM 15 6] (.seq (zq [zM 4 16,zI .gtr 16 0 17] (zc 17 (.reg [zM 6 18,zM 0 19,zM 4 20,zI .sub 20 1 21,zJ 2 19 21 22,zF 0 22 23,zL 23 24,zW (.bin .add (.tmp 24) (.const (.int .u64 1))) 25,zB .sub 18 25 26,zM 26 6] []))) (.reg [zM 3 27,zM 6 28,zW (.bsl 1 [.tmp 28]) 29,zP 1 8 27 29 30,zM 30 3] []))))) (.reg [zI .add 9 1 31,zM 31 9] []))))))) (zq [zM 3 32,zM 32 2] .ret)))) [.tmp 2] 33:=ki
def Ac1:Is prog f243 (zq [zV zi 4] (zq [zM 0 11,zM 1 12,zC 241 [11,12] 13,zM 13 10,zE 10 0 14,zE 10 1 15,zM 14 5,zM 15 6] (.seq (zq [zM 6 16,zQ 16 17] (zc 17 (zq [zV zi 4] .ret))) (zq [zM 1 18,zU 18 19,zK .u64 19 20,zC 208 [20] 21,zM 21 7] (.seq (zq [zM 5 22,zU 22 23,zV zi 24] (.block 0 (.loop (zq [zB .lss 24 23 25] (.seq (.cond (.tmp 25) .skip (.exit 0)) (.seq (.block 1 (zq [zJ 1 22 24 26,zL 26 27,zM 27 9] (.reg [zM 7 28,zM 9 29,zC 208 [29] 30,zB .add 28 30 31,zM 31 7] []))) (.reg [zI .add 24 1 32,zM 32 24] []))))))) (zq [zM 7 33,zM 33 4] .ret)))))) [.tmp 4] 34:=ki
def yT:Is prog f251 (zq [zY 1 3] (.block 0 (zq [zN 3 3 19,zC 257 [19] 20,zQ 20 21,zM 21 18] (.cond (.tmp 18) (.reg [zM 0 22,zR 210 [.tmp 22,zk 3] 23] []) (zq [zF 1 3 25,zL 25 26,zI .eql 26 0 27,zM 27 24] (.cond (.tmp 24) (zq [zM 0 28,zF 0 3 29,zL 29 30,zU 30 31,zI .sub 31 1 32,zK .u64 32 33,zW (.bin .mul (.tmp 33) (.const (.int .u64 2))) 34,zC 213 [28,34] 35] (.reg [zM 0 36,zF 0 3 37,zL 37 38,zC 188 [36,38] 39] [])) (zq [zM 0 4,zF 2 3 5,zL 5 6,zI .sub 6 4 7,zK .u64 7 8,zW (.bin .mul (.tmp 8) (.const (.int .u64 2))) 9,zW (.bin .add (.tmp 9) (.const (.int .u64 1))) 10,zC 213 [4,10] 11] (.reg [zM 0 12,zF 1 3 13,zL 13 14,zI .sub 14 1 15,zK .u64 15 16,zC 213 [12,16] 17] [])))))))) [] 40:=ki
def Agb:Is prog f252 (zq [zV (.pointer none) 2] (zq [zW (.bsl 1 []) 3,zM 0 4,zP 1 1 3 4 5,zW (.mkmap) 6,zD [zn,.map none,zn] [(0,(1,.tmp 5)),(1,(1,.tmp 6))] 7,zY 7 8,zM 8 2] .ret)) [.tmp 2] 9:=ki
def Acx:Is prog f256 (zq [zV zi 4,zV zi 5] (.seq (zq [zM 1 6,zI .lss 6 4 7] (zc 7 (zq [zV zi 4,zV zi 5] .ret))) (zq [zM 0 8,zM 1 9,zM 8 4,zM 9 5] .ret))) [.tmp 4,.tmp 5] 10:=ki
def b13:Is prog f13 (zq [zV zf 4] (.seq (zq [zM 0 8,zU 8 9,zM 1 10,zU 10 11,zB .neq 9 11 12] (zc 12 (zq [zV zf 4] .ret))) (.seq (zq [zV zi 5] (.block 0 (.loop (.seq (zq [zM 5 13,zM 0 14,zU 14 15,zB .lss 13 15 16] (.cond (.tmp 16) .skip (.exit 0))) (.seq (.block 1 (.seq (.reg [zM 0 19,zM 5 20,zJ 20 19 20 21,zN 20 21 22,zM 1 23,zM 5 24,zJ 20 23 24 25,zN 20 25 26,zX [zi,zi,zi,zi,zu,zu,zu,zi,zi,zn,zn,zn,zu,zu,zu,zu,zn,zu,zu,zn] 6,zX [zi,zi,zi,zi,zu,zu,zu,zi,zi,zn,zn,zn,zu,zu,zu,zu,zn,zu,zu,zn] 7,zS 20 6 22,zS 20 7 26] [(3,7),(3,8),(7,8),(3,9),(7,9),(8,9),(7,10)]) (zq [zF 0 6 27,zL 27 28,zF 0 7 29,zL 29 30,zB .neq 28 30 31,zM 31 32,zZ 32 (zF 1 6 33),zZ 32 (zL 33 34),zZ 32 (zF 1 7 35),zZ 32 (zL 35 36),zZ 32 (zB .neq 34 36 37),zO 32 37 38,zM 38 39,zZ 39 (zF 2 6 40),zZ 39 (zL 40 41),zZ 39 (zF 2 7 42),zZ 39 (zL 42 43),zZ 39 (zB .neq 41 43 44),zO 39 44 45,zM 45 46,zZ 46 (zF 3 6 47),zZ 46 (zN 14 47 48),zZ 46 (zF 3 7 49),zZ 46 (zN 14 49 50),zZ 46 (zC 36 [48,50] 51),(.some (46,.false),(.un .not (.tmp 51),.some 52)),zO 46 52 53,zM 53 54,zZ 54 (zF 17 6 55),zZ 54 (zN 3 55 56),zZ 54 (zF 17 7 57),zZ 54 (zN 3 57 58),zZ 54 (zC 37 [56,58] 59),(.some (54,.false),(.un .not (.tmp 59),.some 60)),zO 54 60 61] (zc 61 (zq [zV zf 4] .ret))))) (.reg [zM 5 17,zI .add 17 1 18,zM 18 5] [])))))) (zq [zV zt 4] .ret)))) [.tmp 4] 62:=ki
def b20:Is prog f20 (zq [zX [zu,zn] 4,zV zf 5,zX [zi,zi] 6] (zq [zM 0 10,zC 48 [10] 11,zD [.pointer none,zu,zn,zn,.bool .false,zi] [(0,(1,.tmp 11)),(4,(1,.const (.bool .true)))] 12,zY 12 13,zM 13 7] (zq [zM 7 14,zH 14 15,zF 0 15 16,zL 16 17,zC 49 [17] 18,zX [zi,zu,zu] 8,zS 3 8 18] (.seq (zq [zF 0 8 19,zL 19 20,zI .neq 20 3 21] (zc 21 (.reg [zM 7 22,zH 22 23,zF 0 23 24,zL 24 25,zR 50 [.tmp 25,zk 8,zk 4] 26] []))) (zq [zM 7 27,zF 1 8 28,zL 28 29,zH 27 30,zF 1 30 31,zF 0 31 32,zS 1 32 29] (zq [zM 7 33,zM 1 34,zC 51 [33,34] 35] (.seq (zq [zM 7 36,zH 36 37,zF 0 37 38,zL 38 39,zC 52 [39] 40] (zc 40 (.reg [zM 7 41,zC 53 [41] 42] []))) (.seq (zq [zM 7 43,zH 43 44,zF 0 44 45,zL 45 46,zC 54 [46] 47,zX [zi,zi] 9,zS 2 9 47] (zq [zN 2 9 48,zC 26 [48] 49,zQ 49 50] (zc 50 (.seq (.reg [zD [zu,zn] [] 51,zN 2 9 52,zS 2 4 51,zV zf 5,zS 2 6 52] [(1,2)]) .ret)))) (.seq (.reg [zM 7 53,zH 53 54,zF 1 54 55,zN 2 55 56,zM 7 57,zH 57 58,zF 4 58 59,zL 59 60,zD [zi,zi] [] 61,zS 2 4 56,zM 60 5,zS 2 6 61] [(3,7),(7,9)]) .ret))))))))) [.cell 4 (.some 2),.tmp 5,.cell 6 (.some 2)] 62:=ki
def b32:Is prog f32 (zq [zV zf 2,zX [zi,zi] 3] (zq [zM 0 8,zH 8 9,zF 1 9 10,zL 10 11,zC 85 [11] 12,zM 12 7,zE 7 0 13,zE 7 1 14,zE 7 2 15,zX [zi,zu,zu] 4,zX [zi,zi] 6,zS 3 4 13,zM 14 5,zS 2 6 15] (.seq (.block 0 (zq [zF 0 6 17,zL 17 18,zI .eql 18 1 19,zM 19 16] (.cond (.tmp 16) (zq [zD [zi,zi] [] 20,zV zf 2,zS 2 3 20] .ret) (zq [zN 2 6 22,zC 26 [22] 23,zQ 23 24,zM 24 21] (.cond (.tmp 21) (zq [zN 2 6 25,zV zf 2,zS 2 3 25] .ret) (zq [zF 0 4 27,zL 27 28,zI .neq 28 3 29,zM 29 26] (zc 26 (zq [zR 31 [zk 8,zk 4] 30,zV zf 2,zS 2 3 30] .ret)))))))) (zq [zM 0 31,zM 0 32,zF 1 4 33,zL 33 34,zH 31 35,zF 5 35 36,zS 1 36 34,zH 32 37,zF 0 37 38,(none,(.store 1 (.tmp 38) (.func 86),none))] (zq [zD [zi,zi] [] 39,zV zt 2,zS 2 3 39] .ret))))) [.tmp 2,.cell 3 (.some 2)] 40:=ki
def b35:Is prog f35 (zq [zV zf 2] (.seq (.reg [zM 0 3,zH 3 4,zF 17 4 5,zL 5 6,zI .gtr 6 0 7,zM 7 8,zT 8 (zM 0 9),(.some (8,.true),(.nilc (.tmp 9),.some 10)),zT 8 (zF 1 10 11),zT 8 (zL 11 12),zT 8 (zU 12 13),zT 8 (zI .eql 13 0 14),zA 8 14 15,zM 15 16,zT 16 (zM 0 17),(.some (16,.true),(.nilc (.tmp 17),.some 18)),zT 16 (zF 3 18 19),zT 16 (zL 19 20),zT 16 (zM 0 21),(.some (16,.true),(.nilc (.tmp 21),.some 22)),zT 16 (zF 10 22 23),zT 16 (zF 5 23 24),zT 16 (zL 24 25),zT 16 (zM 0 26),(.some (16,.true),(.nilc (.tmp 26),.some 27)),zT 16 (zF 10 27 28),zT 16 (zF 6 28 29),zT 16 (zL 29 30),zT 16 (zB .add 25 30 31),zT 16 (zM 0 32),(.some (16,.true),(.nilc (.tmp 32),.some 33)),zT 16 (zF 17 33 34),zT 16 (zL 34 35),zT 16 (zB .add 31 35 36),zT 16 (zC 87 [] 37),zT 16 (zB .add 36 37 38),zT 16 (zB .eql 20 38 39),zA 16 39 40,zM 40 2] [(17,22),(17,27),(22,27),(17,32),(22,32),(27,32),(17,34),(22,34),(27,34),(32,34)]) .ret)) [.tmp 2] 41:=ki
def b36:Is prog f36 (zq [zY 0 2,zY 1 3,zV zf 4] (.seq (zq [zF 0 2 5,zL 5 6,zF 0 3 7,zL 7 8,zB .neq 6 8 9,zM 9 10,zZ 10 (zF 1 2 11),zZ 10 (zL 11 12),zZ 10 (zF 1 3 13),zZ 10 (zL 13 14),zZ 10 (zB .neq 12 14 15),zO 10 15 16,zM 16 17,zZ 17 (zF 2 2 18),zZ 17 (zL 18 19),zZ 17 (zF 2 3 20),zZ 17 (zL 20 21),zZ 17 (zB .neq 19 21 22),zO 17 22 23,zM 23 24,zZ 24 (zF 3 2 25),zZ 24 (zL 25 26),zZ 24 (zF 3 3 27),zZ 24 (zL 27 28),zZ 24 (zB .neq 26 28 29),zO 24 29 30,zM 30 31,zZ 31 (zF 4 2 32),zZ 31 (zL 32 33),zZ 31 (zF 4 3 34),zZ 31 (zL 34 35),zZ 31 (zB .neq 33 35 36),zO 31 36 37,zM 37 38,zZ 38 (zF 5 2 39),zZ 38 (zL 39 40),zZ 38 (zF 5 3 41),zZ 38 (zL 41 42),zZ 38 (zB .neq 40 42 43),zO 38 43 44,zM 44 45,zZ 45 (zF 9 2 46),zZ 45 (zN 3 46 47),zZ 45 (zF 9 3 48),zZ 45 (zN 3 48 49),(.some (45,.false),(.eqa .true 3 (.tmp 47) (.tmp 49),.some 50)),zO 45 50 51] (zc 51 (zq [zV zf 4] .ret))) (zq [zF 6 2 52,zL 52 53,zF 6 3 54,zL 54 55,zC 88 [53,55] 56,zM 56 57,zT 57 (zF 7 2 58),zT 57 (zL 58 59),zT 57 (zF 7 3 60),zT 57 (zL 60 61),zT 57 (zC 89 [59,61] 62),zA 57 62 63,zM 63 64,zT 64 (zF 8 2 65),zT 64 (zL 65 66),zT 64 (zF 8 3 67),zT 64 (zL 67 68),zT 64 (zC 90 [66,68] 69),zA 64 69 70,zM 70 71,zT 71 (zF 12 2 72),zT 71 (zN 2 72 73),zT 71 (zF 12 3 74),zT 71 (zN 2 74 75),zT 71 (zC 91 [73,75] 76),zA 71 76 77,zM 77 4] .ret))) [.tmp 4] 78:=ki
def b38:Is prog f38 (zq [zY 0 2,zX [zn,zi,zi,zi] 4,zV zn 5] (zq [zN 4 2 9,zM 1 10,zC 93 [9,10] 11,zM 11 8,zE 8 0 12,zE 8 1 13,zX [zn,zi,zi,zi] 6,zS 4 6 12,zM 13 7] (zq [zN 4 6 14,zM 7 15,zC 94 [14,15] 16,zE 16 0 17,zE 16 1 18,zS 4 4 17,zM 18 5] .ret))) [.cell 4 (.some 4),.tmp 5] 19:=ki
def b39:Is prog f39 (zq [zY 0 2,zX [zn,zi,zi,zi] 4,zV zu 5] (zq [zN 4 2 11,zM 1 12,zW (.mx .true (.tmp 12) (zk 0)) 13,zW (.mx .false (.tmp 13) (zk 8)) 14,zC 94 [11,14] 15,zM 15 10,zE 10 0 16,zE 10 1 17,zX [zn,zi,zi,zi] 6,zS 4 6 16,zM 17 7] (zq [zV zu 8] (.seq (zq [zM 7 18,zU 18 19,zI .sub 19 1 20,zM 20 9] (.block 0 (.loop (.seq (zq [zM 9 21,zI .geq 21 0 22] (.cond (.tmp 22) .skip (.exit 0))) (.seq (.block 1 (.reg [zM 8 25,zW (.bin .mul (.const (.int .u64 256)) (.tmp 25)) 26,zM 7 27,zM 9 28,zJ 1 27 28 29,zL 29 30,zK .u64 30 31,zB .add 26 31 32,zM 32 8] [])) (.reg [zM 9 23,zI .sub 23 1 24,zM 24 9] [])))))) (zq [zN 4 6 33,zM 8 34,zS 4 4 33,zM 34 5] .ret))))) [.cell 4 (.some 4),.tmp 5] 35:=ki
def b41:Is prog f41 (zq [zY 0 3,zX [zn,zi,zi,zi] 6] (.seq (zq [zF 2 3 7,zF 0 7 8,zL 8 9,zI .eql 9 0 10] (zc 10 (.reg [zM 1 11,zM 2 12,zC 96 [11,12] 13,zF 2 3 14,zS 2 14 13] []))) (zq [zN 4 3 15,zS 4 6 15] .ret))) [.cell 6 (.some 4)] 16:=ki
def b42:Is prog f42 (zq [zY 0 1,zV zf 2] (.seq (zq [zF 0 1 5,zL 5 6,zC 97 [6] 7,zQ 7 8,zM 8 9,zZ 9 (zF 1 1 10),zZ 9 (zL 10 11),zZ 9 (zU 11 12),zZ 9 (zI .gtr 12 16 13),zO 9 13 14] (zc 14 (zq [zV zf 2] .ret))) (.seq (zq [zF 1 1 15,zL 15 16,zU 16 17,zV zi 18] (.block 0 (.loop (zq [zB .lss 18 17 19] (.seq (.cond (.tmp 19) .skip (.exit 0)) (.seq (.block 1 (zq [zM 18 20,zJ 3 16 18 21,zN 3 21 22,zX [zu,zu,zn] 4,zM 20 3,zS 3 4 22] (.seq (.reg [zN 3 4 23,zC 98 [23] 24,zQ 24 25,zM 25 26,zZ 26 (zF 0 1 27),zZ 26 (zL 27 28),zZ 26 (zF 1 1 29),zZ 26 (zL 29 30),zZ 26 (zM 3 31),(.some (26,.false),(.slice 3 (.tmp 30) none (.some (.tmp 31)) none,.some 32)),(.some (26,.false),(.build [zu,zn] [(0,(1,.tmp 28)),(1,(1,.tmp 32))],.some 33)),zZ 26 (zN 3 4 34),zZ 26 (zC 99 [33,34] 35),(.some (26,.false),(.un .not (.tmp 35),.some 36)),zO 26 36 37] [(5,7),(5,11),(7,11)]) (zc 37 (zq [zV zf 2] .ret))))) (.reg [zI .add 18 1 38,zM 38 18] []))))))) (zq [zV zt 2] .ret)))) [.tmp 2] 39:=ki
def b43:Is prog f43 (zq [zY 0 1,zX [zn,zn,zu,zi,zi,zu,zu,zi,zi] 2] (zq [zX [zn,zn,zu,zi,zi,zu,zu,zi,zi] 3] (zq [zF 0 1 14,zL 14 15,zD [zi,zu,zu] [(0,(1,zk 3)),(1,(1,.tmp 15))] 16,zC 100 [16] 17,zM 17 13,zE 13 0 18,zE 13 1 19,zF 0 3 20,zS 1 20 18] (.seq (zq [zF 1 1 21,zL 21 22,zU 22 23,zV zi 24] (.block 0 (.loop (zq [zB .lss 24 23 25] (.seq (.cond (.tmp 25) .skip (.exit 0)) (.seq (.block 1 (zq [zJ 3 22 24 26,zN 3 26 27,zX [zu,zu,zn] 5,zS 3 5 27] (zq [zN 3 5 29,zC 101 [29] 30,zM 30 28,zE 28 0 31,zE 28 1 32,zM 31 6,zM 32 7] (zq [zF 1 3 33,zL 33 34,zF 1 5 35,zL 35 36,zF 2 5 37,zL 37 38,zU 38 39,zF 0 3 40,zL 40 41,zU 41 42,zD [zu,zi,zi] [(0,(1,.tmp 36)),(1,(1,.tmp 39)),(2,(1,.tmp 42))] 43,zW (.bsl 3 [.tmp 43]) 44,zP 3 24 34 44 45,zF 1 3 46,zS 1 46 45] (.reg [zF 0 3 47,zL 47 48,zM 6 49,zR 102 [.const (.int .u8 1),.tmp 49] 50,zP 1 1 48 50 51,zF 0 3 52,zS 1 52 51] [(1,3)]))))) (.reg [zI .add 24 1 53,zM 53 24] []))))))) (zq [zF 1 3 55,zL 55 56,zC 103 [56] 57,zM 57 54,zE 54 0 58,zE 54 1 59,zM 58 8,zM 59 9] (zq [zM 8 60,zR 102 [.const (.int .u8 2),.tmp 60] 61,zM 61 10] (zq [zF 0 1 62,zL 62 63,zF 1 3 64,zL 64 65,zF 0 3 66,zL 66 67,zU 67 68,zM 10 69,zU 69 70,zC 104 [63,65,68,70] 71,zF 2 3 72,zS 7 72 71] (zq [zF 2 3 74,zN 7 74 75,zC 105 [75] 76,zM 76 73,zE 73 0 77,zE 73 1 78,zM 77 11,zM 78 12] (zq [zF 0 3 79,zL 79 80,zM 10 81,zP 1 1 80 81 82,zM 11 83,zP 1 1 82 83 84,zF 0 3 85,zS 1 85 84] (zq [zN 9 3 86,zS 9 2 86] .ret)))))))))) [.cell 2 (.some 9)] 87:=ki
def b52:Is prog f52 (zq [zV zf 2] (zq [zM 0 3,zW (.eqp .true (.tmp 3) (.const (.pointer none))) 4,zM 4 5,zT 5 (zM 0 6),(.some (5,.true),(.nilc (.tmp 6),.some 7)),zT 5 (zF 2 7 8),zT 5 (zN 2 8 9),zT 5 (zC 26 [9] 10),zA 5 10 11,zM 11 2] .ret)) [.tmp 2] 12:=ki
def b54:Is prog f54 (zq [zX [zi,zi] 2] (.seq (zq [zM 0 3,zW (.eqp .false (.tmp 3) (.const (.pointer none))) 4] (zc 4 (zq [zR 31 [zk 19,zk 0] 5,zS 2 2 5] .ret))) (zq [zM 0 6,zH 6 7,zF 2 7 8,zN 2 8 9,zS 2 2 9] .ret))) [.cell 2 (.some 2)] 10:=ki
def b61:Is prog f61 (zq [zX [zi,zu,zu] 4] (zq [zM 0 6,zC 49 [6] 7,zX [zi,zu,zu] 5,zS 3 5 7] (.seq (zq [zF 0 5 8,zL 8 9,zM 1 10,zB .neq 9 10 11] (zc 11 (.reg [zM 0 12,zR 50 [.tmp 12,zk 8,zk 4] 13] []))) (zq [zN 3 5 14,zS 3 4 14] .ret)))) [.cell 4 (.some 3)] 15:=ki
def b63:Is prog f63 (zq [zV zi 8] (zq [zM 0 11,zC 62 [11] 12,zM 12 9] (zq [zM 0 13,zM 3 14,zC 75 [13,14] 15,zM 15 10] (.seq (zq [zM 10 16,zM 2 17,zB .lss 16 17 18,zM 18 19,zZ 19 (zM 1 20),zZ 19 (zM 10 21),zZ 19 (zC 135 [20,21] 22),(.some (19,.false),(.un .not (.tmp 22),.some 23)),zO 19 23 24] (zc 24 (.reg [zM 0 25,zM 9 26,zR 50 [.tmp 25,zk 3,.tmp 26] 27] []))) (zq [zM 10 28,zM 28 8] .ret))))) [.tmp 8] 29:=ki
def b64:Is prog f64 (zq [zV zn 6] (zq [zV zn 7] (.seq (zq [zM 1 10,zV zi 11] (.block 0 (.loop (zq [zB .lss 11 10 12] (.seq (.cond (.tmp 12) .skip (.exit 0)) (.seq (.block 1 (zq [zM 11 13,zM 13 8] (zq [zM 2 14,zM 8 15,zW (.call (.tmp 14) [.tmp 15]) 16,zX [zu,zu,.bool .false,zn] 9,zS 4 9 16] (.seq (zq [zM 0 17,zC 52 [17] 18,zQ 18 19] (zc 19 (zq [zV zn 6] .ret))) (.reg [zM 7 20,zN 4 9 21,zW (.bsl 4 [.tmp 21]) 22,zP 4 48 20 22 23,zM 23 7] []))))) (.reg [zI .add 11 1 24,zM 24 11] []))))))) (zq [zM 7 25,zM 25 6] .ret)))) [.tmp 6] 26:=ki
def b74:Is prog f74 (zq [zY 0 1,zX [zu,zn] 2] (zq [zF 0 1 7,zL 7 8,zD [zu,zn] [(0,(1,.tmp 8))] 9,zX [zu,zn] 3,zS 2 3 9] (.seq (zq [zF 2 1 10,zL 10 11,zU 11 12,zV zi 13] (.block 0 (.loop (zq [zB .lss 13 12 14] (.seq (.cond (.tmp 14) .skip (.exit 0)) (.seq (.block 1 (zq [zM 13 15,zJ 4 11 13 16,zN 4 16 17,zX [zu,zu,.bool .false,zn] 5,zM 15 4,zS 4 5 17] (.seq (zq [zM 4 18,zI .rem 18 16 19,zI .eql 19 0 20] (zc 20 (.reg [zF 1 3 21,zL 21 22,zF 0 1 23,zL 23 24,zF 1 1 25,zL 25 26,zM 4 27,zK .u64 27 28,zB .add 26 28 29,zD [zu,zu,zn] [(0,(1,.tmp 24)),(1,(1,.tmp 29))] 30,zW (.bsl 3 [.tmp 30]) 31,zP 3 40 22 31 32,zF 1 3 33,zS 1 33 32] []))) (zq [zF 1 3 34,zL 34 35,zF 1 3 36,zL 36 37,zU 37 38,zI .sub 38 1 39,zJ 3 35 39 40,zM 40 6] (.reg [zM 6 41,zM 6 42,zH 42 43,zF 2 43 44,zL 44 45,zN 4 5 46,zC 145 [46] 47,zW (.bsl 2 [.tmp 47]) 48,zP 2 48 45 48 49,zH 41 50,zF 2 50 51,zS 1 51 49] [(4,5),(4,6)]))))) (.reg [zI .add 13 1 52,zM 52 13] []))))))) (zq [zN 2 3 53,zS 2 2 53] .ret)))) [.cell 2 (.some 2)] 54:=ki
def b82:Is prog f82 (zq [zY 1 3,zX [zu,zn] 4,zX [zi,zi] 5] (.seq (zq [zM 0 8,zC 54 [8] 9,zX [zi,zi] 6,zS 2 6 9] (zq [zN 2 6 10,zC 26 [10] 11,zQ 11 12] (zc 12 (zq [zX [zu,zn] 7] (.seq (.reg [zN 2 7 13,zN 2 6 14,zS 2 4 13,zS 2 5 14] [(0,1),(1,2)]) .ret))))) (zq [zN 2 3 15,zD [zi,zi] [] 16,zS 2 4 15,zS 2 5 16] .ret))) [.cell 4 (.some 2),.cell 5 (.some 2)] 17:=ki
def b85:Is prog f85 (zq [zX [zi,zu,zu] 2,zV zi 3,zX [zi,zi] 4] (zq [zM 0 7,zC 48 [7] 8,zM 8 5] (zq [zM 5 9,zC 49 [9] 10,zX [zi,zu,zu] 6,zS 3 6 10] (.seq (zq [zN 3 6 11,zD [zi,zu,zu] [] 12,zW (.eqa .false 3 (.tmp 11) (.tmp 12)) 13] (zc 13 (.seq (.reg [zN 3 6 14,zM 5 15,zC 54 [15] 16,zS 3 2 14,zV zi 3,zS 2 4 16] [(0,2)]) .ret))) (.seq (.reg [zN 3 6 17,zM 5 18,zC 62 [18] 19,zD [zi,zi] [] 20,zS 3 2 17,zM 19 3,zS 2 4 20] [(0,2)]) .ret))))) [.cell 2 (.some 3),.tmp 3,.cell 4 (.some 2)] 21:=ki
def b91:Is prog f91 (zq [zY 0 2,zY 1 3,zV zf 4] (.seq (zq [zF 0 2 6,zL 6 7,zF 0 3 8,zL 8 9,zB .neq 7 9 10,zM 10 11,zZ 11 (zF 1 2 12),zZ 11 (zL 12 13),zZ 11 (zU 13 14),zZ 11 (zF 1 3 15),zZ 11 (zL 15 16),zZ 11 (zU 16 17),zZ 11 (zB .neq 14 17 18),zO 11 18 19] (zc 19 (zq [zV zf 4] .ret))) (.seq (zq [zV zi 5] (.block 0 (.loop (.seq (zq [zM 5 20,zF 1 2 21,zL 21 22,zU 22 23,zB .lss 20 23 24] (.cond (.tmp 24) .skip (.exit 0))) (.seq (.block 1 (.seq (.reg [zF 1 2 27,zL 27 28,zM 5 29,zJ 3 28 29 30,zN 3 30 31,zF 1 3 32,zL 32 33,zM 5 34,zJ 3 33 34 35,zN 3 35 36,zC 163 [31,36] 37,zQ 37 38] [(1,6),(4,6),(1,9),(4,9)]) (zc 38 (zq [zV zf 4] .ret)))) (.reg [zM 5 25,zI .add 25 1 26,zM 26 5] [])))))) (zq [zV zt 4] .ret)))) [.tmp 4] 39:=ki
def b93:Is prog f93 (zq [zY 0 2,zX [zn,zi,zi,zi] 4,zV zi 5] (.seq (zq [zM 1 10,zI .geq 10 0 11] (zc 11 (zq [zN 4 2 13,zM 1 14,zK .u64 14 15,zC 165 [13,15] 16,zM 16 12,zE 12 0 17,zE 12 1 18,zX [zn,zi,zi,zi] 6,zS 4 6 17,zM 18 7] (zq [zN 4 6 19,zM 7 20,zK .i64 20 21,zS 4 4 19,zM 21 5] .ret)))) (zq [zN 4 2 23,zC 166 [23] 24,zM 24 22,zE 22 0 25,zE 22 1 26,zX [zn,zi,zi,zi] 8,zS 4 8 25,zM 26 9] (zq [zN 4 8 27,zF 1 2 28,zL 28 29,zR 41 [.tmp 27,zk 2,.tmp 29] 30,zS 4 4 30,zV zi 5] .ret)))) [.cell 4 (.some 4),.tmp 5] 31:=ki
def Ahx:Is prog f102 (zq [zV zn 4] (zq [zM 0 8,zW (.bsl 1 [.tmp 8]) 9,zM 1 10,zP 1 1 9 10 11,zC 176 [11] 12,zM 12 7,zE 7 0 13,zE 7 1 14,zM 13 5,zM 14 6] (zq [zM 5 15,zM 15 4] .ret))) [.tmp 4] 16:=ki
def ZM:Is prog f106 (zq [zX [zu,zi,zi,zu,zu,zi,zi] 2,zV zi 3,zX [zi,zi] 4] (zq [zM 0 13,zC 181 [13] 14,zM 14 12,zE 12 0 15,zE 12 1 16,zX [zi,zi] 6,zM 15 5,zS 2 6 16] (.seq (zq [zN 2 6 17,zC 26 [17] 18,zQ 18 19] (zc 19 (.seq (.reg [zD [zu,zi,zi,zu,zu,zi,zi] [] 20,zN 2 6 21,zS 7 2 20,zV zi 3,zS 2 4 21] [(1,2)]) .ret))) (zq [zM 0 22,zU 22 23,zC 87 [] 24,zB .sub 23 24 25,zM 25 7] (zq [zM 7 26,zM 5 27,zB .sub 26 27 28,zM 28 8] (zq [zM 0 30,zM 8 31,zM 7 32,zW (.slice 1 (.tmp 30) (.some (.tmp 31)) (.some (.tmp 32)) none) 33,zR 182 [.tmp 33,zk 2097152] 34,zM 34 29,zE 29 0 35,zE 29 1 36,zE 29 2 37,zM 35 9,zM 36 10,zS 2 6 37] (.seq (.block 0 (zq [zN 2 6 39,zC 26 [39] 40,zQ 40 41,zM 41 38] (.cond (.tmp 38) (zq [zD [zu,zi,zi,zu,zu,zi,zi] [] 42,zN 2 6 43,zM 8 44,zC 80 [43,44] 45,zS 7 2 42,zV zi 3,zS 2 4 45] .ret) (zq [zM 10 47,zM 5 48,zB .lss 47 48 49,zM 49 46] (zc 46 (zq [zD [zu,zi,zi,zu,zu,zi,zi] [] 50,zM 8 51,zM 10 52,zB .add 51 52 53,zR 31 [zk 9,.tmp 53] 54,zS 7 2 50,zV zi 3,zS 2 4 54] .ret)))))) (zq [zM 9 56,zC 125 [56] 57,zM 57 55,zE 55 0 58,zE 55 1 59,zX [zu,zi,zi,zu,zu,zi,zi] 11,zS 7 11 58,zS 2 6 59] (.seq (zq [zN 2 6 60,zC 26 [60] 61,zQ 61 62] (zc 62 (zq [zD [zu,zi,zi,zu,zu,zi,zi] [] 63,zN 2 6 64,zM 8 65,zM 10 66,zB .add 65 66 67,zI .sub 67 4 68,zM 9 69,zU 69 70,zB .sub 68 70 71,zC 80 [64,71] 72,zS 7 2 63,zV zi 3,zS 2 4 72] .ret))) (zq [zN 7 11 73,zM 8 74,zD [zi,zi] [] 75,zS 7 2 73,zM 74 3,zS 2 4 75] .ret)))))))))) [.cell 2 (.some 7),.tmp 3,.cell 4 (.some 2)] 76:=ki
def jV:Is prog f107 (zq [zV zn 6,zV zi 7,zX [zi,zi] 8] (zq [zV zn 9] (zq [zM 0 17,zR 182 [.tmp 17,zk 2097152] 18,zM 18 16,zE 16 0 19,zE 16 1 20,zE 16 2 21,zX [zi,zi] 12,zM 19 10,zM 20 11,zS 2 12 21] (.seq (zq [zN 2 12 22,zC 26 [22] 23,zQ 23 24] (zc 24 (zq [zM 9 25,zN 2 12 26,zM 25 6,zV zi 7,zS 2 8 26] .ret))) (zq [zM 10 27,zC 48 [27] 28,zM 28 13] (.seq (zq [zM 13 29,zC 121 [29] 30,zM 1 31,zB .neq 30 31 32] (zc 32 (.reg [zM 13 33,zR 50 [.tmp 33,zk 7,zk 0] 34] []))) (zq [zM 2 35,zM 13 36,zW (.call (.tmp 35) [.tmp 36]) 37,zM 37 14] (zq [zM 13 38,zC 70 [38] 39] (.seq (zq [zM 13 40,zC 54 [40] 41,zM 11 42,zI .sub 42 4 43,zM 10 44,zU 44 45,zB .sub 43 45 46,zC 80 [41,46] 47,zX [zi,zi] 15,zS 2 15 47] (zq [zN 2 15 48,zC 26 [48] 49,zQ 49 50] (zc 50 (zq [zM 9 51,zN 2 15 52,zM 51 6,zV zi 7,zS 2 8 52] .ret)))) (zq [zM 14 53,zM 11 54,zD [zi,zi] [] 55,zM 53 6,zM 54 7,zS 2 8 55] .ret)))))))))) [.tmp 6,.tmp 7,.cell 8 (.some 2)] 56:=ki
def Ad8:Is prog f110 (zq [zV zf 2] (zq [zV zu 3] (zq [zV zi 4] (.seq (zq [zM 0 7,zU 7 8,zV zi 9] (.block 0 (.loop (zq [zB .lss 9 8 10] (.seq (.cond (.tmp 10) .skip (.exit 0)) (.seq (.block 1 (zq [zJ 3 7 9 11,zN 3 11 12,zX [zu,zi,zi] 6,zS 3 6 12] (.seq (zq [zN 3 6 13,zM 3 14,zM 4 15,zC 183 [13,14,15] 16,zQ 16 17] (zc 17 (zq [zV zf 2] .ret))) (.reg [zN 3 6 18,zC 111 [18] 19,zF 2 6 20,zL 20 21,zM 19 3,zM 21 4] [(0,3),(1,3)])))) (.reg [zI .add 9 1 22,zM 22 9] []))))))) (zq [zM 0 23,zU 23 24,zI .leq 24 16 25,zM 25 2] .ret))))) [.tmp 2] 26:=ki
def z8:Is prog f114 (zq [zY 0 1,zV zu 2] (zq [zF 1 1 3,zL 3 4,zF 2 1 5,zL 5 6,zU 6 7,zK .u64 7 8,zB .add 4 8 9,zM 9 2] .ret)) [.tmp 2] 10:=ki
def z7:Is prog f123 (zq [zM 1 7,zC 108 [7] 8,zM 8 6] (zq [zM 1 9,zC 70 [9] 10] (zq [zM 0 11,zM 1 12,zC 54 [12] 13,zM 2 14,zC 124 [11,13,14] 15] (zq [zM 0 16,zH 16 17,zF 0 17 18,zL 18 19,zC 52 [19] 20,zM 20 21,zT 21 (zM 6 22),zT 21 (zM 0 23),(.some (21,.true),(.nilc (.tmp 23),.some 24)),zT 21 (zF 3 24 25),zT 21 (zL 25 26),zT 21 (zC 192 [22,26] 27),(.some (21,.true),(.un .not (.tmp 27),.some 28)),zA 21 28 29] (zc 29 (.reg [zM 0 30,zH 30 31,zF 0 31 32,zL 32 33,zM 0 34,zH 34 35,zF 5 35 36,zL 36 37,zR 50 [.tmp 33,zk 12,.tmp 37] 38] [(3,7)])))))) [] 39:=ki
def Ad5:Is prog f124 (zq [zY 1 4] (zq [zN 2 4 6,zM 2 7,zC 80 [6,7] 8,zS 2 4 8] (zq [zN 2 4 9,zC 26 [9] 10,zQ 10 11] (zc 11 (.reg [zM 0 12,zH 12 13,zF 0 13 14,zL 14 15,zF 0 4 16,zL 16 17,zF 1 4 18,zL 18 19,zC 50 [15,17,19] 20] [(3,5),(3,7),(5,7)]))))) [] 21:=ki
def Aho:Is prog f127 (zq [zV zf 4] (zq [zM 0 5,zW (.b2s (.tmp 5)) 6,zM 1 7,zW (.b2s (.tmp 7)) 8,zB .eql 6 8 9,zM 9 4] .ret)) [.tmp 4] 10:=ki
def rL:Is prog f133 (zq [zV zn 4] (zq [zM 0 9,zR 137 [.tmp 9,zk 1048576] 10,zM 10 5] (.seq (zq [zM 0 11,zC 52 [11] 12,zQ 12 13] (zc 13 (zq [zV zn 4] .ret))) (zq [zM 0 14,zC 62 [14] 15,zM 5 16,zU 16 17,zB .sub 15 17 18,zM 18 6] (zq [zM 5 20,zM 1 21,zC 197 [20,21] 22,zM 22 19,zE 19 0 23,zE 19 1 24,zX [zi,zi] 8,zM 23 7,zS 2 8 24] (.seq (.block 0 (zq [zN 2 8 26,zC 26 [26] 27,zQ 27 28,zM 28 25] (.cond (.tmp 25) (zq [zN 2 8 29,zM 6 30,zC 80 [29,30] 31,zS 2 8 31] (.reg [zM 0 32,zF 0 8 33,zL 33 34,zF 1 8 35,zL 35 36,zC 50 [32,34,36] 37] [])) (zq [zM 7 39,zU 39 40,zM 1 41,zB .lss 40 41 42,zM 42 38] (zc 38 (.reg [zM 0 43,zM 0 44,zC 62 [44] 45,zR 50 [.tmp 43,zk 3,.tmp 45] 46] [])))))) (zq [zM 7 47,zM 47 4] .ret))))))) [.tmp 4] 48:=ki
def Ahm:Is prog f134 (zq [zV zn 2,zV zi 3] (zq [zM 0 5,zU 5 6,zC 198 [6] 7,zI .add 7 1 8,zC 170 [8] 9,zM 9 4] (zq [zM 4 10,zM 0 11,zC 199 [10,11] 12] (zq [zM 4 13,zC 173 [13] 14,zE 14 0 15,zE 14 1 16,zM 15 2,zM 16 3] .ret)))) [.tmp 2,.tmp 3] 17:=ki
def Ahk:Is prog f138 (zq [zV (.int .u32 0) 2] (zq [zM 0 3,zW (.un .xor (.tmp 3)) 4,zM 4 2] .ret)) [.tmp 2] 5:=ki
def Ahg:Is prog f142 (zq [zV zi 2] (zq [zV zi 3] (.seq (zq [zM 0 6,zU 6 7,zV zi 8] (.block 0 (.loop (zq [zB .lss 8 7 9] (.seq (.cond (.tmp 9) .skip (.exit 0)) (.seq (.block 1 (zq [zJ 4 6 8 10,zN 4 10 11,zX [zu,zu,.bool .false,zn] 5,zS 4 5 11] (.reg [zM 3 12,zF 3 5 13,zL 13 14,zU 14 15,zB .add 12 15 16,zM 16 3] []))) (.reg [zI .add 8 1 17,zM 17 8] []))))))) (zq [zM 3 18,zM 18 2] .ret)))) [.tmp 2] 19:=ki
def Ad0:Is prog f143 (zq [zV zf 4] (.seq (zq [zM 0 7,zU 7 8,zV zi 9] (.block 0 (.loop (zq [zB .lss 9 8 10] (.seq (.cond (.tmp 10) .skip (.exit 0)) (.seq (.block 1 (zq [zM 9 11,zJ 4 7 9 12,zN 4 12 13,zX [zu,zu,.bool .false,zn] 6,zM 11 5,zS 4 6 13] (zq [zM 1 14,zM 5 15,zN 4 6 16,zW (.call (.tmp 14) [.tmp 15,.tmp 16]) 17,zQ 17 18] (zc 18 (zq [zV zf 4] .ret))))) (.reg [zI .add 9 1 19,zM 19 9] []))))))) (zq [zV zt 4] .ret))) [.tmp 4] 20:=ki
def Ahe:Is prog f152 (zq [zV zf 2] (zq [zM 0 3,zR 202 [.tmp 3,.func 203] 4,zM 4 2] .ret)) [.tmp 2] 5:=ki
def y9:Is prog f154 (zq [zY 1 4,zV zf 5] (zq [zF 2 4 7,zL 7 8,zR 155 [.tmp 8,.func 156] 9,zM 9 6] (.seq (.reg [zM 6 10,zM 10 11,zT 11 (zN 3 4 12),zT 11 (zC 98 [12] 13),zA 11 13 14,zM 14 15,zT 15 (zF 0 2 16),zT 15 (zL 16 17),zT 15 (zF 1 2 18),zT 15 (zL 18 19),zT 15 (zM 0 20),(.some (15,.true),(.slice 3 (.tmp 19) none (.some (.tmp 20)) none,.some 21)),zT 15 (zN 3 4 22),zT 15 (zC 81 [17,21,22] 23),zA 15 23 24,zM 24 5] [(7,9),(7,12),(9,12)]) .ret))) [.tmp 5] 25:=ki
def Ahd:Is prog f156 (zq [zY 1 3,zV zf 4] (zq [zF 0 3 5,zL 5 6,zC 152 [6] 7,zM 7 4] .ret)) [.tmp 4] 8:=ki
def Ahc:Is prog f157 (zq [zY 0 1,zX [zu,zu,zn] 2] (zq [zV zn 3] (.seq (zq [zF 2 1 6,zL 6 7,zU 7 8,zV zi 9] (.block 0 (.loop (zq [zB .lss 9 8 10] (.seq (.cond (.tmp 10) .skip (.exit 0)) (.seq (.block 1 (zq [zJ 2 7 9 11,zN 2 11 12,zX [zn,zn] 5,zS 2 5 12] (.reg [zM 3 13,zN 2 5 14,zC 115 [14] 15,zW (.bsl 2 [.tmp 15]) 16,zP 2 48 13 16 17,zM 17 3] []))) (.reg [zI .add 9 1 18,zM 18 9] []))))))) (zq [zM 3 19,zF 2 1 20,zS 1 20 19] (zq [zN 3 1 21,zS 3 2 21] .ret))))) [.cell 2 (.some 3)] 22:=ki
def Ahb:Is prog f159 (zq [zV zi 2] (zq [zV zi 2] .ret)) [.tmp 2] 3:=ki
def Adq:Is prog f165 (zq [zY 0 2,zX [zn,zi,zi,zi] 4,zV zu 5] (zq [zF 1 2 9,zL 9 10,zM 10 6] (zq [zN 4 2 12,zC 166 [12] 13,zM 13 11,zE 11 0 14,zE 11 1 15,zX [zn,zi,zi,zi] 7,zS 4 7 14,zM 15 8] (.seq (zq [zM 8 16,zM 1 17,zB .gtr 16 17 18] (zc 18 (zq [zN 4 7 19,zM 6 20,zR 41 [.tmp 19,zk 2,.tmp 20] 21,zS 4 4 21,zV zu 5] .ret))) (zq [zN 4 7 22,zM 8 23,zS 4 4 22,zM 23 5] .ret))))) [.cell 4 (.some 4),.tmp 5] 24:=ki
def rJ:Is prog f166 (zq [zY 0 1,zX [zn,zi,zi,zi] 2,zV zu 3] (.seq (zq [zF 2 1 7,zF 0 7 8,zL 8 9,zI .neq 9 0 10] (zc 10 (zq [zN 4 1 11,zS 4 2 11,zV zu 3] .ret))) (zq [zF 0 1 13,zL 13 14,zF 1 1 15,zL 15 16,zW (.slice 1 (.tmp 14) (.some (.tmp 16)) none none) 17,zC 206 [17] 18,zM 18 12,zE 12 0 19,zE 12 1 20,zE 12 2 21,zX [zi,zi] 6,zM 19 4,zM 20 5,zS 2 6 21] (.seq (zq [zF 0 6 22,zL 22 23,zI .eql 23 0 24] (zc 24 (zq [zF 1 1 25,zL 25 26,zM 5 27,zB .add 26 27 28,zF 1 1 29,zS 1 29 28] (zq [zN 4 1 30,zM 4 31,zS 4 2 30,zM 31 3] .ret)))) (.seq (zq [zF 0 6 32,zL 32 33,zI .eql 33 1 34] (.cond (.tmp 34) (.reg [zF 0 1 35,zL 35 36,zU 36 37,zF 1 1 38,zS 1 38 37] []) (.reg [zF 1 1 39,zL 39 40,zF 1 6 41,zL 41 42,zB .add 40 42 43,zI .add 43 1 44,zF 1 1 45,zS 1 45 44] []))) (zq [zF 0 6 46,zL 46 47,zF 1 1 48,zL 48 49,zC 96 [47,49] 50,zF 2 1 51,zS 2 51 50] (.seq (zq [zF 0 6 52,zL 52 53,zI .neq 53 1 54] (zc 54 (.reg [zF 1 1 55,zL 55 56,zI .sub 56 1 57,zF 2 1 58,zF 1 58 59,zS 1 59 57] []))) (zq [zN 4 1 60,zS 4 2 60,zV zu 3] .ret)))))))) [.cell 2 (.some 4),.tmp 3] 61:=ki
def Ag8:Is prog f170 (zq [zV (.pointer none) 2] (zq [zM 0 3,zW (.mx .true (.tmp 3) (zk 0)) 4,zD [zi,zn,zi] [(0,(1,.tmp 4))] 5,zY 5 6,zM 6 2] .ret)) [.tmp 2] 7:=ki
def Ag7:Is prog f171 (zq [zV zi 0] (zq [zR 208 [.const (.int .u64 4611686018427387903)] 1,zW (.bin .mul (zk 2) (.tmp 1)) 2,zW (.bin .add (zk 5) (.tmp 2)) 3,zI .add 3 4 4,zM 4 0] .ret)) [.tmp 0] 5:=ki
def y6:Is prog f179 (zq [zV zu 2,zV zu 3] (.seq (zq [zM 0 4,zU 4 5,zI .eql 5 0 6,zM 6 7,zZ 7 (zM 0 8),zZ 7 (zC 110 [8] 9),(.some (7,.false),(.un .not (.tmp 9),.some 10)),zO 7 10 11] (zc 11 (zq [zV zu 2,zV zu 3] .ret))) (.seq (.reg [zM 0 12,zW (.iadr 3 (.tmp 12) (zk 0)) 13,zF 0 13 14,zL 14 15,zM 0 16,zM 0 17,zU 17 18,zI .sub 18 1 19,zJ 3 16 19 20,zN 3 20 21,zC 111 [21] 22,zM 15 2,zM 22 3] [(3,9),(3,10)]) .ret))) [.tmp 2,.tmp 3] 23:=ki
def Ag3:Is prog f186 (zq [zV zf 2] (zq [zM 0 3,zW (.bin .lss (.tmp 3) (.const (.int .u64 4611686018427387904))) 4,zM 4 2] .ret)) [.tmp 2] 5:=ki
def y4:Is prog f188 (.block 0 (zq [zM 0 14,zC 211 [14] 15,zI .neq 15 0 16,zM 16 13] (.cond (.tmp 13) .skip (zq [zM 1 18,zU 18 19,zM 0 20,zC 220 [20] 21,zB .gtr 19 21 22,zM 22 17] (.cond (.tmp 17) (.reg [zM 0 23,zR 210 [.tmp 23,zk 2] 24] []) (.reg [zM 0 4,zM 0 5,zH 5 6,zF 1 6 7,zL 7 8,zM 1 9,zP 1 1 8 9 10,zH 4 11,zF 1 11 12,zS 1 12 10] [])))))) [] 25:=ki
def Ca:Is prog f193 (zq [zY 0 1,zV zf 2] (zq [zF 1 1 5,zL 5 6,zI .geq 6 0 7,zM 7 8,zT 8 (zF 1 1 9),zT 8 (zL 9 10),zT 8 (zI .leq 10 16 11),zA 8 11 12,zM 12 13,zT 13 (zF 2 1 14),zT 13 (zL 14 15),zT 13 (zF 1 1 16),zT 13 (zL 16 17),zT 13 (zB .geq 15 17 18),zA 13 18 19,zM 19 20,zT 20 (zF 2 1 21),zT 20 (zL 21 22),zT 20 (zF 1 1 23),zT 20 (zL 23 24),zT 20 (zI .mul 24 16 25),zT 20 (zB .leq 22 25 26),zA 20 26 27,zM 27 3] (zq [zF 5 1 28,zL 28 29,zI .geq 29 1 30,zM 30 31,zT 31 (zF 5 1 32),zT 31 (zL 32 33),zT 31 (zI .leq 33 1099511627775 34),zA 31 34 35,zM 35 36,zT 36 (zF 6 1 37),zT 36 (zL 37 38),zT 36 (zI .geq 38 1 39),zA 36 39 40,zM 40 41,zT 41 (zF 6 1 42),zT 41 (zL 42 43),zT 41 (zI .leq 43 2097152 44),zA 41 44 45,zM 45 4] (zq [zF 0 1 46,zL 46 47,zC 97 [47] 48,zM 48 49,zT 49 (zM 3 50),zA 49 50 51,zM 51 52,zT 52 (zM 4 53),zA 52 53 54,zM 54 55,zT 55 (zN 7 1 56),zT 55 (zC 223 [56] 57),zA 55 57 58,zM 58 2] .ret)))) [.tmp 2] 59:=ki
def Agy:Is prog f195 (.reg [zM 0 6,zM 1 7,zM 2 8,zC 194 [7,8] 9,zC 188 [6,9] 10] []) [] 11:=ki
def yZ:Is prog f201 (zq [zV zn 6] (zq [zV zn 7] (.seq (zq [zM 0 10,zM 2 11,zC 75 [10,11] 12,zV zi 13] (.block 0 (.loop (zq [zB .lss 13 12 14] (.seq (.cond (.tmp 14) .skip (.exit 0)) (.seq (.block 1 (zq [zM 0 15,zC 62 [15] 16,zM 16 8] (zq [zM 0 17,zC 136 [17] 18,zM 18 9] (.seq (zq [zM 9 19,zM 1 20,zB .geq 19 20 21] (zc 21 (.reg [zM 0 22,zM 8 23,zR 50 [.tmp 22,zk 13,.tmp 23] 24] []))) (.seq (zq [zM 0 25,zC 52 [25] 26,zQ 26 27] (zc 27 (zq [zV zn 6] .ret))) (zq [zM 1 28,zM 9 29,zW (.bin .add (.tmp 29) (.const (.int .u64 1))) 30,zB .sub 28 30 31,zM 31 1] (.reg [zM 7 32,zM 1 33,zW (.bsl 1 [.tmp 33]) 34,zP 1 8 32 34 35,zM 35 7] []))))))) (.reg [zI .add 13 1 36,zM 36 13] []))))))) (zq [zM 7 37,zM 37 6] .ret)))) [.tmp 6] 38:=ki
def Agv:Is prog f203 (zq [zY 1 3,zV zf 4] (zq [zF 1 3 5,zL 5 6,zU 6 7,zI .leq 7 1 8,zM 8 4] .ret)) [.tmp 4] 9:=ki
def Adf:Is prog f204 (zq [zV zi 4,zV zf 5] (zq [zM 0 8,zC 48 [8] 9,zM 9 6] (zq [zM 6 10,zM 1 11,zC 147 [11] 12,zC 75 [10,12] 13,zM 13 7] (.seq (zq [zM 6 14,zC 52 [14] 15,zQ 15 16] (zc 16 (zq [zV zi 4,zV zf 5] .ret))) (zq [zM 7 17,zC 216 [17] 18,zM 18 4,zV zt 5] .ret))))) [.tmp 4,.tmp 5] 19:=ki
def yY:Is prog f207 (zq [zY 0 2,zV zf 4] (.seq (zq [zM 1 6,zU 6 7,zI .gtr 7 16 8,zM 8 9,zZ 9 (zM 1 10),(.some (9,.false),(.call (.func 231) [.tmp 10,.func 232],.some 11)),(.some (9,.false),(.un .not (.tmp 11),.some 12)),zO 9 12 13] (zc 13 (zq [zV zf 4] .ret))) (zq [zW (.mkf 233 [] [.tmp 2]) 14,zM 14 5] (zq [zM 1 15,zM 5 16,zC 235 [15,16] 17,zM 1 18,zU 18 19,zB .eql 17 19 20,zM 20 4] .ret)))) [.tmp 4] 21:=ki
def ZK:Is prog f209 (zq [zY 0 1,zV zf 2] (zq [zF 0 1 4,zL 4 5,zI .geq 5 1 6,zM 6 7,zT 7 (zF 0 1 8),zT 7 (zL 8 9),zT 7 (zI .leq 9 3 10),zA 7 10 11,zM 11 3] (zq [zM 3 12,zM 12 13,zT 13 (zF 1 1 14),zT 13 (zL 14 15),zT 13 (zC 97 [15] 16),zA 13 16 17,zM 17 18,zT 18 (zF 2 1 19),zT 18 (zL 19 20),zT 18 (zC 186 [20] 21),zA 18 21 22,zM 22 23,zT 23 (zF 0 1 24),zT 23 (zL 24 25),zT 23 (zC 117 [25] 26),zT 23 (zM 26 27),zZ 27 (zF 2 1 28),zZ 27 (zL 28 29),(.some (27,.false),(.bin .eql (.tmp 29) (.const (.int .u64 0)),.some 30)),(.some (23,.true),(.pick (.tmp 27) (.const (.bool .true)) (.tmp 30),.some 31)),zA 23 31 32,zM 32 2] .ret))) [.tmp 2] 33:=ki
def Agt:Is prog f211 (zq [zV zi 2] (.seq (zq [zM 0 3,zW (.eqp .false (.tmp 3) (.const (.pointer none))) 4] (zc 4 (zq [zV (.int .i64 19) 2] .ret))) (zq [zM 0 5,zH 5 6,zF 2 6 7,zL 7 8,zM 8 2] .ret))) [.tmp 2] 9:=ki
def Add:Is prog f212 (zq [zY 1 3,zV zi 4] (.seq (zq [zM 0 5,zN 2 3 6,zC 169 [5,6] 7,zQ 7 8] (zc 8 (zq [zV zi 4] .ret))) (.seq (.reg [zM 0 9,zF 0 3 10,zL 10 11,zC 236 [9,11] 12,zF 1 3 13,zL 13 14,zU 14 15,zK .u64 15 16,zC 208 [16] 17,zB .add 12 17 18,zM 18 4] [(2,5),(3,5)]) .ret))) [.tmp 4] 19:=ki
def Agp:Is prog f218 (zq [zV (.pointer none) 4] (.seq (zq [zM 0 6,zW (.eqp .false (.tmp 6) (.const (.pointer none))) 7] (zc 7 (zq [zV (.pointer none) 4] .ret))) (.seq (.reg [zM 0 8,zH 8 9,zF 1 9 10,zL 10 11,zM 1 12,zW (.mx .true (.tmp 12) (zk 0)) 13,zM 0 14,zC 141 [14] 15,zW (.mx .false (.tmp 13) (.tmp 15)) 16,zB .add 11 16 17,zM 17 5] [(3,7)]) (.seq (.reg [zM 0 18,zH 18 19,zF 0 19 20,zL 20 21,zM 5 22,zM 5 23,zW (.slice 1 (.tmp 21) none (.some (.tmp 22)) (.some (.tmp 23))) 24,zM 0 25,zH 25 26,zF 1 26 27,zL 27 28,zD [zn,zi,zi,zi] [(0,(1,.tmp 24)),(1,(1,.tmp 28))] 29,zY 29 30,zM 30 4] [(3,10)]) .ret)))) [.tmp 4] 31:=ki
def yV:Is prog f230 (zq [zV zf 2,zX [zi,zi] 3] (.seq (.block 0 (.seq (.reg [zM 0 5,zH 5 6,zF 1 6 7,zL 7 8,zU 8 9,zC 87 [] 10,zB .lss 9 10 11,zM 11 4] [(3,5)]) (.cond (.tmp 4) (zq [zD [zi,zi] [] 12,zV zf 2,zS 2 3 12] .ret) (.seq (.reg [zM 0 14,zH 14 15,zF 1 15 16,zL 16 17,zM 0 18,zH 18 19,zF 17 19 20,zL 20 21,zC 128 [21] 22,zC 127 [17,22] 23,zQ 23 24,zM 24 13] [(3,7),(3,8)]) (zc 13 (zq [zR 31 [zk 12,zk 0] 25,zV zf 2,zS 2 3 25] .ret)))))) (zq [zM 0 26,zH 26 27,zF 0 27 28,(none,(.store 1 (.tmp 28) (.func 240),none))] (zq [zD [zi,zi] [] 29,zV zt 2,zS 2 3 29] .ret)))) [.tmp 2,.cell 3 (.some 2)] 30:=ki
def Ac6:Is prog f233 (zq [zY 0 2,zV zf 3] (zq [zF 1 2 4,zL 4 5,zU 5 6,zI .gtr 6 4 7,zM 7 8,zZ 8 (zL 1 9),zZ 8 (zF 1 2 10),zZ 8 (zL 10 11),zZ 8 (zC 234 [9,11] 12),(.some (8,.false),(.un .not (.tmp 12),.some 13)),zO 8 13 14,zM 14 3] .ret)) [.tmp 3] 15:=ki
def Agj:Is prog f234 (zq [zV zf 4] (zq [zM 0 8,zM 1 9,zC 241 [8,9] 10,zM 10 7,zE 7 0 11,zE 7 1 12,zM 11 5,zM 12 6] (zq [zM 6 13,zM 13 4] .ret))) [.tmp 4] 14:=ki
def Ac5:Is prog f235 (zq [zV zi 4] (.seq (zq [zM 0 7,zU 7 8,zV zi 9] (.block 0 (.loop (zq [zB .lss 9 8 10] (.seq (.cond (.tmp 10) .skip (.exit 0)) (.seq (.block 1 (zq [zM 9 11,zJ 2 7 9 12,zN 2 12 13,zX [zu,zn] 6,zM 11 5,zS 2 6 13] (zq [zM 1 14,zN 2 6 15,zW (.call (.tmp 14) [.tmp 15]) 16] (zc 16 (zq [zM 5 17,zM 17 4] .ret))))) (.reg [zI .add 9 1 18,zM 18 9] []))))))) (zq [zM 0 19,zU 19 20,zM 20 4] .ret))) [.tmp 4] 21:=ki
def Ac0:Is prog f244 (zq [zM 1 11,zM 2 12,zC 241 [11,12] 13,zM 13 10,zE 10 0 14,zE 10 1 15,zM 14 6,zM 15 7] (.seq (zq [zM 7 16,zQ 16 17] (zc 17 (zq [zM 0 18,zR 210 [.tmp 18,zk 3] 19] .ret))) (zq [zM 0 20,zM 2 21,zU 21 22,zK .u64 22 23,zC 213 [20,23] 24] (zq [zM 6 25,zU 25 26,zV zi 27] (.block 0 (.loop (zq [zB .lss 27 26 28] (.seq (.cond (.tmp 28) .skip (.exit 0)) (.seq (.block 1 (zq [zJ 1 25 27 29,zL 29 30,zM 30 9] (.reg [zM 0 31,zM 9 32,zC 213 [31,32] 33] []))) (.reg [zI .add 27 1 34,zM 34 27] [])))))))))) [] 35:=ki
def yU:Is prog f247 (zq [zM 0 5,zL 1 6,zB .gtr 5 6 7] (zc 7 (.reg [zL 2 8,zW (.bsl 1 []) 9,zL 3 10,zL 1 11,zM 0 12,zW (.slice 1 (.tmp 10) (.some (.tmp 11)) (.some (.tmp 12)) none) 13,zP 1 1 9 13 14,zD [zn,zi,zi] [(0,(1,.tmp 14))] 15,zW (.bsl 3 [.tmp 15]) 16,zP 3 40 8 16 17,zS 1 2 17] [(0,2),(0,3),(2,3),(0,6)]))) [] 18:=ki
def Agd:Is prog f248 (zq [zV (.pointer none) 2] (zq [zW (.bsl 1 []) 3,zM 0 4,zP 1 1 3 4 5,zM 0 6,zC 252 [6] 7,zD [zn,.pointer none,zi] [(0,(1,.tmp 5)),(1,(1,.tmp 7))] 8,zY 8 9,zM 9 2] .ret)) [.tmp 2] 10:=ki
def jN:Is prog f255 (zq [zV zi 6] (.seq (zq [zM 1 8,zI .lss 8 0 9,zM 9 10,zZ 10 (zM 1 11),zZ 10 (zM 0 12),zZ 10 (zU 12 13),zZ 10 (zB .geq 11 13 14),zO 10 14 15,zM 15 16,zZ 16 (zM 2 17),zZ 16 (zI .lss 17 1 18),zO 16 18 19,zM 19 20,zZ 20 (zM 2 21),zZ 20 (zM 1 22),zZ 20 (zB .gtr 21 22 23),zO 20 23 24] (zc 24 (zq [zV zi 6] .ret))) (zq [zV zi 7] (.seq (.block 0 (.loop (.seq (.seq (.reg [zM 1 25,zM 7 26,zB .add 25 26 27,zM 0 28,zU 28 29,zB .lss 27 29 30,zM 30 31,zT 31 (zM 7 32),zT 31 (zI .lss 32 1048576 33),zA 31 33 34,zM 34 35,zT 35 (zM 0 36),zT 35 (zM 1 37),zT 35 (zM 7 38),zT 35 (zB .add 37 38 39),zT 35 (zJ 1 36 39 40),zT 35 (zL 40 41),zT 35 (zM 0 42),zT 35 (zM 1 43),zT 35 (zM 7 44),zT 35 (zB .add 43 44 45),zT 35 (zM 2 46),zT 35 (zB .sub 45 46 47),zT 35 (zJ 1 42 47 48),zT 35 (zL 48 49),zT 35 (zB .eql 41 49 50),zA 35 50 51] [(16,24)]) (.cond (.tmp 51) .skip (.exit 0))) (.block 1 (.reg [zM 7 52,zI .add 52 1 53,zM 53 7] []))))) (zq [zM 7 54,zM 54 6] .ret))))) [.tmp 6] 55:=ki
def Acw:Is prog f259 (zq [zV zf 2] (zq [zM 0 7,zC 258 [7] 8,zM 8 3] (.seq (zq [zM 0 9,zW (.eqp .false (.tmp 9) (.const (.pointer none))) 10,zM 10 11,zZ 11 (zM 3 12),zZ 11 (zM 0 13),(.some (11,.false),(.nilc (.tmp 13),.some 14)),zZ 11 (zF 0 14 15),zZ 11 (zL 15 16),zZ 11 (zU 16 17),zZ 11 (zB .geq 12 17 18),zO 11 18 19] (zc 19 (zq [zV zf 2] .ret))) (zq [zV zi 4] (.seq (zq [zM 0 21,zH 21 22,zF 0 22 23,zL 23 24,zM 3 25,zC 261 [24,25] 26,zM 26 20,zE 20 0 27,zE 20 1 28,zM 27 5,zM 28 6] (zq [zM 6 29] (zc 29 (zq [zM 0 30,zH 30 31,zF 1 31 32,zL 32 33,zM 5 34,zW (.mlook (.tmp 33) (.tmp 34)) 35,zM 35 4] (.reg [zM 0 36,zH 36 37,zF 1 37 38,zL 38 39,zM 5 40,zM 3 41,zI .add 41 1 42,(none,(.mput (.tmp 39) (.tmp 40) (.tmp 42),none))] []))))) (zq [zM 0 43,zM 0 44,zH 44 45,zF 2 45 46,zL 46 47,zM 4 48,zW (.bsl 1 [.tmp 48]) 49,zP 1 8 47 49 50,zH 43 51,zF 2 51 52,zS 1 52 50] (zq [zV zt 2] .ret))))))) [.tmp 2] 53:=ki
def Acv:Is prog f261 (zq [zV (.int .u32 0) 4,zV zf 5] (.seq (zq [zM 1 8,zI .lss 8 0 9,zM 9 10,zZ 10 (zM 1 11),zZ 10 (zM 0 12),zZ 10 (zU 12 13),zZ 10 (zI .sub 13 4 14),zZ 10 (zB .gtr 11 14 15),zO 10 15 16] (zc 16 (zq [zV (.int .u32 0) 4,zV zf 5] .ret))) (zq [zV (.int .u32 0) 6] (.seq (zq [zV zi 17] (.block 0 (.loop (zq [zI .lss 17 4 18] (.seq (.cond (.tmp 18) .skip (.exit 0)) (.seq (.block 1 (zq [zM 17 19,zM 19 7] (.reg [zM 6 20,zM 0 21,zM 1 22,zM 7 23,zB .add 22 23 24,zJ 1 21 24 25,zL 25 26,zK .u32 26 27,zM 7 28,zW (.bin .mul (zk 8) (.tmp 28)) 29,zB .shl 27 29 30,zB .or 20 30 31,zM 31 6] []))) (.reg [zI .add 17 1 32,zM 32 17] []))))))) (zq [zM 6 33,zM 33 4,zV zt 5] .ret))))) [.tmp 4,.tmp 5] 34:=ki
def b4:Is prog f4 (zq [zV zf 2] (.seq (zq [zV zi 3] (.block 0 (.loop (.seq (zq [zM 3 7,zM 0 8,zU 8 9,zB .lss 7 9 10,zM 10 11,zT 11 (zM 3 12),zT 11 (zI .lss 12 40 13),zA 11 13 14] (.cond (.tmp 14) .skip (.exit 0))) (.seq (.block 1 (zq [zM 3 17,zM 17 4] (.block 2 (.loop (.seq (zq [zM 4 18,zM 0 19,zU 19 20,zB .lss 18 20 21] (.cond (.tmp 21) .skip (.exit 2))) (.block 3 (zq [zM 0 23,zM 4 24,zW (.slice 1 (.tmp 23) (.some (.tmp 24)) none none) 25,zD [zn,zi,zi,zi] [(0,(1,.tmp 25))] 26,zR 16 [.tmp 26,zk 1500] 27,zM 27 22,zE 22 0 28,zE 22 1 29,zX [zn,zi,zi,zi] 5,zS 4 5 28,zM 29 6] (.seq (zq [zF 2 5 30,zF 0 30 31,zL 31 32,zI .neq 32 0 33] (zc 33 (.exit 2))) (.seq (zq [zM 6 34,zU 34 35,zI .gtr 35 1 36,zM 36 37,zT 37 (zM 6 38),(.some (37,.true),(.iadr 1 (.tmp 38) (zk 0),.some 39)),zT 37 (zL 39 40),(.some (37,.true),(.bin .eql (.tmp 40) (.const (.int .u8 1)),.some 41)),zA 37 41 42,zM 42 43,zT 43 (zM 6 44),(.some (43,.true),(.slice 1 (.tmp 44) (.some (zk 1)) none none,.some 45)),zT 43 (zC 17 [45] 46),zA 43 46 47] (zc 47 (zq [zV zt 2] .ret))) (.reg [zM 4 48,zF 1 5 49,zL 49 50,zB .add 48 50 51,zM 51 4] [])))))))))) (.reg [zM 3 15,zI .add 15 1 16,zM 16 3] [])))))) (zq [zV zf 2] .ret))) [.tmp 2] 52:=ki
def b8:Is prog f8 (zq [zX [zu,zn] 2,zV zi 3,zX [zi,zi] 4] (.scope (zq [zX [zu,zn] 5] (zq [zM 0 14,zC 24 [14] 15,zM 15 13,zE 13 0 16,zE 13 1 17,zX [zi,zi] 7,zM 16 6,zS 2 7 17] (zq [zV zi 8] (.seq (.label 0) (.seq (zq [zM 6 18] (.block 0 (zq [zI .eql 18 1 20,zM 20 19] (.cond (.tmp 19) (zq [zM 0 22,zC 25 [22] 23,zM 23 21,zE 21 0 24,zE 21 1 25,zX [zu,zu,zn] 9,zX [zi,zi] 10,zS 3 9 24,zS 2 10 25] (.seq (zq [zN 2 10 26,zS 2 7 26] (zq [zN 2 7 27,zC 26 [27] 28,zQ 28 29] (zc 29 (.exit 0)))) (.reg [zN 3 9 31,zC 27 [31] 32,zM 32 30,zE 30 0 33,zE 30 1 34,zS 2 5 33,zM 34 8] []))) (zq [zI .eql 18 2 36,zM 36 35] (.cond (.tmp 35) (zq [zM 0 38,zC 28 [38] 39,zM 39 37,zE 37 0 40,zE 37 1 41,zX [zu,zn] 11,zX [zi,zi] 12,zS 2 11 40,zS 2 12 41] (.seq (zq [zN 2 12 42,zS 2 7 42] (zq [zN 2 7 43,zC 26 [43] 44,zQ 44 45] (zc 45 (.exit 0)))) (.reg [zN 2 11 47,zC 29 [47] 48,zM 48 46,zE 46 0 49,zE 46 1 50,zS 2 5 49,zM 50 8] []))) (zq [zI .eql 18 3 52,zM 52 51] (zc 51 (.reg [zM 0 54,zC 6 [54] 55,zM 55 53,zE 53 0 56,zE 53 1 57,zS 2 5 56,zS 2 7 57] []))))))))) (.seq (.seq (.reg [zN 2 7 58,zM 8 59,zR 31 [.tmp 59,zk 0] 60,zW (.bsl 2 [.tmp 58,.tmp 60]) 61,zC 30 [61] 62,zS 2 7 62] [(0,2)]) (zq [zN 2 7 63,zC 26 [63] 64,zQ 64 65] (zc 65 (.seq (.reg [zD [zu,zn] [] 66,zN 2 7 67,zS 2 2 66,zV zi 3,zS 2 4 67] [(1,2)]) .ret)))) (.seq (.reg [zN 2 5 68,zM 6 69,zN 2 7 70,zS 2 2 68,zM 69 3,zS 2 4 70] [(0,2),(2,3)]) .ret))))))))) [.cell 2 (.some 2),.tmp 3,.cell 4 (.some 2)] 71:=ki
def b12:Is prog f12 (zq [zV zn 2] (.seq (zq [zM 0 4,zC 33 [4] 5,zQ 5 6] (zc 6 (zq [zV zn 2] .ret))) (zq [zM 0 7,zH 7 8,zF 3 8 9,zL 9 10,zD [zi,zi,zi,zi,zu,zu,zu,zi,zi,zn,zn,zn,zu,zu,zu,zu,zn,zu,zu,zn] [(0,(1,zk 3)),(1,(1,.tmp 10)),(2,(1,zk 1))] 11,zX [zi,zi,zi,zi,zu,zu,zu,zi,zi,zn,zn,zn,zu,zu,zu,zu,zn,zu,zu,zn] 3,zS 20 3 11] (.seq (zq [zM 0 12,zC 35 [12] 13] (zc 13 (.reg [zF 0 3 14,(none,(.store 1 (.tmp 14) (zk 2),none)),zF 2 3 15,(none,(.store 1 (.tmp 15) (zk 0),none))] []))) (zq [zM 0 16,zM 0 17,zF 0 3 18,zL 18 19,zH 16 20,zF 4 20 21,zS 1 21 19,zH 17 22,zF 1 22 23,(none,(.store 1 (.tmp 23) (.const (.slice none 0 0)),none))] (zq [zN 20 3 24,zW (.bsl 20 [.tmp 24]) 25,zM 25 2] .ret)))))) [.tmp 2] 26:=ki
def b14:Is prog f14 (zq [zV zn 2] (zq [zC 9 [] 5,zM 5 3] (zq [zM 3 6,zM 0 7,zC 11 [6,7] 8,zM 8 4] (zq [zM 4 9,zM 3 10,zC 12 [10] 11,zP 20 240 9 11 12,zM 12 2] .ret)))) [.tmp 2] 13:=ki
def b21:Is prog f21 (zq [zX [zu,zu,zn] 2,zV zf 3] (zq [zM 0 4,zC 22 [4] 5,zS 3 2 5,zV zt 3] .ret)) [.cell 2 (.some 3),.tmp 3] 6:=ki
def b23:Is prog f23 (zq [zY 0 1,zX [zu,zu,zn] 2,zV zf 3] (zq [zX [.bool .false] 4,(none,(.store 1 (.tmp 4) (.const (.bool .false)),none))] (zq [zL 1 6,zW (.mkf 58 [] [.tmp 1,.tmp 4]) 7,zC 55 [6,7] 8,zX [zu,zu,zn] 5,zS 3 5 8] (.seq (.reg [zN 3 5 9,zL 4 10,zM 10 11,zT 11 (zL 1 12),zT 11 (zC 52 [12] 13),zA 11 13 14,zS 3 2 9,zM 14 3] [(0,1),(0,3),(0,4)]) .ret)))) [.cell 2 (.some 3),.tmp 3] 15:=ki
def b24:Is prog f24 (zq [zV zi 2,zX [zi,zi] 3] (zq [zM 0 7,zC 48 [7] 8,zM 8 4] (zq [zM 4 9,zC 60 [9] 10,zM 10 5] (.seq (zq [zM 4 11,zC 54 [11] 12,zX [zi,zi] 6,zS 2 6 12] (zq [zN 2 6 13,zC 26 [13] 14,zQ 14 15] (zc 15 (zq [zN 2 6 16,zV zi 2,zS 2 3 16] .ret)))) (zq [zM 5 17,zD [zi,zi] [] 18,zM 17 2,zS 2 3 18] .ret))))) [.tmp 2,.cell 3 (.some 2)] 19:=ki
def b26:Is prog f26 (zq [zY 0 1,zV zf 2] (zq [zF 0 1 3,zL 3 4,zI .eql 4 0 5,zM 5 2] .ret)) [.tmp 2] 6:=ki
def b34:Is prog f34 (zq [zM 0 6,zM 0 7,zH 7 8,zF 1 8 9,zL 9 10,zM 1 11,zW (.bsl 1 [.tmp 11]) 12,zP 1 1 10 12 13,zH 6 14,zF 1 14 15,zS 1 15 13] (zq [zM 0 16,zH 16 17,zF 3 17 18,zL 18 19,zI .add 19 1 20,zH 16 21,zF 3 21 22,zS 1 22 20] (zq [zM 0 24,zH 24 25,zF 0 25 26,zL 26 27,zM 0 28,zW (.call (.tmp 27) [.tmp 28]) 29,zM 29 23,zE 23 0 30,zE 23 1 31,zX [zi,zi] 5,zM 30 4,zS 2 5 31] (.block 0 (zq [zN 2 5 33,zC 26 [33] 34,zQ 34 35,zM 35 32] (.cond (.tmp 32) (.seq (.reg [zN 2 5 36,zM 0 37,zH 37 38,zF 2 38 39,zL 39 40,zC 80 [36,40] 41,zS 2 5 41] [(0,4)]) (.seq (.reg [zM 0 42,zM 0 43,zH 43 44,zF 18 44 45,zL 45 46,zF 1 5 47,zL 47 48,zF 0 5 49,zL 49 50,zD [zi,zi,zi,zi,zu,zu,zu,zi,zi,zn,zn,zn,zu,zu,zu,zu,zn,zu,zu,zn] [(0,(1,zk 4)),(1,(1,.tmp 48)),(2,(1,.tmp 50))] 51,zW (.bsl 20 [.tmp 51]) 52,zP 20 240 46 52 53,zH 42 54,zF 18 54 55,zS 1 55 53] [(4,6),(4,8),(6,8)]) (.reg [zM 0 56,zM 0 57,zH 56 58,zF 4 58 59,(none,(.store 1 (.tmp 59) (zk 4),none)),zH 57 60,zF 1 60 61,(none,(.store 1 (.tmp 61) (.const (.slice none 0 0)),none))] []))) (zq [zM 4 63,zM 63 62] (zc 62 (.reg [zM 0 64,zM 0 65,zM 0 66,zH 66 67,zF 3 67 68,zL 68 69,zH 64 70,zF 2 70 71,zS 1 71 69,zH 65 72,zF 1 72 73,(none,(.store 1 (.tmp 73) (.const (.slice none 0 0)),none))] []))))))))) [] 74:=ki
def b37:Is prog f37 (zq [zY 0 2,zY 1 3,zV zf 4] (zq [zF 0 2 5,zL 5 6,zF 0 3 7,zL 7 8,zB .eql 6 8 9,zM 9 10,zT 10 (zF 1 2 11),zT 10 (zL 11 12),zT 10 (zF 1 3 13),zT 10 (zL 13 14),zT 10 (zB .eql 12 14 15),zA 10 15 16,zM 16 17,zT 17 (zF 2 2 18),zT 17 (zL 18 19),zT 17 (zF 2 3 20),zT 17 (zL 20 21),zT 17 (zC 92 [19,21] 22),zA 17 22 23,zM 23 4] .ret)) [.tmp 4] 24:=ki
def b44:Is prog f44 (zq [zX [zu,zi,zi,zu,zu,zi,zi,zi,zn] 2,zX [zi,zi] 3] (zq [zM 0 11,zC 106 [11] 12,zM 12 10,zE 10 0 13,zE 10 1 14,zE 10 2 15,zX [zu,zi,zi,zu,zu,zi,zi] 4,zX [zi,zi] 6,zS 7 4 13,zM 14 5,zS 2 6 15] (.seq (zq [zN 2 6 16,zC 26 [16] 17,zQ 17 18] (zc 18 (.seq (.reg [zD [zu,zi,zi,zu,zu,zi,zi,zi,zn] [] 19,zN 2 6 20,zS 9 2 19,zS 2 3 20] [(1,2)]) .ret))) (zq [zF 5 4 21,zL 21 22,zF 6 4 23,zL 23 24,zB .add 22 24 25,zM 25 7] (.seq (zq [zM 7 26,zM 5 27,zB .gtr 26 27 28] (zc 28 (zq [zD [zu,zi,zi,zu,zu,zi,zi,zi,zn] [] 29,zM 5 30,zR 31 [zk 3,.tmp 30] 31,zS 9 2 29,zS 2 3 31] .ret))) (zq [zM 0 33,zF 5 4 34,zL 34 35,zM 7 36,zW (.slice 1 (.tmp 33) (.some (.tmp 35)) (.some (.tmp 36)) none) 37,zR 107 [.tmp 37,.const (.int .u8 2),.func 108] 38,zM 38 32,zE 32 0 39,zE 32 1 40,zE 32 2 41,zM 39 8,zM 40 9,zS 2 6 41] (.seq (.block 0 (zq [zN 2 6 43,zC 26 [43] 44,zQ 44 45,zM 45 42] (.cond (.tmp 42) .skip (zq [zM 9 47,zF 6 4 48,zL 48 49,zB .lss 47 49 50,zM 50 46] (.cond (.tmp 46) (.reg [zM 9 51,zR 31 [zk 9,.tmp 51] 52,zS 2 6 52] []) (zq [zN 7 4 54,zM 8 55,zC 109 [54,55] 56,zQ 56 57,zM 57 53] (zc 53 (.reg [zR 31 [zk 12,zk 0] 58,zS 2 6 58] [])))))))) (.seq (zq [zN 2 6 59,zC 26 [59] 60,zQ 60 61] (zc 61 (zq [zD [zu,zi,zi,zu,zu,zi,zi,zi,zn] [] 62,zN 2 6 63,zF 5 4 64,zL 64 65,zC 80 [63,65] 66,zS 9 2 62,zS 2 3 66] .ret))) (zq [zN 7 4 67,zM 5 68,zM 8 69,zD [zu,zi,zi,zu,zu,zi,zi,zi,zn] [(0,(7,.tmp 67)),(7,(1,.tmp 68)),(8,(1,.tmp 69))] 70,zD [zi,zi] [] 71,zS 9 2 70,zS 2 3 71] .ret))))))))) [.cell 2 (.some 9),.cell 3 (.some 2)] 72:=ki
def b45:Is prog f45 (zq [zX [zu,zi,zi] 4,zV zf 5] (.scope (zq [zM 0 10,zU 10 11,zV zi 6,zM 11 7,zV zi 8] (.seq (zq [zM 0 12,zC 110 [12] 13,zQ 13 14] (zc 14 (zq [zD [zu,zi,zi] [] 15,zS 3 4 15,zV zf 5] .ret))) (.seq (.label 0) (.seq (zq [zM 6 16,zM 7 17,zB .eql 16 17 18] (zc 18 (zq [zD [zu,zi,zi] [] 19,zS 3 4 19,zV zf 5] .ret))) (zq [zM 6 20,zM 7 21,zB .add 20 21 22,zI .quo 22 2 23,zM 23 8] (.seq (zq [zM 0 24,zM 8 25,zJ 3 24 25 26,zN 3 26 27,zX [zu,zi,zi] 9,zS 3 9 27] (.block 0 (zq [zM 1 30,zF 0 9 31,zL 31 32,zB .lss 30 32 33,zM 33 29] (.cond (.tmp 29) (.reg [zM 8 34,zM 34 7] []) (zq [zM 1 36,zN 3 9 37,zC 111 [37] 38,zB .geq 36 38 39,zM 39 35] (.cond (.tmp 35) (.reg [zM 8 40,zI .add 40 1 41,zM 41 6] []) (zq [zN 3 9 28,zS 3 4 28,zV zt 5] .ret))))))) (.goto 0))))))))) [.cell 4 (.some 3),.tmp 5] 42:=ki
def b49:Is prog f49 (zq [zX [zi,zu,zu] 2] (zq [zM 0 6,zC 60 [6] 7,zD [zi,zu,zu] [(0,(1,.tmp 7))] 8,zX [zi,zu,zu] 3,zS 3 3 8] (zq [zM 0 9,zC 116 [9] 10,zF 1 3 11,zS 1 11 10] (.seq (zq [zF 0 3 12,zL 12 13,zC 117 [13] 14] (zc 14 (.reg [zM 0 15,zC 118 [15] 16,zF 2 3 17,zS 1 17 16] []))) (zq [zM 0 18,zC 62 [18] 19,zM 19 4] (zq [zM 0 20,zR 68 [.tmp 20,zk 4] 21,zM 21 5] (.seq (zq [zM 0 22,zC 52 [22] 23,zQ 23 24] (zc 24 (zq [zD [zi,zu,zu] [] 25,zS 3 2 25] .ret))) (.seq (zq [zM 5 26,zN 3 3 27,zC 119 [27] 28,zC 69 [28] 29,zK .u64 29 30,zB .neq 26 30 31] (zc 31 (zq [zM 0 32,zM 4 33,zR 50 [.tmp 32,zk 6,.tmp 33] 34] (zq [zD [zi,zu,zu] [] 35,zS 3 2 35] .ret)))) (zq [zN 3 3 36,zS 3 2 36] .ret))))))))) [.cell 2 (.some 3)] 37:=ki
def b53:Is prog f53 (.seq (.reg [zM 0 8,zH 8 9,zF 1 9 10,zF 0 10 11,zL 11 12,zM 0 13,zH 13 14,zF 3 14 15,zL 15 16,zM 0 17,zH 17 18,zF 5 18 19,zL 19 20,zM 0 21,zH 21 22,zF 0 22 23,zL 23 24,zC 62 [24] 25,zM 0 26,zH 26 27,zF 5 27 28,zL 28 29,zB .sub 25 29 30,zC 104 [12,16,20,30] 31,zX [zu,zi,zi,zu,zu,zi,zi] 2,zS 7 2 31] [(4,8),(4,12),(8,12),(4,16),(8,16),(12,16),(4,17),(8,17),(12,17),(4,21),(8,21),(12,21),(16,21),(17,21),(4,24),(8,24),(12,24),(16,24),(17,24),(21,24),(23,24)]) (zq [zM 0 33,zC 120 [33] 34,zM 34 32,zE 32 0 35,zE 32 1 36,zM 35 3,zM 36 4] (.seq (zq [zM 0 37,zH 37 38,zF 0 38 39,zL 39 40,zC 52 [40] 41,zQ 41 42] (zc 42 .ret)) (zq [zM 3 44,zC 125 [44] 45,zM 45 43,zE 43 0 46,zE 43 1 47,zX [zu,zi,zi,zu,zu,zi,zi] 5,zX [zi,zi] 6,zS 7 5 46,zS 2 6 47] (zq [zM 0 48,zN 2 6 49,zM 4 50,zC 124 [48,49,50] 51] (.seq (zq [zN 7 5 52,zN 7 2 53,zW (.eqa .true 7 (.tmp 52) (.tmp 53)) 54] (zc 54 (.reg [zM 0 55,zH 55 56,zF 0 56 57,zL 57 58,zM 0 59,zH 59 60,zF 5 60 61,zL 61 62,zR 50 [.tmp 58,zk 12,.tmp 62] 63] [(3,7)]))) (zq [zM 0 64,zH 64 65,zF 0 65 66,zL 66 67,zC 62 [67] 68,zM 68 4] (.seq (.seq (.reg [zM 0 69,zH 69 70,zF 0 70 71,zL 71 72,zC 87 [] 73,zC 126 [72,73] 74,zM 74 7] [(3,4)]) (zq [zM 7 75,zM 4 76,zM 0 77,zH 77 78,zF 5 78 79,zL 79 80,zB .sub 76 80 81,zC 128 [81] 82,zC 127 [75,82] 83,zQ 83 84] (zc 84 (.reg [zM 0 85,zH 85 86,zF 0 86 87,zL 87 88,zM 4 89,zR 50 [.tmp 88,zk 12,.tmp 89] 90] [])))) (.reg [zM 0 91,zH 91 92,zF 0 92 93,zL 93 94,zC 70 [94] 95] []))))))))) [] 96:=ki
def b59:Is prog f59 (zq [zV zn 4,zV zf 5] (zq [zM 0 12,zC 62 [12] 13,zM 13 6] (zq [zM 0 14,zM 1 15,zW (.mx .false (.tmp 15) (zk 1048576)) 16,zC 75 [14,16] 17,zM 17 7] (zq [zM 0 18,zC 121 [18] 19,zM 19 8] (zq [zV zn 9] (.seq (.block 0 (zq [zM 0 26,zC 52 [26] 27,zQ 27 28,zM 28 25] (.cond (.tmp 25) (zq [zV zn 4,zV zf 5] .ret) (zq [zM 8 30,zW (.bin .eql (.tmp 30) (.const (.int .u8 0))) 31,zM 31 29] (.cond (.tmp 29) (.reg [zM 0 32,zM 7 33,zC 126 [32,33] 34,zM 34 9] []) (zq [zM 8 36,zW (.bin .eql (.tmp 36) (.const (.int .u8 1))) 37,zM 37 35] (.cond (.tmp 35) (.reg [zM 0 38,zM 7 39,zC 133 [38,39] 40,zM 40 9] []) (.reg [zM 0 20,zM 0 21,zC 62 [21] 22,zI .sub 22 1 23,zR 50 [.tmp 20,zk 7,.tmp 23] 24] [])))))))) (.seq (zq [zM 0 41,zC 52 [41] 42,zQ 42 43] (zc 43 (zq [zV zn 4,zV zf 5] .ret))) (zq [zM 9 45,zC 134 [45] 46,zM 46 44,zE 44 0 47,zE 44 1 48,zM 47 10,zM 48 11] (zq [zM 9 49,zM 10 50,zM 0 51,zM 6 52,zC 67 [51,52] 53,zC 127 [50,53] 54,zM 49 4,zM 54 5] .ret))))))))) [.tmp 4,.tmp 5] 55:=ki
def yS:Is prog f60 (zq [zV zi 2] (zq [zM 0 5,zC 62 [5] 6,zM 6 3] (.seq (zq [zM 0 7,zR 126 [.tmp 7,zk 4] 8,zW (.b2s (.tmp 8)) 9,zW (.bin .neq (.tmp 9) (.const (.string (.mk (#[84,72,79,76]))))) 10] (zc 10 (.reg [zM 0 11,zM 3 12,zR 50 [.tmp 11,zk 14,.tmp 12] 13] []))) (zq [zM 0 14,zC 121 [14] 15,zK .i64 15 16,zM 16 4] (.seq (zq [zM 4 17,zI .lss 17 1 18,zM 18 19,zZ 19 (zM 4 20),zZ 19 (zI .gtr 20 3 21),zO 19 21 22] (zc 22 (.reg [zM 0 23,zM 0 24,zC 62 [24] 25,zI .sub 25 1 26,zR 50 [.tmp 23,zk 8,.tmp 26] 27] []))) (.seq (zq [zM 0 28,zC 52 [28] 29,zQ 29 30] (zc 30 (zq [zV zi 2] .ret))) (zq [zM 4 31,zM 31 2] .ret))))))) [.tmp 2] 32:=ki
def b62:Is prog f62 (zq [zV zi 2] (.seq (zq [zM 0 3,zW (.eqp .false (.tmp 3) (.const (.pointer none))) 4] (zc 4 (zq [zV zi 2] .ret))) (zq [zM 0 5,zH 5 6,zF 1 6 7,zL 7 8,zM 8 2] .ret))) [.tmp 2] 9:=ki
def b66:Is prog f66 (zq [zX [zu,zu,.bool .false,zn] 6] (zq [zM 0 10,zC 136 [10] 11,zD [zu,zu,.bool .false,zn] [(0,(1,.tmp 11))] 12,zX [zu,zu,.bool .false,zn] 7,zS 4 7 12] (zq [zM 0 13,zC 62 [13] 14,zM 14 8] (zq [zM 0 15,zC 136 [15] 16,zM 16 9] (.seq (zq [zM 9 17,zM 1 18,zB .gtr 17 18 19] (zc 19 (.reg [zM 0 20,zM 8 21,zR 50 [.tmp 20,zk 3,.tmp 21] 22] []))) (.seq (zq [zM 9 23,zW (.bin .gtr (.tmp 23) (.const (.int .u64 0))) 24,zM 24 25,zT 25 (zM 0 26),zT 25 (zC 52 [26] 27),zA 25 27 28] (zc 28 (.reg [zM 1 29,zM 9 30,zB .sub 29 30 31,zF 2 7 32,(none,(.store 1 (.tmp 32) (.const (.bool .true)),none)),zF 1 7 33,zS 1 33 31] []))) (zq [zM 0 34,zM 2 35,zC 137 [34,35] 36,zF 3 7 37,zS 1 37 36] (zq [zN 4 7 38,zS 4 6 38] .ret)))))))) [.cell 6 (.some 4)] 39:=ki
def b67:Is prog f67 (zq [zV zn 4] (.seq (zq [zM 0 5,zW (.eqp .false (.tmp 5) (.const (.pointer none))) 6,zM 6 7,zZ 7 (zM 1 8),zZ 7 (zI .lss 8 0 9),zO 7 9 10,zM 10 11,zZ 11 (zM 1 12),zZ 11 (zM 0 13),(.some (11,.false),(.nilc (.tmp 13),.some 14)),zZ 11 (zF 1 14 15),zZ 11 (zL 15 16),zZ 11 (zB .gtr 12 16 17),zO 11 17 18] (zc 18 (zq [zV zn 4] .ret))) (.seq (.reg [zW (.bsl 1 []) 19,zM 0 20,zH 20 21,zF 0 21 22,zL 22 23,zM 1 24,zM 0 25,zH 25 26,zF 1 26 27,zL 27 28,zW (.slice 1 (.tmp 23) (.some (.tmp 24)) (.some (.tmp 28)) none) 29,zP 1 1 19 29 30,zM 30 4] [(4,9)]) .ret))) [.tmp 4] 31:=ki
def b72:Is prog f72 (zq [zY 0 1,zV zf 2] (.seq (zq [zF 0 1 3,zL 3 4,zC 97 [4] 5,zQ 5 6,zM 6 7,zZ 7 (zF 2 1 8),zZ 7 (zL 8 9),zZ 7 (zU 9 10),zZ 7 (zI .gtr 10 400 11),zO 7 11 12,zM 12 13,zZ 13 (zF 1 1 14),zZ 13 (zL 14 15),zZ 13 (zF 2 1 16),zZ 13 (zL 16 17),zZ 13 (zU 17 18),zZ 13 (zC 135 [15,18] 19),(.some (13,.false),(.un .not (.tmp 19),.some 20)),zO 13 20 21,zM 21 22,zZ 22 (zF 2 1 23),zZ 22 (zL 23 24),zZ 22 (zC 142 [24] 25),zZ 22 (zI .gtr 25 1048576 26),zO 22 26 27] (zc 27 (zq [zV zf 2] .ret))) (zq [zF 2 1 28,zL 28 29,zW (.mkf 144 [] [.tmp 1]) 30,zC 143 [29,30] 31,zM 31 2] .ret))) [.tmp 2] 32:=ki
def b80:Is prog f80 (zq [zY 0 2,zX [zi,zi] 4] (zq [zF 0 2 5,zL 5 6,zF 1 2 7,zL 7 8,zM 1 9,zB .add 8 9 10,zC 31 [6,10] 11,zS 2 4 11] .ret)) [.cell 4 (.some 2)] 12:=ki
def b84:Is prog f84 (zq [zY 0 1,zX [zu,zn] 2] (zq [zV zn 3] (.seq (zq [zF 1 1 6,zL 6 7,zU 7 8,zV zi 9] (.block 0 (.loop (zq [zB .lss 9 8 10] (.seq (.cond (.tmp 10) .skip (.exit 0)) (.seq (.block 1 (zq [zJ 3 7 9 11,zN 3 11 12,zX [zu,zu,zn] 5,zS 3 5 12] (.reg [zM 3 13,zN 3 5 14,zC 157 [14] 15,zW (.bsl 3 [.tmp 15]) 16,zP 3 40 13 16 17,zM 17 3] []))) (.reg [zI .add 9 1 18,zM 18 9] []))))))) (zq [zM 3 19,zF 1 1 20,zS 1 20 19] (zq [zN 2 1 21,zS 2 2 21] .ret))))) [.cell 2 (.some 2)] 22:=ki
def b86:Is prog f86 (zq [zV zf 2,zX [zi,zi] 3] (zq [zM 0 13,zC 158 [13] 14,zM 14 12,zE 12 0 15,zE 12 1 16,zE 12 2 17,zE 12 3 18,zX [zi,zi] 7,zM 15 4,zM 16 5,zM 17 6,zS 2 7 18] (.seq (zq [zM 6 19,zQ 19 20] (zc 20 (zq [zN 2 7 21,zV zf 2,zS 2 3 21] .ret))) (zq [zM 4 22,zC 48 [22] 23,zM 23 8] (zq [zW (.mov (.func 159)) 9] (.seq (zq [zM 8 24,zC 121 [24] 25] (.block 0 (zq [zW (.bin .eql (.tmp 25) (.const (.int .u8 1))) 29,zM 29 28] (.cond (.tmp 28) (.reg [zM 0 30,zW (.mkf 160 [.tmp 30] []) 31,zM 31 9] []) (zq [zW (.bin .eql (.tmp 25) (.const (.int .u8 2))) 33,zM 33 32] (.cond (.tmp 32) (.reg [zM 0 34,zW (.mkf 161 [.tmp 34] []) 35,zM 35 9] []) (.reg [zM 8 26,zR 50 [.tmp 26,zk 7,zk 0] 27] []))))))) (zq [zM 9 36,zM 8 37,zW (.call (.tmp 36) [.tmp 37]) 38,zM 38 10] (.seq (zq [zM 8 39,zC 54 [39] 40,zM 5 41,zC 80 [40,41] 42,zX [zi,zi] 11,zS 2 11 42] (zq [zN 2 11 43,zC 26 [43] 44,zQ 44 45] (zc 45 (zq [zN 2 11 46,zV zf 2,zS 2 3 46] .ret)))) (zq [zM 10 47,zI .eql 47 0 48,zM 10 49,zR 31 [.tmp 49,zk 0] 50,zM 48 2,zS 2 3 50] .ret))))))))) [.tmp 2,.cell 3 (.some 2)] 51:=ki
def b88:Is prog f88 (zq [zV zf 4] (.seq (zq [zM 0 6,zU 6 7,zM 1 8,zU 8 9,zB .neq 7 9 10] (zc 10 (zq [zV zf 4] .ret))) (.seq (zq [zV zi 5] (.block 0 (.loop (.seq (zq [zM 5 11,zM 0 12,zU 12 13,zB .lss 11 13 14] (.cond (.tmp 14) .skip (.exit 0))) (.seq (.block 1 (.seq (.reg [zM 0 17,zM 5 18,zJ 1 17 18 19,zL 19 20,zM 1 21,zM 5 22,zJ 1 21 22 23,zL 23 24,zB .neq 20 24 25] [(3,7)]) (zc 25 (zq [zV zf 4] .ret)))) (.reg [zM 5 15,zI .add 15 1 16,zM 16 5] [])))))) (zq [zV zt 4] .ret)))) [.tmp 4] 26:=ki
def b90:Is prog f90 (zq [zV zf 4] (zq [zM 0 5,zW (.b2s (.tmp 5)) 6,zM 1 7,zW (.b2s (.tmp 7)) 8,zB .eql 6 8 9,zM 9 4] .ret)) [.tmp 4] 10:=ki
def b92:Is prog f92 (zq [zV zf 4] (.seq (zq [zM 0 6,zU 6 7,zM 1 8,zU 8 9,zB .neq 7 9 10] (zc 10 (zq [zV zf 4] .ret))) (.seq (zq [zV zi 5] (.block 0 (.loop (.seq (zq [zM 5 11,zM 0 12,zU 12 13,zB .lss 11 13 14] (.cond (.tmp 14) .skip (.exit 0))) (.seq (.block 1 (.seq (.reg [zM 0 17,zM 5 18,zJ 2 17 18 19,zN 2 19 20,zM 1 21,zM 5 22,zJ 2 21 22 23,zN 2 23 24,zC 164 [20,24] 25,zQ 25 26] [(3,7)]) (zc 26 (zq [zV zf 4] .ret)))) (.reg [zM 5 15,zI .add 15 1 16,zM 16 5] [])))))) (zq [zV zt 4] .ret)))) [.tmp 4] 27:=ki
def b94:Is prog f94 (zq [zY 0 2,zX [zn,zi,zi,zi] 4,zV zn 5] (.seq (zq [zF 2 2 7,zF 0 7 8,zL 8 9,zI .neq 9 0 10] (zc 10 (zq [zN 4 2 11,zS 4 4 11,zV zn 5] .ret))) (.seq (zq [zM 1 12,zI .lss 12 0 13] (zc 13 (zq [zN 4 2 14,zF 1 2 15,zL 15 16,zR 41 [.tmp 14,zk 17,.tmp 16] 17,zS 4 4 17,zV zn 5] .ret))) (.seq (zq [zM 1 18,zF 0 2 19,zL 19 20,zU 20 21,zF 1 2 22,zL 22 23,zB .sub 21 23 24,zB .gtr 18 24 25] (zc 25 (zq [zN 4 2 26,zF 0 2 27,zL 27 28,zU 28 29,zR 41 [.tmp 26,zk 1,.tmp 29] 30,zS 4 4 30,zV zn 5] .ret))) (zq [zV zn 6] (zq [zM 6 31,zF 0 2 32,zL 32 33,zF 1 2 34,zL 34 35,zF 1 2 36,zL 36 37,zM 1 38,zB .add 37 38 39,zW (.slice 1 (.tmp 33) (.some (.tmp 35)) (.some (.tmp 39)) none) 40,zP 1 1 31 40 41,zM 41 6] (zq [zF 1 2 42,zL 42 43,zM 1 44,zB .add 43 44 45,zF 1 2 46,zS 1 46 45] (zq [zN 4 2 47,zM 6 48,zS 4 4 47,zM 48 5] .ret)))))))) [.cell 4 (.some 4),.tmp 5] 49:=ki
def b95:Is prog f95 (zq [zV (.int .u32 0) 4] (.seq (zq [zV zi 5] (.block 0 (.loop (.seq (zq [zM 5 6,zM 1 7,zU 7 8,zB .lss 6 8 9] (.cond (.tmp 9) .skip (.exit 0))) (.seq (.block 1 (.reg [zM 0 12,zM 1 13,zM 5 14,zJ 1 13 14 15,zL 15 16,zC 167 [12,16] 17,zM 17 0] [])) (.reg [zM 5 10,zI .add 10 1 11,zM 11 5] [])))))) (zq [zM 0 18,zM 18 4] .ret))) [.tmp 4] 19:=ki
def Ahz:Is prog f100 (zq [zY 0 1,zV zn 2,zV zi 3] (zq [zC 171 [] 5,zC 170 [5] 6,zM 6 4] (zq [zM 4 7,zN 3 1 8,zC 172 [7,8] 9] (zq [zM 4 10,zC 173 [10] 11,zE 11 0 12,zE 11 1 13,zM 12 2,zM 13 3] .ret)))) [.tmp 2,.tmp 3] 14:=ki
def rN:Is prog f108 (zq [zV zn 2] (zq [zV zn 3] (zq [zV zu 4] (zq [zV zi 5] (.seq (zq [zM 0 10,zR 75 [.tmp 10,zk 16] 11,zV zi 12] (.block 0 (.loop (zq [zB .lss 12 11 13] (.seq (.cond (.tmp 13) .skip (.exit 0)) (.seq (.block 1 (zq [zM 0 14,zC 62 [14] 15,zM 15 6] (zq [zM 0 16,zC 136 [16] 17,zM 17 7] (zq [zM 0 18,zR 75 [.tmp 18,zk 16] 19,zM 19 8] (zq [zM 4 20,zM 7 21,zB .add 20 21 22,zM 8 23,zM 5 24,zI .add 24 1 25,zM 0 26,zR 75 [.tmp 26,zk 1099511627775] 27,zB .add 25 27 28,zD [zu,zi,zi] [(0,(1,.tmp 22)),(1,(1,.tmp 23)),(2,(1,.tmp 28))] 29,zX [zu,zi,zi] 9,zS 3 9 29] (.seq (zq [zM 7 30,zW (.bin .geq (.tmp 30) (.const (.int .u64 4611686018427387904))) 31,zM 31 32,zZ 32 (zN 3 9 33),zZ 32 (zM 4 34),zZ 32 (zM 5 35),zZ 32 (zC 183 [33,34,35] 36),(.some (32,.false),(.un .not (.tmp 36),.some 37)),zO 32 37 38] (zc 38 (.reg [zM 0 39,zM 6 40,zR 50 [.tmp 39,zk 3,.tmp 40] 41] []))) (.seq (zq [zM 0 42,zC 52 [42] 43,zQ 43 44] (zc 44 (zq [zV zn 2] .ret))) (zq [zM 3 45,zN 3 9 46,zW (.bsl 3 [.tmp 46]) 47,zP 3 24 45 47 48,zM 48 3] (.reg [zN 3 9 49,zC 111 [49] 50,zF 2 9 51,zL 51 52,zM 50 4,zM 52 5] [(0,3),(1,3)]))))))))) (.reg [zI .add 12 1 53,zM 53 12] []))))))) (zq [zM 3 54,zM 54 2] .ret)))))) [.tmp 2] 55:=ki
def jU:Is prog f109 (zq [zY 0 2,zV zf 4] (zq [zM 1 8,zC 179 [8] 9,zM 9 7,zE 7 0 10,zE 7 1 11,zM 10 5,zM 11 6] (.seq (.reg [zF 1 2 12,zL 12 13,zM 1 14,zU 14 15,zB .eql 13 15 16,zM 16 17,zT 17 (zF 2 2 18),zT 17 (zL 18 19),zT 17 (zM 1 20),zT 17 (zC 178 [20] 21),zT 17 (zB .eql 19 21 22),zA 17 22 23,zM 23 24,zT 24 (zF 3 2 25),zT 24 (zL 25 26),zT 24 (zM 5 27),zT 24 (zB .eql 26 27 28),zA 24 28 29,zM 29 30,zT 30 (zF 4 2 31),zT 30 (zL 31 32),zT 30 (zM 6 33),zT 30 (zB .eql 32 33 34),zA 30 34 35,zM 35 4] [(7,9)]) .ret))) [.tmp 4] 36:=ki
def Ahu:Is prog f113 (zq [zY 0 1,zV zf 2] (.seq (.reg [zN 3 1 3,zC 114 [3] 4,zF 1 1 5,zL 5 6,zB .geq 4 6 7,zM 7 2] [(0,3),(1,3)]) .ret)) [.tmp 2] 8:=ki
def Aht:Is prog f115 (zq [zY 0 1,zX [zn,zn] 2] (.seq (.reg [zF 0 1 3,zL 3 4,zC 184 [4] 5,zW (.bsl 1 []) 6,zF 1 1 7,zL 7 8,zP 1 1 6 8 9,zD [zn,zn] [(0,(1,.tmp 5)),(1,(1,.tmp 9))] 10,zS 2 2 10] [(1,5),(2,5)]) .ret)) [.cell 2 (.some 2)] 11:=ki
def Ahq:Is prog f118 (zq [zV zu 2] (zq [zM 0 3,zR 185 [.tmp 3,.func 186] 4,zM 4 2] .ret)) [.tmp 2] 5:=ki
def Ad6:Is prog f121 (zq [zV (.int .u8 0) 2] (.seq (zq [zM 0 3,zR 191 [.tmp 3,zk 1] 4,zQ 4 5] (zc 5 (zq [zV (.int .u8 0) 2] .ret))) (.seq (.reg [zM 0 6,zH 6 7,zF 0 7 8,zL 8 9,zM 0 10,zH 10 11,zF 1 11 12,zL 12 13,zI .sub 13 1 14,zJ 1 9 14 15,zL 15 16,zM 16 2] [(3,7)]) .ret))) [.tmp 2] 17:=ki
def rM:Is prog f129 (zq [zV zf 4] (zq [zM 1 5,zI .geq 5 1 6,zM 6 7,zT 7 (zM 1 8),zT 7 (zI .leq 8 16 9),zA 7 9 10,zM 10 11,zT 11 (zM 0 12),zT 11 (zC 186 [12] 13),zA 11 13 14,zM 14 15,zT 15 (zM 0 16),zT 15 (zM 1 17),(.some (15,.true),(.cvt .u64 (.tmp 17),.some 18)),zT 15 (zB .add 16 18 19),(.some (15,.true),(.bin .leq (.tmp 19) (.const (.int .u64 4611686018427387904)),.some 20)),zA 15 20 21,zM 21 4] .ret)) [.tmp 4] 22:=ki
def ZL:Is prog f131 (zq [zV zn 6,zV zf 7] (.seq (zq [zM 1 13,zU 13 14,zM 0 15,zU 15 16,zB .neq 14 16 17] (zc 17 (zq [zV zn 6,zV zf 7] .ret))) (zq [zW (.bsl 1 []) 18,zM 2 19,zP 1 1 18 19 20,zM 20 8] (zq [zV zn 9] (.seq (zq [zM 0 21,zU 21 22,zV zi 23] (.block 0 (.loop (zq [zB .lss 23 22 24] (.seq (.cond (.tmp 24) .skip (.exit 0)) (.seq (.block 1 (zq [zM 23 25,zJ 2 21 23 26,zN 2 26 27,zX [zn,zn] 11,zM 25 10,zS 2 11 27] (zq [zM 1 28,zM 10 29,zJ 1 28 29 30,zL 30 31,zM 31 12] (.seq (zq [zM 12 32,zI .lss 32 0 33,zM 33 34,zZ 34 (zM 12 35),zZ 34 (zM 8 36),zZ 34 (zU 36 37),zZ 34 (zB .gtr 35 37 38),zO 34 38 39] (zc 39 (zq [zV zn 6,zV zf 7] .ret))) (zq [zF 0 11 40,zL 40 41,zC 184 [41] 42,zF 0 11 43,zS 1 43 42] (zq [zM 8 44,zM 12 45,zM 12 46,zW (.slice 1 (.tmp 44) none (.some (.tmp 45)) (.some (.tmp 46))) 47,zF 1 11 48,zS 1 48 47] (zq [zM 8 49,zM 12 50,zW (.slice 1 (.tmp 49) (.some (.tmp 50)) none none) 51,zM 51 8] (.reg [zM 9 52,zN 2 11 53,zW (.bsl 2 [.tmp 53]) 54,zP 2 48 52 54 55,zM 55 9] [])))))))) (.reg [zI .add 23 1 56,zM 56 23] []))))))) (.seq (zq [zM 8 57,zU 57 58,zI .gtr 58 0 59] (zc 59 (zq [zV zn 6,zV zf 7] .ret))) (zq [zM 9 60,zM 60 6,zV zt 7] .ret))))))) [.tmp 6,.tmp 7] 61:=ki
def Ad1:Is prog f135 (zq [zV zf 4] (zq [zM 0 5,zC 186 [5] 6,zM 6 7,zT 7 (zM 0 8),zT 7 (zM 1 9),(.some (7,.true),(.cvt .u64 (.tmp 9),.some 10)),zT 7 (zB .add 8 10 11),(.some (7,.true),(.bin .leq (.tmp 11) (.const (.int .u64 4611686018427387904)),.some 12)),zA 7 12 13,zM 13 4] .ret)) [.tmp 4] 14:=ki
def Ahl:Is prog f137 (zq [zV zn 4] (zq [zM 0 6,zM 1 7,zC 75 [6,7] 8,zM 8 5] (zq [zM 0 9,zM 5 10,zC 126 [9,10] 11,zM 11 4] .ret))) [.tmp 4] 12:=ki
def Ahi:Is prog f140 (zq [zV (.int .u32 0) 0] (zq [zV (.int .u32 4294967295) 0] .ret)) [.tmp 0] 1:=ki
def Adz:Is prog f145 (zq [zY 0 1,zX [zn,zn] 2] (zq [zF 0 1 4,zL 4 5,zD [zu,zn] [(0,(1,.tmp 5))] 6,zX [zu,zn] 3,zS 2 3 6] (.seq (zq [zF 2 1 7,zL 7 8] (zc 8 (.reg [zF 1 1 9,zL 9 10,zW (.bsl 1 [.tmp 10]) 11,zF 1 3 12,zS 1 12 11] []))) (.seq (.reg [zN 2 3 13,zW (.bsl 2 [.tmp 13]) 14,zW (.bsl 1 []) 15,zF 3 1 16,zL 16 17,zP 1 1 15 17 18,zD [zn,zn] [(0,(1,.tmp 14)),(1,(1,.tmp 18))] 19,zS 2 2 19] [(0,4),(0,5)]) .ret)))) [.cell 2 (.some 2)] 20:=ki
def jR:Is prog f158 (zq [zV zn 2,zV zi 3,zV zf 4,zX [zi,zi] 5] (zq [zM 0 12,zH 12 13,zF 1 13 14,zL 14 15,zR 204 [.tmp 15,zk 2097152] 16,zM 16 11,zE 11 0 17,zE 11 1 18,zM 17 6,zM 18 7] (.seq (zq [zM 7 19,zM 19 20,zT 20 (zM 0 21),(.some (20,.true),(.nilc (.tmp 21),.some 22)),zT 20 (zF 1 22 23),zT 20 (zL 23 24),zT 20 (zU 24 25),zT 20 (zM 6 26),zT 20 (zB .lss 25 26 27),zA 20 27 28] (zc 28 (zq [zD [zi,zi] [] 29,zV zn 2,zV zi 3,zV zf 4,zS 2 5 29] .ret))) (zq [zM 0 31,zH 31 32,zF 1 32 33,zL 33 34,zR 182 [.tmp 34,zk 2097152] 35,zM 35 30,zE 30 0 36,zE 30 1 37,zE 30 2 38,zX [zi,zi] 10,zM 36 8,zM 37 9,zS 2 10 38] (.seq (zq [zF 0 10 39,zL 39 40,zI .eql 40 1 41] (zc 41 (zq [zD [zi,zi] [] 42,zV zn 2,zV zi 3,zV zf 4,zS 2 5 42] .ret))) (.seq (.reg [zM 8 43,zM 9 44,zI .sub 44 4 45,zM 8 46,zU 46 47,zB .sub 45 47 48,zN 2 10 49,zC 26 [49] 50,zN 2 10 51,zM 43 2,zM 48 3,zM 50 4,zS 2 5 51] [(6,8),(7,8)]) .ret)))))) [.tmp 2,.tmp 3,.tmp 4,.cell 5 (.some 2)] 52:=ki
def Ads:Is prog f162 (zq [zY 0 2,zY 1 3,zV zf 4] (zq [zF 0 2 5,zL 5 6,zF 0 3 7,zL 7 8,zB .eql 6 8 9,zM 9 10,zT 10 (zF 1 2 11),zT 10 (zL 11 12),zT 10 (zF 1 3 13),zT 10 (zL 13 14),zT 10 (zC 88 [12,14] 15),zA 10 15 16,zM 16 4] .ret)) [.tmp 4] 17:=ki
def Adr:Is prog f164 (zq [zY 0 2,zY 1 3,zV zf 4] (zq [zF 0 2 5,zL 5 6,zF 0 3 7,zL 7 8,zC 89 [6,8] 9,zM 9 10,zT 10 (zF 1 2 11),zT 10 (zL 11 12),zT 10 (zF 1 3 13),zT 10 (zL 13 14),zT 10 (zC 90 [12,14] 15),zA 10 15 16,zM 16 4] .ret)) [.tmp 4] 17:=ki
def Ag9:Is prog f168 (zq [zV zi 2] (zq [zV zi 3] (.seq (zq [zM 0 6,zU 6 7,zV zi 8] (.block 0 (.loop (zq [zB .lss 8 7 9] (.seq (.cond (.tmp 9) .skip (.exit 0)) (.seq (.block 1 (zq [zJ 2 6 8 10,zN 2 10 11,zX [zn,zn] 5,zS 2 5 11] (.reg [zM 3 12,zF 1 5 13,zL 13 14,zU 14 15,zB .add 12 15 16,zM 16 3] []))) (.reg [zI .add 8 1 17,zM 17 8] []))))))) (zq [zM 3 18,zM 18 2] .ret)))) [.tmp 2] 19:=ki
def Ag6:Is prog f174 (zq [zY 0 1,zV zi 2] (zq [zF 2 1 6,zL 6 7,zC 168 [7] 8,zC 198 [8] 9,zW (.bin .add (zk 40) (.tmp 9)) 10,zM 10 3] (.seq (zq [zF 2 1 11,zL 11 12,zU 12 13,zV zi 14] (.block 0 (.loop (zq [zB .lss 14 13 15] (.seq (.cond (.tmp 15) .skip (.exit 0)) (.seq (.block 1 (zq [zM 14 16,zJ 2 12 14 17,zN 2 17 18,zX [zn,zn] 5,zM 16 4,zS 2 5 18] (.reg [zM 3 19,zF 1 1 20,zL 20 21,zM 4 22,zK .u64 22 23,zB .add 21 23 24,zN 2 5 25,zC 212 [24,25] 26,zB .add 19 26 27,zM 27 3] []))) (.reg [zI .add 14 1 28,zM 28 14] []))))))) (zq [zM 3 29,zM 29 2] .ret)))) [.tmp 2] 30:=ki
def Adn:Is prog f177 (.seq (zq [zM 1 8,zC 110 [8] 9,zQ 9 10] (zc 10 (zq [zM 0 11,zR 210 [.tmp 11,zk 3] 12] .ret))) (zq [zM 0 13,zM 1 14,zU 14 15,zK .u64 15 16,zC 213 [13,16] 17] (zq [zV zu 4] (zq [zV zi 5] (zq [zM 1 18,zU 18 19,zV zi 20] (.block 0 (.loop (zq [zB .lss 20 19 21] (.seq (.cond (.tmp 21) .skip (.exit 0)) (.seq (.block 1 (zq [zJ 3 18 20 22,zN 3 22 23,zX [zu,zi,zi] 7,zS 3 7 23] (zq [zM 0 24,zF 0 7 25,zL 25 26,zM 4 27,zB .sub 26 27 28,zC 213 [24,28] 29] (zq [zM 0 30,zF 1 7 31,zL 31 32,zK .u64 32 33,zC 213 [30,33] 34] (zq [zM 0 35,zF 2 7 36,zL 36 37,zM 5 38,zB .sub 37 38 39,zI .sub 39 1 40,zK .u64 40 41,zC 213 [35,41] 42] (.reg [zN 3 7 43,zC 111 [43] 44,zF 2 7 45,zL 45 46,zM 44 4,zM 46 5] [(0,3),(1,3)])))))) (.reg [zI .add 20 1 47,zM 47 20] []))))))))))) [] 48:=ki
def Adm:Is prog f178 (zq [zV zi 2] (zq [zV zi 3] (.seq (zq [zM 0 6,zC 110 [6] 7,zQ 7 8] (zc 8 (zq [zV zi 2] .ret))) (.seq (zq [zM 0 9,zU 9 10,zV zi 11] (.block 0 (.loop (zq [zB .lss 11 10 12] (.seq (.cond (.tmp 12) .skip (.exit 0)) (.seq (.block 1 (zq [zJ 3 9 11 13,zN 3 13 14,zX [zu,zi,zi] 5,zS 3 5 14] (.reg [zM 3 15,zF 1 5 16,zL 16 17,zB .add 15 17 18,zM 18 3] []))) (.reg [zI .add 11 1 19,zM 19 11] []))))))) (zq [zM 3 20,zM 20 2] .ret))))) [.tmp 2] 21:=ki
def Adk:Is prog f182 (zq [zV zn 4,zV zi 5,zX [zi,zi] 6] (zq [zM 0 10,zC 48 [10] 11,zM 11 7] (zq [zM 7 12,zM 1 13,zC 78 [12,13] 14,zM 14 8] (.seq (zq [zM 7 15,zC 54 [15] 16,zX [zi,zi] 9,zS 2 9 16] (zq [zN 2 9 17,zC 26 [17] 18,zQ 18 19] (zc 19 (zq [zN 2 9 20,zV zn 4,zV zi 5,zS 2 6 20] .ret)))) (zq [zM 8 21,zM 7 22,zC 62 [22] 23,zD [zi,zi] [] 24,zM 21 4,zM 23 5,zS 2 6 24] .ret))))) [.tmp 4,.tmp 5,.cell 6 (.some 2)] 25:=ki
def TO:Is prog f183 (zq [zY 0 3,zV zf 6] (zq [zF 1 3 8,zL 8 9,zI .geq 9 1 10,zM 10 11,zT 11 (zF 1 3 12),zT 11 (zL 12 13),zT 11 (zI .leq 13 16 14),zA 11 14 15,zM 15 7] (zq [zM 7 16,zM 16 17,zT 17 (zF 0 3 18),zT 17 (zL 18 19),zT 17 (zM 1 20),zT 17 (zB .geq 19 20 21),zA 17 21 22,zM 22 23,zT 23 (zF 0 3 24),zT 23 (zL 24 25),(.some (23,.true),(.bin .lss (.tmp 25) (.const (.int .u64 4611686018427387904)),.some 26)),zA 23 26 27,zM 27 28,zT 28 (zN 3 3 29),zT 28 (zC 111 [29] 30),(.some (28,.true),(.bin .leq (.tmp 30) (.const (.int .u64 4611686018427387904)),.some 31)),zA 28 31 32,zM 32 33,zT 33 (zF 2 3 34),zT 33 (zL 34 35),zT 33 (zM 2 36),zT 33 (zB .gtr 35 36 37),zA 33 37 38,zM 38 39,zT 39 (zF 2 3 40),zT 39 (zL 40 41),zT 39 (zI .leq 41 1099511627775 42),zA 39 42 43,zM 43 6] .ret))) [.tmp 6] 44:=ki
def y5:Is prog f187 (.reg [zM 0 4,zM 1 5,zW (.s2b (.tmp 5)) 6,zC 188 [4,6] 7] []) [] 8:=ki
def Ag1:Is prog f190 (.reg [zM 0 4,zM 1 5,zM 1 6,zC 186 [6] 7,zC 221 [4,5,7] 8] []) [] 9:=ki
def rG:Is prog f191 (zq [zV zf 4] (.seq (.block 0 (zq [zM 0 6,zC 52 [6] 7,zQ 7 8,zM 8 5] (.cond (.tmp 5) (zq [zV zf 4] .ret) (zq [zM 1 10,zI .lss 10 0 11,zM 11 9] (.cond (.tmp 9) (zq [zM 0 12,zM 0 13,zH 13 14,zF 1 14 15,zL 15 16,zR 50 [.tmp 12,zk 17,.tmp 16] 17] (zq [zV zf 4] .ret)) (zq [zM 1 19,zM 0 20,zC 141 [20] 21,zB .gtr 19 21 22,zM 22 18] (zc 18 (zq [zM 0 23,zM 0 24,zH 24 25,zF 0 25 26,zL 26 27,zU 27 28,zR 50 [.tmp 23,zk 1,.tmp 28] 29] (zq [zV zf 4] .ret))))))))) (zq [zM 0 30,zH 30 31,zF 1 31 32,zL 32 33,zM 1 34,zB .add 33 34 35,zH 30 36,zF 1 36 37,zS 1 37 35] (zq [zV zt 4] .ret)))) [.tmp 4] 38:=ki
def Agx:Is prog f198 (zq [zV zi 2] (zq [zM 0 3,zW (.mx .true (.tmp 3) (zk 0)) 4,zM 4 0] (zq [zM 0 5,zK .u64 5 6,zC 208 [6] 7,zM 0 8,zB .add 7 8 9,zM 9 2] .ret))) [.tmp 2] 10:=ki
def Adh:Is prog f199 (.seq (zq [zM 1 6,zU 6 7,zI .gtr 7 1048576 8] (zc 8 (zq [zM 0 9,zR 210 [.tmp 9,zk 2] 10] .ret))) (zq [zM 0 11,zM 1 12,zU 12 13,zK .u64 13 14,zC 213 [11,14] 15] (.seq (zq [zM 1 17,zC 227 [17] 18,zM 18 16,zE 16 0 19,zE 16 1 20,zM 19 4,zM 20 5] (zq [zM 5 21] (zc 21 (zq [zM 0 22,zW (.bsl 1 [.const (.int .u8 1)]) 23,zC 188 [22,23] 24] (zq [zM 0 25,zM 4 26,zC 228 [25,26] 27] .ret))))) (zq [zM 0 28,zW (.bsl 1 [.const (.int .u8 0)]) 29,zC 188 [28,29] 30] (.reg [zM 0 31,zM 1 32,zC 188 [31,32] 33] []))))) [] 34:=ki
def Agu:Is prog f208 (zq [zV zi 2] (zq [zV (.int .i64 1) 3] (.seq (.block 0 (.loop (.seq (zq [zM 0 4,zW (.bin .geq (.tmp 4) (.const (.int .u64 128))) 5] (.cond (.tmp 5) .skip (.exit 0))) (.block 1 (zq [zM 0 6,zW (.bin .shr (.tmp 6) (.const (.int .u64 7))) 7,zM 7 0] (.reg [zM 3 8,zI .add 8 1 9,zM 9 3] [])))))) (zq [zM 3 10,zM 10 2] .ret)))) [.tmp 2] 11:=ki
def Adc:Is prog f214 (zq [zY 2 5] (.seq (zq [zM 1 6,zN 2 5 7,zC 169 [6,7] 8,zQ 8 9] (zc 9 (zq [zM 0 10,zR 210 [.tmp 10,zk 3] 11] .ret))) (zq [zM 0 12,zM 1 13,zF 0 5 14,zL 14 15,zC 238 [12,13,15] 16] (.reg [zM 0 17,zF 1 5 18,zL 18 19,zU 19 20,zK .u64 20 21,zC 213 [17,21] 22] [])))) [] 23:=ki
def Agn:Is prog f220 (zq [zV zi 2] (.seq (zq [zM 0 3,zW (.eqp .false (.tmp 3) (.const (.pointer none))) 4] (zc 4 (zq [zV zi 2] .ret))) (.seq (.reg [zM 0 5,zH 5 6,zF 0 6 7,zL 7 8,zM 0 9,zH 9 10,zF 1 10 11,zL 11 12,zU 12 13,zB .sub 8 13 14,zM 14 2] [(3,7)]) .ret))) [.tmp 2] 15:=ki
def Agm:Is prog f226 (zq [zV zn 6] (.seq (zq [zM 2 7,zV zi 8] (.block 0 (.loop (zq [zB .lss 8 7 9] (.seq (.cond (.tmp 9) .skip (.exit 0)) (.seq (.block 1 (.reg [zM 0 10,zM 0 11,zM 0 12,zU 12 13,zM 1 14,zB .sub 13 14 15,zJ 1 11 15 16,zL 16 17,zW (.bsl 1 [.tmp 17]) 18,zP 1 1 10 18 19,zM 19 0] [])) (.reg [zI .add 8 1 20,zM 20 8] []))))))) (zq [zM 0 21,zM 21 6] .ret))) [.tmp 6] 22:=ki
def Ac9:Is prog f227 (zq [zV zn 2,zV zf 3] (zq [zM 0 7,zC 239 [7] 8,zM 8 6,zE 6 0 9,zE 6 1 10,zM 9 4,zM 10 5] (.seq (zq [zM 5 11,zI .neq 11 0 12,zM 12 13,zZ 13 (zM 4 14),zZ 13 (zU 14 15),zZ 13 (zC 198 [15] 16),zZ 13 (zM 0 17),zZ 13 (zU 17 18),zZ 13 (zB .geq 16 18 19),zO 13 19 20] (zc 20 (zq [zV zn 2,zV zf 3] .ret))) (zq [zM 4 21,zM 21 2,zV zt 3] .ret)))) [.tmp 2,.tmp 3] 22:=ki
def Agl:Is prog f228 (zq [zM 0 4,zM 1 5,zU 5 6,zK .u64 6 7,zC 213 [4,7] 8] (.reg [zM 0 9,zM 1 10,zC 188 [9,10] 11] [])) [] 12:=ki
def Ac4:Is prog f236 (zq [zV zi 4] (.seq (zq [zM 0 8,zM 1 9,zC 207 [8,9] 10,zQ 10 11] (zc 11 (zq [zV zi 4] .ret))) (zq [zM 1 12,zU 12 13,zK .u64 13 14,zC 208 [14] 15,zM 15 5] (.seq (zq [zM 1 16,zC 242 [16] 17,zU 17 18,zV zi 19] (.block 0 (.loop (zq [zB .lss 19 18 20] (.seq (.cond (.tmp 20) .skip (.exit 0)) (.seq (.block 1 (zq [zM 19 21,zJ 1 17 19 22,zL 22 23,zM 21 6,zM 23 7] (.reg [zM 5 24,zM 7 25,zC 208 [25] 26,zM 0 27,zM 1 28,zM 6 29,zJ 2 28 29 30,zF 1 30 31,zL 31 32,zC 243 [27,32] 33,zB .add 26 33 34,zB .add 24 34 35,zM 35 5] [(2,8)]))) (.reg [zI .add 19 1 36,zM 36 19] []))))))) (zq [zM 5 37,zM 37 4] .ret))))) [.tmp 4] 38:=ki
def Agi:Is prog f237 (zq [zV zn 2] (zq [zV zn 3] (.seq (.block 0 (.loop (.seq (zq [zM 0 4,zW (.bin .geq (.tmp 4) (.const (.int .u64 128))) 5] (.cond (.tmp 5) .skip (.exit 0))) (.block 1 (zq [zM 3 6,zM 0 7,zK .u8 7 8,zW (.bin .or (.tmp 8) (.const (.int .u8 128))) 9,zW (.bsl 1 [.tmp 9]) 10,zP 1 1 6 10 11,zM 11 3] (.reg [zM 0 12,zW (.bin .shr (.tmp 12) (.const (.int .u64 7))) 13,zM 13 0] [])))))) (zq [zM 3 14,zM 0 15,zK .u8 15 16,zW (.bsl 1 [.tmp 16]) 17,zP 1 1 14 17 18,zM 18 2] .ret)))) [.tmp 2] 19:=ki
def Agc:Is prog f250 (zq [zV zi 2] (zq [zV zi 3] (.seq (zq [zM 0 6,zU 6 7,zV zi 8] (.block 0 (.loop (zq [zB .lss 8 7 9] (.seq (.cond (.tmp 9) .skip (.exit 0)) (.seq (.block 1 (zq [zJ 3 6 8 10,zN 3 10 11,zX [zn,zi,zi] 5,zS 3 5 11] (.reg [zM 3 12,zF 0 5 13,zL 13 14,zU 14 15,zR 208 [.const (.int .u64 18446744073709551615)] 16,zW (.bin .mul (zk 2) (.tmp 16)) 17,zB .add 15 17 18,zB .add 12 18 19,zM 19 3] [(2,4)]))) (.reg [zI .add 8 1 20,zM 20 8] []))))))) (zq [zM 3 21,zM 21 2] .ret)))) [.tmp 2] 22:=ki
def Af9:Is prog f254 (zq [zY 0 2,zY 1 3,zV .nilFunc 4] (zq [zW (.mkf 260 [] [.tmp 2,.tmp 3]) 5,zM 5 4] .ret)) [.tmp 4] 6:=ki
def CN {p:Prop} (h:p:=by(intros;simp[BB])):p:=h
abbrev iA (n:Int):AV:=.lit (.int .i64 n)
abbrev uA (n:Int):AV:=.lit (.int .u64 n)
abbrev bA (b:Bool):AV:=.lit (.bool b)
abbrev Bd (k:IntKind) (l:List Int):AV:=.sl .none 1 (A0 k l)
abbrev Ce (f:Int×Int):AV:=.agg [iA f.1,iA f.2]
def Ai (c a:Int):Ct prog 26 [Ce (c,a)] [] (λ_=>bA (c==0)) [] (λ_=>[]):=by
 refine Ah.toCt ?_ CN CN
 refine RM func26 b26 ?_
 exact FA b26 []
def Bj (c a:Int):Ct prog 31 [iA c,iA a] [] (λ_=>Ce (BB c a)) [] (λ_=>[]):=by
 refine Ah.toCt ?_ CN CN
 refine RM func31 b31 ?_
 refine Av (λh=>?_) (λh=>?_)
 ·have h':c=0:=Sx h
  refine (mp ?_).1
  exact FK b31 [] (by simp[BB,h'])
 ·have h':¬c=0:=Sx h
  refine (mp ?_).1
  exact FK b31 [] (by simp[BB,h'])
def AN (s:RS):Ad:=.cells [.sl .full 1 (A0 .u8 s.l),iA s.at_,iA s.code,iA s.fat]
@[simp] theorem An (ρ:Nat->Nat) (s:RS):(AN s).ren ρ=AN s:=by simp[AN,AE]
def rdr_dead (s:RS):AN s≠ .dead:=by simp[AN]
def Rc {f:FuncId} {args₀ args:List AV} {s s':RS} {r:AV} (h:Ah prog f args₀ [AN s] r [AN s']) (i:Nat) (ha:∀N,args₀.map (λx=>x.ren (AH [i] N))=args:=by exact CN) (hr:∀ρ,r.ren ρ=r:=by exact CN):Ct prog f args [(i,AN s)] (λ_=>r) [(i,AN s')] (λ_=>[]):=Ct.u1 h i ha (λρ=>An ρ _) (λρ=>An ρ _) (rdr_dead _) hr
def T3 (s:RS):Ah prog 52 [.ref 0 0] [AN s] (bA s.good) [AN s]:=by
 refine RN func52 b52 ?_;simp only[go_sem,seval,AN];refine (mok ?_).1
 refine Cp (Ai _ _) ?_
 exact FK b52 [0] (by simp[AN,RS.good])
def Ae (s:RS) (i:Nat):Ct prog 52 [.ref i 0] [(i,AN s)] (λ_=>bA s.good) [] (λ_=>[]):=Ct.r1 (T3 s) i CN (λρ=>An ρ s) (rdr_dead s) CN
def QM (s:RS):Ah prog 54 [.ref 0 0] [AN s] (Ce (s.code,s.fat)) [AN s]:=by
 refine RN func54 b54 ?_;simp only[go_sem,seval,AN];refine (mok ?_).1
 exact FK b54 [0] (by simp[AN])
def AQ (s:RS) (i:Nat):Ct prog 54 [.ref i 0] [(i,AN s)] (λ_=>Ce (s.code,s.fat)) [] (λ_=>[]):=Ct.r1 (QM s) i CN (λρ=>An ρ s) (rdr_dead s) CN
def ZP (s:RS):Ah prog 62 [.ref 0 0] [AN s] (iA s.at_) [AN s]:=by
 refine RN func62 b62 ?_;simp only[go_sem,seval,AN];refine (mok ?_).1
 exact FK b62 [0] (by simp[AN])
def AF (s:RS) (i:Nat):Ct prog 62 [.ref i 0] [(i,AN s)] (λ_=>iA s.at_) [] (λ_=>[]):=Ct.r1 (ZP s) i CN (λρ=>An ρ s) (rdr_dead s) CN
def T2 (s:RS) (h:s.ok):Ah prog 141 [.ref 0 0] [AN s] (iA s.left) [AN s]:=by
 have⟨h1,h2,h3⟩:=h;have e:IntKind.i64.wrap ((s.l.length:Int)-s.at_)=s.left:=by rw[i64_in _ Om];rfl
 refine RN func141 Ahh ?_;simp only[go_sem,seval,AN,Ab,e];refine (mok ?_).1
 exact FK Ahh [0] (by simp[AN])
def GH (s:RS) (i:Nat) (h:s.ok):Ct prog 141 [.ref i 0] [(i,AN s)] (λ_=>iA s.left) [] (λ_=>[]):=Ct.r1 (T2 s h) i CN (λρ=>An ρ s) (rdr_dead s) CN
def T4 (s:RS) (c a:Int):Ah prog 50 [.ref 0 0,iA c,iA a] [AN s] (.tup []) [AN (s.fail c a)]:=by
 refine RM func50 b50 ?_
 refine Cr (Ae s 0) rfl ?_;refine Av (λh=>?_) (λh=>?_)
 ·have h':s.code=0:=by simpa[RS.good]using h
  refine (mp ?_).1;refine Aa.p (Bj c a) ?_;simp only[go_sem,seval,AN];refine (mok ?_).1
  exact FK b50 [0] (by simp[AN,RS.fail,h'])
 ·have h':¬s.code=0:=by simpa[RS.good]using h
  refine (mp ?_).1
  exact FK b50 [0] (by simp[AN,RS.fail,h'])
def Aj (s:RS) (c a:Int) (i:Nat):Ct prog 50 [.ref i 0,iA c,iA a] [(i,AN s)] (λ_=>.tup []) [(i,AN (s.fail c a))] (λ_=>[]):=Rc (T4 s c a) i
def TZ (s:RS) (n:Int) (hs:s.ok):Ah prog 191 [.ref 0 0,iA n] [AN s] (bA (s.skip n).2) [AN (s.skip n).1]:=by
 refine RM func191 rG ?_
 refine Cr (Ae s 0) rfl ?_;refine Av (λh=>?_) (λh=>?_)
 ·have h':¬s.code=0:=by simpa[RS.good]using h
  refine (mp ?_).1
  exact FK rG [0] (by simp[AN,RS.skip,h'])
 ·have h':s.code=0:=by simpa[RS.good]using h
  refine (mp ?_).1;refine Av (λh=>?_) (λh=>?_)
  ·have h2:n<0:=Sx h
   simp only[go_sem,seval,AN];refine (mok ?_).1;refine Cu (Aj s 17 s.at_ 0) rfl ?_
   exact FK rG [0] (by simp[AN,RS.skip,h',h2])
  ·have h2:¬n<0:=Sx h
   refine (mp ?_).1;refine Cr (GH s 0 hs) rfl ?_;refine Av (λh=>?_) (λh=>?_)
   ·have h3:s.left<n:=Sx h
    simp only[go_sem,seval,AN,Ab];refine (mok ?_).1;refine Cu (Aj s 1 s.l.length 0) rfl ?_
    exact FK rG [0] (by simp[AN,RS.skip,h',h2,h3])
   ·have h3:¬s.left<n:=Sx h
    have e:IntKind.i64.wrap (s.at_+n)=s.at_+n:=by have⟨q1,q2,q3⟩:=hs;unfold RS.left at h3;exact i64_in _ Om
    simp only[go_sem,seval,AN,e];refine (mok ?_).1
    exact FK rG [0] (by simp[AN,RS.skip,h',h2,h3])
def I5 (s:RS) (n:Int) (i:Nat) (hs:s.ok):Ct prog 191 [.ref i 0,iA n] [(i,AN s)] (λ_=>bA (s.skip n).2) [(i,AN (s.skip n).1)] (λ_=>[]):=Rc (TZ s n hs) i
abbrev Ul (n:Int):AV:=.lit (.int .u8 n)
def NI {l:List Int} (i:Nat) (h:i<l.length):(A0 .u8 l).getD i .any=Ul (l.getD i 0):=Cy .u8 l i h
def T5 (s:RS) (hs:s.ok):Ah prog 121 [.ref 0 0] [AN s] (Ul s.byte.2) [AN s.byte.1]:=by
 refine RM func121 Ad6 ?_
 refine Cu (I5 s 1 0 hs) rfl ?_;refine Av (λh=>?_) (λh=>?_)
 ·have h':¬(s.skip 1).2=true:=Sx h
  refine (mp ?_).1
  exact FK Ad6 [0] (by simp[AN,RS.byte,h'])
 ·have h':(s.skip 1).2=true:=Sx h
  have⟨h1,h2,h3,h4⟩:=GS h';have⟨a,b,c⟩:=hs;unfold RS.left at h3;have e:IntKind.i64.wrap (s.at_+1-1)=s.at_:=by rw[i64_in _ Om];omega
  have eq1:s.at_.toNat<s.l.length:=Om
  have eq2:s.at_<s.l.length:=Om
  simp only[go_sem,seval,h4,AN,e,Ab,NI _ eq1,a,eq2];refine (mok ?_).1
  exact FK Ad6 [0] (by simp[AN,RS.byte,h',h4])
def CG (s:RS) (i:Nat) (hs:s.ok):Ct prog 121 [.ref i 0] [(i,AN s)] (λ_=>Ul s.byte.2) [(i,AN s.byte.1)] (λ_=>[]):=Rc (T5 s hs) i
def WD (l:List Int):Ah prog 48 [Bd .u8 l] [] (.ref 0 0) [AN (RS.new l)]:=by
 have e:(A0 .u8 l).take l.length=A0 .u8 l:=take_of_length_le (by simp[A0]);refine RN func48 b48 ?_;refine (mt @Ab @Sg @Int.toNat_natCast e ?_).1
 (repeat with_reducible refine Sa ?_)
 (refine FB b48 [0] ?_ ?_<;>first|with_reducible rfl|(simp[AN,RS.new];done)|rfl)
def BO (l:List Int):Ct prog 48 [Bd .u8 l] [] (λn=>.ref n 0) [] (λ_=>[AN (RS.new l)]):=Ct.n (WD l) CN cl cl
def TY (s:RS) (n:Int) (hs:s.ok):Ah Tryz.prog 126 [.ref 0 0,iA n] [AN s] (Bd .u8 (s.take n).2) [AN (s.take n).1]:=by
 refine RM Tryz.func126 Ad4 ?_
 refine Aa.u1 (I5 s n 0 hs) rfl (mp ?_).1;refine Av (λh=>?_) (λh=>?_)
 ·have h':¬(s.skip n).2=true:=by simpa using h
  refine (mp ?_).1;refine UT 4 ?_
  (refine FB Ad4 [0] ?_ ?_<;>first|with_reducible rfl|(simp[Ci,EE,EH,CM,AN,RS.take,h'];done)|rfl)
 ·have h':(s.skip n).2=true:=by simpa using h
  obtain⟨h1,h2,h3,h4⟩:=GS h';obtain⟨a,b,c⟩:=hs;unfold RS.left at h3;have e:IntKind.i64.wrap (s.at_+n-n)=s.at_:=by rw[IntWalk.i64_in _ (by omega)];omega
  have e2:(s.at_+n-s.at_).toNat=n.toNat:=by congr 1;omega
  simp only[go_sem,seval,h4,AN,e,e2,Ab,a,Dh,CA];refine (mok ?_).1;(repeat((with_reducible refine And.intro ?_ ?_);(·exact sd)));refine UT 4 ?_
  (refine FB Ad4 [0] ?_ ?_<;>first|with_reducible rfl|(simp[Ci,EE,EH,CM,AN,RS.take,h',h4];done)|rfl)
def CF (s:RS) (n:Int) (i:Nat) (hs:s.ok):Ct prog 126 [.ref i 0,iA n] [(i,AN s)] (λ_=>Bd .u8 (s.take n).2) [(i,AN (s.take n).1)] (λ_=>[]):=Rc (TY s n hs) i
def Aet {y:Int}:y.fdiv (2^min 7 64)=y/128:=by
 show y.fdiv 128=y/128;rw[Int.fdiv_eq_ediv_of_nonneg _ Om]
def C0 (x:Int) (h0:0≤x) (h1:x<18446744073709551616):Ct prog 208 [uA x] [] (λ_=>iA (vb x).length) [] (λ_=>[]):=by
 refine Ah.toCt ?_ CN CN
 refine RM func208 Agu ?_
 have hl:=(A7 x).2;refine AA (α:=Int×Int) (λa=>[uA a.1,.any,iA 0,iA a.2,.any,.any,.any,.any,.any,.any,.any]) (λ_=>[]) (λa=>0≤a.1∧a.1<18446744073709551616∧1≤a.2∧a.2+(vb a.1).length=1+(vb x).length) (λa=>a.1.toNat) (x,1) ⟨h0,h1,Int.le_refl _,rfl⟩ (Wk.forget (by simp[BS])) ?_;rintro⟨y,k⟩ ⟨y0,y1,k0,hk⟩;simp only at y0 y1 k0 hk;have hy:=(A7 y).1;refine (mp ?_).1;refine Av (λh=>?_) (λh=>?_)
 ·have hy2:128≤y:=Sx h
  have ew:IntKind.i64.wrap (k+1)=k+1:=i64_in _ Om;have eb:=Aaj hy2 y1;refine (mr @Aet ew ?_).1;refine (Sr ?_).1;refine⟨(y/128,k+1),⟨by simp only;omega,by simp only;omega,by simp only;omega,?_⟩,by simp only;omega,Wk.forget (by simp[BS])⟩;rw[eb]at hk;simp at hk ⊢;omega
 ·have hy2:y<128:=Sx h
  have eb:=Aai hy2;rw[eb]at hk;have ek:k=(vb x).length:=by simp at hk;omega
  refine (mp ?_).1
  exact FE Agu [] ek
def nI {y:Int} (h0:0≤y):Cv .or .u8 (IntKind.u8.wrap y) 128=128+y%128:=by
 rw[IntKind.wrap_u8];show bits .or .u8 (y%256) 128=_;rw[u8_or _ _ Om Om Om Om];have:=Aey ⟨(y%256).toNat,Om⟩;simp only at this;rw[show(128:Int).toNat=128 from rfl,this];omega
def PQ (x:Int) (h0:0≤x) (h1:x<18446744073709551616):Ah prog 237 [uA x] [] (Bd .u8 (vb x)) []:=by
 refine RM func237 Agi ?_
 have hl:=(A7 x).2;refine AA (α:=Int×List Int) (λa=>uA a.1::.any::.any::.sl (.row 0) 1 (A0 .u8 a.2)::Ay (Ay (Ay [.any,.any,.any]))) (λa=>[.row 1 a.2.length]) (λa=>0≤a.1∧a.1<18446744073709551616∧a.2++vb a.1=vb x) (λa=>a.1.toNat) (x,[]) ⟨h0,h1,rfl⟩ ((Wk.row 3 1 rfl (.inl rfl) (Nat.le_refl _)).trans (Wk.forget (by simp[BS,A0]))) ?_;rintro⟨y,m⟩ ⟨y0,y1,hk⟩;simp only at y0 y1 hk;have hm:m.length≤10:=by rw[←hk]at hl;simp at hl;omega
 refine (mp ?_).1;refine Av (λh=>?_) (λh=>?_)
 ·have hy2:128≤y:=Sx h
  have eb:=Aaj hy2 y1;have e1:[Ul (128+y%128)]=A0 .u8 [128+y%128]:=rfl;simp only[go_sem,seval,Aet,nI y0,e1,C1,Ab];refine (mok ?_).1;(repeat with_reducible refine Sa ?_);refine⟨(y/128,m++[128+y%128]),⟨by simp only;omega,by simp only;omega,?_⟩,by simp only;omega,Wk.to Si (by simp[BS])⟩;rw[←hk,eb];simp
 ·have hy2:y<128:=Sx h
  have eb:=Aai hy2;rw[eb]at hk;have ew:IntKind.u8.wrap y=y:=IntWalk.u8_in _ Om;have e1:[Ul y]=A0 .u8 [y]:=rfl;refine (mt ew e1 @C1 @Ab ?_).1;(repeat with_reducible refine Sa ?_);refine UT 2 ?_
  exact FE Agi [] hk
def R5 (x:Int) (h0:0≤x) (h1:x<18446744073709551616):Ct Tryz.prog 237 [uA x] [] (λ_=>Bd .u8 (vb x)) [] (λ_=>[]):=(PQ x h0 h1).toCt cl cl
def Aif (s:RS):s.adv 0=s:=by simp[RS.adv]
def RS.ok.adv {s:RS} (h:s.ok) {i:Nat} (hi:i≤s.rest.length):(s.adv i).ok:=by
 have⟨a,b,c⟩:=h;have:=F0 s a b;exact⟨by show 0≤s.at_+(i:Int);omega,by show s.at_+(i:Int)≤s.l.length;omega,c⟩
def rW (s:RS) (i:Int):(s.adv i).good=(s.code==0):=rfl
def Aeh (s:RS) (i:Int):(s.adv i).at_=s.at_+i:=rfl
def nH (i:Nat) (hi:i≤9) (x c:Int) (h0:0≤x) (h1:x<128^i) (c0:0≤c) (c1:c<128) (c2:i=9->c≤1):
 Cv .or .u64 x (IntKind.u64.wrap (IntKind.u64.wrap c*2^min (7*(i:Int)).toNat 64))=x+128^i*c:=by
 have e1:IntKind.u64.wrap c=c:=u64_in _ Om;have e2:min (7*(i:Int)).toNat 64=7*i:=by
  omega
 rw[e1,e2];exact(aF i hi x c h0 h1 c0 c1 c2).1
def R4 (s:RS) (hs:s.ok) (hb:AW s.l):Ah prog 136 [.ref 0 0] [AN s] (uA s.vint.2) [AN s.vint.1]:=by
 have hs0:=hs;have⟨a,b,c⟩:=hs;refine RM func136 jS ?_
 refine UC (α:=Nat×Int) 0 (by rfl) (λa=>.ref 0 0::.any::uA 0::uA a.2::.any::iA (7*(a.1:Int))::iA s.at_::Az (Az (Ay (Ay (Ay [.any,.any,.any]))))) (λa=>[AN (s.adv a.1)])
  (λa=>a.1≤9∧(s.code≠0->a.1=0)∧0≤a.2∧a.2<128^a.1∧Lq s a.1 a.2∧a.1≤s.rest.length) (λa=>10-a.1) (λpass=>?_) ?_
 ·refine (mp ?_).1;refine Aa.r1 (AF s 0) rfl (mp ?_).1;refine Nu (Wk.to ?_ ?_) (pass (0,0) ⟨Si,λ_=>rfl,Si,Si,cD s hb,Si⟩)
  ·simp[Aif]
  ·simp[BS]
 ·rintro⟨i,x⟩ ⟨hi9,hci,x0,x1,hu,hir⟩;simp only at hi9 hci x0 x1 hu hir;have hrl:=F0 s a b;refine (mp ?_).1;refine Aa.u1 (CG (s.adv i) 0 (hs0.adv hir)) rfl ?_;by_cases hc:s.code=0
  ·cases hd:s.rest.drop i with
   |nil=>
    have hil:s.rest.length≤i:=by
     rcases Nat.lt_or_ge i s.rest.length with h|h
     ·have:=congrArg List.length hd;simp at this;omega
     ·exact h
    have hB:=qP s i hc a b Om;have hv:=kH hc hu hd;refine (mq hB ?_).1;refine Aa.r1 (Ae _ 0) rfl ?_;simp only[go_sem,seval,RS.good,show((1:Int)==0)=false from rfl];refine (mok ?_).1
    exact FE jS [0] hv
   |cons c t=>
    have⟨hB,hle⟩:=jH s i c t hc a b hd;have hcb:0≤c∧c<256:=by
     have:c∈s.rest.drop i:=by rw[hd];exact mem_cons_self ..
     exact hb c (mem_of_mem_drop (mem_of_mem_drop this))
    have hil:i<s.rest.length:=by
     rcases Nat.lt_or_ge i s.rest.length with h|h
     ·exact h
     ·rw[drop_eq_nil_of_le h]at hd;cases hd
    have hg:(s.adv ((i:Int)+1)).good=true:=by rw[rW];simp[hc]
    have hw:IntKind.i64.wrap ((s.adv ((i:Int)+1)).at_-1)=s.at_+i:=by
     rw[Aeh,i64_in _ Om];omega
    refine (mq hB ?_).1;refine Aa.r1 (Ae _ 0) rfl (mq hg ?_).1;have t1:(7*(i:Int)==63)=decide (i=9):=by
     rw[Bool.eq_iff_iff];simp;omega
    by_cases c1:i=9∧1<c
    ·have hv:=bT hc hu hd c1.1 c1.2;have t2:decide (1<c)=true:=by simpa using c1.2
     have t3:decide (i=9)=true:=by simpa using c1.1
     refine (ms t1 t2 t3 ?_).1;refine Aa.r1 (AF _ 0) rfl (mq hw ?_).1;refine Aa.u1 (Aj _ 5 _ 0) rfl (mp ?_).1
     exact FE jS [0] hv
    ·have p1:(decide (i=9)=true∧decide (1<c)=false)∨(decide (i=9)=false∧True):=by
      simp only[decide_eq_true_eq,decide_eq_false_iff_not,and_true];omega
     by_cases c2:0<i∧c=0
     ·obtain⟨c2',rfl⟩:=c2;have hv:=kG hc hu hd c2';have t3:decide (s.at_<s.at_+i)=true:=by simp;omega
      rcases p1 with⟨q1,q2⟩|⟨q1,q2⟩<;>
      ·refine (mr t1 q1 ?_).1;refine Aa.r1 (AF _ 0) rfl (mr hw t3 ?_).1;refine Aa.r1 (AF _ 0) rfl (mq hw ?_).1;refine Aa.u1 (Aj _ 4 _ 0) rfl (mp ?_).1
       exact FE jS [0] hv
     ·have hor:=nH i hi9 x (c%128) x0 x1 Om Om Om;have hm:c.tmod 128=c%128:=Int.tmod_eq_emod_of_nonneg Om;have p2:((c==0)=true∧decide (s.at_<s.at_+i)=false)∨(c==0)=false:=by
       simp only[beq_iff_eq,decide_eq_false_iff_not,beq_eq_false_iff_ne];omega
      rcases p1 with⟨q1,q2⟩|⟨q1,q2⟩<;>rcases p2 with⟨q3,q4⟩|q3<;>(first|((simp only[go_sem,seval,t1,q1,q2,q3,hm];refine (mok ?_).1);refine Aa.r1 (AF _ 0) rfl (mt hw q4 hm hor ?_).1)|(simp only[go_sem,seval,t1,q1,q2,q3,hm,hor];refine (mok ?_).1))<;>
      ·(repeat with_reducible refine Sa ?_);refine Av (λh=>?_) (λh=>?_)
       ·have h2:128≤c:=Sx h
        have h9:i≠9:=Om
        have⟨hu',hd'⟩:=cE hu hd c1 c2 Om;have h2x:=(aF i hi9 x (c%128) x0 x1 Om Om Om).2;have hw2:IntKind.i64.wrap (7*(i:Int)+7)=7*((i+1:Nat):Int):=by rw[i64_in _ Om];omega
        refine (mp ?_).1;refine⟨(i+1,x+128^i*(c%128)),⟨by simp only;omega,λh=>absurd hc h,h2x.2,h2x.1,hu',by simp only;omega⟩,by simp only;omega,Wk.to ?_ ?_⟩
        ·simp
        ·simp[BS,hw2]
       ·have h2:c<128:=Sx h
        have hv:=bU hc hu hd c1 c2 h2;have hm2:c%128=c:=Om
        refine (mp ?_).1
        exact FF jS [0] hv hm2
  ·have hi0:=hci hc;subst hi0;have hB:=qQ s hc;have hv:=B1 hc;have e0:((0:Nat):Int)=0:=rfl;have hg:s.good=false:=by simp[RS.good,hc]
   refine (mr e0 hB ?_).1;refine Aa.r1 (Ae _ 0) rfl (mq hg ?_).1
   exact FE jS [0] hv
def BI (s:RS) (i:Nat) (hs:s.ok) (hb:AW s.l):Ct prog 136 [.ref i 0] [(i,AN s)] (λ_=>uA s.vint.2) [(i,AN s.vint.1)] (λ_=>[]):=Rc (R4 s hs hb) i
def Lx (s:RS) (m:Int) (hs:s.ok) (hb:AW s.l):Ah prog 146 [.ref 0 0,uA m] [AN s] (uA (s.most m).2) [AN (s.most m).1]:=by
 refine RM func146 Ady ?_
 refine Cr (AF s 0) rfl ?_;refine Cu (BI s 0 hs hb) rfl ?_;refine Av (λh=>?_) (λh=>?_)
 ·have h':m<s.vint.2:=Sx h
  refine (mp ?_).1;refine Cu (Aj _ 2 _ 0) rfl ?_
  exact FK Ady [0] (by simp[RS.most,h'])
 ·have h':¬m<s.vint.2:=Sx h
  refine (mp ?_).1
  exact FK Ady [0] (by simp[RS.most,h'])
def MT (s:RS) (m:Int) (i:Nat) (hs:s.ok) (hb:AW s.l):Ct prog 146 [.ref i 0,uA m] [(i,AN s)] (λ_=>uA (s.most m).2) [(i,AN (s.most m).1)] (λ_=>[]):=Rc (Lx s m hs hb) i
def MU (s:RS) (m:Int) (m1:m<9223372036854775808) (hs:s.ok) (hb:AW s.l):Ah prog 75 [.ref 0 0,iA m] [AN s] (iA (s.int m).2) [AN (s.int m).1]:=by
 refine RM func75 b75 ?_
 refine Av (λh=>?_) (λh=>?_)
 ·have h':0≤m:=Sx h
  have e:IntKind.u64.wrap m=m:=u64_in _ Om;have hr:=Ka (m:=m) hb h';have e2:IntKind.i64.wrap (s.most m).2=(s.most m).2:=i64_in _ Om;refine (mq e ?_).1;refine Aa.u1 (MT s m 0 hs hb) rfl (mq e2 ?_).1
  exact FK b75 [0] (by simp[RS.int,h'])
 ·have h':¬0≤m:=Sx h
  refine (mp ?_).1;refine Cr (AF s 0) rfl ?_;refine Cu (BI s 0 hs hb) rfl ?_;refine Cu (Aj _ 2 _ 0) rfl ?_
  exact FK b75 [0] (by simp[RS.int,h'])
def AS (s:RS) (m:Int) (i:Nat) (m1:m<9223372036854775808) (hs:s.ok) (hb:AW s.l):Ct prog 75 [.ref i 0,iA m] [(i,AN s)] (λ_=>iA (s.int m).2) [(i,AN (s.int m).1)] (λ_=>[]):=Rc (MU s m m1 hs hb) i
def B0 (j:Nat) (s:WS):Ad:=.cells [iA s.most,.sl (.row j) 1 (A0 .u8 s.l),iA s.code]
def AX (s:WS):Ad:=.row 1 s.l.length
@[simp] theorem I6 (ρ:Nat->Nat) (j:Nat) (s:WS):(B0 j s).ren ρ=B0 (ρ j) s:=by simp[B0,AE]
@[simp] theorem wrow_ren (ρ:Nat->Nat) (s:WS):(AX s).ren ρ=AX s:=rfl
def Bx (j:Nat) (s:WS):B0 j s≠ .dead:=by simp[B0]
def Bg (s:WS):AX s≠ .dead:=by simp[AX]
def TW (s:WS):Ah prog 211 [.ref 0 0] [B0 1 s,AX s] (iA s.code) [B0 1 s,AX s]:=by
 refine RN func211 Agt ?_;simp only[go_sem,seval,B0,AX];refine (mok ?_).1
 exact FK Agt [0,1] (by simp[B0,AX])
def GD (s:WS) (i j:Nat) (h:i≠j):Ct prog 211 [.ref i 0] [(i,B0 j s),(j,AX s)] (λ_=>iA s.code) [] (λ_=>[]):=Ct.r2 (TW s) i j h CN cl cl (Bx _ _) (Bg _) CN
def TT (s:WS) (hs:s.ok):Ah prog 220 [.ref 0 0] [B0 1 s,AX s] (iA s.room) [B0 1 s,AX s]:=by
 have⟨a,b,c⟩:=hs;have e:IntKind.i64.wrap (s.most-s.l.length)=s.room:=by rw[i64_in _ Om];rfl
 refine RN func220 Agn ?_;simp only[go_sem,seval,B0,AX,Ab,e];refine (mok ?_).1
 exact FK Agn [0,1] (by simp[B0,AX])
def W8 (s:WS) (i j:Nat) (h:i≠j) (hs:s.ok):Ct prog 220 [.ref i 0] [(i,B0 j s),(j,AX s)] (λ_=>iA s.room) [] (λ_=>[]):=Ct.r2 (TT s hs) i j h CN cl cl (Bx _ _) (Bg _) CN
def TV (s:WS) (c:Int):Ah prog 210 [.ref 0 0,iA c] [B0 1 s,AX s] (.tup []) [B0 1 (s.fail c),AX (s.fail c)]:=by
 have hw:AX (s.fail c)=AX s:=by unfold AX;rw[(Kv s c).2]
 refine RM func210 Ade ?_
 refine Aa.r2 (GD s 0 1 De) rfl rfl (mp ?_).1;refine Av (λh=>?_) (λh=>?_)
 ·have h':s.code=0:=Sx h
  simp only[go_sem,seval,B0];refine (mok ?_).1
  exact FK Ade [0,1] (by simp[B0,AX,WS.fail,h'])
 ·have h':¬s.code=0:=Sx h
  refine (mp ?_).1
  exact FK Ade [0,1] (by simp[hw,WS.fail,h'])
def Cj (s:WS) (c:Int) (i j:Nat) (h:i≠j):Ct prog 210 [.ref i 0,iA c] [(i,B0 j s),(j,AX s)] (λ_=>.tup []) [(i,B0 j (s.fail c)),(j,AX (s.fail c))] (λ_=>[]):=Ct.u2 (TV s c) i j h CN cl cl cl cl (Bx _ _) (Bg _) CN
def W9 (s:WS) (m:List Int) (hs:s.ok) (hB:s.l.length+m.length≤s.most->s.l.length+m.length≤140737488355328):Ah prog 188 [.ref 0 0,Bd .u8 m] [B0 1 s,AX s] (.tup []) [B0 1 (s.put m),AX (s.put m)]:=by
 refine RM func188 y4 ?_
 refine Aa.r2 (GD s 0 1 De) rfl rfl (mp ?_).1;refine Av (λh=>?_) (λh=>?_)
 ·have h':¬s.code=0:=Sx h
  refine (mp ?_).1
  (refine FB y4 [0,1] ?_ ?_<;>first|with_reducible rfl|(simp[WS.put,h'];done)|rfl)
 ·have h':s.code=0:=Sx h
  refine (mp ?_).1;refine Aa.r2 (W8 s 0 1 De hs) rfl rfl (mq @Ab ?_).1;refine Av (λh=>?_) (λh=>?_)
  ·have h2:s.most-s.l.length<m.length:=by simp at h;simp only[WS.room]at h;omega
   have hf:s.fail 2=s.put m:=by unfold WS.put WS.fail;rw[if_pos h',if_pos h',if_pos h2]
   refine (mp ?_).1;refine Aa.u2 (Cj s 2 0 1 De) rfl rfl (mp ?_).1
   exact FE y4 [0,1] hf
  ·have h2:¬s.most-s.l.length<m.length:=by simp at h;simp only[WS.room]at h;omega
   simp only[go_sem,seval,B0,AX,Ab,C1];refine (mok ?_).1;(repeat with_reducible refine Sa ?_)
   (refine FB y4 [0,1] ?_ ?_<;>first|with_reducible rfl|(simp[B0,AX,WS.put,h',h2];done)|rfl)
def BV (s:WS) (m:List Int) (i j:Nat) (h:i≠j) (hs:s.ok) (hB:s.l.length+m.length≤s.most->s.l.length+m.length≤140737488355328):Ct prog 188 [.ref i 0,Bd .u8 m] [(i,B0 j s),(j,AX s)] (λ_=>.tup []) [(i,B0 j (s.put m)),(j,AX (s.put m))] (λ_=>[]):=Ct.u2 (W9 s m hs hB) i j h CN cl cl cl cl (Bx _ _) (Bg _) CN
def QK (s:WS) (hb:s.l.length≤140737488355328):Ah prog 173 [.ref 0 0] [B0 1 s,AX s] (.tup [Bd .u8 s.bytes,iA s.code]) [B0 1 s,AX s]:=by
 refine RM func173 rI ?_
 refine Aa.r2 (GD s 0 1 De) rfl rfl (mp ?_).1;refine Av (λh=>?_) (λh=>?_)
 ·have h':¬s.code=0:=Sx h
  refine (mp ?_).1;refine UT 2 ?_
  (refine FB rI [0,1] ?_ ?_<;>first|with_reducible rfl|(simp[WS.bytes,h'];done)|rfl)
 ·have h':s.code=0:=Sx h
  simp only[go_sem,seval,B0,AX,Ab];refine (mok ?_).1;(repeat with_reducible refine Sa ?_);refine UT 2 ?_
  (refine FB rI [0,1] ?_ ?_<;>first|with_reducible rfl|(simp[B0,AX,WS.bytes,h'];done)|rfl)
def BW (s:WS) (i j:Nat) (h:i≠j) (hb:s.l.length≤140737488355328):Ct prog 173 [.ref i 0] [(i,B0 j s),(j,AX s)] (λ_=>.tup [Bd .u8 s.bytes,iA s.code]) [] (λ_=>[]):=Ct.r2 (QK s hb) i j h CN cl cl (Bx _ _) (Bg _) CN
def mR (n:Int):Ah prog 170 [iA n] [] (.ref 0 0) [B0 1 (WS.new n),AX (WS.new n)]:=by
 have e:(if 0>n then(0:Int)else n)=max n 0:=by split<;>omega
 refine RN func170 Ag8 ?_;refine (mq e ?_).1
 refine A6.wk (Wk.rowObj 0 1 1 rfl rfl (.inl rfl) (Nat.le_refl _)) (mp ?_).1
 exact FK Ag8 [0,1] (by simp[B0,AX,WS.new])
def E5 (n:Int):Ct prog 170 [iA n] [] (λk=>.ref k 0) [] (λk=>[B0 (k+1) (WS.new n),AX (WS.new n)]):=Ct.n (mR n) CN cl cl
def Ue (s:WS) (x:Int) (h0:0≤x) (h1:x<18446744073709551616) (hs:s.ok) (hB:s.l.length+(vb x).length≤s.most->s.l.length+(vb x).length≤140737488355328):Ah prog 213 [.ref 0 0,uA x] [B0 1 s,AX s] (.tup []) [B0 1 (s.put (vb x)),AX (s.put (vb x))]:=by
 refine RM func213 Ags ?_
 refine Cp (R5 x h0 h1) ?_;refine Aa.u2 (BV s (vb x) 0 1 De hs hB) rfl rfl (mp ?_).1;exact FA Ags [0,1]
def Br (s:WS) (x:Int) (i j:Nat) (h:i≠j) (h0:0≤x) (h1:x<18446744073709551616) (hs:s.ok) (hB:s.l.length+(vb x).length≤s.most->s.l.length+(vb x).length≤140737488355328):Ct prog 213 [.ref i 0,uA x] [(i,B0 j s),(j,AX s)] (λ_=>.tup []) [(i,B0 j (s.put (vb x))),(j,AX (s.put (vb x)))] (λ_=>[]):=Ct.u2 (Ue s x h0 h1 hs hB) i j h CN cl cl cl cl (Bx _ _) (Bg _) CN
abbrev cv (s:RS):AV:=.agg [Bd .u8 s.l,iA s.at_,iA s.code,iA s.fat]
def GW (c a:Int):Ct prog 96 [iA c,iA a] [] (λ_=>Ce (BB c a)) [] (λ_=>[]):=by
 refine Ah.toCt ?_ CN CN
 refine RM func96 b96 ?_
 refine Av (λh=>?_) (λh=>?_)
 ·have h':¬c=0:=Sx h
  refine (mp ?_).1
  exact FK b96 [] (by simp[BB,h'])
 ·have h':c=0:=Sx h
  refine (mp ?_).1
  exact FK b96 [] (by simp[BB,h'])
def EQ (s:RS) (c a:Int):Ct prog 41 [cv s,iA c,iA a] [] (λ_=>cv (s.fail c a)) [] (λ_=>[]):=by
 refine Ah.toCt ?_ CN CN
 refine RM func41 b41 ?_
 refine Av (λh=>?_) (λh=>?_)
 ·have h':s.code=0:=Sx h
  refine (mp ?_).1;refine Cp (GW c a) ?_
  exact FK b41 [] (by simp[RS.fail,h'])
 ·have h':¬s.code=0:=Sx h
  refine (mp ?_).1
  exact FK b41 [] (by simp[RS.fail,h'])
def HX {l m:List Int} (hl:AW l) (hm:AW m):((FN (A0 .u8 l)).toList==(FN (A0 .u8 m)).toList)=BJ l m:=by
 rw[ByteArray.toList_eq,ByteArray.toList_eq];unfold BJ;rw[Bool.eq_iff_iff];simp only[beq_iff_eq,decide_eq_true_eq];constructor
 ·intro h;refine yI l m hl hm ?_;have h':(A0 .u8 l).map AV.byte=(A0 .u8 m).map AV.byte:=by simpa[FN]using h
  unfold A0 at h';rw[map_map,map_map]at h';exact h'
 ·rintro rfl;rfl
def Ob (l m:List Int) (hl:AW l) (hm:AW m):Ct prog 90 [Bd .u8 l,Bd .u8 m] [] (λ_=>bA (BJ l m)) [] (λ_=>[]):=by
 refine Ah.toCt ?_ CN CN
 refine RN func90 b90 ?_;refine (mr @Nw (HX hl hm) ?_).1
 exact FA b90 []
def UV (s:RS) (n:Int) (hs:s.ok):Ah prog 94 [cv s,iA n] [] (.tup [cv (s.take n).1,Bd .u8 (s.take n).2]) []:=by
 have⟨a,b,c⟩:=hs;refine RM func94 b94 ?_
 refine Av (λh=>?_) (λh=>?_)
 ·have h':¬s.code=0:=Sx h
  refine (mp ?_).1;refine UT 5 ?_
  (refine FB b94 [] ?_ ?_<;>first|with_reducible rfl|(simp[RS.take,RS.skip,h'];done)|rfl)
 ·have h':s.code=0:=Sx h
  refine (mp ?_).1;refine Av (λh=>?_) (λh=>?_)
  ·have h2:n<0:=Sx h
   refine (mp ?_).1;refine Aa.p (EQ s _ _) (mp ?_).1;refine UT 5 ?_
   (refine FB b94 [] ?_ ?_<;>first|with_reducible rfl|(simp[RS.take,RS.skip,h',h2];done)|rfl)
  ·have h2:¬n<0:=Sx h
   have e:IntKind.i64.wrap ((s.l.length:Int)-s.at_)=s.left:=by rw[i64_in _ Om];rfl
   refine (mr @Ab e ?_).1;refine Av (λh=>?_) (λh=>?_)
   ·have h3:s.left<n:=Sx h
    refine (mq @Ab ?_).1;refine Aa.p (EQ s _ _) (mp ?_).1;refine UT 5 ?_
    (refine FB b94 [] ?_ ?_<;>first|with_reducible rfl|(simp[RS.take,RS.skip,h',h2,h3];done)|rfl)
   ·have h3:¬s.left<n:=Sx h
    have h3':=h3;unfold RS.left at h3';have e2:IntKind.i64.wrap (s.at_+n)=s.at_+n:=i64_in _ Om;have e3:(s.at_+n-s.at_).toNat=n.toNat:=by congr 1;omega
    simp only[go_sem,seval,e2,e3,Ab,Dh,CA];refine (mok ?_).1;(repeat with_reducible refine Sa ?_);refine UT 5 ?_
    (refine FB b94 [] ?_ ?_<;>first|with_reducible rfl|(simp[RS.take,RS.skip,h',h2,h3];done)|rfl)
def Oa (s:RS) (n:Int) (hs:s.ok):Ct Tryz.prog 94 [cv s,iA n] [] (λ_=>.tup [cv (s.take n).1,Bd .u8 (s.take n).2]) [] (λ_=>[]):=(UV s n hs).toCt CN CN
abbrev vG (q:Int×Int×(Int×Int)):AV:=.tup [uA q.1,iA q.2.1,Ce q.2.2]
def It (l:List Int) (i:Int) (h0:0≤i) (h1:i<l.length):(A0 .u8 l).getD i.toNat .any=Ul (l.getD i.toNat 0):=NI _ Om
def XZ (l:List Int) (hl:AW l) (hn:l.length≤140737488355328):Ah prog 206 [Bd .u8 l] [] (vG (JE l)) []:=by
 refine RM func206 rE ?_
 refine AA (α:=Nat) (λk=>Bd .u8 l::.any::uA 0::iA 0::.ref 0 0::iA k::Az (Az (Az (Ay (Ay []))))) (λ_=>[.cells [iA 0,iA 0]]) (λk=>k≤l.length∧k≤9∧GE l k) (λk=>l.length-k) 0 ⟨Si,Si,Xk l⟩ (Wk.forget (by simp[BS])) ?_;rintro k ⟨hk,hk9,hu⟩;refine (mq @Ab ?_).1;refine Av (λh=>?_) (λh=>?_)
 ·have hlt:k<l.length:=Sx h
  obtain⟨z,hz⟩:∃z,l.getD k 0=z:=⟨_,rfl⟩;have hzb:0≤z∧z<256:=hz▸hl _ (CU l k hlt);have eg:(A0 .u8 l).getD (k:Int).toNat .any=Ul z:=by rw[←hz];exact It l k Om Om
  have t1:((k:Int)==9)=decide (k=9):=by rw[Bool.eq_iff_iff];simp;omega
  have t2:decide ((0:Int)<k)=decide (0<k):=by rw[Bool.eq_iff_iff];simp
  refine (mq t1 ?_).1;by_cases c1:k=9∧1<z
  ·have hv:=bY hu hlt c1.1 (by rw[hz];exact c1.2);have q1:decide (k=9)=true:=by simpa using c1.1
   have q2:decide (1<z)=true:=by simpa using c1.2
   refine (mt q1 q2 eg @Ab ?_).1;(repeat with_reducible refine Sa ?_);refine Aa.p (GW _ _) (mp ?_).1
   (refine FB rE [] ?_ ?_<;>first|with_reducible rfl|(simp[hv,BB];done)|rfl)
  ·have p1:(decide (k=9)=true∧decide (1<z)=false)∨(decide (k=9)=false∧True):=by
    simp only[decide_eq_true_eq,decide_eq_false_iff_not,and_true];omega
   by_cases c2:0<k∧z=0
   ·have hv:=kL hu hlt c2.1 (by rw[hz];exact c2.2);have q3:decide (0<k)=true:=by simpa using c2.1
    have q4:(z==0)=true:=by simpa using c2.2
    rcases p1 with⟨q1,q2⟩|⟨q1,q2⟩<;>
    ·simp only[go_sem,seval,q1,q2,t2,q3,q4,eg,Ab];refine (mok ?_).1;(repeat with_reducible refine Sa ?_);refine Aa.p (GW _ _) (mp ?_).1
     (refine FB rE [] ?_ ?_<;>first|with_reducible rfl|(simp[hv,BB];done)|rfl)
   ·have p2:(decide (0<k)=true∧(z==0)=false)∨(decide (0<k)=false∧True):=by
     simp only[decide_eq_true_eq,decide_eq_false_iff_not,and_true,beq_eq_false_iff_ne];omega
    rcases p1 with⟨q1,q2⟩|⟨q1,q2⟩<;>rcases p2 with⟨q3,q4⟩|⟨q3,q4⟩<;>
    ·simp only[go_sem,seval,q1,q2,t2,q3,q4,eg,Ab];refine (mok ?_).1;(repeat with_reducible refine Sa ?_);refine Av (λh=>?_) (λh=>?_)
     ·have c3:z<128:=Sx h
      have hv:=bZ hu hlt (by rw[hz];exact c1) (by rw[hz];exact c2) (by rw[hz];exact c3) (by rw[hz];omega);have hV:=bX (l:=l) (k:=k) hk9 (by rw[hz];exact c1) (by rw[hz];exact c3) (by rw[hz];omega);refine (mp ?_).1;refine AA (α:=Nat×Int) (λa=>Bd .u8 l::.any::uA 0::iA 0::.ref 0 0::iA k::uA a.2::iA ((a.1:Int)-1)::Az (Az (Az (Ay [.any,.any])))) (λ_=>[.cells [iA 0,iA 0]]) (λa=>a.1≤k+1∧0≤a.2∧Dp l (k+1)=128^a.1*a.2+Dp l a.1) (λa=>a.1) (k+1,0) ⟨Nat.le_refl _,Int.le_refl _,Si⟩ (Wk.forget (by simp[BS])) ?_;rintro⟨j,X⟩ ⟨hj,hX,he⟩;simp only at hj hX he;refine (mp ?_).1;refine Av (λh=>?_) (λh=>?_)
      ·obtain⟨j',rfl⟩:∃j',j=j'+1:=⟨j-1,by simp at h;omega⟩;have⟨he2,hub⟩:=Ab0 l (k+1) j' X he hX hV;have ej:((j'+1:Nat):Int)-1=(j':Int):=Om
       obtain⟨y,hy⟩:∃y,l.getD j' 0=y:=⟨_,rfl⟩;have hyb:0≤y∧y<256:=hy▸hl _ (CU l j' Om);have eg2:(A0 .u8 l).getD (j':Int).toNat .any=Ul y:=by rw[←hy];exact It l j' Om Om
       rw[hy]at he2 hub;have em:y.tmod 128=y%128:=Int.tmod_eq_emod_of_nonneg Om;have ec:IntKind.u64.wrap (y%128)=y%128:=u64_in _ Om;have ew:IntKind.u64.wrap (128*X)=128*X:=u64_in _ Om;have ew2:IntKind.u64.wrap (128*X+y%128)=128*X+y%128:=u64_in _ Om;have ew3:IntKind.i64.wrap ((j':Int)-1)=(j':Int)-1:=i64_in _ Om;simp only[go_sem,seval,ej,eg2,em,ec,ew,ew2,ew3,Ab];refine (mok ?_).1;(repeat with_reducible refine Sa ?_);exact⟨(j',128*X+y%128),⟨by simp only;omega,by simp only;omega,he2⟩,by simp only;omega,Wk.forget (by simp[BS])⟩
      ·obtain rfl:j=0:=by simp at h;omega
       have ek1:IntKind.i64.wrap ((k:Int)+1)=(k:Int)+1:=i64_in _ Om;have he':Dp l (k+1)=X:=by rw[he];simp[Dp]
       refine (mq ek1 ?_).1
       exact FF rE [] hv he'
     ·have c3:¬z<128:=Sx h
      have hu2:=Xl hu hlt (by rw[hz];exact c1) (by rw[hz];exact c2) (by rw[hz];exact c3);have ek1:IntKind.i64.wrap ((k:Int)+1)=((k+1:Nat):Int):=by rw[i64_in _ Om];omega
      refine (mq ek1 ?_).1;exact⟨k+1,⟨Om,Om,hu2⟩,Om,Wk.forget (by simp[BS])⟩
 ·have ek:k=l.length:=by simp at h;omega
  subst ek;have hv:=kM hu;refine (mq @Ab ?_).1;refine Aa.p (GW _ _) (mp ?_).1
  (refine FB rE [] ?_ ?_<;>first|with_reducible rfl|(simp[hv,BB];done)|rfl)
def eJ (l:List Int) (hl:AW l) (hn:l.length≤140737488355328):Ct Tryz.prog 206 [Bd .u8 l] [] (λ_=>vG (JE l)) [] (λ_=>[]):=(XZ l hl hn).toCt cl CN
def UU (s:RS) (hs:Ak s):Ah prog 166 [cv s] [] (.tup [cv s.vint.1,uA s.vint.2]) []:=by
 obtain⟨X,N,C,Af,hq⟩:∃X N C Af,JE s.rest=(X,N,(C,Af)):=⟨_,_,_,_,rfl⟩;have hrl:=F0 s hs.at0 hs.at1;have h0:=hs.at0;have h1:=hs.at1;have h2:=hs.len;refine RM func166 rJ ?_
 refine Av (λh=>?_) (λh=>?_)
 ·have h':¬s.code=0:=Sx h
  have hv:=B1 h';refine (mp ?_).1
  exact FE rJ [] hv
 ·have h':s.code=0:=Sx h
  have⟨p1,p2,p3⟩:=Hs hs h' hq;have hdr:(A0 .u8 s.l).drop s.at_.toNat=A0 .u8 s.rest:=by unfold RS.rest;exact CA _ _ _
  refine (mr hdr @Ab ?_).1;(repeat with_reducible refine Sa ?_);refine Aa.p (eJ s.rest (hs.bys.drop _) Om) (mq hq ?_).1;refine Av (λh=>?_) (λh=>?_)
  ·have c0:C=0:=Sx h
   have⟨hv,k1,k2,k3,k4⟩:=p1 c0;have e:IntKind.i64.wrap (s.at_+N)=s.at_+N:=i64_in _ Om;refine (mq e ?_).1
   (refine FB rJ [] ?_ ?_<;>first|with_reducible rfl|(simp[hv,RS.adv];done)|rfl)
  ·have c0:¬C=0:=Sx h
   refine (mp ?_).1;refine Av (λh=>?_) (λh=>?_)
   ·have c1:C=1:=Sx h
    have hv:=p2 c1;subst c1;refine (mq @Ab ?_).1;refine Aa.p (GW _ _) (mp ?_).1
    (refine FB rJ [] ?_ ?_<;>first|with_reducible rfl|(simp[hv,BB];done)|rfl)
   ·have c1:¬C=1:=Sx h
    have⟨hv,k1,k2⟩:=p3 c0 c1;have e:IntKind.i64.wrap (s.at_+Af)=s.at_+Af:=i64_in _ Om;have e2:IntKind.i64.wrap (s.at_+Af+1)=s.at_+Af+1:=i64_in _ Om;have e3:IntKind.i64.wrap (s.at_+Af+1-1)=s.at_+Af:=by rw[i64_in _ Om];omega
    have q:(C != 1)=true:=Sx c1
    refine (mr e e2 ?_).1;refine Aa.p (GW _ _) (mr q e3 ?_).1
    (refine FB rJ [] ?_ ?_<;>first|with_reducible rfl|(simp[hv,BB,c0];done)|rfl)
def N_ (s:RS) (hs:Ak s):Ct Tryz.prog 166 [cv s] [] (λ_=>.tup [cv s.vint.1,uA s.vint.2]) [] (λ_=>[]):=(UU s hs).toCt cl cl
def XY (s:RS) (m:Int) (hs:Ak s):Ct prog 165 [cv s,uA m] [] (λ_=>.tup [cv (s.most m).1,uA (s.most m).2]) [] (λ_=>[]):=by
 refine Ah.toCt ?_ cl cl
 refine RM func165 Adq ?_
 refine Cp (N_ s hs) ?_;refine Av (λh=>?_) (λh=>?_)
 ·have h':m<s.vint.2:=Sx h
  refine (mp ?_).1;refine Cp (EQ _ _ _) ?_
  exact FK Adq [] (by simp[RS.most,h'])
 ·have h':¬m<s.vint.2:=Sx h
  refine (mp ?_).1
  exact FK Adq [] (by simp[RS.most,h'])
def eI (s:RS) (m:Int) (m1:m<9223372036854775808) (hs:Ak s):Ct prog 93 [cv s,iA m] [] (λ_=>.tup [cv (s.int m).1,iA (s.int m).2]) [] (λ_=>[]):=by
 refine Ah.toCt ?_ cl cl
 refine RM func93 b93 ?_
 refine Av (λh=>?_) (λh=>?_)
 ·have h':0≤m:=Sx h
  have e:IntKind.u64.wrap m=m:=u64_in _ Om;have hr:=Ka (m:=m) hs.bys h';have e2:IntKind.i64.wrap (s.most m).2=(s.most m).2:=i64_in _ Om;refine (mq e ?_).1;refine Aa.p (XY s m hs) (mq e2 ?_).1
  exact FK b93 [] (by simp[RS.int,h'])
 ·have h':¬0≤m:=Sx h
  refine (mp ?_).1;refine Cp (N_ s hs) ?_;refine Cp (EQ _ _ _) ?_
  exact FK b93 [] (by simp[RS.int,h'])
abbrev LG (l:List Int):AV:=.sl .none 1 (A0 .u64 l)
def FH (l:List Int) (i:Nat) (h:i<l.length):(A0 .u64 l).getD (i:Int).toNat .any=uA (l.getD i 0):=by
 rw[Int.toNat_natCast];exact Cy .u64 l i h
def El (k:IntKind) (l:List Int) (z:Int):A0 k l++[.lit (.int k z)]=A0 k (l++[z]):=by simp[A0]
def Au {s:RS} (h:¬s.code=0):s.good=false:=by simp[RS.good,h]
def AR {s:RS} (h:s.code=0):s.good=true:=by simp[RS.good,h]
def US (l m:List Int) (hn:l.length≤140737488355328):Ah prog 88 [LG l,LG m] [] (bA (BJ l m)) []:=by
 refine RN func88 b88 ?_;refine (mq @Ab ?_).1
 refine Av (λh=>?_) (λh=>?_)
 ·have hne:BJ l m=false:=by
   unfold BJ;simp at h ⊢;intro e;subst e;exact h rfl
  refine (mp ?_).1
  exact FE b88 [] hne
 ·have hlen:l.length=m.length:=by
   have h':(l.length:Int)=m.length:=Sx h
   omega
  refine (mp ?_).1;refine AA (α:=Nat) (λk=>LG l::LG m::.any::.any::.any::iA k::Az (Ay [])) (λ_=>[]) (λk=>k≤l.length∧l.take k=m.take k) (λk=>l.length-k) 0 ⟨Si,Si⟩ (Wk.to Si (by simp[BS])) ?_;rintro k ⟨hk,ht⟩;refine (mq @Ab ?_).1;refine Av (λh=>?_) (λh=>?_)
  ·have hlt:k<l.length:=Sx h
   have g1:=FH l k hlt;have g2:=FH m k Om;have ei:IntKind.i64.wrap ((k:Int)+1)=((k+1:Nat):Int):=by rw[i64_in _ Om];omega
   refine (ms g1 g2 @Ab ?_).1;(repeat with_reducible refine Sa ?_);refine Av (λh=>?_) (λh=>?_)
   ·have hx:l.getD k 0≠m.getD k 0:=Sx h
    have hne:BJ l m=false:=by unfold BJ;simp only[decide_eq_false_iff_not];rintro rfl;exact hx rfl
    refine (mp ?_).1
    exact FE b88 [] hne
   ·have hx:l.getD k 0=m.getD k 0:=Sx h
    refine (mq ei ?_).1;refine⟨k+1,⟨hlt,?_⟩,Om,Wk.to Si (by simp[BS])⟩;rw[FO l k hlt,FO m k Om,ht,hx]
  ·have hk':k=l.length:=by simp at h;omega
   have he:BJ l m=true:=by
    unfold BJ;rw[hk',take_length,take_of_length_le Om]at ht;simpa using ht
   refine (mp ?_).1
   exact FE b88 [] he
def N9 (l m:List Int) (hn:l.length≤140737488355328):Ct Tryz.prog 88 [LG l,LG m] [] (λ_=>bA (BJ l m)) [] (λ_=>[]):=(US l m hn).toCt cl CN
abbrev IE (i:Nat) (l:List Int):AV:=.sl (.row i) 1 (A0 .u8 l)
def mx0 (n:Int):(if(0:Int)>n then 0 else n)=max n 0:=by split<;>omega
def mn (n k:Int):(if k<n then k else n)=min n k:=by split<;>omega
def FM {β:Type} (b:List β) (h:b.length<18446744073709551616):IntKind.u64.wrap (b.length:Int)=(b.length:Int):=u64_in _ Om
def Aw (k:Nat) (h:k<140737488355329):IntKind.i64.wrap ((k:Int)+1)=((k+1:Nat):Int):=by rw[i64_in _ Om];omega
def jK (s:WS) (b:List Int) (hs:s.fine) (hb:b.length≤140737488355328):Ah prog 228 [.ref 0 0,Bd .u8 b] [B0 1 s,AX s] (.tup []) [B0 1 ((s.put (vb b.length)).put b),AX ((s.put (vb b.length)).put b)]:=by
 have e:=FM b Om;refine RN func228 Agl ?_;refine (mr @Ab e ?_).1
 refine Aa.u2 (Br s b.length 0 1 De Om Om hs.ok (hs.room _)) rfl rfl (mp ?_).1;refine Aa.u2 (BV _ b 0 1 De (hs.put _).ok ((hs.put _).room _)) rfl rfl (mp ?_).1;exact FA Agl [0,1]
def WT (s:WS) (b:List Int) (i j:Nat) (h:i≠j) (hs:s.fine) (hb:b.length≤140737488355328):Ct prog 228 [.ref i 0,Bd .u8 b] [(i,B0 j s),(j,AX s)] (λ_=>.tup []) [(i,B0 j ((s.put (vb b.length)).put b)),(j,AX ((s.put (vb b.length)).put b))] (λ_=>[]):=Ct.u2 (jK s b hs hb) i j h cl cl cl cl cl (Bx _ _) (Bg _) CN
def ZE (s:RS) (m:Int) (m1:m<9223372036854775808) (hs:Ak s):Ah prog 137 [.ref 0 0,iA m] [AN s] (Bd .u8 (s.blob m).2) [AN (s.blob m).1]:=by
 refine RM func137 Ahl ?_
 refine Cu (AS s m 0 m1 hs.ok hs.bys) rfl ?_;refine Cu (CF _ _ 0 (hs.int m).1.ok) rfl ?_
 exact FK Ahl [0] (by simp[RS.blob])
def E3 (s:RS) (m:Int) (i:Nat) (m1:m<9223372036854775808) (hs:Ak s):Ct prog 137 [.ref i 0,iA m] [(i,AN s)] (λ_=>Bd .u8 (s.blob m).2) [(i,AN (s.blob m).1)] (λ_=>[]):=Ct.u1 (ZE s m m1 hs) i CN (λρ=>An ρ s) (λρ=>An ρ _) (rdr_dead s) cl
def JC (n:Int) (n1:n≤4611686018427387904):Ct prog 198 [iA n] [] (λ_=>iA ((vb (max n 0)).length+max n 0)) [] (λ_=>[]):=by
 refine Ah.toCt ?_ CN CN
 have e0:=mx0 n;have e1:IntKind.u64.wrap (max n 0)=max n 0:=u64_in _ Om;have hv:=(A7 (max n 0)).2;have e2:IntKind.i64.wrap (((vb (max n 0)).length:Int)+max n 0)=(vb (max n 0)).length+max n 0:=i64_in _ Om;refine RN func198 Agx ?_;refine (mr e0 e1 ?_).1
 refine Aa.p (C0 (max n 0) Om Om) (mq e2 ?_).1;exact FA Agx []
def Yc (i:Nat) (hi:i≤7) (x c:Int) (h0:0≤x) (h1:x<256^i) (c0:0≤c) (c1:c<256):
 Cv .or .u64 x (IntKind.u64.wrap (IntKind.u64.wrap c*2^min (8*(i:Int)).toNat 64))=x+256^i*c:=by
 obtain⟨n,rfl⟩:=Int.eq_ofNat_of_zero_le c0;obtain⟨m,rfl⟩:=Int.eq_ofNat_of_zero_le h0;have e2:min (8*(i:Int)).toNat 64=8*i:=Om
 have e1:IntKind.u64.wrap (n:Int)=n:=u64_in _ Om;have hp:(2:Int)^(8*i)=256^i:=by rw[Int.pow_mul];rfl
 have hpos:(0:Int)<256^i:=Int.pow_pos Om;have hcast:((256^i:Nat):Int)=256^i:=by rw[Int.natCast_pow];rfl
 have h1':m<256^i:=Om
 have hB:n*256^i<18446744073709551616:=by
  have:i=0∨i=1∨i=2∨i=3∨i=4∨i=5∨i=6∨i=7:=Om
  rcases this with rfl|rfl|rfl|rfl|rfl|rfl|rfl|rfl<;>simp<;>omega
 have hm:(m:Int)<18446744073709551616:=by
  have:i=0∨i=1∨i=2∨i=3∨i=4∨i=5∨i=6∨i=7:=Om
  rcases this with rfl|rfl|rfl|rfl|rfl|rfl|rfl|rfl<;>simp at h1<;>omega
 have e0:(n:Int)*256^i=((n*256^i:Nat):Int):=by rw[Int.natCast_mul,hcast]
 have e3:IntKind.u64.wrap ((n:Int)*2^(8*i))=((n*256^i:Nat):Int):=by
  rw[hp,e0];exact u64_in _ Om
 rw[e2,e1,e3];show bits .or .u64 (m:Int) _=_;rw[u64_or_nat m _ Om hB];have e4:m|||n*256^i=n*256^i+m:=by
  rw[Nat.or_comm];have q:(2:Nat)^(8*i)=256^i:=by rw[Nat.pow_mul]
  exact nat_join (8*i) _ _ (by rw[q];exact Nat.mul_mod_left _ _) (by rw[q];exact h1')
 rw[e4,Int.natCast_add,←e0,Int.mul_comm,Int.add_comm]
def pI (b:List Int) (k:Nat) (h:k<b.length):Bm (b.take (k+1))=Bm (b.take k)+256^k*b.getD k 0:=by
 have hl:(b.take k).length=k:=by simp;omega
 rw[FO b k h,Y2,hl]
def Nd (s:RS) (n:Int) (hs:Ak s):Ah prog 68 [.ref 0 0,iA n] [AN s] (uA (s.fixed (min (max n 0) 8)).2) [AN (s.fixed (min (max n 0) 8)).1]:=by
 have e0:=mx0 n;have e1:=mn (max n 0) 8;unfold RS.fixed;obtain⟨m,hm⟩:∃m,min (max n 0) 8=m:=⟨_,rfl⟩;have hm8:m≤8:=Om
 rw[hm]at e1 ⊢;have htl:(s.take m).2.length≤8:=by
  by_cases hc:(s.take m).1.code=0
  ·have:=(Be hs hc).2.2.1;omega
  ·rw[GR hc];simp
 have htb:=Dw hs.bys m;refine RN func68 b68 ?_;refine (mr e0 e1 ?_).1
 refine Aa.u1 (CF s m 0 hs.ok) rfl ?_;generalize(s.take m).1=t at*;generalize(s.take m).2=b at*;refine (mq @Ab ?_).1;refine AA (α:=Nat) (λk=>Ay (.any::uA (Bm (b.take k))::.any::.any::.any::.any::.any::.any::Bd .u8 b::iA b.length::iA k::Ay (Ay (Ay [.any])))) (λ_=>[AN t]) (λk=>k≤b.length) (λk=>b.length-k) 0 Si (Wk.forget (by simp[BS,Bm])) ?_;intro k hk;refine (mp ?_).1;refine Av (λh=>?_) (λh=>?_)
 ·have hlt:k<b.length:=Sx h
  have g:=It b k Om Om;rw[Int.toNat_natCast]at g;have hr:=Fp (l:=b.take k) λx hx=>htb x (mem_of_mem_take hx)
  have hkl:(b.take k).length=k:=by simp;omega
  rw[hkl]at hr;have hc:=htb _ (CU b k hlt);have eo:=Yc k Om (Bm (b.take k)) (b.getD k 0) hr.1 hr.2 hc.1 hc.2;have em:IntKind.i64.wrap (8*(k:Int))=8*k:=i64_in _ Om;rw[←pI b k hlt]at eo;have ei:=Aw k Om;simp only[go_sem,seval,g,Ab,Int.toNat_natCast,em,eo,ei];refine (mok ?_).1;(repeat with_reducible refine Sa ?_);exact⟨k+1,hlt,Om,Wk.to Si (by simp[BS])⟩
 ·have ek:k=b.length:=by simp at h;omega
  refine (mp ?_).1
  exact FE b68 [0] ek
def CW (s:RS) (n:Int) (i:Nat) (hs:Ak s):Ct prog 68 [.ref i 0,iA n] [(i,AN s)] (λ_=>uA (s.fixed (min (max n 0) 8)).2) [(i,AN (s.fixed (min (max n 0) 8)).1)] (λ_=>[]):=Rc (Nd s n hs) i
def QW (s:WS) (l:List Int) (k:Nat) (h:k<l.length):(s.puts (l.take k)).put (vb (l.getD k 0))=s.puts (l.take (k+1)):=by
 rw[FO l k h,Rb]
def N8 (s:RS) (m:Int) (m1:m<9223372036854775808) (hs:Ak s):Ct prog 38 [cv s,iA m] [] (λ_=>.tup [cv (s.blob m).1,Bd .u8 (s.blob m).2]) [] (λ_=>[]):=by
 refine Ah.toCt ?_ cl cl
 refine RM func38 b38 ?_
 refine Cp (eI s m m1 hs) ?_;refine Cp (Oa _ _ (hs.int m).1.ok) ?_
 exact FK b38 [] (by simp[RS.blob])
def Y1 (b:List Int) (k:Nat) (h:k<b.length):Bm (b.drop k)=b.getD k 0+256*Bm (b.drop (k+1)):=by
 rw[Hm h];rfl
def WK {b:List Int} (h:AW b) (k:Nat):AW (b.drop k):=λx hx=>h x (mem_of_mem_drop hx)
def vA (k:Nat) (h:k≤8):(256:Int)^k≤18446744073709551616:=by
 have:k=0∨k=1∨k=2∨k=3∨k=4∨k=5∨k=6∨k=7∨k=8:=Om
 rcases this with rfl|rfl|rfl|rfl|rfl|rfl|rfl|rfl|rfl<;>simp
def Sq (s:RS) (n:Int) (hs:Ak s):Ah prog 39 [cv s,iA n] [] (.tup [cv (s.fixed (min (max n 0) 8)).1,uA (s.fixed (min (max n 0) 8)).2]) []:=by
 have e0:=mx0 n;have e1:=mn (max n 0) 8;unfold RS.fixed;obtain⟨m,hm⟩:∃m,min (max n 0) 8=m:=⟨_,rfl⟩;have hm8:m≤8:=Om
 rw[hm]at e1 ⊢;have htl:(s.take m).2.length≤8:=by
  by_cases hc:(s.take m).1.code=0
  ·have:=(Be hs hc).2.2.1;omega
  ·rw[GR hc];simp
 have htb:=Dw hs.bys m;refine RN func39 b39 ?_;refine (mr e0 e1 ?_).1
 refine Aa.p (Oa s m hs.ok) ?_;generalize(s.take m).1=t at*;generalize(s.take m).2=b at*;have ei:IntKind.i64.wrap ((b.length:Int)-1)=b.length-1:=i64_in _ Om;refine (mr @Ab ei ?_).1;refine AA (α:=Nat) (λk=>Ay (.ref 1 0::.any::.ref 2 0::Bd .u8 b::uA (Bm (b.drop k))::iA ((k:Int)-1)::Az (Ay (Ay [.any])))) (λ_=>[.cells [Bd .u8 s.l,iA s.at_,iA s.code,iA s.fat],.cells [.sl .full 1 [],iA 0,iA 0,iA 0],.cells [Bd .u8 t.l,iA t.at_,iA t.code,iA t.fat]]) (λk=>k≤b.length) (λk=>k) b.length (Nat.le_refl _) (Wk.to Si (by simp[BS,Bm])) ?_;intro k hk;refine (mp ?_).1;refine Av (λh=>?_) (λh=>?_)
 ·obtain⟨j,rfl⟩:∃j,k=j+1:=⟨k-1,by simp at h;omega⟩;have ej:((j+1:Nat):Int)-1=j:=Om
  have g:=It b j Om Om;rw[Int.toNat_natCast]at g;have hr:=Fp (WK htb j);have hc:=htb _ (CU b j Om);have hd:=Y1 b j Om;have hl:(b.drop j).length≤8:=by simp;omega
  have hp:=vA _ hl;have hr2:=(Fp (WK htb (j+1))).1;have ew:IntKind.u64.wrap (256*Bm (b.drop (j+1)))=256*Bm (b.drop (j+1)):=u64_in _ Om;have ec:IntKind.u64.wrap (b.getD j 0)=b.getD j 0:=u64_in _ Om;have ea:IntKind.u64.wrap (256*Bm (b.drop (j+1))+b.getD j 0)=Bm (b.drop j):=by rw[u64_in _ Om,hd];omega
  have ek:IntKind.i64.wrap ((j:Int)-1)=(j:Int)-1:=i64_in _ Om;simp only[go_sem,seval,ej,g,Int.toNat_natCast,ew,ec,ea,ek,Ab];refine (mok ?_).1;(repeat with_reducible refine Sa ?_);exact⟨j,Om,Om,Wk.to Si (by simp[BS])⟩
 ·have ek:k=0:=by simp at h;omega
  subst ek;refine (mp ?_).1;exact FA b39 []
def Mo (s:RS) (n:Int) (hs:Ak s):Ct Tryz.prog 39 [cv s,iA n] [] (λ_=>.tup [cv (s.fixed (min (max n 0) 8)).1,uA (s.fixed (min (max n 0) 8)).2]) [] (λ_=>[]):=(Sq s n hs).toCt cl cl
def x9 (x:Int) (k:Nat):x/256^k/256=x/256^(k+1):=by
 have hp:(0:Int)<256^k:=Int.pow_pos Om;rw[Int.ediv_ediv_of_nonneg Om,Int.pow_succ]
def X8 (x n:Int) (h0:0≤x) (h1:x<18446744073709551616):Ah prog 194 [uA x,iA n] [] (Bd .u8 (Ap (min (max n 0) 8).toNat x)) []:=by
 have e0:=mx0 n;have e1:=mn (max n 0) 8;obtain⟨m,hm⟩:∃m:Nat,(min (max n 0) 8).toNat=m:=⟨_,rfl⟩;have hm8:m≤8:=Om
 have hm':min (max n 0) 8=(m:Int):=Om
 rw[hm']at e1;rw[hm];refine RN func194 Agz ?_;refine (mr e0 e1 ?_).1
 refine AA (α:=Nat) (λk=>uA (x/256^k)::.any::.any::.any::.any::IE 0 (Ap k x)::.any::.any::iA m::iA k::Ay (Ay [.any,.any,.any])) (λk=>[.row 1 k]) (λk=>k≤m) (λk=>m-k) 0 Si ((Wk.row 5 1 rfl (.inl rfl) (Nat.le_refl _)).trans (Wk.to Si (by simp[BS,A0,Ap]))) ?_;intro k hk;have hq0:0≤x/256^k:=Int.ediv_nonneg h0 (Int.le_of_lt (Int.pow_pos Om));have hq1:x/256^k≤x:=Int.ediv_le_self _ h0;have hd:=x9 x k;have hs:=Qa k x;have hl:=BN k x;refine (mp ?_).1;refine Av (λh=>?_) (λh=>?_)
 ·have hlt:k<m:=Sx h
  obtain⟨y,hy⟩:∃y,x/256^k=y:=⟨_,rfl⟩;rw[hy]at hq0 hq1 hd hs;have em:y.tmod 256=y%256:=Int.tmod_eq_emod_of_nonneg hq0;have eu:IntKind.u8.wrap (y%256)=y%256:=IntWalk.u8_in _ Om;have ed:IntKind.u64.wrap (y.tdiv 256)=x/256^(k+1):=by rw[Int.tdiv_eq_ediv_of_nonneg hq0,u64_in _ Om,hd]
  have ei:=Aw k Om;simp only[go_sem,seval,hy,em,eu,ed,ei,El,←hs,Ab,hl];refine (mok ?_).1;(repeat with_reducible refine Sa ?_);exact⟨k+1,hlt,Om,Wk.to Si (by simp[BS])⟩
 ·have ek:k=m:=by simp at h;omega
  refine (mp ?_).1;refine UT 4 ?_
  exact FE Agz [] ek
def Rd (x n:Int) (h0:0≤x) (h1:x<18446744073709551616):Ct Tryz.prog 194 [uA x,iA n] [] (λ_=>Bd .u8 (Ap (min (max n 0) 8).toNat x)) [] (λ_=>[]):=(X8 x n h0 h1).toCt cl cl
def QJ (s:WS) (x n:Int) (h0:0≤x) (h1:x<18446744073709551616) (hs:s.fine):Ah prog 195 [.ref 0 0,uA x,iA n] [B0 1 s,AX s] (.tup []) [B0 1 (s.put (Ap (min (max n 0) 8).toNat x)),AX (s.put (Ap (min (max n 0) 8).toNat x))]:=by
 refine RM func195 Agy ?_
 refine Cp (Rd x n h0 h1) ?_;refine Aa.u2 (BV s _ 0 1 De hs.ok (hs.room _)) rfl rfl (mp ?_).1;exact FA Agy [0,1]
def H1 (s:WS) (x n:Int) (i j:Nat) (h:i≠j) (h0:0≤x) (h1:x<18446744073709551616) (hs:s.fine):Ct prog 195 [.ref i 0,uA x,iA n] [(i,B0 j s),(j,AX s)] (λ_=>.tup []) [(i,B0 j (s.put (Ap (min (max n 0) 8).toNat x))),(j,AX (s.put (Ap (min (max n 0) 8).toNat x)))] (λ_=>[]):=Ct.u2 (QJ s x n h0 h1 hs) i j h cl cl cl cl cl (Bx _ _) (Bg _) CN
abbrev tkA (t:Tk):AV:=.agg [Bd .u8 t.lit,iA t.off,iA t.len]
def PM (l:List Tk):List AV:=l.map tkA
abbrev slT (l:List Tk):AV:=.sl .none 3 (PM l)
@[simp] theorem Z8 (ρ:Nat->Nat) (l:List Tk):(PM l).map (λx=>x.ren ρ)=PM l:=by simp[PM,AE]
@[simp] theorem ren_ints_t (ρ:Nat->Nat) (k:IntKind) (l:List Int):(A0 k l).map (λx=>x.ren ρ)=A0 k l:=AM ρ k l
def EN (l:List Tk):(PM l).length=l.length:=by simp[PM]
def tK:PM []=[]:=(rfl)
def Ut (l:List Tk) (t:Tk):PM l++[tkA t]=PM (l++[t]):=by simp[PM]
def kU (l:List Tk) (k:Nat) (h:k<l.length):(PM l).getD k .any=tkA (l.getD k ZX):=by simp[PM,h]
def ZV (l:List Tk) (k:Nat) (h:k<l.length):(PM l).getD (k:Int).toNat .any=tkA (l.getD k ZX):=by
 rw[Int.toNat_natCast];exact kU l k h
def Aba (l:List Tk) (k:Nat) (h:k<l.length):l.getD k ZX∈l:=by simp[h]
def ZW (l:List Tk) (k:Nat) (h:k<l.length):l.take (k+1)=l.take k++[l.getD k ZX]:=by
 rw[take_succ_eq_append_getElem h];simp[h]
def Uo (t:Tk):Ct prog 257 [tkA t] [] (λ_=>bA t.right) [] (λ_=>[]):=by
 refine Ah.toCt ?_ cl cl
 refine RN func257 TN ?_;refine (mq @Ab ?_).1
 by_cases c0:t.off=0
 ·have q0:(t.off==0)=true:=Sx c0
  have hcp:t.copy=false:=by simp[Tk.copy,c0]
  have hr:t.right=t.run:=by simp[Tk.right,hcp]
  by_cases c1:t.len=0
  ·have q1:(t.len==0)=true:=Sx c1
   by_cases c2:1≤(t.lit.length:Int)
   ·have q2:decide (1≤(t.lit.length:Int))=true:=Sx c2
    have e:decide ((t.lit.length:Int)≤1048576)=t.run:=by rw[Bool.eq_iff_iff,FJ,decide_eq_true_eq];omega
    simp only[go_sem,seval,q0,q1,q2,Ab,e];refine (mok ?_).1
    exact FE TN [] hr
   ·have q2:decide (1≤(t.lit.length:Int))=false:=Sx c2
    have e:t.run=false:=by cases q:t.run with|false=>rfl|true=>have:=FJ.1 q;omega
    refine (ms q0 q1 q2 ?_).1
    exact FF TN [] hr e
  ·have q1:(t.len==0)=false:=Sx c1
   have e:t.run=false:=by cases q:t.run with|false=>rfl|true=>have:=FJ.1 q;omega
   refine (mr q0 q1 ?_).1
   exact FF TN [] hr e
 ·have q0:(t.off==0)=false:=Sx c0
  have hrn:t.run=false:=by simp[Tk.run,c0]
  have hr:t.right=t.copy:=by simp[Tk.right,hrn]
  by_cases c1:0<(t.lit.length:Int)
  ·have q1:decide (0<(t.lit.length:Int))=true:=Sx c1
   have e:t.copy=false:=by cases q:t.copy with|false=>rfl|true=>have:=DF.1 q;rw[this.1]at c1;simp at c1
   refine (mr q0 q1 ?_).1
   exact FF TN [] hr e
  ·have q1:decide (0<(t.lit.length:Int))=false:=Sx c1
   have hlit:t.lit=[]:=eq_nil_of_length_eq_zero Om;by_cases c2:t.off<0
   ·have q2:decide (t.off<0)=true:=Sx c2
    have e:t.copy=false:=by cases q:t.copy with|false=>rfl|true=>have:=DF.1 q;omega
    refine (ms q0 q1 q2 ?_).1
    exact FF TN [] hr e
   ·have q2:decide (t.off<0)=false:=Sx c2
    by_cases c3:65536<t.off
    ·have q3:decide (65536<t.off)=true:=Sx c3
     have e:t.copy=false:=by cases q:t.copy with|false=>rfl|true=>have:=DF.1 q;omega
     refine (mt q0 q1 q2 q3 ?_).1
     exact FF TN [] hr e
    ·have q3:decide (65536<t.off)=false:=Sx c3
     by_cases c4:4≤t.len
     ·have q4:decide (4≤t.len)=true:=Sx c4
      have e:decide (t.len≤1048576)=t.copy:=by rw[Bool.eq_iff_iff,DF,decide_eq_true_eq];exact⟨λh=>⟨hlit,Om,Om,c4,h⟩,λh=>h.2.2.2.2⟩
      simp only[go_sem,seval,q0,q1,q2,q3,q4,e];refine (mok ?_).1
      exact FE TN [] hr
     ·have q4:decide (4≤t.len)=false:=Sx c4
      have e:t.copy=false:=by cases q:t.copy with|false=>rfl|true=>have:=DF.1 q;omega
      simp only[go_sem,seval,q0,q1,q2,q3,q4];refine (mok ?_).1
      exact FF TN [] hr e
def WS.tok (s:WS) (t:Tk):WS:=if t.right=true then(if t.run=true then(s.put (vb (2*t.lit.length-2))).put t.lit else(s.put (vb (2*t.len-7))).put (vb (t.off-1)))else s.fail 3
def WS.fine.tok {s:WS} (h:s.fine) (t:Tk):(s.tok t).fine:=by
 unfold WS.tok;split
 ·split
  ·exact(h.put _).put _
  ·exact(h.put _).put _
 ·exact h.fail 3
def Xq (s:WS) (t:Tk) (hs:s.fine):Ah prog 251 [.ref 0 0,tkA t] [B0 1 s,AX s] (.tup []) [B0 1 (s.tok t),AX (s.tok t)]:=by
 refine RM func251 yT ?_
 refine Aa.p (Uo t) ?_;cases hr:t.right
 ·refine (mq hr ?_).1;refine Aa.u2 (Cj s 3 0 1 De) rfl rfl (mp ?_).1
  exact FK yT [0,1] (by simp[WS.tok,hr])
 ·by_cases c0:t.off=0
  ·have q0:(t.off==0)=true:=Sx c0
   have hcp:t.copy=false:=by simp[Tk.copy,c0]
   have hrn:t.run=true:=by simpa[Tk.right,hcp]using hr
   have hri:=FJ.1 hrn;have e1:IntKind.i64.wrap ((t.lit.length:Int)-1)=t.lit.length-1:=i64_in _ Om;have e2:IntKind.u64.wrap ((t.lit.length:Int)-1)=t.lit.length-1:=u64_in _ Om;have e3:IntKind.u64.wrap (((t.lit.length:Int)-1)*2)=2*t.lit.length-2:=by rw[u64_in _ Om];omega
   simp only[go_sem,seval,hr,q0,Ab,e1,e2,e3];refine (mok ?_).1;refine Aa.u2 (Br s (2*t.lit.length-2) 0 1 De Om Om hs.ok (hs.room _)) rfl rfl (mp ?_).1;refine Aa.u2 (BV _ t.lit 0 1 De (hs.put _).ok ((hs.put _).room _)) rfl rfl (mp ?_).1
   exact FK yT [0,1] (by simp[WS.tok,hr,hrn])
  ·have q0:(t.off==0)=false:=Sx c0
   have hrn:t.run=false:=by simp[Tk.run,c0]
   have hcp:t.copy=true:=by simpa[Tk.right,hrn]using hr
   have hci:=DF.1 hcp;have e1:IntKind.i64.wrap (t.len-4)=t.len-4:=i64_in _ Om;have e2:IntKind.u64.wrap (t.len-4)=t.len-4:=u64_in _ Om;have e3:IntKind.u64.wrap ((t.len-4)*2)=(t.len-4)*2:=u64_in _ Om;have e4:IntKind.u64.wrap ((t.len-4)*2+1)=2*t.len-7:=by rw[u64_in _ Om];omega
   have e5:IntKind.i64.wrap (t.off-1)=t.off-1:=i64_in _ Om;have e6:IntKind.u64.wrap (t.off-1)=t.off-1:=u64_in _ Om;simp only[go_sem,seval,hr,q0,e1,e2,e3,e4];refine (mok ?_).1;refine Aa.u2 (Br s (2*t.len-7) 0 1 De Om Om hs.ok (hs.room _)) rfl rfl (mr e5 e6 ?_).1;refine Aa.u2 (Br _ (t.off-1) 0 1 De Om Om (hs.put _).ok ((hs.put _).room _)) rfl rfl (mp ?_).1
   exact FK yT [0,1] (by simp[WS.tok,hr,hrn])
def cM (s:WS) (t:Tk) (i j:Nat) (h:i≠j) (hs:s.fine):Ct prog 251 [.ref i 0,tkA t] [(i,B0 j s),(j,AX s)] (λ_=>.tup []) [(i,B0 j (s.tok t)),(j,AX (s.tok t))] (λ_=>[]):=Ct.u2 (Xq s t hs) i j h cl cl cl cl cl (Bx _ _) (Bg _) CN
def Up (s:RS) (hs:Ak s):Ah prog 224 [.ref 0 0] [AN s] (.tup [bA s.thead.2.1,iA s.thead.2.2]) [AN (s.thead.1)]:=by
 have hv:=A8 (s:=s) hs.bys;refine RM func224 jO ?_
 refine Cr (AF s 0) rfl ?_;refine Cu (BI s 0 hs.ok hs.bys) rfl ?_;refine Aa.r1 (Ae s.vint.1 0) rfl ?_;by_cases hc:s.vint.1.code=0
 ·have⟨x,hx⟩:=Ex s.vint.2;rw[hx]at hv;have em:x.tmod 2=x%2:=Int.tmod_eq_emod_of_nonneg hv.1;have ed:IntKind.u64.wrap (x.tdiv 2)=x/2:=by rw[Int.tdiv_eq_ediv_of_nonneg hv.1,u64_in _ Om]
  have e1:IntKind.i64.wrap (1048576-4)=1048572:=rfl;have e2:IntKind.i64.wrap (1048576-1)=1048575:=rfl;have e3:IntKind.u64.wrap 1048572=1048572:=rfl;have e4:IntKind.u64.wrap 1048575=1048575:=rfl;have e3':IntKind.i64.wrap 1048572=1048572:=rfl;have e4':IntKind.i64.wrap 1048575=1048575:=rfl;have eh:s.thead=if x%2=1 then(if 1048572<x/2 then(s.vint.1.fail 2 s.at_,false,0)else(s.vint.1,true,x/2+4))else(if 1048575<x/2 then(s.vint.1.fail 2 s.at_,false,0)else(s.vint.1,false,x/2+1)):=by
   unfold RS.thead;rw[if_pos hc,hx]
  by_cases c1:x%2=1
  ·have q1:(x%2==1)=true:=Sx c1
   rw[if_pos c1]at eh;by_cases c2:1048572<x/2
   ·have q2:decide (1048572<x/2)=true:=Sx c2
    rw[if_pos c2]at eh;simp only[go_sem,seval,AR hc,hx,em,ed,q1,e1,e3,e3',q2];refine (mok ?_).1;refine (Sr ?_).1;refine Cu (Aj s.vint.1 2 s.at_ 0) rfl ?_
    exact FE jO [0] eh
   ·have q2:decide (1048572<x/2)=false:=Sx c2
    rw[if_neg c2]at eh;have e5:IntKind.i64.wrap (x/2)=x/2:=i64_in _ Om;have e6:IntKind.i64.wrap (x/2+4)=x/2+4:=i64_in _ Om;simp only[go_sem,seval,AR hc,hx,em,ed,q1,e1,e3,e3',q2,e5,e6];refine (mok ?_).1;refine (Sr ?_).1
    exact FE jO [0] eh
  ·have q1:(x%2==1)=false:=Sx c1
   rw[if_neg c1]at eh;by_cases c2:1048575<x/2
   ·have q2:decide (1048575<x/2)=true:=Sx c2
    rw[if_pos c2]at eh;simp only[go_sem,seval,AR hc,hx,em,ed,q1,e2,e4,e4',q2];refine (mok ?_).1;refine (Sr ?_).1;refine Cu (Aj s.vint.1 2 s.at_ 0) rfl ?_
    exact FE jO [0] eh
   ·have q2:decide (1048575<x/2)=false:=Sx c2
    rw[if_neg c2]at eh;have e5:IntKind.i64.wrap (x/2)=x/2:=i64_in _ Om;have e6:IntKind.i64.wrap (x/2+1)=x/2+1:=i64_in _ Om;simp only[go_sem,seval,AR hc,hx,em,ed,q1,e2,e4,e4',q2,e5,e6];refine (mok ?_).1;refine (Sr ?_).1
    exact FE jO [0] eh
 ·have eh:s.thead=(s.vint.1,false,0):=by unfold RS.thead;rw[if_neg hc]
  refine (mq (Au hc) ?_).1
  exact FE jO [0] eh
def Xr (s:RS) (i:Nat) (hs:Ak s):Ct prog 224 [.ref i 0] [(i,AN s)] (λ_=>.tup [bA s.thead.2.1,iA s.thead.2.2]) [(i,AN (s.thead.1))] (λ_=>[]):=Ct.u1 (Up s hs) i cl (λρ=>An ρ _) (λρ=>An ρ _) (rdr_dead _) cl
def PR (s:RS) (hs:Ak s):Ah prog 225 [.ref 0 0] [AN s] (iA s.toff.2) [AN (s.toff.1)]:=by
 have hv:=A8 (s:=s) hs.bys;refine RM func225 yW ?_
 refine Cr (AF s 0) rfl ?_;refine Cu (BI s 0 hs.ok hs.bys) rfl ?_;have⟨x,hx⟩:=Ex s.vint.2;rw[hx]at hv;by_cases c:65536≤x
 ·have q:decide (65536≤x)=true:=Sx c
  by_cases hc:s.vint.1.code=0
  ·have eh:s.toff=(s.vint.1.fail 10 s.at_,0):=by unfold RS.toff;rw[if_pos hc,hx,if_pos c]
   have hno:=Jq (s:=s.vint.1) (c:=10) (a:=s.at_) hc De;refine (mr hx q ?_).1;refine Cu (Aj s.vint.1 10 s.at_ 0) rfl ?_;refine Aa.r1 (Ae _ 0) rfl (mq (Au hno) ?_).1
   exact FE yW [0] eh
  ·have:=Lu hc;omega
 ·have q:decide (65536≤x)=false:=Sx c
  refine (mr hx q ?_).1;refine Aa.r1 (Ae s.vint.1 0) rfl ?_;by_cases hc:s.vint.1.code=0
  ·have eh:s.toff=(s.vint.1,x+1):=by unfold RS.toff;rw[if_pos hc,hx,if_neg c]
   have e1:IntKind.i64.wrap x=x:=i64_in _ Om;have e2:IntKind.i64.wrap (x+1)=x+1:=i64_in _ Om;refine (ms (AR hc) e1 e2 ?_).1
   exact FE yW [0] eh
  ·have eh:s.toff=(s.vint.1,0):=by unfold RS.toff;rw[if_neg hc]
   refine (mq (Au hc) ?_).1
   exact FE yW [0] eh
def R9 (s:RS) (i:Nat) (hs:Ak s):Ct prog 225 [.ref i 0] [(i,AN s)] (λ_=>iA s.toff.2) [(i,AN (s.toff.1))] (λ_=>[]):=Ct.u1 (PR s hs) i cl (λρ=>An ρ _) (λρ=>An ρ _) (rdr_dead _) cl
def Qy (out:List Int) (off n:Int) (hn:n≤1048576) (ho:0<n->1≤off∧off≤out.length) (hl:out.length≤100000000000000):Ah prog 226 [IE 0 out,iA off,iA n] [.row 1 out.length] (IE 0 (C2 out off.toNat n.toNat)) [.row 1 (C2 out off.toNat n.toNat).length]:=by
 refine RM func226 Agm ?_
 refine AA (α:=Nat) (λk=>IE 0 (C2 out off.toNat k)::iA off::.any::.any::.any::.any::.any::iA n::iA k::Ay (Ay (Ay [.any]))) (λk=>[.row 1 (C2 out off.toNat k).length]) (λk=>k≤n.toNat) (λk=>n.toNat-k) 0 Si (Wk.to (by simp[C2]) (by simp[BS,C2])) ?_;intro k hk;have hal:=Md off.toNat k out;refine (mq @Ab ?_).1;by_cases hlt:(k:Int)<n
 ·have q:decide ((k:Int)<n)=true:=Sx hlt
  have⟨h1,h2⟩:=ho Om;have ei:=Aw k Om;have hs:=ZN off.toNat k out;obtain⟨m,hm⟩:∃m:Nat,(C2 out off.toNat k).length-off.toNat=m:=⟨_,rfl⟩;rw[hm]at hs;have e1:IntKind.i64.wrap (((C2 out off.toNat k).length:Int)-off)=(m:Int):=by rw[i64_in _ Om];omega
  have g:=It (C2 out off.toNat k) m Om Om;rw[Int.toNat_natCast]at g;have hsl:=congrArg List.length hs;rw[length_append,length_singleton]at hsl;simp only[go_sem,seval,q,e1,g,Int.toNat_natCast,Ab,El,←hs,ei];refine (mok ?_).1;(repeat with_reducible refine Sa ?_);exact⟨k+1,Om,Om,Wk.to (by simp;omega) (by simp[BS])⟩
 ·have q:decide ((k:Int)<n)=false:=Sx hlt
  have ek:k=n.toNat:=Om
  refine (mq q ?_).1
  exact FE Agm [0] ek
def Ts (out:List Int) (off n:Int) (i:Nat) (hn:n≤1048576) (ho:0<n->1≤off∧off≤out.length) (hl:out.length≤100000000000000):Ct prog 226 [IE i out,iA off,iA n] [(i,.row 1 out.length)] (λ_=>IE i (C2 out off.toNat n.toNat)) [(i,.row 1 (C2 out off.toNat n.toNat).length)] (λ_=>[]):=
 Ct.o1 (Qy out off n hn ho hl) i CN CN CN Si CN
def B4:List Tk->Int
 |[]=>0
 |t::l=>t.lit.length+20+B4 l
def XK (l:List Tk) (t:Tk):B4 (l++[t])=B4 l+t.lit.length+20:=by
 induction l with
 |nil=>simp[B4]
 |cons x l ih=>simp only[cons_append,B4,ih];omega
def N3 {l:List Tk} (h:∀t∈l,t.lit.length≤2000000):0≤B4 l∧B4 l≤2000020*l.length:=by
 induction l with
 |nil=>simp[B4]
 |cons x l ih=>
  have h1:=h x (mem_cons_self ..);have h2:=ih λt ht=>h t (mem_cons_of_mem _ ht)
  simp only[B4,length_cons];omega
def Us (t:Tk):(LA t).length≤t.lit.length+20:=by
 unfold LA;split
 ·have:=(A7 (2*(t.lit.length:Int)-2)).2;rw[length_append];omega
 ·have:=(A7 (2*t.len-7)).2;have:=(A7 (t.off-1)).2;rw[length_append];omega
def Xn (l:List Tk):((H3 l).length:Int)≤B4 l:=by
 induction l with
 |nil=>simp[H3,B4]
 |cons x l ih=>
  have:=Us x;have e:H3 (x::l)=LA x++H3 l:=by simp[H3]
  rw[e,length_append];simp only[B4];omega
def Aa2:(vb 18446744073709551615).length=10:=by kernel_rfl
def Um (l:List Tk) (hn:l.length≤2000000) (hl:∀t∈l,t.lit.length≤2000000):Ah prog 250 [slT l] [] (iA (B4 l)) []:=by
 refine RN func250 Agc ?_;refine (mq @EN ?_).1
 refine AA (α:=Nat) (λk=>.any::.any::.any::iA (B4 (l.take k))::.any::.any::slT l::iA l.length::iA k::Ay (Ay (Ay [.any]))) (λ_=>[]) (λk=>k≤l.length) (λk=>l.length-k) 0 Si (Wk.to Si (by simp[BS,B4])) ?_;intro k hk;refine (mp ?_).1;refine Av (λh=>?_) (λh=>?_)
 ·have hlt:k<l.length:=Sx h
  have g:=ZV l k hlt;have ei:=Aw k Om;have h1:=N3 (l:=l.take (k+1)) λt ht=>hl t (mem_of_mem_take ht)
  have hkl:(l.take (k+1)).length≤2000000:=by simp;omega
  have hx:=hl _ (Aba l k hlt);have hs:B4 (l.take (k+1))=B4 (l.take k)+(l.getD k ZX).lit.length+20:=by rw[ZW l k hlt,XK]
  obtain⟨t,ht⟩:∃t,l.getD k ZX=t:=⟨_,rfl⟩;rw[ht]at g hx hs;have e1:IntKind.i64.wrap (2*(((vb 18446744073709551615).length:Nat):Int))=20:=by rw[Aa2];rfl
  have e2:IntKind.i64.wrap ((t.lit.length:Int)+20)=t.lit.length+20:=i64_in _ Om;have es:IntKind.i64.wrap (B4 (l.take k)+((t.lit.length:Int)+20))=B4 (l.take (k+1)):=by rw[i64_in _ Om,hs];omega
  refine (ms g @EN @Ab ?_).1;(repeat with_reducible refine Sa ?_);refine Aa.p (C0 18446744073709551615 De De) (mt e1 e2 es ei ?_).1;exact⟨k+1,hlt,Om,Wk.sel [] Si rfl Si rfl Si (by simp[BP,AE])⟩
 ·have ek:k=l.length:=by simp at h;omega
  refine (mp ?_).1
  exact FE Agc [] ek
def Xo (l:List Tk) (hn:l.length≤2000000) (hl:∀t∈l,t.lit.length≤2000000):Ct Tryz.prog 250 [slT l] [] (λ_=>iA (B4 l)) [] (λ_=>[]):=(Um l hn hl).toCt cl cl
def WS.toks (s:WS) (l:List Tk):WS:=l.foldl WS.tok s
def cL (s:WS) (l:List Tk) (t:Tk):s.toks (l++[t])=(s.toks l).tok t:=by simp[WS.toks]
def WS.fine.toks {s:WS} (h:s.fine) (l:List Tk):(s.toks l).fine:=by
 induction l generalizing s with
 |nil=>exact h
 |cons x l ih=>exact ih (s:=s.tok x) (h.tok x)
def FZ (l:List Tk):Bool:=l.all Tk.right
def XM {l:List Tk}:FZ l=true↔∀t∈l,t.right=true:=by simp[FZ]
def aB {s:WS} {a b:List Int} (h:s.code=0) (hm:(s.l.length:Int)+(a++b).length≤s.most):(s.put a).put b=⟨s.most,s.l++(a++b),0⟩:=by
 rw[length_append]at hm;have e1:s.put a=⟨s.most,s.l++a,0⟩:=by rw[WS.put_ok h Om];cases s;simp at h;simp[h]
 rw[e1,WS.put_ok rfl (by simp only[length_append];omega)];simp
def tI {s:WS} {t:Tk} (h:s.code=0) (hr:t.right=true) (hm:(s.l.length:Int)+(LA t).length≤s.most):s.tok t=⟨s.most,s.l++LA t,0⟩:=by
 unfold WS.tok;unfold LA at hm ⊢;rw[if_pos hr];split
 ·rename_i q;rw[if_pos q]at hm;exact aB h hm
 ·rename_i q;rw[if_neg q]at hm;exact aB h hm
def tJ {s:WS} {t:Tk} (h:¬s.code=0):s.tok t=s:=by
 unfold WS.tok;have hp:∀m,s.put m=s:=λm=>WS.put_bad h
 have hf:s.fail 3=s:=by unfold WS.fail;rw[if_neg h]
 rw[hp,hp,hp,hp,hf]
 repeat' split
 all_goals rfl
def kQ {s:WS} (h:¬s.code=0) (l:List Tk):s.toks l=s:=by
 induction l with
 |nil=>rfl
 |cons x l ih=>show(s.tok x).toks l=s;rw[tJ h,ih]
def kP:∀(l:List Tk) (s:WS),s.code=0->(s.l.length:Int)+B4 l≤s.most->s.toks l=if FZ l=true then⟨s.most,s.l++H3 l,0⟩else⟨s.most,(s.toks l).l,3⟩:=by
 intro l
 induction l with
 |nil=>intro s h _;cases s;simp at h;simp[WS.toks,FZ,H3,h]
 |cons x l ih=>
  intro s h hm;simp only[B4]at hm;have hx:=Us x;have hge:0≤B4 l:=by
   clear ih hm
   induction l with
   |nil=>simp[B4]
   |cons y l ih=>simp only[B4];omega
  show(s.tok x).toks l=if FZ (x::l)=true then _ else⟨s.most,((s.tok x).toks l).l,3⟩
  cases hr:x.right
  ·have e:s.tok x=⟨s.most,s.l,3⟩:=by
    unfold WS.tok WS.fail;rw[hr,if_neg Si,if_pos h]
   have hb:(WS.mk s.most s.l 3).toks l=⟨s.most,s.l,3⟩:=kQ Si l;rw[e,hb,if_neg (by simp[FZ,hr])]
  ·rw[tI h hr Om];have:=ih ⟨s.most,s.l++LA x,0⟩ rfl (by simp only[length_append];omega);rw[this];have er:FZ (x::l)=FZ l:=by simp[FZ,hr]
   rw[er];split
   ·simp[H3]
   ·rfl
def Ur (l:List Tk):List Int×Int:=if FZ l=true then(H3 l,0)else([],3)
def R_ (l:List Tk) (hn:l.length≤2000000) (hl:∀t∈l,t.lit.length≤2000000):Ah prog 246 [slT l] [] (.tup [Bd .u8 (Ur l).1,iA (Ur l).2]) []:=by
 have hr:=N3 hl;have f0:(WS.new (B4 l)).fine:=WS.fine.new Om;refine RM func246 Acz ?_
 refine Aa.p (Xo l Om hl) (mp ?_).1;refine Aa.n (E5 (B4 l)) (mq @EN ?_).1;refine AA (α:=Nat) (λk=>Ay (.ref 0 0::.any::.any::.any::.any::.any::slT l::iA l.length::iA k::Ay (Ay [.any,.any,.any]))) (λk=>[B0 1 ((WS.new (B4 l)).toks (l.take k)),AX ((WS.new (B4 l)).toks (l.take k))]) (λk=>k≤l.length) (λk=>l.length-k) 0 Si (Wk.to (by simp[WS.toks]) (by simp[BS])) ?_;intro k hk;refine (mp ?_).1;refine Av (λh=>?_) (λh=>?_)
 ·have hlt:k<l.length:=Sx h
  have g:=ZV l k hlt;have ei:=Aw k Om;have hs:((WS.new (B4 l)).toks (l.take k)).tok (l.getD k ZX)=(WS.new (B4 l)).toks (l.take (k+1)):=by rw[ZW l k hlt,cL]
  refine (mr g @EN ?_).1;(repeat with_reducible refine Sa ?_);refine Aa.u2 (cM _ (l.getD k ZX) 0 1 De (f0.toks _)) rfl rfl (mr hs ei ?_).1;exact⟨k+1,hlt,Om,Wk.sel [0,1] Si rfl Si rfl (by simp[I6,wrow_ren,AH]) (by simp[BP,AE,AH])⟩
 ·have ek:k=l.length:=by simp at h;omega
  subst ek;have hf:=kP l (WS.new (B4 l)) rfl (by rw[WS.new_is hr.1];simp);have hff:=(f0.toks l).len;simp only[go_sem,seval,take_length];refine (mok ?_).1;refine Aa.r2 (BW _ 0 1 De hff) rfl rfl (mp ?_).1;cases hq:FZ l
  ·rw[hq]at hf;have hc:((WS.new (B4 l)).toks l).code=3:=by rw[hf];rfl
   have hb:((WS.new (B4 l)).toks l).bytes=[]:=by unfold WS.bytes;rw[hc];rfl
   (refine FB Acz [] ?_ ?_<;>first|with_reducible rfl|(simp[Ur,hq,hc,hb];done)|rfl)
  ·rw[if_pos hq]at hf;have hc:((WS.new (B4 l)).toks l).code=0:=by rw[hf]
   have hb:((WS.new (B4 l)).toks l).bytes=H3 l:=by unfold WS.bytes;rw[hf,WS.new_is hr.1];simp
   (refine FB Acz [] ?_ ?_<;>first|with_reducible rfl|(simp[Ur,hq,hc,hb];done)|rfl)
def Uq (l:List Tk) (hn:l.length≤2000000) (hl:∀t∈l,t.lit.length≤2000000):Ct Tryz.prog 246 [slT l] [] (λ_=>.tup [Bd .u8 (Ur l).1,iA (Ur l).2]) [] (λ_=>[]):=(R_ l hn hl).toCt cl cl
abbrev Aa8 (n:Int):AV:=.lit (.int .u32 n)
def Zz (b:List Int) (i:Nat) (hb:b.length≤1000000000000) (hi:i≤b.length):Ah prog 261 [Bd .u8 b,iA i] [] (.tup [Aa8 (VN b i),bA (M_ b i)]) []:=by
 have e1:decide ((i:Int)<0)=false:=by simp
 have e2:IntKind.i64.wrap ((b.length:Int)-4)=b.length-4:=i64_in _ Om;have e3:decide ((b.length:Int)-4<i)= !M_ b i:=by unfold M_;rw[←decide_not];simp;omega
 refine RN func261 Acv ?_;refine (mt @Ab e1 e2 e3 ?_).1
 cases hk:M_ b i with
 |false=>
  refine (mp ?_).1
  (refine FB Acv [] ?_ ?_<;>first|with_reducible rfl|(simp[VN,hk];done)|rfl)
 |true=>
  have hk':i+4≤b.length:=by simpa[M_]using hk
  refine (mp ?_).1;refine AA (α:=Nat) (λk=>Bd .u8 b::iA i::.any::.any::.any::.any::Aa8 (gF b i k)::Ay (Ay (.any::.any::iA k::Az []))) (λ_=>[]) (λk=>k≤4) (λk=>4-k) 0 Si (Wk.to Si (by simp[BS,gF])) ?_;intro k hk4;refine (mp ?_).1;refine Av (λh=>?_) (λh=>?_)
  ·have hlt:k<4:=by simp at h;omega
   have g1:IntKind.i64.wrap ((i:Int)+k)=((i+k:Nat):Int):=by rw[i64_in _ Om];omega
   have g2:=Cy .u8 b (i+k) Om;have g3:IntKind.i64.wrap (8*(k:Int))=8*k:=i64_in _ Om;have g4:=Aw k Om;have g5:Cv .or .u32 (gF b i k) (IntKind.u32.wrap (IntKind.u32.wrap (b.getD (i+k) 0)*2^min (8*(k:Int)).toNat 32))=gF b i (k+1):=rfl;simp only[go_sem,seval,g1,Ab,Int.toNat_natCast,g2,Jy,g3,IntKind.bits,g5,g4];refine (mok ?_).1;(repeat with_reducible refine Sa ?_);exact⟨k+1,Om,Om,Wk.sel [] Si rfl Si rfl Si (by simp[BP,AE])⟩
  ·have ek:k=4:=by simp at h;omega
   subst ek;refine (mp ?_).1
   (refine FB Acv [] ?_ ?_<;>first|with_reducible rfl|(simp[VN,hk,LR];done)|rfl)
def RT (b:List Int) (i:Nat) (hb:b.length≤1000000000000) (hi:i≤b.length):Ct Tryz.prog 261 [Bd .u8 b,iA i] [] (λ_=>.tup [Aa8 (VN b i),bA (M_ b i)]) [] (λ_=>[]):=(Zz b i hb hi).toCt cl cl
def NZ (o n:Int):Ct prog 256 [iA o,iA n] [] (λ_=>.tup [iA (Xt (o,n)).1,iA (Xt (o,n)).2]) [] (λ_=>[]):=by
 refine Ah.toCt ?_ cl cl
 refine RM func256 Acx ?_
 by_cases h:n<4
 ·have e:decide (n<4)=true:=Sx h
  refine (mq e ?_).1
  exact FK Acx [] (by simp[Xt,h])
 ·have e:decide (n<4)=false:=Sx h
  refine (mq e ?_).1
  exact FK Acx [] (by simp[Xt,h])
def Yh {b:List Int} {i o:Nat} (h:i<b.length∧1≤o∧o≤i):PN b i o=cnt (vT b i o) (min (b.length-i) 1048576) 0:=by unfold PN;rw[if_pos h]
def UB (b:List Int) (i o:Nat) (hb:b.length≤1000000000000) (hi:i≤b.length) (ho:1≤o∧o≤i):Ah prog 255 [Bd .u8 b,iA i,iA o] [] (iA (PN b i o)) []:=by
 have e1:decide ((i:Int)<0)=false:=by simp
 have e3:decide ((o:Int)<1)=false:=by simp;omega
 have e4:decide ((i:Int)<o)=false:=by simp;omega
 by_cases hl:i<b.length
 ·have e2:decide ((b.length:Int)≤i)=false:=by simp;omega
  refine RN func255 jN ?_;simp only[go_sem,seval,Ab,e1,e2,e3,e4];refine (mok ?_).1
  have hm:=Yh (b:=b) (i:=i) (o:=o) ⟨hl,ho.1,ho.2⟩;obtain⟨M,hM⟩:∃M,M=min (b.length-i) 1048576:=⟨_,rfl⟩;rw[←hM]at hm;refine AA (α:=Nat) (λk=>Bd .u8 b::iA i::iA o::.any::.any::.any::.any::iA k::Az (Az (Ay (Ay (Ay [.any,.any,.any]))))) (λ_=>[]) (λk=>k≤M∧cnt (vT b i o) (M-k) k=PN b i o) (λk=>M-k) 0 (by simp[hm]) (Wk.to Si (by simp[BS])) ?_;intro k hk;have⟨hkM,hk⟩:=hk;have g1:IntKind.i64.wrap ((i:Int)+k)=((i+k:Nat):Int):=by rw[i64_in _ Om];omega
  have g2:IntKind.i64.wrap (((i+k:Nat):Int)-o)=((i+k-o:Nat):Int):=by rw[i64_in _ Om];omega
  have g5:=Aw k Om;by_cases hkk:k<M
  ·have c1:decide (((i+k:Nat):Int)<b.length)=true:=by simp;omega
   have c2:decide ((k:Int)<1048576)=true:=by simp;omega
   have g3:=Cy .u8 b (i+k) Om;have g4:=Cy .u8 b (i+k-o) Om;have hun:cnt (vT b i o) (M-k) k=if vT b i o k=true then cnt (vT b i o) (M-(k+1)) (k+1)else k:=by
    rw[show M-k=(M-(k+1))+1 by omega];rfl
   simp only[go_sem,seval,g1,Ab,c1,c2,g2,Int.toNat_natCast,g3,g4,Jy];refine (mok ?_).1;(repeat with_reducible refine Sa ?_);cases hp:vT b i o k with
   |true=>
    have hp':(b.getD (i+k) 0==b.getD (i+k-o) 0)=true:=hp;refine (mr hp' g5 ?_).1;rw[hp,if_pos rfl]at hun;exact⟨k+1,⟨Om,by rw[←hun];exact hk⟩,Om,Wk.sel [] Si rfl Si rfl Si (by simp[BP,AE])⟩
   |false=>
    have hp':(b.getD (i+k) 0==b.getD (i+k-o) 0)=false:=hp;rw[hp,if_neg Si,hk]at hun;refine (mq hp' ?_).1
    exact FE jN [] hun
  ·have ek:k=M:=Om
   have hz:PN b i o=k:=by rw[←hk,ek];simp[cnt]
   by_cases c1:i+k<b.length
   ·have c1':decide (((i+k:Nat):Int)<b.length)=true:=by simp;omega
    have c2:decide ((k:Int)<1048576)=false:=by simp;omega
    refine (mt g1 @Ab c1' c2 ?_).1
    exact FE jN [] hz
   ·have c1':decide (((i+k:Nat):Int)<b.length)=false:=by simp;omega
    refine (ms g1 @Ab c1' ?_).1
    exact FE jN [] hz
 ·have e2:decide ((b.length:Int)≤i)=true:=by simp;omega
  have hm:PN b i o=0:=by unfold PN;rw[if_neg Om]
  refine RN func255 jN ?_;refine (ms @Ab e1 e2 ?_).1
  exact FE jN [] hm
def XI (b:List Int) (i o:Nat) (hb:b.length≤1000000000000) (hi:i≤b.length) (ho:1≤o∧o≤i):Ct Tryz.prog 255 [Bd .u8 b,iA i,iA o] [] (λ_=>iA (PN b i o)) [] (λ_=>[]):=(UB b i o hb hi ho).toCt cl cl
end Go.Proofs.YtaajkppmibfgfabGreat
