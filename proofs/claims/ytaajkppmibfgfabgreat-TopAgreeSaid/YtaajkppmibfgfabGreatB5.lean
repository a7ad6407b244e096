/- Lemmas for TopAgree, part 5. -/
import Derived.Test.YtaajkppmibfgfabGreatB4
import Derived.Test.YtaajkppmibfgfabGreatB0
import Derived.Test.YtaajkppmibfgfabGreatB3
set_option linter.all false
set_option maxRecDepth 100000
set_option maxHeartbeats 4000000
universe u v
namespace Go.Proofs.YtaajkppmibfgfabGreat
open Go.RowKit List IntWalk Go.Proofs.Tryz
def uX {β:Type} (b:β):NF (λs=>(s,b)):=⟨λ_ _=>rfl,λ_=>rfl,λh _=>.inr ⟨h,rfl⟩⟩
def Xj {s:RS} (h:s.vint.1.code≠0):s.vint.2=0:=by
 unfold RS.vint at h ⊢;split
 ·rename_i hc;rw[if_pos hc]at h;split
  ·rename_i h1;rw[if_pos h1]at h;exact absurd hc h
  ·split<;>rfl
 ·rfl
def uY:NF (λs=>(s.lets,())):=by
 have h:=((Nk 4).check (λv=>v≠Bs) 14 [] De De).map (λ_=>());have e:(λs:RS=>(s.lets,()))=λs=>((if(s.take 4).2≠Bs then((s.take 4).1.fail 14 s.at_,[])else s.take 4).1,()):=by
  funext s;unfold RS.lets;by_cases hc:(s.take 4).1.code=0
  ·by_cases hv:(s.take 4).2≠Bs
   ·rw[if_pos ⟨hc,hv⟩,if_pos hv]
   ·rw[if_neg (λh=>hv h.2),if_neg hv]
  ·rw[if_neg (λh=>hc h.1)];split
   ·rw[Dr hc]
   ·rfl
 rw[e];exact h
def uW:NF RS.vers:=by
 have h:=((Nk 1).map (λv=>v.getD 0 0)).check (λv=>¬(1≤v∧v≤3)) 8 0 De De;have e:RS.vers=λs=>if¬(1≤(s.take 1).2.getD 0 0∧(s.take 1).2.getD 0 0≤3)then((s.take 1).1.fail 8 s.at_,0)else((s.take 1).1,(s.take 1).2.getD 0 0):=by
  funext s;unfold RS.vers;by_cases hc:(s.take 1).1.code=0
  ·rw[if_pos hc];by_cases hv:1≤(s.take 1).2.getD 0 0∧(s.take 1).2.getD 0 0≤3
   ·rw[if_pos hv,if_neg (λh=>h hv)]
   ·rw[if_neg hv,if_pos hv]
  ·rw[if_neg hc,GR hc,if_pos Si,Dr hc]
 rw[e];exact h
def X0 (ok:Int->Bool):NF (λs=>s.epo ok):=by
 have h:=Z_.check (λv=>¬ok v=true) 3 0 De De;have e:(λs:RS=>s.epo ok)=λs=>if¬ok s.vint.2=true then(s.vint.1.fail 3 s.at_,0)else s.vint:=by
  funext s;unfold RS.epo;by_cases hc:s.vint.1.code=0
  ·rw[if_pos hc];by_cases hv:ok s.vint.2=true
   ·rw[if_pos hv,if_neg (λh=>h hv)]
   ·rw[if_neg hv,if_pos hv]
  ·rw[if_neg hc];split
   ·rw[Dr hc]
   ·exact Prod.ext rfl (Xj hc).symm
 rw[e];exact h
def UW (v:Int):NF (λs=>s.hbase v):=by
 by_cases hv:v=1
 ·have e:(λs:RS=>s.hbase v)=λs=>s.epo AL:=by funext s;unfold RS.hbase;rw[if_pos hv]
  rw[e];exact X0 AL
 ·have e:(λs:RS=>s.hbase v)=λs=>(s,0):=by funext s;unfold RS.hbase;rw[if_neg hv]
  rw[e];exact uX 0
def eN:NF RS.hbegin:=uY.bind λ_=>uW
def Jf:NF RS.hplain:=eN.bind (g:=λv s=>(((s.epo Ac).1.hbase v).1,(⟨v,(s.epo Ac).2,((s.epo Ac).1.hbase v).2⟩:Hd))) λv=>(X0 Ac).bind (g:=λe s=>((s.hbase v).1,(⟨v,e,(s.hbase v).2⟩:Hd))) λe=>(UW v).map λb=>(⟨v,e,b⟩:Hd)
def w9 {d k:Nat} {s t p q:RS} (h:Sm d k s t) (g:Sm d k p q):s.from p=t.from q:=by
 have h1:=h.at_;have h2:=h.a0;have g1:=g.at_;have g2:=g.a0;have g3:=g.a1;unfold RS.from;rw[h.l,show s.at_.toNat=d+t.at_.toNat by omega,←drop_drop,drop_take,take_take];congr 1;omega
def Ra:NF RS.header where
 stay s h:=by
  have e1:s.hplain.1=s:=Jf.stay s h;have e2:(s.hplain.1.fixed 4).1=s:=by rw[e1];exact(DC 4).stay s h
  unfold RS.header;rw[if_neg (by rw[e2];exact h)];exact e2
 l s:=by
  have e2:(s.hplain.1.fixed 4).1.l=s.l:=((DC 4).l _).trans (Jf.l s);unfold RS.header
  repeat' split
  ·exact e2
  ·show(RS.fail _ _ _).l=_;rw[AY];exact e2
  ·exact e2
 px {d k s t} h hb:=by
  have hl:s.hplain.1.l=s.l:=Jf.l s;have st:∀u:RS,(u.hplain.1.code≠0->u.header.1=u.hplain.1)∧((u.hplain.1.fixed 4).1.code≠0->u.header.1=(u.hplain.1.fixed 4).1)∧u.header.1.l=(u.hplain.1.fixed 4).1.l∧u.header.1.l=u.hplain.1.l:=λu=>by
   have e3:(u.hplain.1.fixed 4).1.l=u.hplain.1.l:=(DC 4).l _;have e4:u.header.1.l=(u.hplain.1.fixed 4).1.l:=by
    unfold RS.header;repeat' split
    ·rfl
    ·exact AY _ _ _
    ·rfl
   have e5:(u.hplain.1.fixed 4).1.code≠0->u.header.1=(u.hplain.1.fixed 4).1:=λhh=>by unfold RS.header;rw[if_neg hh]
   exact⟨λhh=>by
    have e6:(u.hplain.1.fixed 4).1=u.hplain.1:=(DC 4).stay _ hh;rw[e5 (by rw[e6];exact hh),e6],e5,e4,e4.trans e3⟩
  rcases Jf.px h hb with g1|⟨g1,g2⟩
  ·exact .inl (g1.to (st s).2.2.2 (st s).1 (st t).1)
  ·rcases(DC 4).px g1 (by rw[hl];exact hb)with f1|⟨f1,f2⟩
   ·exact .inl (f1.to (st s).2.2.1 (st s).2.1 (st t).2.1)
   ·have hc:(t.hplain.1.fixed 4).1.code=(s.hplain.1.fixed 4).1.code:=f1.code;have hv:(t.hplain.1.fixed 4).2=(s.hplain.1.fixed 4).2:=f2;unfold RS.header;rw[hc,hv,g2,w9 h g1];split
    ·split
     ·exact .inr ⟨f1,rfl⟩
     ·exact .inr ⟨Sm.fail f1 De De g1.at_,rfl⟩
    ·exact .inr ⟨f1,rfl⟩
def Hr (t:PS) (c a:Int):Prop:=∃X κ,t.out++t.close.2=X++[.oth κ a c]∧κ≠2
def gP {s:PS} (hb:s.buf=[]) (R:List Int):s.hold R 0=s:=by
 unfold PS.hold;cases s;simp only[]at hb;subst hb;simp
def VY (s:PS) (R:List Int) {k:Nat} (hk:k<R.length):(s.hold R k).add (R.getD k 0)=s.hold R (k+1):=by
 unfold PS.hold PS.add;simp only[];rw[take_succ_eq_append_getElem hk];congr 1
 ·simp[hk]
 ·omega
def O6 {s:PS} {R:List Int} (he:s.ended=0) (hb:s.buf=[]):∀n,n≤R.length->(∀k,0<k->k≤n->(s.hold R k).step=(s.hold R k,false,(0,0)))->s.feed R=(s.hold R n).feed (R.drop n):=by
 intro n
 induction n with
 |zero=>intro _ _;rw[gP hb,drop_zero]
 |succ n ih=>
  intro hn h;rw[ih Om λk h0 h1=>h k h0 Om];have hd:R.drop n=R.getD n 0::R.drop (n+1):=by rw[drop_eq_getElem_cons Om];simp[show n<R.length by omega]
  rw[hd,PS.feed,if_pos (show(s.hold R n).ended=0 from he)];unfold PS.one;rw[VY s R Om,h (n+1) Om (Nat.le_refl _)];rfl
def O7 {s:PS} (h:s.ended≠0) (l:List Int):s.feed l=s:=by
 cases l with
 |nil=>rfl
 |cons c l=>rw[PS.feed,if_neg h]
def Jv {s:PS} {R:List Int} {n:Nat} {b:Bool} {c a:Int} (he:s.ended=0) (hb:s.buf=[]) (h0:0<n) (hn:n≤R.length) (h:∀k,0<k->k<n->(s.hold R k).step=(s.hold R k,false,(0,0))) (hc:c≠0) (hs:(s.hold R n).step=(s.hold R n,b,(c,a))):Hr (s.feed R) c (a+s.fst):=by
 obtain⟨m,rfl⟩:∃m,n=m+1:=⟨n-1,Om⟩;rw[O6 he hb m Om λk h1 h2=>h k h1 Om];have hd:R.drop m=R.getD m 0::R.drop (m+1):=by rw[drop_eq_getElem_cons Om];simp[show m<R.length by omega]
 rw[hd,PS.feed,if_pos (show(s.hold R m).ended=0 from he)];unfold PS.one;rw[VY s R Om,hs];have e:PS.fin (s.hold R (m+1),b,(c,a))={s.hold R (m+1)with out:=s.out++[.oth 4 (a+s.fst) c],ended:=4,buf:=[]}:=by
  unfold PS.fin;rw[if_neg hc];rfl
 rw[e,O7 Si];refine⟨s.out,4,?_,De⟩;unfold PS.close;rw[if_neg Si,append_nil]
def Pf {s:PS} {R:List Int} (he:s.ended=0) (hb:s.buf=[]) (h:∀k,0<k->k≤R.length->(s.hold R k).step=(s.hold R k,false,(0,0))) (hw:(s.hold R R.length).whole=false):Hr (s.feed R) 1 (s.fed+R.length):=by
 rw[O6 he hb R.length (Nat.le_refl _) h,drop_length];refine⟨s.out,3,?_,De⟩;show(s.hold R R.length).out++(s.hold R R.length).close.2=_;unfold PS.close;rw[if_pos (show(s.hold R R.length).ended=0 from he),hw,if_neg De];rfl
def Tz {s:PS} {R:List Int} {c a:Int} (he:s.ended=0) (hb:s.buf=[]) (hc:c≠0) (h:∀k,0<k->k≤R.length->(s.hold R k).step=(s.hold R k,false,(0,0))∨(s.hold R k).step=(s.hold R k,false,(c,a)))
 (hend:(R.length=0∨(s.hold R R.length).step=(s.hold R R.length,false,(0,0)))->c=1∧a+s.fst=s.fed+R.length) (hw:(s.hold R R.length).whole=false):Hr (s.feed R) c (a+s.fst):=by
 by_cases hall:∀k,0<k->k≤R.length->(s.hold R k).step=(s.hold R k,false,(0,0))
 ·obtain⟨rfl,e2⟩:=hend (by
   rcases Nat.eq_zero_or_pos R.length with h0|h0
   ·exact .inl h0
   ·exact .inr (hall _ h0 (Nat.le_refl _)))
  rw[e2];exact Pf he hb hall hw
 ·have hex:∃k,0<k∧k≤R.length∧¬(s.hold R k).step=(s.hold R k,false,(0,0)):=by
   refine Classical.byContradiction λhn=>hall λk h0 h1=>Classical.byContradiction λh2=>hn ⟨k,h0,h1,h2⟩
  have hmin:∃n,(0<n∧n≤R.length∧¬(s.hold R n).step=(s.hold R n,false,(0,0)))∧∀k,0<k->k<n->(s.hold R k).step=(s.hold R k,false,(0,0)):=by
   have key:∀N k,k≤N->(0<k∧k≤R.length∧¬(s.hold R k).step=(s.hold R k,false,(0,0)))->∃n,(0<n∧n≤R.length∧¬(s.hold R n).step=(s.hold R n,false,(0,0)))∧∀k,0<k->k<n->(s.hold R k).step=(s.hold R k,false,(0,0)):=by
    intro N
    induction N with
    |zero=>intro k hk h;omega
    |succ N ih=>
     intro k hk h;by_cases hl:∀j,0<j->j<k->(s.hold R j).step=(s.hold R j,false,(0,0))
     ·exact⟨k,h,hl⟩
     ·obtain⟨j,j0,j1,j2⟩:∃j,0<j∧j<k∧¬(s.hold R j).step=(s.hold R j,false,(0,0)):=
       Classical.byContradiction λhn=>hl λj j0 j1=>Classical.byContradiction λj2=>hn ⟨j,j0,j1,j2⟩
      exact ih j Om ⟨j0,Om,j2⟩
   have⟨k,hk⟩:=hex;exact key k k (Nat.le_refl _) hk
  have⟨n,⟨n0,n1,n2⟩,hlt⟩:=hmin;rcases h n n0 n1 with h1|h1
  ·exact absurd h1 n2
  ·exact Jv he hb n0 n1 hlt hc h1
def YY {b:List Int} (hb:AW b) (hn:b.length≤140737488355328) (hw:Dn b 2097152=true) (hl:(b.length:Int)<D8 b 2097152):(Bp b 2097152).2.2.1=1:=by
 have hok:Ak (RS.new b):=Ak.new hb hn;have hc:((RS.new b).int (BK 2097152)).1.code=0:=by simpa[Dn]using hw
 unfold D8 at hl;rw[if_pos hc]at hl;have⟨i1,i2,i3,i4,i5⟩:=Di hok hc;have⟨k1,k2⟩:=hok.int (BK 2097152);have⟨I,hI⟩:=Ex ((RS.new b).int (BK 2097152));have e0:(RS.new b).at_.toNat=0:=rfl;rw[hI]at hc hl i2 i3 i5 k1 k2;rw[e0,take_zero,nil_append]at i5;have hlen:=congrArg List.length i5;have ha:=k1.at1;have ha0:=k1.at0;have hIl:I.1.l=b:=k2;rw[hIl]at ha;have hbl:(RS.new b).l=b:=rfl;rw[hbl,length_take]at hlen;unfold Dy at hl;rw[show max I.2 0=I.2 by omega]at hl;have hfr:((RS.new b).frame 2097152).1.code=1:=by
  have hbd:(RS.new b).blob (BK 2097152)=I.1.take I.2:=by unfold RS.blob;rw[hI]
  unfold RS.frame;rw[hbd];have hng:¬I.2<0:=Om
  by_cases h1:(I.1.l.length:Int)-I.1.at_<I.2
  ·have e1:I.1.take I.2=(I.1.fail 1 I.1.l.length,[]):=by
    unfold RS.take RS.skip RS.left;rw[if_pos hc,if_neg hng,if_pos h1];simp
   have e2:(I.1.fail 1 I.1.l.length).code=1:=by unfold RS.fail;rw[if_pos hc];simp[BB]
   rw[e1];have e3:(I.1.fail 1 I.1.l.length).fixed 4=((I.1.fail 1 I.1.l.length),Bm []):=by unfold RS.fixed;rw[LB (by rw[e2];decide)]
   simp only[];rw[e3,if_neg (by rw[e2];decide)];exact e2
  ·have e1:I.1.take I.2=({I.1 with at_:=I.1.at_+I.2},(I.1.l.drop I.1.at_.toNat).take I.2.toNat):=by
    unfold RS.take RS.skip RS.left;rw[if_pos hc,if_neg hng,if_neg h1];simp
   rw[e1];have e2:({I.1 with at_:=I.1.at_+I.2}:RS).take 4=(({I.1 with at_:=I.1.at_+I.2}:RS).fail 1 I.1.l.length,[]):=by
    unfold RS.take RS.skip RS.left;have h4:(({I.1 with at_:=I.1.at_+I.2}:RS).l.length:Int)-({I.1 with at_:=I.1.at_+I.2}:RS).at_<4:=by
     show(I.1.l.length:Int)-(I.1.at_+I.2)<4;rw[hIl];omega
    rw[if_pos (show({I.1 with at_:=I.1.at_+I.2}:RS).code=0 from hc),if_neg (show¬(4:Int)<0 by decide),if_pos h4];simp
   have e3:(({I.1 with at_:=I.1.at_+I.2}:RS).fail 1 I.1.l.length).code=1:=by unfold RS.fail;rw[if_pos (show({I.1 with at_:=I.1.at_+I.2}:RS).code=0 from hc)];simp[BB]
   simp only[];have e4:({I.1 with at_:=I.1.at_+I.2}:RS).fixed 4=(({I.1 with at_:=I.1.at_+I.2}:RS).fail 1 I.1.l.length,Bm []):=by unfold RS.fixed;rw[e2]
   rw[e4,if_neg (by rw[e3];decide)];exact e3
 unfold Bp;rw[if_neg (by rw[hfr];decide)];exact hfr
def vF {b:List Int} (hb:AW b) (hn:b.length≤140737488355328):BE b=if(Bp b 2097152).2.2.1=1 then([],0,false,(0,0))else((Bp b 2097152).1,(Bp b 2097152).2.1-4-(Bp b 2097152).1.length,(Bp b 2097152).2.2.1==0,(Bp b 2097152).2.2):=by
 unfold BE;split
 ·rename_i h;rw[if_pos (YY hb hn h.1 h.2)]
 ·rfl
def Vg {s:RS} {d k:Nat} (hs:Ak s) (hc:s.code=0) (ha:s.at_=d) (hk:d+k≤s.l.length) (hf:(s.frame 2097152).1.code≠0):
 ((BE ((s.l.drop d).take k)).2.2=(false,(0,0))∧(d+k=s.l.length->(s.frame 2097152).1.code=1∧(s.frame 2097152).1.fat=s.l.length))∨
 ((BE ((s.l.drop d).take k)).2.2=(false,((s.frame 2097152).1.code,(s.frame 2097152).1.fat-d))∧(s.frame 2097152).1.code≠1):=by
 have hsm:=Sm.new hc ha hk;have hbb:AW ((s.l.drop d).take k):=λx hx=>hs.bys x (mem_of_mem_drop (mem_of_mem_take hx))
 have hln:((s.l.drop d).take k).length≤140737488355328:=by have:=hs.len;rw[length_take,length_drop];omega
 rw[vF hbb hln];rcases(UX 2097152 De).px hsm hs.bys with h|⟨h,_⟩
 ·have hg:(Bp ((s.l.drop d).take k) 2097152).2.2.1=1:=by
   unfold Bp;rw[if_neg (by rw[h.code];decide)];exact h.code
  rw[if_pos hg];refine .inl ⟨rfl,λhd=>?_⟩;have hl:(s.frame 2097152).1.l=s.l:=(UX 2097152 De).l s;have:=h.all (by show d+k=(s.frame 2097152).1.l.length;rw[hl];exact hd);exact⟨this.1,by rw[←hl];exact this.2⟩
 ·have hcd:((RS.new ((s.l.drop d).take k)).frame 2097152).1.code=(s.frame 2097152).1.code:=h.code;have hft:(s.frame 2097152).1.fat=((RS.new ((s.l.drop d).take k)).frame 2097152).1.fat+d:=h.fat hf;have h1:(s.frame 2097152).1.code≠1:=h.c1;have hg:Bp ((s.l.drop d).take k) 2097152=([],0,((s.frame 2097152).1.code,(s.frame 2097152).1.fat-d)):=by
   unfold Bp;rw[if_neg (by rw[hcd];exact hf),hcd,hft];congr 3;omega
  rw[hg,if_neg h1];refine .inr ⟨?_,h1⟩;simp only[];congr 1;simpa using hf
def Gt {s:RS} (h:Ak s) {d:Nat} (ha:s.at_=d) (hc:(s.frame 2097152).1.code=0):s.l.drop d=Ag (s.frame 2097152).2++s.l.drop (d+(Ag (s.frame 2097152).2).length)∧(s.frame 2097152).1.at_=((d+(Ag (s.frame 2097152).2).length:Nat):Int)∧AW (s.frame 2097152).2∧(s.frame 2097152).2.length≤2097152∧d+(Ag (s.frame 2097152).2).length≤s.l.length:=by
 have⟨f1,f2,f3,f4,f5⟩:=Fo h hc;have⟨k1,k2⟩:=BA h 2097152;have a1:=k1.at1;have a0:=k1.at0;have h1:=h.at1;rw[k2]at a1;have⟨F,hF⟩:=Ex (s.frame 2097152);rw[hF]at f2 f3 f4 f5 a1 a0 ⊢;rw[ha]at f4 f5 h1;rw[Int.toNat_natCast]at f5;have hlen:=congrArg List.length f5;rw[length_append,length_take,length_take]at hlen;have e:F.1.at_.toNat=d+(Ag F.2).length:=Om
 refine⟨?_,Om,f3,by have:=Ox 2097152;omega,Om⟩;have hs:s.l.drop d=((s.l.take d++Ag F.2)++s.l.drop F.1.at_.toNat).drop d:=by rw[←f5,take_append_drop]
 rw[hs,append_assoc,drop_append,drop_eq_nil_of_le (by rw[length_take];omega),length_take,show d-min d s.l.length=0 by omega,e];simp
def xB {c a:Int} (h:¬c=0):BB c a=(c,a):=by unfold BB;rw[if_neg h]
def JZ {s:PS} (h:s.ph=2):s.step=s.footer:=by unfold PS.step;rw[h];rfl
def XA {s:PS} (h:s.ph=1):s.step=s.record:=by unfold PS.step;rw[h];rfl
def Sf {s:PS} (h:s.ph=3):s.step=s.trailer:=by unfold PS.step;rw[h];rfl
def mV:BE []=([],0,false,(0,0)):=by
 have h:=IC (p:=[]) (λx hx=>by simp at hx) Si (k:=0) (by have:=Bi [];omega);rw[take_zero]at h;exact h
def WC {p r:List Int} (hp:AW p) (hm:p.length≤2097152) {k:Nat} (hk:k<(Ag p).length):BE ((Ag p++r).take k)=([],0,false,(0,0)):=by
 rw[take_append_of_le_length Om];exact IC hp hm hk
def nD {p r:List Int} (hp:AW p) (hm:p.length≤2097152):BE ((Ag p++r).take (Ag p).length)=(p,((Ag p).length:Int)-4-p.length,true,(0,0)):=by
 rw[take_left];exact IB hp hm
def Pg {r:RS} {s:PS} {d:Nat} (hr:Ak r) (hc:r.code=0) (ha:r.at_=d) (he:s.ended=0) (hb:s.buf=[]) (hf:s.fst=d) (hd:s.fed=d) (h0:s.foot=0)
 (hst:∀k,(BE ((r.l.drop d).take k)).2.2.1=false->(s.hold (r.l.drop d) k).step=(s.hold (r.l.drop d) k,false,(BE ((r.l.drop d).take k)).2.2.2)) (hx:(r.frame 2097152).1.code≠0):Hr (s.feed (r.l.drop d)) (r.frame 2097152).1.code (r.frame 2097152).1.fat:=by
 have h1:=hr.at1;rw[ha]at h1;have hRl:(r.l.drop d).length=r.l.length-d:=length_drop;have e:(r.frame 2097152).1.fat=((r.frame 2097152).1.fat-d)+s.fst:=by rw[hf];omega
 rw[e];refine Tz he hb hx (λk k0 k1=>?_) (λhh=>?_) ?_
 ·rw[hRl]at k1;rcases Vg hr hc ha (k:=k) Om hx with h|h
  ·left;rw[hst k (by rw[h.1])];rw[h.1]
  ·right;rw[hst k (by rw[h.1])];rw[h.1]
 ·rcases Vg hr hc ha (k:=(r.l.drop d).length) Om hx with h|h
  ·have⟨g1,g2⟩:=h.2 Om;exact⟨g1,by rw[g2,hf,hd];omega⟩
  ·exfalso;rcases hh with hh|hh
   ·have h3:=h.1;rw[hh,take_zero,mV]at h3;simp only[Prod.mk.injEq,true_and]at h3;exact hx h3.1.symm
   ·rw[hst _ (by rw[h.1]),h.1]at hh;simp only[Prod.mk.injEq,true_and]at hh;exact hx hh.1
 ·unfold PS.whole;have:(s.hold (r.l.drop d) (r.l.drop d).length).foot=s.foot:=rfl;rw[this,h0];rfl
def Zo {L:List Int} {s:PS} {d n:Nat} (hp:s.ph=3) (he:s.ended=0) (hb:s.buf=[]) (hf:s.fst=d) (hd:s.fed=d) (hd':d≤L.length) (hw:s.want.at_+s.want.size+s.foot=d) (hn:s.foot=n) (ht:(A4 (n:Int)).length=12):
 ((L.drop d).length<12->Hr (s.feed (L.drop d)) 1 L.length)∧(12≤(L.drop d).length->¬(L.drop d).take 12=A4 n->Hr (s.feed (L.drop d)) 12 d)∧((L.drop d).take 12=A4 n->12<(L.drop d).length->Hr (s.feed (L.drop d)) 9 ((d+12:Nat):Int)):=by
 have⟨R,hR⟩:=Ex (L.drop d);have hRl:R.length=L.length-d:=by rw[←hR,length_drop]
 rw[hR];have hold3:∀k,k≤R.length->k<12->(s.hold R k).step=(s.hold R k,false,(0,0)):=λk h1 h2=>by
  rw[Sf (by rw[B7];exact hp)];unfold PS.trailer;rw[Bn,length_take,if_pos Om]
 refine⟨λh=>?_,λh1 h2=>?_,λh1 h2=>?_⟩
 ·have:=Pf he hb (R:=R) (λk k0 k1=>hold3 k k1 Om) (by
   unfold PS.whole;rw[Bn,LU,Jn];have e:(s.hold R R.length).fed=s.fed+R.length:=rfl;rw[e,take_length,hd];by_cases h0:R.length=0
   ·have:¬(d:Int)+R.length=s.want.at_+s.want.size+s.foot+12:=by rw[hw,h0];omega
    rw[decide_eq_false this];simp
   ·rw[decide_eq_false h0];simp)
  rw[hd]at this;rw[show(L.length:Int)=d+R.length by omega];exact this
 ·have:=Jv (R:=R) (n:=12) (b:=false) (c:=12) (a:=0) he hb De h1 (λk k0 k1=>hold3 k Om k1) De (by
   rw[Sf (by rw[B7];exact hp)];unfold PS.trailer;rw[Bn,Jn,length_take,if_neg Om,hn,if_neg h2])
  rw[hf,Int.zero_add]at this;exact this
 ·have hsp:R=A4 n++R.drop 12:=by rw[←h1,take_append_drop]
  have hfd:s.feed R=({s with ph:=4,fst:=s.fed+12,fed:=s.fed+12,buf:=[]}:PS).feed (R.drop 12):=by
   conv=>lhs;rw[hsp]
   refine EW (t:={s with ph:=4,buf:=A4 n,fed:=s.fed+12}) he hb Om (λk k0 k1=>?_) ?_
   ·rw[Sf (by rw[B7];exact hp)];unfold PS.trailer;rw[Bn,length_take,if_pos Om]
   ·rw[Sf (by rw[B7];exact hp)];unfold PS.trailer;rw[Bn,take_length,Jn,hn,if_neg Om,if_pos rfl];unfold PS.hold;rw[take_length,ht];rfl
  rw[hfd];have:=Jv (s:={s with ph:=4,fst:=s.fed+12,fed:=s.fed+12,buf:=[]}) (R:=R.drop 12) (n:=1) (b:=false) (c:=9) (a:=0) he rfl De (by rw[length_drop];omega) (λk k0 k1=>by omega) De rfl;rw[show((d+12:Nat):Int)=0+(s.fed+12) by rw[hd];omega];exact this
def HA {s:RS} (h:s.code≠0):s.rest9=s:=by unfold RS.rest9;split;exact Dr h _ _;rfl
def E8 {s:RS} (h:s.code=0) {c:Int} (hc:c≠0) (a:Int):(s.fail c a).code=c∧(s.fail c a).fat=a:=by unfold RS.fail;rw[if_pos h];simp[BB,hc]
def FG {s:RS} (h:s.code=0) {f:Int×Int} (hf:f.1≠0) (a:Int):(s.wth f a).code=f.1∧(s.wth f a).fat=f.2+a:=by unfold RS.wth;rw[if_neg hf];exact E8 h hf _
def L3 {S:SD} (h:S.end1.code≠0):S.end2.rest9=S.end1:=by
 have e:S.end2=S.end1:=by
  unfold SD.end2;rw[LB h];split
  ·rfl
  ·exact Dr h _ _
 rw[e,HA h]
def iV {S:SD} {s:PS} {d:Nat} (hr:Ak S.r) (hc:S.r.code=0) (ha:S.r.at_=d) (hp:s.ph=2) (he:s.ended=0) (hb:s.buf=[]) (hf:s.fst=d) (hd:s.fed=d) (h0:s.foot=0) (hw:s.want=S.want) (hwd:s.want.at_+s.want.size=d) (hx:S.fin.code≠0):Hr (s.feed (S.r.l.drop d)) S.fin.code S.fin.fat:=by
 have hpr:S.pay.1.r=(S.r.frame 2097152).1:=rfl;have hp1:S.pay.2.1=(S.r.frame 2097152).2:=rfl;have hp2:S.pay.2.2=(S.r.frame 2097152).1.at_-4-(S.r.frame 2097152).2.length:=rfl;have hpf:S.pay.1.fst=d:=ha;by_cases hz:(S.r.frame 2097152).1.code=0
 ·have hfin:S.fin=S.end2.rest9:=by unfold SD.fin;rw[hpr,if_pos hz]
  rw[hfin]at hx ⊢;have⟨f1,f2,f3,f4,f5⟩:=Gt hr ha hz;have⟨k1,k2⟩:=BA hr 2097152;have⟨F,hF⟩:=Ex (S.r.frame 2097152);rw[hF]at hpr hp1 hp2 hz f1 f2 f3 f4 f5 k1 k2;have hfl:=Bi F.2;have⟨n,hn⟩:=Ex ((Ag F.2).length);rw[hn]at f1 f2 f5 hfl;rw[f1];have hcut:∀k,0<k->k<n->(s.hold (Ag F.2++S.r.l.drop (d+n)) k).step=(s.hold (Ag F.2++S.r.l.drop (d+n)) k,false,(0,0)):=λk k0 k1=>by
   rw[JZ (by rw[B7];exact hp)];unfold PS.footer;rw[Bn,WC f3 f4 Om];rw[if_neg De]
  have hbf:(s.hold (Ag F.2++S.r.l.drop (d+n)) n).buf=(Ag F.2++S.r.l.drop (d+n)).take (Ag F.2).length:=by rw[Bn,hn]
  have hown:=nD (r:=S.r.l.drop (d+n)) f3 f4;have hRl:n≤(Ag F.2++S.r.l.drop (d+n)).length:=by rw[length_append,hn];omega
  have hst:(s.hold (Ag F.2++S.r.l.drop (d+n)) n).step=if(Bh F.2).2.1=0 then(if(Bh F.2).1=s.want then({s.hold (Ag F.2++S.r.l.drop (d+n)) n with ph:=3,foot:=n},true,(0,0))else(s.hold (Ag F.2++S.r.l.drop (d+n)) n,false,(12,0)))
   else(s.hold (Ag F.2++S.r.l.drop (d+n)) n,false,((Bh F.2).2.1,(Bh F.2).2.2+((n:Int)-4-F.2.length))):=by
   rw[JZ (by rw[B7];exact hp)];unfold PS.footer;rw[hbf,hown];simp only[if_true];rw[hn];have e1:((Ag F.2++S.r.l.drop (d+n)).take n).length=n:=by rw[length_take];omega
   rw[e1];rfl
  by_cases he1:(Bh F.2).2.1=0
  ·have hwt:S.pay.1.r.wth (Bh S.pay.2.1).2 S.pay.2.2=F.1:=by rw[hpr,hp1];unfold RS.wth;rw[if_pos he1]
   rw[if_pos he1]at hst;by_cases hft:(Bh F.2).1=s.want
   ·rw[if_pos hft]at hst;have hE:S.end1=F.1:=by unfold SD.end1;rw[hwt,hp1,←hw,if_pos hft]
    have hfd:s.feed (Ag F.2++S.r.l.drop (d+n))=({s with ph:=3,foot:=n,fst:=s.fed+n,fed:=s.fed+n,buf:=[]}:PS).feed (S.r.l.drop (d+n)):=by
     have hh:=EW (s:=s) (c:=Ag F.2) (r:=S.r.l.drop (d+n)) (t:={s with ph:=3,foot:=n,buf:=Ag F.2,fed:=s.fed+n}) he hb Om (λk k0 k1=>by
      rw[JZ (by rw[B7];exact hp)];unfold PS.footer;rw[Bn,IC f3 f4 k1,if_neg De]) (by
      rw[JZ (by rw[B7];exact hp)];unfold PS.footer;rw[Bn,take_length,IB f3 f4];simp only[if_true];rw[if_pos he1,LU,if_pos hft,hn];unfold PS.hold;simp only[take_length])
     rw[hh]
    rw[hfd];have⟨t1,t2,t3⟩:=Zo (L:=S.r.l) (s:={s with ph:=3,foot:=n,fst:=s.fed+n,fed:=s.fed+n,buf:=[]}) (d:=d+n) (n:=n) rfl he rfl (by show s.fed+n=_;rw[hd];omega) (by show s.fed+n=_;rw[hd];omega) f5 (by show s.want.at_+s.want.size+n=_;rw[hwd];omega) rfl (FU _);have hFl:F.1.l=S.r.l:=k2;have hat:F.1.at_.toNat=d+n:=Om
    have hlf:F.1.left=(S.r.l.drop (d+n)).length:=by unfold RS.left;rw[hFl,length_drop,f2];omega
    have hdn:F.1.at_-(d:Int)=n:=Om
    by_cases h12:(S.r.l.drop (d+n)).length<12
    ·have hT:F.1.take 12=(F.1.fail 1 F.1.l.length,[]):=by
      unfold RS.take RS.skip;rw[if_pos hz,if_neg (show¬(12:Int)<0 by decide),if_pos (show F.1.left<12 by omega)];simp
     have⟨g1,g2⟩:=E8 hz (show(1:Int)≠0 by decide) F.1.l.length;have hE2:S.end2=F.1.fail 1 F.1.l.length:=by
      unfold SD.end2;rw[hE,hT];split
      ·rfl
      ·exact Dr (by rw[g1];decide) _ _
     rw[hE2,HA (by rw[g1];decide),g1,g2,hFl];exact t1 h12
    ·have hT:F.1.take 12=({F.1 with at_:=F.1.at_+12},(S.r.l.drop (d+n)).take 12):=by
      unfold RS.take RS.skip;rw[if_pos hz,if_neg (show¬(12:Int)<0 by decide),if_neg (show¬F.1.left<12 by omega)];simp only[if_true];rw[hFl,hat];rfl
     by_cases htr:(S.r.l.drop (d+n)).take 12=A4 n
     ·have hE2:S.end2={F.1 with at_:=F.1.at_+12}:=by
       unfold SD.end2;rw[hE,hT,hpf,hdn];simp only[];rw[if_pos htr]
      rw[hE2]at hx ⊢;unfold RS.rest9 at hx ⊢;by_cases hl:0<({F.1 with at_:=F.1.at_+12}:RS).left
      ·rw[if_pos hl];have⟨g1,g2⟩:=E8 (s:={F.1 with at_:=F.1.at_+12}) hz (show(9:Int)≠0 by decide) ({F.1 with at_:=F.1.at_+12}:RS).at_;rw[g1,g2];have:=t3 htr (by have:(F.1.l.length:Int)-(F.1.at_+12)>0:=hl;rw[hFl]at this;rw[length_drop];omega);show Hr _ 9 (F.1.at_+12);rw[show F.1.at_+12=((d+n+12:Nat):Int) by omega];exact this
      ·rw[if_neg hl]at hx;exact absurd hz hx
     ·have⟨g1,g2⟩:=E8 (s:={F.1 with at_:=F.1.at_+12}) hz (show(12:Int)≠0 by decide) F.1.at_;have hE2:S.end2=({F.1 with at_:=F.1.at_+12}:RS).fail 12 F.1.at_:=by
       unfold SD.end2;rw[hE,hT,hpf,hdn];simp only[];rw[if_neg htr]
      rw[hE2,HA (by rw[g1];decide),g1,g2,f2];exact t2 Om htr
   ·rw[if_neg hft]at hst;have:=Jv he hb Om hRl hcut De hst;have⟨g1,g2⟩:=E8 hz (show(12:Int)≠0 by decide) S.pay.1.fst;have hE:S.end1=F.1.fail 12 S.pay.1.fst:=by unfold SD.end1;rw[hwt,hp1,←hw,if_neg hft]
    rw[L3 (by rw[hE,g1];decide),hE,g1,g2,hpf];rw[hf,Int.zero_add]at this;exact this
  ·rw[if_neg he1]at hst;have:=Jv he hb Om hRl hcut he1 hst;have⟨g1,g2⟩:=FG hz he1 S.pay.2.2;have hE:S.end1=F.1.wth (Bh F.2).2 S.pay.2.2:=by
    unfold SD.end1;rw[hpr,hp1];split
    ·rfl
    ·exact Dr (by rw[g1];exact he1) _ _
   rw[L3 (by rw[hE,g1];exact he1),hE,g1,g2,hp2,f2];rw[show(Bh F.2).2.2+(((d+n:Nat):Int)-4-F.2.length)=(Bh F.2).2.2+((n:Int)-4-F.2.length)+s.fst by rw[hf];omega];exact this
 ·have hfin:S.fin=(S.r.frame 2097152).1:=by unfold SD.fin;rw[hpr,if_neg hz]
  rw[hfin];refine Pg hr hc ha he hb hf hd h0 (λk hk=>?_) hz;rw[JZ (by rw[B7];exact hp)];unfold PS.footer;rw[Bn,if_neg (by rw[hk];decide)]
structure PD (L:List Int) (S:SD) (s:PS) (d:Nat):Prop where
 sk:NE L S
 c:S.r.code=0
 at_:S.r.at_=d
 ph:s.ph=1
 ended:s.ended=0
 buf:s.buf=[]
 fst:s.fst=d
 fed:s.fed=d
 ep:s.ep=S.ep
 ms:s.ms=S.ms
 foot:s.foot=0
 last:S.bt.length≠0->s.lep=(Bf S.bt).ep∧s.lbase+s.ln=(Bf S.bt).base+(Bf S.bt).en.length
def Dg {rd:QN} {S:SD} (h:S.r.code≠0):∀n,S.recs rd n=S:=by
 intro n;cases n with
 |zero=>rfl
 |succ n=>rw[SD.recs,if_neg h]
def Cb {S:SD} (h:S.r.code≠0):S.done=S.r:=by unfold SD.done;rw[if_neg h]
def bL {L:List Int} {S:SD} {s H:PS} {d:Nat} (h:PD L S s d) (h1:H.ms=s.ms) (h2:H.ep=s.ep) (h3:H.lep=s.lep) (h4:H.lbase=s.lbase) (h5:H.ln=s.ln) (b:Bt):H.batC b=if S.bt.length=16 then 2 else if Ey S.ep S.bt b=false then 13 else 0:=by
 have hml:s.ms.length=S.bt.length:=by rw[h.ms];exact h.sk.ml
 unfold PS.batC;rw[h1,h2,h3,h4,h5,hml,h.ep];by_cases h16:S.bt.length=16
 ·rw[if_pos h16,if_pos h16]
 ·rw[if_neg h16,if_neg h16];by_cases hf:Ey S.ep S.bt b=true
  ·have⟨f1,f2⟩:=O3.1 hf;rw[if_neg (show¬Ey S.ep S.bt b=false by rw[hf];decide),if_neg];rintro(g|⟨g1,g2⟩)
   ·omega
   ·have⟨l1,l2⟩:=h.last Om;rcases f2 with f2|f2<;>omega
  ·have hf':Ey S.ep S.bt b=false:=Sx hf
   rw[if_pos hf',if_pos];refine Classical.byContradiction λhn=>hf (O3.2 ⟨?_,?_⟩)
   ·exact Classical.byContradiction λh6=>hn (.inl Om)
   ·by_cases h0:S.bt.length=0
    ·exact .inl h0
    ·have⟨l1,l2⟩:=h.last h0;refine .inr ⟨Classical.byContradiction λh6=>hn (.inr ⟨Om,.inl Om⟩),Classical.byContradiction λh6=>hn (.inr ⟨Om,.inr Om⟩)⟩
def oW (s:PS) (c r:List Int) {k:Nat} (hk:k≤c.length):s.hold (c++r) k=s.hold c k:=by
 unfold PS.hold;rw[take_append_of_le_length hk]
def mB {s:PS} {p:List Int} (hp:s.ph=1) (h3:AW p) (h4:p.length≤2097152):(s.hold (Ag p) (Ag p).length).step=
 if((s.hold (Ag p) (Ag p).length).takes p).2.code=0 then(((s.hold (Ag p) (Ag p).length).takes p).1.1,((s.hold (Ag p) (Ag p).length).takes p).1.2==0,BB ((s.hold (Ag p) (Ag p).length).takes p).1.2 0)
 else(((s.hold (Ag p) (Ag p).length).takes p).1.1,false,(((s.hold (Ag p) (Ag p).length).takes p).2.code,((s.hold (Ag p) (Ag p).length).takes p).2.fat+(((Ag p).length:Int)-4-p.length))):=by
 rw[XA (by rw[B7];exact hp)];unfold PS.record;rw[Bn,take_length,IB h3 h4];simp only[if_true]
def mC {s:PS} {p R:List Int} {c a:Int} {b:Bool} (he:s.ended=0) (hb:s.buf=[]) (hp:s.ph=1) (h3:AW p) (h4:p.length≤2097152) (hc:c≠0) (hs:(s.hold (Ag p) (Ag p).length).step=(s.hold (Ag p) (Ag p).length,b,(c,a))):Hr (s.feed (Ag p++R)) c (a+s.fst):=by
 have hfl:=Bi p;refine Jv (n:=(Ag p).length) (b:=b) he hb Om (by rw[length_append];omega) (λk k0 k1=>?_) hc (by rw[oW s _ _ (Nat.le_refl _)];exact hs);rw[XA (by rw[B7];exact hp)];unfold PS.record;rw[Bn,WC h3 h4 k1,if_neg De]
def iU {L:List Int}:∀(n:Nat) (S:SD) (s:PS) (d:Nat),PD L S s d->(L.length:Int)-d<n->(S.recs BD n).done.code≠0->Hr (s.feed (L.drop d)) (S.recs BD n).done.code (S.recs BD n).done.fat:=by
 intro n
 induction n with
 |zero=>
  intro S s d h hn hx;have h1:=h.sk.r.at1;rw[h.sk.l,h.at_]at h1;omega
 |succ n ih=>
  intro S s d h hn hx;have hr:=h.sk.r;have hl:=h.sk.l;rw[SD.recs,if_pos h.c]at hx ⊢;have⟨K1,K2⟩:=K0 St h.sk h.c;have hpr:S.pay.1.r=(S.r.frame 2097152).1:=rfl;have hp1:S.pay.2.1=(S.r.frame 2097152).2:=rfl;have hp2:S.pay.2.2=(S.r.frame 2097152).1.at_-4-(S.r.frame 2097152).2.length:=rfl;have hpf:S.pay.1.fst=d:=h.at_;by_cases hz:(S.r.frame 2097152).1.code=0
  ·have⟨f1,f2,f3,f4,f5⟩:=Gt hr h.at_ hz;have⟨F,hF⟩:=Ex (S.r.frame 2097152);rw[hF]at hpr hp1 hp2 hz f1 f2 f3 f4 f5;rw[hl]at f1 f5;have⟨m,hm⟩:=Ex ((Ag F.2).length);have hst:=mB (s:=s) h.ph f3 f4;have hends:=λc a b hc hs=>mC (s:=s) (p:=F.2) (R:=L.drop (d+m)) (c:=c) (a:=a) (b:=b) h.ended h.buf h.ph f3 f4 hc hs
   have⟨H,hH⟩:=Ex (s.hold (Ag F.2) (Ag F.2).length);have⟨k1,k2,k3,k4,k5,k6,k7,k8,k9,k10,k11,k12⟩:=VX s (Ag F.2) (Ag F.2).length;rw[hH]at k1 k2 k3 k4 k5 k6 k7 k8 k9 k10 k11 k12 hst hends;rw[hm]at f1 f2 f5 hst k7;rw[f1];have⟨q,hq⟩:=Ex ((RS.new F.2).byte);have hfeed:=λt q' ht hc=>Wb (s:=s) (p:=F.2) (r:=L.drop (d+m)) (t:=t) (q:=q') h.ended h.buf h.ph f3 f4 ht hc
   rw[hH]at hfeed;by_cases b1:q.2=1
   ·have hone:S.one BD=(S.pay.1.bat BD q.1 S.pay.2.2,false):=by
     unfold SD.one;rw[hpr,if_pos hz,hp1,hq,if_pos b1]
    have htk:H.takes F.2=H.batch q.1:=by unfold PS.takes;rw[hq,if_pos b1]
    rw[hone]at hx K1 K2 ⊢;simp only[Bool.false_eq_true,if_false]at hx K1 K2 ⊢;have⟨D,hD⟩:=Ex (q.1.btch RS.blk);have hrd:BD q.1=(D.1,(D.2,true)):=by unfold BD;rw[hD]
    have hbt:H.batch q.1=if D.1.rest9.code=0 then(if H.batC D.2=0 then(H.bat D.2,0)else(H,H.batC D.2),D.1.rest9)else((H,0),D.1.rest9):=by unfold PS.batch;rw[hD]
    by_cases he:D.1.rest9.code=0
    ·have hw:S.pay.1.r.wth ((BD q.1).1.rest9.code,(BD q.1).1.rest9.fat) S.pay.2.2=F.1:=by
      rw[hpr,hrd];unfold RS.wth;rw[if_pos he]
     have hB:=bL h k1 k2 k3 k4 k5 D.2;rw[if_pos he]at hbt;have hbatR:S.pay.1.batR (BD q.1) S.pay.2.2=if S.bt.length=16 then F.1.fail 2 d else if Ey S.ep S.bt D.2=false then F.1.fail 13 d else F.1:=by
      unfold SD.batR;rw[hw,if_pos hz,hrd,hpf];rfl
     have hbat:S.pay.1.bat BD q.1 S.pay.2.2={S.pay.1 with r:=S.pay.1.batR (BD q.1) S.pay.2.2,bt:=S.bt++[D.2],ms:=S.ms++[⟨D.2.base,D.2.en.length,d⟩],w:=S.w&&true}:=by
      unfold SD.bat;rw[hw,if_pos hz,hrd,←hpf];rfl
     by_cases hbc:H.batC D.2=0
     ·rw[if_pos hbc]at hbt;have hrF:S.pay.1.batR (BD q.1) S.pay.2.2=F.1:=by
       rw[hbatR];rw[hbc]at hB;by_cases h16:S.bt.length=16
       ·rw[if_pos h16]at hB;exact absurd hB De
       ·rw[if_neg h16]at hB ⊢;by_cases hfo:Ey S.ep S.bt D.2=false
        ·rw[if_pos hfo]at hB;exact absurd hB De
        ·rw[if_neg hfo]
      rw[hfeed (H.bat D.2) D.1.rest9 (by rw[htk,hbt]) he];rw[hbat,hrF]at hx K1 K2 ⊢;refine ih _ _ (d+m) ⟨K1,hz,f2,k10.trans h.ph,k9.trans h.ended,rfl,?_,?_,k2.trans h.ep,?_,k12.trans h.foot,λ_=>?_⟩ (by have:=Bi F.2;omega) hx
      ·show H.fed=_;rw[k7,h.fed];omega
      ·show H.fed=_;rw[k7,h.fed];omega
      ·show H.ms++[⟨D.2.base,D.2.en.length,H.fst⟩]=S.ms++[⟨D.2.base,D.2.en.length,(d:Int)⟩];rw[k1,k6,h.ms,h.fst]
      ·rw[I0];exact⟨rfl,rfl⟩
     ·rw[if_neg hbc]at hbt;rw[htk,hbt]at hst;simp only[]at hst;rw[if_pos he]at hst;have e1:(H.batC D.2==0)=false:=Sx hbc
      have e2:BB (H.batC D.2) 0=(H.batC D.2,0):=xB hbc;rw[e1,e2]at hst;have hE:=hends _ _ _ hbc hst;rw[h.fst,Int.zero_add]at hE;have hrF:(S.pay.1.batR (BD q.1) S.pay.2.2).code=H.batC D.2∧(S.pay.1.batR (BD q.1) S.pay.2.2).fat=d:=by
       rw[hbatR,hB];by_cases h16:S.bt.length=16
       ·rw[if_pos h16,if_pos h16];exact E8 hz De _
       ·rw[if_neg h16,if_neg h16];by_cases hfo:Ey S.ep S.bt D.2=false
        ·rw[if_pos hfo,if_pos hfo];exact E8 hz De _
        ·rw[hB,if_neg h16,if_neg hfo]at hbc;exact absurd rfl hbc
      have hc':(S.pay.1.bat BD q.1 S.pay.2.2).r=S.pay.1.batR (BD q.1) S.pay.2.2:=by rw[hbat]
      rw[Dg (by rw[hc',hrF.1];exact hbc),Cb (by rw[hc',hrF.1];exact hbc),hc',hrF.1,hrF.2];exact hE
    ·rw[if_neg he]at hbt;rw[htk,hbt]at hst;simp only[]at hst;rw[if_neg he]at hst;have hE:=hends _ _ _ he hst;have hw:=FG (s:=F.1) hz (f:=(D.1.rest9.code,D.1.rest9.fat)) he S.pay.2.2;have hc':(S.pay.1.bat BD q.1 S.pay.2.2).r=F.1.wth (D.1.rest9.code,D.1.rest9.fat) S.pay.2.2:=by
      unfold SD.bat;rw[hrd,hpr,if_neg (by rw[hw.1];exact he)]
     rw[Dg (by rw[hc',hw.1];exact he),Cb (by rw[hc',hw.1];exact he),hc',hw.1,hw.2,hp2,f2];rw[h.fst]at hE;rw[show D.1.rest9.fat+(((d+m:Nat):Int)-4-F.2.length)=D.1.rest9.fat+((m:Int)-4-F.2.length)+d by omega];exact hE
   ·by_cases b2:q.2=2
    ·have hone:S.one BD=(S.pay.1.idx q.1 S.pay.2.2,true):=by
      unfold SD.one;rw[hpr,if_pos hz,hp1,hq,if_neg b1,if_pos b2]
     have htk:H.takes F.2=H.index q.1:=by unfold PS.takes;rw[hq,if_neg b1,if_pos b2]
     rw[hone]at hx K1 K2 ⊢;simp only[if_true]at hx K1 K2 ⊢;have⟨D,hD⟩:=Ex q.1.marks;have hix:H.index q.1=if D.1.rest9.code=0 then(if D.2=S.ms then(H.idx D.2,0)else(H,12),D.1.rest9)else((H,0),D.1.rest9):=by unfold PS.index;rw[hD,k1,h.ms]
     have hir:(S.pay.1.idx q.1 S.pay.2.2).r=if(F.1.wth (D.1.rest9.code,D.1.rest9.fat) S.pay.2.2).code=0∧¬D.2=S.ms then(F.1.wth (D.1.rest9.code,D.1.rest9.fat) S.pay.2.2).fail 12 d else F.1.wth (D.1.rest9.code,D.1.rest9.fat) S.pay.2.2:=by
      show S.pay.1.idxR q.1 S.pay.2.2=_;unfold SD.idxR;rw[hD,hpr,hpf];rfl
     by_cases he:D.1.rest9.code=0
     ·have hw:F.1.wth (D.1.rest9.code,D.1.rest9.fat) S.pay.2.2=F.1:=by unfold RS.wth;rw[if_pos he]
      rw[if_pos he]at hix;rw[hw]at hir;by_cases hms:D.2=S.ms
      ·rw[if_pos hms]at hix;rw[if_neg (λg=>g.2 hms)]at hir;rw[hfeed (H.idx D.2) D.1.rest9 (by rw[htk,hix]) he];have hfin:(S.pay.1.idx q.1 S.pay.2.2).done=(S.pay.1.idx q.1 S.pay.2.2).fin:=by unfold SD.done;rw[hir,if_pos hz]
       rw[hfin]at hx ⊢;have hHb:H.buf.length=m:=by rw[←hH,Bn,take_length,hm]
       have hlr:(S.pay.1.idx q.1 S.pay.2.2).r.l=L:=K1.l;have:=iV (S:=S.pay.1.idx q.1 S.pay.2.2) (s:={H.idx D.2 with fst:=(H.idx D.2).fed,buf:=[]}) (d:=d+m) (by rw[hir];have:=K1.r;rw[hir]at this;exact this) (by rw[hir];exact hz) (by rw[hir];exact f2) rfl (k9.trans h.ended) rfl (by show H.fed=_;rw[k7,h.fed];omega) (by show H.fed=_;rw[k7,h.fed];omega) (k12.trans h.foot) (by
        show(⟨H.ep,_,_,_,_,H.fst,(H.buf.length:Int)⟩:Ft)=Ib S.ep S.ms (S.pay.1.fst) ((S.pay.1.idx q.1 S.pay.2.2).r.at_-S.pay.1.fst);rw[hir,hpf,f2,k2,k6,h.ep,h.fst,hHb,hms,show((d+m:Nat):Int)-d=m by omega];rfl) (by
        show H.fst+(H.buf.length:Int)=_;rw[k6,h.fst,hHb];omega) hx
       rw[hlr]at this;exact this
      ·rw[if_neg hms]at hix;rw[if_pos ⟨hz,hms⟩]at hir;rw[htk,hix]at hst;simp only[]at hst;rw[if_pos he]at hst;have hE:=hends 12 0 _ De hst;rw[h.fst,Int.zero_add]at hE;have⟨g1,g2⟩:=E8 hz (show(12:Int)≠0 by decide) (d:Int);rw[Cb (by rw[hir,g1];decide),hir,g1,g2];exact hE
     ·rw[if_neg he]at hix;rw[htk,hix]at hst;simp only[]at hst;rw[if_neg he]at hst;have hE:=hends _ _ _ he hst;have hw:=FG (s:=F.1) hz (f:=(D.1.rest9.code,D.1.rest9.fat)) he S.pay.2.2;rw[if_neg (λg=>by rw[hw.1]at g;exact he g.1)]at hir;rw[Cb (by rw[hir,hw.1];exact he),hir,hw.1,hw.2,hp2,f2];rw[h.fst]at hE;rw[show D.1.rest9.fat+(((d+m:Nat):Int)-4-F.2.length)=D.1.rest9.fat+((m:Int)-4-F.2.length)+d by omega];exact hE
    ·have⟨w,hw⟩:=Ex (q.1.fail 7 0);have hwc:¬w.code=0:=by rw[←hw];exact CK De
     have hone:S.one BD=({S.pay.1 with r:=F.1.wth (w.code,w.fat) S.pay.2.2},false):=by
      unfold SD.one;rw[hpr,if_pos hz,hp1,hq,if_neg b1,if_neg b2,hw]
     have htk:H.takes F.2=((H,0),w):=by unfold PS.takes;rw[hq,if_neg b1,if_neg b2,hw]
     rw[hone]at hx ⊢;simp only[Bool.false_eq_true,if_false]at hx ⊢;rw[htk]at hst;simp only[]at hst;rw[if_neg hwc]at hst;have hE:=hends _ _ _ hwc hst;have hwt:=FG (s:=F.1) hz (f:=(w.code,w.fat)) hwc S.pay.2.2;rw[Dg (by show(F.1.wth (w.code,w.fat) S.pay.2.2).code≠0;rw[hwt.1];exact hwc),Cb (by show(F.1.wth (w.code,w.fat) S.pay.2.2).code≠0;rw[hwt.1];exact hwc)];show Hr _ (F.1.wth (w.code,w.fat) S.pay.2.2).code (F.1.wth (w.code,w.fat) S.pay.2.2).fat;rw[hwt.1,hwt.2,hp2,f2];rw[h.fst]at hE;rw[show w.fat+(((d+m:Nat):Int)-4-F.2.length)=w.fat+((m:Int)-4-F.2.length)+d by omega];exact hE
  ·have hone:S.one BD=(S.pay.1,true):=by unfold SD.one;rw[hpr,if_neg hz]
   rw[hone,if_pos rfl,Cb (by rw[hpr];exact hz),hpr];rw[←hl];refine Pg hr h.c h.at_ h.ended h.buf h.fst h.fed h.foot (λk hk=>?_) hz;rw[XA (by rw[B7];exact h.ph)];unfold PS.record;rw[Bn,if_neg (by rw[hk];decide)]
def Abb {s:PS} (h:s.ph=0):s.step=s.header:=by unfold PS.step;rw[h];rfl
def aU {L:List Int} (hb:AW L) (hl:L.length≤1000000) {k:Nat} (hk:k≤L.length):
 ((CT (L.take k)).2.2.1=1∧(k=L.length->(RS.new L).header.1.code=1∧(RS.new L).header.1.fat=L.length))∨
 ((CT (L.take k)).2.2.1≠1∧(CT (L.take k)).2.2=(if(RS.new L).header.1.code=0 then(0,0)else((RS.new L).header.1.code,(RS.new L).header.1.fat))∧((RS.new L).header.1.code=0->(CT (L.take k)).1=(RS.new L).header.2)):=by
 have hok:Ak (RS.new L):=Ak.new hb Om;have hsm:=Sm.new (s:=RS.new L) (d:=0) (k:=k) rfl rfl (by show 0+k≤L.length;omega);have e0:((RS.new L).l.drop 0).take k=L.take k:=rfl;rw[e0]at hsm;rcases Ra.px hsm hb with h|⟨h,h2⟩
 ·left;have hg:(CT (L.take k)).2.2.1=1:=by unfold CT;rw[if_neg (by rw[h.code];decide)];exact h.code
  refine⟨hg,λhkl=>?_⟩;have hl':(RS.new L).header.1.l=L:=Ra.l _;have:=h.all (by rw[hl'];omega);rw[hl']at this;exact this
 ·right;have hc:=h.code;have h1:=h.c1;unfold CT;by_cases hz:(RS.new L).header.1.code=0
  ·rw[hc,if_pos hz,if_pos hz,h2];exact⟨Si,rfl,λ_=>rfl⟩
  ·rw[hc,if_neg hz,if_neg hz];refine⟨h1,?_,λg=>absurd g hz⟩;have:=h.fat hz;simp only[];rw[show(RS.new (L.take k)).header.1.fat=(RS.new L).header.1.fat by rw[this];simp]
def pZ {L:List Int} (hb:AW L) (hl:L.length≤1000000) (hx:(SD.all BD L).done.code≠0):Hr (Eu.feed L) (SD.all BD L).done.code (SD.all BD L).done.fat:=by
 have hok:Ak (RS.new L):=Ak.new hb Om;have hs0:=KR hb hl;have hS:SD.all BD L=(SD.start L).recs BD (L.length+1):=rfl;have hr:(SD.start L).r=if(RS.new L).header.2.ver=3 then(RS.new L).header.1 else(RS.new L).header.1.fail 8 4:=rfl
 have hwh:(Eu.hold L L.length).whole=false:=by unfold PS.whole;rfl
 have hph:∀k,(Eu.hold L k).step=(Eu.hold L k).header:=λk=>Abb rfl
 by_cases hz:(RS.new L).header.1.code=0
 ·by_cases hv:(RS.new L).header.2.ver=3
  ·rw[if_pos hv]at hr;have hin:=Uv hb hl (by rw[hr];exact hz);have hpre:=hin.pre;have e1:(SD.start L).bt=[]:=rfl;rw[e1,show Er []=[]from rfl,append_nil]at hpre;have⟨n,hn⟩:=Ex ((Am ⟨3,(SD.start L).ep,0⟩).length);have hat:=aD hs0 hpre;rw[hn]at hat;have hsp:L=Am ⟨3,(SD.start L).ep,0⟩++L.drop n:=by
    rw[←hpre,hat,Int.toNat_natCast,take_append_drop]
   have hfd:=ME (s:=Eu) (r:=L.drop n) rfl rfl rfl hin.ep;rw[←hsp,hn]at hfd;rw[hfd];have hz0:Eu.fed=0:=rfl;have h1:=hs0.r.at1;rw[hs0.l,hat]at h1;refine iU (L.length+1) (SD.start L) _ n ⟨hs0,by rw[hr];exact hz,hat,rfl,rfl,rfl,?_,?_,rfl,rfl,rfl,λh=>absurd rfl h⟩ Om hx
   ·show Eu.fed+(n:Int)=n;rw[hz0];omega
   ·show Eu.fed+(n:Int)=n;rw[hz0];omega
  ·rw[if_neg hv]at hr;have⟨g1,g2⟩:=E8 hz (show(8:Int)≠0 by decide) 4;rw[hS,Dg (by rw[hr,g1];decide),Cb (by rw[hr,g1];decide),hr,g1,g2];have:=Tz (s:=Eu) (R:=L) (c:=8) (a:=4) rfl rfl De (λk k0 k1=>by
    rw[hph];unfold PS.header;rw[Bn];rcases aU hb hl k1 with h|⟨h,h2,h3⟩
    ·left;rw[if_pos h.1]
    ·right;rw[if_neg h];rw[if_pos hz]at h2;rw[h2,h3 hz,if_pos rfl,if_neg hv]) (λhh=>by
    rcases aU hb hl (Nat.le_refl L.length)with h|⟨h,h2,h3⟩
    ·have:=(h.2 rfl).1;rw[hz]at this;exact absurd this De
    ·exfalso;rcases hh with hh|hh
     ·have hi:=ET hok hz;have⟨k1,k2⟩:=Fl hok;have:=k1.at1;rw[k2]at this;have e:(RS.new L).l.length=0:=hh;have e2:(RS.new L).at_=0:=rfl;omega
     ·rw[hph]at hh;unfold PS.header at hh;rw[Bn,if_neg h]at hh;rw[if_pos hz]at h2;rw[h2,h3 hz,if_pos rfl,if_neg hv]at hh;simp at hh) hwh
   have hf0:Eu.fst=0:=rfl;rw[hf0]at this;exact this
 ·have hv:¬(RS.new L).header.2.ver=3:=by rw[HP hz];decide
  rw[if_neg hv,Dr hz]at hr;rw[hS,Dg (by rw[hr];exact hz),Cb (by rw[hr];exact hz),hr];have:=Tz (s:=Eu) (R:=L) (c:=(RS.new L).header.1.code) (a:=(RS.new L).header.1.fat) rfl rfl hz (λk k0 k1=>by
   rw[hph];unfold PS.header;rw[Bn];rcases aU hb hl k1 with h|⟨h,h2,h3⟩
   ·left;rw[if_pos h.1]
   ·right;rw[if_neg h];rw[if_neg hz]at h2;rw[h2,if_neg hz]) (λhh=>by
   rcases aU hb hl (Nat.le_refl L.length)with h|⟨h,h2,h3⟩
   ·have⟨a1,a2⟩:=h.2 rfl;exact⟨a1,by rw[a2];show(L.length:Int)+0=0+L.length;omega⟩
   ·exfalso;rcases hh with hh|hh
    ·have e:L=[]:=eq_nil_of_length_eq_zero hh;subst e;exact h De
    ·rw[hph]at hh;unfold PS.header at hh;rw[Bn,if_neg h]at hh;rw[if_neg hz]at h2;rw[h2,if_neg hz]at hh;simp only[Prod.mk.injEq,true_and]at hh;exact hz hh.1) hwh
  have hf0:Eu.fst=0:=rfl;rw[hf0,Int.add_zero]at this;exact this
def Pq {h:RS} {l:List Hh} {D:RS×List Int} (hc:D.1.code≠0):RS.btfi h l D=D.1:=by
 unfold RS.btfi;split
 ·rfl
 ·exact Dr hc _ _
def Abl (q:RS):(BD q).1.code=12∨((KH q).1=(BD q).1∧(KH q).2.1=(BD q).2.1∧((BD q).1.code=0->(KH q).2.2=true)):=by
 show(q.btch RS.blk).1.code=12∨((q.btch RS.loose).1=(q.btch RS.blk).1∧(q.btch RS.loose).2=(q.btch RS.blk).2∧((q.btch RS.blk).1.code=0->(q.wL&&((q.btch RS.loose).1.code==0))=true));by_cases hb:q.bthd.1.code=0
 ·have⟨h,hh⟩:=Ex q.bthe;cases hw:h.1.blkL.2.2 with
  |true=>
   have e:RS.blk h.1=RS.loose h.1:=by unfold RS.blk RS.loose;rw[if_pos hw]
   have e2:q.btch RS.blk=q.btch RS.loose:=by unfold RS.btch;rw[hh,e]
   right;rw[e2];refine⟨rfl,rfl,λhc=>?_⟩;unfold RS.wL;rw[if_pos hb,hh,hw,hc];rfl
  |false=>
   by_cases hc:h.1.blkL.1.code=0
   ·left;have e:(RS.blk h.1).1.code=12:=by unfold RS.blk;rw[if_neg (by rw[hw];decide)];exact(E8 hc De _).1
    unfold RS.btch;rw[if_pos hb,hh,Pq (by rw[e];decide),if_neg (by rw[e];decide)];exact e
   ·right;have e:(RS.blk h.1).1=h.1.blkL.1:=by unfold RS.blk;rw[if_neg (by rw[hw];decide)];exact Dr hc _ _
    have e1:q.btch RS.blk=(h.1.blkL.1,Cc):=by
     unfold RS.btch;rw[if_pos hb,hh,Pq (by rw[e];exact hc),e,if_neg hc]
    have e2:q.btch RS.loose=(h.1.blkL.1,Cc):=by
     unfold RS.btch;rw[if_pos hb,hh,Pq (show(RS.loose h.1).1.code≠0 from hc)];show(if h.1.blkL.1.code=0 then _ else _)=_;rw[if_neg hc];rfl
    rw[e1,e2];exact⟨rfl,rfl,λhz=>absurd hz hc⟩
 ·right;have e1:q.btch RS.blk=(q.bthd.1,Cc):=by unfold RS.btch;rw[if_neg hb]
  have e2:q.btch RS.loose=(q.bthd.1,Cc):=by unfold RS.btch;rw[if_neg hb]
  rw[e1,e2];exact⟨rfl,rfl,λhz=>absurd hz hb⟩
def N5 {s:RS} (h:s.rest9.code=0):s.code=0:=by
 unfold RS.rest9 at h;split at h
 ·exact absurd h (CK De)
 ·exact h
def vH {S:SD} (hw:S.w=true):(S.one BD).1.r.code=12∨(S.one KH=S.one BD∧(S.one BD).1.w=true):=by
 by_cases hz:S.pay.1.r.code=0
 ·have⟨q,hq⟩:=Ex ((RS.new S.pay.2.1).byte);by_cases b1:q.2=1
  ·have e:∀rd,S.one rd=(S.pay.1.bat rd q.1 S.pay.2.2,false):=λrd=>by unfold SD.one;rw[if_pos hz,hq,if_pos b1]
   rw[e BD,e KH];rcases Abl q.1 with h|⟨h1,h2,h3⟩
   ·left;have h9:(BD q.1).1.rest9.code=12:=by rw[HA (by rw[h];decide)];exact h
    have hwt:=FG (s:=S.pay.1.r) hz (f:=((BD q.1).1.rest9.code,(BD q.1).1.rest9.fat)) (show(BD q.1).1.rest9.code≠0 by rw[h9];decide) S.pay.2.2;show(S.pay.1.bat BD q.1 S.pay.2.2).r.code=12;unfold SD.bat;rw[if_neg (by rw[hwt.1];show¬(BD q.1).1.rest9.code=0;rw[h9];decide)];exact hwt.1.trans h9
   ·right;show(S.pay.1.bat KH q.1 S.pay.2.2,false)=(S.pay.1.bat BD q.1 S.pay.2.2,false)∧(S.pay.1.bat BD q.1 S.pay.2.2).w=true;have hwp:S.pay.1.w=true:=hw;unfold SD.bat;rw[h1];by_cases hc:(S.pay.1.r.wth ((BD q.1).1.rest9.code,(BD q.1).1.rest9.fat) S.pay.2.2).code=0
    ·have hz9:(BD q.1).1.rest9.code=0:=(KK hc).2.1;have hl:=h3 (N5 hz9);have hbr:S.pay.1.batR (KH q.1) S.pay.2.2=S.pay.1.batR (BD q.1) S.pay.2.2:=by unfold SD.batR;rw[h1,h2]
     rw[if_pos hc,if_pos hc,h2,hl,hbr,hwp];exact⟨rfl,rfl⟩
    ·rw[if_neg hc,if_neg hc];exact⟨rfl,hw⟩
  ·right;have e:∀rd,S.one rd=if q.2=2 then(S.pay.1.idx q.1 S.pay.2.2,true)else({S.pay.1 with r:=S.pay.1.r.wth ((q.1.fail 7 0).code,(q.1.fail 7 0).fat) S.pay.2.2},false):=λrd=>by unfold SD.one;rw[if_pos hz,hq,if_neg b1]
   rw[e BD,e KH];refine⟨rfl,?_⟩;split<;>exact hw
 ·right;have e:∀rd,S.one rd=(S.pay.1,true):=λrd=>by unfold SD.one;rw[if_neg hz]
  rw[e BD,e KH];exact⟨rfl,hw⟩
def l9:∀(n:Nat) (S:SD),S.w=true->(S.recs BD n).r.code=12∨(S.recs KH n=S.recs BD n∧(S.recs BD n).w=true):=by
 intro n
 induction n with
 |zero=>intro S hw;exact .inr ⟨rfl,hw⟩
 |succ n ih=>
  intro S hw;rw[SD.recs,SD.recs];by_cases hc:S.r.code=0
  ·rw[if_pos hc,if_pos hc];rcases vH hw with h|⟨h1,h2⟩
   ·left;cases hb:(S.one BD).2 with
    |true=>rw[if_pos rfl];exact h
    |false=>rw[if_neg De,Dg (by rw[h];decide)];exact h
   ·rw[h1];cases hb:(S.one BD).2 with
    |true=>rw[if_pos rfl];exact .inr ⟨rfl,h2⟩
    |false=>rw[if_neg De];exact ih _ h2
  ·rw[if_neg hc,if_neg hc];exact .inr ⟨rfl,hw⟩
def fY (L:List Int):((BT BD L).2.1=0->BT KH L=(((BT BD L).1.1,true),(0,0)))∧((BT BD L).2.1≠0->(BT KH L).2.1=0->(BT BD L).2.1=12):=by
 have h:=l9 (L.length+1) (SD.start L) rfl;have eS:SD.all BD L=(SD.start L).recs BD (L.length+1):=rfl;have eL:SD.all KH L=(SD.start L).recs KH (L.length+1):=rfl;rw[←eS,←eL]at h;rcases h with h|⟨h1,h2⟩
 ·have hd:(SD.all BD L).done.code=12:=by rw[Cb (by rw[h];decide)];exact h
  have hg:(BT BD L).2.1=12:=by unfold BT;rw[if_neg (by rw[hd];decide)];exact hd
  rw[hg];exact⟨λhh=>absurd hh De,λ_ _=>rfl⟩
 ·have hg:BT KH L=if(SD.all BD L).done.code=0 then((⟨(SD.all BD L).ep,(SD.all BD L).bt⟩,true),(0,0))else((CH,false),((SD.all BD L).done.code,(SD.all BD L).done.fat)):=by unfold BT;rw[h1,h2]
  by_cases hc:(SD.all BD L).done.code=0
  ·have hs:BT BD L=((⟨(SD.all BD L).ep,(SD.all BD L).bt⟩,(SD.all BD L).w),(0,0)):=by unfold BT;rw[if_pos hc]
   rw[if_pos hc]at hg;rw[hg,hs];exact⟨λ_=>rfl,λhh=>absurd rfl hh⟩
  ·have hs:BT BD L=((CH,false),((SD.all BD L).done.code,(SD.all BD L).done.fat)):=by unfold BT;rw[if_neg hc]
   rw[if_neg hc]at hg;rw[hg,hs];exact⟨λhh=>absurd hh hc,λ_ hh=>absurd hh hc⟩
def PS.pre (X:List Ev) (s:PS):PS:={s with out:=X++s.out}
def e9 (X:List Ev) (s:PS) (p:List Int):(s.pre X).takes p=(((s.takes p).1.1.pre X,(s.takes p).1.2),(s.takes p).2):=by
 unfold PS.takes;split
 ·unfold PS.batch;split
  ·have e:(s.pre X).batC ((RS.new p).byte.1.btch RS.blk).2=s.batC ((RS.new p).byte.1.btch RS.blk).2:=rfl;rw[e];split
   ·have e2:(s.pre X).bat ((RS.new p).byte.1.btch RS.blk).2=(s.bat ((RS.new p).byte.1.btch RS.blk).2).pre X:=by simp[PS.pre,PS.bat,append_assoc]
    rw[e2]
   ·rfl
  ·rfl
 ·split
  ·unfold PS.index;split
   ·have e:(s.pre X).ms=s.ms:=rfl;rw[e];split<;>rfl
   ·rfl
  ·rfl
def mN (X:List Ev) (s:PS):(s.pre X).step=(s.step.1.pre X,s.step.2):=by
 have hb:(s.pre X).buf=s.buf:=rfl;have hp:(s.pre X).ph=s.ph:=rfl;unfold PS.step;rw[hp];split
 ·unfold PS.header;rw[hb]
  repeat' split
  all_goals rfl
 ·unfold PS.record;rw[hb];split
  ·rw[e9];simp only[];split<;>rfl
  ·rfl
 ·unfold PS.footer;rw[hb,show(s.pre X).want=s.want from rfl]
  repeat' split
  all_goals rfl
 ·unfold PS.trailer;rw[hb,show(s.pre X).foot=s.foot from rfl]
  repeat' split
  all_goals rfl
 ·rfl
def u9 (X:List Ev) (s:PS) (c:Int):(s.pre X).one c=(s.one c).pre X:=by
 have e:(s.pre X).add c=(s.add c).pre X:=rfl;unfold PS.one;rw[e,mN];unfold PS.fin;simp only[];split
 ·split<;>rfl
 ·simp[PS.pre,append_assoc]
def mO (X:List Ev):∀(l:List Int) (s:PS),(s.pre X).feed l=(s.feed l).pre X:=by
 intro l
 induction l with
 |nil=>intro s;rfl
 |cons c l ih=>
  intro s;rw[PS.feed,PS.feed,u9,ih,show(s.pre X).ended=s.ended from rfl];split<;>rfl
def pK:∀(a b:List Int) (s:PS),s.feed (a++b)=(s.feed a).feed b:=by
 intro a
 induction a with
 |nil=>intro b s;rfl
 |cons c a ih=>
  intro b s;rw[cons_append,PS.feed,PS.feed,ih];split
  ·rfl
  ·rename_i h;rw[O7 h]
def PS.clr (s:PS):PS:={s with out:=[]}
def PS.many (s:PS):List (List Int)->List Ev
 |[]=>s.close.2
 |b::l=>(s.feed b).out++(s.feed b).clr.many l
def fX:∀(l:List (List Int)) (s:PS),s.out=[]->s.many l=(s.feed l.flatten).out++(s.feed l.flatten).close.2:=by
 intro l
 induction l with
 |nil=>intro s h;simp[PS.many,PS.feed,h]
 |cons b l ih=>
  intro s h;rw[PS.many,ih _ rfl,flatten_cons,pK];have e:s.feed b=((s.feed b).clr).pre (s.feed b).out:=by unfold PS.pre PS.clr;simp
  have e2:=mO (s.feed b).out l.flatten (s.feed b).clr;rw[←e]at e2;rw[e2];have e3:(((s.feed b).clr.feed l.flatten).pre (s.feed b).out).close.2=((s.feed b).clr.feed l.flatten).close.2:=by
   unfold PS.close;rw[show(((s.feed b).clr.feed l.flatten).pre (s.feed b).out).ended=((s.feed b).clr.feed l.flatten).ended from rfl,show(((s.feed b).clr.feed l.flatten).pre (s.feed b).out).whole=((s.feed b).clr.feed l.flatten).whole from rfl];split
   ·split<;>rfl
   ·rfl
  rw[e3,←append_assoc];rfl
def qI {s:PS} (h:CL s):CL s.clr:=by
 have:=h.f0;have:=h.f1;exact⟨h.bb,h.bl,h.f0,h.f1,h.f2,by show((0:Nat):Int)≤2*s.fed;omega,h.ml,h.ln,h.b0,h.b1,h.t0,h.t1,h.a0,h.a1,h.z0,h.z1⟩
def sK (t:PS) (Y:List Ev) (k:Nat):Prop:=∃X a,t.out++t.close.2=Y++X++[.oth 2 a 0]∧X.length=k
def vN {S:SD} {s:PS} {d:Nat} (hr:Ak S.r) (ha:S.r.at_=d) (hp:s.ph=2) (he:s.ended=0) (hb:s.buf=[]) (hd:s.fed=d) (hw:s.want=S.want) (hwd:s.want.at_+s.want.size=d) (hx:S.fin.code=0):sK (s.feed (S.r.l.drop d)) s.out 0:=by
 have hpr:S.pay.1.r=(S.r.frame 2097152).1:=rfl;have hp1:S.pay.2.1=(S.r.frame 2097152).2:=rfl;have hpf:S.pay.1.fst=d:=ha;have hz:(S.r.frame 2097152).1.code=0:=Classical.byContradiction λhn=>by
  unfold SD.fin at hx;rw[hpr,if_neg hn]at hx;exact hn hx
 have hfin:S.fin=S.end2.rest9:=by unfold SD.fin;rw[hpr,if_pos hz]
 rw[hfin]at hx;have⟨f1,f2,f3,f4,f5⟩:=Gt hr ha hz;have⟨k1,k2⟩:=BA hr 2097152;have⟨F,hF⟩:=Ex (S.r.frame 2097152);rw[hF]at hpr hp1 hz f1 f2 f3 f4 f5 k1 k2;have hfl:=Bi F.2;have⟨n,hn⟩:=Ex ((Ag F.2).length);rw[hn]at f1 f2 f5 hfl;rw[f1];have hE0:S.end1.code=0:=Classical.byContradiction λh=>by rw[L3 h]at hx;exact h hx
 have he1:(Bh F.2).2.1=0:=Classical.byContradiction λh=>by
  have hg:=FG hz h S.pay.2.2;unfold SD.end1 at hE0;rw[hpr,hp1]at hE0;split at hE0
  ·rw[hg.1]at hE0;exact h hE0
  ·rw[Dr (by rw[hg.1];exact h),hg.1]at hE0;exact h hE0
 have hwt:S.pay.1.r.wth (Bh S.pay.2.1).2 S.pay.2.2=F.1:=by rw[hpr,hp1];unfold RS.wth;rw[if_pos he1]
 have hft:(Bh F.2).1=s.want:=Classical.byContradiction λh=>by
  unfold SD.end1 at hE0;rw[hwt,hp1,←hw,if_neg h]at hE0;exact CK De hE0
 have hE:S.end1=F.1:=by unfold SD.end1;rw[hwt,hp1,←hw,if_pos hft]
 have hFl:F.1.l=S.r.l:=k2;have hat:F.1.at_.toNat=d+n:=Om
 have hdn:F.1.at_-(d:Int)=n:=Om
 have h2:=N5 hx;have hT:(F.1.take 12).2=A4 n∧(F.1.take 12).1.code=0∧S.end2=(F.1.take 12).1:=by
  unfold SD.end2 at h2 ⊢;rw[hE,hpf,hdn]at h2 ⊢;by_cases h:(F.1.take 12).2=A4 n
  ·rw[if_pos h]at h2 ⊢;exact⟨h,h2,rfl⟩
  ·rw[if_neg h]at h2;exact absurd h2 (CK De)
 have⟨t1,t2,t3⟩:=hT;have htb:=Be k1 t2;have hR:S.r.l.drop (d+n)=A4 n:=by
  have h5:=htb.2.2.2.2;have h4:=htb.2.2.2.1;rw[hFl,t1,hat]at h5;have h9:(F.1.take 12).1.rest9.code=0:=by rw[←t3];exact hx
  have hl:(F.1.take 12).1.l=S.r.l:=(kX _ _).trans hFl;have hle:¬0<(F.1.take 12).1.left:=λh=>by
   unfold RS.rest9 at h9;rw[if_pos h]at h9;exact CK De h9
  unfold RS.left at hle;rw[hl]at hle;rw[take_of_length_le Om]at h5;rw[h5,drop_append,drop_eq_nil_of_le (by rw[length_take];omega),length_take,show d+n-min (d+n) S.r.l.length=0 by omega];simp
 rw[hR];have hfd:s.feed (Ag F.2++A4 n)=({s with ph:=3,foot:=n,fst:=s.fed+n,fed:=s.fed+n,buf:=[]}:PS).feed (A4 n):=by
  have hh:=EW (s:=s) (c:=Ag F.2) (r:=A4 n) (t:={s with ph:=3,foot:=n,buf:=Ag F.2,fed:=s.fed+n}) he hb Om (λk k0 k1=>by
   rw[JZ (by rw[B7];exact hp)];unfold PS.footer;rw[Bn,IC f3 f4 k1,if_neg De]) (by
   rw[JZ (by rw[B7];exact hp)];unfold PS.footer;rw[Bn,take_length,IB f3 f4];simp only[if_true];rw[if_pos he1,LU,if_pos hft,hn];unfold PS.hold;simp only[take_length])
  rw[hh]
 have htr:=Y6 (s:={s with ph:=3,foot:=n,fst:=s.fed+n,fed:=s.fed+n,buf:=[]}) he rfl rfl;rw[hfd,show A4 (n:Int)=A4 ({s with ph:=3,foot:=n,fst:=s.fed+n,fed:=s.fed+n,buf:=[]}:PS).foot from rfl,htr];refine⟨[],s.fed+n+12,?_,rfl⟩;have hwh:({({s with ph:=3,foot:=n,fst:=s.fed+n,fed:=s.fed+n,buf:=[]}:PS)with ph:=4,fst:=s.fed+n+12,fed:=s.fed+n+12,buf:=[]}:PS).whole=true:=by
  unfold PS.whole;have e1:decide ((0:Int)<(n:Int))=true:=decide_eq_true Om;have e2:decide (s.fed+(n:Int)+12=s.want.at_+s.want.size+n+12)=true:=decide_eq_true (by rw[hwd,hd]);show(decide ((0:Int)<(n:Int))&&(decide (([]:List Int).length=0)&&decide (s.fed+(n:Int)+12=s.want.at_+s.want.size+n+12)))=true;rw[e1,e2];rfl
 unfold PS.close;rw[if_pos (show _=(0:Int)from he),if_pos hwh,append_nil]
def vM {L:List Int}:∀(n:Nat) (S:SD) (s:PS) (d:Nat),PD L S s d->(L.length:Int)-d<n->(S.recs BD n).done.code=0->∃k,sK (s.feed (L.drop d)) s.out k∧k+S.bt.length=(S.recs BD n).bt.length:=by
 intro n
 induction n with
 |zero=>
  intro S s d h hn hx;have h1:=h.sk.r.at1;rw[h.sk.l,h.at_]at h1;omega
 |succ n ih=>
  intro S s d h hn hx;have hr:=h.sk.r;have hl:=h.sk.l;rw[SD.recs,if_pos h.c]at hx ⊢;have⟨K1,K2⟩:=K0 St h.sk h.c;have hpr:S.pay.1.r=(S.r.frame 2097152).1:=rfl;have hp1:S.pay.2.1=(S.r.frame 2097152).2:=rfl;have hpf:S.pay.1.fst=d:=h.at_;by_cases hz:(S.r.frame 2097152).1.code=0
  ·have⟨f1,f2,f3,f4,f5⟩:=Gt hr h.at_ hz;have⟨F,hF⟩:=Ex (S.r.frame 2097152);rw[hF]at hpr hp1 hz f1 f2 f3 f4 f5;rw[hl]at f1 f5;have⟨m,hm⟩:=Ex ((Ag F.2).length);have hfl:=Bi F.2;have⟨H,hH⟩:=Ex (s.hold (Ag F.2) (Ag F.2).length);have⟨k1,k2,k3,k4,k5,k6,k7,k8,k9,k10,k11,k12⟩:=VX s (Ag F.2) (Ag F.2).length;rw[hH]at k1 k2 k3 k4 k5 k6 k7 k8 k9 k10 k11 k12;rw[hm]at f1 f2 f5 k7 hfl;rw[f1];have⟨q,hq⟩:=Ex ((RS.new F.2).byte);have hfeed:=λt q' ht hc=>Wb (s:=s) (p:=F.2) (r:=L.drop (d+m)) (t:=t) (q:=q') h.ended h.buf h.ph f3 f4 ht hc
   rw[hH]at hfeed;by_cases b1:q.2=1
   ·have hone:S.one BD=(S.pay.1.bat BD q.1 S.pay.2.2,false):=by
     unfold SD.one;rw[hpr,if_pos hz,hp1,hq,if_pos b1]
    have htk:H.takes F.2=H.batch q.1:=by unfold PS.takes;rw[hq,if_pos b1]
    rw[hone]at hx K1 K2 ⊢;simp only[Bool.false_eq_true,if_false]at hx K1 K2 ⊢;have⟨D,hD⟩:=Ex (q.1.btch RS.blk);have hrd:BD q.1=(D.1,(D.2,true)):=by unfold BD;rw[hD]
    have hbt:H.batch q.1=if D.1.rest9.code=0 then(if H.batC D.2=0 then(H.bat D.2,0)else(H,H.batC D.2),D.1.rest9)else((H,0),D.1.rest9):=by unfold PS.batch;rw[hD]
    have hS0:(S.pay.1.bat BD q.1 S.pay.2.2).r.code=0:=Classical.byContradiction λhn=>by
     rw[Dg hn,Cb hn]at hx;exact hn hx
    have he:D.1.rest9.code=0:=Classical.byContradiction λhn=>by
     have hw:=FG (s:=F.1) hz (f:=(D.1.rest9.code,D.1.rest9.fat)) hn S.pay.2.2;unfold SD.bat at hS0;rw[hrd,hpr,if_neg (by rw[hw.1];exact hn)]at hS0;rw[show(F.1.wth (D.1.rest9.code,D.1.rest9.fat) S.pay.2.2).code=D.1.rest9.code from hw.1]at hS0;exact hn hS0
    have hw:S.pay.1.r.wth ((BD q.1).1.rest9.code,(BD q.1).1.rest9.fat) S.pay.2.2=F.1:=by
     rw[hpr,hrd];unfold RS.wth;rw[if_pos he]
    have hB:=bL h k1 k2 k3 k4 k5 D.2;rw[if_pos he]at hbt;have hbatR:S.pay.1.batR (BD q.1) S.pay.2.2=if S.bt.length=16 then F.1.fail 2 d else if Ey S.ep S.bt D.2=false then F.1.fail 13 d else F.1:=by
     unfold SD.batR;rw[hw,if_pos hz,hrd,hpf];rfl
    have hbat:S.pay.1.bat BD q.1 S.pay.2.2={S.pay.1 with r:=S.pay.1.batR (BD q.1) S.pay.2.2,bt:=S.bt++[D.2],ms:=S.ms++[⟨D.2.base,D.2.en.length,d⟩],w:=S.w&&true}:=by
     unfold SD.bat;rw[hw,if_pos hz,hrd,←hpf];rfl
    have hR0:(S.pay.1.batR (BD q.1) S.pay.2.2).code=0:=by rw[hbat]at hS0;exact hS0
    have hrF:S.pay.1.batR (BD q.1) S.pay.2.2=F.1∧H.batC D.2=0:=by
     rw[hbatR]at hR0 ⊢;rw[hB];by_cases h16:S.bt.length=16
     ·rw[if_pos h16]at hR0;exact absurd hR0 (CK De)
     ·rw[if_neg h16]at hR0 ⊢;rw[if_neg h16];by_cases hfo:Ey S.ep S.bt D.2=false
      ·rw[if_pos hfo]at hR0;exact absurd hR0 (CK De)
      ·rw[if_neg hfo,if_neg hfo];exact⟨rfl,rfl⟩
    rw[if_pos hrF.2]at hbt;rw[hfeed (H.bat D.2) D.1.rest9 (by rw[htk,hbt]) he];rw[hbat,hrF.1]at hx K1 K2 ⊢;have⟨k,⟨X,a,i1,i2⟩,i3⟩:=ih _ {H.bat D.2 with fst:=(H.bat D.2).fed,buf:=[]} (d+m) ⟨K1,hz,f2,k10.trans h.ph,k9.trans h.ended,rfl,by show H.fed=_;rw[k7,h.fed];omega,by show H.fed=_;rw[k7,h.fed];omega,k2.trans h.ep,by
     show H.ms++[⟨D.2.base,D.2.en.length,H.fst⟩]=S.ms++[⟨D.2.base,D.2.en.length,(d:Int)⟩];rw[k1,k6,h.ms,h.fst],k12.trans h.foot,λ_=>by rw[I0];exact⟨rfl,rfl⟩⟩ Om hx
    refine⟨k+1,⟨.item H.fst D.2::X,a,?_,by simp[i2]⟩,?_⟩
    ·rw[i1];show(H.out++[.item H.fst D.2])++X++_=_;rw[k8];simp
    ·rw[←i3];simp;omega
   ·by_cases b2:q.2=2
    ·have hone:S.one BD=(S.pay.1.idx q.1 S.pay.2.2,true):=by
      unfold SD.one;rw[hpr,if_pos hz,hp1,hq,if_neg b1,if_pos b2]
     have htk:H.takes F.2=H.index q.1:=by unfold PS.takes;rw[hq,if_neg b1,if_pos b2]
     rw[hone]at hx K1 K2 ⊢;simp only[if_true]at hx K1 K2 ⊢;have⟨D,hD⟩:=Ex q.1.marks;have hix:H.index q.1=if D.1.rest9.code=0 then(if D.2=S.ms then(H.idx D.2,0)else(H,12),D.1.rest9)else((H,0),D.1.rest9):=by unfold PS.index;rw[hD,k1,h.ms]
     have hir:(S.pay.1.idx q.1 S.pay.2.2).r=if(F.1.wth (D.1.rest9.code,D.1.rest9.fat) S.pay.2.2).code=0∧¬D.2=S.ms then(F.1.wth (D.1.rest9.code,D.1.rest9.fat) S.pay.2.2).fail 12 d else F.1.wth (D.1.rest9.code,D.1.rest9.fat) S.pay.2.2:=by
      show S.pay.1.idxR q.1 S.pay.2.2=_;unfold SD.idxR;rw[hD,hpr,hpf];rfl
     have hS0:(S.pay.1.idx q.1 S.pay.2.2).r.code=0:=Classical.byContradiction λhn=>by
      rw[Cb hn]at hx;exact hn hx
     rw[hir]at hS0;have he:D.1.rest9.code=0:=Classical.byContradiction λhn=>by
      have hw:=FG (s:=F.1) hz (f:=(D.1.rest9.code,D.1.rest9.fat)) hn S.pay.2.2;rw[if_neg (λg=>by rw[hw.1]at g;exact hn g.1),hw.1]at hS0;exact hn hS0
     have hw:F.1.wth (D.1.rest9.code,D.1.rest9.fat) S.pay.2.2=F.1:=by unfold RS.wth;rw[if_pos he]
     rw[hw]at hS0 hir;have hms:D.2=S.ms:=Classical.byContradiction λhn=>by
      rw[if_pos ⟨hz,hn⟩]at hS0;exact CK De hS0
     rw[if_pos he,if_pos hms]at hix;rw[if_neg (λg=>g.2 hms)]at hir;rw[hfeed (H.idx D.2) D.1.rest9 (by rw[htk,hix]) he];have hfin:(S.pay.1.idx q.1 S.pay.2.2).done=(S.pay.1.idx q.1 S.pay.2.2).fin:=by unfold SD.done;rw[hir,if_pos hz]
     rw[hfin]at hx;have hHb:H.buf.length=m:=by rw[←hH,Bn,take_length,hm]
     have hlr:(S.pay.1.idx q.1 S.pay.2.2).r.l=L:=K1.l;have:=vN (S:=S.pay.1.idx q.1 S.pay.2.2) (s:={H.idx D.2 with fst:=(H.idx D.2).fed,buf:=[]}) (d:=d+m) (by rw[hir];have:=K1.r;rw[hir]at this;exact this) (by rw[hir];exact f2) rfl (k9.trans h.ended) rfl (by show H.fed=_;rw[k7,h.fed];omega) (by
      show(⟨H.ep,_,_,_,_,H.fst,(H.buf.length:Int)⟩:Ft)=Ib S.ep S.ms (S.pay.1.fst) ((S.pay.1.idx q.1 S.pay.2.2).r.at_-S.pay.1.fst);rw[hir,hpf,f2,k2,k6,h.ep,h.fst,hHb,hms,show((d+m:Nat):Int)-d=m by omega];rfl) (by
      show H.fst+(H.buf.length:Int)=_;rw[k6,h.fst,hHb];omega) hx
     rw[hlr]at this;have⟨X,a,i1,i2⟩:=this;refine⟨0,⟨X,a,?_,i2⟩,by rw[Nat.zero_add];rfl⟩;rw[i1];show H.out++X++_=_;rw[k8]
    ·have⟨w,hw⟩:=Ex (q.1.fail 7 0);have hwc:¬w.code=0:=by rw[←hw];exact CK De
     have hone:S.one BD=({S.pay.1 with r:=F.1.wth (w.code,w.fat) S.pay.2.2},false):=by
      unfold SD.one;rw[hpr,if_pos hz,hp1,hq,if_neg b1,if_neg b2,hw]
     rw[hone]at hx;simp only[Bool.false_eq_true,if_false]at hx;have hwt:=FG (s:=F.1) hz (f:=(w.code,w.fat)) hwc S.pay.2.2;have hc:(F.1.wth (w.code,w.fat) S.pay.2.2).code≠0:=by rw[hwt.1];exact hwc
     rw[Dg (by exact hc),Cb (by exact hc)]at hx;exact absurd hx hc
  ·have hone:S.one BD=(S.pay.1,true):=by unfold SD.one;rw[hpr,if_neg hz]
   rw[hone,if_pos rfl,Cb (by rw[hpr];exact hz),hpr]at hx;exact absurd hx hz
def Abp {L:List Int} (hb:AW L) (hl:L.length≤1000000) (hx:(SD.all BD L).done.code=0):sK (Eu.feed L) [] (SD.all BD L).bt.length:=by
 have hs0:=KR hb hl;have hr:(SD.start L).r=if(RS.new L).header.2.ver=3 then(RS.new L).header.1 else(RS.new L).header.1.fail 8 4:=rfl
 have hS:SD.all BD L=(SD.start L).recs BD (L.length+1):=rfl;rw[hS]at hx ⊢;have hc:(SD.start L).r.code=0:=Classical.byContradiction λhn=>by
  rw[Dg hn,Cb hn]at hx;exact hn hx
 have hin:=Uv hb hl hc;have hpre:=hin.pre;have e1:(SD.start L).bt=[]:=rfl;rw[e1,show Er []=[]from rfl,append_nil]at hpre;have⟨n,hn⟩:=Ex ((Am ⟨3,(SD.start L).ep,0⟩).length);have hat:=aD hs0 hpre;rw[hn]at hat;have hsp:L=Am ⟨3,(SD.start L).ep,0⟩++L.drop n:=by
  rw[←hpre,hat,Int.toNat_natCast,take_append_drop]
 have hfd:=ME (s:=Eu) (r:=L.drop n) rfl rfl rfl hin.ep;rw[←hsp,hn]at hfd;have hz0:Eu.fed=0:=rfl;have h1:=hs0.r.at1;rw[hs0.l,hat]at h1;have⟨k,⟨X,a,i1,i2⟩,i3⟩:=vM (L.length+1) (SD.start L) {Eu with ph:=1,ep:=(SD.start L).ep,fst:=Eu.fed+n,fed:=Eu.fed+n,buf:=[]} n ⟨hs0,hc,hat,rfl,rfl,rfl,by show Eu.fed+(n:Int)=n;rw[hz0];omega,by show Eu.fed+(n:Int)=n;rw[hz0];omega,rfl,rfl,rfl,λh=>absurd rfl h⟩ Om hx;rw[hfd];refine⟨X,a,i1,?_⟩;rw[i2,←i3,e1];rfl
def gL {m:Nat}:∀(l:List En),(∀e∈l,e.data.length≤m)->(AK l).length≤l.length*m:=by
 intro l
 induction l with
 |nil=>intro _;simp[AK]
 |cons e l ih=>
  intro h;have h1:=ih λx hx=>h x (by simp[hx])
  have h2:=h e Si;have e1:AK (e::l)=e.data++AK l:=by simp[AK]
  rw[e1,length_append,length_cons,Nat.add_mul];omega
def R1.ev {b:Bt} (h:R1 b):DG b∧j9 b.en:=by
 have hl:=h.len;have hj:=gL (m:=1048576) b.en λe he=>(h.small e he).2.2
 refine⟨⟨Om,λe he=>?_,?_⟩,h.ok.en⟩
 ·have⟨s1,s2,s3⟩:=h.small e he;exact⟨⟨Om,λx hx=>by have:=s2 x hx;omega⟩,Om⟩
 ·have:b.en.length*1048576≤16*1048576:=Nat.mul_le_mul_right _ hl;omega
def kW {s:PS} {p:List Int} (hp:AW p) (hn:p.length≤1000000) (ho:∀e∈s.out,Me e):∀e∈(s.takes p).1.1.out,Me e:=by
 have hok:Ak (RS.new p):=Ak.new hp Om;have⟨q1,q2⟩:=RS.ok.byte_ hok;have hB:=(L7 q1 Hq).1;unfold PS.takes;split
 ·unfold PS.batch;split
  ·split
   ·intro e he;rcases mem_append.1 (show e∈s.out++[.item s.fst ((RS.new p).byte.1.btch RS.blk).2]from he)with h|h
    ·exact ho e h
    ·simp at h;subst h;exact hB.ev
   ·exact ho
  ·exact ho
 ·split
  ·unfold PS.index;split
   ·split<;>exact ho
   ·exact ho
  ·exact ho
def tQ {s:PS} (h:CL s) (ho:∀e∈s.out,Me e):∀e∈s.step.1.out,Me e:=by
 have⟨p1,p2,_⟩:=HH h.bb h.len;unfold PS.step;split
 ·unfold PS.header
  repeat' split
  all_goals exact ho
 ·have ht:=kW p1 p2 ho;unfold PS.record
  repeat' split
  all_goals first|exact ht|exact ho
 ·unfold PS.footer
  repeat' split
  all_goals exact ho
 ·unfold PS.trailer
  repeat' split
  all_goals exact ho
 ·exact ho
def Abo {s:PS} (h:CL s) {c:Int} (hc:0≤c∧c<256) (hf:s.fed+1≤1000000) (ho:∀e∈s.out,Me e):∀e∈(s.one c).out,Me e:=by
 have hs:=tQ (KD h hc hf).1 (show∀e∈(s.add c).out,Me e from ho);unfold PS.one PS.fin;split
 ·split<;>exact hs
 ·intro e he;rcases mem_append.1 (show e∈(s.add c).step.1.out++[_]from he)with h|h
  ·exact hs e h
  ·simp at h;subst h;trivial
def xF:∀(l:List Int) (s:PS),CL s->AW l->s.fed+l.length≤1000000->(∀e∈s.out,Me e)->∀e∈(s.feed l).out,Me e:=by
 intro l
 induction l with
 |nil=>intro s _ _ _ ho;exact ho
 |cons c l ih=>
  intro s h hb hn ho;rw[length_cons]at hn;rw[PS.feed];split
  ·have⟨o1,o2,_,_⟩:=SE h (hb c Si) Om;exact ih _ o1 (λx hx=>hb x (by simp[hx])) Om (Abo h (hb c Si) Om ho)
  ·exact ho
def qJ (s:PS):∀e∈s.close.2,Me e:=by
 unfold PS.close;split
 ·split
  ·intro e he;simp at he;subst he;trivial
  ·intro e he;simp at he;subst he;trivial
 ·intro e he;simp at he
def Aeg {b:List Int} (hb:AW b) (hn:b.length≤1000000):∀e∈E7 b,Me e:=λe he=>by
 rcases mem_append.1 he with h|h
 ·exact xF b Eu Oi hb (by show(0:Int)+_≤_;omega) (λe he=>by simp[Eu]at he) e h
 ·exact qJ _ e h
def W4 {s:List Int} (h:(BT BD s).2.1=0):(SD.all BD s).done.code=0:=by
 refine Classical.byContradiction λhn=>?_
 unfold BT at h;rw[if_neg hn]at h;exact hn h
def nJ {s:List Int} (hb:AW s) (hl:s.length≤1000000) (h:(BT BD s).2.1=0):(BT BD s).2=(0,0)∧(∀b∈(BT BD s).1.1.bt,R1 b)∧(BT BD s).1.1.bt.length≤16∧∃X a,E7 s=X++[.oth 2 a 0]∧X.length=(BT BD s).1.1.bt.length:=by
 have hd:=W4 h;have hk:=rS St hb hl;have⟨X,a,h1,h2⟩:=Abp hb hl hd;have hr:(SD.all BD s).r.code=0:=Classical.byContradiction λhn=>by rw[Cb hn]at hd;exact hn hd
 have e:BT BD s=((⟨(SD.all BD s).ep,(SD.all BD s).bt⟩,(SD.all BD s).w),(0,0)):=by unfold BT;rw[if_pos hd]
 rw[e];exact⟨rfl,hk.bt,hk.nn hr,X,a,by rw[nil_append]at h1;exact h1,h2⟩
def Aa0 {s:List Int} (h:(BT BD s).2.1=0):Ij s=(3,(0,0)):=by
 have hd:=W4 h;have hS:(SD.start s).r.code=0:=by
  refine Classical.byContradiction λhn=>?_
  have e:SD.all BD s=(SD.start s).recs BD (s.length+1):=rfl;rw[e,Dg hn,Cb hn]at hd;exact hn hd
 have e:(SD.start s).r=if(RS.new s).header.2.ver=3 then(RS.new s).header.1 else(RS.new s).header.1.fail 8 4:=rfl
 rw[e]at hS;by_cases hv:(RS.new s).header.2.ver=3
 ·rw[if_pos hv]at hS;unfold RS.header at hS hv;by_cases h1:((RS.new s).hplain.1.fixed 4).1.code=0
  ·rw[if_pos h1]at hv;by_cases h2:((RS.new s).hplain.1.fixed 4).2=Bb ((RS.new s).from (RS.new s).hplain.1)
   ·rw[if_pos h2]at hv;have hv':(RS.new s).hbegin.2=3:=hv;have hp:(RS.new s).hplain.1.code=0:=Classical.byContradiction λhn=>by
     have e2:((RS.new s).hplain.1.fixed 4).1=(RS.new s).hplain.1:=(DC 4).stay _ hn;rw[e2]at h1;exact hn h1
    have hb:(RS.new s).hbegin.1.code=0:=Classical.byContradiction λhn=>by
     have e1:((RS.new s).hbegin.1.epo Ac).1=(RS.new s).hbegin.1:=(X0 Ac).stay _ hn;have e2:(((RS.new s).hbegin.1.epo Ac).1.hbase (RS.new s).hbegin.2).1=((RS.new s).hbegin.1.epo Ac).1:=(UW _).stay _ (by rw[e1];exact hn);have e3:(RS.new s).hplain.1=(((RS.new s).hbegin.1.epo Ac).1.hbase (RS.new s).hbegin.2).1:=rfl;rw[e3,e2,e1]at hp;exact hn hp
    unfold Ij;rw[if_pos hb,hv']
   ·rw[if_neg h2]at hv;exact absurd hv (show¬Ls.ver=3 by decide)
  ·rw[if_neg h1]at hv;exact absurd hv (show¬Ls.ver=3 by decide)
 ·rw[if_neg hv]at hS;exact absurd hS (CK De)
def Aef {s:List Int} (h:(BT BD s).2.1=0) (h2:(BT BD s).2=(0,0)):QI s=((BT BD s).1.1,(3,(0,0))):=by
 have hv:=Aa0 h;have e:Nf s=(((BT BD s).1.1,0),(0,0)):=by unfold Nf;rw[hv,if_neg De,if_neg De,if_pos rfl,h2]
 have ef:Mb s=(0,0):=by unfold Mb;rw[e];rfl
 unfold QI;rw[ef,if_pos rfl,e,hv]
def Aag {s:List Int} (h:(BT BD s).2.1≠0):(QI s).2.1≠3:=by
 unfold QI;by_cases hf:(Mb s).1=0
 ·rw[if_pos hf];intro h3;have h3':(Ij s).1=3:=h3;have e:Nf s=(((BT BD s).1.1,0),(BT BD s).2):=by unfold Nf;rw[h3',if_neg De,if_neg De,if_pos rfl]
  have ef:Mb s=(BT BD s).2:=by unfold Mb;rw[e];unfold Qq;rw[if_neg h]
  rw[ef]at hf;exact h hf
 ·rw[if_neg hf];show(0:Int)≠3;decide
def wB {s:List Int} (h:(BT KH s).2.1≠0):(BT KH s).1.2=false:=by
 unfold BT at h ⊢;split
 ·rename_i hc;rw[if_pos hc]at h;exact absurd rfl h
 ·rfl
def rU {s:List Int} (hb:AW s) (hn:s.length≤1000000) (h:(BT BD s).2.1≠0):∃X κ,E7 s=X++[.oth κ (BT BD s).2.2 (BT BD s).2.1]∧κ≠2:=by
 have hd:(SD.all BD s).done.code≠0:=λhd=>by
  unfold BT at h;rw[if_pos hd]at h;exact h rfl
 have e:(BT BD s).2=((SD.all BD s).done.code,(SD.all BD s).done.fat):=by unfold BT;rw[if_neg hd]
 rw[e];exact pZ hb hn hd
def Aah {s:List Int} (hb:AW s) (hn:s.length≤1000000):(E7 s).length≤2*s.length+1:=by
 have⟨fk,fn⟩:=Tn s Eu Oi hb (by show(0:Int)+_≤_;omega);have ol:=fk.ol;have f2:=fk.f2;have cl:(Eu.feed s).close.2.length≤1:=by
  unfold PS.close;split
  ·split<;>simp
  ·simp
 have hz:Eu.fed=0:=rfl;unfold E7;rw[length_append];omega
abbrev agS (g h k:EL) (f x y:Int×Int) (s:PS) (E:List Ev):List Ad:=[.cells [uA g.ep,GN g.bt],.cells [iA f.1,iA f.2],.cells [uA h.ep,GN h.bt],.cells [iA x.1,iA x.2],.cells [uA k.ep,GN k.bt],.cells [iA y.1,iA y.2],P5 s (U_ s 7) (Sy s 8) CY,.row 1 s.buf.length,.row 3 s.ms.length,.row 20 E.length]
def SX (s z:List Int) (hb:AW s) (hz:AW z):Ah prog 3 [Bd .u8 s,Bd .u8 z] [] (bA true) []:=by
 refine RN func3 b3 ?_;refine (mq @Ab ?_).1
 by_cases h8:800<s.length
 ·have c1:decide ((800:Int)<(s.length:Int))=true:=by simp only[decide_eq_true_eq];omega
  refine (mq c1 ?_).1;refine Aa.p (Fj) (mp ?_).1;exact FA b3 []
 ·have c1:decide ((800:Int)<(s.length:Int))=false:=by simp only[decide_eq_false_iff_not];omega
  have hsl:s.length≤1000000:=Om
  refine (mq c1 ?_).1;refine Aa.p (VK s hb hsl) ?_;cases hh:YO s with
  |true=>
   refine (mp ?_).1;refine Aa.p (Fj) (mp ?_).1;exact FA b3 []
  |false=>
   have hde:=Iz s hb hsl;have hdl:=JF s hb hsl;have hra:=MV s hb hsl;have hpi:=Xm s z hsl hz;obtain⟨D,hD⟩:∃D,BT BD s=D:=⟨_,rfl⟩;obtain⟨M,hM⟩:∃M,BT KH s=M:=⟨_,rfl⟩;obtain⟨A,hA⟩:∃A,QI s=A:=⟨_,rfl⟩;obtain⟨P,hP⟩:∃P,pcs s z=P:=⟨_,rfl⟩;rw[hD]at hde;rw[hM]at hdl;rw[hA]at hra;rw[hP]at hpi;refine (mp ?_).1;refine Aa.p (hde) (mp ?_).1;refine Aa.p (hdl) (mp ?_).1;refine Aa.p (hra) (mp ?_).1;refine Aa.n (Wi) (mp ?_).1;refine Aa.p (hpi) (mq @HG ?_).1;have hfl:P.flatten=s:=by rw[←hP];exact mS _ _
   have hAl:=Aah hb hsl;have h0:Eu.many P=E7 s:=by rw[fX P Eu rfl,hfl];rfl
   obtain⟨V,hV⟩:∃V,E7 s=V:=⟨_,rfl⟩;have hPl:P.length≤41:=by rw[←hP];unfold pcs;rw[vC,length_take];omega
   have hPb:∀b∈P,AW b:=λb hbm x hx=>hb x (by rw[←hfl];exact mem_flatten.2 ⟨b,hbm,hx⟩)
   rw[hV]at h0 hAl;refine AA (α:=Nat×PS×List Ev) (λa=>Bd .u8 s::.any::.any::.any::.any::.ref 0 0::.ref 1 0::.ref 2 0::bA M.1.2::.ref 3 0::.ref 4 0::iA A.2.1::.ref 5 0::.ref 6 0::.sl (.row 9) 20 (GO a.2.2)::Az (Ay (Ay (Ay (.any::.any::.any::.sl .none 1 (X9 P)::iA P.length::iA a.1::Az (Az (Az (Az (Az (Az (Az (Ay (Ay []))))))))))))) (λa=>agS D.1.1 M.1.1 A.1 D.2 M.2 A.2.2 a.2.1 a.2.2) (λa=>a.1≤P.length∧CL a.2.1∧a.2.1.out=[]∧a.2.1.fed+((P.drop a.1).flatten).length≤1000000∧a.2.2++a.2.1.many (P.drop a.1)=V) (λa=>P.length-a.1) (0,Eu,[]) ⟨Si,Oi,rfl,by simp only[drop_zero];rw[hfl];show(0:Int)+_≤_;omega,by simpa using h0⟩
    ((Wk.rowObj 6 1 1 rfl rfl (.inr rfl) Om).trans ((Wk.rowObj 6 9 3 rfl rfl (.inr rfl) Om).trans ((Wk.row 14 20 rfl (.inr rfl) De).trans (Wk.to (by simp[agS,Eu,GO,H9,Kn]) (by simp[BS,GO]))))) ?_
   rintro⟨i,u,E⟩ ⟨i1,i2,i3,i4,i5⟩;simp only[]at i1 i2 i3 i4 i5;refine (mp ?_).1;by_cases hlt:i<P.length
   ·have q1:decide ((i:Int)<(P.length:Int))=true:=decide_eq_true Om;have ek:=Aw i Om;have hg:=vD P i hlt;have hbm:P.getD i []∈P:=by simp[hlt]
    have hdr:P.drop i=P.getD i []::P.drop (i+1):=by rw[drop_eq_getElem_cons hlt];simp[hlt]
    have hbb:=hPb _ hbm;obtain⟨b,hbe⟩:∃b,P.getD i []=b:=⟨_,rfl⟩;rw[hbe]at hg hdr hbb;rw[hdr]at i4 i5;rw[flatten_cons,length_append]at i4;rw[PS.many]at i5;have hct:=O8 u b i2 i3 hbb Om 6 7 8 De;have hfs:=RG b u none;have⟨fk,fn⟩:=Tn b u i2 hbb Om;obtain⟨⟨F,st⟩,hF⟩:∃F,u.feedS b none=F:=⟨_,rfl⟩;rw[hF]at hct hfs;simp only[]at hct hfs;rw[←hfs]at fk fn i5;have hlen:=congrArg List.length i5;rw[length_append,length_append]at hlen;refine (mt q1 hg @HG @Int.toNat_natCast ?_).1;(repeat with_reducible refine Sa ?_);refine Aa.ofN hct Si (by simp[sR]) ?_;cases st with
    |none=>
     simp only[mL,sR,Option.getD_none,Option.isSome_none,Bool.false_eq_true,if_false];refine (ms @Bk @Eg ek ?_).1;refine⟨Om,(i+1,F.clr,E++F.out),⟨hlt,qI fk,rfl,by show F.fed+_≤_;simp only[];omega,by simp only[append_assoc];exact i5⟩,by simp only[];omega,?_⟩;exact Wk.sel [0,1,2,3,4,5,6,7,8,9] Si rfl Si rfl (by simp[AE,Ax,AD,AB,Je,PS.clr,AH]) (by simp[BP,AE,AH,AM])
    |some m=>
     simp only[mL,sR,Option.getD_some,Option.isSome_some,if_true];refine (ms @Bk @Eg ek ?_).1;refine⟨Om,(i+1,F.clr,E++F.out),⟨hlt,qI fk,rfl,by show F.fed+_≤_;simp only[];omega,by simp only[append_assoc];exact i5⟩,by simp only[];omega,?_⟩;exact Wk.sel [0,1,2,3,4,5,6,11,8,9] Si rfl Si rfl (by simp[AE,Ax,AD,AB,Je,PS.clr,AH]) (by simp[BP,AE,AH,AM])
   ·have q1:decide ((i:Int)<(P.length:Int))=false:=decide_eq_false Om;have e0:P.drop i=[]:=drop_eq_nil_of_le Om;rw[e0]at i5;simp only[PS.many]at i5;have hlen:=congrArg List.length i5;rw[length_append]at hlen;have hcl:=Ku u i2 6 7 8 De;have hal:=Wl s hb Om;rw[hV]at hal;have hself:=XQ V (λe he=>Aeg hb hsl e (by rw[hV];exact he)) Om;obtain⟨O,hO⟩:∃O:Ad,(if u.ended=0 then P5 u.close.1 CY (Sy u 8) CY else P5 u (U_ u 7) (Sy u 8) CY)=O:=⟨_,rfl⟩;unfold sU at hcl;rw[hO]at hcl;refine (mq q1 ?_).1;refine Aa.us hcl rfl rfl (ms @Bk @Eg i5 ?_).1;refine⟨Om,?_⟩;refine Aa.p (hal) (mp ?_).1;refine Aa.p (hself) (mq @Bk ?_).1;have hde2:=λh=>nJ hb hsl h
    have hlo:=fY s;have hao:=λh h2=>Aef (s:=s) h h2
    have hab:=λh=>Aag (s:=s) h
    have hla:=λh=>rU (s:=s) hb hsl h
    have hlw:=λh=>wB (s:=s) h
    rw[hD,hM]at hlo;rw[hD]at hde2 hao hab hla;rw[hV]at hde2;rw[hA]at hao hab;rw[hV]at hla;rw[hM]at hlw;have hlast:∀(X:List Ev) (κ a c:Int),V=X++[.oth κ a c]->((V.length:Int)==0)=false∧IntKind.i64.wrap ((V.length:Int)-1)=(X.length:Int)∧X.length<V.length∧(GO V).getD X.length .any=.agg [iA κ,iA a,iA c,iA 0,uA 0,uA 0,uA 0,iA 0,iA 0,CY,CY,CY,uA 0,uA 0,uA 0,uA 0,CY,uA 0,uA 0,CY]:=λX κ a c h=>by
     have hl:V.length=X.length+1:=by rw[h,length_append];rfl
     refine⟨beq_eq_false_iff_ne.2 Om,by rw[i64_in _ Om];omega,Om,?_⟩;rw[aZ V X.length Om,h];simp[evA]
    by_cases hx:D.2.1=0
    ·have⟨d3,hbS,h16,X,a,hVo,hXl⟩:=hde2 hx;have hMv:=hlo.1 hx;have hAv:=hao hx d3;have hsm:=XR D.1.1 D.1.1 Om (λb hbm=>(hbS b hbm).ev.1) (λb hbm=>(hbS b hbm).ok) (λb hbm=>(hbS b hbm).ok);rw[XJ]at hsm;have⟨l1,l2,l3,l4⟩:=hlast _ _ _ _ hVo;rw[hXl]at l2 l3 l4;have hvl:V.length=D.1.1.bt.length+1:=by rw[hVo,length_append,hXl];rfl
     have ql:((V.length:Int)==((D.1.1.bt.length+1:Nat):Int))=true:=by rw[hvl];simp
     have eb:=Aw D.1.1.bt.length Om;refine (mq l1 ?_).1;simp only[go_sem,seval,l2,l4,Bk,Int.toNat_natCast,d3];refine (mok ?_).1;(repeat with_reducible refine Sa ?_);refine (ms d3 hMv hAv ?_).1;refine Aa.p (hsm) (mp ?_).1;refine Aa.p (hsm) (mt @Bk @Ao eb ql ?_).1;refine Aa.p (Fj) (mp ?_).1;exact FA b3 []
    ·have⟨X,κ,hVx,hk⟩:=hla hx;have⟨l1,l2,l3,l4⟩:=hlast _ _ _ _ hVx;refine (mq l1 ?_).1;have q0:(D.2.1==0)=false:=Sx hx
     have q3:(A.2.1==3)=false:=by simpa using hab hx
     have qk:(κ==2)=false:=Sx hk
     have r1:(D.2.1 != D.2.1)=false:=by simp
     have r2:(D.2.2 != D.2.2)=false:=by simp
     refine (mt l2 l4 @Bk @Int.toNat_natCast ?_).1;(repeat with_reducible refine Sa ?_);by_cases hm:M.2.1=0
     ·have m1:(M.2.1==0)=true:=Sx hm
      have m2:(D.2.1 != 12)=false:=by rw[hlo.2 hx hm];rfl
      simp only[go_sem,seval,q0,q3,qk,r1,r2,m1,m2];refine (mok ?_).1;cases hy:(A.2.2.1==0)with
      |true=>
       refine (mq hy ?_).1;refine Aa.p (Fj) (mp ?_).1;exact FA b3 []
      |false=>
       cases hw:M.1.2 with
       |true=>
        refine (ms hy hw m1 ?_).1;refine Aa.p (Fj) (mp ?_).1;exact FA b3 []
       |false=>
        refine (ms hy hw m1 ?_).1;refine Aa.p (Fj) (mp ?_).1;exact FA b3 []
     ·have m1:(M.2.1==0)=false:=Sx hm
      have m3:=hlw hm;simp only[go_sem,seval,q0,q3,qk,r1,r2,m1];refine (mok ?_).1;cases hy:(A.2.2.1==0)with
      |true=>
       refine (mq hy ?_).1;refine Aa.p (Fj) (mp ?_).1;exact FA b3 []
      |false=>
       refine (ms hy m3 m1 ?_).1;refine Aa.p (Fj) (mp ?_).1;exact FA b3 []
def D5 (P:Program) (g:Nat):List Nat:=(P.funcs[g]?).elim [] P.leadsTo
def BG (P:Program) (g:Func):List Nat×Bool×Bool×List Nat:=
 (P.leadsTo g,(g.ours||g.body.isNone||g.name== "runtime.NumGoroutine"),(match g.body with|some c=>c.unfollowed|none=>entryCalls g),g.body.elim [] Code.globalsNamed)
section
variable {P:Program} {T:List (List Nat×Bool×Bool×List Nat)}
def T0:List Nat×Bool×Bool×List Nat:=([],false,false,[])
def I9 (hT:P.funcs.toList.map (BG P)=T) (g:Nat) {fn:Func} (h:P.funcs[g]? =some fn):T[g]? =some (BG P fn):=by
 rw[←hT,List.getElem?_map];simp[h]
def G_ (hT:P.funcs.toList.map (BG P)=T) (g:Nat):D5 P g=((T[g]?).getD T0).1:=by
 cases h:P.funcs[g]? with
 |none=>rw[←hT,List.getElem?_map];simp[D5,h,T0]
 |some fn=>rw[I9 hT g h];simp[D5,h,BG]
def Oy (g:Nat):∀n todo seen,g∈seen->g∈P.closureVia n todo seen:=by
 intro n
 induction n with
 |zero=>intro todo seen h;simpa[Program.closureVia]using h
 |succ n ih=>
  intro todo seen h;cases todo with
  |nil=>simpa[Program.closureVia]using h
  |cons f todo=>
   unfold Program.closureVia;split
   ·exact ih _ _ h
   ·exact ih _ _ (List.mem_cons_of_mem _ h)
def WI (C:Nat->Prop) (hC:∀g,C g->∀h∈D5 P g,C h):∀n todo seen,(∀x∈todo,C x)->(∀x∈seen,C x)->∀x∈P.closureVia n todo seen,C x:=by
 intro n
 induction n with
 |zero=>intro todo seen _ hs x hx;exact hs x (by simpa[Program.closureVia]using hx)
 |succ n ih=>
  intro todo seen ht hs;cases todo with
  |nil=>intro x hx;exact hs x (by simpa[Program.closureVia]using hx)
  |cons f todo=>
   unfold Program.closureVia;split
   ·exact ih _ _ (λx hx=>ht x (List.mem_cons_of_mem _ hx)) hs
   ·refine ih _ _ (λx hx=>?_) (λx hx=>?_)
    ·rcases List.mem_append.1 hx with h|h
     ·exact hC f (ht f (List.mem_cons_self ..)) x h
     ·exact ht x (List.mem_cons_of_mem _ h)
    ·rcases List.mem_cons.1 hx with h|h
     ·rw[h];exact ht f (List.mem_cons_self ..)
     ·exact hs x h
def EZ (C:Nat->Prop) (hC:∀g,C g->∀h∈D5 P g,C h) {f:Nat} (hf:C f):∀x∈P.closure f,C x:=
 WI C hC _ _ _ (λx hx=>by simp at hx;rw[hx];exact hf) (λx hx=>by simp at hx)
def GA (T:List (List Nat×Bool×Bool×List Nat)):Nat->List Nat->List Nat->List Nat×List Nat
 |0,todo,seen=>(todo,seen)
 |_,[],seen=>([],seen)
 |n+1,f::todo,seen=>if seen.contains f then GA T n todo seen else GA T n (((T[f]?).getD T0).1++todo) (f::seen)
def jE (hT:P.funcs.toList.map (BG P)=T) (g:Nat):∀k n todo seen,g∈(GA T k todo seen).2->g∈P.closureVia (k+n) todo seen:=by
 intro k
 induction k with
 |zero=>intro n todo seen h;exact Oy g _ _ _ h
 |succ k ih=>
  intro n todo seen h;cases todo with
  |nil=>exact Oy g _ _ _ (by simpa[GA]using h)
  |cons f todo=>
   rw[show k+1+n=(k+n)+1 from by omega];unfold GA at h;unfold Program.closureVia;split at h
   ·rename_i hc;rw[if_pos hc];exact ih _ _ _ h
   ·rename_i hc;rw[if_neg hc];have e:=G_ hT f;unfold D5 at e;rw[e];exact ih _ _ _ h
def MK (hT:P.funcs.toList.map (BG P)=T) {f g:Nat} (k:Nat) (hk:k≤(T.map λt=>t.1.length+1).sum) (h:(GA T k [f] []).2.contains g=true):g∈P.closure f:=by
 have e:(P.funcs.toList.map λg=>(P.leadsTo g).length+1)=T.map λt=>t.1.length+1:=by
  rw[←hT,List.map_map];rfl
 unfold Program.closure;rw[e];obtain⟨m,hm⟩:=Nat.exists_eq_add_of_le (Nat.le_trans hk (Nat.le_add_left _ 1));rw[hm];exact jE hT g k m _ _ (by simpa using h)
def F3 (T:List (List Nat×Bool×Bool×List Nat)) (C:List Nat):Bool:=
 C.all λg=>match T[g]? with|some t=>t.1.all (C.contains ·)&& !t.2.1&&t.2.2.2.isEmpty|none=>false
def DJ (hT:P.funcs.toList.map (BG P)=T) {C:List Nat} (hq:F3 T C=true):∀g,g∈C->∀h∈D5 P g,h∈C:=by
 intro g hg h hh;have q:=List.all_eq_true.1 hq g hg;rw[G_ hT]at hh;cases e:T[g]? with
 |none=>rw[e]at q;simp at q
 |some t=>
  rw[e]at q hh;simp only[Bool.and_eq_true,List.all_eq_true]at q;simpa using q.1.1 h hh
def HE (hT:P.funcs.toList.map (BG P)=T) {C:List Nat} (hq:F3 T C=true) {g:Nat} (hg:g∈C):∃fn,P.funcs[g]? =some fn∧(fn.ours||fn.body.isNone||fn.name== "runtime.NumGoroutine")=false∧fn.body.elim [] Code.globalsNamed=[]:=by
 have q:=List.all_eq_true.1 hq g hg;cases h:P.funcs[g]? with
 |none=>
  have:T[g]? =none:=by rw[←hT,List.getElem?_map];simp[h]
  rw[this]at q;simp at q
 |some fn=>
  rw[I9 hT g h]at q;simp only[BG,Bool.and_eq_true,List.isEmpty_iff,Bool.not_eq_true']at q;exact⟨fn,rfl,q.1.2,q.2⟩
def VW (hT:P.funcs.toList.map (BG P)=T) {C:List Nat} (hq:F3 T C=true) {f:Nat} (hf:f∈C):[]=P.inPlace f:=by
 unfold Program.inPlace;symm;rw[List.filterMap_eq_nil_iff];intro g hg;obtain⟨fn,h,h1,h2⟩:=HE hT hq (EZ (· ∈C) (DJ hT hq) hf g hg);simp only[h,Option.bind_some];rw[h1];rfl
def PO (hT:P.funcs.toList.map (BG P)=T) {C:List Nat} (hq:F3 T C=true) {f:Nat} (hf:f∈C):[]=P.varsNamed f:=by
 have hin:=EZ (P:=P) (· ∈C) (DJ hT hq) hf;have e1:((P.closure f).flatMap λg=>((P.funcs[g]?).bind (·.body)).elim [] Code.globalsNamed)=[]:=by
  rw[List.flatMap_eq_nil_iff];intro g hg;obtain⟨fn,h,h1,h2⟩:=HE hT hq (hin g hg);simpa[h]using h2
 have e2:((P.closure f).filterMap λg=>(P.funcs[g]?).bind λfn=>if fn.body.isNone then entryReads.lookup fn.name else none)=[]:=by
  rw[List.filterMap_eq_nil_iff];intro g hg;obtain⟨fn,h,h1,h2⟩:=HE hT hq (hin g hg);have hb:fn.body.isNone=false:=by
   simp only[Bool.or_eq_false_iff]at h1;exact h1.1.2
  simp only[h,Option.bind_some,hb];rfl
 unfold Program.varsNamed;rw[e1,e2];rfl
def MW (hT:P.funcs.toList.map (BG P)=T) {f g:Nat} (k:Nat) (hk:k≤(T.map λt=>t.1.length+1).sum) (h:(GA T k [f] []).2.contains g=true)
 (hu:((T[g]?).getD T0).2.2.1=true):true=P.unfollowed f:=by
 unfold Program.unfollowed;symm;rw[List.any_eq_true];refine⟨g,MK hT k hk h,?_⟩;cases e:P.funcs[g]? with
 |none=>
  have:T[g]? =none:=by rw[←hT,List.getElem?_map];simp[e]
  rw[this]at hu;simp[T0]at hu
 |some fn=>
  rw[I9 hT g e]at hu;simp only[Option.getD_some,BG]at hu;simp only[Option.any_some];revert hu;cases fn.body<;>simp
def FL {f:Nat} (h:true=P.unfollowed f):true=P.recurses f:=by
 unfold Program.recurses;rw[←h];rfl
end
def QY (rest:List (List Char)):stripLifts liftWords ("cut".toList::rest)=([],"cut".toList::rest):=by kernel_rfl
def TB:("cut".toList== "gc".toList)=false∧("cut".toList== "spec".toList)=false∧("cut".toList== "carried".toList)=false∧("cut".toList== "cut".toList)=true:=⟨by kernel_rfl,by kernel_rfl,by kernel_rfl,by kernel_rfl⟩
section
variable {P:Program} {rest:List (List Char)} (h:behindMainWord (wordsSigns P.initOrder.toList)= "cut".toList::rest)
include h
def Tc:P.headLifts=[]:=by
 unfold Program.headLifts;rw[h,QY];simp
def Vp (hl:P.laysLater=false) (hb:P.bearsReflect=false) (hd:P.doorFits []=true):P.mayEnter=true:=by
 obtain⟨c1,c2,c3,c4⟩:=TB;unfold Program.mayEnter;rw[h];simp only[QY,hl,hb,hd,c1,c2,c3,Bool.false_and,Bool.or_false,List.head?_cons,Bool.not_false,Bool.or_true,Bool.and_true,List.contains_nil,beq_self_eq_true]
def Qd:false=P.liftsFinal:=by
 obtain⟨c1,c2,c3,c4⟩:=TB;unfold Program.liftsFinal;rw[Tc h,h];simp only[List.head?_cons,List.contains_nil,Bool.or_false];have:((some "cut".toList:Option (List Char))==some "carried".toList)=false:=c3;rw[this];rfl
def vW:P.make=some .cut:=by
 obtain⟨c1,c2,c3,c4⟩:=TB;unfold Program.make;rw[h];simp only[c1,c2,c4,Bool.or_self,Bool.true_or,if_true];rfl
end
def Kg (P:Program) (fn:Func) (s:ChangeSpec) (c:OpenClaim):Bool:=
 (c.wf (OpenSpec.ofChange s)&&mapsRowed P&&fn.params.all (P.readableRec ·)&&namedTie P c.named s.vars&&
 (c.stops==[])&&(P.stops==[])&&(c.knobs==[])&&(P.stopKnobs==[]))&&
 ((c.maps==(fn.params.toList++s.plain.varTypes P).any (P.mapsRec ·))&&(c.ifaces==(fn.params.toList++s.plain.varTypes P).any (P.ifacesRec ·))&&(c.mapsOut==P.mapsAmong fn.resultTypes.toList)&&
 (c.loops==(fn.params.toList++s.plain.varTypes P).any (P.loopsFrom ·))&&(c.wideKeys==(fn.params.toList++s.plain.varTypes P++fn.resultTypes.toList).any (P.wideKeysFrom ·))&&
 s.vars.all (P.varReadable ·)&&fn.resultTypes.all (λt=>P.readableRec t&&decide (t<P.types.size))&&(c.ifacesOut==fn.resultTypes.toList.any (P.ifacesRec ·))&&(c.loopsOut==fn.resultTypes.toList.any (P.loopsFrom ·))&&(c.plainKeys==P.plainKeys)&&c.shortTexts.isNone)&&
 (P.stopsHeard&&(c.kinds==(if c.domain.isEmpty then[]else fn.params.toList.map λt=>match P.underlying t with|some (.int k)=>some k|_=>none))&&(c.pinned==c.pinnedBy)&&
 (c.veiled==(fn.params.toList++s.plain.varTypes P++fn.resultTypes.toList).any (P.veiledRec ·))&&c.veiledFits P fn.params.toList (fn.params.toList++s.plain.varTypes P++fn.resultTypes.toList))
def gK {P:Program} {f:Nat} {fn:Func} {s:ChangeSpec} {c:OpenClaim} (hl:laidOutB P=true) (h:Kg P fn s c=true) (he:P.mayEnter=true) (hf:c.lifted=P.liftsFinal) (hm:P.make=some c.make)
 (h1:c.inPlace=P.inPlace f) (h2:c.unfollowed=P.unfollowed f) (h3:c.recurses=P.recurses f) (h4:c.named=P.varsNamed f):joinedFacts P f fn s c=true:=by
 simp only[Kg,Bool.and_eq_true,beq_iff_eq]at h;obtain⟨⟨⟨⟨⟨⟨⟨⟨⟨g0,g1⟩,g2⟩,g3⟩,g4⟩,g5⟩,g6⟩,g7⟩,⟨⟨⟨⟨⟨⟨⟨⟨⟨⟨m0,m1⟩,m2⟩,m3⟩,m4⟩,m5⟩,m6⟩,m7⟩,m8⟩,m9⟩,m10⟩⟩,⟨⟨⟨⟨q0,q1⟩,q2⟩,q3⟩,q4⟩⟩:=h;simp only[joinedFacts,Bool.and_eq_true,beq_iff_eq];exact⟨⟨⟨⟨⟨⟨⟨⟨⟨⟨⟨⟨⟨⟨⟨⟨⟨⟨⟨⟨⟨⟨⟨⟨⟨⟨⟨⟨⟨⟨⟨g0,hl⟩,g1⟩,g2⟩,g3⟩,g4⟩,g5⟩,g6⟩,g7⟩,h1⟩,h2⟩,h3⟩,h4⟩,m0⟩,m1⟩,m2⟩,m3⟩,m4⟩,m5⟩,m6⟩,m7⟩,m8⟩,m9⟩,m10⟩,q0⟩,he⟩,hf⟩,hm⟩,q1⟩,q2⟩,q3⟩,q4⟩
def Tf (l:List Nat):List Nat×Bool×Bool×List Nat:=(l,false,false,[])
def sH:List (List Nat×Bool×Bool×List Nat):=[([],true,false,[]),([],true,false,[]),Tf [1],Tf [4,5,6,7,8,9,10,11,12,14,13,15,15,5,5],Tf [16,17],Tf [18,19,14],Tf [20,21],Tf [20,23],Tf [24,25,26,27,28,26,29,6,31,30,26],Tf [32],Tf [],Tf [33,34],Tf [33,35],Tf [36,37],Tf [9,11,12],Tf [37],Tf [38,39,40,41],Tf [],Tf [42,43],Tf [44,26,45,31,46,26,47],Tf [48,49,50,51,52,53,54,26],Tf [22],Tf [56,55],Tf [58,55,52],Tf [48,60,54,26],Tf [48,61,62,63,65,64,62,67,68,69,50,70,71],Tf [],Tf [72,74,73],Tf [48,61,75,77,76,70,82],Tf [83,84,73],Tf [26],Tf [],Tf [85,26,31,86],Tf [],([26,80],false,true,[]),Tf [87],Tf [88,89,90,91],Tf [92],Tf [93,94],Tf [94]]
def cV:((Tryz.prog.funcs.toList.drop 0).take 40).map (BG Tryz.prog)=sH:=by kernel_rfl
def sG:List (List Nat×Bool×Bool×List Nat):=[Tf [95],Tf [96],Tf [97,98,99],Tf [100,101,102,103,102,104,105],Tf [106,26,31,107,108,26,31,109,31,26,80],Tf [110,111],Tf [31,112,22,26,31,80],Tf [113,114,115],Tf [],Tf [60,116,117,118,62,68,52,119,69,50],Tf [52,31],Tf [52,120,52,48,121,122,123,50,54,124],Tf [26],Tf [62,104,120,52,125,124,50,62,87,126,128,127,50,70],Tf [31],([116,118,62,75,129,50,52,130,62,131,50,52],false,true,[]),Tf [57],Tf [59,50,62,132,52],Tf [59],Tf [62,75,121,52,126,133,62,50,52,134,67,127],Tf [62,126,50,121,62,50,52],Tf [49,50],Tf [],Tf [62,75,135,50],([52],false,true,[]),Tf [66],Tf [136,62,136,50,52,137],Tf [],Tf [126],Tf [140,139,138],Tf [141,50],Tf [54,26],Tf [97,135,142,144,143],Tf [],Tf [145],Tf [146,62,136,50],([52],false,true,[]),Tf [62,78,52,48,79,54,62,80,26,50,81,50],Tf [147,137,62,68,50,148,52],Tf [116,118,63,150,149,70]]
def cU:((Tryz.prog.funcs.toList.drop 40).take 40).map (BG Tryz.prog)=sG:=by kernel_rfl
def sF:List (List Nat×Bool×Bool×List Nat):=[Tf [31],Tf [114],Tf [54,26],Tf [97,154,153],Tf [157],Tf [48,49,54,62],([158,48,159,121,160,161,50,54,80,26,31],false,true,[]),Tf [],Tf [],Tf [162],Tf [],Tf [163],Tf [164],Tf [165,166,41],Tf [41,41],Tf [167],Tf [],Tf [],Tf [97,129,168,169],Tf [114],Tf [171,170,172,173],Tf [174,170,175,173],Tf [176],Tf [170,177,173],Tf [178,179],Tf [180,176,128],Tf [181,26,87,182,26,80,31,125,26,80],([182,26,48,121,50,70,54,80,26],false,true,[]),Tf [75,62,136,75,75,183,50,52,111],Tf [179,178],Tf [183,111],Tf [],([182,26,48,121,50,70,54,80,26],false,true,[]),Tf [114],Tf [],Tf [184],Tf [185,97],Tf [],Tf [185,186],Tf [171,170,187,188,189,117,190,173]]
def cT:((Tryz.prog.funcs.toList.drop 80).take 40).map (BG Tryz.prog)=sF:=by kernel_rfl
def sE:List (List Nat×Bool×Bool×List Nat):=[Tf [62,78,62],Tf [191],([70,54,124,52,50,99,50],false,true,[]),Tf [108,70,54,124,52,192,50],Tf [80,26,50],Tf [48,121,50,116,75,75,136,136,75,75,193,50,70,54,26],Tf [191],Tf [],Tf [87,170,194,188,69,195,187,173],Tf [186],Tf [196,52],Tf [184],([],false,true,[]),Tf [137,52,62,197,26,80,50,62,50],Tf [198,170,199,173],Tf [186],Tf [62,121,52,62,50,62,62,50],Tf [75,126],Tf [],Tf [200],Tf [],Tf [],Tf [],([],false,true,[]),Tf [],Tf [],Tf [62,136,50],Tf [],([69],false,true,[]),([52],false,true,[]),Tf [62,151,152,50,137],Tf [75,62,136,50,201,52],Tf [202,203],([],false,true,[]),Tf [155,156,98,81],([],false,true,[]),Tf [152],Tf [115],Tf [204,182,26],Tf []]
def cS:((Tryz.prog.funcs.toList.drop 120).take 40).map (BG Tryz.prog)=sE:=by kernel_rfl
def sD:List (List Nat×Bool×Bool×List Nat):=[Tf [22,70,52,114],Tf [108,70,52,192,178,179,205],Tf [88],Tf [88],Tf [89,90],Tf [166,41],Tf [206,96],Tf [],Tf [],Tf [207],Tf [],Tf [208],Tf [209,210,119,188,69,195],Tf [211],Tf [168,198,212],Tf [98,210,189,190,213,214,215,199],Tf [216,170,217,173],Tf [110,210,213,213,213,213,111],Tf [110],Tf [110,111],Tf [170,193,210,188,189,213,173],Tf [87,31,48,87,191,218,126,69,68,68,126,31,31,31],Tf [48,78,54,26,62],Tf [111],Tf [219],([62,136,50,52],false,true,[]),Tf [],Tf [188],Tf [211,220,210],Tf [97,221],Tf [186,221],Tf [52,50,141,50],Tf [222],Tf [97,223],Tf [],Tf [194,188],Tf [151,75,52],Tf [48,141,52,62,224,50,126,62,225,50,52,226,54,26],Tf [208],Tf [210,213,227,188,228,188,188]]
def cR:((Tryz.prog.funcs.toList.drop 160).take 40).map (BG Tryz.prog)=sD:=by kernel_rfl
def sC:List (List Nat×Bool×Bool×List Nat):=[Tf [229],Tf [75,62,136,50,52],([],false,true,[]),Tf [],Tf [48,147,75,52,216],Tf [158,125,26,80,31,230],Tf [96,96,96],Tf [231,232,233,235],Tf [],Tf [97,186,117],Tf [211],Tf [],Tf [169,236,208],Tf [237,188],Tf [169,210,238,213],Tf [168],Tf [198],Tf [210,228,69,195],Tf [141],Tf [],Tf [],Tf [210,213],Tf [],Tf [],Tf [62,136,52,50],Tf [62,136,50,52],Tf [],Tf [239,198],Tf [213,188],Tf [],Tf [87,128,127,31,240],([],false,true,[]),Tf [],Tf [234],Tf [241],([],false,true,[]),Tf [207,208,242,208,243],Tf [],Tf [207,210,213,242,213,244],Tf [245,246]]
def cQ:((Tryz.prog.funcs.toList.drop 200).take 40).map (BG Tryz.prog)=sC:=by kernel_rfl
def sB:List (List Nat×Bool×Bool×List Nat):=[Tf [31],Tf [],Tf [],Tf [241,208,208],Tf [241,210,213,213],([247,248,249],false,true,[]),Tf [250,170,251,173],Tf [],Tf [252],([253,254,255,256],false,true,[]),Tf [208],Tf [257,210,213,188,213,213],Tf [],Tf [258,259],Tf [260],Tf [],Tf [],Tf [],Tf [],Tf [258,261],([261],false,true,[]),Tf [],([],true,false,[]),([],true,false,[]),([],true,false,[]),([],true,false,[]),([],true,false,[]),([],true,false,[]),([],true,false,[]),([],true,false,[]),([],true,false,[]),([],true,false,[]),([],true,false,[]),([],true,false,[]),([],true,false,[]),([],true,false,[]),([],true,false,[]),([],true,false,[]),([],true,false,[]),([],true,false,[])]
def cP:((Tryz.prog.funcs.toList.drop 240).take 40).map (BG Tryz.prog)=sB:=by kernel_rfl
def sA:List (List Nat×Bool×Bool×List Nat):=[([],true,false,[])]
def cO:((Tryz.prog.funcs.toList.drop 280).take 1).map (BG Tryz.prog)=sA:=by kernel_rfl
def sI:List (List Nat×Bool×Bool×List Nat):=sH++sG++sF++sE++sD++sC++sB++sA
def Xv:Tryz.prog.funcs.toList.length=281:=by kernel_rfl
def Ff {α:Type} (l:List α) (i n:Nat):(l.drop i)=(l.drop i).take n++l.drop (i+n):=by
 rw[←List.drop_drop];exact(List.take_append_drop n _).symm
def NM:Tryz.prog.funcs.toList.map (BG Tryz.prog)=sI:=by
 have h0:Tryz.prog.funcs.toList=Tryz.prog.funcs.toList.drop 0:=rfl;rw[h0];rw[Ff Tryz.prog.funcs.toList 0 40,List.map_append,cV];rw[Ff Tryz.prog.funcs.toList 40 40,List.map_append,cU];rw[Ff Tryz.prog.funcs.toList 80 40,List.map_append,cT];rw[Ff Tryz.prog.funcs.toList 120 40,List.map_append,cS];rw[Ff Tryz.prog.funcs.toList 160 40,List.map_append,cR];rw[Ff Tryz.prog.funcs.toList 200 40,List.map_append,cQ];rw[Ff Tryz.prog.funcs.toList 240 40,List.map_append,cP];rw[Ff Tryz.prog.funcs.toList 280 1,List.map_append,cO];rw[List.drop_eq_nil_of_le (by rw[Xv];omega)];simp[sI]
def Jm:List Nat:=[104,97,114,110,101,115,115,32,102,100,50,102,55,98,57,57,102,99,52,97,97,98,56,48,101,51,101,57,49,55,56,98,97,48,54,102,56,53,49,53,56,48,52,51,102,57,54,53,54,48,100,102,49,50,99,48,54,55,97,102,57,54,51,48,52,97,53,48,99,97,56,49,32,99,117,116,32,97,116,32,116,104,111,108,101,112,105,110,47,116,104,111,108,101,112,105,110,116,111,112,46,84,111,112,65,103,114,101,101]
def wS:Tryz.prog.initOrder=String.ofList (Jm.map Char.ofNat):=by kernel_rfl
def gN:Tryz.prog.initOrder.toList=Jm.map Char.ofNat:=by rw[wS];exact String.toList_ofList
def qB:("cut").toList=[99,117,116].map Char.ofNat:=by decide+kernel
def qC:(behindMainWord (wordsSigns (Jm.map Char.ofNat))).head?=some ([99,117,116].map Char.ofNat):=by kernel_rfl
def I1:∃rest,behindMainWord (wordsSigns Tryz.prog.initOrder.toList)= "cut".toList::rest:=by
 have h:=qC;rw[gN,qB];cases hb:behindMainWord (wordsSigns (Jm.map Char.ofNat))with
 |nil=>rw[hb]at h;cases h
 |cons c r=>rw[hb]at h;simp only[List.head?_cons,Option.some.injEq]at h;exact⟨r,by rw[h]⟩
def Yw:Tryz.prog.laysLater=false:=by kernel_rfl
def QH:Tryz.prog.bearsReflect=false:=by kernel_rfl
def i6:Tryz.prog.doorFits []=true:=by kernel_rfl
def fR:Tryz.prog.mayEnter=true:=by
 obtain⟨rest,h⟩:=I1;exact Vp h Yw QH i6
def VG:false=Tryz.prog.liftsFinal:=by
 obtain⟨rest,h⟩:=I1;exact Qd h
def oB:Tryz.prog.make=some .cut:=by
 obtain⟨rest,h⟩:=I1;exact vW h
namespace CellTopAgree
def C:List Nat:=[3,4,5,6,7,8,9,10,11,12,13,14,15,16,17,18,19,20,21,22,23,24,25,26,27,28,29,30,31,32,33,34,35,36,37,38,39,40,41,42,43,44,45,46,47,48,49,50,51,52,53,54,55,56,57,58,59,60,61,62,63,64,65,66,67,68,69,70,71,72,73,74,75,76,77,78,79,80,81,82,83,84,85,86,87,88,89,90,91,92,93,94,95,96,97,98,99,100,101,102,103,104,105,106,107,108,109,110,111,112,113,114,115,116,117,118,119,120,121,122,123,124,125,126,127,128,129,130,131,132,133,134,135,136,137,138,139,140,141,142,143,144,145,146,147,148,149,150,151,152,153,154,155,156,157,158,159,160,161,162,163,164,165,166,167,168,169,170,171,172,173,174,175,176,177,178,179,180,181,182,183,184,185,186,187,188,189,190,191,192,193,194,195,196,197,198,199,200,201,202,203,204,205,206,207,208,209,210,211,212,213,214,215,216,217,218,219,220,221,222,223,224,225,226,227,228,229,230,231,232,233,234,235,236,237,238,239,240,241,242,243,244,245,246,247,248,249,250,251,252,253,254,255,256,257,258,259,260,261]
def Aam:F3 sI C=true:=by decide+kernel
def mem:3∈C:=by decide
def unf:true=Tryz.prog.unfollowed 3:=MW (g:=231) NM 38 (by decide+kernel) (by decide+kernel) (by decide+kernel)
def mD:true=Tryz.prog.recurses 3:=FL unf
def Ae2:Kg Tryz.pinned.checked.prog Tryz.f3 Rows.topAgreeSpec Rows.topAgreeRow=true:=by kernel_rfl
def lifted:Rows.topAgreeRow.lifted=Tryz.pinned.checked.prog.liftsFinal:=VG
def made:Tryz.pinned.checked.prog.make=some Rows.topAgreeRow.make:=oB
def closed:joinedFacts Tryz.pinned.checked.prog 3 Tryz.f3 Rows.topAgreeSpec Rows.topAgreeRow=true:=
 gK Tryz.laidOut Ae2 fR lifted made (VW NM Aam mem) unf mD (PO NM Aam mem)
def named:Tryz.pinned.checked.prog.funcNamed Rows.topAgreeRow.func=some 3:=by kernel_rfl
def inst:Tryz.f3.isInstance Tryz.pinned.checked.prog Rows.topAgreeRow.origin Rows.topAgreeRow.targs:=of_decide_eq_true (by kernel_rfl)
def wrap:Tryz.f3.isWrapper Tryz.pinned.checked.prog Rows.topAgreeRow.wrapper Rows.topAgreeRow.mainSum:=by unfold Func.isWrapper;first|(rw[if_pos (by decide+kernel)];kernel_rfl)|(rw[if_neg (by decide+kernel)];exact⟨rfl,rfl⟩)
end CellTopAgree
end Go.Proofs.YtaajkppmibfgfabGreat
