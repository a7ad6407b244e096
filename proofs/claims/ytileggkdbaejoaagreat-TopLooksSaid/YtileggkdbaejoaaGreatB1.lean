/- Lemmas for TopLooks, part 1. -/
import Derived.Test.YtileggkdbaejoaaGreatB0
import Derived.Laws.StructEq
import Derived.KernelRfl
import Derived.IntWalk
set_option linter.all false
namespace Go.Proofs.YtileggkdbaejoaaGreat
open Go.RowKit
def GN (bound:Int):Nat->RS->List Int->List Int×(Int×Int)
 |0,_,out=>(out,(0,0))
 |n+1,s,out=>if 0<s.left then
   (if s.thead.1.code=0 then
     (if bound<out.length+s.thead.2.2 then([],(11,s.at_))
     else if s.token.1.code=0 then(if(out.length:Int)<s.token.2.off then([],(10,s.thead.1.at_))else GN bound n s.token.1 (GM out s.token.2))
     else([],(s.token.1.code,s.token.1.fat)))
   else([],(s.thead.1.code,s.thead.1.fat)))
  else(out,(0,0))
theorem D0 {s:RS} (h:Av s) (hc:s.token.1.code=0):s.token.1.left<s.left∧Av s.token.1∧s.token.1.l=s.l:=by
 obtain⟨k1,k2⟩:=Ml h
 obtain⟨_,_,_,h4,_⟩:=HM h hc
 refine⟨by unfold RS.left;rw[k2];omega,k1,k2⟩
theorem Hl {bound:Int} {n:Nat} {s:RS} {out:List Int} (h:¬0<s.left):GN bound n s out=(out,(0,0)):=by
 cases n with
 |zero=>rfl
 |succ n=>rw[GN,if_neg h]
theorem Xf {bound:Int}:∀(n m:Nat) (s:RS) (out:List Int),Av s->s.left≤n->s.left≤m->GN bound n s out=GN bound m s out:=by
 intro n
 induction n with
 |zero=>intro m s out _ h1 _;rw[Hl (n:=m) (by omega)];rfl
 |succ n ih=>
  intro m s out h h1 h2
  by_cases hl:0<s.left
  ·obtain⟨k,rfl⟩:∃k,m=k+1:=⟨m-1,by omega⟩
   rw[GN,GN,if_pos hl,if_pos hl]
   by_cases hh:s.thead.1.code=0
   ·rw[if_pos hh,if_pos hh]
    by_cases hb:bound<out.length+s.thead.2.2
    ·rw[if_pos hb,if_pos hb]
    ·rw[if_neg hb,if_neg hb]
     by_cases ht:s.token.1.code=0
     ·rw[if_pos ht,if_pos ht]
      by_cases ho:(out.length:Int)<s.token.2.off
      ·rw[if_pos ho,if_pos ho]
      ·rw[if_neg ho,if_neg ho]
       obtain⟨t1,t2,_⟩:=D0 h ht
       exact ih k _ _ t2 (by omega) (by omega)
     ·rw[if_neg ht,if_neg ht]
   ·rw[if_neg hh,if_neg hh]
  ·rw[Hl hl,Hl hl]
def DT (bound:Int) (s:RS) (out:List Int):List Int×(Int×Int):=GN bound s.left.toNat s out
theorem FP {bound:Int} {s:RS} {out:List Int} (h:¬0<s.left):DT bound s out=(out,(0,0)):=Hl h
theorem Kf {bound:Int} {s:RS} {out:List Int} (h:0<s.left):∃n,s.left.toNat=n+1:=⟨s.left.toNat-1,by omega⟩
theorem GP {bound:Int} {s:RS} {out:List Int} (h:0<s.left) (hh:¬s.thead.1.code=0):DT bound s out=([],(s.thead.1.code,s.thead.1.fat)):=by
 obtain⟨n,hn⟩:=Kf (bound:=bound) (out:=out) h
 unfold DT;rw[hn,GN,if_pos h,if_neg hh]
theorem GO {bound:Int} {s:RS} {out:List Int} (h:0<s.left) (hh:s.thead.1.code=0) (hb:bound<out.length+s.thead.2.2):DT bound s out=([],(11,s.at_)):=by
 obtain⟨n,hn⟩:=Kf (bound:=bound) (out:=out) h
 unfold DT;rw[hn,GN,if_pos h,if_pos hh,if_pos hb]
theorem FO {bound:Int} {s:RS} {out:List Int} (h:0<s.left) (hh:s.thead.1.code=0) (hb:¬bound<out.length+s.thead.2.2) (ht:¬s.token.1.code=0):DT bound s out=([],(s.token.1.code,s.token.1.fat)):=by
 obtain⟨n,hn⟩:=Kf (bound:=bound) (out:=out) h
 unfold DT;rw[hn,GN,if_pos h,if_pos hh,if_neg hb,if_neg ht]
theorem Kg {bound:Int} {s:RS} {out:List Int} (h:0<s.left) (hh:s.thead.1.code=0) (hb:¬bound<out.length+s.thead.2.2) (ht:s.token.1.code=0) (ho:(out.length:Int)<s.token.2.off):DT bound s out=([],(10,s.thead.1.at_)):=by
 obtain⟨n,hn⟩:=Kf (bound:=bound) (out:=out) h
 unfold DT;rw[hn,GN,if_pos h,if_pos hh,if_neg hb,if_pos ht,if_pos ho]
theorem Fo {bound:Int} {s:RS} {out:List Int} (hs:Av s) (h:0<s.left) (hh:s.thead.1.code=0) (hb:¬bound<out.length+s.thead.2.2) (ht:s.token.1.code=0) (ho:¬(out.length:Int)<s.token.2.off):DT bound s out=DT bound s.token.1 (GM out s.token.2):=by
 obtain⟨n,hn⟩:=Kf (bound:=bound) (out:=out) h
 obtain⟨t1,t2,_⟩:=D0 hs ht
 have hge:=Yc t2
 unfold DT
 rw[hn,GN,if_pos h,if_pos hh,if_neg hb,if_pos ht,if_neg ho]
 exact Xf _ _ _ _ t2 (by omega) (by omega)
theorem Mm {s:RS} (ht:s.token.1.code=0):s.thead.1.code=0:=by
 by_cases h:s.thead.1.code=0
 ·exact h
 ·unfold RS.token at ht;rw[if_neg h]at ht;exact ht
theorem I4 {s:RS} (h:Av s) (ht:s.token.1.code=0):s.token.2.made=s.thead.2.2∧(s.thead.2.1=true->s.token.2.copy=true∧s.token.2=⟨[],s.thead.1.toff.2,s.thead.2.2⟩∧s.thead.1.toff.1.code=0∧s.token.1=s.thead.1.toff.1)∧
 (s.thead.2.1=false->s.token.2.run=true∧s.token.2=⟨(s.thead.1.take s.thead.2.2).2,0,0⟩∧(s.thead.1.take s.thead.2.2).1.code=0∧s.token.1=(s.thead.1.take s.thead.2.2).1):=by
 have hh:=Mm ht
 obtain⟨a,b⟩:=EC h
 obtain⟨k1,k2,k3⟩:=JK h hh
 have e:s.token=if s.thead.2.1=true then(if s.thead.1.toff.1.code=0 then(s.thead.1.toff.1,⟨[],s.thead.1.toff.2,s.thead.2.2⟩)else(s.thead.1.toff.1,K7))else(if(s.thead.1.take s.thead.2.2).1.code=0 then((s.thead.1.take s.thead.2.2).1,⟨(s.thead.1.take s.thead.2.2).2,0,0⟩)else((s.thead.1.take s.thead.2.2).1,K7)):=by
  unfold RS.token;rw[if_pos hh]
 rcases k3 with⟨c1,c2,c3,c4⟩|⟨c1,c2,c3,c4⟩
 ·rw[if_pos c1]at e
  by_cases h3:s.thead.1.toff.1.code=0
  ·rw[if_pos h3]at e
   obtain⟨t1,t2,t3,t4⟩:=P9 h3
   have hr:=Bk (s:=s.thead.1) a.bys
   have hcp:(Tk.mk [] s.thead.1.toff.2 s.thead.2.2).copy=true:=Cw.2 ⟨rfl,by simp only;omega,by simp only;omega,c3,c4⟩
   have hrn:(Tk.mk [] s.thead.1.toff.2 s.thead.2.2).run=false:=by
    cases q:(Tk.mk [] s.thead.1.toff.2 s.thead.2.2).run with
    |false=>rfl
    |true=>rw[CF q]at hcp;cases hcp
   rw[e]
   refine⟨by simp[Tk.made,hrn,hcp],λ_=>⟨hcp,rfl,h3,rfl⟩,λh=>by rw[c1]at h;cases h⟩
  ·rw[if_neg h3]at e;rw[e]at ht;exact absurd ht h3
 ·rw[c1]at e
  simp only[Bool.false_eq_true,if_false]at e
  by_cases h3:(s.thead.1.take s.thead.2.2).1.code=0
  ·rw[if_pos h3]at e
   obtain⟨t1,t2,t3,t4,t5⟩:=Bn a h3
   have hrn:(Tk.mk (s.thead.1.take s.thead.2.2).2 0 0).run=true:=De.2 ⟨rfl,rfl,by simp only;omega,by simp only;omega⟩
   rw[e]
   refine⟨by simp[Tk.made,hrn,t3],λh=>(by rw[c1]at h;cases h),λ_=>⟨hrn,rfl,h3,rfl⟩⟩
  ·rw[if_neg h3]at e;rw[e]at ht;exact absurd ht h3
def Vd:List Tk->Int
 |[]=>0
 |t::l=>t.made+Vd l
theorem Aik (l:List Tk):0≤Vd l:=by
 induction l with
 |nil=>simp[Vd]
 |cons x l ih=>have:=Aj4 (t:=x);simp only[Vd];omega
theorem Aky {bound:Int}:∀(n:Nat) (s:RS) (out:List Int),Av s->s.left≤n->(out.length:Int)≤max bound 0->((DT bound s out).1.length:Int)≤max bound 0:=by
 intro n
 induction n with
 |zero=>intro s out _ hl ho;rw[FP (by omega)];exact ho
 |succ n ih=>
  intro s out h hl ho
  by_cases hp:0<s.left
  ·by_cases hh:s.thead.1.code=0
   ·by_cases hb:bound<out.length+s.thead.2.2
    ·rw[GO hp hh hb];simp;omega
    ·by_cases ht:s.token.1.code=0
     ·by_cases hf:(out.length:Int)<s.token.2.off
      ·rw[Kg hp hh hb ht hf];simp;omega
      ·rw[Fo h hp hh hb ht hf]
       obtain⟨t1,t2,t3⟩:=D0 h ht
       obtain⟨i1,i2,i3,i4,i5⟩:=HM h ht
       have hm:=(I4 h ht).1
       refine ih _ _ t2 (by omega) ?_
       rw[Nu _ i2,hm];omega
     ·rw[FO hp hh hb ht];simp;omega
   ·rw[GP hp hh];simp;omega
  ·exact ih s out h (by omega) ho
theorem Xe {bound:Int}:∀(l:List Tk) (i:Nat) (out:List Int),(C1 bound l i out).2.1=0->((C1 bound l i out).1.length:Int)=out.length+Vd l∧∀t∈l,t.right=true:=by
 intro l
 induction l with
 |nil=>intro i out _;exact⟨by simp[C1,Vd],by simp⟩
 |cons t l ih=>
  intro i out h
  simp only[C1]at h ⊢
  by_cases hw:Gc t out.length bound=0
  ·rw[if_pos hw]at h ⊢
   obtain⟨w1,w2,w3⟩:=K4 hw
   obtain⟨h1,h2⟩:=ih _ _ h
   refine⟨by rw[h1,Nu _ w1];simp only[Vd];omega,λx hx=>?_⟩
   rcases List.mem_cons.1 hx with rfl|hx
   ·exact w1
   ·exact h2 x hx
  ·rw[if_neg hw]at h;exact absurd h hw
def Aah (b:List Int) (at_:Nat):Nat->Int
 |0=>0
 |k+1=>Cx .or .u32 (Aah b at_ k) (IntKind.u32.wrap (IntKind.u32.wrap (b.getD (at_+k) 0)*2^min (8*(k:Int)).toNat 32))
def KK (b:List Int) (at_:Nat):Int:=Aah b at_ 4
def LR (b:List Int) (at_:Nat):Bool:=decide (at_+4≤b.length)
def TC (b:List Int) (at_:Nat):Int:=if LR b at_=true then KK b at_ else 0
def DI (b:List Int):Nat->List (Int×Int)
 |0=>[]
 |n+1=>if LR b n=true then HI (DI b n) (KK b n) (n+1)else DI b n
def HE (b:List Int) (n:Nat):Int:=if LR b n=true then FU (DI b n) (KK b n)else 0
def GB (b:List Int):Nat->List Int
 |0=>[]
 |n+1=>GB b n++[HE b n]
theorem DB (b:List Int) (n:Nat):(GB b n).length=n:=by
 induction n with
 |zero=>rfl
 |succ n ih=>simp[GB,ih]
theorem Aag (l:List (Int×Int)) (a v c:Int):FU (HI l a v) c=if c=a then v else FU l c:=by
 induction l with
 |nil=>
  simp only[HI,FU]
  by_cases h:c=a<;>simp[h]
 |cons p l ih=>
  simp only[HI]
  by_cases h:a=p.1
  ·subst h
   simp only[beq_self_eq_true,if_true,FU]
   by_cases hc:c=p.1
   ·simp[hc]
   ·simp[hc]
  ·have hb:(a==p.1)=false:=by simpa using h
   simp only[hb,Bool.false_eq_true,if_false,FU]
   by_cases hc:c=p.1
   ·subst hc
    have:¬p.1=a:=λe=>h e.symm
    simp[this]
   ·have hb':(c==p.1)=false:=by simpa using hc
    simp only[hb',Bool.false_eq_true,if_false,ih]
theorem TB (b:List Int) (n:Nat) (a:Int):0≤FU (DI b n) a∧FU (DI b n) a≤n:=by
 induction n with
 |zero=>simp[DI,FU]
 |succ n ih=>
  simp only[DI]
  split
  ·rw[Aag];split<;>omega
  ·omega
theorem PZ (b:List Int) (n:Nat):0≤HE b n∧HE b n≤n:=by
 unfold HE
 have:=TB b n (KK b n)
 split<;>omega
theorem ZN (b:List Int) (n k:Nat) (h:k<n):(GB b n).getD k 0=HE b k:=by
 induction n with
 |zero=>omega
 |succ n ih=>
  simp only[GB]
  rw[List.getD_eq_getElem?_getD]
  by_cases e:k=n
  ·subst e
   rw[List.getElem?_append_right (by rw[DB];omega),DB];simp
  ·rw[List.getElem?_append_left (by rw[DB];omega),←List.getD_eq_getElem?_getD]
   exact ih (by omega)
def JX (b:List Int) (at_:Nat):Nat->Nat->List Int
 |0,_=>[]
 |_+1,0=>[]
 |f+1,k+1=>if(at_:Int)-k>65536 then[]else(if k<at_ then[(k:Int)]else[])++JX b at_ f (HE b k).toNat
theorem S9 (b:List Int) (at_:Nat):∀(f k:Nat),k≤f->JX b at_ (f+1) k=JX b at_ f k
 |0,k,h=>by
  obtain rfl:k=0:=by omega
  rfl
 |f+1,0,_=>rfl
 |f+1,k+1,h=>by
  have hw:=PZ b k
  rw[JX,JX,S9 b at_ f (HE b k).toNat (by omega)]
theorem S8 (b:List Int) (at_ f g k:Nat) (h:k≤f) (hg:f≤g):JX b at_ g k=JX b at_ f k:=by
 induction g with
 |zero=>have:f=0:=by omega
        subst this;rfl
 |succ g ih=>
  by_cases e:f=g+1
  ·rw[e]
  ·rw[S9 b at_ g k (by omega)];exact ih (by omega)
def Ck (b:List Int) (at_:Nat):List Int:=if LR b at_=true then JX b at_ at_ (FU (DI b at_) (KK b at_)).toNat else[]
theorem Aef (b:List Int) (at_:Nat):∀(f k:Nat) (p:Int),p∈JX b at_ f k->0≤p∧p<at_∧(at_:Int)-p≤65536
 |0,_,p,h=>by simp[JX]at h
 |f+1,0,p,h=>by simp[JX]at h
 |f+1,k+1,p,h=>by
  simp only[JX]at h
  split at h
  ·simp at h
  ·rename_i hw
   rcases List.mem_append.1 h with h|h
   ·split at h
    ·simp at h;subst h;omega
    ·simp at h
   ·exact Aef b at_ f _ p h
theorem VZ {b:List Int} {at_:Nat} {p:Int} (h:p∈Ck b at_):0≤p∧p<at_∧(at_:Int)-p≤65536:=by
 unfold Ck at h
 split at h
 ·exact Aef b at_ _ _ p h
 ·simp at h
def cnt (p:Nat->Bool):Nat->Nat->Nat
 |0,n=>n
 |f+1,n=>if p n=true then cnt p f (n+1)else n
theorem Agw (p:Nat->Bool):∀(f n:Nat),n≤cnt p f n∧cnt p f n≤n+f
 |0,n=>by simp[cnt]
 |f+1,n=>by
  have:=Agw p f (n+1)
  simp only[cnt];split<;>omega
theorem Yu (p:Nat->Bool):∀(f n i:Nat),n≤i->i<cnt p f n->p i=true
 |0,n,i,h1,h2=>by simp[cnt]at h2;omega
 |f+1,n,i,h1,h2=>by
  simp only[cnt]at h2
  split at h2
  ·rename_i hp
   by_cases e:i=n
   ·rw[e];exact hp
   ·exact Yu p f (n+1) i (by omega) h2
  ·omega
def mtP (b:List Int) (at_ off:Nat) (n:Nat):Bool:=b.getD (at_+n) 0==b.getD (at_+n-off) 0
def NZ (b:List Int) (at_ off:Nat):Nat:=if at_<b.length∧1≤off∧off≤at_ then cnt (mtP b at_ off) (min (b.length-at_) 1048576) 0 else 0
theorem Ae5 (b:List Int) (at_ off:Nat):at_+NZ b at_ off≤max at_ b.length∧NZ b at_ off≤1048576:=by
 unfold NZ
 split
 ·have:=(Agw (mtP b at_ off) (min (b.length-at_) 1048576) 0).2;omega
 ·omega
theorem Ank {b:List Int} {at_ off i:Nat} (h:i<NZ b at_ off):b.getD (at_+i) 0=b.getD (at_+i-off) 0:=by
 unfold NZ at h
 split at h
 ·have:=Yu _ _ _ i (by omega) h
  simpa[mtP]using this
 ·omega
def EO (b:List Int) (at_:Nat) (s:Int×Int) (p:Int):Int×Int:=
 if((NZ b at_ (at_-p.toNat):Nat):Int)>s.2 then((at_:Int)-p,(NZ b at_ (at_-p.toNat):Nat))else s
def ON (b:List Int) (at_:Nat):List Int->Int×Int->Nat×(Int×Int)
 |[],s=>(0,s)
 |p::ps,s=>if(at_:Int)+(EO b at_ s p).2=b.length then(1,EO b at_ s p)else((ON b at_ ps (EO b at_ s p)).1+1,(ON b at_ ps (EO b at_ s p)).2)
def P_ (s:Int×Int):Int×Int:=if s.2<4 then(0,0)else s
def BT (b:List Int) (at_:Nat):Int×Int:=P_ (ON b at_ (Ck b at_) (0,0)).2
structure YI (b:List Int) (at_:Nat) (s:Int×Int):Prop where
 n0:0≤s.2
 off:0<s.2->1≤s.1∧s.1≤at_∧s.1≤65536
 len:(at_:Int)+s.2≤max at_ b.length
 most:s.2≤1048576
 eq:∀i:Nat,(i:Int)<s.2->b.getD (at_+i) 0=b.getD (at_+i-s.1.toNat) 0
theorem YI.zero (b:List Int) (at_:Nat) (o:Int):YI b at_ (o,0):=⟨by simp,by simp,by simp only[];omega,by simp,λi h=>by simp only[]at h;omega⟩
theorem Rs {b:List Int} {at_:Nat} {s:Int×Int} {p:Int} (h:YI b at_ s) (hp:0≤p∧p<at_∧(at_:Int)-p≤65536):YI b at_ (EO b at_ s p):=by
 unfold EO
 split
 ·have:=Ae5 b at_ (at_-p.toNat)
  refine⟨by simp,λ_=>by simp only[];omega,by simp only[];omega,by simp only[];omega,λi hi=>?_⟩
  simp only[]at hi ⊢
  have:=Ank (b:=b) (at_:=at_) (off:=at_-p.toNat) (i:=i) (by omega)
  rw[this];congr 1;omega
 ·exact h
theorem Ag6 {b:List Int} {at_:Nat}:∀(ps:List Int) (s:Int×Int),YI b at_ s->(∀p∈ps,0≤p∧p<at_∧(at_:Int)-p≤65536)->YI b at_ (ON b at_ ps s).2
 |[],s,h,_=>h
 |p::ps,s,h,hp=>by
  have h1:=Rs h (hp p (by simp))
  simp only[ON]
  split
  ·exact h1
  ·exact Ag6 ps _ h1 λq hq=>hp q (by simp[hq])
theorem Ko (b:List Int) (at_:Nat):YI b at_ (BT b at_)∧((BT b at_).2=0∨4≤(BT b at_).2):=by
 have:=Ag6 (Ck b at_) (0,0) (YI.zero b at_ 0) λp hp=>VZ hp
 unfold BT P_
 split
 ·exact⟨YI.zero b at_ 0,.inl rfl⟩
 ·exact⟨this,.inr (by omega)⟩
theorem YA (b:List Int) (at_:Nat):∀(ps:List Int) (s:Int×Int),(ON b at_ ps s).1≤ps.length
 |[],s=>by simp[ON]
 |p::ps,s=>by
  have:=YA b at_ ps (EO b at_ s p)
  simp only[ON];split<;>simp<;>omega
def Ek (b:List Int) (from_ to:Nat):List Tk:=if from_<to then[⟨(b.drop from_).take (to-from_),0,0⟩]else[]
def FT (b:List Int):Nat->Nat->Nat->List Tk
 |0,_,from_=>Ek b from_ b.length
 |f+1,at_,from_=>
  if b.length≤at_ then Ek b from_ b.length else
  if(BT b at_).2=0 then FT b f (at_+1) from_ else
  Ek b from_ at_++[⟨[],(BT b at_).1,(BT b at_).2⟩]++FT b f (at_+(BT b at_).2.toNat) (at_+(BT b at_).2.toNat)
def EG (b:List Int):List Tk:=FT b b.length 0 0
theorem X5 (b:List Int) (a:Nat):∀(f k:Nat),(JX b a f k).length≤f
 |0,_=>by simp[JX]
 |f+1,0=>by simp[JX]
 |f+1,k+1=>by
  have:=X5 b a f (HE b k).toNat
  simp only[JX]
  repeat' split
  all_goals simp
  all_goals omega
theorem Ta (b:List Int) (a:Nat):(Ck b a).length≤a:=by
 unfold Ck
 split
 ·exact X5 b a a _
 ·simp
theorem Aed (b:List Int) (f a from_:Nat) (h:b.length≤a):FT b f a from_=Ek b from_ b.length:=by
 cases f with
 |zero=>rfl
 |succ f=>rw[FT,if_pos h]
theorem MU (b:List Int):∀(f a x:Nat),x≤a->b.length≤f+a->a≤b.length->(FT b f a x).length+x≤b.length∧∀t∈FT b f a x,t.lit.length≤b.length
 |0,a,x,h1,h2,h3=>by
  simp only[FT,Ek]
  split
  ·simp;omega
  ·simp;omega
 |f+1,a,x,h1,h2,h3=>by
  have hok:=Ko b a
  have hl:=hok.1.len
  have h0:=hok.1.n0
  simp only[FT]
  split
  ·simp only[Ek]
   split
   ·simp;omega
   ·simp;omega
  ·split
   ·have:=MU b f (a+1) x (by omega) (by omega) (by omega)
    exact this
   ·have hn:4≤(BT b a).2:=by omega
    have:=MU b f (a+(BT b a).2.toNat) (a+(BT b a).2.toNat) (Nat.le_refl _) (by omega) (by omega)
    refine⟨?_,λt ht=>?_⟩
    ·simp only[List.length_append,List.length_singleton,Ek]
     split<;>simp<;>omega
    ·simp only[List.mem_append,List.mem_singleton]at ht
     rcases ht with(ht|ht)|ht
     ·simp only[Ek]at ht
      split at ht
      ·simp at ht;subst ht;simp;omega
      ·simp at ht
     ·subst ht;simp
     ·exact this.2 t ht
theorem Je (b:List Int):(EG b).length≤b.length∧∀t∈EG b,t.lit.length≤b.length:=by
 have:=MU b b.length 0 0 (Nat.le_refl _) (by omega) (by omega)
 exact⟨by have:=this.1;unfold EG;omega,this.2⟩
def HC (b:Int) (acc:List Int):Int:=acc.getLastD b
theorem UE (b:Int) (acc:List Int) (x:Int):HC b (acc++[x])=x:=by simp[HC]
theorem Alo (b:Int) (acc:List Int) (h:0<acc.length):HC b acc=acc.getD (acc.length-1) 0:=by
 rcases List.eq_nil_or_concat acc with rfl|⟨l,x,rfl⟩
 ·simp at h
 ·simp[HC]
theorem NO (b:Int) (l:List Int) (i:Nat) (h:i≤l.length):HC b (l.take i)=if i=0 then b else l.getD (i-1) 0:=by
 split
 ·rename_i h0;subst h0;rfl
 ·rw[Alo _ _ (by simp;omega)]
  have:(l.take i).length=i:=by simp;omega
  rw[this]
  simp[show i-1<i from by omega]
def KP (b:Int) (acc:List Int) (x:Int):Prop:=0≤x∧x<HC b acc
def Df (b:Int):Ef Int:=
 ⟨λs acc=>if s.vint.1.code=0∧HC b acc≤s.vint.2 then(s.vint.1.fail 13 s.at_,0)else(s.vint.1,HC b acc-1-s.vint.2),λacc x=>vb (HC b acc-1-x),KP b⟩
theorem Ma {b:Int} {acc:List Int} (h:Wf (KP b) [] acc):HC b acc≤b:=by
 have gen:∀n,∀acc:List Int,acc.length=n->Wf (KP b) [] acc->HC b acc≤b:=by
  intro n
  induction n with
  |zero=>intro acc h _;rw[List.eq_nil_of_length_eq_zero h];exact Int.le_refl _
  |succ n ih=>
   intro acc h hw
   rcases List.eq_nil_or_concat acc with rfl|⟨l,x,rfl⟩
   ·simp at h
   ·rw[List.concat_eq_append]at h hw ⊢
    obtain⟨h1,h2⟩:=Dx.1 hw
    have:=ih l (by simpa using h) h1
    rw[UE]
    have h3:x<HC b ([]++l):=h2.2
    simp only[List.nil_append]at h3
    omega
 exact gen _ acc rfl h
theorem BM {s:RS} (c a:Int) (h:s.code=0) (hc:c≠0):¬(s.fail c a).code=0:=by
 unfold RS.fail;rw[if_pos h];simp[BW,hc]
theorem Kd {b:Int} (hb:b<18446744073709551616):(Df b).Ok:=by
 refine⟨λs acc h _=>?_,λs acc h hw hc=>?_,λs acc x r h hc hw hx hr=>?_,λacc x hw hx=>?_⟩
 ·obtain⟨a,c⟩:=h.vint
  simp only[Df]
  split
  ·exact⟨a.fail _ _,by rw[Bl];exact c⟩
  ·exact⟨a,c⟩
 ·simp only[Df]at hc ⊢
  by_cases hf:s.vint.1.code=0∧HC b acc≤s.vint.2
  ·rw[if_pos hf]at hc;exact absurd hc (BM _ _ hf.1 (by decide))
  ·rw[if_neg hf]at hc ⊢
   obtain⟨v1,v2,v3⟩:=CJ h hc
   have ha:=Ei h hc
   have hv:=Bk (s:=s) h.bys
   have hlt:s.vint.2<HC b acc:=by
    rcases Int.lt_or_le s.vint.2 (HC b acc)with h1|h1
    ·exact h1
    ·exact absurd ⟨hc,h1⟩ hf
   have e:HC b acc-1-(HC b acc-1-s.vint.2)=s.vint.2:=by omega
   refine⟨v3,⟨by simp only;omega,by simp only;omega⟩,by simp only;omega,?_⟩
   simp only
   rw[e];exact v1
 ·have hle:=Ma hw
  obtain⟨x0,x1⟩:=hx
  simp only[Df]at hr ⊢
  have hv:=Di hc (by omega) (by omega) hr
  rw[hv]
  simp only
  rw[if_neg (by omega)]
  simp only[Prod.mk.injEq,true_and]
  omega
 ·have hle:=Ma hw
  obtain⟨x0,x1⟩:=hx
  exact CD (by omega) (by omega)
def Cv (b:Int) (l:List Int):Bool:=(List.range l.length).all λi=>decide (l.getD i 0<if i=0 then b else l.getD (i-1) 0)
theorem Iz {b:Int} {l:List Int}:Cv b l=true↔∀i,i<l.length->l.getD i 0<if i=0 then b else l.getD (i-1) 0:=by
 unfold Cv
 simp only[List.all_eq_true,List.mem_range,decide_eq_true_eq]
theorem Abe {b:Int} {l:List Int} {i:Nat} (hi:i<l.length) (h:(if i=0 then b else l.getD (i-1) 0)≤l.getD i 0):Cv b l=false:=by
 cases hr:Cv b l with
 |false=>rfl
 |true=>have:=Iz.1 hr i hi;omega
theorem Uc {b:Int} {l:List Int} (hl:Fi l):Cv b l=true↔Wf (KP b) [] l:=by
 rw[Iz]
 constructor
 ·intro h
  refine Amg λk hk=>?_
  have h1:=h k hk
  have h2:=hl _ (CG l k hk)
  simp only[List.nil_append]
  unfold KP
  rw[NO b l k (by omega)]
  have e:l.getD k 0=l[k]:=by simp[hk]
  rw[e]at h1 h2
  exact⟨h2.1,h1⟩
 ·intro h i hi
  have:=EA i hi h
  simp only[List.nil_append]at this
  unfold KP at this
  rw[NO b l i (by omega)]at this
  have e:l.getD i 0=l[i]:=by simp[hi]
  rw[e];exact this.2
def dst (b:Int) (l:List Int) (i:Nat):Int:=(if i=0 then b else l.getD (i-1) 0)-1-l.getD i 0
def Dg (b:Int) (l:List Int) (k:Nat):List Int:=(List.range k).map (dst b l)
theorem IG (b:Int) (l:List Int) (k:Nat):Dg b l (k+1)=Dg b l k++[dst b l k]:=by simp[Dg,List.range_succ]
theorem Ew (b:Int) (l:List Int) (k:Nat):(Dg b l k).length=k:=by simp[Dg]
theorem Uo (b:Int) (l:List Int) (n k:Nat) (h:k<n):(Dg b l n).getD k 0=dst b l k:=by simp[Dg,h]
theorem KR {b:Int} {l:List Int} (hb:b<18446744073709551616) (hl:Fi l) (hf:Cv b l=true) {i:Nat} (hi:i<l.length):0≤dst b l i∧dst b l i<18446744073709551616:=by
 have h1:=Iz.1 hf i hi
 have h2:=hl _ (CG l i hi)
 unfold dst
 split at h1
 ·rename_i h0;rw[if_pos h0];omega
 ·rename_i h0
  rw[if_neg h0]
  have:=hl _ (CG l (i-1) (by omega))
  omega
theorem Agm {b:Int} {l:List Int} (hb:b<18446744073709551616) (hl:Fi l) (hf:Cv b l=true) {k:Nat} (hk:k≤l.length):Fi (Dg b l k):=by
 intro x hx
 simp only[Dg,List.mem_map,List.mem_range]at hx
 obtain⟨i,hi,rfl⟩:=hx
 exact KR hb hl hf (by omega)
theorem PF {b:Int} {l:List Int}:BR (Df b).enc [] l=I0 (Dg b l l.length):=by
 have gen:∀k,k≤l.length->BR (Df b).enc [] (l.take k)=I0 (Dg b l k):=by
  intro k
  induction k with
  |zero=>intro _;simp[BR,Dg,I0]
  |succ k ih=>
   intro hk
   rw[Fj l k (by omega),GQ,ih (by omega),IG,R9]
   congr 1
   simp only[Df,List.nil_append]
   rw[NO b l k (by omega)]
   rfl
 have:=gen l.length (Nat.le_refl _)
 rwa[List.take_length]at this
def DJ (b:Int) (l:List Int):List Int:=vb l.length++I0 (Dg b l l.length)
def RS.fall (s:RS) (b m:Int):RS×List Int:=(Df b).counted m s
def bat (b:Int) (l:List Int) (i:Nat):Int:=if i=0 then b else l.getD (i-1) 0
theorem Aha (b:Int) (l:List Int) (i:Nat):bat b l (i+1)=l.getD i 0:=by simp[bat]
theorem Ale (b:Int) (l:List Int) (i:Nat):dst b l i=bat b l i-1-l.getD i 0:=rfl
theorem Abf {b:Int} {l:List Int}:Cv b l=true↔∀i,i<l.length->l.getD i 0<bat b l i:=Iz
def mov (l:List Int) (d:Int):List Int:=l.map λx=>x+d
structure Lk where
 st:Int
 bk:List Int
 deriving DecidableEq
def EH:Lk:=⟨0,[]⟩
structure Lk.ok (x:Lk):Prop where
 s0:0≤x.st
 s1:x.st<18446744073709551616
 b:Fi x.bk
def NX (l:List Lk):Prop:=∀x∈l,x.ok
def HH (acc:List Lk):Int:=(acc.getLastD ⟨-1,[]⟩).st
theorem Aj8:HH []= -1:=rfl
theorem Afc (acc:List Lk) (x:Lk):HH (acc++[x])=x.st:=by simp[HH]
theorem X9 (l:List Lk) (h:0<l.length):HH l=(l.getD (l.length-1) EH).st:=by
 rcases List.eq_nil_or_concat l with rfl|⟨l,x,rfl⟩
 ·simp at h
 ·simp[HH]
theorem J2 (l:List Lk) (i:Nat) (h:i≤l.length):HH (l.take i)=if i=0 then-1 else(l.getD (i-1) EH).st:=by
 split
 ·rename_i h0;subst h0;rfl
 ·rw[X9 _ (by simp;omega)]
  have:(l.take i).length=i:=by simp;omega
  rw[this]
  simp[show i-1<i by omega]
def M9 (pos:Int) (acc:List Lk) (x:Lk):Prop:=HH acc<x.st∧x.st<18446744073709551616∧Fi x.bk∧Cv pos x.bk=true∧x.bk.length≤4
def RS.lkHead (s:RS) (acc:List Lk):RS:=if s.vint.1.code=0∧18446744073709551616≤HH acc+1+s.vint.2 then s.vint.1.fail 13 s.at_ else s.vint.1
def CS (pos:Int):Ef Lk:=
 ⟨λs acc=>(((s.lkHead acc).fall pos 4).1,⟨HH acc+1+s.vint.2,((s.lkHead acc).fall pos 4).2⟩),λacc x=>vb (x.st-HH acc-1)++DJ pos x.bk,M9 pos⟩
theorem KH {pos:Int} {acc:List Lk} (h:Wf (M9 pos) [] acc): -1≤HH acc∧HH acc<18446744073709551616:=by
 have gen:∀n,∀acc:List Lk,acc.length=n->Wf (M9 pos) [] acc-> -1≤HH acc∧HH acc<18446744073709551616:=by
  intro n
  induction n with
  |zero=>intro acc h _;rw[List.eq_nil_of_length_eq_zero h];exact⟨Int.le_refl _,by decide⟩
  |succ n ih=>
   intro acc h hw
   rcases List.eq_nil_or_concat acc with rfl|⟨l,x,rfl⟩
   ·simp at h
   ·rw[List.concat_eq_append]at h hw ⊢
    obtain⟨h1,h2⟩:=Dx.1 hw
    have:=ih l (by simpa using h) h1
    rw[Afc]
    have h3:HH ([]++l)<x.st:=h2.1
    simp only[List.nil_append]at h3
    exact⟨by omega,h2.2.1⟩
 exact gen _ acc rfl h
theorem PE {s:RS} {b:Int} (h:Av s) (hb:b<18446744073709551616) (m:Int):Av (s.fall b m).1∧(s.fall b m).1.l=s.l:=DF (Kd hb) h m
theorem Abi {b:Int} {l:List Int} (hb:b<18446744073709551616) (hl:Fi l) (hf:Cv b l=true) (hn:l.length<18446744073709551616):AY (DJ b l):=by
 unfold DJ
 intro y hy
 rcases List.mem_append.1 hy with hy|hy
 ·exact CD (by omega) (by omega) y hy
 ·exact Aif (Agm hb hl hf (Nat.le_refl _)) y hy
theorem Re {s:RS} {b m:Int} (h:Av s) (b0:0≤b) (hb:b<18446744073709551616) (hc:(s.fall b m).1.code=0):s.code=0∧Fi (s.fall b m).2∧Cv b (s.fall b m).2=true∧((s.fall b m).2.length:Int)≤m∧s.at_<(s.fall b m).1.at_∧s.l.take (s.fall b m).1.at_.toNat=s.l.take s.at_.toNat++DJ b (s.fall b m).2:=by
 obtain⟨c1,c2,c3,c4,c5⟩:=Hr (Kd hb) h hc
 have hu:Fi (s.fall b m).2:=by
  intro x hx
  obtain⟨i,hi,rfl⟩:=List.getElem_of_mem hx
  have hn:=EA i hi c1
  have hw:=Il i c1
  have hl:=Ma hw
  simp only[List.nil_append]at hn
  have hn1:0≤(s.fall b m).2[i]∧(s.fall b m).2[i]<HC b ((s.fall b m).2.take i):=hn
  exact⟨hn1.1,by have:HC b ((s.fall b m).2.take i)≤b:=hl;omega⟩
 refine⟨c3,hu,(Uc hu).2 c1,c2,c5,?_⟩
 have e:BR (Df b).enc [] ((Df b).counted m s).2=I0 (Dg b ((Df b).counted m s).2 ((Df b).counted m s).2.length):=PF
 rw[e,List.append_assoc]at c4
 exact c4
theorem Af8 {s:RS} {b m:Int} {l r:List Int} (h:Av s) (hc:s.code=0) (hb:b<18446744073709551616) (hl:Fi l) (hf:Cv b l=true) (hm:(l.length:Int)≤m) (hn:l.length<18446744073709551616) (hr:s.rest=DJ b l++r):s.fall b m=(s.adv ((DJ b l).length:Int),l):=by
 have hw:=(Uc hl).1 hf
 unfold DJ at hr ⊢
 rw[List.append_assoc]at hr
 have e:BR (Df b).enc [] l=I0 (Dg b l l.length):=PF
 have:=H9 (Kd hb) h hc hm hw hn (r:=r) (by rw[e];exact hr)
 unfold RS.fall
 rw[this,e,List.length_append]
 rfl
theorem HW {pos:Int} (p0:0≤pos) (p1:pos<18446744073709551616):(CS pos).Ok:=by
 refine⟨λs acc h _=>?_,λs acc h hw hc=>?_,λs acc x r h hc hw hx hr=>?_,λacc x hw hx=>?_⟩
 ·obtain⟨a,c⟩:=h.vint
  have hk:Av (s.lkHead acc)∧(s.lkHead acc).l=s.l:=by
   unfold RS.lkHead
   split
   ·exact⟨a.fail _ _,by rw[Bl];exact c⟩
   ·exact⟨a,c⟩
  have hf:=PE hk.1 p1 4
  exact⟨hf.1,hf.2.trans hk.2⟩
 ·have hg:=KH hw
  have hv:=Bk (s:=s) h.bys
  obtain⟨a,c⟩:=h.vint
  have hkh:(s.lkHead acc).code=0∧Av (s.lkHead acc):=by
   have hk:Av (s.lkHead acc):=by
    unfold RS.lkHead
    split
    ·exact a.fail _ _
    ·exact a
   exact⟨(Re hk p0 p1 hc).1,hk⟩
  have hno:¬(s.vint.1.code=0∧18446744073709551616≤HH acc+1+s.vint.2):=by
   intro hx
   have:=hkh.1
   unfold RS.lkHead at this
   rw[if_pos hx]at this
   exact absurd this (BM _ _ hx.1 (by decide))
  have hke:s.lkHead acc=s.vint.1:=by unfold RS.lkHead;rw[if_neg hno]
  have hc':((s.lkHead acc).fall pos 4).1.code=0:=hc
  rw[hke]at hkh hc'
  obtain⟨f1,f2,f3,f4,f5,f6⟩:=Re hkh.2 p0 p1 hc'
  obtain⟨v1,v2,v3⟩:=CJ h hkh.1
  have ha:=Ei h hkh.1
  have hlt:HH acc+1+s.vint.2<18446744073709551616:=by
   rcases Int.lt_or_le (HH acc+1+s.vint.2) 18446744073709551616 with h1|h1
   ·exact h1
   ·exact absurd ⟨hkh.1,h1⟩ hno
  simp only[CS]
  rw[hke]
  refine⟨v3,⟨by simp only;omega,hlt,f2,f3,by simp only;omega⟩,by omega,?_⟩
  rw[c]at f6
  rw[f6,v1,List.append_assoc]
  have e:HH acc+1+s.vint.2-HH acc-1=s.vint.2:=by omega
  rw[e]
 ·have hg:=KH hw
  obtain⟨x1,x2,x3,x4,x5⟩:=hx
  simp only[CS]at hr ⊢
  rw[List.append_assoc]at hr
  have hv:=Di hc (by omega) (by omega) hr
  have hok:=Bv h hr
  have hke:s.lkHead acc=s.adv ((vb (x.st-HH acc-1)).length:Int):=by
   unfold RS.lkHead;rw[hv];simp only;rw[if_neg (by omega)]
  have hr2:(s.adv ((vb (x.st-HH acc-1)).length:Int)).rest=DJ pos x.bk++r:=by rw[A5 h.at0,hr,List.drop_left]
  have hfo:=Af8 (m:=4) hok (show(s.adv ((vb (x.st-HH acc-1)).length:Int)).code=0 from hc) p1 x3 x4 (by omega) (by omega) hr2
  rw[hke,hfo,hv,BH]
  simp only[Prod.mk.injEq]
  refine⟨by rw[List.length_append];rfl,?_⟩
  cases x
  simp only[Lk.mk.injEq,and_true]
  simp only at x1
  omega
 ·have hg:=KH hw
  obtain⟨x1,x2,x3,x4,x5⟩:=hx
  intro y hy
  rcases List.mem_append.1 hy with hy|hy
  ·exact CD (by omega) (by omega) y hy
  ·exact Abi p1 x3 x4 (by omega) y hy
def El (l:List Lk):Bool:=(List.range l.length).all λi=>decide (i=0∨(l.getD (i-1) EH).st<(l.getD i EH).st)
theorem Fx {l:List Lk}:El l=true↔∀i,i<l.length->0<i->(l.getD (i-1) EH).st<(l.getD i EH).st:=by
 unfold El
 rw[List.all_eq_true]
 constructor
 ·intro h i hi h0
  have:=h i (List.mem_range.2 hi)
  simp only[decide_eq_true_eq]at this
  omega
 ·intro h i hi
  simp only[decide_eq_true_eq]
  rcases Nat.eq_zero_or_pos i with h0|h0
  ·exact .inl h0
  ·exact .inr (h i (List.mem_range.1 hi) h0)
def GH (pos:Int) (x:Lk):Bool:=decide (x.bk.length≤4)&&Cv pos x.bk
theorem GG {pos:Int} {x:Lk}:GH pos x=true↔x.bk.length≤4∧Cv pos x.bk=true:=by simp[GH]
def BO (pos:Int) (l:List Lk):Bool:=decide (l.length≤16)&&El l&&l.all (GH pos)
theorem EE {pos:Int} {l:List Lk}:BO pos l=true↔l.length≤16∧El l=true∧∀x∈l,GH pos x=true:=by
 simp[BO,and_assoc]
theorem Ep (l:List Lk) (k:Nat) (h:k<l.length):l.getD k EH∈l:=by simp[h]
theorem Gw {pos:Int} {l:List Lk} (hl:NX l):BO pos l=true↔l.length≤16∧Wf (M9 pos) [] l:=by
 rw[EE]
 constructor
 ·rintro⟨h1,h2,h3⟩
  refine⟨h1,Amg λk hk=>?_⟩
  have e:l[k]=l.getD k EH:=by simp[hk]
  have hm:=Ep l k hk
  rw[e,List.nil_append]
  obtain⟨g1,g2⟩:=GG.1 (h3 _ hm)
  have ho:=hl _ hm
  refine⟨?_,ho.s1,ho.b,g2,g1⟩
  rw[J2 l k (by omega)]
  split
  ·have:=ho.s0;omega
  ·exact Fx.1 h2 k hk (by omega)
 ·rintro⟨h1,h2⟩
  have key:∀k,k<l.length->M9 pos (l.take k) (l.getD k EH):=λk hk=>by
   have:=EA k hk h2
   have e:l[k]=l.getD k EH:=by simp[hk]
   rw[e,List.nil_append]at this
   exact this
  refine⟨h1,Fx.2 λi hi h0=>?_,λx hx=>?_⟩
  ·have:=(key i hi).1
   rw[J2 l i (by omega),if_neg (by omega)]at this
   exact this
  ·obtain⟨i,hi,rfl⟩:=List.getElem_of_mem hx
   have e:l[i]=l.getD i EH:=by simp[hi]
   rw[e]
   obtain⟨_,_,_,k4,k5⟩:=key i hi
   exact GG.2 ⟨k5,k4⟩
def Cm (pos:Int) (l:List Lk):List Int:=vb l.length++BR (CS pos).enc [] l
def RS.links (s:RS) (pos:Int):RS×List Lk:=(CS pos).counted 16 s
theorem EI {s:RS} {pos:Int} (h:Av s) (p0:0≤pos) (p1:pos<18446744073709551616):Av (s.links pos).1∧(s.links pos).1.l=s.l:=DF (HW p0 p1) h 16
theorem Afe {s:RS} {pos:Int} (h:Av s) (p0:0≤pos) (p1:pos<18446744073709551616) (hc:(s.links pos).1.code=0):s.code=0∧NX (s.links pos).2∧BO pos (s.links pos).2=true∧s.at_<(s.links pos).1.at_∧s.l.take (s.links pos).1.at_.toNat=s.l.take s.at_.toNat++Cm pos (s.links pos).2:=by
 obtain⟨c1,c2,c3,c4,c5⟩:=Hr (HW p0 p1) h hc
 have hks:NX (s.links pos).2:=by
  intro x hx
  obtain⟨i,hi,rfl⟩:=List.getElem_of_mem hx
  have hn:=EA i hi c1
  have hg:=KH (Il i c1)
  rw[List.nil_append]at hn
  obtain⟨n1,n2,n3,n4,n5⟩:=hn
  exact⟨by have: -1≤HH ((s.links pos).2.take i):=hg.1;have n1':HH ((s.links pos).2.take i)<((s.links pos).2[i]).st:=n1;omega,n2,n3⟩
 refine⟨c3,hks,(Gw hks).2 ⟨by have:((s.links pos).2.length:Int)≤16:=c2;omega,c1⟩,c5,?_⟩
 rw[List.append_assoc]at c4
 exact c4
theorem Aab {s:RS} {pos:Int} {l:List Lk} {r:List Int} (h:Av s) (hc:s.code=0) (p0:0≤pos) (p1:pos<18446744073709551616) (hl:NX l) (hr:BO pos l=true) (hrest:s.rest=Cm pos l++r):s.links pos=(s.adv ((Cm pos l).length:Int),l):=by
 obtain⟨h1,h2⟩:=(Gw hl).1 hr
 unfold Cm at hrest ⊢
 rw[List.append_assoc]at hrest
 have:=H9 (HW p0 p1) h hc (m:=16) (by omega) h2 (by omega) hrest
 unfold RS.links
 rw[this,List.length_append];rfl
theorem M7 {pos:Int} {l:List Lk} (p0:0≤pos) (p1:pos<18446744073709551616) (hl:NX l) (hr:BO pos l=true):AY (Cm pos l):=by
 obtain⟨h1,h2⟩:=(Gw hl).1 hr
 intro y hy
 rcases List.mem_append.1 hy with hy|hy
 ·exact CD (by omega) (by omega) y hy
 ·exact Um (acc:=[]) (HW p0 p1) trivial h2 y hy
section
variable {P:Program}
def Rh:List Value->List Value->Bool
 | .int _ a::xs,.int _ b::ys=>(a==b)&&Rh xs ys
 |_,_=>true
def X7 (xs ys:List Value):Prop:=xs.length=ys.length∧∀(j:Nat) (u v:Value),xs[j]? =some u->ys[j]? =some v->∃k a b,u=.int k a∧v=.int k b
theorem X7.tail {u v:Value} {xs ys:List Value} (h:X7 (u::xs) (v::ys)):X7 xs ys:=⟨by simpa using h.1,λj a b ha hb=>h.2 (j+1) a b (by simpa using ha) (by simpa using hb)⟩
theorem X7.take {xs ys:List Value} (h:X7 xs ys) (n:Nat):X7 (xs.take n) (ys.take n):=⟨by simp[h.1],λj a b ha hb=>by
 rw[List.getElem?_take]at ha hb
 split at ha
 ·rename_i hj;rw[if_pos hj]at hb;exact h.2 j a b ha hb
 ·cases ha⟩
theorem X7.drop {xs ys:List Value} (h:X7 xs ys) (n:Nat):X7 (xs.drop n) (ys.drop n):=⟨by simp[h.1],λj a b ha hb=>by
 rw[List.getElem?_drop]at ha hb;exact h.2 _ a b ha hb⟩
theorem PH {xs ys:List Value} (h:X7 xs ys) (n:Nat):Rh xs ys=(Rh (xs.take n) (ys.take n)&&Rh (xs.drop n) (ys.drop n)):=by
 induction n generalizing xs ys with
 |zero=>simp[Rh]
 |succ n ih=>
  match xs,ys,h with
  |[],[],_=>simp[Rh]
  |u::xs,v::ys,h=>
   obtain⟨k,a,b,rfl,rfl⟩:=h.2 0 u v rfl rfl
   simp only[List.take_succ_cons,List.drop_succ_cons,Rh]
   rw[ih h.tail,Bool.and_assoc]
  |[],_::_,h=>exact absurd h.1 (by simp)
  |_::_,[],h=>exact absurd h.1 (by simp)
def RG (a:Option Nat) (vs:Array Value):Value:=match a with
 |none=>vs.getD 0 undef
 |some _=>.agg vs
theorem EQ {t:TypeId} {a:Option Nat} {s:Nat} (ha:DV P t=some a) (hs:Fs P t=some s) (h1:a=none->s=1) (vs:Array Value) (off:Nat) (hle:off+s≤vs.size) (w:World):
 (part t vs off).run P w=.ok (RG a (vs.extract off (off+s))) w:=by
 cases a with
 |none=>
  have:=h1 rfl
  subst this
  have hv:vs[off]? =some vs[off]:=Array.getElem?_eq_getElem (by omega)
  simp[part,G5 ha,hv,RG,show 0<min (off+1) vs.size-off by omega]
 |some n=>
  simp[part,Ge ha,B2 hs,RG]
theorem ME:∀(d:Nat) (t:TypeId) (n:Nat) (a:Option Nat),H3 P d t=some n->DV P t=some a->(a=none->n=1)->∀(D:Nat) (xs ys:Array Value),d≤D->xs.size=n->ys.size=n->X7 xs.toList ys.toList->∀w:World,
 (Op.equalIn D t (RG a xs) (RG a ys)).run P w=.ok (Rh xs.toList ys.toList) w:=by
 intro d
 induction d with
 |zero=>intro t n a h;simp[H3]at h
 |succ d ih=>
  intro t n a h ha h1 D xs ys hD hx hy hok w
  obtain⟨D,rfl⟩:∃D',D=D'+1:=⟨D-1,by omega⟩
  simp only[H3]at h
  cases hu:P.underlying t with
  |none=>simp[hu]at h
  |some ds=>
   rw[hu]at h
   cases ds with
   |int k=>
    have han:a=none:=by simpa[DV,hu]using ha.symm
    subst han
    have hn:=h1 rfl
    subst hn
    obtain⟨xl⟩:=xs
    obtain⟨yl⟩:=ys
    match xl,yl,hx,hy with
    |[u],[v],_,_=>
     obtain⟨k',p,q,rfl,rfl⟩:=hok.2 0 u v rfl rfl
     have:=run_equalIn_int (P:=P) w D t k' k p q hu
     simpa[RG,Rh]using this
   |struct fs=>
    simp only at h
    split at h
    ·cases h
    ·rename_i hst
     have hagg:∃m,a=some m:=by
      cases a with
      |none=>obtain⟨d',hd',hq,_⟩:=K0 ha;rw[hu]at hd';injection hd' with e;exact(hq _ e.symm).elim
      |some m=>exact⟨m,rfl⟩
     obtain⟨m,rfl⟩:=hagg
     simp only[RG]
     have hfo:P.fieldsOf t=fs:=by simp[Program.fieldsOf,hu]
     rw[run_equalIn_struct (P:=P) w D t xs ys (by rw[hfo];exact hu) (by simpa using hst),hfo]
     have key:∀(l:List Field) (off:Nat),off≤n->l.foldl (λacc f=>acc.bind λoff=>match H3 P d f.type,DV P f.type with
      |some s,some a=>if f.name≠ "_"∧f.offset=off∧Fs P f.type=some s∧(a=none->s=1)then some (off+s)else none
      |_,_=>none) (some off)=some n->(Op.eqFields D xs ys l).run P w=.ok (Rh (xs.toList.drop off) (ys.toList.drop off)) w:=by
      intro l
      induction l with
      |nil=>
       intro off hoff hl
       simp at hl;subst hl
       rw[List.drop_eq_nil_of_le (by simp;omega),List.drop_eq_nil_of_le (by simp;omega)]
       simp[Op.eqFields,Rh]
      |cons f l ihl=>
       intro off hoff hl
       have hnone:∀l:List Field,l.foldl (λacc f=>acc.bind λoff=>match H3 P d f.type,DV P f.type with
        |some s,some a=>if f.name≠ "_"∧f.offset=off∧Fs P f.type=some s∧(a=none->s=1)then some (off+s)else none
        |_,_=>none) none=(none:Option Nat):=by
        intro l;induction l with
        |nil=>rfl
        |cons g l ih=>simpa using ih
       have hmono:∀(l:List Field) (o:Nat),l.foldl (λacc f=>acc.bind λoff=>match H3 P d f.type,DV P f.type with
        |some s,some a=>if f.name≠ "_"∧f.offset=off∧Fs P f.type=some s∧(a=none->s=1)then some (off+s)else none
        |_,_=>none) (some o)=some n->o≤n:=by
        intro l;induction l with
        |nil=>intro o ho;simp at ho;omega
        |cons g l ih=>
         intro o ho
         simp only[List.foldl_cons,Option.bind_some]at ho
         split at ho
         ·split at ho
          ·have:=ih _ ho;omega
          ·rw[hnone]at ho;cases ho
         ·rw[hnone]at ho;cases ho
       simp only[List.foldl_cons,Option.bind_some]at hl
       split at hl
       ·rename_i s a' hs' ha'
        split at hl
        ·rename_i hc
         obtain⟨hname,hfoff,hsz,h1'⟩:=hc
         have hle:=hmono _ _ hl
         subst hfoff
         have e1:=EQ ha' hsz h1' xs f.offset (by omega) w
         have e2:=EQ ha' hsz h1' ys f.offset (by omega) w
         have hokp:X7 (xs.extract f.offset (f.offset+s)).toList (ys.extract f.offset (f.offset+s)).toList:=by
          simp only[Array.toList_extract,List.extract_eq_take_drop]
          exact(hok.drop _).take _
         have e3:=ih f.type s a' hs' ha' h1' D _ _ (by omega) (by simp;omega) (by simp;omega) hokp w
         have e4:=ihl _ hle hl
         simp only[Op.eqFields]
         rw[if_pos hname]
         simp only[Sem.run_bind,e1,e2,e3,Result.andThen_ok]
         have hsp:=PH (hok.drop f.offset) s
         simp only[Array.toList_extract,List.extract_eq_take_drop,Nat.add_sub_cancel_left]at*
         rw[hsp,List.drop_drop,List.drop_drop]
         cases hb:Rh (List.take s (List.drop f.offset xs.toList)) (List.take s (List.drop f.offset ys.toList))
         ·simp
         ·simp[e4]
        ·rw[hnone]at hl;cases hl
       ·rw[hnone]at hl;cases hl
     have:=key fs.toList 0 (Nat.zero_le _) h
     simpa using this
   |array len e=>
    simp only at h
    split at h
    ·rename_i s a' hs' ha'
     split at h
     ·rename_i hc
      obtain⟨hsz,h1'⟩:=hc
      injection h with h
      have hagg:∃m,a=some m:=by
       cases a with
       |none=>obtain⟨d',hd',_,hq⟩:=K0 ha;rw[hu]at hd';injection hd' with e;exact(hq _ _ e.symm).elim
       |some m=>exact⟨m,rfl⟩
      obtain⟨m,rfl⟩:=hagg
      simp only[RG,Op.equalIn,Sem.run_bind,run_underlying hu,Result.andThen_ok,B2 hsz]
      have step:∀i,i<len->(do
       let p ←part e xs (i*s)
       let q ←part e ys (i*s)
       Op.equalIn D e p q).run P w=.ok (Rh ((xs.toList.drop (i*s)).take s) ((ys.toList.drop (i*s)).take s)) w:=by
       intro i hi
       have hle:i*s+s≤n:=by
        rw[←h];have:(i+1)*s≤len*s:=Nat.mul_le_mul_right _ (by omega)
        rw[Nat.add_mul]at this;omega
       have e1:=EQ ha' hsz h1' xs (i*s) (by omega) w
       have e2:=EQ ha' hsz h1' ys (i*s) (by omega) w
       have hokp:X7 (xs.extract (i*s) (i*s+s)).toList (ys.extract (i*s) (i*s+s)).toList:=by
        simp only[Array.toList_extract,List.extract_eq_take_drop]
        exact(hok.drop _).take _
       have e3:=ih e s a' hs' ha' h1' D _ _ (by omega) (by simp;omega) (by simp;omega) hokp w
       simp only[Sem.run_bind,e1,e2,e3,Result.andThen_ok]
       simp only[Array.toList_extract,List.extract_eq_take_drop,Nat.add_sub_cancel_left]
      have key:∀(r i:Nat),i+r=len->(forIn (List.range' i r) ((none,()):Option Bool×Unit) λi _=>do
       let p ←part e xs (i*s)
       let q ←part e ys (i*s)
       let b ←Op.equalIn D e p q
       if(!b)=true then pure (ForInStep.done ((some false,()):Option Bool×Unit))else pure (ForInStep.yield (none,()))).run P w=.ok (if Rh (xs.toList.drop (i*s)) (ys.toList.drop (i*s))then none else some false,()) w:=by
       intro r
       induction r with
       |zero=>
        intro i hi
        rw[List.drop_eq_nil_of_le (by simp;rw[hx,←h,show i=len by omega];exact Nat.le_refl _),List.drop_eq_nil_of_le (by simp;rw[hy,←h,show i=len by omega];exact Nat.le_refl _)]
        simp[Rh]
       |succ r ihr=>
        intro i hi
        have e1:=step i (by omega)
        have e2:=ihr (i+1) (by omega)
        rw[List.range'_succ,List.forIn_cons]
        have hsp:=PH (hok.drop (i*s)) s
        rw[List.drop_drop,List.drop_drop,show i*s+s=(i+1)*s by rw[Nat.add_mul];omega]at hsp
        rw[hsp]
        simp only[Sem.run_bind]at e1 ⊢
        generalize(part e xs (i*s)).run P w=r1 at e1 ⊢
        cases r1 with
        |halt x w1=>simp[Result.andThen]at e1
        |ok p w1=>
         simp only[Result.andThen_ok]at e1 ⊢
         generalize(part e ys (i*s)).run P w1=r2 at e1 ⊢
         cases r2 with
         |halt x w2=>simp[Result.andThen]at e1
         |ok q w2=>
          simp only[Result.andThen_ok]at e1 ⊢
          rw[e1]
          cases Rh ((xs.toList.drop (i*s)).take s) ((ys.toList.drop (i*s)).take s)
          ·simp
          ·simpa using e2
      have e0:=key len 0 (by omega)
      simp only[Nat.zero_mul,List.drop_zero]at e0
      rw[Std.Legacy.Range.forIn_eq_forIn_range']
      simp only[Std.Legacy.Range.size,Nat.sub_zero,Nat.add_sub_cancel,Nat.div_one]
      rw[e0]
      cases Rh xs.toList ys.toList<;>simp
     ·cases h
    ·cases h
   |_=>simp at h
theorem Ak6 {G:Gh}:∀{xs ys:List AV} {vs us:List Value},IP xs ys=true->Cn G xs vs->Cn G ys us->X7 vs us∧Rh vs us=ET xs ys:=by
 intro xs
 induction xs with
 |nil=>
  intro ys vs us h r1 r2
  cases ys with
  |nil=>
   have hv:vs=[]:=List.eq_nil_of_length_eq_zero (by simpa using r1.1.symm)
   have hu:us=[]:=List.eq_nil_of_length_eq_zero (by simpa using r2.1.symm)
   subst hv hu
   exact⟨⟨rfl,λj u v h=>by simp at h⟩,rfl⟩
  |cons=>simp[IP]at h
 |cons x xs ih=>
  intro ys vs us h r1 r2
  cases ys with
  |nil=>cases x with
   |lit v=>cases v<;>simp[IP]at h
   |_=>simp[IP]at h
  |cons y ys=>
   cases x with
   |lit v=>
    cases v with
    |int k a=>
     cases y with
     |lit v'=>
      cases v' with
      |int k' b=>
       simp only[IP,Bool.and_eq_true,beq_iff_eq]at h
       obtain⟨rfl,h⟩:=h
       cases vs with
       |nil=>simpa using r1.1
       |cons v vs=>
        cases us with
        |nil=>simpa using r2.1
        |cons u us=>
         have e1:=A_ (r1.2 0 _ v rfl rfl)
         have e2:=A_ (r2.2 0 _ u rfl rfl)
         subst e1 e2
         obtain⟨h1,h2⟩:=ih (ys:=ys) (vs:=vs) (us:=us) h ⟨by simpa using r1.1,λj x v hx hv=>r1.2 (j+1) x v (by simpa using hx) (by simpa using hv)⟩ ⟨by simpa using r2.1,λj x v hx hv=>r2.2 (j+1) x v (by simpa using hx) (by simpa using hv)⟩
         refine⟨⟨by simp[h1.1],λj p q hp hq=>?_⟩,by simp[Rh,ET,h2]⟩
         cases j with
         |zero=>simp at hp hq;exact⟨k,a,b,hp.symm,hq.symm⟩
         |succ j=>exact h1.2 j p q (by simpa using hp) (by simpa using hq)
      |_=>simp[IP]at h
     |_=>simp[IP]at h
    |_=>simp[IP]at h
   |_=>simp[IP]at h
theorem L1 {o:Oper} {ρ:Operand->AV} {S:List Ad} {K:KT} {op:BinOp} {t t':TypeId} {x y:Operand} {neg:Bool} {n m:Nat} (hop:o.op=.binOp op t x y t') (ha:DV P t=some (some m)) (hg:P.eqGuardType P.depth t=false) (hf:H3 P 9 t=some n)
 (hn:op=if neg then .neq else .eql) (h:WA neg n (ρ x) (ρ y) K):Fsq P o ρ S K:=by
 unfold WA at h
 split at h
 ·rename_i xs ys hx hy
  obtain⟨hl,hok,hK⟩:=h
  refine AS (λG a w T _ hr=>⟨_,?_,.lit _⟩) hK
  have rx:=hr x (by simp[hop,Op.operands])
  have ry:=hr y (by simp[hop,Op.operands])
  rw[hx]at rx
  rw[hy]at ry
  generalize e1:a.eval x=vx at rx
  generalize e2:a.eval y=vy at ry
  cases rx with
  | @agg _ vs h0 h2 h3=>
    cases ry with
    | @agg _ us g0 g2 g3=>
      obtain⟨hv,he⟩:=Ak6 (G:=G) (vs:=vs.toList) (us:=us.toList) hok ⟨by simpa using h0,λj x v hx hv=>h3 j x v hx (by simpa using hv)⟩ ⟨by simpa using g0,λj x v hx hv=>g3 j x v hx (by simpa using hv)⟩
      have hvs:vs.size=n:=by rw[←h0];exact hl
      have hus:us.size=n:=by have:=hv.1;simp at this;omega
      have heq:=ME (P:=P) 9 t n (some m) hf ha (λh=>by cases h) 10000 vs us (by decide) hvs hus hv w
      simp only[RG]at heq
      have hgd:=run_eqGuard_agg (P:=P) w op t x y vs us hg
      cases neg<;>simp at hn<;>subst hn<;>simp[execOp,hop,e1,e2,hgd,run_eql_struct,run_neq_struct,heq,he]
 ·exact h.elim
theorem NC {o:Oper} {i:I} {ρ:Operand->AV} {S:List Ad} {K:KT} (hc:H_ P o=some i) (h:Cd P i ρ S K):Fsq P o ρ S K:=by
 unfold H_ at hc
 split at hc
 ·rename_i x hop;injection hc with hc;subst hc;exact XU (.inl hop) h
 ·rename_i x hop;injection hc with hc;subst hc;exact XU (.inr hop) h
 ·rename_i c a b hop;injection hc with hc;subst hc;exact Adh hop h
 ·rename_i e hop
  cases hz:Ey P e with
  |none=>simp[hz]at hc
  |some zs=>simp[hz]at hc;subst hc;exact Aix hop hz h
 ·rename_i e x hop;injection hc with hc;subst hc;exact Ai5 hop h
 ·rename_i t ps hop
  split at hc
  ·rename_i fs z ht hz
   split at hc
   ·rename_i hfs
    cases hq:LP (λp:Nat×Operand=>(fs[p.1]?).bind λf=>(Fs P f.type).map λs=>(f.offset,s,p.2)) ps.toList with
    |none=>simp[hq]at hc
    |some qs=>simp[hq]at hc;subst hc;exact KB hop ht hz hfs hq h
   ·cases hc
  ·rename_i n e z ht hz
   cases hs:Fs P e with
   |none=>simp[hs]at hc
   |some s=>simp[hs]at hc;subst hc;exact LL hop ht hz hs h
  ·cases hc
 ·rename_i t n ps hop
  split at hc
  ·rename_i e ht
   split at hc
   ·rename_i s z hs hz
    split at hc
    ·rename_i hcond
     injection hc with hc;subst hc
     exact Ai4 hop ht hs hz hcond.1 hcond.2.1 hcond.2.2.1 hcond.2.2.2 h
    ·cases hc
   ·cases hc
  ·cases hc
 ·rename_i t a hop
  cases hn:DV P t with
  |none=>simp[hn]at hc
  |some n=>simp[hn]at hc;subst hc;exact Adl hop hn h
 ·rename_i t a x hop
  cases hn:Fs P t with
  |none=>simp[hn]at hc
  |some n=>simp[hn]at hc;subst hc;exact Zg hop hn h
 ·rename_i x hop;injection hc with hc;subst hc;exact Aiw hop h
 ·rename_i op t x y t' hop
  split at hc
  ·injection hc with hc;subst hc;exact XY hop h
  ·injection hc with hc;subst hc;exact XY hop h
  ·rename_i ht
   split at hc
   ·rename_i e;injection hc with hc;subst hc;exact XX hop ht (neg:=false) (by simpa using e) h
   ·split at hc
    ·rename_i e;injection hc with hc;subst hc;exact XX hop ht (neg:=true) (by simpa using e) h
    ·cases hc
  ·rename_i e ht
   split at hc
   ·split at hc
    ·rename_i e;injection hc with hc;subst hc;exact XV hop ht (neg:=false) (by simpa using e) h
    ·split at hc
     ·rename_i e;injection hc with hc;subst hc;exact XV hop ht (neg:=true) (by simpa using e) h
     ·cases hc
   ·cases hc
  ·rename_i fs ht
   split at hc
   ·cases hc
   ·rename_i hg
    have hg':P.eqGuardType P.depth t=false:=by simpa using hg
    split at hc
    ·rename_i n m hf ha
     split at hc
     ·rename_i e;injection hc with hc;subst hc;exact L1 hop ha hg' hf (neg:=false) (by simpa using e) h
     ·split at hc
      ·rename_i e;injection hc with hc;subst hc;exact L1 hop ha hg' hf (neg:=true) (by simpa using e) h
      ·cases hc
    ·cases hc
  ·rename_i n0 e0 ht
   split at hc
   ·cases hc
   ·rename_i hg
    have hg':P.eqGuardType P.depth t=false:=by simpa using hg
    split at hc
    ·rename_i n m hf ha
     split at hc
     ·rename_i e;injection hc with hc;subst hc;exact L1 hop ha hg' hf (neg:=false) (by simpa using e) h
     ·split at hc
      ·rename_i e;injection hc with hc;subst hc;exact L1 hop ha hg' hf (neg:=true) (by simpa using e) h
      ·cases hc
    ·cases hc
  ·rename_i d1 d2 d3 ht
   split at hc
   ·rename_i e;injection hc with hc;subst hc;exact XW hop ht (neg:=false) (by simpa using e) h
   ·split at hc
    ·rename_i e;injection hc with hc;subst hc;exact XW hop ht (neg:=true) (by simpa using e) h
    ·cases hc
  ·cases hc
 ·rename_i op t x hop;injection hc with hc;subst hc;exact Am9 hop h
 ·rename_i src dst x hop
  split at hc
  ·rename_i k0 k hs hd;injection hc with hc;subst hc;exact Ai3 hop hs hd h
  ·rename_i e hs hd
   split at hc
   ·rename_i he;injection hc with hc;subst hc;exact Ai6 hop hs he hd h
   ·cases hc
  ·rename_i e hs hd
   split at hc
   ·rename_i he;injection hc with hc;subst hc;exact Aiv hop hs hd he h
   ·cases hc
  ·cases hc
 ·rename_i t x lo hi mx hop
  split at hc
  ·rename_i e ht
   cases hs:Fs P e with
   |none=>simp[hs]at hc
   |some s=>simp[hs]at hc;subst hc;exact Zh hop ht hs h
  ·rename_i ht
   split at hc
   ·rename_i hm
    have:mx=none:=by simpa using hm
    subst this
    injection hc with hc;subst hc;exact Adf hop ht h
   ·cases hc
  ·cases hc
 ·rename_i t x f hop
  split at hc
  ·rename_i fs ht
   split at hc
   ·rename_i fd hf
    split at hc
    ·rename_i s hs
     split at hc
     ·rename_i h1;injection hc with hc;subst hc;exact Adp hop ht hf hs h1 h
     ·cases hc
    ·cases hc
   ·cases hc
  ·cases hc
 ·rename_i t x f hop
  split at hc
  ·rename_i fs ht
   split at hc
   ·rename_i fd hf
    cases hn:DV P fd.type with
    |none=>simp[hn]at hc
    |some n=>simp[hn]at hc;subst hc;exact Ai1 hop ht hf hn h
   ·cases hc
  ·cases hc
 ·rename_i t x ix hop
  split at hc
  ·rename_i e ht
   cases hs:Fs P e with
   |none=>simp[hs]at hc
   |some s=>simp[hs]at hc;subst hc;exact Ado hop ht hs h
  ·rename_i n e ht
   cases hs:Fs P e with
   |none=>simp[hs]at hc
   |some s=>simp[hs]at hc;subst hc;exact Adt hop ht hs h
  ·cases hc
 ·rename_i t x ix hop
  split at hc
  ·rename_i n e ht
   split at hc
   ·rename_i s a hs ha;injection hc with hc;subst hc;exact Ai0 hop ht hs ha h
   ·cases hc
  ·rename_i ht;injection hc with hc;subst hc;exact Adg hop ht h
  ·cases hc
 ·rename_i x i hop;injection hc with hc;subst hc;exact Ai2 hop h
 ·rename_i f a b hop;injection hc with hc;subst hc;exact Aiy hop h
 ·rename_i t l c hop
  split at hc
  ·rename_i e ht
   split at hc
   ·rename_i i z hi hz
    split at hc
    ·rename_i hcond;injection hc with hc;subst hc;exact Adk hop ht hi hz hcond.1 hcond.2 h
    ·cases hc
   ·cases hc
  ·cases hc
 ·rename_i t hop;injection hc with hc;subst hc;exact Zj hop h
 ·rename_i t x k hop
  split at hc
  ·rename_i kt e ht
   split at hc
   ·rename_i hk he;injection hc with hc;subst hc;exact Zi hop ht hk he h
   ·cases hc
  ·cases hc
 ·rename_i t x k v hop
  split at hc
  ·rename_i kt e ht
   split at hc
   ·rename_i hk;injection hc with hc;subst hc;exact Adj hop ht hk h
   ·cases hc
  ·cases hc
 ·rename_i c hop
  split at hc
  ·rename_i f hcal;injection hc with hc;subst hc;exact Adq hop hcal h
  ·rename_i hcal
   split at hc
   ·rename_i t t' s x hat ha
    split at hc
    ·rename_i e ht
     split at hc
     ·rename_i i z hi hz
      split at hc
      ·rename_i hcond
       obtain⟨rfl,h1,h2,h3⟩:=hcond
       injection hc with hc;subst hc
       exact Ai7 hop hcal ha hat ht hi hz h1 h2 h3 h
      ·cases hc
     ·cases hc
    ·cases hc
   ·cases hc
  ·rename_i hcal
   split at hc
   ·rename_i t x hat ha
    split at hc
    ·rename_i e ht;injection hc with hc;subst hc;exact Aiz hop hcal ha hat ht h
    ·rename_i ht;injection hc with hc;subst hc;exact Adm hop hcal ha hat ht h
    ·rename_i n e ht;injection hc with hc;subst hc;exact Adn hop hcal ha hat ht h
    ·cases hc
   ·cases hc
  ·rename_i hcal
   split at hc
   ·rename_i x y ha;injection hc with hc;subst hc;exact Adi (isMax:=true) (_t:=0) hop hcal ha h
   ·cases hc
  ·rename_i hcal
   split at hc
   ·rename_i x y ha;injection hc with hc;subst hc;exact Adi (isMax:=false) (_t:=0) hop hcal ha h
   ·cases hc
  ·cases hc
 ·cases hc
end
def tch:I->Bool
 | .new _| .box _| .load _ _| .store _ _ _| .call _ _| .app _ _ _ _| .mksl _ _ _ _| .mkmap| .mlook _ _| .mput _ _ _=>true
 |_=>false
theorem Abu {P:Program} {i:I} {ρ:Operand->AV} {S:List Ad} {K:KT} (ht:tch i=false) (h:Cd P i ρ S K):Cd P i ρ S (λv rd upd new=>(rd=[]∧upd=[]∧new=[])∧K v rd upd new):=by
 cases i<;>simp only[tch,Bool.true_eq_false]at ht<;>clear ht<;>dsimp only[Cd]at h ⊢
 case mov=>exact⟨⟨by trivial,by trivial,by trivial⟩,h⟩
 case pick=>unfold Nb at h ⊢;split at h<;>simp_all
 case build=>unfold Hc at h ⊢;split at h<;>simp_all
 case bsl=>exact⟨h.1,⟨by trivial,by trivial,by trivial⟩,h.2⟩
 case nilc=>unfold QJ at h ⊢;split at h<;>simp_all
 case bin op x y=>
  unfold TF at h ⊢
  split at h
  ·cases op<;>dsimp only[Db]at h ⊢ <;>first|exact⟨h.1,⟨by trivial,by trivial,by trivial⟩,h.2⟩|exact⟨h.1,h.2.1,⟨by trivial,by trivial,by trivial⟩,h.2.2⟩
  ·cases op<;>dsimp only[Wt]at h ⊢ <;>first|exact⟨⟨by trivial,by trivial,by trivial⟩,h⟩|exact h.elim
  ·exact h.elim
 case eqb=>unfold Wz at h ⊢;split at h<;>simp_all
 case eqa=>unfold WA at h ⊢;split at h<;>simp_all
 case eqp=>unfold TD at h ⊢;split at h<;>simp_all
 case eqf=>unfold TE at h ⊢;split at h<;>simp_all
 case un=>unfold kUn at h ⊢;split at h<;>simp_all
 case cvt=>unfold WB at h ⊢;split at h<;>simp_all
 case b2s=>unfold WC at h ⊢;split at h<;>simp_all
 case s2b=>unfold Wu at h ⊢;split at h<;>simp_all
 case slice=>
  unfold D3 at h ⊢
  split at h
  ·split at h
   ·rename_i l hh hl hhh
    simp only[]
    obtain⟨h1,h2,h3,h4,h5⟩:=h
    refine⟨h1,h2,h3,h4,?_⟩
    split at h5
    ·exact⟨⟨by trivial,by trivial,by trivial⟩,h5⟩
    ·exact⟨h5.1,⟨by trivial,by trivial,by trivial⟩,h5.2⟩
   ·exact h.elim
  ·exact h.elim
 case sstr=>
  unfold Ps at h ⊢
  split at h
  ·split at h
   ·rename_i l hh hl hhh
    simp only[]
    exact⟨h.1,h.2.1,h.2.2.1,⟨by trivial,by trivial,by trivial⟩,h.2.2.2⟩
   ·exact h.elim
  ·exact h.elim
 case fadr=>unfold J5 at h ⊢;split at h<;>simp_all
 case fld=>unfold KM at h ⊢;(repeat' split at h)<;>simp_all
 case iadr=>
  unfold Ll at h ⊢
  split at h
  ·exact⟨h.1,h.2.1,h.2.2.1,⟨by trivial,by trivial,by trivial⟩,h.2.2.2⟩
  ·exact⟨h.1,h.2.1,⟨by trivial,by trivial,by trivial⟩,h.2.2⟩
  ·exact h.elim
 case aadr=>unfold Lm at h ⊢;split at h<;>simp_all
 case idx=>unfold Wx KM at h ⊢;(repeat' split at h)<;>simp_all
 case sidx=>
  unfold Pt at h ⊢
  split at h
  ·exact⟨h.1,h.2.1,⟨by trivial,by trivial,by trivial⟩,h.2.2⟩
  ·exact h.elim
 case ext=>unfold Wy at h ⊢;(repeat' split at h)<;>simp_all
 case mkf=>exact⟨⟨by trivial,by trivial,by trivial⟩,h⟩
 case len=>unfold Nc at h ⊢;split at h<;>simp_all
 case lenc=>exact⟨⟨by trivial,by trivial,by trivial⟩,h⟩
 case mx=>unfold kMx at h ⊢;split at h<;>simp_all
abbrev RO:=Option (Nat×Bool)×I×Option Nat
def D1 (tm:List AV) (d:Option Nat) (v:AV):List AV:=match d with
 |some t=>tm.set t v
 |none=>tm
def gdK (x:AV) (want:Bool) (run skip:Prop):Prop:=
 match x with
 | .lit (.bool b)=>if b=want then run else skip
 | .lit _=>skip
 |_=>False
def Aoi (a b:List Nat):Bool:=a.all λx=> !b.contains x
def Og (u:List (Nat×Nat)) (tr:List (List Nat×List Nat)):Bool:=
 u.all λp=>Aoi (tr.getD p.1 ([],[])).2 (tr.getD p.2 ([],[])).1&&Aoi (tr.getD p.2 ([],[])).2 (tr.getD p.1 ([],[])).1
def DM (P:Program):List RO->List (Nat×Nat)->List (List Nat×List Nat)->List AV->List Ad->(List AV->List Ad->Prop)->Prop
 |[],u,tr,tm,S,Q=>Og u tr=true∧Q tm S
 |(none,i,d)::rest,u,tr,tm,S,Q=>Cd P i (ev tm) S λv rd upd new=>DM P rest u (tr++[(rd,upd.map (·.1)++(BG S.length new).map (·.1))]) (D1 tm d v) (CA S upd++new) Q
 |(some (t,want),i,d)::rest,u,tr,tm,S,Q=>gdK (tm.getD t .any) want
    (Cd P i (ev tm) S λv rd upd new=>DM P rest u (tr++[(rd,upd.map (·.1)++(BG S.length new).map (·.1))]) (D1 tm d v) (CA S upd++new) Q)
    (DM P rest u (tr++[([],[])]) (D1 tm d (.lit undef)) S Q)
structure JE where
 ran:Bool
 v:AV
 rd:List Nat
 upd:List (Nat×Ad)
 new:List Ad
def sT (dst:Nat->Option Nat) (r:Nat->JE) (tm:List AV):Nat->List AV
 |0=>tm
 |i+1=>D1 (sT dst r tm i) (dst i) (r i).v
def sS (r:Nat->JE) (S:List Ad):Nat->List Ad
 |0=>S
 |i+1=>CA (sS r S i) (r i).upd++(r i).new
def Ga (P:Program) (o:Oper) (i:I) (g:Option (Nat×Bool)) (tm:List AV) (S:List Ad) (r:JE):Prop:=
 if r.ran then(∀t w,g=some (t,w)->tm.getD t .any=.lit (.bool w))∧Eff P o (ev tm) S r.v r.rd r.upd r.new∧(∀p∈r.upd,p.1∈r.rd)∧(∀i∈r.rd,i<S.length)∧(tch i=false->r.rd=[]∧r.upd=[]∧r.new=[])
 else(∃t w u,g=some (t,w)∧tm.getD t .any=.lit u∧u≠ .bool w)∧r.v=.lit undef∧r.rd=[]∧r.upd=[]∧r.new=[]
def Ow (r:JE) (N:Nat):List Nat×List Nat:=(r.rd,r.upd.map (·.1)++(BG N r.new).map (·.1))
theorem Sw (dst:Nat->Option Nat) (r:Nat->JE) (tm:List AV) (i:Nat):sT (λj=>dst (j+1)) (λj=>r (j+1)) (D1 tm (dst 0) (r 0).v) i=sT dst r tm (i+1):=by
 induction i with
 |zero=>rfl
 |succ i ih=>simp only[sT,ih]
theorem MD (r:Nat->JE) (S:List Ad) (i:Nat):sS (λj=>r (j+1)) (CA S (r 0).upd++(r 0).new) i=sS r S (i+1):=by
 induction i with
 |zero=>rfl
 |succ i ih=>simp only[sS,ih]
theorem PW {P:Program}:∀(os:List Oper) (cs:List RO) (u:List (Nat×Nat)) (tr:List (List Nat×List Nat)) (tm:List AV) (S:List Ad) (Q:List AV->List Ad->Prop),
 os.length=cs.length->(∀(j:Nat) (o:Oper) (c:RO),os[j]? =some o->cs[j]? =some c->H_ P o=some c.2.1∧o.dst=c.2.2)->DM P cs u tr tm S Q->
 ∃r:Nat->JE,(∀(j:Nat) (o:Oper) (c:RO),os[j]? =some o->cs[j]? =some c->Ga P o c.2.1 c.1 (sT (λj=>(os[j]?).bind (·.dst)) r tm j) (sS r S j) (r j))∧
  Og u (tr++(List.range os.length).map λj=>Ow (r j) (sS r S j).length)=true∧Q (sT (λj=>(os[j]?).bind (·.dst)) r tm os.length) (sS r S os.length):=by
 intro os
 induction os with
 |nil=>
  intro cs u tr tm S Q hl hc h
  have:cs=[]:=List.eq_nil_of_length_eq_zero (by simpa using hl.symm)
  subst this
  simp only[DM]at h
  exact⟨λ_=>⟨false,.any,[],[],[]⟩,λj o c ho=>by simp at ho,by simpa using h.1,h.2⟩
 |cons o os ih=>
  intro cs u tr tm S Q hl hc h
  cases cs with
  |nil=>simp at hl
  |cons c cs=>
   obtain⟨g,i,d⟩:=c
   obtain⟨hco,hd⟩:=hc 0 o (g,i,d) rfl rfl
   simp only at hco hd
   subst hd
   have hcs:∀(j:Nat) (o':Oper) (c:RO),os[j]? =some o'->cs[j]? =some c->H_ P o'=some c.2.1∧o'.dst=c.2.2:=λj o' c h1 h2=>hc (j+1) o' c (by simpa using h1) (by simpa using h2)
   have hl':os.length=cs.length:=by simpa using hl
   have fin:∀(r0:JE),Ga P o i g tm S r0->DM P cs u (tr++[Ow r0 S.length]) (D1 tm o.dst r0.v) (CA S r0.upd++r0.new) Q->
    ∃r:Nat->JE,(∀(j:Nat) (o':Oper) (c:RO),(o::os)[j]? =some o'->((g,i,o.dst)::cs)[j]? =some c->Ga P o' c.2.1 c.1 (sT (λj=>((o::os)[j]?).bind (·.dst)) r tm j) (sS r S j) (r j))∧
     Og u (tr++(List.range (o::os).length).map λj=>Ow (r j) (sS r S j).length)=true∧Q (sT (λj=>((o::os)[j]?).bind (·.dst)) r tm (o::os).length) (sS r S (o::os).length):=by
    intro r0 h0 hrest
    obtain⟨r',h1,h2,h3⟩:=ih cs u _ _ _ Q hl' hcs hrest
    refine⟨λj=>match j with|0=>r0|j+1=>r' j,λj o' c ho hc'=>?_,?_,?_⟩
    ·cases j with
     |zero=>simp at ho hc';subst ho hc';exact h0
     |succ j=>
      have:=h1 j o' c (by simpa using ho) (by simpa using hc')
      rw[←Sw,←MD]
      exact this
    ·rw[List.length_cons,List.range_succ_eq_map]
     rw[List.append_assoc]at h2
     simp only[List.map_cons,List.map_map,List.singleton_append]at h2 ⊢
     have e:(λj=>Ow (r' j) (sS r' (CA S r0.upd++r0.new) j).length)=(λj=>Ow ((λj=>match j with|0=>r0|j+1=>r' j:Nat->JE) j) (sS (λj=>match j with|0=>r0|j+1=>r' j) S j).length)∘Nat.succ:=by
      funext j
      simp only[Function.comp,Nat.succ_eq_add_one]
      rw[←MD]
     rw[e]at h2
     exact h2
    ·rw[List.length_cons,←Sw,←MD]
     exact h3
   have run:Cd P i (ev tm) S (λv rd upd new=>DM P cs u (tr++[(rd,upd.map (·.1)++(BG S.length new).map (·.1))]) (D1 tm o.dst v) (CA S upd++new) Q)->(∀t w,g=some (t,w)->tm.getD t .any=.lit (.bool w))->
    ∃r0,Ga P o i g tm S r0∧DM P cs u (tr++[Ow r0 S.length]) (D1 tm o.dst r0.v) (CA S r0.upd++r0.new) Q:=by
    intro he hg
    by_cases ht:tch i=false
    ·obtain⟨v,rd,upd,new,h1,h2,h2',h2'',h3⟩:=NC hco (Abu ht he)
     exact⟨⟨true,v,rd,upd,new⟩,by simp only[Ga,if_true];exact⟨hg,h1,h2,h2',λ_=>h2''⟩,h3⟩
    ·obtain⟨v,rd,upd,new,h1,h2,h2',h3⟩:=NC hco he
     exact⟨⟨true,v,rd,upd,new⟩,by simp only[Ga,if_true];exact⟨hg,h1,h2,h2',λe=>(ht e).elim⟩,h3⟩
   cases g with
   |none=>
    simp only[DM]at h
    obtain⟨r0,h1,h2⟩:=run h (λt w e=>by cases e)
    exact fin r0 h1 h2
   |some g=>
    obtain⟨t,want⟩:=g
    simp only[DM,gdK]at h
    have skip:∀u',tm.getD t .any=.lit u'->u'≠ .bool want->DM P cs u (tr++[([],[])]) (D1 tm o.dst (.lit undef)) S Q->∃r0,Ga P o i (some (t,want)) tm S r0∧DM P cs u (tr++[Ow r0 S.length]) (D1 tm o.dst r0.v) (CA S r0.upd++r0.new) Q:=by
     intro u' hu' hne hk
     exact⟨⟨false,.lit undef,[],[],[]⟩,by unfold Ga;rw[if_neg (by simp)];exact⟨⟨t,want,u',rfl,hu',hne⟩,rfl,rfl,rfl,rfl⟩,by simpa[Ow,BG]using hk⟩
    split at h
    ·rename_i b hb
     split at h
     ·rename_i hbw
      subst hbw
      obtain⟨r0,h1,h2⟩:=run h (λt' w e=>by injection e with e;injection e with e1 e2;subst e1 e2;exact hb)
      exact fin r0 h1 h2
     ·rename_i hbw
      obtain⟨r0,h1,h2⟩:=skip _ hb (λe=>by injection e with e;exact hbw e) h
      exact fin r0 h1 h2
    ·rename_i x u' hne hu'
     obtain⟨r0,h1,h2⟩:=skip u' hu' (λe=>hne want (by rw[e])) h
     exact fin r0 h1 h2
    ·exact h.elim
def Fw (ro:Option Nat):Fence:={Fence.wide with round:=ro}
theorem Ajf {ro:Option Nat} {P:Program} {row:String} {args:Array Value} {w:World} {R:Value->World->Prop} (h:Rows P row args w R):RowsIn (Fw ro) 0 P row args w R:=
 λc cs _=>let⟨v,w',r,s⟩:=h c cs;⟨v,w',r,stepsIn_wide.2 s⟩
theorem Ag1 {ro:Option Nat} {P:Program} {f:FuncId} {args:Array Value} {w:World} {R:Ending->World->Prop} (h:Calls P f args w R):CallsIn (Fw ro) 0 P f args w R:=by
 have:CallsIn Fence.wide 0 P f args w R:=callsIn_wide.2 h
 exact this
theorem FW {P:Program} {o:Oper} (hd:∀c,o.op≠ .defer c) {ro:Option Nat} {a:Act} {w:World} {K:Act->World->Prop} {Q:Exit->Act->World->Prop} (h:OwpG P o a w K Q):o.wpIn (Fw ro) 0 P a w K Q:=by
 refine⟨λ_ _=>trivial,?_⟩
 rw[Oper.semAt_eq _ _ _ hd]
 rcases h with h|⟨l,f,tmps,as,body,hrun,hr⟩
 ·unfold Oper.wp at h
  generalize(execOp a.eval o).run P w=r at h
  cases r with
  |ok x w'=>
   cases x<;>simp only[Oper.upon,Oper.uponIn]at h ⊢ <;>first
    |exact h
    |exact⟨λh0=>by simp[Fw,Fence.wide]at h0,Ag1 h⟩
    |exact⟨λh0=>by simp[Fw,Fence.wide]at h0,Ajf h⟩
  |halt x w'=>cases x<;>simp only[Oper.upon,Oper.uponIn]at h ⊢ <;>exact h
 ·rw[hrun]
  refine⟨λh0=>by simp[Fw,Fence.wide]at h0,?_⟩
  have:RoundIn (Fw ro) 0 P l f tmps as body w λe w'=>∃v,e=.returned v∧K (a.put o.dst v) w':=hr
  refine this.mono ?_
  rintro e w' ⟨v,rfl,hK⟩
  exact hK
theorem Kj {P:Program} {o:Oper} {i:I} (h:H_ P o=some i):∀c,o.op≠ .defer c:=by
 intro c hc
 unfold H_ at h
 rw[hc]at h
 cases h
def IY (w0 w:World) (ds:List Deferred):Prop:=
 ∃Ds:List Nat,Ds.Nodup∧ds=Ds.map (λD=>{target:=.collected D,args:=#[]})∧∀D∈Ds,w0.heap.size≤D∧w.heap[D]? =some (.deferred (some []))
theorem IY.nil (w0 w:World):IY w0 w []:=⟨[],by simp,rfl,λD h=>by simp at h⟩
theorem Alr {G:Gh} {T:List Ad} {w:World} (h:Wd G T w) {i b:Nat} (hb:blk G T i=some b):∃o,w.heap[b]? =some o∧∀d,o≠ .deferred d:=by
 unfold blk at hb
 split at hb
 ·rename_i xs hi
  obtain⟨b',cs,t,h1,h2,_⟩:=h.obj i xs hi
  rw[h1]at hb;injection hb with hb;subst hb
  exact⟨_,h2,by simp⟩
 ·rename_i k n hi
  obtain⟨_,A,c,h1,h2,h3,h4⟩:=h.row i k n hi
  rw[h1]at hb
  split at hb
  ·rename_i a _ c' heq
   split at hb
   ·rename_i hlt
    injection heq with heq
    injection heq with e1 e2 e3
    subst e1 e3
    obtain⟨b',cs,t,h5,h6,_⟩:=h4 hlt
    injection h5 with h5
    injection hb with hb
    rw[←hb,h5]
    exact⟨_,h6,by simp⟩
   ·cases hb
  ·cases hb
 ·rename_i k n xs hi
  obtain⟨_,_,A,c,h1,h2,h3,_,h4⟩:=h.mrow i k n xs hi
  rw[h1]at hb
  split at hb
  ·rename_i a _ c' heq
   split at hb
   ·rename_i hlt
    injection heq with heq
    injection heq with e1 e2 e3
    subst e1 e3
    obtain⟨b',cs,t,h5,h6,_⟩:=h4 hlt
    injection h5 with h5
    injection hb with hb
    rw[←hb,h5]
    exact⟨_,h6,by simp⟩
   ·cases hb
  ·cases hb
 ·rename_i o xs hi
  obtain⟨b',vs,h1,h2,_⟩:=h.raw i o xs hi
  rw[h1]at hb;injection hb with hb;subst hb
  exact⟨_,h2,by cases o<;>simp[E5.obj]⟩
 ·cases hb
theorem IY.left {w0 w w':World} {ds:List Deferred} {G G':Gh} {S S':List Ad} (h:IY w0 w ds) (hw:Wd G S w) (hl:Bf G S w G' S' w'):IY w0 w' ds:=by
 obtain⟨Ds,h1,h2,h3⟩:=h
 refine⟨Ds,h1,h2,λD hD=>⟨(h3 D hD).1,?_⟩⟩
 have h4:=(h3 D hD).2
 refine(hl.kept.block D (Array.getElem?_eq_some_iff.1 h4).1 λi hi=>?_).trans h4
 obtain⟨o,g1,g2⟩:=Alr hw hi
 rw[h4]at g1;injection g1 with g1
 exact g2 _ g1.symm
theorem Wd.turnOut {G:Gh} {T:List Ad} {w:World} (h:Wd G T w) {D:Nat} {d d':Option (List Deferred)} (hD:w.heap[D]? =some (.deferred d)):Wd G T (w.putObj D (.deferred d')):=by
 have other:∀{b:Nat} {o:Obj},w.heap[b]? =some o->(∀d,o≠ .deferred d)->(w.putObj D (.deferred d')).heap[b]? =some o:=λ{b o} hb ho=>by
  rw[World.putObj_heap_other]
  ·exact hb
  ·rintro rfl;rw[hD]at hb;injection hb with hb;exact ho _ hb.symm
 refine⟨λb i v hv=>?_,h.dom,λi xs hi=>?_,λj k n hj=>?_,λj k n xs hj=>?_,λi o xs hi=>?_,h.sep⟩
 ·have hc:=h.imm b i v hv
  obtain⟨o,ho,hk⟩:=cells_of_cell hc
  refine(World.cell?_of_block (w:=w) ?_).trans hc
  rw[ho];exact other ho (λd e=>by subst e;simp[Obj.isCells]at hk)
 ·obtain⟨b,cs,t,h1,h2,h3,h4,h5⟩:=h.obj i xs hi
  exact⟨b,cs,t,h1,other h2 (by simp),h3,h4,h5⟩
 ·obtain⟨h0,A,c,h1,h2,h3,h4⟩:=h.row j k n hj
  refine⟨h0,A,c,h1,h2,h3,λhlt=>?_⟩
  obtain⟨b,cs,t,g1,g2,g3,g4⟩:=h4 hlt
  exact⟨b,cs,t,g1,other g2 (by simp),g3,g4⟩
 ·obtain⟨h0,hl,A,c,h1,h2,h3,hc6,h4⟩:=h.mrow j k n xs hj
  refine⟨h0,hl,A,c,h1,h2,h3,hc6,λhlt=>?_⟩
  obtain⟨b,cs,t,g1,g2,g3,g4⟩:=h4 hlt
  exact⟨b,cs,t,g1,other g2 (by simp),g3,g4⟩
 ·obtain⟨b,vs,h1,h2,h3⟩:=h.raw i o xs hi
  exact⟨b,vs,h1,other h2 (by cases o<;>simp[E5.obj]),h3⟩
structure Cz (G0:Gh) (S0:List Ad) (w0:World) (tm:List AV) (S:List Ad) (G:Gh) (a:Act) (w:World):Prop where
 left:Bf G0 S0 w0 G S w
 size:a.tmps.size=tm.length
 rep:∀(t:Nat) (x:AV) (v:Value),tm[t]? =some x->a.tmps[t]? =some v->BE G x v
 defers:IY w0 w a.defers
 wd0:Wd G0 S0 w0
theorem Cz.ev {G0:Gh} {S0:List Ad} {w0:World} {tm:List AV} {S:List Ad} {G:Gh} {a:Act} {w:World} (h:Cz G0 S0 w0 tm S G a w) (x:Operand):BE G (ev tm x) (a.eval x):=by
 cases x with
 |tmp t=>
  simp only[Proofs.YtileggkdbaejoaaGreat.ev,Act.eval]
  by_cases ht:t<tm.length
  ·have h1:=List.getElem?_eq_getElem ht
   have h2:=Array.getElem?_eq_getElem (show t<a.tmps.size by rw[h.size];exact ht)
   have:=h.rep t _ _ h1 h2
   simpa[ht,h.size]using this
  ·simp[ht];exact .any _
 |const v=>exact Ajj G v
 |global g=>exact .any _
 |func f=>
  exact .fn (by simp) (by simp) (λj x v h=>by simp at h) (λj x v h=>by simp at h)
theorem Cz.put {G0:Gh} {S0:List Ad} {w0:World} {tm:List AV} {S S':List Ad} {G G':Gh} {a:Act} {w w':World} (h:Cz G0 S0 w0 tm S G a w) (hl:Bf G S w G' S' w') {x:AV} {v:Value} (hv:BE G' x v) (d:Option Nat):
 Cz G0 S0 w0 (D1 tm d x) S' G' (a.put d v) w':=by
 refine⟨h.left.trans hl,?_,λt y u hy hu=>?_,?_,h.wd0⟩
 ·cases d<;>simp[Act.put,D1,h.size]
 ·cases d with
  |none=>exact(h.rep t y u hy hu).mono hl.le
  |some d=>
   simp only[D1,Act.put]at hy hu
   by_cases e:t=d
   ·subst e
    rw[List.getElem?_set]at hy
    rw[Array.getElem?_setIfInBounds]at hu
    simp only[if_true]at hy hu
    split at hy
    ·injection hy with hy;subst hy
     rw[if_pos (by rw[h.size];assumption)]at hu
     injection hu with hu;subst hu;exact hv
    ·cases hy
   ·rw[List.getElem?_set_ne (Ne.symm e)]at hy
    rw[Array.getElem?_setIfInBounds_ne (Ne.symm e)]at hu
    exact(h.rep t y u hy hu).mono hl.le
 ·have:(a.put d v).defers=a.defers:=by cases d<;>rfl
  rw[this];exact h.defers.left h.left.wd hl
theorem Bf.dead {G:Gh} {S:List Ad} {w:World} (h:Wd G S w) (n:Nat):Bf G S w G (S++List.replicate n .dead) w:=by
 have hold:∀{i:Nat} {o:Ad},(S++List.replicate n .dead)[i]? =some o->o≠ .dead->S[i]? =some o:=λ{i o} e hne=>by
  rw[List.getElem?_append]at e
  split at e
  ·exact e
  ·rw[List.getElem?_replicate]at e
   split at e
   ·injection e with e;exact(hne e.symm).elim
   ·cases e
 have hblk:∀i,blk G (S++List.replicate n .dead) i=blk G S i:=by
  intro i
  by_cases hi:i<S.length
  ·simp[blk,List.getElem?_append_left hi]
  ·have h1:S[i]? =none:=List.getElem?_eq_none (by omega)
   cases he:(S++List.replicate n Ad.dead)[i]? with
   |none=>simp[blk,he,h1]
   |some o=>
    cases o with
    |dead=>simp[blk,he,h1]
    |cells xs=>have:=hold he (by simp);rw[h1]at this;cases this
    |row k m=>have:=hold he (by simp);rw[h1]at this;cases this
    |mrow k m xs=>have:=hold he (by simp);rw[h1]at this;cases this
    |raw o xs=>have:=hold he (by simp);rw[h1]at this;cases this
 refine⟨Gh.Le.refl _,⟨h.imm,λi hi=>?_,λi xs hi=>h.obj i xs (hold hi (by simp)),λj k m hj=>h.row j k m (hold hj (by simp)),λj k m xs hj=>h.mrow j k m xs (hold hj (by simp)),λi o xs hi=>h.raw i o xs (hold hi (by simp)),λi j b hi hj=>h.sep i j b (by rw[←hblk];exact hi) (by rw[←hblk];exact hj)⟩,C7.refl _ _,λi b hb=>.inr ⟨i,by rw[←hblk];exact hb⟩,λ_ _ _ h=>.inl h⟩
 by_cases hlt:i<S.length
 ·rw[List.getElem?_append_left hlt]at hi;exact h.dom i hi
 ·exact h.dom i (.inl (List.getElem?_eq_none (by omega)))
theorem JY {n:Nat} {l:List Ad} {p:Nat×Ad} (h:p∈BG n l):n≤p.1∧p.1<n+l.length∧l[p.1-n]? =some p.2:=by
 induction l generalizing n with
 |nil=>cases h
 |cons o l ih=>
  simp only[BG,List.mem_cons]at h
  rcases h with rfl|h
  ·simp
  ·obtain⟨h1,h2,h3⟩:=ih h
   refine⟨by omega,by simp;omega,?_⟩
   rw[show p.1-n=(p.1-(n+1))+1 by omega];simpa using h3
theorem Sb (S:List Ad) (new:List Ad):∀(n:Nat),n=S.length->CA (S++List.replicate new.length .dead) (BG n new)=S++new:=by
 induction new generalizing S with
 |nil=>intro n hn;simp[BG]
 |cons o new ih=>
  intro n hn
  subst hn
  simp only[List.length_cons,BG,CQ,List.replicate_succ]
  have:(S++Ad.dead::List.replicate new.length Ad.dead).set S.length o=(S++[o])++List.replicate new.length Ad.dead:=by
   rw[List.set_append_right _ _ (Nat.le_refl _)];simp
  rw[this,ih (S++[o]) (S.length+1) (by simp)]
  simp
theorem CE (T:List Ad) (u v:List (Nat×Ad)):CA T (u++v)=CA (CA T u) v:=by
 induction u generalizing T with
 |nil=>rfl
 |cons p u ih=>simp[ih]
theorem OZ (S R:List Ad) (u:List (Nat×Ad)) (h:∀p∈u,p.1<S.length):CA (S++R) u=CA S u++R:=by
 induction u generalizing S with
 |nil=>rfl
 |cons p u ih=>
  rw[CQ,CQ,List.set_append_left _ _ (h p (by simp)),ih _ (λq hq=>by simpa using h q (by simp[hq]))]
section
variable {P:Program}
theorem Zd {o:Oper} {G0:Gh} {S0:List Ad} {w0:World} {tm:List AV} {S:List Ad} {G:Gh} {a:Act} {w:World} (hz:Cz G0 S0 w0 tm S G a w) {v:AV} {rd:List Nat} {upd:List (Nat×Ad)} {new:List Ad}
 (he:Eff P o (ev tm) S v rd upd new) (hu:∀p∈upd,p.1∈rd) (hrd:∀i∈rd,i<S.length) (K:Act->World->Prop) (Q:Exit->Act->World->Prop)
 (hk:∀G' a' w',Cz G0 S0 w0 (D1 tm o.dst v) (CA S upd++new) G' a' w'->K a' w'):OwpG P o a w K Q:=by
 have hd:=Bf.dead hz.left.wd new.length
 refine he (S++List.replicate new.length .dead) (λi hi=>List.getElem?_append_left (hrd i hi)) (λp hp=>?_) G a w hd.wd (λx _=>hz.ev x) K Q λv' w' G' hv hl=>hk G' _ _ ?_
 ·obtain⟨h1,h2,_⟩:=JY hp
  rw[List.getElem?_append_right h1,List.getElem?_replicate,if_pos (by omega)]
 ·have e:CA (S++List.replicate new.length .dead) (upd++BG S.length new)=CA S upd++new:=by
   rw[CE,OZ _ _ _ (λp hp=>hrd _ (hu p hp))]
   exact Sb _ _ _ (by simp)
  rw[e]at hl
  exact hz.put (hd.trans hl) hv o.dst
end
def F5 (P:Program) (ops:Array Oper):Option (List RO):=
 LP (λo:Oper=>match H_ P o with
  |none=>none
  |some i=>match o.guard with
   |none=>some (none,i,o.dst)
   |some (j,want)=>match(ops[j]?).bind (·.dst)with
    |some t=>some (some (t,want),i,o.dst)
    |none=>none) ops.toList
section
variable {P:Program} {ops:Array Oper} {cs:List RO}
theorem NH (h:F5 P ops=some cs):ops.toList.length=cs.length∧∀(j:Nat) (o:Oper) (c:RO),ops.toList[j]? =some o->cs[j]? =some c->
 (H_ P o=some c.2.1∧o.dst=c.2.2)∧(o.guard=none∧c.1=none∨∃g want t,o.guard=some (g,want)∧(ops[g]?).bind (·.dst)=some t∧c.1=some (t,want)):=by
 obtain⟨h1,h2⟩:=Te h
 refine⟨h1,λj o c ho hc=>?_⟩
 have e:=h2 j o c ho hc
 split at e
 ·cases e
 ·rename_i i hi
  split at e
  ·rename_i hg;injection e with e;subst e;exact⟨⟨hi,rfl⟩,.inl ⟨hg,rfl⟩⟩
  ·rename_i g want hg
   split at e
   ·rename_i t ht;injection e with e;subst e;exact⟨⟨hi,rfl⟩,.inr ⟨g,want,t,hg,ht,rfl⟩⟩
   ·cases e
theorem OY {G0:Gh} {S0:List Ad} {w0:World} {tm:List AV} {S:List Ad} {G:Gh} {a:Act} {w:World} (hz:Cz G0 S0 w0 tm S G a w) {o:Oper} {i:I} {c:Option (Nat×Bool)} {tm':List AV} {S':List Ad} {r:JE}
 (hg:o.guard=none∧c=none∨∃g want t,o.guard=some (g,want)∧(ops[g]?).bind (·.dst)=some t∧c=some (t,want)) (htm:∀t w,c=some (t,w)->tm.getD t .any=tm'.getD t .any) (hr:Ga P o i c tm' S' r):
 Region.wanted o (yielded ops a.tmps)=r.ran:=by
 have look:∀{t:Nat} {u:Value},tm.getD t .any=.lit u->a.tmps[t]? =some u:=λ{t u} e=>by
  by_cases ht:t<tm.length
  ·have h1:tm[t]? =some (.lit u):=by rw[←e];simp[ht]
   have h2:=Array.getElem?_eq_getElem (show t<a.tmps.size by rw[hz.size];exact ht)
   rw[h2,A_ (hz.rep t _ _ h1 h2)]
  ·simp[ht]at e
 unfold Ga at hr
 cases hran:r.ran with
 |true=>
  rw[hran,if_pos rfl]at hr
  rcases hg with⟨h1,_⟩|⟨g,want,t,h1,h2,h3⟩
  ·simp[Region.wanted,h1]
  ·have e:=look ((htm t want h3).trans (hr.1 t want h3))
   simp[Region.wanted,h1,yielded,h2,e]
 |false=>
  rw[hran,if_neg (by simp)]at hr
  obtain⟨⟨t,want,u,hc,hu,hne⟩,_⟩:=hr
  rcases hg with⟨_,h1⟩|⟨g,want',t',h1,h2,h3⟩
  ·rw[h1]at hc;cases hc
  ·rw[h3]at hc;injection hc with hc;injection hc with e1 e2;subst e1 e2
   have e:=look ((htm t' want' h3).trans hu)
   simp only[Region.wanted,h1,yielded,h2,Option.bind_some,e]
   cases u<;>simp
   rintro rfl;exact hne rfl
theorem Pa {ro:Option Nat} {G0:Gh} {S0:List Ad} {w0:World} {tm:List AV} {S:List Ad} {G:Gh} {a:Act} {w:World} (hc:F5 P ops=some cs) (hz:Cz G0 S0 w0 tm S G a w) {QA:List AV->List Ad->Prop} (h:DM P cs [] [] tm S QA)
 (Q:Exit->Act->World->Prop) (hQ:∀tm' S' G' a' w',Cz G0 S0 w0 tm' S' G' a' w'->QA tm' S'->Q .normal a' w'):wpOpsIn (Fw ro) 0 P ops Q (List.range ops.size) a w:=by
 obtain⟨hl,hat⟩:=NH hc
 obtain⟨r,hrec,_,hfin⟩:=PW ops.toList cs [] [] tm S QA hl (λj o c h1 h2=>(hat j o c h1 h2).1) h
 have key:∀(k i:Nat) (G:Gh) (a:Act) (w:World),i+k=ops.size->Cz G0 S0 w0 (sT (λj=>(ops.toList[j]?).bind (·.dst)) r tm i) (sS r S i) G a w->wpOpsIn (Fw ro) 0 P ops Q (List.range' i k) a w:=by
  intro k
  induction k with
  |zero=>
   intro i G a w hi hz
   have e:i=ops.toList.length:=by simp;omega
   subst e
   exact hQ _ _ _ _ _ hz hfin
  |succ k ih=>
   intro i G a w hi hz
   have hlt:i<ops.size:=by omega
   have ho:ops[i]? =some ops[i]:=Array.getElem?_eq_getElem hlt
   have hol:ops.toList[i]? =some ops[i]:=by simp
   have hcl:cs[i]? =some (cs[i]'(by rw[←hl];simpa using hlt)):=List.getElem?_eq_getElem _
   obtain⟨hco,hg⟩:=hat i _ _ hol hcl
   have hr:=hrec i _ _ hol hcl
   have hw:=OY (ops:=ops) hz hg (λt w e=>rfl) hr
   simp only[List.range'_succ,wpOpsIn,ho,hw]
   unfold Ga at hr
   have hnext:∀{x:AV},D1 (sT (λj=>(ops.toList[j]?).bind (·.dst)) r tm i) (ops[i]).dst (r i).v=sT (λj=>(ops.toList[j]?).bind (·.dst)) r tm (i+1):=λ{x}=>by
    simp only[sT,hol,Option.bind_some]
   cases hran:(r i).ran with
   |true=>
    rw[hran,if_pos rfl]at hr
    obtain⟨_,he,hu,hrd,_⟩:=hr
    simp only[if_true]
    refine FW (Kj hco.1) ?_
    refine Zd hz he hu hrd _ _ λG' a' w' hz'=>ih (i+1) G' a' w' (by omega) ?_
    rw[hnext (x:=.any)]at hz'
    exact hz'
   |false=>
    rw[hran,if_neg (by simp)]at hr
    obtain⟨_,hv,hrd,hu,hn⟩:=hr
    simp only[Bool.false_eq_true,if_false]
    refine⟨λ_ _=>trivial,ih (i+1) G _ w (by omega) ?_⟩
    have:=hz.put (Bf.refl hz.left.wd) (x:=.lit undef) (v:=undef) (.lit _) (ops[i]).dst
    rw[←hv,hnext (x:=.any)]at this
    simpa[sS,hu,hn]using this
 have:=key ops.size 0 G a w (by omega) hz
 rwa[List.range_eq_range']
theorem SC {ro:Option Nat} {id:Nat} {G0:Gh} {S0:List Ad} {w0:World} {tm:List AV} {S:List Ad} {G:Gh} {a:Act} {w:World} (hc:F5 P ops=some cs) (hz:Cz G0 S0 w0 tm S G a w) {QA:List AV->List Ad->Prop} (h:DM P cs [] [] tm S QA)
 (Q:Exit->Act->World->Prop) (hQ:∀tm' S' G' a' w',Cz G0 S0 w0 tm' S' G' a' w'->QA tm' S'->Q .normal a' w'):(Code.region id ops false).wpIn (Fw ro) 0 P Q a w:=wpIn_region (Pa hc hz h Q hQ)
end
def ND (o:Oper):List Nat:=(o.after.toList.filter λe=>Region.binds .any e).map (·.on)
def Ag9:List Oper->List Nat->List Nat
 |[],acc=>acc
 |o::os,acc=>Ag9 os (acc++[(ND o).foldl (λs e=>s|||2^e|||acc.getD e 0) 0])
def Ac8 (xs:List Operand):List Nat:=xs.filterMap λ | .tmp t=>some t|_=>none
def DX (o:Oper) (c:RO):List Nat:=Ac8 o.op.operands.toList++o.dst.toList++(match c.1 with|some (t,_)=>[t]|none=>[])
def Ahq (o:Oper) (c:RO) (o':Oper) (c':RO):Bool:=
 (match o.dst with|some d=> !(DX o' c').contains d|none=>true)&&(match o'.dst with|some d=> !(DX o c).contains d|none=>true)
def Aep (n:Nat):List (Nat×Nat):=(List.range n).flatMap λk=>(List.range k).map λi=>(i,k)
def XP (n:Nat) (bef:List Nat):List (Nat×Nat):=(Aep n).filter λp=> !(bef.getD p.2 0).testBit p.1
def Ky (cs:List RO) (i:Nat):Bool:=match cs[i]? with|some c=>tch c.2.1|none=>false
def Ai8 (ops:List Oper) (cs:List RO) (u:List (Nat×Nat)):Bool:=
 u.all λp=>match ops[p.1]?,cs[p.1]?,ops[p.2]?,cs[p.2]? with
  |some o,some c,some o',some c'=>Ahq o c o' c'
  |_,_,_,_=>true
def F4 (P:Program) (ops:Array Oper) (draw:Bool):Option (List RO×List (Nat×Nat)):=
 match F5 P ops with
 |none=>none
 |some cs=>if draw then
   let u:=XP ops.size (Ag9 ops.toList [])
   if P.follows .mixedOrders&&(ops.toList.zipIdx.all λp=>(ND p.1).all (· <p.2))&&Ai8 ops.toList cs u then some (cs,u.filter λp=>Ky cs p.1&&Ky cs p.2)else none
  else some (cs,[])
theorem Pg {n i k:Nat} (h:i<k) (hk:k<n):(i,k)∈Aep n:=by
 simp only[Aep,List.mem_flatMap,List.mem_range,List.mem_map]
 exact⟨k,hk,i,h,rfl⟩
theorem LE (D:Nat->Prop):∀(os:List Oper) (acc:List Nat),(∀(k:Nat) (o:Oper),os[k]? =some o->D (acc.length+k)->∀e∈ND o,D e)->(∀k,k<acc.length->D k->∀i,(acc.getD k 0).testBit i=true->D i)->
 ∀k,k<acc.length+os.length->D k->∀i,((Ag9 os acc).getD k 0).testBit i=true->D i:=by
 intro os
 induction os with
 |nil=>intro acc _ h k hk;exact h k (by simpa using hk)
 |cons o os ih=>
  intro acc hd h k hk hDk i hi
  simp only[Ag9]at hi
  refine ih (acc++[(ND o).foldl (λs e=>s|||2^e|||acc.getD e 0) 0]) (λk o' ho hD=>hd (k+1) o' (by simpa using ho) (by rw[←Nat.add_assoc,Nat.add_right_comm];simpa using hD)) (λk' hk' hD' j hj=>?_) k (by simp at hk ⊢;omega) hDk i hi
  by_cases e:k'<acc.length
  ·refine h k' e hD' j ?_
   simpa[List.getElem?_append_left e]using hj
  ·have hk0:k'=acc.length:=by simp at hk';omega
   subst hk0
   have hj':((ND o).foldl (λs e=>s|||2^e|||acc.getD e 0) 0).testBit j=true:=by simpa using hj
   have hdir:=hd 0 o rfl (by simpa using hD')
   have key:∀(l:List Nat) (s:Nat),(∀e∈l,D e)->(l.foldl (λs e=>s|||2^e|||acc.getD e 0) s).testBit j=true->s.testBit j=true∨D j:=by
    intro l
    induction l with
    |nil=>intro s _ h;exact .inl h
    |cons e l ihl=>
     intro s hl hs
     rcases ihl _ (λx hx=>hl x (by simp[hx])) hs with h1|h1
     ·rw[Nat.testBit_or,Nat.testBit_or]at h1
      simp only[Bool.or_eq_true]at h1
      rcases h1 with(h1|h1)|h1
      ·exact .inl h1
      ·rw[Nat.testBit_two_pow]at h1
       have:e=j:=by simpa using h1
       subst this;exact .inr (hl e (by simp))
      ·right
       by_cases hea:e<acc.length
       ·exact h e hea (hl e (by simp)) j h1
       ·simp[List.getElem?_eq_none (Nat.le_of_not_lt hea)]at h1
     ·exact .inr h1
   rcases key (ND o) 0 hdir hj' with h1|h1
   ·simp at h1
   ·exact h1
def Cu {α:Type} (D:Nat->Bool) (f:Nat->Option α):Nat->Option α
 |0=>none
 |n+1=>if D n then(match f n with|some v=>some v|none=>Cu D f n)else Cu D f n
theorem D8 {α:Type} {D D':Nat->Bool} {f:Nat->Option α}:∀{n:Nat},(∀i,i<n->f i≠none->D i=D' i)->Cu D f n=Cu D' f n:=by
 intro n
 induction n with
 |zero=>intro _;rfl
 |succ n ih=>
  intro h
  have e:=ih λi hi=>h i (by omega)
  simp only[Cu]
  cases hf:f n with
  |none=>simp[e]
  |some v=>rw[h n (by omega) (by simp[hf]),e]
theorem KJ {α:Type} {D:Nat->Bool} {f:Nat->Option α} {j:Nat}:∀{n:Nat},j≤n->(∀i,j≤i->i<n->f i≠none->D i=false)->Cu D f n=Cu D f j:=by
 intro n
 induction n with
 |zero=>intro h _;have:j=0:=by omega
        subst this;rfl
 |succ n ih=>
  intro hj h
  by_cases e:j=n+1
  ·subst e;rfl
  ·simp only[Cu]
   rw[←ih (by omega) λi h1 h2=>h i h1 (by omega)]
   cases hf:f n with
   |none=>simp
   |some v=>simp[h n (by omega) (by omega) (by simp[hf])]
theorem M_ {α:Type} {D:Nat->Bool} {f:Nat->Option α}:∀{n:Nat},(∀i,i<n->D i=true->f i=none)->Cu D f n=none:=by
 intro n
 induction n with
 |zero=>intro _;rfl
 |succ n ih=>
  intro h
  simp only[Cu,ih λi hi=>h i (by omega)]
  cases hD:D n with
  |true=>simp[h n (by omega) hD]
  |false=>simp
theorem Pr {α:Type} {D:Nat->Bool} {f:Nat->Option α} {j:Nat} {v:α} {n:Nat} (hj:j<n) (hD:D j=true) (hf:f j=some v) (h:∀i,j<i->i<n->f i≠none->D i=false):Cu D f n=some v:=by
 rw[KJ (j:=j+1) (by omega) λi h1 h2 h3=>h i (by omega) h2 h3]
 simp[Cu,hD,hf]
def V6 {α:Type}:Option α->Option α->Option α
 |some x,_=>some x
 |none,y=>y
section
variable {dst:Nat->Option Nat} {r:Nat->JE} {tm:List AV} {S:List Ad}
def fT (dst:Nat->Option Nat) (r:Nat->JE) (t i:Nat):Option AV:=if dst i=some t then some (r i).v else none
def Eg (r:Nat->JE) (S:List Ad) (i:Nat):List (Nat×Ad):=(r i).upd++BG (sS r S i).length (r i).new
def fS (r:Nat->JE) (S:List Ad) (q i:Nat):Option Ad:=if q∈(Eg r S i).map (·.1)then(sS r S (i+1))[q]? else none
theorem KC (i:Nat):(sT dst r tm i).length=tm.length:=by
 induction i with
 |zero=>rfl
 |succ i ih=>simp only[sT,D1];split<;>simp[ih]
theorem Amj (t i:Nat):(sT dst r tm i)[t]? =if t<tm.length then V6 (Cu (λ_=>true) (fT dst r t) i) tm[t]? else none:=by
 induction i with
 |zero=>
  simp only[sT,Cu,V6]
  split
  ·rfl
  ·exact List.getElem?_eq_none (by omega)
 |succ i ih=>
  simp only[sT,Cu,fT,if_true]
  cases hd:dst i with
  |none=>simpa[D1]using ih
  |some d=>
   simp only[D1]
   by_cases e:d=t
   ·subst e
    by_cases hlt:d<tm.length
    ·simp[hlt,V6,KC]
    ·rw[if_neg hlt];exact List.getElem?_eq_none (by simp[KC];omega)
   ·rw[List.getElem?_set_ne e,ih]
    simp[e]
theorem JQ (i j:Nat) (h:i≤j):(sS r S i).length≤(sS r S j).length:=by
 induction j with
 |zero=>have:i=0:=by omega
        subst this;exact Nat.le_refl _
 |succ j ih=>
  by_cases e:i=j+1
  ·subst e;exact Nat.le_refl _
  ·have:=ih (by omega)
   simp only[sS,List.length_append,HK];omega
theorem JJ {i:Nat} (hu:∀p∈(r i).upd,p.1<(sS r S i).length) {q:Nat} (hq:q∈(Eg r S i).map (·.1)):q<(sS r S (i+1)).length:=by
 simp only[Eg,List.map_append,List.mem_append,List.mem_map]at hq
 simp only[sS,List.length_append,HK]
 rcases hq with⟨p,hp,rfl⟩|⟨p,hp,rfl⟩
 ·have:=hu p hp;omega
 ·have:=(JY hp).2.1;omega
theorem YV (T T':List Ad) (u:List (Nat×Ad)) {q:Nat} (hq:q∈u.map (·.1)) (h:q<T.length) (h':q<T'.length):(CA T u)[q]? =(CA T' u)[q]? :=by
 induction u generalizing T T' with
 |nil=>simp at hq
 |cons p u ih=>
  simp only[CQ]
  by_cases e:q∈u.map (·.1)
  ·exact ih _ _ e (by simpa using h) (by simpa using h')
  ·simp only[List.map_cons,List.mem_cons]at hq
   rcases hq with rfl|hq
   ·rw[Dj _ _ _ e,Dj _ _ _ e];simp[h,h']
   ·exact(e hq).elim
theorem XZ (i:Nat) (hu:∀p∈(r i).upd,p.1<(sS r S i).length):CA (sS r S i++List.replicate (r i).new.length .dead) (Eg r S i)=sS r S (i+1):=by
 simp only[Eg,sS]
 rw[CE,OZ _ _ _ hu,Sb _ _ _ (by simp)]
theorem Amk (n:Nat) (hu:∀i,i<n->∀p∈(r i).upd,p.1<(sS r S i).length) (q:Nat):(sS r S n)[q]? =V6 (Cu (λ_=>true) (fS r S q) n) S[q]? :=by
 induction n with
 |zero=>rfl
 |succ i ih=>
  have hi:=hu i (by omega)
  simp only[Cu,if_true]
  by_cases hq:q∈(Eg r S i).map (·.1)
  ·have hlt:=JJ hi hq
   have e:fS r S q i=some ((sS r S (i+1))[q]'hlt):=by simp[fS,hq]
   rw[e];simp[V6]
  ·have e:fS r S q i=none:=by simp[fS,hq]
   rw[e]
   show _=V6 (Cu (λ_=>true) (fS r S q) i) S[q]?
   rw[←ih λj hj=>hu j (by omega)]
   have hstep:=XZ (r:=r) (S:=S) i hi
   rw[←hstep,Dj _ _ _ hq]
   by_cases hlt:q<(sS r S i).length
   ·rw[List.getElem?_append_left hlt]
   ·rw[List.getElem?_append_right (by omega),List.getElem?_eq_none (show(sS r S i).length≤q by omega),List.getElem?_replicate]
    rw[if_neg]
    intro hcon
    apply hq
    have hmem:∀(l:List Ad) (n q:Nat),n≤q->q<n+l.length->q∈(BG n l).map (·.1):=by
     intro l
     induction l with
     |nil=>intro n q h1 h2;simp at h2;omega
     |cons o l ihl=>
      intro n q h1 h2
      simp only[BG,List.map_cons,List.mem_cons]
      by_cases e:q=n
      ·exact .inl e
      ·exact .inr (ihl (n+1) q (by omega) (by simp at h2;omega))
    simp only[Eg,List.map_append,List.mem_append]
    exact .inr (hmem _ _ q (by omega) (by omega))
end
theorem Oj {l:List Bool} {i:Nat} (h:l[i]? =some false):(l.set i true).countP (λb=> !b)+1=l.countP (λb=> !b):=by
 induction l generalizing i with
 |nil=>simp at h
 |cons b l ih=>
  cases i with
  |zero=>simp at h;subst h;simp
  |succ i=>
   simp at h
   have:=ih h
   simp only[List.set_cons_succ,List.countP_cons]
   omega
section
variable {P:Program} {ops:Array Oper} {cs:List RO}
theorem SE {ro:Option Nat} {id:Nat} {G0:Gh} {S0:List Ad} {w0:World} {tm:List AV} {S:List Ad} {G:Gh} {a:Act} {w:World} {u:List (Nat×Nat)} (hc:F4 P ops true=some (cs,u)) (hz:Cz G0 S0 w0 tm S G a w) {QA:List AV->List Ad->Prop}
 (h:DM P cs u [] tm S QA) (Q:Exit->Act->World->Prop) (hQ:∀tm' S' G' a' w',Cz G0 S0 w0 tm' S' G' a' w'->QA tm' S'->Q .normal a' w'):(Code.region id ops true).wpIn (Fw ro) 0 P Q a w:=by
 unfold F4 at hc
 split at hc
 ·cases hc
 rename_i cs' hcs
 simp only[if_true]at hc
 split at hc
 case isFalse=>cases hc
 rename_i hcond
 injection hc with hc
 injection hc with e1 e2
 subst e1
 simp only[Bool.and_eq_true]at hcond
 obtain⟨⟨hmix,hdir⟩,hslots⟩:=hcond
 obtain⟨hl,hat⟩:=NH hcs
 obtain⟨r,hrec,hok,hfin⟩:=PW ops.toList cs' u [] tm S QA hl (λj o c h1 h2=>(hat j o c h1 h2).1) h
 let n:=ops.toList.length
 have hn:n=ops.size:=by simp[n]
 let dst:Nat->Option Nat:=λj=>(ops.toList[j]?).bind (·.dst)
 let bef:=Ag9 ops.toList []
 have hol:∀j,j<n->∃o c,ops.toList[j]? =some o∧ops[j]? =some o∧cs'[j]? =some c:=λj hj=>by
  have h1:=List.getElem?_eq_getElem (show j<ops.toList.length from hj)
  exact⟨_,_,h1,by simp,List.getElem?_eq_getElem (show j<cs'.length by rw[←hl];exact hj)⟩
 have hup:∀i,i<n->(∀p∈(r i).upd,p.1∈(r i).rd)∧∀q∈(r i).rd,q<(sS r S i).length:=λi hi=>by
  obtain⟨o,c,h1,_,h3⟩:=hol i hi
  have hr:=hrec i o c h1 h3
  unfold Ga at hr
  split at hr
  ·exact⟨hr.2.2.1,hr.2.2.2.1⟩
  ·obtain⟨_,_,h4,h5,_⟩:=hr
   rw[h4,h5];exact⟨(λp hp=>by cases hp),(λq hq=>by cases hq)⟩
 have hupd:∀i,i<n->∀p∈(r i).upd,p.1<(sS r S i).length:=λi hi p hp=>(hup i hi).2 _ ((hup i hi).1 p hp)
 have hopen:∀i k,i<k->k<n->(bef.getD k 0).testBit i=false->(∀q∈(Eg r S i).map (·.1),q∉(r k).rd)∧(∀q∈(Eg r S k).map (·.1),q∉(r i).rd):=by
  intro i k hik hk hb
  have pure0:∀j,j<n->Ky cs' j=false->(r j).rd=[]∧(Eg r S j)=[]:=λj hj ht=>by
   obtain⟨o,c,h1,_,h3⟩:=hol j hj
   have hr:=hrec j o c h1 h3
   simp only[Ky,h3]at ht
   unfold Ga at hr
   split at hr
   ·obtain⟨e1,e2,e3⟩:=hr.2.2.2.2 ht
    exact⟨e1,by simp[Eg,e2,e3,BG]⟩
   ·obtain⟨_,_,e1,e2,e3⟩:=hr
    exact⟨e1,by simp[Eg,e2,e3,BG]⟩
  by_cases hti:Ky cs' i=true
  ·by_cases htk:Ky cs' k=true
   ·have hmem:(i,k)∈u:=by
     rw[←e2]
     simp only[List.mem_filter,XP]
     exact⟨⟨Pg hik (by omega),by simpa[bef]using hb⟩,by simp[hti,htk]⟩
    have hd:=List.all_eq_true.1 hok (i,k) hmem
    have hget:∀j,j<n->(([]:List (List Nat×List Nat))++(List.range ops.toList.length).map λj=>Ow (r j) (sS r S j).length).getD j ([],[])=((r j).rd,(Eg r S j).map (·.1)):=λj hj=>by
     have:(List.range ops.toList.length)[j]? =some j:=List.getElem?_range hj
     rw[List.nil_append,List.getD_eq_getElem?_getD,List.getElem?_map,this]
     simp[Ow,Eg]
    rw[hget i (by omega),hget k hk]at hd
    simp only[Bool.and_eq_true,Aoi,List.all_eq_true,Bool.not_eq_true',List.contains_eq_mem,decide_eq_false_iff_not]at hd
    exact hd
   ·obtain⟨e1,e3⟩:=pure0 k hk (by simpa using htk)
    rw[e1,e3]
    exact⟨(λq _ hq=>by cases hq),(λq hq=>by simp at hq)⟩
  ·obtain⟨e1,e3⟩:=pure0 i (by omega) (by simpa using hti)
   rw[e1,e3]
   exact⟨(λq hq=>by simp at hq),(λq _ hq=>by cases hq)⟩
 have hslot:∀i k,i<k->k<n->(bef.getD k 0).testBit i=false->∀o c o' c',ops.toList[i]? =some o->cs'[i]? =some c->ops.toList[k]? =some o'->cs'[k]? =some c'->
  (∀d,o.dst=some d->d∉DX o' c')∧(∀d,o'.dst=some d->d∉DX o c):=by
  intro i k hik hk hb o c o' c' h1 h2 h3 h4
  have hmem:(i,k)∈XP ops.size bef:=by
   simp only[List.mem_filter,XP]
   exact⟨Pg hik (by omega),by simpa using hb⟩
  have hd:=List.all_eq_true.1 hslots (i,k) hmem
  simp only[h1,h2,h3,h4,Ahq,Bool.and_eq_true]at hd
  refine⟨λd hd'=>?_,λd hd'=>?_⟩
  ·have:=hd.1;rw[hd']at this;simpa using this
  ·have:=hd.2;rw[hd']at this;simpa using this
 let N:=(sS r S n).length
 have inv:∀(fuel:Nat) (listed:Array Bool) (tmD:List AV) (SD:List Ad) (G:Gh) (a:Act) (w:World),listed.size=n->listed.toList.countP (λb=> !b)≤fuel->
  (∀i,i<n->listed.getD i false=true->∀e∈(ops.toList[i]?).elim [] ND,listed.getD e false=true)->
  tmD.length=tm.length->(∀t,t<tm.length->tmD[t]? =V6 (Cu (λi=>listed.getD i false) (fT dst r t) n) tm[t]?)->
  SD.length=N->(∀q,q<N->SD[q]? =some ((V6 (Cu (λi=>listed.getD i false) (fS r S q) n) S[q]?).getD .dead))->
  Cz G0 S0 w0 tmD SD G a w->wpAnyIn (Fw ro) 0 P .any ops Q fuel listed a w:=by
  have fin:∀(listed:Array Bool) (tmD:List AV) (SD:List Ad) (G:Gh) (a:Act) (w:World),(∀i,i<n->listed.getD i false=true)->tmD.length=tm.length->
   (∀t,t<tm.length->tmD[t]? =V6 (Cu (λi=>listed.getD i false) (fT dst r t) n) tm[t]?)->SD.length=N->(∀q,q<N->SD[q]? =some ((V6 (Cu (λi=>listed.getD i false) (fS r S q) n) S[q]?).getD .dead))->
   Cz G0 S0 w0 tmD SD G a w->Q .normal a w:=by
   intro listed tmD SD G a w hall htl ht hsl hs hz
   have e1:tmD=sT dst r tm n:=by
    apply List.ext_getElem?
    intro t
    by_cases hlt:t<tm.length
    ·rw[ht t hlt,Amj,if_pos hlt,D8 (D':=λ_=>true) λi hi _=>hall i hi]
    ·rw[List.getElem?_eq_none (by omega),List.getElem?_eq_none (by rw[KC];omega)]
   have e2:SD=sS r S n:=by
    apply List.ext_getElem?
    intro q
    by_cases hlt:q<N
    ·have h1:=Amk (r:=r) (S:=S) n hupd q
     have h2:=List.getElem?_eq_getElem (show q<(sS r S n).length from hlt)
     rw[hs q hlt,D8 (D':=λ_=>true) λi hi _=>hall i hi,←h1,h2];rfl
    ·rw[List.getElem?_eq_none (by omega),List.getElem?_eq_none (by show N≤q;omega)]
   subst e1 e2
   exact hQ _ _ _ _ _ hz hfin
  have allDone:∀(listed:Array Bool),listed.size=n->Region.ready .any ops listed=[]->∀i,i<n->listed.getD i false=true:=by
   intro listed hsz hr i
   induction i using Nat.strongRecOn with
   |_ i ihi=>
    intro hi
    obtain⟨o,c,h1,h2,h3⟩:=hol i hi
    cases hb:listed.getD i false with
    |true=>rfl
    |false=>
     exfalso
     have hmem:i∈Region.ready .any ops listed:=by
      simp only[Region.ready,List.mem_filter,List.mem_range]
      refine⟨by omega,?_⟩
      have hb':listed.getD i true=false:=by
       simp only[Array.getD_eq_getD_getElem?]at hb ⊢
       rw[Array.getElem?_eq_getElem (show i<listed.size by omega)]at hb ⊢
       exact hb
      rw[hb',h2]
      simp only[Bool.not_false,Bool.true_and,Option.map_some,Option.getD_some]
      rw[Array.all_eq_true]
      intro k hk
      by_cases hbind:Region.binds .any o.after[k]=true
      ·have hd:o.after[k].on∈ND o:=by
        simp only[ND,List.mem_map,List.mem_filter]
        exact⟨o.after[k],⟨by simp,hbind⟩,rfl⟩
       have hz0:=List.all_eq_true.1 hdir (o,i) (by
        rw[List.mem_zipIdx_iff_getElem?];exact h1)
       have hlt:=List.all_eq_true.1 hz0 _ hd
       have hlt':o.after[k].on<i:=by simpa using hlt
       rw[ihi _ hlt' (by omega)];simp
      ·simp[hbind]
     rw[hr]at hmem;cases hmem
  have readyOf:∀(listed:Array Bool) (j:Nat),listed.size=n->j∈Region.ready .any ops listed->j<n∧listed[j]? =some false∧∀e∈(ops.toList[j]?).elim [] ND,listed.getD e false=true:=by
   intro listed j hsz hj
   simp only[Region.ready,List.mem_filter,List.mem_range,Bool.and_eq_true]at hj
   obtain⟨hj1,hj2,hj3⟩:=hj
   obtain⟨o,c,h1,h2,h3⟩:=hol j (by omega)
   refine⟨by omega,?_,?_⟩
   ·have:=Array.getElem?_eq_getElem (show j<listed.size by omega)
    rw[this]
    simp only[Array.getD_eq_getD_getElem?,this,Option.getD_some]at hj2
    simpa using hj2
   ·rw[h2]at hj3
    simp only[Option.map_some,Option.getD_some,Array.all_eq_true]at hj3
    rw[h1]
    intro e he
    simp only[Option.elim,ND,List.mem_map,List.mem_filter]at he
    obtain⟨ed,⟨hm,hb⟩,rfl⟩:=he
    obtain⟨k,hk,rfl⟩:=List.getElem_of_mem hm
    have:=hj3 k (by simpa using hk)
    simp only[Array.getElem_toList]at hb ⊢
    rw[hb]at this
    simpa using this
  intro fuel
  induction fuel with
  |zero=>
   intro listed tmD SD G a w hsz hcnt _ htl ht hsl hs hz
   have hall:∀i,i<n->listed.getD i false=true:=by
    intro i hi
    have h0:listed.toList.countP (λb=> !b)=0:=by omega
    rw[List.countP_eq_zero]at h0
    have hg:=Array.getElem?_eq_getElem (show i<listed.size by omega)
    have:=h0 listed[i] (by simp)
    simp only[Array.getD_eq_getD_getElem?,hg,Option.getD_some]
    simpa using this
   refine⟨?_,fin listed tmD SD G a w hall htl ht hsl hs hz⟩
   cases hr:Region.ready .any ops listed with
   |nil=>rfl
   |cons j rest=>
    obtain⟨h1,h2,_⟩:=readyOf listed j hsz (by rw[hr];simp)
    have:=hall j h1
    simp[h2]at this
  |succ fuel ih=>
   intro listed tmD SD G a w hsz hcnt hcl htl ht hsl hs hz
   refine⟨λhr=>fin listed tmD SD G a w (allDone listed hsz hr) htl ht hsl hs hz,λj hj=>?_⟩
   obtain⟨hjn,hjf,hjd⟩:=readyOf listed j hsz hj
   obtain⟨o,c,h1,h2,h3⟩:=hol j hjn
   rw[h1]at hjd
   simp only[Option.elim]at hjd
   let D:Nat->Bool:=λi=>listed.getD i false
   have hDj:D j=false:=by simp[D,hjf]
   have before_:∀i,i<j->(bef.getD j 0).testBit i=true->D i=true:=by
    intro i hij hb
    have:=LE (λi=>D i=true∨i=j) ops.toList [] (λk o' ho hD e he=>by
     left
     simp only[List.length_nil,Nat.zero_add]at hD
     rcases hD with hD|rfl
     ·have hk:k<n:=(List.getElem?_eq_some_iff.1 ho).1
      have:=hcl k hk hD e;rw[ho]at this;exact this he
     ·rw[h1]at ho;injection ho with ho;subst ho;exact hjd e he) (λk hk=>by simp at hk) j (by simp;omega) (.inr rfl) i hb
    rcases this with h|h
    ·exact h
    ·omega
   have after_:∀i,j<i->i<n->(bef.getD i 0).testBit j=true->D i=false:=by
    intro i hji hi hb
    cases hD:D i with
    |false=>rfl
    |true=>
     have:=LE (λi=>D i=true) ops.toList [] (λk o' ho hD e he=>by
      simp only[List.length_nil,Nat.zero_add]at hD
      have hk:k<n:=(List.getElem?_eq_some_iff.1 ho).1
      have:=hcl k hk hD e;rw[ho]at this;exact this he) (λk hk=>by simp at hk) i (by simp;omega) hD j hb
     rw[hDj]at this;cases this
   have htmp:∀t,t∈DX o c->(∀i,i<j->fT dst r t i≠none->D i=true)∧∀i,j<i->i<n->fT dst r t i≠none->D i=false:=by
    intro t htn
    have hdst:∀i,fT dst r t i≠none->dst i=some t:=λi hi=>by
     unfold fT at hi
     by_cases e:dst i=some t
     ·exact e
     ·simp[e]at hi
    refine⟨λi hij hi=>?_,λi hji hi hne=>?_⟩
    ·have hd:=hdst i hi
     obtain⟨o',c',g1,g1',g3⟩:=hol i (by omega)
     have hd':o'.dst=some t:=by simpa[dst,g1']using hd
     cases hb:(bef.getD j 0).testBit i with
     |true=>exact before_ i hij hb
     |false=>exact((hslot i j hij hjn hb o' c' o c g1 g3 h1 h3).1 t hd' htn).elim
    ·have hd:=hdst i hne
     obtain⟨o',c',g1,g1',g3⟩:=hol i hi
     have hd':o'.dst=some t:=by simpa[dst,g1']using hd
     cases hb:(bef.getD i 0).testBit j with
     |true=>exact after_ i hji hi hb
     |false=>exact((hslot j i hji hi hb o c o' c' h1 h3 g1 g3).2 t hd' htn).elim
   have hsame:∀t,t∈DX o c->tmD[t]? =(sT dst r tm j)[t]? :=by
    intro t htn
    obtain⟨q1,q2⟩:=htmp t htn
    rw[Amj]
    by_cases hlt:t<tm.length
    ·rw[if_pos hlt,ht t hlt,KJ (j:=j) (by omega) (λi hi1 hi2 hne=>by
      by_cases e:i=j
      ·subst e;exact hDj
      ·exact q2 i (by omega) hi2 hne),D8 (D':=λ_=>true) λi hi hne=>q1 i hi hne]
    ·rw[if_neg hlt,List.getElem?_eq_none (by omega)]
   have hev:∀x∈o.op.operands,ev tmD x=ev (sT dst r tm j) x:=by
    intro x hx
    cases x with
    |tmp t=>
     have:t∈DX o c:=by
      simp only[DX,Ac8,List.mem_append,List.mem_filterMap]
      left;left
      exact⟨.tmp t,by simpa using hx,rfl⟩
     simp only[ev,List.getD_eq_getElem?_getD,hsame t this]
    |_=>rfl
   have hplace:∀q,(q∈(r j).rd∨q∈(Eg r S j).map (·.1))->(∀i,j<i->i<n->fS r S q i≠none->D i=false):=by
    intro q hq i hji hi hne
    have hqi:q∈(Eg r S i).map (·.1):=by
     unfold fS at hne
     by_cases e:q∈(Eg r S i).map (·.1)
     ·exact e
     ·simp[e]at hne
    cases hb:(bef.getD i 0).testBit j with
    |true=>exact after_ i hji hi hb
    |false=>
     exfalso
     obtain⟨g1,g2⟩:=hopen j i hji hi hb
     rcases hq with hq|hq
     ·exact g2 q hqi hq
     ·
      simp only[Eg,List.map_append,List.mem_append,List.mem_map]at hqi
      rcases hqi with⟨p,hp,rfl⟩|⟨p,hp,rfl⟩
      ·exact g1 _ hq ((hup i hi).1 p hp)
      ·have h5:=(JY hp).1
       have h6:=JJ (hupd j hjn) hq
       have h7:=JQ (r:=r) (S:=S) (j+1) i (by omega)
       omega
   have hrdlt:∀q∈(r j).rd,q<(sS r S j).length:=(hup j hjn).2
   have hNle:∀i,i≤n->(sS r S i).length≤N:=λi hi=>JQ i n hi
   have hread:∀q∈(r j).rd,SD[q]? =(sS r S j)[q]? :=by
    intro q hq
    have hlt:=hrdlt q hq
    have hltN:q<N:=Nat.lt_of_lt_of_le hlt (hNle j (by omega))
    have hpl:=hplace q (.inl hq)
    have e1:Cu D (fS r S q) n=Cu (λ_=>true) (fS r S q) j:=by
     rw[KJ (j:=j) (by omega) (λi hi1 hi2 hne=>by
      by_cases e:i=j
      ·subst e;exact hDj
      ·exact hpl i (by omega) hi2 hne)]
     refine D8 λi hi hne=>?_
     have hqi:q∈(Eg r S i).map (·.1):=by
      unfold fS at hne
      by_cases e:q∈(Eg r S i).map (·.1)
      ·exact e
      ·simp[e]at hne
     cases hb:(bef.getD j 0).testBit i with
     |true=>exact before_ i hi hb
     |false=>exact((hopen i j hi hjn hb).1 q hqi hq).elim
    have e2:=Amk (r:=r) (S:=S) j (λi hi=>hupd i (by omega)) q
    rw[hs q hltN]
    show some ((V6 (Cu D (fS r S q) n) S[q]?).getD .dead)=_
    rw[e1,←e2,List.getElem?_eq_getElem hlt];rfl
   have hfree:∀p∈BG (sS r S j).length (r j).new,SD[p.1]? =some .dead:=by
    intro p hp
    obtain⟨g1,g2,_⟩:=JY hp
    have hw:p.1∈(Eg r S j).map (·.1):=by simp only[Eg,List.map_append,List.mem_append,List.mem_map];exact .inr ⟨p,hp,rfl⟩
    have hltN:p.1<N:=Nat.lt_of_lt_of_le (JJ (hupd j hjn) hw) (hNle (j+1) (by omega))
    have hpl:=hplace p.1 (.inr hw)
    have e1:Cu D (fS r S p.1) n=none:=M_ λi hi hD=>by
     cases hne:fS r S p.1 i with
     |none=>rfl
     |some x=>
      exfalso
      have hqi:p.1∈(Eg r S i).map (·.1):=by
       unfold fS at hne
       by_cases e:p.1∈(Eg r S i).map (·.1)
       ·exact e
       ·simp[e]at hne
      rcases Nat.lt_trichotomy i j with h|h|h
      ·have h6:=JJ (hupd i hi) hqi
       have h7:=JQ (r:=r) (S:=S) (i+1) j (by omega)
       omega
      ·subst h;rw[hDj]at hD;cases hD
      ·have:=hpl i h hi (by rw[hne];simp)
       rw[this]at hD;cases hD
    rw[hs p.1 hltN]
    show some ((V6 (Cu D (fS r S p.1) n) S[p.1]?).getD .dead)=_
    have h0:=JQ (r:=r) (S:=S) 0 j (by omega)
    simp only[sS]at h0
    rw[e1,List.getElem?_eq_none (by omega)];rfl
   have next:∀(G':Gh) (a':Act) (w':World),Cz G0 S0 w0 (D1 tmD o.dst (r j).v) (CA SD (Eg r S j)) G' a' w'->wpAnyIn (Fw ro) 0 P .any ops Q fuel (listed.setIfInBounds j true) a' w':=by
    intro G' a' w' hz'
    have hDn:∀i,(listed.setIfInBounds j true).getD i false=if i=j then true else D i:=by
     intro i
     by_cases e:i=j
     ·subst e;simp[show i<listed.size by omega]
     ·simp only[e,if_false,D,Array.getD_eq_getD_getElem?,Array.getElem?_setIfInBounds_ne (Ne.symm e)]
    refine ih _ _ _ G' a' w' (by simp[hsz]) ?_ (λi hi hD e he=>?_) ?_ (λt htl'=>?_) (by simp[hsl]) (λq hq=>?_) hz'
    ·have:=Oj (l:=listed.toList) (i:=j) (by simpa using hjf)
     simp only[Array.toList_setIfInBounds];omega
    ·rw[hDn]at hD ⊢
     split
     ·rfl
     ·by_cases e':i=j
      ·subst e';rw[h1]at he;exact hjd e he
      ·rw[if_neg e']at hD;exact hcl i hi hD e he
    ·cases ho:o.dst<;>simp[D1,htl]
    ·have hcongr:∀f:Nat->Option AV,f j=none->Cu (λi=>(listed.setIfInBounds j true).getD i false) f n=Cu D f n:=λf hf=>D8 λi hi hne=>by
      rw[hDn];split
      ·rename_i e;subst e;exact(hne hf).elim
      ·rfl
     have hdj:dst j=o.dst:=by simp[dst,h2]
     by_cases hd:o.dst=some t
     ·have hf:fT dst r t j=some (r j).v:=by simp[fT,hdj,hd]
      have htn:t∈DX o c:=by simp[DX,hd]
      rw[Pr (j:=j) (v:=(r j).v) hjn (by simp[hDn]) hf (λi h5 h6 h7=>by rw[hDn,if_neg (by omega)];exact(htmp t htn).2 i h5 h6 h7)]
      simp[D1,hd,V6,htl,htl']
     ·have hf:fT dst r t j=none:=by simp[fT,hdj,hd]
      rw[hcongr _ hf]
      show _=V6 (Cu (λi=>listed.getD i false) (fT dst r t) n) tm[t]?
      rw[←ht t htl']
      cases ho:o.dst with
      |none=>rfl
      |some d=>simp only[D1];rw[List.getElem?_set_ne];rintro rfl;exact hd ho
    ·by_cases hqw:q∈(Eg r S j).map (·.1)
     ·have hlt:=JJ (hupd j hjn) hqw
      have hf:fS r S q j=some ((sS r S (j+1))[q]'hlt):=by simp[fS,hqw]
      rw[Pr (j:=j) hjn (by simp[hDn]) hf (λi h5 h6 h7=>by rw[hDn,if_neg (by omega)];exact hplace q (.inr hqw) i h5 h6 h7)]
      have hst:=XZ (r:=r) (S:=S) j (hupd j hjn)
      have e3:=YV SD (sS r S j++List.replicate (r j).new.length .dead) (Eg r S j) hqw (by omega) (by simp only[List.length_append,List.length_replicate];simp only[sS,List.length_append,HK]at hlt;exact hlt)
      rw[e3,hst,List.getElem?_eq_getElem hlt];rfl
     ·have hf:fS r S q j=none:=by simp[fS,hqw]
      rw[Dj _ _ _ hqw,hs q hq]
      congr 3
      refine D8 λi hi hne=>?_
      rw[hDn];split
      ·rename_i e;subst e;exact(hne hf).elim
      ·rfl
   obtain⟨hco,hg⟩:=hat j o c h1 h3
   have hr:=hrec j o c h1 h3
   have hwant:=OY (ops:=ops) hz hg (λt wn e=>by
    have:t∈DX o c:=by simp[DX,e]
    simp only[List.getD_eq_getElem?_getD,hsame t this];rfl) hr
   unfold wpOpIn
   rw[h2]
   simp only[hwant]
   unfold Ga at hr
   cases hran:(r j).ran with
   |true=>
    rw[hran,if_pos rfl]at hr
    obtain⟨_,he,hu,hrd,_⟩:=hr
    simp only[if_true]
    refine FW (Kj hco.1) ?_
    refine he SD hread hfree G a w hz.left.wd (λx hx=>by rw[←hev x hx];exact hz.ev x) _ _ λv' w' G' hv hl=>next G' _ w' ?_
    exact hz.put hl hv o.dst
   |false=>
    rw[hran,if_neg (by simp)]at hr
    obtain⟨_,hv,hrd,hu,hnw⟩:=hr
    simp only[Bool.false_eq_true,if_false]
    refine⟨λ_ _=>trivial,next G _ w ?_⟩
    have:=hz.put (Bf.refl hz.left.wd) (x:=.lit undef) (v:=undef) (.lit _) o.dst
    rw[←hv]at this
    have e0:Eg r S j=[]:=by simp[Eg,hu,hnw,BG]
    rw[e0,Mh];exact this
 have hSN:S.length≤N:=JQ (r:=r) (S:=S) 0 n (by omega)
 have hLD:∀{α:Type} (f:Nat->Option α),Cu (λi=>(Array.replicate ops.size false).getD i false) f n=none:=by
  intro α f
  refine M_ λi hi hD=>?_
  have hlt:i<ops.size:=by omega
  simp[hlt]at hD
 have hD0:=Bf.dead hz.left.wd (N-S.length)
 have hzD:Cz G0 S0 w0 tm (S++List.replicate (N-S.length) .dead) G a {w with drawn:=w.drawn+1}:=by
  have hl:=hz.left.trans hD0
  refine⟨⟨hl.le,hl.wd.drawn rfl,⟨hl.kept.os,hl.kept.tape,hl.kept.output,hl.kept.size,hl.kept.block⟩,hl.own,hl.still⟩,hz.size,hz.rep,hz.defers,hz.wd0⟩
 refine wpIn_region_any hmix (inv ops.size (Array.replicate ops.size false) tm (S++List.replicate (N-S.length) .dead) G a _ (by simp[hn]) (Nat.le_trans List.countP_le_length (by simp)) (λi hi h=>by
  have:i<ops.size:=by omega
  simp[this]at h) rfl (λt ht=>?_) ?_ (λq hq=>?_) hzD)
 ·rw[hLD];rfl
 ·simp;omega
 ·rw[hLD]
  simp only[V6]
  by_cases hlt:q<S.length
  ·rw[List.getElem?_append_left hlt,List.getElem?_eq_getElem hlt];rfl
  ·rw[List.getElem?_append_right (by omega),List.getElem?_replicate,if_pos (by omega),List.getElem?_eq_none (show S.length≤q by omega)];rfl
end
inductive C where
 |skip
 |reg (ops:List RO) (u:List (Nat×Nat))
 |seq (a b:C)
 |cond (c:Operand) (a b:C)
 |block (id:Nat) (c:C)
 |loop (c:C)
 |exit (id:Nat)
 |scope (c:C)
 |label (l:Nat)
 |goto (l:Nat)
 |ret
 |rng (g:Operand) (ps:List Nat) (a b:C)
def AU (P:Program):Code->Option C
 | .skip=>some .skip
 | .region _ ops draw=>(F4 P ops draw).map λp=>.reg p.1 p.2
 | .seq a b=>match AU P a,AU P b with
   |some x,some y=>some (.seq x y)
   |_,_=>none
 | .cond c a b=>match AU P a,AU P b with
   |some x,some y=>some (.cond c x y)
   |_,_=>none
 | .block id c=>(AU P c).map (.block id)
 | .loop c=>(AU P c).map .loop
 | .exit id=>some (.exit id)
 | .scope c=>(AU P c).map .scope
 | .label l=>some (.label l)
 | .goto l=>some (.goto l)
 | .ret=>some .ret
 | .rangeFunc g ps a b=>match AU P a,AU P b with
   |some x,some y=>some (.rng g ps.toList x y)
   |_,_=>none
 |_=>none
abbrev QT:=Exit->List AV->List Ad->Prop
def Wk (m:Nat) (tm:List AV) (S:List Ad) (tm':List AV) (S':List Ad):Prop:=
 ∀G0 S0 w0 G a w,S0.length=m->Cz G0 S0 w0 tm S G a w->∃G',Cz G0 S0 w0 tm' S' G' a w
theorem Wk.refl (m:Nat) (tm:List AV) (S:List Ad):Wk m tm S tm S:=λ_ _ _ G _ _ _ h=>⟨G,h⟩
theorem Wk.trans {m:Nat} {tm tm' tm'':List AV} {S S' S'':List Ad} (h:Wk m tm S tm' S') (k:Wk m tm' S' tm'' S''):Wk m tm S tm'' S'':=λG0 S0 w0 G a w e hz=>by
 obtain⟨G',h'⟩:=h G0 S0 w0 G a w e hz
 exact k G0 S0 w0 G' a w e h'
def AC (P:Program) (m:Nat) (code:Code) (tm:List AV) (S:List Ad) (Q:QT):Prop:=
 ∀G0 S0 w0 G a w,S0.length=m->Cz G0 S0 w0 tm S G a w->code.wp P (λe a' w'=>∃tm' S' G',Cz G0 S0 w0 tm' S' G' a' w'∧Q e tm' S') a w
def MP (k:List AV->List Ad->Prop) (Q:QT):QT
 | .normal,tm,S=>k tm S
 |e,tm,S=>Q e tm S
def G8 (id:Nat) (Q:QT):QT
 | .exit id',tm,S=>if id'=id then Q .normal tm S else Q (.exit id') tm S
 |e,tm,S=>Q e tm S
def aw (P:Program) (m:Nat):C->List AV->List Ad->QT->Prop
 | .skip,tm,S,Q=>Q .normal tm S
 | .reg ops u,tm,S,Q=>DM P ops u [] tm S (Q .normal)
 | .seq a b,tm,S,Q=>aw P m a tm S (MP (λtm S=>aw P m b tm S Q) Q)
 | .cond c a b,tm,S,Q=>match ev tm c with
   | .lit (.bool t)=>(t=true->aw P m a tm S Q)∧(t=false->aw P m b tm S Q)
   |_=>False
 | .block id c,tm,S,Q=>aw P m c tm S (G8 id Q)
 | .loop c,tm,S,Q=>∃I:Nat->List AV->List Ad->Prop,(∃n tm' S',Wk m tm S tm' S'∧I n tm' S')∧∀n tm S,I n tm S->aw P m c tm S (MP (λtm' S'=>∃n' tm'' S'',Wk m tm' S' tm'' S''∧I n' tm'' S''∧n'<n) Q)
 | .exit id,tm,S,Q=>Q (.exit id) tm S
 | .scope c,tm,S,Q=>∀code,AU P code=some c->AC P m (.scope code) tm S Q
 | .label _,tm,S,Q=>∃tm' S',Wk m tm S tm' S'∧Q .normal tm' S'
 | .goto l,tm,S,Q=>Q (.goto l) tm S
 | .ret,tm,S,Q=>Q .ret tm S
 | .rng g ps ca cb,tm,S,Q=>∀a b,AU P a=some ca->AU P b=some cb->AC P m (.rangeFunc g ps.toArray a b) tm S Q
theorem Ii {P:Program} {m:Nat}:∀(code:Code) (c:C),AU P code=some c->∀(tm:List AV) (S:List Ad) (Q:QT),aw P m c tm S Q->AC P m code tm S Q:=by
 intro code
 induction code with
 |skip=>
  intro c hc tm S Q h G0 S0 w0 G a w hm hz
  simp only[AU]at hc;injection hc with hc;subst hc
  exact wp_skip ⟨_,_,G,hz,h⟩
 |region id ops draw=>
  intro c hc tm S Q h G0 S0 w0 G a w hm hz
  simp only[AU]at hc
  cases hr:F4 P ops draw with
  |none=>simp[hr]at hc
  |some p=>
   obtain⟨cs,u⟩:=p
   simp[hr]at hc;subst hc
   cases draw with
   |true=>exact wpIn_wide.1 (SE (ro:=none) hr hz h _ λtm' S' G' a' w' hz' hq=>⟨_,_,G',hz',hq⟩)
   |false=>
    simp only[F4]at hr
    cases hcs:F5 P ops with
    |none=>simp[hcs]at hr
    |some cs'=>
     simp[hcs]at hr
     obtain⟨rfl,rfl⟩:=hr
     exact wpIn_wide.1 (SC (ro:=none) hcs hz h _ λtm' S' G' a' w' hz' hq=>⟨_,_,G',hz',hq⟩)
 |seq a b iha ihb=>
  intro c hc tm S Q h G0 S0 w0 G act w hm hz
  simp only[AU]at hc
  split at hc
  ·rename_i x y hx hy
   injection hc with hc;subst hc
   refine wp_seq (wp_mono (iha x hx tm S _ h G0 S0 w0 G act w hm hz) λe a' w' hq=>?_)
   obtain⟨tm',S',G',hz',hq⟩:=hq
   cases e with
   |normal=>exact ihb y hy tm' S' Q hq G0 S0 w0 G' a' w' hm hz'
   |_=>exact⟨tm',S',G',hz',hq⟩
  ·cases hc
 |cond x a b iha ihb=>
  intro c hc tm S Q h G0 S0 w0 G act w hm hz
  simp only[AU]at hc
  split at hc
  ·rename_i x' y hx hy
   injection hc with hc;subst hc
   simp only[aw]at h
   split at h
   ·rename_i t ht
    have r:=hz.ev x
    rw[ht]at r
    refine wp_cond (MJ r) ?_
    cases t with
    |true=>exact iha x' hx tm S Q (h.1 rfl) G0 S0 w0 G act w hm hz
    |false=>exact ihb y hy tm S Q (h.2 rfl) G0 S0 w0 G act w hm hz
   ·exact h.elim
  ·cases hc
 |block id b ih=>
  intro c hc tm S Q h G0 S0 w0 G a w hm hz
  simp only[AU]at hc
  cases hb:AU P b with
  |none=>simp[hb]at hc
  |some x=>
   simp[hb]at hc;subst hc
   refine wp_block (wp_mono (ih x hb tm S _ h G0 S0 w0 G a w hm hz) λe a' w' hq=>?_)
   obtain⟨tm',S',G',hz',hq⟩:=hq
   cases e with
   |exit id'=>
    simp only[G8]at hq
    simp only[Exit.inBlock]
    split
    ·rename_i e;rw[if_pos e]at hq;exact⟨tm',S',G',hz',hq⟩
    ·rename_i e;rw[if_neg e]at hq;exact⟨tm',S',G',hz',hq⟩
   |_=>exact⟨tm',S',G',hz',hq⟩
 |loop b ih=>
  intro c hc tm S Q h G0 S0 w0 G a w hm hz
  simp only[AU]at hc
  cases hb:AU P b with
  |none=>simp[hb]at hc
  |some x=>
   simp[hb]at hc;subst hc
   obtain⟨I,⟨n0,tm0,S1,hw0,h0⟩,hround⟩:=h
   obtain⟨G1,hz1⟩:=hw0 G0 S0 w0 G a w hm hz
   have key:∀(n:Nat) (tm:List AV) (S:List Ad) (G:Gh) (a:Act) (w:World),I n tm S->Cz G0 S0 w0 tm S G a w->
    ∀(b':Frame) (k:List Item) (cs:List Frame),∃e a' w',(∃tm' S' G',Cz G0 S0 w0 tm' S' G' a' w'∧Q e tm' S')∧Arrives P (lone (b'.at a (.code b::.inLoop b::k)) cs w) b' k cs e a' w':=by
    intro n
    induction n using Nat.strongRecOn with
    |_ n ihn=>
     intro tm S G a w hI hz b' k cs
     obtain⟨e,a₁,w₁,⟨tm',S',G',hz',hq⟩,harr⟩:=ih x hb tm S _ (hround n tm S hI) G0 S0 w0 G a w hm hz b' (.inLoop b::k) cs
     cases e with
     |normal=>
      obtain⟨n',tm'',S'',hwk,hI',hlt⟩:=hq
      obtain⟨G'',hz''⟩:=hwk G0 S0 w0 G' a₁ w₁ hm hz'
      obtain⟨e₂,a₂,w₂,hq₂,harr₂⟩:=ihn n' hlt tm'' S'' G'' a₁ w₁ hI' hz'' b' k cs
      exact⟨e₂,a₂,w₂,hq₂,.of_steps (Steps.trans harr (.one step_inLoop)) harr₂⟩
     |exit id=>exact⟨_,a₁,w₁,⟨tm',S',G',hz',hq⟩,.pass (x:=.inLoop b) rfl (λ_ _=>.inl (by simp)) harr⟩
     |goto l=>exact⟨_,a₁,w₁,⟨tm',S',G',hz',hq⟩,.pass (x:=.inLoop b) rfl (λ_ _=>.inl (by simp)) harr⟩
     |ret=>exact⟨_,a₁,w₁,⟨tm',S',G',hz',hq⟩,.pass (x:=.inLoop b) rfl (λ_ _=>.inl (by simp)) harr⟩
     |panic ch=>exact⟨_,a₁,w₁,⟨tm',S',G',hz',hq⟩,.pass (x:=.inLoop b) rfl (λ_ _=>.inl (by simp)) harr⟩
     |outgrown=>exact⟨_,a₁,w₁,⟨tm',S',G',hz',hq⟩,.pass (x:=.inLoop b) rfl (λ_ _=>.inl (by simp)) harr⟩
   intro b' k cs
   obtain⟨e,a',w',hq,harr⟩:=key n0 tm0 S1 G1 a w h0 hz1 b' k cs
   exact⟨e,a',w',hq,.of_steps (.one step_loop) harr⟩
 |exit id=>
  intro c hc tm S Q h G0 S0 w0 G a w hm hz
  simp only[AU]at hc;injection hc with hc;subst hc
  exact wp_exit ⟨_,_,G,hz,h⟩
 |scope b ih=>
  intro c hc tm S Q h
  simp only[AU]at hc
  cases hb:AU P b with
  |none=>simp[hb]at hc
  |some x=>simp[hb]at hc;subst hc;exact h b hb
 |label l=>
  intro c hc tm S Q h G0 S0 w0 G a w hm hz
  simp only[AU]at hc;injection hc with hc;subst hc
  obtain⟨tm',S',hwk,hq⟩:=h
  obtain⟨G',hz'⟩:=hwk G0 S0 w0 G a w hm hz
  exact wp_label ⟨_,_,G',hz',hq⟩
 |goto l=>
  intro c hc tm S Q h G0 S0 w0 G a w hm hz
  simp only[AU]at hc;injection hc with hc;subst hc
  exact wp_goto ⟨_,_,G,hz,h⟩
 |ret=>
  intro c hc tm S Q h G0 S0 w0 G a w hm hz
  simp only[AU]at hc;injection hc with hc;subst hc
  exact wp_ret ⟨_,_,G,hz,h⟩
 |rangeFunc f ps x y _ _=>
  intro c hc tm S Q h
  simp only[AU]at hc
  split at hc
  ·rename_i x' y' hx hy
   injection hc with hc;subst hc
   have:=h x y hx hy
   simpa using this
  ·cases hc
 |refuse s=>intro c hc;simp[AU]at hc
def GL:C->Nat->Option C
 | .seq a b,l=>match GL a l with
   |some r=>some (.seq r b)
   |none=>GL b l
 | .label l',l=>if l'==l then some .skip else none
 |_,_=>none
theorem WY {P:Program}:∀(code:Code) (c:C) (l:Nat),AU P code=some c->(∀r,GL c l=some r->∃rest,findLabel code l=some rest∧AU P rest=some r)∧(GL c l=none->findLabel code l=none):=by
 intro code
 induction code with
 |seq a b iha ihb=>
  intro c l hc
  simp only[AU]at hc
  split at hc
  ·rename_i x y hx hy
   injection hc with hc;subst hc
   obtain⟨a1,a2⟩:=iha x l hx
   obtain⟨b1,b2⟩:=ihb y l hy
   simp only[GL,findLabel]
   cases hfa:GL x l with
   |some r=>
    obtain⟨rest,h1,h2⟩:=a1 r hfa
    refine⟨λr' h=>?_,λh=>by cases h⟩
    injection h with h;subst h
    exact⟨.seq rest b,by rw[h1],by simp[AU,h2,hy]⟩
   |none=>
    rw[a2 hfa]
    exact⟨λr' h=>b1 r' h,λh=>b2 h⟩
  ·cases hc
 |label l'=>
  intro c l hc
  simp only[AU]at hc;injection hc with hc;subst hc
  simp only[GL,findLabel]
  split
  ·exact⟨λr h=>⟨.skip,rfl,by injection h with h;subst h;rfl⟩,λh=>by cases h⟩
  ·exact⟨λr h=>(by cases h),λ_=>rfl⟩
 |skip=>intro c l hc;simp only[AU]at hc;injection hc with hc;subst hc;exact⟨λr h=>(by cases h),λ_=>rfl⟩
 |region id ops d=>
  intro c l hc
  simp only[AU]at hc
  cases hr:F4 P ops d with
  |none=>simp[hr]at hc
  |some p=>simp[hr]at hc;subst hc;exact⟨λr h=>(by cases h),λ_=>rfl⟩
 |cond x a b _ _=>
  intro c l hc
  simp only[AU]at hc
  split at hc
  ·injection hc with hc;subst hc;exact⟨λr h=>(by cases h),λ_=>rfl⟩
  ·cases hc
 |block id b _=>
  intro c l hc
  simp only[AU]at hc
  cases hb:AU P b with
  |none=>simp[hb]at hc
  |some p=>simp[hb]at hc;subst hc;exact⟨λr h=>(by cases h),λ_=>rfl⟩
 |loop b _=>
  intro c l hc
  simp only[AU]at hc
  cases hb:AU P b with
  |none=>simp[hb]at hc
  |some p=>simp[hb]at hc;subst hc;exact⟨λr h=>(by cases h),λ_=>rfl⟩
 |scope b _=>
  intro c l hc
  simp only[AU]at hc
  cases hb:AU P b with
  |none=>simp[hb]at hc
  |some p=>simp[hb]at hc;subst hc;exact⟨λr h=>(by cases h),λ_=>rfl⟩
 |exit id=>intro c l hc;simp only[AU]at hc;injection hc with hc;subst hc;exact⟨λr h=>(by cases h),λ_=>rfl⟩
 |goto id=>intro c l hc;simp only[AU]at hc;injection hc with hc;subst hc;exact⟨λr h=>(by cases h),λ_=>rfl⟩
 |ret=>intro c l hc;simp only[AU]at hc;injection hc with hc;subst hc;exact⟨λr h=>(by cases h),λ_=>rfl⟩
 |rangeFunc f ps x y _ _=>
  intro c l hc
  simp only[AU]at hc
  split at hc
  ·injection hc with hc;subst hc
   simp[GL,findLabel]
  ·cases hc
 |refuse s=>intro c l hc;simp[AU]at hc
def Amn (m:Nat) (J:Nat->List AV->List Ad->Prop) (Q:QT):QT
 | .goto l,tm,S=>∃tm' S',Wk m tm S tm' S'∧J l tm' S'
 |e,tm,S=>Q e tm S
theorem I8 {P:Program} {m:Nat} {c:C} {tm:List AV} {S:List Ad} {Q:QT} (J:Nat->Nat->List AV->List Ad->Prop) (first:aw P m c tm S (Amn m (λl tm S=>∃n,J n l tm S) Q))
 (pass:∀n l tm S,J n l tm S->∃r,GL c l=some r∧aw P m r tm S (Amn m (λl' tm' S'=>∃n',J n' l' tm' S'∧n'<n) Q)):aw P m (.scope c) tm S Q:=by
 intro code hc G0 S0 w0 G a w hm hz
 have key:∀(n:Nat) (l:Nat) (tm:List AV) (S:List Ad) (G:Gh) (a:Act) (w:World),J n l tm S->Cz G0 S0 w0 tm S G a w->∃rest,findLabel code l=some rest∧
  ∀(b:Frame) (k:List Item) (cs:List Frame),∃e a' w',(∃tm' S' G',Cz G0 S0 w0 tm' S' G' a' w'∧Q e tm' S')∧Arrives P (lone (b.at a (.code rest::.inScope code::k)) cs w) b k cs e a' w':=by
  intro n
  induction n using Nat.strongRecOn with
  |_ n ih=>
   intro l tm S G a w hJ hz
   obtain⟨r,hr,hpass⟩:=pass n l tm S hJ
   obtain⟨rest,hrest,hcr⟩:=(WY code c l hc).1 r hr
   refine⟨rest,hrest,λb k cs=>?_⟩
   obtain⟨e,a₁,w₁,⟨tm',S',G',hz',hq⟩,harr⟩:=Ii rest r hcr tm S _ hpass G0 S0 w0 G a w hm hz b (.inScope code::k) cs
   cases e with
   |normal=>exact⟨.normal,a₁,w₁,⟨tm',S',G',hz',hq⟩,Steps.trans harr (.one step_inScope)⟩
   |exit id=>exact⟨.exit id,a₁,w₁,⟨tm',S',G',hz',hq⟩,λk' hk=>harr k' (by simp[exitTo,hk])⟩
   |goto l'=>
    obtain⟨tm'',S'',hwk,n',hJ',hlt⟩:=hq
    obtain⟨G'',hz''⟩:=hwk G0 S0 w0 G' a₁ w₁ hm hz'
    obtain⟨rest',hrest',hgo⟩:=ih n' hlt l' tm'' S'' G'' a₁ w₁ hJ' hz''
    obtain⟨e₂,a₂,w₂,hq₂,harr₂⟩:=hgo b k cs
    exact⟨e₂,a₂,w₂,hq₂,.of_steps (harr _ (by simp[gotoIn,hrest'])) harr₂⟩
   |ret=>exact⟨_,a₁,w₁,⟨tm',S',G',hz',hq⟩,harr⟩
   |panic ch=>exact⟨_,a₁,w₁,⟨tm',S',G',hz',hq⟩,harr⟩
   |outgrown=>exact⟨_,a₁,w₁,⟨tm',S',G',hz',hq⟩,harr⟩
 intro b k cs
 obtain⟨e,a₁,w₁,⟨tm',S',G',hz',hq⟩,harr⟩:=Ii code c hc tm S _ first G0 S0 w0 G a w hm hz b (.inScope code::k) cs
 cases e with
 |normal=>exact⟨.normal,a₁,w₁,⟨tm',S',G',hz',hq⟩,.head step_scope (Steps.trans harr (.one step_inScope))⟩
 |exit id=>exact⟨.exit id,a₁,w₁,⟨tm',S',G',hz',hq⟩,λk' hk=>.head step_scope (harr k' (by simp[exitTo,hk]))⟩
 |goto l'=>
  obtain⟨tm'',S'',hwk,n',hJ'⟩:=hq
  obtain⟨G'',hz''⟩:=hwk G0 S0 w0 G' a₁ w₁ hm hz'
  obtain⟨rest',hrest',hgo⟩:=key n' l' tm'' S'' G'' a₁ w₁ hJ' hz''
  obtain⟨e₂,a₂,w₂,hq₂,harr₂⟩:=hgo b k cs
  exact⟨e₂,a₂,w₂,hq₂,.of_steps (.head step_scope (harr _ (by simp[gotoIn,hrest']))) harr₂⟩
 |ret=>exact⟨_,a₁,w₁,⟨tm',S',G',hz',hq⟩,.of_steps (.one step_scope) harr⟩
 |panic ch=>exact⟨_,a₁,w₁,⟨tm',S',G',hz',hq⟩,.of_steps (.one step_scope) harr⟩
 |outgrown=>exact⟨_,a₁,w₁,⟨tm',S',G',hz',hq⟩,.of_steps (.one step_scope) harr⟩
inductive RV where
 |tmp (t:Nat)
 |cell (t:Nat) (n:Option Nat)
def IV (P:Program) (fn:Func):Option (List RV):=
 LP (λr:ResultVar=>match r with
  | .tmp t=>some (.tmp t)
  | .cell a t=>(DV P t).map λn=>.cell a n) fn.results.toList
def Ai (n:Option Nat) (x:AV) (S:List Ad):Option AV:=
 match x with
 | .iptr cs=>match n with
   |none=>cs.head?
   |some n=>if n≤cs.length then some (.agg (cs.take n))else none
 | .ref i o=>match S[i]? with
   |some (.cells xs)=>match n with
    |none=>xs[o]?
    |some n=>if o+n≤xs.length then some (.agg ((xs.drop o).take n))else none
   |_=>none
 |_=>none
def Ah (tm:List AV) (S:List Ad):RV->Option AV
 | .tmp t=>some (tm.getD t .any)
 | .cell t n=>Ai n (tm.getD t .any) S
def Ae (tm:List AV) (S:List Ad):List RV->Option (List AV)
 |[]=>some []
 |r::rs=>match Ah tm S r,Ae tm S rs with
  |some x,some xs=>some (x::xs)
  |_,_=>none
def Ag (xs:List AV):AV:=match xs with
 |[x]=>x
 |xs=>.tup xs
def AF (P:Program) (m:Nat) (fn:Func) (tm:List AV) (S:List Ad) (r:AV) (S':List Ad):Prop:=
 ∀G0 S0 w0 G a w,S0.length=m->Cz G0 S0 w0 tm S G a w->∃v G',(results fn a.tmps).run P w=.ok v w∧BE G' r v∧Bf G0 S0 w0 G' S' w
theorem AF.wk {P:Program} {m:Nat} {fn:Func} {tm tm':List AV} {S S' S'':List Ad} {r:AV} (h:Wk m tm S tm' S') (k:AF P m fn tm' S' r S''):AF P m fn tm S r S'':=λG0 S0 w0 G a w e hz=>by
 obtain⟨G',h'⟩:=h G0 S0 w0 G a w e hz
 exact k G0 S0 w0 G' a w e h'
theorem Zv {P:Program} {t:TypeId} {n:Option Nat} (hn:DV P t=some n) {G:Gh} {S:List Ad} {w:World} (hw:Wd G S w) {x y:AV} {v:Value} (h:Ai n x S=some y) (r:BE G x v):
 ∃ad u,v=.pointer (some ad)∧(loadVar t ad).run P w=.ok u w∧BE G y u:=by
 unfold Ai at h
 split at h
 ·rename_i cs
  cases r with
  | @iptr _ b off vs h1 h2 h3=>
    refine⟨⟨b,off,none⟩,?_⟩
    cases n with
    |none=>
     cases cs with
     |nil=>simp at h
     |cons c cs=>
      simp at h;subst h
      have h0:=hw.imm _ _ _ (h1 0 (by simp))
      exact⟨_,rfl,C4 hn (by simpa using h0),h3 0 _ (by simp)⟩
    |some n=>
     simp only at h
     split at h
     ·rename_i hle
      injection h with h;subst h
      refine⟨_,rfl,C5 hn vs λj hj=>by rw[BS];exact hw.imm _ _ _ (h1 j (by omega)),DQ vs (by simp;omega) (λj hj=>h2 j (by omega)) λj y hy=>h3 j y ?_⟩
      rw[List.getElem?_take]at hy;split at hy<;>simp_all
     ·cases h
 ·rename_i i off
  cases r with
  | @ref _ _ b hb=>
    refine⟨⟨b,off,none⟩,?_⟩
    split at h
    ·rename_i xs hS
     obtain⟨b',cs,t',g1,g2,g3,g4,_⟩:=hw.obj i xs hS
     rw[hb]at g1;injection g1 with g1;subst g1
     cases n with
     |none=>
      have hlt:off<cs.size:=by rw[g3];exact(List.getElem?_eq_some_iff.1 h).1
      have hc:cs[off]? =some cs[off]:=Array.getElem?_eq_getElem hlt
      exact⟨_,rfl,C4 hn ((Ex g2 off).trans hc),(g4 off y _ h hc).2⟩
     |some n=>
      simp only at h
      split at h
      ·rename_i hle
       injection h with h;subst h
       have hc:∀j,j<n->cs[off+j]? =some (cs.getD (off+j) undef):=λj hj=>by
        rw[Array.getElem?_eq_getElem (show off+j<cs.size by omega)];simp[show off+j<cs.size by omega]
       refine⟨_,rfl,C5 hn (λj=>cs.getD (off+j) undef) λj hj=>by rw[BS];exact(Ex g2 _).trans (hc j hj),DQ _ (by simp;omega) (λj hj=>?_) λj y hy=>?_⟩
       ·exact(g4 (off+j) _ _ (List.getElem?_eq_getElem (show off+j<xs.length by omega)) (hc j hj)).1
       ·have hjn:j<n:=by
         rcases Nat.lt_or_ge j n with h|h
         ·exact h
         ·rw[List.getElem?_take,if_neg (by omega)]at hy;cases hy
        refine(g4 (off+j) y _ ?_ (hc j hjn)).2
        rw[List.getElem?_take,if_pos hjn,List.getElem?_drop]at hy;exact hy
      ·cases h
    ·cases h
 ·cases h
theorem Sx {P:Program} {fn:Func} {rv:List RV} (hr:IV P fn=some rv) {tm:List AV} {S:List Ad} {xs:List AV} (h:Ae tm S rv=some xs) {G0:Gh} {S0:List Ad} {w0:World} {G:Gh} {a:Act} {w:World} (hz:Cz G0 S0 w0 tm S G a w):
 ∃v,(results fn a.tmps).run P w=.ok v w∧BE G (Ag xs) v:=by
 obtain⟨F,hF⟩:∃F:ResultVar->Sem Value,F=(λr=>match r with
  | .tmp t=>pure (a.tmps.getD t undef)
  | .cell q t=>do loadVar t (←asAddr (a.tmps.getD q undef))):=⟨_,rfl⟩
 have hFt:∀t,F (.tmp t)=pure (a.tmps.getD t undef):=λt=>by rw[hF]
 have hFc:∀q t,F (.cell q t)=(do loadVar t (←asAddr (a.tmps.getD q undef)):Sem Value):=λq t=>by rw[hF]
 have key:∀(rs:List ResultVar) (rv:List RV) (xs:List AV),LP (λr:ResultVar=>match r with
  | .tmp t=>some (.tmp t)
  | .cell a t=>(DV P t).map λn=>.cell a n) rs=some rv->Ae tm S rv=some xs->∃vs:List Value,(rs.mapM F).run P w=.ok vs w∧Cn G xs vs:=by
  intro rs
  induction rs with
  |nil=>intro rv xs h1 h2;simp[LP]at h1;subst h1;simp[Ae]at h2;subst h2;exact⟨[],by simp,Cn.nil _⟩
  |cons r rs ih=>
   intro rv xs h1 h2
   simp only[LP]at h1
   split at h1
   ·rename_i y ys hy hys
    injection h1 with h1;subst h1
    simp only[Ae]at h2
    split at h2
    ·rename_i x xs' hx hxs
     injection h2 with h2;subst h2
     obtain⟨vs,hv,hrep⟩:=ih ys xs' hys hxs
     cases r with
     |tmp t=>
      injection hy with hy;subst hy
      simp only[Ah]at hx
      injection hx with hx;subst hx
      have:=hz.ev (.tmp t)
      simp only[ev,Act.eval]at this
      exact⟨_,by rw[List.mapM_cons];simp only[Sem.run_bind,hFt,Sem.run_pure,Result.andThen_ok,hv],Cn.cons this hrep⟩
     |cell q t=>
      simp only at hy
      cases hn:DV P t with
      |none=>simp[hn]at hy
      |some n=>
       simp[hn]at hy;subst hy
       simp only[Ah]at hx
       have:=hz.ev (.tmp q)
       simp only[ev,Act.eval]at this
       obtain⟨ad,u,e1,e2,e3⟩:=Zv (P:=P) hn hz.left.wd hx this
       refine⟨u::vs,?_,Cn.cons e3 hrep⟩
       rw[List.mapM_cons]
       simp only[Sem.run_bind,hFc,e1,asAddr,Sem.run_pure,Result.andThen_ok,e2,hv]
    ·cases h2
   ·cases h1
 obtain⟨vs,hv,hrep⟩:=key fn.results.toList rv xs hr h
 have hm:(fn.results.mapM F).run P w=.ok vs.toArray w:=by
  rw[Array.mapM_eq_mapM_toList]
  simp only[Sem.run_map,hv,Result.andThen_ok]
 have e:results fn a.tmps=(do let vs ←fn.results.mapM F;pure (if h:vs.size=1 then vs[0]else .tuple vs)):=by rw[hF];rfl
 rw[e]
 simp only[Sem.run_bind,hm,Result.andThen_ok,Sem.run_pure]
 refine⟨_,rfl,?_⟩
 match xs,vs,hrep with
 |[x],[v],hrep=>exact hrep.2 0 x v rfl rfl
 |[],[],_=>exact .tup rfl (λj x v h=>by simp at h)
 |x::y::xs,v::u::vs,hrep=>
  have:¬(v::u::vs).toArray.size=1:=by simp
  rw[dif_neg this]
  exact .tup (by simpa using hrep.1) (λj x v hx hv=>hrep.2 j x v hx (by simpa using hv))
 |[],_::_,hrep=>simpa using hrep.1
 |_::_,[],hrep=>simpa using hrep.1
 |[_],_::_::_,hrep=>simpa using hrep.1
 |_::_::_,[_],hrep=>simpa using hrep.1
theorem AF.res {P:Program} {m:Nat} {fn:Func} {rv:List RV} (hr:IV P fn=some rv) {tm:List AV} {S:List Ad} {xs:List AV} (h:Ae tm S rv=some xs):AF P m fn tm S (Ag xs) S:=λG0 S0 w0 G a w _ hz=>by
 obtain⟨v,h1,h2⟩:=Sx hr h hz
 exact⟨v,G,h1,h2,hz.left⟩
theorem AF.sel {P:Program} {m:Nat} {fn:Func} {tm:List AV} {S S':List Ad} {r r':AV} (h:AF P m fn tm S r' S) (ids:List Nat) (hn:ids.Nodup) (hl:ids.length=S'.length) (hm:m≤S'.length)
 (hp:∀(k i:Nat),k<m->ids[k]? =some i->i=k) (hT:∀(k:Nat) (o:Ad),S'[k]? =some o->∃i,ids[k]? =some i∧S[i]? =some (o.ren (AK ids S.length))) (hr:r.ren (AK ids S.length)=r'):AF P m fn tm S r S':=λG0 S0 w0 G a w e hz=>by
 obtain⟨v,G',hv,hrep,hs⟩:=h G0 S0 w0 G a w e hz
 have hD:∀(k i:Nat),S'.length≤k->ids[k]? =some i->S[i]? =some .dead:=λk i hk hi=>by
  rw[List.getElem?_eq_none (by omega)]at hi;cases hi
 obtain⟨hwd,hblk⟩:=Wd.pull hs.wd ids hn (by omega) hT hD
 have hid:∀k,k<m->AK ids S.length k=k:=λk hk=>by
  have e:ids[k]? =some (ids[k]'(by omega)):=by simp
  rw[QM e];exact hp k _ hk e
 have hw0:∀i,m≤i->G0.loc i=none∧∀n,G0.hist i n=none:=λi hi=>hz.wd0.dom i (.inl (List.getElem?_eq_none (by omega)))
 refine⟨v,_,hv,hrep.pull r hr,⟨⟨hs.le.imm,λi b hb=>?_,λi n u hb=>?_⟩,hwd,hs.kept,λi b hb=>?_,hs.still⟩⟩
 ·have hi:i<m:=by
   rcases Nat.lt_or_ge i m with h|h
   ·exact h
   ·rw[(hw0 i h).1]at hb;cases hb
  show G'.loc (AK ids S.length i)=_
  rw[hid i hi];exact hs.le.loc i b hb
 ·have hi:i<m:=by
   rcases Nat.lt_or_ge i m with h|h
   ·exact h
   ·rw[(hw0 i h).2]at hb;cases hb
  show G'.hist (AK ids S.length i) n=_
  rw[hid i hi];exact hs.le.hist i n u hb
 ·rcases hblk i with h|h
  ·rw[h]at hb;cases hb
  ·rw[h]at hb;exact hs.own _ b hb
theorem An.body {P:Program} {f:FuncId} {fn:Func} {code:Code} {c:C} {args:List AV} {S:List Ad} {r:AV} {S':List Ad} (hf:P.funcs[f]? =some fn) (hb:fn.body=some code) (hname:(fn.name== "runtime.NumGoroutine")=false) (hc:AU P code=some c)
 (h:aw P S.length c (args++List.replicate (fn.ntmps-args.length) .any) S λe tm S1=>(e=.ret∨e=.normal)∧AF P S.length fn tm S1 r S'):An P f args S r S':=by
 refine⟨⟨fn,hf,by simp[hb],hname⟩,λG w vs hw hr=>?_⟩
 refine(callsIn_wide (n:=0)).1 (callsIn_of_wp_marks hf hb trivial ?_)
 have hsz:vs.size=args.length:=by simpa using hr.1.symm
 have hz:Cz G S w (args++List.replicate (fn.ntmps-args.length) .any) S G {tmps:=vs++Array.replicate (fn.ntmps-vs.size) undef,defers:=[]} w:=by
  refine⟨Bf.refl hw,by simp[hsz],λt x v hx hv=>?_,IY.nil _ _,hw⟩
  rw[List.getElem?_append]at hx
  split at hx
  ·rename_i ht
   simp only[Array.getElem?_append]at hv
   rw[if_pos (by omega)]at hv
   exact hr.2 t x v hx (by simpa using hv)
  ·rw[List.getElem?_replicate]at hx
   split at hx
   ·injection hx with hx;subst hx;exact .any v
   ·cases hx
 refine wpIn_wide.2 (wp_mono (Ii code c hc _ S _ h G S w G _ w rfl hz) λe a' w' hq=>?_)
 obtain⟨tm',S1,G',hz',he,hfin⟩:=hq
 have key:∀(ds:List Deferred) (w':World),Cz G S w tm' S1 G' {a' with defers:=ds} w'->LeavesInM Fence.wide 0 P fn a'.tmps (λe w'=>∃v G',e=.returned v∧BE G' r v∧Bf G S w G' S' w') ds .returning w':=by
  intro ds
  induction ds with
  |nil=>
   intro w' hz'
   obtain⟨v,G'',hv,hrep,hleft⟩:=hfin G S w G' _ w' rfl hz'
   exact⟨v,hv,v,G'',rfl,hrep,hleft⟩
  |cons d ds ih=>
   intro w' hz'
   obtain⟨Ds,h1,h2,h3⟩:=hz'.defers
   cases Ds with
   |nil=>cases h2
   |cons D Ds=>
    simp only[List.map_cons,List.cons.injEq]at h2
    obtain⟨rfl,h2⟩:=h2
    have hD:=h3 D (by simp)
    refine⟨by simp,.inl ⟨D,w'.putObj D (.deferred none),rfl,run_takeDeferred hD.2,ih _ ?_⟩⟩
    have hl:=hz'.left
    refine⟨⟨hl.le,hl.wd.turnOut hD.2,⟨hl.kept.os,hl.kept.tape,hl.kept.output,by simpa[World.putObj]using hl.kept.size,λi hi hu=>?_⟩,hl.own,hl.still⟩,hz'.size,hz'.rep,⟨Ds,(List.nodup_cons.1 h1).2,h2,λD' hD'=>⟨(h3 D' (by simp[hD'])).1,?_⟩⟩,hz'.wd0⟩
    ·rw[World.putObj_heap_other (by omega)];exact hl.kept.block i hi hu
    ·rw[World.putObj_heap_other (by rintro rfl;exact(List.nodup_cons.1 h1).1 hD')];exact(h3 D' (by simp[hD'])).2
 rcases he with rfl|rfl
 ·exact key a'.defers w' hz'
 ·exact key a'.defers w' hz'
def zM (a d:Nat):RO:=(none,.mov (.tmp a),some d)
def zV (v:Value) (d:Nat):RO:=(none,.mov (.const v),some d)
def zF (o a d:Nat):RO:=(none,.fadr o (.tmp a),some d)
def zL (a d:Nat):RO:=(none,.load none (.tmp a),some d)
def zN (n a d:Nat):RO:=(none,.load (some n) (.tmp a),some d)
def zS (n a b:Nat):RO:=(none,.store n (.tmp a) (.tmp b),none)
def zC (f:FuncId) (xs:List Nat) (d:Nat):RO:=(none,.call (.func f) (xs.map .tmp),some d)
def zE (a i d:Nat):RO:=(none,.ext (.tmp a) i,some d)
def zU (a d:Nat):RO:=(none,.len false (.tmp a),some d)
def zB (op:BinOp) (a b d:Nat):RO:=(none,.bin op (.tmp a) (.tmp b),some d)
def zI (op:BinOp) (a:Nat) (n:Int) (d:Nat):RO:=(none,.bin op (.tmp a) (.const (.int .i64 n)),some d)
def zJ (k a i d:Nat):RO:=(none,.iadr k (.tmp a) (.tmp i),some d)
def zG (t:Nat) (w:Bool) (r:RO):RO:=(some (t,w),r.2)
theorem Ap2 (t:Nat) (w:Bool) (g:Option (Nat×Bool)) (r:I×Option Nat):zG t w (g,r)=(some (t,w),r):=rfl
def Ct (P:Program) (f:FuncId) (args:List AV) (rd:List (Nat×Ad)) (r:Nat->AV) (upd:List (Nat×Ad)) (new:Nat->List Ad):Prop:=
 ∀T n,(∀p∈rd,T[p.1]? =some p.2)->(∀p∈BG n (new n),T[p.1]? =some .dead)->An P f args T (r n) (CA T (upd++BG n (new n)))
theorem Aa.of {P:Program} {f:FuncId} {args:List AV} {rd:List (Nat×Ad)} {r:Nat->AV} {upd:List (Nat×Ad)} {new:Nat->List Ad} {S:List Ad} {K:KT} (h:Ct P f args rd r upd new) (hrd:∀p∈rd,S[p.1]? =some p.2)
 (hu:∀p∈upd,p.1∈rd.map (·.1)) (hK:K (r S.length) (rd.map (·.1)) upd (new S.length)):Aa P f args S K:=by
 refine⟨_,_,_,_,λT hT _ hd=>h T S.length (λp hp=>?_) hd,hu,λi hi=>?_,hK⟩
 ·rw[hT p.1 (List.mem_map.2 ⟨p,hp,rfl⟩)];exact hrd p hp
 ·obtain⟨p,hp,rfl⟩:=List.mem_map.1 hi
  exact(List.getElem?_eq_some_iff.1 (hrd p hp)).1
theorem YU (T:List Ad) (u:List (Nat×Ad)) (h:∀p∈u,T[p.1]? =some p.2):CA T u=T:=by
 induction u with
 |nil=>rfl
 |cons p u ih=>
  have:T.set p.1 p.2=T:=by
   apply List.ext_getElem?
   intro q
   by_cases e:q=p.1
   ·subst e
    have hp:=h p (by simp)
    rw[List.getElem?_set_self (List.getElem?_eq_some_iff.1 hp).1,hp]
   ·rw[List.getElem?_set_ne (Ne.symm e)]
  rw[CQ,this];exact ih λq hq=>h q (by simp[hq])
theorem HT (n:Nat) (l:List Ad):BG n l=(List.range' n l.length).zip l:=by
 induction l generalizing n with
 |nil=>rfl
 |cons o l ih=>simp[BG,ih,List.range'_succ]
theorem Ct.mk {P:Program} {f:FuncId} {args args₀:List AV} {S₀ S₁:List Ad} {r₀:AV} {r:Nat->AV} {rd upd:List (Nat×Ad)} {new:Nat->List Ad} (h:An P f args₀ S₀ r₀ S₁) (is:List Nat) (hn:is.Nodup) (hl:is.length=S₀.length) (hSl:S₀.length≤S₁.length)
 (hal:∀o∈S₀,o≠ .dead) (ha:∀n N,args₀.map (λx=>x.ren (AK (is++List.range' n (S₁.length-S₀.length)) N))=args) (hr:∀n N,r₀.ren (AK (is++List.range' n (S₁.length-S₀.length)) N)=r n)
 (hrd:∀n N,is.zip (S₀.map λo=>o.ren (AK (is++List.range' n (S₁.length-S₀.length)) N))=rd)
 (hupd:(∀n N,is.zip ((S₁.take S₀.length).map λo=>o.ren (AK (is++List.range' n (S₁.length-S₀.length)) N))=upd)∨upd=[]∧S₁.take S₀.length=S₀)
 (hnew:∀n N,((S₁.drop S₀.length).map λo=>o.ren (AK (is++List.range' n (S₁.length-S₀.length)) N))=new n):Ct P f args rd r upd new:=by
 intro T n hT hd
 have hln:(new n).length=S₁.length-S₀.length:=by rw[←hnew n T.length];simp
 have hat:∀(k:Nat) (o:Ad),S₀[k]? =some o->∃i,(is++List.range' n (S₁.length-S₀.length))[k]? =some i∧T[i]? =some (o.ren (AK (is++List.range' n (S₁.length-S₀.length)) T.length)):=by
  intro k o ho
  have hk:k<is.length:=by rw[hl];exact(List.getElem?_eq_some_iff.1 ho).1
  refine⟨is[k],by rw[List.getElem?_append_left hk];simp,hT (is[k],_) ?_⟩
  rw[←hrd n T.length]
  refine List.mem_of_getElem? (i:=k) ?_
  rw[List.getElem?_zip_eq_some]
  exact⟨List.getElem?_eq_getElem hk,by rw[List.getElem?_map,ho];rfl⟩
 have hdead:∀i,i∈List.range' n (S₁.length-S₀.length)->T[i]? =some .dead:=by
  intro i hi
  rw[HT,hln]at hd
  obtain⟨j,hj,rfl⟩:=List.getElem_of_mem hi
  have hj':j<(new n).length:=by rw[hln];simpa using hj
  have:=hd ((List.range' n (S₁.length-S₀.length))[j],(new n)[j]) (by
   refine List.mem_of_getElem? (i:=j) ?_
   rw[List.getElem?_zip_eq_some]
   exact⟨List.getElem?_eq_getElem hj,List.getElem?_eq_getElem hj'⟩)
  exact this
 have hnd:(is++List.range' n (S₁.length-S₀.length)).Nodup:=by
  rw[List.nodup_append]
  refine⟨hn,List.nodup_range',λa ha1 b hb1=>?_⟩
  rintro rfl
  obtain⟨k,hk,rfl⟩:=List.getElem_of_mem ha1
  have hk':k<S₀.length:=by rw[←hl];exact hk
  obtain⟨i,h1,h2⟩:=hat k S₀[k] (List.getElem?_eq_getElem hk')
  rw[List.getElem?_append_left hk,List.getElem?_eq_getElem hk]at h1
  injection h1 with h1;subst h1
  rw[hdead _ hb1]at h2
  injection h2 with h2
  have:=hal S₀[k] (List.getElem_mem hk')
  cases ho:S₀[k]with
  |dead=>exact this ho
  |cells xs=>rw[ho]at h2;simp[Ad.ren]at h2
  |row a b=>rw[ho]at h2;simp[Ad.ren]at h2
  |mrow a b c=>rw[ho]at h2;simp[Ad.ren]at h2
  |raw a b=>rw[ho]at h2;simp[Ad.ren]at h2
 have:=h.embed T (is++List.range' n (S₁.length-S₀.length)) hnd (by simp;omega) hSl hat (λk i hk hi=>by
  rw[List.getElem?_append_right (by omega)]at hi
  exact hdead i (List.mem_of_getElem? hi))
 rw[ha,hr]at this
 have e:(is++List.range' n (S₁.length-S₀.length)).zip (S₁.map λo=>o.ren (AK (is++List.range' n (S₁.length-S₀.length)) T.length))=
  is.zip ((S₁.take S₀.length).map λo=>o.ren (AK (is++List.range' n (S₁.length-S₀.length)) T.length))++BG n (new n):=by
  rw[HT,hln,←hnew n T.length]
  conv=>lhs;rw[←List.take_append_drop S₀.length S₁]
  rw[List.map_append,List.zip_append (by simp;omega)]
  simp
 rw[e,CE]at this
 rw[CE]
 rcases hupd with hupd|⟨rfl,hsame⟩
 ·rw[hupd]at this;exact this
 ·rw[hsame,YU T _ (λp hp=>?_)]at this
  ·exact this
  ·rw[hrd]at hp;exact hT p hp
def Ca:List AV->List AV->Prop
 |[],[]=>True
 |x::xs,y::ys=>(y=.any∨x=y)∧Ca xs ys
 |_,_=>False
theorem Afg:∀{xs ys:List AV},Ca xs ys->xs.length=ys.length∧∀(t:Nat) (y:AV),ys[t]? =some y->y=.any∨xs[t]? =some y:=by
 intro xs
 induction xs with
 |nil=>intro ys h;cases ys with
  |nil=>exact⟨rfl,λt y h=>by simp at h⟩
  |cons=>exact h.elim
 |cons x xs ih=>intro ys h;cases ys with
  |nil=>exact h.elim
  |cons y ys=>
   obtain⟨h1,h2⟩:=h
   obtain⟨g1,g2⟩:=ih h2
   refine⟨by simp[g1],λt z hz=>?_⟩
   cases t with
   |zero=>simp at hz;subst hz;rcases h1 with h|h;exact .inl h;exact .inr (by simp[h])
   |succ t=>simp at hz;simpa using g2 t z hz
theorem Wk.forget {m:Nat} {tm tm':List AV} {S:List Ad} (h:Ca tm tm'):Wk m tm S tm' S:=λG0 S0 w0 G a w _ hz=>by
 obtain⟨h1,h2⟩:=Afg h
 refine⟨G,hz.left,by rw[hz.size,h1],λt x v hx hv=>?_,hz.defers,hz.wd0⟩
 rcases h2 t x hx with rfl|h
 ·exact .any v
 ·exact hz.rep t x v h hv
theorem Wk.to {m:Nat} {tm tm':List AV} {S S':List Ad} (hS:S=S') (h:Ca tm tm'):Wk m tm S tm' S':=hS▸Wk.forget h
def Cq (ρ:Nat->Nat):List AV->List AV->Prop
 |[],[]=>True
 |x::xs,y::ys=>(y=.any∨x=y.ren ρ)∧Cq ρ xs ys
 |_,_=>False
theorem Zo {ρ:Nat->Nat}:∀{xs ys:List AV},Cq ρ xs ys->xs.length=ys.length∧∀(t:Nat) (y:AV),ys[t]? =some y->y=.any∨xs[t]? =some (y.ren ρ):=by
 intro xs
 induction xs with
 |nil=>intro ys h;cases ys with
  |nil=>exact⟨rfl,λt y h=>by simp at h⟩
  |cons=>exact h.elim
 |cons x xs ih=>intro ys h;cases ys with
  |nil=>exact h.elim
  |cons y ys=>
   obtain⟨h1,h2⟩:=h
   obtain⟨g1,g2⟩:=ih h2
   refine⟨by simp[g1],λt z hz=>?_⟩
   cases t with
   |zero=>simp at hz;subst hz;rcases h1 with h|h;exact .inl h;exact .inr (by simp[h])
   |succ t=>simp at hz;simpa using g2 t z hz
theorem Bf.sel {G0:Gh} {S0:List Ad} {w0:World} {G:Gh} {S:List Ad} {w:World} (hs:Bf G0 S0 w0 G S w) (h0:Wd G0 S0 w0) {S':List Ad} (ids:List Nat) (hn:ids.Nodup) (hl:ids.length=S'.length) (hm:S0.length≤S'.length)
 (hp:∀(k i:Nat),k<S0.length->ids[k]? =some i->i=k) (hT:∀(k:Nat) (o:Ad),S'[k]? =some o->∃i,ids[k]? =some i∧S[i]? =some (o.ren (AK ids S.length))):Bf G0 S0 w0 (G.pull (AK ids S.length)) S' w:=by
 have hD:∀(k i:Nat),S'.length≤k->ids[k]? =some i->S[i]? =some .dead:=λk i hk hi=>by
  rw[List.getElem?_eq_none (by omega)]at hi;cases hi
 obtain⟨hwd,hblk⟩:=Wd.pull hs.wd ids hn (by omega) hT hD
 have hid:∀k,k<S0.length->AK ids S.length k=k:=λk hk=>by
  have e:ids[k]? =some (ids[k]'(by omega)):=by simp
  rw[QM e];exact hp k _ hk e
 have hw0:∀i,S0.length≤i->G0.loc i=none∧∀n,G0.hist i n=none:=λi hi=>h0.dom i (.inl (List.getElem?_eq_none (by omega)))
 refine⟨⟨hs.le.imm,λi b hb=>?_,λi n u hb=>?_⟩,hwd,hs.kept,λi b hb=>?_,hs.still⟩
 ·have hi:i<S0.length:=by
   rcases Nat.lt_or_ge i S0.length with h|h
   ·exact h
   ·rw[(hw0 i h).1]at hb;cases hb
  show G.loc (AK ids S.length i)=_
  rw[hid i hi];exact hs.le.loc i b hb
 ·have hi:i<S0.length:=by
   rcases Nat.lt_or_ge i S0.length with h|h
   ·exact h
   ·rw[(hw0 i h).2]at hb;cases hb
  show G.hist (AK ids S.length i) n=_
  rw[hid i hi];exact hs.le.hist i n u hb
 ·rcases hblk i with h|h
  ·rw[h]at hb;cases hb
  ·rw[h]at hb;exact hs.own _ b hb
theorem Wk.sel {m:Nat} {tm tm':List AV} {S S':List Ad} (ids:List Nat) (hn:ids.Nodup) (hl:ids.length=S'.length) (hm:m≤S'.length) (hp:ids.take m=List.range m)
 (hT:ids.map (λi=>S[i]?)=S'.map λo=>some (o.ren (AK ids S.length))) (ht:Cq (AK ids S.length) tm tm'):Wk m tm S tm' S':=λG0 S0 w0 G a w e hz=>by
 obtain⟨h1,h2⟩:=Zo ht
 refine⟨_,Bf.sel hz.left hz.wd0 (S':=S') ids hn hl (by omega) (λk i hk hi=>?_) (λk o ho=>?_),by rw[hz.size,h1],λt x v hx hv=>?_,hz.defers,hz.wd0⟩
 ·have:(ids.take m)[k]? =some i:=by rw[List.getElem?_take,if_pos (by omega)];exact hi
  rw[hp,List.getElem?_range (by omega)]at this
  injection this with this;exact this.symm
 ·have hk:k<ids.length:=by rw[hl];exact(List.getElem?_eq_some_iff.1 ho).1
  refine⟨ids[k],by simp,?_⟩
  have:=congrArg (λl:List (Option Ad)=>l[k]?) hT
  simp only[List.getElem?_map,List.getElem?_eq_getElem hk,ho,Option.map_some]at this
  injection this
 ·rcases h2 t x hx with rfl|h
  ·exact .any v
  ·exact(hz.rep t _ v h hv).pull x rfl
theorem Bf.reobj {G:Gh} {T:List Ad} {w:World} {i:Nat} {xs xs':List AV} (h:Wd G T w) (hi:T[i]? =some (.cells xs)) (hl:xs'.length=xs.length) (hc:∀(k:Nat) (x:AV) (v:Value),xs'[k]? =some x->(∀y,xs[k]? =some y->BE G y v)->BE G x v):
 Bf G T w G (T.set i (.cells xs')) w:=by
 obtain⟨b,cs,t,h1,h2,h3,h4,_⟩:=h.obj i xs hi
 refine Bf.turn h hi h1 (⟨rfl,rfl,rfl,rfl,λ_ _=>rfl,h2⟩:Kr w w b (.cells cs t (0,0))) (by omega) λk x v hx hv=>?_
 have hk:k<xs.length:=by rw[←hl];exact(List.getElem?_eq_some_iff.1 hx).1
 have:=h4 k _ v (List.getElem?_eq_getElem hk) hv
 refine⟨this.1,hc k x v hx λy hy=>?_⟩
 rw[List.getElem?_eq_getElem hk]at hy
 injection hy with hy;subst hy;exact this.2
theorem Wk.row {m:Nat} {tm:List AV} {S:List Ad} (t k:Nat) {k':Nat} {xs:List AV} (ht:tm[t]? =some (.sl .full k' xs)) (hk:k'=k∨xs=[]) (h1:1≤k):Wk m tm S (tm.set t (.sl (.row S.length) k xs)) (S++[.row k xs.length]):=λG0 S0 w0 G a w _ hz=>by
 have hd:=Bf.dead hz.left.wd 1
 have htl:=(List.getElem?_eq_some_iff.1 ht).1
 have hlt:t<a.tmps.size:=by rw[hz.size];exact htl
 have hv:=Array.getElem?_eq_getElem hlt
 have r:=hz.rep t _ _ ht hv
 have r':BE G (.sl .full k xs) a.tmps[t]:=by
  rcases hk with rfl|rfl
  ·exact r
  ·exact r.rek
 generalize a.tmps[t]=v at*
 cases r' with
 | @sl _ _ _ A c b o vs q1 q2 q3 q4 q5 q6 q7=>
   have hc:c=xs.length:=q7
   subst hc
   have hid:(S++List.replicate 1 Ad.dead)[S.length]? =some .dead:=by simp
   obtain⟨hl,hh⟩:=Bf.rowFull (id:=S.length) (k:=k) (n:=xs.length) (A:=A) hd.wd hid h1
   have e:(S++List.replicate 1 Ad.dead).set S.length (.row k xs.length)=S++[.row k xs.length]:=by simp
   rw[e]at hl
   have hall:=(hz.left.trans hd).trans hl
   refine⟨_,hall,by simp[hz.size],λt' x u hx hu=>?_,hz.defers,hz.wd0⟩
   by_cases et:t'=t
   ·subst et
    simp[htl]at hx;subst hx
    rw[hv]at hu;injection hu with hu;subst hu
    exact((BE.sl vs q1 q2 q3 q4 q5 q6 q7:BE G (.sl .full k xs) _).mono hl.le).retag hh
   ·rw[List.getElem?_set_ne (Ne.symm et)]at hx
    exact(hz.rep t' x u hx hu).mono hl.le
theorem Wk.rowObj {m:Nat} {tm:List AV} {S:List Ad} (i j k:Nat) {k':Nat} {ys xs:List AV} (hi:S[i]? =some (.cells ys)) (hj:ys[j]? =some (.sl .full k' xs)) (hk:k'=k∨xs=[]) (h1:1≤k):
 Wk m tm S tm (S.set i (.cells (ys.set j (.sl (.row S.length) k xs)))++[.row k xs.length]):=λG0 S0 w0 G a w _ hz=>by
 have hd:=Bf.dead hz.left.wd 1
 have hil:=(List.getElem?_eq_some_iff.1 hi).1
 have hjl:=(List.getElem?_eq_some_iff.1 hj).1
 obtain⟨b,cs,t,g1,g2,g3,g4,_⟩:=hz.left.wd.obj i ys hi
 have hv:=Array.getElem?_eq_getElem (show j<cs.size by omega)
 have r:=(g4 j _ _ hj hv).2
 have r':BE G (.sl .full k xs) cs[j]:=by
  rcases hk with rfl|rfl
  ·exact r
  ·exact r.rek
 generalize hcj:cs[j]=v at*
 cases r' with
 | @sl _ _ _ A c b' o vs q1 q2 q3 q4 q5 q6 q7=>
   have hc:c=xs.length:=q7
   subst hc
   have hid:(S++List.replicate 1 Ad.dead)[S.length]? =some .dead:=by simp
   obtain⟨hl,hh⟩:=Bf.rowFull (id:=S.length) (k:=k) (n:=xs.length) (A:=A) hd.wd hid h1
   have e:(S++List.replicate 1 Ad.dead).set S.length (.row k xs.length)=S++[.row k xs.length]:=by simp
   rw[e]at hl
   have hi':(S++[Ad.row k xs.length])[i]? =some (.cells ys):=by rw[List.getElem?_append_left hil];exact hi
   obtain⟨b2,cs2,t2,p1,p2,p3,p4,_⟩:=hl.wd.obj i ys hi'
   have hb2:b2=b:=by
    have:=hl.le.loc i b (by simpa using g1)
    rw[p1]at this;injection this
   subst hb2
   rw[p2]at g2;injection g2 with g2;injection g2 with e1 e1t;subst e1 e1t
   have hturn:Bf (G.newHist S.length xs.length (.slice A xs.length xs.length)) (S++[Ad.row k xs.length]) w (G.newHist S.length xs.length (.slice A xs.length xs.length)) ((S++[Ad.row k xs.length]).set i (.cells (ys.set j (.sl (.row S.length) k xs)))) w:=by
    refine Bf.turn (xs':=ys.set j (.sl (.row S.length) k xs)) hl.wd hi' p1 (⟨rfl,rfl,rfl,rfl,λ_ _=>rfl,p2⟩:Kr w w b2 (.cells cs2 t2 (0,0))) (by rw[List.length_set];omega) λq x u hx hu=>?_
    by_cases eq:q=j
    ·subst eq
     simp[hjl]at hx;subst hx
     rw[hv]at hu;injection hu with hu
     refine⟨?_,?_⟩
     ·rw[←hu];rfl
     ·rw[←hu]
      exact((BE.sl vs q1 q2 q3 q4 q5 q6 q7:BE G (.sl .full k xs) _).mono hl.le).retag hh
    ·rw[List.getElem?_set_ne (Ne.symm eq)]at hx
     exact p4 q x u hx hu
   have e2:(S++[Ad.row k xs.length]).set i (.cells (ys.set j (.sl (.row S.length) k xs)))=S.set i (.cells (ys.set j (.sl (.row S.length) k xs)))++[.row k xs.length]:=by rw[List.set_append_left _ _ hil]
   rw[e2]at hturn
   have hall:=((hz.left.trans hd).trans hl).trans hturn
   exact⟨_,hall,hz.size,λt' x u hx hu=>(hz.rep t' x u hx hu).mono hl.le,hz.defers,hz.wd0⟩
theorem Wk.mrow {m:Nat} {tm:List AV} {S:List Ad} (t k:Nat) {k':Nat} (ht:tm[t]? =some (.sl .full k' [])) (h1:1≤k):Wk m tm S (tm.set t (.ms S.length 0)) (S++[.mrow k 0 []]):=λG0 S0 w0 G a w _ hz=>by
 have hd:=Bf.dead hz.left.wd 1
 have htl:=(List.getElem?_eq_some_iff.1 ht).1
 have hlt:t<a.tmps.size:=by rw[hz.size];exact htl
 have hv:=Array.getElem?_eq_getElem hlt
 have r:=hz.rep t _ _ ht hv
 generalize a.tmps[t]=v at*
 cases r with
 | @sl _ _ _ A c b o vs q1 q2 q3 q4 q5 q6 q7=>
   have hc:c=0:=q7
   subst hc
   have hid:(S++List.replicate 1 Ad.dead)[S.length]? =some .dead:=by simp
   have hl:=Bf.mrowTo (j:=S.length) (k:=k) (n:=0) (c:=0) (xs:=[]) (A:=A) hd.wd (.inl hid) h1 (by simp) (Nat.le_refl _) (by omega) (C7.refl _ w) (λh=>by omega)
   have e:(S++List.replicate 1 Ad.dead).set S.length (.mrow k 0 [])=S++[.mrow k 0 []]:=by simp
   rw[e]at hl
   have hall:=(hz.left.trans hd).trans hl
   refine⟨_,hall,by simp[hz.size],λt' x u hx hu=>?_,hz.defers,hz.wd0⟩
   by_cases et:t'=t
   ·subst et
    simp[htl]at hx;subst hx
    rw[hv]at hu;injection hu with hu;subst hu
    exact .ms (by simp[Gh.newHist]) λh=>by omega
   ·rw[List.getElem?_set_ne (Ne.symm et)]at hx
    exact(hz.rep t' x u hx hu).mono hl.le
theorem PJ {P:Program} {i:I} {ρ:Operand->AV} {S:List Ad} {K K':KT} (hK:∀v rd upd new,K v rd upd new->K' v rd upd new) (h:Cd P i ρ S K):Cd P i ρ S K':=by
 cases i<;>dsimp only[Cd]at h ⊢
 case mov=>exact hK _ _ _ _ h
 case pick=>unfold Nb at h ⊢;split at h<;>first|exact hK _ _ _ _ h|exact h.elim
 case new=>exact hK _ _ _ _ h
 case box=>unfold Ng at h ⊢;split at h<;>first|exact hK _ _ _ _ h|exact h.elim
 case build=>unfold Hc at h ⊢;split at h<;>first|exact hK _ _ _ _ h|exact h.elim
 case bsl=>exact⟨h.1,hK _ _ _ _ h.2⟩
 case load=>unfold J4 Ww at h ⊢;(repeat' split at h)<;>first|exact hK _ _ _ _ h|exact⟨h.1,hK _ _ _ _ h.2⟩|exact⟨h.1,h.2.1,h.2.2.1,hK _ _ _ _ h.2.2.2⟩|exact h.2.elim|exact h.elim
 case store=>unfold Jk QH at h ⊢;(repeat' split at h)<;>first|exact⟨h.1,h.2.1,hK _ _ _ _ h.2.2⟩|exact⟨h.1,h.2.1,h.2.2.1,h.2.2.2.1,hK _ _ _ _ h.2.2.2.2⟩|exact h.elim
 case nilc=>unfold QJ at h ⊢;split at h<;>first|exact hK _ _ _ _ h|exact h.elim
 case bin op x y=>
  unfold TF at h ⊢
  split at h
  ·cases op<;>dsimp only[Db]at h ⊢ <;>first|exact⟨h.1,hK _ _ _ _ h.2⟩|exact⟨h.1,h.2.1,hK _ _ _ _ h.2.2⟩
  ·cases op<;>dsimp only[Wt]at h ⊢ <;>first|exact hK _ _ _ _ h|exact h.elim
  ·exact h.elim
 case eqb=>unfold Wz at h ⊢;split at h<;>first|exact hK _ _ _ _ h|exact h.elim
 case eqa=>unfold WA at h ⊢;split at h<;>first|exact⟨h.1,h.2.1,hK _ _ _ _ h.2.2⟩|exact h.elim
 case eqp=>unfold TD at h ⊢;split at h<;>first|exact hK _ _ _ _ h|exact h.elim
 case un=>unfold kUn at h ⊢;split at h<;>first|exact hK _ _ _ _ h|exact h.elim
 case cvt=>unfold WB at h ⊢;split at h<;>first|exact hK _ _ _ _ h|exact h.elim
 case b2s=>unfold WC at h ⊢;split at h<;>first|exact⟨h.1,h.2.1,hK _ _ _ _ h.2.2⟩|exact h.elim
 case s2b=>unfold Wu at h ⊢;split at h<;>first|exact⟨h.1,hK _ _ _ _ h.2⟩|exact h.elim
 case slice=>
  unfold D3 at h ⊢
  split at h
  ·split at h
   ·rename_i l hh hl hhh
    obtain⟨h1,h2,h3,h4,h5⟩:=h
    refine⟨h1,h2,h3,h4,?_⟩
    split at h5
    ·exact hK _ _ _ _ h5
    ·exact⟨h5.1,hK _ _ _ _ h5.2⟩
   ·exact h.elim
  ·exact h.elim
 case sstr=>
  unfold Ps at h ⊢
  split at h
  ·split at h
   ·rename_i l hh hl hhh
    exact⟨h.1,h.2.1,h.2.2.1,hK _ _ _ _ h.2.2.2⟩
   ·exact h.elim
  ·exact h.elim
 case fadr=>unfold J5 at h ⊢;split at h<;>first|exact hK _ _ _ _ h|exact h.elim
 case fld=>unfold KM at h ⊢;(repeat' split at h)<;>first|exact hK _ _ _ _ h|exact⟨h.1,hK _ _ _ _ h.2⟩|exact h.elim
 case iadr=>unfold Ll at h ⊢;split at h<;>first|exact⟨h.1,h.2.1,h.2.2.1,hK _ _ _ _ h.2.2.2⟩|exact⟨h.1,h.2.1,hK _ _ _ _ h.2.2⟩|exact h.elim
 case aadr=>unfold Lm at h ⊢;split at h<;>first|exact⟨h.1,h.2.1,hK _ _ _ _ h.2.2⟩|exact h.elim
 case idx=>unfold Wx KM at h ⊢;(repeat' split at h)<;>first|exact⟨h.1,h.2.1,hK _ _ _ _ h.2.2⟩|exact⟨h.1,h.2.1,h.2.2.1,hK _ _ _ _ h.2.2.2⟩|exact h.elim|exact h.2.2.elim
 case sidx=>unfold Pt at h ⊢;split at h<;>first|exact⟨h.1,h.2.1,hK _ _ _ _ h.2.2⟩|exact h.elim
 case ext=>unfold Wy at h ⊢;(repeat' split at h)<;>first|exact hK _ _ _ _ h|exact h.elim
 case mkf=>exact hK _ _ _ _ h
 case call=>
  unfold Nf at h ⊢
  split at h
  ·obtain⟨v,rd,upd,new,h1,h2,h3,h4⟩:=h
   exact⟨v,rd,upd,new,h1,h2,h3,hK _ _ _ _ h4⟩
  ·obtain⟨go,S',h1,h2,h3,h4⟩:=h
   exact⟨go,S',h1,h2,h3,hK _ _ _ _ h4⟩
  ·exact h.elim
 case mkmap=>exact hK _ _ _ _ h
 case mlook=>unfold KL at h ⊢;(repeat' split at h)<;>first|exact hK _ _ _ _ h|exact h.elim
 case mput=>unfold Pu at h ⊢;(repeat' split at h)<;>first|exact hK _ _ _ _ h|exact h.elim
 case eqf=>unfold TE at h ⊢;(repeat' split at h)<;>first|exact hK _ _ _ _ h|exact h.elim
 case app=>
  unfold QL at h ⊢
  split at h
  ·unfold Yd at h ⊢
   split at h
   ·exact⟨h.1,h.2.1,h.2.2.1,h.2.2.2.1,hK _ _ _ _ h.2.2.2.2⟩
   ·exact h.elim
  ·exact⟨h.1,h.2.1,h.2.2.1,h.2.2.2.1,hK _ _ _ _ h.2.2.2.2⟩
  ·obtain⟨h1,h2,h3,h4⟩:=h
   refine⟨h1,h2,h3,?_⟩
   split at h4
   ·exact hK _ _ _ _ h4
   ·exact⟨h4.1,hK _ _ _ _ h4.2⟩
   ·exact h4.elim
  ·exact h.elim
 case len=>unfold Nc at h ⊢;split at h<;>first|exact hK _ _ _ _ h|exact h.elim
 case lenc=>exact hK _ _ _ _ h
 case mx=>unfold kMx at h ⊢;split at h<;>first|exact hK _ _ _ _ h|exact h.elim
 case mksl=>unfold Lj at h ⊢;split at h<;>first|exact⟨h.1,h.2.1,h.2.2.1,h.2.2.2.1,hK _ _ _ _ h.2.2.2.2⟩|exact h.elim
theorem Acl {P:Program} {R R':List AV->List Ad->Prop} (hR:∀tm S,R tm S->R' tm S):∀(cs:List RO) (u:List (Nat×Nat)) (tr:List (List Nat×List Nat)) (tm:List AV) (S:List Ad),DM P cs u tr tm S R->DM P cs u tr tm S R':=by
 intro cs
 induction cs with
 |nil=>intro u tr tm S h;exact⟨h.1,hR _ _ h.2⟩
 |cons c cs ih=>
  obtain⟨g,i,d⟩:=c
  intro u tr tm S h
  cases g with
  |none=>exact PJ (λ_ _ _ _=>ih _ _ _ _) h
  |some g=>
   obtain⟨t,want⟩:=g
   simp only[DM,gdK]at h ⊢
   split at h
   ·split at h
    ·rename_i h1 h2;rw[if_pos h2];exact PJ (λ_ _ _ _=>ih _ _ _ _) h
    ·rename_i h1 h2;rw[if_neg h2];exact ih _ _ _ _ h
   ·exact ih _ _ _ _ h
   ·exact h.elim
theorem F8 {P:Program} {m:Nat}:∀{c:C} {tm:List AV} {S:List Ad} {Q Q':QT},aw P m c tm S Q->(∀e tm S,Q e tm S->Q' e tm S)->aw P m c tm S Q':=by
 intro c
 induction c with
 |skip=>intro tm S Q Q' h hq;exact hq _ _ _ h
 |reg ops u=>intro tm S Q Q' h hq;exact Acl (hq .normal) _ _ _ _ _ h
 |seq a b iha ihb=>
  intro tm S Q Q' h hq
  refine iha h λe tm S h=>?_
  cases e with
  |normal=>exact ihb h hq
  |_=>exact hq _ _ _ h
 |cond x a b iha ihb=>
  intro tm S Q Q' h hq
  simp only[aw]at h ⊢
  split at h
  ·exact⟨λe=>iha (h.1 e) hq,λe=>ihb (h.2 e) hq⟩
  ·exact h.elim
 |block id b ih=>
  intro tm S Q Q' h hq
  refine ih h λe tm S h=>?_
  cases e with
  |exit id'=>
   simp only[G8]at h ⊢
   split
   ·rename_i e;rw[if_pos e]at h;exact hq _ _ _ h
   ·rename_i e;rw[if_neg e]at h;exact hq _ _ _ h
  |_=>exact hq _ _ _ h
 |loop b ih=>
  intro tm S Q Q' h hq
  obtain⟨I,h0,hr⟩:=h
  refine⟨I,h0,λn tm S hI=>ih (hr n tm S hI) λe tm S h=>?_⟩
  cases e with
  |normal=>exact h
  |_=>exact hq _ _ _ h
 |exit id=>intro tm S Q Q' h hq;exact hq _ _ _ h
 |scope b ih=>
  intro tm S Q Q' h hq code hc G0 S0 w0 G a w hm hz
  exact wp_mono (h code hc G0 S0 w0 G a w hm hz) λe a' w' ⟨tm',S',G',hz',hq'⟩=>⟨tm',S',G',hz',hq _ _ _ hq'⟩
 |label l=>intro tm S Q Q' h hq;obtain⟨tm',S',hwk,h⟩:=h;exact⟨tm',S',hwk,hq _ _ _ h⟩
 |goto l=>intro tm S Q Q' h hq;exact hq _ _ _ h
 |ret=>intro tm S Q Q' h hq;exact hq _ _ _ h
 |rng g ps a b _ _=>
  intro tm S Q Q' h hq ca cb h1 h2 G0 S0 w0 G a w hm hz
  exact wp_mono (h ca cb h1 h2 G0 S0 w0 G a w hm hz) λe a' w' ⟨tm',S',G',hz',hq'⟩=>⟨tm',S',G',hz',hq _ _ _ hq'⟩
section
variable {P:Program} {m:Nat} {tm:List AV} {S:List Ad} {Q:QT}
def Ad6 (P:Program) (m:Nat) (b:C) (Q:QT):QT:=MP (λtm S=>aw P m b tm S Q) Q
theorem SS (b:C):Ad6 P m b Q .normal tm S=aw P m b tm S Q:=(rfl)
theorem Ad5 (b:C):Ad6 P m b Q .ret tm S=Q .ret tm S:=(rfl)
theorem ZH (b:C) (id:Nat):Ad6 P m b Q (.exit id) tm S=Q (.exit id) tm S:=(rfl)
theorem ZG (b:C) (l:Nat):Ad6 P m b Q (.goto l) tm S=Q (.goto l) tm S:=(rfl)
theorem N_ (id:Nat):G8 id Q .normal tm S=Q .normal tm S:=(rfl)
theorem VW (id:Nat):G8 id Q .ret tm S=Q .ret tm S:=(rfl)
theorem S3 (id id':Nat):G8 id Q (.exit id') tm S=if id'=id then Q .normal tm S else Q (.exit id') tm S:=(rfl)
theorem SZ (id l:Nat):G8 id Q (.goto l) tm S=Q (.goto l) tm S:=(rfl)
def X2 {α:Type} (m:Nat) (tmF:α->List AV) (SF:α->List Ad) (ok:α->Prop) (μ:α->Nat) (a:α) (Q:QT):QT:=MP (λtm S=>∃a',ok a'∧μ a'<μ a∧Wk m tm S (tmF a') (SF a')) Q
section
variable {α:Type} {tmF:α->List AV} {SF:α->List Ad} {ok:α->Prop} {μ:α->Nat} {a:α}
theorem Qp:X2 m tmF SF ok μ a Q .normal tm S=∃a',ok a'∧μ a'<μ a∧Wk m tm S (tmF a') (SF a'):=(rfl)
theorem ZK:X2 m tmF SF ok μ a Q .ret tm S=Q .ret tm S:=(rfl)
theorem VV (id:Nat):X2 m tmF SF ok μ a Q (.exit id) tm S=Q (.exit id) tm S:=(rfl)
end
theorem AM {α:Type} {c:C} (tmF:α->List AV) (SF:α->List Ad) (ok:α->Prop) (μ:α->Nat) (a:α) (ha:ok a) (h0:Wk m tm S (tmF a) (SF a)) (hr:∀a,ok a->aw P m c (tmF a) (SF a) (X2 m tmF SF ok μ a Q)):aw P m (.loop c) tm S Q:=by
 refine⟨λn tm S=>∃a,ok a∧tm=tmF a∧S=SF a∧n=μ a,⟨_,_,_,h0,a,ha,rfl,rfl,rfl⟩,λn tm S ⟨a,ha,h1,h2,h3⟩=>?_⟩
 subst h1 h2 h3
 refine F8 (hr a ha) λe tm' S' hq=>?_
 cases e with
 |normal=>
  obtain⟨a',h1,h2,h3⟩:=hq
  exact⟨μ a',_,_,h3,⟨a',h1,rfl,rfl,rfl⟩,h2⟩
 |_=>exact hq
def Qg (P:Program) (m:Nat) (c:C) (Q:QT):List Unit->List AV->List Ad->Prop
 |[],_,_=>False
 |_::f,tm,S=>aw P m c tm S (MP (λtm S=>Qg P m c Q f tm S) Q)
def Ad9 (P:Program) (m:Nat) (c:C) (Q:QT) (f:List Unit):QT:=MP (λtm S=>Qg P m c Q f tm S) Q
section
variable {c:C} {f:List Unit}
theorem Sz (u:Unit):Qg P m c Q (u::f) tm S=aw P m c tm S (Ad9 P m c Q f):=(rfl)
theorem SW:Ad9 P m c Q f .normal tm S=Qg P m c Q f tm S:=(rfl)
theorem Ad8:Ad9 P m c Q f .ret tm S=Q .ret tm S:=(rfl)
theorem ZJ (id:Nat):Ad9 P m c Q f (.exit id) tm S=Q (.exit id) tm S:=(rfl)
theorem ZI (l:Nat):Ad9 P m c Q f (.goto l) tm S=Q (.goto l) tm S:=(rfl)
end
def Jc {α:Type} (m l:Nat) (tmF:α->List AV) (SF:α->List Ad) (ok:α->Prop) (Q:QT):QT
 | .goto l',tm,S=>l'=l∧∃a,ok a∧Wk m tm S (tmF a) (SF a)
 |e,tm,S=>Q e tm S
def JU {α:Type} (m l:Nat) (tmF:α->List AV) (SF:α->List Ad) (ok:α->Prop) (μ:α->Nat) (a:α) (Q:QT):QT
 | .goto l',tm,S=>l'=l∧∃a',ok a'∧μ a'<μ a∧Wk m tm S (tmF a') (SF a')
 |e,tm,S=>Q e tm S
section
variable {α:Type} {l:Nat} {tmF:α->List AV} {SF:α->List Ad} {ok:α->Prop} {μ:α->Nat} {a:α}
theorem N9:Jc m l tmF SF ok Q .normal tm S=Q .normal tm S:=(rfl)
theorem VU:Jc m l tmF SF ok Q .ret tm S=Q .ret tm S:=(rfl)
theorem SV (id:Nat):Jc m l tmF SF ok Q (.exit id) tm S=Q (.exit id) tm S:=(rfl)
theorem SU (l':Nat):Jc m l tmF SF ok Q (.goto l') tm S=(l'=l∧∃a,ok a∧Wk m tm S (tmF a) (SF a)):=(rfl)
theorem MQ:JU m l tmF SF ok μ a Q .normal tm S=Q .normal tm S:=(rfl)
theorem ST:JU m l tmF SF ok μ a Q .ret tm S=Q .ret tm S:=(rfl)
theorem Qo (id:Nat):JU m l tmF SF ok μ a Q (.exit id) tm S=Q (.exit id) tm S:=(rfl)
theorem Qn (l':Nat):JU m l tmF SF ok μ a Q (.goto l') tm S=(l'=l∧∃a',ok a'∧μ a'<μ a∧Wk m tm S (tmF a') (SF a')):=(rfl)
end
theorem Sv {α:Type} {c r:C} (l:Nat) (hf:GL c l=some r) (tmF:α->List AV) (SF:α->List Ad) (ok:α->Prop) (μ:α->Nat) (first:(∀a,ok a->aw P m r (tmF a) (SF a) (Jc m l tmF SF ok Q))->aw P m c tm S (Jc m l tmF SF ok Q)) (pass:∀a,ok a->aw P m r (tmF a) (SF a) (JU m l tmF SF ok μ a Q)):aw P m (.scope c) tm S Q:=by
 refine I8 (λn l' tm S=>l'=l∧∃a,ok a∧tm=tmF a∧S=SF a∧n=μ a) (F8 (first λa ha=>F8 (pass a ha) λe tm' S' hq=>?_) λe tm' S' hq=>?_) λn l' tm S ⟨hl,a,ha,h1,h2,h3⟩=>⟨r,by rw[hl];exact hf,?_⟩
 ·cases e with
  |goto l'=>obtain⟨h1,a',h2,_,h4⟩:=hq;exact⟨h1,a',h2,h4⟩
  |_=>exact hq
 ·cases e with
  |goto l'=>obtain⟨h1,a,h2,h3⟩:=hq;exact⟨_,_,h3,μ a,h1,a,h2,rfl,rfl,rfl⟩
  |_=>exact hq
 ·subst h1 h2 h3
  refine F8 (pass a ha) λe tm' S' hq=>?_
  cases e with
  |goto l'=>obtain⟨h1,a',h2,h3,h4⟩:=hq;exact⟨_,_,h4,μ a',⟨h1,a',h2,rfl,rfl,rfl⟩,h3⟩
  |_=>exact hq
def cdK (P:Program) (m:Nat) (x:AV) (a b:C) (tm:List AV) (S:List Ad) (Q:QT):Prop:=match x with
 | .lit (.bool t)=>(t=true->aw P m a tm S Q)∧(t=false->aw P m b tm S Q)
 |_=>False
theorem Ag0 (a b:C):cdK P m (.lit (.bool true)) a b tm S Q=aw P m a tm S Q:=by simp[cdK]
theorem Ab5 (a b:C):cdK P m (.lit (.bool false)) a b tm S Q=aw P m b tm S Q:=by simp[cdK]
theorem Ax {t:Bool} {a b:C} (h1:t=true->aw P m a tm S Q) (h2:t=false->aw P m b tm S Q):cdK P m (.lit (.bool t)) a b tm S Q:=⟨h1,h2⟩
theorem Al9:aw P m .skip tm S Q=Q .normal tm S:=(rfl)
theorem Apw (ops:List RO) (u:List (Nat×Nat)):aw P m (.reg ops u) tm S Q=DM P ops u [] tm S (Q .normal):=(rfl)
theorem Apt (a b:C):aw P m (.seq a b) tm S Q=aw P m a tm S (Ad6 P m b Q):=(rfl)
theorem Amc (c:Operand) (a b:C):aw P m (.cond c a b) tm S Q=cdK P m (ev tm c) a b tm S Q:=by
 cases h:ev tm c with
 |lit v=>cases v<;>simp[aw,cdK,h]
 |_=>simp[aw,cdK,h]
theorem Aho (id:Nat) (c:C):aw P m (.block id c) tm S Q=aw P m c tm S (G8 id Q):=(rfl)
theorem Amb (id:Nat):aw P m (.exit id) tm S Q=Q (.exit id) tm S:=(rfl)
def Aql (m:Nat) (tm:List AV) (S:List Ad) (R:List AV->List Ad->Prop):Prop:=∃tm' S',Wk m tm S tm' S'∧R tm' S'
theorem QK {R:List AV->List Ad->Prop} {tm':List AV} {S':List Ad} (h:Wk m tm S tm' S') (k:R tm' S'):Aql m tm S R:=⟨tm',S',h,k⟩
theorem Ahn (l:Nat):aw P m (.label l) tm S Q=Aql m tm S (Q .normal):=(rfl)
theorem Ama (l:Nat):aw P m (.goto l) tm S Q=Q (.goto l) tm S:=(rfl)
theorem Apv:aw P m .ret tm S Q=Q .ret tm S:=(rfl)
def Ajh (P:Program) (m:Nat) (g:Operand) (ps:List Nat) (a b:C) (tm:List AV) (S:List Ad) (Q:QT):Prop:=aw P m (.rng g ps a b) tm S Q
theorem Apu (g:Operand) (ps:List Nat) (a b:C):aw P m (.rng g ps a b) tm S Q=Ajh P m g ps a b tm S Q:=(rfl)
def Wv (P:Program) (rest:List RO) (u:List (Nat×Nat)) (tr:List (List Nat×List Nat)) (tm:List AV) (S:List Ad) (d:Option Nat) (R:List AV->List Ad->Prop):KT:=λv rd upd new=>
 DM P rest u (tr++[(rd,upd.map (·.1)++(BG S.length new).map (·.1))]) (D1 tm d v) (CA S upd++new) R
def gdF (P:Program) (x:AV) (want:Bool) (i:I) (rest:List RO) (u:List (Nat×Nat)) (tr:List (List Nat×List Nat)) (tm:List AV) (S:List Ad) (d:Option Nat) (R:List AV->List Ad->Prop):Prop:=
 gdK x want (Cd P i (ev tm) S (Wv P rest u tr tm S d R)) (DM P rest u (tr++[([],[])]) (D1 tm d (.lit undef)) S R)
variable {rest:List RO} {u:List (Nat×Nat)} {tr:List (List Nat×List Nat)} {d:Option Nat} {R:List AV->List Ad->Prop}
theorem QI (v:AV) (rd:List Nat) (upd:List (Nat×Ad)) (new:List Ad):Wv P rest u tr tm S d R v rd upd new=DM P rest u (tr++[(rd,upd.map (·.1)++(BG S.length new).map (·.1))]) (D1 tm d v) (CA S upd++new) R:=(rfl)
theorem Aai (v:AV):Wv P rest u tr tm S d R v [] [] []=DM P rest u (tr++[([],[])]) (D1 tm d v) S R:=by
 simp[Wv,BG]
theorem Ahv:DM P [] u tr tm S R=(Og u tr=true∧R tm S):=(rfl)
theorem Ack:DM P [] [] tr tm S R=R tm S:=by simp[DM,Og]
theorem Acm (i:I):DM P ((none,i,d)::rest) u tr tm S R=Cd P i (ev tm) S (Wv P rest u tr tm S d R):=(rfl)
theorem XK (t:Nat) (want:Bool) (i:I):DM P ((some (t,want),i,d)::rest) u tr tm S R=gdF P (tm.getD t .any) want i rest u tr tm S d R:=(rfl)
theorem Anx (i:I):gdF P (.lit (.bool true)) true i rest u tr tm S d R=Cd P i (ev tm) S (Wv P rest u tr tm S d R):=(rfl)
theorem An0 (i:I):gdF P (.lit (.bool false)) false i rest u tr tm S d R=Cd P i (ev tm) S (Wv P rest u tr tm S d R):=(rfl)
theorem Any (i:I):gdF P (.lit (.bool true)) false i rest u tr tm S d R=DM P rest u (tr++[([],[])]) (D1 tm d (.lit undef)) S R:=(rfl)
theorem Anz (i:I):gdF P (.lit (.bool false)) true i rest u tr tm S d R=DM P rest u (tr++[([],[])]) (D1 tm d (.lit undef)) S R:=(rfl)
theorem Aaw (want:Bool) (i:I):gdF P (.lit undef) want i rest u tr tm S d R=DM P rest u (tr++[([],[])]) (D1 tm d (.lit undef)) S R:=(rfl)
theorem Zm (t:Nat) (v:AV):D1 tm (some t) v=tm.set t v:=(rfl)
theorem Zn (v:AV):D1 tm none v=tm:=(rfl)
theorem An4 (t:Nat):ev tm (.tmp t)=tm.getD t .any:=(rfl)
theorem Agh (v:Value):ev tm (.const v)=AV.ofC v:=(rfl)
theorem Akz (f:FuncId):ev tm (.func f)=.fn f [] []:=(rfl)
theorem Aj0 (k:IntKind) (n:Int):AV.ofC (.int k n)=.lit (.int k n):=(rfl)
theorem Aez (b:Bool):AV.ofC (.bool b)=.lit (.bool b):=(rfl)
theorem V8 (s:ByteArray):AV.ofC (.string s)=.lit (.string s):=(rfl)
theorem Ajz:AV.ofC (.slice none 0 0)=.sl .full 1 []:=(rfl)
theorem Ajy:AV.ofC (.pointer none)=.lit (.pointer none):=(rfl)
theorem Ae2 (k:IntKind) (n:Int):AV.ofC1 (.int k n)=.lit (.int k n):=(rfl)
theorem Z0 (b:Bool):AV.ofC1 (.bool b)=.lit (.bool b):=(rfl)
theorem Tg (s:ByteArray):AV.ofC1 (.string s)=.lit (.string s):=(rfl)
theorem Ae1:AV.ofC1 (.slice none 0 0)=.sl .full 1 []:=(rfl)
theorem Ae0:AV.ofC1 (.pointer none)=.lit (.pointer none):=(rfl)
theorem Oe (k:IntKind) (n:Int):(AV.lit (.int k n)).parts=some [.lit (.int k n)]:=(rfl)
theorem M0 (b:Bool):(AV.lit (.bool b)).parts=some [.lit (.bool b)]:=(rfl)
theorem KE (s:ByteArray):(AV.lit (.string s)).parts=some [.lit (.string s)]:=(rfl)
theorem Od:(AV.lit (.pointer none)).parts=some [.lit (.pointer none)]:=(rfl)
theorem ZS (xs:List AV):(AV.agg xs).parts=some xs:=(rfl)
theorem ZR (i o:Nat):(AV.ref i o).parts=some [.ref i o]:=(rfl)
theorem V2 (cs:List AV):(AV.iptr cs).parts=some [.iptr cs]:=(rfl)
theorem Ael (t:Gl) (k:Nat) (xs:List AV):(AV.sl t k xs).parts=some [.sl t k xs]:=(rfl)
theorem Aen (f:FuncId) (a b:List AV):(AV.fn f a b).parts=some [.fn f a b]:=(rfl)
theorem KU (xs:List AV):(AV.agg xs).cells=xs:=(rfl)
theorem IH (v:Value):(AV.lit v).cells=[.lit v]:=(rfl)
theorem Agz (t:Gl) (k:Nat) (xs:List AV):(AV.sl t k xs).cells=[.sl t k xs]:=(rfl)
theorem Vq (xs:List AV) (o:Nat):CB xs o []=xs:=(rfl)
theorem So (xs:List AV) (o:Nat) (c:AV) (cs:List AV):CB xs o (c::cs)=CB (xs.set o c) (o+1) cs:=(rfl)
variable {ρ:Operand->AV} {K:KT}
theorem Arb (x:Operand):Cd P (.mov x) ρ S K=K (ρ x) [] [] []:=(rfl)
theorem An8 (c a b:Operand):Cd P (.pick c a b) ρ S K=Nb (ρ c) (ρ a) (ρ b) K:=(rfl)
theorem Ara (zs:List Value):Cd P (.new zs) ρ S K=K (.ref S.length 0) [] [] [.cells (zs.map AV.ofC1)]:=(rfl)
theorem Arn (x:Operand):Cd P (.box x) ρ S K=Ng (ρ x) S.length K:=(rfl)
theorem Ald (zs:List Value) (ps:List (Nat×Nat×Operand)):Cd P (.build zs ps) ρ S K=Hc (zs.map AV.ofC1) (ps.map λp=>(p.1,p.2.1,ρ p.2.2)) K:=(rfl)
theorem Arm (k:Nat) (xs:List Operand):Cd P (.bsl k xs) ρ S K=Akj k (xs.map ρ) K:=(rfl)
theorem Aoc (n:Option Nat) (a:Operand):Cd P (.load n a) ρ S K=J4 n (ρ a) S K:=(rfl)
theorem Ak9 (n:Nat) (a x:Operand):Cd P (.store n a x) ρ S K=Jk n (ρ a) (ρ x) S K:=(rfl)
theorem An9 (x:Operand):Cd P (.nilc x) ρ S K=QJ (ρ x) K:=(rfl)
theorem Aro (op:BinOp) (x y:Operand):Cd P (.bin op x y) ρ S K=TF op (ρ x) (ρ y) K:=(rfl)
theorem Arj (b:Bool) (x y:Operand):Cd P (.eqb b x y) ρ S K=Wz b (ρ x) (ρ y) K:=(rfl)
theorem Ark (b:Bool) (n:Nat) (x y:Operand):Cd P (.eqa b n x y) ρ S K=WA b n (ρ x) (ρ y) K:=(rfl)
theorem Arh (b:Bool) (x y:Operand):Cd P (.eqp b x y) ρ S K=TD b (ρ x) (ρ y) K:=(rfl)
theorem Ats (op:UnOp) (x:Operand):Cd P (.un op x) ρ S K=kUn op (ρ x) K:=(rfl)
theorem Arl (k:IntKind) (x:Operand):Cd P (.cvt k x) ρ S K=WB k (ρ x) K:=(rfl)
theorem Arp (x:Operand):Cd P (.b2s x) ρ S K=WC (ρ x) K:=(rfl)
theorem Aq9 (x:Operand):Cd P (.s2b x) ρ S K=Wu (ρ x) K:=(rfl)
theorem Ala (k:Nat) (x:Operand) (lo hi mx:Option Operand):Cd P (.slice k x lo hi mx) ρ S K=D3 k (ρ x) (lo.map ρ) (hi.map ρ) (mx.map ρ) K:=(rfl)
theorem An6 (x:Operand) (lo hi:Option Operand):Cd P (.sstr x lo hi) ρ S K=Ps (ρ x) (lo.map ρ) (hi.map ρ) K:=(rfl)
theorem Aof (off:Nat) (x:Operand):Cd P (.fadr off x) ρ S K=J5 off (ρ x) K:=(rfl)
theorem Arf (off:Nat) (n:Option Nat) (x:Operand):Cd P (.fld off n x) ρ S K=KM off n (ρ x) K:=(rfl)
theorem Aoe (k:Nat) (x ix:Operand):Cd P (.iadr k x ix) ρ S K=Ll k (ρ x) (ρ ix) K:=(rfl)
theorem Aoh (n k:Nat) (x ix:Operand):Cd P (.aadr n k x ix) ρ S K=Lm n k (ρ x) (ρ ix) K:=(rfl)
theorem Are (n k:Nat) (a:Option Nat) (x ix:Operand):Cd P (.idx n k a x ix) ρ S K=Wx n k a (ρ x) (ρ ix) K:=(rfl)
theorem An7 (x ix:Operand):Cd P (.sidx x ix) ρ S K=Pt (ρ x) (ρ ix) K:=(rfl)
theorem Arg (x:Operand) (i:Nat):Cd P (.ext x i) ρ S K=Wy (ρ x) i K:=(rfl)
theorem Arc (f:FuncId) (a b:List Operand):Cd P (.mkf f a b) ρ S K=K (.fn f (a.map ρ) (b.map ρ)) [] [] []:=(rfl)
theorem Aog (f:Operand) (args:List Operand):Cd P (.call f args) ρ S K=Nf P (ρ f) (args.map ρ) S K:=(rfl)
theorem Arq (k b:Nat) (s x:Operand):Cd P (.app k b s x) ρ S K=QL k b (ρ s) (ρ x) S K:=(rfl)
theorem Ard (b:Bool) (x:Operand):Cd P (.len b x) ρ S K=Nc b (ρ x) K:=(rfl)
theorem Aod (n:Nat):Cd P (.lenc n) ρ S K=K (.lit (.int .i64 n)) [] [] []:=(rfl)
theorem Att (b:Bool) (x y:Operand):Cd P (.mx b x y) ρ S K=kMx b (ρ x) (ρ y) K:=(rfl)
theorem Alc:Cd P .mkmap ρ S K=K (.mapr S.length) [] [] [.raw (.imap []) []]:=(rfl)
theorem Alb (x k:Operand):Cd P (.mlook x k) ρ S K=KL (ρ x) (ρ k) S K:=(rfl)
theorem Aoa (x k v:Operand):Cd P (.mput x k v) ρ S K=Pu (ρ x) (ρ k) (ρ v) S K:=(rfl)
theorem Ari (b:Bool) (x y:Operand):Cd P (.eqf b x y) ρ S K=TE b (ρ x) (ρ y) K:=(rfl)
theorem Ae6 (i:Nat) (a:Int):KL (.mapr i) (.lit (.int .u32 a)) S K=match S[i]? with
 |some (.raw (.imap l) _)=>K (.lit (.int .i64 (FU l a))) [i] [] []
 |_=>False:=(rfl)
theorem Aj2 (i:Nat) (a u:Int):Pu (.mapr i) (.lit (.int .u32 a)) (.lit (.int .i64 u)) S K=match S[i]? with
 |some (.raw (.imap l) _)=>K .any [i] [(i,.raw (.imap (HI l a u)) [])] []
 |_=>False:=(rfl)
theorem An5 (neg:Bool) (f:FuncId) (a b:List AV):TE neg (.fn f a b) (.lit .nilFunc) K=K (.lit (.bool neg)) [] [] []:=(rfl)
theorem Ak3 (neg:Bool):TE neg (.lit .nilFunc) (.lit .nilFunc) K=K (.lit (.bool !neg)) [] [] []:=(rfl)
theorem Aey:AV.ofC .nilFunc=.lit .nilFunc:=(rfl)
theorem ZZ:AV.ofC1 .nilFunc=.lit .nilFunc:=(rfl)
theorem ZY:AV.ofC1 (.map none)=.lit (.map none):=(rfl)
theorem MZ:(AV.lit .nilFunc).parts=some [.lit .nilFunc]:=(rfl)
theorem MY:(AV.lit (.map none)).parts=some [.lit (.map none)]:=(rfl)
theorem V1 (i:Nat):(AV.mapr i).parts=some [.mapr i]:=(rfl)
theorem Akl (f:FuncId) (a b:List AV) (n:Nat):Ng (.fn f a b) n K=K (.ref n 0) [] [] [.cells [.fn f a b]]:=(rfl)
theorem Alk (q:Nat) (args:List AV):Nf P (.yv q) args S K=Ahw P q args S K:=(rfl)
theorem Aob (k b:Nat) (l c:Operand):Cd P (.mksl k b l c) ρ S K=Lj k b (ρ l) (ρ c) S.length K:=(rfl)
theorem Aaj (t:Bool) (x y:AV):Nb (.lit (.bool t)) x y K=K (bif t then x else y) [] [] []:=(rfl)
theorem Afm (op:BinOp) (k k':IntKind) (a b:Int):TF op (.lit (.int k a)) (.lit (.int k' b)) K=Db op k a k' b K:=(rfl)
theorem Afl (op:BinOp) (a b:ByteArray):TF op (.lit (.string a)) (.lit (.string b)) K=Wt op a b K:=(rfl)
theorem Aq3 (k:IntKind) (a b:Int):Db .add k a k b K=K (.lit (.int k (k.wrap (a+b)))) [] [] []:=by simp[Db]
theorem Aqq (k:IntKind) (a b:Int):Db .sub k a k b K=K (.lit (.int k (k.wrap (a-b)))) [] [] []:=by simp[Db]
theorem Aqw (k:IntKind) (a b:Int):Db .mul k a k b K=K (.lit (.int k (k.wrap (a*b)))) [] [] []:=by simp[Db]
theorem Aqu (k:IntKind) (a b:Int):Db .quo k a k b K=(b≠0∧K (.lit (.int k (k.wrap (a.tdiv b)))) [] [] []):=by simp[Db]
theorem Aqt (k:IntKind) (a b:Int):Db .rem k a k b K=(b≠0∧K (.lit (.int k (a.tmod b))) [] [] []):=by simp[Db]
theorem Aq2 (k:IntKind) (a b:Int):Db .and k a k b K=K (.lit (.int k (Cx .and k a b))) [] [] []:=by simp[Db]
theorem Atq (k:IntKind) (a b:Int):Db .or k a k b K=K (.lit (.int k (Cx .or k a b))) [] [] []:=by simp[Db]
theorem Aqp (k:IntKind) (a b:Int):Db .xor k a k b K=K (.lit (.int k (Cx .xor k a b))) [] [] []:=by simp[Db]
theorem Afp (k:IntKind) (a b:Int):Db .andNot k a k b K=K (.lit (.int k (Cx .andNot k a b))) [] [] []:=by simp[Db]
theorem Aqs (k k':IntKind) (a b:Int):Db .shl k a k' b K=(0≤b∧K (.lit (.int k (k.wrap (a*2^min b.toNat k.bits)))) [] [] []):=(rfl)
theorem Aqr (k k':IntKind) (a b:Int):Db .shr k a k' b K=(0≤b∧K (.lit (.int k (a.fdiv (2^min b.toNat k.bits)))) [] [] []):=(rfl)
theorem Aq1 (k:IntKind) (a b:Int):Db .eql k a k b K=K (.lit (.bool (a==b))) [] [] []:=by simp[Db]
theorem Aqv (k:IntKind) (a b:Int):Db .neq k a k b K=K (.lit (.bool (a != b))) [] [] []:=by simp[Db]
theorem Aqx (k:IntKind) (a b:Int):Db .lss k a k b K=K (.lit (.bool (decide (a<b)))) [] [] []:=by simp[Db]
theorem Aqy (k:IntKind) (a b:Int):Db .leq k a k b K=K (.lit (.bool (decide (a≤b)))) [] [] []:=by simp[Db]
theorem Aqz (k:IntKind) (a b:Int):Db .gtr k a k b K=K (.lit (.bool (decide (b<a)))) [] [] []:=by simp[Db]
theorem Aq0 (k:IntKind) (a b:Int):Db .geq k a k b K=K (.lit (.bool (decide (b≤a)))) [] [] []:=by simp[Db]
theorem Aqb (a b:ByteArray):Wt .eql a b K=K (.lit (.bool (a.toList==b.toList))) [] [] []:=(rfl)
theorem Aqa (a b:ByteArray):Wt .neq a b K=K (.lit (.bool (!(a.toList==b.toList)))) [] [] []:=(rfl)
theorem Afj (k:IntKind) (a:Int) (n:Nat):Ng (.lit (.int k a)) n K=K (.ref n 0) [] [] [.cells [.lit (.int k a)]]:=(rfl)
theorem Aal (b:Bool) (n:Nat):Ng (.lit (.bool b)) n K=K (.ref n 0) [] [] [.cells [.lit (.bool b)]]:=(rfl)
theorem Afk (xs:List AV) (n:Nat):Ng (.agg xs) n K=K (.ref n 0) [] [] [.cells xs]:=(rfl)
theorem Afi (i o:Nat) (n:Nat):Ng (.ref i o) n K=K (.ref n 0) [] [] [.cells [.ref i o]]:=(rfl)
theorem Akk (t:Gl) (k:Nat) (xs:List AV) (n:Nat):Ng (.sl t k xs) n K=K (.ref n 0) [] [] [.cells [.sl t k xs]]:=(rfl)
theorem Aak (cells:List AV) (ps:List (Nat×Nat×AV)):Hc cells ps K=match Ka cells ps with
 |some cs=>K (.agg cs) [] [] []
 |none=>False:=(rfl)
theorem Aa5 (cells:List AV):Ka cells []=some cells:=(rfl)
theorem WZ (cells:List AV) (off size:Nat) (x:AV) (rest:List (Nat×Nat×AV)):Ka cells ((off,size,x)::rest)=match x.parts with
 |some cs=>if cs.length=size∧off+size≤cells.length then Ka (CB cells off cs) rest else none
 |none=>none:=(rfl)
theorem Aki (k:Nat) (xs:List AV):Akj k xs K=(xs.all (ZX k)=true∧K (.sl .full k xs) [] [] []):=(rfl)
theorem A8 (k:Nat) (x:AV):ZX k x=match x.parts with
 |some cs=>cs.length==k
 |none=>false:=(rfl)
theorem Akh (x:AV) (cs:List AV):J4 none (.iptr (x::cs)) S K=K x [] [] []:=(rfl)
theorem Akg (n:Nat) (cs:List AV):J4 (some n) (.iptr cs) S K=(n≤cs.length∧K (.agg (cs.take n)) [] [] []):=(rfl)
theorem Aqk (n:Option Nat) (i o:Nat):J4 n (.ref i o) S K=match S[i]? with
 |some (.cells xs)=>match n with
  |none=>match xs[o]? with
   |some x=>K x [i] [] []
   |none=>False
  |some n=>o+n≤xs.length∧K (.agg ((xs.drop o).take n)) [i] [] []
 |_=>False:=(rfl)
theorem Am8 (n i o:Nat) (x:AV):Jk n (.ref i o) x S K=match S[i]? with
 |some (.cells xs)=>match x.parts with
  |some cs=>cs.length=n∧o+n≤xs.length∧K .any [i] [(i,.cells (CB xs o cs))] []
  |none=>False
 |_=>False:=(rfl)
theorem Anq (n:Option Nat) (j g o:Nat):J4 n (.mref j g o) S K=match S[j]? with
 |some (.mrow _ m xs)=>m=g∧match n with
  |none=>match xs[o]? with
   |some x=>K x [j] [] []
   |none=>False
  |some n=>0<n∧o+n≤xs.length∧K (.agg ((xs.drop o).take n)) [j] [] []
 |_=>False:=(rfl)
theorem Ait (n j g o:Nat) (x:AV):Jk n (.mref j g o) x S K=match S[j]? with
 |some (.mrow k m xs)=>match x.parts with
  |some cs=>m=g∧0<n∧cs.length=n∧o+n≤xs.length∧K .any [j] [(j,.mrow k m (CB xs o cs))] []
  |none=>False
 |_=>False:=(rfl)
theorem Ae3 (j g o:Nat):QJ (.mref j g o) K=K (.mref j g o) [] [] []:=(rfl)
theorem Abm (off j g o:Nat):J5 off (.mref j g o) K=K (.mref j g (o+off)) [] [] []:=(rfl)
theorem Akp (k j g:Nat) (k1:IntKind) (i:Int):Ll k (.ms j g) (.lit (.int k1 i)) K=(0≤i∧i<g∧K (.mref j g (i.toNat*k)) [] [] []):=(rfl)
theorem Anp (j g:Nat):Nc false (.ms j g) K=K (.lit (.int .i64 g)) [] [] []:=(rfl)
theorem Apx (k bytes j g ky:Nat) (t:Gl) (ys:List AV):QL k bytes (.ms j g) (.sl t ky ys) S K=match S[j]? with
 |some (.mrow k' m xs)=>k'=k∧m=g∧(ky=k∨ys=[])∧(g+ys.length)*bytes≤140737488355328∧K (.ms j (g+ys.length)) [j] [(j,.mrow k (g+ys.length) (xs++E8 ys))] []
 |_=>False:=(rfl)
theorem Amd (k bytes ks ky:Nat) (t:Gl) (xs ys:List AV):QL k bytes (.sl t ks xs) (.slc ky ys) S K=
 (t=.full∧xs=[]∧(ky=k∨ys=[])∧ys.length*bytes≤140737488355328∧K (.ms S.length ys.length) [] [] [.mrow k ys.length (E8 ys)]):=(rfl)
theorem Aem (j g:Nat):(AV.ms j g).parts=some [.ms j g]:=(rfl)
theorem Aa1 (x:AV) (ys:List AV):E8 (x::ys)=x.cells++E8 ys:=by simp[E8]
theorem Aj1 (i o:Nat):QJ (.ref i o) K=K (.ref i o) [] [] []:=(rfl)
theorem Ae4 (cs:List AV):QJ (.iptr cs) K=K (.iptr cs) [] [] []:=(rfl)
theorem Ak4 (neg a b:Bool):Wz neg (.lit (.bool a)) (.lit (.bool b)) K=K (.lit (.bool (if neg then !(a==b)else a==b))) [] [] []:=(rfl)
theorem Ak5 (neg:Bool) (n:Nat) (xs ys:List AV):WA neg n (.agg xs) (.agg ys) K=(xs.length=n∧IP xs ys=true∧K (.lit (.bool (if neg then !(ET xs ys)else ET xs ys))) [] [] []):=(rfl)
theorem UB:ET [] []=true:=(rfl)
theorem Rp (k k':IntKind) (a b:Int) (xs ys:List AV):ET (.lit (.int k a)::xs) (.lit (.int k' b)::ys)=((a==b)&&ET xs ys):=(rfl)
theorem Agi:IP [] []=true:=(rfl)
theorem Abq (k:IntKind) (a b:Int) (xs ys:List AV):IP (.lit (.int k a)::xs) (.lit (.int k b)::ys)=IP xs ys:=by simp[IP]
theorem Ak1 (neg:Bool) (i o:Nat):TD neg (.ref i o) (.lit (.pointer none)) K=K (.lit (.bool neg)) [] [] []:=(rfl)
theorem Ak2 (neg:Bool):TD neg (.lit (.pointer none)) (.lit (.pointer none)) K=K (.lit (.bool !neg)) [] [] []:=(rfl)
theorem Am3 (k:IntKind) (n:Int):kUn .neg (.lit (.int k n)) K=K (.lit (.int k (k.wrap (0-n)))) [] [] []:=(rfl)
theorem Am1 (k:IntKind) (n:Int):kUn .xor (.lit (.int k n)) K=K (.lit (.int k (Cx .xor k (if k.signed then-1 else k.max) n))) [] [] []:=(rfl)
theorem Am2 (b:Bool):kUn .not (.lit (.bool b)) K=K (.lit (.bool !b)) [] [] []:=(rfl)
theorem Alh (k k':IntKind) (n:Int):WB k (.lit (.int k' n)) K=K (.lit (.int k (k.wrap n))) [] [] []:=(rfl)
theorem Aom (t:Gl) (k:Nat) (xs:List AV):WC (.sl t k xs) K=((k=1∨xs=[])∧xs.all (·.isU8)=true∧K (.lit (.string (Fg xs))) [] [] []):=(rfl)
theorem Ajb (s:ByteArray):Wu (.lit (.string s)) K=(s.size≤140737488355328∧K (.sl .none 1 (s.data.toList.map λb=>.lit (.int .u8 b.toNat))) [] [] []):=(rfl)
theorem Ana (k ks:Nat) (t:Gl) (xs:List AV) (k1 k2:IntKind) (l h:Int):D3 k (.sl t ks xs) (some (.lit (.int k1 l))) (some (.lit (.int k2 h))) none K=
 ((ks=k∨xs=[])∧0≤l∧l≤h∧h≤xs.length∧K (.sl .none ks ((xs.drop l.toNat).take (h-l).toNat)) [] [] []):=(rfl)
theorem Ap8 (k ks:Nat) (t:Gl) (xs:List AV) (k2:IntKind) (h:Int):D3 k (.sl t ks xs) none (some (.lit (.int k2 h))) none K=
 ((ks=k∨xs=[])∧0≤h∧h≤xs.length∧K (.sl .none ks (xs.take h.toNat)) [] [] []):=by
 simp[D3,bnd,AV.i,Adz]
theorem Vs (k ks:Nat) (xs:List AV) (k1:IntKind) (l:Int):D3 k (.sl .full ks xs) (some (.lit (.int k1 l))) none none K=
 ((ks=k∨xs=[])∧0≤l∧l≤xs.length∧K (.sl .full ks (xs.drop l.toNat)) [] [] []):=by
 simp only[D3,bnd,AV.i,Adz,Int.le_refl,true_and]
 congr 4
 funext
 rw[List.take_of_length_le]
 simp;omega
theorem Vr (k ks:Nat) (xs:List AV) (k1:IntKind) (l:Int):D3 k (.sl .none ks xs) (some (.lit (.int k1 l))) none none K=
 ((ks=k∨xs=[])∧0≤l∧l≤xs.length∧K (.sl .none ks (xs.drop l.toNat)) [] [] []):=by
 simp only[D3,bnd,AV.i,Adz,Int.le_refl,true_and]
 congr 4
 funext
 rw[List.take_of_length_le]
 simp;omega
theorem Qd (k ks:Nat) (t:Gl) (xs:List AV) (k2 k3:IntKind) (h m:Int):D3 k (.sl t ks xs) none (some (.lit (.int k2 h))) (some (.lit (.int k3 m))) K=
 ((ks=k∨xs=[])∧0≤h∧h≤xs.length∧m=h∧K (.sl .full ks (xs.take h.toNat)) [] [] []):=by
 simp[D3,bnd,AV.i]
theorem Agb (off i o:Nat):J5 off (.ref i o) K=K (.ref i (o+off)) [] [] []:=(rfl)
theorem Abn (off:Nat) (cs:List AV):J5 off (.iptr cs) K=K (.iptr (cs.drop off)) [] [] []:=(rfl)
theorem Akt (off:Nat) (xs:List AV):KM off none (.agg xs) K=match xs[off]? with
 |some x=>K x [] [] []
 |none=>False:=(rfl)
theorem Aq6 (off n:Nat) (xs:List AV):KM off (some n) (.agg xs) K=(off+n≤xs.length∧K (.agg ((xs.drop off).take n)) [] [] []):=(rfl)
theorem Ako (k ks:Nat) (t:Gl) (xs:List AV) (k1:IntKind) (i:Int):Ll k (.sl t ks xs) (.lit (.int k1 i)) K=(ks=k∧0≤i∧i<xs.length∧K (.iptr (xs.getD i.toNat .any).cells) [] [] []):=(rfl)
theorem Ahu (len k i o:Nat) (k1:IntKind) (n:Int):Lm len k (.ref i o) (.lit (.int k1 n)) K=(0≤n∧n<len∧K (.ref i (o+n.toNat*k)) [] [] []):=(rfl)
theorem Acj (len k:Nat) (cs:List AV) (k1:IntKind) (n:Int):Lm len k (.iptr cs) (.lit (.int k1 n)) K=(0≤n∧n<len∧K (.iptr (cs.drop (n.toNat*k))) [] [] []):=(rfl)
theorem Akn (len k:Nat) (n:Option Nat) (xs:List AV) (k1:IntKind) (i:Int):Wx len k n (.agg xs) (.lit (.int k1 i)) K=(0≤i∧i<len∧KM (i.toNat*k) n (.agg xs) K):=(rfl)
theorem Akx (xs:List AV) (i:Nat):Wy (.tup xs) i K=match xs[i]? with
 |some x=>K x [] [] []
 |none=>False:=(rfl)
theorem All (f:FuncId) (a b args:List AV):Nf P (.fn f a b) args S K=Aa P f (a++args++b) S K:=(rfl)
theorem Ahp (k bytes ks ky:Nat) (t:Gl) (xs ys:List AV):QL k bytes (.sl .full ks xs) (.sl t ky ys) S K=
 ((ks=k∨xs=[])∧(ky=k∨ys=[])∧(xs.length+ys.length)*bytes≤140737488355328∧K (.sl (.row S.length) k (xs++ys)) [] [] [.row k (xs.length+ys.length)]):=(rfl)
theorem Ame (k bytes ks ky j:Nat) (t:Gl) (xs ys:List AV):QL k bytes (.sl (.row j) ks xs) (.sl t ky ys) S K=
 ((ks=k∨xs=[])∧(ky=k∨ys=[])∧(xs.length+ys.length)*bytes≤140737488355328∧S[j]? =some (.row k xs.length)∧K (.sl (.row j) k (xs++ys)) [j] [(j,.row k (xs.length+ys.length))] []):=(rfl)
theorem Ano (t:Gl) (k:Nat) (xs:List AV):Nc false (.sl t k xs) K=K (.lit (.int .i64 xs.length)) [] [] []:=(rfl)
theorem Akf (s:ByteArray):Nc true (.lit (.string s)) K=K (.lit (.int .i64 s.size)) [] [] []:=(rfl)
theorem Anj (b:Bool) (k k':IntKind) (x y:Int):kMx b (.lit (.int k x)) (.lit (.int k' y)) K=K (.lit (.int k (if b then(if y>x then y else x)else if y<x then y else x))) [] [] []:=(rfl)
theorem Aex (tr:List (List Nat×List Nat)):Og [] tr=true:=(rfl)
end
def SY (P:Program) (m:Nat) (fn:Func) (r:AV) (S':List Ad):QT:=λe tm S1=>(e=.ret∨e=.normal)∧AF P m fn tm S1 r S'
section
variable {P:Program} {m:Nat} {fn:Func} {r:AV} {S':List Ad} {tm:List AV} {S:List Ad}
theorem Aea:SY P m fn r S' .ret tm S=AF P m fn tm S r S':=by simp[SY]
theorem SX:SY P m fn r S' .normal tm S=AF P m fn tm S r S':=by simp[SY]
theorem An.run {f:FuncId} {c:C} {args:List AV} {tm:List AV} {n:Nat} (hf:P.funcs[f]? =some fn) (hb:fn.body.bind (AU P)=some c) (hname:(fn.name== "runtime.NumGoroutine")=false) (hn:fn.ntmps=n)
 (ht:args++List.replicate (n-args.length) .any=tm) (h:aw P S.length c tm S (SY P S.length fn r S')):An P f args S r S':=by
 cases hbd:fn.body with
 |none=>simp[hbd]at hb
 |some code=>
  simp[hbd]at hb
  refine An.body hf hbd hname hb ?_
  rw[hn,ht]
  exact h
theorem Aqg {u:List (Nat×Nat)} {tr:List (List Nat×List Nat)} {p:Prop} (h:Og u tr=true) (hp:p):Og u tr=true∧p:=⟨h,hp⟩
theorem AF.fin {rv:List RV} (hr:IV P fn=some rv) (ids:List Nat) (hn:ids.Nodup) (hl:ids.length=S'.length) (hm:m≤S'.length) (hp:ids.take m=List.range m)
 (hT:ids.map (λi=>S[i]?)=S'.map λo=>some (o.ren (AK ids S.length))) (hx0:(Ae tm S rv).map Ag=some (r.ren (AK ids S.length))):AF P m fn tm S r S':=by
 obtain⟨xs,h,hx⟩:∃xs,Ae tm S rv=some xs∧r.ren (AK ids S.length)=Ag xs:=by
  cases hq:Ae tm S rv with
  |none=>simp[hq]at hx0
  |some xs=>simp[hq]at hx0;exact⟨xs,rfl,hx0.symm⟩
 refine AF.sel (r':=Ag xs) (AF.res hr h) ids hn hl hm (λk i hk hi=>?_) (λk o ho=>?_) hx
 ·have:(ids.take m)[k]? =some i:=by rw[List.getElem?_take,if_pos (by omega)];exact hi
  rw[hp,List.getElem?_range (by omega)]at this
  injection this with this;exact this.symm
 ·have hk:k<ids.length:=by rw[hl];exact(List.getElem?_eq_some_iff.1 ho).1
  refine⟨ids[k],by simp,?_⟩
  have:=congrArg (λl:List (Option Ad)=>l[k]?) hT
  simp only[List.getElem?_map,List.getElem?_eq_getElem hk,ho,Option.map_some]at this
  injection this
theorem Ajn (ρ:Nat->Nat) (v:Value):(AV.lit v).ren ρ=.lit v:=by simp[AV.ren]
theorem Ajm (ρ:Nat->Nat) (i o:Nat):(AV.ref i o).ren ρ=.ref (ρ i) o:=by simp[AV.ren]
theorem Ang (ρ:Nat->Nat) (j g:Nat):(AV.ms j g).ren ρ=.ms (ρ j) g:=by simp[AV.ren]
theorem Ajl (ρ:Nat->Nat) (k:Nat) (xs:List AV):(AV.slc k xs).ren ρ=.slc k (xs.map λx=>x.ren ρ):=by simp[AV.ren]
theorem ZU (ρ:Nat->Nat) (k n:Nat) (xs:List AV):(Ad.mrow k n xs).ren ρ=.mrow k n (xs.map λx=>x.ren ρ):=(rfl)
theorem Ad2 (ρ:Nat->Nat) (i:Nat):(AV.mapr i).ren ρ=.mapr (ρ i):=by simp[AV.ren]
theorem Ane (ρ:Nat->Nat) (i:Nat):(AV.yv i).ren ρ=.yv (ρ i):=by simp[AV.ren]
theorem Aet (ρ:Nat->Nat) (o:E5) (xs:List AV):(Ad.raw o xs).ren ρ=.raw o (xs.map λx=>x.ren ρ):=(rfl)
theorem Qk (ρ:Nat->Nat):AV.any.ren ρ=.any:=by simp[AV.ren]
theorem X1 (ρ:Nat->Nat) (xs:List AV):(AV.agg xs).ren ρ=.agg (xs.map λx=>x.ren ρ):=by simp[AV.ren]
theorem Ajk (ρ:Nat->Nat) (xs:List AV):(AV.tup xs).ren ρ=.tup (xs.map λx=>x.ren ρ):=by simp[AV.ren]
theorem Anf (ρ:Nat->Nat) (t:Gl) (k:Nat) (xs:List AV):(AV.sl t k xs).ren ρ=.sl (t.ren ρ) k (xs.map λx=>x.ren ρ):=by simp[AV.ren]
theorem Ani (ρ:Nat->Nat) (f:FuncId) (a b:List AV):(AV.fn f a b).ren ρ=.fn f (a.map λx=>x.ren ρ) (b.map λx=>x.ren ρ):=by simp[AV.ren]
theorem YX (ρ:Nat->Nat):Gl.none.ren ρ=.none:=(rfl)
theorem YY (ρ:Nat->Nat):Gl.full.ren ρ=.full:=(rfl)
theorem Ac1 (ρ:Nat->Nat) (j:Nat):(Gl.row j).ren ρ=.row (ρ j):=(rfl)
theorem V4 (ρ:Nat->Nat) (xs:List AV):(Ad.cells xs).ren ρ=.cells (xs.map λx=>x.ren ρ):=(rfl)
theorem Aes (ρ:Nat->Nat) (k n:Nat):(Ad.row k n).ren ρ=.row k n:=(rfl)
theorem ZV (ρ:Nat->Nat):Ad.dead.ren ρ=.dead:=(rfl)
theorem AT (i:Nat) (ids:List Nat) (N:Nat):AK (i::ids) N 0=i:=(rfl)
theorem Aqo (i j:Nat) (ids:List Nat) (N:Nat):AK (i::j::ids) N 1=j:=(rfl)
theorem Aqn (i j k:Nat) (ids:List Nat) (N:Nat):AK (i::j::k::ids) N 2=k:=(rfl)
theorem Aqm (i j k l:Nat) (ids:List Nat) (N:Nat):AK (i::j::k::l::ids) N 3=l:=(rfl)
def A2 (k:IntKind) (l:List Int):List AV:=l.map λz=>.lit (.int k z)
theorem AN (ρ:Nat->Nat) (k:IntKind) (l:List Int):(A2 k l).map (λx=>x.ren ρ)=A2 k l:=by simp[A2,AV.ren]
theorem Ab (k:IntKind) (l:List Int):(A2 k l).length=l.length:=by simp[A2]
theorem CV (k:IntKind) (l m:List Int):A2 k l++A2 k m=A2 k (l++m):=by simp[A2]
theorem Afn (k:IntKind):A2 k []=[]:=(rfl)
theorem CC (k:IntKind) (l:List Int) (i:Nat) (h:i<l.length):(A2 k l).getD i .any=.lit (.int k (l.getD i 0)):=by
 simp[A2,h]
theorem DD (k:IntKind) (l:List Int) (n:Nat):(A2 k l).take n=A2 k (l.take n):=by simp[A2]
theorem Cb (k:IntKind) (l:List Int) (n:Nat):(A2 k l).drop n=A2 k (l.drop n):=by simp[A2]
theorem L9 (l:List Int):(A2 .u8 l).all (·.isU8)=true:=by simp[A2,AV.isU8]
theorem Tf (k:IntKind) (z:Int):ZX 1 (.lit (.int k z))=true:=(rfl)
theorem Aao (k:IntKind) (l:List Int):(A2 k l).all (ZX 1)=true:=by simp[A2,Tf]
theorem Ap6:IntKind.i64.wrap 1=1:=(rfl)
theorem Ap5:IntKind.i64.wrap 2=2:=(rfl)
theorem Ap4:IntKind.i64.wrap 3=3:=(rfl)
theorem Ap3:IntKind.i64.wrap 4=4:=(rfl)
def HL:AV->AV
 | .sl _ k xs=>.sl .none k xs
 |x=>x
def untag:AV->AV
 | .sl _ k xs=>.sl .none k xs
 | .agg xs=>.agg (xs.map HL)
 |x=>x
theorem FG {G:Gh} {x:AV} {v:Value} (r:BE G x v):BE G (HL x) v:=by
 cases x with
 |sl t k xs=>cases r with
  |sl vs hc hA hk h1 h2 h3 ht=>exact .sl vs hc hA hk h1 h2 h3 trivial
 |_=>exact r
theorem Zz {G:Gh} {x:AV} {v:Value} (r:BE G x v):BE G (untag x) v:=by
 cases x with
 |sl t k xs=>exact FG (x:=.sl t k xs) r
 |agg xs=>cases r with
  |agg h0 h2 h3=>exact .agg (by simpa using h0) h2 (λj x v hx hv=>by
    obtain⟨y,hy,rfl⟩:=Be hx
    exact FG (h3 j y v hy hv))
 |_=>exact r
theorem Wk.untag {tm:List AV} {S:List Ad} (t:Nat) {x:AV} (ht:tm[t]? =some x):Wk m tm S (tm.set t (HL x)) S:=λG0 S0 w0 G a w _ hz=>by
 have htl:=(List.getElem?_eq_some_iff.1 ht).1
 refine⟨G,hz.left,by simp[hz.size],λt' y u hx hu=>?_,hz.defers,hz.wd0⟩
 by_cases et:t'=t
 ·subst et
  simp[htl]at hx;subst hx
  exact FG (hz.rep t' x u ht hu)
 ·rw[List.getElem?_set_ne (Ne.symm et)]at hx
  exact hz.rep t' y u hx hu
theorem AF.untag (t:Nat) {x:AV} (ht:tm[t]? =some x) (h:AF P m fn (tm.set t (HL x)) S r S'):AF P m fn tm S r S':=AF.wk (Wk.untag t ht) h
theorem Wk.nilk {tm:List AV} {S:List Ad} (t k:Nat) {g:Gl} {k':Nat} (ht:tm[t]? =some (.sl g k' [])):Wk m tm S (tm.set t (.sl .none k [])) S:=λG0 S0 w0 G a w _ hz=>by
 have htl:=(List.getElem?_eq_some_iff.1 ht).1
 refine⟨G,hz.left,by simp[hz.size],λt' y u hx hu=>?_,hz.defers,hz.wd0⟩
 by_cases et:t'=t
 ·subst et
  simp[htl]at hx;subst hx
  exact(FG (hz.rep t' _ u ht hu)).rek
 ·rw[List.getElem?_set_ne (Ne.symm et)]at hx
  exact hz.rep t' y u hx hu
theorem AF.nilk (t k:Nat) {g:Gl} {k':Nat} (ht:tm[t]? =some (.sl g k' [])) (h:AF P m fn (tm.set t (.sl .none k [])) S r S'):AF P m fn tm S r S':=AF.wk (Wk.nilk t k ht) h
theorem Wk.unobj {tm:List AV} {S:List Ad} (i:Nat) {xs:List AV} (hi:S[i]? =some (.cells xs)):Wk m tm S tm (S.set i (.cells (xs.map HL))):=λG0 S0 w0 G a w _ hz=>by
 refine⟨G,hz.left.trans (Bf.reobj hz.left.wd hi (by simp) λk x v hx h=>?_),hz.size,hz.rep,hz.defers,hz.wd0⟩
 obtain⟨y,hy,rfl⟩:=Be hx
 exact FG (h y hy)
theorem AF.unobj (i:Nat) {xs:List AV} (hi:S[i]? =some (.cells xs)) (h:AF P m fn tm (S.set i (.cells (xs.map HL))) r S'):AF P m fn tm S r S':=AF.wk (Wk.unobj i hi) h
theorem Mi (v:Value):HL (.lit v)=.lit v:=(rfl)
theorem Au (t:Gl) (k:Nat) (xs:List AV):HL (.sl t k xs)=.sl .none k xs:=(rfl)
theorem An.untag {f:FuncId} {args:List AV} {S:List Ad} (h:An P f (args.map untag) S r S'):An P f args S r S':=
 ⟨h.1,λG w vs hw hr=>h.2 G w vs hw ⟨by simpa using hr.1,λj x v hx hv=>by
   obtain⟨y,hy,rfl⟩:=Be hx
   exact Zz (hr.2 j y v hy hv)⟩⟩
theorem Ct.untag {f:FuncId} {args:List AV} {rd:List (Nat×Ad)} {r:Nat->AV} {upd:List (Nat×Ad)} {new:Nat->List Ad} (h:Ct P f (args.map untag) rd r upd new):Ct P f args rd r upd new:=
 λT n h1 h2=>(h T n h1 h2).untag
theorem Ct.p {f:FuncId} {args:List AV} {r:AV} (h:An P f args [] r []) (ha:∀ρ,args.map (λx=>x.ren ρ)=args) (hr:∀ρ,r.ren ρ=r):Ct P f args [] (λ_=>r) [] (λ_=>[]):=
 Ct.mk h [] (by simp) rfl (by simp) (by simp) (λn N=>ha _) (λn N=>hr _) (λn N=>rfl) (.inl λn N=>rfl) (λn N=>rfl)
theorem Ct.r1 {f:FuncId} {args args₀:List AV} {o:Ad} {r:AV} (h:An P f args₀ [o] r [o]) (i:Nat) (ha:∀N,args₀.map (λx=>x.ren (AK [i] N))=args) (ho:∀ρ,o.ren ρ=o) (hd:o≠ .dead) (hr:∀ρ,r.ren ρ=r):Ct P f args [(i,o)] (λ_=>r) [] (λ_=>[]):=
 Ct.mk h [i] (by simp) rfl (by simp) (by simpa using hd) (λn N=>ha N) (λn N=>hr _) (λn N=>by simp[ho]) (.inr ⟨rfl,rfl⟩) (λn N=>rfl)
theorem Ct.u1 {f:FuncId} {args args₀:List AV} {o o':Ad} {r:AV} (h:An P f args₀ [o] r [o']) (i:Nat) (ha:∀N,args₀.map (λx=>x.ren (AK [i] N))=args) (ho:∀ρ,o.ren ρ=o) (ho':∀ρ,o'.ren ρ=o') (hd:o≠ .dead) (hr:∀ρ,r.ren ρ=r):
 Ct P f args [(i,o)] (λ_=>r) [(i,o')] (λ_=>[]):=
 Ct.mk h [i] (by simp) rfl (by simp) (by simpa using hd) (λn N=>ha N) (λn N=>hr _) (λn N=>by simp[ho]) (.inl λn N=>by simp[ho']) (λn N=>rfl)
theorem Ct.n {f:FuncId} {args:List AV} {r₀:AV} {r:Nat->AV} {S₁:List Ad} {new:Nat->List Ad} (h:An P f args [] r₀ S₁) (ha:∀ρ,args.map (λx=>x.ren ρ)=args) (hr:∀n N,r₀.ren (AK (List.range' n S₁.length) N)=r n)
 (hn:∀n N,(S₁.map λo=>o.ren (AK (List.range' n S₁.length) N))=new n):Ct P f args [] r [] new:=
 Ct.mk h [] (by simp) rfl (by simp) (by simp) (λn N=>ha _) (λn N=>by simpa using hr n N) (λn N=>rfl) (.inl λn N=>rfl) (λn N=>by simpa using hn n N)
theorem Ct.un {f:FuncId} {args args₀:List AV} {o o':Ad} {r₀:AV} {r:Nat->AV} {S₁:List Ad} {new:Nat->List Ad} (h:An P f args₀ [o] r₀ (o'::S₁)) (i:Nat) (ha:∀n N,args₀.map (λx=>x.ren (AK (i::List.range' n S₁.length) N))=args) (ho:∀ρ,o.ren ρ=o) (ho':∀ρ,o'.ren ρ=o') (hd:o≠ .dead)
 (hr:∀n N,r₀.ren (AK (i::List.range' n S₁.length) N)=r n) (hn:∀n N,(S₁.map λo=>o.ren (AK (i::List.range' n S₁.length) N))=new n):Ct P f args [(i,o)] r [(i,o')] new:=
 Ct.mk h [i] (by simp) rfl (by simp) (by simpa using hd) (λn N=>by simpa using ha n N) (λn N=>by simpa using hr n N) (λn N=>by simp[ho]) (.inl λn N=>by simp[ho']) (λn N=>by simpa using hn n N)
theorem An.toCt {f:FuncId} {args:List AV} {r:AV} (h:An P f args [] r []) (ha:∀ρ,args.map (λx=>x.ren ρ)=args) (hr:∀ρ,r.ren ρ=r):Ct P f args [] (λ_=>r) [] (λ_=>[]):=Ct.p h ha hr
variable {K:KT} {f:FuncId} {args:List AV}
theorem Aa.p {r:AV} (h:Ct P f (args.map Proofs.YtileggkdbaejoaaGreat.untag) [] (λ_=>r) [] (λ_=>[])) (hK:K r [] [] []):Aa P f args S K:=Aa.of h.untag (by simp) (by simp) hK
theorem Aa.r1 {r:AV} {i:Nat} {o:Ad} (h:Ct P f (args.map Proofs.YtileggkdbaejoaaGreat.untag) [(i,o)] (λ_=>r) [] (λ_=>[])) (hS:S[i]? =some o) (hK:K r [i] [] []):Aa P f args S K:=Aa.of h.untag (by simpa using hS) (by simp) hK
theorem Aa.u1 {r:AV} {i:Nat} {o o':Ad} (h:Ct P f (args.map Proofs.YtileggkdbaejoaaGreat.untag) [(i,o)] (λ_=>r) [(i,o')] (λ_=>[])) (hS:S[i]? =some o) (hK:K r [i] [(i,o')] []):Aa P f args S K:=Aa.of h.untag (by simpa using hS) (by simp) hK
theorem Aa.n {r:Nat->AV} {new:Nat->List Ad} (h:Ct P f (args.map Proofs.YtileggkdbaejoaaGreat.untag) [] r [] new) (hK:K (r S.length) [] [] (new S.length)):Aa P f args S K:=Aa.of h.untag (by simp) (by simp) hK
theorem Aa.un {r:Nat->AV} {i:Nat} {o o':Ad} {new:Nat->List Ad} (h:Ct P f (args.map Proofs.YtileggkdbaejoaaGreat.untag) [(i,o)] r [(i,o')] new) (hS:S[i]? =some o) (hK:K (r S.length) [i] [(i,o')] (new S.length)):Aa P f args S K:=Aa.of h.untag (by simpa using hS) (by simp) hK
end
section
variable {P:Program} {S:List Ad} {K:KT} {f:FuncId} {args args₀:List AV}
theorem Ct.u2 {o₀ p₀ o₁ p₁ o p o' p':Ad} {r:AV} (h:An P f args₀ [o₀,p₀] r [o₁,p₁]) (i j:Nat) (hij:i≠j) (ha:∀N,args₀.map (λx=>x.ren (AK [i,j] N))=args)
 (ho:∀N,o₀.ren (AK [i,j] N)=o) (hp:∀N,p₀.ren (AK [i,j] N)=p) (ho':∀N,o₁.ren (AK [i,j] N)=o') (hp':∀N,p₁.ren (AK [i,j] N)=p') (hd:o₀≠ .dead) (hd':p₀≠ .dead) (hr:∀ρ,r.ren ρ=r):
 Ct P f args [(i,o),(j,p)] (λ_=>r) [(i,o'),(j,p')] (λ_=>[]):=
 Ct.mk h [i,j] (by simpa using hij) rfl (by simp) (by simp[hd,hd']) (λn N=>by simpa using ha N) (λn N=>hr _) (λn N=>by simp[ho,hp]) (.inl λn N=>by simp[ho',hp']) (λn N=>rfl)
theorem Ct.r2 {o₀ p₀ o p:Ad} {r:AV} (h:An P f args₀ [o₀,p₀] r [o₀,p₀]) (i j:Nat) (hij:i≠j) (ha:∀N,args₀.map (λx=>x.ren (AK [i,j] N))=args)
 (ho:∀N,o₀.ren (AK [i,j] N)=o) (hp:∀N,p₀.ren (AK [i,j] N)=p) (hd:o₀≠ .dead) (hd':p₀≠ .dead) (hr:∀ρ,r.ren ρ=r):
 Ct P f args [(i,o),(j,p)] (λ_=>r) [] (λ_=>[]):=
 Ct.mk h [i,j] (by simpa using hij) rfl (by simp) (by simp[hd,hd']) (λn N=>by simpa using ha N) (λn N=>hr _) (λn N=>by simp[ho,hp]) (.inr ⟨rfl,rfl⟩) (λn N=>rfl)
theorem Aa.r2 {r:AV} {i j:Nat} {o p:Ad} (h:Ct P f (args.map Proofs.YtileggkdbaejoaaGreat.untag) [(i,o),(j,p)] (λ_=>r) [] (λ_=>[])) (hS:S[i]? =some o) (hS':S[j]? =some p) (hK:K r [i,j] [] []):Aa P f args S K:=Aa.of h.untag (by simp[hS,hS']) (by simp) hK
theorem Aa.u2 {r:AV} {i j:Nat} {o p o' p':Ad} (h:Ct P f (args.map Proofs.YtileggkdbaejoaaGreat.untag) [(i,o),(j,p)] (λ_=>r) [(i,o'),(j,p')] (λ_=>[])) (hS:S[i]? =some o) (hS':S[j]? =some p) (hK:K r [i,j] [(i,o'),(j,p')] []):Aa P f args S K:=Aa.of h.untag (by simp[hS,hS']) (by simp) hK
end
attribute [go_sem]
 Sz SW Ad8 ZJ ZI Qp ZK VV N9 VU SV SU MQ ST
 Qo Qn SS Ad5 ZH ZG N_ VW S3 SZ Ag0 Ab5 Al9 Apw
 Apt Amc Aho Amb Ahn Ama Apv Aai Ahv Ack Acm XK Anx An0
 Any Anz Aaw Zm Zn An4 Agh Akz Aj0 Aez V8 Ajz Ajy Ae2
 Z0 Tg Ae1 Ae0 Oe M0 KE Od ZS ZR V2 Ael Aen KU
 IH Agz Vq So Arb An8 Ara Arn Ald Arm Aoc Ak9 An9 Aro
 Arj Ark Arh Ats Arl Arp Aq9 Ala An6 Aof Arf Aoe Aoh Are
 An7 Arg Arc Aog Arq Ard Aod Att Aob Aaj Afm Afl Aq3 Aqq
 Aqw Aqu Aqt Aq2 Atq Aqp Afp Aqs Aqr Aq1 Aqv Aqx Aqy Aqz
 Aq0 Aqb Aqa Afj Aal Afk Afi Akk Aak Aa5 WZ Aki A8 Akh
 Akg Aqk Am8 Anq Ait Ae3 Abm Akp Anp Apx Amd Aem Aa1 Afz Aj1 Ae4 Ak4 Ak5 UB Rp Agi Abq Ak1 Ak2 Am3
 Am1 Am2 Alh Aom Ajb Agb Abn Akt Aq6 Ako Ahu Acj Akn Akx All
 Ahp Ame Ano Akf Anj Aex Ana Ap8 Vs Vr Qd QI List.getD_cons_zero List.getD_cons_succ
 List.set_cons_zero List.set_cons_succ List.getElem?_cons_zero List.getElem?_cons_succ List.map_cons List.map_nil List.length_cons List.length_nil List.nil_append List.cons_append List.append_nil Mh CQ BG
 List.replicate Nat.zero_add Nat.add_zero Option.map_some Option.map_none List.drop_zero List.drop_succ_cons List.take_succ_cons List.take_zero List.drop_nil List.take_nil and_true true_and Nat.le_refl
 Int.le_refl Nat.zero_le Bool.false_eq_true or_true true_or Bool.not_true Bool.not_false cond_true cond_false Int.cast_ofNat_Int List.all_cons List.all_nil Tf Aao
 Bool.and_true Bool.and_self decide_false decide_true beq_self_eq_true bne_self_eq_false Ap6 Ap5 Ap4 Ap3
 Apu Alc Alb Aoa Ari Ae6 Aj2 An5 Ak3 Aey ZZ ZY MZ MY V1 Akl Alk
section
variable {P:Program} {m:Nat} {tm:List AV} {S:List Ad} {Q:QT}
theorem Ady {c:C} (h:aw P m c tm S (Jc (α:=Unit) m 0 (λ_=>[]) (λ_=>[]) (λ_=>False) Q)):aw P m (.scope c) tm S Q:=by
 refine I8 (λ_ _ _ _=>False) (F8 h λe tm' S' hq=>?_) λn l' tm S h=>h.elim
 cases e with
 |goto l'=>obtain⟨_,a,h2,_⟩:=hq;exact h2.elim
 |_=>exact hq
end
attribute [simp] Ad2 Ane Aet Ang Ajl ZU Ajn Ajm Qk X1 Ajk Anf Ani YX YY Ac1 V4 Aes ZV AT Aqo Aqn Aqm AN Afn
attribute [go_sem] Aea SX zM zV zF zL zN zS zC zE zU zB zI zJ Ap2
theorem cl {p:Prop} (h:p:=by(intros;simp[AK,List.range'_succ])):p:=h
theorem sd {p:Prop} (h:p:=by first|with_reducible assumption|omega|with_reducible rfl|(simp only[List.length_append,List.length_cons,List.length_nil,List.length_singleton];omega)|(simp[Ab,A8,AV.parts];done)|(simp[Ab,A8,AV.parts];omega)|rfl):p:=h
section
variable {P:Program} {m:Nat} {fn:Func} {r:AV} {S':List Ad} {tm:List AV} {S:List Ad}
theorem AF.finB {rv:List RV} (hr:IV P fn=some rv) (ids:List Nat) (hT:ids.map (λi=>S[i]?)=S'.map λo=>some (o.ren (AK ids S.length))) (hx0:(Ae tm S rv).map Ag=some (r.ren (AK ids S.length)))
 (hn:ids.Nodup:=by decide) (hl:ids.length=S'.length:=by rfl) (hm:m≤S'.length:=by simp) (hp:ids.take m=List.range m:=by rfl):AF P m fn tm S r S':=AF.fin hr ids hn hl hm hp hT hx0
theorem AF.finA {rv:List RV} (hr:IV P fn=some rv) (ids:List Nat) (hn:ids.Nodup:=by decide) (hl:ids.length=S'.length:=by rfl) (hm:m≤S'.length:=by simp) (hp:ids.take m=List.range m:=by rfl)
 (hT:ids.map (λi=>S[i]?)=S'.map (λo=>some (o.ren (AK ids S.length))):=by first|with_reducible rfl|(simp;done)|rfl) (hx0:(Ae tm S rv).map Ag=some (r.ren (AK ids S.length)):=by simp[Ae,Ah,Ai,Ag]):AF P m fn tm S r S':=AF.fin hr ids hn hl hm hp hT hx0
theorem An.runA {f:FuncId} {c:C} {args:List AV} {n:Nat} (hf:P.funcs[f]? =some fn) (hb:fn.body.bind (AU P)=some c) (hname:(fn.name== "runtime.NumGoroutine")=false) (hn:fn.ntmps=n) (h:aw P S.length c tm S (SY P S.length fn r S'))
 (ht:args++List.replicate (n-args.length) .any=tm:=by simp only[List.cons_append,List.nil_append,List.length_cons,List.length_nil,Nat.zero_add,Nat.reduceAdd,Nat.reduceSub,List.replicate];rfl):An P f args S r S':=An.run hf hb hname hn ht h
end
theorem G9 {u:List (Nat×Nat)} {tr:List (List Nat×List Nat)} {p:Prop} (h:Og u tr=true):(Og u tr=true∧p)=p:=by rw[h];simp
structure U (a:Prop):Prop where
 i:a
theorem mp {a b:Prop} (x:b) (h:a=b:=by simp only[go_sem,seval];first|((with_reducible refine G9 ?_);exact rfl)|exact rfl):U a:=⟨h.mpr x⟩
theorem mok {a b:Prop} (x:b) (h:a=b:=by first|((with_reducible refine G9 ?_);exact rfl)|exact rfl):U a:=⟨h.mpr x⟩
theorem mq {p a b:Prop} (e:p) (x:b) (h:p->a=b:=by intro e;simp only[go_sem,seval,e];first|((with_reducible refine G9 ?_);exact rfl)|exact rfl):U a:=⟨(h e).mpr x⟩
theorem mr {p q a b:Prop} (e:p) (f:q) (x:b) (h:p->q->a=b:=by intro e f;simp only[go_sem,seval,e,f];first|((with_reducible refine G9 ?_);exact rfl)|exact rfl):U a:=⟨(h e f).mpr x⟩
theorem ms {p q r a b:Prop} (e:p) (f:q) (g:r) (x:b) (h:p->q->r->a=b:=by intro e f g;simp only[go_sem,seval,e,f,g];first|((with_reducible refine G9 ?_);exact rfl)|exact rfl):U a:=⟨(h e f g).mpr x⟩
theorem mt {p q r s a b:Prop} (e:p) (f:q) (g:r) (k:s) (x:b) (h:p->q->r->s->a=b:=by intro e f g k;simp only[go_sem,seval,e,f,g,k];first|((with_reducible refine G9 ?_);exact rfl)|exact rfl):U a:=⟨(h e f g k).mpr x⟩
theorem kr {p:Prop} (h:p:=by kernel_rfl):p:=h
def Is (P:Program) (f:Func) (c:C) (r:List RV) (n:Nat):Prop:=((f.body.bind (AU P)).bind λc=>(IV P f).bind λr=>cond (f.name== "runtime.NumGoroutine") none (some (c,r,f.ntmps)))=some (c,r,n)
theorem Is.all {P:Program} {f:Func} {c:C} {r:List RV} {n:Nat} (h:Is P f c r n):f.body.bind (AU P)=some c∧IV P f=some r∧(f.name== "runtime.NumGoroutine")=false∧f.ntmps=n:=by
 unfold Is at h
 cases h1:f.body.bind (AU P) with
 |none=>rw[h1]at h;cases h
 |some c1=>
  rw[h1]at h
  cases h2:IV P f with
  |none=>rw[h2]at h;cases h
  |some r1=>
   rw[h2]at h
   cases h3:f.name== "runtime.NumGoroutine" with
   |true=>rw[h3]at h;cases h
   |false=>rw[h3]at h;cases h;exact⟨rfl,rfl,rfl,rfl⟩
theorem ki {P:Program} {f:Func} {c:C} {r:List RV} {n:Nat} (h:((f.body.bind (AU P)).bind λc=>(IV P f).bind λr=>cond (f.name== "runtime.NumGoroutine") none (some (c,r,f.ntmps)))=some (c,r,n):=by kernel_rfl):Is P f c r n:=h
section
variable {P:Program} {m:Nat} {fn:Func} {r:AV} {S':List Ad} {tm:List AV} {S:List Ad} {c:C} {rv:List RV} {n:Nat}
theorem RN {f:FuncId} {args:List AV} (hf:P.funcs[f]?=some fn) (hb:Is P fn c rv n) (h:aw P S.length c tm S (SY P S.length fn r S')) (ht:args++List.replicate (n-args.length) .any=tm:=by simp only[List.cons_append,List.nil_append,List.length_cons,List.length_nil,Nat.zero_add,Nat.reduceAdd,Nat.reduceSub,List.replicate];rfl):An P f args S r S':=An.run hf hb.all.1 hb.all.2.2.1 hb.all.2.2.2 ht h
theorem RM {f:FuncId} {args:List AV} {b:Prop} (hf:P.funcs[f]?=some fn) (hb:Is P fn c rv n) (x:b) (ht:args++List.replicate (n-args.length) .any=tm:=by simp only[List.cons_append,List.nil_append,List.length_cons,List.length_nil,Nat.zero_add,Nat.reduceAdd,Nat.reduceSub,List.replicate];rfl) (h:aw P S.length c tm S (SY P S.length fn r S')=b:=by simp only[go_sem,seval];first|((with_reducible refine G9 ?_);exact rfl)|exact rfl):An P f args S r S':=RN hf hb (h.mpr x) ht
theorem FB (hr:Is P fn c rv n) (ids:List Nat) (hT:ids.map (λi=>S[i]?)=S'.map λo=>some (o.ren (AK ids S.length))) (hx0:(Ae tm S rv).map Ag=some (r.ren (AK ids S.length))) (hn:ids.Nodup:=by decide) (hl:ids.length=S'.length:=by rfl) (hm:m≤S'.length:=by simp) (hp:ids.take m=List.range m:=by rfl):AF P m fn tm S r S':=AF.fin hr.all.2.1 ids hn hl hm hp hT hx0
theorem FA (hr:Is P fn c rv n) (ids:List Nat) (hn:ids.Nodup:=by decide) (hl:ids.length=S'.length:=by rfl) (hm:m≤S'.length:=by simp) (hp:ids.take m=List.range m:=by rfl) (hT:ids.map (λi=>S[i]?)=S'.map (λo=>some (o.ren (AK ids S.length))):=by first|with_reducible rfl|(simp;done)|rfl) (hx0:(Ae tm S rv).map Ag=some (r.ren (AK ids S.length)):=by simp[Ae,Ah,Ai,Ag]):AF P m fn tm S r S':=AF.fin hr.all.2.1 ids hn hl hm hp hT hx0
theorem FE {p:Prop} (hr:Is P fn c rv n) (ids:List Nat) (e:p) (hn:ids.Nodup:=by decide) (hl:ids.length=S'.length:=by rfl) (hm:m≤S'.length:=by simp) (hp:ids.take m=List.range m:=by rfl) (hT:p->ids.map (λi=>S[i]?)=S'.map (λo=>some (o.ren (AK ids S.length))):=by intro e;first|with_reducible rfl|(simp[e];done)|rfl) (hx0:p->(Ae tm S rv).map Ag=some (r.ren (AK ids S.length)):=by intro e;simp[Ae,Ah,Ai,Ag,e]):AF P m fn tm S r S':=AF.fin hr.all.2.1 ids hn hl hm hp (hT e) (hx0 e)
theorem FF {p q:Prop} (hr:Is P fn c rv n) (ids:List Nat) (e:p) (f:q) (hn:ids.Nodup:=by decide) (hl:ids.length=S'.length:=by rfl) (hm:m≤S'.length:=by simp) (hp:ids.take m=List.range m:=by rfl) (hT:p->q->ids.map (λi=>S[i]?)=S'.map (λo=>some (o.ren (AK ids S.length))):=by intro e f;first|with_reducible rfl|(simp[e,f];done)|rfl) (hx0:p->q->(Ae tm S rv).map Ag=some (r.ren (AK ids S.length)):=by intro e f;simp[Ae,Ah,Ai,Ag,e,f]):AF P m fn tm S r S':=AF.fin hr.all.2.1 ids hn hl hm hp (hT e f) (hx0 e f)
end
def zA (a b d:Nat):RO:=(none,.pick (.tmp a) (.tmp b) (.const (.bool .false)),some d)
def zO (a b d:Nat):RO:=(none,.pick (.tmp a) (.const (.bool .true)) (.tmp b),some d)
def zH (a d:Nat):RO:=(none,.nilc (.tmp a),some d)
def zQ (a d:Nat):RO:=(none,.un .not (.tmp a),some d)
def zX (l:List Value) (d:Nat):RO:=(none,.new l,some d)
def zY (a d:Nat):RO:=(none,.box (.tmp a),some d)
def zK (k:IntKind) (a d:Nat):RO:=(none,.cvt k (.tmp a),some d)
def zP (k b s x d:Nat):RO:=(none,.app k b (.tmp s) (.tmp x),some d)
def zD (l:List Value) (p:List (Nat×Nat×Operand)) (d:Nat):RO:=(none,.build l p,some d)
def zR (f:FuncId) (l:List Operand) (d:Nat):RO:=(none,.call (.func f) l,some d)
def zW (o:I) (d:Nat):RO:=(none,o,some d)
def zT (t:Nat) (r:RO):RO:=zG t true r
def zZ (t:Nat) (r:RO):RO:=zG t false r
def zk (n:Int):Operand:=.const (.int .i64 n)
def zi:Value:=.int .i64 0
def zu:Value:=.int .u64 0
def zn:Value:=.slice none 0 0
def zq (l:List RO) (x:C):C:=.seq (.reg l []) x
def zc (a:Nat) (x:C):C:=.cond (.tmp a) x .skip
attribute [go_sem] List.zip_cons_cons List.zip_nil_right zA zO zH zQ zX zY zK zP zD zR zW zT zZ zk zi zu zn zq zc
def FQ (c:Nat):Nat:=if c%2=1 then(c/2)^^^2197175160 else c/2
def BC:Nat->Nat->Nat
 |0,c=>c
 |n+1,c=>BC n (FQ c)
theorem Acq (a b:Nat):(a^^^b)%2=(a%2+b%2)%2:=by
 have h:(a^^^b)%2^1=(a%2^1)^^^(b%2^1):=Nat.xor_mod_two_pow
 rw[Nat.pow_one]at h
 rw[h]
 rcases Nat.mod_two_eq_zero_or_one a with ha|ha<;>rcases Nat.mod_two_eq_zero_or_one b with hb|hb<;>rw[ha,hb]<;>rfl
theorem nxl (a b c:Nat):a^^^(b^^^c)=b^^^(a^^^c):=by rw[←Nat.xor_assoc,Nat.xor_comm a b,Nat.xor_assoc]
theorem Aby (a b:Nat):FQ (a^^^b)=FQ a^^^FQ b:=by
 have hm:=Acq a b
 have hd:(a^^^b)/2=a/2^^^b/2:=Nat.xor_div_two
 unfold FQ
 rw[hd]
 rcases Nat.mod_two_eq_zero_or_one a with ha|ha<;>rcases Nat.mod_two_eq_zero_or_one b with hb|hb<;>rw[ha,hb]at hm<;>simp only[hm,ha,hb]
 ·simp
 ·simp[Nat.xor_assoc]
 ·simp only[if_pos,Nat.reduceAdd,Nat.reduceMod]
  simp[Nat.xor_assoc]
  rw[Nat.xor_comm (b/2)]
 ·simp[Nat.xor_assoc,nxl]
  rw[Nat.xor_comm (a/2)]
theorem Xo (n:Nat):∀a b:Nat,BC n (a^^^b)=BC n a^^^BC n b:=by
 induction n with
 |zero=>intro a b;rfl
 |succ n ih=>intro a b;simp only[BC,Aby,ih]
theorem Abz (m:Nat):FQ (2*m)=m:=by
 unfold FQ
 rw[if_neg (by omega)];omega
theorem Xp (n:Nat):∀m:Nat,BC n (2^n*m)=m:=by
 induction n with
 |zero=>intro m;simp[BC]
 |succ n ih=>
  intro m
  rw[BC,Nat.pow_succ,show 2^n*2*m=2*(2^n*m)from by rw[Nat.mul_comm (2^n) 2,Nat.mul_assoc],Abz,ih]
theorem Agq {c:Nat} (h:c<4294967296):FQ c<4294967296:=by
 unfold FQ
 split
 ·have:c/2^^^2197175160<2^32:=Nat.xor_lt_two_pow (by omega) (by omega)
  simpa using this
 ·omega
theorem GS (n:Nat):∀{c:Nat},c<4294967296->BC n c<4294967296:=by
 induction n with
 |zero=>intro c h;exact h
 |succ n ih=>intro c h;exact ih (Agq h)
theorem NE (m:Nat):∀(n c:Nat),BC (m+n) c=BC n (BC m c):=by
 induction m with
 |zero=>intro n c;simp[BC]
 |succ m ih=>intro n c;rw[show m+1+n=(m+n)+1 from by omega,BC,ih,BC]
theorem Zf (n c:Nat):c=(2^n*(c/2^n))^^^(c%2^n):=by
 apply Nat.eq_of_testBit_eq
 intro i
 rw[Nat.testBit_xor,Nat.testBit_mod_two_pow,Nat.mul_comm,Nat.testBit_mul_two_pow,Nat.testBit_div_two_pow]
 by_cases h:i<n
 ·simp[h,show¬n≤i by omega]
 ·simp[h,show n≤i by omega,show i-n+n=i by omega]
theorem Uw (c:Nat):BC 4 c=(c/16)^^^BC 4 (c%16):=by
 have h:=Zf 4 c
 conv=>lhs;rw[h]
 rw[Xo,Xp]
def Kl (c x:Nat):Nat:=BC 8 (c^^^x)
theorem Xt (c x:Nat):Kl c x=BC 4 (BC 4 (c^^^x)):=NE 4 4 _
def FV (c:Nat) (l:List Nat):Nat:=l.foldl Kl c
theorem PL (c:Nat) (l:List Nat) (x:Nat):FV c (l++[x])=Kl (FV c l) x:=by simp[FV]
theorem Agy {c x:Nat} (h:c<4294967296) (hx:x<256):Kl c x<4294967296:=by
 have:c^^^x<2^32:=Nat.xor_lt_two_pow (by omega) (by omega)
 exact GS 8 (by simpa using this)
theorem Mc {c:Nat} (h:c<4294967296):∀{l:List Nat},(∀x∈l,x<256)->FV c l<4294967296:=by
 intro l
 induction l generalizing c with
 |nil=>intro _;exact h
 |cons x l ih=>intro hl;exact ih (Agy h (hl x (List.mem_cons_self ..))) λy hy=>hl y (List.mem_cons_of_mem _ hy)
def Ee (l:List Int):List Nat:=l.map Int.toNat
theorem L4 {l:List Int} (h:AY l):∀x∈Ee l,x<256:=by
 intro x hx
 simp only[Ee,List.mem_map]at hx
 obtain⟨y,hy,rfl⟩:=hx
 have:=h y hy
 omega
def Br (l:List Int):Int:=4294967295-(FV 4294967295 (Ee l):Nat)
theorem Dt {l:List Int} (h:AY l):0≤Br l∧Br l<4294967296:=by
 have:=Mc (c:=4294967295) (by omega) (L4 h)
 unfold Br;omega
def Ac (p:List Int):List Int:=Dv p++Aq 4 (Br p)
def Ch (m:Int):Int:=min m 2097152
def RS.frame (s:RS) (m:Int):RS×List Int:=
 if((s.blob (Ch m)).1.fixed 4).1.code=0 then
  (if((s.blob (Ch m)).1.fixed 4).2=Br (s.blob (Ch m)).2 then(((s.blob (Ch m)).1.fixed 4).1,(s.blob (Ch m)).2)else(((s.blob (Ch m)).1.fixed 4).1.fail 6 (s.blob (Ch m)).1.at_,[]))
 else(((s.blob (Ch m)).1.fixed 4).1,[])
theorem FN (p:List Int):(Ac p).length=(Dv p).length+4:=by unfold Ac;rw[List.length_append,BD]
theorem Hi {s:RS} (h:Av s) (n:Int):Av (s.fixed n).1∧(s.fixed n).1.l=s.l:=⟨h.take n,(h.ok.take n).2⟩
theorem CL {s:RS} (h:Av s) (m:Int):Av (s.frame m).1∧(s.frame m).1.l=s.l:=by
 obtain⟨a,b⟩:=RS.ok.blob h (Ch m)
 obtain⟨c,d⟩:=Hi a 4
 unfold RS.frame
 repeat' split
 ·exact⟨c,d.trans b⟩
 ·exact⟨c.fail _ _,by rw[Bl];exact d.trans b⟩
 ·exact⟨c,d.trans b⟩
theorem Ju {s:RS} {m:Int} (hc:(s.frame m).1.code=0):((s.blob (Ch m)).1.fixed 4).1.code=0∧((s.blob (Ch m)).1.fixed 4).2=Br (s.blob (Ch m)).2∧s.frame m=(((s.blob (Ch m)).1.fixed 4).1,(s.blob (Ch m)).2):=by
 unfold RS.frame at hc ⊢
 by_cases h1:((s.blob (Ch m)).1.fixed 4).1.code=0
 ·rw[if_pos h1]at hc ⊢
  by_cases h2:((s.blob (Ch m)).1.fixed 4).2=Br (s.blob (Ch m)).2
  ·rw[if_pos h2];exact⟨h1,h2,rfl⟩
  ·rw[if_neg h2]at hc
   unfold RS.fail at hc
   rw[if_pos h1]at hc
   simp[BW]at hc
 ·rw[if_neg h1]at hc;exact absurd hc h1
theorem GI {s:RS} (h:Av s) {m:Int} (hc:(s.frame m).1.code=0):s.code=0∧((s.frame m).2.length:Int)≤Ch m∧AY (s.frame m).2∧s.at_<(s.frame m).1.at_∧s.l.take (s.frame m).1.at_.toNat=s.l.take s.at_.toNat++Ac (s.frame m).2:=by
 obtain⟨h1,h2,h3⟩:=Ju hc
 obtain⟨a,b⟩:=RS.ok.blob h (Ch m)
 have t:=Bn a (n:=4) h1
 obtain⟨t1,t2,t3,t4,t5⟩:=t
 obtain⟨b1,b2,b3,b4⟩:=Alp h t1
 have hs:=JB h (Ch m)
 rw[h3]
 refine⟨b1,b2,hs.2,?_,?_⟩
 ·show s.at_<((s.blob (Ch m)).1.take 4).1.at_;omega
 ·show s.l.take ((s.blob (Ch m)).1.take 4).1.at_.toNat=_
  rw[b]at t5
  rw[t5,b4,List.append_assoc]
  unfold Ac
  congr 2
  have hb:AY ((s.blob (Ch m)).1.take 4).2:=DO a.bys 4
  have hl:=It hb
  have hlen:((s.blob (Ch m)).1.take 4).2.length=4:=by omega
  rw[hlen]at hl
  rw[←h2]
  exact hl.symm
theorem Py {s:RS} (h:Av s) (hc:s.code=0) {p r:List Int} {m:Int} (hp:AY p) (hm:(p.length:Int)≤Ch m) (hr:s.rest=Ac p++r):s.frame m=(s.adv ((Ac p).length:Int),p):=by
 have hn:p.length<18446744073709551616:=by unfold Ch at hm;omega
 unfold Ac at hr
 rw[List.append_assoc]at hr
 have hb:=UI h hc hm hn hr
 have hs2:=Bv h hr
 have hr2:(s.adv ((Dv p).length:Int)).rest=Aq 4 (Br p)++r:=by rw[A5 h.at0,hr,List.drop_left]
 have ht:=C3 hs2 (show(s.adv ((Dv p).length:Int)).code=0 from hc) hr2
 rw[BD]at ht
 have ht':(s.adv ((Dv p).length:Int)).take 4=((s.adv ((Dv p).length:Int)).adv 4,Aq 4 (Br p)):=ht
 have hcr:=Dt hp
 have hf:(s.adv ((Dv p).length:Int)).fixed 4=(s.adv ((Ac p).length:Int),Br p):=by
  unfold RS.fixed
  rw[ht',Iy 4 _ hcr.1 (by simpa using hcr.2),BH,FN]
  congr 2
 unfold RS.frame
 rw[hb]
 simp only
 rw[hf]
 simp only
 rw[if_pos (show(s.adv ((Ac p).length:Int)).code=0 from hc),if_pos trivial]
theorem D4 {p:List Int} (hp:AY p) (h:p.length<18446744073709551616):AY (Ac p):=by
 intro y hy
 rcases List.mem_append.1 hy with hy|hy
 ·rcases List.mem_append.1 hy with hy|hy
  ·exact CD (by omega) (by omega) y hy
  ·exact hp y hy
 ·exact DC 4 _ y hy
theorem Mf {s:RS} (h:Av s) (hc:s.code=0) {x:Int} (x0:0≤x) (x1:x<18446744073709551616) {k:Nat} (hk:k<(vb x).length) (hr:s.rest=(vb x).take k):s.vint=({s with at_:=s.l.length,code:=1,fat:=s.l.length},0):=by
 have key:∀(n k:Nat) (y:Int) (i:Int),0≤y->y<128^(n+1)->0≤i->(i=0∨0<y)->i+n≤9->(i+n=9->y<2*128^n)->k<(IQ n y).length->(B6 i ((IQ n y).take k)).1=1:=by
  intro n
  induction n with
  |zero=>
   intro k y i y0 y1 i0 iy _ _ hk
   have hk0:k=0:=by simp only[IQ,List.length_cons,List.length_nil]at hk;omega
   subst hk0;simp[B6]
  |succ n ih=>
   intro k y i y0 y1 i0 iy i9 hy9 hk
   simp only[IQ]at hk ⊢
   by_cases hlt:y<128
   ·rw[if_pos hlt]at hk ⊢
    simp at hk;subst hk;simp[B6]
   ·rw[if_neg hlt]at hk ⊢
    cases k with
    |zero=>simp[B6]
    |succ k=>
     simp only[List.take_succ_cons,List.length_cons,Nat.add_lt_add_iff_right]at hk ⊢
     have hp:(0:Int)<128^n:=Int.pow_pos (by omega)
     rw[R8,if_neg (by omega),if_neg (by omega),if_neg (by omega)]
     rw[Int.pow_succ]at y1
     refine ih k (y/128) (i+1) (by omega) (by omega) (by omega) (.inr (by omega)) (by omega) (λh=>?_) hk
     have:=hy9 (by omega)
     rw[Int.pow_succ]at this
     omega
 have h1:(B6 0 ((vb x).take k)).1=1:=key 9 k x 0 x0 (by omega) (by omega) (.inl rfl) (by omega) (λ_=>by omega) hk
 unfold RS.vint
 rw[if_pos hc,hr,h1]
 rfl
theorem Ir (n a:Nat) (h:a<2^n):(BitVec.ofInt n (a:Int)).toNat=a:=by
 rw[BitVec.toNat_ofInt,←Int.natCast_emod,Int.toNat_natCast,Nat.mod_eq_of_lt h]
theorem OX (a b:Nat) (ha:a<4294967296) (hb:b<4294967296):Cx .xor .u32 a b=((a^^^b:Nat):Int):=by
 show IntKind.u32.wrap ((BitVec.ofInt 32 (a:Int)^^^BitVec.ofInt 32 (b:Int)).toNat:Int)=_
 have h:a^^^b<2^32:=Nat.xor_lt_two_pow (by omega) (by omega)
 rw[BitVec.toNat_xor,Ir 32 a (by omega),Ir 32 b (by omega),IntWalk.u32_in _ (by omega)]
theorem Amt (a b:Nat) (ha:a<4294967296) (hb:b<4294967296):Cx .and .u32 a b=((a&&&b:Nat):Int):=by
 show IntKind.u32.wrap ((BitVec.ofInt 32 (a:Int)&&&BitVec.ofInt 32 (b:Int)).toNat:Int)=_
 have h:a&&&b<2^32:=Nat.and_lt_two_pow a (by omega)
 rw[BitVec.toNat_and,Ir 32 a (by omega),Ir 32 b (by omega),IntWalk.u32_in _ (by omega)]
theorem Atu (a:Nat) (ha:a<4294967296):Cx .and .u32 a 1=((a%2:Nat):Int):=by
 have:=Amt a 1 ha (by omega)
 rw[Nat.and_one_is_mod]at this;exact this
theorem Amu (a:Nat) (ha:a<4294967296):Cx .and .u32 a 15=((a%16:Nat):Int):=by
 have:=Amt a 15 ha (by omega)
 rw[show(15:Nat)=2^4-1 from rfl,Nat.and_two_pow_sub_one_eq_mod]at this;exact this
theorem Aft (a:Nat) (ha:a<4294967296):4294967295^^^a=4294967295-a:=by
 apply Nat.eq_of_testBit_eq
 intro i
 rw[Nat.testBit_xor,show(4294967295:Nat)=2^32-1 from rfl,Nat.testBit_two_pow_sub_one,show 2^32-1-a=2^32-(a+1)from by omega,Nat.testBit_two_pow_sub_succ (by omega)]
 by_cases hi:i<32
 ·simp[hi]
 ·have:a.testBit i=false:=Nat.testBit_lt_two_pow (Nat.lt_of_lt_of_le (show a<2^32 by omega) (Nat.pow_le_pow_right (by omega) (by omega)))
  simp[hi,this]
theorem Aqh (a:Nat) (ha:a<4294967296):Cx .xor .u32 4294967295 a=4294967295-(a:Int):=by
 have h:=OX 4294967295 a (by omega) ha
 rw[Aft a ha]at h
 refine h.trans ?_
 omega
theorem Adu (a k:Nat):(a:Int).fdiv (2^k)=((a/2^k:Nat):Int):=by
 rw[Int.fdiv_eq_ediv_of_nonneg _ (by exact_mod_cast Nat.zero_le _)]
 simp
theorem Th (a b:List Int):Ee (a++b)=Ee a++Ee b:=by simp[Ee]
def Dm (n:Int):Int:=(vb (max n 0)).length+max n 0+4
theorem K9 {p:List Int}:Dm p.length=(Ac p).length:=by
 rw[FN];unfold Dm Dv
 have:max (p.length:Int) 0=p.length:=by omega
 rw[this,List.length_append];omega
theorem Sp (n:Int):5≤Dm n∧Dm n≤max n 0+14:=by
 unfold Dm
 have:=Bd (max n 0)
 omega
theorem KG (m:Int):Ch m≤2097152:=by unfold Ch;omega
def BA (b:List Int) (m:Int):List Int×Int×(Int×Int):=if((RS.new b).frame m).1.code=0 then(((RS.new b).frame m).2,((RS.new b).frame m).1.at_,(0,0))else([],0,(((RS.new b).frame m).1.code,((RS.new b).frame m).1.fat))
def Eh (b:List Int) (m:Int):Int:=if((RS.new b).int (Ch m)).1.code=0 then Dm ((RS.new b).int (Ch m)).2 else 0
def Dw (b:List Int) (m:Int):Bool:=((RS.new b).int (Ch m)).1.code==0
def okF (b:List Int) (m:Int):Bool:=((RS.new b).frame m).1.code==0
theorem Pz {s:RS} (h:Av s) {m:Int} (hc:(s.frame m).1.code=0):(s.int (Ch m)).1.code=0∧(s.frame m).1.at_=(s.int (Ch m)).1.at_+(s.int (Ch m)).2+4:=by
 obtain⟨h1,h2,h3⟩:=Ju hc
 obtain⟨a,b⟩:=RS.ok.blob h (Ch m)
 obtain⟨t1,t2,t3,t4,t5⟩:=Bn a (n:=4) h1
 have hi:=h.int (Ch m)
 obtain⟨u1,u2,u3,u4,u5⟩:=Bn hi.1 (n:=(s.int (Ch m)).2) t1
 refine⟨u1,?_⟩
 rw[h3]
 show((s.blob (Ch m)).1.take 4).1.at_=_
 rw[t4]
 show((s.int (Ch m)).1.take (s.int (Ch m)).2).1.at_+4=_
 rw[u4]
theorem ZW {b:List Int} {m:Int} (hb:AY b) (hn:b.length≤140737488355328) (h:okF b m=true):Dw b m=true∧((RS.new b).frame m).1.at_=Eh b m∧Eh b m≤b.length:=by
 have hok:Av (RS.new b):=Av.new hb hn
 have hc:((RS.new b).frame m).1.code=0:=by simpa[okF]using h
 obtain⟨h1,h2⟩:=Pz hok hc
 obtain⟨i1,i2,i3,i4,i5⟩:=DE hok h1
 have hw:Eh b m=Dm ((RS.new b).int (Ch m)).2:=by unfold Eh;rw[if_pos h1]
 obtain⟨k1,k2⟩:=CL hok m
 have hat1:=k1.at1
 rw[k2]at hat1
 have hl:((RS.new b).int (Ch m)).1.at_=(vb ((RS.new b).int (Ch m)).2).length:=by
  have e:=congrArg List.length i5
  have hi:=(hok.int (Ch m)).1.at1
  have hi2:=(hok.int (Ch m)).2
  have hi0:=(hok.int (Ch m)).1.at0
  rw[hi2]at hi
  simp only[List.length_take,List.length_append,RS.new]at e hi
  simp only[RS.new]at hi0
  simp only[RS.new]
  simp at e
  omega
 have hmx:max ((RS.new b).int (Ch m)).2 0=((RS.new b).int (Ch m)).2:=by omega
 refine⟨by unfold Dw;rw[h1];rfl,?_,?_⟩
 ·rw[h2,hw,hl];unfold Dm;rw[hmx]
 ·have:((RS.new b).frame m).1.at_=Eh b m:=by rw[h2,hw,hl];unfold Dm;rw[hmx]
  rw[←this];exact hat1
def Cl (s:RS):Prop:=s.code=0->s.fat=0
theorem Cl.new (l:List Int):Cl (RS.new l):=λ_=>rfl
theorem Cl.fail {s:RS} (h:Cl s) (c a:Int):Cl (s.fail c a):=by
 unfold RS.fail
 split
 ·intro hc
  simp only[BW]at hc ⊢
  by_cases h0:c=0
  ·rw[if_pos h0]
  ·rw[if_neg h0]at hc;exact absurd hc h0
 ·exact h
theorem Cl.adv {s:RS} (h:Cl s) (i:Int):Cl (s.adv i):=h
theorem Cl.skip {s:RS} (h:Cl s) (n:Int):Cl (s.skip n).1:=by
 unfold RS.skip
 repeat' split
 all_goals first|exact h.fail _ _|exact h
theorem Cl.take {s:RS} (h:Cl s) (n:Int):Cl (s.take n).1:=by
 unfold RS.take;split<;>exact h.skip n
theorem Cl.byte {s:RS} (h:Cl s):Cl s.byte.1:=by
 unfold RS.byte;split<;>exact h.skip 1
theorem Cl.vint {s:RS} (h:Cl s):Cl s.vint.1:=by
 unfold RS.vint
 split
 ·split
  ·exact h
  ·split
   ·intro hc;simp at hc
   ·rename_i h1 _;intro hc;exact absurd hc h1
 ·exact h
theorem Cl.most {s:RS} (h:Cl s) (m:Int):Cl (s.most m).1:=by
 unfold RS.most;split
 ·exact h.vint.fail _ _
 ·exact h.vint
theorem Cl.int {s:RS} (h:Cl s) (m:Int):Cl (s.int m).1:=by
 unfold RS.int;split
 ·exact h.most m
 ·exact h.vint.fail _ _
theorem Cl.blob {s:RS} (h:Cl s) (m:Int):Cl (s.blob m).1:=(h.int m).take _
theorem Cl.fixed {s:RS} (h:Cl s) (n:Int):Cl (s.fixed n).1:=h.take n
theorem Cl.frame {s:RS} (h:Cl s) (m:Int):Cl (s.frame m).1:=by
 have:=(h.blob (Ch m)).fixed 4
 unfold RS.frame
 repeat' split
 ·exact this
 ·exact this.fail _ _
 ·exact this
theorem Nn {p r:List Int} {m:Int} (hp:AY p) (hr:AY r) (hn:(Ac p++r).length≤140737488355328) (hm:(p.length:Int)≤Ch m):BA (Ac p++r) m=(p,((Ac p).length:Int),(0,0)):=by
 have hpl:p.length<18446744073709551616:=by have:=KG m;omega
 have hb:AY (Ac p++r):=λx hx=>by rcases List.mem_append.1 hx with hx|hx;exact D4 hp hpl x hx;exact hr x hx
 have h:=Py (Av.new hb hn) rfl hp hm (BK _)
 unfold BA
 rw[h,if_pos (show((RS.new (Ac p++r)).adv ((Ac p).length:Int)).code=0 from rfl)]
 show(p,(0:Int)+((Ac p).length:Int),(0,0))=_
 rw[Int.zero_add]
theorem EX {s:RS} {n:Int} (hc:s.code=0) (h0:0≤n) (h:s.left<n):s.take n=(s.fail 1 s.l.length,[]):=by
 have hs:s.skip n=(s.fail 1 s.l.length,false):=by
  unfold RS.skip;rw[if_pos hc,if_neg (by omega),if_pos h]
 unfold RS.take
 rw[hs];rfl
theorem UH {b x:List Int} {m:Int} {n:Int} {t:RS} (hi:(RS.new b).int (Ch m)=(t,n)) (hx:t.take n=(t.fail 1 t.l.length,x)) (hc:t.code=0):BA b m=([],0,(1,(t.l.length:Int))):=by
 have hB:(RS.new b).blob (Ch m)=(t.fail 1 t.l.length,x):=by unfold RS.blob;rw[hi];exact hx
 have hf:(t.fail 1 t.l.length)={t with code:=1,fat:=t.l.length}:=by unfold RS.fail;rw[if_pos hc];simp[BW]
 have hfx:((RS.new b).blob (Ch m)).1.fixed 4=(t.fail 1 t.l.length,0):=by
  rw[hB];unfold RS.fixed;rw[KA (by rw[hf];simp)];rfl
 have hF:(RS.new b).frame m=(t.fail 1 t.l.length,[]):=by
  unfold RS.frame;rw[hfx];simp only;rw[if_neg (by rw[hf];simp)]
 unfold BA
 rw[hF];simp only
 rw[if_neg (by rw[hf];simp),hf]
theorem Aaz {p:List Int} {m:Int} (hp:AY p) (hm:(p.length:Int)≤Ch m) {k:Nat} (hk:k<(Ac p).length):BA ((Ac p).take k) m=([],0,(1,(k:Int))):=by
 have hml:=KG m
 have hv:=Bd (p.length:Int)
 have h4:=BD 4 (Br p)
 have hfl:(Ac p).length=(vb (p.length:Int)).length+p.length+4:=by rw[FN];unfold Dv;rw[List.length_append]
 have hB:AY ((Ac p).take k):=λx hx=>D4 hp (by omega) x (List.mem_of_mem_take hx)
 have hbl:((Ac p).take k).length=k:=by rw[List.length_take];omega
 have hok:Av (RS.new ((Ac p).take k)):=Av.new hB (by omega)
 have hfe:Ac p=vb (p.length:Int)++(p++Aq 4 (Br p)):=by unfold Ac Dv;rw[List.append_assoc]
 by_cases h1:k<(vb (p.length:Int)).length
 ·have e:(Ac p).take k=(vb (p.length:Int)).take k:=by rw[hfe,List.take_append_of_le_length (by omega)]
  have hc:=Mf hok rfl (by omega) (by omega) h1 ((BK _).trans e)
  have hi:(RS.new ((Ac p).take k)).int (Ch m)=({RS.new ((Ac p).take k)with at_:=((Ac p).take k).length,code:=1,fat:=((Ac p).take k).length},0):=by
   unfold RS.int RS.most
   rw[hc,if_pos (by omega)];simp only;rw[if_neg (by omega)];rfl
  have hBl:(RS.new ((Ac p).take k)).blob (Ch m)=({RS.new ((Ac p).take k)with at_:=((Ac p).take k).length,code:=1,fat:=((Ac p).take k).length},[]):=by
   unfold RS.blob;rw[hi];exact KA (by simp)
  have hfx:((RS.new ((Ac p).take k)).blob (Ch m)).1.fixed 4=({RS.new ((Ac p).take k)with at_:=((Ac p).take k).length,code:=1,fat:=((Ac p).take k).length},0):=by
   rw[hBl];unfold RS.fixed;rw[KA (by simp)];rfl
  have hF:(RS.new ((Ac p).take k)).frame m=({RS.new ((Ac p).take k)with at_:=((Ac p).take k).length,code:=1,fat:=((Ac p).take k).length},[]):=by
   unfold RS.frame;rw[hfx];simp only;rw[if_neg (by simp)]
  unfold BA;rw[hF];simp only;rw[if_neg (by simp),hbl]
 ·have e:(Ac p).take k=vb (p.length:Int)++(p++Aq 4 (Br p)).take (k-(vb (p.length:Int)).length):=by
   rw[hfe,List.take_append,List.take_of_length_le (by omega)]
  have hi:=Er (s:=RS.new ((Ac p).take k)) (x:=(p.length:Int)) (m:=Ch m) rfl (by omega) hm (by omega) ((BK _).trans e)
  have ht:((RS.new ((Ac p).take k)).adv ((vb (p.length:Int)).length:Int)).left=(k:Int)-(vb (p.length:Int)).length:=by
   show(((Ac p).take k).length:Int)-(0+((vb (p.length:Int)).length:Int))=_
   rw[hbl];omega
  by_cases h2:k<(vb (p.length:Int)).length+p.length
  ·have hx:=EX (s:=(RS.new ((Ac p).take k)).adv ((vb (p.length:Int)).length:Int)) (n:=(p.length:Int)) rfl (by omega) (by rw[ht];omega)
   have:=UH hi hx rfl
   rw[this]
   show([],0,(1,((((Ac p).take k).length:Nat):Int)))=_
   rw[hbl]
  ·have hok2:=Bv hok ((BK _).trans e)
   have hr2:((RS.new ((Ac p).take k)).adv ((vb (p.length:Int)).length:Int)).rest=p++(Aq 4 (Br p)).take (k-(vb (p.length:Int)).length-p.length):=by
    rw[A5 hok.at0,BK,e,List.drop_left,List.take_append,List.take_of_length_le (by omega)]
   have hx:=C3 hok2 (show((RS.new ((Ac p).take k)).adv ((vb (p.length:Int)).length:Int)).code=0 from rfl) hr2
   obtain⟨u,hu⟩:∃u,((RS.new ((Ac p).take k)).adv ((vb (p.length:Int)).length:Int)).adv (p.length:Int)=u:=⟨_,rfl⟩
   rw[hu]at hx
   have hBl:(RS.new ((Ac p).take k)).blob (Ch m)=(u,p):=by unfold RS.blob;rw[hi];exact hx
   have huc:u.code=0:=by rw[←hu];rfl
   have hul:u.l.length=k:=by rw[←hu];exact hbl
   have hua:u.at_=(vb (p.length:Int)).length+p.length:=by rw[←hu];show(0:Int)+_+_=_;omega
   have hf:(u.fail 1 u.l.length)={u with code:=1,fat:=u.l.length}:=by unfold RS.fail;rw[if_pos huc];simp[BW]
   have hsh:=EX (s:=u) (n:=4) huc (by omega) (by unfold RS.left;rw[hul,hua];omega)
   have hfx:((RS.new ((Ac p).take k)).blob (Ch m)).1.fixed 4=(u.fail 1 u.l.length,0):=by
    rw[hBl];unfold RS.fixed;rw[hsh];rfl
   have hF:(RS.new ((Ac p).take k)).frame m=(u.fail 1 u.l.length,[]):=by
    unfold RS.frame;rw[hfx];simp only;rw[if_neg (by rw[hf];simp)]
   unfold BA;rw[hF];simp only;rw[if_neg (by rw[hf];simp),hf];simp only;rw[hul]
theorem Ix {b:List Int} {m:Int} (hb:AY b) (hn:b.length≤140737488355328) (hc:(BA b m).2.2.1=0):
 (BA b m).2.2=(0,0)∧AY (BA b m).1∧((BA b m).1.length:Int)≤Ch m∧0≤(BA b m).2.1∧(BA b m).2.1≤b.length∧b.take (BA b m).2.1.toNat=Ac (BA b m).1:=by
 have hok:Av (RS.new b):=Av.new hb hn
 by_cases h:((RS.new b).frame m).1.code=0
 ·have e:BA b m=(((RS.new b).frame m).2,((RS.new b).frame m).1.at_,(0,0)):=by unfold BA;rw[if_pos h]
  obtain⟨i1,i2,i3,i4,i5⟩:=GI hok h
  obtain⟨k1,k2⟩:=CL hok m
  have h5:=k1.at1
  have h6:=k1.at0
  rw[k2]at h5
  rw[e]
  refine⟨rfl,i3,i2,h6,h5,?_⟩
  have:(RS.new b).l.take (RS.new b).at_.toNat=[]:=by simp[RS.new]
  rw[this,List.nil_append]at i5
  exact i5
 ·have e:BA b m=([],0,(((RS.new b).frame m).1.code,((RS.new b).frame m).1.fat)):=by unfold BA;rw[if_neg h]
  rw[e]at hc;exact absurd hc h
theorem TS {b:List Int} {m:Int} (hc:¬(BA b m).2.2.1=0):(BA b m).1=[]∧(BA b m).2.1=0:=by
 unfold BA at hc ⊢
 split
 ·rename_i h;rw[if_pos h]at hc;exact absurd rfl hc
 ·exact⟨rfl,rfl⟩
structure En where
 lk:List Lk
 data:List Int
def DN:En:=⟨[],[]⟩
structure En.ok (e:En):Prop where
 lk:NX e.lk
 data:AY e.data
def Ens (l:List En):Prop:=∀e∈l,e.ok
def Cj (pos:Int) (e:En):Bool:=BO pos e.lk&&decide (e.data.length≤1048576)
theorem D2 {pos:Int} {e:En}:Cj pos e=true↔BO pos e.lk=true∧e.data.length≤1048576:=by simp[Cj]
def E3 (pos:Int) (e:En):List Int:=Cm pos e.lk++vb e.data.length
def RS.ehead (s:RS) (pos m:Int):RS×(List Lk×Int):=if((s.links pos).1.int m).1.code=0 then(((s.links pos).1.int m).1,((s.links pos).2,((s.links pos).1.int m).2))else(((s.links pos).1.int m).1,([],0))
theorem NB {s:RS} {pos:Int} (h:Av s) (p0:0≤pos) (p1:pos<18446744073709551616) (m:Int):Av (s.ehead pos m).1∧(s.ehead pos m).1.l=s.l:=by
 obtain⟨a,b⟩:=EI h p0 p1
 obtain⟨c,d⟩:=a.int m
 unfold RS.ehead
 split<;>exact⟨c,d.trans b⟩
theorem Cl.many {β:Type} {F:Ef β} (hF:∀s acc,Cl s->Cl (F.f s acc).1):∀(n:Nat) (s:RS) (acc:List β),Cl s->Cl (F.many n s acc).1:=by
 intro n
 induction n with
 |zero=>intro s acc h;exact h
 |succ n ih=>
  intro s acc h
  unfold Ef.many
  split
  ·exact ih _ _ (hF s acc h)
  ·exact hF s acc h
theorem Cl.counted {β:Type} {F:Ef β} (hF:∀s acc,Cl s->Cl (F.f s acc).1) {s:RS} (h:Cl s) (m:Int):Cl (F.counted m s).1:=Cl.many hF _ _ _ (h.int m)
theorem Cl.fall {s:RS} (h:Cl s) (b m:Int):Cl (s.fall b m).1:=by
 refine Cl.counted (F:=Df b) (λs acc h=>?_) h m
 simp only[Df]
 split
 ·exact h.vint.fail _ _
 ·exact h.vint
theorem Cl.links {s:RS} (h:Cl s) (pos:Int):Cl (s.links pos).1:=by
 refine Cl.counted (F:=CS pos) (λs acc h=>?_) h 16
 simp only[CS]
 refine Cl.fall ?_ _ _
 unfold RS.lkHead
 split
 ·exact h.vint.fail _ _
 ·exact h.vint
theorem Cl.ehead {s:RS} (h:Cl s) (pos m:Int):Cl (s.ehead pos m).1:=by
 unfold RS.ehead
 split<;>exact(h.links pos).int m
theorem Abs {s:RS} {pos m:Int} {e:En} {r:List Int} (h:Av s) (hc:s.code=0) (p0:0≤pos) (p1:pos<18446744073709551616) (he:e.ok) (hr:BO pos e.lk=true) (hm:(e.data.length:Int)≤m) (hn:e.data.length<18446744073709551616) (hrest:s.rest=E3 pos e++r):
 s.ehead pos m=(s.adv ((E3 pos e).length:Int),(e.lk,(e.data.length:Int))):=by
 unfold E3 at hrest ⊢
 rw[List.append_assoc]at hrest
 have hl:=Aab h hc p0 p1 he.lk hr hrest
 have h2:=Bv h hrest
 have e2:(s.adv ((Cm pos e.lk).length:Int)).rest=vb (e.data.length:Int)++r:=by rw[A5 h.at0,hrest,List.drop_left]
 have hi:=Er (m:=m) (show(s.adv ((Cm pos e.lk).length:Int)).code=0 from hc) (by omega) hm (by omega) e2
 unfold RS.ehead
 rw[hl];simp only
 rw[hi];simp only
 rw[if_pos (show((s.adv ((Cm pos e.lk).length:Int)).adv ((vb (e.data.length:Int)).length:Int)).code=0 from hc),BH,List.length_append]
 rfl
def AL (l:List En):List Int:=l.flatMap (·.data)
theorem WD (l:List En) (e:En):AL (l++[e])=AL l++e.data:=by simp[AL]
def DL:List En->List Int->List Int->List En->List En×Bool
 |e::hs,n::ns,d,acc=>if n<0∨(d.length:Int)<n then([],false)else DL hs ns (d.drop n.toNat) (acc++[⟨e.lk,d.take n.toNat⟩])
 |_,_,d,acc=>if d.length=0 then(acc,true)else([],false)
def DU (hs:List En) (ns:List Int) (d:List Int):List En×Bool:=if hs.length=ns.length then DL hs ns d []else([],false)
theorem Abx:∀(l acc:List En),DL l (l.map λe=>(e.data.length:Int)) (AL l) acc=(acc++l,true):=by
 intro l
 induction l with
 |nil=>intro acc;simp[DL,AL]
 |cons e l ih=>
  intro acc
  have ej:AL (e::l)=e.data++AL l:=by simp[AL]
  simp only[List.map_cons,DL]
  rw[ej,if_neg (by rw[List.length_append];omega),Int.toNat_natCast,List.drop_left,List.take_left,ih]
  simp
theorem Jd (b:List Int) (hb:b.length≤1048576):∀(f a x:Nat),x≤a->∀t∈FT b f a x,t.right=true
 |0,a,x,h1,t,ht=>by
  simp only[FT,Ek]at ht
  split at ht
  ·simp at ht;subst ht;simp[Tk.right,Tk.run];omega
  ·simp at ht
 |f+1,a,x,h1,t,ht=>by
  have hok:=Ko b a
  have hl:=hok.1.len
  have h0:=hok.1.n0
  have hm:=hok.1.most
  simp only[FT]at ht
  split at ht
  ·simp only[Ek]at ht
   split at ht
   ·simp at ht;subst ht;simp[Tk.right,Tk.run];omega
   ·simp at ht
  ·rename_i ha
   split at ht
   ·exact Jd b hb f (a+1) x (by omega) t ht
   ·rename_i hz
    have ho:=hok.1.off (by omega)
    simp only[List.mem_append,List.mem_singleton]at ht
    rcases ht with(ht|ht)|ht
    ·simp only[Ek]at ht
     split at ht
     ·simp at ht;subst ht;simp[Tk.right,Tk.run];omega
     ·simp at ht
    ·subst ht;simp[Tk.right,Tk.copy];right;omega
    ·exact Jd b hb f _ _ (Nat.le_refl _) t ht
theorem JV (b:List Int) (hb:AY b):∀(f a x:Nat),∀t∈FT b f a x,AY t.lit
 |0,a,x,t,ht=>by
  simp only[FT,Ek]at ht
  split at ht
  ·simp at ht;subst ht;intro y hy;exact hb y (List.mem_of_mem_drop (List.mem_of_mem_take hy))
  ·simp at ht
 |f+1,a,x,t,ht=>by
  simp only[FT]at ht
  split at ht
  ·simp only[Ek]at ht
   split at ht
   ·simp at ht;subst ht;intro y hy;exact hb y (List.mem_of_mem_drop (List.mem_of_mem_take hy))
   ·simp at ht
  ·split at ht
   ·exact JV b hb f (a+1) x t ht
   ·simp only[List.mem_append,List.mem_singleton]at ht
    rcases ht with(ht|ht)|ht
    ·simp only[Ek]at ht
     split at ht
     ·simp at ht;subst ht;intro y hy;exact hb y (List.mem_of_mem_drop (List.mem_of_mem_take hy))
     ·simp at ht
    ·subst ht;intro y hy;simp at hy
    ·exact JV b hb f _ _ t ht
def Bg (b:List Int):List Int:=EV (EG b)
theorem JW {b:List Int} (hb:b.length≤1048576):∀t∈EG b,t.right=true:=Jd b hb _ _ _ (Nat.le_refl _)
theorem MW {b:List Int} (hn:b.length≤1048576) (hb:AY b):AY (Bg b):=by
 intro y hy
 simp only[Bg,EV,List.mem_flatMap]at hy
 obtain⟨t,ht,hy⟩:=hy
 exact Ac6 (JW hn t ht) (JV b hb _ _ _ t ht) y hy
def FJ (b:List Int):Bool:=decide (((vb ((Bg b).length:Int)).length:Int)+(Bg b).length<b.length)
def CM (b:List Int):List Int:=vb b.length++(if FJ b=true then[1]++(vb ((Bg b).length:Int)++Bg b)else[0]++b)
theorem Kn (b:List Int):((CM b).length:Int)≤(vb (b.length:Int)).length+b.length+1:=by
 unfold CM
 cases h:FJ b with
 |true=>
  have:((vb ((Bg b).length:Int)).length:Int)+(Bg b).length<b.length:=by simpa[FJ]using h
  simp only[if_true,List.length_append,List.length_singleton];omega
 |false=>simp only[Bool.false_eq_true,if_false,List.length_append,List.length_singleton];omega
theorem UK {b:List Int} (hn:b.length≤1048576) (hb:AY b):AY (CM b):=by
 have h1:AY (vb (b.length:Int)):=CD (by omega) (by omega)
 unfold CM
 intro x hx
 rcases List.mem_append.1 hx with hx|hx
 ·exact h1 x hx
 ·split at hx
  ·rename_i hp
   have:((vb ((Bg b).length:Int)).length:Int)+(Bg b).length<b.length:=by simpa[FJ]using hp
   simp only[List.mem_append,List.mem_singleton]at hx
   rcases hx with hx|hx|hx
   ·subst hx;decide
   ·exact CD (x:=((Bg b).length:Int)) (by omega) (by omega) x hx
   ·exact MW hn hb x hx
  ·simp only[List.mem_append,List.mem_singleton]at hx
   rcases hx with hx|hx
   ·subst hx;decide
   ·exact hb x hx
def RS.unpk (s:RS) (n:Int):RS×List Int:=
 if(s.blob 1048576).1.code=0 then
  (if(DT n (RS.new (s.blob 1048576).2) []).2.1=0 then
    (if((DT n (RS.new (s.blob 1048576).2) []).1.length:Int)<n then((s.blob 1048576).1.fail 3 (s.blob 1048576).1.at_,(DT n (RS.new (s.blob 1048576).2) []).1)else((s.blob 1048576).1,(DT n (RS.new (s.blob 1048576).2) []).1))
  else((s.blob 1048576).1.fail (DT n (RS.new (s.blob 1048576).2) []).2.1 ((DT n (RS.new (s.blob 1048576).2) []).2.2+((s.blob 1048576).1.at_-(s.blob 1048576).2.length)),(DT n (RS.new (s.blob 1048576).2) []).1))
 else((s.blob 1048576).1,[])
def RS.bway (s:RS):RS×(Int×Int):=((s.int 1048576).1.byte.1,((s.int 1048576).2,(s.int 1048576).1.byte.2))
def RS.bdat (s:RS):RS×List Int:=
 if s.bway.1.code=0 then
  (if s.bway.2.2=0 then s.bway.1.take s.bway.2.1 else if s.bway.2.2=1 then s.bway.1.unpk s.bway.2.1 else(s.bway.1.fail 7 (s.bway.1.at_-1),[]))
 else(s.bway.1,[])
def RS.blkL (s:RS):RS×(List Int×Bool):=
 if s.bdat.1.code=0 then(s.bdat.1,(s.bdat.2,BJ (CM s.bdat.2) ((s.l.drop s.at_.toNat).take (s.bdat.1.at_-s.at_).toNat)))else(s.bdat.1,([],false))
def RS.blk (s:RS):RS×List Int:=if s.blkL.2.2=true then(s.blkL.1,s.blkL.2.1)else(s.blkL.1.fail 12 s.blkL.1.at_,[])
theorem EP {s:RS} (h:Av s) (m:Int):Av (s.blob m).1∧(s.blob m).1.l=s.l∧AY (s.blob m).2∧(s.blob m).2.length≤s.l.length:=by
 obtain⟨h1,h2⟩:=h.int m
 unfold RS.blob
 refine⟨h1.take _,by rw[(h1.ok.take _).2,h2],DO h1.bys _,?_⟩
 have:=Sm (s.int m).1 (s.int m).2
 rw[h2]at this;exact this
theorem RS.ok.byte_ {s:RS} (h:Av s):Av s.byte.1∧s.byte.1.l=s.l:=by
 have h1:=h.skip 1
 have h2:=(h.ok.skip 1).2
 unfold RS.byte
 split
 ·exact⟨h1,h2⟩
 ·exact⟨h1,h2⟩
theorem II {s:RS} (h:Av s):Av s.bway.1∧s.bway.1.l=s.l:=by
 obtain⟨h1,h2⟩:=h.int 1048576
 obtain⟨h3,h4⟩:=RS.ok.byte_ h1
 exact⟨h3,h4.trans h2⟩
theorem YW {s:RS} (h:Av s) (n:Int):Av (s.unpk n).1∧(s.unpk n).1.l=s.l:=by
 obtain⟨h1,h2,_⟩:=EP h 1048576
 unfold RS.unpk
 repeat' split
 all_goals first|exact⟨h1,h2⟩|exact⟨h1.fail _ _,by rw[Bl];exact h2⟩
theorem PV {s:RS} (h:Av s):Av s.bdat.1∧s.bdat.1.l=s.l:=by
 obtain⟨h1,h2⟩:=II h
 obtain⟨h3,h4⟩:=YW h1 s.bway.2.1
 unfold RS.bdat
 repeat' split
 all_goals first|exact⟨h1,h2⟩|exact⟨h3,h4.trans h2⟩|exact⟨h1.fail _ _,by rw[Bl];exact h2⟩|exact⟨h1.take _,by rw[(h1.ok.take _).2,h2]⟩
theorem KX {s:RS} (h:Av s):Av s.blkL.1∧s.blkL.1.l=s.l:=by
 have:=PV h
 unfold RS.blkL
 split<;>exact this
theorem B_ {s:RS} (h:Av s):Av s.blk.1∧s.blk.1.l=s.l:=by
 obtain⟨h1,h2⟩:=KX h
 unfold RS.blk
 split
 ·exact⟨h1,h2⟩
 ·exact⟨h1.fail _ _,by rw[Bl];exact h2⟩
def Aj (e:Int):Bool:=decide (1≤e)&&decide (e<4611686018427387904)
def Bb (e:Int):Bool:=decide (e<4611686018427387904)
def RS.epo (s:RS) (ok:Int->Bool):RS×Int:=if s.vint.1.code=0 then(if ok s.vint.2=true then s.vint else(s.vint.1.fail 3 s.at_,0))else(s.vint.1,0)
theorem BV {e:Int}:Aj e=true↔1≤e∧e<4611686018427387904:=by simp[Aj]
theorem Ec {e:Int}:Bb e=true↔e<4611686018427387904:=by simp[Bb]
theorem Bu {s:RS} (h:Av s) (ok:Int->Bool):Av (s.epo ok).1∧(s.epo ok).1.l=s.l:=by
 obtain⟨a,b⟩:=h.vint
 unfold RS.epo
 repeat' split
 ·exact⟨a,b⟩
 ·exact⟨a.fail _ _,by rw[Bl];exact b⟩
 ·exact⟨a,b⟩
theorem Abj {s:RS} (a:Int) (h:s.code=0):¬(s.fail 3 a).code=0:=by
 unfold RS.fail;rw[if_pos h];simp[BW]
theorem Agj {s:RS} {ok:Int->Bool} (hc:(s.epo ok).1.code=0):s.vint.1.code=0∧ok s.vint.2=true∧s.epo ok=s.vint:=by
 unfold RS.epo at hc ⊢
 by_cases h:s.vint.1.code=0
 ·rw[if_pos h]at hc ⊢
  by_cases ho:ok s.vint.2=true
  ·rw[if_pos ho];exact⟨h,ho,rfl⟩
  ·rw[if_neg ho]at hc;exact absurd hc (Abj _ h)
 ·rw[if_neg h]at hc;exact absurd hc h
theorem Hp {s:RS} (h:Av s) {ok:Int->Bool} (hc:(s.epo ok).1.code=0):s.code=0∧0≤(s.epo ok).2∧(s.epo ok).2<18446744073709551616∧ok (s.epo ok).2=true∧s.at_<(s.epo ok).1.at_∧s.l.take (s.epo ok).1.at_.toNat=s.l.take s.at_.toNat++vb (s.epo ok).2:=by
 obtain⟨h1,h2,h3⟩:=Agj hc
 have hv:=Bk (s:=s) h.bys
 obtain⟨v1,v2,v3⟩:=CJ h h1
 have ha:=Ei h h1
 rw[h3]
 exact⟨v3,hv.1,hv.2,h2,by omega,v1⟩
theorem Ho {s:RS} {ok:Int->Bool} {x:Int} {r:List Int} (hc:s.code=0) (h0:0≤x) (h1:x<18446744073709551616) (ho:ok x=true) (hr:s.rest=vb x++r):s.epo ok=(s.adv ((vb x).length:Int),x):=by
 have hv:=Di hc h0 h1 hr
 unfold RS.epo
 rw[hv];simp only
 rw[if_pos (show(s.adv ((vb x).length:Int)).code=0 from hc),if_pos ho]
theorem Yq {s:RS} {ok:Int->Bool} (hc:¬(s.epo ok).1.code=0):(s.epo ok).2=0:=by
 unfold RS.epo at hc ⊢
 split
 ·rename_i h
  rw[if_pos h]at hc
  split
  ·rename_i ho;rw[if_pos ho]at hc;exact absurd h hc
  ·rfl
 ·rfl
theorem Cl.epo {s:RS} (h:Cl s) (ok:Int->Bool):Cl (s.epo ok).1:=by
 unfold RS.epo
 repeat' split
 ·exact h.vint
 ·exact h.vint.fail _ _
 ·exact h.vint
structure Hd where
 ver:Int
 ep:Int
 base:Int
 deriving DecidableEq
def Lp:Hd:=⟨0,0,0⟩
structure Hd.ok (h:Hd):Prop where
 v0: -9223372036854775808≤h.ver
 v1:h.ver<9223372036854775808
 e0:0≤h.ep
 e1:h.ep<18446744073709551616
 b0:0≤h.base
 b1:h.base<18446744073709551616
def Bz (h:Hd):Bool:=decide (1≤h.ver∧h.ver≤3)&&Aj h.ep&&Bb h.base&&(decide (h.ver=1)||decide (h.base=0))
theorem CY {h:Hd}:Bz h=true↔(1≤h.ver∧h.ver≤3)∧(1≤h.ep∧h.ep<4611686018427387904)∧h.base<4611686018427387904∧(h.ver=1∨h.base=0):=by
 simp[Bz,BV,Ec,and_assoc]
def BF:List Int:=[84,72,79,76]
def AH (h:Hd):List Int:=BF++[h.ver]++vb h.ep++(if h.ver=1 then vb h.base else[])
def Am (h:Hd):List Int:=AH h++Aq 4 (Br (AH h))
def RS.lets (s:RS):RS:=if(s.take 4).1.code=0∧(s.take 4).2≠BF then(s.take 4).1.fail 14 s.at_ else(s.take 4).1
def RS.vers (s:RS):RS×Int:=
 if(s.take 1).1.code=0 then(if 1≤(s.take 1).2.getD 0 0∧(s.take 1).2.getD 0 0≤3 then((s.take 1).1,(s.take 1).2.getD 0 0)else((s.take 1).1.fail 8 s.at_,0))else((s.take 1).1,0)
def RS.hbegin (s:RS):RS×Int:=s.lets.vers
def RS.hbase (s:RS) (v:Int):RS×Int:=if v=1 then s.epo Bb else(s,0)
def RS.hplain (s:RS):RS×Hd:=(((s.hbegin.1.epo Aj).1.hbase s.hbegin.2).1,⟨s.hbegin.2,(s.hbegin.1.epo Aj).2,((s.hbegin.1.epo Aj).1.hbase s.hbegin.2).2⟩)
def RS.from (s t:RS):List Int:=(s.l.drop s.at_.toNat).take (t.at_.toNat-s.at_.toNat)
def RS.header (s:RS):RS×Hd:=
 if(s.hplain.1.fixed 4).1.code=0 then(if(s.hplain.1.fixed 4).2=Br (s.from s.hplain.1)then((s.hplain.1.fixed 4).1,s.hplain.2)else((s.hplain.1.fixed 4).1.fail 6 s.hplain.1.at_,Lp))else((s.hplain.1.fixed 4).1,Lp)
theorem Cl.lets {s:RS} (h:Cl s):Cl s.lets:=by
 unfold RS.lets;split
 ·exact(h.take 4).fail _ _
 ·exact h.take 4
theorem Cl.vers {s:RS} (h:Cl s):Cl s.vers.1:=by
 unfold RS.vers
 repeat' split
 ·exact h.take 1
 ·exact(h.take 1).fail _ _
 ·exact h.take 1
theorem Cl.hbase {s:RS} (h:Cl s) (v:Int):Cl (s.hbase v).1:=by
 unfold RS.hbase;split
 ·exact h.epo _
 ·exact h
theorem Cl.hplain {s:RS} (h:Cl s):Cl s.hplain.1:=((h.lets.vers).epo Aj).hbase _
theorem Cl.header {s:RS} (h:Cl s):Cl s.header.1:=by
 unfold RS.header
 repeat' split
 ·exact h.hplain.fixed 4
 ·exact(h.hplain.fixed 4).fail _ _
 ·exact h.hplain.fixed 4
theorem Iu {s:RS} (h:Av s):Av s.lets∧s.lets.l=s.l:=by
 have a:=h.take 4
 have b:=(h.ok.take 4).2
 unfold RS.lets;split
 ·exact⟨a.fail _ _,by rw[Bl];exact b⟩
 ·exact⟨a,b⟩
theorem Ku {s:RS} (h:Av s):Av s.vers.1∧s.vers.1.l=s.l:=by
 have a:=h.take 1
 have b:=(h.ok.take 1).2
 unfold RS.vers
 repeat' split
 ·exact⟨a,b⟩
 ·exact⟨a.fail _ _,by rw[Bl];exact b⟩
 ·exact⟨a,b⟩
theorem Lq {s:RS} (h:Av s):Av s.hbegin.1∧s.hbegin.1.l=s.l:=by
 obtain⟨a,b⟩:=Iu h
 obtain⟨c,d⟩:=Ku a
 exact⟨c,d.trans b⟩
theorem WQ {s:RS} (h:Av s) (v:Int):Av (s.hbase v).1∧(s.hbase v).1.l=s.l:=by
 unfold RS.hbase;split
 ·exact Bu h _
 ·exact⟨h,rfl⟩
theorem F2 {s:RS} (h:Av s):Av s.hplain.1∧s.hplain.1.l=s.l:=by
 obtain⟨a,b⟩:=Lq h
 obtain⟨c,d⟩:=Bu a Aj
 obtain⟨e,f⟩:=WQ c s.hbegin.2
 exact⟨e,f.trans (d.trans b)⟩
theorem Ln {s:RS} (h:Av s):Av s.header.1∧s.header.1.l=s.l:=by
 obtain⟨a,b⟩:=F2 h
 obtain⟨c,d⟩:=Hi a 4
 unfold RS.header
 repeat' split
 ·exact⟨c,d.trans b⟩
 ·exact⟨c.fail _ _,by rw[Bl];exact d.trans b⟩
 ·exact⟨c,d.trans b⟩
theorem Akd {s:RS} (h:Av s) (hc:s.lets.code=0):s.code=0∧s.lets.at_=s.at_+4∧s.l.take s.lets.at_.toNat=s.l.take s.at_.toNat++BF:=by
 unfold RS.lets at hc ⊢
 by_cases hx:(s.take 4).1.code=0∧(s.take 4).2≠BF
 ·rw[if_pos hx]at hc;exact absurd hc (BM _ _ hx.1 (by decide))
 ·rw[if_neg hx]at hc ⊢
  obtain⟨t1,t2,t3,t4,t5⟩:=Bn h hc
  have e:(s.take 4).2=BF:=by
   by_cases he:(s.take 4).2=BF
   ·exact he
   ·exact absurd ⟨hc,he⟩ hx
  rw[e]at t5
  exact⟨t1,t4,t5⟩
theorem Aie {s:RS} (h:Av s) (hc:s.vers.1.code=0):s.code=0∧1≤s.vers.2∧s.vers.2≤3∧s.vers.1.at_=s.at_+1∧s.l.take s.vers.1.at_.toNat=s.l.take s.at_.toNat++[s.vers.2]:=by
 unfold RS.vers at hc ⊢
 by_cases h1:(s.take 1).1.code=0
 ·rw[if_pos h1]at hc ⊢
  by_cases h2:1≤(s.take 1).2.getD 0 0∧(s.take 1).2.getD 0 0≤3
  ·rw[if_pos h2]
   obtain⟨t1,t2,t3,t4,t5⟩:=Bn h h1
   have e:(s.take 1).2=[(s.take 1).2.getD 0 0]:=by
    match hx:(s.take 1).2,t3 with
    |[x],_=>rfl
    |[],t3=>simp at t3
    |x::y::z,t3=>simp only[List.length_cons]at t3;omega
   exact⟨t1,h2.1,h2.2,t4,by rw[t5];congr 1⟩
  ·rw[if_neg h2]at hc;exact absurd hc (BM _ _ h1 (by decide))
 ·rw[if_neg h1]at hc;exact absurd hc h1
theorem Afr {s:RS} (h:Av s) {v:Int} (hc:(s.hbase v).1.code=0):s.code=0∧0≤(s.hbase v).2∧(s.hbase v).2<4611686018427387904∧(v=1∨(s.hbase v).2=0)∧s.at_≤(s.hbase v).1.at_∧s.l.take (s.hbase v).1.at_.toNat=s.l.take s.at_.toNat++(if v=1 then vb (s.hbase v).2 else[]):=by
 unfold RS.hbase at hc ⊢
 by_cases hv:v=1
 ·rw[if_pos hv]at hc ⊢
  obtain⟨e1,e2,e3,e4,e5,e6⟩:=Hp h hc
  rw[if_pos hv]
  exact⟨e1,e2,Ec.1 e4,.inl hv,by omega,e6⟩
 ·rw[if_neg hv]at hc ⊢
  rw[if_neg hv]
  exact⟨hc,Int.le_refl _,by show(0:Int)<4611686018427387904;decide,.inr rfl,Int.le_refl _,by simp⟩
theorem Pv {s:RS} (h:Av s) (hc:s.hplain.1.code=0):s.code=0∧Bz s.hplain.2=true∧0≤s.hplain.2.base∧s.at_+6≤s.hplain.1.at_∧s.l.take s.hplain.1.at_.toNat=s.l.take s.at_.toNat++AH s.hplain.2:=by
 obtain⟨a1,a2⟩:=Iu h
 obtain⟨b1,b2⟩:=Ku a1
 obtain⟨c1,c2⟩:=Bu b1 Aj
 obtain⟨d1,d2,d3,d4,d5,d6⟩:=Afr c1 hc
 obtain⟨e1,e2,e3,e4,e5,e6⟩:=Hp b1 d1
 obtain⟨f1,f2,f3,f4,f5⟩:=Aie a1 e1
 obtain⟨g1,g2,g3⟩:=Akd h f1
 have er:=BV.1 e4
 refine⟨g1,CY.2 ⟨⟨f2,f3⟩,er,d3,d4⟩,d2,?_,?_⟩
 ·have x1:s.hplain.1.at_=((s.hbegin.1.epo Aj).1.hbase s.hbegin.2).1.at_:=rfl
  rw[x1]
  have x2:s.hbegin.1.at_=s.lets.at_+1:=f4
  have x3:s.hbegin.1.at_<(s.hbegin.1.epo Aj).1.at_:=e5
  have x4:(s.hbegin.1.epo Aj).1.at_≤((s.hbegin.1.epo Aj).1.hbase s.hbegin.2).1.at_:=d5
  omega
 ·rw[c2,b2,a2]at d6
  rw[b2,a2]at e6
  rw[a2]at f5
  have y1:s.l.take s.hplain.1.at_.toNat=s.l.take (s.lets.vers.1.epo Aj).1.at_.toNat++(if s.hbegin.2=1 then vb s.hplain.2.base else[]):=d6
  rw[y1,e6,f5,g3]
  simp only[List.append_assoc]
  rfl
theorem Px {s t:RS} (h0:0≤s.at_) (h1:s.at_≤t.at_) {x:List Int} (hx:s.l.take t.at_.toNat=s.l.take s.at_.toNat++x) (hl:s.at_≤s.l.length):s.from t=x:=by
 unfold RS.from
 have hA:(s.l.take s.at_.toNat).length=s.at_.toNat:=by rw[List.length_take];omega
 have e:=congrArg (List.drop s.at_.toNat) hx
 rw[List.drop_take]at e
 exact e.trans (List.drop_left' hA)
theorem FI {h:Hd} (hr:Bz h=true) (hb:0≤h.base):AY (AH h):=by
 obtain⟨h1,h2,h3,h4⟩:=CY.1 hr
 intro y hy
 unfold AH at hy
 rcases List.mem_append.1 hy with hy|hy
 ·rcases List.mem_append.1 hy with hy|hy
  ·simp only[BF,List.cons_append,List.nil_append,List.mem_cons,List.not_mem_nil,or_false]at hy
   omega
  ·exact CD (by omega) (by omega) y hy
 ·split at hy
  ·exact CD hb (by omega) y hy
  ·simp at hy
theorem VY (h:Hd):6≤(AH h).length∧(AH h).length≤25:=by
 unfold AH
 have h1:=Bd h.ep
 have h2:=Bd h.base
 simp only[List.length_append,BF,List.length_cons,List.length_nil]
 split
 ·omega
 ·simp only[List.length_nil];omega
theorem Ea (h:Hd):(Am h).length=(AH h).length+4:=by unfold Am;rw[List.length_append,BD]
theorem HY {h:Hd} (hr:Bz h=true) (hb:0≤h.base):AY (Am h):=by
 intro y hy
 rcases List.mem_append.1 hy with hy|hy
 ·exact FI hr hb y hy
 ·exact DC 4 _ y hy
theorem Pw {s:RS} (h:Av s) (hc:s.header.1.code=0):s.code=0∧Bz s.header.2=true∧0≤s.header.2.base∧s.at_+10≤s.header.1.at_∧s.l.take s.header.1.at_.toNat=s.l.take s.at_.toNat++Am s.header.2:=by
 unfold RS.header at hc ⊢
 by_cases h1:(s.hplain.1.fixed 4).1.code=0
 ·rw[if_pos h1]at hc ⊢
  by_cases h2:(s.hplain.1.fixed 4).2=Br (s.from s.hplain.1)
  ·rw[if_pos h2]
   obtain⟨a,b⟩:=F2 h
   obtain⟨t1,t2,t3,t4,t5⟩:=Bn a (n:=4) h1
   obtain⟨p1,p2,p3,p4,p5⟩:=Pv h t1
   have hfr:=Px h.at0 (by omega) p5 h.at1
   have hfix:(s.hplain.1.fixed 4).1.at_=s.hplain.1.at_+4:=t4
   refine⟨p1,p2,p3,by simp only;omega,?_⟩
   rw[b]at t5
   show s.l.take (s.hplain.1.take 4).1.at_.toNat=_
   rw[t5,p5,List.append_assoc]
   unfold Am
   congr 2
   have hb:AY (s.hplain.1.take 4).2:=DO a.bys 4
   have hl:=It hb
   have hlen:(s.hplain.1.take 4).2.length=4:=by omega
   rw[hlen]at hl
   have h2':Bw (s.hplain.1.take 4).2=Br (AH s.hplain.2):=by rw[←hfr];exact h2
   rw[←h2'];exact hl.symm
  ·rw[if_neg h2]at hc;exact absurd hc (BM _ _ h1 (by decide))
 ·rw[if_neg h1]at hc;exact absurd hc h1
theorem WL {s:RS} (hc:¬s.header.1.code=0):s.header.2=Lp:=by
 unfold RS.header at hc ⊢
 repeat' split
 ·rename_i h1 h2;rw[if_pos h1,if_pos h2]at hc;exact absurd h1 hc
 ·rfl
 ·rfl
theorem WH {s:RS} {h:Hd} {r:List Int} (hs:Av s) (hc:s.code=0) (hr:Bz h=true) (hb:0≤h.base) (hrest:s.rest=AH h++r):s.hplain=(s.adv ((AH h).length:Int),h):=by
 obtain⟨h1,h2,h3,h4⟩:=CY.1 hr
 have e1:s.rest=BF++([h.ver]++(vb h.ep++((if h.ver=1 then vb h.base else[])++r))):=by rw[hrest];unfold AH;simp only[List.append_assoc]
 have t1:=C3 hs hc e1
 have t1':s.take 4=(s.adv 4,BF):=t1
 have hl:s.lets=s.adv 4:=by unfold RS.lets;rw[t1'];simp
 have hs1:Av (s.adv 4):=Bv hs e1
 have e2:(s.adv 4).rest=[h.ver]++(vb h.ep++((if h.ver=1 then vb h.base else[])++r)):=by
  have:=A5 (s:=s) hs.at0 4
  have e:s.adv ((4:Nat):Int)=s.adv 4:=rfl
  rw[e,e1]at this;exact this
 have t2:=C3 hs1 (show(s.adv 4).code=0 from hc) e2
 have t2':(s.adv 4).take 1=((s.adv 4).adv 1,[h.ver]):=t2
 have hv:s.hbegin=(s.adv 5,h.ver):=by
  unfold RS.hbegin RS.vers
  rw[hl,t2']
  simp only[List.getD_cons_zero]
  rw[if_pos (show((s.adv 4).adv 1).code=0 from hc),if_pos h1,BH];rfl
 have hs2:Av (s.adv 5):=by have:=Bv hs1 e2;rw[BH]at this;exact this
 have e3:(s.adv 5).rest=vb h.ep++((if h.ver=1 then vb h.base else[])++r):=by
  have:=A5 (s:=s.adv 4) hs1.at0 1
  have e:(s.adv 4).adv ((1:Nat):Int)=s.adv 5:=by rw[BH];rfl
  rw[e,e2]at this;exact this
 have hep:=Ho (ok:=Aj) (show(s.adv 5).code=0 from hc) (by omega) (by omega) (BV.2 h2) e3
 have hs3:=Bv hs2 e3
 have e4:((s.adv 5).adv ((vb h.ep).length:Int)).rest=(if h.ver=1 then vb h.base else[])++r:=by rw[A5 hs2.at0,e3,List.drop_left]
 have hlen:((AH h).length:Int)=5+(vb h.ep).length+(if h.ver=1 then vb h.base else[]).length:=by
  unfold AH;simp only[List.length_append,BF,List.length_cons,List.length_nil];omega
 have hba:((s.adv 5).adv ((vb h.ep).length:Int)).hbase h.ver=(s.adv ((AH h).length:Int),h.base):=by
  unfold RS.hbase
  by_cases hv1:h.ver=1
  ·rw[if_pos hv1]
   rw[if_pos hv1]at e4 hlen
   have:=Ho (ok:=Bb) (show((s.adv 5).adv ((vb h.ep).length:Int)).code=0 from hc) hb (by omega) (Ec.2 h3) e4
   rw[this,BH,BH,hlen,Int.add_assoc]
  ·rw[if_neg hv1]
   rw[if_neg hv1]at hlen
   have hb0:h.base=0:=by omega
   rw[BH,hlen,hb0]
   simp
 unfold RS.hplain
 rw[hv];simp only
 rw[hep];simp only
 rw[hba]
theorem WI {s:RS} {h:Hd} {r:List Int} (hs:Av s) (hc:s.code=0) (hr:Bz h=true) (hb:0≤h.base) (hrest:s.rest=Am h++r):s.header=(s.adv ((Am h).length:Int),h):=by
 have e1:s.rest=AH h++(Aq 4 (Br (AH h))++r):=by rw[hrest];unfold Am;rw[List.append_assoc]
 have hp:=WH hs hc hr hb e1
 have hs1:=Bv hs e1
 have e2:(s.adv ((AH h).length:Int)).rest=Aq 4 (Br (AH h))++r:=by rw[A5 hs.at0,e1,List.drop_left]
 have ht:=C3 hs1 (show(s.adv ((AH h).length:Int)).code=0 from hc) e2
 rw[BD]at ht
 have hcr:=Dt (FI hr hb)
 have hf:(s.adv ((AH h).length:Int)).fixed 4=(s.adv ((Am h).length:Int),Br (AH h)):=by
  unfold RS.fixed
  have ht':(s.adv ((AH h).length:Int)).take 4=((s.adv ((AH h).length:Int)).adv 4,Aq 4 (Br (AH h))):=ht
  rw[ht',Iy 4 _ hcr.1 (by simpa using hcr.2),BH,Ea]
  rfl
 have hfr:s.from (s.adv ((AH h).length:Int))=AH h:=by
  unfold RS.from
  have h0:=hs.at0
  have e3:(s.adv ((AH h).length:Int)).at_.toNat-s.at_.toNat=(AH h).length:=by
   show(s.at_+((AH h).length:Int)).toNat-s.at_.toNat=_;omega
  rw[e3]
  show s.rest.take _=_
  rw[e1,List.take_left]
 unfold RS.header
 rw[hp];simp only
 rw[hf];simp only
 rw[if_pos (show(s.adv ((Am h).length:Int)).code=0 from hc),hfr,if_pos rfl]
section
variable {pre:List Int}
end
structure Ft where
 ep:Int
 bat:Int
 ent:Int
 fst:Int
 fin:Int
 at_:Int
 size:Int
 deriving DecidableEq
def JH:Ft:=⟨0,0,0,0,0,0,0⟩
structure Ft.ok (f:Ft):Prop where
 ep:0≤f.ep∧f.ep<18446744073709551616
 bat: -9223372036854775808≤f.bat∧f.bat<9223372036854775808
 ent: -9223372036854775808≤f.ent∧f.ent<9223372036854775808
 fst:0≤f.fst∧f.fst<18446744073709551616
 fin:0≤f.fin∧f.fin<18446744073709551616
 at_: -9223372036854775808≤f.at_∧f.at_<9223372036854775808
 size: -9223372036854775808≤f.size∧f.size<9223372036854775808
def C_ (f:Ft):Bool:=if f.bat=0 then decide (f.fst=0∧f.fin=0)else decide (f.fst<f.fin∧f.fin≤4611686018427387904∧f.ent≤f.fin-f.fst)
def Az (f:Ft):Bool:=Aj f.ep&&decide (0≤f.bat∧f.bat≤16∧f.bat≤f.ent∧f.ent≤16*f.bat)&&decide (1≤f.at_∧f.at_≤1099511627775∧1≤f.size∧f.size≤2097152)&&C_ f
theorem Ms {f:Ft}:C_ f=true↔(f.bat=0->f.fst=0∧f.fin=0)∧(¬f.bat=0->f.fst<f.fin∧f.fin≤4611686018427387904∧f.ent≤f.fin-f.fst):=by
 unfold C_
 split<;>rename_i h<;>simp[h]
theorem FC {f:Ft}:Az f=true↔(1≤f.ep∧f.ep<4611686018427387904)∧(0≤f.bat∧f.bat≤16∧f.bat≤f.ent∧f.ent≤16*f.bat)∧(1≤f.at_∧f.at_≤1099511627775∧1≤f.size∧f.size≤2097152)∧C_ f=true:=by
 simp only[Az,Bool.and_eq_true,decide_eq_true_eq,BV,and_assoc]
def Bj (f:Ft):List Int:=[3]++vb f.ep++vb f.bat++vb f.ent++vb f.fst++vb f.fin++vb f.at_++vb f.size
def A0 (x:Int):List Int:=Aq 4 x++Aq 4 (Br (Aq 4 x))++[76,79,72,84]
def Eu (f:Ft):List Int:=Ac (Bj f)++A0 (Ac (Bj f)).length
def RS.fkind (s:RS):RS:=if(s.take 1).1.code=0∧¬(s.take 1).2.getD 0 0=3 then(s.take 1).1.fail 7 0 else(s.take 1).1
def RS.fnums (s:RS):RS×Ft:=
 let a:=s.epo Aj
 let b:=a.1.int 65536
 let c:=b.1.int 65536
 let d:=c.1.vint
 let e:=d.1.vint
 let f:=e.1.int 1099511627776
 let g:=f.1.int 1099511627776
 (g.1,⟨a.2,b.2,c.2,d.2,e.2,f.2,g.2⟩)
def RS.rest9 (s:RS):RS:=if 0<s.left then s.fail 9 s.at_ else s
def RS.fcheck (s:RS) (f:Ft):RS:=if Az f=true then s else s.fail 3 0
def RS.foot (s:RS):RS×Ft:=((s.fkind.fnums.1.fcheck s.fkind.fnums.2).rest9,s.fkind.fnums.2)
def Bs (p:List Int):Ft×(Int×Int):=if(RS.new p).foot.1.code=0 then((RS.new p).foot.2,(0,0))else(JH,((RS.new p).foot.1.code,(RS.new p).foot.1.fat))
theorem Jw {s:RS} (h:Av s):Av s.fkind∧s.fkind.l=s.l:=by
 have a:=h.take 1
 have b:=(h.ok.take 1).2
 unfold RS.fkind;split
 ·exact⟨a.fail _ _,by rw[Bl];exact b⟩
 ·exact⟨a,b⟩
theorem Nq {s:RS} (h:Av s):Av s.fnums.1∧s.fnums.1.l=s.l:=by
 unfold RS.fnums
 simp only
 obtain⟨a,a'⟩:=Bu h Aj
 obtain⟨b,b'⟩:=a.int 65536
 obtain⟨c,c'⟩:=b.int 65536
 obtain⟨d,d'⟩:=c.vint
 obtain⟨e,e'⟩:=d.vint
 obtain⟨f,f'⟩:=e.int 1099511627776
 obtain⟨g,g'⟩:=f.int 1099511627776
 exact⟨g,g'.trans (f'.trans (e'.trans (d'.trans (c'.trans (b'.trans a')))))⟩
theorem FD {s:RS} (h:s.rest9.code=0):s.code=0∧s.left≤0∧s.rest9=s:=by
 unfold RS.rest9 at h ⊢
 by_cases hl:0<s.left
 ·rw[if_pos hl]at h
  by_cases hc:s.code=0
  ·exact absurd h (BM _ _ hc (by decide))
  ·unfold RS.fail at h;rw[if_neg hc]at h;exact absurd h hc
 ·rw[if_neg hl]at h ⊢;exact⟨h,by omega,rfl⟩
theorem Ua {s:RS} {f:Ft} (h:(s.fcheck f).code=0):s.code=0∧Az f=true∧s.fcheck f=s:=by
 unfold RS.fcheck at h ⊢
 by_cases hr:Az f=true
 ·rw[if_pos hr]at h ⊢;exact⟨h,hr,rfl⟩
 ·rw[if_neg hr]at h
  by_cases hc:s.code=0
  ·exact absurd h (BM _ _ hc (by decide))
  ·unfold RS.fail at h;rw[if_neg hc]at h;exact absurd h hc
theorem Af0 {s:RS} (h:Av s) (hc:s.fkind.code=0):s.code=0∧s.fkind.at_=s.at_+1∧s.l.take s.fkind.at_.toNat=s.l.take s.at_.toNat++[3]:=by
 unfold RS.fkind at hc ⊢
 by_cases hx:(s.take 1).1.code=0∧¬(s.take 1).2.getD 0 0=3
 ·rw[if_pos hx]at hc;exact absurd hc (BM _ _ hx.1 (by decide))
 ·rw[if_neg hx]at hc ⊢
  obtain⟨t1,t2,t3,t4,t5⟩:=Bn h hc
  have e3:(s.take 1).2.getD 0 0=3:=by
   by_cases he:(s.take 1).2.getD 0 0=3
   ·exact he
   ·exact absurd ⟨hc,he⟩ hx
  have e:(s.take 1).2=[3]:=by
   match hx:(s.take 1).2,t3 with
   |[x],_=>rw[hx]at e3;simp at e3;rw[e3]
   |[],t3=>simp at t3
   |x::y::z,t3=>simp only[List.length_cons]at t3;omega
  rw[e]at t5
  exact⟨t1,t4,t5⟩
theorem Jl {s:RS} (h:Av s) {m:Int} (hc:(s.int m).1.code=0):s.code=0∧0≤(s.int m).2∧(s.int m).2≤m∧s.l.take (s.int m).1.at_.toNat=s.l.take s.at_.toNat++vb (s.int m).2:=by
 obtain⟨a,b,c,_,e⟩:=DE h hc
 exact⟨a,b,c,e⟩
theorem Afx {s:RS} (h:Av s) (hc:s.fnums.1.code=0):s.code=0∧s.fnums.2.ok∧s.l.take s.fnums.1.at_.toNat=s.l.take s.at_.toNat++(vb s.fnums.2.ep++vb s.fnums.2.bat++vb s.fnums.2.ent++vb s.fnums.2.fst++vb s.fnums.2.fin++vb s.fnums.2.at_++vb s.fnums.2.size):=by
 unfold RS.fnums at hc ⊢
 simp only at hc ⊢
 obtain⟨a,a'⟩:=Bu h Aj
 obtain⟨b,b'⟩:=a.int 65536
 obtain⟨c,c'⟩:=b.int 65536
 obtain⟨d,d'⟩:=c.vint
 obtain⟨e,e'⟩:=d.vint
 obtain⟨f,f'⟩:=e.int 1099511627776
 obtain⟨g1,g2,g3,g4⟩:=Jl f hc
 obtain⟨f1,f2,f3,f4⟩:=Jl e g1
 obtain⟨e4,_,e1⟩:=CJ d f1
 have e2:=Bk (s:=(((s.epo Aj).1.int 65536).1.int 65536).1.vint.1) d.bys
 obtain⟨d4,_,d1⟩:=CJ c e1
 have d2:=Bk (s:=(((s.epo Aj).1.int 65536).1.int 65536).1) c.bys
 obtain⟨c1,c2,c3,c4⟩:=Jl b d1
 obtain⟨b1,b2,b3,b4⟩:=Jl a c1
 obtain⟨a1,a2,a3,_,_,a4⟩:=Hp h b1
 refine⟨a1,⟨⟨a2,a3⟩,by simp only;omega,by simp only;omega,d2,e2,by simp only;omega,by simp only;omega⟩,?_⟩
 rw[f',e',d',c',b',a']at g4
 rw[e',d',c',b',a']at f4
 rw[d',c',b',a']at e4
 rw[c',b',a']at d4
 rw[b',a']at c4
 rw[a']at b4
 rw[g4,f4,e4,d4,c4,b4,a4]
 simp only[List.append_assoc]
theorem Ym {p:List Int} (hp:AY p) (hn:p.length≤140737488355328) (hc:(RS.new p).foot.1.code=0):Az (RS.new p).foot.2=true∧(RS.new p).foot.2.ok∧p=Bj (RS.new p).foot.2:=by
 have h:Av (RS.new p):=Av.new hp hn
 obtain⟨r1,r2,r3⟩:=FD hc
 obtain⟨k1,k2,k3⟩:=Ua r1
 obtain⟨q1,q2⟩:=Jw h
 obtain⟨n1,n2,n3⟩:=Afx q1 k1
 obtain⟨m1,m2,m3⟩:=Af0 h n1
 rw[k3]at r2
 obtain⟨z1,z2⟩:=Nq q1
 refine⟨k2,n2,?_⟩
 rw[q2,m3]at n3
 have e0:(RS.new p).l.take (RS.new p).at_.toNat=[]:=by simp[RS.new]
 have e1:(RS.new p).l=p:=rfl
 rw[e0,e1,List.nil_append]at n3
 have ha:=z1.at0
 have hl:p.length≤(RS.new p).fkind.fnums.1.at_.toNat:=by
  unfold RS.left at r2
  rw[z2,q2,e1]at r2
  omega
 rw[List.take_of_length_le hl]at n3
 unfold Bj
 simp only[List.append_assoc]at n3 ⊢
 exact n3
theorem E0 (f:Ft):8≤(Bj f).length∧(Bj f).length≤71:=by
 unfold Bj
 have h1:=Bd f.ep
 have h2:=Bd f.bat
 have h3:=Bd f.ent
 have h4:=Bd f.fst
 have h5:=Bd f.fin
 have h6:=Bd f.at_
 have h7:=Bd f.size
 simp only[List.length_append,List.length_cons,List.length_nil];omega
theorem D7 {f:Ft} (hf:f.ok) (hr:Az f=true):(0≤f.bat∧f.bat≤16)∧(0≤f.ent∧f.ent≤256)∧(f.fst<18446744073709551616)∧(1≤f.at_∧f.at_≤1099511627775)∧(1≤f.size∧f.size≤2097152):=by
 obtain⟨a,b,c,d⟩:=FC.1 hr
 have:=hf.fst
 omega
theorem HR {f:Ft} (hf:f.ok) (hr:Az f=true):AY (Bj f):=by
 obtain⟨a,b,c,d,e⟩:=D7 hf hr
 have app:∀{x y:List Int},AY x->AY y->AY (x++y):=λhx hy z hz=>by rcases List.mem_append.1 hz with hz|hz;exact hx z hz;exact hy z hz
 unfold Bj
 refine app (app (app (app (app (app (app ?_ ?_) ?_) ?_) ?_) ?_) ?_) ?_
 ·intro y hy;simp at hy;omega
 ·exact CD hf.ep.1 hf.ep.2
 ·exact CD (by omega) (by omega)
 ·exact CD (by omega) (by omega)
 ·exact CD hf.fst.1 hf.fst.2
 ·exact CD hf.fin.1 hf.fin.2
 ·exact CD (by omega) (by omega)
 ·exact CD (by omega) (by omega)
theorem Afu {f:Ft} (hf:f.ok) (hr:Az f=true):(RS.new (Bj f)).foot=((RS.new (Bj f)).adv ((Bj f).length:Int),f):=by
 obtain⟨n1,n2,n3,n4,n5⟩:=D7 hf hr
 obtain⟨k1,_,_,_⟩:=FC.1 hr
 have hb:=HR hf hr
 have hl:=E0 f
 have h0:Av (RS.new (Bj f)):=Av.new hb (by omega)
 have e0:(RS.new (Bj f)).rest=[3]++(vb f.ep++(vb f.bat++(vb f.ent++(vb f.fst++(vb f.fin++(vb f.at_++(vb f.size++[]))))))):=by
  rw[BK];unfold Bj;simp only[List.append_assoc,List.append_nil]
 have t1:=C3 h0 rfl e0
 have t1':(RS.new (Bj f)).take 1=((RS.new (Bj f)).adv 1,[3]):=t1
 have hk:(RS.new (Bj f)).fkind=(RS.new (Bj f)).adv 1:=by unfold RS.fkind;rw[t1'];simp
 have h1:Av ((RS.new (Bj f)).adv 1):=Bv h0 e0
 have e1:((RS.new (Bj f)).adv 1).rest=vb f.ep++(vb f.bat++(vb f.ent++(vb f.fst++(vb f.fin++(vb f.at_++(vb f.size++[])))))):=by
  have:=A5 (s:=RS.new (Bj f)) h0.at0 1
  rw[e0]at this;exact this
 generalize hs1:(RS.new (Bj f)).adv 1=s1 at*
 have c1:s1.code=0:=by rw[←hs1];rfl
 have a2:=Ho (ok:=Aj) c1 hf.ep.1 hf.ep.2 (BV.2 k1) e1
 have h2:=Bv h1 e1
 have e2:(s1.adv ((vb f.ep).length:Int)).rest=vb f.bat++(vb f.ent++(vb f.fst++(vb f.fin++(vb f.at_++(vb f.size++[]))))):=by rw[A5 h1.at0,e1,List.drop_left]
 generalize hs2:s1.adv ((vb f.ep).length:Int)=s2 at*
 have c2:s2.code=0:=by rw[←hs2];exact c1
 have a3:=Er (m:=65536) c2 n1.1 (by omega) (by omega) e2
 have h3:=Bv h2 e2
 have e3:(s2.adv ((vb f.bat).length:Int)).rest=vb f.ent++(vb f.fst++(vb f.fin++(vb f.at_++(vb f.size++[])))):=by rw[A5 h2.at0,e2,List.drop_left]
 generalize hs3:s2.adv ((vb f.bat).length:Int)=s3 at*
 have c3:s3.code=0:=by rw[←hs3];exact c2
 have a4:=Er (m:=65536) c3 n2.1 (by omega) (by omega) e3
 have h4:=Bv h3 e3
 have e4:(s3.adv ((vb f.ent).length:Int)).rest=vb f.fst++(vb f.fin++(vb f.at_++(vb f.size++[]))):=by rw[A5 h3.at0,e3,List.drop_left]
 generalize hs4:s3.adv ((vb f.ent).length:Int)=s4 at*
 have c4:s4.code=0:=by rw[←hs4];exact c3
 have a5:=Di c4 hf.fst.1 hf.fst.2 e4
 have h5:=Bv h4 e4
 have e5:(s4.adv ((vb f.fst).length:Int)).rest=vb f.fin++(vb f.at_++(vb f.size++[])):=by rw[A5 h4.at0,e4,List.drop_left]
 generalize hs5:s4.adv ((vb f.fst).length:Int)=s5 at*
 have c5:s5.code=0:=by rw[←hs5];exact c4
 have a6:=Di c5 hf.fin.1 hf.fin.2 e5
 have h6:=Bv h5 e5
 have e6:(s5.adv ((vb f.fin).length:Int)).rest=vb f.at_++(vb f.size++[]):=by rw[A5 h5.at0,e5,List.drop_left]
 generalize hs6:s5.adv ((vb f.fin).length:Int)=s6 at*
 have c6:s6.code=0:=by rw[←hs6];exact c5
 have a7:=Er (m:=1099511627776) c6 (by omega) (by omega) (by omega) e6
 have h7:=Bv h6 e6
 have e7:(s6.adv ((vb f.at_).length:Int)).rest=vb f.size++[]:=by rw[A5 h6.at0,e6,List.drop_left]
 generalize hs7:s6.adv ((vb f.at_).length:Int)=s7 at*
 have c7:s7.code=0:=by rw[←hs7];exact c6
 have a8:=Er (m:=1099511627776) c7 (by omega) (by omega) (by omega) e7
 have hfn:s1.fnums=(s7.adv ((vb f.size).length:Int),f):=by
  unfold RS.fnums
  simp only[a2,a3,a4,a5,a6,a7,a8]
 have hend:s7.adv ((vb f.size).length:Int)=(RS.new (Bj f)).adv ((Bj f).length:Int):=by
  rw[←hs7,←hs6,←hs5,←hs4,←hs3,←hs2,←hs1]
  simp only[BH]
  congr 1
  unfold Bj
  simp only[List.length_append,List.length_cons,List.length_nil];omega
 have hleft:((RS.new (Bj f)).adv ((Bj f).length:Int)).left=0:=by unfold RS.left RS.adv RS.new;simp
 unfold RS.foot
 rw[hk,hfn];simp only
 unfold RS.fcheck
 rw[if_pos hr]
 unfold RS.rest9
 rw[hend,hleft];simp
theorem MO {f:Ft} (hf:f.ok) (hr:Az f=true):Bs (Bj f)=(f,(0,0)):=by
 unfold Bs
 rw[Afu hf hr];simp only
 rw[if_pos (show((RS.new (Bj f)).adv ((Bj f).length:Int)).code=0 from rfl)]
def Hb:List Int:=[76,79,72,84]
def Dl (s:List Int):Int×(Int×Int):=
 if s.length<12 then(0,(1,s.length))else
 if¬(s.drop (s.length-12)).drop 8=Hb then(0,(14,(s.length:Int)-4))else
 if¬Bw (((s.drop (s.length-12)).drop 4).take 4)=Br ((s.drop (s.length-12)).take 4)then(0,(6,(s.length:Int)-8))else
 if(s.length:Int)-12<Bw ((s.drop (s.length-12)).take 4)then(0,(3,(s.length:Int)-12))else(Bw ((s.drop (s.length-12)).take 4),(0,0))
def Ns (s:List Int) (a e:Nat):Ft×Int×(Int×Int):=
 if((RS.new ((s.take e).drop a)).frame 2097152).1.code=0 then
  (if((RS.new ((s.take e).drop a)).frame 2097152).1.at_<(e:Int)-a then(JH,0,(9,(a:Int)+((RS.new ((s.take e).drop a)).frame 2097152).1.at_))
  else if(Bs ((RS.new ((s.take e).drop a)).frame 2097152).2).2.1=0 then((Bs ((RS.new ((s.take e).drop a)).frame 2097152).2).1,(a:Int),(0,0))
  else(JH,0,((Bs ((RS.new ((s.take e).drop a)).frame 2097152).2).2.1,(Bs ((RS.new ((s.take e).drop a)).frame 2097152).2).2.2+(a+((RS.new ((s.take e).drop a)).frame 2097152).1.at_-4-((RS.new ((s.take e).drop a)).frame 2097152).2.length))))
 else(JH,0,(((RS.new ((s.take e).drop a)).frame 2097152).1.code,((RS.new ((s.take e).drop a)).frame 2097152).1.fat+a))
def AX (s:List Int):Ft×Int×(Int×Int):=
 if(Dl s).2.1=0 then Ns s (s.length-12-(Dl s).1.toNat) (s.length-12)else(JH,0,(Dl s).2)
theorem Mv {s:List Int} (hs:AY s) (h:(Dl s).2.1=0):12≤s.length∧(Dl s).2=(0,0)∧0≤(Dl s).1∧(Dl s).1≤(s.length:Int)-12∧s.drop (s.length-12)=A0 (Dl s).1:=by
 unfold Dl at h ⊢
 by_cases h1:s.length<12
 ·rw[if_pos h1]at h;exact absurd h (by simp)
 ·rw[if_neg h1]at h ⊢
  by_cases h2:¬(s.drop (s.length-12)).drop 8=Hb
  ·rw[if_pos h2]at h;exact absurd h (by simp)
  ·rw[if_neg h2]at h ⊢
   by_cases h3:¬Bw (((s.drop (s.length-12)).drop 4).take 4)=Br ((s.drop (s.length-12)).take 4)
   ·rw[if_pos h3]at h;exact absurd h (by simp)
   ·rw[if_neg h3]at h ⊢
    by_cases h4:(s.length:Int)-12<Bw ((s.drop (s.length-12)).take 4)
    ·rw[if_pos h4]at h;exact absurd h (by simp)
    ·rw[if_neg h4]
     have htl:(s.drop (s.length-12)).length=12:=by rw[List.length_drop];omega
     have htb:AY (s.drop (s.length-12)):=λx hx=>hs x (List.mem_of_mem_drop hx)
     generalize s.drop (s.length-12)=t at*
     have b1:AY (t.take 4):=λx hx=>htb x (List.mem_of_mem_take hx)
     have b2:AY ((t.drop 4).take 4):=λx hx=>htb x (List.mem_of_mem_drop (List.mem_of_mem_take hx))
     have l1:=It b1
     have l2:=It b2
     rw[show(t.take 4).length=4 by rw[List.length_take];omega]at l1
     rw[show((t.drop 4).take 4).length=4 by rw[List.length_take,List.length_drop];omega]at l2
     have r1:=E4 b1
     refine⟨by omega,rfl,r1.1,by simp only;omega,?_⟩
     simp only[Decidable.not_not]at h2 h3
     unfold A0
     simp only
     rw[l1,←h3,l2]
     have e1:t=t.take 4++t.drop 4:=(List.take_append_drop 4 t).symm
     have e2:t.drop 4=(t.drop 4).take 4++(t.drop 4).drop 4:=(List.take_append_drop 4 _).symm
     have e3:(t.drop 4).drop 4=Hb:=by rw[List.drop_drop];exact h2
     conv=>lhs;rw[e1,e2,e3]
     rw[List.append_assoc];rfl
theorem Dk (x:Int):(A0 x).length=12:=by
 unfold A0;simp only[List.length_append,BD,List.length_cons,List.length_nil]
theorem I3 (x:Int):AY (A0 x):=by
 intro y hy
 unfold A0 at hy
 rcases List.mem_append.1 hy with hy|hy
 ·rcases List.mem_append.1 hy with hy|hy
  ·exact DC 4 _ y hy
  ·exact DC 4 _ y hy
 ·simp at hy;omega
theorem Zk {b:List Int} {x:Int} (x0:0≤x) (x1:x<4294967296) (hx:x≤b.length):Dl (b++A0 x)=(x,(0,0)):=by
 have ht:=Dk x
 have hl:(b++A0 x).length=b.length+12:=by rw[List.length_append,ht]
 have hd:(b++A0 x).drop ((b++A0 x).length-12)=A0 x:=by rw[hl,Nat.add_sub_cancel,List.drop_left]
 have l4:=BD 4 x
 have hcr:=Dt (DC 4 x)
 have l5:=BD 4 (Br (Aq 4 x))
 have t1:(A0 x).take 4=Aq 4 x:=by unfold A0;rw[List.append_assoc,List.take_append_of_le_length (by omega),List.take_of_length_le (by omega)]
 have t2:(A0 x).drop 4=Aq 4 (Br (Aq 4 x))++[76,79,72,84]:=by unfold A0;rw[List.append_assoc];exact List.drop_left' l4
 have t3:((A0 x).drop 4).take 4=Aq 4 (Br (Aq 4 x)):=by rw[t2,List.take_append_of_le_length (by omega),List.take_of_length_le (by omega)]
 have t4:(A0 x).drop 8=Hb:=by
  have:(A0 x).drop 8=((A0 x).drop 4).drop 4:=by rw[List.drop_drop]
  rw[this,t2];exact List.drop_left' l5
 unfold Dl
 rw[hd,t4,t3,t1,Iy 4 x x0 (by simpa using x1),Iy 4 _ hcr.1 (by simpa using hcr.2),hl]
 rw[if_neg (by omega),if_neg (by simp),if_neg (by simp),if_neg (by omega)]
theorem Aa0 {f:Ft} (hf:f.ok) (hr:Az f=true):AY (Eu f):=by
 have hl:=E0 f
 intro y hy
 rcases List.mem_append.1 hy with hy|hy
 ·exact D4 (HR hf hr) (by omega) y hy
 ·exact I3 _ y hy
theorem Bh (p:List Int):(Ac p).length≤p.length+14∧p.length+5≤(Ac p).length:=by
 rw[FN];unfold Dv;rw[List.length_append];have:=Bd (p.length:Int);omega
theorem Af3 {pre:List Int} {f:Ft} (hf:f.ok) (hr:Az f=true):AX (pre++Eu f)=(f,(pre.length:Int),(0,0)):=by
 have hl:=E0 f
 have hfl:=Bh (Bj f)
 have hpb:=HR hf hr
 have e:pre++Eu f=(pre++Ac (Bj f))++A0 (Ac (Bj f)).length:=by unfold Eu;rw[List.append_assoc]
 have hs:=Zk (b:=pre++Ac (Bj f)) (x:=((Ac (Bj f)).length:Int)) (by omega) (by omega) (by rw[List.length_append];omega)
 have ht:=Dk ((Ac (Bj f)).length:Int)
 have hn:(pre++Eu f).length-12=(pre++Ac (Bj f)).length:=by rw[e,List.length_append,ht,Nat.add_sub_cancel]
 unfold AX
 rw[hn,e,hs]
 simp only[if_true]
 have ha:(pre++Ac (Bj f)).length-((Ac (Bj f)).length:Int).toNat=pre.length:=by rw[Int.toNat_natCast,List.length_append,Nat.add_sub_cancel]
 rw[ha]
 have hd:((pre++Ac (Bj f)++A0 (Ac (Bj f)).length).take (pre++Ac (Bj f)).length).drop pre.length=Ac (Bj f):=by rw[List.take_left,List.drop_left]
 have hm:((Bj f).length:Int)≤Ch 2097152:=by unfold Ch;omega
 have hok:Av (RS.new (Ac (Bj f))):=Av.new (D4 hpb (by omega)) (by omega)
 have hfo:=Py (r:=[]) (m:=2097152) hok rfl hpb hm (by rw[BK,List.append_nil])
 unfold Ns
 rw[hd,hfo]
 simp only
 have hat:((RS.new (Ac (Bj f))).adv ((Ac (Bj f)).length:Int)).at_=(Ac (Bj f)).length:=by show(0:Int)+_=_;omega
 rw[if_pos (show((RS.new (Ac (Bj f))).adv ((Ac (Bj f)).length:Int)).code=0 from rfl),hat,if_neg (by rw[List.length_append];omega),MO hf hr]
 simp
theorem Q9 {s:List Int} (hs:AY s) (hn:s.length≤140737488355328) (hc:(AX s).2.2.1=0):(AX s).2.2=(0,0)∧Az (AX s).1=true∧(AX s).1.ok∧0≤(AX s).2.1∧(AX s).2.1+12≤s.length∧s.drop (AX s).2.1.toNat=Eu (AX s).1:=by
 unfold AX at hc ⊢
 by_cases h0:(Dl s).2.1=0
 ·rw[if_pos h0]at hc ⊢
  obtain⟨z1,z2,z3,z4,z5⟩:=Mv hs h0
  obtain⟨x,hx⟩:∃x:Nat,(Dl s).1=(x:Int):=⟨(Dl s).1.toNat,by omega⟩
  rw[hx]at hc z4 z5 ⊢
  rw[Int.toNat_natCast]at hc ⊢
  obtain⟨a,ha⟩:∃a,s.length-12-x=a:=⟨_,rfl⟩
  rw[ha]at hc ⊢
  have hb:AY ((s.take (s.length-12)).drop a):=λy hy=>hs y (List.mem_of_mem_take (List.mem_of_mem_drop hy))
  have hbl:((s.take (s.length-12)).drop a).length=x:=by rw[List.length_drop,List.length_take];omega
  have hok:Av (RS.new ((s.take (s.length-12)).drop a)):=Av.new hb (by omega)
  unfold Ns at hc ⊢
  by_cases h1:((RS.new ((s.take (s.length-12)).drop a)).frame 2097152).1.code=0
  ·rw[if_pos h1]at hc ⊢
   by_cases h2:((RS.new ((s.take (s.length-12)).drop a)).frame 2097152).1.at_<((s.length-12:Nat):Int)-a
   ·rw[if_pos h2]at hc;exact absurd hc (by simp)
   ·rw[if_neg h2]at hc ⊢
    obtain⟨i1,i2,i3,i4,i5⟩:=GI hok h1
    obtain⟨k1,k2⟩:=CL hok 2097152
    have hle:=k1.at1
    rw[k2]at hle
    have e0:(RS.new ((s.take (s.length-12)).drop a)).l.take (RS.new ((s.take (s.length-12)).drop a)).at_.toNat=[]:=by simp[RS.new]
    rw[e0,List.nil_append]at i5
    have e1:(RS.new ((s.take (s.length-12)).drop a)).l=(s.take (s.length-12)).drop a:=rfl
    rw[e1]at i5 hle
    generalize hF:(RS.new ((s.take (s.length-12)).drop a)).frame 2097152=F at*
    have hfe:(s.take (s.length-12)).drop a=Ac F.2:=by
     have e2:=List.take_of_length_le (l:=(s.take (s.length-12)).drop a) (i:=F.1.at_.toNat) (by omega)
     rw[e2]at i5;exact i5
    have hfl:=congrArg List.length hfe
    have hpl:=Bh F.2
    by_cases h3:(Bs F.2).2.1=0
    ·rw[if_pos h3]
     simp only
     have hc3:(RS.new F.2).foot.1.code=0:=by
      by_cases h:(RS.new F.2).foot.1.code=0
      ·exact h
      ·unfold Bs at h3;rw[if_neg h]at h3;exact absurd h3 h
     obtain⟨f1,f2,f3⟩:=Ym i3 (by omega) hc3
     have hrf:Bs F.2=((RS.new F.2).foot.2,(0,0)):=by unfold Bs;rw[if_pos hc3]
     rw[hrf]
     refine⟨trivial,f1,f2,by omega,by omega,?_⟩
     simp only[Int.toNat_natCast]
     have hsd:s.drop a=(s.take (s.length-12)).drop a++s.drop (s.length-12):=by
      conv=>lhs;rw[←List.take_append_drop (s.length-12) s]
      rw[List.drop_append_of_le_length (by rw[List.length_take];omega)]
     have hxl:(x:Int)=((Ac F.2).length:Int):=by omega
     rw[hsd,hfe,z5,hxl]
     unfold Eu
     rw[←f3]
    ·rw[if_neg h3]at hc;exact absurd hc h3
  ·rw[if_neg h1]at hc;exact absurd hc h1
 ·rw[if_neg h0]at hc;exact absurd hc h0
def Fa (s:RS):Prop:=0≤s.fat∧s.fat≤s.l.length
theorem Fa.new (l:List Int):Fa (RS.new l):=⟨Int.le_refl _,by show(0:Int)≤_;omega⟩
theorem Fa.fail {s:RS} (h:Fa s) {c a:Int} (a0:0≤a) (a1:a≤s.l.length):Fa (s.fail c a):=by
 unfold RS.fail
 split
 ·unfold BW
  split
  ·exact⟨Int.le_refl _,by show(0:Int)≤_;omega⟩
  ·exact⟨a0,a1⟩
 ·exact h
theorem Fa.skip {s:RS} (h:Fa s) (hs:Av s) (n:Int):Fa (s.skip n).1:=by
 have h0:=hs.at0
 have h1:=hs.at1
 unfold RS.skip
 repeat' split
 ·exact h.fail h0 h1
 ·exact h.fail (by omega) (by omega)
 ·exact h
 ·exact h
theorem Fa.take {s:RS} (h:Fa s) (hs:Av s) (n:Int):Fa (s.take n).1:=by
 unfold RS.take
 split<;>exact h.skip hs n
theorem Amw:∀(l:List Int) (n:Int),n≤(B6 n l).2.1:=by
 intro l
 induction l with
 |nil=>intro n;unfold B6;exact Int.le_refl _
 |cons c t ih=>
  intro n
  unfold B6
  repeat' split
  ·exact Int.le_refl _
  ·exact Int.le_refl _
  ·show n≤n+1;omega
  ·have:=ih (n+1);show n≤(B6 (n+1) t).2.1;omega
  ·have:=ih (n+1);show n≤(B6 (n+1) t).2.1;omega
theorem Fa.vint {s:RS} (h:Fa s) (hs:Av s):Fa s.vint.1:=by
 have hk:=hs.vint.1
 have h0:=hs.at0
 have hg:=Amw s.rest 0
 unfold RS.vint at hk ⊢
 by_cases hc:s.code=0
 ·rw[if_pos hc]at hk ⊢
  by_cases hv:(B6 0 s.rest).1=0
  ·rw[if_pos hv];exact h
  ·rw[if_neg hv]at hk ⊢
   by_cases h1:(B6 0 s.rest).1=1
   ·rw[if_pos h1];exact⟨by show(0:Int)≤(s.l.length:Int);omega,Int.le_refl _⟩
   ·rw[if_neg h1]at hk ⊢
    have:=hk.at1
    simp only at this
    exact⟨by show 0≤s.at_+(B6 0 s.rest).2.1;omega,by show s.at_+(B6 0 s.rest).2.1≤(s.l.length:Int);omega⟩
 ·rw[if_neg hc];exact h
theorem Fa.int {s:RS} (h:Fa s) (hs:Av s) (m:Int):Fa (s.int m).1:=by
 have hv:=h.vint hs
 have hl:=hs.vint.2
 have h0:=hs.at0
 have h1:=hs.at1
 have hf:Fa (s.vint.1.fail 2 s.at_):=hv.fail h0 (by rw[hl];exact h1)
 unfold RS.int RS.most
 repeat' split
 ·exact hf
 ·exact hv
 ·exact hf
theorem Fa.blob {s:RS} (h:Fa s) (hs:Av s) (m:Int):Fa (s.blob m).1:=(h.int hs m).take (hs.int m).1 _
theorem Fa.frame {s:RS} (h:Fa s) (hs:Av s) (m:Int):Fa (s.frame m).1:=by
 have hb:=h.blob hs (Ch m)
 obtain⟨kb,lb⟩:=RS.ok.blob hs (Ch m)
 have hf:Fa ((s.blob (Ch m)).1.fixed 4).1:=hb.take kb 4
 obtain⟨kf,lf⟩:=Hi kb 4
 unfold RS.frame
 repeat' split
 ·exact hf
 ·exact hf.fail kb.at0 (by rw[lf];exact kb.at1)
 ·exact hf
theorem Fa.epo {s:RS} (h:Fa s) (hs:Av s) (ok:Int->Bool):Fa (s.epo ok).1:=by
 have hv:=h.vint hs
 have hl:=hs.vint.2
 unfold RS.epo
 repeat' split
 ·exact hv
 ·exact hv.fail hs.at0 (by rw[hl];exact hs.at1)
 ·exact hv
theorem Fa.foot {p:List Int} (hp:AY p) (hn:p.length≤140737488355328):Fa (RS.new p).foot.1∧(RS.new p).foot.1.l=p:=by
 have h0:Av (RS.new p):=Av.new hp hn
 have f0:=Fa.new p
 obtain⟨k1,l1⟩:=Jw h0
 have f1:Fa (RS.new p).fkind:=by
  have ft:=f0.take h0 1
  unfold RS.fkind;split
  ·exact ft.fail (Int.le_refl _) (by omega)
  ·exact ft
 obtain⟨k2,l2⟩:=Nq k1
 have f2:Fa (RS.new p).fkind.fnums.1:=by
  unfold RS.fnums
  simp only
  obtain⟨a,_⟩:=Bu k1 Aj
  have fa:=f1.epo k1 Aj
  obtain⟨b,_⟩:=a.int 65536
  have fb:=fa.int a 65536
  obtain⟨c,_⟩:=b.int 65536
  have fc:=fb.int b 65536
  obtain⟨d,_⟩:=c.vint
  have fd:=fc.vint c
  obtain⟨e,_⟩:=d.vint
  have fe:=fd.vint d
  obtain⟨g,_⟩:=e.int 1099511627776
  have fg:=fe.int e 1099511627776
  exact fg.int g 1099511627776
 have f3:Fa ((RS.new p).fkind.fnums.1.fcheck (RS.new p).fkind.fnums.2)∧((RS.new p).fkind.fnums.1.fcheck (RS.new p).fkind.fnums.2).l=p∧((RS.new p).fkind.fnums.1.fcheck (RS.new p).fkind.fnums.2).at_=(RS.new p).fkind.fnums.1.at_:=by
  unfold RS.fcheck;split
  ·exact⟨f2,l2.trans l1,rfl⟩
  ·exact⟨f2.fail (Int.le_refl _) (by omega),by rw[Bl];exact l2.trans l1,Yo _ _ _⟩
 have hat0:=k2.at0
 have hat1:=k2.at1
 rw[l2,l1]at hat1
 have e1:(RS.new p).l=p:=rfl
 rw[e1]at hat1
 unfold RS.foot RS.rest9
 simp only
 split
 ·exact⟨f3.1.fail (by rw[f3.2.2];exact hat0) (by rw[f3.2.2,f3.2.1];exact hat1),by rw[Bl];exact f3.2.1⟩
 ·exact⟨f3.1,f3.2.1⟩
theorem G6 {p:List Int} (hp:AY p) (hn:p.length≤140737488355328):0≤(Bs p).2.2∧(Bs p).2.2≤p.length:=by
 obtain⟨f,l⟩:=Fa.foot hp hn
 unfold Bs
 split
 ·exact⟨Int.le_refl _,by show(0:Int)≤_;omega⟩
 ·have:=f.2
  rw[l]at this
  exact⟨f.1,this⟩
theorem Agg {bound:Int}:∀(n:Nat) (s:RS) (out:List Int),Av s->s.left≤n->AY out->AY (DT bound s out).1:=by
 have nil:AY []:=λx hx=>by simp at hx
 intro n
 induction n with
 |zero=>intro s out _ hl ho;rw[FP (by omega)];exact ho
 |succ n ih=>
  intro s out h hl ho
  by_cases hp:0<s.left
  ·by_cases hh:s.thead.1.code=0
   ·by_cases hb:bound<out.length+s.thead.2.2
    ·rw[GO hp hh hb];exact nil
    ·by_cases ht:s.token.1.code=0
     ·by_cases hf:(out.length:Int)<s.token.2.off
      ·rw[Kg hp hh hb ht hf];exact nil
      ·rw[Fo h hp hh hb ht hf]
       obtain⟨t1,t2,t3⟩:=D0 h ht
       obtain⟨i1,i2,i3,i4,i5⟩:=HM h ht
       refine ih _ _ t2 (by omega) (Ach _ _ _ λy hy=>?_)
       rcases List.mem_append.1 hy with hy|hy
       ·exact ho y hy
       ·exact i3 y hy
     ·rw[FO hp hh hb ht];exact nil
   ·rw[GP hp hh];exact nil
  ·rw[FP hp];exact ho
theorem Ud {b0 bound:Int} {W:List Int}:∀(l:List Tk) (s:RS) (out:List Int) (i:Nat),Av s->s.code=0->(∀t∈l,AY t.lit)->s.rest=EV l->C1 b0 l i out=(W,(0,0))->(l=[]->(out.length:Int)≤bound)->
 (out.length:Int)≤W.length∧(bound<W.length->(DT bound s out).1=[]∧(DT bound s out).2.1=11)∧((W.length:Int)≤bound->DT bound s out=(W,(0,0))):=by
 intro l
 induction l with
 |nil=>
  intro s out i h hc _ hr he hb
  simp only[C1]at he
  have hW:out=W:=by injection he
  subst hW
  have hl:¬0<s.left:=by
   have:=DP s h.at0 h.at1
   rw[hr]at this
   simp[EV]at this
   unfold RS.left;omega
  have:=hb rfl
  rw[FP hl]
  exact⟨Int.le_refl _,λh=>by omega,λ_=>rfl⟩
 |cons t l ih=>
  intro s out i h hc hby hr he _
  simp only[C1]at he
  by_cases hw:Gc t out.length b0=0
  ·rw[if_pos hw]at he
   obtain⟨w1,w2,w3⟩:=K4 hw
   have hr':s.rest=EW t++EV l:=by rw[hr];simp[EV]
   have hown:=Y1 h hc w1 hr'
   have hpos:=Ac5 t
   have hok:Av (s.adv ((EW t).length:Int)):=Bv h hr'
   have hl:0<s.left:=by
    have:=DP s h.at0 h.at1
    rw[hr',List.length_append]at this
    unfold RS.left;omega
   have ht:s.token.1.code=0:=by rw[hown];exact hc
   have hh:=Mm ht
   have hm:=(I4 h ht).1
   rw[hown]at hm
   simp only at hm
   have hle:=Nu out w1
   have hrest:(s.adv ((EW t).length:Int)).rest=EV l:=by rw[A5 h.at0,hr',List.drop_left]
   have hmp:=Tl w1
   by_cases hb:bound<out.length+t.made
   ·have ho:=GO (bound:=bound) (out:=out) hl hh (by omega)
    have key:=ih (s.adv ((EW t).length:Int)) (GM out t) (i+1) hok hc (λx hx=>hby x (List.mem_cons_of_mem _ hx)) hrest he
    have hWl:((GM out t).length:Int)≤W.length:=by
     have e:=Xe (bound:=b0) l (i+1) (GM out t) (by rw[he])
     rw[he]at e
     have:=e.1
     have:=Aik l
     simp only at*
     omega
    rw[ho]
    exact⟨by omega,λ_=>⟨rfl,rfl⟩,λh=>by omega⟩
   ·have hst:=Fo (bound:=bound) (out:=out) h hl hh (by omega) ht (by rw[hown];simp only;omega)
    rw[hown]at hst
    simp only at hst
    obtain⟨k1,k2,k3⟩:=ih (s.adv ((EW t).length:Int)) (GM out t) (i+1) hok hc (λx hx=>hby x (List.mem_cons_of_mem _ hx)) hrest he (λ_=>by omega)
    rw[hst]
    exact⟨by omega,k2,k3⟩
  ·rw[if_neg hw]at he
   injection he with _ he
   injection he with he _
   exact absurd he hw
def KZ {α:Type} (d:α) (cp:α->α) (out:List α) (off:Nat):Nat->List α
 |0=>out
 |n+1=>KZ d cp (out++[cp (out.getD (out.length-off) d)]) off n
section
variable {α:Type} {d:α} {cp:α->α}
theorem Md (off:Nat):∀(n:Nat) (out:List α),(KZ d cp out off n).length=out.length+n:=by
 intro n
 induction n with
 |zero=>intro out;rfl
 |succ n ih=>intro out;simp only[KZ,ih,List.length_append,List.length_singleton];omega
theorem UX (off:Nat):∀(n:Nat) (out:List α),KZ d cp out off (n+1)=KZ d cp out off n++[cp ((KZ d cp out off n).getD ((KZ d cp out off n).length-off) d)]:=by
 intro n
 induction n with
 |zero=>intro out;rfl
 |succ n ih=>intro out;rw[KZ,ih,←KZ]
theorem CT (a b:List α) (p:Nat):(a++b).getD p d=if p<a.length then a.getD p d else b.getD (p-a.length) d:=by
 simp only[List.getD_eq_getElem?_getD,List.getElem?_append]
 split<;>rfl
theorem RF (off:Nat) (h1:1≤off):∀(n:Nat) (out:List α),off≤out.length->(∀p,p<out.length->(KZ d cp out off n).getD p d=out.getD p d)∧∀p,out.length≤p->p<out.length+n->(KZ d cp out off n).getD p d=cp ((KZ d cp out off n).getD (p-off) d):=by
 intro n
 induction n with
 |zero=>intro out _;exact⟨λp _=>rfl,λp h h'=>by omega⟩
 |succ n ih=>
  intro out ho
  obtain⟨i1,i2⟩:=ih out ho
  have hl:=Md (d:=d) (cp:=cp) off n out
  rw[UX]
  refine⟨λp hp=>?_,λp hp hp'=>?_⟩
  ·rw[CT,if_pos (by omega)];exact i1 p hp
  ·have e:(KZ d cp out off n++[cp ((KZ d cp out off n).getD ((KZ d cp out off n).length-off) d)]).getD (p-off) d=(KZ d cp out off n).getD (p-off) d:=by
    rw[CT,if_pos (by omega)]
   rw[e]
   by_cases hlt:p<out.length+n
   ·rw[CT,if_pos (by omega)];exact i2 p hp hlt
   ·rw[CT,if_neg (by omega)]
    have e1:p-(KZ d cp out off n).length=0:=by omega
    have e2:p-off=(KZ d cp out off n).length-off:=by omega
    rw[e1,e2];rfl
end
theorem Aci (out:List Int) (off:Nat):∀n,Cy out off n=KZ 0 id out off n:=by
 intro n
 induction n with
 |zero=>rfl
 |succ n ih=>rw[JD,UX,ih];rfl
def V3 (i:Nat) (t:Tk):List (Int×Int):=(List.range t.lit.length).map λ(k:Nat)=>((i:Int),(k:Int))
def ZT (i:Nat) (o:List (Int×Int)) (t:Tk):List (Int×Int):=KZ (0,0) id (o++V3 i t) t.off.toNat t.len.toNat
def PK (d:List Int) (t:Tk):List Int:=KZ 0 (· +1) (d++List.replicate t.lit.length 0) t.off.toNat t.len.toNat
theorem Aer (i:Nat) (t:Tk):(V3 i t).length=t.lit.length:=by simp[V3]
structure YH (L:List Tk) (W:List Int) (O:List (Int×Int)) (D:List Int) (i k p:Nat):Prop where
 lt:p<W.length
 t0:0≤(O.getD p (0,0)).1
 t1:(O.getD p (0,0)).1≤i
 j0:0≤(O.getD p (0,0)).2
 j1:(O.getD p (0,0)).2<(L.getD (O.getD p (0,0)).1.toNat K7).lit.length
 is:(L.getD (O.getD p (0,0)).1.toNat K7).lit.getD (O.getD p (0,0)).2.toNat 0=W.getD p 0
 run:(L.getD i K7).run=true->O.getD p (0,0)=((i:Int),(k:Int))∧D.getD p 0=0
 cpy:(L.getD i K7).copy=true->(L.getD i K7).off.toNat≤p∧O.getD p (0,0)=O.getD (p-(L.getD i K7).off.toNat) (0,0)∧D.getD p 0=D.getD (p-(L.getD i K7).off.toNat) 0+1
 d0:0≤D.getD p 0
 d1:D.getD p 0≤p
structure Ap0 (L:List Tk) (i:Nat) (w:List Int) (o:List (Int×Int)) (d:List Int):Prop where
 lo:o.length=w.length
 ld:d.length=w.length
 all:∀p,p<w.length->0≤(o.getD p (0,0)).1∧(o.getD p (0,0)).1<i∧0≤(o.getD p (0,0)).2∧(o.getD p (0,0)).2<(L.getD (o.getD p (0,0)).1.toNat K7).lit.length∧
  (L.getD (o.getD p (0,0)).1.toNat K7).lit.getD (o.getD p (0,0)).2.toNat 0=w.getD p 0∧0≤d.getD p 0∧d.getD p 0≤p
theorem Ap0.step {L:List Tk} {i:Nat} {w:List Int} {o:List (Int×Int)} {d:List Int} (h:Ap0 L i w o d) {t:Tk} (ht:L.getD i K7=t) (hr:t.right=true) (hf:t.off≤w.length):
 Ap0 L (i+1) (GM w t) (ZT i o t) (PK d t)∧∀k:Nat,(k:Int)<t.made->YH L (GM w t) (ZT i o t) (PK d t) i k (w.length+k):=by
 obtain⟨lo,ld,al⟩:=h
 rcases Dy.1 hr with hrun|hcp
 ·obtain⟨r1,r2,r3,r4⟩:=De.1 hrun
  have hm:t.made=t.lit.length:=by unfold Tk.made;rw[if_pos hrun]
  have ew:GM w t=w++t.lit:=by unfold GM;rw[r2];rfl
  have eo:ZT i o t=o++V3 i t:=by unfold ZT;rw[r2];rfl
  have ed:PK d t=d++List.replicate t.lit.length 0:=by unfold PK;rw[r2];rfl
  have hncp:=CF hrun
  have at_:∀k,k<t.lit.length->(o++V3 i t).getD (w.length+k) (0,0)=((i:Int),(k:Int))∧(w++t.lit).getD (w.length+k) 0=t.lit.getD k 0∧(d++List.replicate t.lit.length 0).getD (w.length+k) 0=0:=by
   intro k hk
   rw[CT,CT,CT,if_neg (by omega),if_neg (by omega),if_neg (by omega),lo,ld]
   have e:w.length+k-w.length=k:=by omega
   rw[e]
   refine⟨by simp[V3,hk],rfl,by simp[hk]⟩
  rw[ew,eo,ed]
  refine⟨⟨by simp[lo,Aer],by simp[ld],λp hp=>?_⟩,λk hk=>?_⟩
  ·by_cases hlt:p<w.length
   ·rw[CT,CT,CT,if_pos (by omega),if_pos hlt,if_pos (by omega)]
    obtain⟨a1,a2,a3,a4,a5,a6,a7⟩:=al p hlt
    exact⟨a1,by omega,a3,a4,a5,a6,a7⟩
   ·rw[List.length_append]at hp
    obtain⟨k,rfl⟩:∃k,p=w.length+k:=⟨p-w.length,by omega⟩
    obtain⟨b1,b2,b3⟩:=at_ k (by omega)
    rw[b1,b2,b3]
    simp only[Int.toNat_natCast,ht]
    exact⟨by omega,by omega,by omega,by omega,trivial,by omega,by omega⟩
  ·obtain⟨b1,b2,b3⟩:=at_ k (by omega)
   refine⟨by rw[List.length_append];omega,?_,?_,?_,?_,?_,?_,?_,?_,?_⟩
   ·rw[b1];simp only;omega
   ·rw[b1];simp only;omega
   ·rw[b1];simp only;omega
   ·rw[b1];simp only[Int.toNat_natCast,ht];omega
   ·rw[b1,b2];simp only[Int.toNat_natCast,ht]
   ·intro _;exact⟨b1,b3⟩
   ·intro hc;rw[ht,hncp]at hc;cases hc
   ·rw[b3];omega
   ·rw[b3];omega
 ·obtain⟨c1,c2,c3,c4,c5⟩:=Cw.1 hcp
  have hnr:t.run=false:=by
   cases q:t.run with
   |false=>rfl
   |true=>rw[CF q]at hcp;cases hcp
  have hm:t.made=t.len:=by unfold Tk.made;rw[hnr,if_neg (by simp),if_pos hcp]
  have ew:GM w t=KZ 0 id w t.off.toNat t.len.toNat:=by unfold GM;rw[c1,List.append_nil,Aci]
  have eo:ZT i o t=KZ (0,0) id o t.off.toNat t.len.toNat:=by unfold ZT V3;rw[c1];simp
  have ed:PK d t=KZ 0 (· +1) d t.off.toNat t.len.toNat:=by unfold PK;rw[c1];simp
  have hlw:=Md (d:=(0:Int)) (cp:=id) t.off.toNat t.len.toNat w
  have hlo:=Md (d:=((0:Int),(0:Int))) (cp:=id) t.off.toNat t.len.toNat o
  have hld:=Md (d:=(0:Int)) (cp:=(· +1)) t.off.toNat t.len.toNat d
  obtain⟨gw,gw'⟩:=RF (d:=(0:Int)) (cp:=id) t.off.toNat (by omega) t.len.toNat w (by omega)
  obtain⟨go,go'⟩:=RF (d:=((0:Int),(0:Int))) (cp:=id) t.off.toNat (by omega) t.len.toNat o (by omega)
  obtain⟨gd,gd'⟩:=RF (d:=(0:Int)) (cp:=(· +1)) t.off.toNat (by omega) t.len.toNat d (by omega)
  rw[ew,eo,ed]
  generalize KZ 0 id w t.off.toNat t.len.toNat=w' at*
  generalize KZ (0,0) id o t.off.toNat t.len.toNat=o' at*
  generalize KZ 0 (· +1) d t.off.toNat t.len.toNat=d' at*
  have key:∀p,p<w'.length->0≤(o'.getD p (0,0)).1∧(o'.getD p (0,0)).1<i∧0≤(o'.getD p (0,0)).2∧(o'.getD p (0,0)).2<(L.getD (o'.getD p (0,0)).1.toNat K7).lit.length∧
   (L.getD (o'.getD p (0,0)).1.toNat K7).lit.getD (o'.getD p (0,0)).2.toNat 0=w'.getD p 0∧0≤d'.getD p 0∧d'.getD p 0≤p:=by
   intro p
   induction p using Nat.strongRecOn with
   |_ p ih=>
    intro hp
    by_cases hlt:p<w.length
    ·rw[gw p hlt,go p (by omega),gd p (by omega)];exact al p hlt
    ·have h1:=gw' p (by omega) (by omega)
     have h2:=go' p (by omega) (by omega)
     have h3:=gd' p (by omega) (by omega)
     obtain⟨a1,a2,a3,a4,a5,a6,a7⟩:=ih (p-t.off.toNat) (by omega) (by omega)
     rw[h1,h2,h3]
     simp only[id]at*
     exact⟨a1,a2,a3,a4,a5,by omega,by omega⟩
  refine⟨⟨by omega,by omega,λp hp=>?_⟩,λk hk=>?_⟩
  ·obtain⟨a1,a2,a3,a4,a5,a6,a7⟩:=key p hp
   exact⟨a1,by omega,a3,a4,a5,a6,a7⟩
  ·have hp:w.length+k<w'.length:=by omega
   obtain⟨a1,a2,a3,a4,a5,a6,a7⟩:=key _ hp
   refine⟨hp,a1,by omega,a3,a4,a5,?_,?_,a6,a7⟩
   ·intro hc;rw[ht,hnr]at hc;cases hc
   ·intro _
    rw[ht]
    exact⟨by omega,go' _ (by omega) (by omega),gd' _ (by omega) (by omega)⟩
theorem YH.more {L:List Tk} {w W:List Int} {o O:List (Int×Int)} {d D:List Int} {i k p:Nat} (h:YH L w o d i k p) (hw:∃a,W=w++a) (ho:∃a,O=o++a) (hd:∃a,D=d++a) (lo:o.length=w.length) (ld:d.length=w.length):YH L W O D i k p:=by
 obtain⟨a,rfl⟩:=hw
 obtain⟨b,rfl⟩:=ho
 obtain⟨c,rfl⟩:=hd
 have hl:=h.lt
 have e1:∀q,q≤p->(w++a).getD q 0=w.getD q 0:=λq hq=>by rw[CT,if_pos (by omega)]
 have e2:∀q,q≤p->(o++b).getD q (0,0)=o.getD q (0,0):=λq hq=>by rw[CT,if_pos (by omega)]
 have e3:∀q,q≤p->(d++c).getD q 0=d.getD q 0:=λq hq=>by rw[CT,if_pos (by omega)]
 have p0:=e1 p (Nat.le_refl _)
 have p1:=e2 p (Nat.le_refl _)
 have p2:=e3 p (Nat.le_refl _)
 refine⟨by rw[List.length_append];omega,by rw[p1];exact h.t0,by rw[p1];exact h.t1,by rw[p1];exact h.j0,by rw[p1];exact h.j1,by rw[p0,p1];exact h.is,by rw[p1,p2];exact h.run,λhc=>?_,by rw[p2];exact h.d0,by rw[p2];exact h.d1⟩
 obtain⟨c1,c2,c3⟩:=h.cpy hc
 rw[p1,p2,e2 _ (by omega),e3 _ (by omega)]
 exact⟨c1,c2,c3⟩
end Go.Proofs.YtileggkdbaejoaaGreat
