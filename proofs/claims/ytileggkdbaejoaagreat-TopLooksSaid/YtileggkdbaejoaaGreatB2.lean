/- Lemmas for TopLooks, part 2. -/
import Derived.Test.YtileggkdbaejoaaGreatB1
import Derived.Test.YtileggkdbaejoaaGreatProg
import Derived.KernelRfl
import Derived.Test.YtileggkdbaejoaaGreatB0
set_option linter.all false
namespace Go.Proofs.YtileggkdbaejoaaGreat
open Go.RowKit
theorem Fa.thead {s:RS} (h:Fa s) (hs:Av s):Fa s.thead.1:=by
 have h1:=h.vint hs
 have h2:=(hs.vint).2
 have f1:∀c,Fa (s.vint.1.fail c s.at_):=λc=>h1.fail hs.at0 (by rw[h2];exact hs.at1)
 unfold RS.thead
 repeat' split
 all_goals first|exact h1|exact f1 _
theorem Fa.toff {s:RS} (h:Fa s) (hs:Av s):Fa s.toff.1:=by
 have h1:=h.vint hs
 have h2:=(hs.vint).2
 have f1:∀c,Fa (s.vint.1.fail c s.at_):=λc=>h1.fail hs.at0 (by rw[h2];exact hs.at1)
 unfold RS.toff
 repeat' split
 all_goals first|exact h1|exact f1 _
theorem Fa.token {s:RS} (h:Fa s) (hs:Av s):Fa s.token.1:=by
 have h1:=h.thead hs
 have hk:=(EC hs).1
 have h2:=h1.toff hk
 have h3:=h1.take hk s.thead.2.2
 unfold RS.token
 repeat' split
 all_goals first|exact h1|exact h2|exact h3
theorem Ue {bound:Int}:∀(n:Nat) (s:RS) (out:List Int),Av s->Fa s->s.left≤n->0≤(DT bound s out).2.2∧(DT bound s out).2.2≤s.l.length:=by
 intro n
 induction n with
 |zero=>intro s out h hf hl;rw[FP (by omega)];exact⟨Int.le_refl _,by show(0:Int)≤_;omega⟩
 |succ n ih=>
  intro s out h hf hl
  by_cases hp:0<s.left
  ·have k1:=EC h
   have k2:=Ml h
   by_cases hh:s.thead.1.code=0
   ·by_cases hb:bound<out.length+s.thead.2.2
    ·rw[GO hp hh hb];exact⟨h.at0,h.at1⟩
    ·by_cases ht:s.token.1.code=0
     ·by_cases ho:(out.length:Int)<s.token.2.off
      ·rw[Kg hp hh hb ht ho]
       have a0:=k1.1.at0
       have a1:=k1.1.at1
       rw[k1.2]at a1
       exact⟨a0,a1⟩
      ·rw[Fo h hp hh hb ht ho]
       obtain⟨t1,t2,t3⟩:=D0 h ht
       have:=ih s.token.1 (GM out s.token.2) t2 (hf.token h) (by omega)
       rw[k2.2]at this;exact this
     ·rw[FO hp hh hb ht]
      have:=hf.token h
      unfold Fa at this;rw[k2.2]at this;exact this
   ·rw[GP hp hh]
    have:=hf.thead h
    unfold Fa at this;rw[k1.2]at this;exact this
  ·rw[FP hp];exact⟨Int.le_refl _,by show(0:Int)≤_;omega⟩
theorem JC {s:RS} (hs:Av s) (m:Int) (hc:(s.blob m).1.code=0):0≤(s.blob m).1.at_-(s.blob m).2.length∧(s.blob m).1.at_≤s.l.length:=by
 obtain⟨h1,h2⟩:=hs.int m
 obtain⟨k1,k2,k3,k4⟩:=EP hs m
 have:=Bn h1 (n:=(s.int m).2) hc
 obtain⟨_,_,e1,e2,_⟩:=this
 have h3:=h1.at0
 have h4:=k1.at1
 rw[k2]at h4
 refine⟨?_,h4⟩
 show 0≤((s.int m).1.take (s.int m).2).1.at_-(((s.int m).1.take (s.int m).2).2.length:Int)
 rw[e2,e1];omega
theorem Fa.unpk {s:RS} (h:Fa s) (hs:Av s) (n:Int):Fa (s.unpk n).1:=by
 have h1:=h.blob hs 1048576
 obtain⟨k1,k2,k3,k4⟩:=EP hs 1048576
 unfold RS.unpk
 split
 ·rename_i hc
  have hp:=JC hs 1048576 hc
  have ha:=k1.at0
  have hf:=Ue (bound:=n) _ (RS.new (s.blob 1048576).2) [] (Av.new k3 (by have:=hs.len;omega)) (Fa.new _) (Int.self_le_toNat _)
  have hl:(RS.new (s.blob 1048576).2).l.length=(s.blob 1048576).2.length:=rfl
  split
  ·split
   ·exact h1.fail ha (by rw[k2];exact hp.2)
   ·exact h1
  ·exact h1.fail (by omega) (by rw[k2];omega)
 ·exact h1
theorem Yw {s:RS} (hs:Av s) (hc:s.byte.1.code=0):s.code=0∧1≤s.byte.1.at_∧s.byte.1.at_=s.at_+1:=by
 have e:s.byte.1=(s.take 1).1:=by unfold RS.byte RS.take;split<;>rfl
 rw[e]at hc ⊢
 obtain⟨h1,_,_,h2,_⟩:=Bn hs (n:=1) hc
 have:=hs.at0
 exact⟨h1,by omega,h2⟩
theorem Fa.byte {s:RS} (h:Fa s) (hs:Av s):Fa s.byte.1:=by
 have:=h.skip hs 1
 unfold RS.byte
 split<;>exact this
theorem Fa.bway {s:RS} (h:Fa s) (hs:Av s):Fa s.bway.1:=(h.int hs 1048576).byte (hs.int 1048576).1
theorem Fa.bdat {s:RS} (h:Fa s) (hs:Av s):Fa s.bdat.1:=by
 have h1:=h.bway hs
 obtain⟨k1,k2⟩:=II hs
 unfold RS.bdat
 split
 ·rename_i hc
  have hb:=Yw (hs.int 1048576).1 hc
  have hb1:1≤s.bway.1.at_:=hb.2.1
  have hb2:=k1.at1
  repeat' split
  ·exact h1.take k1 _
  ·exact h1.unpk k1 _
  ·exact h1.fail (by omega) (by omega)
 ·exact h1
theorem Fa.blkL {s:RS} (h:Fa s) (hs:Av s):Fa s.blkL.1:=by
 have:=h.bdat hs
 unfold RS.blkL
 split<;>exact this
theorem Fa.blk {s:RS} (h:Fa s) (hs:Av s):Fa s.blk.1:=by
 have h1:=h.blkL hs
 obtain⟨k1,k2⟩:=KX hs
 unfold RS.blk
 split
 ·exact h1
 ·exact h1.fail k1.at0 k1.at1
theorem Aii {s:RS} (hs:Av s) {n:Int} (hn:n≤1048576) (hc:(s.unpk n).1.code=0):s.code=0∧s.at_≤(s.unpk n).1.at_∧AY (s.unpk n).2∧(s.unpk n).2.length≤1048576:=by
 obtain⟨k1,k2,k3,k4⟩:=EP hs 1048576
 have hok:Av (RS.new (s.blob 1048576).2):=Av.new k3 (by have:=hs.len;omega)
 have hle:=Aky (bound:=n) _ (RS.new (s.blob 1048576).2) [] hok (Int.self_le_toNat _) (by simp;omega)
 have hby:=Agg (bound:=n) _ (RS.new (s.blob 1048576).2) [] hok (Int.self_le_toNat _) (λx hx=>by simp at hx)
 unfold RS.unpk at hc ⊢
 split at hc
 ·rename_i h0
  have hb:=Bn (hs.int 1048576).1 (n:=(s.int 1048576).2) h0
  have hi:=QN hs hb.1
  have hh:s.code=0:=(Jl hs hb.1).1
  have ha:s.at_≤(s.blob 1048576).1.at_:=by
   show s.at_≤((s.int 1048576).1.take (s.int 1048576).2).1.at_
   rw[hb.2.2.2.1];have:=hb.2.1;omega
  rw[if_pos h0]
  split at hc
  ·rename_i h1
   rw[if_pos h1]
   split at hc
   ·exact absurd hc (by unfold RS.fail;rw[if_pos h0];simp[BW])
   ·rename_i h2
    rw[if_neg h2]
    exact⟨hh,ha,hby,by simp only[];omega⟩
  ·rename_i h1
   exact absurd hc (by unfold RS.fail;rw[if_pos h0];simp only[BW];rw[if_neg h1];exact h1)
 ·rename_i h0
  exact absurd hc h0
theorem YE {s:RS} (hs:Av s) (hc:s.bdat.1.code=0):s.code=0∧s.at_≤s.bdat.1.at_∧AY s.bdat.2∧s.bdat.2.length≤1048576:=by
 obtain⟨k1,k2⟩:=II hs
 have key:s.bway.1.code=0->s.code=0∧s.at_≤s.bway.1.at_∧s.bway.2.1≤1048576:=λh0=>by
  obtain⟨b1,b2,b3⟩:=Yw (hs.int 1048576).1 (show(s.int 1048576).1.byte.1.code=0 from h0)
  have hi:=QN hs b1
  have hj:=Jl hs b1
  refine⟨hj.1,?_,hj.2.2.1⟩
  show s.at_≤(s.int 1048576).1.byte.1.at_
  omega
 unfold RS.bdat at hc ⊢
 split at hc
 ·rename_i h0
  obtain⟨c1,c2,c3⟩:=key h0
  rw[if_pos h0]
  split at hc
  ·rename_i h1
   rw[if_pos h1]
   have hb:=Bn k1 hc
   exact⟨c1,by rw[hb.2.2.2.1];have:=hb.2.1;omega,DO k1.bys _,by have:=hb.2.2.1;omega⟩
  ·rename_i h1
   rw[if_neg h1]
   split at hc
   ·rename_i h2
    rw[if_pos h2]
    have:=Aii k1 c3 hc
    exact⟨c1,by omega,this.2.2⟩
   ·exact absurd hc (by unfold RS.fail;rw[if_pos h0];simp[BW])
 ·rename_i h0
  exact absurd hc h0
theorem Rw {s:RS} (hs:Av s) (hc:s.blkL.1.code=0):s.code=0∧s.at_≤s.blkL.1.at_∧AY s.blkL.2.1∧s.blkL.2.1.length≤1048576:=by
 unfold RS.blkL at hc ⊢
 split at hc
 ·rename_i h;rw[if_pos h];exact YE hs h
 ·rename_i h;exact absurd hc h
structure O1 where
 st:Int
 bk:Int
 hb:Bool
 data:List Int
 deriving DecidableEq
def o10:O1:=⟨0,0,false,[]⟩
structure O1.ok (x:O1):Prop where
 s0:0≤x.st
 s1:x.st<18446744073709551616
 b0:0≤x.bk
 b1:x.bk<18446744073709551616
 data:AY x.data
structure Sg1 where
 ep:Int
 base:Int
 en:List O1
 deriving DecidableEq
def Aiq (l:List O1):Int:=((l.flatMap (·.data)).length:Int)
def Lx (base n:Int):Bool:=decide (base<4611686018427387904)&&decide (base+n≤4611686018427387904)
theorem Aa3 {base n:Int}:Lx base n=true↔base<4611686018427387904∧base+n≤4611686018427387904:=by simp[Lx]
def Aq5 (pos:Int) (x:O1):Bool:=if x.hb=true then decide (x.bk<pos)else decide (x.bk=0)
def Art (pos:Int) (x:O1):Int:=if x.hb=true then pos-x.bk else 0
theorem IB {s:RS} {c:Int} (a:Int) (h:¬c=0):¬(s.fail c a).code=0:=by
 unfold RS.fail
 by_cases hc:s.code=0
 ·rw[if_pos hc];simp only[BW,if_neg h];exact h
 ·rw[if_neg hc];exact hc
def RS.oback (s:RS) (pos:Int):RS:=if s.vint.1.vint.1.code=0∧pos<s.vint.1.vint.2 then s.vint.1.vint.1.fail 3 s.vint.1.at_ else s.vint.1.vint.1
def Atl (s:RS) (pos:Int) (d:List Int):O1:=if 0<s.vint.1.vint.2∧(s.oback pos).code=0 then⟨s.vint.2,pos-s.vint.1.vint.2,true,d⟩else⟨s.vint.2,0,false,d⟩
structure Aqf (base:Int) (acc:List O1) (x:O1):Prop where
 s0:0≤x.st
 s1:x.st<18446744073709551616
 b0:0≤x.bk
 good:Aq5 (base+acc.length) x=true
 data:AY x.data
 sum:Aiq acc+x.data.length≤1048576
 pos:base+acc.length<4611686018427387904
def Atm (base:Int):Ef O1:=⟨λs acc=>if base+acc.length<4611686018427387904 then(((s.oback (base+acc.length)).blob (1048576-Aiq acc)).1,Atl s (base+acc.length) ((s.oback (base+acc.length)).blob (1048576-Aiq acc)).2)else(s.fail 3 0,o10),
 λacc x=>vb x.st++(vb (Art (base+acc.length) x)++Dv x.data),λacc x=>Aqf base acc x⟩
def RS.cnt (s:RS) (base least most:Int):RS×Int:=if(s.int most).1.code=0∧((s.int most).2<least∨Lx base (s.int most).2=false)then((s.int most).1.fail 3 s.at_,(s.int most).2)else s.int most
def RS.olds (s:RS) (base:Int):RS×List O1:=(Atm base).many (s.cnt base 0 400).2.toNat (s.cnt base 0 400).1 []
theorem Agv {s:RS} (h:Av s) (base least most:Int):Av (s.cnt base least most).1∧(s.cnt base least most).1.l=s.l:=by
 obtain⟨a,b⟩:=h.int most
 unfold RS.cnt
 split
 ·exact⟨a.fail _ _,by simp only;rw[Bl];exact b⟩
 ·exact⟨a,b⟩
instance:DecidableEq En:=λa b=>decidable_of_iff (a.lk=b.lk∧a.data=b.data) ⟨λ⟨h1,h2⟩=>by cases a;cases b;simp only at h1 h2;rw[h1,h2],λh=>by subst h;exact⟨rfl,rfl⟩⟩
structure Bt where
 ep:Int
 base:Int
 en:List En
 deriving DecidableEq
def BZ:Bt:=⟨0,0,[]⟩
structure Bt.ok (b:Bt):Prop where
 e0:0≤b.ep
 e1:b.ep<18446744073709551616
 b0:0≤b.base
 b1:b.base<18446744073709551616
 en:Ens b.en
def Bts (l:List Bt):Prop:=∀b∈l,b.ok
def Qe (l:List Lk):Bool:=l.all λx=>decide (x.bk.length≤1)
def Ai9 (b:Bt):Bool:=b.en.all λe=>Qe e.lk
def DS (base n:Int):Bool:=decide (1≤n∧n≤16)&&Lx base n
theorem GK {base n:Int}:DS base n=true↔(1≤n∧n≤16)∧base<4611686018427387904∧base+n≤4611686018427387904:=by simp[DS,Aa3]
def B8 (b:Bt):Bool:=Aj b.ep&&DS b.base b.en.length&&decide ((AL b.en).length≤1048576)&&(List.range b.en.length).all λi=>Cj (b.base+i) (b.en.getD i DN)
theorem Cs {b:Bt}:B8 b=true↔(1≤b.ep∧b.ep<4611686018427387904)∧((1≤b.en.length∧b.en.length≤16)∧b.base<4611686018427387904∧b.base+b.en.length≤4611686018427387904)∧(AL b.en).length≤1048576∧∀i,i<b.en.length->Cj (b.base+i) (b.en.getD i DN)=true:=by
 have e:((1:Int)≤(b.en.length:Int)∧(b.en.length:Int)≤16)↔(1≤b.en.length∧b.en.length≤16):=by omega
 unfold B8
 simp only[Bool.and_eq_true,decide_eq_true_eq,BV,GK,List.all_eq_true,List.mem_range,and_assoc]
 constructor
 ·rintro⟨a,b,c,d,e,f,g,h⟩;exact⟨a,b,by omega,by omega,e,f,g,h⟩
 ·rintro⟨a,b,c,d,e,f,g,h⟩;exact⟨a,b,by omega,by omega,e,f,g,h⟩
theorem Xl (l:List En) (k:Nat) (h:k<l.length):l.getD k DN∈l:=by simp[h]
def RS.lsing (s:RS) (pos:Int):RS:=if(s.links pos).1.code=0∧Qe (s.links pos).2=false then(s.links pos).1.fail 3 s.at_ else(s.links pos).1
structure Aq8 (base:Int) (acc:List En) (e:En):Prop where
 lk:NX e.lk
 rt:BO (base+acc.length) e.lk=true
 sg:Qe e.lk=true
 data:AY e.data
 sum:((AL acc).length:Int)+e.data.length≤1048576
 pos:base+acc.length<4611686018427387904
def Ak8 (base:Int):Ef En:=⟨λs acc=>if base+acc.length<4611686018427387904 then(((s.lsing (base+acc.length)).blob (1048576-(AL acc).length)).1,⟨(s.links (base+acc.length)).2,((s.lsing (base+acc.length)).blob (1048576-(AL acc).length)).2⟩)else(s.fail 3 0,DN),
 λacc e=>Cm (base+acc.length) e.lk++Dv e.data,λacc e=>Aq8 base acc e⟩
theorem Wi {s:RS} (h:Av s) {pos:Int} (p0:0≤pos) (p1:pos<18446744073709551616):Av (s.lsing pos)∧(s.lsing pos).l=s.l:=by
 obtain⟨a,b⟩:=EI h p0 p1
 unfold RS.lsing
 split
 ·exact⟨a.fail _ _,by rw[Bl];exact b⟩
 ·exact⟨a,b⟩
def plB (b:Bt):List Int:=vb b.ep++(vb b.base++(vb b.en.length++BR (Ak8 b.base).enc [] b.en))
def RS.ents (s:RS) (base:Int):RS×List En:=(Ak8 base).many (s.cnt base 1 16).2.toNat (s.cnt base 1 16).1 []
def RS.unpl (s:RS):RS×Bt:=((((s.epo Aj).1.epo Bb).1.ents ((s.epo Aj).1.epo Bb).2).1.rest9,⟨(s.epo Aj).2,((s.epo Aj).1.epo Bb).2,(((s.epo Aj).1.epo Bb).1.ents ((s.epo Aj).1.epo Bb).2).2⟩)
theorem Abr {s:RS} (h:Av s) (ok:Int->Bool):0≤(s.epo ok).2∧(s.epo ok).2<18446744073709551616:=by
 by_cases hc:(s.epo ok).1.code=0
 ·obtain⟨_,a,b,_⟩:=Hp h hc;exact⟨a,b⟩
 ·rw[Yq hc];exact⟨by decide,by decide⟩
theorem Fa.many {β:Type} {F:Ef β} (hF:∀s acc,Fa s->Av s->Fa (F.f s acc).1∧Av (F.f s acc).1):∀(N:Nat) (s:RS) (acc:List β),Fa s->Av s->Fa (F.many N s acc).1∧Av (F.many N s acc).1:=by
 intro N
 induction N with
 |zero=>intro s acc h k;exact⟨h,k⟩
 |succ N ih=>
  intro s acc h k
  obtain⟨a,b⟩:=hF s acc h k
  simp only[Ef.many]
  split
  ·exact ih _ _ a b
  ·exact⟨a,b⟩
theorem Fa.at {s:RS} (h:Fa s) (hs:Av s) {c:Int} {t:RS} (hl:t.l=s.l) (ht:Av t):Fa (s.fail c t.at_):=h.fail ht.at0 (by rw[←hl];exact ht.at1)
theorem Fa.fall {s:RS} (h:Fa s) (hs:Av s) (b m:Int):Fa (s.fall b m).1:=by
 refine(Fa.many (F:=Df b) (λs acc h hs=>?_) _ _ _ (h.int hs m) (hs.int m).1).1
 simp only[Df]
 have hv:=hs.vint
 split
 ·exact⟨(h.vint hs).at hv.1 hv.2.symm hs,hv.1.fail _ _⟩
 ·exact⟨h.vint hs,hv.1⟩
theorem Fa.links {s:RS} (h:Fa s) (hs:Av s) {pos:Int} (p1:pos<18446744073709551616):Fa (s.links pos).1:=by
 refine(Fa.many (F:=CS pos) (λs acc h hs=>?_) _ _ _ (h.int hs 16) (hs.int 16).1).1
 simp only[CS]
 have hv:=hs.vint
 have hh:Fa (s.lkHead acc)∧Av (s.lkHead acc):=by
  unfold RS.lkHead
  split
  ·exact⟨(h.vint hs).at hv.1 hv.2.symm hs,hv.1.fail _ _⟩
  ·exact⟨h.vint hs,hv.1⟩
 exact⟨hh.1.fall hh.2 pos 4,(PE hh.2 p1 4).1⟩
theorem Fa.cnt {s:RS} (h:Fa s) (hs:Av s) (base least most:Int):Fa (s.cnt base least most).1:=by
 have hi:=hs.int most
 unfold RS.cnt
 split
 ·exact(h.int hs most).at hi.1 hi.2.symm hs
 ·exact h.int hs most
theorem Fa.lsing {s:RS} (h:Fa s) (hs:Av s) {pos:Int} (p0:0≤pos) (p1:pos<18446744073709551616):Fa (s.lsing pos):=by
 have hk:=EI hs p0 p1
 unfold RS.lsing
 split
 ·exact(h.links hs p1).at hk.1 hk.2.symm hs
 ·exact h.links hs p1
theorem Fa.rest9 {s:RS} (h:Fa s) (hs:Av s):Fa s.rest9:=by
 unfold RS.rest9
 split
 ·exact h.at hs rfl hs
 ·exact h
theorem Fa.ents {s:RS} (h:Fa s) (hs:Av s) {base:Int} (b0:0≤base):Fa (s.ents base).1∧Av (s.ents base).1:=by
 have hc:=Agv hs base 1 16
 refine Fa.many (F:=Ak8 base) (λs acc h hs=>?_) (s.cnt base 1 16).2.toNat (s.cnt base 1 16).1 [] (h.cnt hs base 1 16) hc.1
 simp only[Ak8]
 split
 ·rename_i hp
  have k:=Wi hs (pos:=base+acc.length) (by omega) (by omega)
  exact⟨Fa.blob (Fa.lsing h hs (by omega) (by omega)) k.1 _,(RS.ok.blob k.1 _).1⟩
 ·exact⟨h.fail (Int.le_refl 0) (by omega),hs.fail _ _⟩
theorem Fa.unpl {s:RS} (h:Fa s) (hs:Av s):Fa s.unpl.1:=by
 obtain⟨a,b⟩:=Bu hs Aj
 obtain⟨c,d⟩:=Bu a Bb
 have f4:=((h.epo hs Aj).epo a Bb).ents c (Abr a Bb).1
 exact f4.1.rest9 f4.2
structure Gj where
 ep:Int
 bt:List Bt
 deriving DecidableEq
def Zl:Gj:=⟨0,[]⟩
def B5 (acc:List Bt):Bt:=acc.getD (acc.length-1) BZ
def Aqi (ep:Int) (acc:List Bt) (b:Bt):Bool:=decide (b.ep≤ep)&&(decide (acc.length=0)||(decide ((B5 acc).ep≤b.ep)&&decide ((B5 acc).base+(B5 acc).en.length≤b.base)))
def RS.bat (s:RS) (ep:Int) (acc:List Bt):RS×Bt:=
 if(s.frame 2097152).1.code=0 then
  (if(RS.new (s.frame 2097152).2).unpl.1.code=0 then
    (if Aqi ep acc (RS.new (s.frame 2097152).2).unpl.2=true then((s.frame 2097152).1,(RS.new (s.frame 2097152).2).unpl.2)else((s.frame 2097152).1.fail 13 s.at_,(RS.new (s.frame 2097152).2).unpl.2))
  else((s.frame 2097152).1.fail (RS.new (s.frame 2097152).2).unpl.1.code ((s.frame 2097152).1.at_-4-(s.frame 2097152).2.length+(RS.new (s.frame 2097152).2).unpl.1.fat),(RS.new (s.frame 2097152).2).unpl.2))
 else((s.frame 2097152).1,BZ)
structure Arr (ep:Int) (acc:List Bt) (b:Bt):Prop where
 ok:b.ok
 rt:B8 b=true
 sg:Ai9 b=true
 may:Aqi ep acc b=true
def Ars (ep:Int):Ef Bt:=⟨λs acc=>s.bat ep acc,λ_ b=>Ac (plB b),λacc b=>Arr ep acc b⟩
theorem Yz (l:List Bt) (k:Nat) (h:k<l.length):l.take (k+1)=l.take k++[l.getD k BZ]:=by
 rw[List.take_succ_eq_append_getElem h];simp[h]
abbrev Hh:=List Lk×Int
def R4:List Hh->Int
 |[]=>0
 |x::l=>x.2+R4 l
theorem Add (l:List Hh) (x:Hh):R4 (l++[x])=R4 l+x.2:=by
 induction l with
 |nil=>simp[R4]
 |cons y l ih=>simp only[List.cons_append,R4,ih];omega
structure Aq4 (base:Int) (acc:List Hh) (x:Hh):Prop where
 lk:NX x.1
 right:BO (base+acc.length) x.1=true
 sz:0≤x.2
 sum:R4 acc+x.2≤1048576
 pos:base+acc.length<4611686018427387904
def CN (base:Int):Ef Hh:=⟨λs acc=>if base+acc.length<4611686018427387904 then s.ehead (base+acc.length) (1048576-R4 acc)else(s.fail 3 0,([],0)),
 λacc x=>Cm (base+acc.length) x.1++vb x.2,λacc x=>Aq4 base acc x⟩
theorem QR {base:Int} {s:RS} {acc:List Hh} (h:base+acc.length<4611686018427387904):(CN base).f s acc=s.ehead (base+acc.length) (1048576-R4 acc):=by
 simp only[CN];rw[if_pos h]
theorem Agl {s:RS} {pos m:Int} (h:Av s) (p0:0≤pos) (p1:pos<18446744073709551616) (hc:(s.ehead pos m).1.code=0):
 s.code=0∧NX (s.ehead pos m).2.1∧BO pos (s.ehead pos m).2.1=true∧0≤(s.ehead pos m).2.2∧(s.ehead pos m).2.2≤m∧s.at_<(s.ehead pos m).1.at_∧
 s.l.take (s.ehead pos m).1.at_.toNat=s.l.take s.at_.toNat++(Cm pos (s.ehead pos m).2.1++vb (s.ehead pos m).2.2):=by
 obtain⟨a,b⟩:=EI h p0 p1
 unfold RS.ehead at hc ⊢
 split at hc
 ·rename_i h0
  rw[if_pos h0]
  obtain⟨c1,c2,c3,c4,c5⟩:=DE a h0
  obtain⟨i1,i2,i3,i4,i5⟩:=Afe h p0 p1 c1
  refine⟨i1,i2,i3,c2,c3,by simp only[];omega,?_⟩
  simp only[]
  rw[b]at c5
  rw[c5,i5,List.append_assoc]
 ·rename_i h0;exact absurd hc h0
theorem Mp {base:Int}:∀{r acc:List Hh},Wf (CN base).nx acc r->0≤R4 r
 |[],_,_=>Int.le_refl _
 |x::r,acc,h=>by
  have h1:=h.1.sz
  have h2:=Mp h.2
  simp only[R4];omega
theorem J8 {base:Int} (b0:0≤base):(CN base).Ok:=by
 refine⟨λs acc h _=>?_,λs acc h hw hc=>?_,λs acc x r h hc hw hx hr=>?_,λacc x hw hx=>?_⟩
 ·by_cases hp:base+acc.length<4611686018427387904
  ·rw[QR hp];exact NB h (by omega) (by omega) _
  ·simp only[CN];rw[if_neg hp];exact⟨h.fail _ _,Bl _ _ _⟩
 ·by_cases hp:base+acc.length<4611686018427387904
  ·rw[QR hp]at hc ⊢
   obtain⟨e1,e2,e3,e4,e5,e6,e7⟩:=Agl h (by omega) (by omega) hc
   exact⟨e1,⟨e2,e3,e4,by omega,hp⟩,e6,e7⟩
  ·simp only[CN]at hc;rw[if_neg hp]at hc;exact absurd hc (IB _ (by decide))
 ·obtain⟨x1,x2,x3,x4,x5⟩:=hx
  have hnn:=Mp hw
  rw[QR x5]
  have ex:E3 (base+acc.length) ⟨x.1,List.replicate x.2.toNat 0⟩=Cm (base+acc.length) x.1++vb x.2:=by
   unfold E3;simp only[List.length_replicate];rw[Int.toNat_of_nonneg x3]
  have:=Abs (e:=⟨x.1,List.replicate x.2.toNat 0⟩) (m:=1048576-R4 acc) h hc (by omega) (by omega) ⟨x1,λy hy=>by rw[List.mem_replicate]at hy;rw[hy.2];decide⟩ x2 (by simp;omega) (by simp;omega) (by rw[ex];exact hr)
  rw[this,ex]
  simp only[List.length_replicate,CN]
  rw[Int.toNat_of_nonneg x3]
 ·obtain⟨x1,x2,x3,x4,x5⟩:=hx
  intro y hy
  simp only[CN]at hy
  have hnn:=Mp hw
  rcases List.mem_append.1 hy with hy|hy
  ·exact M7 (by omega) (by omega) x1 x2 y hy
  ·exact CD (x:=x.2) x3 (by omega) y hy
def HZ (l:List Hh):List En:=l.map λx=>⟨x.1,[]⟩
def JG (l:List Hh):List Int:=l.map (·.2)
theorem EK (l:List Hh):(HZ l).length=l.length:=by simp[HZ]
theorem Jt (l:List Hh):(JG l).length=l.length:=by simp[JG]
def RS.bthd (s:RS):RS×(Int×(Int×Int)):=
 (if DS ((s.epo Aj).1.epo Bb).2 (((s.epo Aj).1.epo Bb).1.int 16).2=true then(((s.epo Aj).1.epo Bb).1.int 16).1 else(((s.epo Aj).1.epo Bb).1.int 16).1.fail 3 ((s.epo Aj).1.epo Bb).1.at_,
   ((s.epo Aj).2,(((s.epo Aj).1.epo Bb).2,(((s.epo Aj).1.epo Bb).1.int 16).2)))
def RS.bthe (s:RS):RS×List Hh:=(CN s.bthd.2.2.1).many s.bthd.2.2.2.toNat s.bthd.1 []
def RS.btfi (h:RS) (q:List Hh) (d:RS×List Int):RS:=if(DU (HZ q) (JG q) d.2).2=true then d.1 else d.1.fail 3 h.at_
def RS.btch (s:RS) (blk:RS->RS×List Int):RS×Bt:=
 if s.bthd.1.code=0 then
  (if(RS.btfi s.bthe.1 s.bthe.2 (blk s.bthe.1)).code=0 then(RS.btfi s.bthe.1 s.bthe.2 (blk s.bthe.1),⟨s.bthd.2.1,s.bthd.2.2.1,(DU (HZ s.bthe.2) (JG s.bthe.2) (blk s.bthe.1).2).1⟩)
  else(RS.btfi s.bthe.1 s.bthe.2 (blk s.bthe.1),BZ))
 else(s.bthd.1,BZ)
theorem Fp {s:RS} (h:Av s):Av s.bthd.1∧s.bthd.1.l=s.l:=by
 obtain⟨a1,a2⟩:=Bu h Aj
 obtain⟨b1,b2⟩:=Bu a1 Bb
 obtain⟨c1,c2⟩:=b1.int 16
 unfold RS.bthd
 split
 ·exact⟨c1,c2.trans (b2.trans a2)⟩
 ·exact⟨c1.fail _ _,by rw[Bl];exact c2.trans (b2.trans a2)⟩
theorem Rr {s:RS} (h:Av s):0≤s.bthd.2.2.1∧s.bthd.2.2.1<4611686018427387904∧0≤s.bthd.2.2.2∧s.bthd.2.2.2≤16:=by
 obtain⟨a1,a2⟩:=Bu h Aj
 obtain⟨b1,b2⟩:=Bu a1 Bb
 have hi:=D_ (s:=((s.epo Aj).1.epo Bb).1) (m:=16) b1.bys
 have hp:0≤((s.epo Aj).1.epo Bb).2∧((s.epo Aj).1.epo Bb).2<4611686018427387904:=by
  by_cases hc:((s.epo Aj).1.epo Bb).1.code=0
  ·obtain⟨_,c1,_,c2,_⟩:=Hp a1 hc
   exact⟨c1,by simpa[Bb]using c2⟩
  ·rw[Yq hc];omega
 exact⟨hp.1,hp.2,hi.1,by have:=hi.2;show(((s.epo Aj).1.epo Bb).1.int 16).2≤_;omega⟩
theorem GU {s:RS} (h:Av s):Av s.bthe.1∧s.bthe.1.l=s.l:=by
 obtain⟨a1,a2⟩:=Fp h
 obtain⟨b1,b2⟩:=Pj (J8 (Rr h).1) s.bthd.2.2.2.toNat s.bthd.1 [] a1 trivial
 exact⟨b1,b2.trans a2⟩
theorem Yg {base:Int} (b0:0≤base) {s:RS} (hs:Av s) (hc:s.code=0) (N:Nat):Wf (CN base).nx [] ((CN base).many N s []).2∧((CN base).many N s []).2.length≤N∧(((CN base).many N s []).1.code=0->((CN base).many N s []).2.length=N):=by
 by_cases h:((CN base).many N s []).1.code=0
 ·obtain⟨r,h1,h2,h3,_⟩:=Qw (J8 b0) N s [] hs trivial h
  rw[List.nil_append]at h1 h3
  rw[h1]
  exact⟨h3,by omega,λ_=>h2⟩
 ·rw[Ha N s [] (.inr rfl) h]
  exact⟨trivial,by simp,λh'=>absurd h' h⟩
theorem KN {base:Int} {l:List Hh} (h:Wf (CN base).nx [] l):(∀e∈HZ l,e.lk.length≤1000000∧∀x∈e.lk,x.bk.length≤1000000)∧(∀n∈JG l,0≤n∧n≤1048576):=by
 have key:∀x∈l,(x.1.length≤1000000∧∀y∈x.1,y.bk.length≤1000000)∧0≤x.2∧x.2≤1048576:=λx hx=>by
  obtain⟨i,hi,rfl⟩:=List.getElem_of_mem hx
  have hn:=EA i hi h
  have hp:=Mp (Il i h)
  rw[List.nil_append]at hn
  obtain⟨r1,r2⟩:=(Gw hn.lk).1 hn.right
  refine⟨⟨by omega,λy hy=>?_⟩,hn.sz,by have:=hn.sum;omega⟩
  obtain⟨j,hj,rfl⟩:=List.getElem_of_mem hy
  have:=(EA j hj r2).2.2.2.2
  omega
 constructor
 ·intro e he
  simp only[HZ,List.mem_map]at he
  obtain⟨x,hx,rfl⟩:=he
  exact(key x hx).1
 ·intro n hn
  simp only[JG,List.mem_map]at hn
  obtain⟨x,hx,rfl⟩:=hn
  exact(key x hx).2
theorem YB {s:RS} (h:Av s):s.blk.2.length≤1048576:=by
 unfold RS.blk
 split
 ·rename_i hw
  have hc:s.blkL.1.code=0:=by
   unfold RS.blkL at hw ⊢
   split at hw
   ·rename_i hc;rw[if_pos hc];exact hc
   ·simp at hw
  exact(Rw h hc).2.2.2
 ·simp
theorem Ab7 {h:RS} {q:List Hh} {d:RS×List Int} (hd:Av d.1):Av (RS.btfi h q d)∧(RS.btfi h q d).l=d.1.l:=by
 unfold RS.btfi
 split
 ·exact⟨hd,rfl⟩
 ·exact⟨hd.fail _ _,Bl _ _ _⟩
theorem DG {s:RS} (h:Av s) {blk:RS->RS×List Int} (hb:∀s,Av s->Av (blk s).1∧(blk s).1.l=s.l):Av (s.btch blk).1∧(s.btch blk).1.l=s.l:=by
 obtain⟨a1,a2⟩:=Fp h
 obtain⟨b1,b2⟩:=GU h
 obtain⟨c1,c2⟩:=hb _ b1
 obtain⟨d1,d2⟩:=Ab7 (h:=s.bthe.1) (q:=s.bthe.2) c1
 unfold RS.btch
 repeat' split
 ·exact⟨d1,d2.trans (c2.trans b2)⟩
 ·exact⟨d1,d2.trans (c2.trans b2)⟩
 ·exact⟨a1,a2⟩
def Ut (l:List Int):Bt×(Int×Int):=
 if((RS.new l).btch RS.blk).1.rest9.code=0 then(((RS.new l).btch RS.blk).2,(0,0))else(BZ,(((RS.new l).btch RS.blk).1.rest9.code,((RS.new l).btch RS.blk).1.rest9.fat))
structure Mk where
 pos:Int
 cnt:Int
 at_:Int
deriving DecidableEq
def Mk.fin (m:Mk):Int:=m.pos+m.cnt
def Mk.ok (m:Mk):Prop:=0≤m.pos∧m.pos<18446744073709551616∧ -9223372036854775808≤m.cnt∧m.cnt<9223372036854775808∧ -9223372036854775808≤m.at_∧m.at_<9223372036854775808
def Cr:Mk:=⟨0,0,0⟩
def Mk.fits (m:Mk) (pos at_:Int):Prop:=1≤m.cnt∧m.cnt≤16∧pos≤m.pos∧m.pos+m.cnt≤4611686018427387904∧at_<m.at_∧m.at_≤1099511627775
instance (m:Mk) (pos at_:Int):Decidable (m.fits pos at_):=by unfold Mk.fits;infer_instance
def AI (acc:List Mk):Mk:=acc.getLastD Cr
theorem EJ (acc:List Mk) (m:Mk):AI (acc++[m])=m:=by simp[AI]
def HV (acc:List Mk) (m:Mk):Prop:=m.fits (AI acc).fin (AI acc).at_
def F1 (acc:List Mk) (m:Mk):List Int:=vb (m.pos-(AI acc).fin)++(vb m.cnt++vb (m.at_-(AI acc).at_-1))
def RS.m3 (s:RS):RS:=((s.vint.1.int 16).1.int 1099511627775).1
def RS.mBy (s:RS):Int:=s.vint.2
def RS.mCnt (s:RS):Int:=(s.vint.1.int 16).2
def RS.mOn (s:RS):Int:=((s.vint.1.int 16).1.int 1099511627775).2
def RS.mark (s:RS) (p:Mk):Mk:=⟨p.fin+s.mBy,s.mCnt,p.at_+s.mOn+1⟩
def Dq:Ef Mk:=
 ⟨λs acc=>if s.m3.code=0∧¬(s.mark (AI acc)).fits (AI acc).fin (AI acc).at_ then(s.m3.fail 3 s.at_,Cr)else(s.m3,s.mark (AI acc)),F1,HV⟩
theorem X8 {s:RS} (h:Av s):Av s.m3∧s.m3.l=s.l:=by
 obtain⟨a,b⟩:=h.vint
 obtain⟨c,d⟩:=a.int 16
 obtain⟨e,f⟩:=c.int 1099511627775
 exact⟨e,f.trans (d.trans b)⟩
theorem Fl {acc:List Mk} (h:Wf HV [] acc):0≤(AI acc).fin∧(AI acc).fin≤4611686018427387904∧0≤(AI acc).at_∧(AI acc).at_≤1099511627775∧0≤(AI acc).pos∧0≤(AI acc).cnt:=by
 have gen:∀n,∀acc:List Mk,acc.length=n->Wf HV [] acc->0≤(AI acc).fin∧(AI acc).fin≤4611686018427387904∧0≤(AI acc).at_∧(AI acc).at_≤1099511627775∧0≤(AI acc).pos∧0≤(AI acc).cnt:=by
  intro n
  induction n with
  |zero=>intro acc h _;rw[List.eq_nil_of_length_eq_zero h];decide
  |succ n ih=>
   intro acc h hw
   rcases List.eq_nil_or_concat acc with rfl|⟨l,x,rfl⟩
   ·simp at h
   ·rw[List.concat_eq_append]at h hw ⊢
    obtain⟨h1,h2⟩:=Dx.1 hw
    have:=ih l (by simpa using h) h1
    rw[EJ]
    have h3:x.fits (AI ([]++l)).fin (AI ([]++l)).at_:=h2
    simp only[List.nil_append]at h3
    obtain⟨q1,q2,q3,q4,q5,q6⟩:=h3
    unfold Mk.fin at*
    omega
 exact gen _ acc rfl h
theorem Ae8 {s:RS} (h:Av s):0≤s.mBy∧s.mBy<18446744073709551616∧0≤s.mCnt∧s.mCnt≤16∧0≤s.mOn∧s.mOn≤1099511627775:=by
 have a:=Bk (s:=s) h.bys
 have b:=D_ (s:=s.vint.1) (m:=16) h.vint.1.bys
 have c:=D_ (s:=(s.vint.1.int 16).1) (m:=1099511627775) (h.vint.1.int 16).1.bys
 unfold RS.mBy RS.mCnt RS.mOn
 omega
theorem Aj5 {s:RS} (h:Av s) (hc:s.m3.code=0):s.code=0∧s.vint.1.code=0∧(s.vint.1.int 16).1.code=0∧s.at_<s.m3.at_∧s.l.take s.m3.at_.toNat=s.l.take s.at_.toNat++(vb s.mBy++(vb s.mCnt++vb s.mOn)):=by
 obtain⟨a,b⟩:=h.vint
 obtain⟨c,d⟩:=a.int 16
 obtain⟨i1,i2,i3,i4,i5⟩:=DE c hc
 obtain⟨j1,j2,j3,j4,j5⟩:=DE a i1
 obtain⟨v1,v2,v3⟩:=CJ h j1
 have ha:=Ei h j1
 refine⟨v3,j1,i1,by unfold RS.m3;omega,?_⟩
 rw[d,b]at i5
 rw[b]at j5
 unfold RS.m3 RS.mBy RS.mCnt RS.mOn
 rw[i5,j5,v1]
 simp
theorem DR:Dq.Ok:=by
 refine⟨λs acc h _=>?_,λs acc h hw hc=>?_,λs acc x r h hc hw hx hr=>?_,λacc x hw hx=>?_⟩
 ·obtain⟨a,c⟩:=X8 h
  simp only[Dq]
  split
  ·exact⟨a.fail _ _,by rw[Bl];exact c⟩
  ·exact⟨a,c⟩
 ·simp only[Dq]at hc ⊢
  by_cases hf:s.m3.code=0∧¬(s.mark (AI acc)).fits (AI acc).fin (AI acc).at_
  ·rw[if_pos hf]at hc;exact absurd hc (BM _ _ hf.1 (by decide))
  ·rw[if_neg hf]at hc ⊢
   obtain⟨v1,v2,v3,v4,v5⟩:=Aj5 h hc
   have hfit:(s.mark (AI acc)).fits (AI acc).fin (AI acc).at_:=by
    by_cases hq:(s.mark (AI acc)).fits (AI acc).fin (AI acc).at_
    ·exact hq
    ·exact absurd ⟨hc,hq⟩ hf
   refine⟨v1,hfit,v4,?_⟩
   simp only
   rw[v5]
   congr 1
   unfold F1 RS.mark
   simp only
   rw[show(AI acc).fin+s.mBy-(AI acc).fin=s.mBy from by omega,show(AI acc).at_+s.mOn+1-(AI acc).at_-1=s.mOn from by omega]
 ·have hl:=Fl hw
  have hx':=hx
  obtain⟨q1,q2,q3,q4,q5,q6⟩:=hx'
  simp only[Dq,F1,List.append_assoc]at hr ⊢
  have v:=Di hc (by omega) (by omega) hr
  have a:=Bv h hr
  have hr2:(s.adv ((vb (x.pos-(AI acc).fin)).length:Int)).rest=vb x.cnt++(vb (x.at_-(AI acc).at_-1)++r):=by rw[A5 h.at0,hr,List.drop_left]
  have i:=Er (m:=16) (show(s.adv ((vb (x.pos-(AI acc).fin)).length:Int)).code=0 from hc) (by omega) (by omega) (by omega) hr2
  have b:=Bv a hr2
  have hr3:((s.adv ((vb (x.pos-(AI acc).fin)).length:Int)).adv ((vb x.cnt).length:Int)).rest=vb (x.at_-(AI acc).at_-1)++r:=by rw[A5 a.at0,hr2,List.drop_left]
  have j:=Er (m:=1099511627775) (show((s.adv ((vb (x.pos-(AI acc).fin)).length:Int)).adv ((vb x.cnt).length:Int)).code=0 from hc) (by omega) (by omega) (by omega) hr3
  have e3:s.m3=s.adv ((vb (x.pos-(AI acc).fin)++(vb x.cnt++vb (x.at_-(AI acc).at_-1))).length:Int):=by
   unfold RS.m3;rw[v];simp only;rw[i];simp only;rw[j];simp only[BH,List.length_append];congr 1;omega
  have eb:s.mark (AI acc)=x:=by
   unfold RS.mark RS.mBy RS.mCnt RS.mOn
   rw[v];simp only;rw[i];simp only;rw[j]
   cases x
   simp only[Mk.mk.injEq]
   refine⟨by omega,trivial,by omega⟩
  rw[eb,e3,if_neg (λhh=>hh.2 hx)]
 ·have hl:=Fl hw
  obtain⟨q1,q2,q3,q4,q5,q6⟩:=hx
  intro y hy
  simp only[Dq,F1,List.mem_append]at hy
  rcases hy with hy|hy|hy
  ·exact CD (by omega) (by omega) y hy
  ·exact CD (by omega) (by omega) y hy
  ·exact CD (by omega) (by omega) y hy
def Dz:Int->Int->List Mk->Bool
 |_,_,[]=>true
 |pos,at_,m::r=>decide (m.fits pos at_)&&Dz m.fin m.at_ r
theorem Qi:∀{l acc:List Mk},Dz (AI acc).fin (AI acc).at_ l=true↔Wf HV acc l:=by
 intro l
 induction l with
 |nil=>intro acc;simp[Dz,Wf]
 |cons m l ih=>
  intro acc
  have:=ih (acc:=acc++[m])
  rw[EJ]at this
  simp only[Dz,Wf,Bool.and_eq_true,decide_eq_true_eq,this]
  rfl
def AZ (l:List Mk):Bool:=Dz 0 0 l&&decide (l.length≤16)
theorem Bc {l:List Mk}:AZ l=true↔Wf HV [] l∧l.length≤16:=by
 unfold AZ
 rw[Bool.and_eq_true,decide_eq_true_eq]
 have:=Qi (l:=l) (acc:=[])
 rw[show(AI []).fin=0 from rfl,show(AI []).at_=0 from rfl]at this
 rw[this]
def AO (l:List Mk):List Int:=vb l.length++BR F1 [] l
def RS.marks (s:RS):RS×List Mk:=Dq.counted 16 s
theorem Ws (l:List Mk) (k:Nat) (h:k≤l.length):AI (l.take k)=if k=0 then Cr else l.getD (k-1) Cr:=by
 cases k with
 |zero=>rfl
 |succ k=>
  rw[List.take_succ_eq_append_getElem (show k<l.length from by omega),EJ]
  simp[show k<l.length from by omega]
def GC (acc:List Mk) (m:Mk):List Int:=[m.pos-(AI acc).fin,m.cnt,m.at_-(AI acc).at_-1]
theorem Kv:∀(l acc:List Mk),I0 (BR GC acc l)=BR F1 acc l:=by
 intro l
 induction l with
 |nil=>intro acc;rfl
 |cons x l ih=>
  intro acc
  simp only[BR]
  rw[←ih (acc++[x])]
  simp[I0,GC,F1]
theorem Z5:∀(l acc:List Mk),(BR GC acc l).length=3*l.length:=by
 intro l
 induction l with
 |nil=>intro acc;rfl
 |cons x l ih=>intro acc;simp only[BR,List.length_append,ih,GC,List.length_cons,List.length_nil];omega
theorem Dp (l:List Mk):(AO l).length≤10+30*l.length∧l.length<(AO l).length:=by
 have h1:=P0 (BR GC [] l)
 have h2:=Amx (BR GC [] l)
 rw[Kv,Z5]at h1 h2
 have h3:=Bd (l.length:Int)
 unfold AO;rw[List.length_append];omega
theorem FK {l:List Mk} (h:Wf HV [] l) (hn:l.length<18446744073709551616):AY (AO l):=by
 intro y hy
 rcases List.mem_append.1 hy with hy|hy
 ·exact CD (by omega) (by omega) y hy
 ·exact Um (F:=Dq) (acc:=[]) DR trivial h y hy
theorem Ph {s:RS} {l:List Mk} {r:List Int} (h:Av s) (hc:s.code=0) (hl:AZ l=true) (hr:s.rest=AO l++r):s.marks=(s.adv ((AO l).length:Int),l):=by
 obtain⟨h1,h2⟩:=Bc.1 hl
 have:=H9 DR h hc (l:=l) (m:=16) (r:=r) (by omega) h1 (by omega) (by rw[hr];unfold AO;simp only[List.append_assoc];rfl)
 unfold RS.marks
 rw[this]
 have e:((vb (l.length:Int)).length:Int)+((BR Dq.enc [] l).length:Int)=(AO l).length:=by unfold AO;rw[List.length_append];show _+((BR F1 [] l).length:Int)=_;omega
 rw[e]
theorem Zw {l:List Mk} {k:Nat} (h:k<l.length) (hf:¬(l.getD k Cr).fits (AI (l.take k)).fin (AI (l.take k)).at_):AZ l=false:=by
 cases hr:AZ l with
 |false=>rfl
 |true=>
  have h2:=EA k h (Bc.1 hr).1
  have h3:l[k]=l.getD k Cr:=by simp[h]
  rw[h3]at h2
  simp only[List.nil_append]at h2
  exact absurd h2 hf
theorem Fa.failAt {s t:RS} (h:Fa t) (hs:Av s) (hl:t.l=s.l) (c:Int):Fa (t.fail c s.at_):=h.fail hs.at0 (by rw[hl];exact hs.at1)
theorem Fa.ehead {s:RS} (hf:Fa s) (h:Av s) {pos:Int} (p0:0≤pos) (p1:pos<18446744073709551616) (m:Int):Fa (s.ehead pos m).1:=by
 have h1:=(hf.links h p1).int (EI h p0 p1).1 m
 unfold RS.ehead
 split<;>exact h1
theorem Fa.marks {s:RS} (hf:Fa s) (h:Av s):Fa s.marks.1:=by
 refine(Fa.many (F:=Dq) (λs acc hf h=>?_) _ _ _ (hf.int h 16) (h.int 16).1).1
 have h1:Fa s.m3:=((hf.vint h).int h.vint.1 16).int (h.vint.1.int 16).1 1099511627775
 have h2:=X8 h
 simp only[Dq]
 split
 ·exact⟨h1.failAt h h2.2 3,h2.1.fail _ _⟩
 ·exact⟨h1,h2.1⟩
theorem CZ {s:RS} (h:Av s):Av s.rest9∧s.rest9.l=s.l:=by
 unfold RS.rest9
 split
 ·exact⟨h.fail _ _,Bl _ _ _⟩
 ·exact⟨h,rfl⟩
theorem Fa.bthe {s:RS} (hf:Fa s) (h:Av s):Fa s.bthe.1:=by
 obtain⟨a1,a2⟩:=Bu h Aj
 obtain⟨b1,b2⟩:=Bu a1 Bb
 have f2:=((hf.epo h Aj).epo a1 Bb)
 have f3:=f2.int b1 16
 have hd:Fa s.bthd.1:=by
  unfold RS.bthd
  split
  ·exact f3
  ·exact f3.failAt b1 (b1.int 16).2 3
 have hb:=Rr h
 refine(Fa.many (F:=CN s.bthd.2.2.1) (λs' acc hf' h'=>?_) _ _ _ hd (Fp h).1).1
 simp only[CN]
 split
 ·exact⟨hf'.ehead h' (by omega) (by omega) _,(NB h' (by omega) (by omega) _).1⟩
 ·exact⟨hf'.fail (Int.le_refl _) (by have:=h'.at0;have:=h'.at1;omega),h'.fail _ _⟩
theorem Fa.bthd {s:RS} (hf:Fa s) (h:Av s):Fa s.bthd.1:=by
 obtain⟨a1,a2⟩:=Bu h Aj
 obtain⟨b1,b2⟩:=Bu a1 Bb
 have f2:=((hf.epo h Aj).epo a1 Bb)
 have f3:=f2.int b1 16
 unfold RS.bthd
 split
 ·exact f3
 ·exact f3.failAt b1 (b1.int 16).2 3
theorem Fa.btch {s:RS} (hf:Fa s) (h:Av s) {blk:RS->RS×List Int} (hb:∀s,Av s->Av (blk s).1∧(blk s).1.l=s.l) (hfb:∀s,Av s->Fa s->Fa (blk s).1):Fa (s.btch blk).1:=by
 have h1:=GU h
 have h2:=hfb _ h1.1 (hf.bthe h)
 have h3:Fa (RS.btfi s.bthe.1 s.bthe.2 (blk s.bthe.1)):=by
  unfold RS.btfi
  split
  ·exact h2
  ·exact h2.failAt h1.1 (hb _ h1.1).2 3
 unfold RS.btch
 repeat' split
 ·exact h3
 ·exact h3
 ·exact hf.bthd h
structure SD where
 r:RS
 ep:Int
 bt:List Bt
 ms:List Mk
 w:Bool
 fst:Int
def EM (ep:Int) (bs:List Bt) (b:Bt):Bool:=decide (b.ep≤ep)&&(decide (bs.length=0)||(decide ((B5 bs).ep≤b.ep)&&decide ((B5 bs).base+(B5 bs).en.length≤b.base)))
def RS.wth (s:RS) (f:Int×Int) (a:Int):RS:=if f.1=0 then s else s.fail f.1 (f.2+a)
def SD.pay (S:SD):SD×(List Int×Int):=({S with r:=(S.r.frame 2097152).1,fst:=S.r.at_},((S.r.frame 2097152).2,(S.r.frame 2097152).1.at_-4-(S.r.frame 2097152).2.length))
abbrev PY:=RS->RS×(Bt×Bool)
def SD.batR (S:SD) (D:RS×(Bt×Bool)) (a:Int):RS:=
 if(S.r.wth (D.1.rest9.code,D.1.rest9.fat) a).code=0 then
  (if S.bt.length=16 then(S.r.wth (D.1.rest9.code,D.1.rest9.fat) a).fail 2 S.fst else if EM S.ep S.bt D.2.1=false then(S.r.wth (D.1.rest9.code,D.1.rest9.fat) a).fail 13 S.fst else S.r.wth (D.1.rest9.code,D.1.rest9.fat) a)
 else S.r.wth (D.1.rest9.code,D.1.rest9.fat) a
def SD.bat (rd:PY) (S:SD) (q:RS) (a:Int):SD:=
 if(S.r.wth ((rd q).1.rest9.code,(rd q).1.rest9.fat) a).code=0 then
  {S with r:=S.batR (rd q) a,bt:=S.bt++[(rd q).2.1],ms:=S.ms++[⟨(rd q).2.1.base,(rd q).2.1.en.length,S.fst⟩],w:=S.w&&(rd q).2.2}
 else{S with r:=S.r.wth ((rd q).1.rest9.code,(rd q).1.rest9.fat) a}
def SD.idxR (S:SD) (q:RS) (a:Int):RS:=
 if(S.r.wth (q.marks.1.rest9.code,q.marks.1.rest9.fat) a).code=0∧¬q.marks.2=S.ms then(S.r.wth (q.marks.1.rest9.code,q.marks.1.rest9.fat) a).fail 12 S.fst else S.r.wth (q.marks.1.rest9.code,q.marks.1.rest9.fat) a
def SD.idx (S:SD) (q:RS) (a:Int):SD:={S with r:=S.idxR q a}
def SD.one (rd:PY) (S:SD):SD×Bool:=
 if S.pay.1.r.code=0 then
  (if(RS.new S.pay.2.1).byte.2=1 then(S.pay.1.bat rd (RS.new S.pay.2.1).byte.1 S.pay.2.2,false)
  else if(RS.new S.pay.2.1).byte.2=2 then(S.pay.1.idx (RS.new S.pay.2.1).byte.1 S.pay.2.2,true)
  else({S.pay.1 with r:=S.pay.1.r.wth (((RS.new S.pay.2.1).byte.1.fail 7 0).code,((RS.new S.pay.2.1).byte.1.fail 7 0).fat) S.pay.2.2},false))
 else(S.pay.1,true)
def SD.recs (rd:PY):Nat->SD->SD
 |0,S=>S
 |n+1,S=>if S.r.code=0 then(if(S.one rd).2=true then(S.one rd).1 else SD.recs rd n (S.one rd).1)else S
theorem KS:∀(hs:List En) (ns d:List Int) (acc:List En),hs.length=ns.length->(DL hs ns d acc).2=true->(∀n∈ns,0≤n)->AY d->
 ∃r,(DL hs ns d acc).1=acc++r∧r.length=hs.length∧r.map (·.lk)=hs.map (·.lk)∧AL r=d∧r.map (λe=>(e.data.length:Int))=ns∧∀e∈r,AY e.data
 |[],[],d,acc,_,h,_,_=>by
  simp only[DL]at h ⊢
  split at h
  ·rename_i hd
   rw[if_pos hd]
   exact⟨[],by simp,rfl,rfl,(List.eq_nil_of_length_eq_zero hd).symm▸rfl,rfl,by simp⟩
  ·simp at h
 |[],_::_,_,_,hl,_,_,_=>by simp at hl
 |_::_,[],_,_,hl,_,_,_=>by simp at hl
 |e::hs,n::ns,d,acc,hl,h,hn,hb=>by
  simp only[DL]at h ⊢
  split at h
  ·simp at h
  ·rename_i hc
   rw[if_neg hc]
   have n0:=hn n (by simp)
   obtain⟨r,h1,h2,h3,h4,h5,h6⟩:=KS hs ns (d.drop n.toNat) (acc++[⟨e.lk,d.take n.toNat⟩]) (by simpa using hl) h (λk hk=>hn k (by simp[hk])) (hb.drop _)
   have hlen:(d.take n.toNat).length=n.toNat:=by simp;omega
   refine⟨⟨e.lk,d.take n.toNat⟩::r,by rw[h1];simp,by simp[h2],by simp[h3],?_,?_,λx hx=>?_⟩
   ·show d.take n.toNat++AL r=d
    rw[h4,List.take_append_drop]
   ·simp only[List.map_cons,hlen,h5];rw[Int.toNat_of_nonneg n0]
   ·rcases List.mem_cons.1 hx with rfl|hx
    ·exactλy hy=>hb y (List.mem_of_mem_take hy)
    ·exact h6 x hx
structure Me (b:Bt):Prop where
 ok:b.ok
 len:b.en.length≤16
 sum:b.base+b.en.length≤4611686018427387904
 small:∀e∈b.en,e.lk.length≤16∧(∀x∈e.lk,x.bk.length≤4)∧e.data.length≤1048576
theorem Me.zero:Me BZ:=⟨⟨by decide,by decide,by decide,by decide,λe he=>by cases he⟩,by decide,by decide,λe he=>by cases he⟩
theorem Pm {pos:Int} {l:List Lk} (hl:NX l) (hr:BO pos l=true):l.length≤16∧∀x∈l,x.bk.length≤4:=by
 obtain⟨r1,r2⟩:=(Gw hl).1 hr
 refine⟨r1,λy hy=>?_⟩
 obtain⟨j,hj,rfl⟩:=List.getElem_of_mem hy
 exact(EA j hj r2).2.2.2.2
theorem Yx {s:RS} (h:Av s) (hc:s.bthd.1.code=0):s.code=0∧1≤s.bthd.2.1∧s.bthd.2.1<4611686018427387904∧0≤s.bthd.2.2.1∧1≤s.bthd.2.2.2∧s.bthd.2.2.2≤16∧s.bthd.2.2.1+s.bthd.2.2.2≤4611686018427387904:=by
 obtain⟨a1,a2⟩:=Bu h Aj
 obtain⟨b1,b2⟩:=Bu a1 Bb
 unfold RS.bthd at hc ⊢
 simp only[]at hc ⊢
 split at hc
 ·rename_i hf
  have h3:=(DE b1 hc).1
  obtain⟨e1,e2,e3,e4,_⟩:=Hp a1 h3
  obtain⟨g1,g2,g3,g4,_⟩:=Hp h e1
  have hfi:=GK.1 hf
  have:1≤(s.epo Aj).2∧(s.epo Aj).2<4611686018427387904:=by simpa[Aj]using g4
  exact⟨g1,this.1,this.2,e2,hfi.1.1,hfi.1.2,hfi.2.2⟩
 ·exact absurd hc (by unfold RS.fail;split;simp[BW];assumption)
theorem NN {s:RS} (h:Av s) {blk:RS->RS×List Int} (hb:∀s,Av s->Av (blk s).1∧AY (blk s).2∧(blk s).2.length≤1048576∧(s.code≠0->(blk s).1.code≠0)):
 Me (s.btch blk).2∧((s.btch blk).1.code=0->1≤(s.btch blk).2.en.length∧1≤(s.btch blk).2.ep):=by
 unfold RS.btch
 split
 ·rename_i hc
  obtain⟨p1,p2,p3,p4,p5,p6,p7⟩:=Yx h hc
  obtain⟨k1,k2⟩:=GU h
  obtain⟨q1,q2,q3,q4⟩:=hb _ k1
  split
  ·rename_i hf
   have hdl:(DU (HZ s.bthe.2) (JG s.bthe.2) (blk s.bthe.1).2).2=true:=by
    cases hd:(DU (HZ s.bthe.2) (JG s.bthe.2) (blk s.bthe.1).2).2 with
    |true=>rfl
    |false=>
     unfold RS.btfi at hf
     rw[hd,if_neg (by simp)]at hf
     exact absurd hf (by unfold RS.fail;split;simp[BW];assumption)
   have hcode:(blk s.bthe.1).1.code=0:=by
    unfold RS.btfi at hf;rw[if_pos hdl]at hf;exact hf
   have hcd:s.bthe.1.code=0:=by
    by_cases hz:s.bthe.1.code=0
    ·exact hz
    ·exact absurd hcode (q4 hz)
   obtain⟨w1,w2,w3⟩:=Yg p4 (Fp h).1 hc s.bthd.2.2.2.toNat
   have hlen:=w3 hcd
   obtain⟨m1,m2⟩:=KN w1
   have hle:(HZ s.bthe.2).length=(JG s.bthe.2).length:=by rw[EK,Jt]
   unfold DU at hdl ⊢
   rw[if_pos hle]at hdl ⊢
   obtain⟨r,r1,r2,r3,r4,r5,r6⟩:=KS _ _ _ [] hle hdl (λn hn=>(m2 n hn).1) q2
   rw[List.nil_append]at r1
   rw[r1]
   have hrl:r.length=s.bthd.2.2.2.toNat:=by rw[r2,EK];exact hlen
   have hlk:∀e∈r,NX e.lk∧e.lk.length≤16∧∀x∈e.lk,x.bk.length≤4:=λe he=>by
    have h1:e.lk∈r.map (·.lk):=List.mem_map.2 ⟨e,he,rfl⟩
    rw[r3]at h1
    simp only[HZ,List.map_map,List.mem_map,Function.comp]at h1
    obtain⟨x,hx,hxe⟩:=h1
    obtain⟨i,hi,rfl⟩:=List.getElem_of_mem hx
    have hn:=EA i hi w1
    rw[←hxe]
    exact⟨hn.lk,Pm hn.lk hn.right⟩
   have hdt:∀e∈r,e.data.length≤1048576:=λe he=>by
    have h1:(e.data.length:Int)∈r.map (λe=>(e.data.length:Int)):=List.mem_map.2 ⟨e,he,rfl⟩
    rw[r5]at h1
    have:=(m2 _ h1).2;omega
   exact⟨⟨⟨by simp only[];omega,by simp only[];omega,p4,by simp only[];omega,λe he=>⟨(hlk e he).1,r6 e he⟩⟩,by simp only[];omega,by simp only[];omega,λe he=>⟨(hlk e he).2.1,(hlk e he).2.2,hdt e he⟩⟩,λ_=>⟨by simp only[];omega,p2⟩⟩
  ·exact⟨Me.zero,λh=>by rename_i hf;exact absurd h hf⟩
 ·exact⟨Me.zero,λh=>by rename_i hf;exact absurd h hf⟩
theorem Dr {s:RS} {c a:Int} (hc:c≠0):¬(s.fail c a).code=0:=by
 unfold RS.fail
 split
 ·simp[BW,hc]
 ·assumption
theorem Als {s:RS} (h:s.code≠0):s.blk.1.code≠0:=by
 intro hc
 have h1:s.blkL.1.code=0:=by
  unfold RS.blk at hc
  split at hc
  ·exact hc
  ·exact absurd hc (Dr (by decide))
 unfold RS.blkL at h1
 have h2:s.bdat.1.code=0:=by split at h1<;>first|assumption|exact h1
 have h3:s.bway.1.code=0:=by
  unfold RS.bdat at h2
  split at h2
  ·assumption
  ·exact h2
 have h4:(s.int 1048576).1.code=0:=by
  have:s.bway.1=(s.int 1048576).1.byte.1:=rfl
  rw[this]at h3
  have e:(s.int 1048576).1.byte.1=((s.int 1048576).1.take 1).1:=by unfold RS.byte RS.take;split<;>rfl
  rw[e]at h3
  exact(Kz h3).1
 have h5:s.vint.1.code=0:=by
  unfold RS.int at h4
  rw[if_pos (by decide)]at h4
  unfold RS.most at h4
  split at h4
  ·exact absurd h4 (Dr (by decide))
  ·exact h4
 unfold RS.vint at h5
 rw[if_neg h]at h5
 exact h h5
theorem GW:∀s:RS,Av s->Av s.blk.1∧AY s.blk.2∧s.blk.2.length≤1048576∧(s.code≠0->s.blk.1.code≠0):=by
 intro s h
 refine⟨(B_ h).1,?_,YB h,Als⟩
 unfold RS.blk
 split
 ·rename_i hw
  have hc:s.blkL.1.code=0:=by
   unfold RS.blkL at hw ⊢
   split at hw
   ·rename_i hc;rw[if_pos hc];exact hc
   ·simp at hw
  exact(Rw h hc).2.2.1
 ·intro x hx;simp at hx
structure Acn (rd:PY):Prop where
 keep:∀q,Av q->Av (rd q).1∧(rd q).1.l=q.l
 fa:∀q,Av q->Fa q->Fa (rd q).1
 S:∀q,Av q->Me (rd q).2.1
def Gk:PY:=λq=>((q.btch RS.blk).1,((q.btch RS.blk).2,true))
theorem VS:Acn Gk:=⟨λq h=>DG h λs h=>B_ h,λq h hf=>hf.btch h (λs h=>B_ h) (λs h hf=>hf.blk h),λq h=>(NN h GW).1⟩
structure L0 (L:List Int) (S:SD):Prop where
 r:Av S.r
 l:S.r.l=L
 f0:0≤S.fst
 f1:S.fst≤L.length
 bt:∀b∈S.bt,Me b
 ml:S.ms.length=S.bt.length
 mok:∀m∈S.ms,m.ok
 n:S.bt.length≤17
 nn:S.r.code=0->S.bt.length≤16
 hn:L.length≤1000000
theorem KO {s:RS} (h:Av s) (m:Int):AY (s.frame m).2∧(s.frame m).2.length≤s.l.length:=by
 obtain⟨h1,h2,h3,h4⟩:=EP h (Ch m)
 unfold RS.frame
 repeat' split
 ·exact⟨h3,h4⟩
 ·exact⟨λx hx=>by simp at hx,by simp⟩
 ·exact⟨λx hx=>by simp at hx,by simp⟩
theorem JI {s:RS} (h:Av s) (f:Int×Int) (a:Int):Av (s.wth f a)∧(s.wth f a).l=s.l:=by
 unfold RS.wth
 split
 ·exact⟨h,rfl⟩
 ·exact⟨h.fail _ _,Bl _ _ _⟩
theorem Fq {s:RS} {f:Int×Int} {a:Int} (h:(s.wth f a).code=0):s.code=0∧f.1=0∧s.wth f a=s:=by
 unfold RS.wth at h ⊢
 split at h
 ·rename_i hf;rw[if_pos hf];exact⟨h,hf,rfl⟩
 ·rename_i hf;exact absurd h (Dr hf)
theorem H1 {s:RS} (h:Av s) (m:Int) (hc:(s.frame m).1.code=0):0≤(s.frame m).1.at_-4-(s.frame m).2.length∧(s.frame m).1.at_≤s.l.length∧s.at_<(s.frame m).1.at_:=by
 obtain⟨k1,k2⟩:=CL h m
 obtain⟨g1,g2,g3⟩:=Ju hc
 obtain⟨b1,b2,b3,b4⟩:=EP h (Ch m)
 have ht:=Bn b1 (n:=4) (show((s.blob (Ch m)).1.take 4).1.code=0 from g1)
 have hp:=JC h (Ch m) ht.1
 have e1:(s.frame m).1.at_=(s.blob (Ch m)).1.at_+4:=by rw[g3];exact ht.2.2.2.1
 have e2:(s.frame m).2=(s.blob (Ch m)).2:=by rw[g3]
 have a1:=k1.at1
 rw[k2]at a1
 exact⟨by rw[e1,e2];omega,a1,(GI h hc).2.2.2.1⟩
theorem HQ {L:List Int} {S:SD} (h:L0 L S) (hc:S.r.code=0):L0 L S.pay.1∧AY S.pay.2.1∧S.pay.2.1.length≤1000000:=by
 obtain⟨k1,k2⟩:=CL h.r 2097152
 obtain⟨b1,b2⟩:=KO h.r 2097152
 have h0:=h.r.at0
 have h1:=h.r.at1
 rw[h.l]at h1
 refine⟨⟨k1,k2.trans h.l,h0,h1,h.bt,h.ml,h.mok,h.n,λ_=>h.nn hc,h.hn⟩,b1,?_⟩
 have:=h.hn
 rw[h.l]at b2
 exact Nat.le_trans b2 this
theorem Zu {L:List Int} {rd:PY} (hrd:Acn rd) {S:SD} (h:L0 L S) (hc:S.r.code=0) {q:RS} (hq:Av q) (a:Int):L0 L (S.bat rd q a):=by
 obtain⟨w1,w2⟩:=JI h.r ((rd q).1.rest9.code,(rd q).1.rest9.fat) a
 have hS:=hrd.S q hq
 have hn:=h.nn hc
 have f0:=h.f0
 have f1:=h.f1
 have hh:=h.hn
 unfold SD.bat
 split
 ·rename_i hw
  have hR:Av (S.batR (rd q) a)∧(S.batR (rd q) a).l=L∧((S.batR (rd q) a).code=0->S.bt.length≠16):=by
   unfold SD.batR
   rw[if_pos hw]
   repeat' split
   ·exact⟨w1.fail _ _,by rw[Bl];exact w2.trans h.l,λhz=>absurd hz (Dr (by decide))⟩
   ·exact⟨w1.fail _ _,by rw[Bl];exact w2.trans h.l,λhz=>absurd hz (Dr (by decide))⟩
   ·rename_i h16 _;exact⟨w1,w2.trans h.l,λ_=>h16⟩
  refine⟨hR.1,hR.2.1,f0,f1,λb hb=>?_,by simp[h.ml],λm hm=>?_,by simp only[List.length_append,List.length_singleton];omega,λhz=>?_,hh⟩
  ·rcases List.mem_append.1 hb with hb|hb
   ·exact h.bt b hb
   ·simp at hb;subst hb;exact hS
  ·rcases List.mem_append.1 hm with hm|hm
   ·exact h.mok m hm
   ·simp at hm;subst hm
    have h1:=hS.ok.b0
    have h2:=hS.sum
    have h3:=hS.len
    refine⟨h1,?_,?_,?_,?_,?_⟩<;>simp only[]<;>omega
  ·have:=hR.2.2 hz
   simp only[List.length_append,List.length_singleton];omega
 ·exact⟨w1,w2.trans h.l,f0,f1,h.bt,h.ml,h.mok,h.n,λ_=>hn,hh⟩
theorem Afo {L:List Int} {S:SD} (h:L0 L S) (hc:S.r.code=0) (q:RS) (a:Int):L0 L (S.idx q a):=by
 obtain⟨w1,w2⟩:=JI h.r (q.marks.1.rest9.code,q.marks.1.rest9.fat) a
 have hR:Av (S.idxR q a)∧(S.idxR q a).l=L:=by
  unfold SD.idxR
  split
  ·exact⟨w1.fail _ _,by rw[Bl];exact w2.trans h.l⟩
  ·exact⟨w1,w2.trans h.l⟩
 exact⟨hR.1,hR.2,h.f0,h.f1,h.bt,h.ml,h.mok,h.n,λ_=>h.nn hc,h.hn⟩
theorem M1 {L:List Int} {rd:PY} (hrd:Acn rd) {S:SD} (h:L0 L S) (hc:S.r.code=0):L0 L (S.one rd).1∧((S.one rd).1.r.code=0->S.r.at_<(S.one rd).1.r.at_):=by
 obtain⟨p1,p2,p3⟩:=HQ h hc
 have hok:Av (RS.new S.pay.2.1):=Av.new p2 (by omega)
 obtain⟨q1,q2⟩:=RS.ok.byte_ hok
 unfold SD.one
 split
 ·rename_i hp
  have hlt:=(H1 h.r 2097152 hp).2.2
  have e:S.pay.1.r.at_=(S.r.frame 2097152).1.at_:=rfl
  repeat' split
  ·refine⟨Zu hrd p1 hp q1 _,λhz=>?_⟩
   simp only[]at hz ⊢
   unfold SD.bat at hz ⊢
   split at hz
   ·rename_i hw
    rw[if_pos hw]
    simp only[]at hz ⊢
    unfold SD.batR at hz ⊢
    rw[if_pos hw]at hz ⊢
    repeat' split at hz
    ·exact absurd hz (Dr (by decide))
    ·exact absurd hz (Dr (by decide))
    ·rename_i g1 g2;rw[if_neg g1,if_neg g2,(Fq hw).2.2];exact hlt
   ·rename_i hw;exact absurd hz hw
  ·refine⟨Afo p1 hp _ _,λhz=>?_⟩
   simp only[]at hz ⊢
   unfold SD.idx SD.idxR at hz ⊢
   simp only[]at hz ⊢
   split at hz
   ·exact absurd hz (Dr (by decide))
   ·rename_i hw;rw[if_neg hw,(Fq hz).2.2];exact hlt
  ·obtain⟨w1,w2⟩:=JI p1.r (((RS.new S.pay.2.1).byte.1.fail 7 0).code,((RS.new S.pay.2.1).byte.1.fail 7 0).fat) S.pay.2.2
   refine⟨⟨w1,w2.trans p1.l,p1.f0,p1.f1,p1.bt,p1.ml,p1.mok,p1.n,λ_=>p1.nn hp,p1.hn⟩,λhz=>?_⟩
   exact absurd (Fq hz).2.1 (Dr (by decide))
 ·rename_i hp
  exact⟨p1,λhz=>absurd hz hp⟩
theorem ZF {L:List Int} {rd:PY} (hrd:Acn rd):∀(n:Nat) (S:SD),L0 L S->L0 L (S.recs rd n):=by
 intro n
 induction n with
 |zero=>intro S h;exact h
 |succ n ih=>
  intro S h
  simp only[SD.recs]
  split
  ·rename_i hc
   have:=(M1 hrd h hc).1
   split
   ·exact this
   ·exact ih _ this
  ·exact h
def DK (l:List Mk):Nat->Int
 |0=>0
 |k+1=>DK l k+(l.getD k Cr).cnt
theorem O9 {l:List Mk} (h:AZ l=true) {k:Nat} (hk:k<l.length):(l.getD k Cr).fits (AI (l.take k)).fin (AI (l.take k)).at_:=by
 have h2:=EA k hk (Bc.1 h).1
 have h3:l[k]=l.getD k Cr:=by simp[hk]
 rw[h3,List.nil_append]at h2
 exact h2
theorem Fy {l:List Mk} (h:AZ l=true) {k:Nat} (hk:k<l.length):0≤(l.getD k Cr).pos∧1≤(l.getD k Cr).cnt∧(l.getD k Cr).cnt≤16∧(l.getD k Cr).pos+(l.getD k Cr).cnt≤4611686018427387904:=by
 have h1:=O9 h hk
 have h2:=Fl (Il k (Bc.1 h).1)
 obtain⟨a,b,c,d,e,f⟩:=h1
 omega
theorem Ja {l:List Mk} (h:AZ l=true) {k:Nat} (hk:k+1<l.length):(l.getD k Cr).fin≤(l.getD (k+1) Cr).pos:=by
 have h1:=O9 h hk
 rw[Ws l (k+1) (by omega),if_neg (by omega)]at h1
 exact h1.2.2.1
theorem Qh {l:List Mk} (h:AZ l=true):∀(d i:Nat),i+d+1<l.length->(l.getD i Cr).fin≤(l.getD (i+d+1) Cr).pos:=by
 intro d
 induction d with
 |zero=>intro i hi;exact Ja h hi
 |succ d ih=>
  intro i hi
  have h1:=ih i (by omega)
  have h2:=Fy h (k:=i+d+1) (by omega)
  have h3:=Ja h (k:=i+d+1) hi
  unfold Mk.fin at*
  rw[show i+(d+1)+1=i+d+1+1 from by omega]
  omega
theorem JR {l:List Mk} (h:AZ l=true) {i j:Nat} (hij:i<j) (hj:j<l.length):(l.getD i Cr).fin≤(l.getD j Cr).pos:=by
 have:=Qh h (j-i-1) i (by omega)
 rwa[show i+(j-i-1)+1=j from by omega]at this
theorem Uz {l:List Mk} (h:AZ l=true):∀k,k≤l.length->(k:Int)≤DK l k∧DK l k≤16*k:=by
 intro k
 induction k with
 |zero=>intro _;simp[DK]
 |succ k ih=>
  intro hk
  have h1:=ih (by omega)
  have h2:=Fy h (k:=k) (by omega)
  simp only[DK]
  omega
theorem Aiu {l:List Mk} (h:AZ l=true):∀k,k<l.length->DK l (k+1)≤(l.getD k Cr).fin-(l.getD 0 Cr).pos:=by
 intro k
 induction k with
 |zero=>intro _;simp only[DK,Mk.fin];omega
 |succ k ih=>
  intro hk
  have h1:=ih (by omega)
  have h2:=Ja h hk
  rw[show DK l (k+1+1)=DK l (k+1)+(l.getD (k+1) Cr).cnt from rfl]
  unfold Mk.fin at*
  omega
def C0 (pos:Int) (m:Mk):Bool:=decide (m.pos≤pos)&&decide (pos<m.fin)
theorem ES {pos:Int} {m:Mk}:C0 pos m=true↔m.pos≤pos∧pos<m.fin:=by simp[C0]
theorem Yf {l:List Mk} (h:AZ l=true) {pos:Int} {i j:Nat} (hi:i<l.length) (hj:j<l.length) (h1:C0 pos (l.getD i Cr)=true) (h2:C0 pos (l.getD j Cr)=true):i=j:=by
 have a:=ES.1 h1
 have b:=ES.1 h2
 rcases Nat.lt_trichotomy i j with h3|h3|h3
 ·have:=JR h h3 hj;omega
 ·exact h3
 ·have:=JR h h3 hi;omega
def EL (p:Mk->Bool) (l:List Mk):Nat:=l.findIdx p
theorem Akr {p:Mk->Bool} {l:List Mk} {k:Nat} (hk:k<l.length) (h1:p (l.getD k Cr)=true) (h2:∀i,i<k->p (l.getD i Cr)=false):EL p l=k:=by
 have e:l.getD k Cr=l[k]:=by simp[hk]
 rw[e]at h1
 unfold EL
 rw[List.findIdx_eq hk]
 refine⟨h1,λj hj=>?_⟩
 have:=h2 j hj
 have e2:l.getD j Cr=l[j]'(by omega):=by simp[show j<l.length by omega]
 rw[e2]at this
 simpa using this
theorem Aax {p:Mk->Bool} {l:List Mk} (h:∀i,i<l.length->p (l.getD i Cr)=false):EL p l=l.length:=by
 unfold EL
 rw[List.findIdx_eq_length]
 intro x hx
 obtain⟨i,hi,rfl⟩:=List.getElem_of_mem hx
 have:=h i hi
 have e2:l.getD i Cr=l[i]:=by simp[hi]
 rw[e2]at this
 exact this
def Ed (l:List Mk):Int×Int:=if l.length=0∨AZ l=false then(0,0)else((l.getD 0 Cr).pos,(l.getD (l.length-1) Cr).fin)
def GJ (ep:Int) (l:List Mk) (a n:Int):Ft:=⟨ep,l.length,if AZ l=true then DK l l.length else 0,(Ed l).1,(Ed l).2,a,n⟩
def SD.want (S:SD):Ft:=GJ S.ep S.ms S.fst (S.r.at_-S.fst)
def SD.end1 (S:SD):RS:=if(Bs S.pay.2.1).1=S.want then S.pay.1.r.wth (Bs S.pay.2.1).2 S.pay.2.2 else(S.pay.1.r.wth (Bs S.pay.2.1).2 S.pay.2.2).fail 12 S.pay.1.fst
def SD.end2 (S:SD):RS:=if(S.end1.take 12).2=A0 (S.end1.at_-S.pay.1.fst)then(S.end1.take 12).1 else(S.end1.take 12).1.fail 12 S.end1.at_
def SD.fin (S:SD):RS:=if S.pay.1.r.code=0 then S.end2.rest9 else S.pay.1.r
def SD.start (l:List Int):SD:=⟨if(RS.new l).header.2.ver=3 then(RS.new l).header.1 else(RS.new l).header.1.fail 8 4,(RS.new l).header.2.ep,[],[],true,0⟩
def SD.all (rd:PY) (l:List Int):SD:=(SD.start l).recs rd (l.length+1)
def SD.done (S:SD):RS:=if S.r.code=0 then S.fin else S.r
def Gi (rd:PY) (l:List Int):(Gj×Bool)×(Int×Int):=
 if(SD.all rd l).done.code=0 then((⟨(SD.all rd l).ep,(SD.all rd l).bt⟩,(SD.all rd l).w),(0,0))else((Zl,false),((SD.all rd l).done.code,(SD.all rd l).done.fat))
theorem Mr {l:List Int} (hb:AY l) (hl:l.length≤1000000):L0 l (SD.start l):=by
 have hok:Av (RS.new l):=Av.new hb (by omega)
 obtain⟨h1,h2⟩:=Ln hok
 have h3:Av (if(RS.new l).header.2.ver=3 then(RS.new l).header.1 else(RS.new l).header.1.fail 8 4)∧(if(RS.new l).header.2.ver=3 then(RS.new l).header.1 else(RS.new l).header.1.fail 8 4).l=l:=by
  split
  ·exact⟨h1,h2⟩
  ·exact⟨h1.fail _ _,by rw[Bl];exact h2⟩
 exact⟨h3.1,h3.2,Int.le_refl _,by show(0:Int)≤_;omega,λb h=>by simp[SD.start]at h,rfl,λb h=>by simp[SD.start]at h,by simp[SD.start],λ_=>by simp[SD.start],hl⟩
theorem Ahr {rd:PY} (hrd:Acn rd) {l:List Int} (hb:AY l) (hl:l.length≤1000000):L0 l (SD.all rd l):=ZF hrd _ _ (Mr hb hl)
section
variable {P:Program} {f:FuncId} {args args₀:List AV} {S:List Ad} {K:KT}
theorem Ct.o1 {o o':Ad} {r₀ r:AV} (h:An P f args₀ [o] r₀ [o']) (i:Nat) (ha:∀N,args₀.map (λx=>x.ren (AK [i] N))=args) (ho:∀ρ,o.ren ρ=o) (ho':∀ρ,o'.ren ρ=o') (hd:o≠ .dead) (hr:∀N,r₀.ren (AK [i] N)=r):
 Ct P f args [(i,o)] (λ_=>r) [(i,o')] (λ_=>[]):=
 Ct.mk h [i] (by simp) rfl (by simp) (by simpa using hd) (λn N=>ha N) (λn N=>by simpa using hr N) (λn N=>by simp[ho]) (.inl λn N=>by simp[ho']) (λn N=>rfl)
theorem Aa.o1 {r:AV} {i:Nat} {o o':Ad} (h:Ct P f args [(i,o)] (λ_=>r) [(i,o')] (λ_=>[])) (hS:S[i]? =some o) (hK:K r [i] [(i,o')] []):Aa P f args S K:=Aa.of h (by simpa using hS) (by simp) hK
end
section
variable {P:Program} {f:FuncId} {args args':List AV} {S:List Ad} {K:KT}
end
section
variable {P:Program} {f:FuncId} {args args':List AV} {S:List Ad} {K:KT} {m:Nat} {fn:Func}
end
structure Wa (x y:AV):Prop where
 len:x.cells.length=y.cells.length
 val:∀(G:Gh) (v:Value),BE G x v->BE G y v
 cel:∀(j:Nat) (a b:AV),x.cells[j]? =some a->y.cells[j]? =some b->∀(G:Gh) (v:Value),BE G a v->BE G b v
def Bo (xs ys:List AV):Prop:=xs.length=ys.length∧∀(j:Nat) (x y:AV),xs[j]? =some x->ys[j]? =some y->Wa x y
theorem Wa.refl (x:AV):Wa x x:=⟨rfl,λ_ _ r=>r,λj a b ha hb G v r=>by rw[ha]at hb;injection hb with hb;subst hb;exact r⟩
theorem Bo.nil:Bo [] []:=⟨rfl,λj x y h=>by simp at h⟩
theorem Bo.cons {x y:AV} {xs ys:List AV} (h:Wa x y) (k:Bo xs ys):Bo (x::xs) (y::ys):=by
 refine⟨by simp[k.1],λj a b ha hb=>?_⟩
 cases j with
 |zero=>simp at ha hb;subst ha hb;exact h
 |succ j=>simp at ha hb;exact k.2 j a b ha hb
theorem Bo.refl (xs:List AV):Bo xs xs:=⟨rfl,λj x y hx hy=>by rw[hx]at hy;injection hy with hy;subst hy;exact .refl _⟩
theorem Bo.map {α:Type} {f g:α->AV} (h:∀x,Wa (f x) (g x)) (l:List α):Bo (l.map f) (l.map g):=⟨by simp,λj x y hx hy=>by
 obtain⟨a,ha,rfl⟩:=Be hx
 obtain⟨b,hb,rfl⟩:=Be hy
 rw[ha]at hb;injection hb with hb;subst hb;exact h a⟩
theorem Bo.app {xs ys xs' ys':List AV} (h:Bo xs ys) (k:Bo xs' ys'):Bo (xs++xs') (ys++ys'):=by
 refine⟨by simp[h.1,k.1],λj x y hx hy=>?_⟩
 rw[List.getElem?_append]at hx hy
 rw[h.1]at hx
 split at hx
 ·rename_i hl;rw[if_pos hl]at hy;exact h.2 j x y hx hy
 ·rename_i hl;rw[if_neg hl]at hy;exact k.2 _ x y hx hy
theorem Qu {x y:AV} (hx:x.cells=[x]) (hy:y.cells=[y]) (h:∀(G:Gh) (v:Value),BE G x v->BE G y v):Wa x y:=by
 refine⟨by rw[hx,hy];rfl,h,λj a b ha hb G v r=>?_⟩
 rw[hx]at ha
 rw[hy]at hb
 cases j with
 |zero=>simp at ha hb;subst ha hb;exact h G v r
 |succ j=>simp at ha
theorem Wa.sl {t t':Gl} {k k':Nat} {xs ys:List AV} (ht:t'=.none∨t'=t) (hk:k=k'∨xs=[]) (hw:Bo xs ys):Wa (.sl t k xs) (.sl t' k' ys):=by
 obtain⟨hl,h⟩:=hw
 refine Qu rfl rfl λG v r=>?_
 cases r with
 | @sl _ _ _ A c b o vs hc hA hk1 h1 h2 h3 ht1=>
   have htag:HD G t' A ys.length c:=by
    rcases ht with rfl|rfl
    ·trivial
    ·rw[←hl];exact ht1
   have main:BE G (.sl t' k' ys) (.slice A ys.length c):=by
    rcases hk with rfl|rfl
    ·refine .sl (b:=b) (o:=o) vs (by rw[←hl];exact hc) (by rw[←hl];exact hA) (λi y hy=>?_) (by rw[←hl];exact h1) (by rw[←hl];exact h2) (λi j y z hy hz=>?_) htag
     ·have hi:i<xs.length:=by rw[hl];exact(List.getElem?_eq_some_iff.1 hy).1
      have hx:=List.getElem?_eq_getElem hi
      rw[←(h i _ y hx hy).len];exact hk1 i _ hx
     ·have hi:i<xs.length:=by rw[hl];exact(List.getElem?_eq_some_iff.1 hy).1
      have hx:=List.getElem?_eq_getElem hi
      have hw:=h i _ y hx hy
      have hj:j<xs[i].cells.length:=by rw[hw.len];exact(List.getElem?_eq_some_iff.1 hz).1
      have hu:=List.getElem?_eq_getElem hj
      exact hw.cel j _ z hu hz G _ (h3 i j _ _ hx hu)
    ·obtain rfl:ys=[]:=List.eq_nil_of_length_eq_zero (by rw[←hl];rfl)
     exact .sl (b:=b) (o:=o) vs (by simp) (by simp) (by simp) (by simp) (by simp) (by simp) htag
   rw[←hl]at main;exact main
theorem Wa.agg {xs ys:List AV} (hw:Bo xs ys):Wa (.agg xs) (.agg ys):=by
 obtain⟨hl,h⟩:=hw
 refine⟨hl,λG v r=>?_,λj a b ha hb G v r=>(h j a b ha hb).val G v r⟩
 cases r with
 | @agg _ vs h0 h2 h3=>
   refine .agg (by rw[←hl];exact h0) h2 λj y v hy hv=>?_
   have hj:j<xs.length:=by rw[hl];exact(List.getElem?_eq_some_iff.1 hy).1
   have hx:=List.getElem?_eq_getElem hj
   exact(h j _ y hx hy).val G v (h3 j _ v hx hv)
theorem Wa.tup {xs ys:List AV} (hw:Bo xs ys):Wa (.tup xs) (.tup ys):=by
 obtain⟨hl,h⟩:=hw
 refine Qu rfl rfl λG v r=>?_
 cases r with
 | @tup _ vs h0 h3=>
   refine .tup (by rw[←hl];exact h0) λj y v hy hv=>?_
   have hj:j<xs.length:=by rw[hl];exact(List.getElem?_eq_some_iff.1 hy).1
   have hx:=List.getElem?_eq_getElem hj
   exact(h j _ y hx hy).val G v (h3 j _ v hx hv)
theorem Wa.slN {t:Gl} {k:Nat} {xs ys:List AV} (h:Bo xs ys):Wa (.sl t k xs) (.sl .none k ys):=.sl (.inl rfl) (.inl rfl) h
theorem Wa.slS {t:Gl} {k:Nat} {xs ys:List AV} (h:Bo xs ys):Wa (.sl t k xs) (.sl t k ys):=.sl (.inr rfl) (.inl rfl) h
theorem Wa.none {t:Gl} {k:Nat} {xs:List AV}:Wa (.sl t k xs) (.sl .none k xs):=.slN (Bo.refl xs)
theorem Wa.slc {t:Gl} {k:Nat} {xs:List AV}:Wa (.sl t k xs) (.slc k xs):=Qu rfl rfl λG v r=>.slc ((Wa.none (t:=t)).val G v r)
theorem Wa.nil {t:Gl} {k k':Nat}:Wa (.sl t k []) (.sl .none k' []):=.sl (.inl rfl) (.inr rfl) Bo.nil
section
variable {P:Program} {f:FuncId} {args args':List AV} {S:List Ad} {m:Nat} {fn:Func} {tm:List AV}
theorem Wk.wa (t:Nat) {x y:AV} (ht:tm[t]? =some x) (h:Wa x y):Wk m tm S (tm.set t y) S:=λG0 S0 w0 G a w _ hz=>by
 have htl:=(List.getElem?_eq_some_iff.1 ht).1
 refine⟨G,hz.left,by simp[hz.size],λt' z u hx hu=>?_,hz.defers,hz.wd0⟩
 by_cases et:t'=t
 ·subst et
  simp[htl]at hx;subst hx
  exact h.val _ _ (hz.rep t' x u ht hu)
 ·rw[List.getElem?_set_ne (Ne.symm et)]at hx
  exact hz.rep t' z u hx hu
theorem AF.wa {S':List Ad} {r:AV} (t:Nat) {x y:AV} (ht:tm[t]? =some x) (h:Wa x y) (k:AF P m fn (tm.set t y) S r S'):AF P m fn tm S r S':=AF.wk (Wk.wa t ht h) k
theorem Wk.wao (i:Nat) {xs ys:List AV} (hi:S[i]? =some (.cells xs)) (h:Bo xs ys):Wk m tm S tm (S.set i (.cells ys)):=λG0 S0 w0 G a w _ hz=>by
 refine⟨G,hz.left.trans (Bf.reobj hz.left.wd hi h.1.symm λk y v hy hx=>?_),hz.size,hz.rep,hz.defers,hz.wd0⟩
 have hk:k<xs.length:=by rw[h.1];exact(List.getElem?_eq_some_iff.1 hy).1
 have he:=List.getElem?_eq_getElem hk
 exact(h.2 k _ y he hy).val _ _ (hx _ he)
theorem AF.wao {S':List Ad} {r:AV} (i:Nat) {xs ys:List AV} (hi:S[i]? =some (.cells xs)) (h:Bo xs ys) (k:AF P m fn tm (S.set i (.cells ys)) r S'):AF P m fn tm S r S':=AF.wk (Wk.wao i hi h) k
end
def HF:Code->Bool
 | .skip| .region _ _ _| .exit _| .ret=>true
 | .seq a b| .cond _ a b=>HF a&&HF b
 | .block _ c=>HF c
 |_=>false
theorem UW {P:Program} {m:Nat} (ro:Option Nat):∀(code:Code) (c:C),AU P code=some c->HF code=true->∀(tm:List AV) (S:List Ad) (Q:QT),aw P m c tm S Q->∀G0 S0 w0 G a w,S0.length=m->Cz G0 S0 w0 tm S G a w->
 code.wpIn (Fw ro) 0 P (λe a' w'=>∃tm' S' G',Cz G0 S0 w0 tm' S' G' a' w'∧Q e tm' S') a w:=by
 intro code
 induction code with
 |skip=>
  intro c hc _ tm S Q h G0 S0 w0 G a w hm hz
  simp only[AU]at hc;injection hc with hc;subst hc
  exact wpIn_skip ⟨_,_,G,hz,h⟩
 |region id ops draw=>
  intro c hc _ tm S Q h G0 S0 w0 G a w hm hz
  simp only[AU]at hc
  cases hr:F4 P ops draw with
  |none=>simp[hr]at hc
  |some p=>
   obtain⟨cs,u⟩:=p
   simp[hr]at hc;subst hc
   cases draw with
   |true=>exact SE (ro:=ro) hr hz h _ λtm' S' G' a' w' hz' hq=>⟨_,_,G',hz',hq⟩
   |false=>
    simp only[F4]at hr
    cases hcs:F5 P ops with
    |none=>simp[hcs]at hr
    |some cs'=>
     simp[hcs]at hr
     obtain⟨rfl,rfl⟩:=hr
     exact SC (ro:=ro) hcs hz h _ λtm' S' G' a' w' hz' hq=>⟨_,_,G',hz',hq⟩
 |seq a b iha ihb=>
  intro c hc hf tm S Q h G0 S0 w0 G act w hm hz
  simp only[HF,Bool.and_eq_true]at hf
  simp only[AU]at hc
  split at hc
  ·rename_i x y hx hy
   injection hc with hc;subst hc
   refine wpIn_seq (wpIn_mono (iha x hx hf.1 tm S _ h G0 S0 w0 G act w hm hz) λe a' w' hq=>?_)
   obtain⟨tm',S',G',hz',hq⟩:=hq
   cases e with
   |normal=>exact ihb y hy hf.2 tm' S' Q hq G0 S0 w0 G' a' w' hm hz'
   |_=>exact⟨tm',S',G',hz',hq⟩
  ·cases hc
 |cond x a b iha ihb=>
  intro c hc hf tm S Q h G0 S0 w0 G act w hm hz
  simp only[HF,Bool.and_eq_true]at hf
  simp only[AU]at hc
  split at hc
  ·rename_i x' y hx hy
   injection hc with hc;subst hc
   simp only[aw]at h
   split at h
   ·rename_i t ht
    have r:=hz.ev x
    rw[ht]at r
    refine wpIn_cond (MJ r) ?_
    cases t with
    |true=>exact iha x' hx hf.1 tm S Q (h.1 rfl) G0 S0 w0 G act w hm hz
    |false=>exact ihb y hy hf.2 tm S Q (h.2 rfl) G0 S0 w0 G act w hm hz
   ·exact h.elim
  ·cases hc
 |block id b ih=>
  intro c hc hf tm S Q h G0 S0 w0 G a w hm hz
  simp only[HF]at hf
  simp only[AU]at hc
  cases hb:AU P b with
  |none=>simp[hb]at hc
  |some x=>
   simp[hb]at hc;subst hc
   refine wpIn_block (wpIn_mono (ih x hb hf tm S _ h G0 S0 w0 G a w hm hz) λe a' w' hq=>?_)
   obtain⟨tm',S',G',hz',hq⟩:=hq
   cases e with
   |exit id'=>
    simp only[G8]at hq
    simp only[Exit.inBlock]
    split
    ·rename_i e;rw[if_pos e]at hq;exact⟨tm',S',G',hz',hq⟩
    ·rename_i e;rw[if_neg e]at hq;exact⟨tm',S',G',hz',hq⟩
   |_=>exact⟨tm',S',G',hz',hq⟩
 |exit id=>
  intro c hc _ tm S Q h G0 S0 w0 G a w hm hz
  simp only[AU]at hc;injection hc with hc;subst hc
  exact wpIn_exit ⟨_,_,G,hz,h⟩
 |ret=>
  intro c hc _ tm S Q h G0 S0 w0 G a w hm hz
  simp only[AU]at hc;injection hc with hc;subst hc
  exact wpIn_ret ⟨_,_,G,hz,h⟩
 |loop b _=>intro c _ hf;simp[HF]at hf
 |scope b _=>intro c _ hf;simp[HF]at hf
 |label l=>intro c _ hf;simp[HF]at hf
 |goto l=>intro c _ hf;simp[HF]at hf
 |rangeFunc f ps x y _ _=>intro c _ hf;simp[HF]at hf
 |refuse s=>intro c _ hf;simp[HF]at hf
def MH:C->Bool
 | .skip| .reg _ _| .exit _| .ret=>true
 | .seq a b| .cond _ a b=>MH a&&MH b
 | .block _ c=>MH c
 |_=>false
theorem Ad0 {P:Program}:∀(code:Code) (c:C),AU P code=some c->MH c=true->HF code=true:=by
 intro code
 induction code with
 |skip=>intro c _ _;rfl
 |region id ops draw=>intro c _ _;rfl
 |exit id=>intro c _ _;rfl
 |ret=>intro c _ _;rfl
 |seq a b iha ihb=>
  intro c hc hf
  simp only[AU]at hc
  split at hc
  ·rename_i x y hx hy
   injection hc with hc;subst hc
   simp only[MH,Bool.and_eq_true]at hf
   simp only[HF,Bool.and_eq_true]
   exact⟨iha x hx hf.1,ihb y hy hf.2⟩
  ·cases hc
 |cond o a b iha ihb=>
  intro c hc hf
  simp only[AU]at hc
  split at hc
  ·rename_i x y hx hy
   injection hc with hc;subst hc
   simp only[MH,Bool.and_eq_true]at hf
   simp only[HF,Bool.and_eq_true]
   exact⟨iha x hx hf.1,ihb y hy hf.2⟩
  ·cases hc
 |block id b ih=>
  intro c hc hf
  simp only[AU]at hc
  cases hb:AU P b with
  |none=>simp[hb]at hc
  |some x=>simp[hb]at hc;subst hc;exact ih x hb hf
 |loop b _=>
  intro c hc hf
  simp only[AU]at hc
  cases hb:AU P b with
  |none=>simp[hb]at hc
  |some x=>simp[hb]at hc;subst hc;simp[MH]at hf
 |scope b _=>
  intro c hc hf
  simp only[AU]at hc
  cases hb:AU P b with
  |none=>simp[hb]at hc
  |some x=>simp[hb]at hc;subst hc;simp[MH]at hf
 |label l=>intro c hc hf;simp only[AU]at hc;injection hc with hc;subst hc;simp[MH]at hf
 |goto l=>intro c hc hf;simp only[AU]at hc;injection hc with hc;subst hc;simp[MH]at hf
 |rangeFunc f ps a b _ _=>
  intro c hc hf
  simp only[AU]at hc
  split at hc
  ·injection hc with hc;subst hc;simp[MH]at hf
  ·cases hc
 |refuse s=>intro c hc hf;simp[AU]at hc
theorem Ajg {P:Program} {m:Nat} {g:Operand} {ps:List Nat} {a b:C} {tm tm':List AV} {S S':List Ad} {Q:QT} (hw:Wk m tm S tm' S') (h:Ajh P m g ps a b tm' S' Q):Ajh P m g ps a b tm S Q:=by
 intro ca cb h1 h2 G0 S0 w0 G act w hm hz
 obtain⟨G',hz'⟩:=hw G0 S0 w0 G act w hm hz
 exact h ca cb h1 h2 G0 S0 w0 G' act w hm hz'
def jmp:Exit->Option (Option Code)
 | .normal=>some none
 | .ret=>some (some .ret)
 | .exit id=>some (some (.exit id))
 | .goto l=>some (some (.goto l))
 |_=>none
def Atj (q:Nat) (r:LpR) (tm:List AV) (S':List Ad) (go:Bool):QT:=λe _ S2=>
 ∃j,jmp e=some j∧S2[q]? =some (.raw (.lp {r with state:=.busy}) tm)∧go=j.isNone∧S'=S2.set q (.raw (.lp {r with state:=if j.isNone then .ready else .done,pending:=j}) tm)
def Atk (P:Program) (m q:Nat) (r:LpR) (tm:List AV) (cB:C) (S':List Ad) (go:Bool):QT
 | .normal,tm1,S1=>S1[q]? =some (.raw (.lp r) tm)∧aw P m cB tm1 (S1.set q (.raw (.lp {r with state:=.busy}) tm)) (Atj q r tm S' go)
 |_,_,_=>False
theorem Lw {G:Gh}:∀(ps:List Nat) (args:List AV) (vs:List Value) (tm:List AV) (tv:Array Value),args.length=vs.length->Cn G args vs->tm.length=tv.size->(∀(t:Nat) (x:AV) (v:Value),tm[t]? =some x->tv[t]? =some v->BE G x v)->
 ((ps.zip args).foldl (λtm p=>tm.set p.1 p.2) tm).length=((ps.zip vs).foldl (λt p=>t.setIfInBounds p.1 p.2) tv).size∧
 ∀(t:Nat) (x:AV) (v:Value),((ps.zip args).foldl (λtm p=>tm.set p.1 p.2) tm)[t]? =some x->((ps.zip vs).foldl (λt p=>t.setIfInBounds p.1 p.2) tv)[t]? =some v->BE G x v
 |[],args,vs,tm,tv,_,_,h3,h4=>⟨by simpa using h3,by simpa using h4⟩
 |p::ps,[],[],tm,tv,_,_,h3,h4=>⟨by simpa using h3,by simpa using h4⟩
 |p::ps,x::args,v::vs,tm,tv,h1,h2,h3,h4=>by
  simp only[List.zip_cons_cons,List.foldl_cons]
  refine Lw ps args vs (tm.set p x) (tv.setIfInBounds p v) (by simpa using h1) ⟨by simpa using h1,λj y u hy hu=>h2.2 (j+1) y u (by simpa using hy) (by simpa using hu)⟩ (by simpa using h3) λt y u hy hu=>?_
  by_cases e:t=p
  ·subst e
   rw[List.getElem?_set]at hy
   rw[Array.getElem?_setIfInBounds]at hu
   simp only[if_true]at hy hu
   split at hy
   ·injection hy with hy;subst hy
    rw[if_pos (by omega)]at hu
    injection hu with hu;subst hu
    exact h2.2 0 x v (by simp) (by simp)
   ·cases hy
  ·rw[List.getElem?_set_ne (Ne.symm e)]at hy
   rw[Array.getElem?_setIfInBounds_ne (Ne.symm e)]at hu
   exact h4 t y u hy hu
theorem Cz.lp {G0:Gh} {S0:List Ad} {w0:World} {tm:List AV} {S:List Ad} {G:Gh} {a:Act} {w:World} (h:Cz G0 S0 w0 tm S G a w) {q b:Nat} {r r':LpR} {tl:List AV} {tv:List Value} (hq:S[q]? =some (.raw (.lp r) tl)) (hb:G.loc q=some b)
 (hh:w.heap[b]? =some ((E5.lp r).obj tv)) (hr:Cn G tl tv):Bf G S w G (S.set q (.raw (.lp r') tl)) (w.putObj b ((E5.lp r').obj tv))∧Cz G0 S0 w0 tm (S.set q (.raw (.lp r') tl)) G a (w.putObj b ((E5.lp r').obj tv)):=by
 have hl:Bf G S w G (S.set q (.raw (.lp r') tl)) (w.putObj b ((E5.lp r').obj tv)):=Bf.rawTo (o':=.lp r') h.left.wd hq hb (K6 _ hh) hr
 exact⟨hl,h.left.trans hl,h.size,h.rep,h.defers.left h.left.wd hl,h.wd0⟩
theorem YC.of {P:Program} {q:Nat} {args:List AV} {S S':List Ad} {go:Bool} {r:LpR} {tm:List AV} {cA cB:C} (hS:S[q]? =some (.raw (.lp r) tm)) (hst:r.state=.ready) (hn:args.length=r.params.size)
 (hA:AU P r.assign=some cA) (hB:AU P r.body=some cB) (fA:HF r.assign=true) (fB:HF r.body=true)
 (h:aw P S.length cA ((r.params.toList.zip args).foldl (λtm p=>tm.set p.1 p.2) tm) S (Atk P S.length q r tm cB S' go)):YC P q args S S' go:=by
 intro G w l vs hw hl hargs
 obtain⟨b,tv,h1,h2,h3⟩:=hw.raw q (.lp r) tm hS
 rw[hl]at h1;injection h1 with h1;subst h1
 have hsz:vs.size=r.params.size:=by rw[←hn];simpa using hargs.1.symm
 have hf:=Lw r.params.toList args vs.toList tm tv.toArray (by simpa using hargs.1) hargs (by simpa using h3.1) (λt x v hx hv=>h3.2 t x v hx (by simpa using hv))
 refine⟨_,_,_,_,run_yield h2 hsz,?_⟩
 have hfold:(r.params.zip vs).foldl (λtmps (t,a)=>tmps.setIfInBounds t a) tv.toArray=(r.params.toList.zip vs.toList).foldl (λt p=>t.setIfInBounds p.1 p.2) tv.toArray:=by
  rw[←Array.toList_zip,Array.foldl_toList]
 have hz:Cz G S w ((r.params.toList.zip args).foldl (λtm p=>tm.set p.1 p.2) tm) S G {tmps:=(r.params.zip vs).foldl (λtmps (t,a)=>tmps.setIfInBounds t a) tv.toArray,defers:=[]} w:=by
  refine⟨Bf.refl hw,?_,λt x v hx hv=>?_,IY.nil _ _,hw⟩
  ·show Array.size (Array.foldl _ _ _)=_
   rw[hfold];exact hf.1.symm
  ·refine hf.2 t x v hx ?_
   rw[←hfold];exact hv
 have hround:=UW (some l) r.assign cA hA fA _ S _ h G S w G _ w rfl hz
 refine roundIn_of_wpIn (F:=Fence.wide) trivial (wpIn_mono hround ?_)
 rintro e a1 w1 ⟨tm1,S1,G1,hz1,hq1⟩
 cases e with
 |normal=>
  obtain⟨hS1,hb1⟩:=hq1
  obtain⟨b',tv1,g1,g2,g3⟩:=hz1.left.wd.raw q (.lp r) tm hS1
  have e1:=hz1.left.le.loc q l hl
  rw[e1]at g1;injection g1 with g1;subst g1
  obtain⟨hl2,hz2⟩:=hz1.lp (r':={r with state:=.busy}) hS1 e1 g2 g3
  refine⟨_,run_beginRound g2 hst,wpIn_mono (UW (some l) r.body cB hB fB _ _ _ hb1 G S w G1 a1 _ rfl hz2) ?_⟩
  rintro e2 a2 w2 ⟨tm2,S2,G2,hz3,hq2⟩
  obtain⟨j,hj,hS2,rfl,rfl⟩:=hq2
  obtain⟨b',tv2,k1,k2,k3⟩:=hz3.left.wd.raw q _ tm hS2
  have e2':=hz3.left.le.loc q l hl
  rw[e2']at k1;injection k1 with k1;subst k1
  have hend:=run_endRound (P:=P) j k2
  obtain⟨hl4,hz4⟩:=hz3.lp (r':={r with state:=if j.isNone then .ready else .done,pending:=j}) hS2 e2' k2 k3
  cases e2<;>simp only[jmp,Option.some.injEq,reduceCtorEq]at hj
  all_goals(subst hj;exact⟨_,_,hend,G2,rfl,hz4.left⟩)
 |_=>exact hq1.elim
def jq (Q:QT) (tm:List AV) (S:List Ad):Option Code->Prop
 |none=>Q .normal tm S
 |some .ret=>Q .ret tm S
 |some (.exit id)=>Q (.exit id) tm S
 |some (.goto l)=>Q (.goto l) tm S
 |_=>False
theorem VT {P:Program} {m:Nat} {g:Operand} {ps:List Nat} {a b:C} {tm:List AV} {S:List Ad} {Q:QT} {gf:FuncId} {caps:List AV} (hg:ev tm g=.fn gf [] caps)
 (h:∀(fn:FuncId) (D:Nat) (ca cb:Code),AU P ca=some a->AU P cb=some b->∃rv S2 r2,An P gf (.yv S.length::caps) (S++[.raw (.lp ⟨.ready,none,fn,ps.toArray,ca,cb,D⟩) tm]) rv S2∧
   S2[S.length]? =some (.raw (.lp r2) tm)∧r2.state≠ .busy∧jq Q tm (S2.set S.length (.raw (.lp {r2 with state:=.exhausted}) tm)) r2.pending):Ajh P m g ps a b tm S Q:=by
 intro ca cb hca hcb G0 S0 w0 G act w hm hz
 refine wpIn_wide.1 (wpIn_rangeFunc (F:=Fence.wide) (n:=0) λfn _=>?_)
 obtain⟨rv,S2,⟨st,pe,f1,p1,a1,b1,d1⟩,hd,hS2,hst,hj⟩:=h fn w.heap.size ca cb hca hcb
 have rf:=hz.ev g
 rw[hg]at rf
 generalize ef:act.eval g=vf at rf
 cases rf with
 | @fn _ _ _ fv cv q1 q2 q3 q4=>
   have hfv:fv=#[]:=by
    have:fv.size=0:=by simpa using q1.symm
    exact Array.eq_empty_of_size_eq_zero this
   subst hfv
   have hm1:=DH.alloc w (.deferred (some []))
   have hl1:=Bf.more hz.left.wd hm1
   have hl2:=Bf.dead hl1.wd 1
   obtain⟨rec,hrec⟩:∃rec:LpR,rec=⟨.ready,none,fn,ps.toArray,ca,cb,w.heap.size⟩:=⟨_,rfl⟩
   have hrep0:Cn G tm act.tmps.toList:=⟨by simpa using hz.size.symm,λt x v hx hv=>hz.rep t x v hx (by simpa using hv)⟩
   have hm3:DH (w.alloc (.deferred (some []))) ((w.alloc (.deferred (some []))).alloc ((E5.lp rec).obj act.tmps.toList)) ((E5.lp rec).obj act.tmps.toList):=DH.alloc _ _
   have hl3:=Bf.rawNew (o:=.lp rec) (xs:=tm) (vs:=act.tmps.toList) (id:=S.length) hl2.wd (by simp) hrep0 hm3
   have hS3:(S++List.replicate 1 Ad.dead).set S.length (.raw (.lp rec) tm)=S++[.raw (.lp rec) tm]:=by simp
   rw[hS3]at hl3
   have hsz:(w.alloc (.deferred (some []))).heap.size=w.heap.size+1:=by simp
   rw[hsz]at hl3
   have hl13:=(hl1.trans hl2).trans hl3
   generalize hG3:G.newLoc S.length (w.heap.size+1)=G3 at hl3 hl13
   have hloc:G3.loc S.length=some (w.heap.size+1):=by rw[←hG3];simp[Gh.newLoc]
   have hcall:(Instr.enterLoop fn act.tmps ps.toArray ca cb none).run P w=.ok (w.heap.size+1,[{target:=.collected w.heap.size,args:=#[]}]) ((w.alloc (.deferred (some []))).alloc ((E5.lp rec).obj act.tmps.toList)):=by
    rw[run_enterLoop_outer,hrec];simp[E5.obj]
   generalize hw3:(w.alloc (.deferred (some []))).alloc ((E5.lp rec).obj act.tmps.toList)=w3 at hl3 hl13 hcall
   obtain⟨⟨fnn,hfn,hbody,hname⟩,hdoes⟩:=hd
   have hargs:Cn G3 (.yv S.length::caps) ((#[Value.func (.yield (w.heap.size+1)) #[] #[]]:Array Value)++cv).toList:=by
    rw[Array.toList_append]
    exact Cn.cons (.yv hloc) ⟨by simpa using q2,λj x v hx hv=>(q4 j x v hx (by simpa using hv)).mono hl13.le⟩
   refine⟨w.heap.size+1,[{target:=.collected w.heap.size,args:=#[]}],w3,{target:=.fn (.func gf) cv,args:=#[.func (.yield (w.heap.size+1)) #[] #[]]},w3,gf,#[.func (.yield (w.heap.size+1)) #[] #[]]++cv,w3,hcall,?_,λ_ _=>trivial,?_,λh0=>by simp[Fence.wide]at h0,?_⟩
   ·have hc:∀v:Value,act.eval (.const v)=v:=λ_=>rfl
    simp[resolve,ef,Deferred.ofValue,hc]
   ·have hname':¬fnn.name= "runtime.NumGoroutine":=by simpa using hname
    simp[invoke,callFunc,hfn,hname']
    cases hbd:fnn.body with
    |none=>simp[hbd]at hbody
    |some _=>simp
   ·subst hrec
    refine callsIn_wide.2 ((hdoes G3 w3 _ hl3.wd hargs).mono ?_)
    rintro e w4 ⟨v,G4,rfl,hv,hl4⟩
    have hloc4:=hl4.le.loc _ _ hloc
    obtain⟨b',tv4,k1,k2,k3⟩:=hl4.wd.raw S.length _ tm hS2
    rw[hloc4]at k1;injection k1 with k1;subst k1
    refine⟨pe,_,run_endLoop k2 hst,?_⟩
    have hD0:w3.heap[w.heap.size]? =some (.deferred (some [])):=by
     rw[←hw3]
     exact(Below.heap_alloc _ _ _ (by simp)).trans (World.alloc_heap_new w _)
    have hmk:IY w0 w3 ({target:=.collected w.heap.size,args:=#[]}::act.defers):=by
     obtain⟨Ds,g1,g2,g3⟩:=hz.defers.left hz.left.wd hl13
     obtain⟨Ds',g1',g2',g3'⟩:=hz.defers
     refine⟨w.heap.size::Ds,List.nodup_cons.2 ⟨λhmem=>?_,g1⟩,by rw[g2];rfl,λD hD=>?_⟩
     ·have:Ds=Ds':=by
       have:=g2.symm.trans g2'
       exact(List.map_inj_right (λx y hxy=>by injection hxy with hxy;injection hxy)).1 this
      rw[this]at hmem
      have:=(Array.getElem?_eq_some_iff.1 (g3' _ hmem).2).1
      omega
     ·rcases List.mem_cons.1 hD with rfl|hD
      ·exact⟨hz.left.kept.size,hD0⟩
      ·exact g3 D hD
    have hcz:Cz G0 S0 w0 tm S2 G4 {act with defers:={target:=.collected w.heap.size,args:=#[]}::act.defers} w4:=
     ⟨(hz.left.trans hl13).trans hl4,hz.size,λt x v hx hv=>((hz.rep t x v hx hv).mono hl13.le).mono hl4.le,hmk.left hl3.wd hl4,hz.wd0⟩
    obtain⟨_,hcz'⟩:=hcz.lp (r':=⟨.exhausted,pe,f1,p1,a1,b1,d1⟩) hS2 hloc4 k2 k3
    cases pe with
    |none=>exact⟨_,_,G4,hcz',hj⟩
    |some c=>
     cases c with
     |ret=>exact wpIn_ret ⟨_,_,G4,hcz',hj⟩
     |exit id=>exact wpIn_exit ⟨_,_,G4,hcz',hj⟩
     |goto l=>exact wpIn_goto ⟨_,_,G4,hcz',hj⟩
     |_=>exact hj.elim
theorem b3:Is Tryz.prog Tryz.f3 (zq [zV (.bool .false) 4] (.seq (zq [zM 0 19,zU 19 20,zI .gtr 20 1500 21,zM 21 22,zZ 22 (zM 0 23),zZ 22 (zC 6 [23] 24),zO 22 24 25] (zc 25 (zq [zC 7 [] 26,zM 26 4] .ret))) (zq [zM 0 28,zM 1 29,zC 8 [28,29] 30,zM 30 27,zE 27 0 31,zE 27 1 32,zX [zn,zn] 5,zX [zi,zi] 6,zS 2 5 31,zS 2 6 32] (zq [zM 0 34,zC 9 [34] 35,zM 35 33,zE 33 0 36,zE 33 1 37,zX [zu,zn] 7,zX [zi,zi] 8,zS 2 7 36,zS 2 8 37] (.seq (zq [zF 0 8 38,zL 38 39,zI .eql 39 0 40] (zc 40 (zq [zN 2 7 42,zM 1 43,zC 10 [42,43] 44,zM 44 41,zE 41 0 45,zE 41 1 46,zM 45 9,zM 46 10] (.seq (zq [zM 9 47,zI .lss 47 0 48] (zc 48 (zq [zN 2 6 49,zD [zi,zi] [(0,(1,zk 16))] 50,zW (.eqa .false 2 (.tmp 49) (.tmp 50)) 51,zM 51 52,zT 52 (zC 7 [] 53),zA 52 53 54,zM 54 4] .ret))) (.seq (.reg [zF 0 6 55,zL 55 56,zI .eql 56 0 57,zM 57 58,zT 58 (zN 2 5 59),zT 58 (zF 1 7 60),zT 58 (zL 60 61),zT 58 (zM 9 62),zT 58 (zJ 3 61 62 63),zT 58 (zF 2 63 64),zT 58 (zL 64 65),zT 58 (zM 10 66),zT 58 (zJ 2 65 66 67),zT 58 (zN 2 67 68),zT 58 (zC 11 [59,68] 69),zA 58 69 70,zM 70 71,zT 71 (zC 7 [] 72),zA 71 72 73,zM 73 4] [(4,6),(4,10),(4,13)]) .ret))))) (.seq (zq [zF 0 6 74,zL 74 75,zI .neq 75 0 76] (zc 76 (zq [zN 2 5 77,zD [zn,zn] [] 78,zC 11 [77,78] 79,zM 79 80,zT 80 (zC 7 [] 81),zA 80 81 82,zM 82 4] .ret))) (zq [zM 0 84,zC 12 [84] 85,zM 85 83,zE 83 0 86,zE 83 1 87,zX [zi,zi] 12,zM 86 11,zS 2 12 87] (.seq (zq [zF 0 12 88,zL 88 89,zI .neq 89 0 90] (zc 90 (zq [zV (.bool .false) 4] .ret))) (.seq (zq [zV zi 13] (.block 0 (.loop (.seq (zq [zM 13 91,zM 11 92,zU 92 93,zB .lss 91 93 94] (.cond (.tmp 94) .skip (.exit 0))) (.seq (.block 1 (.seq (.seq (.reg [zM 1 97,zM 11 98,zM 13 99,zJ 3 98 99 100,zF 0 100 101,zL 101 102,zB .lss 97 102 103,zM 103 104,zZ 104 (zM 1 105),zZ 104 (zM 11 106),zZ 104 (zM 13 107),zZ 104 (zJ 3 106 107 108),zZ 104 (zF 0 108 109),zZ 104 (zL 109 110),zZ 104 (zM 11 111),zZ 104 (zM 13 112),zZ 104 (zJ 3 111 112 113),zZ 104 (zF 1 113 114),zZ 104 (zL 114 115),(.some (104,.false),(.cvt .u64 (.tmp 115),.some 116)),zZ 104 (zB .add 110 116 117),zZ 104 (zB .geq 105 117 118),zO 104 118 119] [(13,18)]) (zc 119 (.exit 1))) (zq [zM 0 121,zM 11 122,zM 13 123,zJ 3 122 123 124,zF 2 124 125,zL 125 126,zM 0 127,zU 127 128,zW (.mx .false (.tmp 126) (.tmp 128)) 129,zW (.slice 1 (.tmp 121) (.some (.tmp 129)) none none) 130,zR 13 [.tmp 130,zk 2097152] 131,zM 131 120,zE 120 0 132,zE 120 1 133,zE 120 2 134,zX [zi,zi] 16,zM 132 14,zM 133 15,zS 2 16 134] (.seq (zq [zF 0 16 135,zL 135 136,zI .neq 136 0 137,zM 137 138,zZ 138 (zM 14 139),zZ 138 (zU 139 140),zZ 138 (zI .lss 140 1 141),zO 138 141 142,zM 142 143,zZ 143 (zM 14 144),(.some (143,.false),(.iadr 1 (.tmp 144) (zk 0),.some 145)),zZ 143 (zL 145 146),(.some (143,.false),(.bin .neq (.tmp 146) (.const (.int .u8 1)),.some 147)),zO 143 147 148] (zc 148 (zq [zV (.bool .false) 4] .ret))) (zq [zM 14 150,zW (.slice 1 (.tmp 150) (.some (zk 1)) none none) 151,zC 14 [151] 152,zM 152 149,zE 149 0 153,zE 149 1 154,zX [zu,zu,zn] 17,zX [zi,zi] 18,zS 3 17 153,zS 2 18 154] (.seq (.reg [zF 0 18 155,zL 155 156,zI .eql 156 0 157,zM 157 158,zT 158 (zF 1 17 159),zT 158 (zL 159 160),zT 158 (zM 11 161),zT 158 (zM 13 162),zT 158 (zJ 3 161 162 163),zT 158 (zF 0 163 164),zT 158 (zL 164 165),zT 158 (zB .eql 160 165 166),zA 158 166 167,zM 167 168,zT 168 (zF 2 17 169),zT 168 (zL 169 170),zT 168 (zU 170 171),zT 168 (zM 11 172),zT 168 (zM 13 173),zT 168 (zJ 3 172 173 174),zT 168 (zF 1 174 175),zT 168 (zL 175 176),zT 168 (zB .eql 171 176 177),zA 168 177 178,zM 178 179,zT 179 (zN 2 5 180),zT 179 (zF 2 17 181),zT 179 (zL 181 182),zT 179 (zM 1 183),zT 179 (zF 1 17 184),zT 179 (zL 184 185),zT 179 (zB .sub 183 185 186),zT 179 (zJ 2 182 186 187),zT 179 (zN 2 187 188),zT 179 (zC 11 [180,188] 189),zA 179 189 190,zM 190 191,zT 191 (zC 7 [] 192),zA 191 192 193,zM 193 4] [(5,10),(15,21),(25,27),(25,30),(27,30),(25,33)]) .ret)))))) (.reg [zM 13 95,zI .add 95 1 96,zM 96 13] [])))))) (zq [zV (.bool .false) 4] .ret)))))))))) [.tmp 4] 194:=ki
theorem b10:Is Tryz.prog Tryz.f10 (zq [zY 0 2,zV zi 4,zV zi 5] (.seq (zq [zV zi 6] (.block 0 (.loop (.seq (zq [zM 6 8,zF 1 2 9,zL 9 10,zU 10 11,zB .lss 8 11 12] (.cond (.tmp 12) .skip (.exit 0))) (.seq (.block 1 (zq [zV zi 7] (.block 2 (.loop (.seq (zq [zM 7 15,zF 1 2 16,zL 16 17,zM 6 18,zJ 3 17 18 19,zF 2 19 20,zL 20 21,zU 21 22,zB .lss 15 22 23] (.cond (.tmp 23) .skip (.exit 2))) (.seq (.block 3 (zq [zF 1 2 26,zL 26 27,zM 6 28,zJ 3 27 28 29,zF 1 29 30,zL 30 31,zM 7 32,zK .u64 32 33,zB .add 31 33 34,zM 1 35,zB .eql 34 35 36] (zc 36 (zq [zM 6 37,zM 7 38,zM 37 4,zM 38 5] .ret)))) (.reg [zM 7 24,zI .add 24 1 25,zM 25 7] []))))))) (.reg [zM 6 13,zI .add 13 1 14,zM 14 6] [])))))) (zq [zV (.int .i64 (-1)) 4,zV (.int .i64 (-1)) 5] .ret))) [.tmp 4,.tmp 5] 39:=ki
theorem b11:Is Tryz.prog Tryz.f11 (zq [zY 0 2,zY 1 3,zV (.bool .false) 4] (zq [zF 0 2 5,zL 5 6,zF 0 3 7,zL 7 8,zC 39 [6,8] 9,zM 9 10,zT 10 (zF 1 2 11),zT 10 (zL 11 12),zT 10 (zF 1 3 13),zT 10 (zL 13 14),zT 10 (zC 40 [12,14] 15),zA 10 15 16,zM 16 4] .ret)) [.tmp 4] 17:=ki
theorem b14:Is Tryz.prog Tryz.f14 (zq [zX [zu,zu,zn] 2,zX [zi,zi] 3] (zq [zM 0 7,zC 41 [7] 8,zM 8 4] (zq [zM 4 9,zC 38 [9] 10,zX [zu,zu,zn] 5,zS 3 5 10] (zq [zM 4 11,zC 45 [11] 12] (.seq (zq [zM 4 13,zC 43 [13] 14,zX [zi,zi] 6,zS 2 6 14] (zq [zN 2 6 15,zC 31 [15] 16,zQ 16 17] (zc 17 (.seq (.reg [zD [zu,zu,zn] [] 18,zN 2 6 19,zS 3 2 18,zS 2 3 19] [(1,2)]) .ret)))) (zq [zN 3 5 20,zD [zi,zi] [] 21,zS 3 2 20,zS 2 3 21] .ret)))))) [.cell 2 (.some 3),.cell 3 (.some 2)] 22:=ki
theorem b24:Is Tryz.prog Tryz.f24 (zq [zV (.bool .false) 2] (.seq (zq [zV zi 3] (.block 0 (.loop (.seq (zq [zM 3 7,zM 0 8,zU 8 9,zB .lss 7 9 10,zM 10 11,zT 11 (zM 3 12),zT 11 (zI .lss 12 40 13),zA 11 13 14] (.cond (.tmp 14) .skip (.exit 0))) (.seq (.block 1 (zq [zM 3 17,zM 17 4] (.block 2 (.loop (.seq (zq [zM 4 18,zM 0 19,zU 19 20,zB .lss 18 20 21] (.cond (.tmp 21) .skip (.exit 2))) (.block 3 (zq [zM 0 23,zM 4 24,zW (.slice 1 (.tmp 23) (.some (.tmp 24)) none none) 25,zD [zn,zi,zi,zi] [(0,(1,.tmp 25))] 26,zR 59 [.tmp 26,zk 1500] 27,zM 27 22,zE 22 0 28,zE 22 1 29,zX [zn,zi,zi,zi] 5,zS 4 5 28,zM 29 6] (.seq (zq [zF 2 5 30,zF 0 30 31,zL 31 32,zI .neq 32 0 33] (zc 33 (.exit 2))) (.seq (zq [zM 6 34,zU 34 35,zI .gtr 35 1 36,zM 36 37,zT 37 (zM 6 38),(.some (37,.true),(.iadr 1 (.tmp 38) (zk 0),.some 39)),zT 37 (zL 39 40),(.some (37,.true),(.bin .eql (.tmp 40) (.const (.int .u8 1)),.some 41)),zA 37 41 42,zM 42 43,zT 43 (zM 6 44),(.some (43,.true),(.slice 1 (.tmp 44) (.some (zk 1)) none none,.some 45)),zT 43 (zC 60 [45] 46),zA 43 46 47] (zc 47 (zq [zV (.bool .true) 2] .ret))) (.reg [zM 4 48,zF 1 5 49,zL 49 50,zB .add 48 50 51,zM 51 4] [])))))))))) (.reg [zM 3 15,zI .add 15 1 16,zM 16 3] [])))))) (zq [zV (.bool .false) 2] .ret))) [.tmp 2] 52:=ki
theorem b43:Is Tryz.prog Tryz.f43 (zq [zX [zi,zi] 2] (.seq (zq [zM 0 3,zW (.eqp .false (.tmp 3) (.const (.pointer none))) 4] (zc 4 (zq [zR 33 [zk 19,zk 0] 5,zS 2 2 5] .ret))) (zq [zM 0 6,zH 6 7,zF 2 7 8,zN 2 8 9,zS 2 2 9] .ret))) [.cell 2 (.some 2)] 10:=ki
theorem b44:Is Tryz.prog Tryz.f44 (zq [zV zi 2] (.seq (zq [zM 0 3,zW (.eqp .false (.tmp 3) (.const (.pointer none))) 4] (zc 4 (zq [zV zi 2] .ret))) (zq [zM 0 5,zH 5 6,zF 1 6 7,zL 7 8,zM 8 2] .ret))) [.tmp 2] 9:=ki
theorem b45:Is Tryz.prog Tryz.f45 (zq [zM 0 2,zC 93 [2] 3,zI .gtr 3 0 4] (zc 4 (.reg [zM 0 5,zM 0 6,zH 6 7,zF 1 7 8,zL 8 9,zR 81 [.tmp 5,zk 9,.tmp 9] 10] []))) [] 11:=ki
theorem b51:Is Tryz.prog Tryz.f51 (zq [zV zn 2] (zq [zV zn 3] (.seq (zq [zM 0 6,zU 6 7,zV zi 8] (.block 0 (.loop (zq [zB .lss 8 7 9] (.seq (.cond (.tmp 9) .skip (.exit 0)) (.seq (.block 1 (zq [zJ 2 6 8 10,zN 2 10 11,zX [zu,zn] 5,zS 2 5 11] (.reg [zM 3 12,zN 2 5 13,zC 105 [13] 14,zW (.bsl 2 [.tmp 14]) 15,zP 2 32 12 15 16,zM 16 3] []))) (.reg [zI .add 8 1 17,zM 17 8] []))))))) (zq [zM 3 18,zM 18 2] .ret)))) [.tmp 2] 19:=ki
theorem b54:Is Tryz.prog Tryz.f54 (zq [zV (.bool .false) 2,zX [zi,zi] 3] (zq [zM 0 8,zH 8 9,zF 1 9 10,zL 10 11,zC 113 [11] 12,zM 12 7,zE 7 0 13,zE 7 1 14,zE 7 2 15,zX [zi,zu,zu] 4,zX [zi,zi] 6,zS 3 4 13,zM 14 5,zS 2 6 15] (.seq (.block 0 (zq [zF 0 6 17,zL 17 18,zI .eql 18 1 19,zM 19 16] (.cond (.tmp 16) (zq [zD [zi,zi] [] 20,zV (.bool .false) 2,zS 2 3 20] .ret) (zq [zN 2 6 22,zC 31 [22] 23,zQ 23 24,zM 24 21] (.cond (.tmp 21) (zq [zN 2 6 25,zV (.bool .false) 2,zS 2 3 25] .ret) (zq [zF 0 4 27,zL 27 28,zI .neq 28 3 29,zM 29 26] (zc 26 (zq [zR 33 [zk 8,zk 4] 30,zV (.bool .false) 2,zS 2 3 30] .ret)))))))) (zq [zM 0 31,zM 0 32,zF 1 4 33,zL 33 34,zH 31 35,zF 5 35 36,zS 1 36 34,zH 32 37,zF 0 37 38,(none,(.store 1 (.tmp 38) (.func 114),none))] (zq [zD [zi,zi] [] 39,zV (.bool .true) 2,zS 2 3 39] .ret))))) [.tmp 2,.cell 3 (.some 2)] 40:=ki
theorem b59:Is Tryz.prog Tryz.f59 (zq [zY 0 2,zX [zn,zi,zi,zi] 4,zV zn 5] (.seq (zq [zM 1 10,zI .gtr 10 2097152 11] (zc 11 (.reg [zV (.int .i64 2097152) 1] []))) (zq [zN 4 2 13,zM 1 14,zC 116 [13,14] 15,zM 15 12,zE 12 0 16,zE 12 1 17,zX [zn,zi,zi,zi] 6,zS 4 6 16,zM 17 7] (zq [zN 4 6 19,zR 117 [.tmp 19,zk 4] 20,zM 20 18,zE 18 0 21,zE 18 1 22,zX [zn,zi,zi,zi] 8,zS 4 8 21,zM 22 9] (.seq (zq [zF 2 8 23,zF 0 23 24,zL 24 25,zI .eql 25 0 26,zM 26 27,zT 27 (zM 9 28),zT 27 (zM 7 29),zT 27 (zC 118 [29] 30),(.some (27,.true),(.cvt .u64 (.tmp 30),.some 31)),zT 27 (zB .neq 28 31 32),zA 27 32 33] (zc 33 (.reg [zN 4 8 34,zF 1 6 35,zL 35 36,zR 119 [.tmp 34,zk 6,.tmp 36] 37,zS 4 8 37] []))) (.seq (zq [zF 2 8 38,zF 0 38 39,zL 39 40,zI .neq 40 0 41] (zc 41 (zq [zN 4 8 42,zS 4 4 42,zV zn 5] .ret))) (zq [zN 4 8 43,zM 7 44,zS 4 4 43,zM 44 5] .ret))))))) [.cell 4 (.some 4),.tmp 5] 45:=ki
theorem b71:Is Tryz.prog Tryz.f71 (zq [zV zn 2] (zq [zV zn 3] (zq [zV zu 4] (zq [zV zi 5] (.seq (zq [zM 0 10,zR 134 [.tmp 10,zk 16] 11,zV zi 12] (.block 0 (.loop (zq [zB .lss 12 11 13] (.seq (.cond (.tmp 13) .skip (.exit 0)) (.seq (.block 1 (zq [zM 0 14,zC 44 [14] 15,zM 15 6] (zq [zM 0 16,zC 147 [16] 17,zM 17 7] (zq [zM 0 18,zR 134 [.tmp 18,zk 16] 19,zM 19 8] (zq [zM 4 20,zM 7 21,zB .add 20 21 22,zM 8 23,zM 5 24,zI .add 24 1 25,zM 0 26,zR 134 [.tmp 26,zk 1099511627775] 27,zB .add 25 27 28,zD [zu,zi,zi] [(0,(1,.tmp 22)),(1,(1,.tmp 23)),(2,(1,.tmp 28))] 29,zX [zu,zi,zi] 9,zS 3 9 29] (.seq (zq [zM 7 30,zW (.bin .geq (.tmp 30) (.const (.int .u64 4611686018427387904))) 31,zM 31 32,zZ 32 (zN 3 9 33),zZ 32 (zM 4 34),zZ 32 (zM 5 35),zZ 32 (zC 148 [33,34,35] 36),(.some (32,.false),(.un .not (.tmp 36),.some 37)),zO 32 37 38] (zc 38 (.reg [zM 0 39,zM 6 40,zR 81 [.tmp 39,zk 3,.tmp 40] 41] []))) (.seq (zq [zM 0 42,zC 83 [42] 43,zQ 43 44] (zc 44 (zq [zV zn 2] .ret))) (zq [zM 3 45,zN 3 9 46,zW (.bsl 3 [.tmp 46]) 47,zP 3 24 45 47 48,zM 48 3] (.reg [zN 3 9 49,zC 75 [49] 50,zF 2 9 51,zL 51 52,zM 50 4,zM 52 5] [(0,3),(1,3)]))))))))) (.reg [zI .add 12 1 53,zM 53 12] []))))))) (zq [zM 3 54,zM 54 2] .ret)))))) [.tmp 2] 55:=ki
theorem b72:Is Tryz.prog Tryz.f72 (zq [zY 0 2,zV (.bool .false) 4] (zq [zM 1 8,zC 149 [8] 9,zM 9 7,zE 7 0 10,zE 7 1 11,zM 10 5,zM 11 6] (.seq (.reg [zF 1 2 12,zL 12 13,zM 1 14,zU 14 15,zB .eql 13 15 16,zM 16 17,zT 17 (zF 2 2 18),zT 17 (zL 18 19),zT 17 (zM 1 20),zT 17 (zC 150 [20] 21),zT 17 (zB .eql 19 21 22),zA 17 22 23,zM 23 24,zT 24 (zF 3 2 25),zT 24 (zL 25 26),zT 24 (zM 5 27),zT 24 (zB .eql 26 27 28),zA 24 28 29,zM 29 30,zT 30 (zF 4 2 31),zT 30 (zL 31 32),zT 30 (zM 6 33),zT 30 (zB .eql 32 33 34),zA 30 34 35,zM 35 4] [(7,9)]) .ret))) [.tmp 4] 36:=ki
theorem b73:Is Tryz.prog Tryz.f73 (zq [zY 0 2,zX [zi,zi] 4] (zq [zF 0 2 5,zL 5 6,zF 1 2 7,zL 7 8,zM 1 9,zB .add 8 9 10,zC 33 [6,10] 11,zS 2 4 11] .ret)) [.cell 4 (.some 2)] 12:=ki
theorem b83:Is Tryz.prog Tryz.f83 (zq [zV (.bool .false) 2] (zq [zM 0 3,zW (.eqp .true (.tmp 3) (.const (.pointer none))) 4,zM 4 5,zT 5 (zM 0 6),(.some (5,.true),(.nilc (.tmp 6),.some 7)),zT 5 (zF 2 7 8),zT 5 (zN 2 8 9),zT 5 (zC 31 [9] 10),zA 5 10 11,zM 11 2] .ret)) [.tmp 2] 12:=ki
theorem b90:Is Tryz.prog Tryz.f90 (zq [zV zi 2] (zq [zM 0 3,zW (.mx .false (.tmp 3) (zk 2097152)) 4,zM 4 2] .ret)) [.tmp 2] 5:=ki
theorem b92:Is Tryz.prog Tryz.f92 (zq [zM 0 8,zC 129 [8] 9,zK .u64 9 10,zM 1 11,zB .neq 10 11 12] (zc 12 (.reg [zM 2 13,zM 3 14,zW (.call (.tmp 13) [zk 6,.tmp 14]) 15] []))) [] 16:=ki
theorem Ahm:Is Tryz.prog Tryz.f106 (zq [zY 0 2,zY 1 3,zV (.bool .false) 4] (.seq (zq [zF 0 3 6,zL 6 7,zF 0 2 8,zL 8 9,zB .gtr 7 9 10] (zc 10 (zq [zV (.bool .false) 4] .ret))) (zq [zF 1 2 11,zL 11 12,zU 12 13,zM 13 5] (.seq (.reg [zM 5 14,zI .eql 14 0 15,zM 15 16,zZ 16 (zF 0 3 17),zZ 16 (zL 17 18),zZ 16 (zF 1 2 19),zZ 16 (zL 19 20),zZ 16 (zM 5 21),zZ 16 (zI .sub 21 1 22),zZ 16 (zJ 3 20 22 23),zZ 16 (zF 0 23 24),zZ 16 (zL 24 25),zZ 16 (zB .geq 18 25 26),zZ 16 (zM 26 27),zT 27 (zF 1 3 28),zT 27 (zL 28 29),zT 27 (zF 1 2 30),zT 27 (zL 30 31),zT 27 (zM 5 32),zT 27 (zI .sub 32 1 33),zT 27 (zJ 3 31 33 34),zT 27 (zN 3 34 35),zT 27 (zC 78 [35] 36),zT 27 (zB .geq 29 36 37),(.some (16,.false),(.pick (.tmp 27) (.tmp 37) (.const (.bool .false)),.some 38)),zO 16 38 39,zM 39 4] [(4,6),(4,11),(15,17),(15,21),(15,22)]) .ret)))) [.tmp 4] 40:=ki
theorem Atc:Is Tryz.prog Tryz.f109 (zq [zV zn 4] (zq [zM 0 8,zW (.bsl 1 [.tmp 8]) 9,zM 1 10,zP 1 1 9 10 11,zC 179 [11] 12,zM 12 7,zE 7 0 13,zE 7 1 14,zM 13 5,zM 14 6] (zq [zM 5 15,zM 15 4] .ret))) [.tmp 4] 16:=ki
theorem Al8:Is Tryz.prog Tryz.f112 (zq [zY 0 1,zV zn 2,zV zi 3] (zq [zN 7 1 8,zC 181 [8] 9,zM 9 7,zE 7 0 10,zE 7 1 11,zM 10 4,zM 11 5] (.seq (zq [zM 5 12,zI .neq 12 0 13] (zc 13 (zq [zM 5 14,zV zn 2,zM 14 3] .ret))) (zq [zM 4 16,zC 179 [16] 17,zM 17 15,zE 15 0 18,zE 15 1 19,zM 18 6,zM 19 5] (zq [zM 6 20,zM 6 21,zU 21 22,zC 161 [22] 23,zP 1 1 20 23 24,zM 5 25,zM 24 2,zM 25 3] .ret))))) [.tmp 2,.tmp 3] 26:=ki
theorem As8:Is Tryz.prog Tryz.f117 (zq [zY 0 2,zX [zn,zi,zi,zi] 4,zV zu 5] (zq [zN 4 2 11,zM 1 12,zW (.mx .true (.tmp 12) (zk 0)) 13,zW (.mx .false (.tmp 13) (zk 8)) 14,zC 187 [11,14] 15,zM 15 10,zE 10 0 16,zE 10 1 17,zX [zn,zi,zi,zi] 6,zS 4 6 16,zM 17 7] (zq [zV zu 8] (.seq (zq [zM 7 18,zU 18 19,zI .sub 19 1 20,zM 20 9] (.block 0 (.loop (.seq (zq [zM 9 21,zI .geq 21 0 22] (.cond (.tmp 22) .skip (.exit 0))) (.seq (.block 1 (.reg [zM 8 25,zW (.bin .mul (.const (.int .u64 256)) (.tmp 25)) 26,zM 7 27,zM 9 28,zJ 1 27 28 29,zL 29 30,zK .u64 30 31,zB .add 26 31 32,zM 32 8] [])) (.reg [zM 9 23,zI .sub 23 1 24,zM 24 9] [])))))) (zq [zN 4 6 33,zM 8 34,zS 4 4 33,zM 34 5] .ret))))) [.cell 4 (.some 4),.tmp 5] 35:=ki
theorem Apq:Is Tryz.prog Tryz.f119 (zq [zY 0 3,zX [zn,zi,zi,zi] 6] (.seq (zq [zF 2 3 7,zF 0 7 8,zL 8 9,zI .eql 9 0 10] (zc 10 (.reg [zM 1 11,zM 2 12,zC 189 [11,12] 13,zF 2 3 14,zS 2 14 13] []))) (zq [zN 4 3 15,zS 4 6 15] .ret))) [.cell 6 (.some 4)] 16:=ki
theorem XI:Is Tryz.prog Tryz.f121 (zq [zV zn 4,zV (.bool .false) 5] (zq [zM 0 12,zC 44 [12] 13,zM 13 6] (zq [zM 0 14,zM 1 15,zW (.mx .false (.tmp 15) (zk 1048576)) 16,zC 134 [14,16] 17,zM 17 7] (zq [zM 0 18,zC 146 [18] 19,zM 19 8] (zq [zV zn 9] (.seq (.block 0 (zq [zM 0 26,zC 83 [26] 27,zQ 27 28,zM 28 25] (.cond (.tmp 25) (zq [zV zn 4,zV (.bool .false) 5] .ret) (zq [zM 8 30,zW (.bin .eql (.tmp 30) (.const (.int .u8 0))) 31,zM 31 29] (.cond (.tmp 29) (.reg [zM 0 32,zM 7 33,zC 159 [32,33] 34,zM 34 9] []) (zq [zM 8 36,zW (.bin .eql (.tmp 36) (.const (.int .u8 1))) 37,zM 37 35] (.cond (.tmp 35) (.reg [zM 0 38,zM 7 39,zC 190 [38,39] 40,zM 40 9] []) (.reg [zM 0 20,zM 0 21,zC 44 [21] 22,zI .sub 22 1 23,zR 81 [.tmp 20,zk 7,.tmp 23] 24] [])))))))) (.seq (zq [zM 0 41,zC 83 [41] 42,zQ 42 43] (zc 43 (zq [zV zn 4,zV (.bool .false) 5] .ret))) (zq [zM 9 45,zC 191 [45] 46,zM 46 44,zE 44 0 47,zE 44 1 48,zM 47 10,zM 48 11] (zq [zM 9 49,zM 10 50,zM 0 51,zM 6 52,zC 128 [51,52] 53,zC 160 [50,53] 54,zM 49 4,zM 54 5] .ret))))))))) [.tmp 4,.tmp 5] 55:=ki
theorem As6:Is Tryz.prog Tryz.f128 (zq [zV zn 4] (.seq (zq [zM 0 5,zW (.eqp .false (.tmp 5) (.const (.pointer none))) 6,zM 6 7,zZ 7 (zM 1 8),zZ 7 (zI .lss 8 0 9),zO 7 9 10,zM 10 11,zZ 11 (zM 1 12),zZ 11 (zM 0 13),(.some (11,.false),(.nilc (.tmp 13),.some 14)),zZ 11 (zF 1 14 15),zZ 11 (zL 15 16),zZ 11 (zB .gtr 12 16 17),zO 11 17 18] (zc 18 (zq [zV zn 4] .ret))) (.seq (.reg [zW (.bsl 1 []) 19,zM 0 20,zH 20 21,zF 0 21 22,zL 22 23,zM 1 24,zM 0 25,zH 25 26,zF 1 26 27,zL 27 28,zW (.slice 1 (.tmp 23) (.some (.tmp 24)) (.some (.tmp 28)) none) 29,zP 1 1 19 29 30,zM 30 4] [(4,9)]) .ret))) [.tmp 4] 31:=ki
theorem RD:Is Tryz.prog Tryz.f145 (zq [zX [zu,zi,zi,zu,zu,zi,zi] 2,zX [zi,zi] 3] (zq [zM 0 7,zC 41 [7] 8,zM 8 4] (.seq (zq [zM 4 9,zC 146 [9] 10,zW (.bin .neq (.tmp 10) (.const (.int .u8 3))) 11] (zc 11 (.reg [zM 4 12,zR 81 [.tmp 12,zk 7,zk 0] 13] []))) (zq [zM 4 14,zC 151 [14] 15,zD [zu,zi,zi,zu,zu,zi,zi] [(0,(1,.tmp 15))] 16,zX [zu,zi,zi,zu,zu,zi,zi] 5,zS 7 5 16] (zq [zM 4 17,zR 134 [.tmp 17,zk 65536] 18,zM 4 19,zR 134 [.tmp 19,zk 65536] 20,zF 1 5 21,zS 1 21 18,zF 2 5 22,zS 1 22 20] (zq [zM 4 23,zC 147 [23] 24,zM 4 25,zC 147 [25] 26,zF 3 5 27,zS 1 27 24,zF 4 5 28,zS 1 28 26] (zq [zM 4 29,zR 134 [.tmp 29,zk 1099511627776] 30,zM 4 31,zR 134 [.tmp 31,zk 1099511627776] 32,zF 5 5 33,zS 1 33 30,zF 6 5 34,zS 1 34 32] (.seq (zq [zN 7 5 35,zC 212 [35] 36,zQ 36 37] (zc 37 (.reg [zM 4 38,zR 81 [.tmp 38,zk 3,zk 0] 39] []))) (zq [zM 4 40,zC 45 [40] 41] (.seq (zq [zM 4 42,zC 43 [42] 43,zX [zi,zi] 6,zS 2 6 43] (zq [zN 2 6 44,zC 31 [44] 45,zQ 45 46] (zc 46 (.seq (.reg [zD [zu,zi,zi,zu,zu,zi,zi] [] 47,zN 2 6 48,zS 7 2 47,zS 2 3 48] [(1,2)]) .ret)))) (zq [zN 7 5 49,zD [zi,zi] [] 50,zS 7 2 49,zS 2 3 50] .ret))))))))))) [.cell 2 (.some 7),.cell 3 (.some 2)] 51:=ki
theorem Al6:Is Tryz.prog Tryz.f149 (zq [zV zu 2,zV zu 3] (.seq (zq [zM 0 4,zU 4 5,zI .eql 5 0 6,zM 6 7,zZ 7 (zM 0 8),zZ 7 (zC 74 [8] 9),(.some (7,.false),(.un .not (.tmp 9),.some 10)),zO 7 10 11] (zc 11 (zq [zV zu 2,zV zu 3] .ret))) (.seq (.reg [zM 0 12,zW (.iadr 3 (.tmp 12) (zk 0)) 13,zF 0 13 14,zL 14 15,zM 0 16,zM 0 17,zU 17 18,zI .sub 18 1 19,zJ 3 16 19 20,zN 3 20 21,zC 75 [21] 22,zM 15 2,zM 22 3] [(3,9),(3,10)]) .ret))) [.tmp 2,.tmp 3] 23:=ki
theorem As0:Is Tryz.prog Tryz.f160 (zq [zV (.bool .false) 4] (zq [zM 0 5,zW (.b2s (.tmp 5)) 6,zM 1 7,zW (.b2s (.tmp 7)) 8,zB .eql 6 8 9,zM 9 4] .ret)) [.tmp 4] 10:=ki
theorem Al4:Is Tryz.prog Tryz.f167 (zq [zY 0 2,zV (.bool .false) 4] (.seq (zq [zM 1 6,zU 6 7,zI .gtr 7 16 8,zM 8 9,zZ 9 (zM 1 10),(.some (9,.false),(.call (.func 223) [.tmp 10,.func 224],.some 11)),(.some (9,.false),(.un .not (.tmp 11),.some 12)),zO 9 12 13] (zc 13 (zq [zV (.bool .false) 4] .ret))) (zq [zW (.mkf 225 [] [.tmp 2]) 14,zM 14 5] (zq [zM 1 15,zM 5 16,zC 168 [15,16] 17,zM 1 18,zU 18 19,zB .eql 17 19 20,zM 20 4] .ret)))) [.tmp 4] 21:=ki
theorem Asx:Is Tryz.prog Tryz.f173 (zq [zV (.pointer none) 2] (zq [zM 0 3,zW (.mx .true (.tmp 3) (zk 0)) 4,zD [zi,zn,zi] [(0,(1,.tmp 4))] 5,zY 5 6,zM 6 2] .ret)) [.tmp 2] 7:=ki
theorem Apg:Is Tryz.prog Tryz.f175 (zq [zY 1 3] (.seq (zq [zN 3 3 5,zC 230 [5] 6,zQ 6 7] (zc 7 (zq [zM 0 8,zR 231 [.tmp 8,zk 3] 9] .ret))) (zq [zN 3 3 10,zC 154 [10] 11,zM 11 4] (zq [zM 0 12,zM 4 13,zC 215 [12,13] 14] (.reg [zM 0 15,zM 4 16,zC 129 [16] 17,zK .u64 17 18,zR 220 [.tmp 15,.tmp 18,zk 4] 19] []))))) [] 20:=ki
theorem Asu:Is Tryz.prog Tryz.f178 (zq [zY 1 3] (.seq (zq [zN 3 3 6,zC 47 [6] 7,zQ 7 8] (zc 8 (zq [zM 0 9,zR 231 [.tmp 9,zk 3] 10] .ret))) (zq [zM 0 11,zF 0 3 12,zL 12 13,zC 216 [11,13] 14] (zq [zM 0 15,zF 1 3 16,zL 16 17,zC 217 [15,17] 18] (zq [zM 0 19,zF 2 3 20,zL 20 21,zU 21 22,zK .u64 22 23,zC 235 [19,23] 24] (.seq (zq [zF 2 3 25,zL 25 26,zU 26 27,zV zi 28] (.block 0 (.loop (zq [zB .lss 28 27 29] (.seq (.cond (.tmp 29) .skip (.exit 0)) (.seq (.block 1 (zq [zM 28 30,zJ 2 26 28 31,zN 2 31 32,zX [zn,zn] 5,zM 30 4,zS 2 5 32] (.reg [zM 0 33,zF 1 3 34,zL 34 35,zM 4 36,zK .u64 36 37,zB .add 35 37 38,zN 2 5 39,zC 236 [33,38,39] 40] []))) (.reg [zI .add 28 1 41,zM 41 28] []))))))) (.reg [zM 0 42,zF 2 3 43,zL 43 44,zC 238 [44] 45,zC 237 [42,45] 46] []))))))) [] 47:=ki
theorem Al3:Is Tryz.prog Tryz.f179 (zq [zV zn 2,zV zi 3] (zq [zM 0 5,zU 5 6,zC 239 [6] 7,zC 173 [7] 8,zM 8 4] (zq [zM 4 9,zM 0 10,zC 240 [9,10] 11] (zq [zM 4 12,zC 176 [12] 13,zE 13 0 14,zE 13 1 15,zM 14 2,zM 15 3] .ret)))) [.tmp 2,.tmp 3] 16:=ki
theorem Ape:Is Tryz.prog Tryz.f181 (zq [zY 0 1,zV zn 2,zV zi 3] (zq [zR 173 [zk 80] 7,zM 7 4] (.seq (zq [zN 7 1 8,zC 212 [8] 9,zQ 9 10] (zc 10 (.reg [zM 4 11,zR 231 [.tmp 11,zk 3] 12] []))) (zq [zM 4 13,zW (.bsl 1 [.const (.int .u8 3)]) 14,zC 215 [13,14] 15] (zq [zM 4 16,zF 0 1 17,zL 17 18,zC 216 [16,18] 19] (.seq (zq [zF 1 1 20,zL 20 21,zK .u64 21 22,zF 2 1 23,zL 23 24,zK .u64 24 25,zF 3 1 26,zL 26 27,zF 4 1 28,zL 28 29,zF 5 1 30,zL 30 31,zK .u64 31 32,zF 6 1 33,zL 33 34,zK .u64 34 35,zW (.bsl 1 [.tmp 22,.tmp 25,.tmp 27,.tmp 29,.tmp 32,.tmp 35]) 36,zU 36 37,zV zi 38] (.block 0 (.loop (zq [zB .lss 38 37 39] (.seq (.cond (.tmp 39) .skip (.exit 0)) (.seq (.block 1 (zq [zJ 1 36 38 40,zL 40 41,zM 41 6] (.reg [zM 4 42,zM 6 43,zC 235 [42,43] 44] []))) (.reg [zI .add 38 1 45,zM 45 38] []))))))) (zq [zM 4 46,zC 176 [46] 47,zE 47 0 48,zE 47 1 49,zM 48 2,zM 49 3] .ret))))))) [.tmp 2,.tmp 3] 50:=ki
theorem Apc:Is Tryz.prog Tryz.f189 (zq [zX [zi,zi] 4] (zq [zD [zi,zi] [] 6,zX [zi,zi] 5,zS 2 5 6] (.seq (zq [zM 0 7,zI .neq 7 0 8] (zc 8 (.reg [zM 0 9,zM 1 10,zF 0 5 11,zS 1 11 9,zF 1 5 12,zS 1 12 10] []))) (zq [zN 2 5 13,zS 2 4 13] .ret)))) [.cell 4 (.some 2)] 14:=ki
theorem Apb:Is Tryz.prog Tryz.f200 (zq [zV zu 4] (zq [zM 0 7,zC 44 [7] 8,zM 8 5] (zq [zM 0 9,zC 147 [9] 10,zM 10 6] (.seq (zq [zM 6 11,zM 1 12,zB .gtr 11 12 13] (zc 13 (zq [zM 0 14,zM 5 15,zR 81 [.tmp 14,zk 2,.tmp 15] 16] (zq [zV zu 4] .ret)))) (zq [zM 6 17,zM 17 4] .ret))))) [.tmp 4] 18:=ki
theorem Asn:Is Tryz.prog Tryz.f211 (zq [zV (.pointer none) 4] (.seq (zq [zM 0 6,zW (.eqp .false (.tmp 6) (.const (.pointer none))) 7] (zc 7 (zq [zV (.pointer none) 4] .ret))) (.seq (.reg [zM 0 8,zH 8 9,zF 1 9 10,zL 10 11,zM 1 12,zW (.mx .true (.tmp 12) (zk 0)) 13,zM 0 14,zC 93 [14] 15,zW (.mx .false (.tmp 13) (.tmp 15)) 16,zB .add 11 16 17,zM 17 5] [(3,7)]) (.seq (.reg [zM 0 18,zH 18 19,zF 0 19 20,zL 20 21,zM 5 22,zM 5 23,zW (.slice 1 (.tmp 21) none (.some (.tmp 22)) (.some (.tmp 23))) 24,zM 0 25,zH 25 26,zF 1 26 27,zL 27 28,zD [zn,zi,zi,zi] [(0,(1,.tmp 24)),(1,(1,.tmp 28))] 29,zY 29 30,zM 30 4] [(3,10)]) .ret)))) [.tmp 4] 31:=ki
theorem Ahg:Is Tryz.prog Tryz.f213 (zq [zV zu 4] (zq [zM 0 7,zC 44 [7] 8,zM 8 5] (zq [zM 0 9,zC 147 [9] 10,zM 10 6] (.seq (zq [zM 1 11,zM 6 12,zW (.call (.tmp 11) [.tmp 12]) 13,zQ 13 14] (zc 14 (.reg [zM 0 15,zM 5 16,zR 81 [.tmp 15,zk 3,.tmp 16] 17] []))) (.seq (zq [zM 0 18,zC 83 [18] 19,zQ 19 20] (zc 20 (zq [zV zu 4] .ret))) (zq [zM 6 21,zM 21 4] .ret)))))) [.tmp 4] 22:=ki
theorem Asm:Is Tryz.prog Tryz.f216 (.reg [zM 0 4,zM 1 5,zM 1 6,zC 95 [6] 7,zC 253 [4,5,7] 8] []) [] 9:=ki
theorem Ask:Is Tryz.prog Tryz.f218 (zq [zV (.bool .false) 4] (zq [zM 0 5,zM 1 6,zC 254 [5,6] 7,zM 7 4] .ret)) [.tmp 4] 8:=ki
theorem Asj:Is Tryz.prog Tryz.f219 (zq [zV zn 4] (zq [zV zn 5] (.seq (zq [zM 1 6,zW (.mx .true (.tmp 6) (zk 0)) 7,zW (.mx .false (.tmp 7) (zk 8)) 8,zV zi 9] (.block 0 (.loop (zq [zB .lss 9 8 10] (.seq (.cond (.tmp 10) .skip (.exit 0)) (.seq (.block 1 (zq [zM 5 11,zM 0 12,zW (.bin .rem (.tmp 12) (.const (.int .u64 256))) 13,zK .u8 13 14,zW (.bsl 1 [.tmp 14]) 15,zP 1 1 11 15 16,zM 16 5] (.reg [zM 0 17,zW (.bin .quo (.tmp 17) (.const (.int .u64 256))) 18,zM 18 0] []))) (.reg [zI .add 9 1 19,zM 19 9] []))))))) (zq [zM 5 20,zM 20 4] .ret)))) [.tmp 4] 21:=ki
theorem Ao9:Is Tryz.prog Tryz.f223 (zq [zV (.bool .false) 4] (.seq (zq [zM 0 6,zU 6 7,zV zi 8] (.block 0 (.loop (zq [zB .lss 8 7 9] (.seq (.cond (.tmp 9) .skip (.exit 0)) (.seq (.block 1 (zq [zM 8 10,zM 10 5] (.seq (.reg [zM 5 11,zI .gtr 11 0 12,zM 12 13,zT 13 (zM 1 14),zT 13 (zM 0 15),zT 13 (zM 5 16),zT 13 (zJ 2 15 16 17),zT 13 (zN 2 17 18),(.some (13,.true),(.call (.tmp 14) [.tmp 18],.some 19)),zT 13 (zM 1 20),zT 13 (zM 0 21),zT 13 (zM 5 22),zT 13 (zI .sub 22 1 23),zT 13 (zJ 2 21 23 24),zT 13 (zN 2 24 25),(.some (13,.true),(.call (.tmp 20) [.tmp 25],.some 26)),zT 13 (zB .leq 19 26 27),zA 13 27 28] [(7,14),(8,14)]) (zc 28 (zq [zV (.bool .false) 4] .ret))))) (.reg [zI .add 8 1 29,zM 29 8] []))))))) (zq [zV (.bool .true) 4] .ret))) [.tmp 4] 30:=ki
theorem Asc:Is Tryz.prog Tryz.f235 (.reg [zM 0 4,zM 1 5,zC 258 [5] 6,zC 215 [4,6] 7] []) [] 8:=ki
theorem Ao5:Is Tryz.prog Tryz.f236 (zq [zY 2 5] (.seq (zq [zM 1 6,zN 2 5 7,zC 98 [6,7] 8,zQ 8 9] (zc 9 (zq [zM 0 10,zR 231 [.tmp 10,zk 3] 11] .ret))) (zq [zM 0 12,zM 1 13,zF 0 5 14,zL 14 15,zC 259 [12,13,15] 16] (.reg [zM 0 17,zF 1 5 18,zL 18 19,zU 19 20,zK .u64 20 21,zC 235 [17,21] 22] [])))) [] 23:=ki
theorem Asa:Is Tryz.prog Tryz.f239 (zq [zV zi 2] (zq [zM 0 3,zC 233 [3] 4,zI .add 4 4 5,zM 5 2] .ret)) [.tmp 2] 6:=ki
theorem Ahf:Is Tryz.prog Tryz.f242 (zq [zV (.bool .false) 2,zX [zi,zi] 3] (zq [zM 0 10,zC 182 [10] 11,zM 11 9,zE 9 0 12,zE 9 1 13,zE 9 2 14,zE 9 3 15,zX [zi,zi] 7,zM 12 4,zM 13 5,zM 14 6,zS 2 7 15] (.seq (zq [zM 6 16,zQ 16 17] (zc 17 (zq [zN 2 7 18,zV (.bool .false) 2,zS 2 3 18] .ret))) (zq [zM 4 20,zC 145 [20] 21,zM 21 19,zE 19 0 22,zE 19 1 23,zX [zu,zi,zi,zu,zu,zi,zi] 8,zS 7 8 22,zS 2 7 23] (.seq (.block 0 (zq [zN 2 7 25,zC 31 [25] 26,zQ 26 27,zM 27 24] (.cond (.tmp 24) (zq [zN 2 7 28,zM 5 29,zC 73 [28,29] 30,zV (.bool .false) 2,zS 2 3 30] .ret) (.seq (.reg [zN 7 8 32,zM 0 33,zH 33 34,zF 10 34 35,zN 7 35 36,zW (.eqa .true 7 (.tmp 32) (.tmp 36)) 37,zM 37 31] [(0,4)]) (zc 31 (zq [zR 33 [zk 12,zk 0] 38,zV (.bool .false) 2,zS 2 3 38] .ret)))))) (zq [zM 0 39,zM 0 40,zM 0 41,zH 41 42,zF 1 42 43,zL 43 44,zU 44 45,zH 39 46,zF 17 46 47,zS 1 47 45,zH 40 48,zF 0 48 49,(none,(.store 1 (.tmp 49) (.func 262),none))] (zq [zD [zi,zi] [] 50,zV (.bool .true) 2,zS 2 3 50] .ret))))))) [.tmp 2,.cell 3 (.some 2)] 51:=ki
theorem Ar8:Is Tryz.prog Tryz.f247 (zq [zX [.int .u32 0,.int .u32 0,.int .u32 0,.int .u32 0,.int .u32 0,.int .u32 0,.int .u32 0,.int .u32 0,.int .u32 0,.int .u32 0,.int .u32 0,.int .u32 0,.int .u32 0,.int .u32 0,.int .u32 0,.int .u32 0] 0] (zq [zX [.int .u32 0,.int .u32 0,.int .u32 0,.int .u32 0,.int .u32 0,.int .u32 0,.int .u32 0,.int .u32 0,.int .u32 0,.int .u32 0,.int .u32 0,.int .u32 0,.int .u32 0,.int .u32 0,.int .u32 0,.int .u32 0] 1] (.seq (zq [zV zi 4] (.block 0 (.loop (zq [zI .lss 4 16 5] (.seq (.cond (.tmp 5) .skip (.exit 0)) (.seq (.block 1 (zq [zM 4 6,zM 6 2] (zq [zM 2 7,zK .u32 7 8,zM 8 3] (.seq (zq [zV zi 9] (.block 2 (.loop (zq [zI .lss 9 4 10] (.seq (.cond (.tmp 10) .skip (.exit 2)) (.seq (.block 3 (.reg [zM 3 11,zC 267 [11] 12,zM 12 3] [])) (.reg [zI .add 9 1 13,zM 13 9] []))))))) (.reg [zM 2 14,zM 3 15,zW (.aadr 16 1 (.tmp 1) (.tmp 14)) 16,zS 1 16 15] []))))) (.reg [zI .add 4 1 17,zM 17 4] []))))))) (zq [zN 16 1 18,zS 16 0 18] .ret)))) [.cell 0 (.some 16)] 19:=ki
theorem Alz:Is Tryz.prog Tryz.f248 (zq [zV zn 6] (zq [zV zn 7] (.seq (zq [zM 0 10,zM 2 11,zC 134 [10,11] 12,zV zi 13] (.block 0 (.loop (zq [zB .lss 13 12 14] (.seq (.cond (.tmp 14) .skip (.exit 0)) (.seq (.block 1 (zq [zM 0 15,zC 44 [15] 16,zM 16 8] (zq [zM 0 17,zC 147 [17] 18,zM 18 9] (.seq (zq [zM 9 19,zM 1 20,zB .geq 19 20 21] (zc 21 (.reg [zM 0 22,zM 8 23,zR 81 [.tmp 22,zk 13,.tmp 23] 24] []))) (.seq (zq [zM 0 25,zC 83 [25] 26,zQ 26 27] (zc 27 (zq [zV zn 6] .ret))) (zq [zM 1 28,zM 9 29,zW (.bin .add (.tmp 29) (.const (.int .u64 1))) 30,zB .sub 28 30 31,zM 31 1] (.reg [zM 7 32,zM 1 33,zW (.bsl 1 [.tmp 33]) 34,zP 1 8 32 34 35,zM 35 7] []))))))) (.reg [zI .add 13 1 36,zM 36 13] []))))))) (zq [zM 7 37,zM 37 6] .ret)))) [.tmp 6] 38:=ki
theorem Aoz:Is Tryz.prog Tryz.f253 (.seq (zq [zM 2 6,zQ 6 7] (zc 7 (zq [zM 0 8,zR 231 [.tmp 8,zk 3] 9] .ret))) (.reg [zM 0 10,zM 1 11,zC 235 [10,11] 12] [])) [] 13:=ki
theorem Aoy:Is Tryz.prog Tryz.f255 (zq [zV zn 4,zV (.bool .false) 5] (zq [zV zn 6] (.seq (zq [zM 1 9,zU 9 10,zV zi 11] (.block 0 (.loop (zq [zB .lss 11 10 12] (.seq (.cond (.tmp 12) .skip (.exit 0)) (.seq (.block 1 (zq [zJ 1 9 11 13,zL 13 14,zM 14 8] (.seq (zq [zM 8 15,zM 0 16,zB .geq 15 16 17] (zc 17 (zq [zV zn 4,zV (.bool .false) 5] .ret))) (zq [zM 6 18,zM 0 19,zM 8 20,zB .sub 19 20 21,zW (.bin .sub (.tmp 21) (.const (.int .u64 1))) 22,zW (.bsl 1 [.tmp 22]) 23,zP 1 8 18 23 24,zM 24 6] (.reg [zM 8 25,zM 25 0] []))))) (.reg [zI .add 11 1 26,zM 26 11] []))))))) (zq [zM 6 27,zM 27 4,zV (.bool .true) 5] .ret)))) [.tmp 4,.tmp 5] 28:=ki
theorem Ar4:Is Tryz.prog Tryz.f266 (zq [zV zn 6] (.seq (zq [zM 2 7,zV zi 8] (.block 0 (.loop (zq [zB .lss 8 7 9] (.seq (.cond (.tmp 9) .skip (.exit 0)) (.seq (.block 1 (.reg [zM 0 10,zM 0 11,zM 0 12,zU 12 13,zM 1 14,zB .sub 13 14 15,zJ 1 11 15 16,zL 16 17,zW (.bsl 1 [.tmp 17]) 18,zP 1 1 10 18 19,zM 19 0] [])) (.reg [zI .add 8 1 20,zM 20 8] []))))))) (zq [zM 0 21,zM 21 6] .ret))) [.tmp 6] 22:=ki
theorem Aoq:Is Tryz.prog Tryz.f278 (zq [zY 0 2,zY 1 3,zV zi 4,zV zi 5] (.seq (zq [zL 2 10,zW (.eqp .false (.tmp 10) (.const (.pointer none))) 11] (zc 11 (zq [zV zi 4,zV zi 5] .ret))) (.seq (.reg [zL 2 12,zH 12 13,zF 1 13 14,zL 14 15,zL 3 16,zL 2 17,zH 17 18,zF 0 18 19,zL 19 20,zU 20 21,zW (.mx .false (.tmp 16) (.tmp 21)) 22,zC 282 [15,22] 23] [(0,4),(3,4),(0,5),(3,5),(4,5),(0,8),(3,8),(4,8)]) (zq [zX [zi] 6,zX [zi] 7,(none,(.store 1 (.tmp 6) (zk 0),none)),(none,(.store 1 (.tmp 7) (zk 0),none))] (.seq (.seq (.reg [zL 2 24,zH 24 25,zF 1 25 26,zL 26 27,zL 3 28,zC 283 [27,28] 29] [(0,4),(3,4)]) (.block 0 (.rng (.tmp 29) [30] (.reg [zM 30 8] []) (.block 1 (zq [zL 2 31,zH 31 32,zF 2 32 33,zL 33 34,zI .add 34 1 35,zH 31 36,zF 2 36 37,zS 1 37 35] (.seq (.seq (.reg [zL 2 38,zH 38 39,zF 0 39 40,zL 40 41,zL 3 42,zL 3 43,zM 8 44,zB .sub 43 44 45,zC 284 [41,42,45] 46,zM 46 9] [(0,4),(3,4),(0,5),(3,5),(4,5)]) (zq [zM 9 47,zL 7 48,zB .gtr 47 48 49] (zc 49 (.reg [zL 3 50,zM 8 51,zB .sub 50 51 52,zM 9 53,zS 1 6 52,zS 1 7 53] [])))) (.seq (.reg [zL 3 54,zL 7 55,zB .add 54 55 56,zL 2 57,zH 57 58,zF 0 58 59,zL 59 60,zU 60 61,zB .eql 56 61 62] [(0,1),(0,3),(1,3),(0,6),(1,6)]) (zc 62 (.exit 0))))))))) (zq [zL 6 63,zL 7 64,zC 285 [63,64] 65,zE 65 0 66,zE 65 1 67,zM 66 4,zM 67 5] .ret)))))) [.tmp 4,.tmp 5] 68:=ki
theorem Ary:Is Tryz.prog Tryz.f279 (zq [zV zi 2] (zq [zV zi 3] (.seq (zq [zM 0 6,zU 6 7,zV zi 8] (.block 0 (.loop (zq [zB .lss 8 7 9] (.seq (.cond (.tmp 9) .skip (.exit 0)) (.seq (.block 1 (zq [zJ 3 6 8 10,zN 3 10 11,zX [zn,zi,zi] 5,zS 3 5 11] (.reg [zM 3 12,zF 0 5 13,zL 13 14,zU 14 15,zR 229 [.const (.int .u64 18446744073709551615)] 16,zW (.bin .mul (zk 2) (.tmp 16)) 17,zB .add 15 17 18,zB .add 12 18 19,zM 19 3] [(2,4)]))) (.reg [zI .add 8 1 20,zM 20 8] []))))))) (zq [zM 3 21,zM 21 2] .ret)))) [.tmp 2] 22:=ki
theorem b9:Is Tryz.prog Tryz.f9 (zq [zX [zu,zn] 2,zX [zi,zi] 3] (zq [zM 0 8,zR 36 [.tmp 8,.func 37] 9,zM 9 7,zE 7 0 10,zE 7 1 11,zE 7 2 12,zX [zu,zn] 4,zX [zi,zi] 6,zS 2 4 10,zM 11 5,zS 2 6 12] (.seq (.reg [zN 2 4 13,zN 2 6 14,zS 2 2 13,zS 2 3 14] [(0,1),(1,2)]) .ret))) [.cell 2 (.some 2),.cell 3 (.some 2)] 15:=ki
theorem b12:Is Tryz.prog Tryz.f12 (zq [zV zn 2,zX [zi,zi] 3] (zq [zM 0 7,zC 30 [7] 8,zM 8 6,zE 6 0 9,zE 6 1 10,zX [zu,zi,zi,zu,zu,zi,zi,zi,zn] 4,zX [zi,zi] 5,zS 9 4 9,zS 2 5 10] (.seq (.reg [zF 8 4 11,zL 11 12,zN 2 5 13,zM 12 2,zS 2 3 13] [(1,2)]) .ret))) [.tmp 2,.cell 3 (.some 2)] 14:=ki
theorem b13:Is Tryz.prog Tryz.f13 (zq [zV zn 4,zV zi 5,zX [zi,zi] 6] (zq [zM 0 10,zC 41 [10] 11,zM 11 7] (zq [zM 7 12,zM 1 13,zC 42 [12,13] 14,zM 14 8] (.seq (zq [zM 7 15,zC 43 [15] 16,zX [zi,zi] 9,zS 2 9 16] (zq [zN 2 9 17,zC 31 [17] 18,zQ 18 19] (zc 19 (zq [zN 2 9 20,zV zn 4,zV zi 5,zS 2 6 20] .ret)))) (zq [zM 8 21,zM 7 22,zC 44 [22] 23,zD [zi,zi] [] 24,zM 21 4,zM 23 5,zS 2 6 24] .ret))))) [.tmp 4,.tmp 5,.cell 6 (.some 2)] 25:=ki
theorem b34:Is Tryz.prog Tryz.f34 (zq [zY 1 4,zX [zu,zu,zn] 6,zX [zi,zi] 7] (.seq (zq [zF 2 4 11,zL 11 12,zM 2 13,zB .geq 12 13 14] (zc 14 (zq [zD [zu,zu,zn] [] 15,zF 2 4 16,zL 16 17,zR 33 [zk 3,.tmp 17] 18,zS 3 6 15,zS 2 7 18] .ret))) (zq [zM 0 20,zF 2 4 21,zL 21 22,zM 2 23,zW (.slice 1 (.tmp 20) (.some (.tmp 22)) (.some (.tmp 23)) none) 24,zR 76 [.tmp 24,.const (.int .u8 1),.func 38] 25,zM 25 19,zE 19 0 26,zE 19 1 27,zE 19 2 28,zX [zu,zu,zn] 8,zX [zi,zi] 10,zS 3 8 26,zM 27 9,zS 2 10 28] (.seq (zq [zN 2 10 29,zC 31 [29] 30,zM 30 31,zT 31 (zF 1 8 32),zT 31 (zL 32 33),zT 31 (zF 0 4 34),zT 31 (zL 34 35),zT 31 (zB .neq 33 35 36),zT 31 (zM 36 37),zZ 37 (zF 2 8 38),zZ 37 (zL 38 39),zZ 37 (zU 39 40),zZ 37 (zF 1 4 41),zZ 37 (zL 41 42),zZ 37 (zB .neq 40 42 43),(.some (31,.true),(.pick (.tmp 37) (.const (.bool .true)) (.tmp 43),.some 44)),zA 31 44 45] (zc 45 (.reg [zR 33 [zk 12,zk 0] 46,zS 2 10 46] []))) (.seq (.reg [zN 3 8 47,zN 2 10 48,zF 2 4 49,zL 49 50,zC 73 [48,50] 51,zS 3 6 47,zS 2 7 51] [(0,1),(0,3),(1,3),(0,4)]) .ret))))) [.cell 6 (.some 3),.cell 7 (.some 2)] 52:=ki
theorem b35:Is Tryz.prog Tryz.f35 (zq [zY 0 2,zX [zn,zn] 4,zV (.bool .false) 5] (.seq (zq [zN 3 2 6,zC 77 [6] 7,zQ 7 8,zM 8 9,zZ 9 (zM 1 10),zZ 9 (zF 1 2 11),zZ 9 (zL 11 12),zZ 9 (zB .lss 10 12 13),zO 9 13 14,zM 14 15,zZ 15 (zM 1 16),zZ 15 (zN 3 2 17),zZ 15 (zC 78 [17] 18),zZ 15 (zB .geq 16 18 19),zO 15 19 20] (zc 20 (zq [zD [zn,zn] [] 21,zS 2 4 21,zV (.bool .false) 5] .ret))) (zq [zF 2 2 22,zL 22 23,zM 1 24,zF 1 2 25,zL 25 26,zB .sub 24 26 27,zJ 2 23 27 28,zN 2 28 29,zC 79 [29] 30,zS 2 4 30,zV (.bool .true) 5] .ret))) [.cell 4 (.some 2),.tmp 5] 31:=ki
theorem b36:Is Tryz.prog Tryz.f36 (zq [zX [zu,zn] 4,zV (.bool .false) 5,zX [zi,zi] 6] (zq [zM 0 10,zC 41 [10] 11,zD [.pointer none,zu,zn,zn,.bool .false,zi] [(0,(1,.tmp 11)),(4,(1,.const (.bool .true)))] 12,zY 12 13,zM 13 7] (zq [zM 7 14,zH 14 15,zF 0 15 16,zL 16 17,zC 80 [17] 18,zX [zi,zu,zu] 8,zS 3 8 18] (.seq (zq [zF 0 8 19,zL 19 20,zI .neq 20 3 21] (zc 21 (.reg [zM 7 22,zH 22 23,zF 0 23 24,zL 24 25,zR 81 [.tmp 25,zk 8,zk 4] 26] []))) (zq [zM 7 27,zF 1 8 28,zL 28 29,zH 27 30,zF 1 30 31,zF 0 31 32,zS 1 32 29] (zq [zM 7 33,zM 1 34,zC 82 [33,34] 35] (.seq (zq [zM 7 36,zH 36 37,zF 0 37 38,zL 38 39,zC 83 [39] 40] (zc 40 (.reg [zM 7 41,zC 84 [41] 42] []))) (.seq (zq [zM 7 43,zH 43 44,zF 0 44 45,zL 45 46,zC 43 [46] 47,zX [zi,zi] 9,zS 2 9 47] (zq [zN 2 9 48,zC 31 [48] 49,zQ 49 50] (zc 50 (.seq (.reg [zD [zu,zn] [] 51,zN 2 9 52,zS 2 4 51,zV (.bool .false) 5,zS 2 6 52] [(1,2)]) .ret)))) (.seq (.reg [zM 7 53,zH 53 54,zF 1 54 55,zN 2 55 56,zM 7 57,zH 57 58,zF 4 58 59,zL 59 60,zD [zi,zi] [] 61,zS 2 4 56,zM 60 5,zS 2 6 61] [(3,7),(7,9)]) .ret))))))))) [.cell 4 (.some 2),.tmp 5,.cell 6 (.some 2)] 62:=ki
theorem b39:Is Tryz.prog Tryz.f39 (zq [zV (.bool .false) 4] (.seq (zq [zM 0 6,zU 6 7,zM 1 8,zU 8 9,zB .neq 7 9 10] (zc 10 (zq [zV (.bool .false) 4] .ret))) (.seq (zq [zV zi 5] (.block 0 (.loop (.seq (zq [zM 5 11,zM 0 12,zU 12 13,zB .lss 11 13 14] (.cond (.tmp 14) .skip (.exit 0))) (.seq (.block 1 (.seq (.reg [zM 0 17,zM 5 18,zJ 2 17 18 19,zN 2 19 20,zM 1 21,zM 5 22,zJ 2 21 22 23,zN 2 23 24,zC 88 [20,24] 25,zQ 25 26] [(3,7)]) (zc 26 (zq [zV (.bool .false) 4] .ret)))) (.reg [zM 5 15,zI .add 15 1 16,zM 16 5] [])))))) (zq [zV (.bool .true) 4] .ret)))) [.tmp 4] 27:=ki
theorem b55:Is Tryz.prog Tryz.f55 (zq [zV (.bool .false) 2] (zq [zM 0 3,zW (.eqp .true (.tmp 3) (.const (.pointer none))) 4,zM 4 5,zT 5 (zM 0 6),(.some (5,.true),(.nilc (.tmp 6),.some 7)),zT 5 (zF 0 7 8),zT 5 (zL 8 9),(.some (5,.true),(.eqf .true (.tmp 9) (.const .nilFunc),.some 10)),zA 5 10 11,zM 11 12,zT 12 (zM 0 13),(.some (12,.true),(.nilc (.tmp 13),.some 14)),zT 12 (zF 4 14 15),zT 12 (zL 15 16),zT 12 (zI .eql 16 0 17),zA 12 17 18,zM 18 2] .ret)) [.tmp 2] 19:=ki
theorem b56:Is Tryz.prog Tryz.f56 (zq [zM 0 6,zM 0 7,zH 7 8,zF 1 8 9,zL 9 10,zM 1 11,zW (.bsl 1 [.tmp 11]) 12,zP 1 1 10 12 13,zH 6 14,zF 1 14 15,zS 1 15 13] (zq [zM 0 16,zH 16 17,zF 3 17 18,zL 18 19,zI .add 19 1 20,zH 16 21,zF 3 21 22,zS 1 22 20] (zq [zM 0 24,zH 24 25,zF 0 25 26,zL 26 27,zM 0 28,zW (.call (.tmp 27) [.tmp 28]) 29,zM 29 23,zE 23 0 30,zE 23 1 31,zX [zi,zi] 5,zM 30 4,zS 2 5 31] (.block 0 (zq [zN 2 5 33,zC 31 [33] 34,zQ 34 35,zM 35 32] (.cond (.tmp 32) (.seq (.reg [zN 2 5 36,zM 0 37,zH 37 38,zF 2 38 39,zL 39 40,zC 73 [36,40] 41,zS 2 5 41] [(0,4)]) (.seq (.reg [zM 0 42,zM 0 43,zH 43 44,zF 18 44 45,zL 45 46,zF 1 5 47,zL 47 48,zF 0 5 49,zL 49 50,zD [zi,zi,zi,zi,zu,zu,zu,zi,zi,zn,zn,zn,zu,zu,zu,zu,zn,zu,zu,zn] [(0,(1,zk 4)),(1,(1,.tmp 48)),(2,(1,.tmp 50))] 51,zW (.bsl 20 [.tmp 51]) 52,zP 20 240 46 52 53,zH 42 54,zF 18 54 55,zS 1 55 53] [(4,6),(4,8),(6,8)]) (.reg [zM 0 56,zM 0 57,zH 56 58,zF 4 58 59,(none,(.store 1 (.tmp 59) (zk 4),none)),zH 57 60,zF 1 60 61,(none,(.store 1 (.tmp 61) (.const (.slice none 0 0)),none))] []))) (zq [zM 4 63,zM 63 62] (zc 62 (.reg [zM 0 64,zM 0 65,zM 0 66,zH 66 67,zF 3 67 68,zL 68 69,zH 64 70,zF 2 70 71,zS 1 71 69,zH 65 72,zF 1 72 73,(none,(.store 1 (.tmp 73) (.const (.slice none 0 0)),none))] []))))))))) [] 74:=ki
theorem b70:Is Tryz.prog Tryz.f70 (zq [zV zn 6,zV zi 7,zX [zi,zi] 8] (zq [zV zn 9] (zq [zM 0 17,zR 13 [.tmp 17,zk 2097152] 18,zM 18 16,zE 16 0 19,zE 16 1 20,zE 16 2 21,zX [zi,zi] 12,zM 19 10,zM 20 11,zS 2 12 21] (.seq (zq [zN 2 12 22,zC 31 [22] 23,zQ 23 24] (zc 24 (zq [zM 9 25,zN 2 12 26,zM 25 6,zV zi 7,zS 2 8 26] .ret))) (zq [zM 10 27,zC 41 [27] 28,zM 28 13] (.seq (zq [zM 13 29,zC 146 [29] 30,zM 1 31,zB .neq 30 31 32] (zc 32 (.reg [zM 13 33,zR 81 [.tmp 33,zk 7,zk 0] 34] []))) (zq [zM 2 35,zM 13 36,zW (.call (.tmp 35) [.tmp 36]) 37,zM 37 14] (zq [zM 13 38,zC 45 [38] 39] (.seq (zq [zM 13 40,zC 43 [40] 41,zM 11 42,zI .sub 42 4 43,zM 10 44,zU 44 45,zB .sub 43 45 46,zC 73 [41,46] 47,zX [zi,zi] 15,zS 2 15 47] (zq [zN 2 15 48,zC 31 [48] 49,zQ 49 50] (zc 50 (zq [zM 9 51,zN 2 15 52,zM 51 6,zV zi 7,zS 2 8 52] .ret)))) (zq [zM 14 53,zM 11 54,zD [zi,zi] [] 55,zM 53 6,zM 54 7,zS 2 8 55] .ret)))))))))) [.tmp 6,.tmp 7,.cell 8 (.some 2)] 56:=ki
theorem b77:Is Tryz.prog Tryz.f77 (zq [zY 0 1,zV (.bool .false) 2] (.seq (.reg [zN 3 1 3,zC 78 [3] 4,zF 1 1 5,zL 5 6,zB .geq 4 6 7,zM 7 2] [(0,3),(1,3)]) .ret)) [.tmp 2] 8:=ki
theorem b79:Is Tryz.prog Tryz.f79 (zq [zY 0 1,zX [zn,zn] 2] (.seq (.reg [zF 0 1 3,zL 3 4,zC 51 [4] 5,zW (.bsl 1 []) 6,zF 1 1 7,zL 7 8,zP 1 1 6 8 9,zD [zn,zn] [(0,(1,.tmp 5)),(1,(1,.tmp 9))] 10,zS 2 2 10] [(1,5),(2,5)]) .ret)) [.cell 2 (.some 2)] 11:=ki
theorem b81:Is Tryz.prog Tryz.f81 (zq [zM 0 6,zC 83 [6] 7] (zc 7 (.reg [zM 0 8,zM 1 9,zM 2 10,zC 33 [9,10] 11,zH 8 12,zF 2 12 13,zS 2 13 11] []))) [] 14:=ki
theorem b86:Is Tryz.prog Tryz.f86 (zq [zV zn 1] (zq [zL 0 2,zR 87 [.tmp 2,zk 1048576] 3,zM 3 1] .ret)) [.tmp 1] 4:=ki
theorem b87:Is Tryz.prog Tryz.f87 (zq [zV zn 4] (zq [zM 0 8,zM 1 9,zC 121 [8,9] 10,zM 10 7,zE 7 0 11,zE 7 1 12,zM 11 5,zM 12 6] (zq [zM 6 13,zM 0 14,zW (.mkf 81 [.tmp 14] []) 15,zM 0 16,zC 44 [16] 17,zC 164 [13,15,17] 18] (.seq (zq [zM 0 19,zC 83 [19] 20,zQ 20 21] (zc 21 (zq [zV zn 4] .ret))) (zq [zM 5 22,zM 22 4] .ret))))) [.tmp 4] 23:=ki
theorem b89:Is Tryz.prog Tryz.f89 (zq [zV zn 4] (zq [zM 0 6,zM 1 7,zC 134 [6,7] 8,zM 8 5] (zq [zM 0 9,zM 5 10,zC 159 [9,10] 11,zM 11 4] .ret))) [.tmp 4] 12:=ki
theorem b93:Is Tryz.prog Tryz.f93 (zq [zV zi 2] (.seq (zq [zM 0 3,zW (.eqp .false (.tmp 3) (.const (.pointer none))) 4] (zc 4 (zq [zV zi 2] .ret))) (.seq (.reg [zM 0 5,zH 5 6,zF 0 6 7,zL 7 8,zU 8 9,zM 0 10,zH 10 11,zF 1 11 12,zL 12 13,zB .sub 9 13 14,zM 14 2] [(3,8)]) .ret))) [.tmp 2] 15:=ki
theorem b96:Is Tryz.prog Tryz.f96 (zq [zV (.bool .false) 4] (zq [zM 1 5,zI .geq 5 1 6,zM 6 7,zT 7 (zM 1 8),zT 7 (zI .leq 8 16 9),zA 7 9 10,zM 10 11,zT 11 (zM 0 12),zT 11 (zC 166 [12] 13),zA 11 13 14,zM 14 15,zT 15 (zM 0 16),zT 15 (zM 1 17),(.some (15,.true),(.cvt .u64 (.tmp 17),.some 18)),zT 15 (zB .add 16 18 19),(.some (15,.true),(.bin .leq (.tmp 19) (.const (.int .u64 4611686018427387904)),.some 20)),zA 15 20 21,zM 21 4] .ret)) [.tmp 4] 22:=ki
theorem Aps:Is Tryz.prog Tryz.f110 (zq [zV zn 2,zV zi 3] (zq [zR 173 [zk 1024] 5,zM 5 4] (zq [zM 4 6,zM 0 7,zC 180 [6,7] 8] (zq [zM 4 9,zC 176 [9] 10,zE 10 0 11,zE 10 1 12,zM 11 2,zM 12 3] .ret)))) [.tmp 2,.tmp 3] 13:=ki
theorem Ata:Is Tryz.prog Tryz.f115 (zq [zV zi 0] (zq [zV (.int .i64 12) 0] .ret)) [.tmp 0] 1:=ki
theorem As7:Is Tryz.prog Tryz.f118 (zq [zV (.int .u32 0) 2] (zq [zM 0 3,zR 188 [.const (.int .u32 4294967295),.tmp 3] 4,zW (.bin .sub (.const (.int .u32 4294967295)) (.tmp 4)) 5,zM 5 2] .ret)) [.tmp 2] 6:=ki
theorem Al7:Is Tryz.prog Tryz.f142 (zq [zV (.bool .false) 4] (.seq (zq [zM 0 6,zU 6 7,zM 1 8,zU 8 9,zB .neq 7 9 10] (zc 10 (zq [zV (.bool .false) 4] .ret))) (.seq (zq [zV zi 5] (.block 0 (.loop (.seq (zq [zM 5 11,zM 0 12,zU 12 13,zB .lss 11 13 14] (.cond (.tmp 14) .skip (.exit 0))) (.seq (.block 1 (.seq (.reg [zM 0 17,zM 5 18,zJ 1 17 18 19,zL 19 20,zM 1 21,zM 5 22,zJ 1 21 22 23,zL 23 24,zB .neq 20 24 25] [(3,7)]) (zc 25 (zq [zV (.bool .false) 4] .ret)))) (.reg [zM 5 15,zI .add 15 1 16,zM 16 5] [])))))) (zq [zV (.bool .true) 4] .ret)))) [.tmp 4] 26:=ki
theorem RC:Is Tryz.prog Tryz.f148 (zq [zY 0 3,zV (.bool .false) 6] (zq [zF 1 3 8,zL 8 9,zI .geq 9 1 10,zM 10 11,zT 11 (zF 1 3 12),zT 11 (zL 12 13),zT 11 (zI .leq 13 16 14),zA 11 14 15,zM 15 7] (zq [zM 7 16,zM 16 17,zT 17 (zF 0 3 18),zT 17 (zL 18 19),zT 17 (zM 1 20),zT 17 (zB .geq 19 20 21),zA 17 21 22,zM 22 23,zT 23 (zF 0 3 24),zT 23 (zL 24 25),(.some (23,.true),(.bin .lss (.tmp 25) (.const (.int .u64 4611686018427387904)),.some 26)),zA 23 26 27,zM 27 28,zT 28 (zN 3 3 29),zT 28 (zC 75 [29] 30),(.some (28,.true),(.bin .leq (.tmp 30) (.const (.int .u64 4611686018427387904)),.some 31)),zA 28 31 32,zM 32 33,zT 33 (zF 2 3 34),zT 33 (zL 34 35),zT 33 (zM 2 36),zT 33 (zB .gtr 35 36 37),zA 33 37 38,zM 38 39,zT 39 (zF 2 3 40),zT 39 (zL 40 41),zT 39 (zI .leq 41 1099511627775 42),zA 39 42 43,zM 43 6] .ret))) [.tmp 6] 44:=ki
theorem As3:Is Tryz.prog Tryz.f152 (zq [zV (.bool .false) 2] (zq [zM 0 3,zI .eql 3 1 4,zM 4 2] .ret)) [.tmp 2] 5:=ki
theorem Apm:Is Tryz.prog Tryz.f154 (zq [zY 0 1,zV zn 2] (zq [zC 174 [] 6,zC 173 [6] 7,zM 7 3] (zq [zM 3 8,zW (.call (.func 214) [.tmp 8,.const (.string (.mk (#[84,72,79,76])))]) 9] (zq [zM 3 10,zF 0 1 11,zL 11 12,zK .u8 12 13,zW (.bsl 1 [.tmp 13]) 14,zC 215 [10,14] 15] (zq [zM 3 16,zF 1 1 17,zL 17 18,zC 216 [16,18] 19] (.seq (zq [zF 0 1 20,zL 20 21,zC 152 [21] 22] (zc 22 (.reg [zM 3 23,zF 2 1 24,zL 24 25,zC 217 [23,25] 26] []))) (zq [zM 3 28,zC 176 [28] 29,zM 29 27,zE 27 0 30,zE 27 1 31,zM 30 4,zM 31 5] (zq [zM 4 32,zM 32 2] .ret)))))))) [.tmp 2] 33:=ki
theorem As1:Is Tryz.prog Tryz.f155 (zq [zV zn 2,zV zi 3] (zq [zM 0 5,zM 0 6,zH 6 7,zF 0 7 8,zL 8 9,zC 44 [9] 10,zH 5 11,zF 5 11 12,zS 1 12 10] (zq [zM 0 13,zH 13 14,zF 0 14 15,zL 15 16,zR 42 [.tmp 16,zk 2097152] 17,zM 17 4] (zq [zM 4 18,zM 0 19,zH 19 20,zF 0 20 21,zL 21 22,zC 44 [22] 23,zI .sub 23 4 24,zM 4 25,zU 25 26,zB .sub 24 26 27,zM 18 2,zM 27 3] .ret)))) [.tmp 2,.tmp 3] 28:=ki
theorem UU:Is Tryz.prog Tryz.f156 (zq [zM 3 11,zM 1 12,zW (.call (.tmp 11) [.tmp 12]) 13,zM 13 10,zE 10 0 14,zE 10 1 15,zX [zu,zu,zn] 8,zS 3 8 14,zM 15 9] (zq [zM 1 16,zC 45 [16] 17] (zq [zM 0 18,zM 1 19,zC 43 [19] 20,zM 2 21,zC 158 [18,20,21] 22] (.seq (.block 0 (zq [zM 0 24,zH 24 25,zF 0 25 26,zL 26 27,zC 83 [27] 28,zQ 28 29,zM 29 23] (.cond (.tmp 23) .ret (zq [zM 0 31,zH 31 32,zF 1 32 33,zF 1 33 34,zL 34 35,zU 35 36,zI .eql 36 16 37,zM 37 30] (.cond (.tmp 30) (.reg [zM 0 38,zH 38 39,zF 0 39 40,zL 40 41,zM 0 42,zH 42 43,zF 5 43 44,zL 44 45,zR 81 [.tmp 41,zk 2,.tmp 45] 46] [(3,7)]) (.seq (.reg [zM 0 48,zH 48 49,zF 1 49 50,zN 2 50 51,zN 3 8 52,zC 106 [51,52] 53,zQ 53 54,zM 54 47] [(3,4)]) (zc 47 (.reg [zM 0 55,zH 55 56,zF 0 56 57,zL 57 58,zM 0 59,zH 59 60,zF 5 60 61,zL 61 62,zR 81 [.tmp 58,zk 13,.tmp 62] 63] [(3,7)])))))))) (zq [zM 0 64,zM 0 65,zH 65 66,zF 4 66 67,zL 67 68,zM 68 69,zT 69 (zM 9 70),zA 69 70 71,zH 64 72,zF 4 72 73,zS 1 73 71] (.seq (.reg [zM 0 74,zM 0 75,zH 75 76,zF 3 76 77,zL 77 78,zF 1 8 79,zL 79 80,zF 2 8 81,zL 81 82,zU 82 83,zM 0 84,zH 84 85,zF 5 85 86,zL 86 87,zD [zu,zi,zi] [(0,(1,.tmp 80)),(1,(1,.tmp 83)),(2,(1,.tmp 87))] 88,zW (.bsl 3 [.tmp 88]) 89,zP 3 24 78 89 90,zH 74 91,zF 3 91 92,zS 1 92 90] [(4,6),(4,8),(6,8),(4,13),(6,13),(8,13)]) (.reg [zM 0 93,zM 0 94,zH 94 95,zF 1 95 96,zF 1 96 97,zL 97 98,zN 3 8 99,zW (.bsl 3 [.tmp 99]) 100,zP 3 40 98 100 101,zH 93 102,zF 1 102 103,zF 1 103 104,zS 1 104 101] [(5,6)]))))))) [] 105:=ki
theorem Apk:Is Tryz.prog Tryz.f159 (zq [zV zn 4] (.seq (zq [zM 0 5,zM 1 6,zC 210 [5,6] 7,zQ 7 8] (zc 8 (zq [zV zn 4] .ret))) (.seq (.reg [zW (.bsl 1 []) 9,zM 0 10,zH 10 11,zF 0 11 12,zL 12 13,zM 0 14,zH 14 15,zF 1 15 16,zL 16 17,zM 1 18,zB .sub 17 18 19,zM 0 20,zH 20 21,zF 1 21 22,zL 22 23,zW (.slice 1 (.tmp 13) (.some (.tmp 19)) (.some (.tmp 23)) none) 24,zP 1 1 9 24 25,zM 25 4] [(4,8),(4,14),(8,14)]) .ret))) [.tmp 4] 26:=ki
theorem Asz:Is Tryz.prog Tryz.f161 (zq [zV zn 2] (zq [zC 115 [] 7,zC 173 [7] 8,zM 8 3] (zq [zM 0 9,zK .u64 9 10,zR 219 [.tmp 10,zk 4] 11,zM 11 4] (zq [zM 3 12,zM 4 13,zC 215 [12,13] 14] (zq [zM 3 15,zM 4 16,zC 129 [16] 17,zK .u64 17 18,zR 220 [.tmp 15,.tmp 18,zk 4] 19] (zq [zM 3 20,zW (.call (.func 214) [.tmp 20,.const (.string (.mk (#[76,79,72,84])))]) 21] (zq [zM 3 23,zC 176 [23] 24,zM 24 22,zE 22 0 25,zE 22 1 26,zM 25 5,zM 26 6] (zq [zM 5 27,zM 27 2] .ret)))))))) [.tmp 2] 28:=ki
theorem Api:Is Tryz.prog Tryz.f164 (zq [zM 0 6,zQ 6 7] (zc 7 (.reg [zM 1 8,zM 2 9,zW (.call (.tmp 8) [zk 12,.tmp 9]) 10] []))) [] 11:=ki
theorem Apf:Is Tryz.prog Tryz.f180 (.seq (zq [zM 1 8,zC 74 [8] 9,zQ 9 10] (zc 10 (zq [zM 0 11,zR 231 [.tmp 11,zk 3] 12] .ret))) (zq [zM 0 13,zM 1 14,zU 14 15,zK .u64 15 16,zC 235 [13,16] 17] (zq [zV zu 4] (zq [zV zi 5] (zq [zM 1 18,zU 18 19,zV zi 20] (.block 0 (.loop (zq [zB .lss 20 19 21] (.seq (.cond (.tmp 21) .skip (.exit 0)) (.seq (.block 1 (zq [zJ 3 18 20 22,zN 3 22 23,zX [zu,zi,zi] 7,zS 3 7 23] (zq [zM 0 24,zF 0 7 25,zL 25 26,zM 4 27,zB .sub 26 27 28,zC 235 [24,28] 29] (zq [zM 0 30,zF 1 7 31,zL 31 32,zK .u64 32 33,zC 235 [30,33] 34] (zq [zM 0 35,zF 2 7 36,zL 36 37,zM 5 38,zB .sub 37 38 39,zI .sub 39 1 40,zK .u64 40 41,zC 235 [35,41] 42] (.reg [zN 3 7 43,zC 75 [43] 44,zF 2 7 45,zL 45 46,zM 44 4,zM 46 5] [(0,3),(1,3)])))))) (.reg [zI .add 20 1 47,zM 47 20] []))))))))))) [] 48:=ki
theorem UT:Is Tryz.prog Tryz.f184 (zq [zV zi 4] (zq [zM 1 7,zC 38 [7] 8,zX [zu,zu,zn] 5,zS 3 5 8] (zq [zM 1 9,zC 45 [9] 10] (.seq (zq [zM 1 11,zC 83 [11] 12,zQ 12 13] (zc 13 (zq [zV zi 4] .ret))) (zq [zM 0 14,zH 14 15,zF 9 15 16,zL 16 17,zU 17 18,zM 18 6] (.seq (.block 0 (zq [zM 6 20,zI .eql 20 16 21,zM 21 19] (.cond (.tmp 19) (zq [zV (.int .i64 2) 4] .ret) (.seq (.reg [zF 0 5 23,zL 23 24,zM 0 25,zH 25 26,zF 5 26 27,zL 27 28,zB .gtr 24 28 29,zM 29 30,zZ 30 (zM 6 31),zZ 30 (zI .gtr 31 0 32),zZ 30 (zM 32 33),zT 33 (zF 0 5 34),zT 33 (zL 34 35),zT 33 (zM 0 36),(.some (33,.true),(.nilc (.tmp 36),.some 37)),zT 33 (zF 6 37 38),zT 33 (zF 0 38 39),zT 33 (zL 39 40),zT 33 (zB .lss 35 40 41),zT 33 (zM 41 42),zZ 42 (zF 1 5 43),zZ 42 (zL 43 44),zZ 42 (zM 0 45),(.some (42,.false),(.nilc (.tmp 45),.some 46)),zZ 42 (zF 6 46 47),zZ 42 (zN 3 47 48),zZ 42 (zC 78 [48] 49),zZ 42 (zB .lss 44 49 50),(.some (33,.true),(.pick (.tmp 42) (.const (.bool .true)) (.tmp 50),.some 51)),(.some (30,.false),(.pick (.tmp 33) (.tmp 51) (.const (.bool .false)),.some 52)),zO 30 52 53,zM 53 22] [(1,5),(12,17),(21,25),(21,26)]) (zc 22 (zq [zV (.int .i64 13) 4] .ret)))))) (.seq (.reg [zM 0 54,zM 0 55,zH 55 56,zF 9 56 57,zL 57 58,zF 1 5 59,zL 59 60,zF 2 5 61,zL 61 62,zU 62 63,zM 0 64,zH 64 65,zF 2 65 66,zL 66 67,zD [zu,zi,zi] [(0,(1,.tmp 60)),(1,(1,.tmp 63)),(2,(1,.tmp 67))] 68,zW (.bsl 3 [.tmp 68]) 69,zP 3 24 58 69 70,zH 54 71,zF 9 71 72,zS 1 72 70] [(4,6),(4,8),(6,8),(4,13),(6,13),(8,13)]) (.seq (.reg [zM 0 73,zF 0 5 74,zL 74 75,zF 1 5 76,zL 76 77,zF 2 5 78,zL 78 79,zU 79 80,zW (.mksl 2 48 (.tmp 80) (.tmp 80)) 81,zD [zu,zu,zn] [(0,(1,.tmp 75)),(1,(1,.tmp 77)),(2,(1,.tmp 81))] 82,zH 73 83,zF 6 83 84,zS 3 84 82] [(2,4),(2,6),(4,6),(2,8),(4,8)]) (.seq (.reg [zM 0 85,zM 0 86,zH 86 87,zF 18 87 88,zL 88 89,zM 0 90,zH 90 91,zF 2 91 92,zL 92 93,zN 3 5 94,zD [zi,zi,zi,zi,zu,zu,zu,zi,zi,zn,zn,zn,zu,zu,zu,zu,zn,zu,zu,zn] [(0,(1,zk 1)),(1,(1,.tmp 93)),(17,(3,.tmp 94))] 95,zW (.bsl 20 [.tmp 95]) 96,zP 20 240 89 96 97,zH 85 98,zF 18 98 99,zS 1 99 97] [(4,8),(4,9),(8,9)]) (zq [zV zi 4] .ret)))))))))) [.tmp 4] 100:=ki
theorem Ahk:Is Tryz.prog Tryz.f187 (zq [zY 0 2,zX [zn,zi,zi,zi] 4,zV zn 5] (.seq (zq [zF 2 2 7,zF 0 7 8,zL 8 9,zI .neq 9 0 10] (zc 10 (zq [zN 4 2 11,zS 4 4 11,zV zn 5] .ret))) (.seq (zq [zM 1 12,zI .lss 12 0 13] (zc 13 (zq [zN 4 2 14,zF 1 2 15,zL 15 16,zR 119 [.tmp 14,zk 17,.tmp 16] 17,zS 4 4 17,zV zn 5] .ret))) (.seq (zq [zM 1 18,zF 0 2 19,zL 19 20,zU 20 21,zF 1 2 22,zL 22 23,zB .sub 21 23 24,zB .gtr 18 24 25] (zc 25 (zq [zN 4 2 26,zF 0 2 27,zL 27 28,zU 28 29,zR 119 [.tmp 26,zk 1,.tmp 29] 30,zS 4 4 30,zV zn 5] .ret))) (zq [zV zn 6] (zq [zM 6 31,zF 0 2 32,zL 32 33,zF 1 2 34,zL 34 35,zF 1 2 36,zL 36 37,zM 1 38,zB .add 37 38 39,zW (.slice 1 (.tmp 33) (.some (.tmp 35)) (.some (.tmp 39)) none) 40,zP 1 1 31 40 41,zM 41 6] (zq [zF 1 2 42,zL 42 43,zM 1 44,zB .add 43 44 45,zF 1 2 46,zS 1 46 45] (zq [zN 4 2 47,zM 6 48,zS 4 4 47,zM 48 5] .ret)))))))) [.cell 4 (.some 4),.tmp 5] 49:=ki
theorem Ass:Is Tryz.prog Tryz.f188 (zq [zV (.int .u32 0) 4] (.seq (zq [zV zi 5] (.block 0 (.loop (.seq (zq [zM 5 6,zM 1 7,zU 7 8,zB .lss 6 8 9] (.cond (.tmp 9) .skip (.exit 0))) (.seq (.block 1 (.reg [zM 0 12,zM 1 13,zM 5 14,zJ 1 13 14 15,zL 15 16,zC 245 [12,16] 17,zM 17 0] [])) (.reg [zM 5 10,zI .add 10 1 11,zM 11 5] [])))))) (zq [zM 0 18,zM 18 4] .ret))) [.tmp 4] 19:=ki
theorem Asp:Is Tryz.prog Tryz.f194 (zq [zV (.int .u32 0) 4] (zq [zC 247 [] 8,zX [.int .u32 0,.int .u32 0,.int .u32 0,.int .u32 0,.int .u32 0,.int .u32 0,.int .u32 0,.int .u32 0,.int .u32 0,.int .u32 0,.int .u32 0,.int .u32 0,.int .u32 0,.int .u32 0,.int .u32 0,.int .u32 0] 5,zS 16 5 8] (.seq (zq [zM 1 9,zU 9 10,zV zi 11] (.block 0 (.loop (zq [zB .lss 11 10 12] (.seq (.cond (.tmp 12) .skip (.exit 0)) (.seq (.block 1 (zq [zJ 1 9 11 13,zL 13 14,zM 14 7] (zq [zM 0 15,zM 7 16,zK .u32 16 17,zB .xor 15 17 18,zM 18 0] (zq [zM 0 19,zW (.bin .shr (.tmp 19) (.const (.int .u64 4))) 20,zM 0 21,zW (.bin .and (.tmp 21) (.const (.int .u32 15))) 22,zW (.aadr 16 1 (.tmp 5) (.tmp 22)) 23,zL 23 24,zB .xor 20 24 25,zM 25 0] (.reg [zM 0 26,zW (.bin .shr (.tmp 26) (.const (.int .u64 4))) 27,zM 0 28,zW (.bin .and (.tmp 28) (.const (.int .u32 15))) 29,zW (.aadr 16 1 (.tmp 5) (.tmp 29)) 30,zL 30 31,zB .xor 27 31 32,zM 32 0] []))))) (.reg [zI .add 11 1 33,zM 33 11] []))))))) (zq [zM 0 34,zM 34 4] .ret)))) [.tmp 4] 35:=ki
theorem Aso:Is Tryz.prog Tryz.f195 (zq [zV (.int .u32 0) 0] (zq [zV (.int .u32 4294967295) 0] .ret)) [.tmp 0] 1:=ki
theorem Cf:Is Tryz.prog Tryz.f212 (zq [zY 0 1,zV (.bool .false) 2] (zq [zF 1 1 5,zL 5 6,zI .geq 6 0 7,zM 7 8,zT 8 (zF 1 1 9),zT 8 (zL 9 10),zT 8 (zI .leq 10 16 11),zA 8 11 12,zM 12 13,zT 13 (zF 2 1 14),zT 13 (zL 14 15),zT 13 (zF 1 1 16),zT 13 (zL 16 17),zT 13 (zB .geq 15 17 18),zA 13 18 19,zM 19 20,zT 20 (zF 2 1 21),zT 20 (zL 21 22),zT 20 (zF 1 1 23),zT 20 (zL 23 24),zT 20 (zI .mul 24 16 25),zT 20 (zB .leq 22 25 26),zA 20 26 27,zM 27 3] (zq [zF 5 1 28,zL 28 29,zI .geq 29 1 30,zM 30 31,zT 31 (zF 5 1 32),zT 31 (zL 32 33),zT 31 (zI .leq 33 1099511627775 34),zA 31 34 35,zM 35 36,zT 36 (zF 6 1 37),zT 36 (zL 37 38),zT 36 (zI .geq 38 1 39),zA 36 39 40,zM 40 41,zT 41 (zF 6 1 42),zT 41 (zL 42 43),zT 41 (zI .leq 43 2097152 44),zA 41 44 45,zM 45 4] (zq [zF 0 1 46,zL 46 47,zC 95 [47] 48,zM 48 49,zT 49 (zM 3 50),zA 49 50 51,zM 51 52,zT 52 (zM 4 53),zA 52 53 54,zM 54 55,zT 55 (zN 7 1 56),zT 55 (zC 251 [56] 57),zA 55 57 58,zM 58 2] .ret)))) [.tmp 2] 59:=ki
theorem Ash:Is Tryz.prog Tryz.f224 (zq [zY 0 1,zV zu 2] (zq [zF 0 1 3,zL 3 4,zM 4 2] .ret)) [.tmp 2] 5:=ki
theorem Asf:Is Tryz.prog Tryz.f229 (zq [zV zi 2] (zq [zV (.int .i64 1) 3] (.seq (.block 0 (.loop (.seq (zq [zM 0 4,zW (.bin .geq (.tmp 4) (.const (.int .u64 128))) 5] (.cond (.tmp 5) .skip (.exit 0))) (.block 1 (zq [zM 0 6,zW (.bin .shr (.tmp 6) (.const (.int .u64 7))) 7,zM 7 0] (.reg [zM 3 8,zI .add 8 1 9,zM 9 3] [])))))) (zq [zM 3 10,zM 10 2] .ret)))) [.tmp 2] 11:=ki
theorem XG:Is Tryz.prog Tryz.f230 (zq [zY 0 1,zV (.bool .false) 2] (zq [zF 0 1 4,zL 4 5,zI .geq 5 1 6,zM 6 7,zT 7 (zF 0 1 8),zT 7 (zL 8 9),zT 7 (zI .leq 9 3 10),zA 7 10 11,zM 11 3] (zq [zM 3 12,zM 12 13,zT 13 (zF 1 1 14),zT 13 (zL 14 15),zT 13 (zC 95 [15] 16),zA 13 16 17,zM 17 18,zT 18 (zF 2 1 19),zT 18 (zL 19 20),zT 18 (zC 166 [20] 21),zA 18 21 22,zM 22 23,zT 23 (zF 0 1 24),zT 23 (zL 24 25),zT 23 (zC 152 [25] 26),zT 23 (zM 26 27),zZ 27 (zF 2 1 28),zZ 27 (zL 28 29),(.some (27,.false),(.bin .eql (.tmp 29) (.const (.int .u64 0)),.some 30)),(.some (23,.true),(.pick (.tmp 27) (.const (.bool .true)) (.tmp 30),.some 31)),zA 23 31 32,zM 32 2] .ret))) [.tmp 2] 33:=ki
theorem Ase:Is Tryz.prog Tryz.f232 (zq [zV zi 2] (.seq (zq [zM 0 3,zW (.eqp .false (.tmp 3) (.const (.pointer none))) 4] (zc 4 (zq [zV (.int .i64 19) 2] .ret))) (zq [zM 0 5,zH 5 6,zF 2 6 7,zL 7 8,zM 8 2] .ret))) [.tmp 2] 9:=ki
theorem Asd:Is Tryz.prog Tryz.f233 (zq [zV zi 2] (zq [zM 0 3,zW (.mx .true (.tmp 3) (zk 0)) 4,zM 4 0] (zq [zM 0 5,zK .u64 5 6,zC 229 [6] 7,zM 0 8,zB .add 7 8 9,zM 9 2] .ret))) [.tmp 2] 10:=ki
theorem Ao3:Is Tryz.prog Tryz.f240 (.seq (zq [zM 1 4,zU 4 5,zI .gtr 5 2097152 6] (zc 6 (zq [zM 0 7,zR 231 [.tmp 7,zk 2] 8] .ret))) (zq [zM 0 9,zM 1 10,zC 261 [9,10] 11] (.reg [zM 0 12,zM 1 13,zC 129 [13] 14,zK .u64 14 15,zR 220 [.tmp 12,.tmp 15,zk 4] 16] []))) [] 17:=ki
theorem Ahe:Is Tryz.prog Tryz.f244 (zq [zY 0 1,zX [zn,zi,zi,zi] 2,zV zu 3] (.seq (zq [zF 2 1 7,zF 0 7 8,zL 8 9,zI .neq 9 0 10] (zc 10 (zq [zN 4 1 11,zS 4 2 11,zV zu 3] .ret))) (zq [zF 0 1 13,zL 13 14,zF 1 1 15,zL 15 16,zW (.slice 1 (.tmp 14) (.some (.tmp 16)) none none) 17,zC 263 [17] 18,zM 18 12,zE 12 0 19,zE 12 1 20,zE 12 2 21,zX [zi,zi] 6,zM 19 4,zM 20 5,zS 2 6 21] (.seq (zq [zF 0 6 22,zL 22 23,zI .eql 23 0 24] (zc 24 (zq [zF 1 1 25,zL 25 26,zM 5 27,zB .add 26 27 28,zF 1 1 29,zS 1 29 28] (zq [zN 4 1 30,zM 4 31,zS 4 2 30,zM 31 3] .ret)))) (.seq (zq [zF 0 6 32,zL 32 33,zI .eql 33 1 34] (.cond (.tmp 34) (.reg [zF 0 1 35,zL 35 36,zU 36 37,zF 1 1 38,zS 1 38 37] []) (.reg [zF 1 1 39,zL 39 40,zF 1 6 41,zL 41 42,zB .add 40 42 43,zI .add 43 1 44,zF 1 1 45,zS 1 45 44] []))) (zq [zF 0 6 46,zL 46 47,zF 1 1 48,zL 48 49,zC 189 [47,49] 50,zF 2 1 51,zS 2 51 50] (.seq (zq [zF 0 6 52,zL 52 53,zI .neq 53 1 54] (zc 54 (.reg [zF 1 1 55,zL 55 56,zI .sub 56 1 57,zF 2 1 58,zF 1 58 59,zS 1 59 57] []))) (zq [zN 4 1 60,zS 4 2 60,zV zu 3] .ret)))))))) [.cell 2 (.some 4),.tmp 3] 61:=ki
theorem Acc:Is Tryz.prog Tryz.f251 (zq [zY 0 1,zV (.bool .false) 2] (.seq (zq [zF 1 1 3,zL 3 4,zI .eql 4 0 5] (zc 5 (zq [zF 3 1 6,zL 6 7,zW (.bin .eql (.tmp 7) (.const (.int .u64 0))) 8,zM 8 9,zT 9 (zF 4 1 10),zT 9 (zL 10 11),(.some (9,.true),(.bin .eql (.tmp 11) (.const (.int .u64 0)),.some 12)),zA 9 12 13,zM 13 2] .ret))) (zq [zF 3 1 14,zL 14 15,zF 4 1 16,zL 16 17,zB .lss 15 17 18,zM 18 19,zT 19 (zF 4 1 20),zT 19 (zL 20 21),(.some (19,.true),(.bin .leq (.tmp 21) (.const (.int .u64 4611686018427387904)),.some 22)),zA 19 22 23,zM 23 24,zT 24 (zF 4 1 25),zT 24 (zL 25 26),zT 24 (zF 3 1 27),zT 24 (zL 27 28),zT 24 (zB .sub 26 28 29),zT 24 (zF 2 1 30),zT 24 (zL 30 31),(.some (24,.true),(.cvt .u64 (.tmp 31),.some 32)),zT 24 (zB .geq 29 32 33),zA 24 33 34,zM 34 2] .ret))) [.tmp 2] 35:=ki
theorem Aov:Is Tryz.prog Tryz.f260 (zq [zV zn 2,zV (.bool .false) 3] (zq [zM 0 7,zC 272 [7] 8,zM 8 6,zE 6 0 9,zE 6 1 10,zM 9 4,zM 10 5] (.seq (zq [zM 5 11,zI .neq 11 0 12,zM 12 13,zZ 13 (zM 4 14),zZ 13 (zU 14 15),zZ 13 (zC 233 [15] 16),zZ 13 (zM 0 17),zZ 13 (zU 17 18),zZ 13 (zB .geq 16 18 19),zO 13 19 20] (zc 20 (zq [zV zn 2,zV (.bool .false) 3] .ret))) (zq [zM 4 21,zM 21 2,zV (.bool .true) 3] .ret)))) [.tmp 2,.tmp 3] 22:=ki
theorem Ar5:Is Tryz.prog Tryz.f261 (zq [zM 0 4,zM 1 5,zU 5 6,zK .u64 6 7,zC 235 [4,7] 8] (.reg [zM 0 9,zM 1 10,zC 215 [9,10] 11] [])) [] 12:=ki
theorem Acb:Is Tryz.prog Tryz.f264 (zq [zV (.bool .false) 2,zV zi 3] (zq [zM 0 9,zC 44 [9] 10,zM 10 4] (zq [zM 0 11,zC 147 [11] 12,zM 12 5] (.seq (zq [zM 0 13,zC 83 [13] 14,zQ 14 15] (zc 15 (zq [zV (.bool .false) 2,zV zi 3] .ret))) (zq [zM 5 16,zW (.bin .rem (.tmp 16) (.const (.int .u64 2))) 17,zW (.bin .eql (.tmp 17) (.const (.int .u64 1))) 18,zM 18 6,zV (.int .i64 1) 7,zV (.int .i64 1048576) 8] (.seq (zq [zM 6 19] (zc 19 (.reg [zV (.int .i64 4) 7,zV (.int .i64 1048576) 8] []))) (.seq (zq [zM 5 20,zW (.bin .quo (.tmp 20) (.const (.int .u64 2))) 21,zM 8 22,zM 7 23,zB .sub 22 23 24,zK .u64 24 25,zB .gtr 21 25 26] (zc 26 (zq [zM 0 27,zM 4 28,zR 81 [.tmp 27,zk 2,.tmp 28] 29] (zq [zV (.bool .false) 2,zV zi 3] .ret)))) (zq [zM 6 30,zM 5 31,zW (.bin .quo (.tmp 31) (.const (.int .u64 2))) 32,zK .i64 32 33,zM 7 34,zB .add 33 34 35,zM 30 2,zM 35 3] .ret)))))))) [.tmp 2,.tmp 3] 36:=ki
theorem Aot:Is Tryz.prog Tryz.f270 (zq [zV zi 4] (zq [zM 0 11,zM 1 12,zC 255 [11,12] 13,zM 13 10,zE 10 0 14,zE 10 1 15,zM 14 5,zM 15 6] (.seq (zq [zM 6 16,zQ 16 17] (zc 17 (zq [zV zi 4] .ret))) (zq [zM 1 18,zU 18 19,zK .u64 19 20,zC 229 [20] 21,zM 21 7] (.seq (zq [zM 5 22,zU 22 23,zV zi 24] (.block 0 (.loop (zq [zB .lss 24 23 25] (.seq (.cond (.tmp 25) .skip (.exit 0)) (.seq (.block 1 (zq [zJ 1 22 24 26,zL 26 27,zM 27 9] (.reg [zM 7 28,zM 9 29,zC 229 [29] 30,zB .add 28 30 31,zM 31 7] []))) (.reg [zI .add 24 1 32,zM 32 24] []))))))) (zq [zM 7 33,zM 33 4] .ret)))))) [.tmp 4] 34:=ki
theorem Alu:Is Tryz.prog Tryz.f280 (zq [zY 1 3] (.block 0 (zq [zN 3 3 19,zC 286 [19] 20,zQ 20 21,zM 21 18] (.cond (.tmp 18) (.reg [zM 0 22,zR 231 [.tmp 22,zk 3] 23] []) (zq [zF 1 3 25,zL 25 26,zI .eql 26 0 27,zM 27 24] (.cond (.tmp 24) (zq [zM 0 28,zF 0 3 29,zL 29 30,zU 30 31,zI .sub 31 1 32,zK .u64 32 33,zW (.bin .mul (.tmp 33) (.const (.int .u64 2))) 34,zC 235 [28,34] 35] (.reg [zM 0 36,zF 0 3 37,zL 37 38,zC 215 [36,38] 39] [])) (zq [zM 0 4,zF 2 3 5,zL 5 6,zI .sub 6 4 7,zK .u64 7 8,zW (.bin .mul (.tmp 8) (.const (.int .u64 2))) 9,zW (.bin .add (.tmp 9) (.const (.int .u64 1))) 10,zC 235 [4,10] 11] (.reg [zM 0 12,zF 1 3 13,zL 13 14,zI .sub 14 1 15,zK .u64 15 16,zC 235 [12,16] 17] [])))))))) [] 40:=ki
theorem Arw:Is Tryz.prog Tryz.f282 (zq [zV zi 4] (zq [zV zi 5] (.seq (.block 0 (.loop (.seq (zq [zM 0 6,zC 287 [6] 7,zM 1 8,zB .lss 7 8 9,zM 9 10,zT 10 (zM 0 11),zT 10 (zC 288 [11] 12),zA 10 12 13] (.cond (.tmp 13) .skip (.exit 0))) (.block 1 (.reg [zM 5 14,zI .add 14 1 15,zM 15 5] []))))) (zq [zM 5 16,zM 16 4] .ret)))) [.tmp 4] 17:=ki
theorem Aop:Is Tryz.prog Tryz.f285 (zq [zV zi 4,zV zi 5] (.seq (zq [zM 1 6,zI .lss 6 4 7] (zc 7 (zq [zV zi 4,zV zi 5] .ret))) (zq [zM 0 8,zM 1 9,zM 8 4,zM 9 5] .ret))) [.tmp 4,.tmp 5] 10:=ki
theorem RB:Is Tryz.prog Tryz.f286 (zq [zY 0 1,zV (.bool .false) 2] (zq [zF 0 1 4,zL 4 5,zU 5 6,zM 6 3] (.seq (.block 0 (.seq (.block 3 (.block 2 (.seq (.block 1 (.seq (.seq (zq [zF 1 1 8,zL 8 9,zI .eql 9 0 10,zM 10 7] (zc 7 (.exit 1))) (.seq (zq [zM 3 12,zI .gtr 12 0 13,zM 13 11] (zc 11 (.exit 2))) (zq [zF 1 1 15,zL 15 16,zI .lss 16 0 17,zM 17 18,zZ 18 (zF 1 1 19),zZ 18 (zL 19 20),zZ 18 (zI .gtr 20 65536 21),zO 18 21 22,zM 22 14] (zc 14 (.exit 3))))) (.exit 0))) (.seq (zq [zF 2 1 23,zL 23 24,zI .eql 24 0 25,zM 25 26,zT 26 (zM 3 27),zT 26 (zI .geq 27 1 28),zA 26 28 29,zM 29 30,zT 30 (zM 3 31),zT 30 (zI .leq 31 1048576 32),zA 30 32 33,zM 33 2] .ret) (.exit 0))))) (.seq (zq [zV (.bool .false) 2] .ret) (.exit 0)))) (zq [zF 2 1 34,zL 34 35,zI .geq 35 4 36,zM 36 37,zT 37 (zF 2 1 38),zT 37 (zL 38 39),zT 37 (zI .leq 39 1048576 40),zA 37 40 41,zM 41 2] .ret)))) [.tmp 2] 42:=ki
theorem Ahc:Is Tryz.prog Tryz.f289 (.seq (zq [zL 1 8,zW (.eqp .false (.tmp 8) (.const (.pointer none))) 9] (zc 9 .ret)) (.seq (.reg [zL 1 11,zH 11 12,zF 0 12 13,zL 13 14,zL 2 15,zC 290 [14,15] 16,zM 16 10,zE 10 0 17,zE 10 1 18,zM 17 4,zM 18 5] [(0,4),(3,4)]) (.seq (zq [zM 5 19,zQ 19 20] (zc 20 .ret)) (zq [zL 1 21,zH 21 22,zF 1 22 23,zL 23 24,zM 4 25,zW (.mlook (.tmp 24) (.tmp 25)) 26,zM 26 6] (.block 0 (.loop (.seq (zq [zM 6 27,zI .gtr 27 0 28] (.cond (.tmp 28) .skip (.exit 0))) (.seq (.block 1 (zq [zM 6 37,zI .sub 37 1 38,zM 38 7] (.seq (zq [zL 2 39,zM 7 40,zB .sub 39 40 41,zI .gtr 41 65536 42] (zc 42 .ret)) (zq [zM 7 43,zL 2 44,zB .lss 43 44 45,zM 45 46,zT 46 (zM 0 47),zT 46 (zM 7 48),(.some (46,.true),(.call (.tmp 47) [.tmp 48],.some 49)),(.some (46,.true),(.un .not (.tmp 49),.some 50)),zA 46 50 51] (zc 51 .ret))))) (.reg [zL 1 29,zH 29 30,zF 2 30 31,zL 31 32,zM 6 33,zI .sub 33 1 34,zJ 1 32 34 35,zL 35 36,zM 36 6] []))))))))) [] 52:=ki
theorem b17:Is Tryz.prog Tryz.f17 (zq [zY 0 1,zV zn 2,zV zi 3] (.seq (zq [zN 2 1 4,zC 52 [4] 5,zQ 5 6] (zc 6 (zq [zV zn 2,zV (.int .i64 3) 3] .ret))) (zq [zN 2 1 7,zC 53 [7] 8,zW (.fld 0 none (.tmp 8)) 9,zM 9 2,zV zi 3] .ret))) [.tmp 2,.tmp 3] 10:=ki
theorem b20:Is Tryz.prog Tryz.f20 (zq [zV zn 4] (.seq (zq [zM 0 7,zW (.eqp .false (.tmp 7) (.const (.pointer none))) 8] (zc 8 (zq [zV zn 4] .ret))) (zq [zM 0 9,zH 9 10,zF 18 10 11,(none,(.store 1 (.tmp 11) (.const (.slice none 0 0)),none))] (.seq (zq [zV zi 5] (.block 0 (.loop (.seq (zq [zM 5 12,zM 1 13,zU 13 14,zB .lss 12 14 15,zM 15 16,zT 16 (zM 0 17),zT 16 (zC 55 [17] 18),zA 16 18 19] (.cond (.tmp 19) .skip (.exit 0))) (.seq (.block 1 (.reg [zM 0 22,zM 1 23,zM 5 24,zJ 1 23 24 25,zL 25 26,zC 56 [22,26] 27] [])) (.reg [zM 5 20,zI .add 20 1 21,zM 21 5] [])))))) (zq [zM 0 28,zH 28 29,zF 18 29 30,zL 30 31,zM 31 6] (zq [zM 0 32,zH 32 33,zF 18 33 34,(none,(.store 1 (.tmp 34) (.const (.slice none 0 0)),none))] (zq [zM 6 35,zM 35 4] .ret))))))) [.tmp 4] 36:=ki
theorem b21:Is Tryz.prog Tryz.f21 (zq [zV zn 2] (.seq (zq [zM 0 4,zC 55 [4] 5,zQ 5 6] (zc 6 (zq [zV zn 2] .ret))) (zq [zM 0 7,zH 7 8,zF 3 8 9,zL 9 10,zD [zi,zi,zi,zi,zu,zu,zu,zi,zi,zn,zn,zn,zu,zu,zu,zu,zn,zu,zu,zn] [(0,(1,zk 3)),(1,(1,.tmp 10)),(2,(1,zk 1))] 11,zX [zi,zi,zi,zi,zu,zu,zu,zi,zi,zn,zn,zn,zu,zu,zu,zu,zn,zu,zu,zn] 3,zS 20 3 11] (.seq (zq [zM 0 12,zC 57 [12] 13] (zc 13 (.reg [zF 0 3 14,(none,(.store 1 (.tmp 14) (zk 2),none)),zF 2 3 15,(none,(.store 1 (.tmp 15) (zk 0),none))] []))) (zq [zM 0 16,zM 0 17,zF 0 3 18,zL 18 19,zH 16 20,zF 4 20 21,zS 1 21 19,zH 17 22,zF 1 22 23,(none,(.store 1 (.tmp 23) (.const (.slice none 0 0)),none))] (zq [zN 20 3 24,zW (.bsl 20 [.tmp 24]) 25,zM 25 2] .ret)))))) [.tmp 2] 26:=ki
theorem b28:Is Tryz.prog Tryz.f28 (zq [zV zn 2] (zq [zC 18 [] 5,zM 5 3] (zq [zM 3 6,zM 0 7,zC 20 [6,7] 8,zM 8 4] (zq [zM 4 9,zM 3 10,zC 21 [10] 11,zP 20 240 9 11 12,zM 12 2] .ret)))) [.tmp 2] 13:=ki
theorem b31:Is Tryz.prog Tryz.f31 (zq [zY 0 1,zV (.bool .false) 2] (zq [zF 0 1 3,zL 3 4,zI .eql 4 0 5,zM 5 2] .ret)) [.tmp 2] 6:=ki
theorem b38:Is Tryz.prog Tryz.f38 (zq [zY 0 1,zX [zu,zu,zn] 2] (zq [zL 1 3,zW (.mkf 86 [] [.tmp 1]) 4,zC 85 [3,4] 5,zS 3 2 5] .ret)) [.cell 2 (.some 3)] 6:=ki
theorem b41:Is Tryz.prog Tryz.f41 (zq [zV (.pointer none) 2] (zq [zM 0 3,zM 0 4,zU 4 5,zM 0 6,zU 6 7,zW (.slice 1 (.tmp 3) none (.some (.tmp 5)) (.some (.tmp 7))) 8,zD [zn,zi,zi,zi] [(0,(1,.tmp 8))] 9,zY 9 10,zM 10 2] .ret)) [.tmp 2] 11:=ki
theorem b42:Is Tryz.prog Tryz.f42 (zq [zV zn 4] (zq [zM 0 8,zM 1 9,zC 90 [9] 10,zC 89 [8,10] 11,zM 11 5] (zq [zM 0 12,zC 44 [12] 13,zM 13 6] (zq [zM 0 14,zR 91 [.tmp 14,zk 4] 15,zM 15 7] (zq [zM 5 16,zM 7 17,zM 0 18,zW (.mkf 81 [.tmp 18] []) 19,zM 6 20,zC 92 [16,17,19,20] 21] (.seq (zq [zM 0 22,zC 83 [22] 23,zQ 23 24] (zc 24 (zq [zV zn 4] .ret))) (zq [zM 5 25,zM 25 4] .ret))))))) [.tmp 4] 26:=ki
theorem b47:Is Tryz.prog Tryz.f47 (zq [zY 0 1,zV (.bool .false) 2] (.seq (zq [zF 0 1 5,zL 5 6,zC 95 [6] 7,zQ 7 8,zM 8 9,zZ 9 (zF 1 1 10),zZ 9 (zL 10 11),zZ 9 (zF 2 1 12),zZ 9 (zL 12 13),zZ 9 (zU 13 14),zZ 9 (zC 96 [11,14] 15),(.some (9,.false),(.un .not (.tmp 15),.some 16)),zO 9 16 17,zM 17 18,zZ 18 (zF 2 1 19),zZ 18 (zL 19 20),zZ 18 (zC 97 [20] 21),zZ 18 (zI .gtr 21 1048576 22),zO 18 22 23] (zc 23 (zq [zV (.bool .false) 2] .ret))) (.seq (zq [zF 2 1 24,zL 24 25,zU 25 26,zV zi 27] (.block 0 (.loop (zq [zB .lss 27 26 28] (.seq (.cond (.tmp 28) .skip (.exit 0)) (.seq (.block 1 (zq [zM 27 29,zJ 2 25 27 30,zN 2 30 31,zX [zn,zn] 4,zM 29 3,zS 2 4 31] (zq [zF 1 1 32,zL 32 33,zM 3 34,zK .u64 34 35,zB .add 33 35 36,zN 2 4 37,zC 98 [36,37] 38,zQ 38 39] (zc 39 (zq [zV (.bool .false) 2] .ret))))) (.reg [zI .add 27 1 40,zM 40 27] []))))))) (zq [zV (.bool .true) 2] .ret)))) [.tmp 2] 41:=ki
theorem b53:Is Tryz.prog Tryz.f53 (zq [zY 0 1,zX [zn,zn,zu,zi,zi,zu,zu,zi,zi] 2] (zq [zX [zn,zn,zu,zi,zi,zu,zu,zi,zi] 3] (zq [zF 0 1 14,zL 14 15,zD [zi,zu,zu] [(0,(1,zk 3)),(1,(1,.tmp 15))] 16,zC 107 [16] 17,zM 17 13,zE 13 0 18,zE 13 1 19,zF 0 3 20,zS 1 20 18] (.seq (zq [zF 1 1 21,zL 21 22,zU 22 23,zV zi 24] (.block 0 (.loop (zq [zB .lss 24 23 25] (.seq (.cond (.tmp 25) .skip (.exit 0)) (.seq (.block 1 (zq [zJ 3 22 24 26,zN 3 26 27,zX [zu,zu,zn] 5,zS 3 5 27] (zq [zN 3 5 29,zC 108 [29] 30,zM 30 28,zE 28 0 31,zE 28 1 32,zM 31 6,zM 32 7] (zq [zF 1 3 33,zL 33 34,zF 1 5 35,zL 35 36,zF 2 5 37,zL 37 38,zU 38 39,zF 0 3 40,zL 40 41,zU 41 42,zD [zu,zi,zi] [(0,(1,.tmp 36)),(1,(1,.tmp 39)),(2,(1,.tmp 42))] 43,zW (.bsl 3 [.tmp 43]) 44,zP 3 24 34 44 45,zF 1 3 46,zS 1 46 45] (.reg [zF 0 3 47,zL 47 48,zM 6 49,zR 109 [.const (.int .u8 1),.tmp 49] 50,zP 1 1 48 50 51,zF 0 3 52,zS 1 52 51] [(1,3)]))))) (.reg [zI .add 24 1 53,zM 53 24] []))))))) (zq [zF 1 3 55,zL 55 56,zC 110 [56] 57,zM 57 54,zE 54 0 58,zE 54 1 59,zM 58 8,zM 59 9] (zq [zM 8 60,zR 109 [.const (.int .u8 2),.tmp 60] 61,zM 61 10] (zq [zF 0 1 62,zL 62 63,zF 1 3 64,zL 64 65,zF 0 3 66,zL 66 67,zU 67 68,zM 10 69,zU 69 70,zC 111 [63,65,68,70] 71,zF 2 3 72,zS 7 72 71] (zq [zF 2 3 74,zN 7 74 75,zC 112 [75] 76,zM 76 73,zE 73 0 77,zE 73 1 78,zM 77 11,zM 78 12] (zq [zF 0 3 79,zL 79 80,zM 10 81,zP 1 1 80 81 82,zM 11 83,zP 1 1 82 83 84,zF 0 3 85,zS 1 85 84] (zq [zN 9 3 86,zS 9 2 86] .ret)))))))))) [.cell 2 (.some 9)] 87:=ki
theorem b57:Is Tryz.prog Tryz.f57 (zq [zV (.bool .false) 2] (.seq (.reg [zM 0 3,zH 3 4,zF 17 4 5,zL 5 6,zI .gtr 6 0 7,zM 7 8,zT 8 (zM 0 9),(.some (8,.true),(.nilc (.tmp 9),.some 10)),zT 8 (zF 1 10 11),zT 8 (zL 11 12),zT 8 (zU 12 13),zT 8 (zI .eql 13 0 14),zA 8 14 15,zM 15 16,zT 16 (zM 0 17),(.some (16,.true),(.nilc (.tmp 17),.some 18)),zT 16 (zF 3 18 19),zT 16 (zL 19 20),zT 16 (zM 0 21),(.some (16,.true),(.nilc (.tmp 21),.some 22)),zT 16 (zF 10 22 23),zT 16 (zF 5 23 24),zT 16 (zL 24 25),zT 16 (zM 0 26),(.some (16,.true),(.nilc (.tmp 26),.some 27)),zT 16 (zF 10 27 28),zT 16 (zF 6 28 29),zT 16 (zL 29 30),zT 16 (zB .add 25 30 31),zT 16 (zM 0 32),(.some (16,.true),(.nilc (.tmp 32),.some 33)),zT 16 (zF 17 33 34),zT 16 (zL 34 35),zT 16 (zB .add 31 35 36),zT 16 (zC 115 [] 37),zT 16 (zB .add 36 37 38),zT 16 (zB .eql 20 38 39),zA 16 39 40,zM 40 2] [(17,22),(17,27),(22,27),(17,32),(22,32),(27,32),(17,34),(22,34),(27,34),(32,34)]) .ret)) [.tmp 2] 41:=ki
theorem b69:Is Tryz.prog Tryz.f69 (zq [zX [zu,zi,zi,zu,zu,zi,zi] 2,zV zi 3,zX [zi,zi] 4] (zq [zM 0 13,zC 144 [13] 14,zM 14 12,zE 12 0 15,zE 12 1 16,zX [zi,zi] 6,zM 15 5,zS 2 6 16] (.seq (zq [zN 2 6 17,zC 31 [17] 18,zQ 18 19] (zc 19 (.seq (.reg [zD [zu,zi,zi,zu,zu,zi,zi] [] 20,zN 2 6 21,zS 7 2 20,zV zi 3,zS 2 4 21] [(1,2)]) .ret))) (zq [zM 0 22,zU 22 23,zC 115 [] 24,zB .sub 23 24 25,zM 25 7] (zq [zM 7 26,zM 5 27,zB .sub 26 27 28,zM 28 8] (zq [zM 0 30,zM 8 31,zM 7 32,zW (.slice 1 (.tmp 30) (.some (.tmp 31)) (.some (.tmp 32)) none) 33,zR 13 [.tmp 33,zk 2097152] 34,zM 34 29,zE 29 0 35,zE 29 1 36,zE 29 2 37,zM 35 9,zM 36 10,zS 2 6 37] (.seq (.block 0 (zq [zN 2 6 39,zC 31 [39] 40,zQ 40 41,zM 41 38] (.cond (.tmp 38) (zq [zD [zu,zi,zi,zu,zu,zi,zi] [] 42,zN 2 6 43,zM 8 44,zC 73 [43,44] 45,zS 7 2 42,zV zi 3,zS 2 4 45] .ret) (zq [zM 10 47,zM 5 48,zB .lss 47 48 49,zM 49 46] (zc 46 (zq [zD [zu,zi,zi,zu,zu,zi,zi] [] 50,zM 8 51,zM 10 52,zB .add 51 52 53,zR 33 [zk 9,.tmp 53] 54,zS 7 2 50,zV zi 3,zS 2 4 54] .ret)))))) (zq [zM 9 56,zC 145 [56] 57,zM 57 55,zE 55 0 58,zE 55 1 59,zX [zu,zi,zi,zu,zu,zi,zi] 11,zS 7 11 58,zS 2 6 59] (.seq (zq [zN 2 6 60,zC 31 [60] 61,zQ 61 62] (zc 62 (zq [zD [zu,zi,zi,zu,zu,zi,zi] [] 63,zN 2 6 64,zM 8 65,zM 10 66,zB .add 65 66 67,zI .sub 67 4 68,zM 9 69,zU 69 70,zB .sub 68 70 71,zC 73 [64,71] 72,zS 7 2 63,zV zi 3,zS 2 4 72] .ret))) (zq [zN 7 11 73,zM 8 74,zD [zi,zi] [] 75,zS 7 2 73,zM 74 3,zS 2 4 75] .ret)))))))))) [.cell 2 (.some 7),.tmp 3,.cell 4 (.some 2)] 76:=ki
theorem b75:Is Tryz.prog Tryz.f75 (zq [zY 0 1,zV zu 2] (zq [zF 0 1 3,zL 3 4,zF 1 1 5,zL 5 6,zK .u64 6 7,zB .add 4 7 8,zM 8 2] .ret)) [.tmp 2] 9:=ki
theorem b76:Is Tryz.prog Tryz.f76 (zq [zX [zu,zu,zn] 6,zV zi 7,zX [zi,zi] 8] (zq [zX [zu,zu,zn] 9] (zq [zM 0 17,zR 13 [.tmp 17,zk 2097152] 18,zM 18 16,zE 16 0 19,zE 16 1 20,zE 16 2 21,zX [zi,zi] 12,zM 19 10,zM 20 11,zS 2 12 21] (.seq (zq [zN 2 12 22,zC 31 [22] 23,zQ 23 24] (zc 24 (.seq (.reg [zN 3 9 25,zN 2 12 26,zS 3 6 25,zV zi 7,zS 2 8 26] [(0,1),(1,2)]) .ret))) (zq [zM 10 27,zC 41 [27] 28,zM 28 13] (.seq (zq [zM 13 29,zC 146 [29] 30,zM 1 31,zB .neq 30 31 32] (zc 32 (.reg [zM 13 33,zR 81 [.tmp 33,zk 7,zk 0] 34] []))) (zq [zM 2 35,zM 13 36,zW (.call (.tmp 35) [.tmp 36]) 37,zX [zu,zu,zn] 14,zS 3 14 37] (zq [zM 13 38,zC 45 [38] 39] (.seq (zq [zM 13 40,zC 43 [40] 41,zM 11 42,zI .sub 42 4 43,zM 10 44,zU 44 45,zB .sub 43 45 46,zC 73 [41,46] 47,zX [zi,zi] 15,zS 2 15 47] (zq [zN 2 15 48,zC 31 [48] 49,zQ 49 50] (zc 50 (.seq (.reg [zN 3 9 51,zN 2 15 52,zS 3 6 51,zV zi 7,zS 2 8 52] [(0,1),(1,2)]) .ret)))) (zq [zN 3 14 53,zM 11 54,zD [zi,zi] [] 55,zS 3 6 53,zM 54 7,zS 2 8 55] .ret)))))))))) [.cell 6 (.some 3),.tmp 7,.cell 8 (.some 2)] 56:=ki
theorem b80:Is Tryz.prog Tryz.f80 (zq [zX [zi,zu,zu] 2] (zq [zM 0 6,zC 122 [6] 7,zD [zi,zu,zu] [(0,(1,.tmp 7))] 8,zX [zi,zu,zu] 3,zS 3 3 8] (zq [zM 0 9,zC 151 [9] 10,zF 1 3 11,zS 1 11 10] (.seq (zq [zF 0 3 12,zL 12 13,zC 152 [13] 14] (zc 14 (.reg [zM 0 15,zC 153 [15] 16,zF 2 3 17,zS 1 17 16] []))) (zq [zM 0 18,zC 44 [18] 19,zM 19 4] (zq [zM 0 20,zR 91 [.tmp 20,zk 4] 21,zM 21 5] (.seq (zq [zM 0 22,zC 83 [22] 23,zQ 23 24] (zc 24 (zq [zD [zi,zu,zu] [] 25,zS 3 2 25] .ret))) (.seq (zq [zM 5 26,zN 3 3 27,zC 154 [27] 28,zC 129 [28] 29,zK .u64 29 30,zB .neq 26 30 31] (zc 31 (zq [zM 0 32,zM 4 33,zR 81 [.tmp 32,zk 6,.tmp 33] 34] (zq [zD [zi,zu,zu] [] 35,zS 3 2 35] .ret)))) (zq [zN 3 3 36,zS 3 2 36] .ret))))))))) [.cell 2 (.some 3)] 37:=ki
theorem b85:Is Tryz.prog Tryz.f85 (zq [zX [zu,zu,zn] 4] (zq [zM 0 13,zC 151 [13] 14,zM 0 15,zC 153 [15] 16,zD [zu,zu,zn] [(0,(1,.tmp 14)),(1,(1,.tmp 16))] 17,zX [zu,zu,zn] 5,zS 3 5 17] (zq [zM 0 18,zC 44 [18] 19,zM 19 6] (zq [zM 0 20,zR 134 [.tmp 20,zk 16] 21,zM 21 7] (.seq (zq [zF 1 5 22,zL 22 23,zM 7 24,zC 96 [23,24] 25,zQ 25 26] (zc 26 (.reg [zM 0 27,zM 6 28,zR 81 [.tmp 27,zk 3,.tmp 28] 29] []))) (.seq (zq [zM 0 30,zC 83 [30] 31,zQ 31 32] (zc 32 (zq [zD [zu,zu,zn] [] 33,zS 3 4 33] .ret))) (zq [zM 0 35,zF 1 5 36,zL 36 37,zM 7 38,zC 162 [35,37,38] 39,zM 39 34,zE 34 0 40,zE 34 1 41,zM 40 8,zM 41 9] (zq [zM 0 42,zC 44 [42] 43,zM 43 6] (zq [zM 1 44,zW (.call (.tmp 44) []) 45,zM 45 10] (zq [zM 8 47,zM 9 48,zM 10 49,zC 163 [47,48,49] 50,zM 50 46,zE 46 0 51,zE 46 1 52,zM 51 11,zM 52 12] (.seq (zq [zM 12 53,zQ 53 54] (zc 54 (.reg [zM 0 55,zM 6 56,zR 81 [.tmp 55,zk 3,.tmp 56] 57] []))) (.seq (zq [zM 0 58,zC 83 [58] 59,zQ 59 60] (zc 60 (zq [zD [zu,zu,zn] [] 61,zS 3 4 61] .ret))) (zq [zM 11 62,zF 2 5 63,zS 1 63 62] (zq [zN 3 5 64,zS 3 4 64] .ret)))))))))))))) [.cell 4 (.some 3)] 65:=ki
theorem b88:Is Tryz.prog Tryz.f88 (zq [zY 0 2,zY 1 3,zV (.bool .false) 4] (zq [zF 0 2 5,zL 5 6,zF 0 3 7,zL 7 8,zB .eql 6 8 9,zM 9 10,zT 10 (zF 1 2 11),zT 10 (zL 11 12),zT 10 (zF 1 3 13),zT 10 (zL 13 14),zT 10 (zC 142 [12,14] 15),zA 10 15 16,zM 16 4] .ret)) [.tmp 4] 17:=ki
theorem b95:Is Tryz.prog Tryz.f95 (zq [zV (.bool .false) 2] (zq [zM 0 3,zW (.bin .geq (.tmp 3) (.const (.int .u64 1))) 4,zM 4 5,zT 5 (zM 0 6),(.some (5,.true),(.bin .lss (.tmp 6) (.const (.int .u64 4611686018427387904)),.some 7)),zA 5 7 8,zM 8 2] .ret)) [.tmp 2] 9:=ki
theorem b97:Is Tryz.prog Tryz.f97 (zq [zV zi 2] (zq [zV zi 3] (.seq (zq [zM 0 6,zU 6 7,zV zi 8] (.block 0 (.loop (zq [zB .lss 8 7 9] (.seq (.cond (.tmp 9) .skip (.exit 0)) (.seq (.block 1 (zq [zJ 2 6 8 10,zN 2 10 11,zX [zn,zn] 5,zS 2 5 11] (.reg [zM 3 12,zF 1 5 13,zL 13 14,zU 14 15,zB .add 12 15 16,zM 16 3] []))) (.reg [zI .add 8 1 17,zM 17 8] []))))))) (zq [zM 3 18,zM 18 2] .ret)))) [.tmp 2] 19:=ki
theorem b98:Is Tryz.prog Tryz.f98 (zq [zY 1 3,zV (.bool .false) 4] (zq [zM 0 5,zF 0 3 6,zL 6 7,zC 167 [5,7] 8,zM 8 9,zT 9 (zF 1 3 10),zT 9 (zL 10 11),zT 9 (zU 11 12),zT 9 (zI .leq 12 1048576 13),zA 9 13 14,zM 14 4] .ret)) [.tmp 4] 15:=ki
theorem Atf:Is Tryz.prog Tryz.f105 (zq [zY 0 1,zX [zu,zn] 2] (zq [zW (.bsl 1 []) 3,zF 1 1 4,zL 4 5,zP 1 8 3 5 6,zF 1 1 7,zS 1 7 6] (zq [zN 2 1 8,zS 2 2 8] .ret))) [.cell 2 (.some 2)] 9:=ki
theorem Atd:Is Tryz.prog Tryz.f108 (zq [zY 0 1,zV zn 2,zV zi 3] (zq [zN 3 1 5,zC 177 [5] 6,zC 173 [6] 7,zM 7 4] (zq [zM 4 8,zN 3 1 9,zC 178 [8,9] 10] (zq [zM 4 11,zC 176 [11] 12,zE 12 0 13,zE 12 1 14,zM 13 2,zM 14 3] .ret)))) [.tmp 2,.tmp 3] 15:=ki
theorem Atb:Is Tryz.prog Tryz.f111 (zq [zX [zu,zi,zi,zu,zu,zi,zi] 8] (zq [zM 0 10,zM 1 11,zU 11 12,zM 1 13,zC 150 [13] 14,zM 2 15,zM 3 16,zD [zu,zi,zi,zu,zu,zi,zi] [(0,(1,.tmp 10)),(1,(1,.tmp 12)),(2,(1,.tmp 14)),(5,(1,.tmp 15)),(6,(1,.tmp 16))] 17,zX [zu,zi,zi,zu,zu,zi,zi] 9,zS 7 9 17] (zq [zM 1 19,zC 149 [19] 20,zM 20 18,zE 18 0 21,zE 18 1 22,zF 3 9 23,zS 1 23 21,zF 4 9 24,zS 1 24 22] (zq [zN 7 9 25,zS 7 8 25] .ret)))) [.cell 8 (.some 7)] 26:=ki
theorem UV:Is Tryz.prog Tryz.f114 (zq [zV (.bool .false) 2,zX [zi,zi] 3] (zq [zM 0 13,zC 182 [13] 14,zM 14 12,zE 12 0 15,zE 12 1 16,zE 12 2 17,zE 12 3 18,zX [zi,zi] 7,zM 15 4,zM 16 5,zM 17 6,zS 2 7 18] (.seq (zq [zM 6 19,zQ 19 20] (zc 20 (zq [zN 2 7 21,zV (.bool .false) 2,zS 2 3 21] .ret))) (zq [zM 4 22,zC 41 [22] 23,zM 23 8] (zq [zW (.mov (.func 183)) 9] (.seq (zq [zM 8 24,zC 146 [24] 25] (.block 0 (zq [zW (.bin .eql (.tmp 25) (.const (.int .u8 1))) 29,zM 29 28] (.cond (.tmp 28) (.reg [zM 0 30,zW (.mkf 184 [.tmp 30] []) 31,zM 31 9] []) (zq [zW (.bin .eql (.tmp 25) (.const (.int .u8 2))) 33,zM 33 32] (.cond (.tmp 32) (.reg [zM 0 34,zW (.mkf 185 [.tmp 34] []) 35,zM 35 9] []) (.reg [zM 8 26,zR 81 [.tmp 26,zk 7,zk 0] 27] []))))))) (zq [zM 9 36,zM 8 37,zW (.call (.tmp 36) [.tmp 37]) 38,zM 38 10] (.seq (zq [zM 8 39,zC 43 [39] 40,zM 5 41,zC 73 [40,41] 42,zX [zi,zi] 11,zS 2 11 42] (zq [zN 2 11 43,zC 31 [43] 44,zQ 44 45] (zc 45 (zq [zN 2 11 46,zV (.bool .false) 2,zS 2 3 46] .ret)))) (zq [zM 10 47,zI .eql 47 0 48,zM 10 49,zR 33 [.tmp 49,zk 0] 50,zM 48 2,zS 2 3 50] .ret))))))))) [.tmp 2,.cell 3 (.some 2)] 51:=ki
theorem As9:Is Tryz.prog Tryz.f116 (zq [zY 0 2,zX [zn,zi,zi,zi] 4,zV zn 5] (zq [zN 4 2 9,zM 1 10,zC 186 [9,10] 11,zM 11 8,zE 8 0 12,zE 8 1 13,zX [zn,zi,zi,zi] 6,zS 4 6 12,zM 13 7] (zq [zN 4 6 14,zM 7 15,zC 187 [14,15] 16,zE 16 0 17,zE 16 1 18,zS 4 4 17,zM 18 5] .ret))) [.cell 4 (.some 4),.tmp 5] 19:=ki
theorem As2:Is Tryz.prog Tryz.f153 (zq [zV zu 2] (zq [zM 0 3,zR 213 [.tmp 3,.func 166] 4,zM 4 2] .ret)) [.tmp 2] 5:=ki
theorem Apl:Is Tryz.prog Tryz.f158 (zq [zY 1 4] (zq [zN 2 4 6,zM 2 7,zC 73 [6,7] 8,zS 2 4 8] (zq [zN 2 4 9,zC 31 [9] 10,zQ 10 11] (zc 11 (.reg [zM 0 12,zH 12 13,zF 0 13 14,zL 14 15,zF 0 4 16,zL 16 17,zF 1 4 18,zL 18 19,zC 81 [15,17,19] 20] [(3,5),(3,7),(5,7)]))))) [] 21:=ki
theorem XH:Is Tryz.prog Tryz.f163 (zq [zV zn 6,zV (.bool .false) 7] (.seq (zq [zM 1 13,zU 13 14,zM 0 15,zU 15 16,zB .neq 14 16 17] (zc 17 (zq [zV zn 6,zV (.bool .false) 7] .ret))) (zq [zW (.bsl 1 []) 18,zM 2 19,zP 1 1 18 19 20,zM 20 8] (zq [zV zn 9] (.seq (zq [zM 0 21,zU 21 22,zV zi 23] (.block 0 (.loop (zq [zB .lss 23 22 24] (.seq (.cond (.tmp 24) .skip (.exit 0)) (.seq (.block 1 (zq [zM 23 25,zJ 2 21 23 26,zN 2 26 27,zX [zn,zn] 11,zM 25 10,zS 2 11 27] (zq [zM 1 28,zM 10 29,zJ 1 28 29 30,zL 30 31,zM 31 12] (.seq (zq [zM 12 32,zI .lss 32 0 33,zM 33 34,zZ 34 (zM 12 35),zZ 34 (zM 8 36),zZ 34 (zU 36 37),zZ 34 (zB .gtr 35 37 38),zO 34 38 39] (zc 39 (zq [zV zn 6,zV (.bool .false) 7] .ret))) (zq [zF 0 11 40,zL 40 41,zC 51 [41] 42,zF 0 11 43,zS 1 43 42] (zq [zM 8 44,zM 12 45,zM 12 46,zW (.slice 1 (.tmp 44) none (.some (.tmp 45)) (.some (.tmp 46))) 47,zF 1 11 48,zS 1 48 47] (zq [zM 8 49,zM 12 50,zW (.slice 1 (.tmp 49) (.some (.tmp 50)) none none) 51,zM 51 8] (.reg [zM 9 52,zN 2 11 53,zW (.bsl 2 [.tmp 53]) 54,zP 2 48 52 54 55,zM 55 9] [])))))))) (.reg [zI .add 23 1 56,zM 56 23] []))))))) (.seq (zq [zM 8 57,zU 57 58,zI .gtr 58 0 59] (zc 59 (zq [zV zn 6,zV (.bool .false) 7] .ret))) (zq [zM 9 60,zM 60 6,zV (.bool .true) 7] .ret))))))) [.tmp 6,.tmp 7] 61:=ki
theorem Asy:Is Tryz.prog Tryz.f166 (zq [zV (.bool .false) 2] (zq [zM 0 3,zW (.bin .lss (.tmp 3) (.const (.int .u64 4611686018427387904))) 4,zM 4 2] .ret)) [.tmp 2] 5:=ki
theorem Aph:Is Tryz.prog Tryz.f168 (zq [zV zi 4] (.seq (zq [zM 0 7,zU 7 8,zV zi 9] (.block 0 (.loop (zq [zB .lss 9 8 10] (.seq (.cond (.tmp 10) .skip (.exit 0)) (.seq (.block 1 (zq [zM 9 11,zJ 2 7 9 12,zN 2 12 13,zX [zu,zn] 6,zM 11 5,zS 2 6 13] (zq [zM 1 14,zN 2 6 15,zW (.call (.tmp 14) [.tmp 15]) 16] (zc 16 (zq [zM 5 17,zM 17 4] .ret))))) (.reg [zI .add 9 1 18,zM 18 9] []))))))) (zq [zM 0 19,zU 19 20,zM 20 4] .ret))) [.tmp 4] 21:=ki
theorem Asv:Is Tryz.prog Tryz.f177 (zq [zY 0 1,zV zi 2] (zq [zF 2 1 6,zL 6 7,zC 97 [7] 8,zC 233 [8] 9,zW (.bin .add (zk 40) (.tmp 9)) 10,zM 10 3] (.seq (zq [zF 2 1 11,zL 11 12,zU 12 13,zV zi 14] (.block 0 (.loop (zq [zB .lss 14 13 15] (.seq (.cond (.tmp 15) .skip (.exit 0)) (.seq (.block 1 (zq [zM 14 16,zJ 2 12 14 17,zN 2 17 18,zX [zn,zn] 5,zM 16 4,zS 2 5 18] (.reg [zM 3 19,zF 1 1 20,zL 20 21,zM 4 22,zK .u64 22 23,zB .add 21 23 24,zN 2 5 25,zC 234 [24,25] 26,zB .add 19 26 27,zM 27 3] []))) (.reg [zI .add 14 1 28,zM 28 14] []))))))) (zq [zM 3 29,zM 29 2] .ret)))) [.tmp 2] 30:=ki
theorem Ast:Is Tryz.prog Tryz.f183 (zq [zV zi 2] (zq [zV zi 2] .ret)) [.tmp 2] 3:=ki
theorem Al2:Is Tryz.prog Tryz.f185 (zq [zV zi 4] (zq [zM 1 6,zC 71 [6] 7,zM 7 5] (zq [zM 1 8,zC 45 [8] 9] (.seq (zq [zM 1 10,zC 83 [10] 11,zQ 11 12] (zc 12 (zq [zV zi 4] .ret))) (.seq (zq [zM 5 13,zM 0 14,zH 14 15,zF 9 15 16,zL 16 17,zC 218 [13,17] 18,zQ 18 19] (zc 19 (zq [zV (.int .i64 12) 4] .ret))) (.seq (.reg [zM 0 20,zM 0 21,zH 21 22,zF 5 22 23,zL 23 24,zM 5 25,zU 25 26,zM 5 27,zC 150 [27] 28,zM 0 29,zH 29 30,zF 2 30 31,zL 31 32,zM 0 33,zH 33 34,zF 1 34 35,zL 35 36,zU 36 37,zD [zu,zi,zi,zu,zu,zi,zi] [(0,(1,.tmp 24)),(1,(1,.tmp 26)),(2,(1,.tmp 28)),(5,(1,.tmp 32)),(6,(1,.tmp 37))] 38,zH 20 39,zF 10 39 40,zS 7 40 38] [(4,8),(4,12),(8,12),(4,16),(8,16),(12,16)]) (zq [zM 0 42,zM 0 43,zM 5 44,zC 149 [44] 45,zM 45 41,zE 41 0 46,zE 41 1 47,zH 42 48,zF 10 48 49,zF 3 49 50,zS 1 50 46,zH 43 51,zF 10 51 52,zF 4 52 53,zS 1 53 47] (zq [zM 0 54,zH 54 55,zF 0 55 56,(none,(.store 1 (.tmp 56) (.func 242),none))] (zq [zV zi 4] .ret))))))))) [.tmp 4] 57:=ki
theorem Ahj:Is Tryz.prog Tryz.f190 (zq [zV zn 4] (zq [zM 0 9,zR 89 [.tmp 9,zk 1048576] 10,zM 10 5] (.seq (zq [zM 0 11,zC 83 [11] 12,zQ 12 13] (zc 13 (zq [zV zn 4] .ret))) (zq [zM 0 14,zC 44 [14] 15,zM 5 16,zU 16 17,zB .sub 15 17 18,zM 18 6] (zq [zM 5 20,zM 1 21,zC 246 [20,21] 22,zM 22 19,zE 19 0 23,zE 19 1 24,zX [zi,zi] 8,zM 23 7,zS 2 8 24] (.seq (.block 0 (zq [zN 2 8 26,zC 31 [26] 27,zQ 27 28,zM 28 25] (.cond (.tmp 25) (zq [zN 2 8 29,zM 6 30,zC 73 [29,30] 31,zS 2 8 31] (.reg [zM 0 32,zF 0 8 33,zL 33 34,zF 1 8 35,zL 35 36,zC 81 [32,34,36] 37] [])) (zq [zM 7 39,zU 39 40,zM 1 41,zB .lss 40 41 42,zM 42 38] (zc 38 (.reg [zM 0 43,zM 0 44,zC 44 [44] 45,zR 81 [.tmp 43,zk 3,.tmp 45] 46] [])))))) (zq [zM 7 47,zM 47 4] .ret))))))) [.tmp 4] 48:=ki
theorem Ahi:Is Tryz.prog Tryz.f203 (zq [zV zn 4] (zq [zV zn 5] (.seq (zq [zM 0 10,zR 134 [.tmp 10,zk 16] 11,zV zi 12] (.block 0 (.loop (zq [zB .lss 12 11 13] (.seq (.cond (.tmp 13) .skip (.exit 0)) (.seq (.block 1 (zq [zM 12 14,zM 14 6] (zq [zM 0 15,zC 44 [15] 16,zM 16 7] (zq [zM 0 17,zC 147 [17] 18,zD [zu,zn] [(0,(1,.tmp 18))] 19,zX [zu,zn] 8,zS 2 8 19] (.seq (zq [zM 6 20,zI .gtr 20 0 21] (zc 21 (zq [zM 5 22,zM 6 23,zI .sub 23 1 24,zJ 2 22 24 25,zF 0 25 26,zL 26 27,zM 27 9] (.seq (zq [zF 0 8 28,zL 28 29,zM 9 30,zW (.un .xor (.tmp 30)) 31,zB .geq 29 31 32] (zc 32 (.reg [zM 0 33,zM 7 34,zR 81 [.tmp 33,zk 13,.tmp 34] 35] []))) (.reg [zF 0 8 36,zL 36 37,zM 9 38,zW (.bin .add (.tmp 38) (.const (.int .u64 1))) 39,zB .add 37 39 40,zF 0 8 41,zS 1 41 40] []))))) (zq [zM 0 42,zM 1 43,zR 248 [.tmp 42,.tmp 43,zk 4] 44,zF 1 8 45,zS 1 45 44] (.seq (zq [zM 0 46,zC 83 [46] 47,zQ 47 48] (zc 48 (zq [zV zn 4] .ret))) (.reg [zM 5 49,zN 2 8 50,zW (.bsl 2 [.tmp 50]) 51,zP 2 32 49 51 52,zM 52 5] [])))))))) (.reg [zI .add 12 1 53,zM 53 12] []))))))) (zq [zM 5 54,zM 54 4] .ret)))) [.tmp 4] 55:=ki
theorem Al1:Is Tryz.prog Tryz.f214 (.reg [zM 0 4,zM 1 5,zW (.s2b (.tmp 5)) 6,zC 215 [4,6] 7] []) [] 8:=ki
theorem Asl:Is Tryz.prog Tryz.f217 (.reg [zM 0 4,zM 1 5,zM 1 6,zC 166 [6] 7,zC 253 [4,5,7] 8] []) [] 9:=ki
theorem Ao7:Is Tryz.prog Tryz.f231 (zq [zM 0 4,zC 232 [4] 5,zI .eql 5 0 6] (zc 6 (.reg [zM 0 7,zM 1 8,zH 7 9,zF 2 9 10,zS 1 10 8] []))) [] 11:=ki
theorem Ao6:Is Tryz.prog Tryz.f234 (zq [zY 1 3,zV zi 4] (.seq (zq [zM 0 5,zN 2 3 6,zC 98 [5,6] 7,zQ 7 8] (zc 8 (zq [zV zi 4] .ret))) (.seq (.reg [zM 0 9,zF 0 3 10,zL 10 11,zC 257 [9,11] 12,zF 1 3 13,zL 13 14,zU 14 15,zK .u64 15 16,zC 229 [16] 17,zB .add 12 17 18,zM 18 4] [(2,5),(3,5)]) .ret))) [.tmp 4] 19:=ki
theorem Ao4:Is Tryz.prog Tryz.f237 (.seq (zq [zM 1 6,zU 6 7,zI .gtr 7 1048576 8] (zc 8 (zq [zM 0 9,zR 231 [.tmp 9,zk 2] 10] .ret))) (zq [zM 0 11,zM 1 12,zU 12 13,zK .u64 13 14,zC 235 [11,14] 15] (.seq (zq [zM 1 17,zC 260 [17] 18,zM 18 16,zE 16 0 19,zE 16 1 20,zM 19 4,zM 20 5] (zq [zM 5 21] (zc 21 (zq [zM 0 22,zW (.bsl 1 [.const (.int .u8 1)]) 23,zC 215 [22,23] 24] (zq [zM 0 25,zM 4 26,zC 261 [25,26] 27] .ret))))) (zq [zM 0 28,zW (.bsl 1 [.const (.int .u8 0)]) 29,zC 215 [28,29] 30] (.reg [zM 0 31,zM 1 32,zC 215 [31,32] 33] []))))) [] 34:=ki
theorem Ao2:Is Tryz.prog Tryz.f241 (zq [zV zi 4,zV (.bool .false) 5] (zq [zM 0 8,zC 41 [8] 9,zM 9 6] (zq [zM 6 10,zM 1 11,zC 90 [11] 12,zC 134 [10,12] 13,zM 13 7] (.seq (zq [zM 6 14,zC 83 [14] 15,zQ 15 16] (zc 16 (zq [zV zi 4,zV (.bool .false) 5] .ret))) (zq [zM 7 17,zC 239 [17] 18,zM 18 4,zV (.bool .true) 5] .ret))))) [.tmp 4,.tmp 5] 19:=ki
theorem Ao1:Is Tryz.prog Tryz.f243 (zq [zY 0 2,zX [zn,zi,zi,zi] 4,zV zu 5] (zq [zF 1 2 9,zL 9 10,zM 10 6] (zq [zN 4 2 12,zC 244 [12] 13,zM 13 11,zE 11 0 14,zE 11 1 15,zX [zn,zi,zi,zi] 7,zS 4 7 14,zM 15 8] (.seq (zq [zM 8 16,zM 1 17,zB .gtr 16 17 18] (zc 18 (zq [zN 4 7 19,zM 6 20,zR 119 [.tmp 19,zk 2,.tmp 20] 21,zS 4 4 21,zV zu 5] .ret))) (zq [zN 4 7 22,zM 8 23,zS 4 4 22,zM 23 5] .ret))))) [.cell 4 (.some 4),.tmp 5] 24:=ki
theorem Ar9:Is Tryz.prog Tryz.f245 (zq [zV (.int .u32 0) 4] (zq [zM 0 7,zM 1 8,zK .u32 8 9,zB .xor 7 9 10,zM 10 0] (.seq (zq [zV zi 5] (.block 0 (.loop (.seq (zq [zM 5 11,zI .lss 11 8 12] (.cond (.tmp 12) .skip (.exit 0))) (.seq (.block 1 (zq [zM 0 15,zW (.bin .rem (.tmp 15) (.const (.int .u32 2))) 16,zM 16 6] (zq [zM 0 17,zW (.bin .quo (.tmp 17) (.const (.int .u32 2))) 18,zM 18 0] (zq [zM 6 19,zW (.bin .eql (.tmp 19) (.const (.int .u32 1))) 20] (zc 20 (.reg [zM 0 21,zW (.bin .xor (.tmp 21) (.const (.int .u32 2197175160))) 22,zM 22 0] [])))))) (.reg [zM 5 13,zI .add 13 1 14,zM 14 5] [])))))) (zq [zM 0 23,zM 23 4] .ret)))) [.tmp 4] 24:=ki
theorem Ar7:Is Tryz.prog Tryz.f252 (zq [zV zi 2] (.seq (zq [zM 0 3,zW (.eqp .false (.tmp 3) (.const (.pointer none))) 4] (zc 4 (zq [zV zi 2] .ret))) (.seq (.reg [zM 0 5,zH 5 6,zF 0 6 7,zL 7 8,zM 0 9,zH 9 10,zF 1 10 11,zL 11 12,zU 12 13,zB .sub 8 13 14,zM 14 2] [(3,7)]) .ret))) [.tmp 2] 15:=ki
theorem Aly:Is Tryz.prog Tryz.f254 (zq [zV (.bool .false) 4] (.seq (zq [zM 0 6,zU 6 7,zM 1 8,zU 8 9,zB .neq 7 9 10] (zc 10 (zq [zV (.bool .false) 4] .ret))) (.seq (zq [zM 0 11,zU 11 12,zV zi 13] (.block 0 (.loop (zq [zB .lss 13 12 14] (.seq (.cond (.tmp 14) .skip (.exit 0)) (.seq (.block 1 (zq [zM 13 15,zM 15 5] (.seq (.reg [zM 0 16,zM 5 17,zJ 3 16 17 18,zN 3 18 19,zM 1 20,zM 5 21,zJ 3 20 21 22,zN 3 22 23,zW (.eqa .true 3 (.tmp 19) (.tmp 23)) 24] [(3,7)]) (zc 24 (zq [zV (.bool .false) 4] .ret))))) (.reg [zI .add 13 1 25,zM 25 13] []))))))) (zq [zV (.bool .true) 4] .ret)))) [.tmp 4] 26:=ki
theorem Ar6:Is Tryz.prog Tryz.f258 (zq [zV zn 2] (zq [zV zn 3] (.seq (.block 0 (.loop (.seq (zq [zM 0 4,zW (.bin .geq (.tmp 4) (.const (.int .u64 128))) 5] (.cond (.tmp 5) .skip (.exit 0))) (.block 1 (zq [zM 3 6,zM 0 7,zK .u8 7 8,zW (.bin .or (.tmp 8) (.const (.int .u8 128))) 9,zW (.bsl 1 [.tmp 9]) 10,zP 1 1 6 10 11,zM 11 3] (.reg [zM 0 12,zW (.bin .shr (.tmp 12) (.const (.int .u64 7))) 13,zM 13 0] [])))))) (zq [zM 3 14,zM 0 15,zK .u8 15 16,zW (.bsl 1 [.tmp 16]) 17,zP 1 1 14 17 18,zM 18 2] .ret)))) [.tmp 2] 19:=ki
theorem Aow:Is Tryz.prog Tryz.f259 (.seq (zq [zM 1 8,zM 2 9,zC 167 [8,9] 10,zQ 10 11] (zc 11 (zq [zM 0 12,zR 231 [.tmp 12,zk 3] 13] .ret))) (zq [zM 0 14,zM 2 15,zU 15 16,zK .u64 16 17,zC 235 [14,17] 18] (zq [zM 2 19,zC 269 [19] 20,zU 20 21,zV zi 22] (.block 0 (.loop (zq [zB .lss 22 21 23] (.seq (.cond (.tmp 23) .skip (.exit 0)) (.seq (.block 1 (zq [zM 22 24,zJ 1 20 22 25,zL 25 26,zM 24 6,zM 26 7] (zq [zM 0 27,zM 7 28,zC 235 [27,28] 29] (.reg [zM 0 30,zM 1 31,zM 2 32,zM 6 33,zJ 2 32 33 34,zF 1 34 35,zL 35 36,zC 271 [30,31,36] 37] [])))) (.reg [zI .add 22 1 38,zM 38 22] []))))))))) [] 39:=ki
theorem Alx:Is Tryz.prog Tryz.f262 (zq [zV (.bool .false) 2,zX [zi,zi] 3] (.seq (.block 0 (.seq (.reg [zM 0 5,zH 5 6,zF 1 6 7,zL 7 8,zU 8 9,zC 115 [] 10,zB .lss 9 10 11,zM 11 4] [(3,5)]) (.cond (.tmp 4) (zq [zD [zi,zi] [] 12,zV (.bool .false) 2,zS 2 3 12] .ret) (.seq (.reg [zM 0 14,zH 14 15,zF 1 15 16,zL 16 17,zM 0 18,zH 18 19,zF 17 19 20,zL 20 21,zC 161 [21] 22,zC 160 [17,22] 23,zQ 23 24,zM 24 13] [(3,7),(3,8)]) (zc 13 (zq [zR 33 [zk 12,zk 0] 25,zV (.bool .false) 2,zS 2 3 25] .ret)))))) (zq [zM 0 26,zH 26 27,zF 0 27 28,(none,(.store 1 (.tmp 28) (.func 273),none))] (zq [zD [zi,zi] [] 29,zV (.bool .true) 2,zS 2 3 29] .ret)))) [.tmp 2,.cell 3 (.some 2)] 30:=ki
theorem Ahd:Is Tryz.prog Tryz.f263 (zq [zV zu 2,zV zi 3,zX [zi,zi] 4] (.seq (zq [zV zi 5] (.block 0 (.loop (.seq (zq [zM 5 8,zM 0 9,zU 9 10,zB .lss 8 10 11] (.cond (.tmp 11) .skip (.exit 0))) (.seq (.block 1 (.seq (zq [zM 5 14,zI .eql 14 9 15,zM 15 16,zT 16 (zM 0 17),zT 16 (zM 5 18),zT 16 (zJ 1 17 18 19),zT 16 (zL 19 20),(.some (16,.true),(.bin .gtr (.tmp 20) (.const (.int .u8 1)),.some 21)),zA 16 21 22] (zc 22 (zq [zM 5 23,zR 189 [zk 5,.tmp 23] 24,zV zu 2,zV zi 3,zS 2 4 24] .ret))) (.seq (zq [zM 5 25,zI .gtr 25 0 26,zM 26 27,zT 27 (zM 0 28),zT 27 (zM 5 29),zT 27 (zJ 1 28 29 30),zT 27 (zL 30 31),(.some (27,.true),(.bin .eql (.tmp 31) (.const (.int .u8 0)),.some 32)),zA 27 32 33] (zc 33 (zq [zM 5 34,zR 189 [zk 4,.tmp 34] 35,zV zu 2,zV zi 3,zS 2 4 35] .ret))) (zq [zM 0 36,zM 5 37,zJ 1 36 37 38,zL 38 39,zW (.bin .lss (.tmp 39) (.const (.int .u8 128))) 40] (zc 40 (zq [zV zu 6] (.seq (zq [zM 5 41,zM 41 7] (.block 2 (.loop (.seq (zq [zM 7 42,zI .geq 42 0 43] (.cond (.tmp 43) .skip (.exit 2))) (.seq (.block 3 (.reg [zM 6 46,zW (.bin .mul (.const (.int .u64 128)) (.tmp 46)) 47,zM 0 48,zM 7 49,zJ 1 48 49 50,zL 50 51,zW (.bin .rem (.tmp 51) (.const (.int .u8 128))) 52,zK .u64 52 53,zB .add 47 53 54,zM 54 6] [])) (.reg [zM 7 44,zI .sub 44 1 45,zM 45 7] [])))))) (zq [zM 6 55,zM 5 56,zI .add 56 1 57,zD [zi,zi] [] 58,zM 55 2,zM 57 3,zS 2 4 58] .ret)))))))) (.reg [zM 5 12,zI .add 12 1 13,zM 13 5] [])))))) (zq [zM 0 59,zU 59 60,zR 189 [zk 1,.tmp 60] 61,zV zu 2,zV zi 3,zS 2 4 61] .ret))) [.tmp 2,.tmp 3,.cell 4 (.some 2)] 62:=ki
theorem Ar3:Is Tryz.prog Tryz.f269 (zq [zV zn 2] (zq [zV zn 3] (.seq (zq [zM 0 7,zU 7 8,zV zi 9] (.block 0 (.loop (zq [zB .lss 9 8 10] (.seq (.cond (.tmp 10) .skip (.exit 0)) (.seq (.block 1 (zq [zM 9 11,zJ 2 7 9 12,zN 2 12 13,zX [zu,zn] 5,zM 11 4,zS 2 5 13] (zq [zF 0 5 14,zL 14 15,zM 15 6] (.seq (zq [zM 4 16,zI .gtr 16 0 17] (zc 17 (.reg [zM 6 18,zM 0 19,zM 4 20,zI .sub 20 1 21,zJ 2 19 21 22,zF 0 22 23,zL 23 24,zW (.bin .add (.tmp 24) (.const (.int .u64 1))) 25,zB .sub 18 25 26,zM 26 6] []))) (.reg [zM 3 27,zM 6 28,zW (.bsl 1 [.tmp 28]) 29,zP 1 8 27 29 30,zM 30 3] []))))) (.reg [zI .add 9 1 31,zM 31 9] []))))))) (zq [zM 3 32,zM 32 2] .ret)))) [.tmp 2] 33:=ki
theorem Aos:Is Tryz.prog Tryz.f271 (zq [zM 1 11,zM 2 12,zC 255 [11,12] 13,zM 13 10,zE 10 0 14,zE 10 1 15,zM 14 6,zM 15 7] (.seq (zq [zM 7 16,zQ 16 17] (zc 17 (zq [zM 0 18,zR 231 [.tmp 18,zk 3] 19] .ret))) (zq [zM 0 20,zM 2 21,zU 21 22,zK .u64 22 23,zC 235 [20,23] 24] (zq [zM 6 25,zU 25 26,zV zi 27] (.block 0 (.loop (zq [zB .lss 27 26 28] (.seq (.cond (.tmp 28) .skip (.exit 0)) (.seq (.block 1 (zq [zJ 1 25 27 29,zL 29 30,zM 30 9] (.reg [zM 0 31,zM 9 32,zC 235 [31,32] 33] []))) (.reg [zI .add 27 1 34,zM 34 27] [])))))))))) [] 35:=ki
theorem Ar1:Is Tryz.prog Tryz.f273 (zq [zV (.bool .false) 2,zX [zi,zi] 3] (zq [zR 33 [zk 9,zk 0] 4,zV (.bool .false) 2,zS 2 3 4] .ret)) [.tmp 2,.cell 3 (.some 2)] 5:=ki
theorem Arz:Is Tryz.prog Tryz.f277 (zq [zV (.pointer none) 2] (zq [zW (.bsl 1 []) 3,zM 0 4,zP 1 1 3 4 5,zM 0 6,zC 281 [6] 7,zD [zn,.pointer none,zi] [(0,(1,.tmp 5)),(1,(1,.tmp 7))] 8,zY 8 9,zM 9 2] .ret)) [.tmp 2] 10:=ki
theorem Aoo:Is Tryz.prog Tryz.f288 (zq [zV (.bool .false) 2] (zq [zM 0 7,zC 287 [7] 8,zM 8 3] (.seq (zq [zM 0 9,zW (.eqp .false (.tmp 9) (.const (.pointer none))) 10,zM 10 11,zZ 11 (zM 3 12),zZ 11 (zM 0 13),(.some (11,.false),(.nilc (.tmp 13),.some 14)),zZ 11 (zF 0 14 15),zZ 11 (zL 15 16),zZ 11 (zU 16 17),zZ 11 (zB .geq 12 17 18),zO 11 18 19] (zc 19 (zq [zV (.bool .false) 2] .ret))) (zq [zV zi 4] (.seq (zq [zM 0 21,zH 21 22,zF 0 22 23,zL 23 24,zM 3 25,zC 290 [24,25] 26,zM 26 20,zE 20 0 27,zE 20 1 28,zM 27 5,zM 28 6] (zq [zM 6 29] (zc 29 (zq [zM 0 30,zH 30 31,zF 1 31 32,zL 32 33,zM 5 34,zW (.mlook (.tmp 33) (.tmp 34)) 35,zM 35 4] (.reg [zM 0 36,zH 36 37,zF 1 37 38,zL 38 39,zM 5 40,zM 3 41,zI .add 41 1 42,(none,(.mput (.tmp 39) (.tmp 40) (.tmp 42),none))] []))))) (zq [zM 0 43,zM 0 44,zH 44 45,zF 2 45 46,zL 46 47,zM 4 48,zW (.bsl 1 [.tmp 48]) 49,zP 1 8 47 49 50,zH 43 51,zF 2 51 52,zS 1 52 50] (zq [zV (.bool .true) 2] .ret))))))) [.tmp 2] 53:=ki
theorem b6:Is Tryz.prog Tryz.f6 (zq [zV (.bool .false) 2] (zq [zM 0 7,zC 12 [7] 8,zM 8 6,zE 6 0 9,zE 6 1 10,zX [zi,zi] 4,zM 9 3,zS 2 4 10] (.seq (zq [zV zi 5] (.block 0 (.loop (.seq (zq [zF 0 4 11,zL 11 12,zI .eql 12 0 13,zM 13 14,zT 14 (zM 5 15),zT 14 (zM 3 16),zT 14 (zU 16 17),zT 14 (zB .lss 15 17 18),zA 14 18 19] (.cond (.tmp 19) .skip (.exit 0))) (.seq (.block 1 (zq [zM 3 22,zM 5 23,zJ 3 22 23 24,zF 2 24 25,zL 25 26,zM 0 27,zU 27 28,zB .lss 26 28 29,zM 29 30,zT 30 (zM 0 31),zT 30 (zM 3 32),zT 30 (zM 5 33),zT 30 (zJ 3 32 33 34),zT 30 (zF 2 34 35),zT 30 (zL 35 36),(.some (30,.true),(.slice 1 (.tmp 31) (.some (.tmp 36)) none none,.some 37)),zT 30 (zC 24 [37] 38),zA 30 38 39] (zc 39 (zq [zV (.bool .true) 2] .ret)))) (.reg [zM 5 20,zI .add 20 1 21,zM 21 5] [])))))) (zq [zM 0 40,zC 24 [40] 41,zM 41 2] .ret)))) [.tmp 2] 42:=ki
theorem b8:Is Tryz.prog Tryz.f8 (zq [zX [zn,zn] 4,zX [zi,zi] 5] (zq [zM 0 14,zC 30 [14] 15,zM 15 13,zE 13 0 16,zE 13 1 17,zX [zu,zi,zi,zu,zu,zi,zi,zi,zn] 6,zX [zi,zi] 7,zS 9 6 16,zS 2 7 17] (.seq (zq [zN 2 7 18,zC 31 [18] 19,zQ 19 20] (zc 20 (.seq (.reg [zD [zn,zn] [] 21,zN 2 7 22,zS 2 4 21,zS 2 5 22] [(1,2)]) .ret))) (zq [zF 8 6 24,zL 24 25,zM 1 26,zC 32 [25,26] 27,zM 27 23,zE 23 0 28,zE 23 1 29,zX [zu,zi,zi] 8,zS 3 8 28,zM 29 9] (.seq (zq [zM 9 30,zQ 30 31] (zc 31 (zq [zD [zn,zn] [] 32,zR 33 [zk 16,zk 0] 33,zS 2 4 32,zS 2 5 33] .ret))) (zq [zM 0 35,zN 3 8 36,zF 0 6 37,zF 5 37 38,zL 38 39,zC 34 [35,36,39] 40,zM 40 34,zE 34 0 41,zE 34 1 42,zX [zu,zu,zn] 10,zS 3 10 41,zS 2 7 42] (.seq (zq [zN 2 7 43,zC 31 [43] 44,zQ 44 45] (zc 45 (.seq (.reg [zD [zn,zn] [] 46,zN 2 7 47,zS 2 4 46,zS 2 5 47] [(1,2)]) .ret))) (zq [zN 3 10 49,zM 1 50,zC 35 [49,50] 51,zM 51 48,zE 48 0 52,zE 48 1 53,zX [zn,zn] 11,zS 2 11 52,zM 53 12] (zq [zN 2 11 54,zD [zi,zi] [] 55,zS 2 4 54,zS 2 5 55] .ret))))))))) [.cell 4 (.some 2),.cell 5 (.some 2)] 56:=ki
theorem b18:Is Tryz.prog Tryz.f18 (zq [zV (.pointer none) 0] (zq [zD [.nilFunc,zn,zi,zi,zi,zu,zu,zu,zn,zn,zu,zi,zi,zu,zu,zi,zi,zi,zn] [(0,(1,.func 54))] 1,zY 1 2,zM 2 0] .ret)) [.tmp 0] 3:=ki
theorem b30:Is Tryz.prog Tryz.f30 (zq [zX [zu,zi,zi,zu,zu,zi,zi,zi,zn] 2,zX [zi,zi] 3] (zq [zM 0 11,zC 69 [11] 12,zM 12 10,zE 10 0 13,zE 10 1 14,zE 10 2 15,zX [zu,zi,zi,zu,zu,zi,zi] 4,zX [zi,zi] 6,zS 7 4 13,zM 14 5,zS 2 6 15] (.seq (zq [zN 2 6 16,zC 31 [16] 17,zQ 17 18] (zc 18 (.seq (.reg [zD [zu,zi,zi,zu,zu,zi,zi,zi,zn] [] 19,zN 2 6 20,zS 9 2 19,zS 2 3 20] [(1,2)]) .ret))) (zq [zF 5 4 21,zL 21 22,zF 6 4 23,zL 23 24,zB .add 22 24 25,zM 25 7] (.seq (zq [zM 7 26,zM 5 27,zB .gtr 26 27 28] (zc 28 (zq [zD [zu,zi,zi,zu,zu,zi,zi,zi,zn] [] 29,zM 5 30,zR 33 [zk 3,.tmp 30] 31,zS 9 2 29,zS 2 3 31] .ret))) (zq [zM 0 33,zF 5 4 34,zL 34 35,zM 7 36,zW (.slice 1 (.tmp 33) (.some (.tmp 35)) (.some (.tmp 36)) none) 37,zR 70 [.tmp 37,.const (.int .u8 2),.func 71] 38,zM 38 32,zE 32 0 39,zE 32 1 40,zE 32 2 41,zM 39 8,zM 40 9,zS 2 6 41] (.seq (.block 0 (zq [zN 2 6 43,zC 31 [43] 44,zQ 44 45,zM 45 42] (.cond (.tmp 42) .skip (zq [zM 9 47,zF 6 4 48,zL 48 49,zB .lss 47 49 50,zM 50 46] (.cond (.tmp 46) (.reg [zM 9 51,zR 33 [zk 9,.tmp 51] 52,zS 2 6 52] []) (zq [zN 7 4 54,zM 8 55,zC 72 [54,55] 56,zQ 56 57,zM 57 53] (zc 53 (.reg [zR 33 [zk 12,zk 0] 58,zS 2 6 58] [])))))))) (.seq (zq [zN 2 6 59,zC 31 [59] 60,zQ 60 61] (zc 61 (zq [zD [zu,zi,zi,zu,zu,zi,zi,zi,zn] [] 62,zN 2 6 63,zF 5 4 64,zL 64 65,zC 73 [63,65] 66,zS 9 2 62,zS 2 3 66] .ret))) (zq [zN 7 4 67,zM 5 68,zM 8 69,zD [zu,zi,zi,zu,zu,zi,zi,zi,zn] [(0,(7,.tmp 67)),(7,(1,.tmp 68)),(8,(1,.tmp 69))] 70,zD [zi,zi] [] 71,zS 9 2 70,zS 2 3 71] .ret))))))))) [.cell 2 (.some 9),.cell 3 (.some 2)] 72:=ki
theorem b32:Is Tryz.prog Tryz.f32 (zq [zX [zu,zi,zi] 4,zV (.bool .false) 5] (.scope (zq [zM 0 10,zU 10 11,zV zi 6,zM 11 7,zV zi 8] (.seq (zq [zM 0 12,zC 74 [12] 13,zQ 13 14] (zc 14 (zq [zD [zu,zi,zi] [] 15,zS 3 4 15,zV (.bool .false) 5] .ret))) (.seq (.label 0) (.seq (zq [zM 6 16,zM 7 17,zB .eql 16 17 18] (zc 18 (zq [zD [zu,zi,zi] [] 19,zS 3 4 19,zV (.bool .false) 5] .ret))) (zq [zM 6 20,zM 7 21,zB .add 20 21 22,zI .quo 22 2 23,zM 23 8] (.seq (zq [zM 0 24,zM 8 25,zJ 3 24 25 26,zN 3 26 27,zX [zu,zi,zi] 9,zS 3 9 27] (.block 0 (zq [zM 1 30,zF 0 9 31,zL 31 32,zB .lss 30 32 33,zM 33 29] (.cond (.tmp 29) (.reg [zM 8 34,zM 34 7] []) (zq [zM 1 36,zN 3 9 37,zC 75 [37] 38,zB .geq 36 38 39,zM 39 35] (.cond (.tmp 35) (.reg [zM 8 40,zI .add 40 1 41,zM 41 6] []) (zq [zN 3 9 28,zS 3 4 28,zV (.bool .true) 5] .ret))))))) (.goto 0))))))))) [.cell 4 (.some 3),.tmp 5] 42:=ki
theorem b33:Is Tryz.prog Tryz.f33 (zq [zX [zi,zi] 4] (.seq (zq [zM 0 5,zI .eql 5 0 6] (zc 6 (zq [zD [zi,zi] [] 7,zS 2 4 7] .ret))) (zq [zM 0 8,zM 1 9,zD [zi,zi] [(0,(1,.tmp 8)),(1,(1,.tmp 9))] 10,zS 2 4 10] .ret))) [.cell 4 (.some 2)] 11:=ki
theorem b37:Is Tryz.prog Tryz.f37 (zq [zX [zu,zu,zn] 2,zV (.bool .false) 3] (zq [zM 0 4,zC 38 [4] 5,zS 3 2 5,zV (.bool .true) 3] .ret)) [.cell 2 (.some 3),.tmp 3] 6:=ki
theorem b40:Is Tryz.prog Tryz.f40 (zq [zV (.bool .false) 4] (zq [zM 0 5,zW (.b2s (.tmp 5)) 6,zM 1 7,zW (.b2s (.tmp 7)) 8,zB .eql 6 8 9,zM 9 4] .ret)) [.tmp 4] 10:=ki
theorem b52:Is Tryz.prog Tryz.f52 (zq [zY 0 1,zV (.bool .false) 2] (.seq (zq [zF 0 1 5,zL 5 6,zC 95 [6] 7,zQ 7 8,zM 8 9,zZ 9 (zF 1 1 10),zZ 9 (zL 10 11),zZ 9 (zU 11 12),zZ 9 (zI .gtr 12 16 13),zO 9 13 14] (zc 14 (zq [zV (.bool .false) 2] .ret))) (.seq (zq [zF 1 1 15,zL 15 16,zU 16 17,zV zi 18] (.block 0 (.loop (zq [zB .lss 18 17 19] (.seq (.cond (.tmp 19) .skip (.exit 0)) (.seq (.block 1 (zq [zM 18 20,zJ 3 16 18 21,zN 3 21 22,zX [zu,zu,zn] 4,zM 20 3,zS 3 4 22] (.seq (.reg [zN 3 4 23,zC 47 [23] 24,zQ 24 25,zM 25 26,zZ 26 (zF 0 1 27),zZ 26 (zL 27 28),zZ 26 (zF 1 1 29),zZ 26 (zL 29 30),zZ 26 (zM 3 31),(.some (26,.false),(.slice 3 (.tmp 30) none (.some (.tmp 31)) none,.some 32)),(.some (26,.false),(.build [zu,zn] [(0,(1,.tmp 28)),(1,(1,.tmp 32))],.some 33)),zZ 26 (zN 3 4 34),zZ 26 (zC 106 [33,34] 35),(.some (26,.false),(.un .not (.tmp 35),.some 36)),zO 26 36 37] [(5,7),(5,11),(7,11)]) (zc 37 (zq [zV (.bool .false) 2] .ret))))) (.reg [zI .add 18 1 38,zM 38 18] []))))))) (zq [zV (.bool .true) 2] .ret)))) [.tmp 2] 39:=ki
theorem b60:Is Tryz.prog Tryz.f60 (zq [zV (.bool .false) 2] (.seq (zq [zV zi 3] (.block 0 (.loop (.seq (zq [zM 3 4,zI .add 4 1 5,zM 0 6,zU 6 7,zB .lss 5 7 8] (.cond (.tmp 8) .skip (.exit 0))) (.seq (.block 1 (zq [zM 0 11,zM 3 12,zJ 1 11 12 13,zL 13 14,zW (.bin .geq (.tmp 14) (.const (.int .u8 128))) 15,zM 15 16,zT 16 (zM 0 17),zT 16 (zM 3 18),zT 16 (zI .add 18 1 19),zT 16 (zJ 1 17 19 20),zT 16 (zL 20 21),(.some (16,.true),(.bin .geq (.tmp 21) (.const (.int .u8 3)),.some 22)),zA 16 22 23] (zc 23 (zq [zV (.bool .true) 2] .ret)))) (.reg [zM 3 9,zI .add 9 1 10,zM 10 3] [])))))) (zq [zV (.bool .false) 2] .ret))) [.tmp 2] 24:=ki
theorem b74:Is Tryz.prog Tryz.f74 (zq [zV (.bool .false) 2] (zq [zV zu 3] (zq [zV zi 4] (.seq (zq [zM 0 7,zU 7 8,zV zi 9] (.block 0 (.loop (zq [zB .lss 9 8 10] (.seq (.cond (.tmp 10) .skip (.exit 0)) (.seq (.block 1 (zq [zJ 3 7 9 11,zN 3 11 12,zX [zu,zi,zi] 6,zS 3 6 12] (.seq (zq [zN 3 6 13,zM 3 14,zM 4 15,zC 148 [13,14,15] 16,zQ 16 17] (zc 17 (zq [zV (.bool .false) 2] .ret))) (.reg [zN 3 6 18,zC 75 [18] 19,zF 2 6 20,zL 20 21,zM 19 3,zM 21 4] [(0,3),(1,3)])))) (.reg [zI .add 9 1 22,zM 22 9] []))))))) (zq [zM 0 23,zU 23 24,zI .leq 24 16 25,zM 25 2] .ret))))) [.tmp 2] 26:=ki
theorem b78:Is Tryz.prog Tryz.f78 (zq [zY 0 1,zV zu 2] (zq [zF 1 1 3,zL 3 4,zF 2 1 5,zL 5 6,zU 6 7,zK .u64 7 8,zB .add 4 8 9,zM 9 2] .ret)) [.tmp 2] 10:=ki
theorem b82:Is Tryz.prog Tryz.f82 (.block 0 (.loop (.seq (zq [zM 0 7,zH 7 8,zF 0 8 9,zL 9 10,zC 83 [10] 11] (.cond (.tmp 11) .skip (.exit 0))) (.block 1 (zq [zM 0 13,zC 155 [13] 14,zM 14 12,zE 12 0 15,zE 12 1 16,zM 15 4,zM 16 5] (.seq (zq [zM 0 17,zH 17 18,zF 0 18 19,zL 19 20,zC 83 [20] 21,zQ 21 22] (zc 22 .ret)) (zq [zM 4 23,zC 41 [23] 24,zM 24 6] (zq [zM 6 25,zC 146 [25] 26] (.block 2 (zq [zW (.bin .eql (.tmp 26) (.const (.int .u8 1))) 35,zM 35 34] (.cond (.tmp 34) (.reg [zM 0 36,zM 6 37,zM 5 38,zM 1 39,zC 156 [36,37,38,39] 40] []) (zq [zW (.bin .eql (.tmp 26) (.const (.int .u8 2))) 42,zM 42 41] (.cond (.tmp 41) (zq [zM 0 43,zM 6 44,zM 5 45,zC 157 [43,44,45] 46] .ret) (zq [zM 6 27,zR 81 [.tmp 27,zk 7,zk 0] 28] (.reg [zM 0 29,zM 6 30,zC 43 [30] 31,zM 5 32,zC 158 [29,31,32] 33] []))))))))))))))) [] 47:=ki
theorem b84:Is Tryz.prog Tryz.f84 (.seq (.reg [zM 0 8,zH 8 9,zF 1 9 10,zF 0 10 11,zL 11 12,zM 0 13,zH 13 14,zF 3 14 15,zL 15 16,zM 0 17,zH 17 18,zF 5 18 19,zL 19 20,zM 0 21,zH 21 22,zF 0 22 23,zL 23 24,zC 44 [24] 25,zM 0 26,zH 26 27,zF 5 27 28,zL 28 29,zB .sub 25 29 30,zC 111 [12,16,20,30] 31,zX [zu,zi,zi,zu,zu,zi,zi] 2,zS 7 2 31] [(4,8),(4,12),(8,12),(4,16),(8,16),(12,16),(4,17),(8,17),(12,17),(4,21),(8,21),(12,21),(16,21),(17,21),(4,24),(8,24),(12,24),(16,24),(17,24),(21,24),(23,24)]) (zq [zM 0 33,zC 155 [33] 34,zM 34 32,zE 32 0 35,zE 32 1 36,zM 35 3,zM 36 4] (.seq (zq [zM 0 37,zH 37 38,zF 0 38 39,zL 39 40,zC 83 [40] 41,zQ 41 42] (zc 42 .ret)) (zq [zM 3 44,zC 145 [44] 45,zM 45 43,zE 43 0 46,zE 43 1 47,zX [zu,zi,zi,zu,zu,zi,zi] 5,zX [zi,zi] 6,zS 7 5 46,zS 2 6 47] (zq [zM 0 48,zN 2 6 49,zM 4 50,zC 158 [48,49,50] 51] (.seq (zq [zN 7 5 52,zN 7 2 53,zW (.eqa .true 7 (.tmp 52) (.tmp 53)) 54] (zc 54 (.reg [zM 0 55,zH 55 56,zF 0 56 57,zL 57 58,zM 0 59,zH 59 60,zF 5 60 61,zL 61 62,zR 81 [.tmp 58,zk 12,.tmp 62] 63] [(3,7)]))) (zq [zM 0 64,zH 64 65,zF 0 65 66,zL 66 67,zC 44 [67] 68,zM 68 4] (.seq (.seq (.reg [zM 0 69,zH 69 70,zF 0 70 71,zL 71 72,zC 115 [] 73,zC 159 [72,73] 74,zM 74 7] [(3,4)]) (zq [zM 7 75,zM 4 76,zM 0 77,zH 77 78,zF 5 78 79,zL 79 80,zB .sub 76 80 81,zC 161 [81] 82,zC 160 [75,82] 83,zQ 83 84] (zc 84 (.reg [zM 0 85,zH 85 86,zF 0 86 87,zL 87 88,zM 4 89,zR 81 [.tmp 88,zk 12,.tmp 89] 90] [])))) (.reg [zM 0 91,zH 91 92,zF 0 92 93,zL 93 94,zC 45 [94] 95] []))))))))) [] 96:=ki
theorem b91:Is Tryz.prog Tryz.f91 (zq [zV zu 4] (zq [zV zu 5] (.seq (zq [zM 0 8,zM 1 9,zW (.mx .true (.tmp 9) (zk 0)) 10,zW (.mx .false (.tmp 10) (zk 8)) 11,zC 159 [8,11] 12,zU 12 13,zV zi 14] (.block 0 (.loop (zq [zB .lss 14 13 15] (.seq (.cond (.tmp 15) .skip (.exit 0)) (.seq (.block 1 (zq [zM 14 16,zJ 1 12 14 17,zL 17 18,zM 16 6,zM 18 7] (.reg [zM 5 19,zM 7 20,zK .u64 20 21,zM 6 22,zW (.bin .mul (zk 8) (.tmp 22)) 23,zB .shl 21 23 24,zB .or 19 24 25,zM 25 5] []))) (.reg [zI .add 14 1 26,zM 26 14] []))))))) (zq [zM 5 27,zM 27 4] .ret)))) [.tmp 4] 28:=ki
theorem Ate:Is Tryz.prog Tryz.f107 (zq [zY 0 1,zV zn 2,zV zi 3] (zq [zC 174 [] 5,zC 173 [5] 6,zM 6 4] (zq [zM 4 7,zN 3 1 8,zC 175 [7,8] 9] (zq [zM 4 10,zC 176 [10] 11,zE 11 0 12,zE 11 1 13,zM 12 2,zM 13 3] .ret)))) [.tmp 2,.tmp 3] 14:=ki
theorem Apr:Is Tryz.prog Tryz.f113 (zq [zX [zi,zu,zu] 2,zV zi 3,zX [zi,zi] 4] (zq [zM 0 7,zC 41 [7] 8,zM 8 5] (zq [zM 5 9,zC 80 [9] 10,zX [zi,zu,zu] 6,zS 3 6 10] (.seq (zq [zN 3 6 11,zD [zi,zu,zu] [] 12,zW (.eqa .false 3 (.tmp 11) (.tmp 12)) 13] (zc 13 (.seq (.reg [zN 3 6 14,zM 5 15,zC 43 [15] 16,zS 3 2 14,zV zi 3,zS 2 4 16] [(0,2)]) .ret))) (.seq (.reg [zN 3 6 17,zM 5 18,zC 44 [18] 19,zD [zi,zi] [] 20,zS 3 2 17,zM 19 3,zS 2 4 20] [(0,2)]) .ret))))) [.cell 2 (.some 3),.tmp 3,.cell 4 (.some 2)] 21:=ki
theorem RE:Is Tryz.prog Tryz.f122 (zq [zV zi 2] (zq [zM 0 5,zC 44 [5] 6,zM 6 3] (.seq (zq [zM 0 7,zR 159 [.tmp 7,zk 4] 8,zW (.b2s (.tmp 8)) 9,zW (.bin .neq (.tmp 9) (.const (.string (.mk (#[84,72,79,76]))))) 10] (zc 10 (.reg [zM 0 11,zM 3 12,zR 81 [.tmp 11,zk 14,.tmp 12] 13] []))) (zq [zM 0 14,zC 146 [14] 15,zK .i64 15 16,zM 16 4] (.seq (zq [zM 4 17,zI .lss 17 1 18,zM 18 19,zZ 19 (zM 4 20),zZ 19 (zI .gtr 20 3 21),zO 19 21 22] (zc 22 (.reg [zM 0 23,zM 0 24,zC 44 [24] 25,zI .sub 25 1 26,zR 81 [.tmp 23,zk 8,.tmp 26] 27] []))) (.seq (zq [zM 0 28,zC 83 [28] 29,zQ 29 30] (zc 30 (zq [zV zi 2] .ret))) (zq [zM 4 31,zM 31 2] .ret))))))) [.tmp 2] 32:=ki
theorem As5:Is Tryz.prog Tryz.f129 (zq [zV (.int .u32 0) 2] (zq [zC 195 [] 3,zM 0 4,zC 194 [3,4] 5,zC 193 [5] 6,zM 6 2] .ret)) [.tmp 2] 7:=ki
theorem App:Is Tryz.prog Tryz.f134 (zq [zV zi 4] (.seq (zq [zM 1 6,zI .geq 6 0 7] (zc 7 (zq [zM 0 8,zM 1 9,zK .u64 9 10,zC 200 [8,10] 11,zK .i64 11 12,zM 12 4] .ret))) (zq [zM 0 13,zC 44 [13] 14,zM 14 5] (zq [zM 0 15,zC 147 [15] 16] (zq [zM 0 17,zM 5 18,zR 81 [.tmp 17,zk 2,.tmp 18] 19] (zq [zV zi 4] .ret)))))) [.tmp 4] 20:=ki
theorem Acf:Is Tryz.prog Tryz.f144 (zq [zV zi 2,zX [zi,zi] 3] (zq [zM 0 11,zU 11 12,zM 12 4] (.seq (zq [zM 4 13,zC 115 [] 14,zB .lss 13 14 15] (zc 15 (zq [zM 4 16,zR 33 [zk 1,.tmp 16] 17,zV zi 2,zS 2 3 17] .ret))) (zq [zM 0 18,zC 41 [18] 19,zM 19 5] (zq [zM 4 20,zC 115 [] 21,zB .sub 20 21 22,zM 22 6] (zq [zM 5 23,zM 6 24,zC 210 [23,24] 25] (zq [zM 5 26,zR 211 [.tmp 26,zk 4] 27,zM 27 7] (zq [zM 7 28,zR 159 [.tmp 28,zk 4] 29,zC 129 [29] 30,zM 30 8] (zq [zM 5 31,zR 91 [.tmp 31,zk 4] 32,zM 32 9] (zq [zM 5 33,zR 91 [.tmp 33,zk 4] 34,zM 34 10] (.seq (.block 0 (zq [zM 5 36,zR 159 [.tmp 36,zk 4] 37,zW (.b2s (.tmp 37)) 38,zW (.bin .neq (.tmp 38) (.const (.string (.mk (#[76,79,72,84]))))) 39,zM 39 35] (.cond (.tmp 35) (zq [zM 4 40,zI .sub 40 4 41,zR 33 [zk 14,.tmp 41] 42,zV zi 2,zS 2 3 42] .ret) (zq [zM 10 44,zM 8 45,zK .u64 45 46,zB .neq 44 46 47,zM 47 43] (.cond (.tmp 43) (zq [zM 4 48,zI .sub 48 4 49,zI .sub 49 4 50,zR 33 [zk 6,.tmp 50] 51,zV zi 2,zS 2 3 51] .ret) (zq [zM 9 53,zM 6 54,zK .u64 54 55,zB .gtr 53 55 56,zM 56 52] (zc 52 (zq [zM 6 57,zR 33 [zk 3,.tmp 57] 58,zV zi 2,zS 2 3 58] .ret)))))))) (zq [zM 9 59,zK .i64 59 60,zD [zi,zi] [] 61,zM 60 2,zS 2 3 61] .ret)))))))))))) [.tmp 2,.cell 3 (.some 2)] 62:=ki
theorem Apo:Is Tryz.prog Tryz.f146 (zq [zV (.int .u8 0) 2] (.seq (zq [zM 0 3,zR 210 [.tmp 3,zk 1] 4,zQ 4 5] (zc 5 (zq [zV (.int .u8 0) 2] .ret))) (.seq (.reg [zM 0 6,zH 6 7,zF 0 7 8,zL 8 9,zM 0 10,zH 10 11,zF 1 11 12,zL 12 13,zI .sub 13 1 14,zJ 1 9 14 15,zL 15 16,zM 16 2] [(3,7)]) .ret))) [.tmp 2] 17:=ki
theorem Ace:Is Tryz.prog Tryz.f147 (zq [zV zu 2] (.scope (zq [zV zu 3] (zq [zV (.int .u8 0) 4] (zq [zM 0 7,zC 44 [7] 8,zV zi 5,zM 8 6] (.seq (.label 0) (zq [zM 0 9,zC 146 [9] 10,zM 10 4] (.seq (.block 0 (zq [zM 0 12,zC 83 [12] 13,zQ 13 14,zM 14 11] (.cond (.tmp 11) (zq [zV zu 2] .ret) (zq [zM 5 16,zI .eql 16 63 17,zM 17 18,zT 18 (zM 4 19),(.some (18,.true),(.bin .gtr (.tmp 19) (.const (.int .u8 1)),.some 20)),zA 18 20 21,zM 21 15] (.cond (.tmp 15) (zq [zM 0 22,zM 0 23,zC 44 [23] 24,zI .sub 24 1 25,zR 81 [.tmp 22,zk 5,.tmp 25] 26] (zq [zV zu 2] .ret)) (zq [zM 4 28,zW (.bin .eql (.tmp 28) (.const (.int .u8 0))) 29,zM 29 30,zT 30 (zM 0 31),zT 30 (zC 44 [31] 32),zT 30 (zI .sub 32 1 33),zT 30 (zM 6 34),zT 30 (zB .gtr 33 34 35),zA 30 35 36,zM 36 27] (zc 27 (zq [zM 0 37,zM 0 38,zC 44 [38] 39,zI .sub 39 1 40,zR 81 [.tmp 37,zk 4,.tmp 40] 41] (zq [zV zu 2] .ret))))))))) (zq [zM 3 42,zM 4 43,zW (.bin .rem (.tmp 43) (.const (.int .u8 128))) 44,zK .u64 44 45,zM 5 46,zB .shl 45 46 47,zB .or 42 47 48,zM 48 3] (zq [zM 5 49,zI .add 49 7 50,zM 50 5] (.seq (zq [zM 4 51,zW (.bin .geq (.tmp 51) (.const (.int .u8 128))) 52] (zc 52 (.goto 0))) (zq [zM 3 53,zM 53 2] .ret)))))))))))) [.tmp 2] 54:=ki
theorem Apn:Is Tryz.prog Tryz.f150 (zq [zV zi 2] (zq [zV zi 3] (.seq (zq [zM 0 6,zC 74 [6] 7,zQ 7 8] (zc 8 (zq [zV zi 2] .ret))) (.seq (zq [zM 0 9,zU 9 10,zV zi 11] (.block 0 (.loop (zq [zB .lss 11 10 12] (.seq (.cond (.tmp 12) .skip (.exit 0)) (.seq (.block 1 (zq [zJ 3 9 11 13,zN 3 13 14,zX [zu,zi,zi] 5,zS 3 5 14] (.reg [zM 3 15,zF 1 5 16,zL 16 17,zB .add 15 17 18,zM 18 3] []))) (.reg [zI .add 11 1 19,zM 19 11] []))))))) (zq [zM 3 20,zM 20 2] .ret))))) [.tmp 2] 21:=ki
theorem As4:Is Tryz.prog Tryz.f151 (zq [zV zu 2] (zq [zM 0 3,zR 213 [.tmp 3,.func 95] 4,zM 4 2] .ret)) [.tmp 2] 5:=ki
theorem Al5:Is Tryz.prog Tryz.f157 (zq [zM 1 7,zC 71 [7] 8,zM 8 6] (zq [zM 1 9,zC 45 [9] 10] (zq [zM 0 11,zM 1 12,zC 43 [12] 13,zM 2 14,zC 158 [11,13,14] 15] (zq [zM 0 16,zH 16 17,zF 0 17 18,zL 18 19,zC 83 [19] 20,zM 20 21,zT 21 (zM 6 22),zT 21 (zM 0 23),(.some (21,.true),(.nilc (.tmp 23),.some 24)),zT 21 (zF 3 24 25),zT 21 (zL 25 26),zT 21 (zC 218 [22,26] 27),(.some (21,.true),(.un .not (.tmp 27),.some 28)),zA 21 28 29] (zc 29 (.reg [zM 0 30,zH 30 31,zF 0 31 32,zL 32 33,zM 0 34,zH 34 35,zF 5 35 36,zL 36 37,zR 81 [.tmp 33,zk 12,.tmp 37] 38] [(3,7)])))))) [] 39:=ki
theorem Apj:Is Tryz.prog Tryz.f162 (zq [zV zn 6,zV zn 7] (zq [zV zn 8] (zq [zV zn 9] (zq [zV (.int .i64 1048576) 10] (.seq (zq [zM 2 14,zV zi 15] (.block 0 (.loop (zq [zB .lss 15 14 16] (.seq (.cond (.tmp 16) .skip (.exit 0)) (.seq (.block 1 (zq [zM 15 17,zM 17 11] (zq [zM 0 19,zM 1 20,zM 11 21,zK .u64 21 22,zB .add 20 22 23,zM 10 24,zC 221 [19,23,24] 25,zM 25 18,zE 18 0 26,zE 18 1 27,zX [zn,zn] 12,zS 2 12 26,zM 27 13] (.seq (zq [zM 0 28,zC 83 [28] 29,zQ 29 30] (zc 30 (zq [zV zn 6,zV zn 7] .ret))) (zq [zM 10 31,zM 13 32,zB .sub 31 32 33,zM 33 10] (.reg [zM 8 34,zN 2 12 35,zW (.bsl 2 [.tmp 35]) 36,zP 2 48 34 36 37,zM 9 38,zM 13 39,zW (.bsl 1 [.tmp 39]) 40,zP 1 8 38 40 41,zM 37 8,zM 41 9] [])))))) (.reg [zI .add 15 1 42,zM 42 15] []))))))) (zq [zM 8 43,zM 9 44,zM 43 6,zM 44 7] .ret)))))) [.tmp 6,.tmp 7] 45:=ki
theorem Asw:Is Tryz.prog Tryz.f174 (zq [zV zi 0] (zq [zR 229 [.const (.int .u64 4611686018427387903)] 1,zW (.bin .mul (zk 2) (.tmp 1)) 2,zW (.bin .add (zk 5) (.tmp 2)) 3,zI .add 3 4 4,zM 4 0] .ret)) [.tmp 0] 5:=ki
theorem Ahl:Is Tryz.prog Tryz.f176 (zq [zV zn 2,zV zi 3] (.seq (zq [zM 0 5,zC 232 [5] 6,zM 6 4] (zq [zM 4 7,zI .neq 7 0 8] (zc 8 (zq [zM 4 9,zV zn 2,zM 9 3] .ret)))) (zq [zW (.bsl 1 []) 10,zM 0 11,zH 11 12,zF 1 12 13,zL 13 14,zP 1 1 10 14 15,zM 15 2,zV zi 3] .ret))) [.tmp 2,.tmp 3] 16:=ki
theorem Acd:Is Tryz.prog Tryz.f182 (zq [zV zn 2,zV zi 3,zV (.bool .false) 4,zX [zi,zi] 5] (zq [zM 0 12,zH 12 13,zF 1 13 14,zL 14 15,zR 241 [.tmp 15,zk 2097152] 16,zM 16 11,zE 11 0 17,zE 11 1 18,zM 17 6,zM 18 7] (.seq (zq [zM 7 19,zM 19 20,zT 20 (zM 0 21),(.some (20,.true),(.nilc (.tmp 21),.some 22)),zT 20 (zF 1 22 23),zT 20 (zL 23 24),zT 20 (zU 24 25),zT 20 (zM 6 26),zT 20 (zB .lss 25 26 27),zA 20 27 28] (zc 28 (zq [zD [zi,zi] [] 29,zV zn 2,zV zi 3,zV (.bool .false) 4,zS 2 5 29] .ret))) (zq [zM 0 31,zH 31 32,zF 1 32 33,zL 33 34,zR 13 [.tmp 34,zk 2097152] 35,zM 35 30,zE 30 0 36,zE 30 1 37,zE 30 2 38,zX [zi,zi] 10,zM 36 8,zM 37 9,zS 2 10 38] (.seq (zq [zF 0 10 39,zL 39 40,zI .eql 40 1 41] (zc 41 (zq [zD [zi,zi] [] 42,zV zn 2,zV zi 3,zV (.bool .false) 4,zS 2 5 42] .ret))) (.seq (.reg [zM 8 43,zM 9 44,zI .sub 44 4 45,zM 8 46,zU 46 47,zB .sub 45 47 48,zN 2 10 49,zC 31 [49] 50,zN 2 10 51,zM 43 2,zM 48 3,zM 50 4,zS 2 5 51] [(6,8),(7,8)]) .ret)))))) [.tmp 2,.tmp 3,.tmp 4,.cell 5 (.some 2)] 52:=ki
theorem Apd:Is Tryz.prog Tryz.f186 (zq [zY 0 2,zX [zn,zi,zi,zi] 4,zV zi 5] (.seq (zq [zM 1 10,zI .geq 10 0 11] (zc 11 (zq [zN 4 2 13,zM 1 14,zK .u64 14 15,zC 243 [13,15] 16,zM 16 12,zE 12 0 17,zE 12 1 18,zX [zn,zi,zi,zi] 6,zS 4 6 17,zM 18 7] (zq [zN 4 6 19,zM 7 20,zK .i64 20 21,zS 4 4 19,zM 21 5] .ret)))) (zq [zN 4 2 23,zC 244 [23] 24,zM 24 22,zE 22 0 25,zE 22 1 26,zX [zn,zi,zi,zi] 8,zS 4 8 25,zM 26 9] (zq [zN 4 8 27,zF 1 2 28,zL 28 29,zR 119 [.tmp 27,zk 2,.tmp 29] 30,zS 4 4 30,zV zi 5] .ret)))) [.cell 4 (.some 4),.tmp 5] 31:=ki
theorem Asr:Is Tryz.prog Tryz.f191 (zq [zV zn 2,zV zi 3] (zq [zM 0 5,zU 5 6,zC 233 [6] 7,zI .add 7 1 8,zC 173 [8] 9,zM 9 4] (zq [zM 4 10,zM 0 11,zC 237 [10,11] 12] (zq [zM 4 13,zC 176 [13] 14,zE 14 0 15,zE 14 1 16,zM 15 2,zM 16 3] .ret)))) [.tmp 2,.tmp 3] 17:=ki
theorem Asq:Is Tryz.prog Tryz.f193 (zq [zV (.int .u32 0) 2] (zq [zM 0 3,zW (.un .xor (.tmp 3)) 4,zM 4 2] .ret)) [.tmp 2] 5:=ki
theorem Ahh:Is Tryz.prog Tryz.f210 (zq [zV (.bool .false) 4] (.seq (.block 0 (zq [zM 0 6,zC 83 [6] 7,zQ 7 8,zM 8 5] (.cond (.tmp 5) (zq [zV (.bool .false) 4] .ret) (zq [zM 1 10,zI .lss 10 0 11,zM 11 9] (.cond (.tmp 9) (zq [zM 0 12,zM 0 13,zH 13 14,zF 1 14 15,zL 15 16,zR 81 [.tmp 12,zk 17,.tmp 16] 17] (zq [zV (.bool .false) 4] .ret)) (zq [zM 1 19,zM 0 20,zC 93 [20] 21,zB .gtr 19 21 22,zM 22 18] (zc 18 (zq [zM 0 23,zM 0 24,zH 24 25,zF 0 25 26,zL 26 27,zU 27 28,zR 81 [.tmp 23,zk 1,.tmp 28] 29] (zq [zV (.bool .false) 4] .ret))))))))) (zq [zM 0 30,zH 30 31,zF 1 31 32,zL 32 33,zM 1 34,zB .add 33 34 35,zH 30 36,zF 1 36 37,zS 1 37 35] (zq [zV (.bool .true) 4] .ret)))) [.tmp 4] 38:=ki
theorem Al0:Is Tryz.prog Tryz.f215 (.block 0 (zq [zM 0 14,zC 232 [14] 15,zI .neq 15 0 16,zM 16 13] (.cond (.tmp 13) .skip (zq [zM 1 18,zU 18 19,zM 0 20,zC 252 [20] 21,zB .gtr 19 21 22,zM 22 17] (.cond (.tmp 17) (.reg [zM 0 23,zR 231 [.tmp 23,zk 2] 24] []) (.reg [zM 0 4,zM 0 5,zH 5 6,zF 1 6 7,zL 7 8,zM 1 9,zP 1 1 8 9 10,zH 4 11,zF 1 11 12,zS 1 12 10] [])))))) [] 25:=ki
theorem Asi:Is Tryz.prog Tryz.f220 (.reg [zM 0 6,zM 1 7,zM 2 8,zC 219 [7,8] 9,zC 215 [6,9] 10] []) [] 11:=ki
theorem Apa:Is Tryz.prog Tryz.f221 (zq [zX [zn,zn] 6,zV zi 7] (zq [zM 0 10,zM 1 11,zC 203 [10,11] 12,zD [zn,zn] [(0,(1,.tmp 12))] 13,zX [zn,zn] 8,zS 2 8 13] (zq [zM 0 14,zM 2 15,zC 134 [14,15] 16,zM 16 9] (.seq (zq [zM 0 17,zC 83 [17] 18,zQ 18 19] (zc 19 (zq [zD [zn,zn] [] 20,zS 2 6 20,zV zi 7] .ret))) (zq [zN 2 8 21,zM 9 22,zS 2 6 21,zM 22 7] .ret))))) [.cell 6 (.some 2),.tmp 7] 23:=ki
theorem Ao8:Is Tryz.prog Tryz.f225 (zq [zY 0 2,zV (.bool .false) 3] (zq [zF 1 2 4,zL 4 5,zU 5 6,zI .gtr 6 4 7,zM 7 8,zZ 8 (zL 1 9),zZ 8 (zF 1 2 10),zZ 8 (zL 10 11),zZ 8 (zC 226 [9,11] 12),(.some (8,.false),(.un .not (.tmp 12),.some 13)),zO 8 13 14,zM 14 3] .ret)) [.tmp 3] 15:=ki
theorem Asg:Is Tryz.prog Tryz.f226 (zq [zV (.bool .false) 4] (zq [zM 0 8,zM 1 9,zC 255 [8,9] 10,zM 10 7,zE 7 0 11,zE 7 1 12,zM 11 5,zM 12 6] (zq [zM 6 13,zM 13 4] .ret))) [.tmp 4] 14:=ki
theorem Asb:Is Tryz.prog Tryz.f238 (zq [zV zn 2] (zq [zM 0 6,zC 97 [6] 7,zW (.mksl 1 1 (zk 0) (.tmp 7)) 8,zM 8 3] (.seq (zq [zM 0 9,zU 9 10,zV zi 11] (.block 0 (.loop (zq [zB .lss 11 10 12] (.seq (.cond (.tmp 12) .skip (.exit 0)) (.seq (.block 1 (zq [zJ 2 9 11 13,zN 2 13 14,zX [zn,zn] 5,zS 2 5 14] (.reg [zM 3 15,zF 1 5 16,zL 16 17,zP 1 1 15 17 18,zM 18 3] []))) (.reg [zI .add 11 1 19,zM 19 11] []))))))) (zq [zM 3 20,zM 20 2] .ret)))) [.tmp 2] 21:=ki
theorem Ao0:Is Tryz.prog Tryz.f246 (zq [zV zn 4,zX [zi,zi] 5] (.scope (zq [zM 0 13,zC 41 [13] 14,zM 14 6] (zq [zV zn 7] (zq [zV (.bool .false) 8] (zq [zV zi 9,zV zi 10,zV zi 11] (.seq (.label 1) (.seq (zq [zM 6 15,zC 93 [15] 16,zI .eql 16 0 17,zM 17 18,zZ 18 (zM 6 19),zZ 18 (zC 83 [19] 20),(.some (18,.false),(.un .not (.tmp 20),.some 21)),zO 18 21 22] (zc 22 (.goto 0))) (zq [zM 6 23,zC 44 [23] 24,zM 24 9] (zq [zM 6 26,zC 264 [26] 27,zM 27 25,zE 25 0 28,zE 25 1 29,zM 28 8,zM 29 10] (.seq (zq [zM 10 30,zM 1 31,zM 7 32,zU 32 33,zB .sub 31 33 34,zB .gtr 30 34 35] (zc 35 (zq [zM 6 36,zM 9 37,zR 81 [.tmp 36,zk 11,.tmp 37] 38] (.goto 0)))) (.seq (zq [zM 8 39,zQ 39 40] (zc 40 (zq [zM 7 41,zM 6 42,zM 10 43,zC 159 [42,43] 44,zP 1 1 41 44 45,zM 45 7] (.goto 1)))) (zq [zM 6 46,zC 44 [46] 47,zM 47 9] (zq [zM 6 48,zC 265 [48] 49,zM 49 11] (.seq (zq [zM 11 50,zM 7 51,zU 51 52,zB .gtr 50 52 53] (zc 53 (.reg [zM 6 54,zM 9 55,zR 81 [.tmp 54,zk 10,.tmp 55] 56] []))) (.seq (zq [zM 6 57,zC 83 [57] 58] (zc 58 (.reg [zM 7 59,zM 11 60,zM 10 61,zC 266 [59,60,61] 62,zM 62 7] []))) (.seq (.goto 1) (.seq (.label 0) (.seq (zq [zM 6 63,zC 43 [63] 64,zX [zi,zi] 12,zS 2 12 64] (zq [zN 2 12 65,zC 31 [65] 66,zQ 66 67] (zc 67 (zq [zN 2 12 68,zV zn 4,zS 2 5 68] .ret)))) (zq [zM 7 69,zD [zi,zi] [] 70,zM 69 4,zS 2 5 70] .ret)))))))))))))))))))) [.tmp 4,.cell 5 (.some 2)] 71:=ki
theorem Aox:Is Tryz.prog Tryz.f257 (zq [zV zi 4] (.seq (zq [zM 0 8,zM 1 9,zC 167 [8,9] 10,zQ 10 11] (zc 11 (zq [zV zi 4] .ret))) (zq [zM 1 12,zU 12 13,zK .u64 13 14,zC 229 [14] 15,zM 15 5] (.seq (zq [zM 1 16,zC 269 [16] 17,zU 17 18,zV zi 19] (.block 0 (.loop (zq [zB .lss 19 18 20] (.seq (.cond (.tmp 20) .skip (.exit 0)) (.seq (.block 1 (zq [zM 19 21,zJ 1 17 19 22,zL 22 23,zM 21 6,zM 23 7] (.reg [zM 5 24,zM 7 25,zC 229 [25] 26,zM 0 27,zM 1 28,zM 6 29,zJ 2 28 29 30,zF 1 30 31,zL 31 32,zC 270 [27,32] 33,zB .add 26 33 34,zB .add 24 34 35,zM 35 5] [(2,8)]))) (.reg [zI .add 19 1 36,zM 36 19] []))))))) (zq [zM 5 37,zM 37 4] .ret))))) [.tmp 4] 38:=ki
theorem Alw:Is Tryz.prog Tryz.f265 (zq [zV zi 2] (zq [zM 0 5,zC 44 [5] 6,zM 6 3] (zq [zM 0 7,zC 147 [7] 8,zM 8 4] (.seq (zq [zM 4 9,zW (.bin .geq (.tmp 9) (.const (.int .u64 65536))) 10] (zc 10 (.reg [zM 0 11,zM 3 12,zR 81 [.tmp 11,zk 10,.tmp 12] 13] []))) (.seq (zq [zM 0 14,zC 83 [14] 15,zQ 15 16] (zc 16 (zq [zV zi 2] .ret))) (zq [zM 4 17,zK .i64 17 18,zI .add 18 1 19,zM 19 2] .ret)))))) [.tmp 2] 20:=ki
theorem Aou:Is Tryz.prog Tryz.f267 (zq [zV (.int .u32 0) 2] (.seq (zq [zM 0 3,zW (.bin .and (.tmp 3) (.const (.int .u32 1))) 4,zW (.bin .eql (.tmp 4) (.const (.int .u32 1))) 5] (zc 5 (zq [zM 0 6,zW (.bin .shr (.tmp 6) (.const (.int .u64 1))) 7,zW (.bin .xor (.tmp 7) (.const (.int .u32 2197175160))) 8,zM 8 2] .ret))) (zq [zM 0 9,zW (.bin .shr (.tmp 9) (.const (.int .u64 1))) 10,zM 10 2] .ret))) [.tmp 2] 11:=ki
theorem Ar2:Is Tryz.prog Tryz.f272 (zq [zV zn 2,zV zi 3] (zq [zM 0 7,zC 274 [7] 8,zM 8 6,zE 6 0 9,zE 6 1 10,zM 9 4,zM 10 5] (.seq (zq [zM 5 11,zI .neq 11 0 12] (zc 12 (zq [zM 5 13,zV zn 2,zM 13 3] .ret))) (zq [zM 4 14,zC 275 [14] 15,zE 15 0 16,zE 15 1 17,zM 16 2,zM 17 3] .ret)))) [.tmp 2,.tmp 3] 18:=ki
theorem Ar0:Is Tryz.prog Tryz.f274 (zq [zY 0 1,zV zn 2,zV zi 3] (.seq (zq [zL 1 11,zU 11 12,zI .gtr 12 1048576 13] (zc 13 (zq [zV zn 2,zV (.int .i64 2) 3] .ret))) (zq [zX [zn] 4] (zq [zX [zi] 5,(none,(.store 1 (.tmp 5) (zk 0),none))] (zq [zW (.mkf 276 [] [.tmp 5,.tmp 4,.tmp 1]) 14,zM 14 6] (zq [zL 1 15,zC 277 [15] 16,zM 16 7] (.seq (zq [zV zi 8] (.block 0 (.loop (.seq (zq [zM 8 17,zL 1 18,zU 18 19,zB .lss 17 19 20] (.cond (.tmp 20) .skip (.exit 0))) (.block 1 (zq [zM 7 22,zM 8 23,zC 278 [22,23] 24,zM 24 21,zE 21 0 25,zE 21 1 26,zM 25 9,zM 26 10] (.seq (zq [zM 10 27,zI .eql 27 0 28] (zc 28 (zq [zM 8 29,zI .add 29 1 30,zM 30 8] (.exit 1)))) (zq [zM 6 31,zM 8 32,zW (.call (.tmp 31) [.tmp 32]) 33] (zq [zL 4 34,zM 9 35,zM 10 36,zD [zn,zi,zi] [(1,(1,.tmp 35)),(2,(1,.tmp 36))] 37,zW (.bsl 3 [.tmp 37]) 38,zP 3 40 34 38 39,zS 1 4 39] (zq [zM 8 40,zM 10 41,zB .add 40 41 42,zM 42 8] (.reg [zM 8 43,zS 1 5 43] []))))))))))) (zq [zM 6 44,zL 1 45,zU 45 46,zW (.call (.tmp 44) [.tmp 46]) 47] (zq [zL 4 48,zM 48 2,zV zi 3] .ret))))))))) [.tmp 2,.tmp 3] 49:=ki
theorem Aor:Is Tryz.prog Tryz.f275 (zq [zV zn 2,zV zi 3] (zq [zM 0 7,zC 279 [7] 8,zC 173 [8] 9,zM 9 4] (.seq (zq [zM 0 10,zU 10 11,zV zi 12] (.block 0 (.loop (zq [zB .lss 12 11 13] (.seq (.cond (.tmp 13) .skip (.exit 0)) (.seq (.block 1 (zq [zJ 3 10 12 14,zN 3 14 15,zX [zn,zi,zi] 6,zS 3 6 15] (.reg [zM 4 16,zN 3 6 17,zC 280 [16,17] 18] []))) (.reg [zI .add 12 1 19,zM 19 12] []))))))) (zq [zM 4 20,zC 176 [20] 21,zE 21 0 22,zE 21 1 23,zM 22 2,zM 23 3] .ret)))) [.tmp 2,.tmp 3] 24:=ki
theorem Alv:Is Tryz.prog Tryz.f276 (zq [zM 0 5,zL 1 6,zB .gtr 5 6 7] (zc 7 (.reg [zL 2 8,zW (.bsl 1 []) 9,zL 3 10,zL 1 11,zM 0 12,zW (.slice 1 (.tmp 10) (.some (.tmp 11)) (.some (.tmp 12)) none) 13,zP 1 1 9 13 14,zD [zn,zi,zi] [(0,(1,.tmp 14))] 15,zW (.bsl 3 [.tmp 15]) 16,zP 3 40 8 16 17,zS 1 2 17] [(0,2),(0,3),(2,3),(0,6)]))) [] 18:=ki
theorem Arx:Is Tryz.prog Tryz.f281 (zq [zV (.pointer none) 2] (zq [zW (.bsl 1 []) 3,zM 0 4,zP 1 1 3 4 5,zW (.mkmap) 6,zD [zn,.map none,zn] [(0,(1,.tmp 5)),(1,(1,.tmp 6))] 7,zY 7 8,zM 8 2] .ret)) [.tmp 2] 9:=ki
theorem Arv:Is Tryz.prog Tryz.f283 (zq [zY 0 2,zY 1 3,zV .nilFunc 4] (zq [zW (.mkf 289 [] [.tmp 2,.tmp 3]) 5,zM 5 4] .ret)) [.tmp 4] 6:=ki
theorem Aca:Is Tryz.prog Tryz.f284 (zq [zV zi 6] (.seq (zq [zM 1 8,zI .lss 8 0 9,zM 9 10,zZ 10 (zM 1 11),zZ 10 (zM 0 12),zZ 10 (zU 12 13),zZ 10 (zB .geq 11 13 14),zO 10 14 15,zM 15 16,zZ 16 (zM 2 17),zZ 16 (zI .lss 17 1 18),zO 16 18 19,zM 19 20,zZ 20 (zM 2 21),zZ 20 (zM 1 22),zZ 20 (zB .gtr 21 22 23),zO 20 23 24] (zc 24 (zq [zV zi 6] .ret))) (zq [zV zi 7] (.seq (.block 0 (.loop (.seq (.seq (.reg [zM 1 25,zM 7 26,zB .add 25 26 27,zM 0 28,zU 28 29,zB .lss 27 29 30,zM 30 31,zT 31 (zM 7 32),zT 31 (zI .lss 32 1048576 33),zA 31 33 34,zM 34 35,zT 35 (zM 0 36),zT 35 (zM 1 37),zT 35 (zM 7 38),zT 35 (zB .add 37 38 39),zT 35 (zJ 1 36 39 40),zT 35 (zL 40 41),zT 35 (zM 0 42),zT 35 (zM 1 43),zT 35 (zM 7 44),zT 35 (zB .add 43 44 45),zT 35 (zM 2 46),zT 35 (zB .sub 45 46 47),zT 35 (zJ 1 42 47 48),zT 35 (zL 48 49),zT 35 (zB .eql 41 49 50),zA 35 50 51] [(16,24)]) (.cond (.tmp 51) .skip (.exit 0))) (.block 1 (.reg [zM 7 52,zI .add 52 1 53,zM 53 7] []))))) (zq [zM 7 54,zM 54 6] .ret))))) [.tmp 6] 55:=ki
theorem Aru:Is Tryz.prog Tryz.f287 (zq [zV zi 2] (.seq (zq [zM 0 3,zW (.eqp .false (.tmp 3) (.const (.pointer none))) 4] (zc 4 (zq [zV zi 2] .ret))) (zq [zM 0 5,zH 5 6,zF 2 6 7,zL 7 8,zU 8 9,zM 9 2] .ret))) [.tmp 2] 10:=ki
theorem Aon:Is Tryz.prog Tryz.f290 (zq [zV (.int .u32 0) 4,zV (.bool .false) 5] (.seq (zq [zM 1 8,zI .lss 8 0 9,zM 9 10,zZ 10 (zM 1 11),zZ 10 (zM 0 12),zZ 10 (zU 12 13),zZ 10 (zI .sub 13 4 14),zZ 10 (zB .gtr 11 14 15),zO 10 15 16] (zc 16 (zq [zV (.int .u32 0) 4,zV (.bool .false) 5] .ret))) (zq [zV (.int .u32 0) 6] (.seq (zq [zV zi 17] (.block 0 (.loop (zq [zI .lss 17 4 18] (.seq (.cond (.tmp 18) .skip (.exit 0)) (.seq (.block 1 (zq [zM 17 19,zM 19 7] (.reg [zM 6 20,zM 0 21,zM 1 22,zM 7 23,zB .add 22 23 24,zJ 1 21 24 25,zL 25 26,zK .u32 26 27,zM 7 28,zW (.bin .mul (zk 8) (.tmp 28)) 29,zB .shl 27 29 30,zB .or 20 30 31,zM 31 6] []))) (.reg [zI .add 17 1 32,zM 32 17] []))))))) (zq [zM 6 33,zM 33 4,zV (.bool .true) 5] .ret))))) [.tmp 4,.tmp 5] 34:=ki
theorem Ci {p:Prop} (h:p:=by(intros;simp[BW])):p:=h
abbrev iA (n:Int):AV:=.lit (.int .i64 n)
abbrev uA (n:Int):AV:=.lit (.int .u64 n)
abbrev bA (b:Bool):AV:=.lit (.bool b)
abbrev A9 (k:IntKind) (l:List Int):AV:=.sl .none 1 (A2 k l)
abbrev B9 (f:Int×Int):AV:=.agg [iA f.1,iA f.2]
theorem Ub (c a:Int):An Tryz.prog 31 [B9 (c,a)] [] (bA (c==0)) []:=by
 refine RM Tryz.func31 b31 ?_
 exact FA b31 []
theorem Aw (c a:Int):Ct Tryz.prog 31 [B9 (c,a)] [] (λ_=>bA (c==0)) [] (λ_=>[]):=(Ub c a).toCt Ci Ci
theorem Abd (c a:Int):An Tryz.prog 33 [iA c,iA a] [] (B9 (BW c a)) []:=by
 refine RM Tryz.func33 b33 ?_
 refine Ax (λh=>?_) (λh=>?_)
 ·have h':c=0:=by simpa using h
  refine (mp ?_).1
  (refine FB b33 [] ?_ ?_<;>first|with_reducible rfl|(simp[Ae,Ah,Ai,Ag,BW,h'];done)|rfl)
 ·have h':¬c=0:=by simpa using h
  refine (mp ?_).1
  (refine FB b33 [] ?_ ?_<;>first|with_reducible rfl|(simp[Ae,Ah,Ai,Ag,BW,h'];done)|rfl)
theorem BQ (c a:Int):Ct Tryz.prog 33 [iA c,iA a] [] (λ_=>B9 (BW c a)) [] (λ_=>[]):=(Abd c a).toCt Ci Ci
def A7 (s:RS):Ad:=.cells [.sl .full 1 (A2 .u8 s.l),iA s.at_,iA s.code,iA s.fat]
@[simp] theorem Ao (ρ:Nat->Nat) (s:RS):(A7 s).ren ρ=A7 s:=by simp[A7,AT]
theorem rdr_dead (s:RS):A7 s≠ .dead:=by simp[A7]
theorem RX (s:RS):An Tryz.prog 83 [.ref 0 0] [A7 s] (bA s.good) [A7 s]:=by
 refine RN Tryz.func83 b83 ?_;simp only[go_sem,seval,A7];refine (mok ?_).1
 refine Aa.p (Aw _ _) ?_
 refine (mp ?_).1
 (refine FB b83 [0] ?_ ?_<;>first|with_reducible rfl|(simp[Ae,Ah,Ai,Ag,A7,RS.good];done)|rfl)
theorem Ak (s:RS) (i:Nat):Ct Tryz.prog 83 [.ref i 0] [(i,A7 s)] (λ_=>bA s.good) [] (λ_=>[]):=Ct.r1 (RX s) i Ci (λρ=>Ao ρ s) (rdr_dead s) Ci
theorem OV (s:RS):An Tryz.prog 43 [.ref 0 0] [A7 s] (B9 (s.code,s.fat)) [A7 s]:=by
 refine RN Tryz.func43 b43 ?_;simp only[go_sem,seval,A7];refine (mok ?_).1
 (refine FB b43 [0] ?_ ?_<;>first|with_reducible rfl|(simp[Ae,Ah,Ai,Ag,A7];done)|rfl)
theorem A3 (s:RS) (i:Nat):Ct Tryz.prog 43 [.ref i 0] [(i,A7 s)] (λ_=>B9 (s.code,s.fat)) [] (λ_=>[]):=Ct.r1 (OV s) i Ci (λρ=>Ao ρ s) (rdr_dead s) Ci
theorem XL (s:RS):An Tryz.prog 44 [.ref 0 0] [A7 s] (iA s.at_) [A7 s]:=by
 refine RN Tryz.func44 b44 ?_;simp only[go_sem,seval,A7];refine (mok ?_).1
 (refine FB b44 [0] ?_ ?_<;>first|with_reducible rfl|(simp[Ae,Ah,Ai,Ag,A7];done)|rfl)
theorem AP (s:RS) (i:Nat):Ct Tryz.prog 44 [.ref i 0] [(i,A7 s)] (λ_=>iA s.at_) [] (λ_=>[]):=Ct.r1 (XL s) i Ci (λρ=>Ao ρ s) (rdr_dead s) Ci
theorem RW (s:RS) (h:s.ok):An Tryz.prog 93 [.ref 0 0] [A7 s] (iA s.left) [A7 s]:=by
 obtain⟨h1,h2,h3⟩:=h
 have e:IntKind.i64.wrap ((s.l.length:Int)-s.at_)=s.left:=by rw[IntWalk.i64_in _ (by omega)];rfl
 refine RN Tryz.func93 b93 ?_;simp only[go_sem,seval,A7,Ab,e];refine (mok ?_).1
 (refine FB b93 [0] ?_ ?_<;>first|with_reducible rfl|(simp[Ae,Ah,Ai,Ag,A7];done)|rfl)
theorem Gb (s:RS) (i:Nat) (h:s.ok):Ct Tryz.prog 93 [.ref i 0] [(i,A7 s)] (λ_=>iA s.left) [] (λ_=>[]):=Ct.r1 (RW s h) i Ci (λρ=>Ao ρ s) (rdr_dead s) Ci
theorem RY (s:RS) (c a:Int):An Tryz.prog 81 [.ref 0 0,iA c,iA a] [A7 s] (.tup []) [A7 (s.fail c a)]:=by
 refine RM Tryz.func81 b81 ?_
 refine Aa.r1 (Ak s 0) rfl ?_
 refine (mp ?_).1
 refine Ax (λh=>?_) (λh=>?_)
 ·have h':s.code=0:=by simpa[RS.good]using h
  refine (mp ?_).1
  refine Aa.p (BQ c a) ?_
  simp only[go_sem,seval,A7];refine (mok ?_).1
  (refine FB b81 [0] ?_ ?_<;>first|with_reducible rfl|(simp[Ae,Ah,Ai,Ag,A7,RS.fail,h'];done)|rfl)
 ·have h':¬s.code=0:=by simpa[RS.good]using h
  refine (mp ?_).1
  (refine FB b81 [0] ?_ ?_<;>first|with_reducible rfl|(simp[Ae,Ah,Ai,Ag,A7,RS.fail,h'];done)|rfl)
theorem Ar (s:RS) (c a:Int) (i:Nat):Ct Tryz.prog 81 [.ref i 0,iA c,iA a] [(i,A7 s)] (λ_=>.tup []) [(i,A7 (s.fail c a))] (λ_=>[]):=Ct.u1 (RY s c a) i Ci (λρ=>Ao ρ s) (λρ=>Ao ρ _) (rdr_dead s) Ci
theorem RR (s:RS) (n:Int) (hs:s.ok):An Tryz.prog 210 [.ref 0 0,iA n] [A7 s] (bA (s.skip n).2) [A7 (s.skip n).1]:=by
 refine RM Tryz.func210 Ahh ?_
 refine Aa.r1 (Ak s 0) rfl ?_
 refine (mp ?_).1
 refine Ax (λh=>?_) (λh=>?_)
 ·have h':¬s.code=0:=by simpa[RS.good]using h
  refine (mp ?_).1
  (refine FB Ahh [0] ?_ ?_<;>first|with_reducible rfl|(simp[Ae,Ah,Ai,Ag,A7,RS.skip,h'];done)|rfl)
 ·have h':s.code=0:=by simpa[RS.good]using h
  refine (mp ?_).1
  refine Ax (λh=>?_) (λh=>?_)
  ·have h2:n<0:=by simpa using h
   simp only[go_sem,seval,A7];refine (mok ?_).1
   refine Aa.u1 (Ar s 17 s.at_ 0) rfl ?_
   refine (mp ?_).1
   (refine FB Ahh [0] ?_ ?_<;>first|with_reducible rfl|(simp[Ae,Ah,Ai,Ag,A7,RS.skip,h',h2];done)|rfl)
  ·have h2:¬n<0:=by simpa using h
   refine (mp ?_).1
   refine Aa.r1 (Gb s 0 hs) rfl ?_
   refine (mp ?_).1
   refine Ax (λh=>?_) (λh=>?_)
   ·have h3:s.left<n:=by simpa using h
    simp only[go_sem,seval,A7,Ab];refine (mok ?_).1
    refine Aa.u1 (Ar s 1 s.l.length 0) rfl ?_
    refine (mp ?_).1
    (refine FB Ahh [0] ?_ ?_<;>first|with_reducible rfl|(simp[Ae,Ah,Ai,Ag,A7,RS.skip,h',h2,h3];done)|rfl)
   ·have h3:¬s.left<n:=by simpa using h
    have e:IntKind.i64.wrap (s.at_+n)=s.at_+n:=by obtain⟨q1,q2,q3⟩:=hs;unfold RS.left at h3;exact IntWalk.i64_in _ (by omega)
    simp only[go_sem,seval,A7,e];refine (mok ?_).1
    (refine FB Ahh [0] ?_ ?_<;>first|with_reducible rfl|(simp[Ae,Ah,Ai,Ag,A7,RS.skip,h',h2,h3];done)|rfl)
theorem Ij (s:RS) (n:Int) (i:Nat) (hs:s.ok):Ct Tryz.prog 210 [.ref i 0,iA n] [(i,A7 s)] (λ_=>bA (s.skip n).2) [(i,A7 (s.skip n).1)] (λ_=>[]):=Ct.u1 (RR s n hs) i Ci (λρ=>Ao ρ s) (λρ=>Ao ρ _) (rdr_dead s) Ci
abbrev O0 (n:Int):AV:=.lit (.int .u8 n)
theorem Mj {l:List Int} (i:Nat) (h:i<l.length):(A2 .u8 l).getD i .any=O0 (l.getD i 0):=CC .u8 l i h
theorem RZ (s:RS) (hs:s.ok):An Tryz.prog 146 [.ref 0 0] [A7 s] (O0 s.byte.2) [A7 s.byte.1]:=by
 refine RM Tryz.func146 Apo ?_
 refine Aa.u1 (Ij s 1 0 hs) rfl ?_
 refine (mp ?_).1
 refine Ax (λh=>?_) (λh=>?_)
 ·have h':¬(s.skip 1).2=true:=by simpa using h
  refine (mp ?_).1
  (refine FB Apo [0] ?_ ?_<;>first|with_reducible rfl|(simp[Ae,Ah,Ai,Ag,A7,RS.byte,h'];done)|rfl)
 ·have h':(s.skip 1).2=true:=by simpa using h
  obtain⟨h1,h2,h3,h4⟩:=Gq h'
  obtain⟨a,b,c⟩:=hs
  unfold RS.left at h3
  have e:IntKind.i64.wrap (s.at_+1-1)=s.at_:=by rw[IntWalk.i64_in _ (by omega)];omega
  have eq1:s.at_.toNat<s.l.length:=by omega
  have eq2:s.at_<s.l.length:=by omega
  simp only[go_sem,seval,h4,A7,e,Ab,Mj _ eq1,a,eq2];refine (mok ?_).1
  (refine FB Apo [0] ?_ ?_<;>first|with_reducible rfl|(simp[Ae,Ah,Ai,Ag,A7,RS.byte,h',h4];done)|rfl)
theorem CI (s:RS) (i:Nat) (hs:s.ok):Ct Tryz.prog 146 [.ref i 0] [(i,A7 s)] (λ_=>O0 s.byte.2) [(i,A7 s.byte.1)] (λ_=>[]):=Ct.u1 (RZ s hs) i Ci (λρ=>Ao ρ s) (λρ=>Ao ρ _) (rdr_dead s) Ci
theorem Uv (l:List Int):An Tryz.prog 41 [A9 .u8 l] [] (.ref 0 0) [A7 (RS.new l)]:=by
 have e:(A2 .u8 l).take l.length=A2 .u8 l:=List.take_of_length_le (by simp[A2])
 refine RN Tryz.func41 b41 ?_;refine (mt @Ab @Qd @Int.toNat_natCast e ?_).1
 (repeat((with_reducible refine And.intro ?_ ?_);(·exact sd)))
 (refine FB b41 [0] ?_ ?_<;>first|with_reducible rfl|(simp[Ae,Ah,Ai,Ag,A7,RS.new];done)|rfl)
theorem Ce (l:List Int):Ct Tryz.prog 41 [A9 .u8 l] [] (λn=>.ref n 0) [] (λ_=>[A7 (RS.new l)]):=Ct.n (Uv l) Ci cl cl
theorem RQ (s:RS) (n:Int) (hs:s.ok):An Tryz.prog 159 [.ref 0 0,iA n] [A7 s] (A9 .u8 (s.take n).2) [A7 (s.take n).1]:=by
 refine RM Tryz.func159 Apk ?_
 refine Aa.u1 (Ij s n 0 hs) rfl ?_
 refine (mp ?_).1
 refine Ax (λh=>?_) (λh=>?_)
 ·have h':¬(s.skip n).2=true:=by simpa using h
  refine (mp ?_).1
  (refine AF.untag 4 rfl ?_;simp only[Au,List.set_cons_zero,List.set_cons_succ])
  (refine FB Apk [0] ?_ ?_<;>first|with_reducible rfl|(simp[Ae,Ah,Ai,Ag,A7,RS.take,h'];done)|rfl)
 ·have h':(s.skip n).2=true:=by simpa using h
  obtain⟨h1,h2,h3,h4⟩:=Gq h'
  obtain⟨a,b,c⟩:=hs
  unfold RS.left at h3
  have e:IntKind.i64.wrap (s.at_+n-n)=s.at_:=by rw[IntWalk.i64_in _ (by omega)];omega
  have e2:(s.at_+n-s.at_).toNat=n.toNat:=by congr 1;omega
  simp only[go_sem,seval,h4,A7,e,e2,Ab,a,DD,Cb];refine (mok ?_).1
  (repeat((with_reducible refine And.intro ?_ ?_);(·exact sd)))
  (refine AF.untag 4 rfl ?_;simp only[Au,List.set_cons_zero,List.set_cons_succ])
  (refine FB Apk [0] ?_ ?_<;>first|with_reducible rfl|(simp[Ae,Ah,Ai,Ag,A7,RS.take,h',h4];done)|rfl)
theorem CH (s:RS) (n:Int) (i:Nat) (hs:s.ok):Ct Tryz.prog 159 [.ref i 0,iA n] [(i,A7 s)] (λ_=>A9 .u8 (s.take n).2) [(i,A7 (s.take n).1)] (λ_=>[]):=Ct.u1 (RQ s n hs) i Ci (λρ=>Ao ρ s) (λρ=>Ao ρ _) (rdr_dead s) Ci
theorem Ap9 {y:Int}:y.fdiv (2^min 7 64)=y/128:=by
 show y.fdiv 128=y/128
 rw[Int.fdiv_eq_ediv_of_nonneg _ (by omega)]
theorem P1 (x:Int) (h0:0≤x) (h1:x<18446744073709551616):An Tryz.prog 229 [uA x] [] (iA (vb x).length) []:=by
 refine RM Tryz.func229 Asf ?_
 have hl:=(Bd x).2
 refine AM (α:=Int×Int) (λa=>[uA a.1,.any,iA 0,iA a.2,.any,.any,.any,.any,.any,.any,.any]) (λ_=>[]) (λa=>0≤a.1∧a.1<18446744073709551616∧1≤a.2∧a.2+(vb a.1).length=1+(vb x).length) (λa=>a.1.toNat) (x,1) ⟨h0,h1,Int.le_refl _,rfl⟩ (Wk.forget (by simp[Ca])) ?_
 rintro⟨y,k⟩ ⟨y0,y1,k0,hk⟩
 simp only at y0 y1 k0 hk
 have hy:=(Bd y).1
 refine (mp ?_).1
 refine Ax (λh=>?_) (λh=>?_)
 ·have hy2:128≤y:=by simpa using h
  have ew:IntKind.i64.wrap (k+1)=k+1:=IntWalk.i64_in _ (by omega)
  have eb:=Ami hy2 y1
  refine (mr @Ap9 ew ?_).1
  (repeat((with_reducible refine And.intro ?_ ?_);(·exact sd)))
  refine⟨(y/128,k+1),⟨by simp only;omega,by simp only;omega,by simp only;omega,?_⟩,by simp only;omega,Wk.forget (by simp[Ca])⟩
  rw[eb]at hk;simp at hk ⊢;omega
 ·have hy2:y<128:=by simpa using h
  have eb:=Amh hy2
  rw[eb]at hk
  have ek:k=(vb x).length:=by simp at hk;omega
  refine (mp ?_).1
  exact FE Asf [] ek
theorem CU (x:Int) (h0:0≤x) (h1:x<18446744073709551616):Ct Tryz.prog 229 [uA x] [] (λ_=>iA (vb x).length) [] (λ_=>[]):=(P1 x h0 h1).toCt Ci Ci
theorem Aev {y:Int} (h0:0≤y):Cx .or .u8 (IntKind.u8.wrap y) 128=128+y%128:=by
 rw[IntKind.wrap_u8]
 show bits .or .u8 (y%256) 128=_
 rw[u8_or _ _ (by omega) (by omega) (by omega) (by omega)]
 have:=Aqe ⟨(y%256).toNat,by omega⟩
 simp only at this
 rw[show(128:Int).toNat=128 from rfl,this]
 omega
theorem N1 (x:Int) (h0:0≤x) (h1:x<18446744073709551616):An Tryz.prog 258 [uA x] [] (A9 .u8 (vb x)) []:=by
 refine RM Tryz.func258 Ar6 ?_
 have hl:=(Bd x).2
 refine AM (α:=Int×List Int) (λa=>[uA a.1,.any,.any,.sl (.row 0) 1 (A2 .u8 a.2),.any,.any,.any,.any,.any,.any,.any,.any,.any,.any,.any,.any,.any,.any,.any]) (λa=>[.row 1 a.2.length]) (λa=>0≤a.1∧a.1<18446744073709551616∧a.2++vb a.1=vb x) (λa=>a.1.toNat) (x,[]) ⟨h0,h1,rfl⟩ ((Wk.row 3 1 rfl (.inl rfl) (Nat.le_refl _)).trans (Wk.forget (by simp[Ca,A2]))) ?_
 rintro⟨y,m⟩ ⟨y0,y1,hk⟩
 simp only at y0 y1 hk
 have hm:m.length≤10:=by rw[←hk]at hl;simp at hl;omega
 refine (mp ?_).1
 refine Ax (λh=>?_) (λh=>?_)
 ·have hy2:128≤y:=by simpa using h
  have eb:=Ami hy2 y1
  have e1:[O0 (128+y%128)]=A2 .u8 [128+y%128]:=rfl
  simp only[go_sem,seval,Ap9,Aev y0,e1,CV,Ab];refine (mok ?_).1
  (repeat((with_reducible refine And.intro ?_ ?_);(·exact sd)))
  refine⟨(y/128,m++[128+y%128]),⟨by simp only;omega,by simp only;omega,?_⟩,by simp only;omega,Wk.to (by simp) (by simp[Ca])⟩
  rw[←hk,eb];simp
 ·have hy2:y<128:=by simpa using h
  have eb:=Amh hy2
  rw[eb]at hk
  have ew:IntKind.u8.wrap y=y:=IntWalk.u8_in _ (by omega)
  have e1:[O0 y]=A2 .u8 [y]:=rfl
  refine (mt ew e1 @CV @Ab ?_).1
  (repeat((with_reducible refine And.intro ?_ ?_);(·exact sd)))
  (refine AF.untag 2 rfl ?_;simp only[Au,List.set_cons_zero,List.set_cons_succ])
  exact FE Ar6 [] hk
theorem P3 (x:Int) (h0:0≤x) (h1:x<18446744073709551616):Ct Tryz.prog 258 [uA x] [] (λ_=>A9 .u8 (vb x)) [] (λ_=>[]):=(N1 x h0 h1).toCt cl cl
theorem Atv (s:RS):s.adv 0=s:=by simp[RS.adv]
theorem RS.ok.adv {s:RS} (h:s.ok) {i:Nat} (hi:i≤s.rest.length):(s.adv i).ok:=by
 obtain⟨a,b,c⟩:=h
 have:=DP s a b
 exact⟨by show 0≤s.at_+(i:Int);omega,by show s.at_+(i:Int)≤s.l.length;omega,c⟩
theorem Aht (s:RS) (i:Int):(s.adv i).good=(s.code==0):=rfl
theorem Apy (s:RS) (i:Int):(s.adv i).at_=s.at_+i:=rfl
theorem Aeu (i:Nat) (hi:i≤9) (x c:Int) (h0:0≤x) (h1:x<128^i) (c0:0≤c) (c1:c<128) (c2:i=9->c≤1):
 Cx .or .u64 x (IntKind.u64.wrap (IntKind.u64.wrap c*2^min (7*(i:Int)).toNat 64))=x+128^i*c:=by
 have e1:IntKind.u64.wrap c=c:=IntWalk.u64_in _ (by omega)
 have e2:min (7*(i:Int)).toNat 64=7*i:=by
  omega
 rw[e1,e2]
 exact(X6 i hi x c h0 h1 c0 c1 c2).1
set_option maxRecDepth 100000 in
theorem P2 (s:RS) (hs:s.ok) (hb:AY s.l):An Tryz.prog 147 [.ref 0 0] [A7 s] (uA s.vint.2) [A7 s.vint.1]:=by
 have hs0:=hs
 obtain⟨a,b,c⟩:=hs
 refine RM Tryz.func147 Ace ?_
 refine Sv (α:=Nat×Int) 0 (by rfl) (λa=>[.ref 0 0,.any,uA 0,uA a.2,.any,iA (7*(a.1:Int)),iA s.at_,.any,.any,.any,.any,.any,.any,.any,.any,.any,.any,.any,.any,.any,.any,.any,.any,.any,.any,.any,.any,.any,.any,.any,.any,.any,.any,.any,.any,.any,.any,.any,.any,.any,.any,.any,.any,.any,.any,.any,.any,.any,.any,.any,.any,.any,.any,.any]) (λa=>[A7 (s.adv a.1)])
  (λa=>a.1≤9∧(s.code≠0->a.1=0)∧0≤a.2∧a.2<128^a.1∧Kq s a.1 a.2∧a.1≤s.rest.length) (λa=>10-a.1) (λpass=>?_) ?_
 ·refine (mp ?_).1
  refine Aa.r1 (AP s 0) rfl ?_
  refine (mp ?_).1
  refine QK (Wk.to ?_ ?_) (pass (0,0) ⟨by simp,λ_=>rfl,by simp,by simp,YS s hb,by simp⟩)
  ·simp[Atv]
  ·simp[Ca]
 ·rintro⟨i,x⟩ ⟨hi9,hci,x0,x1,hu,hir⟩
  simp only at hi9 hci x0 x1 hu hir
  have hrl:=DP s a b
  refine (mp ?_).1
  refine Aa.u1 (CI (s.adv i) 0 (hs0.adv hir)) rfl ?_
  by_cases hc:s.code=0
  ·cases hd:s.rest.drop i with
   |nil=>
    have hil:s.rest.length≤i:=by
     rcases Nat.lt_or_ge i s.rest.length with h|h
     ·have:=congrArg List.length hd;simp at this;omega
     ·exact h
    have hB:=Ag2 s i hc a b (by omega)
    have hv:=Acu hc hu hd
    refine (mq hB ?_).1
    refine Aa.r1 (Ak _ 0) rfl ?_
    simp only[go_sem,seval,RS.good,show((1:Int)==0)=false from rfl];refine (mok ?_).1
    exact FE Ace [0] hv
   |cons c t=>
    obtain⟨hB,hle⟩:=Ab6 s i c t hc a b hd
    have hcb:0≤c∧c<256:=by
     have:c∈s.rest.drop i:=by rw[hd];exact List.mem_cons_self ..
     exact hb c (List.mem_of_mem_drop (List.mem_of_mem_drop this))
    have hil:i<s.rest.length:=by
     rcases Nat.lt_or_ge i s.rest.length with h|h
     ·exact h
     ·rw[List.drop_eq_nil_of_le h]at hd;cases hd
    have hg:(s.adv ((i:Int)+1)).good=true:=by rw[Aht];simp[hc]
    have hw:IntKind.i64.wrap ((s.adv ((i:Int)+1)).at_-1)=s.at_+i:=by
     rw[Apy,IntWalk.i64_in _ (by omega)];omega
    refine (mq hB ?_).1
    refine Aa.r1 (Ak _ 0) rfl ?_
    refine (mq hg ?_).1
    have t1:(7*(i:Int)==63)=decide (i=9):=by
     rw[Bool.eq_iff_iff];simp;omega
    by_cases c1:i=9∧1<c
    ·have hv:=YL hc hu hd c1.1 c1.2
     have t2:decide (1<c)=true:=by simpa using c1.2
     have t3:decide (i=9)=true:=by simpa using c1.1
     refine (ms t1 t2 t3 ?_).1
     refine Aa.r1 (AP _ 0) rfl ?_
     refine (mq hw ?_).1
     refine Aa.u1 (Ar _ 5 _ 0) rfl ?_
     refine (mp ?_).1
     exact FE Ace [0] hv
    ·have p1:(decide (i=9)=true∧decide (1<c)=false)∨(decide (i=9)=false∧True):=by
      simp only[decide_eq_true_eq,decide_eq_false_iff_not,and_true];omega
     by_cases c2:0<i∧c=0
     ·obtain⟨c2',rfl⟩:=c2
      have hv:=Acs hc hu hd c2'
      have t3:decide (s.at_<s.at_+i)=true:=by simp;omega
      rcases p1 with⟨q1,q2⟩|⟨q1,q2⟩<;>
      ·refine (mr t1 q1 ?_).1
       refine Aa.r1 (AP _ 0) rfl ?_
       refine (mr hw t3 ?_).1
       refine Aa.r1 (AP _ 0) rfl ?_
       refine (mq hw ?_).1
       refine Aa.u1 (Ar _ 4 _ 0) rfl ?_
       refine (mp ?_).1
       exact FE Ace [0] hv
     ·have hor:=Aeu i hi9 x (c%128) x0 x1 (by omega) (by omega) (by omega)
      have hm:c.tmod 128=c%128:=Int.tmod_eq_emod_of_nonneg (by omega)
      have p2:((c==0)=true∧decide (s.at_<s.at_+i)=false)∨(c==0)=false:=by
       simp only[beq_iff_eq,decide_eq_false_iff_not,beq_eq_false_iff_ne];omega
      rcases p1 with⟨q1,q2⟩|⟨q1,q2⟩<;>rcases p2 with⟨q3,q4⟩|q3<;>(first|((simp only[go_sem,seval,t1,q1,q2,q3,hm];refine (mok ?_).1);refine Aa.r1 (AP _ 0) rfl (mt hw q4 hm hor ?_).1)|(simp only[go_sem,seval,t1,q1,q2,q3,hm,hor];refine (mok ?_).1))<;>
      ·(repeat((with_reducible refine And.intro ?_ ?_);(·exact sd)))
       refine Ax (λh=>?_) (λh=>?_)
       ·have h2:128≤c:=by simpa using h
        have h9:i≠9:=by omega
        obtain⟨hu',hd'⟩:=YT hu hd c1 c2 (by omega)
        have h2x:=(X6 i hi9 x (c%128) x0 x1 (by omega) (by omega) (by omega)).2
        have hw2:IntKind.i64.wrap (7*(i:Int)+7)=7*((i+1:Nat):Int):=by rw[IntWalk.i64_in _ (by omega)];omega
        refine (mp ?_).1
        refine⟨(i+1,x+128^i*(c%128)),⟨by simp only;omega,λh=>absurd hc h,h2x.2,h2x.1,hu',by simp only;omega⟩,by simp only;omega,Wk.to ?_ ?_⟩
        ·simp
        ·simp[Ca,hw2]
       ·have h2:c<128:=by simpa using h
        have hv:=YM hc hu hd c1 c2 h2
        have hm2:c%128=c:=by omega
        refine (mp ?_).1
        exact FF Ace [0] hv hm2
  ·have hi0:=hci hc
   subst hi0
   have hB:=Ag3 s hc
   have hv:=Gm hc
   have e0:((0:Nat):Int)=0:=rfl
   have hg:s.good=false:=by simp[RS.good,hc]
   refine (mr e0 hB ?_).1
   refine Aa.r1 (Ak _ 0) rfl ?_
   refine (mq hg ?_).1
   exact FE Ace [0] hv
theorem B3 (s:RS) (i:Nat) (hs:s.ok) (hb:AY s.l):Ct Tryz.prog 147 [.ref i 0] [(i,A7 s)] (λ_=>uA s.vint.2) [(i,A7 s.vint.1)] (λ_=>[]):=Ct.u1 (P2 s hs hb) i Ci (λρ=>Ao ρ s) (λρ=>Ao ρ _) (rdr_dead s) Ci
theorem Kw (s:RS) (m:Int) (hs:s.ok) (hb:AY s.l):An Tryz.prog 200 [.ref 0 0,uA m] [A7 s] (uA (s.most m).2) [A7 (s.most m).1]:=by
 refine RM Tryz.func200 Apb ?_
 refine Aa.r1 (AP s 0) rfl ?_
 refine (mp ?_).1
 refine Aa.u1 (B3 s 0 hs hb) rfl ?_
 refine (mp ?_).1
 refine Ax (λh=>?_) (λh=>?_)
 ·have h':m<s.vint.2:=by simpa using h
  refine (mp ?_).1
  refine Aa.u1 (Ar _ 2 _ 0) rfl ?_
  refine (mp ?_).1
  (refine FB Apb [0] ?_ ?_<;>first|with_reducible rfl|(simp[Ae,Ah,Ai,Ag,RS.most,h'];done)|rfl)
 ·have h':¬m<s.vint.2:=by simpa using h
  refine (mp ?_).1
  (refine FB Apb [0] ?_ ?_<;>first|with_reducible rfl|(simp[Ae,Ah,Ai,Ag,RS.most,h'];done)|rfl)
theorem LI (s:RS) (m:Int) (i:Nat) (hs:s.ok) (hb:AY s.l):Ct Tryz.prog 200 [.ref i 0,uA m] [(i,A7 s)] (λ_=>uA (s.most m).2) [(i,A7 (s.most m).1)] (λ_=>[]):=Ct.u1 (Kw s m hs hb) i Ci (λρ=>Ao ρ s) (λρ=>Ao ρ _) (rdr_dead s) Ci
theorem LJ (s:RS) (m:Int) (m1:m<9223372036854775808) (hs:s.ok) (hb:AY s.l):An Tryz.prog 134 [.ref 0 0,iA m] [A7 s] (iA (s.int m).2) [A7 (s.int m).1]:=by
 refine RM Tryz.func134 App ?_
 refine Ax (λh=>?_) (λh=>?_)
 ·have h':0≤m:=by simpa using h
  have e:IntKind.u64.wrap m=m:=IntWalk.u64_in _ (by omega)
  have hr:=Jg (m:=m) hb h'
  have e2:IntKind.i64.wrap (s.most m).2=(s.most m).2:=IntWalk.i64_in _ (by omega)
  refine (mq e ?_).1
  refine Aa.u1 (LI s m 0 hs hb) rfl ?_
  refine (mq e2 ?_).1
  (refine FB App [0] ?_ ?_<;>first|with_reducible rfl|(simp[Ae,Ah,Ai,Ag,RS.int,h'];done)|rfl)
 ·have h':¬0≤m:=by simpa using h
  refine (mp ?_).1
  refine Aa.r1 (AP s 0) rfl ?_
  refine (mp ?_).1
  refine Aa.u1 (B3 s 0 hs hb) rfl ?_
  refine (mp ?_).1
  refine Aa.u1 (Ar _ 2 _ 0) rfl ?_
  refine (mp ?_).1
  (refine FB App [0] ?_ ?_<;>first|with_reducible rfl|(simp[Ae,Ah,Ai,Ag,RS.int,h'];done)|rfl)
theorem A4 (s:RS) (m:Int) (i:Nat) (m1:m<9223372036854775808) (hs:s.ok) (hb:AY s.l):Ct Tryz.prog 134 [.ref i 0,iA m] [(i,A7 s)] (λ_=>iA (s.int m).2) [(i,A7 (s.int m).1)] (λ_=>[]):=Ct.u1 (LJ s m m1 hs hb) i Ci (λρ=>Ao ρ s) (λρ=>Ao ρ _) (rdr_dead s) Ci
def B4 (j:Nat) (s:WS):Ad:=.cells [iA s.most,.sl (.row j) 1 (A2 .u8 s.l),iA s.code]
def A1 (s:WS):Ad:=.row 1 s.l.length
@[simp] theorem Ik (ρ:Nat->Nat) (j:Nat) (s:WS):(B4 j s).ren ρ=B4 (ρ j) s:=by simp[B4,AT]
@[simp] theorem wrow_ren (ρ:Nat->Nat) (s:WS):(A1 s).ren ρ=A1 s:=rfl
theorem BI (j:Nat) (s:WS):B4 j s≠ .dead:=by simp[B4]
theorem Bm (s:WS):A1 s≠ .dead:=by simp[A1]
theorem RL (s:WS):An Tryz.prog 232 [.ref 0 0] [B4 1 s,A1 s] (iA s.code) [B4 1 s,A1 s]:=by
 refine RN Tryz.func232 Ase ?_;simp only[go_sem,seval,B4,A1];refine (mok ?_).1
 (refine FB Ase [0,1] ?_ ?_<;>first|with_reducible rfl|(simp[Ae,Ah,Ai,Ag,B4,A1];done)|rfl)
theorem F9 (s:WS) (i j:Nat) (h:i≠j):Ct Tryz.prog 232 [.ref i 0] [(i,B4 j s),(j,A1 s)] (λ_=>iA s.code) [] (λ_=>[]):=Ct.r2 (RL s) i j h Ci cl cl (BI _ _) (Bm _) Ci
theorem RI (s:WS) (hs:s.ok):An Tryz.prog 252 [.ref 0 0] [B4 1 s,A1 s] (iA s.room) [B4 1 s,A1 s]:=by
 obtain⟨a,b,c⟩:=hs
 have e:IntKind.i64.wrap (s.most-s.l.length)=s.room:=by rw[IntWalk.i64_in _ (by omega)];rfl
 refine RN Tryz.func252 Ar7 ?_;simp only[go_sem,seval,B4,A1,Ab,e];refine (mok ?_).1
 (refine FB Ar7 [0,1] ?_ ?_<;>first|with_reducible rfl|(simp[Ae,Ah,Ai,Ag,B4,A1];done)|rfl)
theorem U0 (s:WS) (i j:Nat) (h:i≠j) (hs:s.ok):Ct Tryz.prog 252 [.ref i 0] [(i,B4 j s),(j,A1 s)] (λ_=>iA s.room) [] (λ_=>[]):=Ct.r2 (RI s hs) i j h Ci cl cl (BI _ _) (Bm _) Ci
theorem RK (s:WS) (c:Int):An Tryz.prog 231 [.ref 0 0,iA c] [B4 1 s,A1 s] (.tup []) [B4 1 (s.fail c),A1 (s.fail c)]:=by
 have hw:A1 (s.fail c)=A1 s:=by unfold A1;rw[(Jx s c).2]
 refine RM Tryz.func231 Ao7 ?_
 refine Aa.r2 (F9 s 0 1 (by decide)) rfl rfl ?_
 refine (mp ?_).1
 refine Ax (λh=>?_) (λh=>?_)
 ·have h':s.code=0:=by simpa using h
  simp only[go_sem,seval,B4];refine (mok ?_).1
  (refine FB Ao7 [0,1] ?_ ?_<;>first|with_reducible rfl|(simp[Ae,Ah,Ai,Ag,B4,A1,WS.fail,h'];done)|rfl)
 ·have h':¬s.code=0:=by simpa using h
  refine (mp ?_).1
  (refine FB Ao7 [0,1] ?_ ?_<;>first|with_reducible rfl|(simp[Ae,Ah,Ai,Ag,hw,WS.fail,h'];done)|rfl)
theorem Cp (s:WS) (c:Int) (i j:Nat) (h:i≠j):Ct Tryz.prog 231 [.ref i 0,iA c] [(i,B4 j s),(j,A1 s)] (λ_=>.tup []) [(i,B4 j (s.fail c)),(j,A1 (s.fail c))] (λ_=>[]):=Ct.u2 (RK s c) i j h Ci cl cl cl cl (BI _ _) (Bm _) Ci
theorem U1 (s:WS) (m:List Int) (hs:s.ok) (hB:s.l.length+m.length≤s.most->s.l.length+m.length≤140737488355328):An Tryz.prog 215 [.ref 0 0,A9 .u8 m] [B4 1 s,A1 s] (.tup []) [B4 1 (s.put m),A1 (s.put m)]:=by
 refine RM Tryz.func215 Al0 ?_
 refine Aa.r2 (F9 s 0 1 (by decide)) rfl rfl ?_
 refine (mp ?_).1
 refine Ax (λh=>?_) (λh=>?_)
 ·have h':¬s.code=0:=by simpa using h
  refine (mp ?_).1
  (refine FB Al0 [0,1] ?_ ?_<;>first|with_reducible rfl|(simp[Ae,Ah,Ai,Ag,WS.put,h'];done)|rfl)
 ·have h':s.code=0:=by simpa using h
  refine (mp ?_).1
  refine Aa.r2 (U0 s 0 1 (by decide) hs) rfl rfl ?_
  refine (mq @Ab ?_).1
  refine Ax (λh=>?_) (λh=>?_)
  ·have h2:s.most-s.l.length<m.length:=by simp at h;simp only[WS.room]at h;omega
   have hf:s.fail 2=s.put m:=by unfold WS.put WS.fail;rw[if_pos h',if_pos h',if_pos h2]
   refine (mp ?_).1
   refine Aa.u2 (Cp s 2 0 1 (by decide)) rfl rfl ?_
   refine (mp ?_).1
   exact FE Al0 [0,1] hf
  ·have h2:¬s.most-s.l.length<m.length:=by simp at h;simp only[WS.room]at h;omega
   simp only[go_sem,seval,B4,A1,Ab,CV];refine (mok ?_).1
   (repeat((with_reducible refine And.intro ?_ ?_);(·exact sd)))
   (refine FB Al0 [0,1] ?_ ?_<;>first|with_reducible rfl|(simp[Ae,Ah,Ai,Ag,B4,A1,WS.put,h',h2];done)|rfl)
theorem B0 (s:WS) (m:List Int) (i j:Nat) (h:i≠j) (hs:s.ok) (hB:s.l.length+m.length≤s.most->s.l.length+m.length≤140737488355328):Ct Tryz.prog 215 [.ref i 0,A9 .u8 m] [(i,B4 j s),(j,A1 s)] (λ_=>.tup []) [(i,B4 j (s.put m)),(j,A1 (s.put m))] (λ_=>[]):=Ct.u2 (U1 s m hs hB) i j h Ci cl cl cl cl (BI _ _) (Bm _) Ci
theorem OT (s:WS) (hb:s.l.length≤140737488355328):An Tryz.prog 176 [.ref 0 0] [B4 1 s,A1 s] (.tup [A9 .u8 s.bytes,iA s.code]) [B4 1 s,A1 s]:=by
 refine RM Tryz.func176 Ahl ?_
 refine Aa.r2 (F9 s 0 1 (by decide)) rfl rfl ?_
 refine (mp ?_).1
 refine Ax (λh=>?_) (λh=>?_)
 ·have h':¬s.code=0:=by simpa using h
  refine (mp ?_).1
  (refine AF.untag 2 rfl ?_;simp only[Au,List.set_cons_zero,List.set_cons_succ])
  (refine FB Ahl [0,1] ?_ ?_<;>first|with_reducible rfl|(simp[Ae,Ah,Ai,Ag,WS.bytes,h'];done)|rfl)
 ·have h':s.code=0:=by simpa using h
  simp only[go_sem,seval,B4,A1,Ab];refine (mok ?_).1
  (repeat((with_reducible refine And.intro ?_ ?_);(·exact sd)))
  (refine AF.untag 2 rfl ?_;simp only[Au,List.set_cons_zero,List.set_cons_succ])
  (refine FB Ahl [0,1] ?_ ?_<;>first|with_reducible rfl|(simp[Ae,Ah,Ai,Ag,B4,A1,WS.bytes,h'];done)|rfl)
theorem B1 (s:WS) (i j:Nat) (h:i≠j) (hb:s.l.length≤140737488355328):Ct Tryz.prog 176 [.ref i 0] [(i,B4 j s),(j,A1 s)] (λ_=>.tup [A9 .u8 s.bytes,iA s.code]) [] (λ_=>[]):=Ct.r2 (OT s hb) i j h Ci cl cl (BI _ _) (Bm _) Ci
theorem Aeg (n:Int):An Tryz.prog 173 [iA n] [] (.ref 0 0) [B4 1 (WS.new n),A1 (WS.new n)]:=by
 have e:(if 0>n then(0:Int)else n)=max n 0:=by split<;>omega
 refine RN Tryz.func173 Asx ?_;refine (mq e ?_).1
 refine AF.wk (Wk.rowObj 0 1 1 rfl rfl (.inl rfl) (Nat.le_refl _)) ?_
 refine (mp ?_).1
 (refine FB Asx [0,1] ?_ ?_<;>first|with_reducible rfl|(simp[Ae,Ah,Ai,Ag,B4,A1,WS.new];done)|rfl)
theorem ER (n:Int):Ct Tryz.prog 173 [iA n] [] (λk=>.ref k 0) [] (λk=>[B4 (k+1) (WS.new n),A1 (WS.new n)]):=Ct.n (Aeg n) Ci cl cl
theorem R_ (s:WS) (x:Int) (h0:0≤x) (h1:x<18446744073709551616) (hs:s.ok) (hB:s.l.length+(vb x).length≤s.most->s.l.length+(vb x).length≤140737488355328):An Tryz.prog 235 [.ref 0 0,uA x] [B4 1 s,A1 s] (.tup []) [B4 1 (s.put (vb x)),A1 (s.put (vb x))]:=by
 refine RM Tryz.func235 Asc ?_
 refine Aa.p (P3 x h0 h1) ?_
 refine (mp ?_).1
 refine Aa.u2 (B0 s (vb x) 0 1 (by decide) hs hB) rfl rfl ?_
 refine (mp ?_).1
 exact FA Asc [0,1]
theorem Bx (s:WS) (x:Int) (i j:Nat) (h:i≠j) (h0:0≤x) (h1:x<18446744073709551616) (hs:s.ok) (hB:s.l.length+(vb x).length≤s.most->s.l.length+(vb x).length≤140737488355328):Ct Tryz.prog 235 [.ref i 0,uA x] [(i,B4 j s),(j,A1 s)] (λ_=>.tup []) [(i,B4 j (s.put (vb x))),(j,A1 (s.put (vb x)))] (λ_=>[]):=Ct.u2 (R_ s x h0 h1 hs hB) i j h Ci cl cl cl cl (BI _ _) (Bm _) Ci
abbrev cv (s:RS):AV:=.agg [A9 .u8 s.l,iA s.at_,iA s.code,iA s.fat]
theorem ZE (c a:Int):An Tryz.prog 189 [iA c,iA a] [] (B9 (BW c a)) []:=by
 refine RM Tryz.func189 Apc ?_
 refine Ax (λh=>?_) (λh=>?_)
 ·have h':¬c=0:=by simpa using h
  refine (mp ?_).1
  (refine FB Apc [] ?_ ?_<;>first|with_reducible rfl|(simp[Ae,Ah,Ai,Ag,BW,h'];done)|rfl)
 ·have h':c=0:=by simpa using h
  refine (mp ?_).1
  (refine FB Apc [] ?_ ?_<;>first|with_reducible rfl|(simp[Ae,Ah,Ai,Ag,BW,h'];done)|rfl)
theorem Gy (c a:Int):Ct Tryz.prog 189 [iA c,iA a] [] (λ_=>B9 (BW c a)) [] (λ_=>[]):=(ZE c a).toCt Ci Ci
theorem SR (s:RS) (c a:Int):An Tryz.prog 119 [cv s,iA c,iA a] [] (cv (s.fail c a)) []:=by
 refine RM Tryz.func119 Apq ?_
 refine Ax (λh=>?_) (λh=>?_)
 ·have h':s.code=0:=by simpa using h
  refine (mp ?_).1
  refine Aa.p (Gy c a) ?_
  refine (mp ?_).1
  (refine FB Apq [] ?_ ?_<;>first|with_reducible rfl|(simp[Ae,Ah,Ai,Ag,RS.fail,h'];done)|rfl)
 ·have h':¬s.code=0:=by simpa using h
  refine (mp ?_).1
  (refine FB Apq [] ?_ ?_<;>first|with_reducible rfl|(simp[Ae,Ah,Ai,Ag,RS.fail,h'];done)|rfl)
theorem EF (s:RS) (c a:Int):Ct Tryz.prog 119 [cv s,iA c,iA a] [] (λ_=>cv (s.fail c a)) [] (λ_=>[]):=(SR s c a).toCt Ci Ci
theorem Hs {l m:List Int} (hl:AY l) (hm:AY m):((Fg (A2 .u8 l)).toList==(Fg (A2 .u8 m)).toList)=BJ l m:=by
 rw[ByteArray.toList_eq,ByteArray.toList_eq]
 unfold BJ
 rw[Bool.eq_iff_iff]
 simp only[beq_iff_eq,decide_eq_true_eq]
 constructor
 ·intro h
  refine Alm l m hl hm ?_
  have h':(A2 .u8 l).map AV.byte=(A2 .u8 m).map AV.byte:=by simpa[Fg]using h
  unfold A2 at h'
  rw[List.map_map,List.map_map]at h'
  exact h'
 ·rintro rfl;rfl
theorem SQ (l m:List Int) (hl:AY l) (hm:AY m):An Tryz.prog 40 [A9 .u8 l,A9 .u8 m] [] (bA (BJ l m)) []:=by
 refine RN Tryz.func40 b40 ?_;refine (mr @L9 (Hs hl hm) ?_).1
 exact FA b40 []
theorem VR (l m:List Int) (hl:AY l) (hm:AY m):Ct Tryz.prog 40 [A9 .u8 l,A9 .u8 m] [] (λ_=>bA (BJ l m)) [] (λ_=>[]):=(SQ l m hl hm).toCt Ci Ci
theorem SP (s:RS) (n:Int) (hs:s.ok):An Tryz.prog 187 [cv s,iA n] [] (.tup [cv (s.take n).1,A9 .u8 (s.take n).2]) []:=by
 obtain⟨a,b,c⟩:=hs
 refine RM Tryz.func187 Ahk ?_
 refine Ax (λh=>?_) (λh=>?_)
 ·have h':¬s.code=0:=by simpa using h
  refine (mp ?_).1
  (refine AF.untag 5 rfl ?_;simp only[Au,List.set_cons_zero,List.set_cons_succ])
  (refine FB Ahk [] ?_ ?_<;>first|with_reducible rfl|(simp[Ae,Ah,Ai,Ag,RS.take,RS.skip,h'];done)|rfl)
 ·have h':s.code=0:=by simpa using h
  refine (mp ?_).1
  refine Ax (λh=>?_) (λh=>?_)
  ·have h2:n<0:=by simpa using h
   refine (mp ?_).1
   refine Aa.p (EF s _ _) ?_
   refine (mp ?_).1
   (refine AF.untag 5 rfl ?_;simp only[Au,List.set_cons_zero,List.set_cons_succ])
   (refine FB Ahk [] ?_ ?_<;>first|with_reducible rfl|(simp[Ae,Ah,Ai,Ag,RS.take,RS.skip,h',h2];done)|rfl)
  ·have h2:¬n<0:=by simpa using h
   have e:IntKind.i64.wrap ((s.l.length:Int)-s.at_)=s.left:=by rw[IntWalk.i64_in _ (by omega)];rfl
   refine (mr @Ab e ?_).1
   refine Ax (λh=>?_) (λh=>?_)
   ·have h3:s.left<n:=by simpa using h
    refine (mq @Ab ?_).1
    refine Aa.p (EF s _ _) ?_
    refine (mp ?_).1
    (refine AF.untag 5 rfl ?_;simp only[Au,List.set_cons_zero,List.set_cons_succ])
    (refine FB Ahk [] ?_ ?_<;>first|with_reducible rfl|(simp[Ae,Ah,Ai,Ag,RS.take,RS.skip,h',h2,h3];done)|rfl)
   ·have h3:¬s.left<n:=by simpa using h
    have h3':=h3
    unfold RS.left at h3'
    have e2:IntKind.i64.wrap (s.at_+n)=s.at_+n:=IntWalk.i64_in _ (by omega)
    have e3:(s.at_+n-s.at_).toNat=n.toNat:=by congr 1;omega
    simp only[go_sem,seval,e2,e3,Ab,DD,Cb];refine (mok ?_).1
    (repeat((with_reducible refine And.intro ?_ ?_);(·exact sd)))
    (refine AF.untag 5 rfl ?_;simp only[Au,List.set_cons_zero,List.set_cons_succ])
    (refine FB Ahk [] ?_ ?_<;>first|with_reducible rfl|(simp[Ae,Ah,Ai,Ag,RS.take,RS.skip,h',h2,h3];done)|rfl)
theorem MN (s:RS) (n:Int) (hs:s.ok):Ct Tryz.prog 187 [cv s,iA n] [] (λ_=>.tup [cv (s.take n).1,A9 .u8 (s.take n).2]) [] (λ_=>[]):=(SP s n hs).toCt Ci Ci
abbrev vG (q:Int×Int×(Int×Int)):AV:=.tup [uA q.1,iA q.2.1,B9 q.2.2]
theorem I2 (l:List Int) (i:Int) (h0:0≤i) (h1:i<l.length):(A2 .u8 l).getD i.toNat .any=O0 (l.getD i.toNat 0):=Mj _ (by omega)
set_option maxRecDepth 100000 in
theorem VQ (l:List Int) (hl:AY l) (hn:l.length≤140737488355328):An Tryz.prog 263 [A9 .u8 l] [] (vG (I1 l)) []:=by
 refine RM Tryz.func263 Ahd ?_
 refine AM (α:=Nat) (λk=>[A9 .u8 l,.any,uA 0,iA 0,.ref 0 0,iA k,.any,.any,.any,.any,.any,.any,.any,.any,.any,.any,.any,.any,.any,.any,.any,.any,.any,.any,.any,.any,.any,.any,.any,.any,.any,.any,.any,.any,.any,.any,.any,.any,.any,.any,.any,.any,.any,.any,.any,.any,.any,.any,.any,.any,.any,.any,.any,.any,.any,.any,.any,.any,.any,.any,.any,.any]) (λ_=>[.cells [iA 0,iA 0]]) (λk=>k≤l.length∧k≤9∧F_ l k) (λk=>l.length-k) 0 ⟨by simp,by simp,Vb l⟩ (Wk.forget (by simp[Ca])) ?_
 rintro k ⟨hk,hk9,hu⟩
 refine (mq @Ab ?_).1
 refine Ax (λh=>?_) (λh=>?_)
 ·have hlt:k<l.length:=by simpa using h
  obtain⟨z,hz⟩:∃z,l.getD k 0=z:=⟨_,rfl⟩
  have hzb:0≤z∧z<256:=hz▸hl _ (CG l k hlt)
  have eg:(A2 .u8 l).getD (k:Int).toNat .any=O0 z:=by rw[←hz];exact I2 l k (by omega) (by omega)
  have t1:((k:Int)==9)=decide (k=9):=by rw[Bool.eq_iff_iff];simp;omega
  have t2:decide ((0:Int)<k)=decide (0<k):=by rw[Bool.eq_iff_iff];simp
  refine (mq t1 ?_).1
  by_cases c1:k=9∧1<z
  ·have hv:=YP hu hlt c1.1 (by rw[hz];exact c1.2)
   have q1:decide (k=9)=true:=by simpa using c1.1
   have q2:decide (1<z)=true:=by simpa using c1.2
   refine (mt q1 q2 eg @Ab ?_).1
   (repeat((with_reducible refine And.intro ?_ ?_);(·exact sd)))
   refine Aa.p (Gy _ _) ?_
   refine (mp ?_).1
   (refine FB Ahd [] ?_ ?_<;>first|with_reducible rfl|(simp[Ae,Ah,Ai,Ag,hv,BW];done)|rfl)
  ·have p1:(decide (k=9)=true∧decide (1<z)=false)∨(decide (k=9)=false∧True):=by
    simp only[decide_eq_true_eq,decide_eq_false_iff_not,and_true];omega
   by_cases c2:0<k∧z=0
   ·have hv:=Acy hu hlt c2.1 (by rw[hz];exact c2.2)
    have q3:decide (0<k)=true:=by simpa using c2.1
    have q4:(z==0)=true:=by simpa using c2.2
    rcases p1 with⟨q1,q2⟩|⟨q1,q2⟩<;>
    ·simp only[go_sem,seval,q1,q2,t2,q3,q4,eg,Ab];refine (mok ?_).1
     (repeat((with_reducible refine And.intro ?_ ?_);(·exact sd)))
     refine Aa.p (Gy _ _) ?_
     refine (mp ?_).1
     (refine FB Ahd [] ?_ ?_<;>first|with_reducible rfl|(simp[Ae,Ah,Ai,Ag,hv,BW];done)|rfl)
   ·have p2:(decide (0<k)=true∧(z==0)=false)∨(decide (0<k)=false∧True):=by
     simp only[decide_eq_true_eq,decide_eq_false_iff_not,and_true,beq_eq_false_iff_ne];omega
    rcases p1 with⟨q1,q2⟩|⟨q1,q2⟩<;>rcases p2 with⟨q3,q4⟩|⟨q3,q4⟩<;>
    ·simp only[go_sem,seval,q1,q2,t2,q3,q4,eg,Ab];refine (mok ?_).1
     (repeat((with_reducible refine And.intro ?_ ?_);(·exact sd)))
     refine Ax (λh=>?_) (λh=>?_)
     ·have c3:z<128:=by simpa using h
      have hv:=YQ hu hlt (by rw[hz];exact c1) (by rw[hz];exact c2) (by rw[hz];exact c3) (by rw[hz];omega)
      have hV:=YO (l:=l) (k:=k) hk9 (by rw[hz];exact c1) (by rw[hz];exact c3) (by rw[hz];omega)
      refine (mp ?_).1
      refine AM (α:=Nat×Int) (λa=>[A9 .u8 l,.any,uA 0,iA 0,.ref 0 0,iA k,uA a.2,iA ((a.1:Int)-1),.any,.any,.any,.any,.any,.any,.any,.any,.any,.any,.any,.any,.any,.any,.any,.any,.any,.any,.any,.any,.any,.any,.any,.any,.any,.any,.any,.any,.any,.any,.any,.any,.any,.any,.any,.any,.any,.any,.any,.any,.any,.any,.any,.any,.any,.any,.any,.any,.any,.any,.any,.any,.any,.any]) (λ_=>[.cells [iA 0,iA 0]]) (λa=>a.1≤k+1∧0≤a.2∧Dd l (k+1)=128^a.1*a.2+Dd l a.1) (λa=>a.1) (k+1,0) ⟨Nat.le_refl _,Int.le_refl _,by simp⟩ (Wk.forget (by simp[Ca])) ?_
      rintro⟨j,X⟩ ⟨hj,hX,he⟩
      simp only at hj hX he
      refine (mp ?_).1
      refine Ax (λh=>?_) (λh=>?_)
      ·obtain⟨j',rfl⟩:∃j',j=j'+1:=⟨j-1,by simp at h;omega⟩
       obtain⟨he2,hub⟩:=Anr l (k+1) j' X he hX hV
       have ej:((j'+1:Nat):Int)-1=(j':Int):=by omega
       obtain⟨y,hy⟩:∃y,l.getD j' 0=y:=⟨_,rfl⟩
       have hyb:0≤y∧y<256:=hy▸hl _ (CG l j' (by omega))
       have eg2:(A2 .u8 l).getD (j':Int).toNat .any=O0 y:=by rw[←hy];exact I2 l j' (by omega) (by omega)
       rw[hy]at he2 hub
       have em:y.tmod 128=y%128:=Int.tmod_eq_emod_of_nonneg (by omega)
       have ec:IntKind.u64.wrap (y%128)=y%128:=IntWalk.u64_in _ (by omega)
       have ew:IntKind.u64.wrap (128*X)=128*X:=IntWalk.u64_in _ (by omega)
       have ew2:IntKind.u64.wrap (128*X+y%128)=128*X+y%128:=IntWalk.u64_in _ (by omega)
       have ew3:IntKind.i64.wrap ((j':Int)-1)=(j':Int)-1:=IntWalk.i64_in _ (by omega)
       simp only[go_sem,seval,ej,eg2,em,ec,ew,ew2,ew3,Ab];refine (mok ?_).1
       (repeat((with_reducible refine And.intro ?_ ?_);(·exact sd)))
       exact⟨(j',128*X+y%128),⟨by simp only;omega,by simp only;omega,he2⟩,by simp only;omega,Wk.forget (by simp[Ca])⟩
      ·obtain rfl:j=0:=by simp at h;omega
       have ek1:IntKind.i64.wrap ((k:Int)+1)=(k:Int)+1:=IntWalk.i64_in _ (by omega)
       have he':Dd l (k+1)=X:=by rw[he];simp[Dd]
       refine (mq ek1 ?_).1
       exact FF Ahd [] hv he'
     ·have c3:¬z<128:=by simpa using h
      have hu2:=Vc hu hlt (by rw[hz];exact c1) (by rw[hz];exact c2) (by rw[hz];exact c3)
      have ek1:IntKind.i64.wrap ((k:Int)+1)=((k+1:Nat):Int):=by rw[IntWalk.i64_in _ (by omega)];omega
      refine (mq ek1 ?_).1
      exact⟨k+1,⟨by omega,by omega,hu2⟩,by omega,Wk.forget (by simp[Ca])⟩
 ·have ek:k=l.length:=by simp at h;omega
  subst ek
  have hv:=Acz hu
  refine (mq @Ab ?_).1
  refine Aa.p (Gy _ _) ?_
  refine (mp ?_).1
  (refine FB Ahd [] ?_ ?_<;>first|with_reducible rfl|(simp[Ae,Ah,Ai,Ag,hv,BW];done)|rfl)
theorem ZD (l:List Int) (hl:AY l) (hn:l.length≤140737488355328):Ct Tryz.prog 263 [A9 .u8 l] [] (λ_=>vG (I1 l)) [] (λ_=>[]):=(VQ l hl hn).toCt cl Ci
theorem SN (s:RS) (hs:Av s):An Tryz.prog 244 [cv s] [] (.tup [cv s.vint.1,uA s.vint.2]) []:=by
 obtain⟨X,N,C,Af,hq⟩:∃X N C Af,I1 s.rest=(X,N,(C,Af)):=⟨_,_,_,_,rfl⟩
 have hrl:=DP s hs.at0 hs.at1
 have h0:=hs.at0
 have h1:=hs.at1
 have h2:=hs.len
 refine RM Tryz.func244 Ahe ?_
 refine Ax (λh=>?_) (λh=>?_)
 ·have h':¬s.code=0:=by simpa using h
  have hv:=Gm h'
  refine (mp ?_).1
  exact FE Ahe [] hv
 ·have h':s.code=0:=by simpa using h
  obtain⟨p1,p2,p3⟩:=IZ hs h' hq
  have hdr:(A2 .u8 s.l).drop s.at_.toNat=A2 .u8 s.rest:=by unfold RS.rest;exact Cb _ _ _
  refine (mr hdr @Ab ?_).1
  (repeat((with_reducible refine And.intro ?_ ?_);(·exact sd)))
  refine Aa.p (ZD s.rest (hs.bys.drop _) (by omega)) ?_
  refine (mq hq ?_).1
  refine Ax (λh=>?_) (λh=>?_)
  ·have c0:C=0:=by simpa using h
   obtain⟨hv,k1,k2,k3,k4⟩:=p1 c0
   have e:IntKind.i64.wrap (s.at_+N)=s.at_+N:=IntWalk.i64_in _ (by omega)
   refine (mq e ?_).1
   (refine FB Ahe [] ?_ ?_<;>first|with_reducible rfl|(simp[Ae,Ah,Ai,Ag,hv,RS.adv];done)|rfl)
  ·have c0:¬C=0:=by simpa using h
   refine (mp ?_).1
   refine Ax (λh=>?_) (λh=>?_)
   ·have c1:C=1:=by simpa using h
    have hv:=p2 c1
    subst c1
    refine (mq @Ab ?_).1
    refine Aa.p (Gy _ _) ?_
    refine (mp ?_).1
    (refine FB Ahe [] ?_ ?_<;>first|with_reducible rfl|(simp[Ae,Ah,Ai,Ag,hv,BW];done)|rfl)
   ·have c1:¬C=1:=by simpa using h
    obtain⟨hv,k1,k2⟩:=p3 c0 c1
    have e:IntKind.i64.wrap (s.at_+Af)=s.at_+Af:=IntWalk.i64_in _ (by omega)
    have e2:IntKind.i64.wrap (s.at_+Af+1)=s.at_+Af+1:=IntWalk.i64_in _ (by omega)
    have e3:IntKind.i64.wrap (s.at_+Af+1-1)=s.at_+Af:=by rw[IntWalk.i64_in _ (by omega)];omega
    have q:(C != 1)=true:=by simpa using c1
    refine (mr e e2 ?_).1
    refine Aa.p (Gy _ _) ?_
    refine (mr q e3 ?_).1
    (refine FB Ahe [] ?_ ?_<;>first|with_reducible rfl|(simp[Ae,Ah,Ai,Ag,hv,BW,c0];done)|rfl)
theorem ML (s:RS) (hs:Av s):Ct Tryz.prog 244 [cv s] [] (λ_=>.tup [cv s.vint.1,uA s.vint.2]) [] (λ_=>[]):=(SN s hs).toCt cl cl
theorem SO (s:RS) (m:Int) (hs:Av s):An Tryz.prog 243 [cv s,uA m] [] (.tup [cv (s.most m).1,uA (s.most m).2]) []:=by
 refine RM Tryz.func243 Ao1 ?_
 refine Aa.p (ML s hs) ?_
 refine (mp ?_).1
 refine Ax (λh=>?_) (λh=>?_)
 ·have h':m<s.vint.2:=by simpa using h
  refine (mp ?_).1
  refine Aa.p (EF _ _ _) ?_
  refine (mp ?_).1
  (refine FB Ao1 [] ?_ ?_<;>first|with_reducible rfl|(simp[Ae,Ah,Ai,Ag,RS.most,h'];done)|rfl)
 ·have h':¬m<s.vint.2:=by simpa using h
  refine (mp ?_).1
  (refine FB Ao1 [] ?_ ?_<;>first|with_reducible rfl|(simp[Ae,Ah,Ai,Ag,RS.most,h'];done)|rfl)
theorem VO (s:RS) (m:Int) (hs:Av s):Ct Tryz.prog 243 [cv s,uA m] [] (λ_=>.tup [cv (s.most m).1,uA (s.most m).2]) [] (λ_=>[]):=(SO s m hs).toCt cl cl
theorem VP (s:RS) (m:Int) (m1:m<9223372036854775808) (hs:Av s):An Tryz.prog 186 [cv s,iA m] [] (.tup [cv (s.int m).1,iA (s.int m).2]) []:=by
 refine RM Tryz.func186 Apd ?_
 refine Ax (λh=>?_) (λh=>?_)
 ·have h':0≤m:=by simpa using h
  have e:IntKind.u64.wrap m=m:=IntWalk.u64_in _ (by omega)
  have hr:=Jg (m:=m) hs.bys h'
  have e2:IntKind.i64.wrap (s.most m).2=(s.most m).2:=IntWalk.i64_in _ (by omega)
  refine (mq e ?_).1
  refine Aa.p (VO s m hs) ?_
  refine (mq e2 ?_).1
  (refine FB Apd [] ?_ ?_<;>first|with_reducible rfl|(simp[Ae,Ah,Ai,Ag,RS.int,h'];done)|rfl)
 ·have h':¬0≤m:=by simpa using h
  refine (mp ?_).1
  refine Aa.p (ML s hs) ?_
  refine (mp ?_).1
  refine Aa.p (EF _ _ _) ?_
  refine (mp ?_).1
  (refine FB Apd [] ?_ ?_<;>first|with_reducible rfl|(simp[Ae,Ah,Ai,Ag,RS.int,h'];done)|rfl)
theorem ZC (s:RS) (m:Int) (m1:m<9223372036854775808) (hs:Av s):Ct Tryz.prog 186 [cv s,iA m] [] (λ_=>.tup [cv (s.int m).1,iA (s.int m).2]) [] (λ_=>[]):=(VP s m m1 hs).toCt cl cl
abbrev Ks (l:List Int):AV:=.sl .none 1 (A2 .u64 l)
theorem E_ (l:List Int) (i:Nat) (h:i<l.length):(A2 .u64 l).getD (i:Int).toNat .any=uA (l.getD i 0):=by
 rw[Int.toNat_natCast];exact CC .u64 l i h
theorem D9 (k:IntKind) (l:List Int) (z:Int):A2 k l++[.lit (.int k z)]=A2 k (l++[z]):=by simp[A2]
theorem Ay {s:RS} (h:¬s.code=0):s.good=false:=by simp[RS.good,h]
theorem AW {s:RS} (h:s.code=0):s.good=true:=by simp[RS.good,h]
theorem SM (l m:List Int) (hn:l.length≤140737488355328):An Tryz.prog 142 [Ks l,Ks m] [] (bA (BJ l m)) []:=by
 refine RN Tryz.func142 Al7 ?_;refine (mq @Ab ?_).1
 refine Ax (λh=>?_) (λh=>?_)
 ·have hne:BJ l m=false:=by
   unfold BJ;simp at h ⊢;intro e;subst e;exact h rfl
  refine (mp ?_).1
  exact FE Al7 [] hne
 ·have hlen:l.length=m.length:=by
   have h':(l.length:Int)=m.length:=by simpa using h
   omega
  refine (mp ?_).1
  refine AM (α:=Nat) (λk=>[Ks l,Ks m,.any,.any,.any,iA k,.any,.any,.any,.any,.any,.any,.any,.any,.any,.any,.any,.any,.any,.any,.any,.any,.any,.any,.any,.any]) (λ_=>[]) (λk=>k≤l.length∧l.take k=m.take k) (λk=>l.length-k) 0 ⟨by simp,by simp⟩ (Wk.to (by simp) (by simp[Ca])) ?_
  rintro k ⟨hk,ht⟩
  refine (mq @Ab ?_).1
  refine Ax (λh=>?_) (λh=>?_)
  ·have hlt:k<l.length:=by simpa using h
   have g1:=E_ l k hlt
   have g2:=E_ m k (by omega)
   have ei:IntKind.i64.wrap ((k:Int)+1)=((k+1:Nat):Int):=by rw[IntWalk.i64_in _ (by omega)];omega
   refine (ms g1 g2 @Ab ?_).1
   (repeat((with_reducible refine And.intro ?_ ?_);(·exact sd)))
   refine Ax (λh=>?_) (λh=>?_)
   ·have hx:l.getD k 0≠m.getD k 0:=by simpa using h
    have hne:BJ l m=false:=by unfold BJ;simp only[decide_eq_false_iff_not];rintro rfl;exact hx rfl
    refine (mp ?_).1
    exact FE Al7 [] hne
   ·have hx:l.getD k 0=m.getD k 0:=by simpa using h
    refine (mq ei ?_).1
    refine⟨k+1,⟨hlt,?_⟩,by omega,Wk.to (by simp) (by simp[Ca])⟩
    rw[Fj l k hlt,Fj m k (by omega),ht,hx]
  ·have hk':k=l.length:=by simp at h;omega
   have he:BJ l m=true:=by
    unfold BJ
    rw[hk',List.take_length,List.take_of_length_le (by omega)]at ht
    simpa using ht
   refine (mp ?_).1
   exact FE Al7 [] he
theorem VN (l m:List Int) (hn:l.length≤140737488355328):Ct Tryz.prog 142 [Ks l,Ks m] [] (λ_=>bA (BJ l m)) [] (λ_=>[]):=(SM l m hn).toCt cl Ci
abbrev HS (i:Nat) (l:List Int):AV:=.sl (.row i) 1 (A2 .u8 l)
theorem mx0 (n:Int):(if(0:Int)>n then 0 else n)=max n 0:=by split<;>omega
theorem mn (n k:Int):(if k<n then k else n)=min n k:=by split<;>omega
theorem Fe {β:Type} (b:List β) (h:b.length<18446744073709551616):IntKind.u64.wrap (b.length:Int)=(b.length:Int):=IntWalk.u64_in _ (by omega)
theorem AJ (k:Nat) (h:k<140737488355329):IntKind.i64.wrap ((k:Int)+1)=((k+1:Nat):Int):=by rw[IntWalk.i64_in _ (by omega)];omega
theorem Ab8 (s:WS) (b:List Int) (hs:s.fine) (hb:b.length≤140737488355328):An Tryz.prog 261 [.ref 0 0,A9 .u8 b] [B4 1 s,A1 s] (.tup []) [B4 1 ((s.put (vb b.length)).put b),A1 ((s.put (vb b.length)).put b)]:=by
 have e:=Fe b (by omega)
 refine RN Tryz.func261 Ar5 ?_;refine (mr @Ab e ?_).1
 refine Aa.u2 (Bx s b.length 0 1 (by decide) (by omega) (by omega) hs.ok (hs.room _)) rfl rfl ?_
 refine (mp ?_).1
 refine Aa.u2 (B0 _ b 0 1 (by decide) (hs.put _).ok ((hs.put _).room _)) rfl rfl ?_
 refine (mp ?_).1
 exact FA Ar5 [0,1]
theorem UJ (s:WS) (b:List Int) (i j:Nat) (h:i≠j) (hs:s.fine) (hb:b.length≤140737488355328):Ct Tryz.prog 261 [.ref i 0,A9 .u8 b] [(i,B4 j s),(j,A1 s)] (λ_=>.tup []) [(i,B4 j ((s.put (vb b.length)).put b)),(j,A1 ((s.put (vb b.length)).put b))] (λ_=>[]):=Ct.u2 (Ab8 s b hs hb) i j h cl cl cl cl cl (BI _ _) (Bm _) Ci
theorem XA (s:RS) (m:Int) (m1:m<9223372036854775808) (hs:Av s):An Tryz.prog 89 [.ref 0 0,iA m] [A7 s] (A9 .u8 (s.blob m).2) [A7 (s.blob m).1]:=by
 refine RM Tryz.func89 b89 ?_
 refine Aa.u1 (A4 s m 0 m1 hs.ok hs.bys) rfl ?_
 refine (mp ?_).1
 refine Aa.u1 (CH _ _ 0 (hs.int m).1.ok) rfl ?_
 refine (mp ?_).1
 (refine FB b89 [0] ?_ ?_<;>first|with_reducible rfl|(simp[Ae,Ah,Ai,Ag,RS.blob];done)|rfl)
theorem PU (s:RS) (m:Int) (i:Nat) (m1:m<9223372036854775808) (hs:Av s):Ct Tryz.prog 89 [.ref i 0,iA m] [(i,A7 s)] (λ_=>A9 .u8 (s.blob m).2) [(i,A7 (s.blob m).1)] (λ_=>[]):=Ct.u1 (XA s m m1 hs) i Ci (λρ=>Ao ρ s) (λρ=>Ao ρ _) (rdr_dead s) cl
theorem Xz (n:Int) (n1:n≤4611686018427387904):An Tryz.prog 233 [iA n] [] (iA ((vb (max n 0)).length+max n 0)) []:=by
 have e0:=mx0 n
 have e1:IntKind.u64.wrap (max n 0)=max n 0:=IntWalk.u64_in _ (by omega)
 have hv:=(Bd (max n 0)).2
 have e2:IntKind.i64.wrap (((vb (max n 0)).length:Int)+max n 0)=(vb (max n 0)).length+max n 0:=IntWalk.i64_in _ (by omega)
 refine RN Tryz.func233 Asd ?_;refine (mr e0 e1 ?_).1
 refine Aa.p (CU (max n 0) (by omega) (by omega)) ?_
 refine (mq e2 ?_).1
 exact FA Asd []
theorem IK (n:Int) (n1:n≤4611686018427387904):Ct Tryz.prog 233 [iA n] [] (λ_=>iA ((vb (max n 0)).length+max n 0)) [] (λ_=>[]):=(Xz n n1).toCt Ci Ci
theorem V5 (i:Nat) (hi:i≤7) (x c:Int) (h0:0≤x) (h1:x<256^i) (c0:0≤c) (c1:c<256):
 Cx .or .u64 x (IntKind.u64.wrap (IntKind.u64.wrap c*2^min (8*(i:Int)).toNat 64))=x+256^i*c:=by
 obtain⟨n,rfl⟩:=Int.eq_ofNat_of_zero_le c0
 obtain⟨m,rfl⟩:=Int.eq_ofNat_of_zero_le h0
 have e2:min (8*(i:Int)).toNat 64=8*i:=by omega
 have e1:IntKind.u64.wrap (n:Int)=n:=IntWalk.u64_in _ (by omega)
 have hp:(2:Int)^(8*i)=256^i:=by rw[Int.pow_mul];rfl
 have hpos:(0:Int)<256^i:=Int.pow_pos (by omega)
 have hcast:((256^i:Nat):Int)=256^i:=by rw[Int.natCast_pow];rfl
 have h1':m<256^i:=by omega
 have hB:n*256^i<18446744073709551616:=by
  have:i=0∨i=1∨i=2∨i=3∨i=4∨i=5∨i=6∨i=7:=by omega
  rcases this with rfl|rfl|rfl|rfl|rfl|rfl|rfl|rfl<;>simp<;>omega
 have hm:(m:Int)<18446744073709551616:=by
  have:i=0∨i=1∨i=2∨i=3∨i=4∨i=5∨i=6∨i=7:=by omega
  rcases this with rfl|rfl|rfl|rfl|rfl|rfl|rfl|rfl<;>simp at h1<;>omega
 have e0:(n:Int)*256^i=((n*256^i:Nat):Int):=by rw[Int.natCast_mul,hcast]
 have e3:IntKind.u64.wrap ((n:Int)*2^(8*i))=((n*256^i:Nat):Int):=by
  rw[hp,e0]
  exact IntWalk.u64_in _ (by omega)
 rw[e2,e1,e3]
 show bits .or .u64 (m:Int) _=_
 rw[u64_or_nat m _ (by omega) hB]
 have e4:m|||n*256^i=n*256^i+m:=by
  rw[Nat.or_comm]
  have q:(2:Nat)^(8*i)=256^i:=by rw[Nat.pow_mul]
  exact nat_join (8*i) _ _ (by rw[q];exact Nat.mul_mod_left _ _) (by rw[q];exact h1')
 rw[e4,Int.natCast_add,←e0,Int.mul_comm,Int.add_comm]
theorem Af2 (b:List Int) (k:Nat) (h:k<b.length):Bw (b.take (k+1))=Bw (b.take k)+256^k*b.getD k 0:=by
 have hl:(b.take k).length=k:=by simp;omega
 rw[Fj b k h,WW,hl]
set_option maxRecDepth 100000 in
theorem LY (s:RS) (n:Int) (hs:Av s):An Tryz.prog 91 [.ref 0 0,iA n] [A7 s] (uA (s.fixed (min (max n 0) 8)).2) [A7 (s.fixed (min (max n 0) 8)).1]:=by
 have e0:=mx0 n
 have e1:=mn (max n 0) 8
 unfold RS.fixed
 obtain⟨m,hm⟩:∃m,min (max n 0) 8=m:=⟨_,rfl⟩
 have hm8:m≤8:=by omega
 rw[hm]at e1 ⊢
 have htl:(s.take m).2.length≤8:=by
  by_cases hc:(s.take m).1.code=0
  ·have:=(Bn hs hc).2.2.1;omega
  ·rw[JL hc];simp
 have htb:=DO hs.bys m
 refine RN Tryz.func91 b91 ?_;refine (mr e0 e1 ?_).1
 refine Aa.u1 (CH s m 0 hs.ok) rfl ?_
 generalize(s.take m).1=t at*
 generalize(s.take m).2=b at*
 refine (mq @Ab ?_).1
 refine AM (α:=Nat) (λk=>[.any,.any,.any,.any,.any,uA (Bw (b.take k)),.any,.any,.any,.any,.any,.any,A9 .u8 b,iA b.length,iA k,.any,.any,.any,.any,.any,.any,.any,.any,.any,.any,.any,.any,.any]) (λ_=>[A7 t]) (λk=>k≤b.length) (λk=>b.length-k) 0 (by simp) (Wk.forget (by simp[Ca,Bw])) ?_
 intro k hk
 refine (mp ?_).1
 refine Ax (λh=>?_) (λh=>?_)
 ·have hlt:k<b.length:=by simpa using h
  have g:=I2 b k (by omega) (by omega)
  rw[Int.toNat_natCast]at g
  have hr:=E4 (l:=b.take k) λx hx=>htb x (List.mem_of_mem_take hx)
  have hkl:(b.take k).length=k:=by simp;omega
  rw[hkl]at hr
  have hc:=htb _ (CG b k hlt)
  have eo:=V5 k (by omega) (Bw (b.take k)) (b.getD k 0) hr.1 hr.2 hc.1 hc.2
  have em:IntKind.i64.wrap (8*(k:Int))=8*k:=IntWalk.i64_in _ (by omega)
  rw[←Af2 b k hlt]at eo
  have ei:=AJ k (by omega)
  simp only[go_sem,seval,g,Ab,Int.toNat_natCast,em,eo,ei];refine (mok ?_).1
  (repeat((with_reducible refine And.intro ?_ ?_);(·exact sd)))
  exact⟨k+1,hlt,by omega,Wk.to (by simp) (by simp[Ca])⟩
 ·have ek:k=b.length:=by simp at h;omega
  refine (mp ?_).1
  exact FE b91 [0] ek
theorem Du (s:RS) (n:Int) (i:Nat) (hs:Av s):Ct Tryz.prog 91 [.ref i 0,iA n] [(i,A7 s)] (λ_=>uA (s.fixed (min (max n 0) 8)).2) [(i,A7 (s.fixed (min (max n 0) 8)).1)] (λ_=>[]):=Ct.u1 (LY s n hs) i Ci (λρ=>Ao ρ s) (λρ=>Ao ρ _) (rdr_dead s) Ci
theorem O4 (s:WS) (l:List Int) (k:Nat) (h:k<l.length):(s.puts (l.take k)).put (vb (l.getD k 0))=s.puts (l.take (k+1)):=by
 rw[Fj l k h,Pc]
theorem SL (s:RS) (m:Int) (m1:m<9223372036854775808) (hs:Av s):An Tryz.prog 116 [cv s,iA m] [] (.tup [cv (s.blob m).1,A9 .u8 (s.blob m).2]) []:=by
 refine RM Tryz.func116 As9 ?_
 refine Aa.p (ZC s m m1 hs) ?_
 refine (mp ?_).1
 refine Aa.p (MN _ _ (hs.int m).1.ok) ?_
 refine (mp ?_).1
 (refine FB As9 [] ?_ ?_<;>first|with_reducible rfl|(simp[Ae,Ah,Ai,Ag,RS.blob];done)|rfl)
theorem MK (s:RS) (m:Int) (m1:m<9223372036854775808) (hs:Av s):Ct Tryz.prog 116 [cv s,iA m] [] (λ_=>.tup [cv (s.blob m).1,A9 .u8 (s.blob m).2]) [] (λ_=>[]):=(SL s m m1 hs).toCt cl cl
theorem WV (b:List Int) (k:Nat) (h:k<b.length):Bw (b.drop k)=b.getD k 0+256*Bw (b.drop (k+1)):=by
 rw[GR h];rfl
theorem UC {b:List Int} (h:AY b) (k:Nat):AY (b.drop k):=λx hx=>h x (List.mem_of_mem_drop hx)
theorem Ajt (k:Nat) (h:k≤8):(256:Int)^k≤18446744073709551616:=by
 have:k=0∨k=1∨k=2∨k=3∨k=4∨k=5∨k=6∨k=7∨k=8:=by omega
 rcases this with rfl|rfl|rfl|rfl|rfl|rfl|rfl|rfl|rfl<;>simp
theorem Qm (s:RS) (n:Int) (hs:Av s):An Tryz.prog 117 [cv s,iA n] [] (.tup [cv (s.fixed (min (max n 0) 8)).1,uA (s.fixed (min (max n 0) 8)).2]) []:=by
 have e0:=mx0 n
 have e1:=mn (max n 0) 8
 unfold RS.fixed
 obtain⟨m,hm⟩:∃m,min (max n 0) 8=m:=⟨_,rfl⟩
 have hm8:m≤8:=by omega
 rw[hm]at e1 ⊢
 have htl:(s.take m).2.length≤8:=by
  by_cases hc:(s.take m).1.code=0
  ·have:=(Bn hs hc).2.2.1;omega
  ·rw[JL hc];simp
 have htb:=DO hs.bys m
 refine RN Tryz.func117 As8 ?_;refine (mr e0 e1 ?_).1
 refine Aa.p (MN s m hs.ok) ?_
 generalize(s.take m).1=t at*
 generalize(s.take m).2=b at*
 have ei:IntKind.i64.wrap ((b.length:Int)-1)=b.length-1:=IntWalk.i64_in _ (by omega)
 refine (mr @Ab ei ?_).1
 refine AM (α:=Nat) (λk=>[.any,.any,.any,.any,.ref 1 0,.any,.ref 2 0,A9 .u8 b,uA (Bw (b.drop k)),iA ((k:Int)-1),.any,.any,.any,.any,.any,.any,.any,.any,.any,.any,.any,.any,.any,.any,.any,.any,.any,.any,.any,.any,.any,.any,.any,.any,.any]) (λ_=>[.cells [A9 .u8 s.l,iA s.at_,iA s.code,iA s.fat],.cells [.sl .full 1 [],iA 0,iA 0,iA 0],.cells [A9 .u8 t.l,iA t.at_,iA t.code,iA t.fat]]) (λk=>k≤b.length) (λk=>k) b.length (Nat.le_refl _) (Wk.to (by simp) (by simp[Ca,Bw])) ?_
 intro k hk
 refine (mp ?_).1
 refine Ax (λh=>?_) (λh=>?_)
 ·obtain⟨j,rfl⟩:∃j,k=j+1:=⟨k-1,by simp at h;omega⟩
  have ej:((j+1:Nat):Int)-1=j:=by omega
  have g:=I2 b j (by omega) (by omega)
  rw[Int.toNat_natCast]at g
  have hr:=E4 (UC htb j)
  have hc:=htb _ (CG b j (by omega))
  have hd:=WV b j (by omega)
  have hl:(b.drop j).length≤8:=by simp;omega
  have hp:=Ajt _ hl
  have hr2:=(E4 (UC htb (j+1))).1
  have ew:IntKind.u64.wrap (256*Bw (b.drop (j+1)))=256*Bw (b.drop (j+1)):=IntWalk.u64_in _ (by omega)
  have ec:IntKind.u64.wrap (b.getD j 0)=b.getD j 0:=IntWalk.u64_in _ (by omega)
  have ea:IntKind.u64.wrap (256*Bw (b.drop (j+1))+b.getD j 0)=Bw (b.drop j):=by rw[IntWalk.u64_in _ (by omega),hd];omega
  have ek:IntKind.i64.wrap ((j:Int)-1)=(j:Int)-1:=IntWalk.i64_in _ (by omega)
  simp only[go_sem,seval,ej,g,Int.toNat_natCast,ew,ec,ea,ek,Ab];refine (mok ?_).1
  (repeat((with_reducible refine And.intro ?_ ?_);(·exact sd)))
  exact⟨j,by omega,by omega,Wk.to (by simp) (by simp[Ca])⟩
 ·have ek:k=0:=by simp at h;omega
  subst ek
  refine (mp ?_).1
  exact FA As8 []
theorem Lc (s:RS) (n:Int) (hs:Av s):Ct Tryz.prog 117 [cv s,iA n] [] (λ_=>.tup [cv (s.fixed (min (max n 0) 8)).1,uA (s.fixed (min (max n 0) 8)).2]) [] (λ_=>[]):=(Qm s n hs).toCt cl cl
theorem Alf (x:Int) (k:Nat):x/256^k/256=x/256^(k+1):=by
 have hp:(0:Int)<256^k:=Int.pow_pos (by omega)
 rw[Int.ediv_ediv_of_nonneg (by omega),Int.pow_succ]
theorem V0 (x n:Int) (h0:0≤x) (h1:x<18446744073709551616):An Tryz.prog 219 [uA x,iA n] [] (A9 .u8 (Aq (min (max n 0) 8).toNat x)) []:=by
 have e0:=mx0 n
 have e1:=mn (max n 0) 8
 obtain⟨m,hm⟩:∃m:Nat,(min (max n 0) 8).toNat=m:=⟨_,rfl⟩
 have hm8:m≤8:=by omega
 have hm':min (max n 0) 8=(m:Int):=by omega
 rw[hm']at e1
 rw[hm]
 refine RN Tryz.func219 Asj ?_;refine (mr e0 e1 ?_).1
 refine AM (α:=Nat) (λk=>[uA (x/256^k),.any,.any,.any,.any,HS 0 (Aq k x),.any,.any,iA m,iA k,.any,.any,.any,.any,.any,.any,.any,.any,.any,.any,.any]) (λk=>[.row 1 k]) (λk=>k≤m) (λk=>m-k) 0 (by simp) ((Wk.row 5 1 rfl (.inl rfl) (Nat.le_refl _)).trans (Wk.to (by simp) (by simp[Ca,A2,Aq]))) ?_
 intro k hk
 have hq0:0≤x/256^k:=Int.ediv_nonneg h0 (Int.le_of_lt (Int.pow_pos (by omega)))
 have hq1:x/256^k≤x:=Int.ediv_le_self _ h0
 have hd:=Alf x k
 have hs:=Oh k x
 have hl:=BD k x
 refine (mp ?_).1
 refine Ax (λh=>?_) (λh=>?_)
 ·have hlt:k<m:=by simpa using h
  obtain⟨y,hy⟩:∃y,x/256^k=y:=⟨_,rfl⟩
  rw[hy]at hq0 hq1 hd hs
  have em:y.tmod 256=y%256:=Int.tmod_eq_emod_of_nonneg hq0
  have eu:IntKind.u8.wrap (y%256)=y%256:=IntWalk.u8_in _ (by omega)
  have ed:IntKind.u64.wrap (y.tdiv 256)=x/256^(k+1):=by rw[Int.tdiv_eq_ediv_of_nonneg hq0,IntWalk.u64_in _ (by omega),hd]
  have ei:=AJ k (by omega)
  simp only[go_sem,seval,hy,em,eu,ed,ei,D9,←hs,Ab,hl];refine (mok ?_).1
  (repeat((with_reducible refine And.intro ?_ ?_);(·exact sd)))
  exact⟨k+1,hlt,by omega,Wk.to (by simp) (by simp[Ca])⟩
 ·have ek:k=m:=by simp at h;omega
  refine (mp ?_).1
  (refine AF.untag 4 rfl ?_;simp only[Au,List.set_cons_zero,List.set_cons_succ])
  exact FE Asj [] ek
theorem Pd (x n:Int) (h0:0≤x) (h1:x<18446744073709551616):Ct Tryz.prog 219 [uA x,iA n] [] (λ_=>A9 .u8 (Aq (min (max n 0) 8).toNat x)) [] (λ_=>[]):=(V0 x n h0 h1).toCt cl cl
theorem OS (s:WS) (x n:Int) (h0:0≤x) (h1:x<18446744073709551616) (hs:s.fine):An Tryz.prog 220 [.ref 0 0,uA x,iA n] [B4 1 s,A1 s] (.tup []) [B4 1 (s.put (Aq (min (max n 0) 8).toNat x)),A1 (s.put (Aq (min (max n 0) 8).toNat x))]:=by
 refine RM Tryz.func220 Asi ?_
 refine Aa.p (Pd x n h0 h1) (mp ?_).1
 refine Aa.u2 (B0 s _ 0 1 (by decide) hs.ok (hs.room _)) rfl rfl (mp ?_).1
 exact FA Asi [0,1]
theorem Hv (s:WS) (x n:Int) (i j:Nat) (h:i≠j) (h0:0≤x) (h1:x<18446744073709551616) (hs:s.fine):Ct Tryz.prog 220 [.ref i 0,uA x,iA n] [(i,B4 j s),(j,A1 s)] (λ_=>.tup []) [(i,B4 j (s.put (Aq (min (max n 0) 8).toNat x))),(j,A1 (s.put (Aq (min (max n 0) 8).toNat x)))] (λ_=>[]):=Ct.u2 (OS s x n h0 h1 hs) i j h cl cl cl cl cl (BI _ _) (Bm _) Ci
abbrev tkA (t:Tk):AV:=.agg [A9 .u8 t.lit,iA t.off,iA t.len]
def NY (l:List Tk):List AV:=l.map tkA
abbrev slT (l:List Tk):AV:=.sl .none 3 (NY l)
@[simp] theorem X0 (ρ:Nat->Nat) (l:List Tk):(NY l).map (λx=>x.ren ρ)=NY l:=by simp[NY,AT]
@[simp] theorem ren_ints_t (ρ:Nat->Nat) (k:IntKind) (l:List Int):(A2 k l).map (λx=>x.ren ρ)=A2 k l:=AN ρ k l
theorem EB (l:List Tk):(NY l).length=l.length:=by simp[NY]
theorem Ain:NY []=[]:=(rfl)
theorem Sj (l:List Tk) (t:Tk):NY l++[tkA t]=NY (l++[t]):=by simp[NY]
theorem Ac9 (l:List Tk) (k:Nat) (h:k<l.length):(NY l).getD k .any=tkA (l.getD k K7):=by simp[NY,h]
theorem XQ (l:List Tk) (k:Nat) (h:k<l.length):(NY l).getD (k:Int).toNat .any=tkA (l.getD k K7):=by
 rw[Int.toNat_natCast];exact Ac9 l k h
theorem Am7 (l:List Tk) (k:Nat) (h:k<l.length):l.getD k K7∈l:=by simp[h]
theorem XR (l:List Tk) (k:Nat) (h:k<l.length):l.take (k+1)=l.take k++[l.getD k K7]:=by
 rw[List.take_succ_eq_append_getElem h];simp[h]
theorem P6 (t:Tk):An Tryz.prog 286 [tkA t] [] (bA t.right) []:=by
 refine RN Tryz.func286 RB ?_;refine (mq @Ab ?_).1
 by_cases c0:t.off=0
 ·have q0:(t.off==0)=true:=by simpa using c0
  have hcp:t.copy=false:=by simp[Tk.copy,c0]
  have hr:t.right=t.run:=by simp[Tk.right,hcp]
  by_cases c1:t.len=0
  ·have q1:(t.len==0)=true:=by simpa using c1
   by_cases c2:1≤(t.lit.length:Int)
   ·have q2:decide (1≤(t.lit.length:Int))=true:=by simpa using c2
    have e:decide ((t.lit.length:Int)≤1048576)=t.run:=by rw[Bool.eq_iff_iff,De,decide_eq_true_eq];omega
    simp only[go_sem,seval,q0,q1,q2,Ab,e];refine (mok ?_).1
    exact FE RB [] hr
   ·have q2:decide (1≤(t.lit.length:Int))=false:=by simpa using c2
    have e:t.run=false:=by cases q:t.run with|false=>rfl|true=>have:=De.1 q;omega
    refine (ms q0 q1 q2 ?_).1
    exact FF RB [] hr e
  ·have q1:(t.len==0)=false:=by simpa using c1
   have e:t.run=false:=by cases q:t.run with|false=>rfl|true=>have:=De.1 q;omega
   refine (mr q0 q1 ?_).1
   exact FF RB [] hr e
 ·have q0:(t.off==0)=false:=by simpa using c0
  have hrn:t.run=false:=by simp[Tk.run,c0]
  have hr:t.right=t.copy:=by simp[Tk.right,hrn]
  by_cases c1:0<(t.lit.length:Int)
  ·have q1:decide (0<(t.lit.length:Int))=true:=by simpa using c1
   have e:t.copy=false:=by cases q:t.copy with|false=>rfl|true=>have:=Cw.1 q;rw[this.1]at c1;simp at c1
   refine (mr q0 q1 ?_).1
   exact FF RB [] hr e
  ·have q1:decide (0<(t.lit.length:Int))=false:=by simpa using c1
   have hlit:t.lit=[]:=List.eq_nil_of_length_eq_zero (by omega)
   by_cases c2:t.off<0
   ·have q2:decide (t.off<0)=true:=by simpa using c2
    have e:t.copy=false:=by cases q:t.copy with|false=>rfl|true=>have:=Cw.1 q;omega
    refine (ms q0 q1 q2 ?_).1
    exact FF RB [] hr e
   ·have q2:decide (t.off<0)=false:=by simpa using c2
    by_cases c3:65536<t.off
    ·have q3:decide (65536<t.off)=true:=by simpa using c3
     have e:t.copy=false:=by cases q:t.copy with|false=>rfl|true=>have:=Cw.1 q;omega
     refine (mt q0 q1 q2 q3 ?_).1
     exact FF RB [] hr e
    ·have q3:decide (65536<t.off)=false:=by simpa using c3
     by_cases c4:4≤t.len
     ·have q4:decide (4≤t.len)=true:=by simpa using c4
      have e:decide (t.len≤1048576)=t.copy:=by rw[Bool.eq_iff_iff,Cw,decide_eq_true_eq];exact⟨λh=>⟨hlit,by omega,by omega,c4,h⟩,λh=>h.2.2.2.2⟩
      simp only[go_sem,seval,q0,q1,q2,q3,q4,e];refine (mok ?_).1
      exact FE RB [] hr
     ·have q4:decide (4≤t.len)=false:=by simpa using c4
      have e:t.copy=false:=by cases q:t.copy with|false=>rfl|true=>have:=Cw.1 q;omega
      simp only[go_sem,seval,q0,q1,q2,q3,q4];refine (mok ?_).1
      exact FF RB [] hr e
theorem Se (t:Tk):Ct Tryz.prog 286 [tkA t] [] (λ_=>bA t.right) [] (λ_=>[]):=(P6 t).toCt cl cl
def WS.tok (s:WS) (t:Tk):WS:=if t.right=true then(if t.run=true then(s.put (vb (2*t.lit.length-2))).put t.lit else(s.put (vb (2*t.len-7))).put (vb (t.off-1)))else s.fail 3
theorem WS.fine.tok {s:WS} (h:s.fine) (t:Tk):(s.tok t).fine:=by
 unfold WS.tok
 split
 ·split
  ·exact(h.put _).put _
  ·exact(h.put _).put _
 ·exact h.fail 3
theorem Vh (s:WS) (t:Tk) (hs:s.fine):An Tryz.prog 280 [.ref 0 0,tkA t] [B4 1 s,A1 s] (.tup []) [B4 1 (s.tok t),A1 (s.tok t)]:=by
 refine RM Tryz.func280 Alu ?_
 refine Aa.p (Se t) ?_
 cases hr:t.right
 ·refine (mq hr ?_).1
  refine Aa.u2 (Cp s 3 0 1 (by decide)) rfl rfl (mp ?_).1
  (refine FB Alu [0,1] ?_ ?_<;>first|with_reducible rfl|(simp[Ae,Ah,Ai,Ag,WS.tok,hr];done)|rfl)
 ·by_cases c0:t.off=0
  ·have q0:(t.off==0)=true:=by simpa using c0
   have hcp:t.copy=false:=by simp[Tk.copy,c0]
   have hrn:t.run=true:=by simpa[Tk.right,hcp]using hr
   have hri:=De.1 hrn
   have e1:IntKind.i64.wrap ((t.lit.length:Int)-1)=t.lit.length-1:=IntWalk.i64_in _ (by omega)
   have e2:IntKind.u64.wrap ((t.lit.length:Int)-1)=t.lit.length-1:=IntWalk.u64_in _ (by omega)
   have e3:IntKind.u64.wrap (((t.lit.length:Int)-1)*2)=2*t.lit.length-2:=by rw[IntWalk.u64_in _ (by omega)];omega
   simp only[go_sem,seval,hr,q0,Ab,e1,e2,e3];refine (mok ?_).1
   refine Aa.u2 (Bx s (2*t.lit.length-2) 0 1 (by decide) (by omega) (by omega) hs.ok (hs.room _)) rfl rfl (mp ?_).1
   refine Aa.u2 (B0 _ t.lit 0 1 (by decide) (hs.put _).ok ((hs.put _).room _)) rfl rfl (mp ?_).1
   (refine FB Alu [0,1] ?_ ?_<;>first|with_reducible rfl|(simp[Ae,Ah,Ai,Ag,WS.tok,hr,hrn];done)|rfl)
  ·have q0:(t.off==0)=false:=by simpa using c0
   have hrn:t.run=false:=by simp[Tk.run,c0]
   have hcp:t.copy=true:=by simpa[Tk.right,hrn]using hr
   have hci:=Cw.1 hcp
   have e1:IntKind.i64.wrap (t.len-4)=t.len-4:=IntWalk.i64_in _ (by omega)
   have e2:IntKind.u64.wrap (t.len-4)=t.len-4:=IntWalk.u64_in _ (by omega)
   have e3:IntKind.u64.wrap ((t.len-4)*2)=(t.len-4)*2:=IntWalk.u64_in _ (by omega)
   have e4:IntKind.u64.wrap ((t.len-4)*2+1)=2*t.len-7:=by rw[IntWalk.u64_in _ (by omega)];omega
   have e5:IntKind.i64.wrap (t.off-1)=t.off-1:=IntWalk.i64_in _ (by omega)
   have e6:IntKind.u64.wrap (t.off-1)=t.off-1:=IntWalk.u64_in _ (by omega)
   simp only[go_sem,seval,hr,q0,e1,e2,e3,e4];refine (mok ?_).1
   refine Aa.u2 (Bx s (2*t.len-7) 0 1 (by decide) (by omega) (by omega) hs.ok (hs.room _)) rfl rfl (mr e5 e6 ?_).1
   refine Aa.u2 (Bx _ (t.off-1) 0 1 (by decide) (by omega) (by omega) (hs.put _).ok ((hs.put _).room _)) rfl rfl (mp ?_).1
   (refine FB Alu [0,1] ?_ ?_<;>first|with_reducible rfl|(simp[Ae,Ah,Ai,Ag,WS.tok,hr,hrn];done)|rfl)
theorem Y2 (s:WS) (t:Tk) (i j:Nat) (h:i≠j) (hs:s.fine):Ct Tryz.prog 280 [.ref i 0,tkA t] [(i,B4 j s),(j,A1 s)] (λ_=>.tup []) [(i,B4 j (s.tok t)),(j,A1 (s.tok t))] (λ_=>[]):=Ct.u2 (Vh s t hs) i j h cl cl cl cl cl (BI _ _) (Bm _) Ci
theorem Sf (s:RS) (hs:Av s):An Tryz.prog 264 [.ref 0 0] [A7 s] (.tup [bA s.thead.2.1,iA s.thead.2.2]) [A7 (s.thead.1)]:=by
 have hv:=Bk (s:=s) hs.bys
 refine RM Tryz.func264 Acb ?_
 refine Aa.r1 (AP s 0) rfl (mp ?_).1
 refine Aa.u1 (B3 s 0 hs.ok hs.bys) rfl (mp ?_).1
 refine Aa.r1 (Ak s.vint.1 0) rfl ?_
 by_cases hc:s.vint.1.code=0
 ·obtain⟨x,hx⟩:∃x,s.vint.2=x:=⟨_,rfl⟩
  rw[hx]at hv
  have em:x.tmod 2=x%2:=Int.tmod_eq_emod_of_nonneg hv.1
  have ed:IntKind.u64.wrap (x.tdiv 2)=x/2:=by rw[Int.tdiv_eq_ediv_of_nonneg hv.1,IntWalk.u64_in _ (by omega)]
  have e1:IntKind.i64.wrap (1048576-4)=1048572:=rfl
  have e2:IntKind.i64.wrap (1048576-1)=1048575:=rfl
  have e3:IntKind.u64.wrap 1048572=1048572:=rfl
  have e4:IntKind.u64.wrap 1048575=1048575:=rfl
  have e3':IntKind.i64.wrap 1048572=1048572:=rfl
  have e4':IntKind.i64.wrap 1048575=1048575:=rfl
  have eh:s.thead=if x%2=1 then(if 1048572<x/2 then(s.vint.1.fail 2 s.at_,false,0)else(s.vint.1,true,x/2+4))else(if 1048575<x/2 then(s.vint.1.fail 2 s.at_,false,0)else(s.vint.1,false,x/2+1)):=by
   unfold RS.thead;rw[if_pos hc,hx]
  by_cases c1:x%2=1
  ·have q1:(x%2==1)=true:=by simpa using c1
   rw[if_pos c1]at eh
   by_cases c2:1048572<x/2
   ·have q2:decide (1048572<x/2)=true:=by simpa using c2
    rw[if_pos c2]at eh
    simp only[go_sem,seval,AW hc,hx,em,ed,q1,e1,e3,e3',q2];refine (mok ?_).1
    (repeat((with_reducible refine And.intro ?_ ?_);(·exact sd)))
    refine Aa.u1 (Ar s.vint.1 2 s.at_ 0) rfl (mp ?_).1
    exact FE Acb [0] eh
   ·have q2:decide (1048572<x/2)=false:=by simpa using c2
    rw[if_neg c2]at eh
    have e5:IntKind.i64.wrap (x/2)=x/2:=IntWalk.i64_in _ (by omega)
    have e6:IntKind.i64.wrap (x/2+4)=x/2+4:=IntWalk.i64_in _ (by omega)
    simp only[go_sem,seval,AW hc,hx,em,ed,q1,e1,e3,e3',q2,e5,e6];refine (mok ?_).1
    (repeat((with_reducible refine And.intro ?_ ?_);(·exact sd)))
    exact FE Acb [0] eh
  ·have q1:(x%2==1)=false:=by simpa using c1
   rw[if_neg c1]at eh
   by_cases c2:1048575<x/2
   ·have q2:decide (1048575<x/2)=true:=by simpa using c2
    rw[if_pos c2]at eh
    simp only[go_sem,seval,AW hc,hx,em,ed,q1,e2,e4,e4',q2];refine (mok ?_).1
    (repeat((with_reducible refine And.intro ?_ ?_);(·exact sd)))
    refine Aa.u1 (Ar s.vint.1 2 s.at_ 0) rfl (mp ?_).1
    exact FE Acb [0] eh
   ·have q2:decide (1048575<x/2)=false:=by simpa using c2
    rw[if_neg c2]at eh
    have e5:IntKind.i64.wrap (x/2)=x/2:=IntWalk.i64_in _ (by omega)
    have e6:IntKind.i64.wrap (x/2+1)=x/2+1:=IntWalk.i64_in _ (by omega)
    simp only[go_sem,seval,AW hc,hx,em,ed,q1,e2,e4,e4',q2,e5,e6];refine (mok ?_).1
    (repeat((with_reducible refine And.intro ?_ ?_);(·exact sd)))
    exact FE Acb [0] eh
 ·have eh:s.thead=(s.vint.1,false,0):=by unfold RS.thead;rw[if_neg hc]
  refine (mq (Ay hc) ?_).1
  exact FE Acb [0] eh
theorem Vi (s:RS) (i:Nat) (hs:Av s):Ct Tryz.prog 264 [.ref i 0] [(i,A7 s)] (λ_=>.tup [bA s.thead.2.1,iA s.thead.2.2]) [(i,A7 (s.thead.1))] (λ_=>[]):=Ct.u1 (Sf s hs) i cl (λρ=>Ao ρ _) (λρ=>Ao ρ _) (rdr_dead _) cl
theorem N2 (s:RS) (hs:Av s):An Tryz.prog 265 [.ref 0 0] [A7 s] (iA s.toff.2) [A7 (s.toff.1)]:=by
 have hv:=Bk (s:=s) hs.bys
 refine RM Tryz.func265 Alw ?_
 refine Aa.r1 (AP s 0) rfl (mp ?_).1
 refine Aa.u1 (B3 s 0 hs.ok hs.bys) rfl (mp ?_).1
 obtain⟨x,hx⟩:∃x,s.vint.2=x:=⟨_,rfl⟩
 rw[hx]at hv
 by_cases c:65536≤x
 ·have q:decide (65536≤x)=true:=by simpa using c
  by_cases hc:s.vint.1.code=0
  ·have eh:s.toff=(s.vint.1.fail 10 s.at_,0):=by unfold RS.toff;rw[if_pos hc,hx,if_pos c]
   have hno:=IA (s:=s.vint.1) (c:=10) (a:=s.at_) hc (by decide)
   refine (mr hx q ?_).1
   refine Aa.u1 (Ar s.vint.1 10 s.at_ 0) rfl (mp ?_).1
   refine Aa.r1 (Ak _ 0) rfl (mq (Ay hno) ?_).1
   exact FE Alw [0] eh
  ·have:=YK hc;omega
 ·have q:decide (65536≤x)=false:=by simpa using c
  refine (mr hx q ?_).1
  refine Aa.r1 (Ak s.vint.1 0) rfl ?_
  by_cases hc:s.vint.1.code=0
  ·have eh:s.toff=(s.vint.1,x+1):=by unfold RS.toff;rw[if_pos hc,hx,if_neg c]
   have e1:IntKind.i64.wrap x=x:=IntWalk.i64_in _ (by omega)
   have e2:IntKind.i64.wrap (x+1)=x+1:=IntWalk.i64_in _ (by omega)
   refine (ms (AW hc) e1 e2 ?_).1
   exact FE Alw [0] eh
  ·have eh:s.toff=(s.vint.1,0):=by unfold RS.toff;rw[if_neg hc]
   refine (mq (Ay hc) ?_).1
   exact FE Alw [0] eh
theorem P7 (s:RS) (i:Nat) (hs:Av s):Ct Tryz.prog 265 [.ref i 0] [(i,A7 s)] (λ_=>iA s.toff.2) [(i,A7 (s.toff.1))] (λ_=>[]):=Ct.u1 (N2 s hs) i cl (λρ=>Ao ρ _) (λρ=>Ao ρ _) (rdr_dead _) cl
theorem OF (out:List Int) (off n:Int) (hn:n≤1048576) (ho:0<n->1≤off∧off≤out.length) (hl:out.length≤100000000000000):An Tryz.prog 266 [HS 0 out,iA off,iA n] [.row 1 out.length] (HS 0 (Cy out off.toNat n.toNat)) [.row 1 (Cy out off.toNat n.toNat).length]:=by
 refine RM Tryz.func266 Ar4 ?_
 refine AM (α:=Nat) (λk=>[HS 0 (Cy out off.toNat k),iA off,.any,.any,.any,.any,.any,iA n,iA k,.any,.any,.any,.any,.any,.any,.any,.any,.any,.any,.any,.any,.any]) (λk=>[.row 1 (Cy out off.toNat k).length]) (λk=>k≤n.toNat) (λk=>n.toNat-k) 0 (by simp) (Wk.to (by simp[Cy]) (by simp[Ca,Cy])) ?_
 intro k hk
 have hal:=K2 off.toNat k out
 refine (mq @Ab ?_).1
 by_cases hlt:(k:Int)<n
 ·have q:decide ((k:Int)<n)=true:=by simpa using hlt
  obtain⟨h1,h2⟩:=ho (by omega)
  have ei:=AJ k (by omega)
  have hs:=JD off.toNat k out
  obtain⟨m,hm⟩:∃m:Nat,(Cy out off.toNat k).length-off.toNat=m:=⟨_,rfl⟩
  rw[hm]at hs
  have e1:IntKind.i64.wrap (((Cy out off.toNat k).length:Int)-off)=(m:Int):=by rw[IntWalk.i64_in _ (by omega)];omega
  have g:=I2 (Cy out off.toNat k) m (by omega) (by omega)
  rw[Int.toNat_natCast]at g
  have hsl:=congrArg List.length hs
  rw[List.length_append,List.length_singleton]at hsl
  simp only[go_sem,seval,q,e1,g,Int.toNat_natCast,Ab,D9,←hs,ei];refine (mok ?_).1
  (repeat((with_reducible refine And.intro ?_ ?_);(·exact sd)))
  exact⟨k+1,by omega,by omega,Wk.to (by simp;omega) (by simp[Ca])⟩
 ·have q:decide ((k:Int)<n)=false:=by simpa using hlt
  have ek:k=n.toNat:=by omega
  refine (mq q ?_).1
  exact FE Ar4 [0] ek
theorem Rf (out:List Int) (off n:Int) (i:Nat) (hn:n≤1048576) (ho:0<n->1≤off∧off≤out.length) (hl:out.length≤100000000000000):Ct Tryz.prog 266 [HS i out,iA off,iA n] [(i,.row 1 out.length)] (λ_=>HS i (Cy out off.toNat n.toNat)) [(i,.row 1 (Cy out off.toNat n.toNat).length)] (λ_=>[]):=
 Ct.o1 (OF out off n hn ho hl) i Ci Ci Ci (by simp) Ci
def B7:List Tk->Int
 |[]=>0
 |t::l=>t.lit.length+20+B7 l
theorem VA (l:List Tk) (t:Tk):B7 (l++[t])=B7 l+t.lit.length+20:=by
 induction l with
 |nil=>simp[B7]
 |cons x l ih=>simp only[List.cons_append,B7,ih];omega
theorem MG {l:List Tk} (h:∀t∈l,t.lit.length≤2000000):0≤B7 l∧B7 l≤2000020*l.length:=by
 induction l with
 |nil=>simp[B7]
 |cons x l ih=>
  have h1:=h x (List.mem_cons_self ..)
  have h2:=ih λt ht=>h t (List.mem_cons_of_mem _ ht)
  simp only[B7,List.length_cons];omega
theorem Si (t:Tk):(EW t).length≤t.lit.length+20:=by
 unfold EW
 split
 ·have:=(Bd (2*(t.lit.length:Int)-2)).2;rw[List.length_append];omega
 ·have:=(Bd (2*t.len-7)).2;have:=(Bd (t.off-1)).2;rw[List.length_append];omega
theorem Vf (l:List Tk):((EV l).length:Int)≤B7 l:=by
 induction l with
 |nil=>simp[EV,B7]
 |cons x l ih=>
  have:=Si x
  have e:EV (x::l)=EW x++EV l:=by simp[EV]
  rw[e,List.length_append];simp only[B7];omega
theorem Amy:(vb 18446744073709551615).length=10:=by kernel_rfl
theorem Sd (l:List Tk) (hn:l.length≤2000000) (hl:∀t∈l,t.lit.length≤2000000):An Tryz.prog 279 [slT l] [] (iA (B7 l)) []:=by
 refine RN Tryz.func279 Ary ?_;refine (mq @EB ?_).1
 refine AM (α:=Nat) (λk=>[.any,.any,.any,iA (B7 (l.take k)),.any,.any,slT l,iA l.length,iA k,.any,.any,.any,.any,.any,.any,.any,.any,.any,.any,.any,.any,.any]) (λ_=>[]) (λk=>k≤l.length) (λk=>l.length-k) 0 (by simp) (Wk.to (by simp) (by simp[Ca,B7])) ?_
 intro k hk
 refine (mp ?_).1
 refine Ax (λh=>?_) (λh=>?_)
 ·have hlt:k<l.length:=by simpa using h
  have g:=XQ l k hlt
  have ei:=AJ k (by omega)
  have h1:=MG (l:=l.take (k+1)) λt ht=>hl t (List.mem_of_mem_take ht)
  have hkl:(l.take (k+1)).length≤2000000:=by simp;omega
  have hx:=hl _ (Am7 l k hlt)
  have hs:B7 (l.take (k+1))=B7 (l.take k)+(l.getD k K7).lit.length+20:=by rw[XR l k hlt,VA]
  obtain⟨t,ht⟩:∃t,l.getD k K7=t:=⟨_,rfl⟩
  rw[ht]at g hx hs
  have e1:IntKind.i64.wrap (2*(((vb 18446744073709551615).length:Nat):Int))=20:=by rw[Amy];rfl
  have e2:IntKind.i64.wrap ((t.lit.length:Int)+20)=t.lit.length+20:=IntWalk.i64_in _ (by omega)
  have es:IntKind.i64.wrap (B7 (l.take k)+((t.lit.length:Int)+20))=B7 (l.take (k+1)):=by rw[IntWalk.i64_in _ (by omega),hs];omega
  refine (ms g @EB @Ab ?_).1
  (repeat((with_reducible refine And.intro ?_ ?_);(·exact sd)))
  refine Aa.p (CU 18446744073709551615 (by decide) (by decide)) (mt e1 e2 es ei ?_).1
  exact⟨k+1,hlt,by omega,Wk.sel [] (by simp) rfl (by simp) rfl (by simp) (by simp[Cq,AT])⟩
 ·have ek:k=l.length:=by simp at h;omega
  refine (mp ?_).1
  exact FE Ary [] ek
theorem Vg (l:List Tk) (hn:l.length≤2000000) (hl:∀t∈l,t.lit.length≤2000000):Ct Tryz.prog 279 [slT l] [] (λ_=>iA (B7 l)) [] (λ_=>[]):=(Sd l hn hl).toCt cl cl
def WS.toks (s:WS) (l:List Tk):WS:=l.foldl WS.tok s
theorem Y0 (s:WS) (l:List Tk) (t:Tk):s.toks (l++[t])=(s.toks l).tok t:=by simp[WS.toks]
theorem WS.fine.toks {s:WS} (h:s.fine) (l:List Tk):(s.toks l).fine:=by
 induction l generalizing s with
 |nil=>exact h
 |cons x l ih=>exact ih (s:=s.tok x) (h.tok x)
def Fz (l:List Tk):Bool:=l.all Tk.right
theorem VE {l:List Tk}:Fz l=true↔∀t∈l,t.right=true:=by simp[Fz]
theorem X3 {s:WS} {a b:List Int} (h:s.code=0) (hm:(s.l.length:Int)+(a++b).length≤s.most):(s.put a).put b=⟨s.most,s.l++(a++b),0⟩:=by
 rw[List.length_append]at hm
 have e1:s.put a=⟨s.most,s.l++a,0⟩:=by rw[WS.put_ok h (by omega)];cases s;simp at h;simp[h]
 rw[e1,WS.put_ok rfl (by simp only[List.length_append];omega)]
 simp
theorem Ail {s:WS} {t:Tk} (h:s.code=0) (hr:t.right=true) (hm:(s.l.length:Int)+(EW t).length≤s.most):s.tok t=⟨s.most,s.l++EW t,0⟩:=by
 unfold WS.tok
 unfold EW at hm ⊢
 rw[if_pos hr]
 split
 ·rename_i q;rw[if_pos q]at hm;exact X3 h hm
 ·rename_i q;rw[if_neg q]at hm;exact X3 h hm
theorem Aim {s:WS} {t:Tk} (h:¬s.code=0):s.tok t=s:=by
 unfold WS.tok
 have hp:∀m,s.put m=s:=λm=>WS.put_bad h
 have hf:s.fail 3=s:=by unfold WS.fail;rw[if_neg h]
 rw[hp,hp,hp,hp,hf]
 repeat' split
 all_goals rfl
theorem Ac4 {s:WS} (h:¬s.code=0) (l:List Tk):s.toks l=s:=by
 induction l with
 |nil=>rfl
 |cons x l ih=>show(s.tok x).toks l=s;rw[Aim h,ih]
theorem Ac3:∀(l:List Tk) (s:WS),s.code=0->(s.l.length:Int)+B7 l≤s.most->s.toks l=if Fz l=true then⟨s.most,s.l++EV l,0⟩else⟨s.most,(s.toks l).l,3⟩:=by
 intro l
 induction l with
 |nil=>intro s h _;cases s;simp at h;simp[WS.toks,Fz,EV,h]
 |cons x l ih=>
  intro s h hm
  simp only[B7]at hm
  have hx:=Si x
  have hge:0≤B7 l:=by
   clear ih hm
   induction l with
   |nil=>simp[B7]
   |cons y l ih=>simp only[B7];omega
  show(s.tok x).toks l=if Fz (x::l)=true then _ else⟨s.most,((s.tok x).toks l).l,3⟩
  cases hr:x.right
  ·have e:s.tok x=⟨s.most,s.l,3⟩:=by
    unfold WS.tok WS.fail;rw[hr,if_neg (by simp),if_pos h]
   have hb:(WS.mk s.most s.l 3).toks l=⟨s.most,s.l,3⟩:=Ac4 (by simp) l
   rw[e,hb,if_neg (by simp[Fz,hr])]
  ·rw[Ail h hr (by omega)]
   have:=ih ⟨s.most,s.l++EW x,0⟩ rfl (by simp only[List.length_append];omega)
   rw[this]
   have er:Fz (x::l)=Fz l:=by simp[Fz,hr]
   rw[er]
   split
   ·simp[EV]
   ·rfl
def Sh (l:List Tk):List Int×Int:=if Fz l=true then(EV l,0)else([],3)
theorem P8 (l:List Tk) (hn:l.length≤2000000) (hl:∀t∈l,t.lit.length≤2000000):An Tryz.prog 275 [slT l] [] (.tup [A9 .u8 (Sh l).1,iA (Sh l).2]) []:=by
 have hr:=MG hl
 have f0:(WS.new (B7 l)).fine:=WS.fine.new (by omega)
 refine RM Tryz.func275 Aor ?_
 refine Aa.p (Vg l (by omega) hl) (mp ?_).1
 refine Aa.n (ER (B7 l)) (mq @EB ?_).1
 refine AM (α:=Nat) (λk=>[.any,.any,.any,.any,.ref 0 0,.any,.any,.any,.any,.any,slT l,iA l.length,iA k,.any,.any,.any,.any,.any,.any,.any,.any,.any,.any,.any]) (λk=>[B4 1 ((WS.new (B7 l)).toks (l.take k)),A1 ((WS.new (B7 l)).toks (l.take k))]) (λk=>k≤l.length) (λk=>l.length-k) 0 (by simp) (Wk.to (by simp[WS.toks]) (by simp[Ca])) ?_
 intro k hk
 refine (mp ?_).1
 refine Ax (λh=>?_) (λh=>?_)
 ·have hlt:k<l.length:=by simpa using h
  have g:=XQ l k hlt
  have ei:=AJ k (by omega)
  have hs:((WS.new (B7 l)).toks (l.take k)).tok (l.getD k K7)=(WS.new (B7 l)).toks (l.take (k+1)):=by rw[XR l k hlt,Y0]
  refine (mr g @EB ?_).1
  (repeat((with_reducible refine And.intro ?_ ?_);(·exact sd)))
  refine Aa.u2 (Y2 _ (l.getD k K7) 0 1 (by decide) (f0.toks _)) rfl rfl (mr hs ei ?_).1
  exact⟨k+1,hlt,by omega,Wk.sel [0,1] (by simp) rfl (by simp) rfl (by simp[Ik,wrow_ren,AK]) (by simp[Cq,AT,AK])⟩
 ·have ek:k=l.length:=by simp at h;omega
  subst ek
  have hf:=Ac3 l (WS.new (B7 l)) rfl (by rw[WS.new_is hr.1];simp)
  have hff:=(f0.toks l).len
  simp only[go_sem,seval,List.take_length];refine (mok ?_).1
  refine Aa.r2 (B1 _ 0 1 (by decide) hff) rfl rfl (mp ?_).1
  cases hq:Fz l
  ·rw[hq]at hf
   have hc:((WS.new (B7 l)).toks l).code=3:=by rw[hf];rfl
   have hb:((WS.new (B7 l)).toks l).bytes=[]:=by unfold WS.bytes;rw[hc];rfl
   (refine FB Aor [] ?_ ?_<;>first|with_reducible rfl|(simp[Ae,Ah,Ai,Ag,Sh,hq,hc,hb];done)|rfl)
  ·rw[if_pos hq]at hf
   have hc:((WS.new (B7 l)).toks l).code=0:=by rw[hf]
   have hb:((WS.new (B7 l)).toks l).bytes=EV l:=by unfold WS.bytes;rw[hf,WS.new_is hr.1];simp
   (refine FB Aor [] ?_ ?_<;>first|with_reducible rfl|(simp[Ae,Ah,Ai,Ag,Sh,hq,hc,hb];done)|rfl)
theorem Sg (l:List Tk) (hn:l.length≤2000000) (hl:∀t∈l,t.lit.length≤2000000):Ct Tryz.prog 275 [slT l] [] (λ_=>.tup [A9 .u8 (Sh l).1,iA (Sh l).2]) [] (λ_=>[]):=(P8 l hn hl).toCt cl cl
abbrev Am5 (n:Int):AV:=.lit (.int .u32 n)
theorem Xv (b:List Int) (i:Nat) (hb:b.length≤1000000000000) (hi:i≤b.length):An Tryz.prog 290 [A9 .u8 b,iA i] [] (.tup [Am5 (TC b i),bA (LR b i)]) []:=by
 have e1:decide ((i:Int)<0)=false:=by simp
 have e2:IntKind.i64.wrap ((b.length:Int)-4)=b.length-4:=IntWalk.i64_in _ (by omega)
 have e3:decide ((b.length:Int)-4<i)= !LR b i:=by unfold LR;rw[←decide_not];simp;omega
 refine RN Tryz.func290 Aon ?_;refine (mt @Ab e1 e2 e3 ?_).1
 cases hk:LR b i with
 |false=>
  refine (mp ?_).1
  (refine FB Aon [] ?_ ?_<;>first|with_reducible rfl|(simp[Ae,Ah,Ai,Ag,TC,hk];done)|rfl)
 |true=>
  have hk':i+4≤b.length:=by simpa[LR]using hk
  refine (mp ?_).1
  refine AM (α:=Nat) (λk=>[A9 .u8 b,iA i,.any,.any,.any,.any,Am5 (Aah b i k),.any,.any,.any,.any,.any,.any,.any,.any,.any,.any,iA k,.any,.any,.any,.any,.any,.any,.any,.any,.any,.any,.any,.any,.any,.any,.any,.any]) (λ_=>[]) (λk=>k≤4) (λk=>4-k) 0 (by simp) (Wk.to (by simp) (by simp[Ca,Aah])) ?_
  intro k hk4
  refine (mp ?_).1
  refine Ax (λh=>?_) (λh=>?_)
  ·have hlt:k<4:=by simp at h;omega
   have g1:IntKind.i64.wrap ((i:Int)+k)=((i+k:Nat):Int):=by rw[IntWalk.i64_in _ (by omega)];omega
   have g2:=CC .u8 b (i+k) (by omega)
   have g3:IntKind.i64.wrap (8*(k:Int))=8*k:=IntWalk.i64_in _ (by omega)
   have g4:=AJ k (by omega)
   have g5:Cx .or .u32 (Aah b i k) (IntKind.u32.wrap (IntKind.u32.wrap (b.getD (i+k) 0)*2^min (8*(k:Int)).toNat 32))=Aah b i (k+1):=rfl
   simp only[go_sem,seval,g1,Ab,Int.toNat_natCast,g2,IH,g3,IntKind.bits,g5,g4];refine (mok ?_).1
   (repeat((with_reducible refine And.intro ?_ ?_);(·exact sd)))
   exact⟨k+1,by omega,by omega,Wk.sel [] (by simp) rfl (by simp) rfl (by simp) (by simp[Cq,AT])⟩
  ·have ek:k=4:=by simp at h;omega
   subst ek
   refine (mp ?_).1
   (refine FB Aon [] ?_ ?_<;>first|with_reducible rfl|(simp[Ae,Ah,Ai,Ag,TC,hk,KK];done)|rfl)
theorem PN (b:List Int) (i:Nat) (hb:b.length≤1000000000000) (hi:i≤b.length):Ct Tryz.prog 290 [A9 .u8 b,iA i] [] (λ_=>.tup [Am5 (TC b i),bA (LR b i)]) [] (λ_=>[]):=(Xv b i hb hi).toCt cl cl
theorem St (o n:Int):An Tryz.prog 285 [iA o,iA n] [] (.tup [iA (P_ (o,n)).1,iA (P_ (o,n)).2]) []:=by
 refine RM Tryz.func285 Aop ?_
 by_cases h:n<4
 ·have e:decide (n<4)=true:=by simpa using h
  refine (mq e ?_).1
  (refine FB Aop [] ?_ ?_<;>first|with_reducible rfl|(simp[Ae,Ah,Ai,Ag,P_,h];done)|rfl)
 ·have e:decide (n<4)=false:=by simpa using h
  refine (mq e ?_).1
  (refine FB Aop [] ?_ ?_<;>first|with_reducible rfl|(simp[Ae,Ah,Ai,Ag,P_,h];done)|rfl)
theorem MC (o n:Int):Ct Tryz.prog 285 [iA o,iA n] [] (λ_=>.tup [iA (P_ (o,n)).1,iA (P_ (o,n)).2]) [] (λ_=>[]):=(St o n).toCt cl cl
theorem V_ {b:List Int} {i o:Nat} (h:i<b.length∧1≤o∧o≤i):NZ b i o=cnt (mtP b i o) (min (b.length-i) 1048576) 0:=by unfold NZ;rw[if_pos h]
theorem Su (b:List Int) (i o:Nat) (hb:b.length≤1000000000000) (hi:i≤b.length) (ho:1≤o∧o≤i):An Tryz.prog 284 [A9 .u8 b,iA i,iA o] [] (iA (NZ b i o)) []:=by
 have e1:decide ((i:Int)<0)=false:=by simp
 have e3:decide ((o:Int)<1)=false:=by simp;omega
 have e4:decide ((i:Int)<o)=false:=by simp;omega
 by_cases hl:i<b.length
 ·have e2:decide ((b.length:Int)≤i)=false:=by simp;omega
  refine RN Tryz.func284 Aca ?_;simp only[go_sem,seval,Ab,e1,e2,e3,e4];refine (mok ?_).1
  have hm:=V_ (b:=b) (i:=i) (o:=o) ⟨hl,ho.1,ho.2⟩
  obtain⟨M,hM⟩:∃M,M=min (b.length-i) 1048576:=⟨_,rfl⟩
  rw[←hM]at hm
  refine AM (α:=Nat) (λk=>[A9 .u8 b,iA i,iA o,.any,.any,.any,.any,iA k,.any,.any,.any,.any,.any,.any,.any,.any,.any,.any,.any,.any,.any,.any,.any,.any,.any,.any,.any,.any,.any,.any,.any,.any,.any,.any,.any,.any,.any,.any,.any,.any,.any,.any,.any,.any,.any,.any,.any,.any,.any,.any,.any,.any,.any,.any,.any]) (λ_=>[]) (λk=>k≤M∧cnt (mtP b i o) (M-k) k=NZ b i o) (λk=>M-k) 0 (by simp[hm]) (Wk.to (by simp) (by simp[Ca])) ?_
  intro k hk
  obtain⟨hkM,hk⟩:=hk
  have g1:IntKind.i64.wrap ((i:Int)+k)=((i+k:Nat):Int):=by rw[IntWalk.i64_in _ (by omega)];omega
  have g2:IntKind.i64.wrap (((i+k:Nat):Int)-o)=((i+k-o:Nat):Int):=by rw[IntWalk.i64_in _ (by omega)];omega
  have g5:=AJ k (by omega)
  by_cases hkk:k<M
  ·have c1:decide (((i+k:Nat):Int)<b.length)=true:=by simp;omega
   have c2:decide ((k:Int)<1048576)=true:=by simp;omega
   have g3:=CC .u8 b (i+k) (by omega)
   have g4:=CC .u8 b (i+k-o) (by omega)
   have hun:cnt (mtP b i o) (M-k) k=if mtP b i o k=true then cnt (mtP b i o) (M-(k+1)) (k+1)else k:=by
    rw[show M-k=(M-(k+1))+1 by omega];rfl
   simp only[go_sem,seval,g1,Ab,c1,c2,g2,Int.toNat_natCast,g3,g4,IH];refine (mok ?_).1
   (repeat((with_reducible refine And.intro ?_ ?_);(·exact sd)))
   cases hp:mtP b i o k with
   |true=>
    have hp':(b.getD (i+k) 0==b.getD (i+k-o) 0)=true:=hp
    refine (mr hp' g5 ?_).1
    rw[hp,if_pos rfl]at hun
    exact⟨k+1,⟨by omega,by rw[←hun];exact hk⟩,by omega,Wk.sel [] (by simp) rfl (by simp) rfl (by simp) (by simp[Cq,AT])⟩
   |false=>
    have hp':(b.getD (i+k) 0==b.getD (i+k-o) 0)=false:=hp
    rw[hp,if_neg (by simp),hk]at hun
    refine (mq hp' ?_).1
    exact FE Aca [] hun
  ·have ek:k=M:=by omega
   have hz:NZ b i o=k:=by rw[←hk,ek];simp[cnt]
   by_cases c1:i+k<b.length
   ·have c1':decide (((i+k:Nat):Int)<b.length)=true:=by simp;omega
    have c2:decide ((k:Int)<1048576)=false:=by simp;omega
    refine (mt g1 @Ab c1' c2 ?_).1
    exact FE Aca [] hz
   ·have c1':decide (((i+k:Nat):Int)<b.length)=false:=by simp;omega
    refine (ms g1 @Ab c1' ?_).1
    exact FE Aca [] hz
 ·have e2:decide ((b.length:Int)≤i)=true:=by simp;omega
  have hm:NZ b i o=0:=by unfold NZ;rw[if_neg (by omega)]
  refine RN Tryz.func284 Aca ?_;refine (ms @Ab e1 e2 ?_).1
  exact FE Aca [] hm
theorem Vy (b:List Int) (i o:Nat) (hb:b.length≤1000000000000) (hi:i≤b.length) (ho:1≤o∧o≤i):Ct Tryz.prog 284 [A9 .u8 b,iA i,iA o] [] (λ_=>iA (NZ b i o)) [] (λ_=>[]):=(Su b i o hb hi ho).toCt cl cl
section
variable {P:Program} {f:FuncId} {args args₀:List AV} {S:List Ad} {K:KT}
theorem Ct.us {S₀ S₁ R U:List Ad} {r₀ r:AV} (h:An P f args₀ S₀ r₀ S₁) (is:List Nat) (hn:is.Nodup) (hl:is.length=S₀.length) (hl':S₁.length=S₀.length) (hal:∀o∈S₀,o≠ .dead)
 (ha:∀N,args₀.map (λx=>x.ren (AK is N))=args) (hR:∀N,S₀.map (λo=>o.ren (AK is N))=R) (hU:∀N,S₁.map (λo=>o.ren (AK is N))=U) (hr:∀N,r₀.ren (AK is N)=r):Ct P f args (is.zip R) (λ_=>r) (is.zip U) (λ_=>[]):=by
 have e0:S₁.length-S₀.length=0:=by omega
 refine Ct.mk h is hn hl (by omega) hal (λn N=>?_) (λn N=>?_) (λn N=>?_) (.inl λn N=>?_) (λn N=>?_)
 ·rw[e0];simpa using ha N
 ·rw[e0];simpa using hr N
 ·rw[e0];simp only[List.range'_zero,List.append_nil];rw[hR N]
 ·rw[e0];simp only[List.range'_zero,List.append_nil];rw[List.take_of_length_le (by omega),hU N]
 ·rw[List.drop_of_length_le (by omega)];rfl
theorem Ct.usn {S₀ S₁ R U:List Ad} {r₀:AV} {r:Nat->AV} {new:Nat->List Ad} (h:An P f args₀ S₀ r₀ S₁) (is:List Nat) (hn:is.Nodup) (hl:is.length=S₀.length) (hSl:S₀.length≤S₁.length) (hal:∀o∈S₀,o≠ .dead)
 (ha:∀n N,args₀.map (λx=>x.ren (AK (is++List.range' n (S₁.length-S₀.length)) N))=args) (hR:∀n N,S₀.map (λo=>o.ren (AK (is++List.range' n (S₁.length-S₀.length)) N))=R) (hU:∀n N,(S₁.take S₀.length).map (λo=>o.ren (AK (is++List.range' n (S₁.length-S₀.length)) N))=U)
 (hr:∀n N,r₀.ren (AK (is++List.range' n (S₁.length-S₀.length)) N)=r n) (hnew:∀n N,(S₁.drop S₀.length).map (λo=>o.ren (AK (is++List.range' n (S₁.length-S₀.length)) N))=new n):Ct P f args (is.zip R) r (is.zip U) new:=
 Ct.mk h is hn hl hSl hal ha hr (λn N=>by rw[hR n N]) (.inl λn N=>by rw[hU n N]) hnew
theorem Aa.us {is:List Nat} {R U:List Ad} {r:Nat->AV} {new:Nat->List Ad} (h:Ct P f (args.map Proofs.YtileggkdbaejoaaGreat.untag) (is.zip R) r (is.zip U) new) (hl:is.length=R.length) (hS:is.map (λi=>S[i]?)=R.map some)
 (hK:K (r S.length) is (is.zip U) (new S.length)):Aa P f args S K:=by
 have hz:(is.zip R).map (·.1)=is:=by rw[List.map_fst_zip];omega
 refine Aa.of h.untag (λp hp=>?_) (λp hp=>?_) (by rw[hz];exact hK)
 ·obtain⟨j,hj,rfl⟩:=List.getElem_of_mem hp
  simp only[List.getElem_zip]
  have hj1:j<is.length:=by simp at hj;omega
  have hj2:j<R.length:=by omega
  have:=congrArg (λl:List (Option Ad)=>l[j]?) hS
  simp only[List.getElem?_map,List.getElem?_eq_getElem hj1,List.getElem?_eq_getElem hj2,Option.map_some]at this
  injection this
 ·rw[hz];exact(List.of_mem_zip hp).1
end
abbrev chO (b prev:List Int) (m r:Nat):Ad:=.cells [A9 .u8 b,.mapr m,.sl (.row r) 1 (A2 .i64 prev)]
abbrev mpO (l:List (Int×Int)):Ad:=.raw (.imap l) []
theorem Xu (b:List Int) (hb:b.length≤1000000000000):An Tryz.prog 281 [A9 .u8 b] [] (.ref 0 0) [chO b [] 1 2,mpO [],.row 1 0]:=by
 refine RN Tryz.func281 Arx ?_;refine (mq @Ab ?_).1
 (repeat((with_reducible refine And.intro ?_ ?_);(·exact sd)))
 refine AF.wk (Wk.rowObj 2 2 1 rfl rfl (.inl rfl) (Nat.le_refl _)) ?_
 refine (mp ?_).1
 (refine AF.wao (ys:=[A9 .u8 b,.mapr 1,.sl (.row 3) 1 (A2 .i64 [])]) 2 rfl (by repeat(first|exact Wa.refl _|exact Bo.nil|exact Wa.nil|exact Wa.none|refine Bo.cons ?_ ?_|refine Wa.agg ?_|refine Wa.slN ?_|refine Wa.slS ?_|exact Bo.refl _)) ?_;simp only[List.set_cons_zero,List.set_cons_succ])
 exact FA Arx [2,1,3]
theorem Ab4 (b:List Int) (hb:b.length≤1000000000000):Ct Tryz.prog 281 [A9 .u8 b] [] (λk=>.ref k 0) [] (λk=>[chO b [] (k+1) (k+2),mpO [],.row 1 0]):=Ct.n (Xu b hb) Ci cl cl
abbrev NI (b:List Int) (n m r:Nat):List Ad:=[chO b (GB b n) m r,mpO (DI b n),.row 1 n]
theorem R2 (b:List Int) (n:Nat):An Tryz.prog 287 [.ref 0 0] (NI b n 1 2) (iA n) (NI b n 1 2):=by
 have e:=DB b n
 refine RN Tryz.func287 Aru ?_;refine (mr @Ab e ?_).1
 exact FA Aru [0,1,2]
theorem LH (b:List Int) (n:Nat) (i j k:Nat) (hn:[i,j,k].Nodup):Ct Tryz.prog 287 [.ref i 0] ([i,j,k].zip (NI b n j k)) (λ_=>iA n) ([i,j,k].zip (NI b n j k)) (λ_=>[]):=
 Ct.us (R2 b n) [i,j,k] hn rfl rfl (by simp) (λN=>by simp[AK]) (λN=>by simp[AK,AN]) (λN=>by simp[AK,AN]) (λN=>by simp)
theorem XM (b:List Int) (n:Nat) (hb:b.length≤1000000000000) (hn:n<b.length):An Tryz.prog 288 [.ref 0 0] (NI b n 1 2) (bA true) (NI b (n+1) 1 2):=by
 have ep:=DB b n
 have e1:decide ((b.length:Int)≤n)=false:=by simp;omega
 have e2:=AJ n (by omega)
 refine RM Tryz.func288 Aoo ?_
 refine Aa.us (LH b n 0 1 2 (by decide)) rfl rfl ?_
 refine (mr @Ab e1 ?_).1
 refine Aa.p (PN b n hb (by omega)) (mp ?_).1
 cases hk:LR b n with
 |false=>
  have ew:HE b n=0:=by unfold HE;rw[hk];rfl
  have el:DI b (n+1)=DI b n:=by simp[DI,hk]
  refine (mp ?_).1
  (repeat((with_reducible refine And.intro ?_ ?_);(·first|exact sd|(simp[Ab,A8,AV.parts,ep];done)|(simp[Ab,A8,AV.parts,ep];omega))))
  (refine FB Aoo [0,1,2] ?_ ?_<;>first|with_reducible rfl|(simp[Ae,Ah,Ai,Ag,el,GB,ew,ep,D9,Ab,AK];done)|rfl)
 |true=>
  have er:TC b n=KK b n:=by unfold TC;rw[hk];rfl
  have ew:HE b n=FU (DI b n) (KK b n):=by unfold HE;rw[hk];rfl
  have el:DI b (n+1)=HI (DI b n) (KK b n) (n+1):=by simp[DI,hk]
  refine (mr er e2 ?_).1
  (repeat((with_reducible refine And.intro ?_ ?_);(·first|exact sd|(simp[Ab,A8,AV.parts,ep];done)|(simp[Ab,A8,AV.parts,ep];omega))))
  (refine FB Aoo [0,1,2] ?_ ?_<;>first|with_reducible rfl|(simp[Ae,Ah,Ai,Ag,el,GB,ew,ep,D9,Ab,AK];done)|rfl)
theorem Aco (b:List Int) (n:Nat) (hb:b.length≤1000000000000) (hl:n<b.length) (i j k:Nat) (hn:[i,j,k].Nodup):Ct Tryz.prog 288 [.ref i 0] ([i,j,k].zip (NI b n j k)) (λ_=>bA true) ([i,j,k].zip (NI b (n+1) j k)) (λ_=>[]):=
 Ct.us (XM b n hb hl) [i,j,k] hn rfl rfl (by simp) (λN=>by simp[AK]) (λN=>by simp[AK,AN]) (λN=>by simp[AK,AN]) (λN=>by simp)
theorem R3 (b:List Int) (n a:Nat) (hb:b.length≤1000000000000) (h1:n≤a) (h2:a≤b.length):An Tryz.prog 282 [.ref 0 0,iA a] (NI b n 1 2) (iA ((a-n:Nat):Int)) (NI b a 1 2):=by
 refine RM Tryz.func282 Arw ?_
 refine AM (α:=Nat) (λk=>[.ref 0 0,iA a,.any,.any,.any,iA ((k-n:Nat):Int),.any,.any,.any,.any,.any,.any,.any,.any,.any,.any,.any]) (λk=>NI b k 1 2) (λk=>n≤k∧k≤a) (λk=>a-k) n (by omega) (Wk.to (by simp) (by simp[Ca])) ?_
 intro k hk
 refine (mp ?_).1
 refine Aa.us (LH b k 0 1 2 (by decide)) rfl rfl ?_
 by_cases hlt:k<a
 ·have c1:decide ((k:Int)<a)=true:=by simp;omega
  have e2:IntKind.i64.wrap (((k-n:Nat):Int)+1)=((k+1-n:Nat):Int):=by rw[IntWalk.i64_in _ (by omega)];omega
  refine (mq c1 ?_).1
  refine Aa.us (Aco b k hb (by omega) 0 1 2 (by decide)) rfl rfl ?_
  refine (mq e2 ?_).1
  exact⟨k+1,by omega,by omega,Wk.sel [0,1,2] (by simp) rfl (by simp) rfl (by simp[AK,AN]) (by simp[Cq,AT,AK])⟩
 ·obtain rfl:k=a:=by omega
  have c1:decide ((k:Int)<k)=false:=by simp
  refine (mq c1 ?_).1
  exact FA Arw [0,1,2]
theorem U6 (b:List Int) (n a:Nat) (hb:b.length≤1000000000000) (h1:n≤a) (h2:a≤b.length) (i j k:Nat) (hn:[i,j,k].Nodup):Ct Tryz.prog 282 [.ref i 0,iA a] ([i,j,k].zip (NI b n j k)) (λ_=>iA ((a-n:Nat):Int)) ([i,j,k].zip (NI b a j k)) (λ_=>[]):=
 Ct.us (R3 b n a hb h1 h2) [i,j,k] hn rfl rfl (by simp) (λN=>by simp[AK]) (λN=>by simp[AK,AN]) (λN=>by simp[AK,AN]) (λN=>by simp)
end Go.Proofs.YtileggkdbaejoaaGreat
