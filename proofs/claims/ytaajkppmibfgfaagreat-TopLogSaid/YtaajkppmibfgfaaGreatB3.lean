/- Lemmas for TopLog, part 3. -/
import Derived.Test.YtaajkppmibfgfaaGreatB2
import Derived.Test.YtaajkppmibfgfaaGreatB1
import Derived.Lib.Walk
import Derived.Lib.SliceRun
import Derived.Lib.JoinLaws
import Derived.Lib.AppendZerosOnto
import Derived.Laws.Externs
import Derived.Laws.IdiomCopy
import Derived.Laws.LoneSync
import Derived.Shelf.Spec.SlicesInsert
set_option linter.all false
set_option maxRecDepth 100000
set_option maxHeartbeats 4000000
universe u v
namespace Go.Proofs.YtaajkppmibfgfaaGreat
open Go.RowKit List IntWalk Go.Proofs.Tryz
abbrev sB (h:Hd):AV:=.agg [iA h.ver,uA h.ep,uA h.base]
abbrev Yv:ByteArray:=⟨#[84,72,79,76]⟩
def gP:A7 Br:=by unfold A7 Br;decide
theorem o9 {l:List Int} (hl:A7 l):((FJ (AU .u8 l)).toList==Yv.toList)=Ca l Br:=HG hl gP
theorem ZK:(Yv.data.toList.map λb=>AV.lit (.int .u8 b.toNat))=AU .u8 Br:=rfl
def vb9 {x:Int} (h:x<4611686018427387904):(vb x).length≤9:=by
 have h1:=oU (x:=x) (y:=4611686018427387903) Om;have h2:(vb 4611686018427387903).length=9:=by kernel_rfl
 omega
def uY :Ct prog 81 [] [] (λ_=>iA 27) [] (λ_=>[]):=by
 refine Ag.toCt ?_ cl cl
 have h2:((vb 4611686018427387903).length:Int)=9:=by have:(vb 4611686018427387903).length=9:=by kernel_rfl
                                                     omega
 have e1:IntKind.i64.wrap 18=18:=by decide
 have e2:IntKind.i64.wrap 23=23:=by decide
 have e3:IntKind.i64.wrap 27=27:=by decide
 refine RM func81 b81 ?_
 refine Aa.p (CY 4611686018427387903 Om Om) (mt h2 e1 e2 e3 ?_).1;refine (Sr ?_).1;exact FA b81 []
def Hv (v:Int):Ct prog 144 [iA v] [] (λ_=>bA (v==1)) [] (λ_=>[]):=by
 refine Ag.toCt ?_ cl cl
 refine RM func144 Adf ?_
 exact FA Adf []
def Rb (h:Hd):Ct prog 122 [sB h] [] (λ_=>bA (Bv h)) [] (λ_=>[]):=by
 refine Ag.toCt ?_ cl cl
 refine RM func122 Yg ?_
 by_cases h1:1≤h.ver
 ·have q1:decide (1≤h.ver)=true:=decide_eq_true h1;by_cases h2:h.ver≤3
  ·have q2:decide (h.ver≤3)=true:=decide_eq_true h2;have q12:decide (1≤h.ver∧h.ver≤3)=true:=decide_eq_true ⟨h1,h2⟩;refine (mr q1 q2 ?_).1;refine Aa.p (AL h.ep) ?_;cases q3:Ae h.ep
   ·have e:Bv h=false:=by unfold Bv;rw[q12,q3];rfl
    refine (mq q3 ?_).1
    exact FE Yg [] e
   ·refine (mq q3 ?_).1;refine Aa.p (I5 h.base) ?_;cases q4:Bh h.base
    ·have e:Bv h=false:=by unfold Bv;rw[q12,q3,q4];rfl
     refine (mq q4 ?_).1
     exact FE Yg [] e
    ·refine (mq q4 ?_).1;refine Aa.p (Hv h.ver) ?_;by_cases h5:h.ver=1
     ·have q5:(h.ver==1)=true:=Sx h5
      have e:Bv h=true:=by unfold Bv;rw[q12,q3,q4,decide_eq_true h5];rfl
      refine (mq q5 ?_).1
      exact FE Yg [] e
     ·have q5:(h.ver==1)=false:=Sx h5
      have e:(h.base==0)=Bv h:=by
       unfold Bv;rw[q12,q3,q4,decide_eq_false h5,Bool.eq_iff_iff];simp
      refine (mr q5 e ?_).1;exact FA Yg []
  ·have q2:decide (h.ver≤3)=false:=decide_eq_false h2;have e:Bv h=false:=by unfold Bv;rw[decide_eq_false Om];rfl
   refine (mr q1 q2 ?_).1
   exact FE Yg [] e
 ·have q1:decide (1≤h.ver)=false:=decide_eq_false h1;have e:Bv h=false:=by unfold Bv;rw[decide_eq_false Om];rfl
  refine (mq q1 ?_).1
  exact FE Yg [] e
def RP (s:WS) (hs:s.fine):Ag prog 141 [.ref 0 0,.lit (.string Yv)] [B5 1 s,AQ s] (.tup []) [B5 1 (s.put Br),AQ (s.put Br)]:=by
 refine RN func141 t7 ?_;refine (mq @ZK ?_).1
 (repeat with_reducible refine Sa ?_);refine Aa.u2 (BZ s Br 0 1 De hs.ok (hs.room _)) rfl rfl (mp ?_).1;exact FA t7 [0,1]
def Vo (s:WS) (i j:Nat) (h:i≠j) (hs:s.fine):Ct prog 141 [.ref i 0,.lit (.string Yv)] [(i,B5 j s),(j,AQ s)] (λ_=>.tup []) [(i,B5 j (s.put Br)),(j,AQ (s.put Br))] (λ_=>[]):=Ct.u2 (RP s hs) i j h cl cl cl cl cl (Bu _ _) (Bi _) Dl
def WS.epput (s:WS) (x:Int) (b:Bool):WS:=if b=true then s.put (vb x)else s.fail 3
def XQ (s:WS) (x:Int) (b:Bool) (h0:0≤x) (h1:x<18446744073709551616) (hs:s.fine):Ag prog 168 [.ref 0 0,uA x,bA b] [B5 1 s,AQ s] (.tup []) [B5 1 (s.epput x b),AQ (s.epput x b)]:=by
 refine RM func168 yN ?_
 cases b
 ·refine (mp ?_).1;refine Aa.u2 (Cq s 3 0 1 De) rfl rfl (mp ?_).1
  exact FK yN [0,1] (by simp[WS.epput])
 ·refine (mp ?_).1;refine Aa.u2 (Bm s x 0 1 De h0 h1 hs.ok (hs.room _)) rfl rfl (mp ?_).1
  exact FK yN [0,1] (by simp[WS.epput])
def P5 (s:WS) (x:Int) (b:Bool) (i j:Nat) (h:i≠j) (h0:0≤x) (h1:x<18446744073709551616) (hs:s.fine):Ct prog 168 [.ref i 0,uA x,bA b] [(i,B5 j s),(j,AQ s)] (λ_=>.tup []) [(i,B5 j (s.epput x b)),(j,AQ (s.epput x b))] (λ_=>[]):=Ct.u2 (XQ s x b h0 h1 hs) i j h cl cl cl cl cl (Bu _ _) (Bi _) Dl
def XR (s:WS) (x:Int) (h0:0≤x) (h1:x<18446744073709551616) (hs:s.fine):Ag prog 131 [.ref 0 0,uA x] [B5 1 s,AQ s] (.tup []) [B5 1 (s.epput x (Ae x)),AQ (s.epput x (Ae x))]:=by
 refine RM func131 Adm ?_
 refine Cp (AL x) ?_;refine Aa.u2 (P5 s x (Ae x) 0 1 De h0 h1 hs) rfl rfl (mp ?_).1;exact FA Adm [0,1]
def I4 (s:WS) (x:Int) (i j:Nat) (h:i≠j) (h0:0≤x) (h1:x<18446744073709551616) (hs:s.fine):Ct prog 131 [.ref i 0,uA x] [(i,B5 j s),(j,AQ s)] (λ_=>.tup []) [(i,B5 j (s.epput x (Ae x))),(j,AQ (s.epput x (Ae x)))] (λ_=>[]):=Ct.u2 (XR s x h0 h1 hs) i j h cl cl cl cl cl (Bu _ _) (Bi _) Dl
def OU (s:WS) (x:Int) (h0:0≤x) (h1:x<18446744073709551616) (hs:s.fine):Ag prog 132 [.ref 0 0,uA x] [B5 1 s,AQ s] (.tup []) [B5 1 (s.epput x (Bh x)),AQ (s.epput x (Bh x))]:=by
 refine RM func132 Adl ?_
 refine Cp (I5 x) ?_;refine Aa.u2 (P5 s x (Bh x) 0 1 De h0 h1 hs) rfl rfl (mp ?_).1;exact FA Adl [0,1]
def Kt (s:WS) (x:Int) (i j:Nat) (h:i≠j) (h0:0≤x) (h1:x<18446744073709551616) (hs:s.fine):Ct prog 132 [.ref i 0,uA x] [(i,B5 j s),(j,AQ s)] (λ_=>.tup []) [(i,B5 j (s.epput x (Bh x))),(j,AQ (s.epput x (Bh x)))] (λ_=>[]):=Ct.u2 (OU s x h0 h1 hs) i j h cl cl cl cl cl (Bu _ _) (Bi _) Dl
def F4 {h:Hd} (hr:Bv h=true):(AE h).length≤23∧(Ai h).length≤27:=by
 have⟨h1,h2,h3,h4⟩:=DA.1 hr;have a:=vb9 h2.2;have b:=vb9 h3;have c:=Et h;have d:(AE h).length≤23:=by
  unfold AE;simp only[length_append,Br,length_cons,length_nil];split
  ·omega
  ·simp only[length_nil];omega
 exact⟨d,Om⟩
def Hu (h:Hd) (hr:Bv h=true) (hb:0≤h.base):Ct prog 124 [sB h] [] (λ_=>Bj .u8 (AE h)) [] (λ_=>[]):=by
 refine Ag.toCt ?_ cl cl
 have⟨h1,h2,h3,h4⟩:=DA.1 hr;have a:=vb9 h2.2;have b:=vb9 h3;have ew:IntKind.u8.wrap h.ver=h.ver:=IntWalk.u8_in _ Om;have f0:(WS.new 27).fine:=WS.fine.new Om;have f1:=f0.put Br;have w1:(WS.new 27).put Br=⟨27,Br,0⟩:=by kernel_rfl
 rw[w1]at f1;have f2:=f1.put [h.ver];have w2:(WS.mk 27 Br 0).put [h.ver]=⟨27,Br++[h.ver],0⟩:=CO rfl (by simp[Br]);rw[w2]at f2;have f3:=f2.put (vb h.ep);have w3:(WS.mk 27 (Br++[h.ver]) 0).put (vb h.ep)=⟨27,Br++[h.ver]++vb h.ep,0⟩:=CO rfl (by simp[Br];omega);rw[w3]at f3;have w3':(WS.mk 27 (Br++[h.ver]) 0).epput h.ep (Ae h.ep)=⟨27,Br++[h.ver]++vb h.ep,0⟩:=by unfold WS.epput;rw[if_pos (BS.2 h2),w3]
 have w4:(WS.mk 27 (Br++[h.ver]++vb h.ep) 0).put (vb h.base)=⟨27,Br++[h.ver]++vb h.ep++vb h.base,0⟩:=CO rfl (by simp[Br];omega);have w4':(WS.mk 27 (Br++[h.ver]++vb h.ep) 0).epput h.base (Bh h.base)=⟨27,Br++[h.ver]++vb h.ep++vb h.base,0⟩:=by unfold WS.epput;rw[if_pos (Ew.2 h3),w4]
 have e1:AU .u8 [h.ver]=[Yr h.ver]:=rfl;have hl:=(F4 hr).1;refine RM func124 yZ ?_
 refine Cp (uY) ?_;refine Aa.n (E6 27) (mp ?_).1;refine Aa.u2 (Vo (WS.new 27) _ _ De f0) rfl rfl (mr w1 ew ?_).1;refine (Sr ?_).1;refine Aa.u2 (BZ (WS.mk 27 Br 0) [h.ver] _ _ De f1.ok (f1.room _)) rfl rfl (mq w2 ?_).1;refine Aa.u2 (I4 (WS.mk 27 (Br++[h.ver]) 0) h.ep _ _ De Om Om f2) rfl rfl (mq w3' ?_).1;refine Aa.p (Hv h.ver) ?_;by_cases hv:h.ver=1
 ·have q5:(h.ver==1)=true:=Sx hv
  have e:AE h=Br++[h.ver]++vb h.ep++vb h.base:=by unfold AE;rw[if_pos hv]
  have hbs:(WS.mk 27 (AE h) 0).bytes=AE h:=rfl;rw[←e]at w4';refine (mq q5 ?_).1;refine Aa.u2 (Kt (WS.mk 27 (Br++[h.ver]++vb h.ep) 0) h.base _ _ De hb Om f3) rfl rfl (mq w4' ?_).1;refine Aa.r2 (B0 (WS.mk 27 (AE h) 0) _ _ De (by show(AE h).length≤_;omega)) rfl rfl ?_;refine (mq hbs ?_).1;exact FA yZ []
 ·have q5:(h.ver==1)=false:=Sx hv
  have e:AE h=Br++[h.ver]++vb h.ep:=by unfold AE;rw[if_neg hv,append_nil]
  have hbs:(WS.mk 27 (AE h) 0).bytes=AE h:=rfl;rw[←e];refine (mq q5 ?_).1;refine Aa.r2 (B0 (WS.mk 27 (AE h) 0) _ _ De (by show(AE h).length≤_;omega)) rfl rfl ?_;refine (mq hbs ?_).1;exact FA yZ []
def WS.header (s:WS) (h:Hd):WS:=if Bv h=true then(s.put (AE h)).put (Aj 4 (Bq (AE h)))else s.fail 3
theorem WS.fine.header {s:WS} (hs:s.fine) (h:Hd):(s.header h).fine:=by
 unfold WS.header;split
 ·exact(hs.put _).put _
 ·exact hs.fail 3
def Xl {s:WS} {h:Hd} (hr:Bv h=true) (hc:s.code=0) (hm:(s.l.length:Int)+(Ai h).length≤s.most):s.header h=⟨s.most,s.l++Ai h,0⟩:=by
 rw[Et]at hm;have h4:=Bo 4 (Bq (AE h));unfold WS.header;rw[if_pos hr,CO hc Om,CO rfl (by simp only[length_append];omega)];simp[Ai]
def Uh (s:WS) (h:Hd) (hs:s.fine) (hb:0≤h.base):Ag prog 82 [.ref 0 0,sB h] [B5 1 s,AQ s] (.tup []) [B5 1 (s.header h),AQ (s.header h)]:=by
 refine RM func82 b82 ?_
 refine Aa.p (Rb h) ?_;by_cases hr:Bv h=true
 ·have hp:=FX hr hb;have hl:=(F4 hr).1;have hcr:=Ek hp;have e:=Hi hp;refine (mq hr ?_).1;refine Cp (Hu h hr hb) ?_;refine Aa.u2 (BZ s (AE h) 0 1 De hs.ok (hs.room _)) rfl rfl (mp ?_).1;refine Aa.p (HF (AE h) hp Om) (mq e ?_).1;refine Aa.u2 (HJ (s.put (AE h)) (Bq (AE h)) 4 0 1 De hcr.1 Om (hs.put _)) rfl rfl (mp ?_).1
  exact FK b82 [0,1] (by simp[WS.header,hr,show(min (max (4:Int) 0) 8).toNat=4 from rfl])
 ·have hr':Bv h=false:=Sx hr
  refine (mq hr' ?_).1;refine Aa.u2 (Cq s 3 0 1 De) rfl rfl (mp ?_).1
  exact FK b82 [0,1] (by simp[WS.header,hr'])
def Xo (s:WS) (d:Hd) (i j:Nat) (h:i≠j) (hs:s.fine) (hb:0≤d.base):Ct prog 82 [.ref i 0,sB d] [(i,B5 j s),(j,AQ s)] (λ_=>.tup []) [(i,B5 j (s.header d)),(j,AQ (s.header d))] (λ_=>[]):=Ct.u2 (Uh s d hs hb) i j h cl cl cl cl cl (Bu _ _) (Bi _) Dl
def N0 (h:Hd):List Int:=if Bv h=true then Ai h else[]
def sK (h:Hd):Int:=if Bv h=true then 0 else 3
def WC (h:Hd) {n:Int} (hn:27≤n):(WS.new n).header h=⟨n,N0 h,sK h⟩∧((WS.new n).header h).bytes=N0 h:=by
 by_cases hr:Bv h=true
 ·have hl:=(F4 hr).2;have e:=Xl (s:=WS.new n) hr rfl (by rw[WS.new_is Om];simp;omega);rw[e,WS.new_is Om];unfold N0 sK;rw[if_pos hr,if_pos hr];exact⟨Si,by simp[WS.bytes]⟩
 ·unfold WS.header N0 sK;rw[if_neg hr,if_neg hr,if_neg hr,WS.new_is Om];exact⟨rfl,rfl⟩
def Qc (s:RS) (h0:0≤s.at_):s.byte=((s.take 1).1,(s.take 1).2.getD 0 0):=by
 unfold RS.byte RS.take;split
 ·simp[getD_eq_getElem?_getD,getElem?_take,getElem?_drop]
 ·rfl
def rN (s:RS):s.lets=if Ca (s.take 4).2 Br=true then(s.take 4).1 else(s.take 4).1.fail 14 s.at_:=by
 unfold RS.lets Ca;by_cases h:(s.take 4).2=Br
 ·rw[if_neg (by rintro⟨_,h'⟩;exact h' h),if_pos (by simpa using h)]
 ·rw[if_neg (c:=decide ((s.take 4).2=Br)=true) (by simpa using h)];by_cases hc:(s.take 4).1.code=0
  ·rw[if_pos ⟨hc,h⟩]
  ·rw[if_neg (by rintro⟨h',_⟩;exact hc h'),Iy hc]
theorem OI (s:RS) (hs:An s):Ag prog 142 [.ref 0 0] [A1 s] (iA s.hbegin.2) [A1 (s.hbegin.1)]:=by
 have⟨hk,hkl⟩:=IW hs;have hTb:=Fe hs.bys 4;have hl:=rN s;have hbt:=Qc s.lets hk.at0;have hvr:=Zf hk.ok hk.bys;have hv2:s.hbegin=if(s.lets.take 1).1.code=0 then(if 1≤(s.lets.take 1).2.getD 0 0∧(s.lets.take 1).2.getD 0 0≤3 then((s.lets.take 1).1,(s.lets.take 1).2.getD 0 0)else((s.lets.take 1).1.fail 8 s.lets.at_,0))else((s.lets.take 1).1,0):=rfl
 have hv0:¬(s.lets.take 1).1.code=0->(s.lets.take 1).2.getD 0 0=0:=λh=>by rw[Mw h];rfl
 have hat:(s.lets.take 1).1.code=0->IntKind.i64.wrap ((s.lets.take 1).1.at_-1)=s.lets.at_:=λh=>by
  have h4:=(Bn hk h).2.2.2.1;have h0:=hk.at0;have h1:=hk.at1;have h2:=hk.len;rw[h4,i64_in _ Om];omega
 rw[hbt]at hvr;have⟨t,ht⟩:=Ex ((s.lets.take 1).1);have⟨v,hv⟩:=Ex ((s.lets.take 1).2.getD 0 0);rw[ht,hv]at hbt;rw[ht,hv]at hv2;rw[ht,hv]at hv0;rw[ht]at hat;simp only[hv]at hvr;have ev:IntKind.i64.wrap v=v:=i64_in _ Om;refine RM func142 RH ?_
 refine Cr (AP s 0) rfl ?_;refine Aa.u1 (DH s 4 0 hs.ok) rfl (mr @L9 (o9 hTb) ?_).1;by_cases hT:Ca (s.take 4).2 Br=true
 ·rw[if_pos hT]at hl;rw[←hl];refine (mq hT ?_).1;refine Aa.u1 (C1 s.lets 0 hk.ok) rfl ?_;simp only[go_sem,seval,hbt,ev];refine (AZ ?_).1;by_cases hc:t.code=0
  ·rw[if_pos hc]at hv2;by_cases h1:1≤v
   ·have q1:decide (v<1)=false:=decide_eq_false Om;by_cases h3:v≤3
    ·have q3:decide (3<v)=false:=decide_eq_false Om;rw[if_pos ⟨h1,h3⟩]at hv2;refine (mr q1 q3 ?_).1;refine Aa.r1 (Ah t 0) rfl (mq (A5 hc) ?_).1
     exact FE RH [0] hv2
    ·have q3:decide (3<v)=true:=decide_eq_true Om;rw[if_neg Om]at hv2;refine (mr q1 q3 ?_).1;refine Aa.r1 (AP t 0) rfl (mq (hat hc) ?_).1;refine Cu (Ar t 8 s.lets.at_ 0) rfl ?_;refine Aa.r1 (Ah (t.fail 8 s.lets.at_) 0) rfl (mq (AB (BR 8 s.lets.at_ hc De)) ?_).1
     exact FE RH [0] hv2
   ·have q1:decide (v<1)=true:=decide_eq_true Om;rw[if_neg Om]at hv2;refine (mq q1 ?_).1;refine Aa.r1 (AP t 0) rfl (mq (hat hc) ?_).1;refine Cu (Ar t 8 s.lets.at_ 0) rfl ?_;refine Aa.r1 (Ah (t.fail 8 s.lets.at_) 0) rfl (mq (AB (BR 8 s.lets.at_ hc De)) ?_).1
    exact FE RH [0] hv2
  ·rw[if_neg hc]at hv2;have q0:=hv0 hc;have q1:decide (v<1)=true:=decide_eq_true Om;refine (mq q1 ?_).1;refine Cr (AP t 0) rfl ?_;refine Aa.u1 (Ar t 8 _ 0) rfl (mq (Iy hc) ?_).1;refine Aa.r1 (Ah t 0) rfl (mq (AB hc) ?_).1
   exact FE RH [0] hv2
 ·have hT':Ca (s.take 4).2 Br=false:=Sx hT
  rw[if_neg hT]at hl;refine (mq hT' ?_).1;refine Aa.u1 (Ar (s.take 4).1 14 s.at_ 0) rfl ?_;simp only[go_sem,seval,←hl];refine (AZ ?_).1;refine Aa.u1 (C1 s.lets 0 hk.ok) rfl ?_;simp only[go_sem,seval,hbt,ev];refine (AZ ?_).1;by_cases hc:t.code=0
  ·rw[if_pos hc]at hv2;by_cases h1:1≤v
   ·have q1:decide (v<1)=false:=decide_eq_false Om;by_cases h3:v≤3
    ·have q3:decide (3<v)=false:=decide_eq_false Om;rw[if_pos ⟨h1,h3⟩]at hv2;refine (mr q1 q3 ?_).1;refine Aa.r1 (Ah t 0) rfl (mq (A5 hc) ?_).1
     exact FE RH [0] hv2
    ·have q3:decide (3<v)=true:=decide_eq_true Om;rw[if_neg Om]at hv2;refine (mr q1 q3 ?_).1;refine Aa.r1 (AP t 0) rfl (mq (hat hc) ?_).1;refine Cu (Ar t 8 s.lets.at_ 0) rfl ?_;refine Aa.r1 (Ah (t.fail 8 s.lets.at_) 0) rfl (mq (AB (BR 8 s.lets.at_ hc De)) ?_).1
     exact FE RH [0] hv2
   ·have q1:decide (v<1)=true:=decide_eq_true Om;rw[if_neg Om]at hv2;refine (mq q1 ?_).1;refine Aa.r1 (AP t 0) rfl (mq (hat hc) ?_).1;refine Cu (Ar t 8 s.lets.at_ 0) rfl ?_;refine Aa.r1 (Ah (t.fail 8 s.lets.at_) 0) rfl (mq (AB (BR 8 s.lets.at_ hc De)) ?_).1
    exact FE RH [0] hv2
  ·rw[if_neg hc]at hv2;have q0:=hv0 hc;have q1:decide (v<1)=true:=decide_eq_true Om;refine (mq q1 ?_).1;refine Cr (AP t 0) rfl ?_;refine Aa.u1 (Ar t 8 _ 0) rfl (mq (Iy hc) ?_).1;refine Aa.r1 (Ah t 0) rfl (mq (AB hc) ?_).1
   exact FE RH [0] hv2
def Ra (s:RS) (i:Nat) (hs:An s):Ct prog 142 [.ref i 0] [(i,A1 s)] (λ_=>iA s.hbegin.2) [(i,A1 (s.hbegin.1))] (λ_=>[]):=Ct.u1 (OI s hs) i cl (λρ=>AG ρ _) (λρ=>AG ρ _) (rdr_dead _) cl
theorem Rd (s:RS) (hs:An s):Ag prog 93 [.ref 0 0] [A1 s] (sB s.header.2) [A1 (s.header.1)]:=by
 have⟨ka,_⟩:=Lq hs;have⟨kb,_⟩:=Bz ka Ae;have⟨kc,kl⟩:=Gn hs;have e0:s.hplain=(((s.hbegin.1.epo Ae).1.hbase s.hbegin.2).1,⟨s.hbegin.2,(s.hbegin.1.epo Ae).2,((s.hbegin.1.epo Ae).1.hbase s.hbegin.2).2⟩):=rfl;have hgood:(s.hplain.1.fixed 4).1.code=0->Bv s.hplain.2=true∧0≤s.hplain.2.base∧s.from s.hplain.1=AE s.hplain.2:=λh=>by
  have⟨t1,t2,t3,t4,t5⟩:=Bn kc (n:=4) h;have⟨p1,p2,p3,p4,p5⟩:=PQ hs t1;exact⟨p2,p3,PU hs.at0 Om p5 hs.at1⟩
 have e:s.header=if(s.hplain.1.fixed 4).1.code=0 then(if(s.hplain.1.fixed 4).2=Bq (s.from s.hplain.1)then((s.hplain.1.fixed 4).1,s.hplain.2)else((s.hplain.1.fixed 4).1.fail 6 s.hplain.1.at_,Nz))else((s.hplain.1.fixed 4).1,Nz):=rfl
 have⟨A,hA⟩:=Ex s.hbegin;rw[hA]at e0 ka kb;have⟨B,hB⟩:=Ex (A.1.epo Ae);rw[hB]at e0 kb;refine RM func93 xZ ?_
 refine Aa.u1 (Ra s 0 hs) rfl (mq hA ?_).1;refine Aa.u1 (HD A.1 0 ka) rfl (mq hB ?_).1;refine Aa.p (Hv A.2) ?_;by_cases hv:A.2=1
 ·have qv:(A.2==1)=true:=Sx hv
  have⟨C,hC⟩:=Ex (B.1.epo Bh);have hC':B.1.hbase A.2=C:=by unfold RS.hbase;rw[if_pos hv,hC]
  rw[hC']at e0;rw[e0]at kc;rw[e0]at hgood;rw[e0]at e;simp only at kc hgood e;have⟨F,hF⟩:=Ex (C.1.fixed 4);have hF':C.1.fixed (min (max 4 0) 8)=F:=hF;rw[hF]at hgood;rw[hF]at e;refine (mq qv ?_).1;refine Aa.u1 (Jk B.1 0 kb) rfl (mq hC ?_).1;refine Cr (AP C.1 0) rfl ?_;refine Aa.u1 (DF C.1 4 0 kc) rfl (mq hF' ?_).1;by_cases hc:F.1.code=0
  ·have⟨hr,hb,hfr⟩:=hgood hc;rw[if_pos hc,hfr]at e;have hp:=FX hr hb;have hpl:=(F4 hr).1;have eb:=Hi hp;refine Aa.r1 (Ah F.1 0) rfl (mq (A5 hc) ?_).1;refine Cp (Hu ⟨A.2,B.2,C.2⟩ hr hb) ?_;refine Aa.p (HF (AE ⟨A.2,B.2,C.2⟩) hp Om) (mq eb ?_).1;by_cases hx:F.2=Bq (AE ⟨A.2,B.2,C.2⟩)
   ·have q2:(F.2 != Bq (AE ⟨A.2,B.2,C.2⟩))=false:=Sx hx
    rw[if_pos hx]at e;refine (mq q2 ?_).1
    exact FE xZ [0] e
   ·have q2:(F.2 != Bq (AE ⟨A.2,B.2,C.2⟩))=true:=Sx hx
    rw[if_neg hx]at e;refine (mq q2 ?_).1;refine Cu (Ar F.1 6 C.1.at_ 0) rfl ?_
    exact FK xZ [0] (by simp[e,Nz])
  ·rw[if_neg hc]at e;refine Aa.r1 (Ah F.1 0) rfl (mq (AB hc) ?_).1
   exact FK xZ [0] (by simp[e,Nz])
 ·have qv:(A.2==1)=false:=Sx hv
  have hC':B.1.hbase A.2=(B.1,0):=by unfold RS.hbase;rw[if_neg hv]
  rw[hC']at e0;rw[e0]at kc;rw[e0]at hgood;rw[e0]at e;simp only at kc hgood e;have⟨F,hF⟩:=Ex (B.1.fixed 4);have hF':B.1.fixed (min (max 4 0) 8)=F:=hF;rw[hF]at hgood;rw[hF]at e;refine (mq qv ?_).1;refine Cr (AP B.1 0) rfl ?_;refine Aa.u1 (DF B.1 4 0 kc) rfl (mq hF' ?_).1;by_cases hc:F.1.code=0
  ·have⟨hr,hb,hfr⟩:=hgood hc;rw[if_pos hc,hfr]at e;have hp:=FX hr hb;have hpl:=(F4 hr).1;have eb:=Hi hp;refine Aa.r1 (Ah F.1 0) rfl (mq (A5 hc) ?_).1;refine Cp (Hu ⟨A.2,B.2,0⟩ hr hb) ?_;refine Aa.p (HF (AE ⟨A.2,B.2,0⟩) hp Om) (mq eb ?_).1;by_cases hx:F.2=Bq (AE ⟨A.2,B.2,0⟩)
   ·have q2:(F.2 != Bq (AE ⟨A.2,B.2,0⟩))=false:=Sx hx
    rw[if_pos hx]at e;refine (mq q2 ?_).1
    exact FE xZ [0] e
   ·have q2:(F.2 != Bq (AE ⟨A.2,B.2,0⟩))=true:=Sx hx
    rw[if_neg hx]at e;refine (mq q2 ?_).1;refine Cu (Ar F.1 6 B.1.at_ 0) rfl ?_
    exact FK xZ [0] (by simp[e,Nz])
  ·rw[if_neg hc]at e;refine Aa.r1 (Ah F.1 0) rfl (mq (AB hc) ?_).1
   exact FK xZ [0] (by simp[e,Nz])
def Ug (s:RS) (i:Nat) (hs:An s):Ct prog 93 [.ref i 0] [(i,A1 s)] (λ_=>sB s.header.2) [(i,A1 (s.header.1))] (λ_=>[]):=Ct.u1 (Rd s hs) i cl (λρ=>AG ρ _) (λρ=>AG ρ _) (rdr_dead _) cl
def cV (b:List Int):Hd×Int×(Int×Int):=if(RS.new b).header.1.code=0 then((RS.new b).header.2,(RS.new b).header.1.at_,(0,0))else(Nz,0,((RS.new b).header.1.code,(RS.new b).header.1.fat))
def Xp (b:List Int) (hb:A7 b) (hn:b.length≤140737488355328):Ct prog 55 [Bj .u8 b] [] (λ_=>.tup [sB (cV b).1,iA (cV b).2.1,Fk (cV b).2.2]) [] (λ_=>[]):=by
 refine Ag.toCt ?_ cl cl
 have hok:An (RS.new b):=An.new hb hn;have hgood:=λhc=>cS hok hc
 have hbad:=λhc=>Xn (s:=RS.new b) hc
 have⟨F,hF⟩:=Ex ((RS.new b).header);have e:cV b=if F.1.code=0 then(F.2,F.1.at_,(0,0))else(Nz,0,(F.1.code,F.1.fat)):=by unfold cV;rw[hF]
 rw[hF]at hgood hbad;refine RM func55 b55 ?_
 refine Aa.n (C9 b) (mp ?_).1;refine Aa.u1 (Ug (RS.new b) _ hok) rfl (mq hF ?_).1;by_cases hc:F.1.code=0
 ·have h1:=(DA.1 (hgood hc).2.1).1;have q:(F.2.ver==0)=false:=by simp;omega
  rw[if_pos hc]at e;refine (mr q @Bool.false_and ?_).1;refine Cr (AP F.1 _) rfl ?_
  exact FE b55 [] e
 ·have hz:=hbad hc;have z1:F.2.ver=0:=by rw[hz];rfl
  have z2:F.2.ep=0:=by rw[hz];rfl
  have z3:F.2.base=0:=by rw[hz];rfl
  rw[if_neg hc]at e;refine (ms z1 z2 z3 ?_).1;refine Cr (Bp F.1 _) rfl ?_
  exact FK b55 [] (by simp[e,Nz])
abbrev oM (f:Ft):AV:=.agg [uA f.ep,iA f.bat,iA f.ent,uA f.fst,uA f.fin,iA f.at_,iA f.size]
def Rh (f:Ft) (s0:0≤f.fst) (s1:f.fst<18446744073709551616) (n0:0≤f.fin) (n1:f.fin<18446744073709551616) (e0:0≤f.ent) (e1:f.ent<9223372036854775808):Ct prog 173 [oM f] [] (λ_=>bA (Dx f)) [] (λ_=>[]):=by
 refine Ag.toCt ?_ cl cl
 refine RM func173 fF ?_
 by_cases hb:f.bat=0
 ·have qb:(f.bat==0)=true:=Sx hb
  by_cases h1:f.fst=0
  ·have q1:(f.fst==0)=true:=Sx h1
   have e:(f.fin==0)=Dx f:=by unfold Dx;rw[if_pos hb,Bool.eq_iff_iff];simp[h1]
   refine (ms qb q1 e ?_).1;exact FA fF []
  ·have q1:(f.fst==0)=false:=Sx h1
   have e:Dx f=false:=by unfold Dx;rw[if_pos hb];simp[h1]
   refine (mr qb q1 ?_).1
   exact FE fF [] e
 ·have qb:(f.bat==0)=false:=Sx hb
  by_cases h1:f.fst<f.fin
  ·have q1:decide (f.fst<f.fin)=true:=decide_eq_true h1;by_cases h2:f.fin≤4611686018427387904
   ·have q2:decide (f.fin≤4611686018427387904)=true:=decide_eq_true h2;have w1:IntKind.u64.wrap (f.fin-f.fst)=f.fin-f.fst:=u64_in _ Om;have w2:IntKind.u64.wrap f.ent=f.ent:=u64_in _ Om;have e:decide (f.ent≤f.fin-f.fst)=Dx f:=by unfold Dx;rw[if_neg hb,decide_eq_decide];omega
    simp only[go_sem,seval,qb,q1,q2,w1,w2,e];refine (AZ ?_).1;exact FA fF []
   ·have q2:decide (f.fin≤4611686018427387904)=false:=decide_eq_false h2;have e:Dx f=false:=by unfold Dx;rw[if_neg hb];exact decide_eq_false Om
    refine (ms qb q1 q2 ?_).1
    exact FE fF [] e
  ·have q1:decide (f.fst<f.fin)=false:=decide_eq_false h1;have e:Dx f=false:=by unfold Dx;rw[if_neg hb];exact decide_eq_false Om
   refine (mr qb q1 ?_).1
   exact FE fF [] e
def GO {f:Ft} (h:¬(0≤f.bat∧f.bat≤16∧f.bat≤f.ent∧f.ent≤16*f.bat)):Aw f=false:=by
 unfold Aw;rw[decide_eq_false h];simp
def qA {f:Ft} (h:¬(1≤f.at_∧f.at_≤1099511627775∧1≤f.size∧f.size≤2097152)):Aw f=false:=by
 unfold Aw;rw[decide_eq_false h];simp
def Fu {f:Ft} (h:Ae f.ep=false):Aw f=false:=by
 unfold Aw;rw[h];simp
def Aa3 {f:Ft} (h:Ae f.ep=true) (ha:0≤f.bat∧f.bat≤16∧f.bat≤f.ent∧f.ent≤16*f.bat) (hb:1≤f.at_∧f.at_≤1099511627775∧1≤f.size∧f.size≤2097152):Aw f=Dx f:=by
 unfold Aw;rw[h,decide_eq_true ha,decide_eq_true hb];simp
def Hx (f:Ft) (s0:0≤f.fst) (s1:f.fst<18446744073709551616) (n0:0≤f.fin) (n1:f.fin<18446744073709551616):Ct prog 139 [oM f] [] (λ_=>bA (Aw f)) [] (λ_=>[]):=by
 refine Ag.toCt ?_ cl cl
 refine RM func139 Cg ?_
 by_cases a0:0≤f.bat
 ·have qa0:decide (0≤f.bat)=true:=decide_eq_true a0;by_cases a1:f.bat≤16
  ·have qa1:decide (f.bat≤16)=true:=decide_eq_true a1;by_cases a2:f.bat≤f.ent
   ·have qa2:decide (f.bat≤f.ent)=true:=decide_eq_true a2;have w16:IntKind.i64.wrap (f.bat*16)=16*f.bat:=by rw[i64_in _ Om];omega
    by_cases a3:f.ent≤16*f.bat
    ·have qa3:decide (f.ent≤16*f.bat)=true:=decide_eq_true a3;by_cases b0:1≤f.at_
     ·have qb0:decide (1≤f.at_)=true:=decide_eq_true b0;by_cases b1:f.at_≤1099511627775
      ·have qb1:decide (f.at_≤1099511627775)=true:=decide_eq_true b1;by_cases b2:1≤f.size
       ·have qb2:decide (1≤f.size)=true:=decide_eq_true b2;by_cases b3:f.size≤2097152
        ·have qb3:decide (f.size≤2097152)=true:=decide_eq_true b3;simp only[go_sem,seval,qa0,qa1,qa2,w16,qa3,qb0,qb1,qb2,qb3];refine (AZ ?_).1;refine Aa.p (AL f.ep) ?_;cases q3:Ae f.ep
         ·have e:Aw f=false:=Fu q3;refine (mq q3 ?_).1
          exact FE Cg [] e
         ·have e:Aw f=Dx f:=Aa3 q3 ⟨a0,a1,a2,a3⟩ ⟨b0,b1,b2,b3⟩;refine (mq q3 ?_).1;refine Aa.p (Rh f s0 s1 n0 n1 Om Om) ?_;rw[←e];refine (mp ?_).1;exact FA Cg []
        ·have qb3:decide (f.size≤2097152)=false:=decide_eq_false b3;simp only[go_sem,seval,qa0,qa1,qa2,w16,qa3,qb0,qb1,qb2,qb3];refine (AZ ?_).1;refine Aa.p (AL f.ep) ?_;cases q3:Ae f.ep
         ·have e:Aw f=false:=Fu q3;refine (mq q3 ?_).1
          exact FE Cg [] e
         ·have e:Aw f=false:=qA Om;refine (mq q3 ?_).1
          exact FE Cg [] e
       ·have qb2:decide (1≤f.size)=false:=decide_eq_false b2;simp only[go_sem,seval,qa0,qa1,qa2,w16,qa3,qb0,qb1,qb2];refine (AZ ?_).1;refine Aa.p (AL f.ep) ?_;cases q3:Ae f.ep
        ·have e:Aw f=false:=Fu q3;refine (mq q3 ?_).1
         exact FE Cg [] e
        ·have e:Aw f=false:=qA Om;refine (mq q3 ?_).1
         exact FE Cg [] e
      ·have qb1:decide (f.at_≤1099511627775)=false:=decide_eq_false b1;simp only[go_sem,seval,qa0,qa1,qa2,w16,qa3,qb0,qb1];refine (AZ ?_).1;refine Aa.p (AL f.ep) ?_;cases q3:Ae f.ep
       ·have e:Aw f=false:=Fu q3;refine (mq q3 ?_).1
        exact FE Cg [] e
       ·have e:Aw f=false:=qA Om;refine (mq q3 ?_).1
        exact FE Cg [] e
     ·have qb0:decide (1≤f.at_)=false:=decide_eq_false b0;simp only[go_sem,seval,qa0,qa1,qa2,w16,qa3,qb0];refine (AZ ?_).1;refine Aa.p (AL f.ep) ?_;cases q3:Ae f.ep
      ·have e:Aw f=false:=Fu q3;refine (mq q3 ?_).1
       exact FE Cg [] e
      ·have e:Aw f=false:=qA Om;refine (mq q3 ?_).1
       exact FE Cg [] e
    ·have qa3:decide (f.ent≤16*f.bat)=false:=decide_eq_false a3;by_cases b0:1≤f.at_
     ·have qb0:decide (1≤f.at_)=true:=decide_eq_true b0;by_cases b1:f.at_≤1099511627775
      ·have qb1:decide (f.at_≤1099511627775)=true:=decide_eq_true b1;by_cases b2:1≤f.size
       ·have qb2:decide (1≤f.size)=true:=decide_eq_true b2;by_cases b3:f.size≤2097152
        ·have qb3:decide (f.size≤2097152)=true:=decide_eq_true b3;simp only[go_sem,seval,qa0,qa1,qa2,w16,qa3,qb0,qb1,qb2,qb3];refine (AZ ?_).1;refine Aa.p (AL f.ep) ?_;cases q3:Ae f.ep
         ·have e:Aw f=false:=Fu q3;refine (mq q3 ?_).1
          exact FE Cg [] e
         ·have e:Aw f=false:=GO Om;refine (mq q3 ?_).1
          exact FE Cg [] e
        ·have qb3:decide (f.size≤2097152)=false:=decide_eq_false b3;simp only[go_sem,seval,qa0,qa1,qa2,w16,qa3,qb0,qb1,qb2,qb3];refine (AZ ?_).1;refine Aa.p (AL f.ep) ?_;cases q3:Ae f.ep
         ·have e:Aw f=false:=Fu q3;refine (mq q3 ?_).1
          exact FE Cg [] e
         ·have e:Aw f=false:=GO Om;refine (mq q3 ?_).1
          exact FE Cg [] e
       ·have qb2:decide (1≤f.size)=false:=decide_eq_false b2;simp only[go_sem,seval,qa0,qa1,qa2,w16,qa3,qb0,qb1,qb2];refine (AZ ?_).1;refine Aa.p (AL f.ep) ?_;cases q3:Ae f.ep
        ·have e:Aw f=false:=Fu q3;refine (mq q3 ?_).1
         exact FE Cg [] e
        ·have e:Aw f=false:=GO Om;refine (mq q3 ?_).1
         exact FE Cg [] e
      ·have qb1:decide (f.at_≤1099511627775)=false:=decide_eq_false b1;simp only[go_sem,seval,qa0,qa1,qa2,w16,qa3,qb0,qb1];refine (AZ ?_).1;refine Aa.p (AL f.ep) ?_;cases q3:Ae f.ep
       ·have e:Aw f=false:=Fu q3;refine (mq q3 ?_).1
        exact FE Cg [] e
       ·have e:Aw f=false:=GO Om;refine (mq q3 ?_).1
        exact FE Cg [] e
     ·have qb0:decide (1≤f.at_)=false:=decide_eq_false b0;simp only[go_sem,seval,qa0,qa1,qa2,w16,qa3,qb0];refine (AZ ?_).1;refine Aa.p (AL f.ep) ?_;cases q3:Ae f.ep
      ·have e:Aw f=false:=Fu q3;refine (mq q3 ?_).1
       exact FE Cg [] e
      ·have e:Aw f=false:=GO Om;refine (mq q3 ?_).1
       exact FE Cg [] e
   ·have qa2:decide (f.bat≤f.ent)=false:=decide_eq_false a2;by_cases b0:1≤f.at_
    ·have qb0:decide (1≤f.at_)=true:=decide_eq_true b0;by_cases b1:f.at_≤1099511627775
     ·have qb1:decide (f.at_≤1099511627775)=true:=decide_eq_true b1;by_cases b2:1≤f.size
      ·have qb2:decide (1≤f.size)=true:=decide_eq_true b2;by_cases b3:f.size≤2097152
       ·have qb3:decide (f.size≤2097152)=true:=decide_eq_true b3;simp only[go_sem,seval,qa0,qa1,qa2,qb0,qb1,qb2,qb3];refine (AZ ?_).1;refine Aa.p (AL f.ep) ?_;cases q3:Ae f.ep
        ·have e:Aw f=false:=Fu q3;refine (mq q3 ?_).1
         exact FE Cg [] e
        ·have e:Aw f=false:=GO Om;refine (mq q3 ?_).1
         exact FE Cg [] e
       ·have qb3:decide (f.size≤2097152)=false:=decide_eq_false b3;simp only[go_sem,seval,qa0,qa1,qa2,qb0,qb1,qb2,qb3];refine (AZ ?_).1;refine Aa.p (AL f.ep) ?_;cases q3:Ae f.ep
        ·have e:Aw f=false:=Fu q3;refine (mq q3 ?_).1
         exact FE Cg [] e
        ·have e:Aw f=false:=GO Om;refine (mq q3 ?_).1
         exact FE Cg [] e
      ·have qb2:decide (1≤f.size)=false:=decide_eq_false b2;simp only[go_sem,seval,qa0,qa1,qa2,qb0,qb1,qb2];refine (AZ ?_).1;refine Aa.p (AL f.ep) ?_;cases q3:Ae f.ep
       ·have e:Aw f=false:=Fu q3;refine (mq q3 ?_).1
        exact FE Cg [] e
       ·have e:Aw f=false:=GO Om;refine (mq q3 ?_).1
        exact FE Cg [] e
     ·have qb1:decide (f.at_≤1099511627775)=false:=decide_eq_false b1;simp only[go_sem,seval,qa0,qa1,qa2,qb0,qb1];refine (AZ ?_).1;refine Aa.p (AL f.ep) ?_;cases q3:Ae f.ep
      ·have e:Aw f=false:=Fu q3;refine (mq q3 ?_).1
       exact FE Cg [] e
      ·have e:Aw f=false:=GO Om;refine (mq q3 ?_).1
       exact FE Cg [] e
    ·have qb0:decide (1≤f.at_)=false:=decide_eq_false b0;refine (mt qa0 qa1 qa2 qb0 ?_).1;refine Aa.p (AL f.ep) ?_;cases q3:Ae f.ep
     ·have e:Aw f=false:=Fu q3;refine (mq q3 ?_).1
      exact FE Cg [] e
     ·have e:Aw f=false:=GO Om;refine (mq q3 ?_).1
      exact FE Cg [] e
  ·have qa1:decide (f.bat≤16)=false:=decide_eq_false a1;by_cases b0:1≤f.at_
   ·have qb0:decide (1≤f.at_)=true:=decide_eq_true b0;by_cases b1:f.at_≤1099511627775
    ·have qb1:decide (f.at_≤1099511627775)=true:=decide_eq_true b1;by_cases b2:1≤f.size
     ·have qb2:decide (1≤f.size)=true:=decide_eq_true b2;by_cases b3:f.size≤2097152
      ·have qb3:decide (f.size≤2097152)=true:=decide_eq_true b3;simp only[go_sem,seval,qa0,qa1,qb0,qb1,qb2,qb3];refine (AZ ?_).1;refine Aa.p (AL f.ep) ?_;cases q3:Ae f.ep
       ·have e:Aw f=false:=Fu q3;refine (mq q3 ?_).1
        exact FE Cg [] e
       ·have e:Aw f=false:=GO Om;refine (mq q3 ?_).1
        exact FE Cg [] e
      ·have qb3:decide (f.size≤2097152)=false:=decide_eq_false b3;simp only[go_sem,seval,qa0,qa1,qb0,qb1,qb2,qb3];refine (AZ ?_).1;refine Aa.p (AL f.ep) ?_;cases q3:Ae f.ep
       ·have e:Aw f=false:=Fu q3;refine (mq q3 ?_).1
        exact FE Cg [] e
       ·have e:Aw f=false:=GO Om;refine (mq q3 ?_).1
        exact FE Cg [] e
     ·have qb2:decide (1≤f.size)=false:=decide_eq_false b2;simp only[go_sem,seval,qa0,qa1,qb0,qb1,qb2];refine (AZ ?_).1;refine Aa.p (AL f.ep) ?_;cases q3:Ae f.ep
      ·have e:Aw f=false:=Fu q3;refine (mq q3 ?_).1
       exact FE Cg [] e
      ·have e:Aw f=false:=GO Om;refine (mq q3 ?_).1
       exact FE Cg [] e
    ·have qb1:decide (f.at_≤1099511627775)=false:=decide_eq_false b1;refine (mt qa0 qa1 qb0 qb1 ?_).1;refine Aa.p (AL f.ep) ?_;cases q3:Ae f.ep
     ·have e:Aw f=false:=Fu q3;refine (mq q3 ?_).1
      exact FE Cg [] e
     ·have e:Aw f=false:=GO Om;refine (mq q3 ?_).1
      exact FE Cg [] e
   ·have qb0:decide (1≤f.at_)=false:=decide_eq_false b0;refine (ms qa0 qa1 qb0 ?_).1;refine Aa.p (AL f.ep) ?_;cases q3:Ae f.ep
    ·have e:Aw f=false:=Fu q3;refine (mq q3 ?_).1
     exact FE Cg [] e
    ·have e:Aw f=false:=GO Om;refine (mq q3 ?_).1
     exact FE Cg [] e
 ·have qa0:decide (0≤f.bat)=false:=decide_eq_false a0;by_cases b0:1≤f.at_
  ·have qb0:decide (1≤f.at_)=true:=decide_eq_true b0;by_cases b1:f.at_≤1099511627775
   ·have qb1:decide (f.at_≤1099511627775)=true:=decide_eq_true b1;by_cases b2:1≤f.size
    ·have qb2:decide (1≤f.size)=true:=decide_eq_true b2;by_cases b3:f.size≤2097152
     ·have qb3:decide (f.size≤2097152)=true:=decide_eq_true b3;simp only[go_sem,seval,qa0,qb0,qb1,qb2,qb3];refine (AZ ?_).1;refine Aa.p (AL f.ep) ?_;cases q3:Ae f.ep
      ·have e:Aw f=false:=Fu q3;refine (mq q3 ?_).1
       exact FE Cg [] e
      ·have e:Aw f=false:=GO Om;refine (mq q3 ?_).1
       exact FE Cg [] e
     ·have qb3:decide (f.size≤2097152)=false:=decide_eq_false b3;simp only[go_sem,seval,qa0,qb0,qb1,qb2,qb3];refine (AZ ?_).1;refine Aa.p (AL f.ep) ?_;cases q3:Ae f.ep
      ·have e:Aw f=false:=Fu q3;refine (mq q3 ?_).1
       exact FE Cg [] e
      ·have e:Aw f=false:=GO Om;refine (mq q3 ?_).1
       exact FE Cg [] e
    ·have qb2:decide (1≤f.size)=false:=decide_eq_false b2;refine (mt qa0 qb0 qb1 qb2 ?_).1;refine Aa.p (AL f.ep) ?_;cases q3:Ae f.ep
     ·have e:Aw f=false:=Fu q3;refine (mq q3 ?_).1
      exact FE Cg [] e
     ·have e:Aw f=false:=GO Om;refine (mq q3 ?_).1
      exact FE Cg [] e
   ·have qb1:decide (f.at_≤1099511627775)=false:=decide_eq_false b1;refine (ms qa0 qb0 qb1 ?_).1;refine Aa.p (AL f.ep) ?_;cases q3:Ae f.ep
    ·have e:Aw f=false:=Fu q3;refine (mq q3 ?_).1
     exact FE Cg [] e
    ·have e:Aw f=false:=GO Om;refine (mq q3 ?_).1
     exact FE Cg [] e
  ·have qb0:decide (1≤f.at_)=false:=decide_eq_false b0;refine (mr qa0 qb0 ?_).1;refine Aa.p (AL f.ep) ?_;cases q3:Ae f.ep
   ·have e:Aw f=false:=Fu q3;refine (mq q3 ?_).1
    exact FE Cg [] e
   ·have e:Aw f=false:=GO Om;refine (mq q3 ?_).1
    exact FE Cg [] e
def lH (s:RS):s.fkind=if(s.take 1).2.getD 0 0=3 then(s.take 1).1 else(s.take 1).1.fail 7 0:=by
 unfold RS.fkind;by_cases h:(s.take 1).2.getD 0 0=3
 ·rw[if_pos h,if_neg (by rintro⟨_,h'⟩;exact h' h)]
 ·rw[if_neg h];by_cases hc:(s.take 1).1.code=0
  ·rw[if_pos ⟨hc,h⟩]
  ·rw[if_neg (by rintro⟨h',_⟩;exact hc h'),Iy hc]
def Vu (s:RS) (hs:An s):Ag prog 107 [.ref 0 0] [A1 s] (.tup []) [A1 (s.rest9)]:=by
 refine RM func107 Aab ?_
 refine Aa.r1 (Gy s 0 hs.ok) rfl ?_;by_cases h:0<s.left
 ·have q:decide (0<s.left)=true:=decide_eq_true h;have e:s.rest9=s.fail 9 s.at_:=by unfold RS.rest9;rw[if_pos h]
  refine (mq q ?_).1;refine Cu (Ar s 9 s.at_ 0) rfl ?_
  exact FE Aab [0] e
 ·have q:decide (0<s.left)=false:=decide_eq_false h;have e:s.rest9=s:=by unfold RS.rest9;rw[if_neg h]
  refine (mq q ?_).1
  exact FE Aab [0] e
def CM (s:RS) (i:Nat) (hs:An s):Ct prog 107 [.ref i 0] [(i,A1 s)] (λ_=>.tup []) [(i,A1 (s.rest9))] (λ_=>[]):=Ct.u1 (Vu s hs) i cl (λρ=>AG ρ _) (λρ=>AG ρ _) (rdr_dead _) cl
theorem An.rest9 {s:RS} (h:An s):An s.rest9:=by
 unfold RS.rest9;split
 ·exact h.fail _ _
 ·exact h
def F5 (p:List Int) (hp:A7 p) (hn:p.length≤140737488355328):Ct prog 106 [Bj .u8 p] [] (λ_=>.tup [oM (BX p).1,Fk (BX p).2]) [] (λ_=>[]):=by
 refine Ag.toCt ?_ cl cl
 have hok:An (RS.new p):=An.new hp hn;have⟨hk,hkl⟩:=JI hok;have hkq:=lH (RS.new p);have hbt:=Qc (RS.new p) hok.at0;have hfoot:(RS.new p).foot=(((RS.new p).fkind.fnums.1.fcheck (RS.new p).fkind.fnums.2).rest9,(RS.new p).fkind.fnums.2):=rfl;have hrd:BX p=if(RS.new p).foot.1.code=0 then((RS.new p).foot.2,(0,0))else(JG,((RS.new p).foot.1.code,(RS.new p).foot.1.fat)):=rfl
 have hlen1:((RS.new p).take 1).1.code=0->((RS.new p).take 1).2.length=1:=λh=>by have:=(Bn hok h).2.2.1;omega
 have⟨T,hT⟩:=Ex ((RS.new p).take 1);have⟨k,hkk⟩:=Ex ((RS.new p).fkind);rw[hT]at hkq hbt hlen1;rw[hkk]at hk hkq hfoot;have⟨v,hv⟩:=Ex (T.2.getD 0 0);rw[hv]at hbt hkq;have⟨A,hA⟩:=Ex (k.epo Ae);have⟨ka,_⟩:=Bz hk Ae;rw[hA]at ka;have⟨B,hB⟩:=Ex (A.1.int 65536);have⟨kb,_⟩:=ka.int 65536;rw[hB]at kb;have⟨C,hC⟩:=Ex (B.1.int 65536);have⟨kc,_⟩:=kb.int 65536;rw[hC]at kc;have⟨D,hD⟩:=Ex C.1.vint;have⟨kd,_⟩:=kc.vint;have rd:=Bf (s:=C.1) kc.bys;rw[hD]at kd rd;have⟨E,hE⟩:=Ex D.1.vint;have⟨ke,_⟩:=kd.vint;have re:=Bf (s:=D.1) kd.bys;rw[hE]at ke re;have⟨F,hF⟩:=Ex (E.1.int 1099511627776);have⟨kf,_⟩:=ke.int 1099511627776;rw[hF]at kf;have⟨G,hG⟩:=Ex (F.1.int 1099511627776);have⟨kg,_⟩:=kf.int 1099511627776;rw[hG]at kg;have hfn:k.fnums=(G.1,⟨A.2,B.2,C.2,D.2,E.2,F.2,G.2⟩):=by
  unfold RS.fnums;simp only[hA,hB,hC,hD,hE,hF,hG]
 rw[hfn]at hfoot;simp only at hfoot;refine RM func106 RJ ?_
 refine Aa.n (C9 p) (mp ?_).1;refine Aa.u1 (C1 (RS.new p) _ hok.ok) rfl (mq hbt ?_).1;by_cases hv3:v=3
 ·have q3:(v != 3)=false:=Sx hv3
  rw[if_pos hv3]at hkq;refine (mq q3 ?_).1;rw[←hkq];refine Aa.u1 (HD k _ hk) rfl (mq hA ?_).1;refine Aa.u1 (AT A.1 65536 _ De ka.ok ka.bys) rfl (mq hB ?_).1;refine Aa.u1 (AT B.1 65536 _ De kb.ok kb.bys) rfl (mq hC ?_).1;refine Aa.u1 (B4 C.1 _ kc.ok kc.bys) rfl (mq hD ?_).1;refine Aa.u1 (B4 D.1 _ kd.ok kd.bys) rfl (mq hE ?_).1;refine Aa.u1 (AT E.1 1099511627776 _ De ke.ok ke.bys) rfl (mq hF ?_).1;refine Aa.u1 (AT F.1 1099511627776 _ De kf.ok kf.bys) rfl (mq hG ?_).1;refine Aa.p (Hx ⟨A.2,B.2,C.2,D.2,E.2,F.2,G.2⟩ rd.1 rd.2 re.1 re.2) ?_;by_cases hr:Aw ⟨A.2,B.2,C.2,D.2,E.2,F.2,G.2⟩=true
  ·have hfc:G.1.fcheck ⟨A.2,B.2,C.2,D.2,E.2,F.2,G.2⟩=G.1:=by unfold RS.fcheck;rw[if_pos hr]
   rw[hfc]at hfoot;refine (mq hr ?_).1;refine Cu (CM G.1 _ kg) rfl ?_;refine Cr (Bp G.1.rest9 _) rfl ?_;refine Aa.p (Ap G.1.rest9.code G.1.rest9.fat) ?_;rw[hfoot]at hrd;simp only at hrd;by_cases hz:G.1.rest9.code=0
   ·have q:(G.1.rest9.code==0)=true:=Sx hz
    rw[if_pos hz]at hrd;refine (mq q ?_).1
    exact FE RJ [] hrd
   ·have q:(G.1.rest9.code==0)=false:=Sx hz
    rw[if_neg hz]at hrd;refine (mq q ?_).1
    exact FK RJ [] (by simp[hrd,JG])
  ·have hr':Aw ⟨A.2,B.2,C.2,D.2,E.2,F.2,G.2⟩=false:=Sx hr
   have hfc:G.1.fcheck ⟨A.2,B.2,C.2,D.2,E.2,F.2,G.2⟩=G.1.fail 3 0:=by unfold RS.fcheck;rw[if_neg hr]
   rw[hfc]at hfoot;refine (mq hr' ?_).1;refine Cu (Ar G.1 3 0 _) rfl ?_;refine Cu (CM (G.1.fail 3 0) _ (kg.fail 3 0)) rfl ?_;refine Cr (Bp (G.1.fail 3 0).rest9 _) rfl ?_;refine Aa.p (Ap (G.1.fail 3 0).rest9.code (G.1.fail 3 0).rest9.fat) ?_;rw[hfoot]at hrd;simp only at hrd;by_cases hz:(G.1.fail 3 0).rest9.code=0
   ·have q:((G.1.fail 3 0).rest9.code==0)=true:=Sx hz
    rw[if_pos hz]at hrd;refine (mq q ?_).1
    exact FE RJ [] hrd
   ·have q:((G.1.fail 3 0).rest9.code==0)=false:=Sx hz
    rw[if_neg hz]at hrd;refine (mq q ?_).1
    exact FK RJ [] (by simp[hrd,JG])
 ·have q3:(v != 3)=true:=Sx hv3
  rw[if_neg hv3]at hkq;refine (mq q3 ?_).1;refine Aa.u1 (Ar T.1 7 0 _) rfl ?_;simp only[go_sem,seval,←hkq];refine (AZ ?_).1;refine Aa.u1 (HD k _ hk) rfl (mq hA ?_).1;refine Aa.u1 (AT A.1 65536 _ De ka.ok ka.bys) rfl (mq hB ?_).1;refine Aa.u1 (AT B.1 65536 _ De kb.ok kb.bys) rfl (mq hC ?_).1;refine Aa.u1 (B4 C.1 _ kc.ok kc.bys) rfl (mq hD ?_).1;refine Aa.u1 (B4 D.1 _ kd.ok kd.bys) rfl (mq hE ?_).1;refine Aa.u1 (AT E.1 1099511627776 _ De ke.ok ke.bys) rfl (mq hF ?_).1;refine Aa.u1 (AT F.1 1099511627776 _ De kf.ok kf.bys) rfl (mq hG ?_).1;refine Aa.p (Hx ⟨A.2,B.2,C.2,D.2,E.2,F.2,G.2⟩ rd.1 rd.2 re.1 re.2) ?_;by_cases hr:Aw ⟨A.2,B.2,C.2,D.2,E.2,F.2,G.2⟩=true
  ·have hfc:G.1.fcheck ⟨A.2,B.2,C.2,D.2,E.2,F.2,G.2⟩=G.1:=by unfold RS.fcheck;rw[if_pos hr]
   rw[hfc]at hfoot;refine (mq hr ?_).1;refine Cu (CM G.1 _ kg) rfl ?_;refine Cr (Bp G.1.rest9 _) rfl ?_;refine Aa.p (Ap G.1.rest9.code G.1.rest9.fat) ?_;rw[hfoot]at hrd;simp only at hrd;by_cases hz:G.1.rest9.code=0
   ·have q:(G.1.rest9.code==0)=true:=Sx hz
    rw[if_pos hz]at hrd;refine (mq q ?_).1
    exact FE RJ [] hrd
   ·have q:(G.1.rest9.code==0)=false:=Sx hz
    rw[if_neg hz]at hrd;refine (mq q ?_).1
    exact FK RJ [] (by simp[hrd,JG])
  ·have hr':Aw ⟨A.2,B.2,C.2,D.2,E.2,F.2,G.2⟩=false:=Sx hr
   have hfc:G.1.fcheck ⟨A.2,B.2,C.2,D.2,E.2,F.2,G.2⟩=G.1.fail 3 0:=by unfold RS.fcheck;rw[if_neg hr]
   rw[hfc]at hfoot;refine (mq hr' ?_).1;refine Cu (Ar G.1 3 0 _) rfl ?_;refine Cu (CM (G.1.fail 3 0) _ (kg.fail 3 0)) rfl ?_;refine Cr (Bp (G.1.fail 3 0).rest9 _) rfl ?_;refine Aa.p (Ap (G.1.fail 3 0).rest9.code (G.1.fail 3 0).rest9.fat) ?_;rw[hfoot]at hrd;simp only at hrd;by_cases hz:(G.1.fail 3 0).rest9.code=0
   ·have q:((G.1.fail 3 0).rest9.code==0)=true:=Sx hz
    rw[if_pos hz]at hrd;refine (mq q ?_).1
    exact FE RJ [] hrd
   ·have q:((G.1.fail 3 0).rest9.code==0)=false:=Sx hz
    rw[if_neg hz]at hrd;refine (mq q ?_).1
    exact FK RJ [] (by simp[hrd,JG])
def O5 (s:RS) (a:Int) (hs:s.ok) (a0:0≤a) (a1:a≤s.at_):Ag prog 184 [.ref 0 0,iA a] [A1 s] (Bj .u8 ((s.l.drop a.toNat).take (s.at_-a).toNat)) [A1 (s)]:=by
 have⟨h0,h1,h2⟩:=hs;have q1:decide (a<0)=false:=decide_eq_false Om;have q2:decide (s.at_<a)=false:=decide_eq_false Om;have e1:((s.l.drop a.toNat).take (s.at_-a).toNat).length≤s.l.length:=by simp;omega
 unfold A1;refine RN func184 Acz ?_;simp only[go_sem,seval,q1,q2,Ab,Ep,Dh];refine (AZ ?_).1
 (repeat with_reducible refine Sa ?_);refine UT 4 ?_;exact FA Acz [0]
def RY (s:RS) (a:Int) (i:Nat) (hs:s.ok) (a0:0≤a) (a1:a≤s.at_):Ct prog 184 [.ref i 0,iA a] [(i,A1 s)] (λ_=>Bj .u8 ((s.l.drop a.toNat).take (s.at_-a).toNat)) [] (λ_=>[]):=
 Ct.r1 (O5 s a hs a0 a1) i cl (λρ=>AG ρ s) (rdr_dead s) cl
abbrev YS:ByteArray:=⟨#[76,79,72,84]⟩
def kK:A7 Hq:=by unfold A7 Hq;decide
theorem rH {l:List Int} (hl:A7 l):((FJ (AU .u8 l)).toList==YS.toList)=Ca l Hq:=HG hl kK
theorem bP:(YS.data.toList.map λb=>AV.lit (.int .u8 b.toNat))=AU .u8 Hq:=rfl
def RR (s:WS) (hs:s.fine):Ag prog 141 [.ref 0 0,.lit (.string YS)] [B5 1 s,AQ s] (.tup []) [B5 1 (s.put Hq),AQ (s.put Hq)]:=by
 refine RN func141 t7 ?_;refine (mq @bP ?_).1
 (repeat with_reducible refine Sa ?_);refine Aa.u2 (BZ s Hq 0 1 De hs.ok (hs.room _)) rfl rfl (mp ?_).1;exact FA t7 [0,1]
def Vr (s:WS) (i j:Nat) (h:i≠j) (hs:s.fine):Ct prog 141 [.ref i 0,.lit (.string YS)] [(i,B5 j s),(j,AQ s)] (λ_=>.tup []) [(i,B5 j (s.put Hq)),(j,AQ (s.put Hq))] (λ_=>[]):=Ct.u2 (RR s hs) i j h cl cl cl cl cl (Bu _ _) (Bi _) Dl
def EA :Ct prog 58 [] [] (λ_=>iA 12) [] (λ_=>[]):=by
 refine Ag.toCt ?_ cl cl
 refine RM func58 b58 ?_
 exact FA b58 []
def Ir (n x:Int) (hx:IntKind.u64.wrap n=x) (x0:0≤x) (x1:x<18446744073709551616):Ct prog 91 [iA n] [] (λ_=>Bj .u8 (A8 x)) [] (λ_=>[]):=by
 refine Ag.toCt ?_ cl cl
 have m4:(min (max (4:Int) 0) 8).toNat=4:=rfl;have hb:=DQ 4 x;have hl:=Bo 4 x;have hcr:=Ek hb;have eb:=Hi hb;have hl2:=Bo 4 (Bq (Aj 4 x));have f0:(WS.new 12).fine:=WS.fine.new Om;have w1:(WS.new 12).put (Aj 4 x)=⟨12,Aj 4 x,0⟩:=by rw[WS.new_is De,CO rfl (by simp;omega)];rfl
 have f1:=f0.put (Aj 4 x);rw[w1]at f1;have w2:(WS.mk 12 (Aj 4 x) 0).put (Aj 4 (Bq (Aj 4 x)))=⟨12,Aj 4 x++Aj 4 (Bq (Aj 4 x)),0⟩:=CO rfl (by simp;omega);have f2:=f1.put (Aj 4 (Bq (Aj 4 x)));rw[w2]at f2;have w3:(WS.mk 12 (Aj 4 x++Aj 4 (Bq (Aj 4 x))) 0).put Hq=⟨12,A8 x,0⟩:=CO rfl (by rw[length_append];simp[Hq];omega);have hbs:(WS.mk 12 (A8 x) 0).bytes=A8 x:=rfl;have htl:=Dw x;refine RM func91 b91 ?_
 refine Cp (EA) ?_;refine Aa.n (E6 12) (mq hx ?_).1;refine Aa.p (Py x 4 x0 x1) (mq m4 ?_).1;refine Aa.u2 (BZ (WS.new 12) (Aj 4 x) _ _ De f0.ok (f0.room _)) rfl rfl (mq w1 ?_).1;refine Aa.p (HF (Aj 4 x) hb Om) (mq eb ?_).1;refine Aa.u2 (HJ (WS.mk 12 (Aj 4 x) 0) (Bq (Aj 4 x)) 4 _ _ De hcr.1 Om f1) rfl rfl (mr m4 w2 ?_).1;refine Aa.u2 (Vr (WS.mk 12 (Aj 4 x++Aj 4 (Bq (Aj 4 x))) 0) _ _ De f2) rfl rfl (mq w3 ?_).1;refine Aa.r2 (B0 (WS.mk 12 (A8 x) 0) _ _ De (by show(A8 x).length≤_;omega)) rfl rfl ?_;refine (mq hbs ?_).1;exact FA b91 []
def Yp (f:Ft):List Int:=[f.bat,f.ent,f.fst,f.fin,f.at_,f.size]
def aQ (f:Ft):Ba f=([3]++vb f.ep)++Jn (Yp f):=by
 unfold Ba Yp;simp[Jn]
def oY (n:Int):0≤IntKind.u64.wrap n∧IntKind.u64.wrap n<18446744073709551616:=by
 have e:IntKind.u64.wrap n=n%18446744073709551616:=by
  unfold IntKind.wrap;simp[IntKind.signed,IntKind.bits]
 rw[e];omega
def Co (f:Ft):List Int:=[IntKind.u64.wrap f.bat,IntKind.u64.wrap f.ent,f.fst,f.fin,IntKind.u64.wrap f.at_,IntKind.u64.wrap f.size]
def Zy {f:Ft} (hf:f.ok):F9 (Co f):=by
 have:=hf.fst;have:=hf.fin;have:=oY f.bat;have:=oY f.ent;have:=oY f.at_;have:=oY f.size;intro x hx;simp only[Co,mem_cons,not_mem_nil,or_false]at hx;rcases hx with rfl|rfl|rfl|rfl|rfl|rfl<;>omega
theorem Sf {f:Ft} (hf:f.ok) (hr:Aw f=true):Co f=Yp f:=by
 have⟨n1,n2,n3,n4,n5⟩:=Ff hf hr;unfold Co Yp;rw[u64_in f.bat Om,u64_in f.ent Om,u64_in f.at_ Om,u64_in f.size Om]
def Tp (f:Ft):List Int:=if Aw f=true then Ba f else[]
def OT (f:Ft):Int:=if Aw f=true then 0 else 3
def jF (f:Ft):WS:=(((if Aw f=true then WS.new 80 else(WS.new 80).fail 3).put [3]).epput f.ep (Ae f.ep)).puts (Co f)
theorem iZ {s:WS} (h:¬s.code=0) (l:List Int):s.puts l=s:=by
 induction l with
 |nil=>rfl
 |cons x l ih=>
  have:s.puts (x::l)=(s.put (vb x)).puts l:=rfl;rw[this,WS.put_bad h,ih]
def qP {f:Ft} (hf:f.ok):(jF f).bytes=Tp f∧(jF f).code=OT f:=by
 unfold jF Tp OT;by_cases hr:Aw f=true
 ·have hpl:=Fg f;have e:=aQ f;have hl:=congrArg List.length e;simp only[length_append,length_cons,length_nil]at hl;have he:=(FV.1 hr).1;rw[if_pos hr,if_pos hr,if_pos hr,Sf hf hr];have w1:(WS.new 80).put [3]=⟨80,[3],0⟩:=by kernel_rfl
  have w2:(WS.mk 80 [3] 0).epput f.ep (Ae f.ep)=⟨80,[3]++vb f.ep,0⟩:=by
   unfold WS.epput;rw[if_pos (BS.2 he),CO rfl (by simp only[length_cons,length_nil];omega)]
  rw[w1,w2,MW rfl _ (by simp only[length_append,length_cons,length_nil];omega),←e];exact⟨rfl,rfl⟩
 ·rw[if_neg hr,if_neg hr,if_neg hr];have w0:(WS.new 80).fail 3=⟨80,[],3⟩:=by kernel_rfl
  have w1:(WS.mk 80 [] 3).put [3]=⟨80,[],3⟩:=WS.put_bad De;have w2:(WS.mk 80 [] 3).epput f.ep (Ae f.ep)=⟨80,[],3⟩:=by
   unfold WS.epput;split
   ·exact WS.put_bad De
   ·rfl
  rw[w0,w1,w2,iZ De];exact⟨rfl,rfl⟩
theorem WS.fine.epput {s:WS} (h:s.fine) (x:Int) (b:Bool):(s.epput x b).fine:=by
 unfold WS.epput;split
 ·exact h.put _
 ·exact h.fail 3
theorem LR (f:Ft) (hf:f.ok):Ag prog 90 [oM f] [] (.tup [Bj .u8 (Tp f),iA (OT f)]) []:=by
 have⟨p1,p2⟩:=qP hf;have hu:=Zy hf;have lv:(Co f).length=6:=rfl;have ev:[uA (IntKind.u64.wrap f.bat),uA (IntKind.u64.wrap f.ent),uA f.fst,uA f.fin,uA (IntKind.u64.wrap f.at_),uA (IntKind.u64.wrap f.size)]=AU .u64 (Co f):=rfl;have f0:(WS.new 80).fine:=WS.fine.new Om;have hs:=hf;obtain⟨s,hsv⟩:∃s,(if Aw f=true then WS.new 80 else(WS.new 80).fail 3)=s:=⟨_,rfl⟩;have fs:s.fine:=by
  rw[←hsv];split
  ·exact f0
  ·exact f0.fail 3
 have hpw:jF f=((s.put [3]).epput f.ep (Ae f.ep)).puts (Co f):=by unfold jF;rw[hsv]
 obtain⟨W,hW⟩:∃W,(s.put [3]).epput f.ep (Ae f.ep)=W:=⟨_,rfl⟩;have fw:W.fine:=by rw[←hW];exact(fs.put _).epput _ _
 rw[hW]at hpw;rw[hpw]at p1 p2;have w00:W.puts []=W:=rfl;refine RM func90 b90 ?_
 refine Aa.n (E6 80) (mp ?_).1;refine Aa.p (Hx f hf.fst.1 hf.fst.2 hf.fin.1 hf.fin.2) ?_;by_cases hr:Aw f=true
 ·rw[if_pos hr]at hsv;refine (mr hr hsv ?_).1;(repeat with_reducible refine Sa ?_);refine Aa.u2 (BZ s [3] _ _ De fs.ok (fs.room _)) rfl rfl (mp ?_).1;refine Aa.u2 (I4 (s.put [3]) f.ep _ _ De hf.ep.1 hf.ep.2 (fs.put _)) rfl rfl ?_;simp only[go_sem,seval,hW,ev,Ab,lv];refine (AZ ?_).1;(repeat with_reducible refine Sa ?_);refine AA (α:=Nat) (λk=>Ay (.ref 0 0::Az (Ay (Ay (Ay (.any::.any::.any::Bj .u64 (Co f)::iA 6::iA k::Ay (Ay [.any,.any,.any]))))))) (λk=>[B5 1 (W.puts ((Co f).take k)),AQ (W.puts ((Co f).take k))]) (λk=>k≤6) (λk=>6-k) 0 Si ?_ ?_
  ·exact(Wk.untag 36 rfl).trans (Wk.sel [1,2] Si rfl Si rfl (by simp[IL,wrow_ren,AH,w00]) (by simp[Ch,AD,DI,AI,AH]))
  ·intro k hk;have fk:=fw.puts ((Co f).take k);refine (mp ?_).1;by_cases hlt:k<6
   ·have q1:decide ((k:Int)<6)=true:=decide_eq_true Om;have ek:=Am k Om;have g:=FC (Co f) k Om;have hx:=hu ((Co f).getD k 0) (by rw[getD_eq_getElem?_getD,getElem?_eq_getElem Om];exact getElem_mem _);have st:=Pi W (Co f) k Om;refine (mt q1 @Ab lv g ?_).1;(repeat with_reducible refine Sa ?_);refine Aa.u2 (Bm (W.puts ((Co f).take k)) ((Co f).getD k 0) 0 1 De hx.1 hx.2 fk.ok (fk.room _)) rfl rfl (mr st ek ?_).1;exact⟨k+1,Om,Om,Wk.to Si (by simp[B6])⟩
   ·have q1:decide ((k:Int)<6)=false:=decide_eq_false Om;have e6:(Co f).take k=Co f:=take_of_length_le Om;rw[e6]at fk;refine (mr q1 e6 ?_).1;refine Aa.r2 (B0 (W.puts (Co f)) 0 1 De fk.len) rfl rfl (mr p1 p2 ?_).1;exact FA b90 []
 ·have hr':Aw f=false:=Sx hr
  rw[if_neg hr]at hsv;refine (mq hr' ?_).1;refine Aa.u2 (Cq (WS.new 80) 3 _ _ De) rfl rfl (mq hsv ?_).1;(repeat with_reducible refine Sa ?_);refine Aa.u2 (BZ s [3] _ _ De fs.ok (fs.room _)) rfl rfl (mp ?_).1;refine Aa.u2 (I4 (s.put [3]) f.ep _ _ De hf.ep.1 hf.ep.2 (fs.put _)) rfl rfl ?_;simp only[go_sem,seval,hW,ev,Ab,lv];refine (AZ ?_).1;(repeat with_reducible refine Sa ?_);refine AA (α:=Nat) (λk=>Ay (.ref 0 0::Az (Ay (Ay (Ay (.any::.any::.any::Bj .u64 (Co f)::iA 6::iA k::Ay (Ay [.any,.any,.any]))))))) (λk=>[B5 1 (W.puts ((Co f).take k)),AQ (W.puts ((Co f).take k))]) (λk=>k≤6) (λk=>6-k) 0 Si ?_ ?_
  ·exact(Wk.untag 36 rfl).trans (Wk.sel [1,2] Si rfl Si rfl (by simp[IL,wrow_ren,AH,w00]) (by simp[Ch,AD,DI,AI,AH]))
  ·intro k hk;have fk:=fw.puts ((Co f).take k);refine (mp ?_).1;by_cases hlt:k<6
   ·have q1:decide ((k:Int)<6)=true:=decide_eq_true Om;have ek:=Am k Om;have g:=FC (Co f) k Om;have hx:=hu ((Co f).getD k 0) (by rw[getD_eq_getElem?_getD,getElem?_eq_getElem Om];exact getElem_mem _);have st:=Pi W (Co f) k Om;refine (mt q1 @Ab lv g ?_).1;(repeat with_reducible refine Sa ?_);refine Aa.u2 (Bm (W.puts ((Co f).take k)) ((Co f).getD k 0) 0 1 De hx.1 hx.2 fk.ok (fk.room _)) rfl rfl (mr st ek ?_).1;exact⟨k+1,Om,Om,Wk.to Si (by simp[B6])⟩
   ·have q1:decide ((k:Int)<6)=false:=decide_eq_false Om;have e6:(Co f).take k=Co f:=take_of_length_le Om;rw[e6]at fk;refine (mr q1 e6 ?_).1;refine Aa.r2 (B0 (W.puts (Co f)) 0 1 De fk.len) rfl rfl (mr p1 p2 ?_).1;exact FA b90 []
theorem It (f:Ft) (hf:f.ok):Ct Tryz.prog 90 [oM f] [] (λ_=>.tup [Bj .u8 (Tp f),iA (OT f)]) [] (λ_=>[]):=(LR f hf).toCt cl cl
section
variable {P:Program} {S:List Ac} {K:KT} {f:FuncId} {args args₀:List AV}
theorem Aa.rn2 {r:Nat->AV} {new:Nat->List Ac} {i j:Nat} {o p:Ac} (h:Ct P f (args.map Proofs.YtaajkppmibfgfaaGreat.untag) [(i,o),(j,p)] r [] new) (hS:S[i]? =some o) (hS':S[j]? =some p) (hK:K (r S.length) [i,j] [] (new S.length)):Aa P f args S K:=Aa.of h.untag (by simp[hS,hS']) Si hK
end
def Oc (s:WS) (hc:s.code=0) (hb:s.l.length≤140737488355328):Ag prog 83 [.ref 0 0] [B5 1 s,AQ s] (.tup [Ia 2 s.l,iA 0]) [B5 1 s,AQ s,.row 1 s.l.length]:=by
 have q:(s.code != 0)=false:=Sx hc
 refine RM func83 b83 ?_
 refine Aa.r2 (Gw s 0 1 De) rfl rfl (mq q ?_).1;simp only[go_sem,seval,B5,AQ,Ab];refine (AZ ?_).1;(repeat with_reducible refine Sa ?_)
 (refine FB b83 [0,1,2] ?_ ?_<;>first|with_reducible rfl|(simp[B5,AQ];done)|rfl)
def Jl (s:WS) (i j:Nat) (h:i≠j) (hc:s.code=0) (hb:s.l.length≤140737488355328):Ct prog 83 [.ref i 0] [(i,B5 j s),(j,AQ s)] (λn=>.tup [Ia n s.l,iA 0]) [] (λ_=>[.row 1 s.l.length]):=
 Ct.mk (Oc s hc hb) [i,j] (by simpa using h) rfl Si (by simp[Bu,Bi]) (by intros;simp[AD,AH,range'_succ]) (by intros;simp[AD,AH,range'_succ,AI]) (by intros;simp[IL,wrow_ren,AH,range'_succ]) (.inr ⟨rfl,rfl⟩) (by intros;simp[AD])
def ON (p:List Int) (hp:A7 p) (hn:p.length≤2097152):Ag prog 86 [Bj .u8 p] [] (.tup [Ia 0 (Ad p),iA 0]) [.row 1 (Ad p).length]:=by
 have hsz:=SI p.length;have hfr:=H5 (p:=p);have f0:(WS.new (Dy p.length)).fine:=WS.fine.new Om;have hf:=PW (s:=WS.new (Dy p.length)) (p:=p) rfl hn (by rw[WS.new_is Om];simp;omega);rw[WS.new_is Om]at hf;have hff:=(f0.frame p).len;rw[WS.new_is Om,hf]at hff;simp only[nil_append]at hf hff;refine RN func86 b86 ?_;refine (mq @Ab ?_).1
 refine Cp (JH p.length Om) ?_;refine Aa.n (E6 (Dy p.length)) (mp ?_).1;refine Aa.u2 (PX (WS.new (Dy p.length)) p _ _ De f0 hp Om) rfl rfl (mp ?_).1;rw[WS.new_is Om,hf];refine Aa.rn2 (Jl (WS.mk (Dy p.length) (Ad p) 0) _ _ De rfl hff) rfl rfl (mp ?_).1;exact FA b86 [2]
def Rg (p:List Int) (hp:A7 p) (hn:p.length≤2097152):Ct prog 86 [Bj .u8 p] [] (λn=>.tup [Ia n (Ad p),iA 0]) [] (λ_=>[.row 1 (Ad p).length]):=Ct.n (ON p hp hn) cl cl Dl
def IE (f:Ft):List Int:=if Aw f=true then EP f else[]
def OO (f:Ft) (hf:f.ok):Ag prog 54 [oM f] [] (.tup [Bj .u8 (IE f),iA (OT f)]) []:=by
 by_cases hr:Aw f=true
 ·have e1:Tp f=Ba f:=by unfold Tp;rw[if_pos hr]
  have e2:OT f=0:=by unfold OT;rw[if_pos hr]
  have e3:IE f=EP f:=by unfold IE;rw[if_pos hr]
  have hp:=H_ hf hr;have hpl:=Fg f;have hfl:=Bb (Ba f);have htl:=Dw ((Ad (Ba f)).length:Int);have wl:IntKind.u64.wrap ((Ad (Ba f)).length:Int)=((Ad (Ba f)).length:Int):=u64_in _ Om;have ef:Ad (Ba f)++A8 (Ad (Ba f)).length=EP f:=rfl;have efl:(EP f).length=(Ad (Ba f)).length+12:=by rw[←ef,length_append,htl]
  refine RM func54 b54 ?_
  refine Aa.p (It f hf) (mr e1 e2 ?_).1;refine Aa.n (Rg (Ba f) hp Om) (mq @Ab ?_).1;refine Aa.p (Ir _ _ wl Om Om) ?_;simp only[go_sem,seval,C0,Ab,←length_append,ef];refine (AZ ?_).1;(repeat with_reducible refine Sa ?_);refine UT 2 ?_
  exact FF b54 [] e2 e3
 ·have e1:Tp f=[]:=by unfold Tp;rw[if_neg hr]
  have e2:OT f=3:=by unfold OT;rw[if_neg hr]
  have e3:IE f=[]:=by unfold IE;rw[if_neg hr]
  refine RM func54 b54 ?_
  refine Aa.p (It f hf) (mr e1 e2 ?_).1;refine UT 2 ?_
  exact FF b54 [] e2 e3
theorem Ri (f:Ft) (hf:f.ok):Ct Tryz.prog 54 [oM f] [] (λ_=>.tup [Bj .u8 (IE f),iA (OT f)]) [] (λ_=>[]):=(OO f hf).toCt cl cl
def Nx (h:Hd) (hr:Bv h=true) (hb:0≤h.base):Ag prog 49 [sB h] [] (.tup [Ia 0 (Ai h),iA 0]) [.row 1 (Ai h).length]:=by
 have f0:(WS.new 27).fine:=WS.fine.new Om;have hff:=(f0.header h).len;have⟨e1,e2⟩:=WC h (n:=27) Om;have e3:((WS.new 27).header h).code=0:=by rw[e1];unfold sK;rw[if_pos hr]
 have e4:((WS.new 27).header h).l=Ai h:=by
  have:((WS.new 27).header h).bytes=((WS.new 27).header h).l:=by unfold WS.bytes;rw[if_pos e3]
  rw[←this,e2];unfold N0;rw[if_pos hr]
 refine RM func49 b49 ?_
 refine Cp (uY) ?_;refine Aa.n (E6 27) (mp ?_).1;refine Aa.u2 (Xo (WS.new 27) h _ _ De f0 hb) rfl rfl (mp ?_).1;refine Aa.rn2 (Jl ((WS.new 27).header h) _ _ De e3 hff) rfl rfl (mq e4 ?_).1;exact FA b49 [3]
def OJ (h:Hd) (hr:Bv h=true) (hb:0≤h.base):Ct prog 49 [sB h] [] (λn=>.tup [Ia n (Ai h),iA 0]) [] (λ_=>[.row 1 (Ai h).length]):=Ct.n (Nx h hr hb) cl cl Dl
def Pp (a b:En):HK a b=true↔a=b:=by
 unfold HK Gi Ca;rw[Bool.and_eq_true,decide_eq_true_eq,decide_eq_true_eq];exact⟨λ⟨h1,h2⟩=>by cases a;cases b;simp only at h1 h2;rw[h1,h2],λh=>by subst h;exact⟨rfl,rfl⟩⟩
theorem nN (a b:List En):LY a b=true↔a=b:=by
 unfold LY;rw[Bool.and_eq_true,decide_eq_true_eq,all_eq_true];constructor
 ·rintro⟨h1,h2⟩;exact ext_getElem h1 λi h3 h4=>by
   have:=(Pp _ _).1 (h2 i (mem_range.2 h3));simpa[h3,h4]using this
 ·rintro rfl;exact⟨rfl,λi _=>(Pp _ _).2 rfl⟩
abbrev Fx (b:Bt):AV:=.agg [uA b.ep,uA b.base,Fy b.en]
def Mf (l:List Bt):List AV:=l.map Fx
abbrev uP (l:List Bt):AV:=.sl .none 3 (Mf l)
abbrev btO (b:Bt):Ac:=.cells [uA b.ep,uA b.base,Fy b.en]
abbrev Ot (u:GH):AV:=.agg [uA u.ep,uP u.bt]
abbrev vZ (u:GH):Ac:=.cells [uA u.ep,uP u.bt]
theorem Bc (l:List Bt):(Mf l).length=l.length:=by simp[Mf]
def Ja (l:List Bt) (k:Nat) (h:k<l.length):(Mf l).getD k .any=Fx (l.getD k Cj):=by simp[Mf,h]
theorem mT (l:List Bt) (n:Nat):(Mf l).take n=Mf (l.take n):=by simp[Mf]
@[simp] theorem IS (ρ:Nat->Nat) (l:List Bt):(Mf l).map (λx=>x.ren ρ)=Mf l:=by
 simp[Mf,Function.comp_def,AD,AI,CA]
structure Dm (b:Bt):Prop where
 n:b.en.length≤1000000
 e:∀e∈b.en,KL e
 s:(Ak b.en).length≤100000000
theorem Dm.lk {b:Bt} (h:Dm b):∀e∈b.en,B7 e.lk:=λe he=>(h.e e he).1
def Jr (a b:Bt):Bool:=decide (a=b)
theorem MI (a b:Bt):Jr a b=true↔a=b:=by simp[Jr]
def Wb (a b:Bt) (hs:Dm a) (ha:oD a.en) (hb:oD b.en):Ct prog 12 [Fx a,Fx b] [] (λ_=>bA (Jr a b)) [] (λ_=>[]):=by
 refine Ag.toCt ?_ cl cl
 have hno:¬a=b->Jr a b=false:=λh=>by simp[Jr,h]
 refine RM func12 b12 ?_
 by_cases c0:a.ep=b.ep
 ·have q0:(a.ep==b.ep)=true:=Sx c0
  by_cases c1:a.base=b.base
  ·have q1:(a.base==b.base)=true:=Sx c1
   have e:LY a.en b.en=Jr a b:=by
    rw[Bool.eq_iff_iff,nN,MI];cases a;cases b;simp only at c0 c1;simp[c0,c1]
   refine (mr q0 q1 ?_).1;refine Aa.p (aB a.en b.en hs.n hs.lk ha hb) (mq e ?_).1;exact FA b12 []
  ·have q1:(a.base==b.base)=false:=Sx c1
   have e:=hno (by rintro rfl;exact c1 rfl);refine (mr q0 q1 ?_).1
   exact FE b12 [] e
 ·have q0:(a.ep==b.ep)=false:=Sx c0
  have e:=hno (by rintro rfl;exact c0 rfl);refine (mq q0 ?_).1
  exact FE b12 [] e
def Us {base n:Int} (h:n<1∨16<n∨Lx base n=false):EQ base n=false:=by
 unfold EQ;rcases h with h|h|h
 ·rw[decide_eq_false Om];rfl
 ·rw[decide_eq_false Om];rfl
 ·rw[h,Bool.and_false]
def dD {base n:Int} (h1:1≤n) (h2:n≤16):EQ base n=Lx base n:=by
 unfold EQ;rw[decide_eq_true ⟨h1,h2⟩,Bool.true_and]
def N6 (base n:Int) (b0:0≤base) (b1:base<18446744073709551616):Ct prog 38 [uA base,iA n] [] (λ_=>bA (EQ base n)) [] (λ_=>[]):=by
 refine Ag.toCt ?_ cl cl
 refine RM func38 b38 ?_
 by_cases h1:1≤n
 ·have q1:decide (1≤n)=true:=decide_eq_true h1;by_cases h2:n≤16
  ·have q2:decide (n≤16)=true:=decide_eq_true h2;have w0:IntKind.u64.wrap n=n:=u64_in _ Om;have ey:=dD (base:=base) h1 h2;refine (mr q1 q2 ?_).1;refine Aa.p (I5 base) ?_;by_cases h:base<4611686018427387904
   ·have e:Bh base=true:=Ew.2 h;have w1:IntKind.u64.wrap (base+n)=base+n:=u64_in _ Om;have ef:decide (base+n≤4611686018427387904)=EQ base n:=by rw[ey];unfold Lx;rw[decide_eq_true h];rfl
    refine (mt e w0 w1 ef ?_).1;exact FA b38 []
   ·have e:Bh base=false:=by unfold Bh;exact decide_eq_false h
    have ef:EQ base n=false:=by rw[ey];unfold Lx;rw[decide_eq_false h];rfl
    refine (mq e ?_).1
    exact FE b38 [] ef
  ·have q2:decide (n≤16)=false:=decide_eq_false h2;have ef:=Us (base:=base) (n:=n) (.inr (.inl Om));refine (mr q1 q2 ?_).1
   exact FE b38 [] ef
 ·have q1:decide (1≤n)=false:=decide_eq_false h1;have ef:=Us (base:=base) (n:=n) (.inl Om);refine (mq q1 ?_).1
  exact FE b38 [] ef
def IQ {b:Bt} (h:Ae b.ep=false∨EQ b.base b.en.length=false∨1048576<(Ak b.en).length∨∃i,i<b.en.length∧Cw (b.base+i) (b.en.getD i B3)=false):Bw b=false:=by
 cases hr:Bw b with
 |false=>rfl
 |true=>
  exfalso;have h4:=(BW.1 hr).2.2.2;unfold Bw at hr;simp only[Bool.and_eq_true,decide_eq_true_eq]at hr;have⟨⟨⟨a,c⟩,d⟩,e⟩:=hr;rcases h with h|h|h|⟨i,hi,h⟩
  ·rw[h]at a;cases a
  ·rw[h]at c;cases c
  ·omega
  ·rw[h4 i hi]at h;cases h
def V8 {b:Bt} (h1:Ae b.ep=true) (h2:EQ b.base b.en.length=true) (h3:(Ak b.en).length≤1048576) (h4:∀i,i<b.en.length->Cw (b.base+i) (b.en.getD i B3)=true):Bw b=true:=by
 unfold Bw;simp only[Bool.and_eq_true,decide_eq_true_eq,all_eq_true,mem_range];exact⟨⟨⟨h1,h2⟩,h3⟩,h4⟩
theorem RE (b:Bt) (hb:b.ok) (hs:Dm b):Ag prog 17 [Fx b] [] (bA (Bw b)) []:=by
 have⟨n1,he,s1⟩:=hs;refine RM func17 b17 ?_
 refine Aa.p (AL b.ep) ?_;cases h1:Ae b.ep with
 |false=>
  have e:=IQ (b:=b) (.inl h1);refine (mq h1 ?_).1
  exact FE b17 [] e
 |true=>
  refine (mr h1 @Ax ?_).1;refine Aa.p (N6 b.base b.en.length hb.b0 hb.b1) ?_;cases h2:EQ b.base b.en.length with
  |false=>
   have e:=IQ (b:=b) (.inr (.inl h2));refine (mq h2 ?_).1
   exact FE b17 [] e
  |true=>
   have⟨⟨f0,f1⟩,f2,f3⟩:=GZ.1 h2;refine (mq h2 ?_).1;refine Aa.p (Iz b.en n1 Om) ?_;by_cases h3:(Ak b.en).length≤1048576
   ·have q3:decide (1048576<((Ak b.en).length:Int))=false:=decide_eq_false Om;refine (mr q3 @Ax ?_).1;refine AA (α:=Nat) (λk=>.any::.ref 0 0::Az (Ay (.any::.any::.any::Fy b.en::iA b.en.length::iA k::Ay (Ay (Ay [.any]))))) (λ_=>[btO b]) (λk=>k≤b.en.length∧∀i,i<k->Cw (b.base+i) (b.en.getD i B3)=true) (λk=>b.en.length-k) 0 ⟨Si,λi hi=>by omega⟩ (Wk.to Si (by simp[B6])) ?_;rintro k ⟨hk,hall⟩;refine (mq @Ax ?_).1;by_cases hlt:k<b.en.length
    ·have q1:decide ((k:Int)<(b.en.length:Int))=true:=decide_eq_true Om;have ek:=Am k Om;have g:=DT b.en k hlt;have b0:=hb.b0;have wk:IntKind.u64.wrap (k:Int)=k:=u64_in _ Om;have wp:IntKind.u64.wrap (b.base+(k:Int))=b.base+k:=u64_in _ Om;have hm:=Ru b.en k hlt;have hc:=IA (b.base+k) (b.en.getD k B3) (hb.en _ hm) (he _ hm) Om Om;simp only[go_sem,seval,q1,g,Ax,Int.toNat_natCast,wk,wp];refine (AZ ?_).1;(repeat with_reducible refine Sa ?_);refine Aa.p (hc) ?_;cases hq:Cw (b.base+k) (b.en.getD k B3)with
     |true=>
      refine (mq ek ?_).1;(repeat with_reducible refine Sa ?_);exact⟨k+1,⟨hlt,λi hi=>by
       rcases Nat.lt_or_ge i k with h|h
       ·exact hall i h
       ·obtain rfl:i=k:=Om
        exact hq⟩,Om,Wk.sel [0] Si rfl Si rfl (by simp[AD]) (by simp[Ch,AD])⟩
     |false=>
      have e:=IQ (b:=b) (.inr (.inr (.inr ⟨k,hlt,hq⟩)));refine (mp ?_).1;(repeat with_reducible refine Sa ?_)
      exact FE b17 [] e
    ·have q1:decide ((k:Int)<(b.en.length:Int))=false:=decide_eq_false Om;have e:=V8 h1 h2 h3 λi hi=>hall i Om
     refine (mq q1 ?_).1
     exact FE b17 [] e
   ·have q3:decide (1048576<((Ak b.en).length:Int))=true:=decide_eq_true Om;have e:=IQ (b:=b) (.inr (.inr (.inl Om)));refine (mq q3 ?_).1
    exact FE b17 [] e
theorem Gu (b:Bt) (hb:b.ok) (hs:Dm b):Ct Tryz.prog 17 [Fx b] [] (λ_=>bA (Bw b)) [] (λ_=>[]):=(RE b hb hs).toCt cl cl
def K7 (b:Bt) (hn:b.en.length≤1000000) (b0:0≤b.base) (b1:b.base+b.en.length<18446744073709551616):Ct prog 71 [Fx b] [] (λ_=>uA (b.base+b.en.length)) [] (λ_=>[]):=by
 refine Ag.toCt ?_ cl cl
 have w0:IntKind.u64.wrap (b.en.length:Int)=b.en.length:=u64_in _ Om;have w1:IntKind.u64.wrap (b.base+(b.en.length:Int))=b.base+b.en.length:=u64_in _ Om;refine RN func71 b71 ?_;refine (ms @Ax w0 w1 ?_).1
 exact FA b71 []
theorem Ag.freeze {P:Program} {f:FuncId} {args:List AV} {k n:Nat} (zs:List AV) (h:Ag P f args [] (.ms 0 n) [.mrow k n (flat zs)]) (hl:zs.length=n) (hk:∀z∈zs,z.cells.length=k) (hr:∀ρ,zs.map (λx=>x.ren ρ)=zs):Ag P f args [] (.sl .none k zs) []:=by
 have h1:Ag P f args [] (.sl .none k zs) [.row k n]:=by
  refine⟨h.1,λG w vs hw hra=>(h.2 G w vs hw hra).mono ?_⟩;rintro e w' ⟨v,G',rfl,hv,hs⟩;cases hv with
  | @ms _ _ A c hh hA=>
    have⟨G'',hl',hh',us,v1,v2,v3,v4,v5⟩:=AS.freeze (j:=0) hs.wd rfl hh;refine⟨_,G'',rfl,?_,by simpa using hs.trans hl'⟩;subst hl;by_cases h0:0<zs.length
    ·obtain⟨b,rfl,v6⟩:=v5 h0;exact C5 v1 v2 v3 (λi x hx=>hk x (mem_of_getElem? hx)) v6 (λi j x y u h1 h2 h3=>v4 _ y u (Mc zs hk i j x y h1 h2) h3) trivial
    ·have hzn:zs=[]:=eq_nil_of_length_eq_zero Om;subst hzn;exact Bg.sl (b:=0) (o:=0) (λ_ _=>undef) v2 (λh=>by simp at h) (λi x h=>by simp at h) (λi j h=>by simp at h) (λi j h=>by simp at h) (λi j x y h=>by simp at h) trivial
 exact h1.clean (S':=[]) [] Si rfl Si (λk i hk=>by simp at hk) (λk o h=>by simp at h) (by rw[V_,hr];rfl)
theorem Fl (xs ys:List AV):flat (xs++ys)=flat xs++flat ys:=by simp[flat]
theorem NF {k:Nat} {ys:List AV} (hk:∀x∈ys,x.cells.length=k):(flat ys).length=ys.length*k:=(Kj ys λi x h=>hk x (mem_of_getElem? h)).1
theorem dC {k:Nat} {ys:List AV} (hk:∀x∈ys,x.cells.length=k) {i:Nat} (h:i<ys.length):((flat ys).drop (i*k)).take k=(ys.getD i .any).cells:=by
 have e:ys=ys.take i++ys[i]::ys.drop (i+1):=by simp
 have hl:(flat (ys.take i)).length=i*k:=by rw[NF (λx hx=>hk x (mem_of_mem_take hx)),length_take,Nat.min_eq_left Om]
 have hi:(ys[i]).cells.length=k:=hk _ Si;have hg:ys.getD i .any=ys[i]:=by simp[h]
 rw[hg]
 conv=>lhs;rw[e]
 rw[Fl,I0,←hl,drop_left,←hi,take_left]
def VT (a b c cs:List AV) (h:cs.length=b.length):Ce (a++b++c) a.length cs=a++cs++c:=by
 apply ext_getElem?;intro j;rw[FR _ _ _ (by simp;omega)];by_cases h1:a.length≤j∧j<a.length+cs.length
 ·rw[if_pos h1,append_assoc,getElem?_append_right h1.1,getElem?_append_left Om]
 ·rw[if_neg h1];by_cases h2:j<a.length
  ·rw[append_assoc,append_assoc,getElem?_append_left h2,getElem?_append_left h2]
  ·rw[getElem?_append_right (by simp;omega),getElem?_append_right (by simp;omega)];simp[h]
def Ur {k:Nat} {ys:List AV} (hk:∀x∈ys,x.cells.length=k) {i:Nat} (h:i<ys.length) (z:AV) (hz:z.cells.length=k):Ce (flat ys) (i*k) z.cells=flat (ys.set i z):=by
 have e:ys=ys.take i++ys[i]::ys.drop (i+1):=by simp
 have hl:(flat (ys.take i)).length=i*k:=by rw[NF (λx hx=>hk x (mem_of_mem_take hx)),length_take,Nat.min_eq_left Om]
 have hi:(ys[i]).cells.length=k:=hk _ Si;have e2:ys.set i z=ys.take i++z::ys.drop (i+1):=set_eq_take_append_cons_drop.trans (if_pos h);rw[e2]
 conv=>lhs;rw[e]
 rw[Fl,I0,Fl,I0,←append_assoc,←append_assoc,←hl];exact VT _ _ _ _ (by rw[hi,hz])
abbrev Dt (l:List Lk):List AV:=flat (EO l)
theorem TG (l:List Lk):∀x∈EO l,x.cells.length=2:=λx hx=>by
 simp only[EO,mem_map]at hx;obtain⟨y,_,rfl⟩:=hx;rfl
def TK (l:List Lk) (k:Nat) (h:k<l.length):((Dt l).drop (k*2)).take 2=[uA (l.getD k B_).st,GB (l.getD k B_).bk]:=by
 rw[dC (TG l) (by rw[Ao];exact h),Cm l k h];rfl
theorem Hr (l:List Lk):(Dt l).length=l.length*2:=by rw[NF (TG l),Ao]
def kL (l:List Lk) (x:Lk):Dt l++[uA x.st,GB x.bk]=Dt (l++[x]):=by
 have e:EO (l++[x])=EO l++[F3 x]:=by simp[EO]
 rw[Dt,Dt,e,Fl];rfl
def YU (l:List Lk) (x:Lk) (k:Nat) (h:k<l.length):Ce (Dt l) (k*2) [uA x.st,GB x.bk]=Dt (l.set k x):=by
 have:=Ur (TG l) (i:=k) (by rw[Ao];exact h) (F3 x) rfl;have e:(EO l).set k (F3 x)=EO (l.set k x):=by simp[EO,map_set]
 rw[e]at this;exact this
theorem DR (ρ:Nat->Nat) (l:List Lk):(Dt l).map (λx=>x.ren ρ)=Dt l:=by
 induction l with
 |nil=>rfl
 |cons x l ih=>
  have e:Dt (x::l)=uA x.st::GB x.bk::Dt l:=rfl;rw[e,map_cons,map_cons,ih];simp[AD]
abbrev LP (l:List Lk):Ac:=.mrow 2 l.length (Dt l)
theorem L7 (ρ:Nat->Nat) (l:List Lk):(LP l).ren ρ=LP l:=by rw[DP,DR]
def bW (x:Lk) (hn:x.bk.length≤1000000):Ag prog 47 [F3 x] [] (F3 x) []:=by
 refine RN func47 b47 ?_;refine (mq @Ab ?_).1
 (repeat with_reducible refine Sa ?_);refine UO 1 ?_;exact FA b47 []
theorem Nf (x:Lk) (hn:x.bk.length≤1000000):Ct Tryz.prog 47 [F3 x] [] (λ_=>F3 x) [] (λ_=>[]):=(bW x hn).toCt cl cl
theorem TU (l:List Lk) (hm:B7 l):Ag prog 21 [C3 l] [] (.ms 0 l.length) [LP l]:=by
 have⟨hn,hb⟩:=hm;refine RN func21 b21 ?_;refine (mq @Ao ?_).1
 refine AA (α:=Nat) (λk=>C3 l::.any::.any::.ms 0 k::.any::.any::C3 l::iA l.length::iA k::Ay (Ay [.any,.any])) (λk=>[LP (l.take k)]) (λk=>k≤l.length) (λk=>l.length-k) 0 Si ((Wk.mrow 3 2 rfl De).trans (Wk.to (by simp[LP,Dt,EO,flat]) (by simp[B6]))) ?_;intro k hk;refine (mp ?_).1;by_cases hlt:k<l.length
 ·have q1:decide ((k:Int)<(l.length:Int))=true:=by simp;omega
  have ek:=Am k Om;have g:=Cm l k hlt;have hbk:=hb _ (DC l k hlt);have hl:(l.take k).length=k:=by simp;omega
  have hs:=kL (l.take k) (l.getD k B_);rw[←YT l k hlt]at hs;have hl1:(l.take (k+1)).length=k+1:=by simp;omega
  refine (mt q1 g @Ao @Int.toNat_natCast ?_).1;(repeat with_reducible refine Sa ?_);refine Aa.p (Nf (l.getD k B_) hbk) (mq hl ?_).1;(repeat with_reducible refine Sa ?_);refine (mr ek hs ?_).1;exact⟨k+1,Om,Om,Wk.sel [0] Si rfl Si rfl (by simp only[map_cons,map_nil,getElem?_cons_zero,DP,DR,hl1]) (by simp[Ch,AD])⟩
 ·have q1:decide ((k:Int)<(l.length:Int))=false:=by simp;omega
  have ek:k=l.length:=Om
  have el:l.take l.length=l:=take_length;subst ek;refine (mq q1 ?_).1
  exact FF b21 [0] el @DR
section
open Go.RowKit Go.Lib
def Gj {P:Program} (w:World) {dT sT ty e:TypeId} {i:TypeInfo} (ht:P.underlying dT=some (.slice e)) (hi:P.info? e=some i) (b o dLen dCap:Nat) (cur:Array Value) (t0:TypeId) (hg:w.heap[b]? =some (.cells cur t0 (0,0)))
 (a:Addr) (sLen sCap:Nat) (cs:List Value) (hn:cs.length=Nat.min sLen dLen*i.size) (hsrc:∀j v,cs[j]? =some v->w.cell? (a.add j)=some v) (hfit:o+cs.length≤cur.size) (h1:∀v∈cs,v.oneCell'=true):
 (Builtin.copy_ #[dT,sT] ty #[.slice (some ⟨b,o,none⟩) dLen dCap,.slice (some a) sLen sCap]).run P w=.ok (goInt (Nat.min sLen dLen)) (w.setRow b (cur.toList.take o++cs++cur.toList.drop (o+cs.length)).toArray):=by
 have hl:=run_loadCells_list (P:=P) w a cs hsrc;have hst:=run_storeCells_at P b o t0 cs 0 cur w hg (by simpa using hfit) h1;simp only[Nat.add_zero]at hst;simp[Builtin.copy_,run_underlying ht,Builtin.lenOf,Builtin.firstCells,sizeOf,typeInfo,hi,←hn,hl,hst]
theorem Nr (A:Option Addr) (n c vb voff vc:Nat) (w:World) (hnc:n≤c) (hA:A=none->c=0) {v':Value} {w':World}
 (hrun:∀ty,(Builtin.append_ #[29,29] ty #[.slice A n c,.slice (some ⟨vb,voff,none⟩) 1 vc]).run prog w=.ok v' w'):
 Calls prog 78 #[.slice A n c,.int .i64 n,.slice (some ⟨vb,voff,none⟩) 1 vc] w λe w''=>e=.returned v'∧w''=w':=by
 go_enter func78,Tryz.ntmps78
 cases A with
 |none=>
  obtain rfl:=hA rfl;obtain rfl:n=0:=Om
  go_wp2_with (at_builtin;refine Lib.wpList_append_run _ rfl _ _ _ _ rfl _ _ rfl rfl _ _ (hrun _) ?_)
  go_ret
  exact⟨rfl,rfl⟩
 |some a=>
  have⟨ab,ao,asp⟩:=a
  go_wp2_with (at_builtin;refine Lib.wpList_append_run _ rfl _ _ _ _ rfl _ _ rfl rfl _ _ (hrun _) ?_)
  all_goals(go_ret;exact⟨rfl,rfl⟩)
def wF {P:Program} {α β:Type} {x:Sem α} {f:α->Sem β} {w w':World} {a:α} (h:x.run P w=.ok a w'):(x >>= f).run P w=(f a).run P w':=by rw[Sem.run_bind,h];rfl
theorem LM {P:Program} (w:World) (tS tR e:TypeId) {i:TypeInfo} (ht:P.underlying tS=some (.slice e)) (hi:P.info? e=some i) (a b:Addr) (la ca lb cb:Nat) (hne:a.block≠b.block) {u:Value} (ha:w.cell? a=some u) {cs:Array Value} {tB:TypeId} (hb:w.heap[b.block]? =some (.cells cs tB (0,0))):
 (Extern.SlicesOverlaps.overlaps #[tS,tS] #[tR] #[.slice (some a) la ca,.slice (some b) lb cb]).run P w=.ok (.bool false) w:=by
 have hnb:(a.block != b.block)=true:=Sx hne
 have hnb':(a.block==b.block)=false:=Sx hne
 have⟨tA,kA,hsa,hk,_⟩:=World.shape?_of_cell? ha;have hsb:w.shape? b.block=some (tB,cs.size):=by simp[World.shape?,hb]
 have hfb:∀o,w.frozen? {block:=b.block,off:=o}=false:=λo=>by simp[World.frozen?,hb]
 have hfb':w.frozen? b=false:=by simp[World.frozen?,hb]
 have hz:(sizeOf e).run P w=.ok i.size w:=by simp[sizeOf,typeInfo,hi]
 refine(wF (run_underlying ht w)).trans ?_;by_cases h0:la=0∨lb=0∨i.size=0
 ·simp[run_underlying ht,hz,h0]
 ·cases kA with
  |zero=>omega
  |succ kA=>
   cases hfa:w.frozen? a<;>cases hfe:w.frozen? {block:=a.block,off:=kA+1}<;>
    simp[run_underlying ht,hz,h0,hnb,hnb',frozen,noView,viewAt,mayBeOne,stringish,shape,Sem.run,hsa,hsb,hfa,hfe,hfb,hfb']
theorem Q7 (b n c i vb voff vc:Nat) (cur:Array Value) (t0:TypeId) (us:List Value) (w:World) (hi:i<n) (hroom:n+1≤c) (hc63:c≤9223372036854775807) (hvb:vb≠b) (hg:w.heap[b]? =some (.cells cur t0 (0,0))) (hcs:cur.size=c*2)
 (hul:us.length=2) (hus:∀j v,us[j]? =some v->w.cell? ⟨vb,voff+j,none⟩=some v) (h1v:∀v∈us,v.oneCell'=true) (h1c:∀j v,j<n*2->cur[j]? =some v->v.oneCell'=true)
 (X Y:Array Value) (hX:X=(cur.toList.take ((i+1)*2)++(cur.toList.drop (i*2)).take ((n-i)*2)++cur.toList.drop ((i+1)*2+(n-i)*2)).toArray) (hY:Y=(X.toList.take (i*2)++us++X.toList.drop (i*2+2)).toArray):
 Calls prog 78 #[.slice (some ⟨b,0,none⟩) n c,.int .i64 i,.slice (some ⟨vb,voff,none⟩) 1 vc] w λe w'=>e=.returned (.slice (some ⟨b,0,none⟩) (n+1) c)∧w'=(w.drew.setRow b X).setRow b Y:=by
 have ht:=Tryz.underlying29;obtain⟨ii,hii,hisz⟩:∃ii,(prog).info? 84=some ii∧ii.size=2:=⟨_,rfl,rfl⟩;have mixed:(prog).follows .mixedOrders=true:=by kernel_rfl
 have hz2:¬((i:Int)=(n:Int)):=Om
 have hz3:¬((n:Int)+1>(c:Int)):=Om
 have hov:∀lb cb,(callFunc 119 #[.slice (some ⟨vb,voff,none⟩) 1 vc,.slice (some ⟨b,(i+1)*2,none⟩) lb cb]).run prog w=.ok (.value (.bool false)) w:=λlb cb=>by
  rw[run_callFunc_extern func119 (by kernel_rfl) (by kernel_rfl) (by kernel_rfl) (e:=Extern.SlicesOverlaps.overlaps #[29,29] #[4]) (by kernel_rfl),
   LM w _ _ _ ht hii ⟨vb,voff,none⟩ ⟨b,(i+1)*2,none⟩ _ _ _ _ hvb (u:=us[0]'Om) (by have:=hus 0 (us[0]'Om) Si;simpa using this) hg]
  rfl
 have hXs:X.size=c*2:=by rw[hX];simp;omega
 have hcp1:∀ty dc sc,(Builtin.copy_ #[29,29] ty #[.slice (some ⟨b,(i+1)*2,none⟩) (n-i) dc,.slice (some ⟨b,i*2,none⟩) (n+1-i) sc]).run prog w.drew=.ok (goInt (Nat.min (n+1-i) (n-i))) (w.drew.setRow b X):=λty dc sc=>by
  have hl:((cur.toList.drop (i*2)).take ((n-i)*2)).length=(n-i)*2:=by simp;omega
  have hmn:Nat.min (n+1-i) (n-i)=n-i:=by simp only[Nat.min_def];split<;>omega
  have:=Gj (P:=prog) w.drew (sT:=29) (ty:=ty) ht hii b ((i+1)*2) (n-i) dc cur t0 hg ⟨b,i*2,none⟩ (n+1-i) sc ((cur.toList.drop (i*2)).take ((n-i)*2)) (by rw[hl,hmn,hisz]) (λj v hj=>by
   have hjl:=(Ge hj);rw[getElem?_take,if_pos Om,getElem?_drop]at hj;rw[A_,CQ (w:=w.drew) hg];simpa using hj) (by rw[hl];omega) (λv hv=>by
   obtain⟨j,hj,rfl⟩:=getElem_of_mem hv;have hj':((cur.toList.drop (i*2)).take ((n-i)*2))[j]? =some (((cur.toList.drop (i*2)).take ((n-i)*2))[j]):=getElem?_eq_getElem hj;rw[hl]at hj;rw[getElem?_take,if_pos Om,getElem?_drop]at hj';exact h1c (i*2+j) _ Om (by simpa using hj'))
  rw[hl,←hX]at this;exact this
 have hgX:(w.drew.setRow b X).heap[b]? =some (.cells X t0 (0,0)):=setRow_heap w.drew b cur X t0 _ hg;have hcp2:∀(W:World),W.heap=(w.drew.setRow b X).heap->∀ty dc,(Builtin.copy_ #[29,29] ty #[.slice (some ⟨b,i*2,none⟩) (n+1-i) dc,.slice (some ⟨vb,voff,none⟩) 1 vc]).run prog W=.ok (goInt (Nat.min 1 (n+1-i))) (W.setRow b Y):=λW hW ty dc=>by
  have hmn:Nat.min 1 (n+1-i)=1:=by simp only[Nat.min_def];split<;>omega
  have:=Gj (P:=prog) W (sT:=29) (ty:=ty) ht hii b (i*2) (n+1-i) dc X t0 (by rw[hW];exact hgX) ⟨vb,voff,none⟩ 1 vc us (by rw[hul,hmn,hisz]) (λj v hj=>by
   rw[A_];have h1:=hus j v hj;have h2:(w.drew.setRow b X).heap[vb]? =w.heap[vb]? :=setRow_other w.drew b vb X hvb;exact(World.cell?_of_block (w:=w) (by show W.heap[vb]? =_;rw[hW];exact h2)).trans h1) (by rw[hul];omega) h1v
  rw[hul,←hY]at this;exact this
 have hw1:IntKind.i64.wrap ((i:Int)+1)=(i:Int)+1:=by rw[IntKind.wrap_i64];omega
 have hw2:IntKind.i64.wrap ((n:Int)+1)=(n:Int)+1:=by rw[IntKind.wrap_i64];omega
 have hb1:(0:Int)≤(i:Int)+1:=Om
 have hin:i≤n:=Om
 have htn:((i:Int)+1).toNat=i+1:=Om
 have htn2:((n:Int)+1).toNat=n+1:=Om
 have hb2:¬(c=i+1):=Om
 have hb3:(i:Int)≤(n:Int)+1:=Om
 have hb4:¬(c=i):=Om
 clear hX hY hXs hgX h1c h1v
 go_enter func78,Tryz.ntmps78
 go_wp2_with (simp only[hov])
 go_region_law_o (refine step_copy_runI rfl _ _ 29 29 rfl _ _ (by simp[Act.eval,Act.put]) (by simp[Act.eval,Act.put]) (hcp1 _ _ _) ?_)
 go_wp2_with (at_builtin;refine wpList_copy_runI _ rfl _ _ 29 29 rfl _ _ rfl rfl (hcp2 _ rfl _ _) ?_)
 go_ret
 exact⟨rfl,rfl⟩
theorem T8 (b n c i vb voff vc:Nat) (cur:Array Value) (t0:TypeId) (us:List Value) (w:World) (hi:i<n) (hnc:n≤c) (hroom:c<n+1) (hbd:(n+1)*32≤140737488355328) (hg:w.heap[b]? =some (.cells cur t0 (0,0))) (hcs:cur.size=c*2)
 (hul:us.length=2) (hus:∀j v,us[j]? =some v->w.cell? ⟨vb,voff+j,none⟩=some v) (h1v:∀v∈us,v.oneCell'=true) (h1c:∀j v,j<n*2->cur[j]? =some v->v.oneCell'=true):
 ∃(cap:Nat) (ROW X Y:Array Value),n+1≤cap∧cap≤9223372036854775807∧ROW.size=cap*2∧ROW.toList.take (i*2)=cur.toList.take (i*2)∧X=(ROW.toList.take (i*2)++us++ROW.toList.drop (i*2+2)).toArray∧
  Y=(X.toList.take ((i+1)*2)++(cur.toList.drop (i*2)).take ((n-i)*2)++X.toList.drop ((i+1)*2+(n-i)*2)).toArray∧
  Calls prog 78 #[.slice (some ⟨b,0,none⟩) n c,.int .i64 i,.slice (some ⟨vb,voff,none⟩) 1 vc] w λe w'=>e=.returned (.slice (some ⟨w.heap.size,0,none⟩) (n+1) cap)∧
   w'.os=w.os∧w'.tape=w.tape∧w'.output=w.output∧w'.heap=(((w.alloc (.cells ROW 84)).setRow w.heap.size X).setRow w.heap.size Y).heap:=by
 have ht:=Tryz.underlying29;obtain⟨ii,z,hii,hisz,hib,hiz,hzs⟩:∃ii z,(prog).info? 84=some ii∧ii.size=2∧ii.bytes=32∧ii.zero=some z∧z.cells.size=2:=⟨_,_,rfl,rfl,rfl,rfl,rfl⟩;have mixed:(prog).follows .mixedOrders=true:=by kernel_rfl
 have hz2:¬((i:Int)=(n:Int)):=Om
 have hz3:(c:Int)<(n:Int)+1:=Om
 have hbw:b<w.heap.size:=(Array.getElem?_eq_some_iff.1 hg).1;have hvw:vb<w.heap.size:=World.block_lt_of_cell? w _ (hus 0 (us[0]'Om) Si);have hkk:(n:Int)+1-(i:Int)=((n+1-i:Nat):Int):=Om
 have hik:i+(n+1-i)=n+1:=Om
 have hi2:i*2≤cur.size:=Om
 have hold:(Builtin.firstCells ii.size i (.slice (some ⟨b,0,none⟩) i c)).run prog w.drew=.ok (cur.toList.take (i*2)).toArray w.drew:=by
  rw[hisz];exact run_firstCells_some w.drew 2 i ⟨b,0,none⟩ i c (cur.toList.take (i*2)) (by simp;omega) (λj v hj=>by
   have hjl:=(Ge hj);rw[getElem?_take]at hj;split at hj
   ·rw[A_,Nat.zero_add,CQ (w:=w.drew) hg];simpa using hj
   ·cases hj)
 obtain⟨G,hG⟩:∃G,G=grownCap w (n+1) c 84:=⟨_,rfl⟩;obtain⟨ROW,hROW⟩:∃ROW:Array Value,ROW=(cur.toList.take (i*2)).toArray++Builtin.zeroCells z.cells (n+1-i)++Builtin.zeroCells z.cells (G-(n+1)):=⟨_,rfl⟩;have hrz:∀ty,(Builtin.append_ #[29,3] ty #[.slice (some ⟨b,0,none⟩) i c,.int .i64 ((n:Int)+1-(i:Int))]).run prog w=
  .ok (.slice (some ⟨w.heap.size,0,none⟩) (n+1) G) (w.drew.alloc (.cells ROW 84)):=λty=>by
  have h:=Lib.run_append_grow_zeros (P:=prog) w 29 3 ty 84 ii z .i64 .i64 ht Tryz.underlying3 hii hiz (some ⟨b,0,none⟩) i c (cur.toList.take (i*2)) hold (n+1-i) Om Om Om Om (by rw[hib];omega) (by rw[hib,hik];exact growslice_fits hroom hbd);rw[hik]at h;rw[hkk,hROW,hG];exact h
 have hGn:n+1≤G:=by rw[hG];exact grownCap_ge w _ _ _
 have hG63:G≤9223372036854775807:=by
  have:=grownCap_le_maxLen w (n+1) c 84 (by unfold maxLen;omega);rw[←hG]at this;unfold maxLen at this;omega
 have hRs:ROW.size=G*2:=by
  rw[hROW];simp only[Array.size_append,size_toArray,size_zeroCells,hzs,length_take,Array.length_toList,Nat.min_eq_left hi2,←Nat.add_mul];congr 1;omega
 have hRt:ROW.toList.take (i*2)=cur.toList.take (i*2):=by
  rw[hROW];simp only[Array.toList_append,append_assoc];have hl:(cur.toList.take (i*2)).length=i*2:=by simp;omega
  conv=>lhs;rw[←hl]
  rw[hl,take_append_of_le_length (by rw[hl];omega),take_of_length_le (by rw[hl];omega)]
 obtain⟨X,hX⟩:∃X:Array Value,X=(ROW.toList.take (i*2)++us++ROW.toList.drop (i*2+2)).toArray:=⟨_,rfl⟩;obtain⟨Y,hY⟩:∃Y:Array Value,Y=(X.toList.take ((i+1)*2)++(cur.toList.drop (i*2)).take ((n-i)*2)++X.toList.drop ((i+1)*2+(n-i)*2)).toArray:=⟨_,rfl⟩;refine⟨G,ROW,X,Y,hGn,hG63,hRs,hRt,hX,hY,?_⟩;have hXs:X.size=G*2:=by rw[hX];simp;omega
 have hgR:(w.alloc (.cells ROW 84)).heap[w.heap.size]? =some (.cells ROW 84 (0,0)):=(C_.alloc w _).new;have hcpA:∀(W:World),W.heap=(w.alloc (.cells ROW 84)).heap->∀ty dc,(Builtin.copy_ #[29,29] ty #[.slice (some ⟨w.heap.size,i*2,none⟩) (n+1-i) dc,.slice (some ⟨vb,voff,none⟩) 1 vc]).run prog W=.ok (goInt (Nat.min 1 (n+1-i))) (W.setRow w.heap.size X):=λW hW ty dc=>by
  have hmn:Nat.min 1 (n+1-i)=1:=by simp only[Nat.min_def];split<;>omega
  have:=Gj (P:=prog) W (sT:=29) (ty:=ty) ht hii w.heap.size (i*2) (n+1-i) dc ROW 84 (by rw[hW];exact hgR) ⟨vb,voff,none⟩ 1 vc us (by rw[hul,hmn,hisz]) (λj v hj=>by
   rw[A_];have h1:=hus j v hj;exact(World.cell?_of_block (w:=w) (by show W.heap[vb]? =_;rw[hW];exact(C_.alloc w _).old hvw)).trans h1) (by rw[hul];omega) h1v
  rw[hul,←hX]at this;exact this
 have hgX:((w.alloc (.cells ROW 84)).setRow w.heap.size X).heap[w.heap.size]? =some (.cells X 84 (0,0)):=setRow_heap _ _ ROW X _ _ hgR;have hcpB:∀(W:World),W.heap=((w.alloc (.cells ROW 84)).setRow w.heap.size X).heap->∀ty dc sc,(Builtin.copy_ #[29,29] ty #[.slice (some ⟨w.heap.size,(i+1)*2,none⟩) (n-i) dc,.slice (some ⟨b,i*2,none⟩) (n-i) sc]).run prog W=.ok (goInt (Nat.min (n-i) (n-i))) (W.setRow w.heap.size Y):=λW hW ty dc sc=>by
  have hl:((cur.toList.drop (i*2)).take ((n-i)*2)).length=(n-i)*2:=by simp;omega
  have hmn:Nat.min (n-i) (n-i)=n-i:=Nat.min_self _;have hgb:W.heap[b]? =some (.cells cur t0 (0,0)):=by
   rw[hW,setRow_other _ _ _ _ Om,(C_.alloc w _).old hbw];exact hg
  have:=Gj (P:=prog) W (sT:=29) (ty:=ty) ht hii w.heap.size ((i+1)*2) (n-i) dc X 84 (by rw[hW];exact hgX) ⟨b,i*2,none⟩ (n-i) sc ((cur.toList.drop (i*2)).take ((n-i)*2)) (by rw[hl,hmn,hisz]) (λj v hj=>by
   have hjl:=(Ge hj);rw[getElem?_take,if_pos Om,getElem?_drop]at hj;rw[A_,CQ hgb];simpa using hj) (by rw[hl];omega) (λv hv=>by
   obtain⟨j,hj,rfl⟩:=getElem_of_mem hv;have hj':((cur.toList.drop (i*2)).take ((n-i)*2))[j]? =some (((cur.toList.drop (i*2)).take ((n-i)*2))[j]):=getElem?_eq_getElem hj;rw[hl]at hj;rw[getElem?_take,if_pos Om,getElem?_drop]at hj';exact h1c (i*2+j) _ Om (by simpa using hj'))
  rw[hl,←hY]at this;exact this
 have hGi:¬(G=i):=Om
 have hGim:¬(G=i+1):=Om
 have hci:¬(c=i):=Om
 have hw1:IntKind.i64.wrap ((i:Int)+1)=(i:Int)+1:=by rw[IntKind.wrap_i64];omega
 have hw2:IntKind.i64.wrap ((n:Int)+1)=(n:Int)+1:=by rw[IntKind.wrap_i64];omega
 have hw3:IntKind.i64.wrap ((n:Int)+1-(i:Int))=(n:Int)+1-(i:Int):=by rw[IntKind.wrap_i64];omega
 have hb1:(0:Int)≤(i:Int)+1:=Om
 have hin:i≤n:=Om
 have htn:((i:Int)+1).toNat=i+1:=Om
 have hb3:(i:Int)≤(n:Int):=Om
 have hb5:(i:Int)≤(n:Int)+1:=Om
 clear hkk hik hold hROW hG hX hY hXs hgX hgR hRs hRt h1c h1v hi2
 go_enter func78,Tryz.ntmps78
 go_wp2_with (at_builtin;refine Lib.wpList_append_run _ rfl _ _ _ _ rfl _ _ rfl rfl _ _ (hrz _) ?_)
 rw[hcpA _ (by rfl)]
 go_wp2_with fail
 go_region_law_o (refine step_copy_runI rfl _ _ 29 29 rfl (.slice (some ⟨w.heap.size,(i+1)*2,none⟩) (n-i) (G-(i+1))) (.slice (some ⟨b,i*2,none⟩) (n-i) (c-i)) (by simp[Act.eval,Act.put]) (by simp[Act.eval,Act.put]) (hcpB ((w.alloc (.cells ROW 84)).drew.setRow w.heap.size X).drew rfl 3 (G-(i+1)) (c-i)) ?_)
 go_wp2
 go_ret
 exact⟨rfl,rfl,rfl,rfl,rfl⟩
end
section
open Go.RowKit Go.Lib
def WL (l:List Lk) (x:Lk) (i:Nat) (hi:i≤l.length):Dt (l.take i++x::l.drop i)=(Dt l).take (i*2)++[uA x.st,GB x.bk]++(Dt l).drop (i*2):=by
 have e1:Dt (l.take i++x::l.drop i)=Dt (l.take i)++[uA x.st,GB x.bk]++Dt (l.drop i):=by
  have e:EO (l.take i++x::l.drop i)=EO (l.take i)++([F3 x]++EO (l.drop i)):=by simp[EO]
  rw[Dt,e,Fl,Fl,append_assoc];rfl
 have e2:Dt l=Dt (l.take i)++Dt (l.drop i):=by
  conv=>lhs;rw[←take_append_drop i l]
  have e:EO (l.take i++l.drop i)=EO (l.take i)++EO (l.drop i):=by simp only[EO,map_append]
  rw[Dt,e,Fl]
 have hl:(Dt (l.take i)).length=i*2:=by rw[Hr,length_take,Nat.min_eq_left hi]
 rw[e1,e2,←hl,take_left,drop_left]
def rW {G:Gh} {xs cs:List AV} {us:List Value} {C D rest:List Value} {a m:Nat} (hu:BT G cs us) (h3:∀u∈us,u.oneCell'=true) (ha:a≤xs.length) (hC:xs.length≤C.length) (hm:xs.length=a+m) (hD:D=(C.drop a).take m)
 (g4:∀(i:Nat) (x:AV) (v:Value),xs[i]? =some x->C[i]? =some v->v.oneCell'=true∧Bg G x v) (q:Nat) (x:AV) (v:Value) (hx:(xs.take a++cs++xs.drop a)[q]? =some x) (hv:(C.take a++us++D++rest)[q]? =some v):v.oneCell'=true∧Bg G x v:=by
 have hl:=hu.1;have hxa:(xs.take a).length=a:=by simp;omega
 have hCa:(C.take a).length=a:=by simp;omega
 by_cases h1:q<a
 ·rw[append_assoc,getElem?_append_left Om,getElem?_take,if_pos h1]at hx;rw[append_assoc,append_assoc,getElem?_append_left Om,getElem?_take,if_pos h1]at hv;exact g4 q x v hx hv
 ·by_cases h2:q<a+cs.length
  ·rw[getElem?_append_left (by simp;omega),getElem?_append_right Om,hxa]at hx;rw[append_assoc,getElem?_append_left (by simp;omega),getElem?_append_right Om,hCa]at hv;exact⟨h3 v (mem_of_getElem? hv),hu.2 _ x v hx hv⟩
  ·have hlx:(xs.take a++cs).length=a+cs.length:=by simp;omega
   have hlC:(C.take a++us).length=a+us.length:=by simp;omega
   rw[getElem?_append_right Om,hlx,getElem?_drop]at hx;have hq:=(Ge hx);have hDl:D.length=m:=by rw[hD];simp;omega
   rw[append_assoc (C.take a++us),getElem?_append_right Om,hlC,getElem?_append_left Om,hD,getElem?_take,if_pos Om,getElem?_drop]at hv;rw[←hl]at hv;exact g4 _ x v hx hv
def VW (C us D R:List Value) {X:List Value} {a:Nat} (ha:a+2≤C.length) (hX:X=C.take (a+2)++D++R):X.take a++us++X.drop (a+2)=C.take a++us++D++R:=by
 have hl:(C.take (a+2)).length=a+2:=by simp;omega
 have e1:X.take a=C.take a:=by
  rw[hX,append_assoc,take_append_of_le_length Om,take_take,Nat.min_eq_left Om]
 have e2:X.drop (a+2)=D++R:=by
  rw[hX,append_assoc]
  conv=>lhs;rw[←hl]
  rw[hl];rw[drop_append_of_le_length Om,drop_of_length_le Om,nil_append]
 rw[e1,e2];simp
theorem T9 (t:Gd) (l:List Lk) (x:Lk) (i:Nat) (hi:i≤l.length) (hn:l.length≤1000000):
 Ag prog 78 [.ms 0 l.length,iA i,.sl t 2 [F3 x]] [LP l] (.ms 0 (l.length+1)) [LP (l.take i++x::l.drop i)]:=by
 refine⟨⟨_,func78,by kernel_rfl,by kernel_rfl⟩,λG w vs hw hr=>?_⟩;have hl3:=hr.1;have⟨vl⟩:=vs;simp only at hr hl3;obtain⟨v0,v1,v2,rfl⟩:∃v0 v1 v2,vl=[v0,v1,v2]:=by
  match vl,hl3 with
  |[a,b,c],_=>exact⟨a,b,c,rfl⟩
 have r0:=hr.2 0 _ v0 rfl rfl;have r1:=hr.2 1 _ v1 rfl rfl;have r2:=hr.2 2 _ v2 rfl rfl;have e1:=AY r1;subst e1;have hnl:(l.take i++x::l.drop i).length=l.length+1:=by simp;omega
 have hCl:=WL l x i hi;have hxl:=Hr l;obtain⟨ii,z,hii,hisz,hib,hiz,hzs⟩:∃ii z,(prog).info? 84=some ii∧ii.size=2∧ii.bytes=32∧ii.zero=some z∧z.cells.size=2:=⟨_,_,rfl,rfl,rfl,rfl,rfl⟩;have ht:=Tryz.underlying29
 replace hw:Wd G [.mrow 2 l.length (Dt l)] w:=hw
 show Calls _ _ _ w λe w'=>∃v G',e=.returned v∧Bg G' (.ms 0 (l.length+1)) v∧AS G [.mrow 2 l.length (Dt l)] w G' [LP (l.take i++x::l.drop i)] w'
 generalize hx':LP (l.take i++x::l.drop i)=o';have ho':o'=.mrow 2 (l.length+1) ((Dt l).take (i*2)++[uA x.st,GB x.bk]++(Dt l).drop (i*2)):=by
  rw[←hx'];show Ac.mrow 2 (l.take i++x::l.drop i).length (Dt (l.take i++x::l.drop i))=_;rw[hnl,hCl]
 clear hx';subst ho';have hlen:((Dt l).take (i*2)++[uA x.st,GB x.bk]++(Dt l).drop (i*2)).length=(l.length+1)*2:=by
  simp only[length_append,length_take,length_drop,hxl,length_cons,length_nil];omega
 generalize hn':l.length=n at*;generalize Dt l=xs at*;cases r0 with
 | @ms _ _ A c hh hA=>
   have⟨_,_,A',c',q1,q2,q3,q6,q4⟩:=hw.mrow 0 2 n xs rfl;rw[hh]at q1;injection q1 with q1;injection q1 with e1 _ e3;subst e1 e3;obtain⟨B,m,vc,rfl⟩:∃B m vc,v2=.slice B m vc:=by cases r2;exact⟨_,_,_,rfl⟩
   have⟨us,hm,huc,hul,hu1,hu2,huk,hu3,_⟩:=EE r2 De;have hm1:m=1:=hm;subst hm1;have hul2:us.length=2:=hul;obtain⟨b2,o2,rfl,hu4⟩:=hu3 Si;have hus:∀(j:Nat) (u:Value),us[j]? =some u->w.cell? ⟨b2,o2+j,none⟩=some u:=λj u hu=>hw.imm _ _ _ (hu4 j u hu)
   have hur:BT G [uA x.st,GB x.bk] us:=by
    refine⟨by rw[hul2];rfl,λj y v hy hv=>?_⟩;have⟨u,h1,h2⟩:=hu2 0 j (F3 x) y rfl hy;rw[Nat.zero_mul,Nat.zero_add,hv]at h1;injection h1 with h1;subst h1;exact h2
   have fin:∀(w':World) (b c'':Nat) (C:List Value) (Y:Array Value) (t0:TypeId),CE (λb=>blk G [.mrow 2 n xs] 0≠some b) w w'->w'.heap[b]? =some (.cells Y t0 (0,0))->Y.size=c''*2->n+1≤c''->c''≤9223372036854775807->(w.heap.size≤b∨blk G [.mrow 2 n xs] 0=some b)->
    xs.length≤C.length->(∀(i:Nat) (x:AV) (v:Value),xs[i]? =some x->C[i]? =some v->v.oneCell'=true∧Bg G x v)->(∃rest,Y.toList=C.take (i*2)++us++(C.drop (i*2)).take ((n-i)*2)++rest)->
    ∃v G',Ending.returned (.slice (some ⟨b,0,none⟩) (n+1) c'')=.returned v∧Bg G' (.ms 0 (n+1)) v∧AS G [.mrow 2 n xs] w G' [.mrow 2 (n+1) (xs.take (i*2)++[uA x.st,GB x.bk]++xs.drop (i*2))] w':=by
    intro w' b c'' C Y t0 hk hb hY hc1 hc2 hown hC hg ⟨rest,hYe⟩;have:=AS.mrowTo (j:=0) (n:=n+1) (c:=c'') (A:=some ⟨b,0,none⟩) (xs:=xs.take (i*2)++[uA x.st,GB x.bk]++xs.drop (i*2)) hw (.inr ⟨n,xs,rfl,.inl Om⟩) De hlen hc1 hc2 hk
     (λ_=>⟨b,Y,t0,rfl,hb,hY,λq y v hy hv=>rW (m:=(n-i)*2) hur hu1 Om hC Om rfl hg q y v hy (by rw[←hYe];simpa using hv),hown⟩)
    refine⟨_,_,rfl,?_,by simpa using this⟩;exact .ms (by simp[Gh.newHist]) λ_=>⟨b,rfl⟩
   by_cases hin:i=n
   ·subst hin;by_cases hroom:i+1≤c
    ·have⟨b,cur,t0,e1,g2,g3,g4,g5⟩:=q4 Om;subst e1;have hb:blk G [.mrow 2 i xs] 0=some b:=by simp[blk,hh,show 0<c by omega]
     have hrn:=λty=>EV (P:=prog) w 29 ty 84 t0 ii ht hii b i c cur g2 ⟨b2,o2,none⟩ 1 vc us (by rw[hul2,hisz]) (λj u hu=>by rw[A_];exact hus j u hu) hu1 hroom (by rw[hul2,hisz];omega)
     refine(Nr (some ⟨b,0,none⟩) i c b2 o2 vc w Om (λh=>by cases h) hrn).mono ?_;rintro e w' ⟨rfl,rfl⟩;have htn:=CH (cs':=(cur.toList.take (i*ii.size)++us++cur.toList.drop (i*ii.size+us.length)).toArray) g2;refine fin _ b c cur.toList _ t0 (htn.own hb) htn.here (by rw[hisz];simp;omega) hroom q6 (.inr hb) (by simp;omega) (λq x v hx hv=>g4 q x v hx (by simpa using hv)) ⟨cur.toList.drop (i*2+us.length),?_⟩;rw[hisz,Nat.sub_self,Nat.zero_mul,take_zero,append_nil]
    ·have hci:c=i:=Om
     have hold:∃olds:List Value,olds.length=i*2∧(∀ad,A=some ad->∀j v,olds[j]? =some v->w.cell? (ad.add j)=some v)∧(A=none->c=0∧i=0)∧∀(q:Nat) (x:AV) (v:Value),xs[q]? =some x->olds[q]? =some v->v.oneCell'=true∧Bg G x v:=by
      by_cases hc:0<c
      ·have⟨b,cur,t0,e1,g2,g3,g4,g5⟩:=q4 hc;subst e1;have hcl:(cur.toList.take (i*2)).length=i*2:=by simp;omega
       have hcg:∀(q:Nat) (v:Value),(cur.toList.take (i*2))[q]? =some v->cur[q]? =some v:=λq v hv=>by
        have:=(Ge hv);rw[getElem?_take,if_pos Om]at hv;simpa using hv
       exact⟨cur.toList.take (i*2),hcl,λad had j v hv=>by injection had with had;subst had;rw[A_,Nat.zero_add,CQ g2];exact hcg j v hv,λhA=>(by cases hA),λq x v hx hv=>g4 q x v hx (hcg q v hv)⟩
      ·exact⟨[],by simp;omega,λ_ _ _ _ h=>by simp at h,λ_=>⟨Om,Om⟩,λq x v _ h=>by simp at h⟩
     have⟨olds,hol,ho1,ho2,ho3⟩:=hold;have⟨cap,cells,hrn,hge,h63,hcs,hpre⟩:=H7 (P:=prog) w (ty:=0) ht hii hiz (by rw[hzs,hisz]) Om A i c olds (by rw[hol,hisz]) ho1 ho2 ⟨b2,o2,none⟩ 1 vc us (by rw[hul2,hisz]) (λj u hu=>by rw[A_];exact hus j u hu) Om Om (by rw[hib];omega);refine(Nr A i c b2 o2 vc w Om (λh=>(ho2 h).1) (λty=>hrn)).mono ?_;rintro e w' ⟨rfl,rfl⟩;have hmo:=C_.drew w (.cells cells 84);have hou:(olds++us).length=(i+1)*2:=by simp[hol,hul2];omega
     refine fin _ w.heap.size cap olds cells 84 (hmo.kept _) hmo.new (by rw[hcs,hisz]) hge h63 (.inl (Nat.le_refl _)) Om ho3 ⟨cells.toList.drop ((i+1)*2),?_⟩;have h1:olds.take (i*2)=olds:=take_of_length_le Om;have h2:cells.toList.take ((i+1)*2)=olds++us:=by
      apply ext_getElem?;intro q;by_cases hq:q<(i+1)*2
      ·rw[getElem?_take,if_pos hq];have:=hpre q _ (getElem?_eq_getElem (show q<(olds++us).length by omega));rw[getElem?_eq_getElem (show q<(olds++us).length by omega),←this];simp
      ·rw[getElem?_eq_none (by simp;omega),getElem?_eq_none Om]
     rw[Nat.sub_self,Nat.zero_mul,take_zero,append_nil,h1,←h2,take_append_drop]
   ·have hlt:i<n:=Om
    have⟨b,cur,t0,e1,g2,g3,g4,g5⟩:=q4 Om;subst e1;have hb:blk G [.mrow 2 n xs] 0=some b:=by simp[blk,hh,show 0<c by omega]
    have hvb:b2≠b:=by
     rintro rfl;have:=hu4 0 _ (getElem?_eq_getElem (show 0<us.length by omega));rw[g5]at this;cases this
    have hone:∀(j:Nat) (v:Value),j<n*2->cur[j]? =some v->v.oneCell'=true:=λj v hj hv=>(g4 j _ v (getElem?_eq_getElem (show j<xs.length by omega)) hv).1
    have hgr:∀(q:Nat) (x:AV) (v:Value),xs[q]? =some x->cur.toList[q]? =some v->v.oneCell'=true∧Bg G x v:=λq x v hx hv=>g4 q x v hx (by simpa using hv)
    by_cases hroom:n+1≤c
    ·refine(Q7 b n c i b2 o2 vc cur t0 us w hlt hroom q6 hvb g2 g3 hul2 hus hu1 hone _ _ rfl rfl).mono ?_;rintro e w' ⟨rfl,rfl⟩;have hd:w.drew.heap[b]? =some (.cells cur t0 (0,0)):=g2;have t1:=CH (cs':=(cur.toList.take ((i+1)*2)++(cur.toList.drop (i*2)).take ((n-i)*2)++cur.toList.drop ((i+1)*2+(n-i)*2)).toArray) hd;have t2:=CH (cs':=((cur.toList.take ((i+1)*2)++(cur.toList.drop (i*2)).take ((n-i)*2)++cur.toList.drop ((i+1)*2+(n-i)*2)).toArray.toList.take (i*2)++us++(cur.toList.take ((i+1)*2)++(cur.toList.drop (i*2)).take ((n-i)*2)++cur.toList.drop ((i+1)*2+(n-i)*2)).toArray.toList.drop (i*2+2)).toArray) t1.here;have k1:CE (λb=>blk G [.mrow 2 n xs] 0≠some b) w w.drew:=(CE.refl _ w).drew;refine fin _ b c cur.toList _ t0 ((k1.trans (t1.kept λhn=>hn hb)).trans (t2.kept λhn=>hn hb)) t2.here (by simp;omega) hroom q6 (.inr hb) (by simp;omega) hgr ⟨cur.toList.drop ((i+1)*2+(n-i)*2),?_⟩;exact VW (a:=i*2) _ us _ _ (by simp;omega) (by rw[show i*2+2=(i+1)*2 by omega])
    ·have⟨cap,ROW,X,Y,h1,h2,h3,h4,hX,hY,hcall⟩:=T8 b n c i b2 o2 vc cur t0 us w hlt q3 Om Om g2 g3 hul2 hus hu1 hone;refine hcall.mono ?_;rintro e w' ⟨rfl,ho,htp,hout,hheap⟩;have m0:=C_.alloc w (.cells ROW 84);have t1:=CH (cs':=X) m0.new;have t2:=CH (cs':=Y) t1.here;have hXs:X.size=cap*2:=by rw[hX];simp;omega
     have hYs:Y.size=cap*2:=by rw[hY];simp;omega
     have hk:CE (λb=>blk G [.mrow 2 n xs] 0≠some b) w w':=⟨ho,htp,hout,by rw[hheap,t2.size,t1.size,m0.size];omega,λq hq _=>by rw[hheap,t2.other q Om,t1.other q Om,m0.old hq]⟩;refine fin w' w.heap.size cap cur.toList Y 84 hk (by rw[hheap];exact t2.here) hYs h1 h2 (.inl (Nat.le_refl _)) (by simp;omega) hgr ⟨X.toList.drop ((i+1)*2+(n-i)*2),?_⟩;rw[hY];show X.toList.take ((i+1)*2)++_++_=_;have e1:X.toList.take ((i+1)*2)=cur.toList.take (i*2)++us:=by
      rw[hX];show(ROW.toList.take (i*2)++us++_).take ((i+1)*2)=_;rw[h4,take_append_of_le_length (by simp;omega),take_of_length_le (by simp;omega)]
     rw[e1]
theorem bR (t:Gd) (x:Lk):(AV.sl t 2 [F3 x]).ren=λρ=>.sl (t.ren ρ) 2 [F3 x]:=by
 funext ρ;rw[V_];simp[AD]
def Ol (l:List Lk) (x:Lk) (k i:Nat) (hi:i≤l.length) (hn:l.length≤1000000):
 Ct prog 78 [.ms k l.length,iA i,.sl .full 2 [F3 x]] [(k,LP l)] (λ_=>.ms k (l.length+1)) [(k,LP (l.take i++x::l.drop i))] (λ_=>[]):=
 Ct.o1 (T9 .full l x i hi hn) k (λN=>by simp[bR,AD]) (λρ=>L7 ρ _) (λρ=>L7 ρ _) (by simp[LP]) (λN=>by simp[AD])
end
theorem aN (f:FuncId) (o:Ac) (ok:Lk->Bool) (ho:∀ρ,o.ren ρ=o) (hd:o≠ .dead) (l:List Lk) (hf:∀x∈l,∀i,Ct prog f [F3 x,.ref i 0] [(i,o)] (λ_=>bA (ok x)) [] (λ_=>[])) (hn:l.length≤1000000):
 Ag prog 75 [.ms 0 l.length,.fn f [] [.ref 1 0]] [.mrow 2 l.length (Dt l),o] (iA (l.findIdx ok)) [.mrow 2 l.length (Dt l),o]:=by
 have hcl:=Hr l;have hcr:=λρ=>DR ρ l
 refine RM func75 b75 ?_
 refine AA (α:=Nat) (λk=>.ms 0 l.length::.fn f [] [.ref 1 0]::.any::.any::.any::.any::.any::.ms 0 l.length::iA l.length::iA k::Ay (Ay [.any,.any,.any])) (λ_=>[.mrow 2 l.length (Dt l),o]) (λk=>k≤l.length∧∀i (h:i<l.length),i<k->ok l[i]=false) (λk=>l.length-k) 0 ⟨Si,λi _ hi=>by omega⟩ (Wk.to Si (by simp[B6])) ?_;rintro k ⟨hk,hall⟩;refine (mp ?_).1;by_cases hlt:k<l.length
 ·have q1:decide ((k:Int)<(l.length:Int))=true:=by simp;omega
  have ek:=Am k Om;have g:=TK l k hlt;have eg:l.getD k B_=l[k]:=by simp[hlt]
  have hm:=DC l k hlt;have hfx:=hf _ hm 1;rw[eg]at g hfx;refine (mt q1 g hcl @Int.toNat_natCast ?_).1;(repeat with_reducible refine Sa ?_);refine Aa.r1 (hfx) rfl ?_;by_cases hs:ok l[k]=true
  ·have e:l.findIdx ok=k:=by
    rw[findIdx_eq hlt];exact⟨hs,λj hj=>hall j Om hj⟩
   refine (mq hs ?_).1
   (refine FB b75 [0,1] ?_ ?_<;>first|with_reducible rfl|(simp[e,ho,hcr];done)|rfl)
  ·have hs':ok l[k]=false:=Sx hs
   refine (mr hs' ek ?_).1;exact⟨k+1,⟨hlt,λi h hi=>by
    rcases Nat.lt_or_ge i k with h1|h1
    ·exact hall i h h1
    ·obtain rfl:i=k:=Om
     exact hs'⟩,Om,Wk.sel [0,1] Si rfl Si rfl (by simp[ho,hcr]) (by simp[Ch,AD])⟩
 ·have q1:decide ((k:Int)<(l.length:Int))=false:=by simp;omega
  have e:l.findIdx ok=l.length:=Y7 λx hx=>by
   obtain⟨i,hi,rfl⟩:=getElem_of_mem hx;exact hall i hi Om
  refine (mq q1 ?_).1
  (refine FB b75 [0,1] ?_ ?_<;>first|with_reducible rfl|(simp[e,ho,hcr];done)|rfl)
def Th (f:FuncId) (o:Ac) (ok:Lk->Bool) (ho:∀ρ,o.ren ρ=o) (hd:o≠ .dead) (l:List Lk) (hf:∀x∈l,∀i,Ct prog f [F3 x,.ref i 0] [(i,o)] (λ_=>bA (ok x)) [] (λ_=>[])) (hn:l.length≤1000000) (i j:Nat) (hij:i≠j):
 Ct prog 75 [.ms i l.length,.fn f [] [.ref j 0]] [(i,.mrow 2 l.length (Dt l)),(j,o)] (λ_=>iA (l.findIdx ok)) [] (λ_=>[]):=
 Ct.r2 (aN f o ok ho hd l hf hn) i j hij (λN=>by simp[AD]) (λN=>by rw[DP,DR]) (λN=>ho _) Si hd (λρ=>by simp[AD])
abbrev oL (x:Lk):Ac:=.cells [uA x.st,GB x.bk]
def L8 (ρ:Nat->Nat) (x:Lk):(oL x).ren ρ=oL x:=by simp[AD]
def TQ (x y:Lk):Ag prog 77 [F3 y,.ref 0 0] [oL x] (bA (y.st==x.st)) [oL x]:=by
 refine RM func77 b77 ?_
 exact FA b77 [0]
def WP (x y:Lk) (i:Nat):Ct prog 77 [F3 y,.ref i 0] [(i,oL x)] (λ_=>bA (y.st==x.st)) [] (λ_=>[]):=
 Ct.r1 (TQ x y) i cl (λρ=>L8 ρ x) Si Dl
def TP (x y:Lk):Ag prog 79 [F3 y,.ref 0 0] [oL x] (bA (decide (x.st<y.st))) [oL x]:=by
 refine RM func79 b79 ?_
 exact FA b79 [0]
def WN (x y:Lk) (i:Nat):Ct prog 79 [F3 y,.ref i 0] [(i,oL x)] (λ_=>bA (decide (x.st<y.st))) [] (λ_=>[]):=
 Ct.r1 (TP x y) i cl (λρ=>L8 ρ x) Si Dl
def TS (id:Int) (y:Lk):Ag prog 76 [F3 y,.ref 0 0] [Tr id] (bA (y.st==id)) [Tr id]:=by
 refine RM func76 b76 ?_
 exact FA b76 [0]
def WU (id:Int) (y:Lk) (i:Nat):Ct prog 76 [F3 y,.ref i 0] [(i,Tr id)] (λ_=>bA (y.st==id)) [] (λ_=>[]):=
 Ct.r1 (TS id y) i cl (λρ=>by simp[AD]) Si Dl
def B9 (l:List Lk) (id:Int):Nat:=l.findIdx λy=>y.st==id
def WV (l:List Lk) (id:Int) (hm:B7 l):Ag prog 44 [C3 l,uA id] [] (.tup [F3 (if B9 l id=l.length then B_ else l.getD (B9 l id) B_),bA (!decide (B9 l id=l.length))]) []:=by
 have hle:B9 l id≤l.length:=findIdx_le_length;have e0:(l.findIdx λy=>y.st==id)=B9 l id:=rfl;refine RM func44 b44 ?_
 (repeat with_reducible refine Sa ?_);refine Aa.r1 (Nd 76 (Tr id) (λy=>y.st==id) (λρ=>by simp[AD]) Si l (λy _ i=>WU id y i) hm.1 0) rfl (mr @Ao e0 ?_).1;by_cases h:B9 l id=l.length
 ·have q:(((B9 l id:Nat):Int)==(l.length:Int))=true:=by simp[h]
  rw[if_pos h,decide_eq_true h];refine (mq q ?_).1;(repeat with_reducible refine Sa ?_);refine UO 1 ?_
  (refine FB b44 [] ?_ ?_<;>first|with_reducible rfl|(simp[B_,AU];done)|rfl)
 ·have q:(((B9 l id:Nat):Int)==(l.length:Int))=false:=by simp;omega
  have hlt:B9 l id<l.length:=Om
  have g:=Cm l (B9 l id) hlt;have hbk:=hm.2 _ (DC l (B9 l id) hlt);rw[if_neg h,decide_eq_false h];refine (mt q g @Ao @Int.toNat_natCast ?_).1;(repeat with_reducible refine Sa ?_);refine Aa.p (Nf (l.getD (B9 l id) B_) hbk) (mp ?_).1;(repeat with_reducible refine Sa ?_);exact FA b44 []
theorem cD (l:List Lk) (id:Int) (hm:B7 l):Ct Tryz.prog 44 [C3 l,uA id] [] (λ_=>.tup [F3 (if B9 l id=l.length then B_ else l.getD (B9 l id) B_),bA (!decide (B9 l id=l.length))]) [] (λ_=>[]):=(WV l id hm).toCt cl cl
def El (l:List Lk) (x:Lk):List Lk:=if B9 l x.st<l.length then l.set (B9 l x.st) x else l.take (l.findIdx λy=>decide (x.st<y.st))++x::l.drop (l.findIdx λy=>decide (x.st<y.st))
def O8 (l:List Lk) (x:Lk):(El l x).length=if B9 l x.st<l.length then l.length else l.length+1:=by
 unfold El;have hle:(l.findIdx λy=>decide (x.st<y.st))≤l.length:=findIdx_le_length;split
 ·simp
 ·simp;omega
def Ng (l:List Lk) (hm:B7 l):Ct prog 21 [C3 l] [] (λn=>.ms n l.length) [] (λ_=>[.mrow 2 l.length (Dt l)]):=
 Ct.n (TU l hm) cl (λn N=>by simp[AH,range'_succ]) (λn N=>by rw[map_cons,map_nil,DP,DR])
theorem WQ (l:List Lk) (x:Lk) (hm:B7 l) (hx:x.bk.length≤1000000):Ag prog 45 [C3 l,F3 x] [] (.ms 0 (El l x).length) [LP (El l x)]:=by
 have hle:B9 l x.st≤l.length:=findIdx_le_length;have hle2:(l.findIdx λy=>decide (x.st<y.st))≤l.length:=findIdx_le_length;have e0:(l.findIdx λy=>y.st==x.st)=B9 l x.st:=rfl;have hwl:=O8 l x;have hcr:=λρ m=>DR ρ m
 refine RM func45 b45 ?_
 (repeat with_reducible refine Sa ?_);refine Aa.n (Ng l hm) (mp ?_).1;(repeat with_reducible refine Sa ?_);refine Aa.p (Nf x hx) (mp ?_).1;(repeat with_reducible refine Sa ?_);refine Aa.r2 (Th 77 (oL x) (λy=>y.st==x.st) (λρ=>L8 ρ x) Si l (λy _ i=>WP x y i) hm.1 1 0 De) rfl rfl (mq e0 ?_).1;by_cases h:B9 l x.st<l.length
 ·have q:decide (((B9 l x.st:Nat):Int)<(l.length:Int))=true:=by simp;omega
  have ew:El l x=l.set (B9 l x.st) x:=by unfold El;rw[if_pos h]
  have hs:=YU l x (B9 l x.st) h;have hcl:=Hr l;rw[if_pos h]at hwl;refine (mt q @Int.toNat_natCast hcl hs ?_).1;(repeat with_reducible refine Sa ?_);have er:LP (El l x)=.mrow 2 l.length (Dt (l.set (B9 l x.st) x)):=by
   show Ac.mrow 2 (El l x).length (Dt (El l x))=_;rw[hwl,ew]
  rw[er,hwl]
  exact FE b45 [1] hcr
 ·have q:decide (((B9 l x.st:Nat):Int)<(l.length:Int))=false:=by simp;omega
  have ew:El l x=l.take (l.findIdx λy=>decide (x.st<y.st))++x::l.drop (l.findIdx λy=>decide (x.st<y.st)):=by unfold El;rw[if_neg h]
  rw[if_neg h]at hwl;refine (mq q ?_).1;refine Aa.r2 (Th 79 (oL x) (λy=>decide (x.st<y.st)) (λρ=>L8 ρ x) Si l (λy _ i=>WN x y i) hm.1 1 0 De) rfl rfl (mp ?_).1;(repeat with_reducible refine Sa ?_);refine Aa.o1 (Ol l x 1 _ hle2 hm.1) rfl (mp ?_).1;rw[hwl,←ew];refine FB b45 [1] ?_ ?_
  ·simp only[map_cons,map_nil,getElem?_cons_succ,getElem?_cons_zero,L7]
  ·simp[B8,D1,D4,Ci]
def rI (ρ:Nat->Nat) (l:List Lk):(EO l).map (λx=>x.ren ρ)=EO l:=DM ρ l
def bX (l:List Lk) (x:Lk) (hm:B7 l) (hx:x.bk.length≤1000000):Ct prog 45 [C3 l,F3 x] [] (λ_=>C3 (El l x)) [] (λ_=>[]):=((WQ l x hm hx).freeze (EO (El l x)) (Ao _) (TG _) (λρ=>rI ρ _)).toCt cl cl
theorem Wk.mwa {m:Nat} {tm:List AV} {S:List Ac} (j:Nat) {k n:Nat} {xs ys:List AV} (hj:S[j]? =some (.mrow k n xs)) (h:DG xs ys):Wk m tm S tm (S.set j (.mrow k n ys)):=λG0 S0 w0 G a w _ hz=>by
 have⟨hk,hl,A,c,h1,h2,h3,hc6,h4⟩:=hz.left.wd.mrow j k n xs hj;have hm:=AS.mrowTo (j:=j) (k:=k) (n:=n) (c:=c) (xs:=ys) (A:=A) hz.left.wd (.inr ⟨n,xs,hj,.inr ⟨rfl,h1⟩⟩) hk (by rw[←h.1];exact hl) h3 hc6 (CE.refl _ w) (λh0=>by
  have⟨b,cs,t,e1,e2,e3,e4,_⟩:=h4 h0;refine⟨b,cs,t,e1,e2,e3,λi x v hx hv=>?_,.inr ?_⟩
  ·have hi:i<xs.length:=by rw[h.1];exact(Ge hx)
   have he:=getElem?_eq_getElem hi;have⟨o1,o2⟩:=e4 i _ v he hv;exact⟨o1,(h.2 i _ x he hx).val _ _ o2⟩
  ·simp[blk,hj,h1,e1,h0])
 exact⟨_,hz.left.trans hm,hz.size,λt' x u hx hu=>(hz.rep t' x u hx hu).mono hm.le,hz.defers,hz.wd0⟩
def Fzd (k:Nat) (G:Gh) (L:List (Nat×List AV)):Prop:=∀p∈L,∀v,Bg G (.ms p.1 p.2.length) v->Bg G (.sl .none k p.2) v
def fzT (k:Nat) (L:List (Nat×List AV)) (T:List Ac):List Ac:=L.foldl (λT p=>T.set p.1 (.row k p.2.length)) T
theorem AS.fz1 {k:Nat} {G:Gh} {T:List Ac} {w:World} (j:Nat) (zs:List AV) (h:Wd G T w) (hj:T[j]? =some (.mrow k zs.length (flat zs))) (hk:∀z∈zs,z.cells.length=k):
 ∃G',AS G T w G' (T.set j (.row k zs.length)) w∧∀v,Bg G' (.ms j zs.length) v->Bg G' (.sl .none k zs) v:=by
 have⟨_,_,A,c,h1,_⟩:=h.mrow j k _ _ hj;have⟨G',hl',hh',vs,v1,v2,v3,v4,v5⟩:=AS.freeze h hj h1;refine⟨G',hl',λv r=>?_⟩;cases r with
 | @ms _ _ A' c' hh hA=>
   rw[hh']at hh;injection hh with hh;injection hh with e1 e2 e3;subst e1 e3;by_cases h0:0<zs.length
   ·obtain⟨b,rfl,v6⟩:=v5 h0;exact C5 v1 v2 v3 (λi x hx=>hk x (mem_of_getElem? hx)) v6 (λi j x y u h1 h2 h3=>v4 _ y u (Mc zs hk i j x y h1 h2) h3) trivial
   ·have hzn:zs=[]:=eq_nil_of_length_eq_zero Om;subst hzn;exact Bg.sl (b:=0) (o:=0) (λ_ _=>undef) v2 (λh=>by simp at h) (λi x h=>by simp at h) (λi j h=>by simp at h) (λi j h=>by simp at h) (λi j x y h=>by simp at h) trivial
theorem AS.fzL {k:Nat}:∀(L:List (Nat×List AV)) {G:Gh} {T:List Ac} {w:World},Wd G T w->(L.map (·.1)).Nodup->(∀p∈L,T[p.1]? =some (.mrow k p.2.length (flat p.2)))->(∀p∈L,∀z∈p.2,z.cells.length=k)->
 ∃G',AS G T w G' (fzT k L T) w∧Fzd k G' L
 |[],G,T,w,h,_,_,_=>⟨G,AS.refl h,λp hp=>by simp at hp⟩
 |p::L,G,T,w,h,hn,hT,hk=>by
  have⟨G1,l1,r1⟩:=AS.fz1 p.1 p.2 h (hT p Si) (hk p Si);have hn':=nodup_cons.1 (by simpa using hn:(p.1::L.map (·.1)).Nodup);have⟨G2,l2,r2⟩:=AS.fzL L l1.wd hn'.2 (λq hq=>by
   have hne:p.1≠q.1:=λe=>hn'.1 (by rw[e];exact mem_map.2 ⟨q,hq,rfl⟩)
   rw[getElem?_set_ne hne];exact hT q (by simp[hq])) (λq hq=>hk q (by simp[hq]))
  refine⟨G2,l1.trans l2,λq hq v r=>?_⟩;rcases mem_cons.1 hq with rfl|hq
  ·have hlt:=(Ge (hT q Si));have⟨_,A,c,h1,_⟩:=l1.wd.row q.1 k q.2.length (by rw[getElem?_set_self hlt]);cases r with
   | @ms _ _ A' c' hh hA=>
     have h2:=l2.le.hist _ _ _ h1;rw[h2]at hh;injection hh with hh;injection hh with e1 e2 e3;subst e1 e3;exact(r1 _ (.ms h1 hA)).mono l2.le
  ·exact r2 q hq v r
theorem Ag.fzL {P:Program} {f:FuncId} {args:List AV} {S S':List Ac} {r r':AV} (h:Ag P f args S r S') (k:Nat) (L:List (Nat×List AV)) (hn:(L.map (·.1)).Nodup) (hT:∀p∈L,S'[p.1]? =some (.mrow k p.2.length (flat p.2)))
 (hk:∀p∈L,∀z∈p.2,z.cells.length=k) (hr:∀G v,Fzd k G L->Bg G r v->Bg G r' v):Ag P f args S r' (fzT k L S'):=by
 refine⟨h.1,λG w vs hw hra=>(h.2 G w vs hw hra).mono ?_⟩;rintro e w' ⟨v,G',rfl,hv,hs⟩;have⟨G2,l2,r2⟩:=AS.fzL L hs.wd hn hT hk;exact⟨v,G2,rfl,hr G2 v r2 (hv.mono l2.le),hs.trans l2⟩
structure Qk (G:Gh) (x y:AV):Prop where
 len:x.cells.length=y.cells.length
 val:∀v,Bg G x v->Bg G y v
 cel:∀(j:Nat) (a b:AV),x.cells[j]? =some a->y.cells[j]? =some b->∀v,Bg G a v->Bg G b v
def GG (G:Gh) (xs ys:List AV):Prop:=xs.length=ys.length∧∀(j:Nat) (x y:AV),xs[j]? =some x->ys[j]? =some y->Qk G x y
section
variable {G:Gh}
theorem Qk.refl (x:AV):Qk G x x:=⟨rfl,λ_ r=>r,λj a b ha hb v r=>by rw[ha]at hb;injection hb with hb;subst hb;exact r⟩
theorem GG.nil:GG G [] []:=⟨rfl,λj x y h=>by simp at h⟩
theorem GG.cons {x y:AV} {xs ys:List AV} (h:Qk G x y) (k:GG G xs ys):GG G (x::xs) (y::ys):=by
 refine⟨by simp[k.1],λj a b ha hb=>?_⟩;cases j with
 |zero=>simp at ha hb;subst ha hb;exact h
 |succ j=>simp at ha hb;exact k.2 j a b ha hb
def M5 {x y:AV} (hx:x.cells=[x]) (hy:y.cells=[y]) (h:∀v,Bg G x v->Bg G y v):Qk G x y:=by
 refine⟨by rw[hx,hy];rfl,h,λj a b ha hb v r=>?_⟩;rw[hx]at ha;rw[hy]at hb;cases j with
 |zero=>simp at ha hb;subst ha hb;exact h v r
 |succ j=>simp at ha
theorem Qk.sl {t:Gd} {k:Nat} {xs ys:List AV} (hw:GG G xs ys):Qk G (.sl t k xs) (.sl .none k ys):=by
 have⟨hl,h⟩:=hw;refine M5 rfl rfl λv r=>?_
 cases r with
 | @sl _ _ _ A c b o vs hc hA hk1 h1 h2 h3 ht1=>
   have main:Bg G (.sl .none k ys) (.slice A ys.length c):=by
    refine .sl (b:=b) (o:=o) vs (by rw[←hl];exact hc) (by rw[←hl];exact hA) (λi y hy=>?_) (by rw[←hl];exact h1) (by rw[←hl];exact h2) (λi j y z hy hz=>?_) trivial
    ·have hi:i<xs.length:=by rw[hl];exact(Ge hy)
     have hx:=getElem?_eq_getElem hi;rw[←(h i _ y hx hy).len];exact hk1 i _ hx
    ·have hi:i<xs.length:=by rw[hl];exact(Ge hy)
     have hx:=getElem?_eq_getElem hi;have hw:=h i _ y hx hy;have hj:j<xs[i].cells.length:=by rw[hw.len];exact(Ge hz)
     have hu:=getElem?_eq_getElem hj;exact hw.cel j _ z hu hz _ (h3 i j _ _ hx hu)
   rw[←hl]at main;exact main
theorem Qk.agg {xs ys:List AV} (hw:GG G xs ys):Qk G (.agg xs) (.agg ys):=by
 have⟨hl,h⟩:=hw;refine⟨hl,λv r=>?_,λj a b ha hb v r=>(h j a b ha hb).val v r⟩;cases r with
 | @agg _ vs h0 h2 h3=>
   refine .agg (by rw[←hl];exact h0) h2 λj y v hy hv=>?_
   have hj:j<xs.length:=by rw[hl];exact(Ge hy)
   have hx:=getElem?_eq_getElem hj;exact(h j _ y hx hy).val v (h3 j _ v hx hv)
theorem Qk.tup {xs ys:List AV} (hw:GG G xs ys):Qk G (.tup xs) (.tup ys):=by
 have⟨hl,h⟩:=hw;refine M5 rfl rfl λv r=>?_
 cases r with
 | @tup _ vs h0 h3=>
   refine .tup (by rw[←hl];exact h0) λj y v hy hv=>?_
   have hj:j<xs.length:=by rw[hl];exact(Ge hy)
   have hx:=getElem?_eq_getElem hj;exact(h j _ y hx hy).val v (h3 j _ v hx hv)
end
theorem Wk.cut {m:Nat} {tm tm':List AV} {A D Y Y':List Ac} (hm:m≤A.length)
 (h:∀ρ:Nat->Nat,(∀i,i<A.length->ρ i=i)->(∀j,j<Y'.length->ρ (A.length+j)=A.length+D.length+j)->A.map (λo=>o.ren ρ)=A∧Y'.map (λo=>o.ren ρ)=Y∧Ch ρ tm tm'):Wk m tm (A++(D++Y)) tm' (A++Y'):=by
 obtain⟨ids,hids⟩:∃ids,ids=List.range A.length++range' (A.length+D.length) Y'.length:=⟨_,rfl⟩;have hlen:ids.length=A.length+Y'.length:=by rw[hids];simp
 have⟨h1,h2,h3⟩:=h (AH ids (A++(D++Y)).length)
  (λi hi=>Eb (by rw[hids,getElem?_append_left (by simpa using hi)];simp[hi]))
  (λj hj=>Eb (by rw[hids,getElem?_append_right Si];simp[hj]))
 have hYl:Y.length=Y'.length:=by rw[←h2];simp
 have e1:(A++Y').map (λo=>some (o.ren (AH ids (A++(D++Y)).length)))=A.map some++Y.map some:=by
  generalize AH ids (A++(D++Y)).length=ρ at*;rw[map_append,←h2];congr 1
  ·conv=>rhs;rw[←h1]
   rw[map_map];rfl
  ·rw[map_map];rfl
 refine Wk.sel ids ?_ (by simp[hlen]) (by simp;omega) ?_ ?_ h3
 ·rw[hids,nodup_append];refine⟨nodup_range,nodup_range',λa ha b hb=>?_⟩;rw[mem_range]at ha;rw[mem_range'_1]at hb;omega
 ·rw[hids,take_append_of_le_length (by simpa using hm),take_range,Nat.min_eq_left hm]
 ·rw[e1,hids,map_append];congr 1
  ·apply ext_getElem?;intro i;by_cases hi:i<A.length
   ·simp[hi,getElem?_append_left]
   ·rw[getElem?_eq_none (by simp;omega),getElem?_eq_none (by simp;omega)]
  ·apply ext_getElem?;intro j;by_cases hj:j<Y'.length
   ·have hj2:j<Y.length:=Om
    rw[getElem?_map,getElem?_range' hj,Option.map_some,getElem?_append_right Om,show A.length+D.length+1*j-A.length=D.length+j by omega,getElem?_append_right Om,show D.length+j-D.length=j by omega];simp[hj2]
   ·rw[getElem?_eq_none (by simp;omega),getElem?_eq_none (by simp;omega)]
theorem Wk.drop {m:Nat} {tm tm':List AV} {A D:List Ac} (hm:m≤A.length)
 (h:∀ρ:Nat->Nat,(∀i,i<A.length->ρ i=i)->A.map (λo=>o.ren ρ)=A∧Ch ρ tm tm'):Wk m tm (A++D) tm' A:=by
 have:=Wk.cut (tm:=tm) (tm':=tm') (A:=A) (D:=D) (Y:=[]) (Y':=[]) hm (λρ h1 _=>⟨(h ρ h1).1,rfl,(h ρ h1).2⟩);simpa using this
theorem A2.back {P:Program} {fn:Func} {rv:List RV} (hr:Ha P fn=some rv) {tm:List AV} {A R R':List Ac} {r:AV}
 (h:∀ρ:Nat->Nat,(∀j,j<R'.length->ρ j=A.length+j)->R'.map (λo=>o.ren ρ)=R∧(B8 tm (A++R) rv).map Ci=some (r.ren ρ)):A2 P 0 fn tm (A++R) r R':=by
 have⟨h1,h2⟩:=h (AH (range' A.length R'.length) (A++R).length) (λj hj=>Eb (by rw[getElem?_range' hj];simp));refine A2.fin hr (range' A.length R'.length) nodup_range' Si (Nat.zero_le _) Si ?_ h2;have hl:R.length=R'.length:=by rw[←h1];simp
 generalize AH (range' A.length R'.length) (A++R).length=ρ at*;apply ext_getElem?;intro j;by_cases hj:j<R'.length
 ·rw[getElem?_map,getElem?_range' hj,Option.map_some,getElem?_append_right Om,show A.length+1*j-A.length=j by omega,getElem?_map,←h1];simp[hj]
 ·rw[getElem?_eq_none (by simp;omega),getElem?_eq_none (by simp;omega)]
theorem A2.front {P:Program} {m:Nat} {fn:Func} {rv:List RV} (hr:Ha P fn=some rv) {tm:List AV} {R D:List Ac} {r:AV} (hm:m≤R.length)
 (h:∀ρ:Nat->Nat,(∀j,j<R.length->ρ j=j)->R.map (λo=>o.ren ρ)=R∧(B8 tm (R++D) rv).map Ci=some (r.ren ρ)):A2 P m fn tm (R++D) r R:=by
 have⟨h1,h2⟩:=h (AH (List.range R.length) (R++D).length) (λj hj=>Eb (by simp[hj]));refine A2.fin hr (List.range R.length) nodup_range Si hm (by rw[take_range,Nat.min_eq_left hm]) ?_ h2;have e1:R.map (λo=>some (o.ren (AH (List.range R.length) (R++D).length)))=R.map some:=by
  generalize AH (List.range R.length) (R++D).length=ρ at*
  conv=>rhs;rw[←h1]
  rw[map_map];rfl
 rw[e1];apply ext_getElem?;intro i;by_cases hi:i<R.length
 ·simp[hi,getElem?_append_left]
 ·rw[getElem?_eq_none (by simp;omega),getElem?_eq_none (by simp;omega)]
theorem A2.mid {P:Program} {fn:Func} {rv:List RV} (hr:Ha P fn=some rv) {tm:List AV} {A R R' D:List Ac} {r:AV}
 (h:∀ρ:Nat->Nat,(∀j,j<R'.length->ρ j=A.length+j)->R'.map (λo=>o.ren ρ)=R∧(B8 tm (A++(R++D)) rv).map Ci=some (r.ren ρ)):A2 P 0 fn tm (A++(R++D)) r R':=by
 have⟨h1,h2⟩:=h (AH (range' A.length R'.length) (A++(R++D)).length) (λj hj=>Eb (by rw[getElem?_range' hj];simp));refine A2.fin hr (range' A.length R'.length) nodup_range' Si (Nat.zero_le _) Si ?_ h2;have hl:R.length=R'.length:=by rw[←h1];simp
 generalize AH (range' A.length R'.length) (A++(R++D)).length=ρ at*;apply ext_getElem?;intro j;by_cases hj:j<R'.length
 ·rw[getElem?_map,getElem?_range' hj,Option.map_some,getElem?_append_right Om,show A.length+1*j-A.length=j by omega,getElem?_append_left Om,getElem?_map,←h1];simp[hj]
 ·rw[getElem?_eq_none (by simp;omega),getElem?_eq_none (by simp;omega)]
theorem Wk.drop3 {m:Nat} {tm tm':List AV} {A R B D:List Ac} (hm:m≤A.length+R.length+B.length)
 (h:∀ρ:Nat->Nat,(∀i,i<A.length+R.length+B.length->ρ i=i)->A.map (λo=>o.ren ρ)=A∧R.map (λo=>o.ren ρ)=R∧B.map (λo=>o.ren ρ)=B∧Ch ρ tm tm'):Wk m tm (A++(R++(B++D))) tm' (A++(R++B)):=by
 rw[show A++(R++(B++D))=(A++(R++B))++D by simp];refine Wk.drop (by simp;omega) (λρ hρ=>?_);have⟨h1,h2,h3,h4⟩:=h ρ (λi hi=>hρ i (by simp;omega));exact⟨by rw[map_append,map_append,h1,h2,h3],h4⟩
abbrev xH (n:Nat) (e:En):AV:=.agg [.ms n e.lk.length,Bj .u8 e.data]
def CV:Nat->List En->List AV
 |_,[]=>[]
 |n,e::l=>xH n e::CV (n+1) l
def BF (l:List En):List Ac:=l.map λe=>LP e.lk
abbrev mV (n:Nat) (b:Bt):AV:=.agg [uA b.ep,uA b.base,.sl .none 2 (CV n b.en)]
theorem Ey:∀(l:List En) (n:Nat),(CV n l).length=l.length
 |[],n=>rfl
 |e::l,n=>by rw[CV,length_cons,Ey l,length_cons]
theorem Cc (l:List En):(BF l).length=l.length:=by simp[BF]
theorem UP:∀(l m:List En) (n:Nat),CV n (l++m)=CV n l++CV (n+l.length) m
 |[],m,n=>by simp[CV]
 |e::l,m,n=>by
  rw[cons_append,CV,UP l m (n+1),CV,cons_append,length_cons];congr 3;omega
theorem DE:∀(l:List En) (n n':Nat) (ρ:Nat->Nat),(∀i,i<l.length->ρ (n+i)=n'+i)->(CV n l).map (λx=>x.ren ρ)=CV n' l
 |[],n,n',ρ,h=>rfl
 |e::l,n,n',ρ,h=>by
  rw[CV,map_cons,DE l (n+1) (n'+1) ρ (λi hi=>by have:=h (i+1) (by simpa using hi);rw[show n+1+i=n+(i+1) by omega,this];omega),CV];have h0:ρ n=n':=by simpa using h 0 Si
  congr 1;simp[xH,AD,AI,h0]
def NR:∀(l:List En) (n i:Nat),i<l.length->(CV n l).getD i .any=xH (n+i) (l.getD i B3)
 |[],n,i,h=>by simp at h
 |e::l,n,0,h=>rfl
 |e::l,n,i+1,h=>by
  have:=NR l (n+1) i (by simpa using h);simp only[CV,getD_cons_succ];rw[this,show n+1+i=n+(i+1) by omega]
def EW (ρ:Nat->Nat) (l:List En):(BF l).map (λo=>o.ren ρ)=BF l:=by
 unfold BF;rw[map_map];exact map_congr_left λe _=>L7 ρ e.lk
theorem KN (l:List En) (i:Nat) (h:i<l.length):(BF l)[i]? =some (LP (l.getD i B3).lk):=by simp[BF,h]
theorem V1 (l:List En) (e:En):BF (l++[e])=BF l++[LP e.lk]:=by simp[BF]
def Rs (e:En) (hm:B7 e.lk) (hd:e.data.length≤2000000):
 Ag prog 72 [OW e] [] (xH 0 e) [LP e.lk]:=by
 have hcr:=λρ m=>DR ρ m
 refine RM func72 b72 ?_
 (repeat with_reducible refine Sa ?_);refine Aa.n (Ng e.lk hm) (mq @Ab ?_).1;(repeat with_reducible refine Sa ?_);refine UO 1 ?_
 (refine FB b72 [2] ?_ ?_<;>first|with_reducible rfl|(simp[hcr,Fr];done)|rfl)
def UM (e:En) (hm:B7 e.lk) (hd:e.data.length≤2000000):
 Ct prog 72 [OW e] [] (λn=>xH n e) [] (λ_=>[LP e.lk]):=
 Ct.n (Rs e hm hd) (λρ=>by simp[AD]) (λn N=>by simp[AH,range'_succ]) (λn N=>by simp only[map_cons,map_nil,DP,DR])
structure vD (b:Bt):Prop where
 n:b.en.length≤1000000
 e:∀x∈b.en,B7 x.lk∧x.data.length≤2000000
theorem RF (b:Bt) (h:vD b):Ag prog 41 [Fx b] [] (mV 0 b) (BF b.en):=by
 have⟨hl,hn⟩:=h;refine RN func41 b41 ?_;refine (mq @Ax ?_).1
 refine AA (α:=Nat) (λk=>.any::.ref 0 0::.ref 1 0::.sl (.row 2) 2 (CV 3 (b.en.take k))::.any::.any::.any::Fy b.en::iA b.en.length::iA k::Ay (Ay (Ay []))) (λk=>.cells [uA b.ep,uA b.base,Fy b.en]::.cells [uA 0,uA 0,.sl .full 1 []]::.row 2 (b.en.take k).length::BF (b.en.take k)) (λk=>k≤b.en.length) (λk=>b.en.length-k) 0 Si ((Wk.row 3 2 rfl (.inr rfl) De).trans (Wk.to (by simp[BF]) (by simp[B6,CV]))) ?_;intro k hk;have hRl:(BF (b.en.take k)).length=k:=by rw[Cc,length_take];omega
 have hRr:=λρ=>EW ρ (b.en.take k)
 obtain⟨R,hR⟩:∃R,BF (b.en.take k)=R:=⟨_,rfl⟩;rw[hR]at hRl hRr;rw[hR];refine (mp ?_).1;by_cases hlt:k<b.en.length
 ·have q1:decide ((k:Int)<(b.en.length:Int))=true:=decide_eq_true Om;have ek:=Am k Om;have g:=DT b.en k hlt;have hm:b.en.getD k B3∈b.en:=by simp[hlt]
  have htk:b.en.take (k+1)=b.en.take k++[b.en.getD k B3]:=by rw[take_add_one];congr 1;simp[hlt]
  have hln:(b.en.take k).length=k:=by rw[length_take];omega
  have el:=λn=>Ey (b.en.take k) n
  have g1:∀x,(R++[x])[k]? =some x:=λx=>by rw[←hRl];simp
  have s1:∀x y,(R++[x]).set k y=R++[y]:=λx y=>by rw[←hRl];simp
  obtain⟨e,he⟩:∃e,b.en.getD k B3=e:=⟨_,rfl⟩;have c0:=hn _ hm;rw[he]at g htk c0;simp only[go_sem,seval,q1,g,Ax,Int.toNat_natCast,hRl,g1,s1];refine (AZ ?_).1;(repeat with_reducible refine Sa ?_);refine Aa.n (UM e c0.1 c0.2) ?_;simp only[go_sem,seval,length_append,append_assoc,hRl,el,hln,ek];refine (AZ ?_).1;(repeat with_reducible refine Sa ?_);refine⟨k+1,hlt,Om,?_⟩;rw[htk,V1,hR,UP,hln,length_append,hln];refine Wk.cut (A:=_::_::_::R) (D:=[_]) (Y:=[_]) (Y':=[LP e.lk]) (Nat.zero_le _) (λρ h1 h2=>?_);have r0:=h1 0 Si;have r1:=h1 1 Si;have r2:=h1 2 Si;have r3:=h2 0 Si;simp only[length_cons,hRl,length_nil,Nat.add_zero,Nat.zero_add]at r3;have re:=DE (b.en.take k) 3 3 ρ (λi hi=>h1 (3+i) (by simp only[length_cons];omega));refine⟨by simp[hRr,CA],by simp[DR],?_⟩;simp[Ch,AD,r0,r1,r2,re,AI,CA,CV,show 3+k=k+1+1+1 by omega,r3]
 ·have q1:decide ((k:Int)<(b.en.length:Int))=false:=decide_eq_false Om;have e:b.en.take k=b.en:=take_of_length_le Om;rw[e]at hR;rw[hR];refine (mr q1 e ?_).1;refine UO 1 ?_;refine A2.back (A:=[_,_,_]) b41.all.2.1 (λρ h1=>⟨hRr ρ,?_⟩);have re:=DE b.en 0 3 ρ (λi hi=>by have:=h1 i Om;simp only[length_cons,length_nil]at this;rw[Nat.zero_add];omega);simp[B8,D1,D4,Ci,re]
def cF (b:List Int) (at_:Nat):Nat->Int
 |0=>0
 |k+1=>CJ .or .u32 (cF b at_ k) (IntKind.u32.wrap (IntKind.u32.wrap (b.getD (at_+k) 0)*2^min (8*(k:Int)).toNat 32))
def KS (b:List Int) (at_:Nat):Int:=cF b at_ 4
def LQ (b:List Int) (at_:Nat):Bool:=decide (at_+4≤b.length)
def T2 (b:List Int) (at_:Nat):Int:=if LQ b at_=true then KS b at_ else 0
def DU (b:List Int):Nat->List (Int×Int)
 |0=>[]
 |n+1=>if LQ b n=true then HW (DU b n) (KS b n) (n+1)else DU b n
def HS (b:List Int) (n:Nat):Int:=if LQ b n=true then Gc (DU b n) (KS b n)else 0
def GR (b:List Int):Nat->List Int
 |0=>[]
 |n+1=>GR b n++[HS b n]
theorem DO (b:List Int) (n:Nat):(GR b n).length=n:=by
 induction n with
 |zero=>rfl
 |succ n ih=>simp[GR,ih]
theorem cE (l:List (Int×Int)) (a v c:Int):Gc (HW l a v) c=if c=a then v else Gc l c:=by
 induction l with
 |nil=>
  simp only[HW,Gc];by_cases h:c=a<;>simp[h]
 |cons p l ih=>
  simp only[HW];by_cases h:a=p.1
  ·subst h;simp only[beq_self_eq_true,if_true,Gc];by_cases hc:c=p.1
   ·simp[hc]
   ·simp[hc]
  ·have hb:(a==p.1)=false:=Sx h
   simp only[hb,Bool.false_eq_true,if_false,Gc];by_cases hc:c=p.1
   ·subst hc;have:¬p.1=a:=λe=>h e.symm
    simp[this]
   ·have hb':(c==p.1)=false:=Sx hc
    simp only[hb',Bool.false_eq_true,if_false,ih]
def T1 (b:List Int) (n:Nat) (a:Int):0≤Gc (DU b n) a∧Gc (DU b n) a≤n:=by
 induction n with
 |zero=>simp[DU,Gc]
 |succ n ih=>
  simp only[DU];split
  ·rw[cE];split<;>omega
  ·omega
def Ql (b:List Int) (n:Nat):0≤HS b n∧HS b n≤n:=by
 unfold HS;have:=T1 b n (KS b n);split<;>omega
def aK (b:List Int) (n k:Nat) (h:k<n):(GR b n).getD k 0=HS b k:=by
 induction n with
 |zero=>omega
 |succ n ih=>
  simp only[GR];rw[getD_eq_getElem?_getD];by_cases e:k=n
  ·subst e;rw[getElem?_append_right (by rw[DO];omega),DO];simp
  ·rw[getElem?_append_left (by rw[DO];omega),←getD_eq_getElem?_getD];exact ih Om
def J9 (b:List Int) (at_:Nat):Nat->Nat->List Int
 |0,_=>[]
 |_+1,0=>[]
 |f+1,k+1=>if(at_:Int)-k>65536 then[]else(if k<at_ then[(k:Int)]else[])++J9 b at_ f (HS b k).toNat
theorem Td (b:List Int) (at_:Nat):∀(f k:Nat),k≤f->J9 b at_ (f+1) k=J9 b at_ f k
 |0,k,h=>by
  obtain rfl:k=0:=Om
  rfl
 |f+1,0,_=>rfl
 |f+1,k+1,h=>by
  have hw:=Ql b k;rw[J9,J9,Td b at_ f (HS b k).toNat Om]
theorem Tc (b:List Int) (at_ f g k:Nat) (h:k≤f) (hg:f≤g):J9 b at_ g k=J9 b at_ f k:=by
 induction g with
 |zero=>have:f=0:=Om
        subst this;rfl
 |succ g ih=>
  by_cases e:f=g+1
  ·rw[e]
  ·rw[Td b at_ g k Om];exact ih Om
def Ck (b:List Int) (at_:Nat):List Int:=if LQ b at_=true then J9 b at_ at_ (Gc (DU b at_) (KS b at_)).toNat else[]
def jC (b:List Int) (at_:Nat):∀(f k:Nat) (p:Int),p∈J9 b at_ f k->0≤p∧p<at_∧(at_:Int)-p≤65536
 |0,_,p,h=>by simp[J9]at h
 |f+1,0,p,h=>by simp[J9]at h
 |f+1,k+1,p,h=>by
  simp only[J9]at h;split at h
  ·simp at h
  ·rename_i hw;rcases mem_append.1 h with h|h
   ·split at h
    ·simp at h;subst h;omega
    ·simp at h
   ·exact jC b at_ f _ p h
def Wq {b:List Int} {at_:Nat} {p:Int} (h:p∈Ck b at_):0≤p∧p<at_∧(at_:Int)-p≤65536:=by
 unfold Ck at h;split at h
 ·exact jC b at_ _ _ p h
 ·simp at h
def cnt (p:Nat->Bool):Nat->Nat->Nat
 |0,n=>n
 |f+1,n=>if p n=true then cnt p f (n+1)else n
def mJ (p:Nat->Bool):∀(f n:Nat),n≤cnt p f n∧cnt p f n≤n+f
 |0,n=>by simp[cnt]
 |f+1,n=>by
  have:=mJ p f (n+1);simp only[cnt];split<;>omega
def Ze (p:Nat->Bool):∀(f n i:Nat),n≤i->i<cnt p f n->p i=true
 |0,n,i,h1,h2=>by simp[cnt]at h2;omega
 |f+1,n,i,h1,h2=>by
  simp only[cnt]at h2;split at h2
  ·rename_i hp;by_cases e:i=n
   ·rw[e];exact hp
   ·exact Ze p f (n+1) i Om h2
  ·omega
def qW (b:List Int) (at_ off:Nat) (n:Nat):Bool:=b.getD (at_+n) 0==b.getD (at_+n-off) 0
def Oh (b:List Int) (at_ off:Nat):Nat:=if at_<b.length∧1≤off∧off≤at_ then cnt (qW b at_ off) (min (b.length-at_) 1048576) 0 else 0
def j6 (b:List Int) (at_ off:Nat):at_+Oh b at_ off≤max at_ b.length∧Oh b at_ off≤1048576:=by
 unfold Oh;split
 ·have:=(mJ (qW b at_ off) (min (b.length-at_) 1048576) 0).2;omega
 ·omega
def wH {b:List Int} {at_ off i:Nat} (h:i<Oh b at_ off):b.getD (at_+i) 0=b.getD (at_+i-off) 0:=by
 unfold Oh at h;split at h
 ·have:=Ze _ _ _ i Om h;simpa[qW]using this
 ·omega
def E3 (b:List Int) (at_:Nat) (s:Int×Int) (p:Int):Int×Int:=
 if((Oh b at_ (at_-p.toNat):Nat):Int)>s.2 then((at_:Int)-p,(Oh b at_ (at_-p.toNat):Nat))else s
def OZ (b:List Int) (at_:Nat):List Int->Int×Int->Nat×(Int×Int)
 |[],s=>(0,s)
 |p::ps,s=>if(at_:Int)+(E3 b at_ s p).2=b.length then(1,E3 b at_ s p)else((OZ b at_ ps (E3 b at_ s p)).1+1,(OZ b at_ ps (E3 b at_ s p)).2)
def VJ (s:Int×Int):Int×Int:=if s.2<4 then(0,0)else s
def BO (b:List Int) (at_:Nat):Int×Int:=VJ (OZ b at_ (Ck b at_) (0,0)).2
structure Zs (b:List Int) (at_:Nat) (s:Int×Int):Prop where
 n0:0≤s.2
 off:0<s.2->1≤s.1∧s.1≤at_∧s.1≤65536
 len:(at_:Int)+s.2≤max at_ b.length
 most:s.2≤1048576
 eq:∀i:Nat,(i:Int)<s.2->b.getD (at_+i) 0=b.getD (at_+i-s.1.toNat) 0
theorem Zs.zero (b:List Int) (at_:Nat) (o:Int):Zs b at_ (o,0):=⟨Si,Si,by simp only[];omega,Si,λi h=>by simp only[]at h;omega⟩
def RA {b:List Int} {at_:Nat} {s:Int×Int} {p:Int} (h:Zs b at_ s) (hp:0≤p∧p<at_∧(at_:Int)-p≤65536):Zs b at_ (E3 b at_ s p):=by
 unfold E3;split
 ·have:=j6 b at_ (at_-p.toNat);refine⟨Si,λ_=>by simp only[];omega,by simp only[];omega,by simp only[];omega,λi hi=>?_⟩;simp only[]at hi ⊢;have:=wH (b:=b) (at_:=at_) (off:=at_-p.toNat) (i:=i) Om;rw[this];congr 1;omega
 ·exact h
def mW {b:List Int} {at_:Nat}:∀(ps:List Int) (s:Int×Int),Zs b at_ s->(∀p∈ps,0≤p∧p<at_∧(at_:Int)-p≤65536)->Zs b at_ (OZ b at_ ps s).2
 |[],s,h,_=>h
 |p::ps,s,h,hp=>by
  have h1:=RA h (hp p Si);simp only[OZ];split
  ·exact h1
  ·exact mW ps _ h1 λq hq=>hp q (by simp[hq])
def Kx (b:List Int) (at_:Nat):Zs b at_ (BO b at_)∧((BO b at_).2=0∨4≤(BO b at_).2):=by
 have:=mW (Ck b at_) (0,0) (Zs.zero b at_ 0) λp hp=>Wq hp
 unfold BO VJ;split
 ·exact⟨Zs.zero b at_ 0,.inl rfl⟩
 ·exact⟨this,.inr Om⟩
def Zj (b:List Int) (at_:Nat):∀(ps:List Int) (s:Int×Int),(OZ b at_ ps s).1≤ps.length
 |[],s=>by simp[OZ]
 |p::ps,s=>by
  have:=Zj b at_ ps (E3 b at_ s p);simp only[OZ];split<;>simp<;>omega
def EF (b:List Int) (from_ to:Nat):List Tk:=if from_<to then[⟨(b.drop from_).take (to-from_),0,0⟩]else[]
def Gb (b:List Int):Nat->Nat->Nat->List Tk
 |0,_,from_=>EF b from_ b.length
 |f+1,at_,from_=>
  if b.length≤at_ then EF b from_ b.length else
  if(BO b at_).2=0 then Gb b f (at_+1) from_ else
  EF b from_ at_++[⟨[],(BO b at_).1,(BO b at_).2⟩]++Gb b f (at_+(BO b at_).2.toNat) (at_+(BO b at_).2.toNat)
def EX (b:List Int):List Tk:=Gb b b.length 0 0
def YL (b:List Int) (a:Nat):∀(f k:Nat),(J9 b a f k).length≤f
 |0,_=>by simp[J9]
 |f+1,0=>by simp[J9]
 |f+1,k+1=>by
  have:=YL b a f (HS b k).toNat;simp only[J9]
  repeat' split
  all_goals simp
  all_goals omega
def Tg (b:List Int) (a:Nat):(Ck b a).length≤a:=by
 unfold Ck;split
 ·exact YL b a a _
 ·simp
theorem i7 (b:List Int) (f a from_:Nat) (h:b.length≤a):Gb b f a from_=EF b from_ b.length:=by
 cases f with
 |zero=>rfl
 |succ f=>rw[Gb,if_pos h]
def MZ (b:List Int):∀(f a x:Nat),x≤a->b.length≤f+a->a≤b.length->(Gb b f a x).length+x≤b.length∧∀t∈Gb b f a x,t.lit.length≤b.length
 |0,a,x,h1,h2,h3=>by
  simp only[Gb,EF];split
  ·simp;omega
  ·simp;omega
 |f+1,a,x,h1,h2,h3=>by
  have hok:=Kx b a;have hl:=hok.1.len;have h0:=hok.1.n0;simp only[Gb];split
  ·simp only[EF];split
   ·simp;omega
   ·simp;omega
  ·split
   ·have:=MZ b f (a+1) x Om Om Om;exact this
   ·have hn:4≤(BO b a).2:=Om
    have:=MZ b f (a+(BO b a).2.toNat) (a+(BO b a).2.toNat) (Nat.le_refl _) Om Om;refine⟨?_,λt ht=>?_⟩
    ·simp only[length_append,length_singleton,EF];split<;>simp<;>omega
    ·simp only[mem_append,mem_singleton]at ht;rcases ht with(ht|ht)|ht
     ·simp only[EF]at ht;split at ht
      ·simp at ht;subst ht;simp;omega
      ·simp at ht
     ·subst ht;simp
     ·exact this.2 t ht
def Jx (b:List Int):(EX b).length≤b.length∧∀t∈EX b,t.lit.length≤b.length:=by
 have:=MZ b b.length 0 0 (Nat.le_refl _) Om Om;exact⟨by have:=this.1;unfold EX;omega,this.2⟩
def Jw (b:List Int) (hb:b.length≤1048576):∀(f a x:Nat),x≤a->∀t∈Gb b f a x,t.right=true
 |0,a,x,h1,t,ht=>by
  simp only[Gb,EF]at ht;split at ht
  ·simp at ht;subst ht;simp[Tk.right,Tk.run];omega
  ·simp at ht
 |f+1,a,x,h1,t,ht=>by
  have hok:=Kx b a;have hl:=hok.1.len;have h0:=hok.1.n0;have hm:=hok.1.most;simp only[Gb]at ht;split at ht
  ·simp only[EF]at ht;split at ht
   ·simp at ht;subst ht;simp[Tk.right,Tk.run];omega
   ·simp at ht
  ·rename_i ha;split at ht
   ·exact Jw b hb f (a+1) x Om t ht
   ·rename_i hz;have ho:=hok.1.off Om;simp only[mem_append,mem_singleton]at ht;rcases ht with(ht|ht)|ht
    ·simp only[EF]at ht;split at ht
     ·simp at ht;subst ht;simp[Tk.right,Tk.run];omega
     ·simp at ht
    ·subst ht;simp[Tk.right,Tk.copy];right;omega
    ·exact Jw b hb f _ _ (Nat.le_refl _) t ht
def J7 (b:List Int) (hb:A7 b):∀(f a x:Nat),∀t∈Gb b f a x,A7 t.lit
 |0,a,x,t,ht=>by
  simp only[Gb,EF]at ht;split at ht
  ·simp at ht;subst ht;intro y hy;exact hb y (mem_of_mem_drop (mem_of_mem_take hy))
  ·simp at ht
 |f+1,a,x,t,ht=>by
  simp only[Gb]at ht;split at ht
  ·simp only[EF]at ht;split at ht
   ·simp at ht;subst ht;intro y hy;exact hb y (mem_of_mem_drop (mem_of_mem_take hy))
   ·simp at ht
  ·split at ht
   ·exact J7 b hb f (a+1) x t ht
   ·simp only[mem_append,mem_singleton]at ht;rcases ht with(ht|ht)|ht
    ·simp only[EF]at ht;split at ht
     ·simp at ht;subst ht;intro y hy;exact hb y (mem_of_mem_drop (mem_of_mem_take hy))
     ·simp at ht
    ·subst ht;intro y hy;simp at hy
    ·exact J7 b hb f _ _ t ht
def A9 (b:List Int):List Int:=Fb (EX b)
theorem J8 {b:List Int} (hb:b.length≤1048576):∀t∈EX b,t.right=true:=Jw b hb _ _ _ (Nat.le_refl _)
def M1 {b:List Int} (hn:b.length≤1048576) (hb:A7 b):A7 (A9 b):=by
 intro y hy;simp only[A9,Fb,mem_flatMap]at hy;have⟨t,ht,hy⟩:=hy;exact gK (J8 hn t ht) (J7 b hb _ _ _ t ht) y hy
def FY (b:List Int):Bool:=decide (((vb ((A9 b).length:Int)).length:Int)+(A9 b).length<b.length)
def CW (b:List Int):List Int:=vb b.length++(if FY b=true then[1]++(vb ((A9 b).length:Int)++A9 b)else[0]++b)
def Kw (b:List Int):((CW b).length:Int)≤(vb (b.length:Int)).length+b.length+1:=by
 unfold CW;cases h:FY b with
 |true=>
  have:((vb ((A9 b).length:Int)).length:Int)+(A9 b).length<b.length:=by simpa[FY]using h
  simp only[if_true,length_append,length_singleton];omega
 |false=>simp only[Bool.false_eq_true,if_false,length_append,length_singleton];omega
def Ve {b:List Int} (hn:b.length≤1048576) (hb:A7 b):A7 (CW b):=by
 have h1:A7 (vb (b.length:Int)):=CG Om Om;unfold CW;intro x hx;rcases mem_append.1 hx with hx|hx
 ·exact h1 x hx
 ·split at hx
  ·rename_i hp;have:((vb ((A9 b).length:Int)).length:Int)+(A9 b).length<b.length:=by simpa[FY]using hp
   simp only[mem_append,mem_singleton]at hx;rcases hx with hx|hx|hx
   ·subst hx;decide
   ·exact CG (x:=((A9 b).length:Int)) Om Om x hx
   ·exact M1 hn hb x hx
  ·simp only[mem_append,mem_singleton]at hx;rcases hx with hx|hx
   ·subst hx;decide
   ·exact hb x hx
def RS.unpk (s:RS) (n:Int):RS×List Int:=
 if(s.blob 1048576).1.code=0 then
  (if(Ei n (RS.new (s.blob 1048576).2) []).2.1=0 then
    (if((Ei n (RS.new (s.blob 1048576).2) []).1.length:Int)<n then((s.blob 1048576).1.fail 3 (s.blob 1048576).1.at_,(Ei n (RS.new (s.blob 1048576).2) []).1)else((s.blob 1048576).1,(Ei n (RS.new (s.blob 1048576).2) []).1))
  else((s.blob 1048576).1.fail (Ei n (RS.new (s.blob 1048576).2) []).2.1 ((Ei n (RS.new (s.blob 1048576).2) []).2.2+((s.blob 1048576).1.at_-(s.blob 1048576).2.length)),(Ei n (RS.new (s.blob 1048576).2) []).1))
 else((s.blob 1048576).1,[])
def RS.bway (s:RS):RS×(Int×Int):=((s.int 1048576).1.byte.1,((s.int 1048576).2,(s.int 1048576).1.byte.2))
def RS.bdat (s:RS):RS×List Int:=
 if s.bway.1.code=0 then
  (if s.bway.2.2=0 then s.bway.1.take s.bway.2.1 else if s.bway.2.2=1 then s.bway.1.unpk s.bway.2.1 else(s.bway.1.fail 7 (s.bway.1.at_-1),[]))
 else(s.bway.1,[])
def RS.blkL (s:RS):RS×(List Int×Bool):=
 if s.bdat.1.code=0 then(s.bdat.1,(s.bdat.2,Ca (CW s.bdat.2) ((s.l.drop s.at_.toNat).take (s.bdat.1.at_-s.at_).toNat)))else(s.bdat.1,([],false))
def RS.blk (s:RS):RS×List Int:=if s.blkL.2.2=true then(s.blkL.1,s.blkL.2.1)else(s.blkL.1.fail 12 s.blkL.1.at_,[])
def Hf {s:RS} (h:An s) (m:Int):An (s.blob m).1∧(s.blob m).1.l=s.l∧A7 (s.blob m).2∧(s.blob m).2.length≤s.l.length:=by
 have⟨h1,h2⟩:=h.int m;unfold RS.blob;refine⟨h1.take _,by rw[(h1.ok.take _).2,h2],Fe h1.bys _,?_⟩;have:=SG (s.int m).1 (s.int m).2;rw[h2]at this;exact this
theorem RS.ok.byte_ {s:RS} (h:An s):An s.byte.1∧s.byte.1.l=s.l:=by
 have h1:=h.skip 1;have h2:=(h.ok.skip 1).2;unfold RS.byte;split
 ·exact⟨h1,h2⟩
 ·exact⟨h1,h2⟩
def I_ {s:RS} (h:An s):An s.bway.1∧s.bway.1.l=s.l:=by
 have⟨h1,h2⟩:=h.int 1048576;have⟨h3,h4⟩:=RS.ok.byte_ h1;exact⟨h3,h4.trans h2⟩
def ZD {s:RS} (h:An s) (n:Int):An (s.unpk n).1∧(s.unpk n).1.l=s.l:=by
 have⟨h1,h2,_⟩:=Hf h 1048576;unfold RS.unpk
 repeat' split
 all_goals first|exact⟨h1,h2⟩|exact⟨h1.fail _ _,by rw[Bx];exact h2⟩
def Qg {s:RS} (h:An s):An s.bdat.1∧s.bdat.1.l=s.l:=by
 have⟨h1,h2⟩:=I_ h;have⟨h3,h4⟩:=ZD h1 s.bway.2.1;unfold RS.bdat
 repeat' split
 all_goals first|exact⟨h1,h2⟩|exact⟨h3,h4.trans h2⟩|exact⟨h1.fail _ _,by rw[Bx];exact h2⟩|exact⟨h1.take _,by rw[(h1.ok.take _).2,h2]⟩
def K6 {s:RS} (h:An s):An s.blkL.1∧s.blkL.1.l=s.l:=by
 have:=Qg h;unfold RS.blkL;split<;>exact this
def Df {s:RS} (h:An s):An s.blk.1∧s.blk.1.l=s.l:=by
 have⟨h1,h2⟩:=K6 h;unfold RS.blk;split
 ·exact⟨h1,h2⟩
 ·exact⟨h1.fail _ _,by rw[Bx];exact h2⟩
def lY {bound:Int}:∀(n:Nat) (s:RS) (out:List Int),An s->s.left≤n->A7 out->A7 (Ei bound s out).1:=by
 have nil:A7 []:=λx hx=>by simp at hx
 intro n
 induction n with
 |zero=>intro s out _ hl ho;rw[F7 Om];exact ho
 |succ n ih=>
  intro s out h hl ho;by_cases hp:0<s.left
  ·by_cases hh:s.thead.1.code=0
   ·by_cases hb:bound<out.length+s.thead.2.2
    ·rw[G8 hp hh hb];exact nil
    ·by_cases ht:s.token.1.code=0
     ·by_cases hf:(out.length:Int)<s.token.2.off
      ·rw[Ks hp hh hb ht hf];exact nil
      ·rw[FO h hp hh hb ht hf];have⟨t1,t2,t3⟩:=Ee h ht;have⟨i1,i2,i3,i4,i5⟩:=H3 h ht;refine ih _ _ t2 Om (fK _ _ _ λy hy=>?_);rcases mem_append.1 hy with hy|hy
       ·exact ho y hy
       ·exact i3 y hy
     ·rw[F6 hp hh hb ht];exact nil
   ·rw[G9 hp hh];exact nil
  ·rw[F7 hp];exact ho
def UF {b0 bound:Int} {W:List Int}:∀(l:List Tk) (s:RS) (out:List Int) (i:Nat),An s->s.code=0->(∀t∈l,A7 t.lit)->s.rest=Fb l->C8 b0 l i out=(W,(0,0))->(l=[]->(out.length:Int)≤bound)->
 (out.length:Int)≤W.length∧(bound<W.length->(Ei bound s out).1=[]∧(Ei bound s out).2.1=11)∧((W.length:Int)≤bound->Ei bound s out=(W,(0,0))):=by
 intro l
 induction l with
 |nil=>
  intro s out i h hc _ hr he hb;simp only[C8]at he;have hW:out=W:=by injection he
  subst hW;have hl:¬0<s.left:=by
   have:=EI s h.at0 h.at1;rw[hr]at this;simp[Fb]at this;unfold RS.left;omega
  have:=hb rfl;rw[F7 hl];exact⟨Int.le_refl _,λh=>by omega,λ_=>rfl⟩
 |cons t l ih=>
  intro s out i h hc hby hr he _;simp only[C8]at he;by_cases hw:Gz t out.length b0=0
  ·rw[if_pos hw]at he;have⟨w1,w2,w3⟩:=Lb hw;have hr':s.rest=Fc t++Fb l:=by rw[hr];simp[Fb]
   have hown:=ZI h hc w1 hr';have hpos:=gJ t;have hok:An (s.adv ((Fc t).length:Int)):=Bl h hr';have hl:0<s.left:=by
    have:=EI s h.at0 h.at1;rw[hr',length_append]at this;unfold RS.left;omega
   have ht:s.token.1.code=0:=by rw[hown];exact hc
   have hh:=Mq ht;have hm:=(Jo h ht).1;rw[hown]at hm;simp only at hm;have hle:=NJ out w1;have hrest:(s.adv ((Fc t).length:Int)).rest=Fb l:=by rw[AW h.at0,hr',drop_left]
   have hmp:=TC w1;by_cases hb:bound<out.length+t.made
   ·have ho:=G8 (bound:=bound) (out:=out) hl hh Om;have key:=ih (s.adv ((Fc t).length:Int)) (G6 out t) (i+1) hok hc (λx hx=>hby x (mem_cons_of_mem _ hx)) hrest he;have hWl:((G6 out t).length:Int)≤W.length:=by
     have e:=XO (bound:=b0) l (i+1) (G6 out t) (by rw[he]);rw[he]at e;have:=e.1;have:=o5 l;simp only at*;omega
    rw[ho];exact⟨Om,λ_=>⟨rfl,rfl⟩,λh=>by omega⟩
   ·have hst:=FO (bound:=bound) (out:=out) h hl hh Om ht (by rw[hown];simp only;omega);rw[hown]at hst;simp only at hst;have⟨k1,k2,k3⟩:=ih (s.adv ((Fc t).length:Int)) (G6 out t) (i+1) hok hc (λx hx=>hby x (mem_cons_of_mem _ hx)) hrest he (λ_=>by omega);rw[hst];exact⟨Om,k2,k3⟩
  ·rw[if_neg hw]at he;injection he with _ he;injection he with he _;exact absurd he hw
def K8 {α:Type} (d:α) (cp:α->α) (out:List α) (off:Nat):Nat->List α
 |0=>out
 |n+1=>K8 d cp (out++[cp (out.getD (out.length-off) d)]) off n
section
variable {α:Type} {d:α} {cp:α->α}
def Mh (off:Nat):∀(n:Nat) (out:List α),(K8 d cp out off n).length=out.length+n:=by
 intro n
 induction n with
 |zero=>intro out;rfl
 |succ n ih=>intro out;simp only[K8,ih,length_append,length_singleton];omega
theorem Vn (off:Nat):∀(n:Nat) (out:List α),K8 d cp out off (n+1)=K8 d cp out off n++[cp ((K8 d cp out off n).getD ((K8 d cp out off n).length-off) d)]:=by
 intro n
 induction n with
 |zero=>intro out;rfl
 |succ n ih=>intro out;rw[K8,ih,←K8]
theorem CT (a b:List α) (p:Nat):(a++b).getD p d=if p<a.length then a.getD p d else b.getD (p-a.length) d:=by
 simp only[getD_eq_getElem?_getD,getElem?_append];split<;>rfl
def RK (off:Nat) (h1:1≤off):∀(n:Nat) (out:List α),off≤out.length->(∀p,p<out.length->(K8 d cp out off n).getD p d=out.getD p d)∧∀p,out.length≤p->p<out.length+n->(K8 d cp out off n).getD p d=cp ((K8 d cp out off n).getD (p-off) d):=by
 intro n
 induction n with
 |zero=>intro out _;exact⟨λp _=>rfl,λp h h'=>by omega⟩
 |succ n ih=>
  intro out ho;have⟨i1,i2⟩:=ih out ho;have hl:=Mh (d:=d) (cp:=cp) off n out;rw[Vn];refine⟨λp hp=>?_,λp hp hp'=>?_⟩
  ·rw[CT,if_pos Om];exact i1 p hp
  ·have e:(K8 d cp out off n++[cp ((K8 d cp out off n).getD ((K8 d cp out off n).length-off) d)]).getD (p-off) d=(K8 d cp out off n).getD (p-off) d:=by
    rw[CT,if_pos Om]
   rw[e];by_cases hlt:p<out.length+n
   ·rw[CT,if_pos Om];exact i2 p hp hlt
   ·rw[CT,if_neg Om];have e1:p-(K8 d cp out off n).length=0:=Om
    have e2:p-off=(K8 d cp out off n).length-off:=Om
    rw[e1,e2];rfl
end
theorem fL (out:List Int) (off:Nat):∀n,CD out off n=K8 0 id out off n:=by
 intro n
 induction n with
 |zero=>rfl
 |succ n ih=>rw[JP,Vn,ih];rfl
def Ww (i:Nat) (t:Tk):List (Int×Int):=(List.range t.lit.length).map λ(k:Nat)=>((i:Int),(k:Int))
def aT (i:Nat) (o:List (Int×Int)) (t:Tk):List (Int×Int):=K8 (0,0) id (o++Ww i t) t.off.toNat t.len.toNat
def P9 (d:List Int) (t:Tk):List Int:=K8 0 (· +1) (d++List.replicate t.lit.length 0) t.off.toNat t.len.toNat
theorem jN (i:Nat) (t:Tk):(Ww i t).length=t.lit.length:=by simp[Ww]
structure Zr (L:List Tk) (W:List Int) (O:List (Int×Int)) (D:List Int) (i k p:Nat):Prop where
 lt:p<W.length
 t0:0≤(O.getD p (0,0)).1
 t1:(O.getD p (0,0)).1≤i
 j0:0≤(O.getD p (0,0)).2
 j1:(O.getD p (0,0)).2<(L.getD (O.getD p (0,0)).1.toNat Ld).lit.length
 is:(L.getD (O.getD p (0,0)).1.toNat Ld).lit.getD (O.getD p (0,0)).2.toNat 0=W.getD p 0
 run:(L.getD i Ld).run=true->O.getD p (0,0)=((i:Int),(k:Int))∧D.getD p 0=0
 cpy:(L.getD i Ld).copy=true->(L.getD i Ld).off.toNat≤p∧O.getD p (0,0)=O.getD (p-(L.getD i Ld).off.toNat) (0,0)∧D.getD p 0=D.getD (p-(L.getD i Ld).off.toNat) 0+1
 d0:0≤D.getD p 0
 d1:D.getD p 0≤p
structure Aam (L:List Tk) (i:Nat) (w:List Int) (o:List (Int×Int)) (d:List Int):Prop where
 lo:o.length=w.length
 ld:d.length=w.length
 all:∀p,p<w.length->0≤(o.getD p (0,0)).1∧(o.getD p (0,0)).1<i∧0≤(o.getD p (0,0)).2∧(o.getD p (0,0)).2<(L.getD (o.getD p (0,0)).1.toNat Ld).lit.length∧
  (L.getD (o.getD p (0,0)).1.toNat Ld).lit.getD (o.getD p (0,0)).2.toNat 0=w.getD p 0∧0≤d.getD p 0∧d.getD p 0≤p
theorem Aam.step {L:List Tk} {i:Nat} {w:List Int} {o:List (Int×Int)} {d:List Int} (h:Aam L i w o d) {t:Tk} (ht:L.getD i Ld=t) (hr:t.right=true) (hf:t.off≤w.length):
 Aam L (i+1) (G6 w t) (aT i o t) (P9 d t)∧∀k:Nat,(k:Int)<t.made->Zr L (G6 w t) (aT i o t) (P9 d t) i k (w.length+k):=by
 have⟨lo,ld,al⟩:=h;rcases DK.1 hr with hrun|hcp
 ·have⟨r1,r2,r3,r4⟩:=Dn.1 hrun;have hm:t.made=t.lit.length:=by unfold Tk.made;rw[if_pos hrun]
  have ew:G6 w t=w++t.lit:=by unfold G6;rw[r2];rfl
  have eo:aT i o t=o++Ww i t:=by unfold aT;rw[r2];rfl
  have ed:P9 d t=d++List.replicate t.lit.length 0:=by unfold P9;rw[r2];rfl
  have hncp:=CI hrun;have at_:∀k,k<t.lit.length->(o++Ww i t).getD (w.length+k) (0,0)=((i:Int),(k:Int))∧(w++t.lit).getD (w.length+k) 0=t.lit.getD k 0∧(d++List.replicate t.lit.length 0).getD (w.length+k) 0=0:=by
   intro k hk;rw[CT,CT,CT,if_neg Om,if_neg Om,if_neg Om,lo,ld];have e:w.length+k-w.length=k:=Om
   rw[e];refine⟨by simp[Ww,hk],rfl,by simp[hk]⟩
  rw[ew,eo,ed];refine⟨⟨by simp[lo,jN],by simp[ld],λp hp=>?_⟩,λk hk=>?_⟩
  ·by_cases hlt:p<w.length
   ·rw[CT,CT,CT,if_pos Om,if_pos hlt,if_pos Om];have⟨a1,a2,a3,a4,a5,a6,a7⟩:=al p hlt;exact⟨a1,Om,a3,a4,a5,a6,a7⟩
   ·rw[length_append]at hp;obtain⟨k,rfl⟩:∃k,p=w.length+k:=⟨p-w.length,Om⟩;have⟨b1,b2,b3⟩:=at_ k Om;rw[b1,b2,b3];simp only[Int.toNat_natCast,ht];exact⟨Om,Om,Om,Om,trivial,Om,Om⟩
  ·have⟨b1,b2,b3⟩:=at_ k Om;refine⟨by rw[length_append];omega,?_,?_,?_,?_,?_,?_,?_,?_,?_⟩
   ·rw[b1];simp only;omega
   ·rw[b1];simp only;omega
   ·rw[b1];simp only;omega
   ·rw[b1];simp only[Int.toNat_natCast,ht];omega
   ·rw[b1,b2];simp only[Int.toNat_natCast,ht]
   ·intro _;exact⟨b1,b3⟩
   ·intro hc;rw[ht,hncp]at hc;cases hc
   ·rw[b3];omega
   ·rw[b3];omega
 ·have⟨c1,c2,c3,c4,c5⟩:=Cy.1 hcp;have hnr:t.run=false:=by
   cases q:t.run with
   |false=>rfl
   |true=>rw[CI q]at hcp;cases hcp
  have hm:t.made=t.len:=by unfold Tk.made;rw[hnr,if_neg Si,if_pos hcp]
  have ew:G6 w t=K8 0 id w t.off.toNat t.len.toNat:=by unfold G6;rw[c1,append_nil,fL]
  have eo:aT i o t=K8 (0,0) id o t.off.toNat t.len.toNat:=by unfold aT Ww;rw[c1];simp
  have ed:P9 d t=K8 0 (· +1) d t.off.toNat t.len.toNat:=by unfold P9;rw[c1];simp
  have hlw:=Mh (d:=(0:Int)) (cp:=id) t.off.toNat t.len.toNat w;have hlo:=Mh (d:=((0:Int),(0:Int))) (cp:=id) t.off.toNat t.len.toNat o;have hld:=Mh (d:=(0:Int)) (cp:=(· +1)) t.off.toNat t.len.toNat d;have⟨gw,gw'⟩:=RK (d:=(0:Int)) (cp:=id) t.off.toNat Om t.len.toNat w Om;have⟨go,go'⟩:=RK (d:=((0:Int),(0:Int))) (cp:=id) t.off.toNat Om t.len.toNat o Om;have⟨gd,gd'⟩:=RK (d:=(0:Int)) (cp:=(· +1)) t.off.toNat Om t.len.toNat d Om;rw[ew,eo,ed];generalize K8 0 id w t.off.toNat t.len.toNat=w' at*;generalize K8 (0,0) id o t.off.toNat t.len.toNat=o' at*;generalize K8 0 (· +1) d t.off.toNat t.len.toNat=d' at*;have key:∀p,p<w'.length->0≤(o'.getD p (0,0)).1∧(o'.getD p (0,0)).1<i∧0≤(o'.getD p (0,0)).2∧(o'.getD p (0,0)).2<(L.getD (o'.getD p (0,0)).1.toNat Ld).lit.length∧
   (L.getD (o'.getD p (0,0)).1.toNat Ld).lit.getD (o'.getD p (0,0)).2.toNat 0=w'.getD p 0∧0≤d'.getD p 0∧d'.getD p 0≤p:=by
   intro p
   induction p using Nat.strongRecOn with
   |_ p ih=>
    intro hp;by_cases hlt:p<w.length
    ·rw[gw p hlt,go p Om,gd p Om];exact al p hlt
    ·have h1:=gw' p Om Om;have h2:=go' p Om Om;have h3:=gd' p Om Om;have⟨a1,a2,a3,a4,a5,a6,a7⟩:=ih (p-t.off.toNat) Om Om;rw[h1,h2,h3];simp only[id]at*;exact⟨a1,a2,a3,a4,a5,Om,Om⟩
  refine⟨⟨Om,Om,λp hp=>?_⟩,λk hk=>?_⟩
  ·have⟨a1,a2,a3,a4,a5,a6,a7⟩:=key p hp;exact⟨a1,Om,a3,a4,a5,a6,a7⟩
  ·have hp:w.length+k<w'.length:=Om
   have⟨a1,a2,a3,a4,a5,a6,a7⟩:=key _ hp;refine⟨hp,a1,Om,a3,a4,a5,?_,?_,a6,a7⟩
   ·intro hc;rw[ht,hnr]at hc;cases hc
   ·intro _;rw[ht];exact⟨Om,go' _ Om Om,gd' _ Om Om⟩
theorem Zr.more {L:List Tk} {w W:List Int} {o O:List (Int×Int)} {d D:List Int} {i k p:Nat} (h:Zr L w o d i k p) (hw:∃a,W=w++a) (ho:∃a,O=o++a) (hd:∃a,D=d++a) (lo:o.length=w.length) (ld:d.length=w.length):Zr L W O D i k p:=by
 obtain⟨a,rfl⟩:=hw;obtain⟨b,rfl⟩:=ho;obtain⟨c,rfl⟩:=hd;have hl:=h.lt;have e1:∀q,q≤p->(w++a).getD q 0=w.getD q 0:=λq hq=>by rw[CT,if_pos Om]
 have e2:∀q,q≤p->(o++b).getD q (0,0)=o.getD q (0,0):=λq hq=>by rw[CT,if_pos Om]
 have e3:∀q,q≤p->(d++c).getD q 0=d.getD q 0:=λq hq=>by rw[CT,if_pos Om]
 have p0:=e1 p (Nat.le_refl _);have p1:=e2 p (Nat.le_refl _);have p2:=e3 p (Nat.le_refl _);refine⟨by rw[length_append];omega,by rw[p1];exact h.t0,by rw[p1];exact h.t1,by rw[p1];exact h.j0,by rw[p1];exact h.j1,by rw[p0,p1];exact h.is,by rw[p1,p2];exact h.run,λhc=>?_,by rw[p2];exact h.d0,by rw[p2];exact h.d1⟩;have⟨c1,c2,c3⟩:=h.cpy hc;rw[p1,p2,e2 _ Om,e3 _ Om];exact⟨c1,c2,c3⟩
theorem Fa.thead {s:RS} (h:Fa s) (hs:An s):Fa s.thead.1:=by
 have h1:=h.vint hs;have h2:=(hs.vint).2;have f1:∀c,Fa (s.vint.1.fail c s.at_):=λc=>h1.fail hs.at0 (by rw[h2];exact hs.at1)
 unfold RS.thead
 repeat' split
 all_goals first|exact h1|exact f1 _
theorem Fa.toff {s:RS} (h:Fa s) (hs:An s):Fa s.toff.1:=by
 have h1:=h.vint hs;have h2:=(hs.vint).2;have f1:∀c,Fa (s.vint.1.fail c s.at_):=λc=>h1.fail hs.at0 (by rw[h2];exact hs.at1)
 unfold RS.toff
 repeat' split
 all_goals first|exact h1|exact f1 _
theorem Fa.token {s:RS} (h:Fa s) (hs:An s):Fa s.token.1:=by
 have h1:=h.thead hs;have hk:=(ET hs).1;have h2:=h1.toff hk;have h3:=h1.take hk s.thead.2.2;unfold RS.token
 repeat' split
 all_goals first|exact h1|exact h2|exact h3
def UG {bound:Int}:∀(n:Nat) (s:RS) (out:List Int),An s->Fa s->s.left≤n->0≤(Ei bound s out).2.2∧(Ei bound s out).2.2≤s.l.length:=by
 intro n
 induction n with
 |zero=>intro s out h hf hl;rw[F7 Om];exact⟨Int.le_refl _,by show(0:Int)≤_;omega⟩
 |succ n ih=>
  intro s out h hf hl;by_cases hp:0<s.left
  ·have k1:=ET h;have k2:=Mp h;by_cases hh:s.thead.1.code=0
   ·by_cases hb:bound<out.length+s.thead.2.2
    ·rw[G8 hp hh hb];exact⟨h.at0,h.at1⟩
    ·by_cases ht:s.token.1.code=0
     ·by_cases ho:(out.length:Int)<s.token.2.off
      ·rw[Ks hp hh hb ht ho];have a0:=k1.1.at0;have a1:=k1.1.at1;rw[k1.2]at a1;exact⟨a0,a1⟩
      ·rw[FO h hp hh hb ht ho];have⟨t1,t2,t3⟩:=Ee h ht;have:=ih s.token.1 (G6 out s.token.2) t2 (hf.token h) Om;rw[k2.2]at this;exact this
     ·rw[F6 hp hh hb ht];have:=hf.token h;unfold Fa at this;rw[k2.2]at this;exact this
   ·rw[G9 hp hh];have:=hf.thead h;unfold Fa at this;rw[k1.2]at this;exact this
  ·rw[F7 hp];exact⟨Int.le_refl _,by show(0:Int)≤_;omega⟩
def N5 {s:RS} (hs:An s) (m:Int) (hc:(s.blob m).1.code=0):0≤(s.blob m).1.at_-(s.blob m).2.length∧(s.blob m).1.at_≤s.l.length:=by
 have⟨h1,h2⟩:=hs.int m;have⟨k1,k2,k3,k4⟩:=Hf hs m;have:=Bn h1 (n:=(s.int m).2) hc;have⟨_,_,e1,e2,_⟩:=this;have h3:=h1.at0;have h4:=k1.at1;rw[k2]at h4;refine⟨?_,h4⟩;show 0≤((s.int m).1.take (s.int m).2).1.at_-(((s.int m).1.take (s.int m).2).2.length:Int);rw[e2,e1];omega
theorem Fa.unpk {s:RS} (h:Fa s) (hs:An s) (n:Int):Fa (s.unpk n).1:=by
 have h1:=h.blob hs 1048576;have⟨k1,k2,k3,k4⟩:=Hf hs 1048576;unfold RS.unpk;split
 ·rename_i hc;have hp:=N5 hs 1048576 hc;have ha:=k1.at0;have hf:=UG (bound:=n) _ (RS.new (s.blob 1048576).2) [] (An.new k3 (by have:=hs.len;omega)) (Fa.new _) (Int.self_le_toNat _);have hl:(RS.new (s.blob 1048576).2).l.length=(s.blob 1048576).2.length:=rfl;split
  ·split
   ·exact h1.fail ha (by rw[k2];exact hp.2)
   ·exact h1
  ·exact h1.fail Om (by rw[k2];omega)
 ·exact h1
def Zg {s:RS} (hs:An s) (hc:s.byte.1.code=0):s.code=0∧1≤s.byte.1.at_∧s.byte.1.at_=s.at_+1:=by
 have e:s.byte.1=(s.take 1).1:=by unfold RS.byte RS.take;split<;>rfl
 rw[e]at hc ⊢;have⟨h1,_,_,h2,_⟩:=Bn hs (n:=1) hc;have:=hs.at0;exact⟨h1,Om,h2⟩
theorem Fa.byte {s:RS} (h:Fa s) (hs:An s):Fa s.byte.1:=by
 have:=h.skip hs 1;unfold RS.byte;split<;>exact this
theorem Fa.bway {s:RS} (h:Fa s) (hs:An s):Fa s.bway.1:=(h.int hs 1048576).byte (hs.int 1048576).1
theorem Fa.bdat {s:RS} (h:Fa s) (hs:An s):Fa s.bdat.1:=by
 have h1:=h.bway hs;have⟨k1,k2⟩:=I_ hs;unfold RS.bdat;split
 ·rename_i hc;have hb:=Zg (hs.int 1048576).1 hc;have hb1:1≤s.bway.1.at_:=hb.2.1;have hb2:=k1.at1
  repeat' split
  ·exact h1.take k1 _
  ·exact h1.unpk k1 _
  ·exact h1.fail Om Om
 ·exact h1
theorem Fa.blkL {s:RS} (h:Fa s) (hs:An s):Fa s.blkL.1:=by
 have:=h.bdat hs;unfold RS.blkL;split<;>exact this
theorem Fa.blk {s:RS} (h:Fa s) (hs:An s):Fa s.blk.1:=by
 have h1:=h.blkL hs;have⟨k1,k2⟩:=K6 hs;unfold RS.blk;split
 ·exact h1
 ·exact h1.fail k1.at0 k1.at1
def oX {s:RS} (hs:An s) {n:Int} (hn:n≤1048576) (hc:(s.unpk n).1.code=0):s.code=0∧s.at_≤(s.unpk n).1.at_∧A7 (s.unpk n).2∧(s.unpk n).2.length≤1048576:=by
 have⟨k1,k2,k3,k4⟩:=Hf hs 1048576;have hok:An (RS.new (s.blob 1048576).2):=An.new k3 (by have:=hs.len;omega);have hle:=sI (bound:=n) _ (RS.new (s.blob 1048576).2) [] hok (Int.self_le_toNat _) (by simp;omega);have hby:=lY (bound:=n) _ (RS.new (s.blob 1048576).2) [] hok (Int.self_le_toNat _) (λx hx=>by simp at hx);unfold RS.unpk at hc ⊢;split at hc
 ·rename_i h0;have hb:=Bn (hs.int 1048576).1 (n:=(s.int 1048576).2) h0;have hi:=YX hs hb.1;have hh:s.code=0:=(KW hs hb.1).1;have ha:s.at_≤(s.blob 1048576).1.at_:=by
   show s.at_≤((s.int 1048576).1.take (s.int 1048576).2).1.at_;rw[hb.2.2.2.1];have:=hb.2.1;omega
  rw[if_pos h0];split at hc
  ·rename_i h1;rw[if_pos h1];split at hc
   ·exact absurd hc (by unfold RS.fail;rw[if_pos h0];simp[Cd])
   ·rename_i h2;rw[if_neg h2];exact⟨hh,ha,hby,by simp only[];omega⟩
  ·rename_i h1;exact absurd hc (by unfold RS.fail;rw[if_pos h0];simp only[Cd];rw[if_neg h1];exact h1)
 ·rename_i h0;exact absurd hc h0
def Zn {s:RS} (hs:An s) (hc:s.bdat.1.code=0):s.code=0∧s.at_≤s.bdat.1.at_∧A7 s.bdat.2∧s.bdat.2.length≤1048576:=by
 have⟨k1,k2⟩:=I_ hs;have key:s.bway.1.code=0->s.code=0∧s.at_≤s.bway.1.at_∧s.bway.2.1≤1048576:=λh0=>by
  have⟨b1,b2,b3⟩:=Zg (hs.int 1048576).1 (show(s.int 1048576).1.byte.1.code=0 from h0);have hi:=YX hs b1;have hj:=KW hs b1;refine⟨hj.1,?_,hj.2.2.1⟩;show s.at_≤(s.int 1048576).1.byte.1.at_;omega
 unfold RS.bdat at hc ⊢;split at hc
 ·rename_i h0;have⟨c1,c2,c3⟩:=key h0;rw[if_pos h0];split at hc
  ·rename_i h1;rw[if_pos h1];have hb:=Bn k1 hc;exact⟨c1,by rw[hb.2.2.2.1];have:=hb.2.1;omega,Fe k1.bys _,by have:=hb.2.2.1;omega⟩
  ·rename_i h1;rw[if_neg h1];split at hc
   ·rename_i h2;rw[if_pos h2];have:=oX k1 c3 hc;exact⟨c1,Om,this.2.2⟩
   ·exact absurd hc (by unfold RS.fail;rw[if_pos h0];simp[Cd])
 ·rename_i h0;exact absurd hc h0
def Zm {s:RS} (hs:An s) (hc:s.blkL.1.code=0):s.code=0∧s.at_≤s.blkL.1.at_∧A7 s.blkL.2.1∧s.blkL.2.1.length≤1048576:=by
 unfold RS.blkL at hc ⊢;split at hc
 ·rename_i h;rw[if_pos h];exact Zn hs h
 ·rename_i h;exact absurd hc h
abbrev Hh:=List Lk×Int
def R_:List Hh->Int
 |[]=>0
 |x::l=>x.2+R_ l
theorem gT (l:List Hh) (x:Hh):R_ (l++[x])=R_ l+x.2:=by
 induction l with
 |nil=>simp[R_]
 |cons y l ih=>simp only[cons_append,R_,ih];omega
structure Abw (base:Int) (acc:List Hh) (x:Hh):Prop where
 lk:Oe x.1
 right:BH (base+acc.length) x.1=true
 sz:0≤x.2
 sum:R_ acc+x.2≤1048576
 pos:base+acc.length<4611686018427387904
def CS (base:Int):EM Hh:=⟨λs acc=>if base+acc.length<4611686018427387904 then s.ehead (base+acc.length) (1048576-R_ acc)else(s.fail 3 0,([],0)),
 λacc x=>Cn (base+acc.length) x.1++vb x.2,λacc x=>Abw base acc x⟩
theorem Q_ {base:Int} {s:RS} {acc:List Hh} (h:base+acc.length<4611686018427387904):(CS base).f s acc=s.ehead (base+acc.length) (1048576-R_ acc):=by
 simp only[CS];rw[if_pos h]
def mB {s:RS} {pos m:Int} (h:An s) (p0:0≤pos) (p1:pos<18446744073709551616) (hc:(s.ehead pos m).1.code=0):
 s.code=0∧Oe (s.ehead pos m).2.1∧BH pos (s.ehead pos m).2.1=true∧0≤(s.ehead pos m).2.2∧(s.ehead pos m).2.2≤m∧s.at_<(s.ehead pos m).1.at_∧
 s.l.take (s.ehead pos m).1.at_.toNat=s.l.take s.at_.toNat++(Cn pos (s.ehead pos m).2.1++vb (s.ehead pos m).2.2):=by
 have⟨a,b⟩:=EY h p0 p1;unfold RS.ehead at hc ⊢;split at hc
 ·rename_i h0;rw[if_pos h0];have⟨c1,c2,c3,c4,c5⟩:=Es a h0;have⟨i1,i2,i3,i4,i5⟩:=kM h p0 p1 c1;refine⟨i1,i2,i3,c2,c3,by simp only[];omega,?_⟩;simp only[];rw[b]at c5;rw[c5,i5,append_assoc]
 ·rename_i h0;exact absurd hc h0
def Mx {base:Int}:∀{r acc:List Hh},Wf (CS base).nx acc r->0≤R_ r
 |[],_,_=>Int.le_refl _
 |x::r,acc,h=>by
  have h1:=h.1.sz;have h2:=Mx h.2;simp only[R_];omega
def L_ {base:Int} (b0:0≤base):(CS base).Ok:=by
 refine⟨λs acc h _=>?_,λs acc h hw hc=>?_,λs acc x r h hc hw hx hr=>?_,λacc x hw hx=>?_⟩
 ·by_cases hp:base+acc.length<4611686018427387904
  ·rw[Q_ hp];exact NT h Om Om _
  ·simp only[CS];rw[if_neg hp];exact⟨h.fail _ _,Bx _ _ _⟩
 ·by_cases hp:base+acc.length<4611686018427387904
  ·rw[Q_ hp]at hc ⊢;have⟨e1,e2,e3,e4,e5,e6,e7⟩:=mB h Om Om hc;exact⟨e1,⟨e2,e3,e4,Om,hp⟩,e6,e7⟩
  ·simp only[CS]at hc;rw[if_neg hp]at hc;exact absurd hc (dW _ De)
 ·have⟨x1,x2,x3,x4,x5⟩:=hx;have hnn:=Mx hw;rw[Q_ x5];have ex:Fj (base+acc.length) ⟨x.1,List.replicate x.2.toNat 0⟩=Cn (base+acc.length) x.1++vb x.2:=by
   unfold Fj;simp only[length_replicate];rw[Int.toNat_of_nonneg x3]
  have:=eA (e:=⟨x.1,List.replicate x.2.toNat 0⟩) (m:=1048576-R_ acc) h hc Om Om ⟨x1,λy hy=>by rw[mem_replicate]at hy;rw[hy.2];decide⟩ x2 (by simp;omega) (by simp;omega) (by rw[ex];exact hr);rw[this,ex];simp only[length_replicate,CS];rw[Int.toNat_of_nonneg x3]
 ·have⟨x1,x2,x3,x4,x5⟩:=hx;intro y hy;simp only[CS]at hy;have hnn:=Mx hw;rcases mem_append.1 hy with hy|hy
  ·exact Nb Om Om x1 x2 y hy
  ·exact CG (x:=x.2) x3 Om y hy
def KB (l:List Hh):List En:=l.map λx=>⟨x.1,[]⟩
def Mb (l:List Hh):List Int:=l.map (·.2)
theorem Hw (l:List Hh):(KB l).length=l.length:=by simp[KB]
theorem NA (l:List Hh):(Mb l).length=l.length:=by simp[Mb]
def RS.bthd (s:RS):RS×(Int×(Int×Int)):=
 (if EQ ((s.epo Ae).1.epo Bh).2 (((s.epo Ae).1.epo Bh).1.int 16).2=true then(((s.epo Ae).1.epo Bh).1.int 16).1 else(((s.epo Ae).1.epo Bh).1.int 16).1.fail 3 ((s.epo Ae).1.epo Bh).1.at_,
   ((s.epo Ae).2,(((s.epo Ae).1.epo Bh).2,(((s.epo Ae).1.epo Bh).1.int 16).2)))
def RS.bthe (s:RS):RS×List Hh:=(CS s.bthd.2.2.1).many s.bthd.2.2.2.toNat s.bthd.1 []
def RS.btfi (h:RS) (q:List Hh) (d:RS×List Int):RS:=if(Fm (KB q) (Mb q) d.2).2=true then d.1 else d.1.fail 3 h.at_
def RS.btch (s:RS) (blk:RS->RS×List Int):RS×Bt:=
 if s.bthd.1.code=0 then
  (if(RS.btfi s.bthe.1 s.bthe.2 (blk s.bthe.1)).code=0 then(RS.btfi s.bthe.1 s.bthe.2 (blk s.bthe.1),⟨s.bthd.2.1,s.bthd.2.2.1,(Fm (KB s.bthe.2) (Mb s.bthe.2) (blk s.bthe.1).2).1⟩)
  else(RS.btfi s.bthe.1 s.bthe.2 (blk s.bthe.1),Cj))
 else(s.bthd.1,Cj)
def Hb {s:RS} (h:An s):An s.bthd.1∧s.bthd.1.l=s.l:=by
 have⟨a1,a2⟩:=Bz h Ae;have⟨b1,b2⟩:=Bz a1 Bh;have⟨c1,c2⟩:=b1.int 16;unfold RS.bthd;split
 ·exact⟨c1,c2.trans (b2.trans a2)⟩
 ·exact⟨c1.fail _ _,by rw[Bx];exact c2.trans (b2.trans a2)⟩
def Rz {s:RS} (h:An s):0≤s.bthd.2.2.1∧s.bthd.2.2.1<4611686018427387904∧0≤s.bthd.2.2.2∧s.bthd.2.2.2≤16:=by
 have⟨a1,a2⟩:=Bz h Ae;have⟨b1,b2⟩:=Bz a1 Bh;have hi:=Er (s:=((s.epo Ae).1.epo Bh).1) (m:=16) b1.bys;have hp:0≤((s.epo Ae).1.epo Bh).2∧((s.epo Ae).1.epo Bh).2<4611686018427387904:=by
  by_cases hc:((s.epo Ae).1.epo Bh).1.code=0
  ·have⟨_,c1,_,c2,_⟩:=JL a1 hc;exact⟨c1,by simpa[Bh]using c2⟩
  ·rw[Zb hc];omega
 exact⟨hp.1,hp.2,hi.1,by have:=hi.2;show(((s.epo Ae).1.epo Bh).1.int 16).2≤_;omega⟩
def Jb {s:RS} (h:An s):An s.bthe.1∧s.bthe.1.l=s.l:=by
 have⟨a1,a2⟩:=Hb h;have⟨b1,b2⟩:=PC (L_ (Rz h).1) s.bthd.2.2.2.toNat s.bthd.1 [] a1 trivial;exact⟨b1,b2.trans a2⟩
def Y0 {base:Int} (b0:0≤base) {s:RS} (hs:An s) (hc:s.code=0) (N:Nat):Wf (CS base).nx [] ((CS base).many N s []).2∧((CS base).many N s []).2.length≤N∧(((CS base).many N s []).1.code=0->((CS base).many N s []).2.length=N):=by
 by_cases h:((CS base).many N s []).1.code=0
 ·have⟨r,h1,h2,h3,_⟩:=YP (L_ b0) N s [] hs trivial h;rw[nil_append]at h1 h3;rw[h1];exact⟨h3,Om,λ_=>h2⟩
 ·rw[Ka N s [] (.inr rfl) h];exact⟨trivial,Si,λh'=>absurd h' h⟩
def PT {base:Int} {l:List Hh} (h:Wf (CS base).nx [] l):(∀e∈KB l,e.lk.length≤1000000∧∀x∈e.lk,x.bk.length≤1000000)∧(∀n∈Mb l,0≤n∧n≤1048576):=by
 have key:∀x∈l,(x.1.length≤1000000∧∀y∈x.1,y.bk.length≤1000000)∧0≤x.2∧x.2≤1048576:=λx hx=>by
  obtain⟨i,hi,rfl⟩:=getElem_of_mem hx;have hn:=Fq i hi h;have hp:=Mx (IM i h);rw[nil_append]at hn;have⟨r1,r2⟩:=(GN hn.lk).1 hn.right;refine⟨⟨Om,λy hy=>?_⟩,hn.sz,by have:=hn.sum;omega⟩;obtain⟨j,hj,rfl⟩:=getElem_of_mem hy;have:=(Fq j hj r2).2.2.2.2;omega
 constructor
 ·intro e he;simp only[KB,mem_map]at he;obtain⟨x,hx,rfl⟩:=he;exact(key x hx).1
 ·intro n hn;simp only[Mb,mem_map]at hn;obtain⟨x,hx,rfl⟩:=hn;exact(key x hx).2
def Zk {s:RS} (h:An s):s.blk.2.length≤1048576:=by
 unfold RS.blk;split
 ·rename_i hw;have hc:s.blkL.1.code=0:=by
   unfold RS.blkL at hw ⊢;split at hw
   ·rename_i hc;rw[if_pos hc];exact hc
   ·simp at hw
  exact(Zm h hc).2.2.2
 ·simp
def eZ {h:RS} {q:List Hh} {d:RS×List Int} (hd:An d.1):An (RS.btfi h q d)∧(RS.btfi h q d).l=d.1.l:=by
 unfold RS.btfi;split
 ·exact⟨hd,rfl⟩
 ·exact⟨hd.fail _ _,Bx _ _ _⟩
def Hc {s:RS} (h:An s) {blk:RS->RS×List Int} (hb:∀s,An s->An (blk s).1∧(blk s).1.l=s.l):An (s.btch blk).1∧(s.btch blk).1.l=s.l:=by
 have⟨a1,a2⟩:=Hb h;have⟨b1,b2⟩:=Jb h;have⟨c1,c2⟩:=hb _ b1;have⟨d1,d2⟩:=eZ (h:=s.bthe.1) (q:=s.bthe.2) c1;unfold RS.btch
 repeat' split
 ·exact⟨d1,d2.trans (c2.trans b2)⟩
 ·exact⟨d1,d2.trans (c2.trans b2)⟩
 ·exact⟨a1,a2⟩
structure Mk where
 pos:Int
 cnt:Int
 at_:Int
deriving DecidableEq
def Mk.fin (m:Mk):Int:=m.pos+m.cnt
def Mk.ok (m:Mk):Prop:=0≤m.pos∧m.pos<18446744073709551616∧ -9223372036854775808≤m.cnt∧m.cnt<9223372036854775808∧ -9223372036854775808≤m.at_∧m.at_<9223372036854775808
def CU:Mk:=⟨0,0,0⟩
def Mk.fits (m:Mk) (pos at_:Int):Prop:=1≤m.cnt∧m.cnt≤16∧pos≤m.pos∧m.pos+m.cnt≤4611686018427387904∧at_<m.at_∧m.at_≤1099511627775
instance (m:Mk) (pos at_:Int):Decidable (m.fits pos at_):=by unfold Mk.fits;infer_instance
def AF (acc:List Mk):Mk:=acc.getLastD CU
theorem EZ (acc:List Mk) (m:Mk):AF (acc++[m])=m:=by simp[AF]
def Ii (acc:List Mk) (m:Mk):Prop:=m.fits (AF acc).fin (AF acc).at_
def Gl (acc:List Mk) (m:Mk):List Int:=vb (m.pos-(AF acc).fin)++(vb m.cnt++vb (m.at_-(AF acc).at_-1))
def RS.m3 (s:RS):RS:=((s.vint.1.int 16).1.int 1099511627775).1
def RS.mBy (s:RS):Int:=s.vint.2
def RS.mCnt (s:RS):Int:=(s.vint.1.int 16).2
def RS.mOn (s:RS):Int:=((s.vint.1.int 16).1.int 1099511627775).2
def RS.mark (s:RS) (p:Mk):Mk:=⟨p.fin+s.mBy,s.mCnt,p.at_+s.mOn+1⟩
def D3:EM Mk:=
 ⟨λs acc=>if s.m3.code=0∧¬(s.mark (AF acc)).fits (AF acc).fin (AF acc).at_ then(s.m3.fail 3 s.at_,CU)else(s.m3,s.mark (AF acc)),Gl,Ii⟩
def YQ {s:RS} (h:An s):An s.m3∧s.m3.l=s.l:=by
 have⟨a,b⟩:=h.vint;have⟨c,d⟩:=a.int 16;have⟨e,f⟩:=c.int 1099511627775;exact⟨e,f.trans (d.trans b)⟩
def FN {acc:List Mk} (h:Wf Ii [] acc):0≤(AF acc).fin∧(AF acc).fin≤4611686018427387904∧0≤(AF acc).at_∧(AF acc).at_≤1099511627775∧0≤(AF acc).pos∧0≤(AF acc).cnt:=by
 have gen:∀n,∀acc:List Mk,acc.length=n->Wf Ii [] acc->0≤(AF acc).fin∧(AF acc).fin≤4611686018427387904∧0≤(AF acc).at_∧(AF acc).at_≤1099511627775∧0≤(AF acc).pos∧0≤(AF acc).cnt:=by
  intro n
  induction n with
  |zero=>intro acc h _;rw[eq_nil_of_length_eq_zero h];decide
  |succ n ih=>
   intro acc h hw;rcases eq_nil_or_concat acc with rfl|⟨l,x,rfl⟩
   ·simp at h
   ·rw[concat_eq_append]at h hw ⊢;have⟨h1,h2⟩:=D8.1 hw;have:=ih l (by simpa using h) h1;rw[EZ];have h3:x.fits (AF ([]++l)).fin (AF ([]++l)).at_:=h2;simp only[nil_append]at h3;have⟨q1,q2,q3,q4,q5,q6⟩:=h3;unfold Mk.fin at*;omega
 exact gen _ acc rfl h
def kD {s:RS} (h:An s):0≤s.mBy∧s.mBy<18446744073709551616∧0≤s.mCnt∧s.mCnt≤16∧0≤s.mOn∧s.mOn≤1099511627775:=by
 have a:=Bf (s:=s) h.bys;have b:=Er (s:=s.vint.1) (m:=16) h.vint.1.bys;have c:=Er (s:=(s.vint.1.int 16).1) (m:=1099511627775) (h.vint.1.int 16).1.bys;unfold RS.mBy RS.mCnt RS.mOn;omega
def rC {s:RS} (h:An s) (hc:s.m3.code=0):s.code=0∧s.vint.1.code=0∧(s.vint.1.int 16).1.code=0∧s.at_<s.m3.at_∧s.l.take s.m3.at_.toNat=s.l.take s.at_.toNat++(vb s.mBy++(vb s.mCnt++vb s.mOn)):=by
 have⟨a,b⟩:=h.vint;have⟨c,d⟩:=a.int 16;have⟨i1,i2,i3,i4,i5⟩:=Es c hc;have⟨j1,j2,j3,j4,j5⟩:=Es a i1;have⟨v1,v2,v3⟩:=CK h j1;have ha:=EC h j1;refine⟨v3,j1,i1,by unfold RS.m3;omega,?_⟩;rw[d,b]at i5;rw[b]at j5;unfold RS.m3 RS.mBy RS.mCnt RS.mOn;rw[i5,j5,v1];simp
def F0:D3.Ok:=by
 refine⟨λs acc h _=>?_,λs acc h hw hc=>?_,λs acc x r h hc hw hx hr=>?_,λacc x hw hx=>?_⟩
 ·have⟨a,c⟩:=YQ h;simp only[D3];split
  ·exact⟨a.fail _ _,by rw[Bx];exact c⟩
  ·exact⟨a,c⟩
 ·simp only[D3]at hc ⊢;by_cases hf:s.m3.code=0∧¬(s.mark (AF acc)).fits (AF acc).fin (AF acc).at_
  ·rw[if_pos hf]at hc;exact absurd hc (BR _ _ hf.1 De)
  ·rw[if_neg hf]at hc ⊢;have⟨v1,v2,v3,v4,v5⟩:=rC h hc;have hfit:(s.mark (AF acc)).fits (AF acc).fin (AF acc).at_:=by
    by_cases hq:(s.mark (AF acc)).fits (AF acc).fin (AF acc).at_
    ·exact hq
    ·exact absurd ⟨hc,hq⟩ hf
   refine⟨v1,hfit,v4,?_⟩;simp only;rw[v5];congr 1;unfold Gl RS.mark;simp only;rw[show(AF acc).fin+s.mBy-(AF acc).fin=s.mBy from by omega,show(AF acc).at_+s.mOn+1-(AF acc).at_-1=s.mOn from by omega]
 ·have hl:=FN hw;have hx':=hx;have⟨q1,q2,q3,q4,q5,q6⟩:=hx';simp only[D3,Gl,append_assoc]at hr ⊢;have v:=Du hc Om Om hr;have a:=Bl h hr;have hr2:(s.adv ((vb (x.pos-(AF acc).fin)).length:Int)).rest=vb x.cnt++(vb (x.at_-(AF acc).at_-1)++r):=by rw[AW h.at0,hr,drop_left]
  have i:=Ec (m:=16) (show(s.adv ((vb (x.pos-(AF acc).fin)).length:Int)).code=0 from hc) Om Om Om hr2;have b:=Bl a hr2;have hr3:((s.adv ((vb (x.pos-(AF acc).fin)).length:Int)).adv ((vb x.cnt).length:Int)).rest=vb (x.at_-(AF acc).at_-1)++r:=by rw[AW a.at0,hr2,drop_left]
  have j:=Ec (m:=1099511627775) (show((s.adv ((vb (x.pos-(AF acc).fin)).length:Int)).adv ((vb x.cnt).length:Int)).code=0 from hc) Om Om Om hr3;have e3:s.m3=s.adv ((vb (x.pos-(AF acc).fin)++(vb x.cnt++vb (x.at_-(AF acc).at_-1))).length:Int):=by
   unfold RS.m3;rw[v];simp only;rw[i];simp only;rw[j];simp only[Bs,length_append];congr 1;omega
  have eb:s.mark (AF acc)=x:=by
   unfold RS.mark RS.mBy RS.mCnt RS.mOn;rw[v];simp only;rw[i];simp only;rw[j];cases x;simp only[Mk.mk.injEq];refine⟨Om,trivial,Om⟩
  rw[eb,e3,if_neg (λhh=>hh.2 hx)]
 ·have hl:=FN hw;have⟨q1,q2,q3,q4,q5,q6⟩:=hx;intro y hy;simp only[D3,Gl,mem_append]at hy;rcases hy with hy|hy|hy
  ·exact CG Om Om y hy
  ·exact CG Om Om y hy
  ·exact CG Om Om y hy
def DL:Int->Int->List Mk->Bool
 |_,_,[]=>true
 |pos,at_,m::r=>decide (m.fits pos at_)&&DL m.fin m.at_ r
def QG:∀{l acc:List Mk},DL (AF acc).fin (AF acc).at_ l=true↔Wf Ii acc l:=by
 intro l
 induction l with
 |nil=>intro acc;simp[DL,Wf]
 |cons m l ih=>
  intro acc;have:=ih (acc:=acc++[m]);rw[EZ]at this;simp only[DL,Wf,Bool.and_eq_true,decide_eq_true_eq,this];rfl
def AR (l:List Mk):Bool:=DL 0 0 l&&decide (l.length≤16)
theorem Bd {l:List Mk}:AR l=true↔Wf Ii [] l∧l.length≤16:=by
 unfold AR;rw[Bool.and_eq_true,decide_eq_true_eq];have:=QG (l:=l) (acc:=[]);rw[show(AF []).fin=0 from rfl,show(AF []).at_=0 from rfl]at this;rw[this]
def AJ (l:List Mk):List Int:=vb l.length++BL Gl [] l
def RS.marks (s:RS):RS×List Mk:=D3.counted 16 s
theorem W3 (l:List Mk) (k:Nat) (h:k≤l.length):AF (l.take k)=if k=0 then CU else l.getD (k-1) CU:=by
 cases k with
 |zero=>rfl
 |succ k=>
  rw[take_succ_eq_append_getElem (show k<l.length from by omega),EZ];simp[show k<l.length from by omega]
def GT (acc:List Mk) (m:Mk):List Int:=[m.pos-(AF acc).fin,m.cnt,m.at_-(AF acc).at_-1]
theorem KE:∀(l acc:List Mk),Jn (BL GT acc l)=BL Gl acc l:=by
 intro l
 induction l with
 |nil=>intro acc;rfl
 |cons x l ih=>
  intro acc;simp only[BL];rw[←ih (acc++[x])];simp[Jn,GT,Gl]
theorem bJ:∀(l acc:List Mk),(BL GT acc l).length=3*l.length:=by
 intro l
 induction l with
 |nil=>intro acc;rfl
 |cons x l ih=>intro acc;simp only[BL,length_append,ih,GT,length_cons,length_nil];omega
def C7 (l:List Mk):(AJ l).length≤10+30*l.length∧l.length<(AJ l).length:=by
 have h1:=Qm (BL GT [] l);have h2:=vH (BL GT [] l);rw[KE,bJ]at h1 h2;have h3:=A4 (l.length:Int);unfold AJ;rw[length_append];omega
def FZ {l:List Mk} (h:Wf Ii [] l) (hn:l.length<18446744073709551616):A7 (AJ l):=by
 intro y hy;rcases mem_append.1 hy with hy|hy
 ·exact CG Om Om y hy
 ·exact UQ (F:=D3) (acc:=[]) F0 trivial h y hy
def PB {s:RS} {l:List Mk} {r:List Int} (h:An s) (hc:s.code=0) (hl:AR l=true) (hr:s.rest=AJ l++r):s.marks=(s.adv ((AJ l).length:Int),l):=by
 have⟨h1,h2⟩:=Bd.1 hl;have:=IC F0 h hc (l:=l) (m:=16) (r:=r) Om h1 Om (by rw[hr];unfold AJ;simp only[append_assoc];rfl);unfold RS.marks;rw[this];have e:((vb (l.length:Int)).length:Int)+((BL D3.enc [] l).length:Int)=(AJ l).length:=by unfold AJ;rw[length_append];show _+((BL Gl [] l).length:Int)=_;omega
 rw[e]
def Z8 {l:List Mk} {k:Nat} (h:k<l.length) (hf:¬(l.getD k CU).fits (AF (l.take k)).fin (AF (l.take k)).at_):AR l=false:=by
 cases hr:AR l with
 |false=>rfl
 |true=>
  have h2:=Fq k h (Bd.1 hr).1;have h3:l[k]=l.getD k CU:=by simp[h]
  rw[h3]at h2;simp only[nil_append]at h2;exact absurd h2 hf
theorem Fa.failAt {s t:RS} (h:Fa t) (hs:An s) (hl:t.l=s.l) (c:Int):Fa (t.fail c s.at_):=h.fail hs.at0 (by rw[hl];exact hs.at1)
theorem Fa.ehead {s:RS} (hf:Fa s) (h:An s) {pos:Int} (p0:0≤pos) (p1:pos<18446744073709551616) (m:Int):Fa (s.ehead pos m).1:=by
 have h1:=(hf.links h p1).int (EY h p0 p1).1 m;unfold RS.ehead;split<;>exact h1
theorem Fa.marks {s:RS} (hf:Fa s) (h:An s):Fa s.marks.1:=by
 refine(Fa.many (F:=D3) (λs acc hf h=>?_) _ _ _ (hf.int h 16) (h.int 16).1).1;have h1:Fa s.m3:=((hf.vint h).int h.vint.1 16).int (h.vint.1.int 16).1 1099511627775;have h2:=YQ h;simp only[D3];split
 ·exact⟨h1.failAt h h2.2 3,h2.1.fail _ _⟩
 ·exact⟨h1,h2.1⟩
def Eg {s:RS} (h:An s):An s.rest9∧s.rest9.l=s.l:=by
 unfold RS.rest9;split
 ·exact⟨h.fail _ _,Bx _ _ _⟩
 ·exact⟨h,rfl⟩
theorem Fa.bthe {s:RS} (hf:Fa s) (h:An s):Fa s.bthe.1:=by
 have⟨a1,a2⟩:=Bz h Ae;have⟨b1,b2⟩:=Bz a1 Bh;have f2:=((hf.epo h Ae).epo a1 Bh);have f3:=f2.int b1 16;have hd:Fa s.bthd.1:=by
  unfold RS.bthd;split
  ·exact f3
  ·exact f3.failAt b1 (b1.int 16).2 3
 have hb:=Rz h;refine(Fa.many (F:=CS s.bthd.2.2.1) (λs' acc hf' h'=>?_) _ _ _ hd (Hb h).1).1;simp only[CS];split
 ·exact⟨hf'.ehead h' Om Om _,(NT h' Om Om _).1⟩
 ·exact⟨hf'.fail (Int.le_refl _) (by have:=h'.at0;have:=h'.at1;omega),h'.fail _ _⟩
theorem Fa.bthd {s:RS} (hf:Fa s) (h:An s):Fa s.bthd.1:=by
 have⟨a1,a2⟩:=Bz h Ae;have⟨b1,b2⟩:=Bz a1 Bh;have f2:=((hf.epo h Ae).epo a1 Bh);have f3:=f2.int b1 16;unfold RS.bthd;split
 ·exact f3
 ·exact f3.failAt b1 (b1.int 16).2 3
theorem Fa.btch {s:RS} (hf:Fa s) (h:An s) {blk:RS->RS×List Int} (hb:∀s,An s->An (blk s).1∧(blk s).1.l=s.l) (hfb:∀s,An s->Fa s->Fa (blk s).1):Fa (s.btch blk).1:=by
 have h1:=Jb h;have h2:=hfb _ h1.1 (hf.bthe h);have h3:Fa (RS.btfi s.bthe.1 s.bthe.2 (blk s.bthe.1)):=by
  unfold RS.btfi;split
  ·exact h2
  ·exact h2.failAt h1.1 (hb _ h1.1).2 3
 unfold RS.btch
 repeat' split
 ·exact h3
 ·exact h3
 ·exact hf.bthd h
structure SD where
 r:RS
 ep:Int
 bt:List Bt
 ms:List Mk
 w:Bool
 fst:Int
def GF (ep:Int) (bs:List Bt) (b:Bt):Bool:=decide (b.ep≤ep)&&(decide (bs.length=0)||(decide ((BQ bs).ep≤b.ep)&&decide ((BQ bs).base+(BQ bs).en.length≤b.base)))
def RS.wth (s:RS) (f:Int×Int) (a:Int):RS:=if f.1=0 then s else s.fail f.1 (f.2+a)
def SD.pay (S:SD):SD×(List Int×Int):=({S with r:=(S.r.frame 2097152).1,fst:=S.r.at_},((S.r.frame 2097152).2,(S.r.frame 2097152).1.at_-4-(S.r.frame 2097152).2.length))
abbrev Rdb:=RS->RS×(Bt×Bool)
def SD.batR (S:SD) (D:RS×(Bt×Bool)) (a:Int):RS:=
 if(S.r.wth (D.1.rest9.code,D.1.rest9.fat) a).code=0 then
  (if S.bt.length=16 then(S.r.wth (D.1.rest9.code,D.1.rest9.fat) a).fail 2 S.fst else if GF S.ep S.bt D.2.1=false then(S.r.wth (D.1.rest9.code,D.1.rest9.fat) a).fail 13 S.fst else S.r.wth (D.1.rest9.code,D.1.rest9.fat) a)
 else S.r.wth (D.1.rest9.code,D.1.rest9.fat) a
def SD.bat (rd:Rdb) (S:SD) (q:RS) (a:Int):SD:=
 if(S.r.wth ((rd q).1.rest9.code,(rd q).1.rest9.fat) a).code=0 then
  {S with r:=S.batR (rd q) a,bt:=S.bt++[(rd q).2.1],ms:=S.ms++[⟨(rd q).2.1.base,(rd q).2.1.en.length,S.fst⟩],w:=S.w&&(rd q).2.2}
 else{S with r:=S.r.wth ((rd q).1.rest9.code,(rd q).1.rest9.fat) a}
def SD.idxR (S:SD) (q:RS) (a:Int):RS:=
 if(S.r.wth (q.marks.1.rest9.code,q.marks.1.rest9.fat) a).code=0∧¬q.marks.2=S.ms then(S.r.wth (q.marks.1.rest9.code,q.marks.1.rest9.fat) a).fail 12 S.fst else S.r.wth (q.marks.1.rest9.code,q.marks.1.rest9.fat) a
def SD.idx (S:SD) (q:RS) (a:Int):SD:={S with r:=S.idxR q a}
def SD.one (rd:Rdb) (S:SD):SD×Bool:=
 if S.pay.1.r.code=0 then
  (if(RS.new S.pay.2.1).byte.2=1 then(S.pay.1.bat rd (RS.new S.pay.2.1).byte.1 S.pay.2.2,false)
  else if(RS.new S.pay.2.1).byte.2=2 then(S.pay.1.idx (RS.new S.pay.2.1).byte.1 S.pay.2.2,true)
  else({S.pay.1 with r:=S.pay.1.r.wth (((RS.new S.pay.2.1).byte.1.fail 7 0).code,((RS.new S.pay.2.1).byte.1.fail 7 0).fat) S.pay.2.2},false))
 else(S.pay.1,true)
def SD.recs (rd:Rdb):Nat->SD->SD
 |0,S=>S
 |n+1,S=>if S.r.code=0 then(if(S.one rd).2=true then(S.one rd).1 else SD.recs rd n (S.one rd).1)else S
def P_:∀(hs:List En) (ns d:List Int) (acc:List En),hs.length=ns.length->(DY hs ns d acc).2=true->(∀n∈ns,0≤n)->A7 d->
 ∃r,(DY hs ns d acc).1=acc++r∧r.length=hs.length∧r.map (·.lk)=hs.map (·.lk)∧Ak r=d∧r.map (λe=>(e.data.length:Int))=ns∧∀e∈r,A7 e.data
 |[],[],d,acc,_,h,_,_=>by
  simp only[DY]at h ⊢;split at h
  ·rename_i hd;rw[if_pos hd];exact⟨[],Si,rfl,rfl,(eq_nil_of_length_eq_zero hd).symm▸rfl,rfl,Si⟩
  ·simp at h
 |[],_::_,_,_,hl,_,_,_=>by simp at hl
 |_::_,[],_,_,hl,_,_,_=>by simp at hl
 |e::hs,n::ns,d,acc,hl,h,hn,hb=>by
  simp only[DY]at h ⊢;split at h
  ·simp at h
  ·rename_i hc;rw[if_neg hc];have n0:=hn n Si;have⟨r,h1,h2,h3,h4,h5,h6⟩:=P_ hs ns (d.drop n.toNat) (acc++[⟨e.lk,d.take n.toNat⟩]) (by simpa using hl) h (λk hk=>hn k (by simp[hk])) (hb.drop _);have hlen:(d.take n.toNat).length=n.toNat:=by simp;omega
   refine⟨⟨e.lk,d.take n.toNat⟩::r,by rw[h1];simp,by simp[h2],by simp[h3],?_,?_,λx hx=>?_⟩
   ·show d.take n.toNat++Ak r=d;rw[h4,take_append_drop]
   ·simp only[map_cons,hlen,h5];rw[Int.toNat_of_nonneg n0]
   ·rcases mem_cons.1 hx with rfl|hx
    ·exactλy hy=>hb y (mem_of_mem_take hy)
    ·exact h6 x hx
structure Vw (b:Bt):Prop where
 ok:b.ok
 len:b.en.length≤16
 sum:b.base+b.en.length≤4611686018427387904
 small:∀e∈b.en,e.lk.length≤16∧(∀x∈e.lk,x.bk.length≤4)∧e.data.length≤1048576
theorem Vw.zero:Vw Cj:=⟨⟨De,De,De,De,λe he=>by cases he⟩,De,De,λe he=>by cases he⟩
def PG {pos:Int} {l:List Lk} (hl:Oe l) (hr:BH pos l=true):l.length≤16∧∀x∈l,x.bk.length≤4:=by
 have⟨r1,r2⟩:=(GN hl).1 hr;refine⟨r1,λy hy=>?_⟩;obtain⟨j,hj,rfl⟩:=getElem_of_mem hy;exact(Fq j hj r2).2.2.2.2
def tK {s:RS} (h:An s) (hc:s.bthd.1.code=0):s.code=0∧1≤s.bthd.2.1∧s.bthd.2.1<4611686018427387904∧0≤s.bthd.2.2.1∧1≤s.bthd.2.2.2∧s.bthd.2.2.2≤16∧s.bthd.2.2.1+s.bthd.2.2.2≤4611686018427387904:=by
 have⟨a1,a2⟩:=Bz h Ae;have⟨b1,b2⟩:=Bz a1 Bh;unfold RS.bthd at hc ⊢;simp only[]at hc ⊢;split at hc
 ·rename_i hf;have h3:=(Es b1 hc).1;have⟨e1,e2,e3,e4,_⟩:=JL a1 h3;have⟨g1,g2,g3,g4,_⟩:=JL h e1;have hfi:=GZ.1 hf;have:1≤(s.epo Ae).2∧(s.epo Ae).2<4611686018427387904:=by simpa[Ae]using g4
  exact⟨g1,this.1,this.2,e2,hfi.1.1,hfi.1.2,hfi.2.2⟩
 ·exact absurd hc (by unfold RS.fail;split;simp[Cd];assumption)
def X5 {s:RS} (h:An s) {blk:RS->RS×List Int} (hb:∀s,An s->An (blk s).1∧A7 (blk s).2∧(blk s).2.length≤1048576∧(s.code≠0->(blk s).1.code≠0)):
 Vw (s.btch blk).2∧((s.btch blk).1.code=0->1≤(s.btch blk).2.en.length∧1≤(s.btch blk).2.ep):=by
 unfold RS.btch;split
 ·rename_i hc;have⟨p1,p2,p3,p4,p5,p6,p7⟩:=tK h hc;have⟨k1,k2⟩:=Jb h;have⟨q1,q2,q3,q4⟩:=hb _ k1;split
  ·rename_i hf;have hdl:(Fm (KB s.bthe.2) (Mb s.bthe.2) (blk s.bthe.1).2).2=true:=by
    cases hd:(Fm (KB s.bthe.2) (Mb s.bthe.2) (blk s.bthe.1).2).2 with
    |true=>rfl
    |false=>
     unfold RS.btfi at hf;rw[hd,if_neg Si]at hf;exact absurd hf (by unfold RS.fail;split;simp[Cd];assumption)
   have hcode:(blk s.bthe.1).1.code=0:=by
    unfold RS.btfi at hf;rw[if_pos hdl]at hf;exact hf
   have hcd:s.bthe.1.code=0:=by
    by_cases hz:s.bthe.1.code=0
    ·exact hz
    ·exact absurd hcode (q4 hz)
   have⟨w1,w2,w3⟩:=Y0 p4 (Hb h).1 hc s.bthd.2.2.2.toNat;have hlen:=w3 hcd;have⟨m1,m2⟩:=PT w1;have hle:(KB s.bthe.2).length=(Mb s.bthe.2).length:=by rw[Hw,NA]
   unfold Fm at hdl ⊢;rw[if_pos hle]at hdl ⊢;have⟨r,r1,r2,r3,r4,r5,r6⟩:=P_ _ _ _ [] hle hdl (λn hn=>(m2 n hn).1) q2;rw[nil_append]at r1;rw[r1];have hrl:r.length=s.bthd.2.2.2.toNat:=by rw[r2,Hw];exact hlen
   have hlk:∀e∈r,Oe e.lk∧e.lk.length≤16∧∀x∈e.lk,x.bk.length≤4:=λe he=>by
    have h1:e.lk∈r.map (·.lk):=mem_map.2 ⟨e,he,rfl⟩;rw[r3]at h1;simp only[KB,map_map,mem_map,Function.comp]at h1;have⟨x,hx,hxe⟩:=h1;obtain⟨i,hi,rfl⟩:=getElem_of_mem hx;have hn:=Fq i hi w1;rw[←hxe];exact⟨hn.lk,PG hn.lk hn.right⟩
   have hdt:∀e∈r,e.data.length≤1048576:=λe he=>by
    have h1:(e.data.length:Int)∈r.map (λe=>(e.data.length:Int)):=mem_map.2 ⟨e,he,rfl⟩;rw[r5]at h1;have:=(m2 _ h1).2;omega
   exact⟨⟨⟨by simp only[];omega,by simp only[];omega,p4,by simp only[];omega,λe he=>⟨(hlk e he).1,r6 e he⟩⟩,by simp only[];omega,by simp only[];omega,λe he=>⟨(hlk e he).2.1,(hlk e he).2.2,hdt e he⟩⟩,λ_=>⟨by simp only[];omega,p2⟩⟩
  ·exact⟨Vw.zero,λh=>by rename_i hf;exact absurd h hf⟩
 ·exact⟨Vw.zero,λh=>by rename_i hf;exact absurd h hf⟩
def lS {s:RS} {c a:Int} (hc:c≠0):¬(s.fail c a).code=0:=by
 unfold RS.fail;split
 ·simp[Cd,hc]
 ·assumption
def tP {s:RS} (h:s.code≠0):s.blk.1.code≠0:=by
 intro hc;have h1:s.blkL.1.code=0:=by
  unfold RS.blk at hc;split at hc
  ·exact hc
  ·exact absurd hc (lS De)
 unfold RS.blkL at h1;have h2:s.bdat.1.code=0:=by split at h1<;>first|assumption|exact h1
 have h3:s.bway.1.code=0:=by
  unfold RS.bdat at h2;split at h2
  ·assumption
  ·exact h2
 have h4:(s.int 1048576).1.code=0:=by
  have:s.bway.1=(s.int 1048576).1.byte.1:=rfl;rw[this]at h3;have e:(s.int 1048576).1.byte.1=((s.int 1048576).1.take 1).1:=by unfold RS.byte RS.take;split<;>rfl
  rw[e]at h3;exact(Pj h3).1
 have h5:s.vint.1.code=0:=by
  unfold RS.int at h4;rw[if_pos De]at h4;unfold RS.most at h4;split at h4
  ·exact absurd h4 (lS De)
  ·exact h4
 unfold RS.vint at h5;rw[if_neg h]at h5;exact h h5
def K5:∀s:RS,An s->An s.blk.1∧A7 s.blk.2∧s.blk.2.length≤1048576∧(s.code≠0->s.blk.1.code≠0):=by
 intro s h;refine⟨(Df h).1,?_,Zk h,tP⟩;unfold RS.blk;split
 ·rename_i hw;have hc:s.blkL.1.code=0:=by
   unfold RS.blkL at hw ⊢;split at hw
   ·rename_i hc;rw[if_pos hc];exact hc
   ·simp at hw
  exact(Zm h hc).2.2.1
 ·intro x hx;simp at hx
def DX (l:List Mk):Nat->Int
 |0=>0
 |k+1=>DX l k+(l.getD k CU).cnt
def Ps {l:List Mk} (h:AR l=true) {k:Nat} (hk:k<l.length):(l.getD k CU).fits (AF (l.take k)).fin (AF (l.take k)).at_:=by
 have h2:=Fq k hk (Bd.1 h).1;have h3:l[k]=l.getD k CU:=by simp[hk]
 rw[h3,nil_append]at h2;exact h2
def FT {l:List Mk} (h:AR l=true) {k:Nat} (hk:k<l.length):0≤(l.getD k CU).pos∧1≤(l.getD k CU).cnt∧(l.getD k CU).cnt≤16∧(l.getD k CU).pos+(l.getD k CU).cnt≤4611686018427387904:=by
 have h1:=Ps h hk;have h2:=FN (IM k (Bd.1 h).1);have⟨a,b,c,d,e,f⟩:=h1;omega
def Jt {l:List Mk} (h:AR l=true) {k:Nat} (hk:k+1<l.length):(l.getD k CU).fin≤(l.getD (k+1) CU).pos:=by
 have h1:=Ps h hk;rw[W3 l (k+1) Om,if_neg Om]at h1;exact h1.2.2.1
def QF {l:List Mk} (h:AR l=true):∀(d i:Nat),i+d+1<l.length->(l.getD i CU).fin≤(l.getD (i+d+1) CU).pos:=by
 intro d
 induction d with
 |zero=>intro i hi;exact Jt h hi
 |succ d ih=>
  intro i hi;have h1:=ih i Om;have h2:=FT h (k:=i+d+1) Om;have h3:=Jt h (k:=i+d+1) hi;unfold Mk.fin at*;rw[show i+(d+1)+1=i+d+1+1 from by omega];omega
def J4 {l:List Mk} (h:AR l=true) {i j:Nat} (hij:i<j) (hj:j<l.length):(l.getD i CU).fin≤(l.getD j CU).pos:=by
 have:=QF h (j-i-1) i Om;rwa[show i+(j-i-1)+1=j from by omega]at this
def U2 {l:List Mk} (h:AR l=true):∀k,k≤l.length->(k:Int)≤DX l k∧DX l k≤16*k:=by
 intro k
 induction k with
 |zero=>intro _;simp[DX]
 |succ k ih=>
  intro hk;have h1:=ih Om;have h2:=FT h (k:=k) Om;simp only[DX];omega
def pD {l:List Mk} (h:AR l=true):∀k,k<l.length->DX l (k+1)≤(l.getD k CU).fin-(l.getD 0 CU).pos:=by
 intro k
 induction k with
 |zero=>intro _;simp only[DX,Mk.fin];omega
 |succ k ih=>
  intro hk;have h1:=ih Om;have h2:=Jt h hk;rw[show DX l (k+1+1)=DX l (k+1)+(l.getD (k+1) CU).cnt from rfl];unfold Mk.fin at*;omega
def E9 (pos:Int) (m:Mk):Bool:=decide (m.pos≤pos)&&decide (pos<m.fin)
theorem Kh {pos:Int} {m:Mk}:E9 pos m=true↔m.pos≤pos∧pos<m.fin:=by simp[E9]
def YZ {l:List Mk} (h:AR l=true) {pos:Int} {i j:Nat} (hi:i<l.length) (hj:j<l.length) (h1:E9 pos (l.getD i CU)=true) (h2:E9 pos (l.getD j CU)=true):i=j:=by
 have a:=Kh.1 h1;have b:=Kh.1 h2;rcases Nat.lt_trichotomy i j with h3|h3|h3
 ·have:=J4 h h3 hj;omega
 ·exact h3
 ·have:=J4 h h3 hi;omega
def Iq (p:Mk->Bool) (l:List Mk):Nat:=l.findIdx p
def sD {p:Mk->Bool} {l:List Mk} {k:Nat} (hk:k<l.length) (h1:p (l.getD k CU)=true) (h2:∀i,i<k->p (l.getD i CU)=false):Iq p l=k:=by
 have e:l.getD k CU=l[k]:=by simp[hk]
 rw[e]at h1;unfold Iq;rw[findIdx_eq hk];refine⟨h1,λj hj=>?_⟩;have:=h2 j hj;have e2:l.getD j CU=l[j]'Om:=by simp[show j<l.length by omega]
 rw[e2]at this;simpa using this
def cX {p:Mk->Bool} {l:List Mk} (h:∀i,i<l.length->p (l.getD i CU)=false):Iq p l=l.length:=by
 unfold Iq;rw[findIdx_eq_length];intro x hx;obtain⟨i,hi,rfl⟩:=getElem_of_mem hx;have:=h i hi;have e2:l.getD i CU=l[i]:=by simp[hi]
 rw[e2]at this;exact this
def Ez (l:List Mk):Int×Int:=if l.length=0∨AR l=false then(0,0)else((l.getD 0 CU).pos,(l.getD (l.length-1) CU).fin)
def Iu (ep:Int) (l:List Mk) (a n:Int):Ft:=⟨ep,l.length,if AR l=true then DX l l.length else 0,(Ez l).1,(Ez l).2,a,n⟩
def SD.want (S:SD):Ft:=Iu S.ep S.ms S.fst (S.r.at_-S.fst)
def SD.end1 (S:SD):RS:=if(BX S.pay.2.1).1=S.want then S.pay.1.r.wth (BX S.pay.2.1).2 S.pay.2.2 else(S.pay.1.r.wth (BX S.pay.2.1).2 S.pay.2.2).fail 12 S.pay.1.fst
def SD.end2 (S:SD):RS:=if(S.end1.take 12).2=A8 (S.end1.at_-S.pay.1.fst)then(S.end1.take 12).1 else(S.end1.take 12).1.fail 12 S.end1.at_
def SD.fin (S:SD):RS:=if S.pay.1.r.code=0 then S.end2.rest9 else S.pay.1.r
def SD.start (l:List Int):SD:=⟨if(RS.new l).header.2.ver=3 then(RS.new l).header.1 else(RS.new l).header.1.fail 8 4,(RS.new l).header.2.ep,[],[],true,0⟩
def SD.all (rd:Rdb) (l:List Int):SD:=(SD.start l).recs rd (l.length+1)
def SD.done (S:SD):RS:=if S.r.code=0 then S.fin else S.r
def HU:Code->Bool
 | .skip| .region _ _ _| .exit _| .ret=>true
 | .seq a b| .cond _ a b=>HU a&&HU b
 | .block _ c=>HU c
 |_=>false
def Vm {P:Program} {m:Nat} (ro:Option Nat):∀(code:Code) (c:C),AO P code=some c->HU code=true->∀(tm:List AV) (S:List Ac) (Q:QT),aw P m c tm S Q->∀G0 S0 w0 G a w,S0.length=m->Cz G0 S0 w0 tm S G a w->
 code.wpIn (Fw ro) 0 P (λe a' w'=>∃tm' S' G',Cz G0 S0 w0 tm' S' G' a' w'∧Q e tm' S') a w:=by
 intro code
 induction code with
 |skip=>
  intro c hc _ tm S Q h G0 S0 w0 G a w hm hz;simp only[AO]at hc;injection hc with hc;subst hc;exact wpIn_skip ⟨_,_,G,hz,h⟩
 |region id ops draw=>
  intro c hc _ tm S Q h G0 S0 w0 G a w hm hz;simp only[AO]at hc;cases hr:Gr P ops draw with
  |none=>simp[hr]at hc
  |some p=>
   have⟨cs,u⟩:=p;simp[hr]at hc;subst hc;cases draw with
   |true=>exact ST (ro:=ro) hr hz h _ λtm' S' G' a' w' hz' hq=>⟨_,_,G',hz',hq⟩
   |false=>
    simp only[Gr]at hr;cases hcs:Gs P ops with
    |none=>simp[hcs]at hr
    |some cs'=>
     simp[hcs]at hr;obtain⟨rfl,rfl⟩:=hr;exact SS (ro:=ro) hcs hz h _ λtm' S' G' a' w' hz' hq=>⟨_,_,G',hz',hq⟩
 |seq a b iha ihb=>
  intro c hc hf tm S Q h G0 S0 w0 G act w hm hz;simp only[HU,Bool.and_eq_true]at hf;simp only[AO]at hc;split at hc
  ·rename_i x y hx hy;injection hc with hc;subst hc;refine wpIn_seq (wpIn_mono (iha x hx hf.1 tm S _ h G0 S0 w0 G act w hm hz) λe a' w' hq=>?_);have⟨tm',S',G',hz',hq⟩:=hq;cases e with
   |normal=>exact ihb y hy hf.2 tm' S' Q hq G0 S0 w0 G' a' w' hm hz'
   |_=>exact⟨tm',S',G',hz',hq⟩
  ·cases hc
 |cond x a b iha ihb=>
  intro c hc hf tm S Q h G0 S0 w0 G act w hm hz;simp only[HU,Bool.and_eq_true]at hf;simp only[AO]at hc;split at hc
  ·rename_i x' y hx hy;injection hc with hc;subst hc;simp only[aw]at h;split at h
   ·rename_i t ht;have r:=hz.ev x;rw[ht]at r;refine wpIn_cond (MR r) ?_;cases t with
    |true=>exact iha x' hx hf.1 tm S Q (h.1 rfl) G0 S0 w0 G act w hm hz
    |false=>exact ihb y hy hf.2 tm S Q (h.2 rfl) G0 S0 w0 G act w hm hz
   ·exact h.elim
  ·cases hc
 |block id b ih=>
  intro c hc hf tm S Q h G0 S0 w0 G a w hm hz;simp only[HU]at hf;simp only[AO]at hc;cases hb:AO P b with
  |none=>simp[hb]at hc
  |some x=>
   simp[hb]at hc;subst hc;refine wpIn_block (wpIn_mono (ih x hb hf tm S _ h G0 S0 w0 G a w hm hz) λe a' w' hq=>?_);have⟨tm',S',G',hz',hq⟩:=hq;cases e with
   |exit id'=>
    simp only[Hn]at hq;simp only[Exit.inBlock];split
    ·rename_i e;rw[if_pos e]at hq;exact⟨tm',S',G',hz',hq⟩
    ·rename_i e;rw[if_neg e]at hq;exact⟨tm',S',G',hz',hq⟩
   |_=>exact⟨tm',S',G',hz',hq⟩
 |exit id=>
  intro c hc _ tm S Q h G0 S0 w0 G a w hm hz;simp only[AO]at hc;injection hc with hc;subst hc;exact wpIn_exit ⟨_,_,G,hz,h⟩
 |ret=>
  intro c hc _ tm S Q h G0 S0 w0 G a w hm hz;simp only[AO]at hc;injection hc with hc;subst hc;exact wpIn_ret ⟨_,_,G,hz,h⟩
 |loop b _=>intro c _ hf;simp[HU]at hf
 |scope b _=>intro c _ hf;simp[HU]at hf
 |label l=>intro c _ hf;simp[HU]at hf
 |goto l=>intro c _ hf;simp[HU]at hf
 |rangeFunc f ps x y _ _=>intro c _ hf;simp[HU]at hf
 |refuse s=>intro c _ hf;simp[HU]at hf
def MP:C->Bool
 | .skip| .reg _ _| .exit _| .ret=>true
 | .seq a b| .cond _ a b=>MP a&&MP b
 | .block _ c=>MP c
 |_=>false
def iO {P:Program}:∀(code:Code) (c:C),AO P code=some c->MP c=true->HU code=true:=by
 intro code
 induction code with
 |skip=>intro c _ _;rfl
 |region id ops draw=>intro c _ _;rfl
 |exit id=>intro c _ _;rfl
 |ret=>intro c _ _;rfl
 |seq a b iha ihb=>
  intro c hc hf;simp only[AO]at hc;split at hc
  ·rename_i x y hx hy;injection hc with hc;subst hc;simp only[MP,Bool.and_eq_true]at hf;simp only[HU,Bool.and_eq_true];exact⟨iha x hx hf.1,ihb y hy hf.2⟩
  ·cases hc
 |cond o a b iha ihb=>
  intro c hc hf;simp only[AO]at hc;split at hc
  ·rename_i x y hx hy;injection hc with hc;subst hc;simp only[MP,Bool.and_eq_true]at hf;simp only[HU,Bool.and_eq_true];exact⟨iha x hx hf.1,ihb y hy hf.2⟩
  ·cases hc
 |block id b ih=>
  intro c hc hf;simp only[AO]at hc;cases hb:AO P b with
  |none=>simp[hb]at hc
  |some x=>simp[hb]at hc;subst hc;exact ih x hb hf
 |loop b _=>
  intro c hc hf;simp only[AO]at hc;cases hb:AO P b with
  |none=>simp[hb]at hc
  |some x=>simp[hb]at hc;subst hc;simp[MP]at hf
 |scope b _=>
  intro c hc hf;simp only[AO]at hc;cases hb:AO P b with
  |none=>simp[hb]at hc
  |some x=>simp[hb]at hc;subst hc;simp[MP]at hf
 |label l=>intro c hc hf;simp only[AO]at hc;injection hc with hc;subst hc;simp[MP]at hf
 |goto l=>intro c hc hf;simp only[AO]at hc;injection hc with hc;subst hc;simp[MP]at hf
 |rangeFunc f ps a b _ _=>
  intro c hc hf;simp only[AO]at hc;split at hc
  ·injection hc with hc;subst hc;simp[MP]at hf
  ·cases hc
 |refuse s=>intro c hc hf;simp[AO]at hc
def p8 {P:Program} {m:Nat} {g:Operand} {ps:List Nat} {a b:C} {tm tm':List AV} {S S':List Ac} {Q:QT} (hw:Wk m tm S tm' S') (h:p9 P m g ps a b tm' S' Q):p9 P m g ps a b tm S Q:=by
 intro ca cb h1 h2 G0 S0 w0 G act w hm hz;have⟨G',hz'⟩:=hw G0 S0 w0 G act w hm hz;exact h ca cb h1 h2 G0 S0 w0 G' act w hm hz'
def jmp:Exit->Option (Option Code)
 | .normal=>some none
 | .ret=>some (some .ret)
 | .exit id=>some (some (.exit id))
 | .goto l=>some (some (.goto l))
 |_=>none
def Ad2 (q:Nat) (r:LpR) (tm:List AV) (S':List Ac) (go:Bool):QT:=λe _ S2=>
 ∃j,jmp e=some j∧S2[q]? =some (.raw (.lp {r with state:=.busy}) tm)∧go=j.isNone∧S'=S2.set q (.raw (.lp {r with state:=if j.isNone then .ready else .done,pending:=j}) tm)
def Ad3 (P:Program) (m q:Nat) (r:LpR) (tm:List AV) (cB:C) (S':List Ac) (go:Bool):QT
 | .normal,tm1,S1=>S1[q]? =some (.raw (.lp r) tm)∧aw P m cB tm1 (S1.set q (.raw (.lp {r with state:=.busy}) tm)) (Ad2 q r tm S' go)
 |_,_,_=>False
def Lw {G:Gh}:∀(ps:List Nat) (args:List AV) (vs:List Value) (tm:List AV) (tv:Array Value),args.length=vs.length->BT G args vs->tm.length=tv.size->(∀(t:Nat) (x:AV) (v:Value),tm[t]? =some x->tv[t]? =some v->Bg G x v)->
 ((ps.zip args).foldl (λtm p=>tm.set p.1 p.2) tm).length=((ps.zip vs).foldl (λt p=>t.setIfInBounds p.1 p.2) tv).size∧
 ∀(t:Nat) (x:AV) (v:Value),((ps.zip args).foldl (λtm p=>tm.set p.1 p.2) tm)[t]? =some x->((ps.zip vs).foldl (λt p=>t.setIfInBounds p.1 p.2) tv)[t]? =some v->Bg G x v
 |[],args,vs,tm,tv,_,_,h3,h4=>⟨by simpa using h3,by simpa using h4⟩
 |p::ps,[],[],tm,tv,_,_,h3,h4=>⟨by simpa using h3,by simpa using h4⟩
 |p::ps,x::args,v::vs,tm,tv,h1,h2,h3,h4=>by
  simp only[zip_cons_cons,foldl_cons];refine Lw ps args vs (tm.set p x) (tv.setIfInBounds p v) (by simpa using h1) ⟨by simpa using h1,λj y u hy hu=>h2.2 (j+1) y u (by simpa using hy) (by simpa using hu)⟩ (by simpa using h3) λt y u hy hu=>?_
  by_cases e:t=p
  ·subst e;rw[getElem?_set]at hy;rw[Array.getElem?_setIfInBounds]at hu;simp only[if_true]at hy hu;split at hy
   ·injection hy with hy;subst hy;rw[if_pos Om]at hu;injection hu with hu;subst hu;exact h2.2 0 x v Si Si
   ·cases hy
  ·rw[getElem?_set_ne (Ne.symm e)]at hy;rw[Array.getElem?_setIfInBounds_ne (Ne.symm e)]at hu;exact h4 t y u hy hu
theorem Cz.lp {G0:Gh} {S0:List Ac} {w0:World} {tm:List AV} {S:List Ac} {G:Gh} {a:Act} {w:World} (h:Cz G0 S0 w0 tm S G a w) {q b:Nat} {r r':LpR} {tl:List AV} {tv:List Value} (hq:S[q]? =some (.raw (.lp r) tl)) (hb:G.loc q=some b)
 (hh:w.heap[b]? =some ((Fp.lp r).obj tv)) (hr:BT G tl tv):AS G S w G (S.set q (.raw (.lp r') tl)) (w.putObj b ((Fp.lp r').obj tv))∧Cz G0 S0 w0 tm (S.set q (.raw (.lp r') tl)) G a (w.putObj b ((Fp.lp r').obj tv)):=by
 have hl:AS G S w G (S.set q (.raw (.lp r') tl)) (w.putObj b ((Fp.lp r').obj tv)):=AS.rawTo (o':=.lp r') h.left.wd hq hb (Lc _ hh) hr;exact⟨hl,h.left.trans hl,h.size,h.rep,h.defers.left h.left.wd hl,h.wd0⟩
theorem YC.of {P:Program} {q:Nat} {args:List AV} {S S':List Ac} {go:Bool} {r:LpR} {tm:List AV} {cA cB:C} (hS:S[q]? =some (.raw (.lp r) tm)) (hst:r.state=.ready) (hn:args.length=r.params.size)
 (hA:AO P r.assign=some cA) (hB:AO P r.body=some cB) (fA:HU r.assign=true) (fB:HU r.body=true)
 (h:aw P S.length cA ((r.params.toList.zip args).foldl (λtm p=>tm.set p.1 p.2) tm) S (Ad3 P S.length q r tm cB S' go)):YC P q args S S' go:=by
 intro G w l vs hw hl hargs;have⟨b,tv,h1,h2,h3⟩:=hw.raw q (.lp r) tm hS;rw[hl]at h1;injection h1 with h1;subst h1;have hsz:vs.size=r.params.size:=by rw[←hn];simpa using hargs.1.symm
 have hf:=Lw r.params.toList args vs.toList tm tv.toArray (by simpa using hargs.1) hargs (by simpa using h3.1) (λt x v hx hv=>h3.2 t x v hx (by simpa using hv));refine⟨_,_,_,_,run_yield h2 hsz,?_⟩;have hfold:(r.params.zip vs).foldl (λtmps (t,a)=>tmps.setIfInBounds t a) tv.toArray=(r.params.toList.zip vs.toList).foldl (λt p=>t.setIfInBounds p.1 p.2) tv.toArray:=by
  rw[←Array.toList_zip,Array.foldl_toList]
 have hz:Cz G S w ((r.params.toList.zip args).foldl (λtm p=>tm.set p.1 p.2) tm) S G {tmps:=(r.params.zip vs).foldl (λtmps (t,a)=>tmps.setIfInBounds t a) tv.toArray,defers:=[]} w:=by
  refine⟨AS.refl hw,?_,λt x v hx hv=>?_,Jm.nil _ _,hw⟩
  ·show Array.size (Array.foldl _ _ _)=_;rw[hfold];exact hf.1.symm
  ·refine hf.2 t x v hx ?_;rw[←hfold];exact hv
 have hround:=Vm (some l) r.assign cA hA fA _ S _ h G S w G _ w rfl hz;refine roundIn_of_wpIn (F:=Fence.wide) trivial (wpIn_mono hround ?_);rintro e a1 w1 ⟨tm1,S1,G1,hz1,hq1⟩;cases e with
 |normal=>
  have⟨hS1,hb1⟩:=hq1;have⟨b',tv1,g1,g2,g3⟩:=hz1.left.wd.raw q (.lp r) tm hS1;have e1:=hz1.left.le.loc q l hl;rw[e1]at g1;injection g1 with g1;subst g1;have⟨hl2,hz2⟩:=hz1.lp (r':={r with state:=.busy}) hS1 e1 g2 g3;refine⟨_,run_beginRound g2 hst,wpIn_mono (Vm (some l) r.body cB hB fB _ _ _ hb1 G S w G1 a1 _ rfl hz2) ?_⟩;rintro e2 a2 w2 ⟨tm2,S2,G2,hz3,hq2⟩;obtain⟨j,hj,hS2,rfl,rfl⟩:=hq2;have⟨b',tv2,k1,k2,k3⟩:=hz3.left.wd.raw q _ tm hS2;have e2':=hz3.left.le.loc q l hl;rw[e2']at k1;injection k1 with k1;subst k1;have hend:=run_endRound (P:=P) j k2;have⟨hl4,hz4⟩:=hz3.lp (r':={r with state:=if j.isNone then .ready else .done,pending:=j}) hS2 e2' k2 k3;cases e2<;>simp only[jmp,Option.some.injEq,reduceCtorEq]at hj
  all_goals(subst hj;exact⟨_,_,hend,G2,rfl,hz4.left⟩)
 |_=>exact hq1.elim
def jq (Q:QT) (tm:List AV) (S:List Ac):Option Code->Prop
 |none=>Q .normal tm S
 |some .ret=>Q .ret tm S
 |some (.exit id)=>Q (.exit id) tm S
 |some (.goto l)=>Q (.goto l) tm S
 |_=>False
def Wi {P:Program} {m:Nat} {g:Operand} {ps:List Nat} {a b:C} {tm:List AV} {S:List Ac} {Q:QT} {gf:FuncId} {caps:List AV} (hg:ev tm g=.fn gf [] caps)
 (h:∀(fn:FuncId) (D:Nat) (ca cb:Code),AO P ca=some a->AO P cb=some b->∃rv S2 r2,Ag P gf (.yv S.length::caps) (S++[.raw (.lp ⟨.ready,none,fn,ps.toArray,ca,cb,D⟩) tm]) rv S2∧
   S2[S.length]? =some (.raw (.lp r2) tm)∧r2.state≠ .busy∧jq Q tm (S2.set S.length (.raw (.lp {r2 with state:=.exhausted}) tm)) r2.pending):p9 P m g ps a b tm S Q:=by
 intro ca cb hca hcb G0 S0 w0 G act w hm hz;refine wpIn_wide.1 (wpIn_rangeFunc (F:=Fence.wide) (n:=0) λfn _=>?_);have⟨rv,S2,⟨st,pe,f1,p1,a1,b1,d1⟩,hd,hS2,hst,hj⟩:=h fn w.heap.size ca cb hca hcb;have rf:=hz.ev g;rw[hg]at rf;generalize ef:act.eval g=vf at rf;cases rf with
 | @fn _ _ _ fv cv q1 q2 q3 q4=>
   have hfv:fv=#[]:=by
    have:fv.size=0:=by simpa using q1.symm
    exact Array.eq_empty_of_size_eq_zero this
   subst hfv;have hm1:=C_.alloc w (.deferred (some []));have hl1:=AS.more hz.left.wd hm1;have hl2:=AS.dead hl1.wd 1;obtain⟨iS,hrec⟩:∃iS:LpR,iS=⟨.ready,none,fn,ps.toArray,ca,cb,w.heap.size⟩:=⟨_,rfl⟩;have hrep0:BT G tm act.tmps.toList:=⟨by simpa using hz.size.symm,λt x v hx hv=>hz.rep t x v hx (by simpa using hv)⟩;have hm3:C_ (w.alloc (.deferred (some []))) ((w.alloc (.deferred (some []))).alloc ((Fp.lp iS).obj act.tmps.toList)) ((Fp.lp iS).obj act.tmps.toList):=C_.alloc _ _;have hl3:=AS.rawNew (o:=.lp iS) (xs:=tm) (vs:=act.tmps.toList) (id:=S.length) hl2.wd Si hrep0 hm3;have hS3:(S++List.replicate 1 Ac.dead).set S.length (.raw (.lp iS) tm)=S++[.raw (.lp iS) tm]:=by simp
   rw[hS3]at hl3;have hsz:(w.alloc (.deferred (some []))).heap.size=w.heap.size+1:=by simp
   rw[hsz]at hl3;have hl13:=(hl1.trans hl2).trans hl3;generalize hG3:G.newLoc S.length (w.heap.size+1)=G3 at hl3 hl13;have hloc:G3.loc S.length=some (w.heap.size+1):=by rw[←hG3];simp[Gh.newLoc]
   have hcall:(Instr.enterLoop fn act.tmps ps.toArray ca cb none).run P w=.ok (w.heap.size+1,[{target:=.collected w.heap.size,args:=#[]}]) ((w.alloc (.deferred (some []))).alloc ((Fp.lp iS).obj act.tmps.toList)):=by
    rw[run_enterLoop_outer,hrec];simp[Fp.obj]
   generalize hw3:(w.alloc (.deferred (some []))).alloc ((Fp.lp iS).obj act.tmps.toList)=w3 at hl3 hl13 hcall;have⟨⟨fnn,hfn,hbody,hname⟩,hdoes⟩:=hd;have hargs:BT G3 (.yv S.length::caps) ((#[Value.func (.yield (w.heap.size+1)) #[] #[]]:Array Value)++cv).toList:=by
    rw[Array.toList_append];exact BT.cons (.yv hloc) ⟨by simpa using q2,λj x v hx hv=>(q4 j x v hx (by simpa using hv)).mono hl13.le⟩
   refine⟨w.heap.size+1,[{target:=.collected w.heap.size,args:=#[]}],w3,{target:=.fn (.func gf) cv,args:=#[.func (.yield (w.heap.size+1)) #[] #[]]},w3,gf,#[.func (.yield (w.heap.size+1)) #[] #[]]++cv,w3,hcall,?_,λ_ _=>trivial,?_,λh0=>by simp[Fence.wide]at h0,?_⟩
   ·have hc:∀v:Value,act.eval (.const v)=v:=λ_=>rfl
    simp[resolve,ef,Deferred.ofValue,hc]
   ·have hname':¬fnn.name= "runtime.NumGoroutine":=Sx hname
    simp[invoke,callFunc,hfn,hname'];cases hbd:fnn.body with
    |none=>simp[hbd]at hbody
    |some _=>simp
   ·subst hrec;refine callsIn_wide.2 ((hdoes G3 w3 _ hl3.wd hargs).mono ?_);rintro e w4 ⟨v,G4,rfl,hv,hl4⟩;have hloc4:=hl4.le.loc _ _ hloc;have⟨b',tv4,k1,k2,k3⟩:=hl4.wd.raw S.length _ tm hS2;rw[hloc4]at k1;injection k1 with k1;subst k1;refine⟨pe,_,run_endLoop k2 hst,?_⟩;have hD0:w3.heap[w.heap.size]? =some (.deferred (some [])):=by
     rw[←hw3];exact(Below.heap_alloc _ _ _ Si).trans (World.alloc_heap_new w _)
    have hmk:Jm w0 w3 ({target:=.collected w.heap.size,args:=#[]}::act.defers):=by
     have⟨Ds,g1,g2,g3⟩:=hz.defers.left hz.left.wd hl13;have⟨Ds',g1',g2',g3'⟩:=hz.defers;refine⟨w.heap.size::Ds,nodup_cons.2 ⟨λhmem=>?_,g1⟩,by rw[g2];rfl,λD hD=>?_⟩
     ·have:Ds=Ds':=by
       have:=g2.symm.trans g2';exact(List.map_inj_right (λx y hxy=>by injection hxy with hxy;injection hxy)).1 this
      rw[this]at hmem;have:=(Array.getElem?_eq_some_iff.1 (g3' _ hmem).2).1;omega
     ·rcases mem_cons.1 hD with rfl|hD
      ·exact⟨hz.left.kept.size,hD0⟩
      ·exact g3 D hD
    have hcz:Cz G0 S0 w0 tm S2 G4 {act with defers:={target:=.collected w.heap.size,args:=#[]}::act.defers} w4:=
     ⟨(hz.left.trans hl13).trans hl4,hz.size,λt x v hx hv=>((hz.rep t x v hx hv).mono hl13.le).mono hl4.le,hmk.left hl3.wd hl4,hz.wd0⟩
    have⟨_,hcz'⟩:=hcz.lp (r':=⟨.exhausted,pe,f1,p1,a1,b1,d1⟩) hS2 hloc4 k2 k3;cases pe with
    |none=>exact⟨_,_,G4,hcz',hj⟩
    |some c=>
     cases c with
     |ret=>exact wpIn_ret ⟨_,_,G4,hcz',hj⟩
     |exit id=>exact wpIn_exit ⟨_,_,G4,hcz',hj⟩
     |goto l=>exact wpIn_goto ⟨_,_,G4,hcz',hj⟩
     |_=>exact hj.elim
abbrev vO (n:Int):AV:=.lit (.int .u32 n)
def X3 (b:List Int) (i:Nat) (hb:b.length≤1000000000000) (hi:i≤b.length):Ag prog 215 [Bj .u8 b,iA i] [] (.tup [vO (T2 b i),bA (LQ b i)]) []:=by
 have e1:decide ((i:Int)<0)=false:=by simp
 have e2:IntKind.i64.wrap ((b.length:Int)-4)=b.length-4:=i64_in _ Om;have e3:decide ((b.length:Int)-4<i)= !LQ b i:=by unfold LQ;rw[←decide_not];simp;omega
 refine RN func215 yA ?_;refine (mt @Ab e1 e2 e3 ?_).1
 cases hk:LQ b i with
 |false=>
  refine (mp ?_).1
  (refine FB yA [] ?_ ?_<;>first|with_reducible rfl|(simp[T2,hk];done)|rfl)
 |true=>
  have hk':i+4≤b.length:=by simpa[LQ]using hk
  refine (mp ?_).1;refine AA (α:=Nat) (λk=>Bj .u8 b::iA i::.any::.any::.any::.any::vO (cF b i k)::Ay (Ay (.any::.any::iA k::Az []))) (λ_=>[]) (λk=>k≤4) (λk=>4-k) 0 Si (Wk.to Si (by simp[B6,cF])) ?_;intro k hk4;refine (mp ?_).1;refine AK (λh=>?_) (λh=>?_)
  ·have hlt:k<4:=by simp at h;omega
   have g1:IntKind.i64.wrap ((i:Int)+k)=((i+k:Nat):Int):=by rw[i64_in _ Om];omega
   have g2:=DS .u8 b (i+k) Om;have g3:IntKind.i64.wrap (8*(k:Int))=8*k:=i64_in _ Om;have g4:=Am k Om;have g5:CJ .or .u32 (cF b i k) (IntKind.u32.wrap (IntKind.u32.wrap (b.getD (i+k) 0)*2^min (8*(k:Int)).toNat 32))=cF b i (k+1):=rfl;simp only[go_sem,seval,g1,Ab,Int.toNat_natCast,g2,I9,g3,IntKind.bits,g5,g4];refine (AZ ?_).1;(repeat with_reducible refine Sa ?_);exact⟨k+1,Om,Om,Wk.sel [] Si rfl Si rfl Si (by simp[Ch,AD])⟩
  ·have ek:k=4:=by simp at h;omega
   subst ek;refine (mp ?_).1
   (refine FB yA [] ?_ ?_<;>first|with_reducible rfl|(simp[T2,hk,KS];done)|rfl)
theorem Qb (b:List Int) (i:Nat) (hb:b.length≤1000000000000) (hi:i≤b.length):Ct Tryz.prog 215 [Bj .u8 b,iA i] [] (λ_=>.tup [vO (T2 b i),bA (LQ b i)]) [] (λ_=>[]):=(X3 b i hb hi).toCt cl cl
def MH (o n:Int):Ct prog 210 [iA o,iA n] [] (λ_=>.tup [iA (VJ (o,n)).1,iA (VJ (o,n)).2]) [] (λ_=>[]):=by
 refine Ag.toCt ?_ cl cl
 refine RM func210 yC ?_
 by_cases h:n<4
 ·have e:decide (n<4)=true:=Sx h
  refine (mq e ?_).1
  exact FK yC [] (by simp[VJ,h])
 ·have e:decide (n<4)=false:=Sx h
  refine (mq e ?_).1
  exact FK yC [] (by simp[VJ,h])
def WD {b:List Int} {i o:Nat} (h:i<b.length∧1≤o∧o≤i):Oh b i o=cnt (qW b i o) (min (b.length-i) 1048576) 0:=by unfold Oh;rw[if_pos h]
def SK (b:List Int) (i o:Nat) (hb:b.length≤1000000000000) (hi:i≤b.length) (ho:1≤o∧o≤i):Ag prog 209 [Bj .u8 b,iA i,iA o] [] (iA (Oh b i o)) []:=by
 have e1:decide ((i:Int)<0)=false:=by simp
 have e3:decide ((o:Int)<1)=false:=by simp;omega
 have e4:decide ((i:Int)<o)=false:=by simp;omega
 by_cases hl:i<b.length
 ·have e2:decide ((b.length:Int)≤i)=false:=by simp;omega
  refine RN func209 fD ?_;simp only[go_sem,seval,Ab,e1,e2,e3,e4];refine (AZ ?_).1
  have hm:=WD (b:=b) (i:=i) (o:=o) ⟨hl,ho.1,ho.2⟩;obtain⟨M,hM⟩:∃M,M=min (b.length-i) 1048576:=⟨_,rfl⟩;rw[←hM]at hm;refine AA (α:=Nat) (λk=>Bj .u8 b::iA i::iA o::.any::.any::.any::.any::iA k::Az (Az (Ay (Ay (Ay [.any,.any,.any]))))) (λ_=>[]) (λk=>k≤M∧cnt (qW b i o) (M-k) k=Oh b i o) (λk=>M-k) 0 (by simp[hm]) (Wk.to Si (by simp[B6])) ?_;intro k hk;have⟨hkM,hk⟩:=hk;have g1:IntKind.i64.wrap ((i:Int)+k)=((i+k:Nat):Int):=by rw[i64_in _ Om];omega
  have g2:IntKind.i64.wrap (((i+k:Nat):Int)-o)=((i+k-o:Nat):Int):=by rw[i64_in _ Om];omega
  have g5:=Am k Om;by_cases hkk:k<M
  ·have c1:decide (((i+k:Nat):Int)<b.length)=true:=by simp;omega
   have c2:decide ((k:Int)<1048576)=true:=by simp;omega
   have g3:=DS .u8 b (i+k) Om;have g4:=DS .u8 b (i+k-o) Om;have hun:cnt (qW b i o) (M-k) k=if qW b i o k=true then cnt (qW b i o) (M-(k+1)) (k+1)else k:=by
    rw[show M-k=(M-(k+1))+1 by omega];rfl
   simp only[go_sem,seval,g1,Ab,c1,c2,g2,Int.toNat_natCast,g3,g4,I9];refine (AZ ?_).1;(repeat with_reducible refine Sa ?_);cases hp:qW b i o k with
   |true=>
    have hp':(b.getD (i+k) 0==b.getD (i+k-o) 0)=true:=hp;refine (mr hp' g5 ?_).1;rw[hp,if_pos rfl]at hun;exact⟨k+1,⟨Om,by rw[←hun];exact hk⟩,Om,Wk.sel [] Si rfl Si rfl Si (by simp[Ch,AD])⟩
   |false=>
    have hp':(b.getD (i+k) 0==b.getD (i+k-o) 0)=false:=hp;rw[hp,if_neg Si,hk]at hun;refine (mq hp' ?_).1
    exact FE fD [] hun
  ·have ek:k=M:=Om
   have hz:Oh b i o=k:=by rw[←hk,ek];simp[cnt]
   by_cases c1:i+k<b.length
   ·have c1':decide (((i+k:Nat):Int)<b.length)=true:=by simp;omega
    have c2:decide ((k:Int)<1048576)=false:=by simp;omega
    refine (mt g1 @Ab c1' c2 ?_).1
    exact FE fD [] hz
   ·have c1':decide (((i+k:Nat):Int)<b.length)=false:=by simp;omega
    refine (ms g1 @Ab c1' ?_).1
    exact FE fD [] hz
 ·have e2:decide ((b.length:Int)≤i)=true:=by simp;omega
  have hm:Oh b i o=0:=by unfold Oh;rw[if_neg Om]
  refine RN func209 fD ?_;refine (ms @Ab e1 e2 ?_).1
  exact FE fD [] hm
theorem VY (b:List Int) (i o:Nat) (hb:b.length≤1000000000000) (hi:i≤b.length) (ho:1≤o∧o≤i):Ct Tryz.prog 209 [Bj .u8 b,iA i,iA o] [] (λ_=>iA (Oh b i o)) [] (λ_=>[]):=(SK b i o hb hi ho).toCt cl cl
section
variable {P:Program} {f:FuncId} {args args₀:List AV} {S:List Ac} {K:KT}
theorem Ct.us {S₀ S₁ R U:List Ac} {r₀ r:AV} (h:Ag P f args₀ S₀ r₀ S₁) (is:List Nat) (hn:is.Nodup) (hl:is.length=S₀.length) (hl':S₁.length=S₀.length) (hal:∀o∈S₀,o≠ .dead)
 (ha:∀N,args₀.map (λx=>x.ren (AH is N))=args) (hR:∀N,S₀.map (λo=>o.ren (AH is N))=R) (hU:∀N,S₁.map (λo=>o.ren (AH is N))=U) (hr:∀N,r₀.ren (AH is N)=r):Ct P f args (is.zip R) (λ_=>r) (is.zip U) (λ_=>[]):=by
 have e0:S₁.length-S₀.length=0:=Om
 refine Ct.mk h is hn hl Om hal (λn N=>?_) (λn N=>?_) (λn N=>?_) (.inl λn N=>?_) (λn N=>?_)
 ·rw[e0];simpa using ha N
 ·rw[e0];simpa using hr N
 ·rw[e0];simp only[range'_zero,append_nil];rw[hR N]
 ·rw[e0];simp only[range'_zero,append_nil];rw[take_of_length_le Om,hU N]
 ·rw[drop_of_length_le Om];rfl
theorem Ct.usn {S₀ S₁ R U:List Ac} {r₀:AV} {r:Nat->AV} {new:Nat->List Ac} (h:Ag P f args₀ S₀ r₀ S₁) (is:List Nat) (hn:is.Nodup) (hl:is.length=S₀.length) (hSl:S₀.length≤S₁.length) (hal:∀o∈S₀,o≠ .dead)
 (ha:∀n N,args₀.map (λx=>x.ren (AH (is++range' n (S₁.length-S₀.length)) N))=args) (hR:∀n N,S₀.map (λo=>o.ren (AH (is++range' n (S₁.length-S₀.length)) N))=R) (hU:∀n N,(S₁.take S₀.length).map (λo=>o.ren (AH (is++range' n (S₁.length-S₀.length)) N))=U)
 (hr:∀n N,r₀.ren (AH (is++range' n (S₁.length-S₀.length)) N)=r n) (hnew:∀n N,(S₁.drop S₀.length).map (λo=>o.ren (AH (is++range' n (S₁.length-S₀.length)) N))=new n):Ct P f args (is.zip R) r (is.zip U) new:=
 Ct.mk h is hn hl hSl hal ha hr (λn N=>by rw[hR n N]) (.inl λn N=>by rw[hU n N]) hnew
theorem Aa.us {is:List Nat} {R U:List Ac} {r:Nat->AV} {new:Nat->List Ac} (h:Ct P f (args.map Proofs.YtaajkppmibfgfaaGreat.untag) (is.zip R) r (is.zip U) new) (hl:is.length=R.length) (hS:is.map (λi=>S[i]?)=R.map some)
 (hK:K (r S.length) is (is.zip U) (new S.length)):Aa P f args S K:=by
 have hz:(is.zip R).map (·.1)=is:=by rw[map_fst_zip];omega
 refine Aa.of h.untag (λp hp=>?_) (λp hp=>?_) (by rw[hz];exact hK)
 ·obtain⟨j,hj,rfl⟩:=getElem_of_mem hp;simp only[getElem_zip];have hj1:j<is.length:=by simp at hj;omega
  have hj2:j<R.length:=Om
  have:=congrArg (λl:List (Option Ac)=>l[j]?) hS;simp only[getElem?_map,getElem?_eq_getElem hj1,getElem?_eq_getElem hj2,Option.map_some]at this;injection this
 ·rw[hz];exact(of_mem_zip hp).1
end
abbrev chO (b prev:List Int) (m r:Nat):Ac:=.cells [Bj .u8 b,.mapr m,.sl (.row r) 1 (AU .i64 prev)]
abbrev mpO (l:List (Int×Int)):Ac:=.raw (.imap l) []
def X2 (b:List Int) (hb:b.length≤1000000000000):Ag prog 206 [Bj .u8 b] [] (.ref 0 0) [chO b [] 1 2,mpO [],.row 1 0]:=by
 refine RN func206 Acp ?_;refine (mq @Ab ?_).1
 (repeat with_reducible refine Sa ?_);refine A2.wk (Wk.rowObj 2 2 1 rfl rfl (.inl rfl) (Nat.le_refl _)) (mp ?_).1;refine WO 2 [Bj .u8 b,.mapr 1,.sl (.row 3) 1 (AU .i64 [])] ?_;exact FA Acp [2,1,3]
def eV (b:List Int) (hb:b.length≤1000000000000):Ct prog 206 [Bj .u8 b] [] (λk=>.ref k 0) [] (λk=>[chO b [] (k+1) (k+2),mpO [],.row 1 0]):=Ct.n (X2 b hb) Dl cl cl
abbrev NY (b:List Int) (n m r:Nat):List Ac:=[chO b (GR b n) m r,mpO (DU b n),.row 1 n]
def R8 (b:List Int) (n:Nat):Ag prog 212 [.ref 0 0] (NY b n 1 2) (iA n) (NY b n 1 2):=by
 have e:=DO b n;refine RN func212 Acm ?_;refine (mr @Ab e ?_).1
 exact FA Acm [0,1,2]
def LF (b:List Int) (n:Nat) (i j k:Nat) (hn:[i,j,k].Nodup):Ct prog 212 [.ref i 0] ([i,j,k].zip (NY b n j k)) (λ_=>iA n) ([i,j,k].zip (NY b n j k)) (λ_=>[]):=
 Ct.us (R8 b n) [i,j,k] hn rfl rfl Si (λN=>by simp[AH]) (λN=>by simp[AH,AI]) (λN=>by simp[AH,AI]) (λN=>by simp)
def Yl (b:List Int) (n:Nat) (hb:b.length≤1000000000000) (hn:n<b.length):Ag prog 213 [.ref 0 0] (NY b n 1 2) (bA true) (NY b (n+1) 1 2):=by
 have ep:=DO b n;have e1:decide ((b.length:Int)≤n)=false:=by simp;omega
 have e2:=Am n Om;refine RM func213 yB ?_
 refine Aa.us (LF b n 0 1 2 De) rfl rfl (mr @Ab e1 ?_).1;refine Cp (Qb b n hb Om) ?_;cases hk:LQ b n with
 |false=>
  have ew:HS b n=0:=by unfold HS;rw[hk];rfl
  have el:DU b (n+1)=DU b n:=by simp[DU,hk]
  refine (mp ?_).1;(repeat((with_reducible refine And.intro ?_ ?_);(·first|exact sd|(simp[Ab,BK,AV.parts,ep];done)|(simp[Ab,BK,AV.parts,ep];omega))))
  exact FK yB [0,1,2] (by simp[el,GR,ew,ep,Eo,Ab,AH])
 |true=>
  have er:T2 b n=KS b n:=by unfold T2;rw[hk];rfl
  have ew:HS b n=Gc (DU b n) (KS b n):=by unfold HS;rw[hk];rfl
  have el:DU b (n+1)=HW (DU b n) (KS b n) (n+1):=by simp[DU,hk]
  refine (mr er e2 ?_).1;(repeat((with_reducible refine And.intro ?_ ?_);(·first|exact sd|(simp[Ab,BK,AV.parts,ep];done)|(simp[Ab,BK,AV.parts,ep];omega))))
  exact FK yB [0,1,2] (by simp[el,GR,ew,ep,Eo,Ab,AH])
def fU (b:List Int) (n:Nat) (hb:b.length≤1000000000000) (hl:n<b.length) (i j k:Nat) (hn:[i,j,k].Nodup):Ct prog 213 [.ref i 0] ([i,j,k].zip (NY b n j k)) (λ_=>bA true) ([i,j,k].zip (NY b (n+1) j k)) (λ_=>[]):=
 Ct.us (Yl b n hb hl) [i,j,k] hn rfl rfl Si (λN=>by simp[AH]) (λN=>by simp[AH,AI]) (λN=>by simp[AH,AI]) (λN=>by simp)
def R9 (b:List Int) (n a:Nat) (hb:b.length≤1000000000000) (h1:n≤a) (h2:a≤b.length):Ag prog 207 [.ref 0 0,iA a] (NY b n 1 2) (iA ((a-n:Nat):Int)) (NY b a 1 2):=by
 refine RM func207 Aco ?_
 refine AA (α:=Nat) (λk=>.ref 0 0::iA a::.any::.any::.any::iA ((k-n:Nat):Int)::Ay (Ay [.any,.any,.any])) (λk=>NY b k 1 2) (λk=>n≤k∧k≤a) (λk=>a-k) n Om (Wk.to Si (by simp[B6])) ?_;intro k hk;refine (mp ?_).1;refine Aa.us (LF b k 0 1 2 De) rfl rfl ?_;by_cases hlt:k<a
 ·have c1:decide ((k:Int)<a)=true:=by simp;omega
  have e2:IntKind.i64.wrap (((k-n:Nat):Int)+1)=((k+1-n:Nat):Int):=by rw[i64_in _ Om];omega
  refine (mq c1 ?_).1;refine Aa.us (fU b k hb Om 0 1 2 De) rfl rfl (mq e2 ?_).1;exact⟨k+1,Om,Om,Wk.sel [0,1,2] Si rfl Si rfl (by simp[AH,AI]) (by simp[Ch,AD,AH])⟩
 ·obtain rfl:k=a:=Om
  have c1:decide ((k:Int)<k)=false:=by simp
  refine (mq c1 ?_).1;exact FA Aco [0,1,2]
def Vv (b:List Int) (n a:Nat) (hb:b.length≤1000000000000) (h1:n≤a) (h2:a≤b.length) (i j k:Nat) (hn:[i,j,k].Nodup):Ct prog 207 [.ref i 0,iA a] ([i,j,k].zip (NY b n j k)) (λ_=>iA ((a-n:Nat):Int)) ([i,j,k].zip (NY b a j k)) (λ_=>[]):=
 Ct.us (R9 b n a hb h1 h2) [i,j,k] hn rfl rfl Si (λN=>by simp[AH]) (λN=>by simp[AH,AI]) (λN=>by simp[AH,AI]) (λN=>by simp)
def U8 (b:List Int) (at_:Nat):List Int->Int×Int->Bool
 |[],_=>false
 |p::ps,s=>if(at_:Int)+(E3 b at_ s p).2=b.length then true else U8 b at_ ps (E3 b at_ s p)
abbrev uQ (b:List Int) (t:Nat) (c:Nat):Ac:=.cells [Bj .u8 b,.ref c 0,iA t]
abbrev bS (b:List Int) (a t:Nat) (s:Int×Int) (lp:Ac):List Ac:=
 [uQ b t 1,chO b (GR b a) 2 3,mpO (DU b a),.row 1 a,.cells [.ref 0 0],.cells [iA a],.cells [iA s.1],.cells [iA s.2],.cells [.ref 1 0],.cells [iA a],lp]
def jB (b:List Int) (a k:Nat) (hk:k<a) (hw:(a:Int)-k≤65536):J9 b a (k+1) (k+1)=(k:Int)::J9 b a (HS b k).toNat (HS b k).toNat:=by
 have hin:=Ql b k;rw[J9,if_neg Om,if_pos hk,Tc b a (HS b k).toNat k (HS b k).toNat (Nat.le_refl _) Om];rfl
def oB (b:List Int) (a t0:Nat) (s0:Int×Int) (lpR lpD:Ac) (hb:b.length≤1000000000000) (ha:a≤b.length) (ht:t0+a≤1000000000000000)
 (hY:∀(t:Nat) (s:Int×Int) (p:Int),t<1000000000000000->Zs b a s->0≤p∧p<a∧(a:Int)-p≤65536->∀R,YC prog 10 [iA p] (bS b a t s lpR++R) (bS b a (t+1) (E3 b a s p) (if(a:Int)+(E3 b a s p).2=b.length then lpD else lpR)++R) (decide (¬(a:Int)+(E3 b a s p).2=b.length)))
 (hs0:Zs b a s0):
 Ag prog 214 [.yv 10,.ref 8 0,.ref 9 0] (bS b a t0 s0 lpR) (.tup []) (bS b a (t0+(OZ b a (Ck b a) s0).1) (OZ b a (Ck b a) s0).2 (if U8 b a (Ck b a) s0=true then lpD else lpR)):=by
 have ep:=DO b a;refine RM func214 nC ?_
 refine Cp (Qb b a hb ha) ?_;cases hk:LQ b a with
 |false=>
  have epl:Ck b a=[]:=by unfold Ck;rw[hk];rfl
  rw[epl];refine (mp ?_).1;exact A2.res nC.all.2.1 rfl
 |true=>
  have er:T2 b a=KS b a:=by unfold T2;rw[hk];rfl
  have hin:=T1 b a (KS b a);obtain⟨k0,hk0⟩:∃k0:Nat,Gc (DU b a) (KS b a)=(k0:Int):=⟨(Gc (DU b a) (KS b a)).toNat,Om⟩;have epl:Ck b a=J9 b a k0 k0:=by
   unfold Ck;rw[if_pos hk,hk0,Int.toNat_natCast,Tc b a k0 a k0 (Nat.le_refl _) Om]
  rw[hk0]at hin;rw[epl];obtain⟨N,hN⟩:∃N,N=t0+(OZ b a (J9 b a k0 k0) s0).1:=⟨_,rfl⟩;obtain⟨F,hF⟩:∃F,F=(OZ b a (J9 b a k0 k0) s0).2:=⟨_,rfl⟩;obtain⟨X,hX⟩:∃X,X=U8 b a (J9 b a k0 k0) s0:=⟨_,rfl⟩;rw[←hN,←hF,←hX];refine (mr er hk0 ?_).1;refine AA (α:=Nat×Nat×(Int×Int)) (λu=>.yv 10::.ref 8 0::.ref 9 0::.any::.any::.any::iA u.1::Az (Az (Ay (Ay (Ay [.any]))))) (λu=>bS b a u.2.1 u.2.2 lpR)
   (λu=>u.1≤a∧u.2.1+u.1≤t0+a∧Zs b a u.2.2∧u.2.1+(OZ b a (J9 b a u.1 u.1) u.2.2).1=N∧(OZ b a (J9 b a u.1 u.1) u.2.2).2=F∧U8 b a (J9 b a u.1 u.1) u.2.2=X) (λu=>u.1) (k0,t0,s0) ⟨show k0≤a by omega,show t0+k0≤t0+a by omega,hs0,hN.symm,hF.symm,hX.symm⟩ (Wk.to Si (by simp[B6])) ?_
  rintro⟨k,t,s⟩ ⟨h1,h2,h3,h4,h5,h6⟩;simp only[]at h1 h2 h3 h4 h5 h6;cases k with
  |zero=>
   have c1:decide ((0:Int)<((0:Nat):Int))=false:=by simp
   simp only[J9,OZ,U8,Nat.add_zero]at h4 h5 h6;subst h4 h5 h6;refine (mq c1 ?_).1;exact A2.res nC.all.2.1 rfl
  |succ k=>
   have c1:decide ((0:Int)<((k+1:Nat):Int))=true:=by simp
   have c2:IntKind.i64.wrap (((k+1:Nat):Int)-1)=k:=by rw[i64_in _ Om];omega
   have c3:IntKind.i64.wrap ((a:Int)-k)=a-k:=i64_in _ Om;by_cases hw:(a:Int)-k>65536
   ·have c4:decide (65536<(a:Int)-k)=true:=Sx hw
    have ep1:J9 b a (k+1) (k+1)=[]:=by rw[J9,if_pos hw]
    rw[ep1]at h4 h5 h6;simp only[OZ,U8,Nat.add_zero]at h4 h5 h6;subst h4 h5 h6;simp only[go_sem,seval,c1,c2,c3,c4];refine (AZ ?_).1;exact A2.res nC.all.2.1 rfl
   ·have c4:decide (65536<(a:Int)-k)=false:=Sx hw
    have c5:decide ((k:Int)<a)=true:=by simp;omega
    have hst:=jB b a k Om Om;have hin:=Ql b k;obtain⟨k',hk'⟩:∃k':Nat,HS b k=(k':Int):=⟨(HS b k).toNat,Om⟩;rw[hk',Int.toNat_natCast]at hst;rw[hk']at hin;rw[hst]at h4 h5 h6;simp only[OZ,U8]at h4 h5 h6;have hy:=hY t s k Om h3 Om;simp only[go_sem,seval,c1,c2,c3,c4,c5];refine (AZ ?_).1;have hok:=RA h3 (p:=k) Om;by_cases hstop:(a:Int)+(E3 b a s k).2=b.length
    ·rw[if_pos hstop]at h4 h5 h6 hy;simp only[]at h4 h5;refine⟨false,bS b a (t+1) (E3 b a s k) lpD,λR=>by have:=hy R;rw[decide_eq_false (by simpa using hstop)]at this;exact this,rfl,Si,?_⟩;rw[Q2,Sk (S:=bS b a t s lpR) (S':=bS b a (t+1) (E3 b a s k) lpD) rfl];subst h4 h5 h6;refine (mp ?_).1;exact A2.res nC.all.2.1 rfl
    ·rw[if_neg hstop]at h4 h5 h6 hy;simp only[]at h4 h5;refine⟨true,bS b a (t+1) (E3 b a s k) lpR,λR=>by have:=hy R;rw[decide_eq_true hstop]at this;exact this,rfl,Si,?_⟩;rw[Q2,Sk (S:=bS b a t s lpR) (S':=bS b a (t+1) (E3 b a s k) lpR) rfl];have g1:=DS .i64 (GR b a) k Om;have g2:=aK b a k Om;rw[g2,hk']at g1;simp only[go_sem,seval,Int.toNat_natCast,Ab,c2,g1,I9];refine (AZ ?_).1;(repeat((with_reducible refine And.intro ?_ ?_);(·first|exact sd|(simp[Ab,BK,AV.parts,ep];done)|(simp[Ab,BK,AV.parts,ep];omega))));exact⟨(k',t+1,E3 b a s k),⟨by simp only[];omega,by simp only[];omega,hok,by simp only[];omega,h5,h6⟩,by simp only[];omega,Wk.to rfl (by simp[B6])⟩
def O7 (b:List Int) (n:Nat) (a:Int):Ag prog 208 [.ref 0 0,iA a] (NY b n 1 2) (.fn 214 [] [.ref 3 0,.ref 4 0]) (NY b n 1 2++[.cells [.ref 0 0],.cells [iA a]]):=by
 refine RM func208 Acn ?_
 exact FK Acn [0,1,2,3,4] (by simp[AH])
def R7 (b:List Int) (n:Nat) (a:Int) (i j k:Nat) (hn:[i,j,k].Nodup):Ct prog 208 [.ref i 0,iA a] ([i,j,k].zip (NY b n j k)) (λm=>.fn 214 [] [.ref m 0,.ref (m+1) 0]) ([i,j,k].zip (NY b n j k)) (λ_=>[.cells [.ref i 0],.cells [iA a]]):=
 Ct.usn (O7 b n a) [i,j,k] hn rfl Si Si (λm N=>by simp[AH]) (λm N=>by simp[AH,AI]) (λm N=>by simp[AH,AI]) (λm N=>by simp[AH,range'_succ]) (λm N=>by simp[AH])
abbrev bTm (s4:AV):List AV:=[.any,.any,.ref 4 0,.ref 5 0,iA 0,iA 0,.ref 6 0,.ref 7 0,.any,.any,.any,.any,.any,.any,.any,.any,.any,.any,.any,.any,.any,.any,.any,.any,.any,.any,.any,.any,.any,s4,.any,.any,.any,.any,.any,.any,.any,.any,.any,.any,.any,.any,.any,.any,.any,.any,.any,.any,.any,.any,.any,.any,.any,.any,.any,.any,.any,.any,.any,.any,.any,.any,.any,.any,.any,.any,.any,.any]
abbrev lpO (r:LpR) (x:AV):Ac:=.raw (.lp r) (bTm x)
def v9:C:=.reg [(none,.mov (.tmp 30),some 8)] []
def v8:C:=.block 1 (.seq (.reg [(none,.load none (.tmp 2),some 31),(none,.nilc (.tmp 31),some 32),(none,.fadr 2 (.tmp 32),some 33),(none,.load none (.tmp 33),some 34),(none,.bin .add (.tmp 34) (.const (.int .i64 1)),some 35),
 (none,.nilc (.tmp 31),some 36),(none,.fadr 2 (.tmp 36),some 37),(none,.store 1 (.tmp 37) (.tmp 35),none)] [])
 (.seq (.seq (.reg [(none,.load none (.tmp 2),some 38),(none,.nilc (.tmp 38),some 39),(none,.fadr 0 (.tmp 39),some 40),(none,.load none (.tmp 40),some 41),(none,.load none (.tmp 3),some 42),(none,.load none (.tmp 3),some 43),(none,.mov (.tmp 8),some 44),
   (none,.bin .sub (.tmp 43) (.tmp 44),some 45),(none,.call (.func 209) [.tmp 41,.tmp 42,.tmp 45],some 46),(none,.mov (.tmp 46),some 9)] [(0,4),(3,4),(0,5),(3,5),(4,5)])
   (.seq (.reg [(none,.mov (.tmp 9),some 47),(none,.load none (.tmp 7),some 48),(none,.bin .gtr (.tmp 47) (.tmp 48),some 49)] [])
     (.cond (.tmp 49) (.reg [(none,.load none (.tmp 3),some 50),(none,.mov (.tmp 8),some 51),(none,.bin .sub (.tmp 50) (.tmp 51),some 52),(none,.mov (.tmp 9),some 53),(none,.store 1 (.tmp 6) (.tmp 52),none),(none,.store 1 (.tmp 7) (.tmp 53),none)] []) .skip)))
   (.seq (.reg [(none,.load none (.tmp 3),some 54),(none,.load none (.tmp 7),some 55),(none,.bin .add (.tmp 54) (.tmp 55),some 56),(none,.load none (.tmp 2),some 57),(none,.nilc (.tmp 57),some 58),(none,.fadr 0 (.tmp 58),some 59),(none,.load none (.tmp 59),some 60),
     (none,.len false (.tmp 60),some 61),(none,.bin .eql (.tmp 56) (.tmp 61),some 62)] [(0,1),(0,3),(1,3),(0,6),(1,6)])
     (.cond (.tmp 62) (.exit 0) .skip))))
def Ym (b:List Int) (a t:Nat) (s:Int×Int) (p:Nat) (x:AV) (fn:FuncId) (D:Nat) (ca cb:Code) (hA:AO prog ca=some v9) (hB:AO prog cb=some v8)
 (R:List Ac) (ht:t<1000000000000000) (hs:Zs b a s) (hp:p<a∧(a:Int)-p≤65536) (ha:a≤b.length) (hb:b.length≤1000000000000):
 YC prog 10 [iA p] (bS b a t s (lpO ⟨.ready,none,fn,#[30],ca,cb,D⟩ x)++R) (bS b a (t+1) (E3 b a s p) (if(a:Int)+(E3 b a s p).2=b.length then lpO ⟨.done,some (.exit 0),fn,#[30],ca,cb,D⟩ x else lpO ⟨.ready,none,fn,#[30],ca,cb,D⟩ x)++R) (decide (¬(a:Int)+(E3 b a s p).2=b.length)):=by
 have e1:IntKind.i64.wrap ((t:Int)+1)=((t+1:Nat):Int):=by rw[i64_in _ Om];omega
 have e2:IntKind.i64.wrap ((a:Int)-p)=((a-p:Nat):Int):=by rw[i64_in _ Om];omega
 have hl:=j6 b a (a-p);have hm:=RA hs (p:=p) Om;have hml:=hm.len;have hmn:=hm.n0;have hmm:=hm.most;have hsm:=hs.most;have hsn:=hs.n0;have e3:IntKind.i64.wrap ((a:Int)+(E3 b a s p).2)=a+(E3 b a s p).2:=i64_in _ Om;refine YC.of (r:=⟨.ready,none,fn,#[30],ca,cb,D⟩) (tm:=bTm x) rfl rfl rfl hA hB (iO _ _ hA rfl) (iO _ _ hB rfl) ?_;simp only[v9,zip_cons_cons,zip_nil_right,foldl_cons,foldl_nil,go_sem];refine⟨rfl,?_⟩;simp only[v8];refine (mr e1 e2 ?_).1;refine Cp (VY b a (a-p) hb ha Om) ?_;by_cases hbt:((Oh b a (a-p):Nat):Int)>s.2
 ·have c1:decide (s.2<((Oh b a (a-p):Nat):Int))=true:=Sx hbt
  have eu:E3 b a s p=((a:Int)-p,((Oh b a (a-p):Nat):Int)):=by unfold E3;rw[Int.toNat_natCast,if_pos hbt]
  have ep:((a-p:Nat):Int)=a-p:=Om
  rw[eu]at e3 ⊢;simp only[]at e3;refine (ms c1 e3 @Ab ?_).1;by_cases hst:(a:Int)+(Oh b a (a-p):Nat)=b.length
  ·have c2:((a:Int)+(Oh b a (a-p):Nat)==(b.length:Int))=true:=Sx hst
   refine (mq c2 ?_).1;exact⟨some (.exit 0),rfl,rfl,by simp[hst],by simp[hst,ep,e2]⟩
  ·have c2:((a:Int)+(Oh b a (a-p):Nat)==(b.length:Int))=false:=Sx hst
   refine (mq c2 ?_).1;exact⟨none,rfl,rfl,by simp[hst],by simp[hst,ep,e2]⟩
 ·have c1:decide (s.2<((Oh b a (a-p):Nat):Int))=false:=Sx hbt
  have eu:E3 b a s p=s:=by unfold E3;rw[Int.toNat_natCast,if_neg hbt]
  rw[eu]at e3 ⊢;refine (ms c1 e3 @Ab ?_).1;by_cases hst:(a:Int)+s.2=b.length
  ·have c2:((a:Int)+s.2==(b.length:Int))=true:=Sx hst
   refine (mq c2 ?_).1;exact⟨some (.exit 0),rfl,rfl,by simp[hst],by simp[hst]⟩
  ·have c2:((a:Int)+s.2==(b.length:Int))=false:=Sx hst
   refine (mq c2 ?_).1;exact⟨none,rfl,rfl,by simp[hst],by simp[hst]⟩
def Aan (b:List Int) (a n t:Nat) (hb:b.length≤1000000000000) (hn:n≤a) (ha:a≤b.length) (ht:t+a≤1000000000000000):
 Ag prog 203 [.ref 0 0,iA a] (uQ b t 1::NY b n 2 3) (.tup [iA (BO b a).1,iA (BO b a).2]) (uQ b (t+(OZ b a (Ck b a) (0,0)).1) 1::NY b a 2 3):=by
 have e0:(if(b.length:Int)<a then(b.length:Int)else a)=a:=by rw[if_neg Om]
 refine RN func203 yD ?_;refine (mr @Ab e0 ?_).1
 refine Aa.us (Vv b n a hb hn ha 1 2 3 De) rfl rfl (mp ?_).1;refine Aa.us (R7 b a a 1 2 3 De) rfl rfl (mp ?_).1;refine p8 (tm':=bTm (.fn 214 [] [.ref 8 0,.ref 9 0])) (Wk.to rfl (by simp[B6])) ?_;refine Wi (a:=v9) (b:=v8) rfl λfn D ca cb hA hB=>⟨.tup [],_,if U8 b a (Ck b a) (0,0)=true then⟨.done,some (.exit 0),fn,#[30],ca,cb,D⟩else⟨.ready,none,fn,#[30],ca,cb,D⟩,
  oB b a t (0,0) _ (lpO ⟨.done,some (.exit 0),fn,#[30],ca,cb,D⟩ (.fn 214 [] [.ref 8 0,.ref 9 0])) hb ha ht (λt s p ht hs hp R=>?_) (Zs.zero b a 0),?_,?_,?_⟩
 ·obtain⟨p',rfl⟩:∃p':Nat,p=(p':Int):=⟨p.toNat,Om⟩;exact Ym b a t s p' _ fn D ca cb hA hB R ht hs Om ha hb
 ·split<;>rfl
 ·split<;>simp
 ·obtain⟨s',hs'⟩:∃s',s'=(OZ b a (Ck b a) (0,0)).2:=⟨_,rfl⟩;have hb':BO b a=VJ s':=by unfold BO;rw[hs']
  rw[hb',←hs'];split
  ·simp only[jq,length_cons,length_nil];refine (mp ?_).1;refine Cp (MH s'.1 s'.2) ?_
   exact FK yD [0,1,2,3] (by simp[AH])
  ·simp only[jq,length_cons,length_nil];refine (mp ?_).1;refine Cp (MH s'.1 s'.2) ?_
   exact FK yD [0,1,2,3] (by simp[AH])
def Ael (b:List Int) (a n t:Nat) (hb:b.length≤1000000000000) (hn:n≤a) (ha:a≤b.length) (ht:t+a≤1000000000000000) (i j k l:Nat) (hd:[i,j,k,l].Nodup):
 Ct prog 203 [.ref i 0,iA a] ([i,j,k,l].zip (uQ b t j::NY b n k l)) (λ_=>.tup [iA (BO b a).1,iA (BO b a).2]) ([i,j,k,l].zip (uQ b (t+(OZ b a (Ck b a) (0,0)).1) j::NY b a k l)) (λ_=>[]):=
 Ct.us (Aan b a n t hb hn ha ht) [i,j,k,l] hd rfl rfl Si (λN=>by simp[AH]) (λN=>by simp[AH,AI]) (λN=>by simp[AH,AI]) (λN=>by simp)
def Z3 (b:List Int) (hb:b.length≤1000000000000):Ag prog 202 [Bj .u8 b] [] (.ref 0 0) (uQ b 0 1::NY b 0 2 3):=by
 refine RN func202 Acr ?_;refine (mq @Ab ?_).1
 (repeat with_reducible refine Sa ?_);refine Aa.n (eV b hb) (mp ?_).1;refine WO 4 [Bj .u8 b,.ref 1 0,iA 0] ?_
 (refine FB Acr [4,1,2,3] ?_ ?_<;>first|with_reducible rfl|(simp[AH,GR,DU];done)|rfl)
def iL (b:List Int) (hb:b.length≤1000000000000):Ct prog 202 [Bj .u8 b] [] (λn=>.ref n 0) [] (λn=>uQ b 0 (n+1)::NY b 0 (n+2) (n+3)):=Ct.n (Z3 b hb) Dl cl cl
def vP (l:List Tk) (t:Tk) (g:Gd):DG (Og l++[.agg [.sl g 1 (AU .u8 t.lit),iA t.off,iA t.len]]) (Og (l++[t])):=by
 rw[←Su];exact DG.app (DG.refl _) (DG.cons (Wa.agg (DG.cons Wa.none (DG.refl _))) DG.nil)
def Vs (b:List Int) (x y:Nat) (l:List Tk) (hb:b.length≤1048576) (hy:y≤b.length) (hl:l.length≤1048576):
 Ag prog 201 [iA y,.ref 0 0,.ref 1 0,.ref 2 0] [.cells [iA x],.cells [.sl (.row 3) 3 (Og l)],.cells [Bj .u8 b],.row 3 l.length] (.tup [])
  [.cells [iA x],.cells [.sl (.row 3) 3 (Og (l++EF b x y))],.cells [Bj .u8 b],.row 3 (l++EF b x y).length]:=by
 by_cases h:x<y
 ·have c1:decide ((x:Int)<y)=true:=Sx h
  have e1:((AU .u8 b).drop (x:Int).toNat).take ((y:Int)-x).toNat=AU .u8 ((b.drop x).take (y-x)):=by
   rw[Ep,Dh];congr 2;omega
  have e2:((b.drop x).take (y-x)).length=y-x:=by simp;omega
  have er:EF b x y=[⟨(b.drop x).take (y-x),0,0⟩]:=by unfold EF;rw[if_pos h]
  refine RN func201 tU ?_;simp only[go_sem,seval,c1,Ab,e1,e2,ER];refine (AZ ?_).1
  (repeat with_reducible refine Sa ?_);refine A2.wao (ys:=[.sl (.row 3) 3 (Og (l++[⟨(b.drop x).take (y-x),0,0⟩]))]) 1 rfl (DG.cons (Wa.slS (vP l ⟨(b.drop x).take (y-x),0,0⟩ _)) DG.nil) (mp ?_).1
  (refine FB tU [0,1,2,3] ?_ ?_<;>first|with_reducible rfl|(simp[er,AH];done)|rfl)
 ·have c1:decide ((x:Int)<y)=false:=Sx h
  have er:EF b x y=[]:=by unfold EF;rw[if_neg h]
  refine RN func201 tU ?_;refine (mq c1 ?_).1
  (refine FB tU [0,1,2,3] ?_ ?_<;>first|with_reducible rfl|(simp[er,AH];done)|rfl)
def Od (b:List Int) (x y:Nat) (l:List Tk) (hb:b.length≤1048576) (hy:y≤b.length) (hl:l.length≤1048576) (i j k r:Nat) (hd:[i,j,k,r].Nodup):
 Ct prog 201 [iA y,.ref i 0,.ref j 0,.ref k 0] ([i,j,k,r].zip [.cells [iA x],.cells [.sl (.row r) 3 (Og l)],.cells [Bj .u8 b],.row 3 l.length]) (λ_=>.tup [])
  ([i,j,k,r].zip [.cells [iA x],.cells [.sl (.row r) 3 (Og (l++EF b x y))],.cells [Bj .u8 b],.row 3 (l++EF b x y).length]) (λ_=>[]):=
 Ct.us (Vs b x y l hb hy hl) [i,j,k,r] hd rfl rfl Si (λN=>by simp[AH]) (λN=>by simp[AH,AI,YG]) (λN=>by simp[AH,AI,YG]) (λN=>by simp)
abbrev tS (b:List Int) (a x t:Nat) (l:List Tk):List Ac:=[.cells [Bj .u8 b],.cells [.sl (.row 7) 3 (Og l)],.cells [iA x],uQ b t 4,chO b (GR b a) 5 6,mpO (DU b a),.row 1 a,.row 3 l.length]
theorem aJ (b:List Int) (f a x:Nat) (h:a<b.length):Gb b (f+1) a x=if(BO b a).2=0 then Gb b f (a+1) x else EF b x a++[⟨[],(BO b a).1,(BO b a).2⟩]++Gb b f (a+(BO b a).2.toNat) (a+(BO b a).2.toNat):=by
 rw[Gb,if_neg Om]
def OA (b:List Int) (hb:b.length≤1048576):Ag prog 195 [Bj .u8 b] [] (.tup [uO (EX b),iA 0]) []:=by
 have c0:decide ((1048576:Int)<b.length)=false:=by simp;omega
 have hpl:=(Jx b).1;refine RN func195 Acu ?_;refine (mr @Ab c0 ?_).1
 refine Aa.n (iL b Om) (mp ?_).1;refine AA (α:=Nat×Nat×Nat×Nat×List Tk) (λu=>.any::.ref 0 0::.any::.any::.ref 1 0::.ref 2 0::.fn 201 [] [.ref 2 0,.ref 1 0,.ref 0 0]::.ref 3 0::iA u.1::Az (Az (Ay (Ay [])))) (λu=>tS b u.2.1 u.2.2.1 u.2.2.2.1 u.2.2.2.2)
  (λu=>u.2.1≤u.1∧u.1≤b.length∧u.2.2.1≤u.1∧u.2.2.2.1≤u.1*b.length∧∃f,b.length≤f+u.1∧u.2.2.2.2++Gb b f u.1 u.2.2.1=EX b) (λu=>b.length-u.1) (0,0,0,0,[])
  ⟨Nat.le_refl _,Nat.zero_le _,Nat.le_refl _,Nat.zero_le _,b.length,Nat.le_refl _,rfl⟩ ?_ ?_
 ·refine(Wk.rowObj 1 0 3 rfl rfl (.inr rfl) Om).trans (Wk.to ?_ (by simp[B6]));simp[tS,GR,DU,o8]
 ·rintro⟨a,n,x,t,l⟩ ⟨h1,h2,h3,h4,f,h5,h6⟩;simp only[]at h1 h2 h3 h4 h5 h6;have hall:l.length≤1048576:=by
   have:=congrArg List.length h6;simp only[length_append]at this;omega
  have ht:t≤1048576*1048576:=Nat.le_trans h4 (Nat.mul_le_mul Om hb);by_cases hlt:a<b.length
  ·have c1:decide ((a:Int)<b.length)=true:=by simp;omega
   have e1:=Am a Om;have hok:=Kx b a;have hbst:=Zj b a (Ck b a) (0,0);have hpl2:=Tg b a;have hmul:(a+1)*b.length=a*b.length+b.length:=by rw[Nat.add_mul];omega
   obtain⟨f,rfl⟩:∃f',f=f'+1:=⟨f-1,Om⟩;rw[aJ b f a x hlt]at h6;obtain⟨o,m,hbe⟩:∃o m,BO b a=(o,m):=⟨_,_,rfl⟩;rw[hbe]at h6 hok;simp only[]at h6;have hm0:=hok.1.n0;have hml:=hok.1.len;have hm4:=hok.2;simp only[]at hm0 hml hm4;obtain⟨t',ht'⟩:∃t',t'=t+(OZ b a (Ck b a) (0,0)).1:=⟨_,rfl⟩;have hcall:=Ael b a n t Om h1 Om Om 3 4 5 6 De;rw[hbe,←ht']at hcall;simp only[]at hcall;refine (mr @Ab c1 ?_).1;refine Aa.us hcall rfl rfl ?_;by_cases hm:m=0
   ·subst hm;rw[if_pos rfl]at h6;refine (mq e1 ?_).1;exact⟨(a+1,a,x,t',l),⟨by simp only[];omega,by simp only[];omega,by simp only[];omega,by simp only[];omega,f,by simp only[];omega,h6⟩,by simp only[];omega,Wk.to rfl (by simp[B6])⟩
   ·rw[if_neg hm]at h6;have c2:(m==0)=false:=Sx hm
    obtain⟨m',rfl⟩:∃m':Nat,m=(m':Int):=⟨m.toNat,Om⟩;rw[Int.toNat_natCast]at h6;have e2:IntKind.i64.wrap ((a:Int)+m')=((a+m':Nat):Int):=by rw[i64_in _ Om];omega
    have hlr:(l++EF b x a).length+1≤1048576:=by
     have:=congrArg List.length h6;simp only[length_append,length_singleton]at this ⊢;omega
    have hmul2:a*b.length+b.length≤(a+m')*b.length:=by
     rw[←hmul];exact Nat.mul_le_mul_right _ Om
    refine (mq c2 ?_).1;refine Aa.us (Od b x a l hb Om hall 2 1 0 7 De) rfl rfl (mr @ER e2 ?_).1;(repeat with_reducible refine Sa ?_);refine⟨(a+m',a,a+m',t',l++EF b x a++[⟨[],o,m'⟩]),⟨by simp only[];omega,by simp only[];omega,by simp only[];omega,by simp only[];omega,f,by simp only[];omega,by rw[←h6];simp⟩,by simp only[];omega,(Wk.wao (ys:=[.sl (.row 7) 3 (Og (l++EF b x a++[⟨[],o,m'⟩]))]) 1 rfl ?_).trans (Wk.to ?_ (by simp[B6]))⟩
    ·refine DG.cons (Wa.slS ?_) DG.nil;rw[←Su];exact DG.app (DG.refl _) (DG.cons (Wa.agg (DG.cons Wa.nil (DG.refl _))) DG.nil)
    ·simp[tS,Nat.add_assoc]
  ·obtain rfl:a=b.length:=Om
   have c1:decide ((b.length:Int)<b.length)=false:=by simp
   rw[i7 b f b.length x (Nat.le_refl _)]at h6;refine (mr @Ab c1 ?_).1;refine Aa.us (Od b x b.length l hb (Nat.le_refl _) hall 2 1 0 7 De) rfl rfl (mq h6 ?_).1;refine UT 2 ?_;exact FA Acu []
theorem QN (b:List Int) (hb:b.length≤1048576):Ct Tryz.prog 195 [Bj .u8 b] [] (λ_=>.tup [uO (EX b),iA 0]) [] (λ_=>[]):=(OA b hb).toCt cl cl
abbrev Aec (q:List Int×(Int×Int)):AV:=.tup [Bj .u8 q.1,Fk q.2]
def Gk {α:Type} (m:Nat) (lab:α->Nat) (tmF:α->List AV) (SF:α->List Ac) (ok:α->Prop) (Q:QT):QT
 | .goto l',tm,S=>∃a,lab a=l'∧ok a∧Wk m tm S (tmF a) (SF a)
 |e,tm,S=>Q e tm S
def GQ {α:Type} (m:Nat) (lab:α->Nat) (tmF:α->List AV) (SF:α->List Ac) (ok:α->Prop) (μ:α->Nat) (a:α) (Q:QT):QT
 | .goto l',tm,S=>∃a',lab a'=l'∧ok a'∧μ a'<μ a∧Wk m tm S (tmF a') (SF a')
 |e,tm,S=>Q e tm S
section
variable {P:Program} {m:Nat} {tm:List AV} {S:List Ac} {Q:QT} {α:Type} {lab:α->Nat} {tmF:α->List AV} {SF:α->List Ac} {ok:α->Prop} {μ:α->Nat} {a:α}
@[go_sem] theorem iV:Gk m lab tmF SF ok Q .normal tm S=Q .normal tm S:=(rfl)
@[go_sem] theorem uT:Gk m lab tmF SF ok Q .ret tm S=Q .ret tm S:=(rfl)
@[go_sem] theorem qH (id:Nat):Gk m lab tmF SF ok Q (.exit id) tm S=Q (.exit id) tm S:=(rfl)
@[go_sem] theorem qG (l':Nat):Gk m lab tmF SF ok Q (.goto l') tm S=(∃a,lab a=l'∧ok a∧Wk m tm S (tmF a) (SF a)):=(rfl)
@[go_sem] theorem fV:GQ m lab tmF SF ok μ a Q .normal tm S=Q .normal tm S:=(rfl)
@[go_sem] theorem qI:GQ m lab tmF SF ok μ a Q .ret tm S=Q .ret tm S:=(rfl)
@[go_sem] theorem oI (id:Nat):GQ m lab tmF SF ok μ a Q (.exit id) tm S=Q (.exit id) tm S:=(rfl)
@[go_sem] theorem oH (l':Nat):GQ m lab tmF SF ok μ a Q (.goto l') tm S=(∃a',lab a'=l'∧ok a'∧μ a'<μ a∧Wk m tm S (tmF a') (SF a')):=(rfl)
def Z5 {c:C} (lab:α->Nat) (rs:α->C) (hf:∀a,G5 c (lab a)=some (rs a)) (tmF:α->List AV) (SF:α->List Ac) (ok:α->Prop) (μ:α->Nat)
 (first:(∀a,ok a->aw P m (rs a) (tmF a) (SF a) (Gk m lab tmF SF ok Q))->aw P m c tm S (Gk m lab tmF SF ok Q)) (pass:∀a,ok a->aw P m (rs a) (tmF a) (SF a) (GQ m lab tmF SF ok μ a Q)):aw P m (.scope c) tm S Q:=by
 refine Jq (λn l' tm S=>∃a,lab a=l'∧ok a∧tm=tmF a∧S=SF a∧n=μ a) (Gv (first λa ha=>Gv (pass a ha) λe tm' S' hq=>?_) λe tm' S' hq=>?_) λn l' tm S ⟨a,hl,ha,h1,h2,h3⟩=>⟨rs a,by rw[←hl];exact hf a,?_⟩
 ·cases e with
  |goto l'=>have⟨a',h1,h2,_,h4⟩:=hq;exact⟨a',h1,h2,h4⟩
  |_=>exact hq
 ·cases e with
  |goto l'=>have⟨a,h1,h2,h3⟩:=hq;exact⟨_,_,h3,μ a,a,h1,h2,rfl,rfl,rfl⟩
  |_=>exact hq
 ·subst h1 h2 h3;refine Gv (pass a ha) λe tm' S' hq=>?_
  cases e with
  |goto l'=>have⟨a',h1,h2,h3,h4⟩:=hq;exact⟨_,_,h4,μ a',⟨a',h1,h2,rfl,rfl,rfl⟩,h3⟩
  |_=>exact hq
end
section
variable {P:Program} {m:Nat} {tm:List AV} {S:List Ac} {Q:QT} {α:Type}
def Z4 {c r1 r0:C} (h1:G5 c 1=some r1) (h0:G5 c 0=some r0) (tmF:Bool×α->List AV) (SF:Bool×α->List Ac) (ok:Bool×α->Prop) (μ:Bool×α->Nat)
 (first:(∀a,ok a->aw P m (cond a.1 r1 r0) (tmF a) (SF a) (Gk m (λa=>cond a.1 1 0) tmF SF ok Q))->aw P m c tm S (Gk m (λa=>cond a.1 1 0) tmF SF ok Q))
 (pass:∀a,ok a->aw P m (cond a.1 r1 r0) (tmF a) (SF a) (GQ m (λa=>cond a.1 1 0) tmF SF ok μ a Q)):aw P m (.scope c) tm S Q:=
 Z5 (λa=>cond a.1 1 0) (λa=>cond a.1 r1 r0) (λa=>by cases h:a.1<;>simp only[cond]<;>assumption) tmF SF ok μ first pass
end
def HA (bound:Int) (s:RS) (out:List Int):List Int×(Int×Int):=if s.code=0 then Ei bound s out else([],(s.code,s.fat))
def Kq (s:RS) (out:List Int):List Int×(Int×Int):=if s.code=0 then(out,(0,0))else([],(s.code,s.fat))
def lX {bound:Int} {s:RS} {out:List Int} (h:¬0<s.left):HA bound s out=Kq s out:=by
 unfold HA Kq;rw[F7 h]
def NK {bound:Int} {s:RS} {out o:List Int} (h:¬s.code=0):HA bound s out=Kq s o:=by
 unfold HA Kq;rw[if_neg h,if_neg h]
def P3 {s:RS} {c a:Int} (h:s.code=0) (hc:c≠0):(s.fail c a).code=c∧(s.fail c a).fat=a:=by
 unfold RS.fail;rw[if_pos h];simp[Cd,hc]
theorem KZ {s:RS} {c a:Int} (h:¬s.code=0):s.fail c a=s:=by
 unfold RS.fail;rw[if_neg h]
def dZ {bound:Int} {s:RS} {out o:List Int} (hc:s.code=0) (h:0<s.left) (hb:bound<out.length+s.thead.2.2):HA bound s out=Kq (s.thead.1.fail 11 s.at_) o:=by
 unfold HA;rw[if_pos hc];by_cases hh:s.thead.1.code=0
 ·have⟨f1,f2⟩:=P3 (a:=s.at_) hh (show(11:Int)≠0 by decide);rw[G8 h hh hb];unfold Kq;rw[f1,f2];rfl
 ·rw[G9 h hh,KZ hh];unfold Kq;rw[if_neg hh]
def lV {bound:Int} {s:RS} {out:List Int} (hs:An s) (hc:s.code=0) (h:0<s.left) (hb:¬bound<out.length+s.thead.2.2) (hr:s.thead.2.1=false):
 HA bound s out=HA bound (s.thead.1.take s.thead.2.2).1 (out++(s.thead.1.take s.thead.2.2).2):=by
 by_cases hh:s.thead.1.code=0
 ·by_cases ht:s.token.1.code=0
  ·have⟨m1,m2,m3⟩:=Jo hs ht;have⟨r1,r2,r3,r4⟩:=m3 hr;have ho:¬(out.length:Int)<s.token.2.off:=by rw[r2];simp only;omega
   unfold HA;rw[if_pos hc,if_pos r3,FO hs h hh hb ht ho,r4,r2];simp[G6,CD]
  ·have e:s.token.1=(s.thead.1.take s.thead.2.2).1:=by
    unfold RS.token;rw[if_pos hh,hr];simp only[Bool.false_eq_true,if_false];split<;>rfl
   unfold HA;rw[if_pos hc,F6 h hh hb ht,←e,if_neg ht]
 ·have e:(s.thead.1.take s.thead.2.2).1=s.thead.1:=by
   unfold RS.take RS.skip;rw[if_neg hh];rfl
  unfold HA;rw[if_pos hc,G9 h hh,e,if_neg hh]
def lW {bound:Int} {s:RS} {out o:List Int} (hc:s.code=0) (h:0<s.left) (hb:¬bound<out.length+s.thead.2.2) (hr:s.thead.2.1=true) (hf:(out.length:Int)<s.thead.1.toff.2):
 HA bound s out=Kq (s.thead.1.toff.1.fail 10 s.thead.1.at_) o:=by
 have hh:s.thead.1.code=0:=by
  by_cases hh:s.thead.1.code=0
  ·exact hh
  ·rw[GI hh]at hr;cases hr
 have ht:s.thead.1.toff.1.code=0:=by
  by_cases ht:s.thead.1.toff.1.code=0
  ·exact ht
  ·rw[gL ht]at hf;omega
 have e:s.token=(s.thead.1.toff.1,⟨[],s.thead.1.toff.2,s.thead.2.2⟩):=by
  unfold RS.token;rw[if_pos hh,if_pos hr,if_pos ht]
 have⟨f1,f2⟩:=P3 (a:=s.thead.1.at_) ht (show(10:Int)≠0 by decide);unfold HA;rw[if_pos hc,Ks h hh hb (by rw[e];exact ht) (by rw[e];exact hf)];unfold Kq;rw[f1,f2];rfl
def d7 {bound:Int} {s:RS} {out:List Int} (hs:An s) (hc:s.code=0) (h:0<s.left) (hb:¬bound<out.length+s.thead.2.2) (hr:s.thead.2.1=true) (hf:¬(out.length:Int)<s.thead.1.toff.2) (ht:s.thead.1.toff.1.code=0):
 HA bound s out=HA bound s.thead.1.toff.1 (CD out s.thead.1.toff.2.toNat s.thead.2.2.toNat):=by
 have hh:s.thead.1.code=0:=by
  by_cases hh:s.thead.1.code=0
  ·exact hh
  ·rw[GI hh]at hr;cases hr
 have e:s.token=(s.thead.1.toff.1,⟨[],s.thead.1.toff.2,s.thead.2.2⟩):=by
  unfold RS.token;rw[if_pos hh,if_pos hr,if_pos ht]
 unfold HA;rw[if_pos hc,if_pos ht,FO hs h hh hb (by rw[e];exact ht) (by rw[e];exact hf),e];simp[G6]
def XN {bound:Int} {s:RS} {out:List Int} (hc:s.code=0) (h:0<s.left) (hb:¬bound<out.length+s.thead.2.2) (hr:s.thead.2.1=true) (ht:¬s.thead.1.toff.1.code=0) (o:List Int):
 HA bound s out=Kq s.thead.1.toff.1 o:=by
 have hh:s.thead.1.code=0:=by
  by_cases hh:s.thead.1.code=0
  ·exact hh
  ·rw[GI hh]at hr;cases hr
 have e:s.token=(s.thead.1.toff.1,Ld):=by
  unfold RS.token;rw[if_pos hh,if_pos hr,if_neg ht]
 unfold HA Kq;rw[if_pos hc,if_neg ht,F6 h hh hb (by rw[e];exact ht),e]
def VP (s:RS) (n:Int):(s.take n).2.length≤n.toNat:=by
 unfold RS.take;split
 ·simp only[length_take];omega
 ·simp
def dV {s:RS} {c:Int} (a:Int) (hc:c≠0):¬(s.fail c a).code=0:=by
 by_cases h:s.code=0
 ·exact I3 h hc
 ·rw[KZ h];exact h
def VM {s:RS} (h:An s):0≤s.thead.2.2∧s.thead.2.2≤1048576:=by
 by_cases hh:s.thead.1.code=0
 ·have⟨_,_,h3⟩:=JZ h hh;rcases h3 with⟨_,_,a,b⟩|⟨_,_,a,b⟩<;>omega
 ·rw[GI hh];simp
def JR (b:List Int) (bound:Int) (s:RS) (out:List Int):Prop:=s.l=b∧(out.length:Int)≤max bound 0∧(s.code=0->(out.length:Int)≤1048576*s.at_)∧out.length≤1048576*b.length
theorem JR.bad {b:List Int} {bound:Int} {s t:RS} {out:List Int} (h:JR b bound s out) (hl:t.l=s.l) (hc:¬t.code=0):JR b bound t out:=⟨hl.trans h.1,h.2.1,λh=>absurd h hc,h.2.2.2⟩
theorem JR.more {b:List Int} {bound:Int} {s t:RS} {out o:List Int} (h:JR b bound s out) (hs:s.code=0) (ht:An t) (hl:t.l=s.l) (ha:s.at_<t.at_) (h1:(o.length:Int)≤max bound 0) (h2:o.length≤out.length+1048576):JR b bound t o:=by
 have⟨a1,a2,a3,a4⟩:=h;have:=a3 hs;have h5:=ht.at1;have h6:t.l.length=b.length:=by rw[hl,a1]
 exact⟨hl.trans a1,h1,λ_=>by omega,Om⟩
def Rp (b:List Int) (bound:Int) (b0: -9223372036854775808≤bound) (b1:bound<9223372036854775808) (hb:A7 b) (hn:b.length≤1000000):Ct prog 193 [Bj .u8 b,iA bound] [] (λ_=>Aec (Ei bound (RS.new b) [])) [] (λ_=>[]):=by
 refine Ag.toCt ?_ cl cl
 have⟨E,hE⟩:=Ex (Ei bound (RS.new b) []);rw[hE];refine RM func193 yG ?_
 refine Z4 (α:=RS×List Int) (by rfl) (by rfl) (λa=>Bj .u8 b::iA bound::.any::.any::.any::.ref 0 0::.ref 1 0::Ia 2 a.2.2::Az (Az (Az (Ay (Ay (Ay [.any,.any,.any])))))) (λa=>[.cells [iA 0,iA 0],A1 a.2.1,.row 1 a.2.2.length]) (λa=>An a.2.1∧JR b bound a.2.1 a.2.2∧(cond a.1 (HA bound a.2.1 a.2.2) (Kq a.2.1 a.2.2))=E) (λa=>cond a.1 (1+if a.2.1.code=0 then a.2.1.left.toNat+1 else 0) 0) (λpass=>?_) ?_
 ·refine (mp ?_).1;refine Aa.n (C9 b) (mp ?_).1;exact Q4 ((Wk.row 7 1 rfl (.inl rfl) (Nat.le_refl _)).trans (Wk.to Si (by simp[B6,AU]))) (pass (true,RS.new b,[]) ⟨An.new hb Om,⟨rfl,by simp;omega,by simp[RS.new],Si⟩,by simp only[cond];rw[←hE];rfl⟩)
 ·rintro⟨c,R,out⟩ ⟨h1,h2,h3⟩;simp only at h1 h2 h3;have⟨g1,g2,g3,g4⟩:=h2;cases c
  ·simp only[cond]at h3 ⊢;refine (mp ?_).1;refine Cr (Bp R _) rfl ?_;by_cases hc:R.code=0
   ·have q:(R.code==0)=true:=Sx hc
    have he:E=(out,(0,0)):=by rw[←h3];unfold Kq;rw[if_pos hc]
    refine Aa.p (Ap _ _) (mq q ?_).1;refine UT 4 ?_
    exact FE yG [] he
   ·have q:(R.code==0)=false:=Sx hc
    have he:E=([],(R.code,R.fat)):=by rw[←h3];unfold Kq;rw[if_neg hc]
    refine Aa.p (Ap _ _) (mq q ?_).1;refine UT 4 ?_
    exact FE yG [] he
  ·simp only[cond]at h3 ⊢;refine (mp ?_).1;refine Cr (Gy R _ h1.ok) rfl ?_;by_cases hl:R.left=0
   ·have q:(R.left==0)=true:=Sx hl
    refine (mq q ?_).1;exact⟨(false,R,out),rfl,⟨h1,⟨g1,g2,g3,g4⟩,(lX (s:=R) Om).symm.trans h3⟩,by simp only;omega,Wk.to Si (by simp[B6])⟩
   ·have q:(R.left==0)=false:=Sx hl
    refine (mq q ?_).1;by_cases hc:R.code=0
    ·refine Aa.r1 (Ah R _) rfl (mq (A5 hc) ?_).1;refine Cr (AP R _) rfl ?_;refine Cu (VH R _ h1) rfl ?_;have hlp:0<R.left:=by have⟨z1,z2,z3⟩:=h1.ok;unfold RS.left at hl ⊢;omega
     have ew:IntKind.i64.wrap (bound-(out.length:Int))=bound-out.length:=i64_in _ Om;have⟨k1,k2⟩:=ET h1;have⟨m1,m2⟩:=VM h1;by_cases ho:bound-(out.length:Int)<R.thead.2.2
     ·have q2:decide (bound-(out.length:Int)<R.thead.2.2)=true:=Sx ho
      refine (ms @Ab ew q2 ?_).1;refine Cu (Ar R.thead.1 11 R.at_ _) rfl ?_;exact⟨(false,R.thead.1.fail 11 R.at_,out),rfl,⟨k1.fail _ _,JR.bad ⟨g1,g2,g3,g4⟩ (by rw[Bx];exact k2) (dV _ De),(dZ hc hlp Om).symm.trans h3⟩,by simp only;omega,Wk.to Si (by simp[B6])⟩
     ·have q2:decide (bound-(out.length:Int)<R.thead.2.2)=false:=Sx ho
      cases hr:R.thead.2.1
      ·refine (mt @Ab ew q2 hr ?_).1;refine Aa.u1 (DH R.thead.1 R.thead.2.2 _ k1.ok) rfl ?_;simp only[go_sem,seval,C0,Ab,←length_append];refine (AZ ?_).1;have hts:=VP R.thead.1 R.thead.2.2;have hlen:((out++(R.thead.1.take R.thead.2.2).2).length:Int)≤max bound 0:=by rw[length_append];omega
       have hmade:JR b bound (R.thead.1.take R.thead.2.2).1 (out++(R.thead.1.take R.thead.2.2).2):=by
        have hl2:(R.thead.1.take R.thead.2.2).1.l=R.l:=by rw[(k1.ok.take R.thead.2.2).2];exact k2
        by_cases hz:(R.thead.1.take R.thead.2.2).1.code=0
        ·have hh:R.thead.1.code=0:=by
          by_cases hh:R.thead.1.code=0
          ·exact hh
          ·unfold RS.take RS.skip at hz;rw[if_neg hh]at hz;exact absurd hz hh
         have e:R.token.1=(R.thead.1.take R.thead.2.2).1:=by
          unfold RS.token;rw[if_pos hh,hr];simp only[Bool.false_eq_true,if_false];split<;>rfl
         have hat:=(H3 h1 (by rw[e];exact hz)).2.2.2.1;rw[e]at hat;exact JR.more ⟨g1,g2,g3,g4⟩ hc (k1.take _) hl2 hat hlen (by rw[length_append];omega)
        ·rw[Mw hz,append_nil];exact JR.bad ⟨g1,g2,g3,g4⟩ hl2 hz
       refine⟨by rw[length_append];omega,(true,(R.thead.1.take R.thead.2.2).1,out++(R.thead.1.take R.thead.2.2).2),rfl,⟨k1.take _,hmade,(lV h1 hc hlp Om hr).symm.trans h3⟩,?_,Wk.to Si (by simp[B6])⟩;simp only[cond];rw[if_pos hc];split
       ·rename_i hz;have hh:R.thead.1.code=0:=by
         by_cases hh:R.thead.1.code=0
         ·exact hh
         ·unfold RS.take RS.skip at hz;rw[if_neg hh]at hz;exact absurd hz hh
        have e:R.token.1=(R.thead.1.take R.thead.2.2).1:=by
         unfold RS.token;rw[if_pos hh,hr];simp only[Bool.false_eq_true,if_false];split<;>rfl
        have hlt:=(Ee h1 (by rw[e];exact hz)).1;rw[e]at hlt;omega
       ·omega
      ·refine (mt @Ab ew q2 hr ?_).1;refine Cr (AP R.thead.1 _) rfl ?_;refine Cu (Qs R.thead.1 _ k1) rfl ?_;have⟨k3,k4⟩:=Pc k1;by_cases hf:(out.length:Int)<R.thead.1.toff.2
       ·have q3:decide ((out.length:Int)<R.thead.1.toff.2)=true:=Sx hf
        refine (mr @Ab q3 ?_).1;refine Cu (Ar R.thead.1.toff.1 10 R.thead.1.at_ _) rfl ?_;have hbad:¬(R.thead.1.toff.1.fail 10 R.thead.1.at_).code=0:=by
         by_cases ht:R.thead.1.toff.1.code=0
         ·exact I3 ht De
         ·rw[KZ ht];exact ht
        refine Aa.r1 (Ah (R.thead.1.toff.1.fail 10 R.thead.1.at_) _) rfl (mq (AB hbad) ?_).1;exact⟨(true,R.thead.1.toff.1.fail 10 R.thead.1.at_,out),rfl,⟨k3.fail _ _,JR.bad ⟨g1,g2,g3,g4⟩ (by rw[Bx,k4,k2]) hbad,((lW hc hlp Om hr hf (o:=out)).trans (NK hbad).symm).symm.trans h3⟩,by simp only[cond];rw[if_pos hc,if_neg hbad];omega,Wk.to Si (by simp[B6])⟩
       ·have q3:decide ((out.length:Int)<R.thead.1.toff.2)=false:=Sx hf
        refine (mr @Ab q3 ?_).1;by_cases ht:R.thead.1.toff.1.code=0
        ·refine Aa.r1 (Ah R.thead.1.toff.1 _) rfl (mq (A5 ht) ?_).1;have hh:R.thead.1.code=0:=by
          by_cases hh:R.thead.1.code=0
          ·exact hh
          ·rw[GI hh]at hr;cases hr
         have⟨j1,j2,j3⟩:=JZ h1 hh;have hn1:4≤R.thead.2.2∧R.thead.2.2≤1048576:=by
          rcases j3 with⟨c1,c2,c3,c4⟩|⟨c1,c2,c3,c4⟩
          ·exact⟨c3,c4⟩
          ·rw[hr]at c1;cases c1
         have⟨t1,t2,t3,t4⟩:=Qu ht;have hvr:=Bf (s:=R.thead.1) k1.bys;have htk:R.token=(R.thead.1.toff.1,⟨[],R.thead.1.toff.2,R.thead.2.2⟩):=by
          unfold RS.token;rw[if_pos hh,if_pos hr,if_pos ht]
         have hlt:=(Ee h1 (by rw[htk];exact ht)).1;rw[htk]at hlt;simp only at hlt;have hal:=K_ R.thead.1.toff.2.toNat R.thead.2.2.toNat out;have hat:=(H3 h1 (by rw[htk];exact ht)).2.2.2.1;rw[htk]at hat;simp only at hat;have hmade:JR b bound R.thead.1.toff.1 (CD out R.thead.1.toff.2.toNat R.thead.2.2.toNat):=JR.more ⟨g1,g2,g3,g4⟩ hc k3 (k4.trans k2) hat Om Om;refine Aa.o1 (Ro out R.thead.1.toff.2 R.thead.2.2 _ hn1.2 (λ_=>⟨Om,Om⟩) Om) rfl (mp ?_).1;exact⟨(true,R.thead.1.toff.1,CD out R.thead.1.toff.2.toNat R.thead.2.2.toNat),rfl,⟨k3,hmade,(d7 h1 hc hlp Om hr hf ht).symm.trans h3⟩,by simp only[cond];rw[if_pos hc,if_pos ht];omega,Wk.to Si (by simp[B6])⟩
        ·refine Aa.r1 (Ah R.thead.1.toff.1 _) rfl (mq (AB ht) ?_).1;exact⟨(true,R.thead.1.toff.1,out),rfl,⟨k3,JR.bad ⟨g1,g2,g3,g4⟩ (k4.trans k2) ht,((XN hc hlp Om hr ht out).trans (NK ht).symm).symm.trans h3⟩,by simp only[cond];rw[if_pos hc,if_neg ht];omega,Wk.to Si (by simp[B6])⟩
    ·refine Aa.r1 (Ah R _) rfl (mq (AB hc) ?_).1;exact⟨(false,R,out),rfl,⟨h1,⟨g1,g2,g3,g4⟩,(NK hc).symm.trans h3⟩,by simp only;omega,Wk.to Si (by simp[B6])⟩
def VI {b:List Int} (hb:b.length≤1048576):Ss (EX b)=(A9 b,0):=by
 unfold Ss;rw[if_pos (V6.2 (J8 hb))];rfl
def Tb (b:List Int) (hb:b.length≤1048576):Ct prog 190 [Bj .u8 b] [] (λ_=>.tup [Bj .u8 (A9 b),iA 0]) [] (λ_=>[]):=by
 refine Ag.toCt ?_ cl cl
 have hl:=Jx b;have et:=VI hb;refine RM func190 Acw ?_
 refine Cp (QN b hb) ?_;refine Aa.p (Sq (EX b) Om (λt ht=>by have:=hl.2 t ht;omega)) ?_;refine (mq et ?_).1;exact FA Acw []
def M0 {b:List Int} (hb:b.length≤1048576):(A9 b).length≤4000000000000:=by
 have hl:=Jx b;have h1:=VE (EX b);have h2:=(MO (l:=EX b) λt ht=>by have:=hl.2 t ht;omega).2;unfold A9;omega
def Tl (b:List Int):List Int×Bool:=if FY b=true then(A9 b,true)else([],false)
def RC (b:List Int) (hb:b.length≤1048576):Ct prog 171 [Bj .u8 b] [] (λ_=>.tup [Bj .u8 (Tl b).1,bA (Tl b).2]) [] (λ_=>[]):=by
 refine Ag.toCt ?_ cl cl
 have hl:=M0 hb;have e1:max ((A9 b).length:Int) 0=(A9 b).length:=Om
 have e2:decide ((b.length:Int)≤((vb ((A9 b).length:Int)).length:Int)+(A9 b).length)= !FY b:=by unfold FY;rw[←decide_not];simp
 refine RM func171 yL ?_
 refine Aa.p (Tb b hb) (mq @Ab ?_).1;refine Aa.p (Jc _ Om) (ms e1 @Ab e2 ?_).1;cases hp:FY b with
 |true=>
  refine (mp ?_).1
  exact FK yL [] (by simp[Tl,hp])
 |false=>
  refine (mp ?_).1;refine UT 2 ?_
  exact FK yL [] (by simp[Tl,hp])
def WS.blk (s:WS) (b:List Int):WS:=if FY b=true then(((s.put (vb b.length)).put [1]).put (vb ((A9 b).length:Int))).put (A9 b)else((s.put (vb b.length)).put [0]).put b
theorem WS.fine.blk {s:WS} (h:s.fine) (b:List Int):(s.blk b).fine:=by
 unfold WS.blk;split
 ·exact(((h.put _).put _).put _).put _
 ·exact((h.put _).put _).put _
theorem Zl {s:WS} {b:List Int} (h:s.code=0) (hm:(s.l.length:Int)+(CW b).length≤s.most):s.blk b=⟨s.most,s.l++CW b,0⟩:=by
 unfold WS.blk;unfold CW at hm ⊢;cases hp:FY b with
 |true=>
  rw[hp,if_pos rfl]at hm;simp only[length_append,length_singleton]at hm;rw[if_pos rfl,if_pos rfl,WS.put_ok h Om];rw[WS.put_ok (s:={s with l:=s.l++vb (b.length:Int)}) h (by simp only[length_append,length_singleton];omega)];rw[WS.put_ok (s:={s with l:=s.l++vb (b.length:Int)++[1]}) h (by simp only[length_append,length_singleton];omega)];rw[WS.put_ok (s:={s with l:=s.l++vb (b.length:Int)++[1]++vb ((A9 b).length:Int)}) h (by simp only[length_append,length_singleton];omega)];cases s;simp at h;simp[h]
 |false=>
  rw[hp,if_neg Si]at hm;simp only[length_append,length_singleton]at hm;rw[if_neg Si,if_neg Si,WS.put_ok h Om];rw[WS.put_ok (s:={s with l:=s.l++vb (b.length:Int)}) h (by simp only[length_append,length_singleton];omega)];rw[WS.put_ok (s:={s with l:=s.l++vb (b.length:Int)++[0]}) h (by simp only[length_append,length_singleton];omega)];cases s;simp at h;simp[h]
def X9 (s:WS) (b:List Int) (hs:s.fine) (hb:b.length≤1048576):Ag prog 135 [.ref 0 0,Bj .u8 b] [B5 1 s,AQ s] (.tup []) [B5 1 (s.blk b),AQ (s.blk b)]:=by
 have c0:decide ((1048576:Int)<b.length)=false:=by simp;omega
 have e:=FI b Om;have hl:=M0 hb;refine RN func135 yW ?_;refine (ms @Ab c0 e ?_).1
 refine Aa.u2 (Bm s b.length 0 1 De Om Om hs.ok (hs.room _)) rfl rfl (mp ?_).1;refine Cp (RC b hb) ?_;cases hp:FY b with
 |true=>
  have e1:Tl b=(A9 b,true):=by unfold Tl;rw[hp];rfl
  have eb:s.blk b=(((s.put (vb b.length)).put [1]).put (vb ((A9 b).length:Int))).put (A9 b):=by unfold WS.blk;rw[hp];rfl
  have h1:[AV.lit (.int .u8 1)]=AU .u8 [1]:=rfl;refine (mr e1 h1 ?_).1;refine (Sr ?_).1;refine Aa.u2 (BZ _ [1] 0 1 De (hs.put _).ok ((hs.put _).room _)) rfl rfl (mp ?_).1;refine Aa.u2 (Vd _ (A9 b) 0 1 De ((hs.put _).put _) Om) rfl rfl (mp ?_).1;rw[eb];exact FA yW [0,1]
 |false=>
  have e1:Tl b=([],false):=by unfold Tl;rw[hp];rfl
  have eb:s.blk b=((s.put (vb b.length)).put [0]).put b:=by unfold WS.blk;rw[hp];rfl
  have h1:[AV.lit (.int .u8 0)]=AU .u8 [0]:=rfl;refine (mr e1 h1 ?_).1;refine (Sr ?_).1;refine Aa.u2 (BZ _ [0] 0 1 De (hs.put _).ok ((hs.put _).room _)) rfl rfl (mp ?_).1;refine Aa.u2 (BZ _ b 0 1 De ((hs.put _).put _).ok (((hs.put _).put _).room _)) rfl rfl (mp ?_).1;rw[eb];exact FA yW [0,1]
def Qe (s:WS) (b:List Int) (i j:Nat) (h:i≠j) (hs:s.fine) (hb:b.length≤1048576):Ct prog 135 [.ref i 0,Bj .u8 b] [(i,B5 j s),(j,AQ s)] (λ_=>.tup []) [(i,B5 j (s.blk b)),(j,AQ (s.blk b))] (λ_=>[]):=Ct.u2 (X9 s b hs hb) i j h cl cl cl cl cl (Bu _ _) (Bi _) Dl
def Va (b:List Int) (hb:b.length≤1048576):Ct prog 182 [Bj .u8 b] [] (λ_=>.tup [Bj .u8 (CW b),iA 0]) [] (λ_=>[]):=by
 refine Ag.toCt ?_ cl cl
 have e1:max (b.length:Int) 0=b.length:=Om
 have hv:=A4 (b.length:Int);have e2:IntKind.i64.wrap (((vb (b.length:Int)).length:Int)+b.length+1)=(vb (b.length:Int)).length+b.length+1:=i64_in _ Om;have f0:(WS.new (((vb (b.length:Int)).length:Int)+b.length+1)).fine:=WS.fine.new Om;have hbl:=Kw b;have hfit:(WS.new (((vb (b.length:Int)).length:Int)+b.length+1)).blk b=⟨((vb (b.length:Int)).length:Int)+b.length+1,CW b,0⟩:=by
  rw[WS.new_is Om,Zl rfl (by simp;omega)];simp
 refine RN func182 Ac1 ?_;refine (mq @Ab ?_).1
 refine Aa.p (Jc (b.length:Int) Om) (mr e1 e2 ?_).1;refine Aa.n (E6 _) (mp ?_).1;refine Aa.u2 (Qe _ b 0 1 De f0 hb) rfl rfl (mq hfit ?_).1;refine Aa.r2 (B0 _ 0 1 De (by simp only[];omega)) rfl rfl ?_;refine (mp ?_).1
 exact FK Ac1 [] (by simp[WS.bytes])
def Be (c a n x:Int) (hx:IntKind.i64.wrap (a+n)=x):Ct prog 57 [Fk (c,a),iA n] [] (λ_=>Fk (Cd c x)) [] (λ_=>[]):=by
 refine Ag.toCt ?_ cl cl
 refine RN func57 b57 ?_;refine (mq hx ?_).1
 refine Cp (BJ c x) ?_;exact FA b57 []
def RS.part4 (s:RS):RS:=⟨s.l.take (s.at_+4).toNat,s.at_,0,0⟩
def RZ (s:RS) (hs:An s) (h4:4≤s.left):Ag prog 152 [.ref 0 0,iA 4] [A1 s] (.ref 1 0) [A1 s,A1 s.part4]:=by
 have h0:=hs.at0;have h1:=hs.at1;have h2:=hs.len;unfold RS.left at h4;have hm0:(if(0:Int)>4 then(0:Int)else 4)=4:=if_neg De;have hm:min 4 s.left=4:=by unfold RS.left;omega
 have hw:IntKind.i64.wrap (s.at_+4)=s.at_+4:=i64_in _ Om;refine RM func152 Adb ?_
 refine Aa.r1 (Gy s 0 hs.ok) rfl ?_;simp only[go_sem,seval,A1,mn,hm0,hm,hw,Ab,QB,Dh];refine (AZ ?_).1;(repeat with_reducible refine Sa ?_)
 (refine FB Adb [0,1] ?_ ?_<;>first|with_reducible rfl|(simp[A1,RS.part4];done)|rfl)
def Vt (s:RS) (i:Nat) (hs:An s) (h4:4≤s.left):Ct prog 152 [.ref i 0,iA 4] [(i,A1 s)] (λn=>.ref n 0) [(i,A1 s)] (λ_=>[A1 s.part4]):=Ct.un (RZ s hs h4) i cl (λρ=>AG ρ _) (λρ=>AG ρ _) (rdr_dead _) cl (by intros;simp[AG])
def L0 {l:List Int} {a n:Int} (n0:0≤n) (h:a+n≤l.length):(⟨l,a,0,0⟩:RS).take n=(⟨l,a+n,0,0⟩,(l.drop a.toNat).take n.toNat):=by
 have h1:¬n<0:=Om
 have h2:¬(l.length:Int)-a<n:=Om
 unfold RS.take RS.skip RS.left;simp only[if_true,if_neg h1,if_neg h2]
def pW {b:List Int} {n:Int} (n0:0≤n) (n1:n≤b.length):(RS.new b).skip n=(⟨b,n,0,0⟩,true):=by
 unfold RS.skip RS.left RS.new;simp only[if_true];rw[if_neg Om,if_neg Om];simp
def Lt (b:List Int) (hb:A7 b) (hn:b.length≤140737488355328):Ct prog 104 [Bj .u8 b] [] (λ_=>.tup [iA (D0 b).1,Fk (D0 b).2]) [] (λ_=>[]):=by
 refine Ag.toCt ?_ cl cl
 have hok:An (RS.new b):=An.new hb hn;refine RN func104 fI ?_;refine (mq @Ab ?_).1
 refine Aa.p (EA) ?_;by_cases h12:b.length<12
 ·have q:decide ((b.length:Int)<12)=true:=decide_eq_true Om;have e:D0 b=(0,(1,(b.length:Int))):=by unfold D0;rw[if_pos h12]
  refine (mq q ?_).1;refine Cp (BJ 1 b.length) ?_
  exact FK fI [] (by simp[e,Cd])
 ·have q:decide ((b.length:Int)<12)=false:=decide_eq_false Om;obtain⟨m,hm⟩:∃m:Nat,b.length=m+12:=⟨b.length-12,Om⟩;have hm':b.length-12=m:=Om
  have w1:IntKind.i64.wrap ((b.length:Int)-12)=(m:Int):=by rw[i64_in _ Om];omega
  have w4:IntKind.i64.wrap ((b.length:Int)-4)=(b.length:Int)-4:=i64_in _ Om;have w8:IntKind.i64.wrap ((b.length:Int)-4-4)=(b.length:Int)-8:=by rw[i64_in _ Om];omega
  have wu:IntKind.u64.wrap (m:Int)=m:=u64_in _ Om;have hsk:=pW (b:=b) (n:=(m:Int)) Om Om;have k0:An ⟨b,(m:Int),0,0⟩:=⟨by show(0:Int)≤m;omega,by show(m:Int)≤(b.length:Int);omega,hn,hb⟩;have k4:An ⟨b,(m:Int)+4,0,0⟩:=⟨by show(0:Int)≤m+4;omega,by show(m:Int)+4≤(b.length:Int);omega,hn,hb⟩;have k8:An ⟨b,(m:Int)+4+4,0,0⟩:=⟨by show(0:Int)≤m+4+4;omega,by show(m:Int)+4+4≤(b.length:Int);omega,hn,hb⟩;have hp4:(RS.mk b (m:Int) 0 0).part4=⟨b.take (m+4),(m:Int),0,0⟩:=by unfold RS.part4;simp only;rw[show((m:Int)+4).toNat=m+4 by omega]
  have lp:(b.take (m+4)).length=m+4:=by rw[length_take];omega
  have kp:An ⟨b.take (m+4),(m:Int),0,0⟩:=⟨by show(0:Int)≤m;omega,by show(m:Int)≤((b.take (m+4)).length:Int);omega,by show(b.take (m+4)).length≤_;omega,λx hx=>hb x (mem_of_mem_take hx)⟩;have t1:=L0 (l:=b.take (m+4)) (a:=(m:Int)) (n:=4) De Om;have e1:((b.take (m+4)).drop (m:Int).toNat).take (4:Int).toNat=(b.drop m).take 4:=by
   rw[Int.toNat_natCast,drop_take,show m+4-m=4 by omega,take_take];rfl
  rw[e1]at t1;have t2:=L0 (l:=b) (a:=(m:Int)) (n:=4) De Om;have t3:=L0 (l:=b) (a:=(m:Int)+4) (n:=4) De Om;have t4:=L0 (l:=b) (a:=(m:Int)+4+4) (n:=4) De Om;obtain⟨x1,hx1⟩:∃x,(b.drop m).take 4=x:=⟨_,rfl⟩;obtain⟨x2,hx2⟩:∃x,((b.drop m).drop 4).take 4=x:=⟨_,rfl⟩;obtain⟨x3,hx3⟩:∃x,(b.drop m).drop 8=x:=⟨_,rfl⟩;have e2:(b.drop (m:Int).toNat).take (4:Int).toNat=x1:=by rw[Int.toNat_natCast];exact hx1
  have e3:(b.drop ((m:Int)+4).toNat).take (4:Int).toNat=x2:=by rw[←hx2,drop_drop,show((m:Int)+4).toNat=m+4 by omega];rfl
  have e4:(b.drop ((m:Int)+4+4).toNat).take (4:Int).toNat=x3:=by
   rw[←hx3,drop_drop,show((m:Int)+4+4).toNat=m+8 by omega];exact take_of_length_le (by rw[length_drop];show _≤4;omega)
  rw[hx1]at t1;rw[e2]at t2;rw[e3]at t3;rw[e4]at t4;have f2:(RS.mk b (m:Int) 0 0).fixed (min (max 4 0) 8)=(⟨b,(m:Int)+4,0,0⟩,BM x1):=by
   show(RS.mk b (m:Int) 0 0).fixed 4=_;unfold RS.fixed;rw[t2]
  have f3:(RS.mk b ((m:Int)+4) 0 0).fixed (min (max 4 0) 8)=(⟨b,(m:Int)+4+4,0,0⟩,BM x2):=by
   show(RS.mk b ((m:Int)+4) 0 0).fixed 4=_;unfold RS.fixed;rw[t3]
  have b1:A7 x1:=λy hy=>hb y (by rw[←hx1]at hy;exact mem_of_mem_drop (mem_of_mem_take hy))
  have b3:A7 x3:=λy hy=>hb y (by rw[←hx3]at hy;exact mem_of_mem_drop (mem_of_mem_drop hy))
  have lx1:x1.length=4:=by rw[←hx1,length_take,length_drop];omega
  have eb:=Hi b1;have hr1:=Iw b1;rw[lx1]at hr1;have wi:IntKind.i64.wrap (BM x1)=BM x1:=i64_in _ Om;have e:D0 b=if¬x3=Hq then(0,(14,(b.length:Int)-4))else if¬BM x2=Bq x1 then(0,(6,(b.length:Int)-8))else if(b.length:Int)-12<BM x1 then(0,(3,(b.length:Int)-12))else(BM x1,(0,0)):=by
   unfold D0;rw[if_neg h12,hm',hx1,hx2,hx3]
  refine (mq q ?_).1;refine Aa.n (C9 b) (mp ?_).1;refine Aa.p (EA) (mq w1 ?_).1;refine Aa.u1 (IK (RS.new b) m _ hok.ok) rfl (mq hsk ?_).1;refine Aa.un (Vt ⟨b,(m:Int),0,0⟩ _ k0 (by unfold RS.left;simp only;omega)) rfl ?_;refine (mq hp4 ?_).1;refine Aa.u1 (DH ⟨b.take (m+4),(m:Int),0,0⟩ 4 _ kp.ok) rfl (mq t1 ?_).1;refine Aa.p (HF x1 b1 Om) (mq eb ?_).1;refine Aa.u1 (DF ⟨b,(m:Int),0,0⟩ 4 _ k0) rfl (mq f2 ?_).1;refine Aa.u1 (DF ⟨b,(m:Int)+4,0,0⟩ 4 _ k4) rfl (mq f3 ?_).1;refine Aa.u1 (DH ⟨b,(m:Int)+4+4,0,0⟩ 4 _ k8.ok) rfl (ms t4 @L9 (rH b3) ?_).1;by_cases c1:x3=Hq
  ·have q1:Ca x3 Hq=true:=by rw[c1];exact Po _
   rw[if_neg (by simpa using c1)]at e;by_cases c2:BM x2=Bq x1
   ·have q2:(BM x2 != Bq x1)=false:=Sx c2
    rw[if_neg (by simpa using c2)]at e;by_cases c3:(m:Int)<BM x1
    ·have q3:decide ((m:Int)<BM x1)=true:=decide_eq_true c3;rw[if_pos Om]at e;have em:(b.length:Int)-12=m:=Om
     rw[em]at e;simp only[go_sem,seval,q1,q2,eb,wu,q3];refine (AZ ?_).1;refine Cp (BJ 3 m) ?_
     exact FK fI [] (by simp[e,Cd])
    ·have q3:decide ((m:Int)<BM x1)=false:=decide_eq_false c3;rw[if_neg Om]at e;simp only[go_sem,seval,q1,q2,eb,wu,q3,wi];refine (AZ ?_).1
     exact FE fI [] e
   ·have q2:(BM x2 != Bq x1)=true:=Sx c2
    rw[if_pos c2]at e;simp only[go_sem,seval,q1,eb,q2,w4,w8];refine (AZ ?_).1;refine Cp (BJ 6 _) ?_
    exact FK fI [] (by simp[e,Cd])
  ·have q1:Ca x3 Hq=false:=by simp[Ca,c1]
   rw[if_pos c1]at e;refine (mr q1 w4 ?_).1;refine Cp (BJ 14 _) ?_
   exact FK fI [] (by simp[e,Cd])
def lR (s:RS) (c a:Int):s.fail (Cd c a).1 (Cd c a).2=s.fail c a:=by
 unfold RS.fail Cd;by_cases hs:s.code=0
 ·by_cases h:c=0
  ·simp[h]
  ·simp[h]
 ·simp[hs]
def LU (s:RS) (n:Int) (hs:An s) (n1: -9223372036854775808≤n) (n2:n<9223372036854775808) (hl:s.l.length≤1000000):Ag prog 181 [.ref 0 0,iA n] [A1 s] (Bj .u8 (s.unpk n).2) [A1 ((s.unpk n).1)]:=by
 have⟨h1,h2,h3,h4⟩:=Hf hs 1048576;have⟨u,hu⟩:=Ex ((s.blob 1048576).1);have⟨t,ht⟩:=Ex ((s.blob 1048576).2);have⟨E,hE⟩:=Ex (Ei n (RS.new t) []);have hpl:=N5 hs 1048576;have hfat:=UG (bound:=n) _ (RS.new t) [] (An.new (ht▸h3) (by rw[←ht];omega)) (Fa.new _) (Int.self_le_toNat _);have hun:s.unpk n=if u.code=0 then(if E.2.1=0 then(if(E.1.length:Int)<n then(u.fail 3 u.at_,E.1)else(u,E.1))else(u.fail E.2.1 (E.2.2+(u.at_-t.length)),E.1))else(u,[]):=by
  unfold RS.unpk;rw[hu,ht,hE]
 rw[hE]at hfat;rw[hu]at h1 h2 hpl;rw[ht]at h3 h4 hpl;have tl:(RS.new t).l.length=t.length:=rfl;have ha0:=h1.at0;have ha1:=h1.at1;have eb:(if(1048576:Int)<1048576 then(1048576:Int)else 1048576)=1048576:=by simp
 refine RM func181 nE ?_
 refine Aa.u1 (Qf s 1048576 0 Om hs) rfl (mr hu ht ?_).1;refine Aa.r1 (Ah u 0) rfl ?_;by_cases hc:u.code=0
 ·rw[if_pos hc]at hun;have hp:=hpl hc;have ew:IntKind.i64.wrap (u.at_-(t.length:Int))=u.at_-t.length:=i64_in _ Om;have es:IntKind.i64.wrap (E.2.2+(u.at_-t.length))=E.2.2+(u.at_-t.length):=i64_in _ Om;refine (mq (A5 hc) ?_).1;refine Aa.r1 (AP u 0) rfl (mr @Ab ew ?_).1;refine Aa.p (Rp t n n1 n2 h3 Om) (mq hE ?_).1;by_cases he:E.2.1=0
  ·rw[if_pos he]at hun;have eg:(E.2.1==0)=true:=Sx he
   refine Aa.p (Ap E.2.1 E.2.2) (mr eg @Ab ?_).1;by_cases hl2:(E.1.length:Int)<n
   ·rw[if_pos hl2]at hun;have c1:decide ((E.1.length:Int)<n)=true:=Sx hl2
    refine (mq c1 ?_).1;refine Cr (AP u 0) rfl ?_;refine Cu (Ar u 3 u.at_ 0) rfl ?_
    exact FE nE [0] hun
   ·rw[if_neg hl2]at hun;have c1:decide ((E.1.length:Int)<n)=false:=Sx hl2
    refine (mq c1 ?_).1
    exact FE nE [0] hun
  ·rw[if_neg he]at hun;have eg:(E.2.1==0)=false:=Sx he
   have ef:=lR u E.2.1 (E.2.2+(u.at_-t.length));refine Aa.p (Ap E.2.1 E.2.2) (mq eg ?_).1;refine Cp (Be E.2.1 E.2.2 (u.at_-t.length) _ es) ?_;refine Cu (Ar u _ _ 0) rfl ?_
   exact FF nE [0] hun ef
 ·rw[if_neg hc]at hun;refine (mq (AB hc) ?_).1;refine UT 4 ?_
  exact FE nE [0] hun
def N3 (s:RS) (n:Int) (i:Nat) (hs:An s) (n1: -9223372036854775808≤n) (n2:n<9223372036854775808) (hl:s.l.length≤1000000):Ct prog 181 [.ref i 0,iA n] [(i,A1 s)] (λ_=>Bj .u8 (s.unpk n).2) [(i,A1 ((s.unpk n).1))] (λ_=>[]):=Ct.u1 (LU s n hs n1 n2 hl) i cl (λρ=>AG ρ _) (λρ=>AG ρ _) (rdr_dead _) cl
def tJ {s:RS} (hs:An s):0≤s.bway.2.1∧s.bway.2.1≤1048576∧0≤s.bway.2.2∧s.bway.2.2<256:=by
 have⟨h1,h2⟩:=hs.int 1048576;have h3:=Zf h1.ok h1.bys;have h4:=Er (m:=1048576) hs.bys;exact⟨h4.1,by have:=h4.2;show(s.int 1048576).2≤_;omega,h3⟩
def K4 (s:RS) (hs:An s) (hl:s.l.length≤1000000):Ag prog 159 [.ref 0 0,iA 1048576] [A1 s] (.tup [Bj .u8 s.blkL.2.1,bA s.blkL.2.2]) [A1 (s.blkL.1)]:=by
 have⟨h1,h2⟩:=hs.int 1048576;have⟨k1,k2⟩:=I_ hs;have⟨d1,d2⟩:=Qg hs;have⟨w1,w2,w3,w4⟩:=tJ hs;have hat:=Zn hs;have⟨v,hv⟩:=Ex ((s.int 1048576).1);have⟨n,hn⟩:=Ex ((s.int 1048576).2);have⟨u,hu⟩:=Ex v.byte.1;have⟨y,hy⟩:=Ex v.byte.2;have eb:s.bway=(u,(n,y)):=by unfold RS.bway;rw[hv,hn,hu,hy]
 rw[hv]at h1 h2;rw[eb]at k1 k2 w1 w2 w3 w4;simp only[]at k1 k2 w1 w2 w3 w4;have ed:s.bdat=if u.code=0 then(if y=0 then u.take n else if y=1 then u.unpk n else(u.fail 7 (u.at_-1),[]))else(u,[]):=by unfold RS.bdat;rw[eb]
 have ea:IntKind.i64.wrap (u.at_-1)=u.at_-1:=i64_in _ (by have:=k1.at0;have:=k1.at1;have:=k1.len;omega);have⟨D,hD⟩:=Ex s.bdat;rw[hD]at d1 d2 ed hat;have eL:s.blkL=if D.1.code=0 then(D.1,(D.2,Ca (CW D.2) ((s.l.drop s.at_.toNat).take (D.1.at_-s.at_).toNat)))else(D.1,([],false)):=by unfold RS.blkL;rw[hD]
 have fin:∀(hc:D.1.code=0),Ct prog 182 [Bj .u8 D.2] [] (λ_=>.tup [Bj .u8 (CW D.2),iA 0]) [] (λ_=>[])∧Ct prog 184 [.ref 0 0,iA s.at_] [(0,A1 D.1)] (λ_=>Bj .u8 ((s.l.drop s.at_.toNat).take (D.1.at_-s.at_).toNat)) [] (λ_=>[])∧
  Ct prog 183 [Bj .u8 (CW D.2),Bj .u8 ((s.l.drop s.at_.toNat).take (D.1.at_-s.at_).toNat)] [] (λ_=>bA (Ca (CW D.2) ((s.l.drop s.at_.toNat).take (D.1.at_-s.at_).toNat))) [] (λ_=>[]):=λhc=>by
  have⟨a1,a2,a3,a4⟩:=hat hc;have hsi:=RY D.1 s.at_ 0 d1.ok hs.at0 a2;rw[d2]at hsi;exact⟨Va D.2 a4,hsi,LB _ _ (Ve a4 a3) (λx hx=>hs.bys x (mem_of_mem_drop (mem_of_mem_take hx)))⟩
 have em:(if(1048576:Int)<1048576 then(1048576:Int)else 1048576)=1048576:=by simp
 refine RM func159 Ye ?_
 refine Cr (AP s 0) rfl ?_;refine Aa.u1 (AT s 1048576 0 Om hs.ok hs.bys) rfl (mr hv hn ?_).1;refine Aa.u1 (C1 v 0 h1.ok) rfl (mr hu hy ?_).1;refine Aa.r1 (Ah u 0) rfl ?_;by_cases hc:u.code=0
 ·rw[if_pos hc]at ed;refine (mq (A5 hc) ?_).1;by_cases hy0:y=0
  ·subst hy0;rw[if_pos rfl]at ed;refine (mp ?_).1;refine Aa.u1 (DH u n 0 k1.ok) rfl ?_;simp only[go_sem,seval,←ed];refine (AZ ?_).1;refine Aa.r1 (Ah D.1 0) rfl ?_;by_cases hd:D.1.code=0
   ·rw[if_pos hd]at eL;have⟨f1,f2,f3⟩:=fin hd;refine (mq (A5 hd) ?_).1;refine Cp (f1) ?_;refine Cr (f2) rfl ?_;refine Cp (f3) ?_
    exact FE Ye [0] eL
   ·rw[if_neg hd]at eL;refine (mq (AB hd) ?_).1;refine UT 4 ?_
    exact FE Ye [0] eL
  ·have c0:(y==0)=false:=Sx hy0
   rw[if_neg hy0]at ed;by_cases hy1:y=1
   ·subst hy1;rw[if_pos rfl]at ed;refine (mq c0 ?_).1;refine Aa.u1 (N3 u n 0 k1 Om Om (by rw[k2];exact hl)) rfl ?_;simp only[go_sem,seval,←ed];refine (AZ ?_).1;refine Aa.r1 (Ah D.1 0) rfl ?_;by_cases hd:D.1.code=0
    ·rw[if_pos hd]at eL;have⟨f1,f2,f3⟩:=fin hd;refine (mq (A5 hd) ?_).1;refine Cp (f1) ?_;refine Cr (f2) rfl ?_;refine Cp (f3) ?_
     exact FE Ye [0] eL
    ·rw[if_neg hd]at eL;refine (mq (AB hd) ?_).1;refine UT 4 ?_
     exact FE Ye [0] eL
   ·have c1:(y==1)=false:=Sx hy1
    rw[if_neg hy1]at ed;have e1:D.1=u.fail 7 (u.at_-1):=by rw[ed]
    have hd:¬D.1.code=0:=by rw[e1];unfold RS.fail;rw[if_pos hc];simp[Cd]
    rw[if_neg hd]at eL;refine (mr c0 c1 ?_).1;refine Aa.r1 (AP u 0) rfl (mq ea ?_).1;refine Aa.u1 (Ar u 7 (u.at_-1) 0) rfl ?_;simp only[go_sem,seval,←e1];refine (AZ ?_).1;refine Aa.r1 (Ah D.1 0) rfl (mq (AB hd) ?_).1;refine UT 4 ?_
    exact FE Ye [0] eL
 ·rw[if_neg hc]at ed;refine (mq (AB hc) ?_).1;refine UT 4 ?_
  exact FK Ye [0] (by simp[eL,ed,hc])
def LV (s:RS) (i:Nat) (hs:An s) (hl:s.l.length≤1000000):Ct prog 159 [.ref i 0,iA 1048576] [(i,A1 s)] (λ_=>.tup [Bj .u8 s.blkL.2.1,bA s.blkL.2.2]) [(i,A1 (s.blkL.1))] (λ_=>[]):=Ct.u1 (K4 s hs hl) i cl (λρ=>AG ρ _) (λρ=>AG ρ _) (rdr_dead _) cl
def O0 (s:RS) (w:Bool) (a:Int):Ag prog 160 [bA w,.fn 101 [.ref 0 0] [],iA a] [A1 s] (.tup []) [A1 (if w=true then s else s.fail 12 a)]:=by
 refine RM func160 yQ ?_
 cases w with
 |true=>
  refine (mp ?_).1;exact FA yQ [0]
 |false=>
  refine (mp ?_).1;refine Cu (Ar s 12 a 0) rfl ?_;exact FA yQ [0]
def RB (s:RS) (w:Bool) (a:Int) (i:Nat):Ct prog 160 [bA w,.fn 101 [.ref i 0] [],iA a] [(i,A1 s)] (λ_=>.tup []) [(i,A1 (if w=true then s else s.fail 12 a))] (λ_=>[]):=
 Ct.u1 (O0 s w a) i (λN=>by simp[AH]) (λρ=>AG ρ s) (λρ=>AG ρ _) (rdr_dead s) (λρ=>by simp)
def U_ (s:RS) (hs:An s) (hl:s.l.length≤1000000):Ag prog 114 [.ref 0 0,iA 1048576] [A1 s] (Bj .u8 s.blk.2) [A1 (s.blk.1)]:=by
 have⟨k1,k2⟩:=K6 hs;have hf:s.blkL.2.2=true->s.blkL.1.code=0:=λh=>by
  unfold RS.blkL at h ⊢;split at h
  ·rename_i hc;rw[if_pos hc];exact hc
  ·simp at h
 have⟨D,hD⟩:=Ex s.blkL;have eB:s.blk=if D.2.2=true then(D.1,D.2.1)else(D.1.fail 12 D.1.at_,[]):=by unfold RS.blk;rw[hD]
 rw[hD]at hf;refine RM func114 z9 ?_
 refine Aa.u1 (LV s 0 hs hl) rfl (mq hD ?_).1;refine Cr (AP D.1 0) rfl ?_;refine Cu (RB D.1 D.2.2 D.1.at_ 0) rfl ?_;cases hw:D.2.2 with
 |true=>
  have hc:=hf hw;rw[if_pos hw]at eB;refine (mp ?_).1;refine Aa.r1 (Ah D.1 0) rfl (mq (A5 hc) ?_).1
  exact FE z9 [0] eB
 |false=>
  rw[if_neg (by rw[hw];simp)]at eB;have hc:¬(D.1.fail 12 D.1.at_).code=0:=by
   unfold RS.fail;split
   ·simp[Cd]
   ·rename_i h;exact h
  refine (mp ?_).1;refine Aa.r1 (Ah (D.1.fail 12 D.1.at_) 0) rfl (mq (AB hc) ?_).1;refine UT 4 ?_
  exact FE z9 [0] eB
def X8 (s:RS) (i:Nat) (hs:An s) (hl:s.l.length≤1000000):Ct prog 114 [.ref i 0,iA 1048576] [(i,A1 s)] (λ_=>Bj .u8 s.blk.2) [(i,A1 (s.blk.1))] (λ_=>[]):=Ct.u1 (U_ s hs hl) i cl (λρ=>AG ρ _) (λρ=>AG ρ _) (rdr_dead _) cl
theorem lA (l:List Hh) (x:Hh):H0 (KB l)++[OW ⟨x.1,[]⟩]=H0 (KB (l++[x])):=by simp[KB,H0]
def RD (s:RS) (base:Int) (N:Nat) (b0:0≤base) (bN:base+N≤4611686018427387904) (hs:An s) (hn:s.l.length*32≤100000000000000) (hN:N≤1000):
 Ag prog 157 [.ref 0 0,uA base,iA N] [A1 s] (.tup [Fy (KB ((CS base).many N s []).2),Bj .i64 (Mb ((CS base).many N s []).2)]) [A1 (((CS base).many N s []).1)]:=by
 have hF:=L_ b0;refine RM func157 yR ?_
 refine AA (α:=RS×List Hh) (λa=>.ref 0 0::uA base::.any::.any::.any::.any::.any::.any::.sl (.row 1) 2 (H0 (KB a.2))::.sl (.row 2) 1 (AU .i64 (Mb a.2))::iA (1048576-R_ a.2)::.any::.any::.any::iA N::iA a.2.length::Az (Ay (Ay (Ay [.any])))) (λa=>[A1 a.1,.row 2 a.2.length,.row 1 a.2.length]) ((CS base).On s N) (λa=>N-a.2.length) (s,[]) (EM.On.start hs N)
  (((Wk.row 8 2 rfl (.inr rfl) De).trans (Wk.row 9 1 rfl (.inr rfl) De)).trans (Wk.to Si (by simp[B6,KB,Mb,H0,R_,AU]))) ?_
 rintro⟨t,acc⟩ ho;have h1:=ho.ok;have h2:=ho.l;have h6:=ho.res;have hwf:=ho.wf;have hle:=ho.le;simp only at h1 h2 h6 hwf hle;have hnn:=Mx hwf;refine (mp ?_).1;by_cases hlt:acc.length<N
 ·have q0:decide ((acc.length:Int)<(N:Int))=true:=by simp;omega
  have ei:=Am acc.length Om;have hff:=Q_ (base:=base) (s:=t) (acc:=acc) Om;have eu:IntKind.u64.wrap (acc.length:Int)=acc.length:=u64_in _ Om;have eb:IntKind.u64.wrap (base+acc.length)=base+acc.length:=u64_in _ Om;have hcall:=NO t (base+acc.length) (1048576-R_ acc) 0 Om Om Om h1 (by rw[h2];exact hn);rw[←hff]at hcall;have hnx:((CS base).f t acc).1.code=0->(CS base).On s N (((CS base).f t acc).1,acc++[((CS base).f t acc).2]):=λhc=>ho.next hF hlt hc
  have hnb:¬((CS base).f t acc).1.code=0->(CS base).many N s []=(((CS base).f t acc).1,[]):=λhc=>by
   have:=F1 (F:=CS base) (s:=t) hlt hc;rw[h6]at this;exact this
  have hrd:=hF.read t acc h1 hwf;obtain⟨D,hD⟩:∃D,(CS base).f t acc=D:=⟨_,rfl⟩;rw[hD]at hcall hnx hnb hrd;refine (ms q0 eu eb ?_).1;refine Aa.u1 (hcall) rfl (mp ?_).1;refine Aa.r1 (Ah D.1 0) rfl ?_;by_cases hc:D.1.code=0
  ·have hx:=(hrd hc).2.1;have es:IntKind.i64.wrap (1048576-R_ acc-D.2.2)=1048576-R_ (acc++[D.2]):=by
    have:=hx.sum;have:=hx.sz;rw[gT,i64_in _ Om];omega
   simp only[go_sem,seval,A5 hc,es,ei,Ax,Hw,Ab,NA];refine (AZ ?_).1;(repeat with_reducible refine Sa ?_);refine⟨(D.1,acc++[D.2]),hnx hc,by simp;omega,(Wk.wa 8 (y:=.sl (.row 1) 2 (H0 (KB (acc++[D.2])))) rfl ?_).trans ((Wk.wa 9 (y:=.sl (.row 2) 1 (AU .i64 (Mb (acc++[D.2])))) rfl ?_).trans (Wk.sel [0,1,2] Si rfl Si rfl (by simp[AG]) (by simp[Ch,AD,AH])))⟩
   ·rw[←lA];exact Wa.slS (DG.refl _)
   ·have e:AU .i64 (Mb (acc++[D.2]))=AU .i64 (Mb acc)++[iA D.2.2]:=by simp[Mb,AU]
    rw[e];exact Wa.slS (DG.refl _)
  ·have hm:=hnb hc;refine (mq (AB hc) ?_).1;(refine A2.nilk 6 2 rfl ?_;simp only[set_cons_zero,set_cons_succ]);(refine A2.untag 6 rfl ?_;simp only[DI,set_cons_zero,set_cons_succ];refine A2.untag 7 rfl ?_;simp only[DI,set_cons_zero,set_cons_succ])
   (refine FB yR [0] ?_ ?_<;>first|with_reducible rfl|(simp[hm,KB,Mb,H0];done)|rfl)
 ·have q0:decide ((acc.length:Int)<(N:Int))=false:=by simp;omega
  have el:acc.length=N:=Om
  have hm:(CS base).many N s []=(t,acc):=by rw[←h6,el];simp[EM.many]
  refine (mq q0 ?_).1;(refine A2.untag 6 rfl ?_;simp only[DI,set_cons_zero,set_cons_succ];refine A2.untag 7 rfl ?_;simp only[DI,set_cons_zero,set_cons_succ])
  exact FE yR [0] hm
def Vh (s:RS) (base:Int) (N:Nat) (i:Nat) (b0:0≤base) (bN:base+N≤4611686018427387904) (hs:An s) (hn:s.l.length*32≤100000000000000) (hN:N≤1000):
 Ct prog 157 [.ref i 0,uA base,iA N] [(i,A1 s)] (λ_=>.tup [Fy (KB ((CS base).many N s []).2),Bj .i64 (Mb ((CS base).many N s []).2)]) [(i,A1 (((CS base).many N s []).1))] (λ_=>[]):=Ct.u1 (RD s base N b0 bN hs hn hN) i cl (λρ=>AG ρ _) (λρ=>AG ρ _) (rdr_dead _) cl
def Aal (s:RS) (hs:An s) (hl:s.l.length≤1000000):Ag prog 113 [.ref 1 0] [A1 s,.cells [.ref 0 0]] (Bj .u8 s.blk.2) [A1 s.blk.1,.cells [.ref 0 0]]:=by
 refine RM func113 Adu ?_
 refine Cu (X8 s 0 hs hl) rfl ?_;exact FA Adu [0,1]
def Vi (s:RS) (hs:An s) (hl:s.l.length≤1000000) (i j:Nat) (h:i≠j):Ct prog 113 [.ref j 0] [(i,A1 s),(j,.cells [.ref i 0])] (λ_=>Bj .u8 s.blk.2) [(i,A1 s.blk.1),(j,.cells [.ref i 0])] (λ_=>[]):=
 Ct.u2 (Aal s hs hl) i j h (λN=>by simp[AH]) (λN=>AG _ _) (λN=>by simp[AH]) (λN=>AG _ _) (λN=>by simp[AH]) (rdr_dead _) Si (λρ=>by simp[AI])
structure Blk (f:FuncId) (blk:RS->RS×List Int):Prop where
 ct:∀(s:RS),An s->s.l.length≤1000000->Ct prog f [.ref 1 0] [(0,A1 s),(1,.cells [.ref 0 0])] (λ_=>Bj .u8 (blk s).2) [(0,A1 (blk s).1),(1,.cells [.ref 0 0])] (λ_=>[])
 keep:∀(s:RS),An s->An (blk s).1∧(blk s).1.l=s.l∧(blk s).2.length≤1048576
def Vg (s:RS) (F:FuncId) (blk:RS->RS×List Int) (hB:Blk F blk) (hs:An s) (hl:s.l.length≤1000000):
 Ag prog 112 [.ref 0 0,.fn F [] [.ref 1 0]] [A1 s,.cells [.ref 0 0]] (Fx (s.btch blk).2) [A1 (s.btch blk).1,.cells [.ref 0 0]]:=by
 have⟨a1,a2⟩:=Bz hs Ae;have⟨b1,b2⟩:=Bz a1 Bh;have⟨c1,c2⟩:=b1.int 16;have⟨d1,d2⟩:=Hb hs;have⟨e1,e2⟩:=Jb hs;have⟨i1,i2,i3,i4⟩:=Rz hs;have⟨u,hu⟩:=Ex ((s.epo Ae).1);have⟨ep,hep⟩:=Ex ((s.epo Ae).2);have⟨v,hv⟩:=Ex ((u.epo Bh).1);have⟨ba,hba⟩:=Ex ((u.epo Bh).2);have⟨w,hw⟩:=Ex ((v.int 16).1);have⟨n,hn⟩:=Ex ((v.int 16).2);have eh:s.bthd=(if EQ ba n=true then w else w.fail 3 v.at_,(ep,(ba,n))):=by unfold RS.bthd;rw[hu,hep,hv,hba,hw,hn]
 rw[hu]at a1 a2;rw[hu,hv]at b1 b2;rw[hu,hv,hw]at c1 c2;rw[eh]at i1 i2 i3 i4;simp only[]at i1 i2 i3 i4;obtain⟨N,rfl⟩:∃N:Nat,n=(N:Int):=⟨n.toNat,Om⟩;have⟨H,hH⟩:=Ex ((if EQ ba N=true then w else w.fail 3 v.at_));rw[hH]at eh;rw[eh]at d1 d2;simp only[]at d1 d2;have ef:(if EQ ba N=true then w else w.fail 3 v.at_)=H:=hH;refine RM func112 fG ?_
 refine Aa.u1 (HD s 0 hs) rfl (mr hu hep ?_).1;refine Aa.u1 (Jk u 0 a1) rfl (mr hv hba ?_).1;refine Cr (AP v 0) rfl ?_;refine Aa.u1 (AT v 16 0 De b1.ok b1.bys) rfl (mr hw hn ?_).1;refine Cp (N6 ba N i1 Om) ?_;cases hf:EQ ba N with
 |false=>
  have e1:H=w.fail 3 v.at_:=by rw[←hH,hf];rfl
  have hc:¬H.code=0:=by rw[e1];unfold RS.fail;split;simp[Cd];assumption
  have er:s.btch blk=(H,Cj):=by unfold RS.btch;rw[eh];simp only[];rw[if_neg hc]
  refine (mp ?_).1;refine Aa.u1 (Ar w 3 v.at_ 0) rfl ?_;simp only[go_sem,seval,←e1];refine (AZ ?_).1;refine Aa.r1 (Ah H 0) rfl (mq (AB hc) ?_).1;refine WO 2 [uA 0,uA 0,Fy []] ?_
  exact FK fG [0,1] (by simp[er,Cj,H0])
 |true=>
  have e1:H=w:=by rw[←hH,hf];rfl
  subst e1;refine (mp ?_).1;refine Aa.r1 (Ah H 0) rfl ?_;by_cases hc:H.code=0
  ·have hfi:=GZ.1 hf;have⟨Q,hQ⟩:=Ex ((CS ba).many N H []);have eq:s.bthe=Q:=by unfold RS.bthe;rw[eh];simp only[];rw[Int.toNat_natCast];exact hQ
   rw[eq]at e1 e2;have⟨D,hD⟩:=Ex (blk Q.1);have⟨g1,g2,g3⟩:=hB.keep Q.1 e1;have hct:=hB.ct Q.1 e1 (by rw[e2];exact hl);rw[hD]at g1 g2 g3 hct;have⟨E,hE⟩:=Ex (Fm (KB Q.2) (Mb Q.2) D.2);have hsm:(∀e∈KB Q.2,e.lk.length≤1000000∧∀x∈e.lk,x.bk.length≤1000000)∧(∀n∈Mb Q.2,n<9223372036854775808)∧(KB Q.2).length≤1000000:=by
    have hr:=Y0 i1 d1 hc N;rw[hQ]at hr;have hs2:=PT hr.1;exact⟨hs2.1,λn hn=>by have:=hs2.2 n hn;omega,by rw[Hw];omega⟩
   have eb:s.btch blk=if(if E.2=true then D.1 else D.1.fail 3 Q.1.at_).code=0 then((if E.2=true then D.1 else D.1.fail 3 Q.1.at_),⟨ep,ba,E.1⟩)else((if E.2=true then D.1 else D.1.fail 3 Q.1.at_),Cj):=by
    unfold RS.btch RS.btfi;rw[eh];simp only[];rw[if_pos hc,eq,hD,hE]
   refine (mq (A5 hc) ?_).1;refine Aa.u1 (Vh H ba N 0 i1 Om d1 (by rw[d2];omega) Om) rfl ?_;refine (mq hQ ?_).1;refine Cr (AP Q.1 0) rfl ?_;refine Aa.u2 (hct) rfl rfl (mp ?_).1;refine Aa.p (XT (KB Q.2) (Mb Q.2) D.2 hsm.2.2 Om hsm.1 hsm.2.1) (mq hE ?_).1;cases hdl:E.2 with
   |true=>
    rw[hdl]at eb;simp only[if_true]at eb;refine (mp ?_).1;refine Aa.r1 (Ah D.1 0) rfl ?_;by_cases hd:D.1.code=0
    ·rw[if_pos hd]at eb;refine (mq (A5 hd) ?_).1
     exact FE fG [0,1] eb
    ·rw[if_neg hd]at eb;refine (mq (AB hd) ?_).1;refine WO 2 [uA 0,uA 0,Fy []] ?_
     exact FK fG [0,1] (by simp[eb,Cj,H0])
   |false=>
    rw[hdl]at eb;simp only[Bool.false_eq_true,if_false]at eb;have hd:¬(D.1.fail 3 Q.1.at_).code=0:=by unfold RS.fail;split;simp[Cd];assumption
    rw[if_neg hd]at eb;refine (mp ?_).1;refine Cu (Ar D.1 3 Q.1.at_ 0) rfl ?_;refine Aa.r1 (Ah (D.1.fail 3 Q.1.at_) 0) rfl (mq (AB hd) ?_).1;refine WO 2 [uA 0,uA 0,Fy []] ?_
    exact FK fG [0,1] (by simp[eb,Cj,H0])
  ·have er:s.btch blk=(H,Cj):=by unfold RS.btch;rw[eh];simp only[];rw[if_neg hc]
   refine (mq (AB hc) ?_).1;refine WO 2 [uA 0,uA 0,Fy []] ?_
   exact FK fG [0,1] (by simp[er,Cj,H0])
def mY:Blk 113 RS.blk:=⟨λs hs hl=>Vi s hs hl 0 1 De,λs hs=>⟨(Df hs).1,(Df hs).2,Zk hs⟩⟩
def Vj (s:RS) (hs:An s) (hl:s.l.length≤1000000):Ag prog 69 [.ref 0 0] [A1 s] (Fx (s.btch RS.blk).2) [A1 ((s.btch RS.blk).1)]:=by
 have hct:Ct prog 112 [.ref 0 0,.fn 113 [] [.ref 1 0]] [(0,A1 s),(1,.cells [.ref 0 0])] (λ_=>Fx (s.btch RS.blk).2) [(0,A1 (s.btch RS.blk).1),(1,.cells [.ref 0 0])] (λ_=>[]):=
  Ct.u2 (Vg s _ _ mY hs hl) 0 1 De (λN=>by simp[AH]) (λN=>AG _ _) (λN=>by simp[AH]) (λN=>AG _ _) (λN=>by simp[AH]) (rdr_dead _) Si (λρ=>by simp[Fx])
 refine RM func69 b69 ?_
 refine Aa.u2 (hct) rfl rfl (mp ?_).1;exact FA b69 [0]
def N7 (s:RS) (i:Nat) (hs:An s) (hl:s.l.length≤1000000):Ct prog 69 [.ref i 0] [(i,A1 s)] (λ_=>Fx (s.btch RS.blk).2) [(i,A1 (s.btch RS.blk).1)] (λ_=>[]):=
 Ct.u1 (Vj s hs hl) i Dl (λρ=>AG ρ _) (λρ=>AG ρ _) (rdr_dead s) (λρ=>by simp[Fx])
abbrev fW (m:Mk):AV:=.agg [uA m.pos,iA m.cnt,iA m.at_]
def HY (l:List Mk):List AV:=l.map fW
abbrev HT (l:List Mk):AV:=.sl .none 3 (HY l)
@[simp] theorem QH (ρ:Nat->Nat) (l:List Mk):(HY l).map (λx=>x.ren ρ)=HY l:=by simp[HY,AD]
@[simp] theorem ren_ints_s (ρ:Nat->Nat) (k:IntKind) (l:List Int):(AU k l).map (λx=>x.ren ρ)=AU k l:=AI ρ k l
theorem AX (l:List Mk):(HY l).length=l.length:=by simp[HY]
theorem L3:HY []=[]:=(rfl)
theorem j8 (l:List Mk) (m:Mk):HY l++[fW m]=HY (l++[m]):=by simp[HY]
def Tv (l:List Mk) (k:Nat) (h:k<l.length):(HY l).getD k .any=fW (l.getD k CU):=by simp[HY,h]
def Hp (l:List Mk) (k:Nat) (h:k<l.length):(HY l).getD (k:Int).toNat .any=fW (l.getD k CU):=by
 rw[Int.toNat_natCast];exact Tv l k h
def wI (l:List Mk) (k:Nat) (h:k<l.length):l.getD k CU∈l:=by simp[h]
theorem L4 (l:List Mk) (k:Nat) (h:k<l.length):l.take (k+1)=l.take k++[l.getD k CU]:=by
 rw[take_succ_eq_append_getElem h];simp[h]
def fQ (l:List Mk):Prop:=∀m∈l,m.ok
def Di (m:Mk) (h0:0≤m.pos) (h1:0≤m.cnt) (h2:m.pos+m.cnt<18446744073709551616):Ct prog 67 [fW m] [] (λ_=>uA m.fin) [] (λ_=>[]):=by
 refine Ag.toCt ?_ cl cl
 have e1:IntKind.u64.wrap m.cnt=m.cnt:=u64_in _ Om;have e2:IntKind.u64.wrap (m.pos+m.cnt)=m.fin:=u64_in _ Om;refine RN func67 b67 ?_;refine (mr e1 e2 ?_).1
 exact FA b67 []
def Ns (m:Mk) (pos at_:Int) (hm:m.ok):Ct prog 110 [fW m,uA pos,iA at_] [] (λ_=>bA (decide (m.fits pos at_))) [] (λ_=>[]):=by
 refine Ag.toCt ?_ cl cl
 have⟨m1,m2,m3,m4,m5,m6⟩:=hm;refine RM func110 RI ?_
 by_cases c0:1≤m.cnt
 case neg=>
  have q0:decide (1≤m.cnt)=false:=Sx c0
  have hno:decide (m.fits pos at_)=false:=by(rw[decide_eq_false_iff_not];rintro⟨f1,f2,f3,f4,f5,f6⟩;first|(simp only[Mk.fin]at*;omega)|omega)
  refine (mq q0 ?_).1
  exact FE RI [] hno
 have q0:decide (1≤m.cnt)=true:=Sx c0
 by_cases c1:m.cnt≤16
 case neg=>
  have q1:decide (m.cnt≤16)=false:=Sx c1
  have hno:decide (m.fits pos at_)=false:=by(rw[decide_eq_false_iff_not];rintro⟨f1,f2,f3,f4,f5,f6⟩;first|(simp only[Mk.fin]at*;omega)|omega)
  refine (mr q0 q1 ?_).1
  exact FE RI [] hno
 have q1:decide (m.cnt≤16)=true:=Sx c1
 by_cases c2:pos≤m.pos
 case neg=>
  have q2:decide (pos≤m.pos)=false:=Sx c2
  have hno:decide (m.fits pos at_)=false:=by(rw[decide_eq_false_iff_not];rintro⟨f1,f2,f3,f4,f5,f6⟩;first|(simp only[Mk.fin]at*;omega)|omega)
  refine (ms q0 q1 q2 ?_).1
  exact FE RI [] hno
 have q2:decide (pos≤m.pos)=true:=Sx c2
 by_cases c3:m.pos<4611686018427387904
 case neg=>
  have q3:decide (m.pos<4611686018427387904)=false:=Sx c3
  have hno:decide (m.fits pos at_)=false:=by(rw[decide_eq_false_iff_not];rintro⟨f1,f2,f3,f4,f5,f6⟩;first|(simp only[Mk.fin]at*;omega)|omega)
  refine (mt q0 q1 q2 q3 ?_).1
  exact FE RI [] hno
 have q3:decide (m.pos<4611686018427387904)=true:=Sx c3
 by_cases c4:m.fin≤4611686018427387904
 case neg=>
  have q4:decide (m.fin≤4611686018427387904)=false:=Sx c4
  have hno:decide (m.fits pos at_)=false:=by(rw[decide_eq_false_iff_not];rintro⟨f1,f2,f3,f4,f5,f6⟩;first|(simp only[Mk.fin]at*;omega)|omega)
  refine (mt q0 q1 q2 q3 ?_).1;refine Aa.p (Di m m1 Om Om) (mq q4 ?_).1
  exact FE RI [] hno
 have q4:decide (m.fin≤4611686018427387904)=true:=Sx c4
 by_cases c5:at_<m.at_
 case neg=>
  have q5:decide (at_<m.at_)=false:=Sx c5
  have hno:decide (m.fits pos at_)=false:=by(rw[decide_eq_false_iff_not];rintro⟨f1,f2,f3,f4,f5,f6⟩;first|(simp only[Mk.fin]at*;omega)|omega)
  refine (mt q0 q1 q2 q3 ?_).1;refine Aa.p (Di m m1 Om Om) (mr q4 q5 ?_).1
  exact FE RI [] hno
 have q5:decide (at_<m.at_)=true:=Sx c5
 by_cases c6:m.at_≤1099511627775
 case neg=>
  have q6:decide (m.at_≤1099511627775)=false:=Sx c6
  have hno:decide (m.fits pos at_)=false:=by(rw[decide_eq_false_iff_not];rintro⟨f1,f2,f3,f4,f5,f6⟩;first|(simp only[Mk.fin]at*;omega)|omega)
  refine (mt q0 q1 q2 q3 ?_).1;refine Aa.p (Di m m1 Om Om) (ms q4 q5 q6 ?_).1
  exact FE RI [] hno
 have q6:decide (m.at_≤1099511627775)=true:=Sx c6
 have hyes:decide (m.fits pos at_)=true:=by rw[decide_eq_true_eq];simp only[Mk.fin]at*;exact⟨Om,Om,Om,Om,Om,Om⟩
 refine (mt q0 q1 q2 q3 ?_).1;refine Aa.p (Di m m1 Om Om) (ms q4 q5 q6 ?_).1
 exact FE RI [] hyes
def Y5 {m:Mk} {pos at_:Int} (h:m.fits pos at_) (h0:0≤pos):0≤m.pos∧1≤m.cnt∧m.cnt≤16∧m.pos+m.cnt≤4611686018427387904:=by
 have⟨a,b,c,d,e,f⟩:=h;omega
def Q8 (l:List Mk) (hl:fQ l) (hn:l.length≤140737488355328):Ag prog 66 [HT l] [] (bA (AR l)) []:=by
 refine RN func66 b66 ?_;refine (mq @AX ?_).1
 refine AA (α:=Nat) (λk=>HT l::.any::.any::uA (AF (l.take k)).fin::iA (AF (l.take k)).at_::.any::.any::HT l::iA l.length::iA k::Az []) (λ_=>[]) (λk=>k≤l.length∧Wf Ii [] (l.take k)) (λk=>l.length-k) 0 ⟨Si,trivial⟩ (Wk.to Si (by simp[B6,AF,CU,Mk.fin])) ?_;rintro k ⟨hk,hw⟩;have hlast:=FN hw;refine (mp ?_).1;refine AK (λh=>?_) (λh=>?_)
 ·have hlt:k<l.length:=Sx h
  have g:=Hp l k hlt;have hx:=hl _ (wI l k hlt);have ei:=Am k Om;obtain⟨x,hxe⟩:∃x,l.getD k CU=x:=⟨_,rfl⟩;have ht:=L4 l k hlt;rw[hxe]at g hx ht;refine (mr g @AX ?_).1;(repeat with_reducible refine Sa ?_);refine Aa.p (Ns x _ _ hx) ?_;by_cases hf:x.fits (AF (l.take k)).fin (AF (l.take k)).at_
  ·have q:decide (x.fits (AF (l.take k)).fin (AF (l.take k)).at_)=true:=Sx hf
   have⟨f1,f2,f3,f4⟩:=Y5 hf hlast.1;refine (mq q ?_).1;refine Aa.p (Di x f1 Om Om) (mq ei ?_).1;refine⟨k+1,⟨hlt,?_⟩,Om,Wk.sel [] Si rfl Si rfl Si ?_⟩
   ·rw[ht];exact D8.2 ⟨hw,(show Ii ([]++List.take k l) x from hf)⟩
   ·rw[ht];simp[Ch,AD,EZ]
  ·have q:decide (x.fits (AF (l.take k)).fin (AF (l.take k)).at_)=false:=Sx hf
   have hno:AR l=false:=Z8 hlt (by rw[hxe];exact hf);refine (mq q ?_).1
   exact FE b66 [] hno
 ·have ek:k=l.length:=by simp at h;omega
  subst ek;rw[take_length]at hw;have hr:AR l=decide ((l.length:Int)≤16):=by
   rw[Bool.eq_iff_iff,Bd,decide_eq_true_eq];exact⟨λh=>by have:=h.2;omega,λh=>⟨hw,Om⟩⟩
  refine (mq @AX ?_).1
  exact FE b66 [] hr
theorem Fh (l:List Mk) (hl:fQ l) (hn:l.length≤140737488355328):Ct Tryz.prog 66 [HT l] [] (λ_=>bA (AR l)) [] (λ_=>[]):=(Q8 l hl hn).toCt cl cl
def GL (l m:List Mk):Bool:=decide (l=m)
theorem uV (x y:Mk):((x.pos==y.pos)&&((x.cnt==y.cnt)&&(x.at_==y.at_)))=decide (x=y):=by
 rw[Bool.eq_iff_iff];cases x;cases y;simp
def MB (a b:List Mk) (ha:a.length≤140737488355328):Ag prog 176 [HT a,HT b] [] (bA (GL a b)) []:=by
 refine RN func176 tY ?_;refine (mq @AX ?_).1
 refine AK (λh=>?_) (λh=>?_)
 ·have hne:GL a b=false:=by unfold GL;simp at h ⊢;intro e;subst e;exact h rfl
  refine (mp ?_).1
  exact FE tY [] hne
 ·have hlen:a.length=b.length:=by have h':(a.length:Int)=b.length:=Sx h
                                  omega
  refine (mq @AX ?_).1;refine AA (α:=Nat) (λk=>HT a::HT b::Ay (Ay (.any::.any::iA a.length::iA k::Ay (Ay (Ay []))))) (λ_=>[]) (λk=>k≤a.length∧a.take k=b.take k) (λk=>a.length-k) 0 ⟨Si,Si⟩ (Wk.to Si (by simp[B6])) ?_;rintro k ⟨hk,ht⟩;refine (mp ?_).1;refine AK (λh=>?_) (λh=>?_)
  ·have hlt:k<a.length:=Sx h
   have g1:=Hp a k hlt;have g2:=Hp b k Om;have ei:=Am k Om;obtain⟨x,hx⟩:∃x,a.getD k CU=x:=⟨_,rfl⟩;obtain⟨y,hy⟩:∃y,b.getD k CU=y:=⟨_,rfl⟩;rw[hx]at g1;rw[hy]at g2;refine (ms g1 g2 @AX ?_).1;(repeat with_reducible refine Sa ?_);by_cases he:x=y
   ·have q:decide (x=y)=true:=Sx he
    refine (ms @uV q ei ?_).1;refine⟨k+1,⟨hlt,?_⟩,Om,Wk.to Si (by simp[B6])⟩;rw[L4 a k hlt,L4 b k Om,ht,hx,hy,he]
   ·have q:decide (x=y)=false:=Sx he
    have hne:GL a b=false:=by unfold GL;simp only[decide_eq_false_iff_not];rintro rfl;exact he (hx.symm.trans hy)
    refine (mr @uV q ?_).1
    exact FE tY [] hne
  ·have hk':k=a.length:=by simp at h;omega
   have he:GL a b=true:=by
    unfold GL;rw[hk',take_length,take_of_length_le Om]at ht;simpa using ht
   refine (mp ?_).1
   exact FE tY [] he
theorem Oo (a b:List Mk) (ha:a.length≤140737488355328):Ct Tryz.prog 176 [HT a,HT b] [] (λ_=>bA (GL a b)) [] (λ_=>[]):=(MB a b ha).toCt cl cl
def Xg (a b:List Mk) (ha:a.length≤140737488355328):Ct prog 149 [HT a,HT b] [] (λ_=>bA (GL a b)) [] (λ_=>[]):=by
 refine Ag.toCt ?_ cl cl
 refine RM func149 Adc ?_
 refine Cp (Oo a b ha) ?_;exact FA Adc []
def WS.marks (s:WS) (l:List Mk):WS:=if AR l=true then(s.put (vb l.length)).puts (BL GT [] l)else s.fail 3
def WF (s:WS) (l:List Mk) (k:Nat) (x:Mk) (ht:l.take (k+1)=l.take k++[x]):((((s.puts (BL GT [] (l.take k))).put (vb (x.pos-(AF (l.take k)).fin))).put (vb x.cnt)).put (vb (x.at_-(AF (l.take k)).at_-1)))=s.puts (BL GT [] (l.take (k+1))):=by
 rw[ht,G_,S8];simp[GT,WS.puts]
theorem Xh (s:WS) (l:List Mk) (hs:s.fine) (hl:fQ l) (hn:l.length≤140737488355328):Ag prog 87 [.ref 0 0,HT l] [B5 1 s,AQ s] (.tup []) [B5 1 (s.marks l),AQ (s.marks l)]:=by
 have e:=FI l Om;refine RM func87 b87 ?_
 refine Aa.p (Fh l hl hn) ?_;cases hf:AR l
 ·refine (mq hf ?_).1;refine Aa.u2 (Cq s 3 0 1 De) rfl rfl (mp ?_).1
  (refine FB b87 [0,1] ?_ ?_<;>first|with_reducible rfl|(simp[WS.marks,hf];done)|rfl)
 ·have⟨hwf,h16⟩:=Bd.1 hf;refine (ms hf @AX e ?_).1;refine Aa.u2 (Bm s l.length 0 1 De Om Om hs.ok (hs.room _)) rfl rfl (mq @AX ?_).1;refine AA (α:=Nat) (λk=>.ref 0 0::.any::.any::.any::uA (AF (l.take k)).fin::iA (AF (l.take k)).at_::Ay (Ay (Ay (HT l::iA l.length::iA k::Az (Ay (Ay [.any,.any,.any])))))) (λk=>[B5 1 ((s.put (vb l.length)).puts (BL GT [] (l.take k))),AQ ((s.put (vb l.length)).puts (BL GT [] (l.take k)))]) (λk=>k≤l.length) (λk=>l.length-k) 0 Si (Wk.to (by simp[WS.puts,BL]) (by simp[B6,AF,CU,Mk.fin])) ?_;intro k hk;refine (mp ?_).1;refine AK (λh=>?_) (λh=>?_)
  ·have hlt:k<l.length:=Sx h
   have g:=Hp l k hlt;have ei:=Am k Om;obtain⟨x,hxe⟩:∃x,l.getD k CU=x:=⟨_,rfl⟩;have ht:=L4 l k hlt;have hlast:=FN (IM k hwf);have hnx:=Fq k hlt hwf;have h3:l[k]=x:=by rw[←hxe];simp[hlt]
   rw[h3,nil_append]at hnx;rw[hxe]at g ht;have hnx':x.fits (AF (l.take k)).fin (AF (l.take k)).at_:=hnx;have⟨f1,f2,f3,f4,f5,f6⟩:=hnx';have st:=WF (s.put (vb l.length)) l k x ht;have hlx:AF (l.take (k+1))=x:=by rw[ht,EZ]
   have e1:IntKind.u64.wrap (x.pos-(AF (l.take k)).fin)=x.pos-(AF (l.take k)).fin:=u64_in _ Om;have e2:IntKind.u64.wrap x.cnt=x.cnt:=u64_in _ Om;have e3:IntKind.i64.wrap (x.at_-(AF (l.take k)).at_)=x.at_-(AF (l.take k)).at_:=i64_in _ Om;have e4:IntKind.i64.wrap (x.at_-(AF (l.take k)).at_-1)=x.at_-(AF (l.take k)).at_-1:=i64_in _ Om;have e5:IntKind.u64.wrap (x.at_-(AF (l.take k)).at_-1)=x.at_-(AF (l.take k)).at_-1:=u64_in _ Om;have hp:=(hs.put (vb l.length)).puts (BL GT [] (l.take k));refine (ms g @AX e1 ?_).1;(repeat with_reducible refine Sa ?_);refine Aa.u2 (Bm _ (x.pos-(AF (l.take k)).fin) 0 1 De Om Om hp.ok (hp.room _)) rfl rfl (mq e2 ?_).1;refine Aa.u2 (Bm _ x.cnt 0 1 De Om Om (hp.put _).ok ((hp.put _).room _)) rfl rfl (ms e3 e4 e5 ?_).1;refine Aa.u2 (Bm _ (x.at_-(AF (l.take k)).at_-1) 0 1 De Om Om ((hp.put _).put _).ok (((hp.put _).put _).room _)) rfl rfl (mq st ?_).1;refine Aa.p (Di x Om Om Om) (mq ei ?_).1;exact⟨k+1,hlt,Om,Wk.sel [0,1] Si rfl Si rfl (by simp[IL,wrow_ren,AH]) (by simp only[hlx];simp[Ch,AD])⟩
  ·have ek:k=l.length:=by simp at h;omega
   refine (mp ?_).1
   (refine FB b87 [0,1] ?_ ?_<;>first|with_reducible rfl|(simp[WS.marks,hf,ek];done)|rfl)
def cP (s:WS) (l:List Mk) (i j:Nat) (h:i≠j) (hs:s.fine) (hl:fQ l) (hn:l.length≤140737488355328):Ct prog 87 [.ref i 0,HT l] [(i,B5 j s),(j,AQ s)] (λ_=>.tup []) [(i,B5 j (s.marks l)),(j,AQ (s.marks l))] (λ_=>[]):=Ct.u2 (Xh s l hs hl hn) i j h cl cl cl cl cl (Bu _ _) (Bi _) Dl
theorem aI {s:WS} {l:List Mk} (h:s.code=0) (hf:AR l=true) (hm:(s.l.length:Int)+(AJ l).length≤s.most):s.marks l=⟨s.most,s.l++AJ l,0⟩:=by
 unfold AJ at hm ⊢;rw[length_append,←KE]at hm;unfold WS.marks;have e1:s.put (vb (l.length:Int))=⟨s.most,s.l++vb l.length,0⟩:=by
  rw[WS.put_ok h Om];cases s;simp at h;simp[h]
 rw[if_pos hf,e1,MW rfl _ (by simp only[length_append];omega),←KE];simp
def WG {l:List Mk} (hf:AR l=true):(AJ l).length≤490:=by
 have:=C7 l;have:=(Bd.1 hf).2;omega
def TA (l:List Mk):List Int:=if AR l=true then AJ l else[]
def Uc (l:List Mk) (hl:fQ l) (hn:l.length≤140737488355328):Ct prog 52 [HT l] [] (λ_=>.tup [Bj .u8 (TA l),iA (if AR l=true then 0 else 3)]) [] (λ_=>[]):=by
 refine Ag.toCt ?_ cl cl
 have f1:(WS.new 1024).fine:=WS.fine.new De;refine RM func52 b52 ?_
 refine Aa.n (E6 1024) (mp ?_).1;refine Aa.u2 (cP (WS.new 1024) l _ _ De f1 hl hn) rfl rfl ?_;cases hf:AR l
 ·have hw:(WS.new 1024).marks l=⟨1024,[],3⟩:=by unfold WS.marks;rw[hf];rfl
  refine (mq hw ?_).1;refine Aa.r2 (B0 _ _ _ De De) rfl rfl (mp ?_).1
  exact FK b52 [] (by simp[hf,TA,WS.bytes])
 ·have hr:=WG hf;have hw:(WS.new 1024).marks l=⟨1024,AJ l,0⟩:=by rw[WS.new_is Om,aI rfl hf (by simp only[length_nil];omega)];simp only[nil_append]
  refine (mq hw ?_).1;refine Aa.r2 (B0 _ _ _ De (by simp only;omega)) rfl rfl ?_;refine (mp ?_).1
  exact FK b52 [] (by simp[hf,TA,WS.bytes])
end Go.Proofs.YtaajkppmibfgfaaGreat
