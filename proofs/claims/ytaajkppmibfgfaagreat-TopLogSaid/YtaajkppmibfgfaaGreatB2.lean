/- Lemmas for TopLog, part 2. -/
import Derived.Test.YtaajkppmibfgfaaGreatB1
import Derived.Test.YtaajkppmibfgfaaGreatProg
import Derived.KernelRfl
import Derived.Test.YtaajkppmibfgfaaGreatRows
set_option linter.all false
set_option maxRecDepth 100000
set_option maxHeartbeats 4000000
universe u v
namespace Go.Proofs.YtaajkppmibfgfaaGreat
open Go.RowKit List IntWalk Go.Proofs.Tryz
def Fa (s:RS):Prop:=0≤s.fat∧s.fat≤s.l.length
theorem Fa.new (l:List Int):Fa (RS.new l):=⟨Int.le_refl _,by show(0:Int)≤_;omega⟩
theorem Fa.fail {s:RS} (h:Fa s) {c a:Int} (a0:0≤a) (a1:a≤s.l.length):Fa (s.fail c a):=by
 unfold RS.fail;split
 ·unfold Cd;split
  ·exact⟨Int.le_refl _,by show(0:Int)≤_;omega⟩
  ·exact⟨a0,a1⟩
 ·exact h
theorem Fa.skip {s:RS} (h:Fa s) (hs:An s) (n:Int):Fa (s.skip n).1:=by
 have h0:=hs.at0;have h1:=hs.at1;unfold RS.skip
 repeat' split
 ·exact h.fail h0 h1
 ·exact h.fail Om Om
 ·exact h
 ·exact h
theorem Fa.take {s:RS} (h:Fa s) (hs:An s) (n:Int):Fa (s.take n).1:=by
 unfold RS.take;split<;>exact h.skip hs n
def vG:∀(l:List Int) (n:Int),n≤(Cs n l).2.1:=by
 intro l
 induction l with
 |nil=>intro n;unfold Cs;exact Int.le_refl _
 |cons c t ih=>
  intro n;unfold Cs
  repeat' split
  ·exact Int.le_refl _
  ·exact Int.le_refl _
  ·show n≤n+1;omega
  ·have:=ih (n+1);show n≤(Cs (n+1) t).2.1;omega
  ·have:=ih (n+1);show n≤(Cs (n+1) t).2.1;omega
theorem Fa.vint {s:RS} (h:Fa s) (hs:An s):Fa s.vint.1:=by
 have hk:=hs.vint.1;have h0:=hs.at0;have hg:=vG s.rest 0;unfold RS.vint at hk ⊢;by_cases hc:s.code=0
 ·rw[if_pos hc]at hk ⊢;by_cases hv:(Cs 0 s.rest).1=0
  ·rw[if_pos hv];exact h
  ·rw[if_neg hv]at hk ⊢;by_cases h1:(Cs 0 s.rest).1=1
   ·rw[if_pos h1];exact⟨by show(0:Int)≤(s.l.length:Int);omega,Int.le_refl _⟩
   ·rw[if_neg h1]at hk ⊢;have:=hk.at1;simp only at this;exact⟨by show 0≤s.at_+(Cs 0 s.rest).2.1;omega,by show s.at_+(Cs 0 s.rest).2.1≤(s.l.length:Int);omega⟩
 ·rw[if_neg hc];exact h
theorem Fa.int {s:RS} (h:Fa s) (hs:An s) (m:Int):Fa (s.int m).1:=by
 have hv:=h.vint hs;have hl:=hs.vint.2;have h0:=hs.at0;have h1:=hs.at1;have hf:Fa (s.vint.1.fail 2 s.at_):=hv.fail h0 (by rw[hl];exact h1);unfold RS.int RS.most
 repeat' split
 ·exact hf
 ·exact hv
 ·exact hf
theorem Fa.blob {s:RS} (h:Fa s) (hs:An s) (m:Int):Fa (s.blob m).1:=(h.int hs m).take (hs.int m).1 _
theorem Fa.frame {s:RS} (h:Fa s) (hs:An s) (m:Int):Fa (s.frame m).1:=by
 have hb:=h.blob hs (CN m);have⟨kb,lb⟩:=RS.ok.blob hs (CN m);have hf:Fa ((s.blob (CN m)).1.fixed 4).1:=hb.take kb 4;have⟨kf,lf⟩:=Hy kb 4;unfold RS.frame
 repeat' split
 ·exact hf
 ·exact hf.fail kb.at0 (by rw[lf];exact kb.at1)
 ·exact hf
theorem Fa.epo {s:RS} (h:Fa s) (hs:An s) (ok:Int->Bool):Fa (s.epo ok).1:=by
 have hv:=h.vint hs;have hl:=hs.vint.2;unfold RS.epo
 repeat' split
 ·exact hv
 ·exact hv.fail hs.at0 (by rw[hl];exact hs.at1)
 ·exact hv
theorem Fa.foot {p:List Int} (hp:A7 p) (hn:p.length≤140737488355328):Fa (RS.new p).foot.1∧(RS.new p).foot.1.l=p:=by
 have h0:An (RS.new p):=An.new hp hn;have f0:=Fa.new p;have⟨k1,l1⟩:=JI h0;have f1:Fa (RS.new p).fkind:=by
  have ft:=f0.take h0 1;unfold RS.fkind;split
  ·exact ft.fail (Int.le_refl _) Om
  ·exact ft
 have⟨k2,l2⟩:=NE k1;have f2:Fa (RS.new p).fkind.fnums.1:=by
  unfold RS.fnums;simp only;have⟨a,_⟩:=Bz k1 Ae;have fa:=f1.epo k1 Ae;have⟨b,_⟩:=a.int 65536;have fb:=fa.int a 65536;have⟨c,_⟩:=b.int 65536;have fc:=fb.int b 65536;have⟨d,_⟩:=c.vint;have fd:=fc.vint c;have⟨e,_⟩:=d.vint;have fe:=fd.vint d;have⟨g,_⟩:=e.int 1099511627776;have fg:=fe.int e 1099511627776;exact fg.int g 1099511627776
 have f3:Fa ((RS.new p).fkind.fnums.1.fcheck (RS.new p).fkind.fnums.2)∧((RS.new p).fkind.fnums.1.fcheck (RS.new p).fkind.fnums.2).l=p∧((RS.new p).fkind.fnums.1.fcheck (RS.new p).fkind.fnums.2).at_=(RS.new p).fkind.fnums.1.at_:=by
  unfold RS.fcheck;split
  ·exact⟨f2,l2.trans l1,rfl⟩
  ·exact⟨f2.fail (Int.le_refl _) Om,by rw[Bx];exact l2.trans l1,Y9 _ _ _⟩
 have hat0:=k2.at0;have hat1:=k2.at1;rw[l2,l1]at hat1;have e1:(RS.new p).l=p:=rfl;rw[e1]at hat1;unfold RS.foot RS.rest9;simp only;split
 ·exact⟨f3.1.fail (by rw[f3.2.2];exact hat0) (by rw[f3.2.2,f3.2.1];exact hat1),by rw[Bx];exact f3.2.1⟩
 ·exact⟨f3.1,f3.2.1⟩
def Ju {p:List Int} (hp:A7 p) (hn:p.length≤140737488355328):0≤(BX p).2.2∧(BX p).2.2≤p.length:=by
 have⟨f,l⟩:=Fa.foot hp hn;unfold BX;split
 ·exact⟨Int.le_refl _,by show(0:Int)≤_;omega⟩
 ·have:=f.2;rw[l]at this;exact⟨f.1,this⟩
instance:DecidableEq En:=λa b=>decidable_of_iff (a.lk=b.lk∧a.data=b.data) ⟨λ⟨h1,h2⟩=>by cases a;cases b;simp only at h1 h2;rw[h1,h2],λh=>by subst h;exact⟨rfl,rfl⟩⟩
structure Bt where
 ep:Int
 base:Int
 en:List En
 deriving DecidableEq
def Cj:Bt:=⟨0,0,[]⟩
structure Bt.ok (b:Bt):Prop where
 e0:0≤b.ep
 e1:b.ep<18446744073709551616
 b0:0≤b.base
 b1:b.base<18446744073709551616
 en:oD b.en
def Bts (l:List Bt):Prop:=∀b∈l,b.ok
def QC (l:List Lk):Bool:=l.all λx=>decide (x.bk.length≤1)
def pS (b:Bt):Bool:=b.en.all λe=>QC e.lk
def EQ (base n:Int):Bool:=decide (1≤n∧n≤16)&&Lx base n
theorem GZ {base n:Int}:EQ base n=true↔(1≤n∧n≤16)∧base<4611686018427387904∧base+n≤4611686018427387904:=by simp[EQ,dE]
def Bw (b:Bt):Bool:=Ae b.ep&&EQ b.base b.en.length&&decide ((Ak b.en).length≤1048576)&&(List.range b.en.length).all λi=>Cw (b.base+i) (b.en.getD i B3)
def BW {b:Bt}:Bw b=true↔(1≤b.ep∧b.ep<4611686018427387904)∧((1≤b.en.length∧b.en.length≤16)∧b.base<4611686018427387904∧b.base+b.en.length≤4611686018427387904)∧(Ak b.en).length≤1048576∧∀i,i<b.en.length->Cw (b.base+i) (b.en.getD i B3)=true:=by
 have e:((1:Int)≤(b.en.length:Int)∧(b.en.length:Int)≤16)↔(1≤b.en.length∧b.en.length≤16):=Om
 unfold Bw;simp only[Bool.and_eq_true,decide_eq_true_eq,BS,GZ,all_eq_true,mem_range,and_assoc];constructor
 ·rintro⟨a,b,c,d,e,f,g,h⟩;exact⟨a,b,Om,Om,e,f,g,h⟩
 ·rintro⟨a,b,c,d,e,f,g,h⟩;exact⟨a,b,Om,Om,e,f,g,h⟩
theorem sU (l:List En) (k:Nat) (h:k<l.length):l.take (k+1)=l.take k++[l.getD k B3]:=by
 rw[take_succ_eq_append_getElem h];simp[h]
def Ru (l:List En) (k:Nat) (h:k<l.length):l.getD k B3∈l:=by simp[h]
def Xe (l:List En) (k:Nat) (h:k<l.length):(Ak (l.take (k+1))).length=(Ak (l.take k)).length+(l.getD k B3).data.length:=by rw[sU l k h,Np,length_append]
def RS.lsing (s:RS) (pos:Int):RS:=if(s.links pos).1.code=0∧QC (s.links pos).2=false then(s.links pos).1.fail 3 s.at_ else(s.links pos).1
structure Ab0 (base:Int) (acc:List En) (e:En):Prop where
 lk:Oe e.lk
 rt:BH (base+acc.length) e.lk=true
 sg:QC e.lk=true
 data:A7 e.data
 sum:((Ak acc).length:Int)+e.data.length≤1048576
 pos:base+acc.length<4611686018427387904
def sR (base:Int):EM En:=⟨λs acc=>if base+acc.length<4611686018427387904 then(((s.lsing (base+acc.length)).blob (1048576-(Ak acc).length)).1,⟨(s.links (base+acc.length)).2,((s.lsing (base+acc.length)).blob (1048576-(Ak acc).length)).2⟩)else(s.fail 3 0,B3),
 λacc e=>Cn (base+acc.length) e.lk++Dd e.data,λacc e=>Ab0 base acc e⟩
def WJ {s:RS} (h:An s) {pos:Int} (p0:0≤pos) (p1:pos<18446744073709551616):An (s.lsing pos)∧(s.lsing pos).l=s.l:=by
 have⟨a,b⟩:=EY h p0 p1;unfold RS.lsing;split
 ·exact⟨a.fail _ _,by rw[Bx];exact b⟩
 ·exact⟨a,b⟩
def plB (b:Bt):List Int:=vb b.ep++(vb b.base++(vb b.en.length++BL (sR b.base).enc [] b.en))
def RS.ents (s:RS) (base:Int):RS×List En:=(sR base).many (s.cnt base 1 16).2.toNat (s.cnt base 1 16).1 []
def RS.unpl (s:RS):RS×Bt:=((((s.epo Ae).1.epo Bh).1.ents ((s.epo Ae).1.epo Bh).2).1.rest9,⟨(s.epo Ae).2,((s.epo Ae).1.epo Bh).2,(((s.epo Ae).1.epo Bh).1.ents ((s.epo Ae).1.epo Bh).2).2⟩)
def d9 {s:RS} (h:An s) (ok:Int->Bool):0≤(s.epo ok).2∧(s.epo ok).2<18446744073709551616:=by
 by_cases hc:(s.epo ok).1.code=0
 ·have⟨_,a,b,_⟩:=JL h hc;exact⟨a,b⟩
 ·rw[Zb hc];exact⟨De,De⟩
theorem Fa.many {β:Type} {F:EM β} (hF:∀s acc,Fa s->An s->Fa (F.f s acc).1∧An (F.f s acc).1):∀(N:Nat) (s:RS) (acc:List β),Fa s->An s->Fa (F.many N s acc).1∧An (F.many N s acc).1:=by
 intro N
 induction N with
 |zero=>intro s acc h k;exact⟨h,k⟩
 |succ N ih=>
  intro s acc h k;have⟨a,b⟩:=hF s acc h k;simp only[EM.many];split
  ·exact ih _ _ a b
  ·exact⟨a,b⟩
theorem Fa.at {s:RS} (h:Fa s) (hs:An s) {c:Int} {t:RS} (hl:t.l=s.l) (ht:An t):Fa (s.fail c t.at_):=h.fail ht.at0 (by rw[←hl];exact ht.at1)
theorem Fa.fall {s:RS} (h:Fa s) (hs:An s) (b m:Int):Fa (s.fall b m).1:=by
 refine(Fa.many (F:=Dp b) (λs acc h hs=>?_) _ _ _ (h.int hs m) (hs.int m).1).1;simp only[Dp];have hv:=hs.vint;split
 ·exact⟨(h.vint hs).at hv.1 hv.2.symm hs,hv.1.fail _ _⟩
 ·exact⟨h.vint hs,hv.1⟩
theorem Fa.links {s:RS} (h:Fa s) (hs:An s) {pos:Int} (p1:pos<18446744073709551616):Fa (s.links pos).1:=by
 refine(Fa.many (F:=CR pos) (λs acc h hs=>?_) _ _ _ (h.int hs 16) (hs.int 16).1).1;simp only[CR];have hv:=hs.vint;have hh:Fa (s.lkHead acc)∧An (s.lkHead acc):=by
  unfold RS.lkHead;split
  ·exact⟨(h.vint hs).at hv.1 hv.2.symm hs,hv.1.fail _ _⟩
  ·exact⟨h.vint hs,hv.1⟩
 exact⟨hh.1.fall hh.2 pos 4,(P1 hh.2 p1 4).1⟩
theorem Fa.cnt {s:RS} (h:Fa s) (hs:An s) (base least most:Int):Fa (s.cnt base least most).1:=by
 have hi:=hs.int most;unfold RS.cnt;split
 ·exact(h.int hs most).at hi.1 hi.2.symm hs
 ·exact h.int hs most
theorem Fa.lsing {s:RS} (h:Fa s) (hs:An s) {pos:Int} (p0:0≤pos) (p1:pos<18446744073709551616):Fa (s.lsing pos):=by
 have hk:=EY hs p0 p1;unfold RS.lsing;split
 ·exact(h.links hs p1).at hk.1 hk.2.symm hs
 ·exact h.links hs p1
theorem Fa.rest9 {s:RS} (h:Fa s) (hs:An s):Fa s.rest9:=by
 unfold RS.rest9;split
 ·exact h.at hs rfl hs
 ·exact h
theorem Fa.ents {s:RS} (h:Fa s) (hs:An s) {base:Int} (b0:0≤base):Fa (s.ents base).1∧An (s.ents base).1:=by
 have hc:=mI hs base 1 16;refine Fa.many (F:=sR base) (λs acc h hs=>?_) (s.cnt base 1 16).2.toNat (s.cnt base 1 16).1 [] (h.cnt hs base 1 16) hc.1;simp only[sR];split
 ·rename_i hp;have k:=WJ hs (pos:=base+acc.length) Om Om;exact⟨Fa.blob (Fa.lsing h hs Om Om) k.1 _,(RS.ok.blob k.1 _).1⟩
 ·exact⟨h.fail (Int.le_refl 0) Om,hs.fail _ _⟩
theorem Fa.unpl {s:RS} (h:Fa s) (hs:An s):Fa s.unpl.1:=by
 have⟨a,b⟩:=Bz hs Ae;have⟨c,d⟩:=Bz a Bh;have f4:=((h.epo hs Ae).epo a Bh).ents c (d9 a Bh).1;exact f4.1.rest9 f4.2
structure GH where
 ep:Int
 bt:List Bt
 deriving DecidableEq
def BQ (acc:List Bt):Bt:=acc.getD (acc.length-1) Cj
def Aba (ep:Int) (acc:List Bt) (b:Bt):Bool:=decide (b.ep≤ep)&&(decide (acc.length=0)||(decide ((BQ acc).ep≤b.ep)&&decide ((BQ acc).base+(BQ acc).en.length≤b.base)))
def RS.bat (s:RS) (ep:Int) (acc:List Bt):RS×Bt:=
 if(s.frame 2097152).1.code=0 then
  (if(RS.new (s.frame 2097152).2).unpl.1.code=0 then
    (if Aba ep acc (RS.new (s.frame 2097152).2).unpl.2=true then((s.frame 2097152).1,(RS.new (s.frame 2097152).2).unpl.2)else((s.frame 2097152).1.fail 13 s.at_,(RS.new (s.frame 2097152).2).unpl.2))
  else((s.frame 2097152).1.fail (RS.new (s.frame 2097152).2).unpl.1.code ((s.frame 2097152).1.at_-4-(s.frame 2097152).2.length+(RS.new (s.frame 2097152).2).unpl.1.fat),(RS.new (s.frame 2097152).2).unpl.2))
 else((s.frame 2097152).1,Cj)
structure Acj (ep:Int) (acc:List Bt) (b:Bt):Prop where
 ok:b.ok
 rt:Bw b=true
 sg:pS b=true
 may:Aba ep acc b=true
def Ack (ep:Int):EM Bt:=⟨λs acc=>s.bat ep acc,λ_ b=>Ad (plB b),λacc b=>Acj ep acc b⟩
theorem Zi (l:List Bt) (k:Nat) (h:k<l.length):l.take (k+1)=l.take k++[l.getD k Cj]:=by
 rw[take_succ_eq_append_getElem h];simp[h]
def b3:Is prog f3 (zq [zY 0 2,zV zf 4] (.seq (zq [zN 2 2 18,zC 4 [18] 19] (zc 19 (zq [zC 5 [] 20,zM 20 4] .ret))) (zq [zF 0 2 21,zL 21 22,zD [zu,zn] [(0,(1,.tmp 22))] 23,zX [zu,zn] 5,zS 2 5 23] (zq [zV zn 6] (.seq (zq [zV zi 7] (.block 0 (.loop (.seq (zq [zM 7 24,zF 1 2 25,zL 25 26,zU 26 27,zB .lss 24 27 28] (.cond (.tmp 28) .skip (.exit 0))) (.seq (.block 1 (zq [zF 1 2 32,zL 32 33,zM 7 34,zJ 3 33 34 35,zN 3 35 36,zM 6 37,zC 6 [36,37] 38,zM 38 31,zE 31 0 39,zE 31 1 40,zE 31 2 41,zX [zu,zu,zn] 8,zS 3 8 39,zM 40 9,zM 41 10] (.seq (zq [zM 10 42,zI .neq 42 0 43] (zc 43 (zq [zC 5 [] 44,zM 44 4] .ret))) (zq [zF 1 5 45,zL 45 46,zN 3 8 47,zW (.bsl 3 [.tmp 47]) 48,zP 3 40 46 48 49,zF 1 5 50,zS 1 50 49] (.reg [zM 9 51,zM 51 6] []))))) (.reg [zM 7 29,zI .add 29 1 30,zM 30 7] [])))))) (zq [zN 2 5 53,zC 7 [53] 54,zM 54 52,zE 52 0 55,zE 52 1 56,zM 55 11,zM 56 12] (.seq (zq [zM 12 57,zI .neq 57 0 58] (zc 58 (zq [zC 5 [] 59,zM 59 4] .ret))) (zq [zC 8 [] 60,zM 60 13] (zq [zV zn 14] (.seq (zq [zM 11 61,zM 1 62,zC 9 [61,62] 63,zU 63 64,zV zi 65] (.block 2 (.loop (zq [zB .lss 65 64 66] (.seq (.cond (.tmp 66) .skip (.exit 2)) (.seq (.block 3 (zq [zJ 1 63 65 67,zL 67 68,zM 68 16] (.reg [zM 14 69,zM 13 70,zM 16 71,zC 10 [70,71] 72,zP 20 240 69 72 73,zM 73 14] []))) (.reg [zI .add 65 1 74,zM 74 65] []))))))) (zq [zM 14 75,zM 13 76,zC 11 [76] 77,zP 20 240 75 77 78,zM 78 14] (.seq (zq [zM 14 79,zU 79 80,zF 1 5 81,zL 81 82,zU 82 83,zI .add 83 1 84,zB .neq 80 84 85,zM 85 86,zZ 86 (zM 14 87),zZ 86 (zF 1 5 88),zZ 86 (zL 88 89),zZ 86 (zU 89 90),zZ 86 (zJ 20 87 90 91),zZ 86 (zF 0 91 92),zZ 86 (zL 92 93),zZ 86 (zI .neq 93 2 94),zO 86 94 95] (zc 95 (zq [zV zf 4] .ret))) (.seq (zq [zV zi 17] (.block 4 (.loop (.seq (zq [zM 17 96,zF 1 5 97,zL 97 98,zU 98 99,zB .lss 96 99 100] (.cond (.tmp 100) .skip (.exit 4))) (.seq (.block 5 (.seq (.reg [zM 14 103,zM 17 104,zJ 20 103 104 105,zF 17 105 106,zN 3 106 107,zF 1 5 108,zL 108 109,zM 17 110,zJ 3 109 110 111,zN 3 111 112,zC 12 [107,112] 113,zQ 113 114,zM 114 115,zZ 115 (zM 11 116),zZ 115 (zF 1 5 117),zZ 115 (zL 117 118),zZ 115 (zM 17 119),zZ 115 (zJ 3 118 119 120),zZ 115 (zN 3 120 121),zZ 115 (zC 13 [116,121] 122),(.some (115,.false),(.un .not (.tmp 122),.some 123)),zO 115 123 124] [(4,6),(4,9)]) (zc 124 (zq [zV zf 4] .ret)))) (.reg [zM 17 101,zI .add 101 1 102,zM 102 17] [])))))) (zq [zC 5 [] 125,zM 125 4] .ret)))))))))))))) [.tmp 4] 126:=ki
def b7:Is prog f7 (zq [zY 0 1,zV zn 2,zV zi 3] (.seq (zq [zN 2 1 4,zC 22 [4] 5,zQ 5 6] (zc 6 (zq [zV zn 2,zV (.int .i64 3) 3] .ret))) (zq [zN 2 1 7,zC 23 [7] 8,zW (.fld 0 none (.tmp 8)) 9,zM 9 2,zV zi 3] .ret))) [.tmp 2,.tmp 3] 10:=ki
def b8:Is prog f8 (zq [zV (.pointer none) 0] (zq [zD [.nilFunc,zn,zi,zi,zi,zu,zu,zu,zn,zn,zu,zi,zi,zu,zu,zi,zi,zi,zn] [(0,(1,.func 24))] 1,zY 1 2,zM 2 0] .ret)) [.tmp 0] 3:=ki
def b10:Is prog f10 (zq [zV zn 4] (.seq (zq [zM 0 7,zW (.eqp .false (.tmp 7) (.const (.pointer none))) 8] (zc 8 (zq [zV zn 4] .ret))) (zq [zM 0 9,zH 9 10,zF 18 10 11,(none,(.store 1 (.tmp 11) (.const (.slice none 0 0)),none))] (.seq (zq [zV zi 5] (.block 0 (.loop (.seq (zq [zM 5 12,zM 1 13,zU 13 14,zB .lss 12 14 15,zM 15 16,zT 16 (zM 0 17),zT 16 (zC 25 [17] 18),zA 16 18 19] (.cond (.tmp 19) .skip (.exit 0))) (.seq (.block 1 (.reg [zM 0 22,zM 1 23,zM 5 24,zJ 1 23 24 25,zL 25 26,zC 26 [22,26] 27] [])) (.reg [zM 5 20,zI .add 20 1 21,zM 21 5] [])))))) (zq [zM 0 28,zH 28 29,zF 18 29 30,zL 30 31,zM 31 6] (zq [zM 0 32,zH 32 33,zF 18 33 34,(none,(.store 1 (.tmp 34) (.const (.slice none 0 0)),none))] (zq [zM 6 35,zM 35 4] .ret))))))) [.tmp 4] 36:=ki
def b11:Is prog f11 (zq [zV zn 2] (.seq (zq [zM 0 4,zC 25 [4] 5,zQ 5 6] (zc 6 (zq [zV zn 2] .ret))) (zq [zM 0 7,zH 7 8,zF 3 8 9,zL 9 10,zD [zi,zi,zi,zi,zu,zu,zu,zi,zi,zn,zn,zn,zu,zu,zu,zu,zn,zu,zu,zn] [(0,(1,zk 3)),(1,(1,.tmp 10)),(2,(1,zk 1))] 11,zX [zi,zi,zi,zi,zu,zu,zu,zi,zi,zn,zn,zn,zu,zu,zu,zu,zn,zu,zu,zn] 3,zS 20 3 11] (.seq (zq [zM 0 12,zC 27 [12] 13] (zc 13 (.reg [zF 0 3 14,(none,(.store 1 (.tmp 14) (zk 2),none)),zF 2 3 15,(none,(.store 1 (.tmp 15) (zk 0),none))] []))) (zq [zM 0 16,zM 0 17,zF 0 3 18,zL 18 19,zH 16 20,zF 4 20 21,zS 1 21 19,zH 17 22,zF 1 22 23,(none,(.store 1 (.tmp 23) (.const (.slice none 0 0)),none))] (zq [zN 20 3 24,zW (.bsl 20 [.tmp 24]) 25,zM 25 2] .ret)))))) [.tmp 2] 26:=ki
def b17:Is prog f17 (zq [zY 0 1,zV zf 2] (.seq (zq [zF 0 1 5,zL 5 6,zC 37 [6] 7,zQ 7 8,zM 8 9,zZ 9 (zF 1 1 10),zZ 9 (zL 10 11),zZ 9 (zF 2 1 12),zZ 9 (zL 12 13),zZ 9 (zU 13 14),zZ 9 (zC 38 [11,14] 15),(.some (9,.false),(.un .not (.tmp 15),.some 16)),zO 9 16 17,zM 17 18,zZ 18 (zF 2 1 19),zZ 18 (zL 19 20),zZ 18 (zC 39 [20] 21),zZ 18 (zI .gtr 21 1048576 22),zO 18 22 23] (zc 23 (zq [zV zf 2] .ret))) (.seq (zq [zF 2 1 24,zL 24 25,zU 25 26,zV zi 27] (.block 0 (.loop (zq [zB .lss 27 26 28] (.seq (.cond (.tmp 28) .skip (.exit 0)) (.seq (.block 1 (zq [zM 27 29,zJ 2 25 27 30,zN 2 30 31,zX [zn,zn] 4,zM 29 3,zS 2 4 31] (zq [zF 1 1 32,zL 32 33,zM 3 34,zK .u64 34 35,zB .add 33 35 36,zN 2 4 37,zC 40 [36,37] 38,zQ 38 39] (zc 39 (zq [zV zf 2] .ret))))) (.reg [zI .add 27 1 40,zM 40 27] []))))))) (zq [zV zt 2] .ret)))) [.tmp 2] 41:=ki
def b21:Is prog f21 (zq [zV zn 2] (zq [zV zn 3] (.seq (zq [zM 0 6,zU 6 7,zV zi 8] (.block 0 (.loop (zq [zB .lss 8 7 9] (.seq (.cond (.tmp 9) .skip (.exit 0)) (.seq (.block 1 (zq [zJ 2 6 8 10,zN 2 10 11,zX [zu,zn] 5,zS 2 5 11] (.reg [zM 3 12,zN 2 5 13,zC 47 [13] 14,zW (.bsl 2 [.tmp 14]) 15,zP 2 32 12 15 16,zM 16 3] []))) (.reg [zI .add 8 1 17,zM 17 8] []))))))) (zq [zM 3 18,zM 18 2] .ret)))) [.tmp 2] 19:=ki
def b22:Is prog f22 (zq [zY 0 1,zV zf 2] (.seq (zq [zF 0 1 5,zL 5 6,zC 37 [6] 7,zQ 7 8,zM 8 9,zZ 9 (zF 1 1 10),zZ 9 (zL 10 11),zZ 9 (zU 11 12),zZ 9 (zI .gtr 12 16 13),zO 9 13 14] (zc 14 (zq [zV zf 2] .ret))) (.seq (zq [zF 1 1 15,zL 15 16,zU 16 17,zV zi 18] (.block 0 (.loop (zq [zB .lss 18 17 19] (.seq (.cond (.tmp 19) .skip (.exit 0)) (.seq (.block 1 (zq [zM 18 20,zJ 3 16 18 21,zN 3 21 22,zX [zu,zu,zn] 4,zM 20 3,zS 3 4 22] (.seq (.reg [zN 3 4 23,zC 17 [23] 24,zQ 24 25,zM 25 26,zZ 26 (zF 0 1 27),zZ 26 (zL 27 28),zZ 26 (zF 1 1 29),zZ 26 (zL 29 30),zZ 26 (zM 3 31),(.some (26,.false),(.slice 3 (.tmp 30) none (.some (.tmp 31)) none,.some 32)),(.some (26,.false),(.build [zu,zn] [(0,(1,.tmp 28)),(1,(1,.tmp 32))],.some 33)),zZ 26 (zN 3 4 34),zZ 26 (zC 48 [33,34] 35),(.some (26,.false),(.un .not (.tmp 35),.some 36)),zO 26 36 37] [(5,7),(5,11),(7,11)]) (zc 37 (zq [zV zf 2] .ret))))) (.reg [zI .add 18 1 38,zM 38 18] []))))))) (zq [zV zt 2] .ret)))) [.tmp 2] 39:=ki
def b25:Is prog f25 (zq [zV zf 2] (zq [zM 0 3,zW (.eqp .true (.tmp 3) (.const (.pointer none))) 4,zM 4 5,zT 5 (zM 0 6),(.some (5,.true),(.nilc (.tmp 6),.some 7)),zT 5 (zF 0 7 8),zT 5 (zL 8 9),(.some (5,.true),(.eqf .true (.tmp 9) (.const .nilFunc),.some 10)),zA 5 10 11,zM 11 12,zT 12 (zM 0 13),(.some (12,.true),(.nilc (.tmp 13),.some 14)),zT 12 (zF 4 14 15),zT 12 (zL 15 16),zT 12 (zI .eql 16 0 17),zA 12 17 18,zM 18 2] .ret)) [.tmp 2] 19:=ki
def b26:Is prog f26 (zq [zM 0 6,zM 0 7,zH 7 8,zF 1 8 9,zL 9 10,zM 1 11,zW (.bsl 1 [.tmp 11]) 12,zP 1 1 10 12 13,zH 6 14,zF 1 14 15,zS 1 15 13] (zq [zM 0 16,zH 16 17,zF 3 17 18,zL 18 19,zI .add 19 1 20,zH 16 21,zF 3 21 22,zS 1 22 20] (zq [zM 0 24,zH 24 25,zF 0 25 26,zL 26 27,zM 0 28,zW (.call (.tmp 27) [.tmp 28]) 29,zM 29 23,zE 23 0 30,zE 23 1 31,zX [zi,zi] 5,zM 30 4,zS 2 5 31] (.block 0 (zq [zN 2 5 33,zC 32 [33] 34,zQ 34 35,zM 35 32] (.cond (.tmp 32) (.seq (.reg [zN 2 5 36,zM 0 37,zH 37 38,zF 2 38 39,zL 39 40,zC 57 [36,40] 41,zS 2 5 41] [(0,4)]) (.seq (.reg [zM 0 42,zM 0 43,zH 43 44,zF 18 44 45,zL 45 46,zF 1 5 47,zL 47 48,zF 0 5 49,zL 49 50,zD [zi,zi,zi,zi,zu,zu,zu,zi,zi,zn,zn,zn,zu,zu,zu,zu,zn,zu,zu,zn] [(0,(1,zk 4)),(1,(1,.tmp 48)),(2,(1,.tmp 50))] 51,zW (.bsl 20 [.tmp 51]) 52,zP 20 240 46 52 53,zH 42 54,zF 18 54 55,zS 1 55 53] [(4,6),(4,8),(6,8)]) (.reg [zM 0 56,zM 0 57,zH 56 58,zF 4 58 59,(none,(.store 1 (.tmp 59) (zk 4),none)),zH 57 60,zF 1 60 61,(none,(.store 1 (.tmp 61) (.const (.slice none 0 0)),none))] []))) (zq [zM 4 63,zM 63 62] (zc 62 (.reg [zM 0 64,zM 0 65,zM 0 66,zH 66 67,zF 3 67 68,zL 68 69,zH 64 70,zF 2 70 71,zS 1 71 69,zH 65 72,zF 1 72 73,(none,(.store 1 (.tmp 73) (.const (.slice none 0 0)),none))] []))))))))) [] 74:=ki
def b29:Is prog f29 (zq [zY 0 2,zY 1 3,zV zf 4] (zq [zF 0 2 5,zL 5 6,zF 0 3 7,zL 7 8,zC 59 [6,8] 9,zM 9 10,zT 10 (zF 1 2 11),zT 10 (zL 11 12),zT 10 (zF 1 3 13),zT 10 (zL 13 14),zT 10 (zC 60 [12,14] 15),zA 10 15 16,zM 16 4] .ret)) [.tmp 4] 17:=ki
def b32:Is prog f32 (zq [zY 0 1,zV zf 2] (zq [zF 0 1 3,zL 3 4,zI .eql 4 0 5,zM 5 2] .ret)) [.tmp 2] 6:=ki
def b36:Is prog f36 (zq [zY 0 2,zX [zn,zn] 4,zV zf 5] (.seq (zq [zN 3 2 6,zC 70 [6] 7,zQ 7 8,zM 8 9,zZ 9 (zM 1 10),zZ 9 (zF 1 2 11),zZ 9 (zL 11 12),zZ 9 (zB .lss 10 12 13),zO 9 13 14,zM 14 15,zZ 15 (zM 1 16),zZ 15 (zN 3 2 17),zZ 15 (zC 71 [17] 18),zZ 15 (zB .geq 16 18 19),zO 15 19 20] (zc 20 (zq [zD [zn,zn] [] 21,zS 2 4 21,zV zf 5] .ret))) (zq [zF 2 2 22,zL 22 23,zM 1 24,zF 1 2 25,zL 25 26,zB .sub 24 26 27,zJ 2 23 27 28,zN 2 28 29,zC 72 [29] 30,zS 2 4 30,zV zt 5] .ret))) [.cell 4 (.some 2),.tmp 5] 31:=ki
def b38:Is prog f38 (zq [zV zf 4] (zq [zM 1 5,zI .geq 5 1 6,zM 6 7,zT 7 (zM 1 8),zT 7 (zI .leq 8 16 9),zA 7 9 10,zM 10 11,zT 11 (zM 0 12),zT 11 (zC 73 [12] 13),zA 11 13 14,zM 14 15,zT 15 (zM 0 16),zT 15 (zM 1 17),(.some (15,.true),(.cvt .u64 (.tmp 17),.some 18)),zT 15 (zB .add 16 18 19),(.some (15,.true),(.bin .leq (.tmp 19) (.const (.int .u64 4611686018427387904)),.some 20)),zA 15 20 21,zM 21 4] .ret)) [.tmp 4] 22:=ki
def b45:Is prog f45 (zq [zY 1 3,zV zn 4] (zq [zM 0 7,zC 21 [7] 8,zM 8 5] (zq [zN 2 3 9,zC 47 [9] 10,zS 2 3 10] (.seq (zq [zM 5 11,zW (.mkf 77 [] [.tmp 3]) 12,zC 75 [11,12] 13,zM 13 6] (zq [zM 6 14,zM 5 15,zU 15 16,zB .lss 14 16 17] (zc 17 (zq [zM 5 18,zM 6 19,zN 2 3 20,zJ 2 18 19 21,zS 2 21 20] (zq [zM 5 22,zM 22 4] .ret))))) (.seq (.reg [zM 5 23,zM 5 24,zW (.mkf 79 [] [.tmp 3]) 25,zC 75 [24,25] 26,zN 2 3 27,zW (.bsl 2 [.tmp 27]) 28,zC 78 [23,26,28] 29,zM 29 4] [(3,4)]) .ret))))) [.tmp 4] 30:=ki
def b48:Is prog f48 (zq [zY 0 2,zY 1 3,zV zf 4] (.seq (zq [zF 0 3 6,zL 6 7,zF 0 2 8,zL 8 9,zB .gtr 7 9 10] (zc 10 (zq [zV zf 4] .ret))) (zq [zF 1 2 11,zL 11 12,zU 12 13,zM 13 5] (.seq (.reg [zM 5 14,zI .eql 14 0 15,zM 15 16,zZ 16 (zF 0 3 17),zZ 16 (zL 17 18),zZ 16 (zF 1 2 19),zZ 16 (zL 19 20),zZ 16 (zM 5 21),zZ 16 (zI .sub 21 1 22),zZ 16 (zJ 3 20 22 23),zZ 16 (zF 0 23 24),zZ 16 (zL 24 25),zZ 16 (zB .geq 18 25 26),zZ 16 (zM 26 27),zT 27 (zF 1 3 28),zT 27 (zL 28 29),zT 27 (zF 1 2 30),zT 27 (zL 30 31),zT 27 (zM 5 32),zT 27 (zI .sub 32 1 33),zT 27 (zJ 3 31 33 34),zT 27 (zN 3 34 35),zT 27 (zC 71 [35] 36),zT 27 (zB .geq 29 36 37),(.some (16,.false),(.pick (.tmp 27) (.tmp 37) (.const (.bool .false)),.some 38)),zO 16 38 39,zM 39 4] [(4,6),(4,11),(15,17),(15,21),(15,22)]) .ret)))) [.tmp 4] 40:=ki
def b49:Is prog f49 (zq [zY 0 1,zV zn 2,zV zi 3] (zq [zC 81 [] 5,zC 80 [5] 6,zM 6 4] (zq [zM 4 7,zN 3 1 8,zC 82 [7,8] 9] (zq [zM 4 10,zC 83 [10] 11,zE 11 0 12,zE 11 1 13,zM 12 2,zM 13 3] .ret)))) [.tmp 2,.tmp 3] 14:=ki
def b51:Is prog f51 (zq [zV zn 4] (zq [zM 0 8,zW (.bsl 1 [.tmp 8]) 9,zM 1 10,zP 1 1 9 10 11,zC 86 [11] 12,zM 12 7,zE 7 0 13,zE 7 1 14,zM 13 5,zM 14 6] (zq [zM 5 15,zM 15 4] .ret))) [.tmp 4] 16:=ki
def b55:Is prog f55 (zq [zX [zi,zu,zu] 2,zV zi 3,zX [zi,zi] 4] (zq [zM 0 7,zC 92 [7] 8,zM 8 5] (zq [zM 5 9,zC 93 [9] 10,zX [zi,zu,zu] 6,zS 3 6 10] (.seq (zq [zN 3 6 11,zD [zi,zu,zu] [] 12,zW (.eqa .false 3 (.tmp 11) (.tmp 12)) 13] (zc 13 (.seq (.reg [zN 3 6 14,zM 5 15,zC 94 [15] 16,zS 3 2 14,zV zi 3,zS 2 4 16] [(0,2)]) .ret))) (.seq (.reg [zN 3 6 17,zM 5 18,zC 95 [18] 19,zD [zi,zi] [] 20,zS 3 2 17,zM 19 3,zS 2 4 20] [(0,2)]) .ret))))) [.cell 2 (.some 3),.tmp 3,.cell 4 (.some 2)] 21:=ki
def b60:Is prog f60 (zq [zV zf 4] (zq [zM 0 5,zW (.b2s (.tmp 5)) 6,zM 1 7,zW (.b2s (.tmp 7)) 8,zB .eql 6 8 9,zM 9 4] .ret)) [.tmp 4] 10:=ki
def b70:Is prog f70 (zq [zY 0 1,zV zf 2] (.seq (.reg [zN 3 1 3,zC 71 [3] 4,zF 1 1 5,zL 5 6,zB .geq 4 6 7,zM 7 2] [(0,3),(1,3)]) .ret)) [.tmp 2] 8:=ki
def b72:Is prog f72 (zq [zY 0 1,zX [zn,zn] 2] (.seq (.reg [zF 0 1 3,zL 3 4,zC 21 [4] 5,zW (.bsl 1 []) 6,zF 1 1 7,zL 7 8,zP 1 1 6 8 9,zD [zn,zn] [(0,(1,.tmp 5)),(1,(1,.tmp 9))] 10,zS 2 2 10] [(1,5),(2,5)]) .ret)) [.cell 2 (.some 2)] 11:=ki
def b80:Is prog f80 (zq [zV (.pointer none) 2] (zq [zM 0 3,zW (.mx .true (.tmp 3) (zk 0)) 4,zD [zi,zn,zi] [(0,(1,.tmp 4))] 5,zY 5 6,zM 6 2] .ret)) [.tmp 2] 7:=ki
def b82:Is prog f82 (zq [zY 1 3] (.seq (zq [zN 3 3 5,zC 122 [5] 6,zQ 6 7] (zc 7 (zq [zM 0 8,zR 123 [.tmp 8,zk 3] 9] .ret))) (zq [zN 3 3 10,zC 124 [10] 11,zM 11 4] (zq [zM 0 12,zM 4 13,zC 125 [12,13] 14] (.reg [zM 0 15,zM 4 16,zC 127 [16] 17,zK .u64 17 18,zR 126 [.tmp 15,.tmp 18,zk 4] 19] []))))) [] 20:=ki
def b88:Is prog f88 (zq [zV zi 2] (zq [zV zi 3] (.seq (zq [zM 0 6,zC 66 [6] 7,zQ 7 8] (zc 8 (zq [zV zi 2] .ret))) (.seq (zq [zM 0 9,zU 9 10,zV zi 11] (.block 0 (.loop (zq [zB .lss 11 10 12] (.seq (.cond (.tmp 12) .skip (.exit 0)) (.seq (.block 1 (zq [zJ 3 9 11 13,zN 3 13 14,zX [zu,zi,zi] 5,zS 3 5 14] (.reg [zM 3 15,zF 1 5 16,zL 16 17,zB .add 15 17 18,zM 18 3] []))) (.reg [zI .add 11 1 19,zM 19 11] []))))))) (zq [zM 3 20,zM 20 2] .ret))))) [.tmp 2] 21:=ki
def b95:Is prog f95 (zq [zV zi 2] (.seq (zq [zM 0 3,zW (.eqp .false (.tmp 3) (.const (.pointer none))) 4] (zc 4 (zq [zV zi 2] .ret))) (zq [zM 0 5,zH 5 6,zF 1 6 7,zL 7 8,zM 8 2] .ret))) [.tmp 2] 9:=ki
def b96:Is prog f96 (zq [zV zn 2,zV zi 3,zV zf 4,zX [zi,zi] 5] (zq [zM 0 12,zH 12 13,zF 1 13 14,zL 14 15,zR 147 [.tmp 15,zk 2097152] 16,zM 16 11,zE 11 0 17,zE 11 1 18,zM 17 6,zM 18 7] (.seq (zq [zM 7 19,zM 19 20,zT 20 (zM 0 21),(.some (20,.true),(.nilc (.tmp 21),.some 22)),zT 20 (zF 1 22 23),zT 20 (zL 23 24),zT 20 (zU 24 25),zT 20 (zM 6 26),zT 20 (zB .lss 25 26 27),zA 20 27 28] (zc 28 (zq [zD [zi,zi] [] 29,zV zn 2,zV zi 3,zV zf 4,zS 2 5 29] .ret))) (zq [zM 0 31,zH 31 32,zF 1 32 33,zL 33 34,zR 105 [.tmp 34,zk 2097152] 35,zM 35 30,zE 30 0 36,zE 30 1 37,zE 30 2 38,zX [zi,zi] 10,zM 36 8,zM 37 9,zS 2 10 38] (.seq (zq [zF 0 10 39,zL 39 40,zI .eql 40 1 41] (zc 41 (zq [zD [zi,zi] [] 42,zV zn 2,zV zi 3,zV zf 4,zS 2 5 42] .ret))) (.seq (.reg [zM 8 43,zM 9 44,zI .sub 44 4 45,zM 8 46,zU 46 47,zB .sub 45 47 48,zN 2 10 49,zC 32 [49] 50,zN 2 10 51,zM 43 2,zM 48 3,zM 50 4,zS 2 5 51] [(6,8),(7,8)]) .ret)))))) [.tmp 2,.tmp 3,.tmp 4,.cell 5 (.some 2)] 52:=ki
def RJ:Is prog f106 (zq [zX [zu,zi,zi,zu,zu,zi,zi] 2,zX [zi,zi] 3] (zq [zM 0 7,zC 92 [7] 8,zM 8 4] (.seq (zq [zM 4 9,zC 98 [9] 10,zW (.bin .neq (.tmp 10) (.const (.int .u8 3))) 11] (zc 11 (.reg [zM 4 12,zR 101 [.tmp 12,zk 7,zk 0] 13] []))) (zq [zM 4 14,zC 143 [14] 15,zD [zu,zi,zi,zu,zu,zi,zi] [(0,(1,.tmp 15))] 16,zX [zu,zi,zi,zu,zu,zi,zi] 5,zS 7 5 16] (zq [zM 4 17,zR 108 [.tmp 17,zk 65536] 18,zM 4 19,zR 108 [.tmp 19,zk 65536] 20,zF 1 5 21,zS 1 21 18,zF 2 5 22,zS 1 22 20] (zq [zM 4 23,zC 109 [23] 24,zM 4 25,zC 109 [25] 26,zF 3 5 27,zS 1 27 24,zF 4 5 28,zS 1 28 26] (zq [zM 4 29,zR 108 [.tmp 29,zk 1099511627776] 30,zM 4 31,zR 108 [.tmp 31,zk 1099511627776] 32,zF 5 5 33,zS 1 33 30,zF 6 5 34,zS 1 34 32] (.seq (zq [zN 7 5 35,zC 139 [35] 36,zQ 36 37] (zc 37 (.reg [zM 4 38,zR 101 [.tmp 38,zk 3,zk 0] 39] []))) (zq [zM 4 40,zC 107 [40] 41] (.seq (zq [zM 4 42,zC 94 [42] 43,zX [zi,zi] 6,zS 2 6 43] (zq [zN 2 6 44,zC 32 [44] 45,zQ 45 46] (zc 46 (.seq (.reg [zD [zu,zi,zi,zu,zu,zi,zi] [] 47,zN 2 6 48,zS 7 2 47,zS 2 3 48] [(1,2)]) .ret)))) (zq [zN 7 5 49,zD [zi,zi] [] 50,zS 7 2 49,zS 2 3 50] .ret))))))))))) [.cell 2 (.some 7),.cell 3 (.some 2)] 51:=ki
def Aab:Is prog f107 (zq [zM 0 2,zC 155 [2] 3,zI .gtr 3 0 4] (zc 4 (.reg [zM 0 5,zM 0 6,zH 6 7,zF 1 7 8,zL 8 9,zR 101 [.tmp 5,zk 9,.tmp 9] 10] []))) [] 11:=ki
def fH:Is prog f109 (zq [zV zu 2] (.scope (zq [zV zu 3] (zq [zV (.int .u8 0) 4] (zq [zM 0 7,zC 95 [7] 8,zV zi 5,zM 8 6] (.seq (.label 0) (zq [zM 0 9,zC 98 [9] 10,zM 10 4] (.seq (.block 0 (zq [zM 0 12,zC 111 [12] 13,zQ 13 14,zM 14 11] (.cond (.tmp 11) (zq [zV zu 2] .ret) (zq [zM 5 16,zI .eql 16 63 17,zM 17 18,zT 18 (zM 4 19),(.some (18,.true),(.bin .gtr (.tmp 19) (.const (.int .u8 1)),.some 20)),zA 18 20 21,zM 21 15] (.cond (.tmp 15) (zq [zM 0 22,zM 0 23,zC 95 [23] 24,zI .sub 24 1 25,zR 101 [.tmp 22,zk 5,.tmp 25] 26] (zq [zV zu 2] .ret)) (zq [zM 4 28,zW (.bin .eql (.tmp 28) (.const (.int .u8 0))) 29,zM 29 30,zT 30 (zM 0 31),zT 30 (zC 95 [31] 32),zT 30 (zI .sub 32 1 33),zT 30 (zM 6 34),zT 30 (zB .gtr 33 34 35),zA 30 35 36,zM 36 27] (zc 27 (zq [zM 0 37,zM 0 38,zC 95 [38] 39,zI .sub 39 1 40,zR 101 [.tmp 37,zk 4,.tmp 40] 41] (zq [zV zu 2] .ret))))))))) (zq [zM 3 42,zM 4 43,zW (.bin .rem (.tmp 43) (.const (.int .u8 128))) 44,zK .u64 44 45,zM 5 46,zB .shl 45 46 47,zB .or 42 47 48,zM 48 3] (zq [zM 5 49,zI .add 49 7 50,zM 50 5] (.seq (zq [zM 4 51,zW (.bin .geq (.tmp 51) (.const (.int .u8 128))) 52] (zc 52 (.goto 0))) (zq [zM 3 53,zM 53 2] .ret)))))))))))) [.tmp 2] 54:=ki
def z8:Is prog f115 (zq [zV zf 4] (.seq (zq [zM 0 6,zU 6 7,zV zi 8] (.block 0 (.loop (zq [zB .lss 8 7 9] (.seq (.cond (.tmp 9) .skip (.exit 0)) (.seq (.block 1 (zq [zM 8 10,zM 10 5] (.seq (.reg [zM 5 11,zI .gtr 11 0 12,zM 12 13,zT 13 (zM 1 14),zT 13 (zM 0 15),zT 13 (zM 5 16),zT 13 (zJ 2 15 16 17),zT 13 (zN 2 17 18),(.some (13,.true),(.call (.tmp 14) [.tmp 18],.some 19)),zT 13 (zM 1 20),zT 13 (zM 0 21),zT 13 (zM 5 22),zT 13 (zI .sub 22 1 23),zT 13 (zJ 2 21 23 24),zT 13 (zN 2 24 25),(.some (13,.true),(.call (.tmp 20) [.tmp 25],.some 26)),zT 13 (zB .leq 19 26 27),zA 13 27 28] [(7,14),(8,14)]) (zc 28 (zq [zV zf 4] .ret))))) (.reg [zI .add 8 1 29,zM 29 8] []))))))) (zq [zV zt 4] .ret))) [.tmp 4] 30:=ki
def z6:Is prog f123 (zq [zM 0 4,zC 128 [4] 5,zI .eql 5 0 6] (zc 6 (.reg [zM 0 7,zM 1 8,zH 7 9,zF 2 9 10,zS 1 10 8] []))) [] 11:=ki
def Adq:Is prog f126 (.reg [zM 0 6,zM 1 7,zM 2 8,zC 140 [7,8] 9,zC 125 [6,9] 10] []) [] 11:=ki
def Ado:Is prog f128 (zq [zV zi 2] (.seq (zq [zM 0 3,zW (.eqp .false (.tmp 3) (.const (.pointer none))) 4] (zc 4 (zq [zV (.int .i64 19) 2] .ret))) (zq [zM 0 5,zH 5 6,zF 2 6 7,zL 7 8,zM 8 2] .ret))) [.tmp 2] 9:=ki
def t7:Is prog f141 (.reg [zM 0 4,zM 1 5,zW (.s2b (.tmp 5)) 6,zC 125 [4,6] 7] []) [] 8:=ki
def Adg:Is prog f143 (zq [zV zu 2] (zq [zM 0 3,zR 174 [.tmp 3,.func 37] 4,zM 4 2] .ret)) [.tmp 2] 5:=ki
def nH:Is prog f148 (zq [zV zf 4] (.seq (.block 0 (zq [zM 0 6,zC 111 [6] 7,zQ 7 8,zM 8 5] (.cond (.tmp 5) (zq [zV zf 4] .ret) (zq [zM 1 10,zI .lss 10 0 11,zM 11 9] (.cond (.tmp 9) (zq [zM 0 12,zM 0 13,zH 13 14,zF 1 14 15,zL 15 16,zR 101 [.tmp 12,zk 17,.tmp 16] 17] (zq [zV zf 4] .ret)) (zq [zM 1 19,zM 0 20,zC 155 [20] 21,zB .gtr 19 21 22,zM 22 18] (zc 18 (zq [zM 0 23,zM 0 24,zH 24 25,zF 0 25 26,zL 26 27,zU 27 28,zR 101 [.tmp 23,zk 1,.tmp 28] 29] (zq [zV zf 4] .ret))))))))) (zq [zM 0 30,zH 30 31,zF 1 31 32,zL 32 33,zM 1 34,zB .add 33 34 35,zH 30 36,zF 1 36 37,zS 1 37 35] (zq [zV zt 4] .ret)))) [.tmp 4] 38:=ki
def tZ:Is prog f154 (zq [zV zn 4] (zq [zM 0 8,zM 1 9,zC 175 [9] 10,zC 178 [8,10] 11,zM 11 5] (zq [zM 0 12,zC 95 [12] 13,zM 13 6] (zq [zM 0 14,zR 146 [.tmp 14,zk 4] 15,zM 15 7] (zq [zM 5 16,zM 7 17,zM 0 18,zW (.mkf 101 [.tmp 18] []) 19,zM 6 20,zC 179 [16,17,19,20] 21] (.seq (zq [zM 0 22,zC 111 [22] 23,zQ 23 24] (zc 24 (zq [zV zn 4] .ret))) (zq [zM 5 25,zM 25 4] .ret))))))) [.tmp 4] 26:=ki
def yS:Is prog f156 (zq [zV zu 4] (zq [zM 0 7,zC 95 [7] 8,zM 8 5] (zq [zM 0 9,zC 109 [9] 10,zM 10 6] (.seq (zq [zM 6 11,zM 1 12,zB .gtr 11 12 13] (zc 13 (zq [zM 0 14,zM 5 15,zR 101 [.tmp 14,zk 2,.tmp 15] 16] (zq [zV zu 4] .ret)))) (zq [zM 6 17,zM 17 4] .ret))))) [.tmp 4] 18:=ki
def Ac9:Is prog f163 (zq [zV zi 2] (.seq (zq [zM 0 3,zW (.eqp .false (.tmp 3) (.const (.pointer none))) 4] (zc 4 (zq [zV zi 2] .ret))) (.seq (.reg [zM 0 5,zH 5 6,zF 0 6 7,zL 7 8,zM 0 9,zH 9 10,zF 1 10 11,zL 11 12,zU 12 13,zB .sub 8 13 14,zM 14 2] [(3,7)]) .ret))) [.tmp 2] 15:=ki
def Ac6:Is prog f166 (zq [zV (.int .u32 0) 0] (zq [zV (.int .u32 4294967295) 0] .ret)) [.tmp 0] 1:=ki
def tY:Is prog f176 (zq [zV zf 4] (.seq (zq [zM 0 6,zU 6 7,zM 1 8,zU 8 9,zB .neq 7 9 10] (zc 10 (zq [zV zf 4] .ret))) (.seq (zq [zM 0 11,zU 11 12,zV zi 13] (.block 0 (.loop (zq [zB .lss 13 12 14] (.seq (.cond (.tmp 14) .skip (.exit 0)) (.seq (.block 1 (zq [zM 13 15,zM 15 5] (.seq (.reg [zM 0 16,zM 5 17,zJ 3 16 17 18,zN 3 18 19,zM 1 20,zM 5 21,zJ 3 20 21 22,zN 3 22 23,zW (.eqa .true 3 (.tmp 19) (.tmp 23)) 24] [(3,7)]) (zc 24 (zq [zV zf 4] .ret))))) (.reg [zI .add 13 1 25,zM 25 13] []))))))) (zq [zV zt 4] .ret)))) [.tmp 4] 26:=ki
def yJ:Is prog f180 (zq [zX [zn,zn] 6,zV zi 7] (zq [zM 0 10,zM 1 11,zC 192 [10,11] 12,zD [zn,zn] [(0,(1,.tmp 12))] 13,zX [zn,zn] 8,zS 2 8 13] (zq [zM 0 14,zM 2 15,zC 108 [14,15] 16,zM 16 9] (.seq (zq [zM 0 17,zC 111 [17] 18,zQ 18 19] (zc 19 (zq [zD [zn,zn] [] 20,zS 2 6 20,zV zi 7] .ret))) (zq [zN 2 8 21,zM 9 22,zS 2 6 21,zM 22 7] .ret))))) [.cell 6 (.some 2),.tmp 7] 23:=ki
def nE:Is prog f181 (zq [zV zn 4] (zq [zM 0 9,zR 178 [.tmp 9,zk 1048576] 10,zM 10 5] (.seq (zq [zM 0 11,zC 111 [11] 12,zQ 12 13] (zc 13 (zq [zV zn 4] .ret))) (zq [zM 0 14,zC 95 [14] 15,zM 5 16,zU 16 17,zB .sub 15 17 18,zM 18 6] (zq [zM 5 20,zM 1 21,zC 193 [20,21] 22,zM 22 19,zE 19 0 23,zE 19 1 24,zX [zi,zi] 8,zM 23 7,zS 2 8 24] (.seq (.block 0 (zq [zN 2 8 26,zC 32 [26] 27,zQ 27 28,zM 28 25] (.cond (.tmp 25) (zq [zN 2 8 29,zM 6 30,zC 57 [29,30] 31,zS 2 8 31] (.reg [zM 0 32,zF 0 8 33,zL 33 34,zF 1 8 35,zL 35 36,zC 101 [32,34,36] 37] [])) (zq [zM 7 39,zU 39 40,zM 1 41,zB .lss 40 41 42,zM 42 38] (zc 38 (.reg [zM 0 43,zM 0 44,zC 95 [44] 45,zR 101 [.tmp 43,zk 3,.tmp 45] 46] [])))))) (zq [zM 7 47,zM 47 4] .ret))))))) [.tmp 4] 48:=ki
def Acy:Is prog f186 (zq [zX [.int .u32 0,.int .u32 0,.int .u32 0,.int .u32 0,.int .u32 0,.int .u32 0,.int .u32 0,.int .u32 0,.int .u32 0,.int .u32 0,.int .u32 0,.int .u32 0,.int .u32 0,.int .u32 0,.int .u32 0,.int .u32 0] 0] (zq [zX [.int .u32 0,.int .u32 0,.int .u32 0,.int .u32 0,.int .u32 0,.int .u32 0,.int .u32 0,.int .u32 0,.int .u32 0,.int .u32 0,.int .u32 0,.int .u32 0,.int .u32 0,.int .u32 0,.int .u32 0,.int .u32 0] 1] (.seq (zq [zV zi 4] (.block 0 (.loop (zq [zI .lss 4 16 5] (.seq (.cond (.tmp 5) .skip (.exit 0)) (.seq (.block 1 (zq [zM 4 6,zM 6 2] (zq [zM 2 7,zK .u32 7 8,zM 8 3] (.seq (zq [zV zi 9] (.block 2 (.loop (zq [zI .lss 9 4 10] (.seq (.cond (.tmp 10) .skip (.exit 2)) (.seq (.block 3 (.reg [zM 3 11,zC 194 [11] 12,zM 12 3] [])) (.reg [zI .add 9 1 13,zM 13 9] []))))))) (.reg [zM 2 14,zM 3 15,zW (.aadr 16 1 (.tmp 1) (.tmp 14)) 16,zS 1 16 15] []))))) (.reg [zI .add 4 1 17,zM 17 4] []))))))) (zq [zN 16 1 18,zS 16 0 18] .ret)))) [.cell 0 (.some 16)] 19:=ki
def yI:Is prog f188 (zq [zV zi 4] (zq [zM 0 11,zM 1 12,zC 161 [11,12] 13,zM 13 10,zE 10 0 14,zE 10 1 15,zM 14 5,zM 15 6] (.seq (zq [zM 6 16,zQ 16 17] (zc 17 (zq [zV zi 4] .ret))) (zq [zM 1 18,zU 18 19,zK .u64 19 20,zC 121 [20] 21,zM 21 7] (.seq (zq [zM 5 22,zU 22 23,zV zi 24] (.block 0 (.loop (zq [zB .lss 24 23 25] (.seq (.cond (.tmp 25) .skip (.exit 0)) (.seq (.block 1 (zq [zJ 1 22 24 26,zL 26 27,zM 27 9] (.reg [zM 7 28,zM 9 29,zC 121 [29] 30,zB .add 28 30 31,zM 31 7] []))) (.reg [zI .add 24 1 32,zM 32 24] []))))))) (zq [zM 7 33,zM 33 4] .ret)))))) [.tmp 4] 34:=ki
def yH:Is prog f189 (zq [zM 1 11,zM 2 12,zC 161 [11,12] 13,zM 13 10,zE 10 0 14,zE 10 1 15,zM 14 6,zM 15 7] (.seq (zq [zM 7 16,zQ 16 17] (zc 17 (zq [zM 0 18,zR 123 [.tmp 18,zk 3] 19] .ret))) (zq [zM 0 20,zM 2 21,zU 21 22,zK .u64 22 23,zC 133 [20,23] 24] (zq [zM 6 25,zU 25 26,zV zi 27] (.block 0 (.loop (zq [zB .lss 27 26 28] (.seq (.cond (.tmp 28) .skip (.exit 0)) (.seq (.block 1 (zq [zJ 1 25 27 29,zL 29 30,zM 30 9] (.reg [zM 0 31,zM 9 32,zC 133 [31,32] 33] []))) (.reg [zI .add 27 1 34,zM 34 27] [])))))))))) [] 35:=ki
def Acu:Is prog f195 (zq [zY 0 1,zV zn 2,zV zi 3] (.seq (zq [zL 1 11,zU 11 12,zI .gtr 12 1048576 13] (zc 13 (zq [zV zn 2,zV (.int .i64 2) 3] .ret))) (zq [zX [zn] 4] (zq [zX [zi] 5,(none,(.store 1 (.tmp 5) (zk 0),none))] (zq [zW (.mkf 201 [] [.tmp 5,.tmp 4,.tmp 1]) 14,zM 14 6] (zq [zL 1 15,zC 202 [15] 16,zM 16 7] (.seq (zq [zV zi 8] (.block 0 (.loop (.seq (zq [zM 8 17,zL 1 18,zU 18 19,zB .lss 17 19 20] (.cond (.tmp 20) .skip (.exit 0))) (.block 1 (zq [zM 7 22,zM 8 23,zC 203 [22,23] 24,zM 24 21,zE 21 0 25,zE 21 1 26,zM 25 9,zM 26 10] (.seq (zq [zM 10 27,zI .eql 27 0 28] (zc 28 (zq [zM 8 29,zI .add 29 1 30,zM 30 8] (.exit 1)))) (zq [zM 6 31,zM 8 32,zW (.call (.tmp 31) [.tmp 32]) 33] (zq [zL 4 34,zM 9 35,zM 10 36,zD [zn,zi,zi] [(1,(1,.tmp 35)),(2,(1,.tmp 36))] 37,zW (.bsl 3 [.tmp 37]) 38,zP 3 40 34 38 39,zS 1 4 39] (zq [zM 8 40,zM 10 41,zB .add 40 41 42,zM 42 8] (.reg [zM 8 43,zS 1 5 43] []))))))))))) (zq [zM 6 44,zL 1 45,zU 45 46,zW (.call (.tmp 44) [.tmp 46]) 47] (zq [zL 4 48,zM 48 2,zV zi 3] .ret))))))))) [.tmp 2,.tmp 3] 49:=ki
def yE:Is prog f196 (zq [zV zn 2,zV zi 3] (zq [zM 0 7,zC 204 [7] 8,zC 80 [8] 9,zM 9 4] (.seq (zq [zM 0 10,zU 10 11,zV zi 12] (.block 0 (.loop (zq [zB .lss 12 11 13] (.seq (.cond (.tmp 13) .skip (.exit 0)) (.seq (.block 1 (zq [zJ 3 10 12 14,zN 3 14 15,zX [zn,zi,zi] 6,zS 3 6 15] (.reg [zM 4 16,zN 3 6 17,zC 205 [16,17] 18] []))) (.reg [zI .add 12 1 19,zM 19 12] []))))))) (zq [zM 4 20,zC 83 [20] 21,zE 21 0 22,zE 21 1 23,zM 22 2,zM 23 3] .ret)))) [.tmp 2,.tmp 3] 24:=ki
def Acs:Is prog f200 (zq [zV zn 6] (.seq (zq [zM 2 7,zV zi 8] (.block 0 (.loop (zq [zB .lss 8 7 9] (.seq (.cond (.tmp 9) .skip (.exit 0)) (.seq (.block 1 (.reg [zM 0 10,zM 0 11,zM 0 12,zU 12 13,zM 1 14,zB .sub 13 14 15,zJ 1 11 15 16,zL 16 17,zW (.bsl 1 [.tmp 17]) 18,zP 1 1 10 18 19,zM 19 0] [])) (.reg [zI .add 8 1 20,zM 20 8] []))))))) (zq [zM 0 21,zM 21 6] .ret))) [.tmp 6] 22:=ki
def Acn:Is prog f208 (zq [zY 0 2,zY 1 3,zV .nilFunc 4] (zq [zW (.mkf 214 [] [.tmp 2,.tmp 3]) 5,zM 5 4] .ret)) [.tmp 4] 6:=ki
def fD:Is prog f209 (zq [zV zi 6] (.seq (zq [zM 1 8,zI .lss 8 0 9,zM 9 10,zZ 10 (zM 1 11),zZ 10 (zM 0 12),zZ 10 (zU 12 13),zZ 10 (zB .geq 11 13 14),zO 10 14 15,zM 15 16,zZ 16 (zM 2 17),zZ 16 (zI .lss 17 1 18),zO 16 18 19,zM 19 20,zZ 20 (zM 2 21),zZ 20 (zM 1 22),zZ 20 (zB .gtr 21 22 23),zO 20 23 24] (zc 24 (zq [zV zi 6] .ret))) (zq [zV zi 7] (.seq (.block 0 (.loop (.seq (.seq (.reg [zM 1 25,zM 7 26,zB .add 25 26 27,zM 0 28,zU 28 29,zB .lss 27 29 30,zM 30 31,zT 31 (zM 7 32),zT 31 (zI .lss 32 1048576 33),zA 31 33 34,zM 34 35,zT 35 (zM 0 36),zT 35 (zM 1 37),zT 35 (zM 7 38),zT 35 (zB .add 37 38 39),zT 35 (zJ 1 36 39 40),zT 35 (zL 40 41),zT 35 (zM 0 42),zT 35 (zM 1 43),zT 35 (zM 7 44),zT 35 (zB .add 43 44 45),zT 35 (zM 2 46),zT 35 (zB .sub 45 46 47),zT 35 (zJ 1 42 47 48),zT 35 (zL 48 49),zT 35 (zB .eql 41 49 50),zA 35 50 51] [(16,24)]) (.cond (.tmp 51) .skip (.exit 0))) (.block 1 (.reg [zM 7 52,zI .add 52 1 53,zM 53 7] []))))) (zq [zM 7 54,zM 54 6] .ret))))) [.tmp 6] 55:=ki
def b13:Is prog f13 (zq [zY 1 3,zV zf 4] (.seq (zq [zV zi 5] (.block 0 (.loop (.seq (zq [zM 5 15,zF 2 3 16,zL 16 17,zU 17 18,zB .lss 15 18 19] (.cond (.tmp 19) .skip (.exit 0))) (.seq (.block 1 (zq [zM 0 23,zF 1 3 24,zL 24 25,zM 5 26,zK .u64 26 27,zB .add 25 27 28,zC 15 [23,28] 29,zM 29 22,zE 22 0 30,zE 22 1 31,zX [zn,zn] 6,zX [zi,zi] 7,zS 2 6 30,zS 2 7 31] (.seq (.seq (.reg [zF 0 7 32,zL 32 33,zI .neq 33 0 34,zM 34 35,zZ 35 (zN 2 6 36),zZ 35 (zF 2 3 37),zZ 35 (zL 37 38),zZ 35 (zM 5 39),zZ 35 (zJ 2 38 39 40),zZ 35 (zN 2 40 41),zZ 35 (zC 29 [36,41] 42),(.some (35,.false),(.un .not (.tmp 42),.some 43)),zO 35 43 44] [(4,6),(4,9)]) (zc 44 (zq [zV zf 4] .ret))) (zq [zF 0 6 45,zL 45 46,zU 46 47,zV zi 48] (.block 2 (.loop (zq [zB .lss 48 47 49] (.seq (.cond (.tmp 49) .skip (.exit 2)) (.seq (.block 3 (zq [zJ 2 46 48 50,zN 2 50 51,zX [zu,zn] 9,zS 2 9 51] (zq [zV zi 10] (.block 4 (.loop (.seq (zq [zM 10 52,zF 1 9 53,zL 53 54,zU 54 55,zB .lss 52 55 56] (.cond (.tmp 56) .skip (.exit 4))) (.seq (.block 5 (zq [zM 0 60,zF 1 9 61,zL 61 62,zM 10 63,zJ 1 62 63 64,zL 64 65,zC 15 [60,65] 66,zM 66 59,zE 59 0 67,zE 59 1 68,zX [zn,zn] 11,zX [zi,zi] 12,zS 2 11 67,zS 2 12 68] (zq [zV zf 13] (.seq (zq [zV zi 14] (.block 6 (.loop (.seq (zq [zM 14 69,zF 0 11 70,zL 70 71,zU 71 72,zB .lss 69 72 73] (.cond (.tmp 73) .skip (.exit 6))) (.seq (.block 7 (.reg [zM 13 76,zM 76 77,zZ 77 (zF 0 11 78),zZ 77 (zL 78 79),zZ 77 (zM 14 80),zZ 77 (zJ 2 79 80 81),zZ 77 (zF 0 81 82),zZ 77 (zL 82 83),zZ 77 (zF 0 9 84),zZ 77 (zL 84 85),zZ 77 (zB .eql 83 85 86),zO 77 86 87,zM 87 13] [(3,9),(7,9)])) (.reg [zM 14 74,zI .add 74 1 75,zM 75 14] [])))))) (zq [zF 0 12 88,zL 88 89,zI .neq 89 0 90,zM 90 91,zZ 91 (zM 13 92),(.some (91,.false),(.un .not (.tmp 92),.some 93)),zO 91 93 94] (zc 94 (zq [zV zf 4] .ret))))))) (.reg [zM 10 57,zI .add 57 1 58,zM 58 10] [])))))))) (.reg [zI .add 48 1 95,zM 95 48] [])))))))))) (.reg [zM 5 20,zI .add 20 1 21,zM 21 5] [])))))) (zq [zV zt 4] .ret))) [.tmp 4] 96:=ki
def b14:Is prog f14 (zq [zY 0 1,zV zf 2] (zq [zV zi 3] (.seq (zq [zV zi 4] (.block 0 (.loop (.seq (zq [zM 4 5,zF 2 1 6,zL 6 7,zU 7 8,zB .lss 5 8 9,zM 9 10,zT 10 (zM 4 11),zT 10 (zI .lss 11 30 12),zA 10 12 13] (.cond (.tmp 13) .skip (.exit 0))) (.seq (.block 1 (.reg [zM 3 16,zF 2 1 17,zL 17 18,zM 4 19,zJ 2 18 19 20,zF 1 20 21,zL 21 22,zU 22 23,zB .add 16 23 24,zM 24 3] [])) (.reg [zM 4 14,zI .add 14 1 15,zM 15 4] [])))))) (zq [zF 2 1 25,zL 25 26,zC 30 [26] 27,zM 27 28,zZ 28 (zM 3 29),zZ 28 (zI .gtr 29 300 30),zO 28 30 31,zM 31 2] .ret)))) [.tmp 2] 32:=ki
def b24:Is prog f24 (zq [zV zf 2,zX [zi,zi] 3] (zq [zM 0 8,zH 8 9,zF 1 9 10,zL 10 11,zC 55 [11] 12,zM 12 7,zE 7 0 13,zE 7 1 14,zE 7 2 15,zX [zi,zu,zu] 4,zX [zi,zi] 6,zS 3 4 13,zM 14 5,zS 2 6 15] (.seq (.block 0 (zq [zF 0 6 17,zL 17 18,zI .eql 18 1 19,zM 19 16] (.cond (.tmp 16) (zq [zD [zi,zi] [] 20,zV zf 2,zS 2 3 20] .ret) (zq [zN 2 6 22,zC 32 [22] 23,zQ 23 24,zM 24 21] (.cond (.tmp 21) (zq [zN 2 6 25,zV zf 2,zS 2 3 25] .ret) (zq [zF 0 4 27,zL 27 28,zI .neq 28 3 29,zM 29 26] (zc 26 (zq [zR 34 [zk 8,zk 4] 30,zV zf 2,zS 2 3 30] .ret)))))))) (zq [zM 0 31,zM 0 32,zF 1 4 33,zL 33 34,zH 31 35,zF 5 35 36,zS 1 36 34,zH 32 37,zF 0 37 38,(none,(.store 1 (.tmp 38) (.func 56),none))] (zq [zD [zi,zi] [] 39,zV zt 2,zS 2 3 39] .ret))))) [.tmp 2,.cell 3 (.some 2)] 40:=ki
def b27:Is prog f27 (zq [zV zf 2] (.seq (.reg [zM 0 3,zH 3 4,zF 17 4 5,zL 5 6,zI .gtr 6 0 7,zM 7 8,zT 8 (zM 0 9),(.some (8,.true),(.nilc (.tmp 9),.some 10)),zT 8 (zF 1 10 11),zT 8 (zL 11 12),zT 8 (zU 12 13),zT 8 (zI .eql 13 0 14),zA 8 14 15,zM 15 16,zT 16 (zM 0 17),(.some (16,.true),(.nilc (.tmp 17),.some 18)),zT 16 (zF 3 18 19),zT 16 (zL 19 20),zT 16 (zM 0 21),(.some (16,.true),(.nilc (.tmp 21),.some 22)),zT 16 (zF 10 22 23),zT 16 (zF 5 23 24),zT 16 (zL 24 25),zT 16 (zM 0 26),(.some (16,.true),(.nilc (.tmp 26),.some 27)),zT 16 (zF 10 27 28),zT 16 (zF 6 28 29),zT 16 (zL 29 30),zT 16 (zB .add 25 30 31),zT 16 (zM 0 32),(.some (16,.true),(.nilc (.tmp 32),.some 33)),zT 16 (zF 17 33 34),zT 16 (zL 34 35),zT 16 (zB .add 31 35 36),zT 16 (zC 58 [] 37),zT 16 (zB .add 36 37 38),zT 16 (zB .eql 20 38 39),zA 16 39 40,zM 40 2] [(17,22),(17,27),(22,27),(17,32),(22,32),(27,32),(17,34),(22,34),(27,34),(32,34)]) .ret)) [.tmp 2] 41:=ki
def b43:Is prog f43 (zq [zY 0 2,zY 1 3,zV zi 4] (.seq (zq [zF 0 2 5,zL 5 6,zF 0 3 7,zL 7 8,zB .leq 6 8 9] (zc 9 (zq [zV (.int .i64 (-1)) 4] .ret))) (zq [zV (.int .i64 1) 4] .ret))) [.tmp 4] 10:=ki
def b46:Is prog f46 (zq [zY 0 2,zX [zu,zn] 4] (zq [zM 1 6,zW (.bsl 1 [.tmp 6]) 7,zF 1 2 8,zL 8 9,zP 1 8 7 9 10,zM 10 5] (zq [zF 0 2 11,zL 11 12,zM 5 13,zM 5 14,zU 14 15,zW (.mx .false (.tmp 15) (zk 4)) 16,zW (.slice 1 (.tmp 13) none (.some (.tmp 16)) none) 17,zD [zu,zn] [(0,(1,.tmp 12)),(1,(1,.tmp 17))] 18,zS 2 4 18] .ret))) [.cell 4 (.some 2)] 19:=ki
def b52:Is prog f52 (zq [zV zn 2,zV zi 3] (zq [zR 80 [zk 1024] 5,zM 5 4] (zq [zM 4 6,zM 0 7,zC 87 [6,7] 8] (zq [zM 4 9,zC 83 [9] 10,zE 10 0 11,zE 10 1 12,zM 11 2,zM 12 3] .ret)))) [.tmp 2,.tmp 3] 13:=ki
def u9:Is prog f56 (zq [zV zf 2,zX [zi,zi] 3] (zq [zM 0 13,zC 96 [13] 14,zM 14 12,zE 12 0 15,zE 12 1 16,zE 12 2 17,zE 12 3 18,zX [zi,zi] 7,zM 15 4,zM 16 5,zM 17 6,zS 2 7 18] (.seq (zq [zM 6 19,zQ 19 20] (zc 20 (zq [zN 2 7 21,zV zf 2,zS 2 3 21] .ret))) (zq [zM 4 22,zC 92 [22] 23,zM 23 8] (zq [zW (.mov (.func 97)) 9] (.seq (zq [zM 8 24,zC 98 [24] 25] (.block 0 (zq [zW (.bin .eql (.tmp 25) (.const (.int .u8 1))) 29,zM 29 28] (.cond (.tmp 28) (.reg [zM 0 30,zW (.mkf 99 [.tmp 30] []) 31,zM 31 9] []) (zq [zW (.bin .eql (.tmp 25) (.const (.int .u8 2))) 33,zM 33 32] (.cond (.tmp 32) (.reg [zM 0 34,zW (.mkf 100 [.tmp 34] []) 35,zM 35 9] []) (.reg [zM 8 26,zR 101 [.tmp 26,zk 7,zk 0] 27] []))))))) (zq [zM 9 36,zM 8 37,zW (.call (.tmp 36) [.tmp 37]) 38,zM 38 10] (.seq (zq [zM 8 39,zC 94 [39] 40,zM 5 41,zC 57 [40,41] 42,zX [zi,zi] 11,zS 2 11 42] (zq [zN 2 11 43,zC 32 [43] 44,zQ 44 45] (zc 45 (zq [zN 2 11 46,zV zf 2,zS 2 3 46] .ret)))) (zq [zM 10 47,zI .eql 47 0 48,zM 10 49,zR 34 [.tmp 49,zk 0] 50,zM 48 2,zS 2 3 50] .ret))))))))) [.tmp 2,.cell 3 (.some 2)] 51:=ki
def b57:Is prog f57 (zq [zY 0 2,zX [zi,zi] 4] (zq [zF 0 2 5,zL 5 6,zF 1 2 7,zL 7 8,zM 1 9,zB .add 8 9 10,zC 34 [6,10] 11,zS 2 4 11] .ret)) [.cell 4 (.some 2)] 12:=ki
def b61:Is prog f61 (zq [zY 0 1,zV zf 2] (zq [zF 0 1 3,zL 3 4,zC 103 [4] 5,zM 5 6,zZ 6 (zF 1 1 7),zZ 6 (zL 7 8),zZ 6 (zU 8 9),zZ 6 (zI .gtr 9 500 10),zO 6 10 11,zM 11 2] .ret)) [.tmp 2] 12:=ki
def b63:Is prog f63 (zq [zV zn 6,zV zi 7,zX [zi,zi] 8] (zq [zV zn 9] (zq [zM 0 17,zR 105 [.tmp 17,zk 2097152] 18,zM 18 16,zE 16 0 19,zE 16 1 20,zE 16 2 21,zX [zi,zi] 12,zM 19 10,zM 20 11,zS 2 12 21] (.seq (zq [zN 2 12 22,zC 32 [22] 23,zQ 23 24] (zc 24 (zq [zM 9 25,zN 2 12 26,zM 25 6,zV zi 7,zS 2 8 26] .ret))) (zq [zM 10 27,zC 92 [27] 28,zM 28 13] (.seq (zq [zM 13 29,zC 98 [29] 30,zM 1 31,zB .neq 30 31 32] (zc 32 (.reg [zM 13 33,zR 101 [.tmp 33,zk 7,zk 0] 34] []))) (zq [zM 2 35,zM 13 36,zW (.call (.tmp 35) [.tmp 36]) 37,zM 37 14] (zq [zM 13 38,zC 107 [38] 39] (.seq (zq [zM 13 40,zC 94 [40] 41,zM 11 42,zI .sub 42 4 43,zM 10 44,zU 44 45,zB .sub 43 45 46,zC 57 [41,46] 47,zX [zi,zi] 15,zS 2 15 47] (zq [zN 2 15 48,zC 32 [48] 49,zQ 49 50] (zc 50 (zq [zM 9 51,zN 2 15 52,zM 51 6,zV zi 7,zS 2 8 52] .ret)))) (zq [zM 14 53,zM 11 54,zD [zi,zi] [] 55,zM 53 6,zM 54 7,zS 2 8 55] .ret)))))))))) [.tmp 6,.tmp 7,.cell 8 (.some 2)] 56:=ki
def b67:Is prog f67 (zq [zY 0 1,zV zu 2] (zq [zF 0 1 3,zL 3 4,zF 1 1 5,zL 5 6,zK .u64 6 7,zB .add 4 7 8,zM 8 2] .ret)) [.tmp 2] 9:=ki
def b71:Is prog f71 (zq [zY 0 1,zV zu 2] (zq [zF 1 1 3,zL 3 4,zF 2 1 5,zL 5 6,zU 6 7,zK .u64 7 8,zB .add 4 8 9,zM 9 2] .ret)) [.tmp 2] 10:=ki
def b77:Is prog f77 (zq [zY 0 2,zV zf 3] (zq [zF 0 2 4,zL 4 5,zF 0 1 6,zL 6 7,zB .eql 5 7 8,zM 8 3] .ret)) [.tmp 3] 9:=ki
def b79:Is prog f79 (zq [zY 0 2,zV zf 3] (zq [zF 0 2 4,zL 4 5,zF 0 1 6,zL 6 7,zB .gtr 5 7 8,zM 8 3] .ret)) [.tmp 3] 9:=ki
def b83:Is prog f83 (zq [zV zn 2,zV zi 3] (.seq (zq [zM 0 5,zC 128 [5] 6,zM 6 4] (zq [zM 4 7,zI .neq 7 0 8] (zc 8 (zq [zM 4 9,zV zn 2,zM 9 3] .ret)))) (zq [zW (.bsl 1 []) 10,zM 0 11,zH 11 12,zF 1 12 13,zL 13 14,zP 1 1 10 14 15,zM 15 2,zV zi 3] .ret))) [.tmp 2,.tmp 3] 16:=ki
def b85:Is prog f85 (zq [zY 1 3] (.seq (zq [zN 3 3 6,zC 17 [6] 7,zQ 7 8] (zc 8 (zq [zM 0 9,zR 123 [.tmp 9,zk 3] 10] .ret))) (zq [zM 0 11,zF 0 3 12,zL 12 13,zC 131 [11,13] 14] (zq [zM 0 15,zF 1 3 16,zL 16 17,zC 132 [15,17] 18] (zq [zM 0 19,zF 2 3 20,zL 20 21,zU 21 22,zK .u64 22 23,zC 133 [19,23] 24] (.seq (zq [zF 2 3 25,zL 25 26,zU 26 27,zV zi 28] (.block 0 (.loop (zq [zB .lss 28 27 29] (.seq (.cond (.tmp 29) .skip (.exit 0)) (.seq (.block 1 (zq [zM 28 30,zJ 2 26 28 31,zN 2 31 32,zX [zn,zn] 5,zM 30 4,zS 2 5 32] (.reg [zM 0 33,zF 1 3 34,zL 34 35,zM 4 36,zK .u64 36 37,zB .add 35 37 38,zN 2 5 39,zC 134 [33,38,39] 40] []))) (.reg [zI .add 28 1 41,zM 41 28] []))))))) (.reg [zM 0 42,zF 2 3 43,zL 43 44,zC 136 [44] 45,zC 135 [42,45] 46] []))))))) [] 47:=ki
def b86:Is prog f86 (zq [zV zn 2,zV zi 3] (zq [zM 0 5,zU 5 6,zC 137 [6] 7,zC 80 [7] 8,zM 8 4] (zq [zM 4 9,zM 0 10,zC 138 [9,10] 11] (zq [zM 4 12,zC 83 [12] 13,zE 13 0 14,zE 13 1 15,zM 14 2,zM 15 3] .ret)))) [.tmp 2,.tmp 3] 16:=ki
def b90:Is prog f90 (zq [zY 0 1,zV zn 2,zV zi 3] (zq [zR 80 [zk 80] 7,zM 7 4] (.seq (zq [zN 7 1 8,zC 139 [8] 9,zQ 9 10] (zc 10 (.reg [zM 4 11,zR 123 [.tmp 11,zk 3] 12] []))) (zq [zM 4 13,zW (.bsl 1 [.const (.int .u8 3)]) 14,zC 125 [13,14] 15] (zq [zM 4 16,zF 0 1 17,zL 17 18,zC 131 [16,18] 19] (.seq (zq [zF 1 1 20,zL 20 21,zK .u64 21 22,zF 2 1 23,zL 23 24,zK .u64 24 25,zF 3 1 26,zL 26 27,zF 4 1 28,zL 28 29,zF 5 1 30,zL 30 31,zK .u64 31 32,zF 6 1 33,zL 33 34,zK .u64 34 35,zW (.bsl 1 [.tmp 22,.tmp 25,.tmp 27,.tmp 29,.tmp 32,.tmp 35]) 36,zU 36 37,zV zi 38] (.block 0 (.loop (zq [zB .lss 38 37 39] (.seq (.cond (.tmp 39) .skip (.exit 0)) (.seq (.block 1 (zq [zJ 1 36 38 40,zL 40 41,zM 41 6] (.reg [zM 4 42,zM 6 43,zC 133 [42,43] 44] []))) (.reg [zI .add 38 1 45,zM 45 38] []))))))) (zq [zM 4 46,zC 83 [46] 47,zE 47 0 48,zE 47 1 49,zM 48 2,zM 49 3] .ret))))))) [.tmp 2,.tmp 3] 50:=ki
def b91:Is prog f91 (zq [zV zn 2] (zq [zC 58 [] 7,zC 80 [7] 8,zM 8 3] (zq [zM 0 9,zK .u64 9 10,zR 140 [.tmp 10,zk 4] 11,zM 11 4] (zq [zM 3 12,zM 4 13,zC 125 [12,13] 14] (zq [zM 3 15,zM 4 16,zC 127 [16] 17,zK .u64 17 18,zR 126 [.tmp 15,.tmp 18,zk 4] 19] (zq [zM 3 20,zW (.call (.func 141) [.tmp 20,.const (.string (.mk (#[76,79,72,84])))]) 21] (zq [zM 3 23,zC 83 [23] 24,zM 24 22,zE 22 0 25,zE 22 1 26,zM 25 5,zM 26 6] (zq [zM 5 27,zM 27 2] .ret)))))))) [.tmp 2] 28:=ki
def b97:Is prog f97 (zq [zV zi 2] (zq [zV zi 2] .ret)) [.tmp 2] 3:=ki
def t9:Is prog f103 (zq [zV zf 2] (.seq (zq [zV zi 3] (.block 0 (.loop (.seq (zq [zM 3 4,zM 0 5,zU 5 6,zB .lss 4 6 7,zM 7 8,zT 8 (zM 3 9),zT 8 (zI .lss 9 50 10),zA 8 10 11] (.cond (.tmp 11) .skip (.exit 0))) (.seq (.block 1 (zq [zM 0 14,zM 3 15,zJ 2 14 15 16,zF 1 16 17,zL 17 18,zU 18 19,zI .gtr 19 50 20] (zc 20 (zq [zV zt 2] .ret)))) (.reg [zM 3 12,zI .add 12 1 13,zM 13 3] [])))))) (zq [zM 0 21,zU 21 22,zI .gtr 22 50 23,zM 23 2] .ret))) [.tmp 2] 24:=ki
def fI:Is prog f104 (zq [zV zi 2,zX [zi,zi] 3] (zq [zM 0 11,zU 11 12,zM 12 4] (.seq (zq [zM 4 13,zC 58 [] 14,zB .lss 13 14 15] (zc 15 (zq [zM 4 16,zR 34 [zk 1,.tmp 16] 17,zV zi 2,zS 2 3 17] .ret))) (zq [zM 0 18,zC 92 [18] 19,zM 19 5] (zq [zM 4 20,zC 58 [] 21,zB .sub 20 21 22,zM 22 6] (zq [zM 5 23,zM 6 24,zC 148 [23,24] 25] (zq [zM 5 26,zR 152 [.tmp 26,zk 4] 27,zM 27 7] (zq [zM 7 28,zR 153 [.tmp 28,zk 4] 29,zC 127 [29] 30,zM 30 8] (zq [zM 5 31,zR 146 [.tmp 31,zk 4] 32,zM 32 9] (zq [zM 5 33,zR 146 [.tmp 33,zk 4] 34,zM 34 10] (.seq (.block 0 (zq [zM 5 36,zR 153 [.tmp 36,zk 4] 37,zW (.b2s (.tmp 37)) 38,zW (.bin .neq (.tmp 38) (.const (.string (.mk (#[76,79,72,84]))))) 39,zM 39 35] (.cond (.tmp 35) (zq [zM 4 40,zI .sub 40 4 41,zR 34 [zk 14,.tmp 41] 42,zV zi 2,zS 2 3 42] .ret) (zq [zM 10 44,zM 8 45,zK .u64 45 46,zB .neq 44 46 47,zM 47 43] (.cond (.tmp 43) (zq [zM 4 48,zI .sub 48 4 49,zI .sub 49 4 50,zR 34 [zk 6,.tmp 50] 51,zV zi 2,zS 2 3 51] .ret) (zq [zM 9 53,zM 6 54,zK .u64 54 55,zB .gtr 53 55 56,zM 56 52] (zc 52 (zq [zM 6 57,zR 34 [zk 3,.tmp 57] 58,zV zi 2,zS 2 3 58] .ret)))))))) (zq [zM 9 59,zK .i64 59 60,zD [zi,zi] [] 61,zM 60 2,zS 2 3 61] .ret)))))))))))) [.tmp 2,.cell 3 (.some 2)] 62:=ki
def Aaa:Is prog f108 (zq [zV zi 4] (.seq (zq [zM 1 6,zI .geq 6 0 7] (zc 7 (zq [zM 0 8,zM 1 9,zK .u64 9 10,zC 156 [8,10] 11,zK .i64 11 12,zM 12 4] .ret))) (zq [zM 0 13,zC 95 [13] 14,zM 14 5] (zq [zM 0 15,zC 109 [15] 16] (zq [zM 0 17,zM 5 18,zR 101 [.tmp 17,zk 2,.tmp 18] 19] (zq [zV zi 4] .ret)))))) [.tmp 4] 20:=ki
def fG:Is prog f112 (zq [zX [zu,zu,zn] 4] (zq [zM 0 13,zC 143 [13] 14,zM 0 15,zC 145 [15] 16,zD [zu,zu,zn] [(0,(1,.tmp 14)),(1,(1,.tmp 16))] 17,zX [zu,zu,zn] 5,zS 3 5 17] (zq [zM 0 18,zC 95 [18] 19,zM 19 6] (zq [zM 0 20,zR 108 [.tmp 20,zk 16] 21,zM 21 7] (.seq (zq [zF 1 5 22,zL 22 23,zM 7 24,zC 38 [23,24] 25,zQ 25 26] (zc 26 (.reg [zM 0 27,zM 6 28,zR 101 [.tmp 27,zk 3,.tmp 28] 29] []))) (.seq (zq [zM 0 30,zC 111 [30] 31,zQ 31 32] (zc 32 (zq [zD [zu,zu,zn] [] 33,zS 3 4 33] .ret))) (zq [zM 0 35,zF 1 5 36,zL 36 37,zM 7 38,zC 157 [35,37,38] 39,zM 39 34,zE 34 0 40,zE 34 1 41,zM 40 8,zM 41 9] (zq [zM 0 42,zC 95 [42] 43,zM 43 6] (zq [zM 1 44,zW (.call (.tmp 44) []) 45,zM 45 10] (zq [zM 8 47,zM 9 48,zM 10 49,zC 158 [47,48,49] 50,zM 50 46,zE 46 0 51,zE 46 1 52,zM 51 11,zM 52 12] (.seq (zq [zM 12 53,zQ 53 54] (zc 54 (.reg [zM 0 55,zM 6 56,zR 101 [.tmp 55,zk 3,.tmp 56] 57] []))) (.seq (zq [zM 0 58,zC 111 [58] 59,zQ 59 60] (zc 60 (zq [zD [zu,zu,zn] [] 61,zS 3 4 61] .ret))) (zq [zM 11 62,zF 2 5 63,zS 1 63 62] (zq [zN 3 5 64,zS 3 4 64] .ret)))))))))))))) [.cell 4 (.some 3)] 65:=ki
def Adu:Is prog f113 (zq [zV zn 1] (zq [zL 0 2,zR 114 [.tmp 2,zk 1048576] 3,zM 3 1] .ret)) [.tmp 1] 4:=ki
def Adt:Is prog f116 (zq [zY 0 1,zV zu 2] (zq [zF 0 1 3,zL 3 4,zM 4 2] .ret)) [.tmp 2] 5:=ki
def Ads:Is prog f118 (zq [zV zf 4] (zq [zM 0 8,zM 1 9,zC 161 [8,9] 10,zM 10 7,zE 7 0 11,zE 7 1 12,zM 11 5,zM 12 6] (zq [zM 6 13,zM 13 4] .ret))) [.tmp 4] 14:=ki
def yZ:Is prog f124 (zq [zY 0 1,zV zn 2] (zq [zC 81 [] 6,zC 80 [6] 7,zM 7 3] (zq [zM 3 8,zW (.call (.func 141) [.tmp 8,.const (.string (.mk (#[84,72,79,76])))]) 9] (zq [zM 3 10,zF 0 1 11,zL 11 12,zK .u8 12 13,zW (.bsl 1 [.tmp 13]) 14,zC 125 [10,14] 15] (zq [zM 3 16,zF 1 1 17,zL 17 18,zC 131 [16,18] 19] (.seq (zq [zF 0 1 20,zL 20 21,zC 144 [21] 22] (zc 22 (.reg [zM 3 23,zF 2 1 24,zL 24 25,zC 132 [23,25] 26] []))) (zq [zM 3 28,zC 83 [28] 29,zM 29 27,zE 27 0 30,zE 27 1 31,zM 30 4,zM 31 5] (zq [zM 4 32,zM 32 2] .ret)))))))) [.tmp 2] 33:=ki
def t8:Is prog f125 (.block 0 (zq [zM 0 14,zC 128 [14] 15,zI .neq 15 0 16,zM 16 13] (.cond (.tmp 13) .skip (zq [zM 1 18,zU 18 19,zM 0 20,zC 163 [20] 21,zB .gtr 19 21 22,zM 22 17] (.cond (.tmp 17) (.reg [zM 0 23,zR 123 [.tmp 23,zk 2] 24] []) (.reg [zM 0 4,zM 0 5,zH 5 6,zF 1 6 7,zL 7 8,zM 1 9,zP 1 1 8 9 10,zH 4 11,zF 1 11 12,zS 1 12 10] [])))))) [] 25:=ki
def Adj:Is prog f136 (zq [zV zn 2] (zq [zM 0 6,zC 39 [6] 7,zW (.mksl 1 1 (zk 0) (.tmp 7)) 8,zM 8 3] (.seq (zq [zM 0 9,zU 9 10,zV zi 11] (.block 0 (.loop (zq [zB .lss 11 10 12] (.seq (.cond (.tmp 12) .skip (.exit 0)) (.seq (.block 1 (zq [zJ 2 9 11 13,zN 2 13 14,zX [zn,zn] 5,zS 2 5 14] (.reg [zM 3 15,zF 1 5 16,zL 16 17,zP 1 1 15 17 18,zM 18 3] []))) (.reg [zI .add 11 1 19,zM 19 11] []))))))) (zq [zM 3 20,zM 20 2] .ret)))) [.tmp 2] 21:=ki
def Adi:Is prog f137 (zq [zV zi 2] (zq [zM 0 3,zC 129 [3] 4,zI .add 4 4 5,zM 5 2] .ret)) [.tmp 2] 6:=ki
def yV:Is prog f138 (.seq (zq [zM 1 4,zU 4 5,zI .gtr 5 2097152 6] (zc 6 (zq [zM 0 7,zR 123 [.tmp 7,zk 2] 8] .ret))) (zq [zM 0 9,zM 1 10,zC 172 [9,10] 11] (.reg [zM 0 12,zM 1 13,zC 127 [13] 14,zK .u64 14 15,zR 126 [.tmp 12,.tmp 15,zk 4] 16] []))) [] 17:=ki
def Cg:Is prog f139 (zq [zY 0 1,zV zf 2] (zq [zF 1 1 5,zL 5 6,zI .geq 6 0 7,zM 7 8,zT 8 (zF 1 1 9),zT 8 (zL 9 10),zT 8 (zI .leq 10 16 11),zA 8 11 12,zM 12 13,zT 13 (zF 2 1 14),zT 13 (zL 14 15),zT 13 (zF 1 1 16),zT 13 (zL 16 17),zT 13 (zB .geq 15 17 18),zA 13 18 19,zM 19 20,zT 20 (zF 2 1 21),zT 20 (zL 21 22),zT 20 (zF 1 1 23),zT 20 (zL 23 24),zT 20 (zI .mul 24 16 25),zT 20 (zB .leq 22 25 26),zA 20 26 27,zM 27 3] (zq [zF 5 1 28,zL 28 29,zI .geq 29 1 30,zM 30 31,zT 31 (zF 5 1 32),zT 31 (zL 32 33),zT 31 (zI .leq 33 1099511627775 34),zA 31 34 35,zM 35 36,zT 36 (zF 6 1 37),zT 36 (zL 37 38),zT 36 (zI .geq 38 1 39),zA 36 39 40,zM 40 41,zT 41 (zF 6 1 42),zT 41 (zL 42 43),zT 41 (zI .leq 43 2097152 44),zA 41 44 45,zM 45 4] (zq [zF 0 1 46,zL 46 47,zC 37 [47] 48,zM 48 49,zT 49 (zM 3 50),zA 49 50 51,zM 51 52,zT 52 (zM 4 53),zA 52 53 54,zM 54 55,zT 55 (zN 7 1 56),zT 55 (zC 173 [56] 57),zA 55 57 58,zM 58 2] .ret)))) [.tmp 2] 59:=ki
def Adh:Is prog f140 (zq [zV zn 4] (zq [zV zn 5] (.seq (zq [zM 1 6,zW (.mx .true (.tmp 6) (zk 0)) 7,zW (.mx .false (.tmp 7) (zk 8)) 8,zV zi 9] (.block 0 (.loop (zq [zB .lss 9 8 10] (.seq (.cond (.tmp 10) .skip (.exit 0)) (.seq (.block 1 (zq [zM 5 11,zM 0 12,zW (.bin .rem (.tmp 12) (.const (.int .u64 256))) 13,zK .u8 13 14,zW (.bsl 1 [.tmp 14]) 15,zP 1 1 11 15 16,zM 16 5] (.reg [zM 0 17,zW (.bin .quo (.tmp 17) (.const (.int .u64 256))) 18,zM 18 0] []))) (.reg [zI .add 9 1 19,zM 19 9] []))))))) (zq [zM 5 20,zM 20 4] .ret)))) [.tmp 4] 21:=ki
def Adf:Is prog f144 (zq [zV zf 2] (zq [zM 0 3,zI .eql 3 1 4,zM 4 2] .ret)) [.tmp 2] 5:=ki
def Add:Is prog f146 (zq [zV zu 4] (zq [zV zu 5] (.seq (zq [zM 0 8,zM 1 9,zW (.mx .true (.tmp 9) (zk 0)) 10,zW (.mx .false (.tmp 10) (zk 8)) 11,zC 153 [8,11] 12,zU 12 13,zV zi 14] (.block 0 (.loop (zq [zB .lss 14 13 15] (.seq (.cond (.tmp 15) .skip (.exit 0)) (.seq (.block 1 (zq [zM 14 16,zJ 1 12 14 17,zL 17 18,zM 16 6,zM 18 7] (.reg [zM 5 19,zM 7 20,zK .u64 20 21,zM 6 22,zW (.bin .mul (zk 8) (.tmp 22)) 23,zB .shl 21 23 24,zB .or 19 24 25,zM 25 5] []))) (.reg [zI .add 14 1 26,zM 26 14] []))))))) (zq [zM 5 27,zM 27 4] .ret)))) [.tmp 4] 28:=ki
def Adb:Is prog f152 (zq [zV (.pointer none) 4] (.seq (zq [zM 0 6,zW (.eqp .false (.tmp 6) (.const (.pointer none))) 7] (zc 7 (zq [zV (.pointer none) 4] .ret))) (.seq (.reg [zM 0 8,zH 8 9,zF 1 9 10,zL 10 11,zM 1 12,zW (.mx .true (.tmp 12) (zk 0)) 13,zM 0 14,zC 155 [14] 15,zW (.mx .false (.tmp 13) (.tmp 15)) 16,zB .add 11 16 17,zM 17 5] [(3,7)]) (.seq (.reg [zM 0 18,zH 18 19,zF 0 19 20,zL 20 21,zM 5 22,zM 5 23,zW (.slice 1 (.tmp 21) none (.some (.tmp 22)) (.some (.tmp 23))) 24,zM 0 25,zH 25 26,zF 1 26 27,zL 27 28,zD [zn,zi,zi,zi] [(0,(1,.tmp 24)),(1,(1,.tmp 28))] 29,zY 29 30,zM 30 4] [(3,10)]) .ret)))) [.tmp 4] 31:=ki
def yT:Is prog f153 (zq [zV zn 4] (.seq (zq [zM 0 5,zM 1 6,zC 148 [5,6] 7,zQ 7 8] (zc 8 (zq [zV zn 4] .ret))) (.seq (.reg [zW (.bsl 1 []) 9,zM 0 10,zH 10 11,zF 0 11 12,zL 12 13,zM 0 14,zH 14 15,zF 1 15 16,zL 16 17,zM 1 18,zB .sub 17 18 19,zM 0 20,zH 20 21,zF 1 21 22,zL 22 23,zW (.slice 1 (.tmp 13) (.some (.tmp 19)) (.some (.tmp 23)) none) 24,zP 1 1 9 24 25,zM 25 4] [(4,8),(4,14),(8,14)]) .ret))) [.tmp 4] 26:=ki
def yP:Is prog f161 (zq [zV zn 4,zV zf 5] (zq [zV zn 6] (.seq (zq [zM 1 9,zU 9 10,zV zi 11] (.block 0 (.loop (zq [zB .lss 11 10 12] (.seq (.cond (.tmp 12) .skip (.exit 0)) (.seq (.block 1 (zq [zJ 1 9 11 13,zL 13 14,zM 14 8] (.seq (zq [zM 8 15,zM 0 16,zB .geq 15 16 17] (zc 17 (zq [zV zn 4,zV zf 5] .ret))) (zq [zM 6 18,zM 0 19,zM 8 20,zB .sub 19 20 21,zW (.bin .sub (.tmp 21) (.const (.int .u64 1))) 22,zW (.bsl 1 [.tmp 22]) 23,zP 1 8 18 23 24,zM 24 6] (.reg [zM 8 25,zM 25 0] []))))) (.reg [zI .add 11 1 26,zM 26 11] []))))))) (zq [zM 6 27,zM 27 4,zV zt 5] .ret)))) [.tmp 4,.tmp 5] 28:=ki
def Ac8:Is prog f164 (zq [zV (.int .u32 0) 2] (zq [zM 0 3,zW (.un .xor (.tmp 3)) 4,zM 4 2] .ret)) [.tmp 2] 5:=ki
def yO:Is prog f167 (zq [zV zi 4] (.seq (zq [zM 0 8,zM 1 9,zC 74 [8,9] 10,zQ 10 11] (zc 11 (zq [zV zi 4] .ret))) (zq [zM 1 12,zU 12 13,zK .u64 13 14,zC 121 [14] 15,zM 15 5] (.seq (zq [zM 1 16,zC 187 [16] 17,zU 17 18,zV zi 19] (.block 0 (.loop (zq [zB .lss 19 18 20] (.seq (.cond (.tmp 20) .skip (.exit 0)) (.seq (.block 1 (zq [zM 19 21,zJ 1 17 19 22,zL 22 23,zM 21 6,zM 23 7] (.reg [zM 5 24,zM 7 25,zC 121 [25] 26,zM 0 27,zM 1 28,zM 6 29,zJ 2 28 29 30,zF 1 30 31,zL 31 32,zC 188 [27,32] 33,zB .add 26 33 34,zB .add 24 34 35,zM 35 5] [(2,8)]))) (.reg [zI .add 19 1 36,zM 36 19] []))))))) (zq [zM 5 37,zM 37 4] .ret))))) [.tmp 4] 38:=ki
def Ac5:Is prog f169 (zq [zV zn 2] (zq [zV zn 3] (.seq (.block 0 (.loop (.seq (zq [zM 0 4,zW (.bin .geq (.tmp 4) (.const (.int .u64 128))) 5] (.cond (.tmp 5) .skip (.exit 0))) (.block 1 (zq [zM 3 6,zM 0 7,zK .u8 7 8,zW (.bin .or (.tmp 8) (.const (.int .u8 128))) 9,zW (.bsl 1 [.tmp 9]) 10,zP 1 1 6 10 11,zM 11 3] (.reg [zM 0 12,zW (.bin .shr (.tmp 12) (.const (.int .u64 7))) 13,zM 13 0] [])))))) (zq [zM 3 14,zM 0 15,zK .u8 15 16,zW (.bsl 1 [.tmp 16]) 17,zP 1 1 14 17 18,zM 18 2] .ret)))) [.tmp 2] 19:=ki
def fF:Is prog f173 (zq [zY 0 1,zV zf 2] (.seq (zq [zF 1 1 3,zL 3 4,zI .eql 4 0 5] (zc 5 (zq [zF 3 1 6,zL 6 7,zW (.bin .eql (.tmp 7) (.const (.int .u64 0))) 8,zM 8 9,zT 9 (zF 4 1 10),zT 9 (zL 10 11),(.some (9,.true),(.bin .eql (.tmp 11) (.const (.int .u64 0)),.some 12)),zA 9 12 13,zM 13 2] .ret))) (zq [zF 3 1 14,zL 14 15,zF 4 1 16,zL 16 17,zB .lss 15 17 18,zM 18 19,zT 19 (zF 4 1 20),zT 19 (zL 20 21),(.some (19,.true),(.bin .leq (.tmp 21) (.const (.int .u64 4611686018427387904)),.some 22)),zA 19 22 23,zM 23 24,zT 24 (zF 4 1 25),zT 24 (zL 25 26),zT 24 (zF 3 1 27),zT 24 (zL 27 28),zT 24 (zB .sub 26 28 29),zT 24 (zF 2 1 30),zT 24 (zL 30 31),(.some (24,.true),(.cvt .u64 (.tmp 31),.some 32)),zT 24 (zB .geq 29 32 33),zA 24 33 34,zM 34 2] .ret))) [.tmp 2] 35:=ki
def tX:Is prog f177 (zq [zV zf 2,zX [zi,zi] 3] (.seq (.block 0 (.seq (.reg [zM 0 5,zH 5 6,zF 1 6 7,zL 7 8,zU 8 9,zC 58 [] 10,zB .lss 9 10 11,zM 11 4] [(3,5)]) (.cond (.tmp 4) (zq [zD [zi,zi] [] 12,zV zf 2,zS 2 3 12] .ret) (.seq (.reg [zM 0 14,zH 14 15,zF 1 15 16,zL 16 17,zM 0 18,zH 18 19,zF 17 19 20,zL 20 21,zC 91 [21] 22,zC 183 [17,22] 23,zQ 23 24,zM 24 13] [(3,7),(3,8)]) (zc 13 (zq [zR 34 [zk 12,zk 0] 25,zV zf 2,zS 2 3 25] .ret)))))) (zq [zM 0 26,zH 26 27,zF 0 27 28,(none,(.store 1 (.tmp 28) (.func 191),none))] (zq [zD [zi,zi] [] 29,zV zt 2,zS 2 3 29] .ret)))) [.tmp 2,.cell 3 (.some 2)] 30:=ki
def Ac1:Is prog f182 (zq [zV zn 2,zV zi 3] (zq [zM 0 5,zU 5 6,zC 129 [6] 7,zI .add 7 1 8,zC 80 [8] 9,zM 9 4] (zq [zM 4 10,zM 0 11,zC 135 [10,11] 12] (zq [zM 4 13,zC 83 [13] 14,zE 14 0 15,zE 14 1 16,zM 15 2,zM 16 3] .ret)))) [.tmp 2,.tmp 3] 17:=ki
def Acv:Is prog f191 (zq [zV zf 2,zX [zi,zi] 3] (zq [zR 34 [zk 9,zk 0] 4,zV zf 2,zS 2 3 4] .ret)) [.tmp 2,.cell 3 (.some 2)] 5:=ki
def yG:Is prog f193 (zq [zV zn 4,zX [zi,zi] 5] (.scope (zq [zM 0 13,zC 92 [13] 14,zM 14 6] (zq [zV zn 7] (zq [zV zf 8] (zq [zV zi 9,zV zi 10,zV zi 11] (.seq (.label 1) (.seq (zq [zM 6 15,zC 155 [15] 16,zI .eql 16 0 17,zM 17 18,zZ 18 (zM 6 19),zZ 18 (zC 111 [19] 20),(.some (18,.false),(.un .not (.tmp 20),.some 21)),zO 18 21 22] (zc 22 (.goto 0))) (zq [zM 6 23,zC 95 [23] 24,zM 24 9] (zq [zM 6 26,zC 198 [26] 27,zM 27 25,zE 25 0 28,zE 25 1 29,zM 28 8,zM 29 10] (.seq (zq [zM 10 30,zM 1 31,zM 7 32,zU 32 33,zB .sub 31 33 34,zB .gtr 30 34 35] (zc 35 (zq [zM 6 36,zM 9 37,zR 101 [.tmp 36,zk 11,.tmp 37] 38] (.goto 0)))) (.seq (zq [zM 8 39,zQ 39 40] (zc 40 (zq [zM 7 41,zM 6 42,zM 10 43,zC 153 [42,43] 44,zP 1 1 41 44 45,zM 45 7] (.goto 1)))) (zq [zM 6 46,zC 95 [46] 47,zM 47 9] (zq [zM 6 48,zC 199 [48] 49,zM 49 11] (.seq (zq [zM 11 50,zM 7 51,zU 51 52,zB .gtr 50 52 53] (zc 53 (.reg [zM 6 54,zM 9 55,zR 101 [.tmp 54,zk 10,.tmp 55] 56] []))) (.seq (zq [zM 6 57,zC 111 [57] 58] (zc 58 (.reg [zM 7 59,zM 11 60,zM 10 61,zC 200 [59,60,61] 62,zM 62 7] []))) (.seq (.goto 1) (.seq (.label 0) (.seq (zq [zM 6 63,zC 94 [63] 64,zX [zi,zi] 12,zS 2 12 64] (zq [zN 2 12 65,zC 32 [65] 66,zQ 66 67] (zc 67 (zq [zN 2 12 68,zV zn 4,zS 2 5 68] .ret)))) (zq [zM 7 69,zD [zi,zi] [] 70,zM 69 4,zS 2 5 70] .ret)))))))))))))))))))) [.tmp 4,.cell 5 (.some 2)] 71:=ki
def Acq:Is prog f204 (zq [zV zi 2] (zq [zV zi 3] (.seq (zq [zM 0 6,zU 6 7,zV zi 8] (.block 0 (.loop (zq [zB .lss 8 7 9] (.seq (.cond (.tmp 9) .skip (.exit 0)) (.seq (.block 1 (zq [zJ 3 6 8 10,zN 3 10 11,zX [zn,zi,zi] 5,zS 3 5 11] (.reg [zM 3 12,zF 0 5 13,zL 13 14,zU 14 15,zR 121 [.const (.int .u64 18446744073709551615)] 16,zW (.bin .mul (zk 2) (.tmp 16)) 17,zB .add 15 17 18,zB .add 12 18 19,zM 19 3] [(2,4)]))) (.reg [zI .add 8 1 20,zM 20 8] []))))))) (zq [zM 3 21,zM 21 2] .ret)))) [.tmp 2] 22:=ki
def yC:Is prog f210 (zq [zV zi 4,zV zi 5] (.seq (zq [zM 1 6,zI .lss 6 4 7] (zc 7 (zq [zV zi 4,zV zi 5] .ret))) (zq [zM 0 8,zM 1 9,zM 8 4,zM 9 5] .ret))) [.tmp 4,.tmp 5] 10:=ki
def yB:Is prog f213 (zq [zV zf 2] (zq [zM 0 7,zC 212 [7] 8,zM 8 3] (.seq (zq [zM 0 9,zW (.eqp .false (.tmp 9) (.const (.pointer none))) 10,zM 10 11,zZ 11 (zM 3 12),zZ 11 (zM 0 13),(.some (11,.false),(.nilc (.tmp 13),.some 14)),zZ 11 (zF 0 14 15),zZ 11 (zL 15 16),zZ 11 (zU 16 17),zZ 11 (zB .geq 12 17 18),zO 11 18 19] (zc 19 (zq [zV zf 2] .ret))) (zq [zV zi 4] (.seq (zq [zM 0 21,zH 21 22,zF 0 22 23,zL 23 24,zM 3 25,zC 215 [24,25] 26,zM 26 20,zE 20 0 27,zE 20 1 28,zM 27 5,zM 28 6] (zq [zM 6 29] (zc 29 (zq [zM 0 30,zH 30 31,zF 1 31 32,zL 32 33,zM 5 34,zW (.mlook (.tmp 33) (.tmp 34)) 35,zM 35 4] (.reg [zM 0 36,zH 36 37,zF 1 37 38,zL 38 39,zM 5 40,zM 3 41,zI .add 41 1 42,(none,(.mput (.tmp 39) (.tmp 40) (.tmp 42),none))] []))))) (zq [zM 0 43,zM 0 44,zH 44 45,zF 2 45 46,zL 46 47,zM 4 48,zW (.bsl 1 [.tmp 48]) 49,zP 1 8 47 49 50,zH 43 51,zF 2 51 52,zS 1 52 50] (zq [zV zt 2] .ret))))))) [.tmp 2] 53:=ki
def yA:Is prog f215 (zq [zV (.int .u32 0) 4,zV zf 5] (.seq (zq [zM 1 8,zI .lss 8 0 9,zM 9 10,zZ 10 (zM 1 11),zZ 10 (zM 0 12),zZ 10 (zU 12 13),zZ 10 (zI .sub 13 4 14),zZ 10 (zB .gtr 11 14 15),zO 10 15 16] (zc 16 (zq [zV (.int .u32 0) 4,zV zf 5] .ret))) (zq [zV (.int .u32 0) 6] (.seq (zq [zV zi 17] (.block 0 (.loop (zq [zI .lss 17 4 18] (.seq (.cond (.tmp 18) .skip (.exit 0)) (.seq (.block 1 (zq [zM 17 19,zM 19 7] (.reg [zM 6 20,zM 0 21,zM 1 22,zM 7 23,zB .add 22 23 24,zJ 1 21 24 25,zL 25 26,zK .u32 26 27,zM 7 28,zW (.bin .mul (zk 8) (.tmp 28)) 29,zB .shl 27 29 30,zB .or 20 30 31,zM 31 6] []))) (.reg [zI .add 17 1 32,zM 32 17] []))))))) (zq [zM 6 33,zM 33 4,zV zt 5] .ret))))) [.tmp 4,.tmp 5] 34:=ki
def b4:Is prog f4 (zq [zY 0 1,zV zf 2] (.seq (zq [zV zi 3] (.block 0 (.loop (.seq (zq [zM 3 4,zF 1 1 5,zL 5 6,zU 6 7,zB .lss 4 7 8,zM 8 9,zT 9 (zM 3 10),zT 9 (zI .lss 10 20 11),zA 9 11 12] (.cond (.tmp 12) .skip (.exit 0))) (.seq (.block 1 (zq [zF 1 1 15,zL 15 16,zM 3 17,zJ 3 16 17 18,zN 3 18 19,zC 14 [19] 20] (zc 20 (zq [zV zt 2] .ret)))) (.reg [zM 3 13,zI .add 13 1 14,zM 14 3] [])))))) (zq [zF 1 1 21,zL 21 22,zU 22 23,zI .gtr 23 20 24,zM 24 2] .ret))) [.tmp 2] 25:=ki
def b6:Is prog f6 (zq [zY 0 2,zX [zu,zu,zn] 4,zV zn 5,zV zi 6] (.seq (zq [zN 3 2 9,zC 18 [9] 10,zC 17 [10] 11,zQ 11 12,zM 12 13,zZ 13 (zM 1 14),zZ 13 (zC 19 [14] 15),(.some (13,.false),(.un .not (.tmp 15),.some 16)),zO 13 16 17] (zc 17 (zq [zD [zu,zu,zn] [] 18,zS 3 4 18,zV zn 5,zV (.int .i64 3) 6] .ret))) (zq [zN 3 2 20,zC 18 [20] 21,zM 1 22,zC 21 [22] 23,zC 20 [21,23] 24,zM 24 19,zE 19 0 25,zE 19 1 26,zX [zu,zu,zn] 7,zS 3 7 25,zM 26 8] (.seq (zq [zN 3 7 27,zC 17 [27] 28,zQ 28 29] (zc 29 (zq [zD [zu,zu,zn] [] 30,zS 3 4 30,zV zn 5,zV (.int .i64 3) 6] .ret))) (zq [zN 3 7 31,zM 8 32,zS 3 4 31,zM 32 5,zV zi 6] .ret))))) [.cell 4 (.some 3),.tmp 5,.tmp 6] 33:=ki
def b12:Is prog f12 (zq [zY 0 2,zY 1 3,zV zf 4] (zq [zF 0 2 5,zL 5 6,zF 0 3 7,zL 7 8,zB .eql 6 8 9,zM 9 10,zT 10 (zF 1 2 11),zT 10 (zL 11 12),zT 10 (zF 1 3 13),zT 10 (zL 13 14),zT 10 (zB .eql 12 14 15),zA 10 15 16,zM 16 17,zT 17 (zF 2 2 18),zT 17 (zL 18 19),zT 17 (zF 2 3 20),zT 17 (zL 20 21),zT 17 (zC 28 [19,21] 22),zA 17 22 23,zM 23 4] .ret)) [.tmp 4] 24:=ki
def b18:Is prog f18 (zq [zY 0 1,zX [zu,zu,zn] 2] (zq [zN 3 1 7,zC 41 [7] 8,zX [zu,zu,zn] 3,zS 3 3 8] (.seq (zq [zF 2 3 9,zL 9 10,zU 10 11,zV zi 12] (.block 0 (.loop (zq [zB .lss 12 11 13] (.seq (.cond (.tmp 13) .skip (.exit 0)) (.seq (.block 1 (zq [zJ 2 10 12 14,zN 2 14 15,zX [zn,zn] 5,zS 2 5 15] (zq [zF 0 5 16,zL 16 17,zU 17 18,zV zi 19] (.block 2 (.loop (zq [zB .lss 19 18 20] (.seq (.cond (.tmp 20) .skip (.exit 2)) (.seq (.block 3 (zq [zM 19 21,zM 21 6] (.reg [zF 0 5 22,zL 22 23,zM 6 24,zJ 2 23 24 25,zF 1 25 26,(none,(.store 1 (.tmp 26) (.const (.slice none 0 0)),none))] []))) (.reg [zI .add 19 1 27,zM 27 19] []))))))))) (.reg [zI .add 12 1 28,zM 28 12] []))))))) (zq [zN 3 3 29,zS 3 2 29] .ret)))) [.cell 2 (.some 3)] 30:=ki
def b20:Is prog f20 (zq [zY 0 2,zX [zu,zu,zn] 4,zV zn 5] (.seq (zq [zF 2 2 12,zL 12 13,zU 13 14,zV zi 15] (.block 0 (.loop (zq [zB .lss 15 14 16] (.seq (.cond (.tmp 16) .skip (.exit 0)) (.seq (.block 1 (zq [zM 15 17,zJ 2 13 15 18,zN 2 18 19,zX [zn,zn] 7,zM 17 6,zS 2 7 19] (zq [zF 0 7 20,zL 20 21,zU 21 22,zV zi 23] (.block 2 (.loop (zq [zB .lss 23 22 24] (.seq (.cond (.tmp 24) .skip (.exit 2)) (.seq (.block 3 (zq [zM 23 25,zJ 2 21 23 26,zN 2 26 27,zX [zu,zn] 9,zM 25 8,zS 2 9 27] (zq [zM 1 29,zF 0 9 30,zL 30 31,zC 44 [29,31] 32,zM 32 28,zE 28 0 33,zE 28 1 34,zX [zu,zn] 10,zS 2 10 33,zM 34 11] (zq [zF 1 10 35,zL 35 36,zF 1 9 37,zS 1 37 36] (zq [zF 0 7 38,zL 38 39,zM 8 40,zN 2 9 41,zJ 2 39 40 42,zS 2 42 41] (.reg [zM 1 43,zN 2 9 44,zF 1 2 45,zL 45 46,zM 6 47,zK .u64 47 48,zB .add 46 48 49,zC 46 [44,49] 50,zC 45 [43,50] 51,zM 51 1] [])))))) (.reg [zI .add 23 1 52,zM 52 23] []))))))))) (.reg [zI .add 15 1 53,zM 53 15] []))))))) (zq [zN 3 2 54,zM 1 55,zS 3 4 54,zM 55 5] .ret))) [.cell 4 (.some 3),.tmp 5] 56:=ki
def b23:Is prog f23 (zq [zY 0 1,zX [zn,zn,zu,zi,zi,zu,zu,zi,zi] 2] (zq [zX [zn,zn,zu,zi,zi,zu,zu,zi,zi] 3] (zq [zF 0 1 14,zL 14 15,zD [zi,zu,zu] [(0,(1,zk 3)),(1,(1,.tmp 15))] 16,zC 49 [16] 17,zM 17 13,zE 13 0 18,zE 13 1 19,zF 0 3 20,zS 1 20 18] (.seq (zq [zF 1 1 21,zL 21 22,zU 22 23,zV zi 24] (.block 0 (.loop (zq [zB .lss 24 23 25] (.seq (.cond (.tmp 25) .skip (.exit 0)) (.seq (.block 1 (zq [zJ 3 22 24 26,zN 3 26 27,zX [zu,zu,zn] 5,zS 3 5 27] (zq [zN 3 5 29,zC 50 [29] 30,zM 30 28,zE 28 0 31,zE 28 1 32,zM 31 6,zM 32 7] (zq [zF 1 3 33,zL 33 34,zF 1 5 35,zL 35 36,zF 2 5 37,zL 37 38,zU 38 39,zF 0 3 40,zL 40 41,zU 41 42,zD [zu,zi,zi] [(0,(1,.tmp 36)),(1,(1,.tmp 39)),(2,(1,.tmp 42))] 43,zW (.bsl 3 [.tmp 43]) 44,zP 3 24 34 44 45,zF 1 3 46,zS 1 46 45] (.reg [zF 0 3 47,zL 47 48,zM 6 49,zR 51 [.const (.int .u8 1),.tmp 49] 50,zP 1 1 48 50 51,zF 0 3 52,zS 1 52 51] [(1,3)]))))) (.reg [zI .add 24 1 53,zM 53 24] []))))))) (zq [zF 1 3 55,zL 55 56,zC 52 [56] 57,zM 57 54,zE 54 0 58,zE 54 1 59,zM 58 8,zM 59 9] (zq [zM 8 60,zR 51 [.const (.int .u8 2),.tmp 60] 61,zM 61 10] (zq [zF 0 1 62,zL 62 63,zF 1 3 64,zL 64 65,zF 0 3 66,zL 66 67,zU 67 68,zM 10 69,zU 69 70,zC 53 [63,65,68,70] 71,zF 2 3 72,zS 7 72 71] (zq [zF 2 3 74,zN 7 74 75,zC 54 [75] 76,zM 76 73,zE 73 0 77,zE 73 1 78,zM 77 11,zM 78 12] (zq [zF 0 3 79,zL 79 80,zM 10 81,zP 1 1 80 81 82,zM 11 83,zP 1 1 82 83 84,zF 0 3 85,zS 1 85 84] (zq [zN 9 3 86,zS 9 2 86] .ret)))))))))) [.cell 2 (.some 9)] 87:=ki
def b33:Is prog f33 (zq [zX [zu,zi,zi] 4,zV zf 5] (.scope (zq [zM 0 10,zU 10 11,zV zi 6,zM 11 7,zV zi 8] (.seq (zq [zM 0 12,zC 66 [12] 13,zQ 13 14] (zc 14 (zq [zD [zu,zi,zi] [] 15,zS 3 4 15,zV zf 5] .ret))) (.seq (.label 0) (.seq (zq [zM 6 16,zM 7 17,zB .eql 16 17 18] (zc 18 (zq [zD [zu,zi,zi] [] 19,zS 3 4 19,zV zf 5] .ret))) (zq [zM 6 20,zM 7 21,zB .add 20 21 22,zI .quo 22 2 23,zM 23 8] (.seq (zq [zM 0 24,zM 8 25,zJ 3 24 25 26,zN 3 26 27,zX [zu,zi,zi] 9,zS 3 9 27] (.block 0 (zq [zM 1 30,zF 0 9 31,zL 31 32,zB .lss 30 32 33,zM 33 29] (.cond (.tmp 29) (.reg [zM 8 34,zM 34 7] []) (zq [zM 1 36,zN 3 9 37,zC 67 [37] 38,zB .geq 36 38 39,zM 39 35] (.cond (.tmp 35) (.reg [zM 8 40,zI .add 40 1 41,zM 41 6] []) (zq [zN 3 9 28,zS 3 4 28,zV zt 5] .ret))))))) (.goto 0))))))))) [.cell 4 (.some 3),.tmp 5] 42:=ki
def b34:Is prog f34 (zq [zX [zi,zi] 4] (.seq (zq [zM 0 5,zI .eql 5 0 6] (zc 6 (zq [zD [zi,zi] [] 7,zS 2 4 7] .ret))) (zq [zM 0 8,zM 1 9,zD [zi,zi] [(0,(1,.tmp 8)),(1,(1,.tmp 9))] 10,zS 2 4 10] .ret))) [.cell 4 (.some 2)] 11:=ki
def b37:Is prog f37 (zq [zV zf 2] (zq [zM 0 3,zW (.bin .geq (.tmp 3) (.const (.int .u64 1))) 4,zM 4 5,zT 5 (zM 0 6),(.some (5,.true),(.bin .lss (.tmp 6) (.const (.int .u64 4611686018427387904)),.some 7)),zA 5 7 8,zM 8 2] .ret)) [.tmp 2] 9:=ki
def b39:Is prog f39 (zq [zV zi 2] (zq [zV zi 3] (.seq (zq [zM 0 6,zU 6 7,zV zi 8] (.block 0 (.loop (zq [zB .lss 8 7 9] (.seq (.cond (.tmp 9) .skip (.exit 0)) (.seq (.block 1 (zq [zJ 2 6 8 10,zN 2 10 11,zX [zn,zn] 5,zS 2 5 11] (.reg [zM 3 12,zF 1 5 13,zL 13 14,zU 14 15,zB .add 12 15 16,zM 16 3] []))) (.reg [zI .add 8 1 17,zM 17 8] []))))))) (zq [zM 3 18,zM 18 2] .ret)))) [.tmp 2] 19:=ki
def b41:Is prog f41 (zq [zY 0 1,zX [zu,zu,zn] 2] (zq [zV zn 3] (.seq (zq [zF 2 1 6,zL 6 7,zU 7 8,zV zi 9] (.block 0 (.loop (zq [zB .lss 9 8 10] (.seq (.cond (.tmp 10) .skip (.exit 0)) (.seq (.block 1 (zq [zJ 2 7 9 11,zN 2 11 12,zX [zn,zn] 5,zS 2 5 12] (.reg [zM 3 13,zN 2 5 14,zC 72 [14] 15,zW (.bsl 2 [.tmp 15]) 16,zP 2 48 13 16 17,zM 17 3] []))) (.reg [zI .add 9 1 18,zM 18 9] []))))))) (zq [zM 3 19,zF 2 1 20,zS 1 20 19] (zq [zN 3 1 21,zS 3 2 21] .ret))))) [.cell 2 (.some 3)] 22:=ki
def b44:Is prog f44 (zq [zY 1 3,zX [zu,zn] 4,zV zf 5] (zq [zM 0 7,zW (.mkf 76 [] [.tmp 3]) 8,zC 75 [7,8] 9,zM 9 6] (.seq (zq [zM 6 10,zM 0 11,zU 11 12,zB .eql 10 12 13] (zc 13 (zq [zD [zu,zn] [] 14,zS 2 4 14,zV zf 5] .ret))) (zq [zM 0 15,zM 6 16,zJ 2 15 16 17,zN 2 17 18,zC 47 [18] 19,zS 2 4 19,zV zt 5] .ret)))) [.cell 4 (.some 2),.tmp 5] 20:=ki
def b53:Is prog f53 (zq [zX [zu,zi,zi,zu,zu,zi,zi] 8] (zq [zM 0 10,zM 1 11,zU 11 12,zM 1 13,zC 88 [13] 14,zM 2 15,zM 3 16,zD [zu,zi,zi,zu,zu,zi,zi] [(0,(1,.tmp 10)),(1,(1,.tmp 12)),(2,(1,.tmp 14)),(5,(1,.tmp 15)),(6,(1,.tmp 16))] 17,zX [zu,zi,zi,zu,zu,zi,zi] 9,zS 7 9 17] (zq [zM 1 19,zC 89 [19] 20,zM 20 18,zE 18 0 21,zE 18 1 22,zF 3 9 23,zS 1 23 21,zF 4 9 24,zS 1 24 22] (zq [zN 7 9 25,zS 7 8 25] .ret)))) [.cell 8 (.some 7)] 26:=ki
def b54:Is prog f54 (zq [zY 0 1,zV zn 2,zV zi 3] (zq [zN 7 1 8,zC 90 [8] 9,zM 9 7,zE 7 0 10,zE 7 1 11,zM 10 4,zM 11 5] (.seq (zq [zM 5 12,zI .neq 12 0 13] (zc 13 (zq [zM 5 14,zV zn 2,zM 14 3] .ret))) (zq [zM 4 16,zC 86 [16] 17,zM 17 15,zE 15 0 18,zE 15 1 19,zM 18 6,zM 19 5] (zq [zM 6 20,zM 6 21,zU 21 22,zC 91 [22] 23,zP 1 1 20 23 24,zM 5 25,zM 24 2,zM 25 3] .ret))))) [.tmp 2,.tmp 3] 26:=ki
def b59:Is prog f59 (zq [zV zf 4] (.seq (zq [zM 0 6,zU 6 7,zM 1 8,zU 8 9,zB .neq 7 9 10] (zc 10 (zq [zV zf 4] .ret))) (.seq (zq [zV zi 5] (.block 0 (.loop (.seq (zq [zM 5 11,zM 0 12,zU 12 13,zB .lss 11 13 14] (.cond (.tmp 14) .skip (.exit 0))) (.seq (.block 1 (.seq (.reg [zM 0 17,zM 5 18,zJ 2 17 18 19,zN 2 19 20,zM 1 21,zM 5 22,zJ 2 21 22 23,zN 2 23 24,zC 102 [20,24] 25,zQ 25 26] [(3,7)]) (zc 26 (zq [zV zf 4] .ret)))) (.reg [zM 5 15,zI .add 15 1 16,zM 16 5] [])))))) (zq [zV zt 4] .ret)))) [.tmp 4] 27:=ki
def b64:Is prog f64 (zq [zV zn 2] (zq [zV zn 3] (zq [zV zu 4] (zq [zV zi 5] (.seq (zq [zM 0 10,zR 108 [.tmp 10,zk 16] 11,zV zi 12] (.block 0 (.loop (zq [zB .lss 12 11 13] (.seq (.cond (.tmp 13) .skip (.exit 0)) (.seq (.block 1 (zq [zM 0 14,zC 95 [14] 15,zM 15 6] (zq [zM 0 16,zC 109 [16] 17,zM 17 7] (zq [zM 0 18,zR 108 [.tmp 18,zk 16] 19,zM 19 8] (zq [zM 4 20,zM 7 21,zB .add 20 21 22,zM 8 23,zM 5 24,zI .add 24 1 25,zM 0 26,zR 108 [.tmp 26,zk 1099511627775] 27,zB .add 25 27 28,zD [zu,zi,zi] [(0,(1,.tmp 22)),(1,(1,.tmp 23)),(2,(1,.tmp 28))] 29,zX [zu,zi,zi] 9,zS 3 9 29] (.seq (zq [zM 7 30,zW (.bin .geq (.tmp 30) (.const (.int .u64 4611686018427387904))) 31,zM 31 32,zZ 32 (zN 3 9 33),zZ 32 (zM 4 34),zZ 32 (zM 5 35),zZ 32 (zC 110 [33,34,35] 36),(.some (32,.false),(.un .not (.tmp 36),.some 37)),zO 32 37 38] (zc 38 (.reg [zM 0 39,zM 6 40,zR 101 [.tmp 39,zk 3,.tmp 40] 41] []))) (.seq (zq [zM 0 42,zC 111 [42] 43,zQ 43 44] (zc 44 (zq [zV zn 2] .ret))) (zq [zM 3 45,zN 3 9 46,zW (.bsl 3 [.tmp 46]) 47,zP 3 24 45 47 48,zM 48 3] (.reg [zN 3 9 49,zC 67 [49] 50,zF 2 9 51,zL 51 52,zM 50 4,zM 52 5] [(0,3),(1,3)]))))))))) (.reg [zI .add 12 1 53,zM 53 12] []))))))) (zq [zM 3 54,zM 54 2] .ret)))))) [.tmp 2] 55:=ki
def b65:Is prog f65 (zq [zY 0 2,zV zf 4] (zq [zM 1 8,zC 89 [8] 9,zM 9 7,zE 7 0 10,zE 7 1 11,zM 10 5,zM 11 6] (.seq (.reg [zF 1 2 12,zL 12 13,zM 1 14,zU 14 15,zB .eql 13 15 16,zM 16 17,zT 17 (zF 2 2 18),zT 17 (zL 18 19),zT 17 (zM 1 20),zT 17 (zC 88 [20] 21),zT 17 (zB .eql 19 21 22),zA 17 22 23,zM 23 24,zT 24 (zF 3 2 25),zT 24 (zL 25 26),zT 24 (zM 5 27),zT 24 (zB .eql 26 27 28),zA 24 28 29,zM 29 30,zT 30 (zF 4 2 31),zT 30 (zL 31 32),zT 30 (zM 6 33),zT 30 (zB .eql 32 33 34),zA 30 34 35,zM 35 4] [(7,9)]) .ret))) [.tmp 4] 36:=ki
def b81:Is prog f81 (zq [zV zi 0] (zq [zR 121 [.const (.int .u64 4611686018427387903)] 1,zW (.bin .mul (zk 2) (.tmp 1)) 2,zW (.bin .add (zk 5) (.tmp 2)) 3,zI .add 3 4 4,zM 4 0] .ret)) [.tmp 0] 5:=ki
def b84:Is prog f84 (zq [zY 0 1,zV zi 2] (zq [zF 2 1 6,zL 6 7,zC 39 [7] 8,zC 129 [8] 9,zW (.bin .add (zk 40) (.tmp 9)) 10,zM 10 3] (.seq (zq [zF 2 1 11,zL 11 12,zU 12 13,zV zi 14] (.block 0 (.loop (zq [zB .lss 14 13 15] (.seq (.cond (.tmp 15) .skip (.exit 0)) (.seq (.block 1 (zq [zM 14 16,zJ 2 12 14 17,zN 2 17 18,zX [zn,zn] 5,zM 16 4,zS 2 5 18] (.reg [zM 3 19,zF 1 1 20,zL 20 21,zM 4 22,zK .u64 22 23,zB .add 21 23 24,zN 2 5 25,zC 130 [24,25] 26,zB .add 19 26 27,zM 27 3] []))) (.reg [zI .add 14 1 28,zM 28 14] []))))))) (zq [zM 3 29,zM 29 2] .ret)))) [.tmp 2] 30:=ki
def b87:Is prog f87 (.seq (zq [zM 1 8,zC 66 [8] 9,zQ 9 10] (zc 10 (zq [zM 0 11,zR 123 [.tmp 11,zk 3] 12] .ret))) (zq [zM 0 13,zM 1 14,zU 14 15,zK .u64 15 16,zC 133 [13,16] 17] (zq [zV zu 4] (zq [zV zi 5] (zq [zM 1 18,zU 18 19,zV zi 20] (.block 0 (.loop (zq [zB .lss 20 19 21] (.seq (.cond (.tmp 21) .skip (.exit 0)) (.seq (.block 1 (zq [zJ 3 18 20 22,zN 3 22 23,zX [zu,zi,zi] 7,zS 3 7 23] (zq [zM 0 24,zF 0 7 25,zL 25 26,zM 4 27,zB .sub 26 27 28,zC 133 [24,28] 29] (zq [zM 0 30,zF 1 7 31,zL 31 32,zK .u64 32 33,zC 133 [30,33] 34] (zq [zM 0 35,zF 2 7 36,zL 36 37,zM 5 38,zB .sub 37 38 39,zI .sub 39 1 40,zK .u64 40 41,zC 133 [35,41] 42] (.reg [zN 3 7 43,zC 67 [43] 44,zF 2 7 45,zL 45 46,zM 44 4,zM 46 5] [(0,3),(1,3)])))))) (.reg [zI .add 20 1 47,zM 47 20] []))))))))))) [] 48:=ki
def xZ:Is prog f93 (zq [zX [zi,zu,zu] 2] (zq [zM 0 6,zC 142 [6] 7,zD [zi,zu,zu] [(0,(1,.tmp 7))] 8,zX [zi,zu,zu] 3,zS 3 3 8] (zq [zM 0 9,zC 143 [9] 10,zF 1 3 11,zS 1 11 10] (.seq (zq [zF 0 3 12,zL 12 13,zC 144 [13] 14] (zc 14 (.reg [zM 0 15,zC 145 [15] 16,zF 2 3 17,zS 1 17 16] []))) (zq [zM 0 18,zC 95 [18] 19,zM 19 4] (zq [zM 0 20,zR 146 [.tmp 20,zk 4] 21,zM 21 5] (.seq (zq [zM 0 22,zC 111 [22] 23,zQ 23 24] (zc 24 (zq [zD [zi,zu,zu] [] 25,zS 3 2 25] .ret))) (.seq (zq [zM 5 26,zN 3 3 27,zC 124 [27] 28,zC 127 [28] 29,zK .u64 29 30,zB .neq 26 30 31] (zc 31 (zq [zM 0 32,zM 4 33,zR 101 [.tmp 32,zk 6,.tmp 33] 34] (zq [zD [zi,zu,zu] [] 35,zS 3 2 35] .ret)))) (zq [zN 3 3 36,zS 3 2 36] .ret))))))))) [.cell 2 (.some 3)] 37:=ki
def b94:Is prog f94 (zq [zX [zi,zi] 2] (.seq (zq [zM 0 3,zW (.eqp .false (.tmp 3) (.const (.pointer none))) 4] (zc 4 (zq [zR 34 [zk 19,zk 0] 5,zS 2 2 5] .ret))) (zq [zM 0 6,zH 6 7,zF 2 7 8,zN 2 8 9,zS 2 2 9] .ret))) [.cell 2 (.some 2)] 10:=ki
def b98:Is prog f98 (zq [zV (.int .u8 0) 2] (.seq (zq [zM 0 3,zR 148 [.tmp 3,zk 1] 4,zQ 4 5] (zc 5 (zq [zV (.int .u8 0) 2] .ret))) (.seq (.reg [zM 0 6,zH 6 7,zF 0 7 8,zL 8 9,zM 0 10,zH 10 11,zF 1 11 12,zL 12 13,zI .sub 13 1 14,zJ 1 9 14 15,zL 15 16,zM 16 2] [(3,7)]) .ret))) [.tmp 2] 17:=ki
def u7:Is prog f99 (zq [zV zi 4] (zq [zM 1 7,zC 69 [7] 8,zX [zu,zu,zn] 5,zS 3 5 8] (zq [zM 1 9,zC 107 [9] 10] (.seq (zq [zM 1 11,zC 111 [11] 12,zQ 12 13] (zc 13 (zq [zV zi 4] .ret))) (zq [zM 0 14,zH 14 15,zF 9 15 16,zL 16 17,zU 17 18,zM 18 6] (.seq (.block 0 (zq [zM 6 20,zI .eql 20 16 21,zM 21 19] (.cond (.tmp 19) (zq [zV (.int .i64 2) 4] .ret) (.seq (.reg [zF 0 5 23,zL 23 24,zM 0 25,zH 25 26,zF 5 26 27,zL 27 28,zB .gtr 24 28 29,zM 29 30,zZ 30 (zM 6 31),zZ 30 (zI .gtr 31 0 32),zZ 30 (zM 32 33),zT 33 (zF 0 5 34),zT 33 (zL 34 35),zT 33 (zM 0 36),(.some (33,.true),(.nilc (.tmp 36),.some 37)),zT 33 (zF 6 37 38),zT 33 (zF 0 38 39),zT 33 (zL 39 40),zT 33 (zB .lss 35 40 41),zT 33 (zM 41 42),zZ 42 (zF 1 5 43),zZ 42 (zL 43 44),zZ 42 (zM 0 45),(.some (42,.false),(.nilc (.tmp 45),.some 46)),zZ 42 (zF 6 46 47),zZ 42 (zN 3 47 48),zZ 42 (zC 71 [48] 49),zZ 42 (zB .lss 44 49 50),(.some (33,.true),(.pick (.tmp 42) (.const (.bool .true)) (.tmp 50),.some 51)),(.some (30,.false),(.pick (.tmp 33) (.tmp 51) (.const (.bool .false)),.some 52)),zO 30 52 53,zM 53 22] [(1,5),(12,17),(21,25),(21,26)]) (zc 22 (zq [zV (.int .i64 13) 4] .ret)))))) (.seq (.reg [zM 0 54,zM 0 55,zH 55 56,zF 9 56 57,zL 57 58,zF 1 5 59,zL 59 60,zF 2 5 61,zL 61 62,zU 62 63,zM 0 64,zH 64 65,zF 2 65 66,zL 66 67,zD [zu,zi,zi] [(0,(1,.tmp 60)),(1,(1,.tmp 63)),(2,(1,.tmp 67))] 68,zW (.bsl 3 [.tmp 68]) 69,zP 3 24 58 69 70,zH 54 71,zF 9 71 72,zS 1 72 70] [(4,6),(4,8),(6,8),(4,13),(6,13),(8,13)]) (.seq (.reg [zM 0 73,zF 0 5 74,zL 74 75,zF 1 5 76,zL 76 77,zF 2 5 78,zL 78 79,zU 79 80,zW (.mksl 2 48 (.tmp 80) (.tmp 80)) 81,zD [zu,zu,zn] [(0,(1,.tmp 75)),(1,(1,.tmp 77)),(2,(1,.tmp 81))] 82,zH 73 83,zF 6 83 84,zS 3 84 82] [(2,4),(2,6),(4,6),(2,8),(4,8)]) (.seq (.reg [zM 0 85,zM 0 86,zH 86 87,zF 18 87 88,zL 88 89,zM 0 90,zH 90 91,zF 2 91 92,zL 92 93,zN 3 5 94,zD [zi,zi,zi,zi,zu,zu,zu,zi,zi,zn,zn,zn,zu,zu,zu,zu,zn,zu,zu,zn] [(0,(1,zk 1)),(1,(1,.tmp 93)),(17,(3,.tmp 94))] 95,zW (.bsl 20 [.tmp 95]) 96,zP 20 240 89 96 97,zH 85 98,zF 18 98 99,zS 1 99 97] [(4,8),(4,9),(8,9)]) (zq [zV zi 4] .ret)))))))))) [.tmp 4] 100:=ki
def Aae:Is prog f101 (zq [zM 0 6,zC 111 [6] 7] (zc 7 (.reg [zM 0 8,zM 1 9,zM 2 10,zC 34 [9,10] 11,zH 8 12,zF 2 12 13,zS 2 13 11] []))) [] 14:=ki
def Aad:Is prog f102 (zq [zY 0 2,zY 1 3,zV zf 4] (zq [zF 0 2 5,zL 5 6,zF 0 3 7,zL 7 8,zB .eql 6 8 9,zM 9 10,zT 10 (zF 1 2 11),zT 10 (zL 11 12),zT 10 (zF 1 3 13),zT 10 (zL 13 14),zT 10 (zC 151 [12,14] 15),zA 10 15 16,zM 16 4] .ret)) [.tmp 4] 17:=ki
def z9:Is prog f114 (zq [zV zn 4] (zq [zM 0 8,zM 1 9,zC 159 [8,9] 10,zM 10 7,zE 7 0 11,zE 7 1 12,zM 11 5,zM 12 6] (zq [zM 6 13,zM 0 14,zW (.mkf 101 [.tmp 14] []) 15,zM 0 16,zC 95 [16] 17,zC 160 [13,15,17] 18] (.seq (zq [zM 0 19,zC 111 [19] 20,zQ 20 21] (zc 21 (zq [zV zn 4] .ret))) (zq [zM 5 22,zM 22 4] .ret))))) [.tmp 4] 23:=ki
def Adr:Is prog f121 (zq [zV zi 2] (zq [zV (.int .i64 1) 3] (.seq (.block 0 (.loop (.seq (zq [zM 0 4,zW (.bin .geq (.tmp 4) (.const (.int .u64 128))) 5] (.cond (.tmp 5) .skip (.exit 0))) (.block 1 (zq [zM 0 6,zW (.bin .shr (.tmp 6) (.const (.int .u64 7))) 7,zM 7 0] (.reg [zM 3 8,zI .add 8 1 9,zM 9 3] [])))))) (zq [zM 3 10,zM 10 2] .ret)))) [.tmp 2] 11:=ki
def Adn:Is prog f129 (zq [zV zi 2] (zq [zM 0 3,zW (.mx .true (.tmp 3) (zk 0)) 4,zM 4 0] (zq [zM 0 5,zK .u64 5 6,zC 121 [6] 7,zM 0 8,zB .add 7 8 9,zM 9 2] .ret))) [.tmp 2] 10:=ki
def yY:Is prog f130 (zq [zY 1 3,zV zi 4] (.seq (zq [zM 0 5,zN 2 3 6,zC 40 [5,6] 7,zQ 7 8] (zc 8 (zq [zV zi 4] .ret))) (.seq (.reg [zM 0 9,zF 0 3 10,zL 10 11,zC 167 [9,11] 12,zF 1 3 13,zL 13 14,zU 14 15,zK .u64 15 16,zC 121 [16] 17,zB .add 12 17 18,zM 18 4] [(2,5),(3,5)]) .ret))) [.tmp 4] 19:=ki
def Adl:Is prog f132 (.reg [zM 0 4,zM 1 5,zM 1 6,zC 73 [6] 7,zC 168 [4,5,7] 8] []) [] 9:=ki
def RH:Is prog f142 (zq [zV zi 2] (zq [zM 0 5,zC 95 [5] 6,zM 6 3] (.seq (zq [zM 0 7,zR 153 [.tmp 7,zk 4] 8,zW (.b2s (.tmp 8)) 9,zW (.bin .neq (.tmp 9) (.const (.string (.mk (#[84,72,79,76]))))) 10] (zc 10 (.reg [zM 0 11,zM 3 12,zR 101 [.tmp 11,zk 14,.tmp 12] 13] []))) (zq [zM 0 14,zC 98 [14] 15,zK .i64 15 16,zM 16 4] (.seq (zq [zM 4 17,zI .lss 17 1 18,zM 18 19,zZ 19 (zM 4 20),zZ 19 (zI .gtr 20 3 21),zO 19 21 22] (zc 22 (.reg [zM 0 23,zM 0 24,zC 95 [24] 25,zI .sub 25 1 26,zR 101 [.tmp 23,zk 8,.tmp 26] 27] []))) (.seq (zq [zM 0 28,zC 111 [28] 29,zQ 29 30] (zc 30 (zq [zV zi 2] .ret))) (zq [zM 4 31,zM 31 2] .ret))))))) [.tmp 2] 32:=ki
def Ade:Is prog f145 (zq [zV zu 2] (zq [zM 0 3,zR 174 [.tmp 3,.func 73] 4,zM 4 2] .ret)) [.tmp 2] 5:=ki
def yU:Is prog f147 (zq [zV zi 4,zV zf 5] (zq [zM 0 8,zC 92 [8] 9,zM 9 6] (zq [zM 6 10,zM 1 11,zC 175 [11] 12,zC 108 [10,12] 13,zM 13 7] (.seq (zq [zM 6 14,zC 111 [14] 15,zQ 15 16] (zc 16 (zq [zV zi 4,zV zf 5] .ret))) (zq [zM 7 17,zC 137 [17] 18,zM 18 4,zV zt 5] .ret))))) [.tmp 4,.tmp 5] 19:=ki
def Adc:Is prog f149 (zq [zV zf 4] (zq [zM 0 5,zM 1 6,zC 176 [5,6] 7,zM 7 4] .ret)) [.tmp 4] 8:=ki
def nG:Is prog f150 (zq [zV zf 2,zX [zi,zi] 3] (zq [zM 0 10,zC 96 [10] 11,zM 11 9,zE 9 0 12,zE 9 1 13,zE 9 2 14,zE 9 3 15,zX [zi,zi] 7,zM 12 4,zM 13 5,zM 14 6,zS 2 7 15] (.seq (zq [zM 6 16,zQ 16 17] (zc 17 (zq [zN 2 7 18,zV zf 2,zS 2 3 18] .ret))) (zq [zM 4 20,zC 106 [20] 21,zM 21 19,zE 19 0 22,zE 19 1 23,zX [zu,zi,zi,zu,zu,zi,zi] 8,zS 7 8 22,zS 2 7 23] (.seq (.block 0 (zq [zN 2 7 25,zC 32 [25] 26,zQ 26 27,zM 27 24] (.cond (.tmp 24) (zq [zN 2 7 28,zM 5 29,zC 57 [28,29] 30,zV zf 2,zS 2 3 30] .ret) (.seq (.reg [zN 7 8 32,zM 0 33,zH 33 34,zF 10 34 35,zN 7 35 36,zW (.eqa .true 7 (.tmp 32) (.tmp 36)) 37,zM 37 31] [(0,4)]) (zc 31 (zq [zR 34 [zk 12,zk 0] 38,zV zf 2,zS 2 3 38] .ret)))))) (zq [zM 0 39,zM 0 40,zM 0 41,zH 41 42,zF 1 42 43,zL 43 44,zU 44 45,zH 39 46,zF 17 46 47,zS 1 47 45,zH 40 48,zF 0 48 49,(none,(.store 1 (.tmp 49) (.func 177),none))] (zq [zD [zi,zi] [] 50,zV zt 2,zS 2 3 50] .ret))))))) [.tmp 2,.cell 3 (.some 2)] 51:=ki
def Ada:Is prog f155 (zq [zV zi 2] (.seq (zq [zM 0 3,zW (.eqp .false (.tmp 3) (.const (.pointer none))) 4] (zc 4 (zq [zV zi 2] .ret))) (.seq (.reg [zM 0 5,zH 5 6,zF 0 6 7,zL 7 8,zU 8 9,zM 0 10,zH 10 11,zF 1 11 12,zL 12 13,zB .sub 9 13 14,zM 14 2] [(3,8)]) .ret))) [.tmp 2] 15:=ki
def Yf:Is prog f158 (zq [zV zn 6,zV zf 7] (.seq (zq [zM 1 13,zU 13 14,zM 0 15,zU 15 16,zB .neq 14 16 17] (zc 17 (zq [zV zn 6,zV zf 7] .ret))) (zq [zW (.bsl 1 []) 18,zM 2 19,zP 1 1 18 19 20,zM 20 8] (zq [zV zn 9] (.seq (zq [zM 0 21,zU 21 22,zV zi 23] (.block 0 (.loop (zq [zB .lss 23 22 24] (.seq (.cond (.tmp 24) .skip (.exit 0)) (.seq (.block 1 (zq [zM 23 25,zJ 2 21 23 26,zN 2 26 27,zX [zn,zn] 11,zM 25 10,zS 2 11 27] (zq [zM 1 28,zM 10 29,zJ 1 28 29 30,zL 30 31,zM 31 12] (.seq (zq [zM 12 32,zI .lss 32 0 33,zM 33 34,zZ 34 (zM 12 35),zZ 34 (zM 8 36),zZ 34 (zU 36 37),zZ 34 (zB .gtr 35 37 38),zO 34 38 39] (zc 39 (zq [zV zn 6,zV zf 7] .ret))) (zq [zF 0 11 40,zL 40 41,zC 21 [41] 42,zF 0 11 43,zS 1 43 42] (zq [zM 8 44,zM 12 45,zM 12 46,zW (.slice 1 (.tmp 44) none (.some (.tmp 45)) (.some (.tmp 46))) 47,zF 1 11 48,zS 1 48 47] (zq [zM 8 49,zM 12 50,zW (.slice 1 (.tmp 49) (.some (.tmp 50)) none none) 51,zM 51 8] (.reg [zM 9 52,zN 2 11 53,zW (.bsl 2 [.tmp 53]) 54,zP 2 48 52 54 55,zM 55 9] [])))))))) (.reg [zI .add 23 1 56,zM 56 23] []))))))) (.seq (zq [zM 8 57,zU 57 58,zI .gtr 58 0 59] (zc 59 (zq [zV zn 6,zV zf 7] .ret))) (zq [zM 9 60,zM 60 6,zV zt 7] .ret))))))) [.tmp 6,.tmp 7] 61:=ki
def Ye:Is prog f159 (zq [zV zn 4,zV zf 5] (zq [zM 0 12,zC 95 [12] 13,zM 13 6] (zq [zM 0 14,zM 1 15,zW (.mx .false (.tmp 15) (zk 1048576)) 16,zC 108 [14,16] 17,zM 17 7] (zq [zM 0 18,zC 98 [18] 19,zM 19 8] (zq [zV zn 9] (.seq (.block 0 (zq [zM 0 26,zC 111 [26] 27,zQ 27 28,zM 28 25] (.cond (.tmp 25) (zq [zV zn 4,zV zf 5] .ret) (zq [zM 8 30,zW (.bin .eql (.tmp 30) (.const (.int .u8 0))) 31,zM 31 29] (.cond (.tmp 29) (.reg [zM 0 32,zM 7 33,zC 153 [32,33] 34,zM 34 9] []) (zq [zM 8 36,zW (.bin .eql (.tmp 36) (.const (.int .u8 1))) 37,zM 37 35] (.cond (.tmp 35) (.reg [zM 0 38,zM 7 39,zC 181 [38,39] 40,zM 40 9] []) (.reg [zM 0 20,zM 0 21,zC 95 [21] 22,zI .sub 22 1 23,zR 101 [.tmp 20,zk 7,.tmp 23] 24] [])))))))) (.seq (zq [zM 0 41,zC 111 [41] 42,zQ 42 43] (zc 43 (zq [zV zn 4,zV zf 5] .ret))) (zq [zM 9 45,zC 182 [45] 46,zM 46 44,zE 44 0 47,zE 44 1 48,zM 47 10,zM 48 11] (zq [zM 9 49,zM 10 50,zM 0 51,zM 6 52,zC 184 [51,52] 53,zC 183 [50,53] 54,zM 49 4,zM 54 5] .ret))))))))) [.tmp 4,.tmp 5] 55:=ki
def yQ:Is prog f160 (zq [zM 0 6,zQ 6 7] (zc 7 (.reg [zM 1 8,zM 2 9,zW (.call (.tmp 8) [zk 12,.tmp 9]) 10] []))) [] 11:=ki
def Ac7:Is prog f165 (zq [zV (.int .u32 0) 4] (zq [zC 186 [] 8,zX [.int .u32 0,.int .u32 0,.int .u32 0,.int .u32 0,.int .u32 0,.int .u32 0,.int .u32 0,.int .u32 0,.int .u32 0,.int .u32 0,.int .u32 0,.int .u32 0,.int .u32 0,.int .u32 0,.int .u32 0,.int .u32 0] 5,zS 16 5 8] (.seq (zq [zM 1 9,zU 9 10,zV zi 11] (.block 0 (.loop (zq [zB .lss 11 10 12] (.seq (.cond (.tmp 12) .skip (.exit 0)) (.seq (.block 1 (zq [zJ 1 9 11 13,zL 13 14,zM 14 7] (zq [zM 0 15,zM 7 16,zK .u32 16 17,zB .xor 15 17 18,zM 18 0] (zq [zM 0 19,zW (.bin .shr (.tmp 19) (.const (.int .u64 4))) 20,zM 0 21,zW (.bin .and (.tmp 21) (.const (.int .u32 15))) 22,zW (.aadr 16 1 (.tmp 5) (.tmp 22)) 23,zL 23 24,zB .xor 20 24 25,zM 25 0] (.reg [zM 0 26,zW (.bin .shr (.tmp 26) (.const (.int .u64 4))) 27,zM 0 28,zW (.bin .and (.tmp 28) (.const (.int .u32 15))) 29,zW (.aadr 16 1 (.tmp 5) (.tmp 29)) 30,zL 30 31,zB .xor 27 31 32,zM 32 0] []))))) (.reg [zI .add 11 1 33,zM 33 11] []))))))) (zq [zM 0 34,zM 34 4] .ret)))) [.tmp 4] 35:=ki
def yL:Is prog f171 (zq [zV zn 2,zV zf 3] (zq [zM 0 7,zC 190 [7] 8,zM 8 6,zE 6 0 9,zE 6 1 10,zM 9 4,zM 10 5] (.seq (zq [zM 5 11,zI .neq 11 0 12,zM 12 13,zZ 13 (zM 4 14),zZ 13 (zU 14 15),zZ 13 (zC 129 [15] 16),zZ 13 (zM 0 17),zZ 13 (zU 17 18),zZ 13 (zB .geq 16 18 19),zO 13 19 20] (zc 20 (zq [zV zn 2,zV zf 3] .ret))) (zq [zM 4 21,zM 21 2,zV zt 3] .ret)))) [.tmp 2,.tmp 3] 22:=ki
def Ac4:Is prog f172 (zq [zM 0 4,zM 1 5,zU 5 6,zK .u64 6 7,zC 133 [4,7] 8] (.reg [zM 0 9,zM 1 10,zC 125 [9,10] 11] [])) [] 12:=ki
def Ac3:Is prog f175 (zq [zV zi 2] (zq [zM 0 3,zW (.mx .false (.tmp 3) (zk 2097152)) 4,zM 4 2] .ret)) [.tmp 2] 5:=ki
def Ac0:Is prog f183 (zq [zV zf 4] (zq [zM 0 5,zW (.b2s (.tmp 5)) 6,zM 1 7,zW (.b2s (.tmp 7)) 8,zB .eql 6 8 9,zM 9 4] .ret)) [.tmp 4] 10:=ki
def Acz:Is prog f184 (zq [zV zn 4] (.seq (zq [zM 0 5,zW (.eqp .false (.tmp 5) (.const (.pointer none))) 6,zM 6 7,zZ 7 (zM 1 8),zZ 7 (zI .lss 8 0 9),zO 7 9 10,zM 10 11,zZ 11 (zM 1 12),zZ 11 (zM 0 13),(.some (11,.false),(.nilc (.tmp 13),.some 14)),zZ 11 (zF 1 14 15),zZ 11 (zL 15 16),zZ 11 (zB .gtr 12 16 17),zO 11 17 18] (zc 18 (zq [zV zn 4] .ret))) (.seq (.reg [zW (.bsl 1 []) 19,zM 0 20,zH 20 21,zF 0 21 22,zL 22 23,zM 1 24,zM 0 25,zH 25 26,zF 1 26 27,zL 27 28,zW (.slice 1 (.tmp 23) (.some (.tmp 24)) (.some (.tmp 28)) none) 29,zP 1 1 19 29 30,zM 30 4] [(4,9)]) .ret))) [.tmp 4] 31:=ki
def yF:Is prog f194 (zq [zV (.int .u32 0) 2] (.seq (zq [zM 0 3,zW (.bin .and (.tmp 3) (.const (.int .u32 1))) 4,zW (.bin .eql (.tmp 4) (.const (.int .u32 1))) 5] (zc 5 (zq [zM 0 6,zW (.bin .shr (.tmp 6) (.const (.int .u64 1))) 7,zW (.bin .xor (.tmp 7) (.const (.int .u32 2197175160))) 8,zM 8 2] .ret))) (zq [zM 0 9,zW (.bin .shr (.tmp 9) (.const (.int .u64 1))) 10,zM 10 2] .ret))) [.tmp 2] 11:=ki
def tT:Is prog f205 (zq [zY 1 3] (.block 0 (zq [zN 3 3 19,zC 211 [19] 20,zQ 20 21,zM 21 18] (.cond (.tmp 18) (.reg [zM 0 22,zR 123 [.tmp 22,zk 3] 23] []) (zq [zF 1 3 25,zL 25 26,zI .eql 26 0 27,zM 27 24] (.cond (.tmp 24) (zq [zM 0 28,zF 0 3 29,zL 29 30,zU 30 31,zI .sub 31 1 32,zK .u64 32 33,zW (.bin .mul (.tmp 33) (.const (.int .u64 2))) 34,zC 133 [28,34] 35] (.reg [zM 0 36,zF 0 3 37,zL 37 38,zC 125 [36,38] 39] [])) (zq [zM 0 4,zF 2 3 5,zL 5 6,zI .sub 6 4 7,zK .u64 7 8,zW (.bin .mul (.tmp 8) (.const (.int .u64 2))) 9,zW (.bin .add (.tmp 9) (.const (.int .u64 1))) 10,zC 133 [4,10] 11] (.reg [zM 0 12,zF 1 3 13,zL 13 14,zI .sub 14 1 15,zK .u64 15 16,zC 133 [12,16] 17] [])))))))) [] 40:=ki
def Acp:Is prog f206 (zq [zV (.pointer none) 2] (zq [zW (.bsl 1 []) 3,zM 0 4,zP 1 1 3 4 5,zW (.mkmap) 6,zD [zn,.map none,zn] [(0,(1,.tmp 5)),(1,(1,.tmp 6))] 7,zY 7 8,zM 8 2] .ret)) [.tmp 2] 9:=ki
def RG:Is prog f211 (zq [zY 0 1,zV zf 2] (zq [zF 0 1 4,zL 4 5,zU 5 6,zM 6 3] (.seq (.block 0 (.seq (.block 3 (.block 2 (.seq (.block 1 (.seq (.seq (zq [zF 1 1 8,zL 8 9,zI .eql 9 0 10,zM 10 7] (zc 7 (.exit 1))) (.seq (zq [zM 3 12,zI .gtr 12 0 13,zM 13 11] (zc 11 (.exit 2))) (zq [zF 1 1 15,zL 15 16,zI .lss 16 0 17,zM 17 18,zZ 18 (zF 1 1 19),zZ 18 (zL 19 20),zZ 18 (zI .gtr 20 65536 21),zO 18 21 22,zM 22 14] (zc 14 (.exit 3))))) (.exit 0))) (.seq (zq [zF 2 1 23,zL 23 24,zI .eql 24 0 25,zM 25 26,zT 26 (zM 3 27),zT 26 (zI .geq 27 1 28),zA 26 28 29,zM 29 30,zT 30 (zM 3 31),zT 30 (zI .leq 31 1048576 32),zA 30 32 33,zM 33 2] .ret) (.exit 0))))) (.seq (zq [zV zf 2] .ret) (.exit 0)))) (zq [zF 2 1 34,zL 34 35,zI .geq 35 4 36,zM 36 37,zT 37 (zF 2 1 38),zT 37 (zL 38 39),zT 37 (zI .leq 39 1048576 40),zA 37 40 41,zM 41 2] .ret)))) [.tmp 2] 42:=ki
def Acm:Is prog f212 (zq [zV zi 2] (.seq (zq [zM 0 3,zW (.eqp .false (.tmp 3) (.const (.pointer none))) 4] (zc 4 (zq [zV zi 2] .ret))) (zq [zM 0 5,zH 5 6,zF 2 6 7,zL 7 8,zU 8 9,zM 9 2] .ret))) [.tmp 2] 10:=ki
def b9:Is prog f9 (zq [zV zn 4] (zq [zV zn 5] (.seq (zq [zV zi 6] (.block 0 (.loop (.seq (zq [zM 6 8,zM 1 9,zU 9 10,zB .lss 8 10 11,zM 11 12,zT 12 (zM 6 13),zT 12 (zI .lss 13 40 14),zA 12 14 15] (.cond (.tmp 15) .skip (.exit 0))) (.seq (.block 1 (zq [zM 1 18,zM 6 19,zJ 1 18 19 20,zL 20 21,zK .i64 21 22,zM 0 23,zU 23 24,zW (.mx .false (.tmp 22) (.tmp 24)) 25,zM 25 7] (zq [zM 5 26,zM 0 27,zM 7 28,zW (.slice 1 (.tmp 27) none (.some (.tmp 28)) none) 29,zW (.bsl 1 [.tmp 29]) 30,zP 1 24 26 30 31,zM 31 5] (.reg [zM 0 32,zM 7 33,zW (.slice 1 (.tmp 32) (.some (.tmp 33)) none none) 34,zM 34 0] [])))) (.reg [zM 6 16,zI .add 16 1 17,zM 17 6] [])))))) (zq [zM 5 35,zM 0 36,zW (.bsl 1 [.tmp 36]) 37,zP 1 24 35 37 38,zM 38 4] .ret)))) [.tmp 4] 39:=ki
def b15:Is prog f15 (zq [zX [zn,zn] 4,zX [zi,zi] 5] (zq [zM 0 14,zC 31 [14] 15,zM 15 13,zE 13 0 16,zE 13 1 17,zX [zu,zi,zi,zu,zu,zi,zi,zi,zn] 6,zX [zi,zi] 7,zS 9 6 16,zS 2 7 17] (.seq (zq [zN 2 7 18,zC 32 [18] 19,zQ 19 20] (zc 20 (.seq (.reg [zD [zn,zn] [] 21,zN 2 7 22,zS 2 4 21,zS 2 5 22] [(1,2)]) .ret))) (zq [zF 8 6 24,zL 24 25,zM 1 26,zC 33 [25,26] 27,zM 27 23,zE 23 0 28,zE 23 1 29,zX [zu,zi,zi] 8,zS 3 8 28,zM 29 9] (.seq (zq [zM 9 30,zQ 30 31] (zc 31 (zq [zD [zn,zn] [] 32,zR 34 [zk 16,zk 0] 33,zS 2 4 32,zS 2 5 33] .ret))) (zq [zM 0 35,zN 3 8 36,zF 0 6 37,zF 5 37 38,zL 38 39,zC 35 [35,36,39] 40,zM 40 34,zE 34 0 41,zE 34 1 42,zX [zu,zu,zn] 10,zS 3 10 41,zS 2 7 42] (.seq (zq [zN 2 7 43,zC 32 [43] 44,zQ 44 45] (zc 45 (.seq (.reg [zD [zn,zn] [] 46,zN 2 7 47,zS 2 4 46,zS 2 5 47] [(1,2)]) .ret))) (zq [zN 3 10 49,zM 1 50,zC 36 [49,50] 51,zM 51 48,zE 48 0 52,zE 48 1 53,zX [zn,zn] 11,zS 2 11 52,zM 53 12] (zq [zN 2 11 54,zD [zi,zi] [] 55,zS 2 4 54,zS 2 5 55] .ret))))))))) [.cell 4 (.some 2),.cell 5 (.some 2)] 56:=ki
def b16:Is prog f16 (zq [zV zn 2] (zq [zC 8 [] 5,zM 5 3] (zq [zM 3 6,zM 0 7,zC 10 [6,7] 8,zM 8 4] (zq [zM 4 9,zM 3 10,zC 11 [10] 11,zP 20 240 9 11 12,zM 12 2] .ret)))) [.tmp 2] 13:=ki
def b19:Is prog f19 (zq [zV zf 2] (zq [zM 0 3,zR 42 [.tmp 3,.func 43] 4,zM 4 2] .ret)) [.tmp 2] 5:=ki
def b28:Is prog f28 (zq [zV zf 4] (.seq (zq [zM 0 6,zU 6 7,zM 1 8,zU 8 9,zB .neq 7 9 10] (zc 10 (zq [zV zf 4] .ret))) (.seq (zq [zV zi 5] (.block 0 (.loop (.seq (zq [zM 5 11,zM 0 12,zU 12 13,zB .lss 11 13 14] (.cond (.tmp 14) .skip (.exit 0))) (.seq (.block 1 (.seq (.reg [zM 0 17,zM 5 18,zJ 2 17 18 19,zN 2 19 20,zM 1 21,zM 5 22,zJ 2 21 22 23,zN 2 23 24,zC 29 [20,24] 25,zQ 25 26] [(3,7)]) (zc 26 (zq [zV zf 4] .ret)))) (.reg [zM 5 15,zI .add 15 1 16,zM 16 5] [])))))) (zq [zV zt 4] .ret)))) [.tmp 4] 27:=ki
def b30:Is prog f30 (zq [zV zf 2] (.seq (zq [zV zi 3] (.block 0 (.loop (.seq (zq [zM 3 4,zM 0 5,zU 5 6,zB .lss 4 6 7,zM 7 8,zT 8 (zM 3 9),zT 8 (zI .lss 9 30 10),zA 8 10 11] (.cond (.tmp 11) .skip (.exit 0))) (.seq (.block 1 (zq [zM 0 14,zM 3 15,zJ 2 14 15 16,zN 2 16 17,zC 61 [17] 18] (zc 18 (zq [zV zt 2] .ret)))) (.reg [zM 3 12,zI .add 12 1 13,zM 13 3] [])))))) (zq [zM 0 19,zU 19 20,zI .gtr 20 30 21,zM 21 2] .ret))) [.tmp 2] 22:=ki
def x8:Is prog f31 (zq [zX [zu,zi,zi,zu,zu,zi,zi,zi,zn] 2,zX [zi,zi] 3] (zq [zM 0 11,zC 62 [11] 12,zM 12 10,zE 10 0 13,zE 10 1 14,zE 10 2 15,zX [zu,zi,zi,zu,zu,zi,zi] 4,zX [zi,zi] 6,zS 7 4 13,zM 14 5,zS 2 6 15] (.seq (zq [zN 2 6 16,zC 32 [16] 17,zQ 17 18] (zc 18 (.seq (.reg [zD [zu,zi,zi,zu,zu,zi,zi,zi,zn] [] 19,zN 2 6 20,zS 9 2 19,zS 2 3 20] [(1,2)]) .ret))) (zq [zF 5 4 21,zL 21 22,zF 6 4 23,zL 23 24,zB .add 22 24 25,zM 25 7] (.seq (zq [zM 7 26,zM 5 27,zB .gtr 26 27 28] (zc 28 (zq [zD [zu,zi,zi,zu,zu,zi,zi,zi,zn] [] 29,zM 5 30,zR 34 [zk 3,.tmp 30] 31,zS 9 2 29,zS 2 3 31] .ret))) (zq [zM 0 33,zF 5 4 34,zL 34 35,zM 7 36,zW (.slice 1 (.tmp 33) (.some (.tmp 35)) (.some (.tmp 36)) none) 37,zR 63 [.tmp 37,.const (.int .u8 2),.func 64] 38,zM 38 32,zE 32 0 39,zE 32 1 40,zE 32 2 41,zM 39 8,zM 40 9,zS 2 6 41] (.seq (.block 0 (zq [zN 2 6 43,zC 32 [43] 44,zQ 44 45,zM 45 42] (.cond (.tmp 42) .skip (zq [zM 9 47,zF 6 4 48,zL 48 49,zB .lss 47 49 50,zM 50 46] (.cond (.tmp 46) (.reg [zM 9 51,zR 34 [zk 9,.tmp 51] 52,zS 2 6 52] []) (zq [zN 7 4 54,zM 8 55,zC 65 [54,55] 56,zQ 56 57,zM 57 53] (zc 53 (.reg [zR 34 [zk 12,zk 0] 58,zS 2 6 58] [])))))))) (.seq (zq [zN 2 6 59,zC 32 [59] 60,zQ 60 61] (zc 61 (zq [zD [zu,zi,zi,zu,zu,zi,zi,zi,zn] [] 62,zN 2 6 63,zF 5 4 64,zL 64 65,zC 57 [63,65] 66,zS 9 2 62,zS 2 3 66] .ret))) (zq [zN 7 4 67,zM 5 68,zM 8 69,zD [zu,zi,zi,zu,zu,zi,zi,zi,zn] [(0,(7,.tmp 67)),(7,(1,.tmp 68)),(8,(1,.tmp 69))] 70,zD [zi,zi] [] 71,zS 9 2 70,zS 2 3 71] .ret))))))))) [.cell 2 (.some 9),.cell 3 (.some 2)] 72:=ki
def b35:Is prog f35 (zq [zY 1 4,zX [zu,zu,zn] 6,zX [zi,zi] 7] (.seq (zq [zF 2 4 11,zL 11 12,zM 2 13,zB .geq 12 13 14] (zc 14 (zq [zD [zu,zu,zn] [] 15,zF 2 4 16,zL 16 17,zR 34 [zk 3,.tmp 17] 18,zS 3 6 15,zS 2 7 18] .ret))) (zq [zM 0 20,zF 2 4 21,zL 21 22,zM 2 23,zW (.slice 1 (.tmp 20) (.some (.tmp 22)) (.some (.tmp 23)) none) 24,zR 68 [.tmp 24,.const (.int .u8 1),.func 69] 25,zM 25 19,zE 19 0 26,zE 19 1 27,zE 19 2 28,zX [zu,zu,zn] 8,zX [zi,zi] 10,zS 3 8 26,zM 27 9,zS 2 10 28] (.seq (zq [zN 2 10 29,zC 32 [29] 30,zM 30 31,zT 31 (zF 1 8 32),zT 31 (zL 32 33),zT 31 (zF 0 4 34),zT 31 (zL 34 35),zT 31 (zB .neq 33 35 36),zT 31 (zM 36 37),zZ 37 (zF 2 8 38),zZ 37 (zL 38 39),zZ 37 (zU 39 40),zZ 37 (zF 1 4 41),zZ 37 (zL 41 42),zZ 37 (zB .neq 40 42 43),(.some (31,.true),(.pick (.tmp 37) (.const (.bool .true)) (.tmp 43),.some 44)),zA 31 44 45] (zc 45 (.reg [zR 34 [zk 12,zk 0] 46,zS 2 10 46] []))) (.seq (.reg [zN 3 8 47,zN 2 10 48,zF 2 4 49,zL 49 50,zC 57 [48,50] 51,zS 3 6 47,zS 2 7 51] [(0,1),(0,3),(1,3),(0,4)]) .ret))))) [.cell 6 (.some 3),.cell 7 (.some 2)] 52:=ki
def b40:Is prog f40 (zq [zY 1 3,zV zf 4] (zq [zM 0 5,zF 0 3 6,zL 6 7,zC 74 [5,7] 8,zM 8 9,zT 9 (zF 1 3 10),zT 9 (zL 10 11),zT 9 (zU 11 12),zT 9 (zI .leq 12 1048576 13),zA 9 13 14,zM 14 4] .ret)) [.tmp 4] 15:=ki
def b42:Is prog f42 (zq [zV zf 4] (.seq (zq [zM 0 6,zU 6 7,zI .sub 7 1 8,zM 8 5] (.block 0 (.loop (.seq (zq [zM 5 9,zI .gtr 9 0 10] (.cond (.tmp 10) .skip (.exit 0))) (.seq (.block 1 (.seq (.reg [zM 1 13,zM 0 14,zM 5 15,zJ 2 14 15 16,zN 2 16 17,zM 0 18,zM 5 19,zI .sub 19 1 20,zJ 2 18 20 21,zN 2 21 22,zW (.call (.tmp 13) [.tmp 17,.tmp 22]) 23,zI .lss 23 0 24] [(4,9)]) (zc 24 (zq [zV zf 4] .ret)))) (.reg [zM 5 11,zI .sub 11 1 12,zM 12 5] [])))))) (zq [zV zt 4] .ret))) [.tmp 4] 25:=ki
def b47:Is prog f47 (zq [zY 0 1,zX [zu,zn] 2] (zq [zW (.bsl 1 []) 3,zF 1 1 4,zL 4 5,zP 1 8 3 5 6,zF 1 1 7,zS 1 7 6] (zq [zN 2 1 8,zS 2 2 8] .ret))) [.cell 2 (.some 2)] 9:=ki
def b50:Is prog f50 (zq [zY 0 1,zV zn 2,zV zi 3] (zq [zN 3 1 5,zC 84 [5] 6,zC 80 [6] 7,zM 7 4] (zq [zM 4 8,zN 3 1 9,zC 85 [8,9] 10] (zq [zM 4 11,zC 83 [11] 12,zE 12 0 13,zE 12 1 14,zM 13 2,zM 14 3] .ret)))) [.tmp 2,.tmp 3] 15:=ki
def b58:Is prog f58 (zq [zV zi 0] (zq [zV (.int .i64 12) 0] .ret)) [.tmp 0] 1:=ki
def x7:Is prog f62 (zq [zX [zu,zi,zi,zu,zu,zi,zi] 2,zV zi 3,zX [zi,zi] 4] (zq [zM 0 13,zC 104 [13] 14,zM 14 12,zE 12 0 15,zE 12 1 16,zX [zi,zi] 6,zM 15 5,zS 2 6 16] (.seq (zq [zN 2 6 17,zC 32 [17] 18,zQ 18 19] (zc 19 (.seq (.reg [zD [zu,zi,zi,zu,zu,zi,zi] [] 20,zN 2 6 21,zS 7 2 20,zV zi 3,zS 2 4 21] [(1,2)]) .ret))) (zq [zM 0 22,zU 22 23,zC 58 [] 24,zB .sub 23 24 25,zM 25 7] (zq [zM 7 26,zM 5 27,zB .sub 26 27 28,zM 28 8] (zq [zM 0 30,zM 8 31,zM 7 32,zW (.slice 1 (.tmp 30) (.some (.tmp 31)) (.some (.tmp 32)) none) 33,zR 105 [.tmp 33,zk 2097152] 34,zM 34 29,zE 29 0 35,zE 29 1 36,zE 29 2 37,zM 35 9,zM 36 10,zS 2 6 37] (.seq (.block 0 (zq [zN 2 6 39,zC 32 [39] 40,zQ 40 41,zM 41 38] (.cond (.tmp 38) (zq [zD [zu,zi,zi,zu,zu,zi,zi] [] 42,zN 2 6 43,zM 8 44,zC 57 [43,44] 45,zS 7 2 42,zV zi 3,zS 2 4 45] .ret) (zq [zM 10 47,zM 5 48,zB .lss 47 48 49,zM 49 46] (zc 46 (zq [zD [zu,zi,zi,zu,zu,zi,zi] [] 50,zM 8 51,zM 10 52,zB .add 51 52 53,zR 34 [zk 9,.tmp 53] 54,zS 7 2 50,zV zi 3,zS 2 4 54] .ret)))))) (zq [zM 9 56,zC 106 [56] 57,zM 57 55,zE 55 0 58,zE 55 1 59,zX [zu,zi,zi,zu,zu,zi,zi] 11,zS 7 11 58,zS 2 6 59] (.seq (zq [zN 2 6 60,zC 32 [60] 61,zQ 61 62] (zc 62 (zq [zD [zu,zi,zi,zu,zu,zi,zi] [] 63,zN 2 6 64,zM 8 65,zM 10 66,zB .add 65 66 67,zI .sub 67 4 68,zM 9 69,zU 69 70,zB .sub 68 70 71,zC 57 [64,71] 72,zS 7 2 63,zV zi 3,zS 2 4 72] .ret))) (zq [zN 7 11 73,zM 8 74,zD [zi,zi] [] 75,zS 7 2 73,zM 74 3,zS 2 4 75] .ret)))))))))) [.cell 2 (.some 7),.tmp 3,.cell 4 (.some 2)] 76:=ki
def b66:Is prog f66 (zq [zV zf 2] (zq [zV zu 3] (zq [zV zi 4] (.seq (zq [zM 0 7,zU 7 8,zV zi 9] (.block 0 (.loop (zq [zB .lss 9 8 10] (.seq (.cond (.tmp 10) .skip (.exit 0)) (.seq (.block 1 (zq [zJ 3 7 9 11,zN 3 11 12,zX [zu,zi,zi] 6,zS 3 6 12] (.seq (zq [zN 3 6 13,zM 3 14,zM 4 15,zC 110 [13,14,15] 16,zQ 16 17] (zc 17 (zq [zV zf 2] .ret))) (.reg [zN 3 6 18,zC 67 [18] 19,zF 2 6 20,zL 20 21,zM 19 3,zM 21 4] [(0,3),(1,3)])))) (.reg [zI .add 9 1 22,zM 22 9] []))))))) (zq [zM 0 23,zU 23 24,zI .leq 24 16 25,zM 25 2] .ret))))) [.tmp 2] 26:=ki
def b68:Is prog f68 (zq [zX [zu,zu,zn] 6,zV zi 7,zX [zi,zi] 8] (zq [zX [zu,zu,zn] 9] (zq [zM 0 17,zR 105 [.tmp 17,zk 2097152] 18,zM 18 16,zE 16 0 19,zE 16 1 20,zE 16 2 21,zX [zi,zi] 12,zM 19 10,zM 20 11,zS 2 12 21] (.seq (zq [zN 2 12 22,zC 32 [22] 23,zQ 23 24] (zc 24 (.seq (.reg [zN 3 9 25,zN 2 12 26,zS 3 6 25,zV zi 7,zS 2 8 26] [(0,1),(1,2)]) .ret))) (zq [zM 10 27,zC 92 [27] 28,zM 28 13] (.seq (zq [zM 13 29,zC 98 [29] 30,zM 1 31,zB .neq 30 31 32] (zc 32 (.reg [zM 13 33,zR 101 [.tmp 33,zk 7,zk 0] 34] []))) (zq [zM 2 35,zM 13 36,zW (.call (.tmp 35) [.tmp 36]) 37,zX [zu,zu,zn] 14,zS 3 14 37] (zq [zM 13 38,zC 107 [38] 39] (.seq (zq [zM 13 40,zC 94 [40] 41,zM 11 42,zI .sub 42 4 43,zM 10 44,zU 44 45,zB .sub 43 45 46,zC 57 [41,46] 47,zX [zi,zi] 15,zS 2 15 47] (zq [zN 2 15 48,zC 32 [48] 49,zQ 49 50] (zc 50 (.seq (.reg [zN 3 9 51,zN 2 15 52,zS 3 6 51,zV zi 7,zS 2 8 52] [(0,1),(1,2)]) .ret)))) (zq [zN 3 14 53,zM 11 54,zD [zi,zi] [] 55,zS 3 6 53,zM 54 7,zS 2 8 55] .ret)))))))))) [.cell 6 (.some 3),.tmp 7,.cell 8 (.some 2)] 56:=ki
def b69:Is prog f69 (zq [zY 0 1,zX [zu,zu,zn] 2] (zq [zL 1 3,zW (.mkf 113 [] [.tmp 1]) 4,zC 112 [3,4] 5,zS 3 2 5] .ret)) [.cell 2 (.some 3)] 6:=ki
def b73:Is prog f73 (zq [zV zf 2] (zq [zM 0 3,zW (.bin .lss (.tmp 3) (.const (.int .u64 4611686018427387904))) 4,zM 4 2] .ret)) [.tmp 2] 5:=ki
def b74:Is prog f74 (zq [zY 0 2,zV zf 4] (.seq (zq [zM 1 6,zU 6 7,zI .gtr 7 16 8,zM 8 9,zZ 9 (zM 1 10),(.some (9,.false),(.call (.func 115) [.tmp 10,.func 116],.some 11)),(.some (9,.false),(.un .not (.tmp 11),.some 12)),zO 9 12 13] (zc 13 (zq [zV zf 4] .ret))) (zq [zW (.mkf 117 [] [.tmp 2]) 14,zM 14 5] (zq [zM 1 15,zM 5 16,zC 75 [15,16] 17,zM 1 18,zU 18 19,zB .eql 17 19 20,zM 20 4] .ret)))) [.tmp 4] 21:=ki
def b75:Is prog f75 (zq [zV zi 4] (.seq (zq [zM 0 7,zU 7 8,zV zi 9] (.block 0 (.loop (zq [zB .lss 9 8 10] (.seq (.cond (.tmp 10) .skip (.exit 0)) (.seq (.block 1 (zq [zM 9 11,zJ 2 7 9 12,zN 2 12 13,zX [zu,zn] 6,zM 11 5,zS 2 6 13] (zq [zM 1 14,zN 2 6 15,zW (.call (.tmp 14) [.tmp 15]) 16] (zc 16 (zq [zM 5 17,zM 17 4] .ret))))) (.reg [zI .add 9 1 18,zM 18 9] []))))))) (zq [zM 0 19,zU 19 20,zM 20 4] .ret))) [.tmp 4] 21:=ki
def b76:Is prog f76 (zq [zY 0 2,zV zf 3] (zq [zF 0 2 4,zL 4 5,zL 1 6,zB .eql 5 6 7,zM 7 3] .ret)) [.tmp 3] 8:=ki
def b89:Is prog f89 (zq [zV zu 2,zV zu 3] (.seq (zq [zM 0 4,zU 4 5,zI .eql 5 0 6,zM 6 7,zZ 7 (zM 0 8),zZ 7 (zC 66 [8] 9),(.some (7,.false),(.un .not (.tmp 9),.some 10)),zO 7 10 11] (zc 11 (zq [zV zu 2,zV zu 3] .ret))) (.seq (.reg [zM 0 12,zW (.iadr 3 (.tmp 12) (zk 0)) 13,zF 0 13 14,zL 14 15,zM 0 16,zM 0 17,zU 17 18,zI .sub 18 1 19,zJ 3 16 19 20,zN 3 20 21,zC 67 [21] 22,zM 15 2,zM 22 3] [(3,9),(3,10)]) .ret))) [.tmp 2,.tmp 3] 23:=ki
def b92:Is prog f92 (zq [zV (.pointer none) 2] (zq [zM 0 3,zM 0 4,zU 4 5,zM 0 6,zU 6 7,zW (.slice 1 (.tmp 3) none (.some (.tmp 5)) (.some (.tmp 7))) 8,zD [zn,zi,zi,zi] [(0,(1,.tmp 8))] 9,zY 9 10,zM 10 2] .ret)) [.tmp 2] 11:=ki
def uB:Is prog f100 (zq [zV zi 4] (zq [zM 1 6,zC 64 [6] 7,zM 7 5] (zq [zM 1 8,zC 107 [8] 9] (.seq (zq [zM 1 10,zC 111 [10] 11,zQ 11 12] (zc 12 (zq [zV zi 4] .ret))) (.seq (zq [zM 5 13,zM 0 14,zH 14 15,zF 9 15 16,zL 16 17,zC 149 [13,17] 18,zQ 18 19] (zc 19 (zq [zV (.int .i64 12) 4] .ret))) (.seq (.reg [zM 0 20,zM 0 21,zH 21 22,zF 5 22 23,zL 23 24,zM 5 25,zU 25 26,zM 5 27,zC 88 [27] 28,zM 0 29,zH 29 30,zF 2 30 31,zL 31 32,zM 0 33,zH 33 34,zF 1 34 35,zL 35 36,zU 36 37,zD [zu,zi,zi,zu,zu,zi,zi] [(0,(1,.tmp 24)),(1,(1,.tmp 26)),(2,(1,.tmp 28)),(5,(1,.tmp 32)),(6,(1,.tmp 37))] 38,zH 20 39,zF 10 39 40,zS 7 40 38] [(4,8),(4,12),(8,12),(4,16),(8,16),(12,16)]) (zq [zM 0 42,zM 0 43,zM 5 44,zC 89 [44] 45,zM 45 41,zE 41 0 46,zE 41 1 47,zH 42 48,zF 10 48 49,zF 3 49 50,zS 1 50 46,zH 43 51,zF 10 51 52,zF 4 52 53,zS 1 53 47] (zq [zM 0 54,zH 54 55,zF 0 55 56,(none,(.store 1 (.tmp 56) (.func 150),none))] (zq [zV zi 4] .ret))))))))) [.tmp 4] 57:=ki
def Aac:Is prog f105 (zq [zV zn 4,zV zi 5,zX [zi,zi] 6] (zq [zM 0 10,zC 92 [10] 11,zM 11 7] (zq [zM 7 12,zM 1 13,zC 154 [12,13] 14,zM 14 8] (.seq (zq [zM 7 15,zC 94 [15] 16,zX [zi,zi] 9,zS 2 9 16] (zq [zN 2 9 17,zC 32 [17] 18,zQ 18 19] (zc 19 (zq [zN 2 9 20,zV zn 4,zV zi 5,zS 2 6 20] .ret)))) (zq [zM 8 21,zM 7 22,zC 95 [22] 23,zD [zi,zi] [] 24,zM 21 4,zM 23 5,zS 2 6 24] .ret))))) [.tmp 4,.tmp 5,.cell 6 (.some 2)] 25:=ki
def RI:Is prog f110 (zq [zY 0 3,zV zf 6] (zq [zF 1 3 8,zL 8 9,zI .geq 9 1 10,zM 10 11,zT 11 (zF 1 3 12),zT 11 (zL 12 13),zT 11 (zI .leq 13 16 14),zA 11 14 15,zM 15 7] (zq [zM 7 16,zM 16 17,zT 17 (zF 0 3 18),zT 17 (zL 18 19),zT 17 (zM 1 20),zT 17 (zB .geq 19 20 21),zA 17 21 22,zM 22 23,zT 23 (zF 0 3 24),zT 23 (zL 24 25),(.some (23,.true),(.bin .lss (.tmp 25) (.const (.int .u64 4611686018427387904)),.some 26)),zA 23 26 27,zM 27 28,zT 28 (zN 3 3 29),zT 28 (zC 67 [29] 30),(.some (28,.true),(.bin .leq (.tmp 30) (.const (.int .u64 4611686018427387904)),.some 31)),zA 28 31 32,zM 32 33,zT 33 (zF 2 3 34),zT 33 (zL 34 35),zT 33 (zM 2 36),zT 33 (zB .gtr 35 36 37),zA 33 37 38,zM 38 39,zT 39 (zF 2 3 40),zT 39 (zL 40 41),zT 39 (zI .leq 41 1099511627775 42),zA 39 42 43,zM 43 6] .ret))) [.tmp 6] 44:=ki
def Adv:Is prog f111 (zq [zV zf 2] (zq [zM 0 3,zW (.eqp .true (.tmp 3) (.const (.pointer none))) 4,zM 4 5,zT 5 (zM 0 6),(.some (5,.true),(.nilc (.tmp 6),.some 7)),zT 5 (zF 2 7 8),zT 5 (zN 2 8 9),zT 5 (zC 32 [9] 10),zA 5 10 11,zM 11 2] .ret)) [.tmp 2] 12:=ki
def z7:Is prog f117 (zq [zY 0 2,zV zf 3] (zq [zF 1 2 4,zL 4 5,zU 5 6,zI .gtr 6 4 7,zM 7 8,zZ 8 (zL 1 9),zZ 8 (zF 1 2 10),zZ 8 (zL 10 11),zZ 8 (zC 118 [9,11] 12),(.some (8,.false),(.un .not (.tmp 12),.some 13)),zO 8 13 14,zM 14 3] .ret)) [.tmp 3] 15:=ki
def Yg:Is prog f122 (zq [zY 0 1,zV zf 2] (zq [zF 0 1 4,zL 4 5,zI .geq 5 1 6,zM 6 7,zT 7 (zF 0 1 8),zT 7 (zL 8 9),zT 7 (zI .leq 9 3 10),zA 7 10 11,zM 11 3] (zq [zM 3 12,zM 12 13,zT 13 (zF 1 1 14),zT 13 (zL 14 15),zT 13 (zC 37 [15] 16),zA 13 16 17,zM 17 18,zT 18 (zF 2 1 19),zT 18 (zL 19 20),zT 18 (zC 73 [20] 21),zA 18 21 22,zM 22 23,zT 23 (zF 0 1 24),zT 23 (zL 24 25),zT 23 (zC 144 [25] 26),zT 23 (zM 26 27),zZ 27 (zF 2 1 28),zZ 27 (zL 28 29),(.some (27,.false),(.bin .eql (.tmp 29) (.const (.int .u64 0)),.some 30)),(.some (23,.true),(.pick (.tmp 27) (.const (.bool .true)) (.tmp 30),.some 31)),zA 23 31 32,zM 32 2] .ret))) [.tmp 2] 33:=ki
def Adp:Is prog f127 (zq [zV (.int .u32 0) 2] (zq [zC 166 [] 3,zM 0 4,zC 165 [3,4] 5,zC 164 [5] 6,zM 6 2] .ret)) [.tmp 2] 7:=ki
def Adm:Is prog f131 (.reg [zM 0 4,zM 1 5,zM 1 6,zC 37 [6] 7,zC 168 [4,5,7] 8] []) [] 9:=ki
def Adk:Is prog f133 (.reg [zM 0 4,zM 1 5,zC 169 [5] 6,zC 125 [4,6] 7] []) [] 8:=ki
def yX:Is prog f134 (zq [zY 2 5] (.seq (zq [zM 1 6,zN 2 5 7,zC 40 [6,7] 8,zQ 8 9] (zc 9 (zq [zM 0 10,zR 123 [.tmp 10,zk 3] 11] .ret))) (zq [zM 0 12,zM 1 13,zF 0 5 14,zL 14 15,zC 170 [12,13,15] 16] (.reg [zM 0 17,zF 1 5 18,zL 18 19,zU 19 20,zK .u64 20 21,zC 133 [17,21] 22] [])))) [] 23:=ki
def yW:Is prog f135 (.seq (zq [zM 1 6,zU 6 7,zI .gtr 7 1048576 8] (zc 8 (zq [zM 0 9,zR 123 [.tmp 9,zk 2] 10] .ret))) (zq [zM 0 11,zM 1 12,zU 12 13,zK .u64 13 14,zC 133 [11,14] 15] (.seq (zq [zM 1 17,zC 171 [17] 18,zM 18 16,zE 16 0 19,zE 16 1 20,zM 19 4,zM 20 5] (zq [zM 5 21] (zc 21 (zq [zM 0 22,zW (.bsl 1 [.const (.int .u8 1)]) 23,zC 125 [22,23] 24] (zq [zM 0 25,zM 4 26,zC 172 [25,26] 27] .ret))))) (zq [zM 0 28,zW (.bsl 1 [.const (.int .u8 0)]) 29,zC 125 [28,29] 30] (.reg [zM 0 31,zM 1 32,zC 125 [31,32] 33] []))))) [] 34:=ki
def t6:Is prog f151 (zq [zV zf 4] (.seq (zq [zM 0 6,zU 6 7,zM 1 8,zU 8 9,zB .neq 7 9 10] (zc 10 (zq [zV zf 4] .ret))) (.seq (zq [zV zi 5] (.block 0 (.loop (.seq (zq [zM 5 11,zM 0 12,zU 12 13,zB .lss 11 13 14] (.cond (.tmp 14) .skip (.exit 0))) (.seq (.block 1 (.seq (.reg [zM 0 17,zM 5 18,zJ 1 17 18 19,zL 19 20,zM 1 21,zM 5 22,zJ 1 21 22 23,zL 23 24,zB .neq 20 24 25] [(3,7)]) (zc 25 (zq [zV zf 4] .ret)))) (.reg [zM 5 15,zI .add 15 1 16,zM 16 5] [])))))) (zq [zV zt 4] .ret)))) [.tmp 4] 26:=ki
def yR:Is prog f157 (zq [zV zn 6,zV zn 7] (zq [zV zn 8] (zq [zV zn 9] (zq [zV (.int .i64 1048576) 10] (.seq (zq [zM 2 14,zV zi 15] (.block 0 (.loop (zq [zB .lss 15 14 16] (.seq (.cond (.tmp 16) .skip (.exit 0)) (.seq (.block 1 (zq [zM 15 17,zM 17 11] (zq [zM 0 19,zM 1 20,zM 11 21,zK .u64 21 22,zB .add 20 22 23,zM 10 24,zC 180 [19,23,24] 25,zM 25 18,zE 18 0 26,zE 18 1 27,zX [zn,zn] 12,zS 2 12 26,zM 27 13] (.seq (zq [zM 0 28,zC 111 [28] 29,zQ 29 30] (zc 30 (zq [zV zn 6,zV zn 7] .ret))) (zq [zM 10 31,zM 13 32,zB .sub 31 32 33,zM 33 10] (.reg [zM 8 34,zN 2 12 35,zW (.bsl 2 [.tmp 35]) 36,zP 2 48 34 36 37,zM 9 38,zM 13 39,zW (.bsl 1 [.tmp 39]) 40,zP 1 8 38 40 41,zM 37 8,zM 41 9] [])))))) (.reg [zI .add 15 1 42,zM 42 15] []))))))) (zq [zM 8 43,zM 9 44,zM 43 6,zM 44 7] .ret)))))) [.tmp 6,.tmp 7] 45:=ki
def yN:Is prog f168 (.seq (zq [zM 2 6,zQ 6 7] (zc 7 (zq [zM 0 8,zR 123 [.tmp 8,zk 3] 9] .ret))) (.reg [zM 0 10,zM 1 11,zC 133 [10,11] 12] [])) [] 13:=ki
def yM:Is prog f170 (.seq (zq [zM 1 8,zM 2 9,zC 74 [8,9] 10,zQ 10 11] (zc 11 (zq [zM 0 12,zR 123 [.tmp 12,zk 3] 13] .ret))) (zq [zM 0 14,zM 2 15,zU 15 16,zK .u64 16 17,zC 133 [14,17] 18] (zq [zM 2 19,zC 187 [19] 20,zU 20 21,zV zi 22] (.block 0 (.loop (zq [zB .lss 22 21 23] (.seq (.cond (.tmp 23) .skip (.exit 0)) (.seq (.block 1 (zq [zM 22 24,zJ 1 20 22 25,zL 25 26,zM 24 6,zM 26 7] (zq [zM 0 27,zM 7 28,zC 133 [27,28] 29] (.reg [zM 0 30,zM 1 31,zM 2 32,zM 6 33,zJ 2 32 33 34,zF 1 34 35,zL 35 36,zC 189 [30,31,36] 37] [])))) (.reg [zI .add 22 1 38,zM 38 22] []))))))))) [] 39:=ki
def nF:Is prog f174 (zq [zV zu 4] (zq [zM 0 7,zC 95 [7] 8,zM 8 5] (zq [zM 0 9,zC 109 [9] 10,zM 10 6] (.seq (zq [zM 1 11,zM 6 12,zW (.call (.tmp 11) [.tmp 12]) 13,zQ 13 14] (zc 14 (.reg [zM 0 15,zM 5 16,zR 101 [.tmp 15,zk 3,.tmp 16] 17] []))) (.seq (zq [zM 0 18,zC 111 [18] 19,zQ 19 20] (zc 20 (zq [zV zu 4] .ret))) (zq [zM 6 21,zM 21 4] .ret)))))) [.tmp 4] 22:=ki
def Ac2:Is prog f178 (zq [zV zn 4] (zq [zM 0 6,zM 1 7,zC 108 [6,7] 8,zM 8 5] (zq [zM 0 9,zM 5 10,zC 153 [9,10] 11,zM 11 4] .ret))) [.tmp 4] 12:=ki
def yK:Is prog f179 (zq [zM 0 8,zC 127 [8] 9,zK .u64 9 10,zM 1 11,zB .neq 10 11 12] (zc 12 (.reg [zM 2 13,zM 3 14,zW (.call (.tmp 13) [zk 6,.tmp 14]) 15] []))) [] 16:=ki
def Acx:Is prog f187 (zq [zV zn 2] (zq [zV zn 3] (.seq (zq [zM 0 7,zU 7 8,zV zi 9] (.block 0 (.loop (zq [zB .lss 9 8 10] (.seq (.cond (.tmp 10) .skip (.exit 0)) (.seq (.block 1 (zq [zM 9 11,zJ 2 7 9 12,zN 2 12 13,zX [zu,zn] 5,zM 11 4,zS 2 5 13] (zq [zF 0 5 14,zL 14 15,zM 15 6] (.seq (zq [zM 4 16,zI .gtr 16 0 17] (zc 17 (.reg [zM 6 18,zM 0 19,zM 4 20,zI .sub 20 1 21,zJ 2 19 21 22,zF 0 22 23,zL 23 24,zW (.bin .add (.tmp 24) (.const (.int .u64 1))) 25,zB .sub 18 25 26,zM 26 6] []))) (.reg [zM 3 27,zM 6 28,zW (.bsl 1 [.tmp 28]) 29,zP 1 8 27 29 30,zM 30 3] []))))) (.reg [zI .add 9 1 31,zM 31 9] []))))))) (zq [zM 3 32,zM 32 2] .ret)))) [.tmp 2] 33:=ki
def Acw:Is prog f190 (zq [zV zn 2,zV zi 3] (zq [zM 0 7,zC 195 [7] 8,zM 8 6,zE 6 0 9,zE 6 1 10,zM 9 4,zM 10 5] (.seq (zq [zM 5 11,zI .neq 11 0 12] (zc 12 (zq [zM 5 13,zV zn 2,zM 13 3] .ret))) (zq [zM 4 14,zC 196 [14] 15,zE 15 0 16,zE 15 1 17,zM 16 2,zM 17 3] .ret)))) [.tmp 2,.tmp 3] 18:=ki
def nD:Is prog f192 (zq [zV zn 4] (zq [zV zn 5] (.seq (zq [zM 0 10,zR 108 [.tmp 10,zk 16] 11,zV zi 12] (.block 0 (.loop (zq [zB .lss 12 11 13] (.seq (.cond (.tmp 13) .skip (.exit 0)) (.seq (.block 1 (zq [zM 12 14,zM 14 6] (zq [zM 0 15,zC 95 [15] 16,zM 16 7] (zq [zM 0 17,zC 109 [17] 18,zD [zu,zn] [(0,(1,.tmp 18))] 19,zX [zu,zn] 8,zS 2 8 19] (.seq (zq [zM 6 20,zI .gtr 20 0 21] (zc 21 (zq [zM 5 22,zM 6 23,zI .sub 23 1 24,zJ 2 22 24 25,zF 0 25 26,zL 26 27,zM 27 9] (.seq (zq [zF 0 8 28,zL 28 29,zM 9 30,zW (.un .xor (.tmp 30)) 31,zB .geq 29 31 32] (zc 32 (.reg [zM 0 33,zM 7 34,zR 101 [.tmp 33,zk 13,.tmp 34] 35] []))) (.reg [zF 0 8 36,zL 36 37,zM 9 38,zW (.bin .add (.tmp 38) (.const (.int .u64 1))) 39,zB .add 37 39 40,zF 0 8 41,zS 1 41 40] []))))) (zq [zM 0 42,zM 1 43,zR 197 [.tmp 42,.tmp 43,zk 4] 44,zF 1 8 45,zS 1 45 44] (.seq (zq [zM 0 46,zC 111 [46] 47,zQ 47 48] (zc 48 (zq [zV zn 4] .ret))) (.reg [zM 5 49,zN 2 8 50,zW (.bsl 2 [.tmp 50]) 51,zP 2 32 49 51 52,zM 52 5] [])))))))) (.reg [zI .add 12 1 53,zM 53 12] []))))))) (zq [zM 5 54,zM 54 4] .ret)))) [.tmp 4] 55:=ki
def tW:Is prog f197 (zq [zV zn 6] (zq [zV zn 7] (.seq (zq [zM 0 10,zM 2 11,zC 108 [10,11] 12,zV zi 13] (.block 0 (.loop (zq [zB .lss 13 12 14] (.seq (.cond (.tmp 14) .skip (.exit 0)) (.seq (.block 1 (zq [zM 0 15,zC 95 [15] 16,zM 16 8] (zq [zM 0 17,zC 109 [17] 18,zM 18 9] (.seq (zq [zM 9 19,zM 1 20,zB .geq 19 20 21] (zc 21 (.reg [zM 0 22,zM 8 23,zR 101 [.tmp 22,zk 13,.tmp 23] 24] []))) (.seq (zq [zM 0 25,zC 111 [25] 26,zQ 26 27] (zc 27 (zq [zV zn 6] .ret))) (zq [zM 1 28,zM 9 29,zW (.bin .add (.tmp 29) (.const (.int .u64 1))) 30,zB .sub 28 30 31,zM 31 1] (.reg [zM 7 32,zM 1 33,zW (.bsl 1 [.tmp 33]) 34,zP 1 8 32 34 35,zM 35 7] []))))))) (.reg [zI .add 13 1 36,zM 36 13] []))))))) (zq [zM 7 37,zM 37 6] .ret)))) [.tmp 6] 38:=ki
def fE:Is prog f198 (zq [zV zf 2,zV zi 3] (zq [zM 0 9,zC 95 [9] 10,zM 10 4] (zq [zM 0 11,zC 109 [11] 12,zM 12 5] (.seq (zq [zM 0 13,zC 111 [13] 14,zQ 14 15] (zc 15 (zq [zV zf 2,zV zi 3] .ret))) (zq [zM 5 16,zW (.bin .rem (.tmp 16) (.const (.int .u64 2))) 17,zW (.bin .eql (.tmp 17) (.const (.int .u64 1))) 18,zM 18 6,zV (.int .i64 1) 7,zV (.int .i64 1048576) 8] (.seq (zq [zM 6 19] (zc 19 (.reg [zV (.int .i64 4) 7,zV (.int .i64 1048576) 8] []))) (.seq (zq [zM 5 20,zW (.bin .quo (.tmp 20) (.const (.int .u64 2))) 21,zM 8 22,zM 7 23,zB .sub 22 23 24,zK .u64 24 25,zB .gtr 21 25 26] (zc 26 (zq [zM 0 27,zM 4 28,zR 101 [.tmp 27,zk 2,.tmp 28] 29] (zq [zV zf 2,zV zi 3] .ret)))) (zq [zM 6 30,zM 5 31,zW (.bin .quo (.tmp 31) (.const (.int .u64 2))) 32,zK .i64 32 33,zM 7 34,zB .add 33 34 35,zM 30 2,zM 35 3] .ret)))))))) [.tmp 2,.tmp 3] 36:=ki
def tV:Is prog f199 (zq [zV zi 2] (zq [zM 0 5,zC 95 [5] 6,zM 6 3] (zq [zM 0 7,zC 109 [7] 8,zM 8 4] (.seq (zq [zM 4 9,zW (.bin .geq (.tmp 9) (.const (.int .u64 65536))) 10] (zc 10 (.reg [zM 0 11,zM 3 12,zR 101 [.tmp 11,zk 10,.tmp 12] 13] []))) (.seq (zq [zM 0 14,zC 111 [14] 15,zQ 15 16] (zc 16 (zq [zV zi 2] .ret))) (zq [zM 4 17,zK .i64 17 18,zI .add 18 1 19,zM 19 2] .ret)))))) [.tmp 2] 20:=ki
def tU:Is prog f201 (zq [zM 0 5,zL 1 6,zB .gtr 5 6 7] (zc 7 (.reg [zL 2 8,zW (.bsl 1 []) 9,zL 3 10,zL 1 11,zM 0 12,zW (.slice 1 (.tmp 10) (.some (.tmp 11)) (.some (.tmp 12)) none) 13,zP 1 1 9 13 14,zD [zn,zi,zi] [(0,(1,.tmp 14))] 15,zW (.bsl 3 [.tmp 15]) 16,zP 3 40 8 16 17,zS 1 2 17] [(0,2),(0,3),(2,3),(0,6)]))) [] 18:=ki
def Acr:Is prog f202 (zq [zV (.pointer none) 2] (zq [zW (.bsl 1 []) 3,zM 0 4,zP 1 1 3 4 5,zM 0 6,zC 206 [6] 7,zD [zn,.pointer none,zi] [(0,(1,.tmp 5)),(1,(1,.tmp 7))] 8,zY 8 9,zM 9 2] .ret)) [.tmp 2] 10:=ki
def yD:Is prog f203 (zq [zY 0 2,zY 1 3,zV zi 4,zV zi 5] (.seq (zq [zL 2 10,zW (.eqp .false (.tmp 10) (.const (.pointer none))) 11] (zc 11 (zq [zV zi 4,zV zi 5] .ret))) (.seq (.reg [zL 2 12,zH 12 13,zF 1 13 14,zL 14 15,zL 3 16,zL 2 17,zH 17 18,zF 0 18 19,zL 19 20,zU 20 21,zW (.mx .false (.tmp 16) (.tmp 21)) 22,zC 207 [15,22] 23] [(0,4),(3,4),(0,5),(3,5),(4,5),(0,8),(3,8),(4,8)]) (zq [zX [zi] 6,zX [zi] 7,(none,(.store 1 (.tmp 6) (zk 0),none)),(none,(.store 1 (.tmp 7) (zk 0),none))] (.seq (.seq (.reg [zL 2 24,zH 24 25,zF 1 25 26,zL 26 27,zL 3 28,zC 208 [27,28] 29] [(0,4),(3,4)]) (.block 0 (.rng (.tmp 29) [30] (.reg [zM 30 8] []) (.block 1 (zq [zL 2 31,zH 31 32,zF 2 32 33,zL 33 34,zI .add 34 1 35,zH 31 36,zF 2 36 37,zS 1 37 35] (.seq (.seq (.reg [zL 2 38,zH 38 39,zF 0 39 40,zL 40 41,zL 3 42,zL 3 43,zM 8 44,zB .sub 43 44 45,zC 209 [41,42,45] 46,zM 46 9] [(0,4),(3,4),(0,5),(3,5),(4,5)]) (zq [zM 9 47,zL 7 48,zB .gtr 47 48 49] (zc 49 (.reg [zL 3 50,zM 8 51,zB .sub 50 51 52,zM 9 53,zS 1 6 52,zS 1 7 53] [])))) (.seq (.reg [zL 3 54,zL 7 55,zB .add 54 55 56,zL 2 57,zH 57 58,zF 0 58 59,zL 59 60,zU 60 61,zB .eql 56 61 62] [(0,1),(0,3),(1,3),(0,6),(1,6)]) (zc 62 (.exit 0))))))))) (zq [zL 6 63,zL 7 64,zC 210 [63,64] 65,zE 65 0 66,zE 65 1 67,zM 66 4,zM 67 5] .ret)))))) [.tmp 4,.tmp 5] 68:=ki
def Aco:Is prog f207 (zq [zV zi 4] (zq [zV zi 5] (.seq (.block 0 (.loop (.seq (zq [zM 0 6,zC 212 [6] 7,zM 1 8,zB .lss 7 8 9,zM 9 10,zT 10 (zM 0 11),zT 10 (zC 213 [11] 12),zA 10 12 13] (.cond (.tmp 13) .skip (.exit 0))) (.block 1 (.reg [zM 5 14,zI .add 14 1 15,zM 15 5] []))))) (zq [zM 5 16,zM 16 4] .ret)))) [.tmp 4] 17:=ki
def nC:Is prog f214 (.seq (zq [zL 1 8,zW (.eqp .false (.tmp 8) (.const (.pointer none))) 9] (zc 9 .ret)) (.seq (.reg [zL 1 11,zH 11 12,zF 0 12 13,zL 13 14,zL 2 15,zC 215 [14,15] 16,zM 16 10,zE 10 0 17,zE 10 1 18,zM 17 4,zM 18 5] [(0,4),(3,4)]) (.seq (zq [zM 5 19,zQ 19 20] (zc 20 .ret)) (zq [zL 1 21,zH 21 22,zF 1 22 23,zL 23 24,zM 4 25,zW (.mlook (.tmp 24) (.tmp 25)) 26,zM 26 6] (.block 0 (.loop (.seq (zq [zM 6 27,zI .gtr 27 0 28] (.cond (.tmp 28) .skip (.exit 0))) (.seq (.block 1 (zq [zM 6 37,zI .sub 37 1 38,zM 38 7] (.seq (zq [zL 2 39,zM 7 40,zB .sub 39 40 41,zI .gtr 41 65536 42] (zc 42 .ret)) (zq [zM 7 43,zL 2 44,zB .lss 43 44 45,zM 45 46,zT 46 (zM 0 47),zT 46 (zM 7 48),(.some (46,.true),(.call (.tmp 47) [.tmp 48],.some 49)),(.some (46,.true),(.un .not (.tmp 49),.some 50)),zA 46 50 51] (zc 51 .ret))))) (.reg [zL 1 29,zH 29 30,zF 2 30 31,zL 31 32,zM 6 33,zI .sub 33 1 34,zJ 1 32 34 35,zL 35 36,zM 36 6] []))))))))) [] 52:=ki
def Dl {p:Prop} (h:p:=by(intros;simp[Cd])):p:=h
abbrev iA (n:Int):AV:=.lit (.int .i64 n)
abbrev uA (n:Int):AV:=.lit (.int .u64 n)
abbrev bA (b:Bool):AV:=.lit (.bool b)
abbrev Bj (k:IntKind) (l:List Int):AV:=.sl .none 1 (AU k l)
abbrev Fk (f:Int×Int):AV:=.agg [iA f.1,iA f.2]
def Ap (c a:Int):Ct prog 32 [Fk (c,a)] [] (λ_=>bA (c==0)) [] (λ_=>[]):=by
 refine Ag.toCt ?_ Dl Dl
 refine RM func32 b32 ?_
 exact FA b32 []
def BJ (c a:Int):Ct prog 34 [iA c,iA a] [] (λ_=>Fk (Cd c a)) [] (λ_=>[]):=by
 refine Ag.toCt ?_ Dl Dl
 refine RM func34 b34 ?_
 refine AK (λh=>?_) (λh=>?_)
 ·have h':c=0:=Sx h
  refine (mp ?_).1
  exact FK b34 [] (by simp[Cd,h'])
 ·have h':¬c=0:=Sx h
  refine (mp ?_).1
  exact FK b34 [] (by simp[Cd,h'])
def A1 (s:RS):Ac:=.cells [.sl .full 1 (AU .u8 s.l),iA s.at_,iA s.code,iA s.fat]
@[simp] theorem AG (ρ:Nat->Nat) (s:RS):(A1 s).ren ρ=A1 s:=by simp[A1,AD]
theorem rdr_dead (s:RS):A1 s≠ .dead:=by simp[A1]
theorem Rc {f:FuncId} {args₀ args:List AV} {s s':RS} {r:AV} (h:Ag prog f args₀ [A1 s] r [A1 s']) (i:Nat) (ha:∀N,args₀.map (λx=>x.ren (AH [i] N))=args:=by exact Dl) (hr:∀ρ,r.ren ρ=r:=by exact Dl):Ct prog f args [(i,A1 s)] (λ_=>r) [(i,A1 s')] (λ_=>[]):=Ct.u1 h i ha (λρ=>AG ρ _) (λρ=>AG ρ _) (rdr_dead _) hr
def R2 (s:RS):Ag prog 111 [.ref 0 0] [A1 s] (bA s.good) [A1 s]:=by
 refine RN func111 Adv ?_;simp only[go_sem,seval,A1];refine (AZ ?_).1
 refine Cp (Ap _ _) ?_
 exact FK Adv [0] (by simp[A1,RS.good])
def Ah (s:RS) (i:Nat):Ct prog 111 [.ref i 0] [(i,A1 s)] (λ_=>bA s.good) [] (λ_=>[]):=Ct.r1 (R2 s) i Dl (λρ=>AG ρ s) (rdr_dead s) Dl
def O6 (s:RS):Ag prog 94 [.ref 0 0] [A1 s] (Fk (s.code,s.fat)) [A1 s]:=by
 refine RN func94 b94 ?_;simp only[go_sem,seval,A1];refine (AZ ?_).1
 exact FK b94 [0] (by simp[A1])
def Bp (s:RS) (i:Nat):Ct prog 94 [.ref i 0] [(i,A1 s)] (λ_=>Fk (s.code,s.fat)) [] (λ_=>[]):=Ct.r1 (O6 s) i Dl (λρ=>AG ρ s) (rdr_dead s) Dl
def Yj (s:RS):Ag prog 95 [.ref 0 0] [A1 s] (iA s.at_) [A1 s]:=by
 refine RN func95 b95 ?_;simp only[go_sem,seval,A1];refine (AZ ?_).1
 exact FK b95 [0] (by simp[A1])
def AP (s:RS) (i:Nat):Ct prog 95 [.ref i 0] [(i,A1 s)] (λ_=>iA s.at_) [] (λ_=>[]):=Ct.r1 (Yj s) i Dl (λρ=>AG ρ s) (rdr_dead s) Dl
def R1 (s:RS) (h:s.ok):Ag prog 155 [.ref 0 0] [A1 s] (iA s.left) [A1 s]:=by
 have⟨h1,h2,h3⟩:=h;have e:IntKind.i64.wrap ((s.l.length:Int)-s.at_)=s.left:=by rw[i64_in _ Om];rfl
 refine RN func155 Ada ?_;simp only[go_sem,seval,A1,Ab,e];refine (AZ ?_).1
 exact FK Ada [0] (by simp[A1])
def Gy (s:RS) (i:Nat) (h:s.ok):Ct prog 155 [.ref i 0] [(i,A1 s)] (λ_=>iA s.left) [] (λ_=>[]):=Ct.r1 (R1 s h) i Dl (λρ=>AG ρ s) (rdr_dead s) Dl
def R3 (s:RS) (c a:Int):Ag prog 101 [.ref 0 0,iA c,iA a] [A1 s] (.tup []) [A1 (s.fail c a)]:=by
 refine RM func101 Aae ?_
 refine Cr (Ah s 0) rfl ?_;refine AK (λh=>?_) (λh=>?_)
 ·have h':s.code=0:=by simpa[RS.good]using h
  refine (mp ?_).1;refine Aa.p (BJ c a) ?_;simp only[go_sem,seval,A1];refine (AZ ?_).1
  exact FK Aae [0] (by simp[A1,RS.fail,h'])
 ·have h':¬s.code=0:=by simpa[RS.good]using h
  refine (mp ?_).1
  exact FK Aae [0] (by simp[A1,RS.fail,h'])
def Ar (s:RS) (c a:Int) (i:Nat):Ct prog 101 [.ref i 0,iA c,iA a] [(i,A1 s)] (λ_=>.tup []) [(i,A1 (s.fail c a))] (λ_=>[]):=Rc (R3 s c a) i
def RX (s:RS) (n:Int) (hs:s.ok):Ag prog 148 [.ref 0 0,iA n] [A1 s] (bA (s.skip n).2) [A1 (s.skip n).1]:=by
 refine RM func148 nH ?_
 refine Cr (Ah s 0) rfl ?_;refine AK (λh=>?_) (λh=>?_)
 ·have h':¬s.code=0:=by simpa[RS.good]using h
  refine (mp ?_).1
  exact FK nH [0] (by simp[A1,RS.skip,h'])
 ·have h':s.code=0:=by simpa[RS.good]using h
  refine (mp ?_).1;refine AK (λh=>?_) (λh=>?_)
  ·have h2:n<0:=Sx h
   simp only[go_sem,seval,A1];refine (AZ ?_).1;refine Cu (Ar s 17 s.at_ 0) rfl ?_
   exact FK nH [0] (by simp[A1,RS.skip,h',h2])
  ·have h2:¬n<0:=Sx h
   refine (mp ?_).1;refine Cr (Gy s 0 hs) rfl ?_;refine AK (λh=>?_) (λh=>?_)
   ·have h3:s.left<n:=Sx h
    simp only[go_sem,seval,A1,Ab];refine (AZ ?_).1;refine Cu (Ar s 1 s.l.length 0) rfl ?_
    exact FK nH [0] (by simp[A1,RS.skip,h',h2,h3])
   ·have h3:¬s.left<n:=Sx h
    have e:IntKind.i64.wrap (s.at_+n)=s.at_+n:=by have⟨q1,q2,q3⟩:=hs;unfold RS.left at h3;exact i64_in _ Om
    simp only[go_sem,seval,A1,e];refine (AZ ?_).1
    exact FK nH [0] (by simp[A1,RS.skip,h',h2,h3])
def IK (s:RS) (n:Int) (i:Nat) (hs:s.ok):Ct prog 148 [.ref i 0,iA n] [(i,A1 s)] (λ_=>bA (s.skip n).2) [(i,A1 (s.skip n).1)] (λ_=>[]):=Rc (RX s n hs) i
abbrev Yr (n:Int):AV:=.lit (.int .u8 n)
theorem Mn {l:List Int} (i:Nat) (h:i<l.length):(AU .u8 l).getD i .any=Yr (l.getD i 0):=DS .u8 l i h
def R4 (s:RS) (hs:s.ok):Ag prog 98 [.ref 0 0] [A1 s] (Yr s.byte.2) [A1 s.byte.1]:=by
 refine RM func98 b98 ?_
 refine Cu (IK s 1 0 hs) rfl ?_;refine AK (λh=>?_) (λh=>?_)
 ·have h':¬(s.skip 1).2=true:=Sx h
  refine (mp ?_).1
  exact FK b98 [0] (by simp[A1,RS.byte,h'])
 ·have h':(s.skip 1).2=true:=Sx h
  have⟨h1,h2,h3,h4⟩:=GK h';have⟨a,b,c⟩:=hs;unfold RS.left at h3;have e:IntKind.i64.wrap (s.at_+1-1)=s.at_:=by rw[i64_in _ Om];omega
  have eq1:s.at_.toNat<s.l.length:=Om
  have eq2:s.at_<s.l.length:=Om
  simp only[go_sem,seval,h4,A1,e,Ab,Mn _ eq1,a,eq2];refine (AZ ?_).1
  exact FK b98 [0] (by simp[A1,RS.byte,h',h4])
def C1 (s:RS) (i:Nat) (hs:s.ok):Ct prog 98 [.ref i 0] [(i,A1 s)] (λ_=>Yr s.byte.2) [(i,A1 s.byte.1)] (λ_=>[]):=Rc (R4 s hs) i
def UY (l:List Int):Ag prog 92 [Bj .u8 l] [] (.ref 0 0) [A1 (RS.new l)]:=by
 have e:(AU .u8 l).take l.length=AU .u8 l:=take_of_length_le (by simp[AU]);refine RN func92 b92 ?_;refine (mt @Ab @QB @Int.toNat_natCast e ?_).1
 (repeat with_reducible refine Sa ?_)
 (refine FB b92 [0] ?_ ?_<;>first|with_reducible rfl|(simp[A1,RS.new];done)|rfl)
def C9 (l:List Int):Ct prog 92 [Bj .u8 l] [] (λn=>.ref n 0) [] (λ_=>[A1 (RS.new l)]):=Ct.n (UY l) Dl cl cl
theorem RW (s:RS) (n:Int) (hs:s.ok):Ag Tryz.prog 153 [.ref 0 0,iA n] [A1 s] (Bj .u8 (s.take n).2) [A1 (s.take n).1]:=by
 refine RM Tryz.func153 yT ?_
 refine Aa.u1 (IK s n 0 hs) rfl (mp ?_).1;refine AK (λh=>?_) (λh=>?_)
 ·have h':¬(s.skip n).2=true:=by simpa using h
  refine (mp ?_).1;refine UT 4 ?_
  (refine FB yT [0] ?_ ?_<;>first|with_reducible rfl|(simp[B8,D1,D4,Ci,A1,RS.take,h'];done)|rfl)
 ·have h':(s.skip n).2=true:=by simpa using h
  obtain⟨h1,h2,h3,h4⟩:=GK h';obtain⟨a,b,c⟩:=hs;unfold RS.left at h3;have e:IntKind.i64.wrap (s.at_+n-n)=s.at_:=by rw[IntWalk.i64_in _ (by omega)];omega
  have e2:(s.at_+n-s.at_).toNat=n.toNat:=by congr 1;omega
  simp only[go_sem,seval,h4,A1,e,e2,Ab,a,Dh,Ep];refine (AZ ?_).1;(repeat((with_reducible refine And.intro ?_ ?_);(·exact sd)));refine UT 4 ?_
  (refine FB yT [0] ?_ ?_<;>first|with_reducible rfl|(simp[B8,D1,D4,Ci,A1,RS.take,h',h4];done)|rfl)
def DH (s:RS) (n:Int) (i:Nat) (hs:s.ok):Ct prog 153 [.ref i 0,iA n] [(i,A1 s)] (λ_=>Bj .u8 (s.take n).2) [(i,A1 (s.take n).1)] (λ_=>[]):=Rc (RW s n hs) i
theorem Aay {y:Int}:y.fdiv (2^min 7 64)=y/128:=by
 show y.fdiv 128=y/128;rw[Int.fdiv_eq_ediv_of_nonneg _ Om]
def CY (x:Int) (h0:0≤x) (h1:x<18446744073709551616):Ct prog 121 [uA x] [] (λ_=>iA (vb x).length) [] (λ_=>[]):=by
 refine Ag.toCt ?_ Dl Dl
 refine RM func121 Adr ?_
 have hl:=(A4 x).2;refine AA (α:=Int×Int) (λa=>[uA a.1,.any,iA 0,iA a.2,.any,.any,.any,.any,.any,.any,.any]) (λ_=>[]) (λa=>0≤a.1∧a.1<18446744073709551616∧1≤a.2∧a.2+(vb a.1).length=1+(vb x).length) (λa=>a.1.toNat) (x,1) ⟨h0,h1,Int.le_refl _,rfl⟩ (Wk.forget (by simp[B6])) ?_;rintro⟨y,k⟩ ⟨y0,y1,k0,hk⟩;simp only at y0 y1 k0 hk;have hy:=(A4 y).1;refine (mp ?_).1;refine AK (λh=>?_) (λh=>?_)
 ·have hy2:128≤y:=Sx h
  have ew:IntKind.i64.wrap (k+1)=k+1:=i64_in _ Om;have eb:=uN hy2 y1;refine (mr @Aay ew ?_).1;refine (Sr ?_).1;refine⟨(y/128,k+1),⟨by simp only;omega,by simp only;omega,by simp only;omega,?_⟩,by simp only;omega,Wk.forget (by simp[B6])⟩;rw[eb]at hk;simp at hk ⊢;omega
 ·have hy2:y<128:=Sx h
  have eb:=uM hy2;rw[eb]at hk;have ek:k=(vb x).length:=by simp at hk;omega
  refine (mp ?_).1
  exact FE Adr [] ek
theorem jR {y:Int} (h0:0≤y):CJ .or .u8 (IntKind.u8.wrap y) 128=128+y%128:=by
 rw[IntKind.wrap_u8];show bits .or .u8 (y%256) 128=_;rw[u8_or _ _ Om Om Om Om];have:=Aa6 ⟨(y%256).toNat,Om⟩;simp only at this;rw[show(128:Int).toNat=128 from rfl,this];omega
def Oi (x:Int) (h0:0≤x) (h1:x<18446744073709551616):Ag prog 169 [uA x] [] (Bj .u8 (vb x)) []:=by
 refine RM func169 Ac5 ?_
 have hl:=(A4 x).2;refine AA (α:=Int×List Int) (λa=>uA a.1::.any::.any::.sl (.row 0) 1 (AU .u8 a.2)::Ay (Ay (Ay [.any,.any,.any]))) (λa=>[.row 1 a.2.length]) (λa=>0≤a.1∧a.1<18446744073709551616∧a.2++vb a.1=vb x) (λa=>a.1.toNat) (x,[]) ⟨h0,h1,rfl⟩ ((Wk.row 3 1 rfl (.inl rfl) (Nat.le_refl _)).trans (Wk.forget (by simp[B6,AU]))) ?_;rintro⟨y,m⟩ ⟨y0,y1,hk⟩;simp only at y0 y1 hk;have hm:m.length≤10:=by rw[←hk]at hl;simp at hl;omega
 refine (mp ?_).1;refine AK (λh=>?_) (λh=>?_)
 ·have hy2:128≤y:=Sx h
  have eb:=uN hy2 y1;have e1:[Yr (128+y%128)]=AU .u8 [128+y%128]:=rfl;simp only[go_sem,seval,Aay,jR y0,e1,C0,Ab];refine (AZ ?_).1;(repeat with_reducible refine Sa ?_);refine⟨(y/128,m++[128+y%128]),⟨by simp only;omega,by simp only;omega,?_⟩,by simp only;omega,Wk.to Si (by simp[B6])⟩;rw[←hk,eb];simp
 ·have hy2:y<128:=Sx h
  have eb:=uM hy2;rw[eb]at hk;have ew:IntKind.u8.wrap y=y:=IntWalk.u8_in _ Om;have e1:[Yr y]=AU .u8 [y]:=rfl;refine (mt ew e1 @C0 @Ab ?_).1;(repeat with_reducible refine Sa ?_);refine UT 2 ?_
  exact FE Ac5 [] hk
theorem Qo (x:Int) (h0:0≤x) (h1:x<18446744073709551616):Ct Tryz.prog 169 [uA x] [] (λ_=>Bj .u8 (vb x)) [] (λ_=>[]):=(Oi x h0 h1).toCt cl cl
theorem Aeg (s:RS):s.adv 0=s:=by simp[RS.adv]
theorem RS.ok.adv {s:RS} (h:s.ok) {i:Nat} (hi:i≤s.rest.length):(s.adv i).ok:=by
 have⟨a,b,c⟩:=h;have:=EI s a b;exact⟨by show 0≤s.at_+(i:Int);omega,by show s.at_+(i:Int)≤s.l.length;omega,c⟩
theorem nO (s:RS) (i:Int):(s.adv i).good=(s.code==0):=rfl
theorem Aak (s:RS) (i:Int):(s.adv i).at_=s.at_+i:=rfl
def jQ (i:Nat) (hi:i≤9) (x c:Int) (h0:0≤x) (h1:x<128^i) (c0:0≤c) (c1:c<128) (c2:i=9->c≤1):
 CJ .or .u64 x (IntKind.u64.wrap (IntKind.u64.wrap c*2^min (7*(i:Int)).toNat 64))=x+128^i*c:=by
 have e1:IntKind.u64.wrap c=c:=u64_in _ Om;have e2:min (7*(i:Int)).toNat 64=7*i:=by
  omega
 rw[e1,e2];exact(YM i hi x c h0 h1 c0 c1 c2).1
theorem Qn (s:RS) (hs:s.ok) (hb:A7 s.l):Ag prog 109 [.ref 0 0] [A1 s] (uA s.vint.2) [A1 s.vint.1]:=by
 have hs0:=hs;have⟨a,b,c⟩:=hs;refine RM func109 fH ?_
 refine SL (α:=Nat×Int) 0 (by rfl) (λa=>.ref 0 0::.any::uA 0::uA a.2::.any::iA (7*(a.1:Int))::iA s.at_::Az (Az (Ay (Ay (Ay [.any,.any,.any]))))) (λa=>[A1 (s.adv a.1)])
  (λa=>a.1≤9∧(s.code≠0->a.1=0)∧0≤a.2∧a.2<128^a.1∧Kz s a.1 a.2∧a.1≤s.rest.length) (λa=>10-a.1) (λpass=>?_) ?_
 ·refine (mp ?_).1;refine Aa.r1 (AP s 0) rfl (mp ?_).1;refine Q4 (Wk.to ?_ ?_) (pass (0,0) ⟨Si,λ_=>rfl,Si,Si,Zz s hb,Si⟩)
  ·simp[Aeg]
  ·simp[B6]
 ·rintro⟨i,x⟩ ⟨hi9,hci,x0,x1,hu,hir⟩;simp only at hi9 hci x0 x1 hu hir;have hrl:=EI s a b;refine (mp ?_).1;refine Aa.u1 (C1 (s.adv i) 0 (hs0.adv hir)) rfl ?_;by_cases hc:s.code=0
  ·cases hd:s.rest.drop i with
   |nil=>
    have hil:s.rest.length≤i:=by
     rcases Nat.lt_or_ge i s.rest.length with h|h
     ·have:=congrArg List.length hd;simp at this;omega
     ·exact h
    have hB:=mQ s i hc a b Om;have hv:=gA hc hu hd;refine (mq hB ?_).1;refine Aa.r1 (Ah _ 0) rfl ?_;simp only[go_sem,seval,RS.good,show((1:Int)==0)=false from rfl];refine (AZ ?_).1
    exact FE fH [0] hv
   |cons c t=>
    have⟨hB,hle⟩:=eY s i c t hc a b hd;have hcb:0≤c∧c<256:=by
     have:c∈s.rest.drop i:=by rw[hd];exact mem_cons_self ..
     exact hb c (mem_of_mem_drop (mem_of_mem_drop this))
    have hil:i<s.rest.length:=by
     rcases Nat.lt_or_ge i s.rest.length with h|h
     ·exact h
     ·rw[drop_eq_nil_of_le h]at hd;cases hd
    have hg:(s.adv ((i:Int)+1)).good=true:=by rw[nO];simp[hc]
    have hw:IntKind.i64.wrap ((s.adv ((i:Int)+1)).at_-1)=s.at_+i:=by
     rw[Aak,i64_in _ Om];omega
    refine (mq hB ?_).1;refine Aa.r1 (Ah _ 0) rfl (mq hg ?_).1;have t1:(7*(i:Int)==63)=decide (i=9):=by
     rw[Bool.eq_iff_iff];simp;omega
    by_cases c1:i=9∧1<c
    ·have hv:=Zv hc hu hd c1.1 c1.2;have t2:decide (1<c)=true:=by simpa using c1.2
     have t3:decide (i=9)=true:=by simpa using c1.1
     refine (ms t1 t2 t3 ?_).1;refine Aa.r1 (AP _ 0) rfl (mq hw ?_).1;refine Aa.u1 (Ar _ 5 _ 0) rfl (mp ?_).1
     exact FE fH [0] hv
    ·have p1:(decide (i=9)=true∧decide (1<c)=false)∨(decide (i=9)=false∧True):=by
      simp only[decide_eq_true_eq,decide_eq_false_iff_not,and_true];omega
     by_cases c2:0<i∧c=0
     ·obtain⟨c2',rfl⟩:=c2;have hv:=fZ hc hu hd c2';have t3:decide (s.at_<s.at_+i)=true:=by simp;omega
      rcases p1 with⟨q1,q2⟩|⟨q1,q2⟩<;>
      ·refine (mr t1 q1 ?_).1;refine Aa.r1 (AP _ 0) rfl (mr hw t3 ?_).1;refine Aa.r1 (AP _ 0) rfl (mq hw ?_).1;refine Aa.u1 (Ar _ 4 _ 0) rfl (mp ?_).1
       exact FE fH [0] hv
     ·have hor:=jQ i hi9 x (c%128) x0 x1 Om Om Om;have hm:c.tmod 128=c%128:=Int.tmod_eq_emod_of_nonneg Om;have p2:((c==0)=true∧decide (s.at_<s.at_+i)=false)∨(c==0)=false:=by
       simp only[beq_iff_eq,decide_eq_false_iff_not,beq_eq_false_iff_ne];omega
      rcases p1 with⟨q1,q2⟩|⟨q1,q2⟩<;>rcases p2 with⟨q3,q4⟩|q3<;>(first|((simp only[go_sem,seval,t1,q1,q2,q3,hm];refine (AZ ?_).1);refine Aa.r1 (AP _ 0) rfl (mt hw q4 hm hor ?_).1)|(simp only[go_sem,seval,t1,q1,q2,q3,hm,hor];refine (AZ ?_).1))<;>
      ·(repeat with_reducible refine Sa ?_);refine AK (λh=>?_) (λh=>?_)
       ·have h2:128≤c:=Sx h
        have h9:i≠9:=Om
        have⟨hu',hd'⟩:=ZA hu hd c1 c2 Om;have h2x:=(YM i hi9 x (c%128) x0 x1 Om Om Om).2;have hw2:IntKind.i64.wrap (7*(i:Int)+7)=7*((i+1:Nat):Int):=by rw[i64_in _ Om];omega
        refine (mp ?_).1;refine⟨(i+1,x+128^i*(c%128)),⟨by simp only;omega,λh=>absurd hc h,h2x.2,h2x.1,hu',by simp only;omega⟩,by simp only;omega,Wk.to ?_ ?_⟩
        ·simp
        ·simp[B6,hw2]
       ·have h2:c<128:=Sx h
        have hv:=Zw hc hu hd c1 c2 h2;have hm2:c%128=c:=Om
        refine (mp ?_).1
        exact FF fH [0] hv hm2
  ·have hi0:=hci hc;subst hi0;have hB:=mR s hc;have hv:=H1 hc;have e0:((0:Nat):Int)=0:=rfl;have hg:s.good=false:=by simp[RS.good,hc]
   refine (mr e0 hB ?_).1;refine Aa.r1 (Ah _ 0) rfl (mq hg ?_).1
   exact FE fH [0] hv
def B4 (s:RS) (i:Nat) (hs:s.ok) (hb:A7 s.l):Ct prog 109 [.ref i 0] [(i,A1 s)] (λ_=>uA s.vint.2) [(i,A1 s.vint.1)] (λ_=>[]):=Rc (Qn s hs hb) i
def KF (s:RS) (m:Int) (hs:s.ok) (hb:A7 s.l):Ag prog 156 [.ref 0 0,uA m] [A1 s] (uA (s.most m).2) [A1 (s.most m).1]:=by
 refine RM func156 yS ?_
 refine Cr (AP s 0) rfl ?_;refine Cu (B4 s 0 hs hb) rfl ?_;refine AK (λh=>?_) (λh=>?_)
 ·have h':m<s.vint.2:=Sx h
  refine (mp ?_).1;refine Cu (Ar _ 2 _ 0) rfl ?_
  exact FK yS [0] (by simp[RS.most,h'])
 ·have h':¬m<s.vint.2:=Sx h
  refine (mp ?_).1
  exact FK yS [0] (by simp[RS.most,h'])
def LG (s:RS) (m:Int) (i:Nat) (hs:s.ok) (hb:A7 s.l):Ct prog 156 [.ref i 0,uA m] [(i,A1 s)] (λ_=>uA (s.most m).2) [(i,A1 (s.most m).1)] (λ_=>[]):=Rc (KF s m hs hb) i
def LH (s:RS) (m:Int) (m1:m<9223372036854775808) (hs:s.ok) (hb:A7 s.l):Ag prog 108 [.ref 0 0,iA m] [A1 s] (iA (s.int m).2) [A1 (s.int m).1]:=by
 refine RM func108 Aaa ?_
 refine AK (λh=>?_) (λh=>?_)
 ·have h':0≤m:=Sx h
  have e:IntKind.u64.wrap m=m:=u64_in _ Om;have hr:=M6 (m:=m) hb h';have e2:IntKind.i64.wrap (s.most m).2=(s.most m).2:=i64_in _ Om;refine (mq e ?_).1;refine Aa.u1 (LG s m 0 hs hb) rfl (mq e2 ?_).1
  exact FK Aaa [0] (by simp[RS.int,h'])
 ·have h':¬0≤m:=Sx h
  refine (mp ?_).1;refine Cr (AP s 0) rfl ?_;refine Cu (B4 s 0 hs hb) rfl ?_;refine Cu (Ar _ 2 _ 0) rfl ?_
  exact FK Aaa [0] (by simp[RS.int,h'])
def AT (s:RS) (m:Int) (i:Nat) (m1:m<9223372036854775808) (hs:s.ok) (hb:A7 s.l):Ct prog 108 [.ref i 0,iA m] [(i,A1 s)] (λ_=>iA (s.int m).2) [(i,A1 (s.int m).1)] (λ_=>[]):=Rc (LH s m m1 hs hb) i
def B5 (j:Nat) (s:WS):Ac:=.cells [iA s.most,.sl (.row j) 1 (AU .u8 s.l),iA s.code]
def AQ (s:WS):Ac:=.row 1 s.l.length
@[simp] theorem IL (ρ:Nat->Nat) (j:Nat) (s:WS):(B5 j s).ren ρ=B5 (ρ j) s:=by simp[B5,AD]
@[simp] theorem wrow_ren (ρ:Nat->Nat) (s:WS):(AQ s).ren ρ=AQ s:=rfl
theorem Bu (j:Nat) (s:WS):B5 j s≠ .dead:=by simp[B5]
theorem Bi (s:WS):AQ s≠ .dead:=by simp[AQ]
def RU (s:WS):Ag prog 128 [.ref 0 0] [B5 1 s,AQ s] (iA s.code) [B5 1 s,AQ s]:=by
 refine RN func128 Ado ?_;simp only[go_sem,seval,B5,AQ];refine (AZ ?_).1
 exact FK Ado [0,1] (by simp[B5,AQ])
def Gw (s:WS) (i j:Nat) (h:i≠j):Ct prog 128 [.ref i 0] [(i,B5 j s),(j,AQ s)] (λ_=>iA s.code) [] (λ_=>[]):=Ct.r2 (RU s) i j h Dl cl cl (Bu _ _) (Bi _) Dl
def RQ (s:WS) (hs:s.ok):Ag prog 163 [.ref 0 0] [B5 1 s,AQ s] (iA s.room) [B5 1 s,AQ s]:=by
 have⟨a,b,c⟩:=hs;have e:IntKind.i64.wrap (s.most-s.l.length)=s.room:=by rw[i64_in _ Om];rfl
 refine RN func163 Ac9 ?_;simp only[go_sem,seval,B5,AQ,Ab,e];refine (AZ ?_).1
 exact FK Ac9 [0,1] (by simp[B5,AQ])
def Vp (s:WS) (i j:Nat) (h:i≠j) (hs:s.ok):Ct prog 163 [.ref i 0] [(i,B5 j s),(j,AQ s)] (λ_=>iA s.room) [] (λ_=>[]):=Ct.r2 (RQ s hs) i j h Dl cl cl (Bu _ _) (Bi _) Dl
def RT (s:WS) (c:Int):Ag prog 123 [.ref 0 0,iA c] [B5 1 s,AQ s] (.tup []) [B5 1 (s.fail c),AQ (s.fail c)]:=by
 have hw:AQ (s.fail c)=AQ s:=by unfold AQ;rw[(JK s c).2]
 refine RM func123 z6 ?_
 refine Aa.r2 (Gw s 0 1 De) rfl rfl (mp ?_).1;refine AK (λh=>?_) (λh=>?_)
 ·have h':s.code=0:=Sx h
  simp only[go_sem,seval,B5];refine (AZ ?_).1
  exact FK z6 [0,1] (by simp[B5,AQ,WS.fail,h'])
 ·have h':¬s.code=0:=Sx h
  refine (mp ?_).1
  exact FK z6 [0,1] (by simp[hw,WS.fail,h'])
def Cq (s:WS) (c:Int) (i j:Nat) (h:i≠j):Ct prog 123 [.ref i 0,iA c] [(i,B5 j s),(j,AQ s)] (λ_=>.tup []) [(i,B5 j (s.fail c)),(j,AQ (s.fail c))] (λ_=>[]):=Ct.u2 (RT s c) i j h Dl cl cl cl cl (Bu _ _) (Bi _) Dl
def Vq (s:WS) (m:List Int) (hs:s.ok) (hB:s.l.length+m.length≤s.most->s.l.length+m.length≤140737488355328):Ag prog 125 [.ref 0 0,Bj .u8 m] [B5 1 s,AQ s] (.tup []) [B5 1 (s.put m),AQ (s.put m)]:=by
 refine RM func125 t8 ?_
 refine Aa.r2 (Gw s 0 1 De) rfl rfl (mp ?_).1;refine AK (λh=>?_) (λh=>?_)
 ·have h':¬s.code=0:=Sx h
  refine (mp ?_).1
  (refine FB t8 [0,1] ?_ ?_<;>first|with_reducible rfl|(simp[WS.put,h'];done)|rfl)
 ·have h':s.code=0:=Sx h
  refine (mp ?_).1;refine Aa.r2 (Vp s 0 1 De hs) rfl rfl (mq @Ab ?_).1;refine AK (λh=>?_) (λh=>?_)
  ·have h2:s.most-s.l.length<m.length:=by simp at h;simp only[WS.room]at h;omega
   have hf:s.fail 2=s.put m:=by unfold WS.put WS.fail;rw[if_pos h',if_pos h',if_pos h2]
   refine (mp ?_).1;refine Aa.u2 (Cq s 2 0 1 De) rfl rfl (mp ?_).1
   exact FE t8 [0,1] hf
  ·have h2:¬s.most-s.l.length<m.length:=by simp at h;simp only[WS.room]at h;omega
   simp only[go_sem,seval,B5,AQ,Ab,C0];refine (AZ ?_).1;(repeat with_reducible refine Sa ?_)
   (refine FB t8 [0,1] ?_ ?_<;>first|with_reducible rfl|(simp[B5,AQ,WS.put,h',h2];done)|rfl)
def BZ (s:WS) (m:List Int) (i j:Nat) (h:i≠j) (hs:s.ok) (hB:s.l.length+m.length≤s.most->s.l.length+m.length≤140737488355328):Ct prog 125 [.ref i 0,Bj .u8 m] [(i,B5 j s),(j,AQ s)] (λ_=>.tup []) [(i,B5 j (s.put m)),(j,AQ (s.put m))] (λ_=>[]):=Ct.u2 (Vq s m hs hB) i j h Dl cl cl cl cl (Bu _ _) (Bi _) Dl
def O4 (s:WS) (hb:s.l.length≤140737488355328):Ag prog 83 [.ref 0 0] [B5 1 s,AQ s] (.tup [Bj .u8 s.bytes,iA s.code]) [B5 1 s,AQ s]:=by
 refine RM func83 b83 ?_
 refine Aa.r2 (Gw s 0 1 De) rfl rfl (mp ?_).1;refine AK (λh=>?_) (λh=>?_)
 ·have h':¬s.code=0:=Sx h
  refine (mp ?_).1;refine UT 2 ?_
  (refine FB b83 [0,1] ?_ ?_<;>first|with_reducible rfl|(simp[WS.bytes,h'];done)|rfl)
 ·have h':s.code=0:=Sx h
  simp only[go_sem,seval,B5,AQ,Ab];refine (AZ ?_).1;(repeat with_reducible refine Sa ?_);refine UT 2 ?_
  (refine FB b83 [0,1] ?_ ?_<;>first|with_reducible rfl|(simp[B5,AQ,WS.bytes,h'];done)|rfl)
def B0 (s:WS) (i j:Nat) (h:i≠j) (hb:s.l.length≤140737488355328):Ct prog 83 [.ref i 0] [(i,B5 j s),(j,AQ s)] (λ_=>.tup [Bj .u8 s.bytes,iA s.code]) [] (λ_=>[]):=Ct.r2 (O4 s hb) i j h Dl cl cl (Bu _ _) (Bi _) Dl
def jD (n:Int):Ag prog 80 [iA n] [] (.ref 0 0) [B5 1 (WS.new n),AQ (WS.new n)]:=by
 have e:(if 0>n then(0:Int)else n)=max n 0:=by split<;>omega
 refine RN func80 b80 ?_;refine (mq e ?_).1
 refine A2.wk (Wk.rowObj 0 1 1 rfl rfl (.inl rfl) (Nat.le_refl _)) (mp ?_).1
 exact FK b80 [0,1] (by simp[B5,AQ,WS.new])
def E6 (n:Int):Ct prog 80 [iA n] [] (λk=>.ref k 0) [] (λk=>[B5 (k+1) (WS.new n),AQ (WS.new n)]):=Ct.n (jD n) Dl cl cl
def Se (s:WS) (x:Int) (h0:0≤x) (h1:x<18446744073709551616) (hs:s.ok) (hB:s.l.length+(vb x).length≤s.most->s.l.length+(vb x).length≤140737488355328):Ag prog 133 [.ref 0 0,uA x] [B5 1 s,AQ s] (.tup []) [B5 1 (s.put (vb x)),AQ (s.put (vb x))]:=by
 refine RM func133 Adk ?_
 refine Cp (Qo x h0 h1) ?_;refine Aa.u2 (BZ s (vb x) 0 1 De hs hB) rfl rfl (mp ?_).1;exact FA Adk [0,1]
def Bm (s:WS) (x:Int) (i j:Nat) (h:i≠j) (h0:0≤x) (h1:x<18446744073709551616) (hs:s.ok) (hB:s.l.length+(vb x).length≤s.most->s.l.length+(vb x).length≤140737488355328):Ct prog 133 [.ref i 0,uA x] [(i,B5 j s),(j,AQ s)] (λ_=>.tup []) [(i,B5 j (s.put (vb x))),(j,AQ (s.put (vb x)))] (λ_=>[]):=Ct.u2 (Se s x h0 h1 hs hB) i j h Dl cl cl cl cl (Bu _ _) (Bi _) Dl
abbrev cv (s:RS):AV:=.agg [Bj .u8 s.l,iA s.at_,iA s.code,iA s.fat]
theorem HG {l m:List Int} (hl:A7 l) (hm:A7 m):((FJ (AU .u8 l)).toList==(FJ (AU .u8 m)).toList)=Ca l m:=by
 rw[ByteArray.toList_eq,ByteArray.toList_eq];unfold Ca;rw[Bool.eq_iff_iff];simp only[beq_iff_eq,decide_eq_true_eq];constructor
 ·intro h;refine tI l m hl hm ?_;have h':(AU .u8 l).map AV.byte=(AU .u8 m).map AV.byte:=by simpa[FJ]using h
  unfold AU at h';rw[map_map,map_map]at h';exact h'
 ·rintro rfl;rfl
def Wh (l m:List Int) (hl:A7 l) (hm:A7 m):Ct prog 60 [Bj .u8 l,Bj .u8 m] [] (λ_=>bA (Ca l m)) [] (λ_=>[]):=by
 refine Ag.toCt ?_ Dl Dl
 refine RN func60 b60 ?_;refine (mr @L9 (HG hl hm) ?_).1
 exact FA b60 []
def Qq (l:List Int) (i:Int) (h0:0≤i) (h1:i<l.length):(AU .u8 l).getD i.toNat .any=Yr (l.getD i.toNat 0):=Mn _ Om
abbrev GB (l:List Int):AV:=.sl .none 1 (AU .u64 l)
theorem FC (l:List Int) (i:Nat) (h:i<l.length):(AU .u64 l).getD (i:Int).toNat .any=uA (l.getD i 0):=by
 rw[Int.toNat_natCast];exact DS .u64 l i h
theorem Eo (k:IntKind) (l:List Int) (z:Int):AU k l++[.lit (.int k z)]=AU k (l++[z]):=by simp[AU]
theorem AB {s:RS} (h:¬s.code=0):s.good=false:=by simp[RS.good,h]
theorem A5 {s:RS} (h:s.code=0):s.good=true:=by simp[RS.good,h]
def SV (l m:List Int) (hn:l.length≤140737488355328):Ag prog 151 [GB l,GB m] [] (bA (Ca l m)) []:=by
 refine RN func151 t6 ?_;refine (mq @Ab ?_).1
 refine AK (λh=>?_) (λh=>?_)
 ·have hne:Ca l m=false:=by
   unfold Ca;simp at h ⊢;intro e;subst e;exact h rfl
  refine (mp ?_).1
  exact FE t6 [] hne
 ·have hlen:l.length=m.length:=by
   have h':(l.length:Int)=m.length:=Sx h
   omega
  refine (mp ?_).1;refine AA (α:=Nat) (λk=>GB l::GB m::.any::.any::.any::iA k::Az (Ay [])) (λ_=>[]) (λk=>k≤l.length∧l.take k=m.take k) (λk=>l.length-k) 0 ⟨Si,Si⟩ (Wk.to Si (by simp[B6])) ?_;rintro k ⟨hk,ht⟩;refine (mq @Ab ?_).1;refine AK (λh=>?_) (λh=>?_)
  ·have hlt:k<l.length:=Sx h
   have g1:=FC l k hlt;have g2:=FC m k Om;have ei:IntKind.i64.wrap ((k:Int)+1)=((k+1:Nat):Int):=by rw[i64_in _ Om];omega
   refine (ms g1 g2 @Ab ?_).1;(repeat with_reducible refine Sa ?_);refine AK (λh=>?_) (λh=>?_)
   ·have hx:l.getD k 0≠m.getD k 0:=Sx h
    have hne:Ca l m=false:=by unfold Ca;simp only[decide_eq_false_iff_not];rintro rfl;exact hx rfl
    refine (mp ?_).1
    exact FE t6 [] hne
   ·have hx:l.getD k 0=m.getD k 0:=Sx h
    refine (mq ei ?_).1;refine⟨k+1,⟨hlt,?_⟩,Om,Wk.to Si (by simp[B6])⟩;rw[FL l k hlt,FL m k Om,ht,hx]
  ·have hk':k=l.length:=by simp at h;omega
   have he:Ca l m=true:=by
    unfold Ca;rw[hk',take_length,take_of_length_le Om]at ht;simpa using ht
   refine (mp ?_).1
   exact FE t6 [] he
theorem Wg (l m:List Int) (hn:l.length≤140737488355328):Ct Tryz.prog 151 [GB l,GB m] [] (λ_=>bA (Ca l m)) [] (λ_=>[]):=(SV l m hn).toCt cl Dl
abbrev Ia (i:Nat) (l:List Int):AV:=.sl (.row i) 1 (AU .u8 l)
def mx0 (n:Int):(if(0:Int)>n then 0 else n)=max n 0:=by split<;>omega
theorem mn (n k:Int):(if k<n then k else n)=min n k:=by split<;>omega
def FI {β:Type} (b:List β) (h:b.length<18446744073709551616):IntKind.u64.wrap (b.length:Int)=(b.length:Int):=u64_in _ Om
def Am (k:Nat) (h:k<140737488355329):IntKind.i64.wrap ((k:Int)+1)=((k+1:Nat):Int):=by rw[i64_in _ Om];omega
def e9 (s:WS) (b:List Int) (hs:s.fine) (hb:b.length≤140737488355328):Ag prog 172 [.ref 0 0,Bj .u8 b] [B5 1 s,AQ s] (.tup []) [B5 1 ((s.put (vb b.length)).put b),AQ ((s.put (vb b.length)).put b)]:=by
 have e:=FI b Om;refine RN func172 Ac4 ?_;refine (mr @Ab e ?_).1
 refine Aa.u2 (Bm s b.length 0 1 De Om Om hs.ok (hs.room _)) rfl rfl (mp ?_).1;refine Aa.u2 (BZ _ b 0 1 De (hs.put _).ok ((hs.put _).room _)) rfl rfl (mp ?_).1;exact FA Ac4 [0,1]
def Vd (s:WS) (b:List Int) (i j:Nat) (h:i≠j) (hs:s.fine) (hb:b.length≤140737488355328):Ct prog 172 [.ref i 0,Bj .u8 b] [(i,B5 j s),(j,AQ s)] (λ_=>.tup []) [(i,B5 j ((s.put (vb b.length)).put b)),(j,AQ ((s.put (vb b.length)).put b))] (λ_=>[]):=Ct.u2 (e9 s b hs hb) i j h cl cl cl cl cl (Bu _ _) (Bi _) Dl
def X_ (s:RS) (m:Int) (m1:m<9223372036854775808) (hs:An s):Ag prog 178 [.ref 0 0,iA m] [A1 s] (Bj .u8 (s.blob m).2) [A1 (s.blob m).1]:=by
 refine RM func178 Ac2 ?_
 refine Cu (AT s m 0 m1 hs.ok hs.bys) rfl ?_;refine Cu (DH _ _ 0 (hs.int m).1.ok) rfl ?_
 exact FK Ac2 [0] (by simp[RS.blob])
def Qf (s:RS) (m:Int) (i:Nat) (m1:m<9223372036854775808) (hs:An s):Ct prog 178 [.ref i 0,iA m] [(i,A1 s)] (λ_=>Bj .u8 (s.blob m).2) [(i,A1 (s.blob m).1)] (λ_=>[]):=Ct.u1 (X_ s m m1 hs) i Dl (λρ=>AG ρ s) (λρ=>AG ρ _) (rdr_dead s) cl
def Jc (n:Int) (n1:n≤4611686018427387904):Ct prog 129 [iA n] [] (λ_=>iA ((vb (max n 0)).length+max n 0)) [] (λ_=>[]):=by
 refine Ag.toCt ?_ Dl Dl
 have e0:=mx0 n;have e1:IntKind.u64.wrap (max n 0)=max n 0:=u64_in _ Om;have hv:=(A4 (max n 0)).2;have e2:IntKind.i64.wrap (((vb (max n 0)).length:Int)+max n 0)=(vb (max n 0)).length+max n 0:=i64_in _ Om;refine RN func129 Adn ?_;refine (mr e0 e1 ?_).1
 refine Aa.p (CY (max n 0) Om Om) (mq e2 ?_).1;exact FA Adn []
def Wy (i:Nat) (hi:i≤7) (x c:Int) (h0:0≤x) (h1:x<256^i) (c0:0≤c) (c1:c<256):
 CJ .or .u64 x (IntKind.u64.wrap (IntKind.u64.wrap c*2^min (8*(i:Int)).toNat 64))=x+256^i*c:=by
 obtain⟨n,rfl⟩:=Int.eq_ofNat_of_zero_le c0;obtain⟨m,rfl⟩:=Int.eq_ofNat_of_zero_le h0;have e2:min (8*(i:Int)).toNat 64=8*i:=Om
 have e1:IntKind.u64.wrap (n:Int)=n:=u64_in _ Om;have hp:(2:Int)^(8*i)=256^i:=by rw[Int.pow_mul];rfl
 have hpos:(0:Int)<256^i:=Int.pow_pos Om;have hcast:((256^i:Nat):Int)=256^i:=by rw[Int.natCast_pow];rfl
 have h1':m<256^i:=Om
 have hB:n*256^i<18446744073709551616:=by
  have:i=0∨i=1∨i=2∨i=3∨i=4∨i=5∨i=6∨i=7:=Om
  rcases this with rfl|rfl|rfl|rfl|rfl|rfl|rfl|rfl<;>simp<;>omega
 have hm:(m:Int)<18446744073709551616:=by
  have:i=0∨i=1∨i=2∨i=3∨i=4∨i=5∨i=6∨i=7:=Om
  rcases this with rfl|rfl|rfl|rfl|rfl|rfl|rfl|rfl<;>simp at h1<;>omega
 have e0:(n:Int)*256^i=((n*256^i:Nat):Int):=by rw[Int.natCast_mul,hcast]
 have e3:IntKind.u64.wrap ((n:Int)*2^(8*i))=((n*256^i:Nat):Int):=by
  rw[hp,e0];exact u64_in _ Om
 rw[e2,e1,e3];show bits .or .u64 (m:Int) _=_;rw[u64_or_nat m _ Om hB];have e4:m|||n*256^i=n*256^i+m:=by
  rw[Nat.or_comm];have q:(2:Nat)^(8*i)=256^i:=by rw[Nat.pow_mul]
  exact nat_join (8*i) _ _ (by rw[q];exact Nat.mul_mod_left _ _) (by rw[q];exact h1')
 rw[e4,Int.natCast_add,←e0,Int.mul_comm,Int.add_comm]
theorem lI (b:List Int) (k:Nat) (h:k<b.length):BM (b.take (k+1))=BM (b.take k)+256^k*b.getD k 0:=by
 have hl:(b.take k).length=k:=by simp;omega
 rw[FL b k h,Xw,hl]
theorem LW (s:RS) (n:Int) (hs:An s):Ag prog 146 [.ref 0 0,iA n] [A1 s] (uA (s.fixed (min (max n 0) 8)).2) [A1 (s.fixed (min (max n 0) 8)).1]:=by
 have e0:=mx0 n;have e1:=mn (max n 0) 8;unfold RS.fixed;obtain⟨m,hm⟩:∃m,min (max n 0) 8=m:=⟨_,rfl⟩;have hm8:m≤8:=Om
 rw[hm]at e1 ⊢;have htl:(s.take m).2.length≤8:=by
  by_cases hc:(s.take m).1.code=0
  ·have:=(Bn hs hc).2.2.1;omega
  ·rw[Mw hc];simp
 have htb:=Fe hs.bys m;refine RN func146 Add ?_;refine (mr e0 e1 ?_).1
 refine Aa.u1 (DH s m 0 hs.ok) rfl ?_;generalize(s.take m).1=t at*;generalize(s.take m).2=b at*;refine (mq @Ab ?_).1;refine AA (α:=Nat) (λk=>Ay (.any::uA (BM (b.take k))::.any::.any::.any::.any::.any::.any::Bj .u8 b::iA b.length::iA k::Ay (Ay (Ay [.any])))) (λ_=>[A1 t]) (λk=>k≤b.length) (λk=>b.length-k) 0 Si (Wk.forget (by simp[B6,BM])) ?_;intro k hk;refine (mp ?_).1;refine AK (λh=>?_) (λh=>?_)
 ·have hlt:k<b.length:=Sx h
  have g:=Qq b k Om Om;rw[Int.toNat_natCast]at g;have hr:=Iw (l:=b.take k) λx hx=>htb x (mem_of_mem_take hx)
  have hkl:(b.take k).length=k:=by simp;omega
  rw[hkl]at hr;have hc:=htb _ (D5 b k hlt);have eo:=Wy k Om (BM (b.take k)) (b.getD k 0) hr.1 hr.2 hc.1 hc.2;have em:IntKind.i64.wrap (8*(k:Int))=8*k:=i64_in _ Om;rw[←lI b k hlt]at eo;have ei:=Am k Om;simp only[go_sem,seval,g,Ab,Int.toNat_natCast,em,eo,ei];refine (AZ ?_).1;(repeat with_reducible refine Sa ?_);exact⟨k+1,hlt,Om,Wk.to Si (by simp[B6])⟩
 ·have ek:k=b.length:=by simp at h;omega
  refine (mp ?_).1
  exact FE Add [0] ek
def DF (s:RS) (n:Int) (i:Nat) (hs:An s):Ct prog 146 [.ref i 0,iA n] [(i,A1 s)] (λ_=>uA (s.fixed (min (max n 0) 8)).2) [(i,A1 (s.fixed (min (max n 0) 8)).1)] (λ_=>[]):=Rc (LW s n hs) i
def Pi (s:WS) (l:List Int) (k:Nat) (h:k<l.length):(s.puts (l.take k)).put (vb (l.getD k 0))=s.puts (l.take (k+1)):=by
 rw[FL l k h,Px]
def s9 (x:Int) (k:Nat):x/256^k/256=x/256^(k+1):=by
 have hp:(0:Int)<256^k:=Int.pow_pos Om;rw[Int.ediv_ediv_of_nonneg Om,Int.pow_succ]
def Wr (x n:Int) (h0:0≤x) (h1:x<18446744073709551616):Ag prog 140 [uA x,iA n] [] (Bj .u8 (Aj (min (max n 0) 8).toNat x)) []:=by
 have e0:=mx0 n;have e1:=mn (max n 0) 8;obtain⟨m,hm⟩:∃m:Nat,(min (max n 0) 8).toNat=m:=⟨_,rfl⟩;have hm8:m≤8:=Om
 have hm':min (max n 0) 8=(m:Int):=Om
 rw[hm']at e1;rw[hm];refine RN func140 Adh ?_;refine (mr e0 e1 ?_).1
 refine AA (α:=Nat) (λk=>uA (x/256^k)::.any::.any::.any::.any::Ia 0 (Aj k x)::.any::.any::iA m::iA k::Ay (Ay [.any,.any,.any])) (λk=>[.row 1 k]) (λk=>k≤m) (λk=>m-k) 0 Si ((Wk.row 5 1 rfl (.inl rfl) (Nat.le_refl _)).trans (Wk.to Si (by simp[B6,AU,Aj]))) ?_;intro k hk;have hq0:0≤x/256^k:=Int.ediv_nonneg h0 (Int.le_of_lt (Int.pow_pos Om));have hq1:x/256^k≤x:=Int.ediv_le_self _ h0;have hd:=s9 x k;have hs:=OF k x;have hl:=Bo k x;refine (mp ?_).1;refine AK (λh=>?_) (λh=>?_)
 ·have hlt:k<m:=Sx h
  obtain⟨y,hy⟩:∃y,x/256^k=y:=⟨_,rfl⟩;rw[hy]at hq0 hq1 hd hs;have em:y.tmod 256=y%256:=Int.tmod_eq_emod_of_nonneg hq0;have eu:IntKind.u8.wrap (y%256)=y%256:=IntWalk.u8_in _ Om;have ed:IntKind.u64.wrap (y.tdiv 256)=x/256^(k+1):=by rw[Int.tdiv_eq_ediv_of_nonneg hq0,u64_in _ Om,hd]
  have ei:=Am k Om;simp only[go_sem,seval,hy,em,eu,ed,ei,Eo,←hs,Ab,hl];refine (AZ ?_).1;(repeat with_reducible refine Sa ?_);exact⟨k+1,hlt,Om,Wk.to Si (by simp[B6])⟩
 ·have ek:k=m:=by simp at h;omega
  refine (mp ?_).1;refine UT 4 ?_
  exact FE Adh [] ek
theorem Py (x n:Int) (h0:0≤x) (h1:x<18446744073709551616):Ct Tryz.prog 140 [uA x,iA n] [] (λ_=>Bj .u8 (Aj (min (max n 0) 8).toNat x)) [] (λ_=>[]):=(Wr x n h0 h1).toCt cl cl
def O3 (s:WS) (x n:Int) (h0:0≤x) (h1:x<18446744073709551616) (hs:s.fine):Ag prog 126 [.ref 0 0,uA x,iA n] [B5 1 s,AQ s] (.tup []) [B5 1 (s.put (Aj (min (max n 0) 8).toNat x)),AQ (s.put (Aj (min (max n 0) 8).toNat x))]:=by
 refine RM func126 Adq ?_
 refine Cp (Py x n h0 h1) ?_;refine Aa.u2 (BZ s _ 0 1 De hs.ok (hs.room _)) rfl rfl (mp ?_).1;exact FA Adq [0,1]
def HJ (s:WS) (x n:Int) (i j:Nat) (h:i≠j) (h0:0≤x) (h1:x<18446744073709551616) (hs:s.fine):Ct prog 126 [.ref i 0,uA x,iA n] [(i,B5 j s),(j,AQ s)] (λ_=>.tup []) [(i,B5 j (s.put (Aj (min (max n 0) 8).toNat x))),(j,AQ (s.put (Aj (min (max n 0) 8).toNat x)))] (λ_=>[]):=Ct.u2 (O3 s x n h0 h1 hs) i j h cl cl cl cl cl (Bu _ _) (Bi _) Dl
def US (b:Int) (l:List Int):List Int:=if CC b l=true then Dq b l l.length else[]
def Rv (b:Int) (l:List Int) (b0:0≤b) (b1:b<18446744073709551616) (hl:F9 l) (hn:l.length*8≤140737488355328):Ag prog 161 [uA b,GB l] [] (.tup [GB (US b l),bA (CC b l)]) []:=by
 refine RN func161 yP ?_;refine (mq @Ab ?_).1
 refine AA (α:=Nat) (λk=>uA (bat b l k)::.any::.any::.any::.any::.any::.sl (.row 0) 1 (AU .u64 (Dq b l k))::.any::.any::GB l::iA l.length::iA k::Az []) (λk=>[.row 1 k]) (λk=>k≤l.length∧∀i,i<k->l.getD i 0<bat b l i) (λk=>l.length-k) 0 ⟨Si,by intro i hi;omega⟩ ((Wk.row 6 1 rfl (.inl rfl) (Nat.le_refl _)).trans (Wk.to Si (by simp[B6,AU,Dq,bat]))) ?_;rintro k ⟨hk,hf⟩;have hbk:bat b l k<18446744073709551616:=by
  unfold bat;split
  ·exact b1
  ·exact(hl _ (D5 l (k-1) Om)).2
 refine (mp ?_).1;refine AK (λh=>?_) (λh=>?_)
 ·have hlt:k<l.length:=Sx h
  have g:=FC l k hlt;have hx:=hl _ (D5 l k hlt);have ei:=Am k Om;refine (mr g @Ab ?_).1;(repeat with_reducible refine Sa ?_);refine AK (λh=>?_) (λh=>?_)
  ·have h2:bat b l k≤l.getD k 0:=Sx h
   have hno:CC b l=false:=dN hlt h2;refine (mp ?_).1;refine UT 4 ?_
   (refine FB yP [] ?_ ?_<;>first|with_reducible rfl|(simp[hno,US];done)|rfl)
  ·have h2:l.getD k 0<bat b l k:=by simp at h;simpa using h
   have hs:=I7 b l k;have e1:IntKind.u64.wrap (bat b l k-l.getD k 0)=bat b l k-l.getD k 0:=u64_in _ Om;have e2:IntKind.u64.wrap (bat b l k-l.getD k 0-1)=dst b l k:=by rw[u64_in _ Om,s8];omega
   simp only[go_sem,seval,e1,e2,ei,Eo,←hs,Ab,EK];refine (AZ ?_).1;(repeat with_reducible refine Sa ?_);refine⟨k+1,⟨hlt,λi hi=>?_⟩,Om,Wk.to Si (by simp[B6,nA])⟩;rcases Nat.lt_or_ge i k with h3|h3
   ·exact hf i h3
   ·obtain rfl:i=k:=Om
    exact h2
 ·have ek:k=l.length:=by simp at h;omega
  have hyes:CC b l=true:=dO.2 λi hi=>hf i Om
  refine (mp ?_).1;refine UT 4 ?_
  (refine FB yP [] ?_ ?_<;>first|with_reducible rfl|(simp[hyes,US,ek];done)|rfl)
theorem IB (b:Int) (l:List Int) (b0:0≤b) (b1:b<18446744073709551616) (hl:F9 l) (hn:l.length*8≤140737488355328):Ct Tryz.prog 161 [uA b,GB l] [] (λ_=>.tup [GB (US b l),bA (CC b l)]) [] (λ_=>[]):=(Rv b l b0 b1 hl hn).toCt cl cl
def UW (b:Int) (l:List Int) (b0:0≤b) (b1:b<18446744073709551616) (hl:F9 l) (hn:l.length*8≤140737488355328):Ct prog 118 [uA b,GB l] [] (λ_=>bA (CC b l)) [] (λ_=>[]):=by
 refine Ag.toCt ?_ cl cl
 refine RM func118 Ads ?_
 refine Cp (IB b l b0 b1 hl hn) ?_;exact FA Ads []
def WS.fall (s:WS) (b:Int) (l:List Int):WS:=if CC b l=true then(s.put (vb l.length)).puts (Dq b l l.length)else s.fail 3
def XV (s:WS) (b:Int) (l:List Int) (hs:s.fine) (b0:0≤b) (b1:b<18446744073709551616) (hl:F9 l) (hn:l.length*8≤140737488355328):Ag prog 189 [.ref 0 0,uA b,GB l] [B5 1 s,AQ s] (.tup []) [B5 1 (s.fall b l),AQ (s.fall b l)]:=by
 have e:=FI l Om;refine RM func189 yH ?_
 refine Aa.p (IB b l b0 b1 hl hn) ?_;cases hf:CC b l
 ·refine (mq hf ?_).1;refine Aa.u2 (Cq s 3 0 1 De) rfl rfl (mp ?_).1
  (refine FB yH [0,1] ?_ ?_<;>first|with_reducible rfl|(simp[WS.fall,hf];done)|rfl)
 ·have hd:US b l=Dq b l l.length:=by unfold US;rw[if_pos hf]
  refine (mt hf hd @Ab e ?_).1;refine Aa.u2 (Bm s l.length 0 1 De Om Om hs.ok (hs.room _)) rfl rfl (mr @Ab @EK ?_).1;refine AA (α:=Nat) (λk=>.ref 0 0::Az (Ay (Ay [GB (Dq b l l.length),iA l.length,iA k,.any,.any,.any,.any,.any,.any,.any]))) (λk=>[B5 1 ((s.put (vb l.length)).puts (Dq b l k)),AQ ((s.put (vb l.length)).puts (Dq b l k))]) (λk=>k≤l.length) (λk=>l.length-k) 0 Si (Wk.to (by simp[WS.puts,Dq]) (by simp[B6])) ?_;intro k hk;refine (mp ?_).1;refine AK (λh=>?_) (λh=>?_)
  ·have hlt:k<l.length:=Sx h
   have g:(AU .u64 (Dq b l l.length)).getD (k:Int).toNat .any=uA (dst b l k):=by rw[FC _ k (by rw[EK];exact hlt),UR b l _ k hlt]
   have hx:=K0 b1 hl hf hlt;have ei:=Am k Om;have hps:=Px (s.put (vb l.length)) (Dq b l k) (dst b l k);rw[←I7]at hps;refine (ms g @Ab @EK ?_).1;(repeat with_reducible refine Sa ?_);refine Aa.u2 (Bm _ (dst b l k) 0 1 De hx.1 hx.2 ((hs.put _).puts _).ok (((hs.put _).puts _).room _)) rfl rfl ?_;simp only[go_sem,seval,ei,←hps];refine (AZ ?_).1;exact⟨k+1,hlt,Om,Wk.to Si (by simp[B6])⟩
  ·have ek:k=l.length:=by simp at h;omega
   refine (mp ?_).1
   (refine FB yH [0,1] ?_ ?_<;>first|with_reducible rfl|(simp[WS.fall,hf,ek];done)|rfl)
def eH (s:WS) (b:Int) (l:List Int) (i j:Nat) (h:i≠j) (hs:s.fine) (b0:0≤b) (b1:b<18446744073709551616) (hl:F9 l) (hn:l.length*8≤140737488355328):Ct prog 189 [.ref i 0,uA b,GB l] [(i,B5 j s),(j,AQ s)] (λ_=>.tup []) [(i,B5 j (s.fall b l)),(j,AQ (s.fall b l))] (λ_=>[]):=Ct.u2 (XV s b l hs b0 b1 hl hn) i j h cl cl cl cl cl (Bu _ _) (Bi _) Dl
def UU (b:Int) (l:List Int) (b0:0≤b) (b1:b<18446744073709551616) (hl:F9 l) (hn:l.length*10≤140737488355328):Ag prog 188 [uA b,GB l] [] (iA (if CC b l=true then(DW b l).length else 0)) []:=by
 have e:=FI l Om;have eB:((DW b l).length:Int)=(vb l.length).length+(Jn (Dq b l l.length)).length:=by simp[DW]
 have hv:=(A4 l.length).2;refine RM func188 yI ?_
 refine Aa.p (IB b l b0 b1 hl Om) ?_;cases hf:CC b l
 ·refine (mq hf ?_).1
  exact FE yI [] hf
 ·have hd:US b l=Dq b l l.length:=by unfold US;rw[if_pos hf]
  refine (mt hf hd @Ab e ?_).1;refine Aa.p (CY l.length Om Om) (mr @Ab @EK ?_).1;refine AA (α:=Nat) (λk=>Ay (.any::.any::.any::iA ((vb l.length).length+(Jn (Dq b l k)).length)::Ay (Ay (Ay (.any::.any::GB (Dq b l l.length)::iA l.length::iA k::Ay (Ay [.any])))))) (λ_=>[]) (λk=>k≤l.length) (λk=>l.length-k) 0 Si (Wk.to Si (by simp[B6,Jn,Dq])) ?_;intro k hk;refine (mp ?_).1;refine AK (λh=>?_) (λh=>?_)
  ·have hlt:k<l.length:=Sx h
   have g:(AU .u64 (Dq b l l.length)).getD (k:Int).toNat .any=uA (dst b l k):=by rw[FC _ k (by rw[EK];exact hlt),UR b l _ k hlt]
   have hx:=K0 b1 hl hf hlt;have ei:=Am k Om;have h1:=Qm (Dq b l k);rw[EK]at h1;have h2:=(A4 (dst b l k)).2;have es:IntKind.i64.wrap (((vb (l.length:Int)).length:Int)+((Jn (Dq b l k)).length:Int)+((vb (dst b l k)).length:Int))=(vb (l.length:Int)).length+(Jn (Dq b l (k+1))).length:=by
    rw[i64_in _ Om,I7,Sd,length_append];omega
   refine (ms g @Ab @EK ?_).1;(repeat with_reducible refine Sa ?_);refine Aa.p (CY _ hx.1 hx.2) (mr es ei ?_).1;exact⟨k+1,hlt,Om,Wk.to Si (by simp[B6])⟩
  ·have ek:k=l.length:=by simp at h;omega
   refine (mp ?_).1
   (refine FB yI [] ?_ ?_<;>first|with_reducible rfl|(simp[ek,hf,eB];done)|rfl)
theorem XU (b:Int) (l:List Int) (b0:0≤b) (b1:b<18446744073709551616) (hl:F9 l) (hn:l.length*10≤140737488355328):Ct Tryz.prog 188 [uA b,GB l] [] (λ_=>iA (if CC b l=true then(DW b l).length else 0)) [] (λ_=>[]):=(UU b l b0 b1 hl hn).toCt cl cl
def XK {b:Int} {s:RS} {acc:List Int} (hx:HQ b acc≤s.vint.2):((Dp b).f s acc).1=s.vint.1.fail 13 s.at_∧¬((Dp b).f s acc).1.code=0:=by
 show(if s.vint.1.code=0∧HQ b acc≤s.vint.2 then(s.vint.1.fail 13 s.at_,(0:Int))else(s.vint.1,HQ b acc-1-s.vint.2)).1=_∧_;by_cases hc:s.vint.1.code=0
 ·refine⟨by rw[if_pos ⟨hc,hx⟩],?_⟩;show¬(if s.vint.1.code=0∧HQ b acc≤s.vint.2 then(s.vint.1.fail 13 s.at_,(0:Int))else(s.vint.1,HQ b acc-1-s.vint.2)).1.code=0;rw[if_pos ⟨hc,hx⟩];exact BR _ _ hc De
 ·refine⟨?_,?_⟩
  ·rw[if_neg λh=>hc h.1];unfold RS.fail;rw[if_neg hc]
  ·show¬(if s.vint.1.code=0∧HQ b acc≤s.vint.2 then(s.vint.1.fail 13 s.at_,(0:Int))else(s.vint.1,HQ b acc-1-s.vint.2)).1.code=0;rw[if_neg λh=>hc h.1];exact hc
def XL {b:Int} {s:RS} {acc:List Int} (hx:s.vint.2<HQ b acc):(Dp b).f s acc=(s.vint.1,HQ b acc-1-s.vint.2):=by
 show(if s.vint.1.code=0∧HQ b acc≤s.vint.2 then(s.vint.1.fail 13 s.at_,(0:Int))else(s.vint.1,HQ b acc-1-s.vint.2))=_;rw[if_neg Om]
theorem UV (s:RS) (b m:Int) (b0:0≤b) (b1:b<18446744073709551616) (m1:m<9223372036854775808) (hs:An s) (hn:s.l.length*8≤140737488355328):Ag prog 197 [.ref 0 0,uA b,iA m] [A1 s] (GB (s.fall b m).2) [A1 ((s.fall b m).1)]:=by
 have hF:=Ko b1;have hir:=Er (s:=s) (m:=m) hs.bys;have⟨hi1,hi2⟩:=hs.int m;unfold RS.fall EM.counted;refine RM func197 tW ?_
 refine Aa.u1 (AT s m 0 m1 hs.ok hs.bys) rfl ?_;generalize hu:(s.int m).1=u at*;generalize(s.int m).2=z at*;obtain⟨N,hN⟩:∃N,z.toNat=N:=⟨_,rfl⟩;have hz:z=(N:Int):=Om
 subst hz;rw[Int.toNat_natCast];refine (mp ?_).1;refine AA (α:=RS×List Int) (λa=>.ref 0 0::uA (HQ b a.2)::.any::.any::.any::.any::.any::.sl (.row 1) 1 (AU .u64 a.2)::.any::.any::.any::.any::iA N::iA a.2.length::Az (Ay (Ay []))) (λa=>[A1 a.1,.row 1 a.2.length]) ((Dp b).On u N) (λa=>N-a.2.length) (u,[]) (EM.On.start hi1 N) ((Wk.row 7 1 rfl (.inl rfl) (Nat.le_refl _)).trans (Wk.to Si (by simp[B6,AU,HQ]))) ?_;rintro⟨t,acc⟩ ho;have hla:=ho.len;rw[hi2]at hla;have h1:=ho.ok;have h6:=ho.res;have hw:=Md ho.wf;simp only at h1 h6 hw;refine (mp ?_).1;refine AK (λh=>?_) (λh=>?_)
 ·have hlt:acc.length<N:=Sx h
  have ei:=Am acc.length Om;have hx:=Bf (s:=t) h1.bys;refine (mp ?_).1;refine Aa.r1 (AP t 0) rfl (mp ?_).1;refine Aa.u1 (B4 t 0 h1.ok h1.bys) rfl (mp ?_).1;by_cases hv:HQ b acc≤t.vint.2
  ·have q:decide (HQ b acc≤t.vint.2)=true:=Sx hv
   have⟨o1,o2⟩:=XK (b:=b) (s:=t) (acc:=acc) hv;have hb:=F1 (F:=Dp b) (s:=t) hlt o2;rw[h6,o1]at hb;rw[o1]at o2;refine (mq q ?_).1;refine Aa.u1 (Ar _ 13 _ 0) rfl (mp ?_).1;refine Aa.r1 (Ah _ 0) rfl (mq (AB o2) ?_).1;refine UT 6 ?_
   exact FE tW [0] hb
  ·have q:decide (HQ b acc≤t.vint.2)=false:=Sx hv
   have hf:=XL (b:=b) (s:=t) (acc:=acc) Om;refine (mq q ?_).1;refine Aa.r1 (Ah _ 0) rfl ?_;by_cases hc:t.vint.1.code=0
   ·have hnx:=ho.next hF hlt (by rw[hf];exact hc);rw[hf]at hnx;have hl2:=hnx.len;rw[length_append,length_singleton,hi2]at hl2;have e1:IntKind.u64.wrap (t.vint.2+1)=t.vint.2+1:=u64_in _ Om;have e2:IntKind.u64.wrap (HQ b acc-(t.vint.2+1))=HQ b acc-1-t.vint.2:=by rw[u64_in _ Om];omega
    simp only[go_sem,seval,A5 hc,e1,e2,Eo,Ab,ei];refine (AZ ?_).1;(repeat with_reducible refine Sa ?_);exact⟨(t.vint.1,acc++[HQ b acc-1-t.vint.2]),hnx,by simp;omega,Wk.to Si (by simp[B6,U9])⟩
   ·have hb:=F1 (F:=Dp b) (s:=t) (acc:=acc) hlt (by rw[hf];exact hc);rw[h6,hf]at hb;refine (mq (AB hc) ?_).1;refine UT 6 ?_
    exact FE tW [0] hb
 ·have hge:N≤acc.length:=Sx h
  have hb:=M8 (F:=Dp b) (s:=t) hge;rw[h6]at hb;refine (mp ?_).1;refine UT 6 ?_
  exact FE tW [0] hb
def JM (s:RS) (b m:Int) (i:Nat) (b0:0≤b) (b1:b<18446744073709551616) (m1:m<9223372036854775808) (hs:An s) (hn:s.l.length*8≤140737488355328):Ct prog 197 [.ref i 0,uA b,iA m] [(i,A1 s)] (λ_=>GB (s.fall b m).2) [(i,A1 ((s.fall b m).1))] (λ_=>[]):=Ct.u1 (UV s b m b0 b1 m1 hs hn) i cl (λρ=>AG ρ _) (λρ=>AG ρ _) (rdr_dead _) cl
abbrev F3 (x:Lk):AV:=.agg [uA x.st,GB x.bk]
def EO (l:List Lk):List AV:=l.map F3
abbrev C3 (l:List Lk):AV:=.sl .none 2 (EO l)
@[simp] theorem DM (ρ:Nat->Nat) (l:List Lk):(EO l).map (λx=>x.ren ρ)=EO l:=by
 have h:∀(k:IntKind) (m:List Int),(AU k m).map (λx=>x.ren ρ)=AU k m:=AI ρ;simp[EO,AD]
@[simp] theorem wD (ρ:Nat->Nat) (k:IntKind) (l:List Int):(AU k l).map (λx=>x.ren ρ)=AU k l:=AI ρ k l
theorem Ao (l:List Lk):(EO l).length=l.length:=by simp[EO]
theorem QW:EO []=[]:=(rfl)
theorem Na (l:List Lk) (x:Lk):EO l++[F3 x]=EO (l++[x]):=by simp[EO]
theorem Cm (l:List Lk) (k:Nat) (h:k<l.length):(EO l).getD k .any=F3 (l.getD k B_):=by simp[EO,h]
theorem YT (l:List Lk) (k:Nat) (h:k<l.length):l.take (k+1)=l.take k++[l.getD k B_]:=by
 rw[take_succ_eq_append_getElem h];simp[h]
theorem Oe.take {l:List Lk} (h:Oe l) (k:Nat):Oe (l.take k):=λx hx=>h x (mem_of_mem_take hx)
def Nw (k:Nat) (h0:0<k) (h:k<140737488355328):IntKind.i64.wrap ((k:Int)-1)=((k-1:Nat):Int):=by rw[i64_in _ Om];omega
def Lm (x:Lk):Ct prog 116 [F3 x] [] (λ_=>uA x.st) [] (λ_=>[]):=by
 refine Ag.toCt ?_ cl cl
 refine RM func116 Adt ?_
 exact FA Adt []
theorem TM (l:List Lk) (hn:l.length≤1000000):Ag prog 115 [C3 l,.fn 116 [] []] [] (bA (EH l)) []:=by
 refine RN func115 z8 ?_;refine (mq @Ao ?_).1
 refine AA (α:=Nat) (λk=>C3 l::.fn 116 [] []::.any::.any::.any::.any::.any::iA l.length::iA k::Az (Ay [.any])) (λ_=>[]) (λk=>k≤l.length∧∀i,i<k->0<i->(l.getD (i-1) B_).st<(l.getD i B_).st) (λk=>l.length-k) 0 ⟨Si,λi hi=>by omega⟩ (Wk.to Si (by simp[B6])) ?_;rintro k ⟨hk,hall⟩;refine (mp ?_).1;by_cases hlt:k<l.length
 ·have q1:decide ((k:Int)<(l.length:Int))=true:=by simp;omega
  have ek:=Am k Om;have g:=Cm l k hlt;by_cases h0:0<k
  ·have q2:decide ((0:Int)<(k:Int))=true:=by simp;omega
   have ep:=Nw k h0 Om;have g2:=Cm l (k-1) Om;simp only[go_sem,seval,q1,q2,g,Ao,Int.toNat_natCast];refine (AZ ?_).1;(repeat with_reducible refine Sa ?_);refine Aa.p (Lm (l.getD k B_)) (mt ep g2 @Ao @Int.toNat_natCast ?_).1;(repeat with_reducible refine Sa ?_);refine Aa.p (Lm (l.getD (k-1) B_)) ?_;by_cases hs:(l.getD k B_).st≤(l.getD (k-1) B_).st
   ·have q3:decide ((l.getD k B_).st≤(l.getD (k-1) B_).st)=true:=Sx hs
    have e:EH l=false:=by
     cases hr:EH l with
     |false=>rfl
     |true=>have:=Fsq.1 hr k hlt h0;omega
    refine (mq q3 ?_).1
    exact FE z8 [] e
   ·have q3:decide ((l.getD k B_).st≤(l.getD (k-1) B_).st)=false:=Sx hs
    refine (mr q3 ek ?_).1;exact⟨k+1,⟨hlt,λi hi h1=>by
     rcases Nat.lt_or_ge i k with h|h
     ·exact hall i h h1
     ·obtain rfl:i=k:=Om
      omega⟩,Om,Wk.to Si (by simp[B6])⟩
  ·have q2:decide ((0:Int)<(k:Int))=false:=by simp;omega
   refine (ms q1 q2 ek ?_).1;exact⟨k+1,⟨hlt,λi hi h1=>by omega⟩,Om,Wk.to Si (by simp[B6])⟩
 ·have q1:decide ((k:Int)<(l.length:Int))=false:=by simp;omega
  have e:EH l=true:=Fsq.2 λi hi h0=>hall i Om h0
  refine (mq q1 ?_).1
  exact FE z8 [] e
theorem WM (l:List Lk) (hn:l.length≤1000000):Ct Tryz.prog 115 [C3 l,.fn 116 [] []] [] (λ_=>bA (EH l)) [] (λ_=>[]):=(TM l hn).toCt cl cl
def Y7 {α:Type} {p:α->Bool} {l:List α} (h:∀x∈l,p x=false):l.findIdx p=l.length:=findIdx_eq_length.2 h
def TN (f:FuncId) (o:Ac) (ok:Lk->Bool) (ho:∀ρ,o.ren ρ=o) (hd:o≠ .dead) (l:List Lk) (hf:∀x∈l,∀i,Ct prog f [F3 x,.ref i 0] [(i,o)] (λ_=>bA (ok x)) [] (λ_=>[])) (hn:l.length≤1000000):
 Ag prog 75 [C3 l,.fn f [] [.ref 0 0]] [o] (iA (l.findIdx ok)) [o]:=by
 refine RN func75 b75 ?_;refine (mq @Ao ?_).1
 refine AA (α:=Nat) (λk=>C3 l::.fn f [] [.ref 0 0]::.any::.any::.any::.any::.any::C3 l::iA l.length::iA k::Ay (Ay [.any,.any,.any])) (λ_=>[o]) (λk=>k≤l.length∧∀i (h:i<l.length),i<k->ok l[i]=false) (λk=>l.length-k) 0 ⟨Si,λi _ hi=>by omega⟩ (Wk.to Si (by simp[B6])) ?_;rintro k ⟨hk,hall⟩;refine (mp ?_).1;by_cases hlt:k<l.length
 ·have q1:decide ((k:Int)<(l.length:Int))=true:=by simp;omega
  have ek:=Am k Om;have g:=Cm l k hlt;have eg:l.getD k B_=l[k]:=by simp[hlt]
  have hm:=DC l k hlt;have hfx:=hf _ hm 0;rw[eg]at g hfx;refine (mt q1 g @Ao @Int.toNat_natCast ?_).1;(repeat with_reducible refine Sa ?_);refine Aa.r1 (hfx) rfl ?_;by_cases hs:ok l[k]=true
  ·have e:l.findIdx ok=k:=by
    rw[findIdx_eq hlt];exact⟨hs,λj hj=>hall j Om hj⟩
   refine (mq hs ?_).1
   exact FF b75 [0] e ho
  ·have hs':ok l[k]=false:=Sx hs
   refine (mr hs' ek ?_).1;exact⟨k+1,⟨hlt,λi h hi=>by
    rcases Nat.lt_or_ge i k with h1|h1
    ·exact hall i h h1
    ·obtain rfl:i=k:=Om
     exact hs'⟩,Om,Wk.sel [0] Si rfl Si rfl (by simp[ho]) (by simp[Ch,AD])⟩
 ·have q1:decide ((k:Int)<(l.length:Int))=false:=by simp;omega
  have e:l.findIdx ok=l.length:=Y7 λx hx=>by
   obtain⟨i,hi,rfl⟩:=getElem_of_mem hx;exact hall i hi Om
  refine (mr q1 @Ao ?_).1
  exact FF b75 [0] e ho
def Nd (f:FuncId) (o:Ac) (ok:Lk->Bool) (ho:∀ρ,o.ren ρ=o) (hd:o≠ .dead) (l:List Lk) (hf:∀x∈l,∀i,Ct prog f [F3 x,.ref i 0] [(i,o)] (λ_=>bA (ok x)) [] (λ_=>[])) (hn:l.length≤1000000) (i:Nat):
 Ct prog 75 [C3 l,.fn f [] [.ref i 0]] [(i,o)] (λ_=>iA (l.findIdx ok)) [] (λ_=>[]):=Ct.r1 (TN f o ok ho hd l hf hn) i cl ho hd Dl
abbrev Tr (x:Int):Ac:=.cells [uA x]
def QZ (pos:Int) (x:Lk) (hx:x.ok) (p0:0≤pos) (p1:pos<18446744073709551616) (hn:x.bk.length≤1000000):Ag prog 117 [F3 x,.ref 0 0] [Tr pos] (bA (!GX pos x)) [Tr pos]:=by
 refine RN func117 z7 ?_;refine (mq @Ab ?_).1
 by_cases h4:x.bk.length≤4
 ·have q1:decide (4<(x.bk.length:Int))=false:=by simp;omega
  have e:GX pos x=CC pos x.bk:=by unfold GX;rw[decide_eq_true h4];simp
  refine (mq q1 ?_).1;refine Cp (UW pos x.bk p0 p1 hx.b Om) ?_
  exact FE z7 [0] e
 ·have q1:decide (4<(x.bk.length:Int))=true:=by simp;omega
  have e:GX pos x=false:=by unfold GX;rw[decide_eq_false h4];simp
  refine (mq q1 ?_).1
  exact FE z7 [0] e
def TR (pos:Int) (x:Lk) (hx:x.ok) (p0:0≤pos) (p1:pos<18446744073709551616) (hn:x.bk.length≤1000000) (i:Nat):Ct prog 117 [F3 x,.ref i 0] [(i,Tr pos)] (λ_=>bA (!GX pos x)) [] (λ_=>[]):=
 Ct.r1 (QZ pos x hx p0 p1 hn) i cl (λρ=>by simp[AD]) Si Dl
def B7 (l:List Lk):Prop:=l.length≤1000000∧∀x∈l,x.bk.length≤1000000
def JA (pos:Int) (l:List Lk) (hl:Oe l) (hm:B7 l) (p0:0≤pos) (p1:pos<18446744073709551616):Ct prog 74 [uA pos,C3 l] [] (λ_=>bA (BH pos l)) [] (λ_=>[]):=by
 refine Ag.toCt ?_ cl cl
 have⟨hn,hb⟩:=hm;refine RN func74 b74 ?_;refine (mq @Ao ?_).1
 by_cases h16:l.length≤16
 ·have q1:decide (16<(l.length:Int))=false:=by simp;omega
  refine (mq q1 ?_).1;refine Aa.p (WM l hn) ?_;by_cases hr:EH l=true
  ·have he:BH pos l=((l.findIdx λx=> !GX pos x:Nat)==l.length):=by
    rw[Bool.eq_iff_iff,Dz,beq_iff_eq,findIdx_eq_length];simp[h16,hr]
   have he2:(((l.findIdx λx=> !GX pos x:Nat):Int)==(l.length:Int))=BH pos l:=by
    rw[he,Bool.eq_iff_iff,beq_iff_eq,beq_iff_eq];omega
   refine (mq hr ?_).1;refine Aa.r1 (Nd 117 (Tr pos) (λx=> !GX pos x) (λρ=>by simp[AD]) Si l (λx hx i=>TR pos x (hl x hx) p0 p1 (hb x hx) i) hn _) rfl (mr @Ao he2 ?_).1;exact FA b74 []
  ·have hr':EH l=false:=Sx hr
   have he:BH pos l=false:=by simp[BH,hr']
   refine (mq hr' ?_).1
   exact FE b74 [] he
 ·have q1:decide (16<(l.length:Int))=true:=by simp;omega
  have he:BH pos l=false:=by simp[BH,h16]
  refine (mq q1 ?_).1
  exact FE b74 [] he
def Hj (l:List Lk) (i:Nat):Int:=(l.getD i B_).st-HV (l.take i)-1
def FQ (l:List Lk) (k:Nat):List Int:=(List.range k).map (Hj l)
def VR (l:List Lk) (k:Nat):FQ l (k+1)=FQ l k++[Hj l k]:=by simp[FQ,range_succ]
theorem EU (l:List Lk) (k:Nat):(FQ l k).length=k:=by simp[FQ]
theorem Pl (l:List Lk) (n k:Nat) (h:k<n):(FQ l n).getD k 0=Hj l k:=by simp[FQ,h]
def Jp {l:List Lk} (hl:Oe l) (hr:EH l=true) {i:Nat} (hi:i<l.length):0≤Hj l i∧Hj l i<18446744073709551616:=by
 have ho:=hl _ (DC l i hi);have h0:=ho.s0;have h1:=ho.s1;unfold Hj;rw[Kb l i Om];split
 ·omega
 ·rename_i hz;have:=Fsq.1 hr i hi Om;have hp:=(hl _ (DC l (i-1) Om)).s0;omega
theorem TL (l:List Lk) (hl:Oe l) (hr:EH l=true) (hn:l.length≤1000000):Ag prog 187 [C3 l] [] (GB (FQ l l.length)) []:=by
 refine RN func187 Acx ?_;refine (mq @Ao ?_).1
 refine AA (α:=Nat) (λk=>C3 l::.any::.any::.sl (.row 0) 1 (AU .u64 (FQ l k))::.any::.any::.any::C3 l::iA l.length::iA k::Az (Ay [.any,.any,.any])) (λk=>[.row 1 k]) (λk=>k≤l.length) (λk=>l.length-k) 0 Si ((Wk.row 3 1 rfl (.inl rfl) De).trans (Wk.to Si (by simp[B6,AU,FQ]))) ?_;intro k hk;have hkl:=EU l k;refine (mp ?_).1;by_cases hlt:k<l.length
 ·have q1:decide ((k:Int)<(l.length:Int))=true:=by simp;omega
  have ek:=Am k Om;have g:=Cm l k hlt;have ho:=hl _ (DC l k hlt);have hs:=Jp hl hr hlt;have hss:=VR l k;have est:Hj l k=if k=0 then(l.getD k B_).st else(l.getD k B_).st-(l.getD (k-1) B_).st-1:=by
   unfold Hj;rw[Kb l k Om];split
   ·omega
   ·rfl
  by_cases h0:0<k
  ·have q2:decide ((0:Int)<(k:Int))=true:=by simp;omega
   rw[if_neg Om]at est;have ep:=Nw k h0 Om;have g2:=Cm l (k-1) Om;have hp:=hl _ (DC l (k-1) Om);have hp0:=hp.s0;have ho1:=ho.s1;have w1:IntKind.u64.wrap ((l.getD (k-1) B_).st+1)=(l.getD (k-1) B_).st+1:=u64_in _ Om;have w2:IntKind.u64.wrap ((l.getD k B_).st-((l.getD (k-1) B_).st+1))=Hj l k:=by rw[u64_in _ Om];omega
   simp only[go_sem,seval,q1,q2,g,g2,ep,w1,w2,Ao,Int.toNat_natCast];refine (AZ ?_).1;(repeat with_reducible refine Sa ?_);simp only[go_sem,seval,Eo,←hss,Ab,hkl,ek];refine (AZ ?_).1;(repeat with_reducible refine Sa ?_);exact⟨k+1,Om,Om,Wk.sel [0] Si rfl Si rfl (by simp[AD]) (by simp[Ch,AD])⟩
  ·have q2:decide ((0:Int)<(k:Int))=false:=by simp;omega
   rw[if_pos Om]at est;simp only[go_sem,seval,q1,q2,g,←est,Eo,←hss,Ab,hkl,ek,Ao,Int.toNat_natCast];refine (AZ ?_).1;(repeat with_reducible refine Sa ?_);exact⟨k+1,Om,Om,Wk.sel [0] Si rfl Si rfl (by simp[AD]) (by simp[Ch,AD])⟩
 ·have q1:decide ((k:Int)<(l.length:Int))=false:=by simp;omega
  have ek:k=l.length:=Om
  refine (mq q1 ?_).1;refine UT 2 ?_
  exact FE Acx [] ek
theorem Nc (l:List Lk) (hl:Oe l) (hr:EH l=true) (hn:l.length≤1000000):Ct Tryz.prog 187 [C3 l] [] (λ_=>GB (FQ l l.length)) [] (λ_=>[]):=(TL l hl hr hn).toCt cl cl
def WS.lkN (s:WS) (pos:Int) (l:List Lk):Nat->WS
 |0=>s.put (vb l.length)
 |k+1=>((s.lkN pos l k).put (vb (Hj l k))).fall pos (l.getD k B_).bk
def WS.links (s:WS) (pos:Int) (l:List Lk):WS:=if BH pos l=true then s.lkN pos l l.length else s.fail 3
theorem WS.fine.fall {s:WS} (h:s.fine) (b:Int) (l:List Int):(s.fall b l).fine:=by
 unfold WS.fall;split
 ·exact(h.put _).puts _
 ·exact h.fail 3
theorem WS.fine.lkN {s:WS} (h:s.fine) (pos:Int) (l:List Lk):∀k,(s.lkN pos l k).fine:=by
 intro k
 induction k with
 |zero=>exact h.put _
 |succ k ih=>exact(ih.put _).fall _ _
theorem WS.fine.links {s:WS} (h:s.fine) (pos:Int) (l:List Lk):(s.links pos l).fine:=by
 unfold WS.links;split
 ·exact h.lkN pos l _
 ·exact h.fail 3
theorem CO {s:WS} {m:List Int} (h:s.code=0) (hm:(s.l.length:Int)+m.length≤s.most):s.put m=⟨s.most,s.l++m,0⟩:=by
 rw[WS.put_ok h hm];cases s;simp at h;simp[h]
theorem lQ {s:WS} {b:Int} {l:List Int} (h:s.code=0) (hf:CC b l=true) (hm:(s.l.length:Int)+(DW b l).length≤s.most):s.fall b l=⟨s.most,s.l++DW b l,0⟩:=by
 unfold DW at hm;rw[length_append]at hm;unfold WS.fall;rw[if_pos hf,CO h Om,MW rfl _ (by simp only[length_append];omega)];simp[DW]
theorem I6 {pos:Int} {l:List Lk} {k:Nat} (h:k<l.length):BL (CR pos).enc [] (l.take (k+1))=BL (CR pos).enc [] (l.take k)++(vb (Hj l k)++DW pos (l.getD k B_).bk):=by
 rw[YT l k h,G_];rfl
def Zd {pos:Int} {l:List Lk}:∀k,k≤l.length->(BL (CR pos).enc [] (l.take k)).length≤(BL (CR pos).enc [] l).length:=by
 intro k hk;have gen:∀n,k+n=l.length->(BL (CR pos).enc [] (l.take k)).length≤(BL (CR pos).enc [] l).length:=by
  intro n
  induction n generalizing k with
  |zero=>intro h;rw[take_of_length_le Om];exact Nat.le_refl _
  |succ n ih=>
   intro h;have h1:=ih (k+1) Om Om;rw[I6 Om,length_append]at h1;omega
 exact gen (l.length-k) Om
theorem rJ {s:WS} {pos:Int} {l:List Lk} (hr:BH pos l=true) (h:s.code=0) (hm:(s.l.length:Int)+(Cn pos l).length≤s.most):∀k,k≤l.length->s.lkN pos l k=⟨s.most,s.l++(vb l.length++BL (CR pos).enc [] (l.take k)),0⟩:=by
 have⟨r1,r2,r3⟩:=Dz.1 hr;unfold Cn at hm;rw[length_append]at hm;intro k
 induction k with
 |zero=>intro _;unfold WS.lkN;rw[CO h Om];simp[BL]
 |succ k ih=>
  intro hk;have hle:=Zd (pos:=pos) (l:=l) (k+1) hk;have he:=I6 (pos:=pos) (l:=l) (k:=k) Om;have hel:=congrArg List.length he;simp only[length_append]at hel;unfold WS.lkN;rw[ih Om,CO rfl (by simp only[length_append];omega),lQ rfl (GW.1 (r3 _ (DC l k Om))).2 (by simp only[length_append];omega),he];simp only[append_assoc]
theorem bV {s:WS} {pos:Int} {l:List Lk} (hr:BH pos l=true) (h:s.code=0) (hm:(s.l.length:Int)+(Cn pos l).length≤s.most):s.links pos l=⟨s.most,s.l++Cn pos l,0⟩:=by
 unfold WS.links;rw[if_pos hr,rJ hr h hm _ (Nat.le_refl _),take_length];rfl
def dQ {b:Int} {l:List Int} (h:l.length≤4):(DW b l).length≤50:=by
 unfold DW;rw[length_append];have h1:=(A4 (l.length:Int)).2;have h2:=Qm (Dq b l l.length);rw[EK]at h2;omega
def Jz {pos:Int} {l:List Lk} (hr:BH pos l=true):(Cn pos l).length≤970:=by
 have⟨r1,r2,r3⟩:=Dz.1 hr;have hv:=(A4 (l.length:Int)).2;have key:∀k,k≤l.length->(BL (CR pos).enc [] (l.take k)).length≤60*k:=by
  intro k
  induction k with
  |zero=>intro _;simp[BL]
  |succ k ih=>
   intro hk;have h1:=ih Om;rw[I6 Om,length_append,length_append];have h2:=(A4 (Hj l k)).2;have h3:=dQ (b:=pos) (GW.1 (r3 _ (DC l k Om))).1;omega
 have:=key l.length (Nat.le_refl _);rw[take_length]at this;unfold Cn;rw[length_append];omega
theorem cC (s:WS) (pos:Int) (l:List Lk) (hs:s.fine) (hl:Oe l) (hm:B7 l) (p0:0≤pos) (p1:pos<18446744073709551616):Ag prog 170 [.ref 0 0,uA pos,C3 l] [B5 1 s,AQ s] (.tup []) [B5 1 (s.links pos l),AQ (s.links pos l)]:=by
 have hn:=hm.1;have e:=FI l Om;refine RM func170 yM ?_
 refine Aa.p (JA pos l hl hm p0 p1) ?_;by_cases hr:BH pos l=true
 ·have⟨r1,r2,r3⟩:=Dz.1 hr;refine (ms hr @Ao e ?_).1;refine Aa.u2 (Bm s l.length 0 1 De Om Om hs.ok (hs.room _)) rfl rfl (mp ?_).1;refine Aa.p (Nc l hl r2 hn) (mr @Ab @EU ?_).1;refine AA (α:=Nat) (λk=>.ref 0 0::uA pos::C3 l::Az (.any::GB (FQ l l.length)::iA l.length::iA k::Az [])) (λk=>[B5 1 (s.lkN pos l k),AQ (s.lkN pos l k)]) (λk=>k≤l.length) (λk=>l.length-k) 0 Si (Wk.to (by rfl) (by simp[B6])) ?_;intro k hk;have hf:=hs.lkN pos l k;refine (mp ?_).1;by_cases hlt:k<l.length
  ·have q1:decide ((k:Int)<(l.length:Int))=true:=by simp;omega
   have ek:=Am k Om;have g:=Cm l k hlt;have g2:=FC (FQ l l.length) k (by rw[EU];exact hlt);rw[Pl l _ k hlt,Int.toNat_natCast]at g2;have hx:=Jp hl r2 hlt;have ho:=hl _ (DC l k hlt);have hsm:=hm.2 _ (DC l k hlt);simp only[go_sem,seval,q1,g2,Ab,EU,Int.toNat_natCast];refine (AZ ?_).1;(repeat with_reducible refine Sa ?_);refine Aa.u2 (Bm (s.lkN pos l k) (Hj l k) 0 1 De hx.1 hx.2 hf.ok (hf.room _)) rfl rfl (ms g @Ao @Int.toNat_natCast ?_).1;(repeat with_reducible refine Sa ?_);refine Aa.u2 (eH ((s.lkN pos l k).put (vb (Hj l k))) pos (l.getD k B_).bk 0 1 De (hf.put _) p0 p1 ho.b Om) rfl rfl (mq ek ?_).1;exact⟨k+1,Om,Om,Wk.to (by rfl) (by simp[B6])⟩
  ·have q1:decide ((k:Int)<(l.length:Int))=false:=by simp;omega
   have ek:k=l.length:=Om
   subst ek;refine (mq q1 ?_).1
   (refine FB yM [0,1] ?_ ?_<;>first|with_reducible rfl|(simp[WS.links,hr];done)|rfl)
 ·have hr':BH pos l=false:=Sx hr
  refine (mq hr' ?_).1;refine Aa.u2 (Cq s 3 0 1 De) rfl rfl (mp ?_).1
  (refine FB yM [0,1] ?_ ?_<;>first|with_reducible rfl|(simp[WS.links,hr'];done)|rfl)
def kN (s:WS) (pos:Int) (l:List Lk) (i j:Nat) (h:i≠j) (hs:s.fine) (hl:Oe l) (hm:B7 l) (p0:0≤pos) (p1:pos<18446744073709551616):Ct prog 170 [.ref i 0,uA pos,C3 l] [(i,B5 j s),(j,AQ s)] (λ_=>.tup []) [(i,B5 j (s.links pos l)),(j,AQ (s.links pos l))] (λ_=>[]):=Ct.u2 (cC s pos l hs hl hm p0 p1) i j h cl cl cl cl cl (Bu _ _) (Bi _) Dl
def Lf (pos:Int) (l:List Lk):Int:=if BH pos l=true then(Cn pos l).length else 0
theorem WR (pos:Int) (l:List Lk) (hl:Oe l) (hm:B7 l) (p0:0≤pos) (p1:pos<18446744073709551616):Ag prog 167 [uA pos,C3 l] [] (iA (Lf pos l)) []:=by
 have hn:=hm.1;have e:=FI l Om;refine RM func167 yO ?_
 refine Aa.p (JA pos l hl hm p0 p1) ?_;by_cases hr:BH pos l=true
 ·have⟨r1,r2,r3⟩:=Dz.1 hr;have hbl:=Jz hr;unfold Cn at hbl;rw[length_append]at hbl;refine (ms hr @Ao e ?_).1;refine Aa.p (CY l.length Om Om) (mp ?_).1;refine Aa.p (Nc l hl r2 hn) (mr @Ab @EU ?_).1;refine AA (α:=Nat) (λk=>uA pos::C3 l::.any::.any::.any::iA ((vb l.length++BL (CR pos).enc [] (l.take k)).length:Nat)::Ay (Ay (.any::.any::.any::GB (FQ l l.length)::iA l.length::iA k::Az [.any,.any]))) (λ_=>[]) (λk=>k≤l.length) (λk=>l.length-k) 0 Si (Wk.to Si (by simp[B6,BL])) ?_;intro k hk;refine (mp ?_).1;by_cases hlt:k<l.length
  ·have q1:decide ((k:Int)<(l.length:Int))=true:=by simp;omega
   have ek:=Am k Om;have g:=Cm l k hlt;have g2:=FC (FQ l l.length) k (by rw[EU];exact hlt);rw[Pl l _ k hlt,Int.toNat_natCast]at g2;have hx:=Jp hl r2 hlt;have ho:=hl _ (DC l k hlt);have hsm:=hm.2 _ (DC l k hlt);have⟨gg1,gg2⟩:=GW.1 (r3 _ (DC l k hlt));have he:=I6 (pos:=pos) (l:=l) (k:=k) hlt;have hel:=congrArg List.length he;simp only[length_append]at hel;have hle:=Zd (pos:=pos) (l:=l) (k+1) hlt;have hv:=A4 (Hj l k);have w1:IntKind.i64.wrap (((vb (Hj l k)).length:Int)+(DW pos (l.getD k B_).bk).length)=(vb (Hj l k)).length+(DW pos (l.getD k B_).bk).length:=i64_in _ Om;have w2:IntKind.i64.wrap (((vb (l.length:Int)++BL (CR pos).enc [] (l.take k)).length:Int)+(((vb (Hj l k)).length:Int)+(DW pos (l.getD k B_).bk).length))=((vb (l.length:Int)++BL (CR pos).enc [] (l.take (k+1))).length:Nat):=by
    rw[length_append,length_append,hel,i64_in _ Om];omega
   simp only[go_sem,seval,q1,g2,Ab,EU,Int.toNat_natCast];refine (AZ ?_).1;(repeat with_reducible refine Sa ?_);refine Aa.p (CY (Hj l k) hx.1 hx.2) (ms g @Ao @Int.toNat_natCast ?_).1;(repeat with_reducible refine Sa ?_);refine Aa.p (XU pos (l.getD k B_).bk p0 p1 ho.b Om) (mt gg2 w1 w2 ek ?_).1;(repeat with_reducible refine Sa ?_);exact⟨k+1,Om,Om,Wk.to (by rfl) (by simp[B6])⟩
  ·have q1:decide ((k:Int)<(l.length:Int))=false:=by simp;omega
   have ek:k=l.length:=Om
   subst ek;have he:Lf pos l=((vb (l.length:Int)++BL (CR pos).enc [] (l.take l.length)).length:Nat):=by unfold Lf Cn;rw[if_pos hr,take_length]
   refine (mq q1 ?_).1
   exact FE yO [] he
 ·have hr':BH pos l=false:=Sx hr
  have he:Lf pos l=0:=by unfold Lf;rw[if_neg hr]
  refine (mq hr' ?_).1
  exact FE yO [] he
theorem bY (pos:Int) (l:List Lk) (hl:Oe l) (hm:B7 l) (p0:0≤pos) (p1:pos<18446744073709551616):Ct Tryz.prog 167 [uA pos,C3 l] [] (λ_=>iA (Lf pos l)) [] (λ_=>[]):=(WR pos l hl hm p0 p1).toCt cl cl
def oP {x:Int} (h0:0≤x) (h1:x<18446744073709551616):CJ .xor .u64 (if IntKind.u64.signed then-1 else IntKind.u64.max) x=18446744073709551615-x:=by
 have h:=Zt h0 h1;have e:CJ .xor .u64 (if IntKind.u64.signed then-1 else IntKind.u64.max) x=CJ .xor .u64 x 18446744073709551615:=by
  show IntKind.u64.wrap ((BitVec.ofInt 64 18446744073709551615^^^BitVec.ofInt 64 x).toNat:Int)=IntKind.u64.wrap ((BitVec.ofInt 64 x^^^BitVec.ofInt 64 18446744073709551615).toNat:Int);rw[BitVec.xor_comm]
 rw[e,h]
def WK {s:RS} (h:An s):s.lkHead []=s.vint.1:=by
 have hv:=Bf (s:=s) h.bys;unfold RS.lkHead;rw[rG,if_neg Om]
def TI {s:RS} (h:An s) (acc:List Lk):An (s.lkHead acc)∧(s.lkHead acc).l=s.l:=by
 have⟨a,b⟩:=h.vint;unfold RS.lkHead;split
 ·exact⟨a.fail _ _,by rw[Bx];exact b⟩
 ·exact⟨a,b⟩
def TH {s:RS} {acc:List Lk} (h:18446744073709551616≤HV acc+1+s.vint.2):s.vint.1.fail 13 s.at_=s.lkHead acc:=by
 unfold RS.lkHead;by_cases hc:s.vint.1.code=0
 ·rw[if_pos ⟨hc,h⟩]
 ·rw[if_neg λx=>hc x.1];unfold RS.fail;rw[if_neg hc]
def TJ {s:RS} {acc:List Lk} (h:¬18446744073709551616≤HV acc+1+s.vint.2):s.lkHead acc=s.vint.1:=by
 unfold RS.lkHead;rw[if_neg λx=>h x.2]
def rL (pos:Int) (s:RS) (acc:List Lk):(CR pos).f s acc=(((s.lkHead acc).fall pos 4).1,⟨HV acc+1+s.vint.2,((s.lkHead acc).fall pos 4).2⟩):=rfl
def dP {s:RS} {b m:Int} (h:An s) (b0:0≤b) (b1:b<18446744073709551616) (hc:(s.fall b m).1.code=0):s.code=0:=(Rn h b0 b1 hc).1
theorem WT (s:RS) (pos:Int) (p0:0≤pos) (p1:pos<18446744073709551616) (hs:An s) (hn:s.l.length*32≤100000000000000):Ag prog 192 [.ref 0 0,uA pos] [A1 s] (C3 (s.links pos).2) [A1 ((s.links pos).1)]:=by
 have hF:=Io p0 p1;have hir:=Er (s:=s) (m:=16) hs.bys;have⟨hi1,hi2⟩:=hs.int 16;unfold RS.links EM.counted;refine RM func192 nD ?_
 refine Aa.u1 (AT s 16 0 De hs.ok hs.bys) rfl ?_;generalize hu:(s.int 16).1=u at*;generalize(s.int 16).2=z at*;obtain⟨N,hN⟩:∃N,z.toNat=N:=⟨_,rfl⟩;have hz:z=(N:Int):=Om
 subst hz;rw[Int.toNat_natCast];refine (mp ?_).1;refine AA (α:=RS×List Lk) (λa=>.ref 0 0::uA pos::.any::.any::.any::.sl (.row 1) 2 (EO a.2)::.any::.any::.any::.any::.any::iA N::iA a.2.length::Az (Az (Ay (Ay [.any,.any])))) (λa=>[A1 a.1,.row 2 a.2.length]) ((CR pos).On u N) (λa=>N-a.2.length) (u,[]) (EM.On.start hi1 N) ((Wk.row 5 2 rfl (.inr rfl) De).trans (Wk.to Si (by simp[B6,EO]))) ?_;rintro⟨t,acc⟩ ho;have hla:=ho.len;rw[hi2]at hla;have h1:=ho.ok;have h2:=ho.l;have h6:=ho.res;have hwf:=ho.wf;simp only at h1 h2 h6 hwf;have hg:=KP hwf;have htl:t.l.length*32≤100000000000000:=by rw[h2,hi2];exact hn
 refine (mp ?_).1;by_cases hlt:acc.length<N
 ·have q0:decide ((acc.length:Int)<(N:Int))=true:=by simp;omega
  have ei:=Am acc.length Om;have hx:=Bf (s:=t) h1.bys;have⟨hk1,hk2⟩:=TI h1 acc;have⟨hv1,hv2⟩:=h1.vint;have hff:=rL pos t acc;have hkl:(t.lkHead acc).l.length*8≤140737488355328:=by rw[hk2];omega
  have hnx:((t.lkHead acc).fall pos 4).1.code=0->(CR pos).On u N (((t.lkHead acc).fall pos 4).1,acc++[⟨HV acc+1+t.vint.2,((t.lkHead acc).fall pos 4).2⟩]):=λhc=>by
   have:=ho.next hF hlt (by rw[hff];exact hc);rw[hff]at this;exact this
  have hnb:¬((t.lkHead acc).fall pos 4).1.code=0->(CR pos).many N u []=(((t.lkHead acc).fall pos 4).1,[]):=λhc=>by
   have:=F1 (F:=CR pos) (s:=t) hlt (by rw[hff];exact hc);rw[h6,hff]at this;exact this
  have hst:((t.lkHead acc).fall pos 4).1.code=0->HV acc+1+t.vint.2<18446744073709551616:=λhc=>by
   rcases Int.lt_or_le (HV acc+1+t.vint.2) 18446744073709551616 with h|h
   ·exact h
   ·have hh:=dP hk1 p0 p1 hc;unfold RS.lkHead at hh;by_cases hc0:t.vint.1.code=0
    ·rw[if_pos ⟨hc0,h⟩]at hh;exact absurd hh (BR _ _ hc0 De)
    ·rw[if_neg λx=>hc0 x.1]at hh;exact absurd hh hc0
  refine (mq q0 ?_).1;refine Aa.r1 (AP t 0) rfl (mp ?_).1;refine Aa.u1 (B4 t 0 h1.ok h1.bys) rfl (mp ?_).1;by_cases h0:0<acc.length
  ·have q1:decide ((0:Int)<(acc.length:Int))=true:=by simp;omega
   have ep:=Nw acc.length h0 Om;have g:=Cm acc (acc.length-1) Om;have hlg:=YR acc h0;obtain⟨w,hw⟩:∃w,(acc.getD (acc.length-1) B_).st=w:=⟨_,rfl⟩;rw[hw]at hlg;have g':(EO acc).getD (acc.length-1) .any=.agg [uA w,GB (acc.getD (acc.length-1) B_).bk]:=by rw[g,←hw]
   have hw0:0≤w∧w<18446744073709551616:=by
    have hlw:=Fq (acc.length-1) Om hwf;rw[nil_append]at hlw;have hg2:=KP (IM (acc.length-1) hwf);have e:acc[acc.length-1]=acc.getD (acc.length-1) B_:=by simp[show acc.length-1<acc.length by omega]
    have hl1:HV (acc.take (acc.length-1))<acc[acc.length-1].st:=hlw.1;have hl2:acc[acc.length-1].st<18446744073709551616:=hlw.2.1;rw[e,hw]at hl1 hl2;exact⟨by have:=hg2.1;omega,hl2⟩
   have ex:=oP hw0.1 hw0.2;by_cases hov:18446744073709551615-w≤t.vint.2
   ·have q2:decide (18446744073709551615-w≤t.vint.2)=true:=Sx hov
    have hhe:=TH (s:=t) (acc:=acc) Om;simp only[go_sem,seval,q1,ep,g',Ao,Int.toNat_natCast,ex,q2];refine (AZ ?_).1;(repeat with_reducible refine Sa ?_);refine Aa.u1 (Ar t.vint.1 13 t.at_ 0) rfl (mq hhe ?_).1;refine Aa.u1 (JM (t.lkHead acc) pos 4 0 p0 p1 De hk1 hkl) rfl (mp ?_).1;have hbad:¬((t.lkHead acc).fall pos 4).1.code=0:=λhc=>by have:=hst hc;omega
    have hb:=hnb hbad;refine Aa.r1 (Ah ((t.lkHead acc).fall pos 4).1 0) rfl (mq (AB hbad) ?_).1;(refine A2.nilk 4 2 rfl ?_;simp only[set_cons_zero,set_cons_succ])
    exact FF nD [0] hb @QW
   ·have q2:decide (18446744073709551615-w≤t.vint.2)=false:=Sx hov
    have hhe:=TJ (s:=t) (acc:=acc) Om;have e1:IntKind.u64.wrap (w+1)=w+1:=u64_in _ Om;have e2:IntKind.u64.wrap (t.vint.2+(w+1))=HV acc+1+t.vint.2:=by rw[u64_in _ Om];omega
    rw[hhe]at hnx hnb hkl;simp only[go_sem,seval,q1,ep,g',Ao,Int.toNat_natCast,ex,q2,e1,e2];refine (AZ ?_).1;(repeat with_reducible refine Sa ?_);refine Aa.u1 (JM t.vint.1 pos 4 0 p0 p1 De hv1 hkl) rfl (mp ?_).1;by_cases hc:(t.vint.1.fall pos 4).1.code=0
    ·have hon:=hnx hc;have hl2:=hon.len;rw[length_append,length_singleton,hi2]at hl2;refine Aa.r1 (Ah (t.vint.1.fall pos 4).1 0) rfl (mt (A5 hc) @Na @Ao ei ?_).1;(repeat with_reducible refine Sa ?_);exact⟨((t.vint.1.fall pos 4).1,acc++[⟨HV acc+1+t.vint.2,(t.vint.1.fall pos 4).2⟩]),hon,by simp;omega,Wk.sel [0,1] Si rfl Si rfl (by simp[AD,AG]) (by simp[Ch,AD,EO,AH])⟩
    ·have hb:=hnb hc;refine Aa.r1 (Ah (t.vint.1.fall pos 4).1 0) rfl (mq (AB hc) ?_).1;(refine A2.nilk 4 2 rfl ?_;simp only[set_cons_zero,set_cons_succ])
     exact FF nD [0] hb @QW
  ·have hnil:acc=[]:=eq_nil_of_length_eq_zero Om;have q1:decide ((0:Int)<(acc.length:Int))=false:=by rw[hnil];rfl
   have hhe:=WK h1;rw[←hnil]at hhe;rw[hhe]at hnx hnb hkl;have hl0:HV acc= -1:=by rw[hnil];rfl
   have e2:t.vint.2=HV acc+1+t.vint.2:=Om
   refine (mq q1 ?_).1;refine Aa.u1 (JM t.vint.1 pos 4 0 p0 p1 De hv1 hkl) rfl (mp ?_).1;by_cases hc:(t.vint.1.fall pos 4).1.code=0
   ·have hon:=hnx hc;have hl2:=hon.len;rw[length_append,length_singleton,hi2]at hl2;rw[←e2]at hon;have esn:EO acc++[.agg [uA t.vint.2,GB (t.vint.1.fall pos 4).2]]=EO (acc++[⟨t.vint.2,(t.vint.1.fall pos 4).2⟩]):=Na acc ⟨t.vint.2,(t.vint.1.fall pos 4).2⟩;refine Aa.r1 (Ah (t.vint.1.fall pos 4).1 0) rfl (mt (A5 hc) esn @Ao ei ?_).1;(repeat with_reducible refine Sa ?_);exact⟨((t.vint.1.fall pos 4).1,acc++[⟨t.vint.2,(t.vint.1.fall pos 4).2⟩]),hon,by simp;omega,Wk.sel [0,1] Si rfl Si rfl (by simp[AD,AG]) (by simp[Ch,AD,EO,AH])⟩
   ·have hb:=hnb hc;refine Aa.r1 (Ah (t.vint.1.fall pos 4).1 0) rfl (mq (AB hc) ?_).1;(refine A2.nilk 4 2 rfl ?_;simp only[set_cons_zero,set_cons_succ])
    exact FF nD [0] hb @QW
 ·have q0:decide ((acc.length:Int)<(N:Int))=false:=by simp;omega
  have hb:=M8 (F:=CR pos) (s:=t) (N:=N) (acc:=acc) Om;rw[h6]at hb;refine (mq q0 ?_).1;refine UT 4 ?_
  exact FE nD [0] hb
def bZ (s:RS) (pos:Int) (i:Nat) (p0:0≤pos) (p1:pos<18446744073709551616) (hs:An s) (hn:s.l.length*32≤100000000000000):Ct prog 192 [.ref i 0,uA pos] [(i,A1 s)] (λ_=>C3 (s.links pos).2) [(i,A1 ((s.links pos).1))] (λ_=>[]):=Ct.u1 (WT s pos p0 p1 hs hn) i cl (λρ=>AG ρ _) (λρ=>AG ρ _) (rdr_dead _) cl
section
variable {P:Program} {f:FuncId} {args args₀:List AV} {S:List Ac} {K:KT}
theorem Ct.o1 {o o':Ac} {r₀ r:AV} (h:Ag P f args₀ [o] r₀ [o']) (i:Nat) (ha:∀N,args₀.map (λx=>x.ren (AH [i] N))=args) (ho:∀ρ,o.ren ρ=o) (ho':∀ρ,o'.ren ρ=o') (hd:o≠ .dead) (hr:∀N,r₀.ren (AH [i] N)=r):
 Ct P f args [(i,o)] (λ_=>r) [(i,o')] (λ_=>[]):=
 Ct.mk h [i] Si rfl Si (by simpa using hd) (λn N=>ha N) (λn N=>by simpa using hr N) (λn N=>by simp[ho]) (.inl λn N=>by simp[ho']) (λn N=>rfl)
theorem Aa.o1 {r:AV} {i:Nat} {o o':Ac} (h:Ct P f args [(i,o)] (λ_=>r) [(i,o')] (λ_=>[])) (hS:S[i]? =some o) (hK:K r [i] [(i,o')] []):Aa P f args S K:=Aa.of h (by simpa using hS) Si hK
end
section
variable {P:Program} {f:FuncId} {args args':List AV} {S:List Ac} {K:KT}
end
section
variable {P:Program} {f:FuncId} {args args':List AV} {S:List Ac} {K:KT} {m:Nat} {fn:Func}
end
structure Wa (x y:AV):Prop where
 len:x.cells.length=y.cells.length
 val:∀(G:Gh) (v:Value),Bg G x v->Bg G y v
 cel:∀(j:Nat) (a b:AV),x.cells[j]? =some a->y.cells[j]? =some b->∀(G:Gh) (v:Value),Bg G a v->Bg G b v
def DG (xs ys:List AV):Prop:=xs.length=ys.length∧∀(j:Nat) (x y:AV),xs[j]? =some x->ys[j]? =some y->Wa x y
theorem Wa.refl (x:AV):Wa x x:=⟨rfl,λ_ _ r=>r,λj a b ha hb G v r=>by rw[ha]at hb;injection hb with hb;subst hb;exact r⟩
theorem DG.nil:DG [] []:=⟨rfl,λj x y h=>by simp at h⟩
theorem DG.cons {x y:AV} {xs ys:List AV} (h:Wa x y) (k:DG xs ys):DG (x::xs) (y::ys):=by
 refine⟨by simp[k.1],λj a b ha hb=>?_⟩;cases j with
 |zero=>simp at ha hb;subst ha hb;exact h
 |succ j=>simp at ha hb;exact k.2 j a b ha hb
theorem DG.refl (xs:List AV):DG xs xs:=⟨rfl,λj x y hx hy=>by rw[hx]at hy;injection hy with hy;subst hy;exact .refl _⟩
theorem DG.map {α:Type} {f g:α->AV} (h:∀x,Wa (f x) (g x)) (l:List α):DG (l.map f) (l.map g):=⟨Si,λj x y hx hy=>by
 obtain⟨a,ha,rfl⟩:=A6 hx;obtain⟨b,hb,rfl⟩:=A6 hy;rw[ha]at hb;injection hb with hb;subst hb;exact h a⟩
theorem DG.app {xs ys xs' ys':List AV} (h:DG xs ys) (k:DG xs' ys'):DG (xs++xs') (ys++ys'):=by
 refine⟨by simp[h.1,k.1],λj x y hx hy=>?_⟩;rw[getElem?_append]at hx hy;rw[h.1]at hx;split at hx
 ·rename_i hl;rw[if_pos hl]at hy;exact h.2 j x y hx hy
 ·rename_i hl;rw[if_neg hl]at hy;exact k.2 _ x y hx hy
def QQ {x y:AV} (hx:x.cells=[x]) (hy:y.cells=[y]) (h:∀(G:Gh) (v:Value),Bg G x v->Bg G y v):Wa x y:=by
 refine⟨by rw[hx,hy];rfl,h,λj a b ha hb G v r=>?_⟩;rw[hx]at ha;rw[hy]at hb;cases j with
 |zero=>simp at ha hb;subst ha hb;exact h G v r
 |succ j=>simp at ha
theorem Wa.sl {t t':Gd} {k k':Nat} {xs ys:List AV} (ht:t'=.none∨t'=t) (hk:k=k'∨xs=[]) (hw:DG xs ys):Wa (.sl t k xs) (.sl t' k' ys):=by
 have⟨hl,h⟩:=hw;refine QQ rfl rfl λG v r=>?_
 cases r with
 | @sl _ _ _ A c b o vs hc hA hk1 h1 h2 h3 ht1=>
   have htag:HR G t' A ys.length c:=by
    rcases ht with rfl|rfl
    ·trivial
    ·rw[←hl];exact ht1
   have main:Bg G (.sl t' k' ys) (.slice A ys.length c):=by
    rcases hk with rfl|rfl
    ·refine .sl (b:=b) (o:=o) vs (by rw[←hl];exact hc) (by rw[←hl];exact hA) (λi y hy=>?_) (by rw[←hl];exact h1) (by rw[←hl];exact h2) (λi j y z hy hz=>?_) htag
     ·have hi:i<xs.length:=by rw[hl];exact(Ge hy)
      have hx:=getElem?_eq_getElem hi;rw[←(h i _ y hx hy).len];exact hk1 i _ hx
     ·have hi:i<xs.length:=by rw[hl];exact(Ge hy)
      have hx:=getElem?_eq_getElem hi;have hw:=h i _ y hx hy;have hj:j<xs[i].cells.length:=by rw[hw.len];exact(Ge hz)
      have hu:=getElem?_eq_getElem hj;exact hw.cel j _ z hu hz G _ (h3 i j _ _ hx hu)
    ·obtain rfl:ys=[]:=eq_nil_of_length_eq_zero (by rw[←hl];rfl);exact .sl (b:=b) (o:=o) vs Si Si Si Si Si Si htag
   rw[←hl]at main;exact main
theorem Wa.agg {xs ys:List AV} (hw:DG xs ys):Wa (.agg xs) (.agg ys):=by
 have⟨hl,h⟩:=hw;refine⟨hl,λG v r=>?_,λj a b ha hb G v r=>(h j a b ha hb).val G v r⟩;cases r with
 | @agg _ vs h0 h2 h3=>
   refine .agg (by rw[←hl];exact h0) h2 λj y v hy hv=>?_
   have hj:j<xs.length:=by rw[hl];exact(Ge hy)
   have hx:=getElem?_eq_getElem hj;exact(h j _ y hx hy).val G v (h3 j _ v hx hv)
theorem Wa.tup {xs ys:List AV} (hw:DG xs ys):Wa (.tup xs) (.tup ys):=by
 have⟨hl,h⟩:=hw;refine QQ rfl rfl λG v r=>?_
 cases r with
 | @tup _ vs h0 h3=>
   refine .tup (by rw[←hl];exact h0) λj y v hy hv=>?_
   have hj:j<xs.length:=by rw[hl];exact(Ge hy)
   have hx:=getElem?_eq_getElem hj;exact(h j _ y hx hy).val G v (h3 j _ v hx hv)
theorem Wa.slN {t:Gd} {k:Nat} {xs ys:List AV} (h:DG xs ys):Wa (.sl t k xs) (.sl .none k ys):=.sl (.inl rfl) (.inl rfl) h
theorem Wa.slS {t:Gd} {k:Nat} {xs ys:List AV} (h:DG xs ys):Wa (.sl t k xs) (.sl t k ys):=.sl (.inr rfl) (.inl rfl) h
theorem Wa.none {t:Gd} {k:Nat} {xs:List AV}:Wa (.sl t k xs) (.sl .none k xs):=.slN (DG.refl xs)
theorem Wa.slc {t:Gd} {k:Nat} {xs:List AV}:Wa (.sl t k xs) (.slc k xs):=QQ rfl rfl λG v r=>.slc ((Wa.none (t:=t)).val G v r)
theorem Wa.nil {t:Gd} {k k':Nat}:Wa (.sl t k []) (.sl .none k' []):=.sl (.inl rfl) (.inr rfl) DG.nil
section
variable {P:Program} {f:FuncId} {args args':List AV} {S:List Ac} {m:Nat} {fn:Func} {tm:List AV}
theorem Wk.wa (t:Nat) {x y:AV} (ht:tm[t]? =some x) (h:Wa x y):Wk m tm S (tm.set t y) S:=λG0 S0 w0 G a w _ hz=>by
 have htl:=(Ge ht);refine⟨G,hz.left,by simp[hz.size],λt' z u hx hu=>?_,hz.defers,hz.wd0⟩;by_cases et:t'=t
 ·subst et;simp[htl]at hx;subst hx;exact h.val _ _ (hz.rep t' x u ht hu)
 ·rw[getElem?_set_ne (Ne.symm et)]at hx;exact hz.rep t' z u hx hu
theorem A2.wa {S':List Ac} {r:AV} (t:Nat) {x y:AV} (ht:tm[t]? =some x) (h:Wa x y) (k:A2 P m fn (tm.set t y) S r S'):A2 P m fn tm S r S':=A2.wk (Wk.wa t ht h) k
theorem Wk.wao (i:Nat) {xs ys:List AV} (hi:S[i]? =some (.cells xs)) (h:DG xs ys):Wk m tm S tm (S.set i (.cells ys)):=λG0 S0 w0 G a w _ hz=>by
 refine⟨G,hz.left.trans (AS.reobj hz.left.wd hi h.1.symm λk y v hy hx=>?_),hz.size,hz.rep,hz.defers,hz.wd0⟩;have hk:k<xs.length:=by rw[h.1];exact(Ge hy)
 have he:=getElem?_eq_getElem hk;exact(h.2 k _ y he hy).val _ _ (hx _ he)
theorem A2.wao {S':List Ac} {r:AV} (i:Nat) {xs ys:List AV} (hi:S[i]? =some (.cells xs)) (h:DG xs ys) (k:A2 P m fn tm (S.set i (.cells ys)) r S'):A2 P m fn tm S r S':=A2.wk (Wk.wao i hi h) k
end
section
variable {P:Program} {S:List Ac} {b:Prop} {m:Nat} {fn:Func} {tm:List AV} {S':List Ac} {r:AV}
theorem Wp {xs ys:List AV} (h:DG xs ys:=by repeat(first|exact Wa.refl _|exact DG.nil|exact Wa.nil|exact Wa.none|refine DG.cons ?_ ?_|refine Wa.agg ?_|refine Wa.slN ?_|refine Wa.slS ?_|exact DG.refl _)):DG xs ys:=h
theorem WO (i:Nat) {xs:List AV} (ys:List AV) (k:b) (hi:S[i]? =some (.cells xs):=by rfl) (h:DG xs ys:=by exact Wp) (e:A2 P m fn tm (S.set i (.cells ys)) r S'=b:=by simp only[List.set_cons_zero,List.set_cons_succ];exact rfl):A2 P m fn tm S r S':=A2.wao i hi h (e.mpr k)
end
def aC (x y:Lk) (hn:x.bk.length≤1000000):Ct prog 102 [F3 x,F3 y] [] (λ_=>bA (decide (x=y))) [] (λ_=>[]):=by
 refine Ag.toCt ?_ cl cl
 refine RM func102 Aad ?_
 by_cases c0:x.st=y.st
 ·have q0:(x.st==y.st)=true:=Sx c0
  have e:Ca x.bk y.bk=decide (x=y):=by
   unfold Ca;rw[Bool.eq_iff_iff,decide_eq_true_eq,decide_eq_true_eq];cases x;cases y;simp only at c0;simp[c0]
  refine (mq q0 ?_).1;refine Cp (Wg x.bk y.bk Om) ?_
  exact FE Aad [] e
 ·have q0:(x.st==y.st)=false:=Sx c0
  have e:decide (x=y)=false:=by simp only[decide_eq_false_iff_not];rintro rfl;exact c0 rfl
  refine (mq q0 ?_).1
  exact FE Aad [] e
def Gi (l m:List Lk):Bool:=decide (l=m)
theorem VZ (l:List Lk):Gi l l=true:=by simp[Gi]
theorem SU (l m:List Lk) (hm:B7 l):Ag prog 59 [C3 l,C3 m] [] (bA (Gi l m)) []:=by
 have⟨hn,hb⟩:=hm;refine RN func59 b59 ?_;refine (mq @Ao ?_).1
 by_cases hlen:l.length=m.length
 ·have q0:((l.length:Int) != (m.length:Int))=false:=by simp;omega
  refine (mq q0 ?_).1;refine AA (α:=Nat) (λk=>C3 l::C3 m::.any::.any::.any::iA k::Az (Ay [.any])) (λ_=>[]) (λk=>k≤l.length∧∀i,i<k->l.getD i B_=m.getD i B_) (λk=>l.length-k) 0 ⟨Si,λi hi=>by omega⟩ (Wk.to Si (by simp[B6])) ?_;rintro k ⟨hk,hall⟩;refine (mq @Ao ?_).1;by_cases hlt:k<l.length
  ·have q1:decide ((k:Int)<(l.length:Int))=true:=by simp;omega
   have ek:=Am k Om;have g:=Cm l k hlt;have g2:=Cm m k Om;have hbk:=hb _ (DC l k hlt);simp only[go_sem,seval,q1,g,g2,Ao,Int.toNat_natCast];refine (AZ ?_).1;(repeat with_reducible refine Sa ?_);refine Aa.p (aC (l.getD k B_) (m.getD k B_) hbk) ?_;by_cases he:l.getD k B_=m.getD k B_
   ·have q2:decide (l.getD k B_=m.getD k B_)=true:=Sx he
    refine (mr q2 ek ?_).1;(repeat with_reducible refine Sa ?_);exact⟨k+1,⟨hlt,λi hi=>by
     rcases Nat.lt_or_ge i k with h|h
     ·exact hall i h
     ·obtain rfl:i=k:=Om
      exact he⟩,Om,Wk.to Si (by simp[B6])⟩
   ·have q2:decide (l.getD k B_=m.getD k B_)=false:=Sx he
    have e:Gi l m=false:=by unfold Gi;simp only[decide_eq_false_iff_not];rintro rfl;exact he rfl
    refine (mq q2 ?_).1;(repeat with_reducible refine Sa ?_)
    exact FE b59 [] e
  ·have q1:decide ((k:Int)<(l.length:Int))=false:=by simp;omega
   have e:Gi l m=true:=by
    unfold Gi;simp only[decide_eq_true_eq];refine ext_getElem hlen λi h1 h2=>?_
    have:=hall i Om;simpa[h1,h2]using this
   refine (mq q1 ?_).1
   exact FE b59 [] e
 ·have q0:((l.length:Int) != (m.length:Int))=true:=by simp;omega
  have e:Gi l m=false:=by unfold Gi;simp only[decide_eq_false_iff_not];rintro rfl;exact hlen rfl
  refine (mq q0 ?_).1
  exact FE b59 [] e
theorem We (l m:List Lk) (hm:B7 l):Ct Tryz.prog 59 [C3 l,C3 m] [] (λ_=>bA (Gi l m)) [] (λ_=>[]):=(SU l m hm).toCt cl cl
def Gm (l:List Lk):Bool:=(l.take 50).any (λx=>decide (50<(x.bk.length:Int)))||decide (50<(l.length:Int))
def kI {l:List Lk} (h:Gm l=false):l.length≤50∧∀x∈l,x.bk.length≤50:=by
 unfold Gm at h;rw[Bool.or_eq_false_iff]at h;have h1:l.length≤50:=by have:=h.2;simp only[decide_eq_false_iff_not]at this;omega
 refine⟨h1,λx hx=>?_⟩;have h2:=h.1;rw[take_of_length_le h1,any_eq_false]at h2;have:=h2 x hx;simp only[decide_eq_true_eq]at this;omega
def QV {l:List Lk} (h:Gm l=false):B7 l:=by
 have⟨a,b⟩:=kI h;exact⟨Om,λx hx=>by have:=b x hx;omega⟩
def TZ (l:List Lk):Ag prog 103 [C3 l] [] (bA (Gm l)) []:=by
 refine RM func103 t9 ?_
 refine AA (α:=Nat) (λk=>C3 l::.any::.any::iA k::Az (Ay [])) (λ_=>[]) (λk=>k≤l.length∧k≤50∧∀i,i<k->(l.getD i B_).bk.length≤50) (λk=>l.length-k) 0 ⟨Si,Si,by intro i hi;omega⟩ (Wk.to Si (by simp[B6])) ?_;rintro k ⟨hk,hk2,hall⟩;have hno:k=l.length∨k=50->(l.take 50).any (λx=>decide (50<(x.bk.length:Int)))=false:=λhor=>by
  rw[any_eq_false];intro t ht;obtain⟨i,hi,rfl⟩:=getElem_of_mem ht;simp only[length_take]at hi;have:=hall i Om;have e:l.getD i B_=l[i]'Om:=by simp[show i<l.length by omega]
  rw[e]at this;simp only[getElem_take,decide_eq_true_eq];omega
 refine (mq @Ao ?_).1;by_cases hlt:k<l.length
 ·have q1:decide ((k:Int)<l.length)=true:=by simp;omega
  by_cases h50:k<50
  ·have q2:decide ((k:Int)<50)=true:=by simp;omega
   have g:=Cm l k hlt;have ei:=Am k Om;simp only[go_sem,seval,q1,q2,g,Ao,Ab,Int.toNat_natCast];refine (AZ ?_).1;(repeat with_reducible refine Sa ?_);by_cases c:50<((l.getD k B_).bk.length:Int)
   ·have q3:decide (50<((l.getD k B_).bk.length:Int))=true:=Sx c
    have he:Gm l=true:=by
     unfold Gm;have:(l.take 50).any (λx=>decide (50<(x.bk.length:Int)))=true:=by
      rw[any_eq_true];refine⟨l.getD k B_,?_,q3⟩;have:(l.take 50)[k]? =some (l.getD k B_):=by simp[h50,hlt]
      exact mem_of_getElem? this
     rw[this];rfl
    refine (mq q3 ?_).1
    exact FE t9 [] he
   ·have q3:decide (50<((l.getD k B_).bk.length:Int))=false:=Sx c
    refine (mr q3 ei ?_).1;refine⟨k+1,⟨hlt,h50,λi hi=>?_⟩,Om,Wk.to Si (by simp[B6])⟩;rcases Nat.lt_or_ge i k with h5|h5
    ·exact hall i h5
    ·obtain rfl:i=k:=Om
     omega
  ·have q2:decide ((k:Int)<50)=false:=by simp;omega
   have he:Gm l=decide (50<(l.length:Int)):=by unfold Gm;rw[hno (.inr Om)];rfl
   refine (ms q1 q2 @Ao ?_).1
   exact FE t9 [] he
 ·have q1:decide ((k:Int)<l.length)=false:=by simp;omega
  have he:Gm l=decide (50<(l.length:Int)):=by unfold Gm;rw[hno (.inl Om)];rfl
  refine (mr q1 @Ao ?_).1
  exact FE t9 [] he
theorem W2 (l:List Lk):Ct Tryz.prog 103 [C3 l] [] (λ_=>bA (Gm l)) [] (λ_=>[]):=(TZ l).toCt cl cl
def LS (x:Lk) (pos:Int):Lk:=⟨x.st,(pos::x.bk).take 4⟩
def Ad6 (n:Nat):(if(4:Int)<((n+1:Nat):Int)then 4 else((n+1:Nat):Int))=((min (n+1) 4:Nat):Int):=by split<;>omega
def Q0 (x:Lk) (pos:Int) (hn:x.bk.length≤1000000):Ag prog 46 [F3 x,uA pos] [] (F3 (LS x pos)) []:=by
 have e1:[uA pos]++AU .u64 x.bk=AU .u64 (pos::x.bk):=rfl;have el:(pos::x.bk).length=x.bk.length+1:=rfl;have e2:=Ad6 x.bk.length;have e3:List.take (min (x.bk.length+1) 4) (pos::x.bk)=(pos::x.bk).take 4:=by
  rcases Nat.le_total (x.bk.length+1) 4 with h|h
  ·rw[Nat.min_eq_left h,take_of_length_le (by rw[el];omega),take_of_length_le (by rw[el];omega)]
  ·rw[Nat.min_eq_right h]
 refine RN func46 b46 ?_;simp only[go_sem,seval,e1,Ab,el,e2,Int.sub_zero,Int.toNat_natCast,Dh,e3];refine (AZ ?_).1
 (repeat with_reducible refine Sa ?_)
 (refine FB b46 [] ?_ ?_<;>first|with_reducible rfl|(simp[LS];done)|rfl)
theorem TT (x:Lk) (pos:Int) (hn:x.bk.length≤1000000):Ct Tryz.prog 46 [F3 x,uA pos] [] (λ_=>F3 (LS x pos)) [] (λ_=>[]):=(Q0 x pos hn).toCt cl cl
theorem Tryz.own:ownKnob Tryz.prog.godebug=none:=by kernel_rfl
theorem Tryz.laidOut:laidOutB Tryz.prog=true:=by kernel_rfl
section
open Go.RowKit Go.ChangeShapes Go.WideShapes Go.ChangeAt
def G0 (W:World):Gh:=⟨λb i=>W.cell? ⟨b,i,none⟩,λ_=>none,λ_ _=>none⟩
def wd0 (W:World):Wd (G0 W) [] W:=
 ⟨λb i v h=>h,λi _=>⟨rfl,λ_=>rfl⟩,λi xs h=>by simp at h,λj k n h=>by simp at h,λj k n xs h=>by simp at h,λi o xs h=>by simp at h,λi j b h=>by simp[blk]at h⟩
theorem Ag.top {P:Program} {f:FuncId} {args:List AV} (h:Ag P f args [] (.lit (.bool true)) []) {W:World} {vs:Array Value} (hr:BT (G0 W) args vs.toList):
 Calls P f vs W λr W'=>r=.returned (.bool true)∧Below W.heap.size W W':=by
 refine(h.2 (G0 W) W vs (wd0 W) hr).mono λr W' ⟨v,G',e,hv,hl⟩=>?_
 cases hv;exact⟨e,hl.kept.below (λi _ j=>by simp[blk]) (Nat.le_refl _)⟩
theorem RdI.rep {k:IntKind} {W:World} {F:Nat->Prop} {v:Value} {l:List Int} (h:RdI k W F v l):Bg (G0 W) (.sl .none 1 (AU k l)) v:=by
 obtain⟨A,c,rfl,hc,_,hA⟩:=h;have hlen:=Ab k l;obtain⟨b,o,hb,hcell⟩:∃b o,(0<l.length->A=some ⟨b,o,none⟩)∧∀i,i<l.length->W.cell? ⟨b,o+i,none⟩=some (.int k (l.getD i 0)):=by
  rcases Nat.eq_zero_or_pos l.length with h0|h0
  ·exact⟨0,0,λh=>by omega,λi hi=>by omega⟩
  ·have⟨b,o,h1,_,h2⟩:=hA h0;exact⟨b,o,λ_=>h1,h2⟩
 rw[←hlen];refine .sl (b:=b) (o:=o) (λi _=>.int k (l.getD i 0)) (by rw[hlen];exact hc) (λh=>hb (by rw[hlen]at h;exact h)) (λi x hx=>?_) (λi j hi hj=>?_) (λ_ _ _ _=>rfl) (λi j x y hx hy=>?_) trivial
 ·simp only[AU,getElem?_map,Option.map_eq_some_iff]at hx;obtain⟨z,_,rfl⟩:=hx;rfl
 ·obtain rfl:j=0:=Om
  rw[hlen]at hi;simpa[G0]using hcell i hi
 ·simp only[AU,getElem?_map,Option.map_eq_some_iff]at hx;obtain⟨z,hz,rfl⟩:=hx;simp only[AV.cells]at hy;cases j with
  |zero=>
   simp at hy;subst hy;have:l.getD i 0=z:=by simp[hz]
   rw[this];exact .lit _
  |succ j=>simp at hy
end
abbrev OW (e:En):AV:=.agg [C3 e.lk,Bj .u8 e.data]
def KL (e:En):Prop:=B7 e.lk∧e.data.length≤100000000
def IA (pos:Int) (e:En) (he:e.ok) (hm:KL e) (p0:0≤pos) (p1:pos<18446744073709551616):Ct prog 40 [uA pos,OW e] [] (λ_=>bA (Cw pos e)) [] (λ_=>[]):=by
 refine Ag.toCt ?_ cl cl
 refine RM func40 b40 ?_
 refine Aa.p (JA pos e.lk he.lk hm.1 p0 p1) ?_;by_cases hr:BH pos e.lk=true
 ·have h:Cw pos e=decide ((e.data.length:Int)≤1048576):=by
   unfold Cw;rw[hr,Bool.true_and,Bool.eq_iff_iff,decide_eq_true_eq,decide_eq_true_eq];omega
  simp only[go_sem,seval,hr,Ab,←h];refine (AZ ?_).1;exact FA b40 []
 ·have hr':BH pos e.lk=false:=Sx hr
  have h:Cw pos e=false:=by unfold Cw;rw[hr'];rfl
  refine (mq hr' ?_).1
  exact FE b40 [] h
def WS.ehead (s:WS) (pos:Int) (e:En):WS:=if Cw pos e=true then(s.links pos e.lk).put (vb e.data.length)else s.fail 3
theorem WS.fine.ehead {s:WS} (h:s.fine) (pos:Int) (e:En):(s.ehead pos e).fine:=by
 unfold WS.ehead;split
 ·exact(h.links pos e.lk).put _
 ·exact h.fail 3
def cT {pos:Int} {e:En} (hr:BH pos e.lk=true):(Fj pos e).length≤980:=by
 unfold Fj;rw[length_append];have:=Jz hr;have:=(A4 (e.data.length:Int)).2;omega
theorem eD {s:WS} {pos:Int} {e:En} (hr:Cw pos e=true) (h:s.code=0) (hm:(s.l.length:Int)+(Fj pos e).length≤s.most):s.ehead pos e=⟨s.most,s.l++Fj pos e,0⟩:=by
 unfold Fj at hm;rw[length_append]at hm;unfold WS.ehead;rw[if_pos hr,bV (DB.1 hr).1 h Om,CO rfl (by simp only[length_append];omega)];simp[Fj]
def NP (s:WS) (pos:Int) (e:En) (hs:s.fine) (he:e.ok) (hm:KL e) (p0:0≤pos) (p1:pos<18446744073709551616):Ag prog 134 [.ref 0 0,uA pos,OW e] [B5 1 s,AQ s] (.tup []) [B5 1 (s.ehead pos e),AQ (s.ehead pos e)]:=by
 have hd:=hm.2;have eu:=FI e.data Om;refine RM func134 yX ?_
 refine Aa.p (IA pos e he hm p0 p1) ?_;by_cases hr:Cw pos e=true
 ·refine (mq hr ?_).1;refine Aa.u2 (kN s pos e.lk 0 1 De hs he.lk hm.1 p0 p1) rfl rfl (mr @Ab eu ?_).1;have hf:=hs.links pos e.lk;refine Aa.u2 (Bm (s.links pos e.lk) e.data.length 0 1 De Om Om hf.ok (hf.room _)) rfl rfl (mp ?_).1
  exact FK yX [0,1] (by simp[WS.ehead,hr])
 ·have hr':Cw pos e=false:=Sx hr
  refine (mq hr' ?_).1;refine Aa.u2 (Cq s 3 0 1 De) rfl rfl (mp ?_).1
  exact FK yX [0,1] (by simp[WS.ehead,hr'])
def OV (s:WS) (pos:Int) (e:En) (i j:Nat) (h:i≠j) (hs:s.fine) (he:e.ok) (hm:KL e) (p0:0≤pos) (p1:pos<18446744073709551616):Ct prog 134 [.ref i 0,uA pos,OW e] [(i,B5 j s),(j,AQ s)] (λ_=>.tup []) [(i,B5 j (s.ehead pos e)),(j,AQ (s.ehead pos e))] (λ_=>[]):=Ct.u2 (NP s pos e hs he hm p0 p1) i j h cl cl cl cl cl (Bu _ _) (Bi _) Dl
def Lg (pos:Int) (e:En):Int:=if Cw pos e=true then(Fj pos e).length else 0
def NQ (pos:Int) (e:En) (he:e.ok) (hm:KL e) (p0:0≤pos) (p1:pos<18446744073709551616):Ct prog 130 [uA pos,OW e] [] (λ_=>iA (Lg pos e)) [] (λ_=>[]):=by
 refine Ag.toCt ?_ cl cl
 have hd:=hm.2;have eu:=FI e.data Om;refine RM func130 yY ?_
 refine Aa.p (IA pos e he hm p0 p1) ?_;by_cases hr:Cw pos e=true
 ·have hrl:=(DB.1 hr).1;have hl:=Jz hrl;have hv:=(A4 (e.data.length:Int)).2;have h1:Lf pos e.lk=((Cn pos e.lk).length:Int):=by unfold Lf;rw[if_pos hrl]
  have h2:IntKind.i64.wrap (((Cn pos e.lk).length:Int)+(vb (e.data.length:Int)).length)=Lg pos e:=by
   unfold Lg Fj;rw[if_pos hr,length_append,i64_in _ Om];omega
  refine (mq hr ?_).1;refine Aa.p (bY pos e.lk he.lk hm.1 p0 p1) (ms h1 @Ab eu ?_).1;refine Aa.p (CY e.data.length Om Om) (mq h2 ?_).1;refine (Sr ?_).1;exact FA yY []
 ·have hr':Cw pos e=false:=Sx hr
  have h2:Lg pos e=0:=by unfold Lg;rw[if_neg hr]
  refine (mq hr' ?_).1
  exact FE yY [] h2
theorem LT (s:RS) (pos m:Int) (p0:0≤pos) (p1:pos<18446744073709551616) (m1:m<9223372036854775808) (hs:An s) (hn:s.l.length*32≤100000000000000):Ag prog 180 [.ref 0 0,uA pos,iA m] [A1 s] (.tup [OW ⟨(s.ehead pos m).2.1,[]⟩,iA (s.ehead pos m).2.2]) [A1 ((s.ehead pos m).1)]:=by
 have⟨a,b⟩:=EY hs p0 p1;refine RM func180 yJ ?_
 refine Cu (bZ s pos 0 p0 p1 hs hn) rfl ?_;refine Cu (AT (s.links pos).1 m 0 m1 a.ok a.bys) rfl ?_;by_cases hc:((s.links pos).1.int m).1.code=0
 ·have e:s.ehead pos m=(((s.links pos).1.int m).1,((s.links pos).2,((s.links pos).1.int m).2)):=by unfold RS.ehead;rw[if_pos hc]
  refine Aa.r1 (Ah ((s.links pos).1.int m).1 0) rfl (mq (A5 hc) ?_).1;refine WO 1 [C3 (s.links pos).2,Bj .u8 []] ?_
  exact FE yJ [0] e
 ·have e:s.ehead pos m=(((s.links pos).1.int m).1,([],0)):=by unfold RS.ehead;rw[if_neg hc]
  refine Aa.r1 (Ah ((s.links pos).1.int m).1 0) rfl (mq (AB hc) ?_).1;refine WO 1 [C3 [],Bj .u8 []] ?_
  exact FE yJ [0] e
def NO (s:RS) (pos m:Int) (i:Nat) (p0:0≤pos) (p1:pos<18446744073709551616) (m1:m<9223372036854775808) (hs:An s) (hn:s.l.length*32≤100000000000000):Ct prog 180 [.ref i 0,uA pos,iA m] [(i,A1 s)] (λ_=>.tup [OW ⟨(s.ehead pos m).2.1,[]⟩,iA (s.ehead pos m).2.2]) [(i,A1 ((s.ehead pos m).1))] (λ_=>[]):=Ct.u1 (LT s pos m p0 p1 m1 hs hn) i cl (λρ=>AG ρ _) (λρ=>AG ρ _) (rdr_dead _) cl
def HK (a b:En):Bool:=Gi a.lk b.lk&&Ca a.data b.data
theorem V0 (e:En):HK e e=true:=by unfold HK;rw[VZ,Po];rfl
def MS (a b:En) (hm:B7 a.lk) (ha:A7 a.data) (hb:A7 b.data):Ct prog 29 [OW a,OW b] [] (λ_=>bA (HK a b)) [] (λ_=>[]):=by
 refine Ag.toCt ?_ cl cl
 refine RM func29 b29 ?_
 refine Aa.p (We a.lk b.lk hm) ?_;by_cases h:Gi a.lk b.lk=true
 ·have e:HK a b=Ca a.data b.data:=by unfold HK;rw[h];rfl
  refine (mq h ?_).1;refine Cp (Wh a.data b.data ha hb) ?_
  exact FE b29 [] e
 ·have h':Gi a.lk b.lk=false:=Sx h
  have e:HK a b=false:=by unfold HK;rw[h'];rfl
  refine (mq h' ?_).1
  exact FE b29 [] e
def Ik (e:En):Bool:=Gm e.lk||decide (500<(e.data.length:Int))
def Kd {e:En} (h:Ik e=false):KL e∧e.data.length≤500:=by
 unfold Ik at h;rw[Bool.or_eq_false_iff]at h;have:=h.2;simp only[decide_eq_false_iff_not]at this;exact⟨⟨QV h.1,Om⟩,Om⟩
def W1 (e:En):Ct prog 61 [OW e] [] (λ_=>bA (Ik e)) [] (λ_=>[]):=by
 refine Ag.toCt ?_ cl cl
 refine RM func61 b61 ?_
 refine Aa.p (W2 e.lk) ?_;by_cases h:Gm e.lk=true
 ·have he:Ik e=true:=by unfold Ik;rw[h];rfl
  refine (mq h ?_).1
  exact FE b61 [] he
 ·have h':Gm e.lk=false:=Sx h
  have he:decide (500<(e.data.length:Int))=Ik e:=by unfold Ik;rw[h'];rfl
  refine (ms h' @Ab he ?_).1;exact FA b61 []
def H0 (l:List En):List AV:=l.map OW
abbrev Fy (l:List En):AV:=.sl .none 2 (H0 l)
theorem Ax (l:List En):(H0 l).length=l.length:=by simp[H0]
def DT (l:List En) (k:Nat) (h:k<l.length):(H0 l).getD k .any=OW (l.getD k B3):=by simp[H0,h]
@[simp] theorem CA (ρ:Nat->Nat) (l:List En):(H0 l).map (λx=>x.ren ρ)=H0 l:=by
 simp[H0,Function.comp_def,AD,AI,DM]
def EJ (l:List En):Bool:=decide (30<l.length)||(l.take 30).any Ik
def M9 {l:List En} (h:EJ l=false):l.length≤30∧∀e∈l,Ik e=false:=by
 unfold EJ at h;rw[Bool.or_eq_false_iff]at h;have h1:l.length≤30:=by have:=h.1;simp only[decide_eq_false_iff_not]at this;omega
 refine⟨h1,λe he=>?_⟩;have h2:=h.2;rw[take_of_length_le h1,any_eq_false]at h2;simpa using h2 e he
def TY (l:List En):Ag prog 30 [Fy l] [] (bA (EJ l)) []:=by
 refine RM func30 b30 ?_
 refine AA (α:=Nat) (λk=>Fy l::.any::bA false::iA k::Az [.any,.any]) (λ_=>[]) (λk=>k≤l.length∧k≤30∧∀i,i<k->Ik (l.getD i B3)=false) (λk=>l.length-k) 0 ⟨Si,Si,λi hi=>by omega⟩ (Wk.to Si (by simp[B6])) ?_;rintro k ⟨hk,h30,hall⟩;refine (mq @Ax ?_).1;by_cases hlt:k<l.length
 ·have q1:decide ((k:Int)<(l.length:Int))=true:=decide_eq_true Om;by_cases h3:k<30
  ·have q2:decide ((k:Int)<30)=true:=decide_eq_true Om;have ek:=Am k Om;have g:=DT l k hlt;simp only[go_sem,seval,q1,q2,g,Ax,Int.toNat_natCast];refine (AZ ?_).1;(repeat with_reducible refine Sa ?_);refine Aa.p (W1 (l.getD k B3)) ?_;cases hL:Ik (l.getD k B3)with
   |true=>
    have e:EJ l=true:=by
     unfold EJ;rw[Bool.or_eq_true,any_eq_true];refine .inr ⟨l.getD k B3,?_,hL⟩;rw[mem_take_iff_getElem];exact⟨k,Om,by simp[hlt]⟩
    refine (mq hL ?_).1
    exact FE b30 [] e
   |false=>
    refine (mr hL ek ?_).1;exact⟨k+1,⟨hlt,h3,λi hi=>by
     rcases Nat.lt_or_ge i k with h|h
     ·exact hall i h
     ·obtain rfl:i=k:=Om
      exact hL⟩,Om,Wk.to Si (by simp[B6])⟩
  ·have q2:decide ((k:Int)<30)=false:=decide_eq_false Om;have e:EJ l=true:=by unfold EJ;rw[decide_eq_true Om];rfl
   have q3:decide (30<(l.length:Int))=true:=decide_eq_true Om;refine (mt q1 q2 @Ax q3 ?_).1
   exact FE b30 [] e
 ·have q1:decide ((k:Int)<(l.length:Int))=false:=decide_eq_false Om;have q3:decide (30<(l.length:Int))=false:=decide_eq_false Om;have e:EJ l=false:=by
   unfold EJ;rw[decide_eq_false Om,Bool.false_or,any_eq_false];intro x hx;obtain⟨i,hi,rfl⟩:=mem_iff_getElem.1 (mem_of_mem_take hx);have:=hall i Om;simpa[hi]using this
  refine (ms q1 @Ax q3 ?_).1
  exact FE b30 [] e
theorem Ni (l:List En):Ct Tryz.prog 30 [Fy l] [] (λ_=>bA (EJ l)) [] (λ_=>[]):=(TY l).toCt cl cl
def Mv (l:List En) (k:Nat) (h:k<l.length):Ak (l.take k)++(l.getD k B3).data=Ak (l.take (k+1)):=by
 have:l.take (k+1)=l.take k++[l.getD k B3]:=by
  rw[take_add_one];simp[h]
 rw[this,Np]
def Jj (l:List En) (k:Nat):(Ak (l.take k)).length≤(Ak l).length:=by
 have e:Ak l=Ak (l.take k)++Ak (l.drop k):=by unfold Ak;rw[←flatMap_append,take_append_drop]
 rw[e,length_append];omega
def Rr (l:List En) (hl:l.length≤1000000) (hn:(Ak l).length≤140737488355328):Ag prog 39 [Fy l] [] (iA (Ak l).length) []:=by
 refine RN func39 b39 ?_;refine (mq @Ax ?_).1
 refine AA (α:=Nat) (λk=>.any::.any::.any::iA (Ak (l.take k)).length::.any::.any::Fy l::iA l.length::iA k::Ay (Ay [.any,.any])) (λ_=>[]) (λk=>k≤l.length) (λk=>l.length-k) 0 Si (Wk.to Si (by simp[B6,Ak])) ?_;intro k hk;refine (mp ?_).1;by_cases hlt:k<l.length
 ·have q1:decide ((k:Int)<(l.length:Int))=true:=decide_eq_true Om;have ek:=Am k Om;have g:=DT l k hlt;have ht:=Mv l k hlt;have hle:=Jj l (k+1);have hlen:=congrArg List.length ht;rw[length_append]at hlen;have w:IntKind.i64.wrap (((Ak (l.take k)).length:Int)+((l.getD k B3).data.length:Int))=((Ak (l.take (k+1))).length:Int):=by rw[i64_in _ Om];omega
  simp only[go_sem,seval,q1,g,Ax,Ab,Int.toNat_natCast,w,ek];refine (AZ ?_).1;(repeat with_reducible refine Sa ?_);exact⟨k+1,hlt,Om,Wk.sel [] Si rfl Si rfl Si (by simp[Ch,AD,CA])⟩
 ·have q1:decide ((k:Int)<(l.length:Int))=false:=decide_eq_false Om;have e:l.take k=l:=take_of_length_le Om;refine (mq q1 ?_).1
  exact FE b39 [] e
theorem Iz (l:List En) (hl:l.length≤1000000) (hn:(Ak l).length≤140737488355328):Ct Tryz.prog 39 [Fy l] [] (λ_=>iA (Ak l).length) [] (λ_=>[]):=(Rr l hl hn).toCt cl cl
def LY (a b:List En):Bool:=decide (a.length=b.length)&&(List.range a.length).all λi=>HK (a.getD i B3) (b.getD i B3)
def Wc (a b:List En) (hl:a.length≤1000000) (hm:∀e∈a,B7 e.lk) (ha:oD a) (hb:oD b):Ag prog 28 [Fy a,Fy b] [] (bA (LY a b)) []:=by
 by_cases hab:a.length=b.length
 ·have q:((a.length:Int) != (b.length:Int))=false:=by rw[hab];simp
  refine RN func28 b28 ?_;refine (mq @Ax ?_).1
  refine (mq q ?_).1;refine AA (α:=Nat) (λk=>Fy a::Fy b::.any::.any::.any::iA k::Az (Ay [.any])) (λ_=>[]) (λk=>k≤a.length∧∀i,i<k->HK (a.getD i B3) (b.getD i B3)=true) (λk=>a.length-k) 0 ⟨Si,λi hi=>by omega⟩ (Wk.to Si (by simp[B6])) ?_;rintro k ⟨hk,hall⟩;refine (mq @Ax ?_).1;by_cases hlt:k<a.length
  ·have q1:decide ((k:Int)<(a.length:Int))=true:=decide_eq_true Om;have ek:=Am k Om;have g:=DT a k hlt;have g2:=DT b k Om;have ma:a.getD k B3∈a:=by simp[hlt]
   have mb:b.getD k B3∈b:=by rw[hab]at hlt;simp[hlt]
   simp only[go_sem,seval,q1,g,g2,Ax,Int.toNat_natCast];refine (AZ ?_).1;(repeat with_reducible refine Sa ?_);refine Aa.p (MS (a.getD k B3) (b.getD k B3) (hm _ ma) (ha _ ma).data (hb _ mb).data) ?_;cases hs:HK (a.getD k B3) (b.getD k B3)with
   |true=>
    refine (mr hs ek ?_).1;exact⟨k+1,⟨hlt,λi hi=>by
     rcases Nat.lt_or_ge i k with h|h
     ·exact hall i h
     ·obtain rfl:i=k:=Om
      exact hs⟩,Om,Wk.to Si (by simp[B6])⟩
   |false=>
    have e:LY a b=false:=by
     cases hz:LY a b with
     |false=>rfl
     |true=>
      unfold LY at hz;rw[Bool.and_eq_true,all_eq_true]at hz;have:=hz.2 k (mem_range.2 hlt);rw[hs]at this;cases this
    refine (mq hs ?_).1
    exact FE b28 [] e
  ·have q1:decide ((k:Int)<(a.length:Int))=false:=decide_eq_false Om;have e:LY a b=true:=by
    unfold LY;rw[decide_eq_true hab,Bool.true_and,all_eq_true];intro i hi;have:=mem_range.1 hi;exact hall i Om
   refine (mq q1 ?_).1
   exact FE b28 [] e
 ·have q:((a.length:Int) != (b.length:Int))=true:=by simp;omega
  have e:LY a b=false:=by unfold LY;rw[decide_eq_false hab];rfl
  refine RN func28 b28 ?_;refine (mq @Ax ?_).1
  refine (mq q ?_).1
  exact FE b28 [] e
theorem aB (a b:List En) (hl:a.length≤1000000) (hm:∀e∈a,B7 e.lk) (ha:oD a) (hb:oD b):Ct Tryz.prog 28 [Fy a,Fy b] [] (λ_=>bA (LY a b)) [] (λ_=>[]):=(Wc a b hl hm ha hb).toCt cl cl
def UK (l:List En) (hl:l.length≤1000000) (hn:(Ak l).length≤100000000):Ag prog 136 [Fy l] [] (Ia 0 (Ak l)) [.row 1 (Ak l).length]:=by
 refine RM func136 Adj ?_
 refine Aa.p (Iz l hl Om) ?_;simp only[go_sem,seval,Ln];refine (AZ ?_).1;(repeat with_reducible refine Sa ?_);refine (mq @Ax ?_).1;refine AA (α:=Nat) (λk=>.any::.any::.any::Ia 0 (Ak (l.take k))::.any::.any::.any::.any::.any::Fy l::iA l.length::iA k::Ay (Ay [.any])) (λk=>[.row 1 (Ak (l.take k)).length]) (λk=>k≤l.length) (λk=>l.length-k) 0 Si (Wk.to (by simp[Ak]) (by simp[B6,Ak,AU])) ?_;intro k hk;refine (mp ?_).1;by_cases hlt:k<l.length
 ·have q1:decide ((k:Int)<(l.length:Int))=true:=decide_eq_true Om;have ek:=Am k Om;have g:=DT l k hlt;have ht:=Mv l k hlt;have hle:=Jj l (k+1);simp only[go_sem,seval,q1,g,Ax,Int.toNat_natCast,C0,Ab,←length_append,ht,ek];refine (AZ ?_).1;(repeat with_reducible refine Sa ?_);exact⟨k+1,hlt,Om,Wk.sel [0] Si rfl Si rfl (by simp[AD]) (by simp[Ch,AD,AH,AI])⟩
 ·have q1:decide ((k:Int)<(l.length:Int))=false:=decide_eq_false Om;have e:l.take k=l:=take_of_length_le Om;refine (mr q1 e ?_).1;exact FA Adj [0]
def XS (l:List En) (hl:l.length≤1000000) (hn:(Ak l).length≤100000000):Ct prog 136 [Fy l] [] (λn=>Ia n (Ak l)) [] (λ_=>[.row 1 (Ak l).length]):=Ct.n (UK l hl hn) cl cl Dl
def QY (x:Lk) (hn:x.bk.length≤1000000):Ag prog 47 [F3 x] [] (F3 x) []:=by
 refine RM func47 b47 ?_
 (repeat with_reducible refine Sa ?_);simp only[go_sem,seval,nil_append,Ab];refine (AZ ?_).1;refine UO 1 ?_;exact FA b47 []
theorem TO (x:Lk) (hn:x.bk.length≤1000000):Ct Tryz.prog 47 [F3 x] [] (λ_=>F3 x) [] (λ_=>[]):=(QY x hn).toCt cl cl
def WW (l:List Lk) (hl:l.length≤1000000) (hn:∀x∈l,x.bk.length≤1000000):Ag prog 21 [C3 l] [] (C3 l) []:=by
 refine RN func21 b21 ?_;refine (mq @Ao ?_).1
 refine AA (α:=Nat) (λk=>.any::.any::.any::.sl (.row 0) 2 (EO (l.take k))::.any::.any::C3 l::iA l.length::iA k::Ay (Ay [.any,.any])) (λk=>[.row 2 (l.take k).length]) (λk=>k≤l.length) (λk=>l.length-k) 0 Si ((Wk.row 3 2 rfl (.inr rfl) De).trans (Wk.to (by simp[EO]) (by simp[B6,EO]))) ?_;intro k hk;refine (mp ?_).1;by_cases hlt:k<l.length
 ·have q1:decide ((k:Int)<(l.length:Int))=true:=decide_eq_true Om;have ek:=Am k Om;have g:=Cm l k hlt;have hm:l.getD k B_∈l:=by simp[hlt]
  have ht:EO (l.take k)++[F3 (l.getD k B_)]=EO (l.take (k+1)):=by
   rw[Na];congr 1;rw[take_add_one];simp[hlt]
  have hln:(l.take (k+1)).length≤1000000:=by rw[length_take];omega
  have hln2:(l.take k).length+1=(l.take (k+1)).length:=by rw[length_take,length_take];omega
  refine (mt q1 g @Ao @Int.toNat_natCast ?_).1;(repeat with_reducible refine Sa ?_);refine Aa.p (TO (l.getD k B_) (hn _ hm)) (mt ht @Ao hln2 ek ?_).1;(repeat with_reducible refine Sa ?_);exact⟨k+1,hlt,Om,Wk.sel [0] Si rfl Si rfl (by simp[AD]) (by simp[Ch,AD,AH])⟩
 ·have q1:decide ((k:Int)<(l.length:Int))=false:=decide_eq_false Om;have e:l.take k=l:=take_of_length_le Om;refine (mr q1 e ?_).1;refine UT 2 ?_;exact FA b21 []
theorem KQ (l:List Lk) (hl:l.length≤1000000) (hn:∀x∈l,x.bk.length≤1000000):Ct Tryz.prog 21 [C3 l] [] (λ_=>C3 l) [] (λ_=>[]):=(WW l hl hn).toCt cl cl
theorem l9 (l:List En) (e:En):H0 (l++[e])=H0 l++[OW e]:=by simp[H0]
theorem UL (hs:List En) (ns d:List Int) (hl:hs.length≤1000000) (hd:d.length≤100000000) (hm:∀e∈hs,e.lk.length≤1000000∧∀x∈e.lk,x.bk.length≤1000000) (hns:∀n∈ns,n<9223372036854775808):Ag prog 158 [Fy hs,Bj .i64 ns,Bj .u8 d] [] (.tup [Fy (Fm hs ns d).1,bA (Fm hs ns d).2]) []:=by
 by_cases hh:hs.length=ns.length
 ·have q:((ns.length:Int) != (hs.length:Int))=false:=by rw[hh];simp
  have e0:Fm hs ns d=DY hs ns d []:=by unfold Fm;rw[if_pos hh]
  refine RN func158 Yf ?_;refine (mr @Ax @Ab ?_).1
  simp only[go_sem,seval,q,nil_append,Ab,Ax];refine (AZ ?_).1;(repeat with_reducible refine Sa ?_);refine AA (α:=Nat×List Int×List En) (λa=>.any::Bj .i64 ns::.any::.any::.any::.any::.any::.any::Bj .u8 a.2.1::.sl (.row 0) 2 (H0 a.2.2)::Ay (Ay (.any::.any::.any::Fy hs::iA hs.length::iA a.1::Az (Az (Ay [.any]))))) (λa=>[.row 2 a.2.2.length]) (λa=>a.1≤hs.length∧a.2.2.length=a.1∧a.2.1.length≤d.length∧DY (hs.drop a.1) (ns.drop a.1) a.2.1 a.2.2=Fm hs ns d) (λa=>hs.length-a.1) (0,d,[]) ⟨Si,rfl,Nat.le_refl _,by rw[e0];rfl⟩ (((Wk.untag 8 rfl).trans (Wk.row 9 2 rfl (.inr rfl) De)).trans (Wk.sel [1] Si rfl Si rfl (by simp[AD]) (by simp[Ch,AD,DI,H0,AH,AI,CA]))) ?_;rintro⟨k,rest,acc⟩ ⟨hk,hacc,hrl,hgo⟩;simp only at hk hacc hrl hgo;refine (mp ?_).1;by_cases hlt:k<hs.length
  ·have q1:decide ((k:Int)<(hs.length:Int))=true:=decide_eq_true Om;have ek:=Am k Om;have g:=DT hs k hlt;have g2:(AU .i64 ns).getD k .any=iA (ns.getD k 0):=DS .i64 ns k Om;have hmm:=hm (hs.getD k B3) (by simp[hlt]);have d1:hs.drop k=hs.getD k B3::hs.drop (k+1):=by rw[drop_eq_getElem_cons hlt];simp[hlt]
   have d2:ns.drop k=ns.getD k 0::ns.drop (k+1):=by
    have h2:k<ns.length:=Om
    rw[drop_eq_getElem_cons h2];simp[h2]
   rw[d1,d2,DY]at hgo;obtain⟨n,hn⟩:∃n,ns.getD k 0=n:=⟨_,rfl⟩;have hnm:n<9223372036854775808:=hns n (by rw[←hn];have h2:k<ns.length:=Om;simp[h2]);obtain⟨h,hh2⟩:∃h,hs.getD k B3=h:=⟨_,rfl⟩;rw[hn]at hgo g2;rw[hh2]at hgo g hmm;by_cases c1:n<0
   ·have q2:decide (n<0)=true:=decide_eq_true c1;rw[if_pos (.inl c1)]at hgo;simp only[go_sem,seval,q1,g,Ax,Int.toNat_natCast,g2,Ab,q2];refine (AZ ?_).1;(repeat with_reducible refine Sa ?_);(refine A2.nilk 6 2 rfl ?_;simp only[set_cons_zero,set_cons_succ])
    (refine FB Yf [] ?_ ?_<;>first|with_reducible rfl|(simp[←hgo,H0];done)|rfl)
   ·have q2:decide (n<0)=false:=decide_eq_false c1;by_cases c2:(rest.length:Int)<n
    ·have q3:decide ((rest.length:Int)<n)=true:=decide_eq_true c2;rw[if_pos (.inr c2)]at hgo;simp only[go_sem,seval,q1,g,Ax,Int.toNat_natCast,g2,Ab,q2,q3];refine (AZ ?_).1;(repeat with_reducible refine Sa ?_);(refine A2.nilk 6 2 rfl ?_;simp only[set_cons_zero,set_cons_succ])
     (refine FB Yf [] ?_ ?_<;>first|with_reducible rfl|(simp[←hgo,H0];done)|rfl)
    ·have q3:decide ((rest.length:Int)<n)=false:=decide_eq_false c2;rw[if_neg Om]at hgo;simp only[go_sem,seval,q1,g,Ax,Int.toNat_natCast,g2,Ab,q2,q3];refine (AZ ?_).1;(repeat with_reducible refine Sa ?_);refine Aa.p (KQ h.lk hmm.1 hmm.2) ?_;simp only[go_sem,seval,QB,Ab,Dh,Ep,Ax,ek];refine (AZ ?_).1;(repeat with_reducible refine Sa ?_);exact⟨(k+1,rest.drop n.toNat,acc++[⟨h.lk,rest.take n.toNat⟩]),⟨hlt,by simp[hacc],by simp only[length_drop];omega,hgo⟩,by simp only;omega,(Wk.wa 9 (y:=.sl (.row 0) 2 (H0 (acc++[⟨h.lk,rest.take n.toNat⟩]))) rfl (by rw[l9];exact Wa.slS (DG.app (DG.refl _) Wp))).trans (Wk.sel [0] Si rfl Si rfl (by simp[AD]) (by simp[Ch,AD,AH,AI,CA]))⟩
  ·have q1:decide ((k:Int)<(hs.length:Int))=false:=decide_eq_false Om;have d1:hs.drop k=[]:=drop_eq_nil_of_le Om;rw[d1]at hgo;simp only[DY]at hgo;by_cases c3:rest.length=0
   ·have q4:decide ((0:Int)<(rest.length:Int))=false:=decide_eq_false Om;rw[if_pos c3]at hgo;refine (ms q1 @Ab q4 ?_).1;refine UT 6 ?_
    (refine FB Yf [] ?_ ?_<;>first|with_reducible rfl|(simp[←hgo];done)|rfl)
   ·have q4:decide ((0:Int)<(rest.length:Int))=true:=decide_eq_true Om;rw[if_neg c3]at hgo;refine (ms q1 @Ab q4 ?_).1;(refine A2.nilk 6 2 rfl ?_;simp only[set_cons_zero,set_cons_succ])
    (refine FB Yf [] ?_ ?_<;>first|with_reducible rfl|(simp[←hgo,H0];done)|rfl)
 ·have q:((ns.length:Int) != (hs.length:Int))=true:=by simp;omega
  have e:Fm hs ns d=([],false):=by unfold Fm;rw[if_neg hh]
  refine RN func158 Yf ?_;refine (mr @Ax @Ab ?_).1
  refine (mq q ?_).1;(refine A2.nilk 6 2 rfl ?_;simp only[set_cons_zero,set_cons_succ])
  (refine FB Yf [] ?_ ?_<;>first|with_reducible rfl|(simp[e,H0];done)|rfl)
theorem XT (hs:List En) (ns d:List Int) (hl:hs.length≤1000000) (hd:d.length≤100000000) (hm:∀e∈hs,e.lk.length≤1000000∧∀x∈e.lk,x.bk.length≤1000000) (hns:∀n∈ns,n<9223372036854775808):Ct Tryz.prog 158 [Fy hs,Bj .i64 ns,Bj .u8 d] [] (λ_=>.tup [Fy (Fm hs ns d).1,bA (Fm hs ns d).2]) [] (λ_=>[]):=(UL hs ns d hl hd hm hns).toCt cl cl
def AL (e:Int):Ct prog 37 [uA e] [] (λ_=>bA (Ae e)) [] (λ_=>[]):=by
 refine Ag.toCt ?_ Dl Dl
 refine RM func37 b37 ?_
 by_cases h1:1≤e
 ·have q:decide (1≤e)=true:=Sx h1
  refine (mq q ?_).1
  exact FK b37 [] (by simp[Ae,q])
 ·have q:decide (1≤e)=false:=Sx h1
  refine (mq q ?_).1
  exact FK b37 [] (by simp[Ae,q])
def I5 (e:Int):Ct prog 73 [uA e] [] (λ_=>bA (Bh e)) [] (λ_=>[]):=by
 refine Ag.toCt ?_ Dl Dl
 refine RM func73 b73 ?_
 exact FK b73 [] (by simp[Bh])
theorem Iy {s:RS} (h:¬s.code=0) (c a:Int):s.fail c a=s:=by unfold RS.fail;rw[if_neg h]
def dU {s:RS} (h:s.code=0) (a:Int):(s.fail 3 a).good=false:=by unfold RS.fail RS.good;rw[if_pos h];simp[Cd]
def UH (f:FuncId) (ok:Int->Bool) (hf:∀x,Ct prog f [uA x] [] (λ_=>bA (ok x)) [] (λ_=>[])) (s:RS) (hs:An s):Ag prog 174 [.ref 0 0,.fn f [] []] [A1 s] (uA (s.epo ok).2) [A1 (s.epo ok).1]:=by
 refine RM func174 nF ?_
 refine Cr (AP s 0) rfl ?_;refine Cu (B4 s 0 hs.ok hs.bys) rfl ?_;refine Cp (hf s.vint.2) ?_;by_cases hc:s.vint.1.code=0
 ·by_cases ho:ok s.vint.2=true
  ·have hg:s.vint.1.good=true:=by simp[RS.good,hc]
   refine (mq ho ?_).1;refine Aa.r1 (Ah _ 0) rfl (mq hg ?_).1
   exact FK nF [0] (by simp[RS.epo,hc,ho])
  ·have hg:=dU hc s.at_;have ho':ok s.vint.2=false:=Sx ho
   refine (mq ho' ?_).1;refine Cu (Ar _ 3 _ 0) rfl ?_;refine Aa.r1 (Ah _ 0) rfl (mq hg ?_).1
   exact FK nF [0] (by simp[RS.epo,hc,ho'])
 ·have hg:s.vint.1.good=false:=by simp[RS.good,hc]
  have hfl:=Iy hc 3 s.at_;refine AK (λh=>?_) (λh=>?_)
  ·refine (mp ?_).1;refine Cu (Ar _ 3 _ 0) rfl ?_;refine Aa.r1 (Ah _ 0) rfl (mr hfl hg ?_).1
   exact FK nF [0] (by simp[RS.epo,hc,hfl])
  ·refine (mp ?_).1;refine Aa.r1 (Ah _ 0) rfl (mq hg ?_).1
   exact FK nF [0] (by simp[RS.epo,hc])
def NM (f:FuncId) (ok:Int->Bool) (hf:∀x,Ct prog f [uA x] [] (λ_=>bA (ok x)) [] (λ_=>[])) (s:RS) (i:Nat) (hs:An s):Ct prog 174 [.ref i 0,.fn f [] []] [(i,A1 s)] (λ_=>uA (s.epo ok).2) [(i,A1 (s.epo ok).1)] (λ_=>[]):=Rc (UH f ok hf s hs) i
def UI (s:RS) (hs:An s):Ag prog 143 [.ref 0 0] [A1 s] (uA (s.epo Ae).2) [A1 (s.epo Ae).1]:=by
 refine RM func143 Adg ?_
 refine Cu (NM _ Ae AL s 0 hs) rfl ?_;exact FA Adg [0]
def HD (s:RS) (i:Nat) (hs:An s):Ct prog 143 [.ref i 0] [(i,A1 s)] (λ_=>uA (s.epo Ae).2) [(i,A1 (s.epo Ae).1)] (λ_=>[]):=Rc (UI s hs) i
def NN (s:RS) (hs:An s):Ag prog 145 [.ref 0 0] [A1 s] (uA (s.epo Bh).2) [A1 (s.epo Bh).1]:=by
 refine RM func145 Ade ?_
 refine Cu (NM _ Bh I5 s 0 hs) rfl ?_;exact FA Ade [0]
def Jk (s:RS) (i:Nat) (hs:An s):Ct prog 145 [.ref i 0] [(i,A1 s)] (λ_=>uA (s.epo Bh).2) [(i,A1 (s.epo Bh).1)] (λ_=>[]):=Rc (NN s hs) i
structure Tk where
 lit:List Int
 off:Int
 len:Int
deriving DecidableEq
def Ld:Tk:=⟨[],0,0⟩
def Tk.run (t:Tk):Bool:=decide (t.off=0∧t.len=0∧1≤t.lit.length∧t.lit.length≤1048576)
def Tk.copy (t:Tk):Bool:=decide (t.lit.length=0∧1≤t.off∧t.off≤65536∧4≤t.len∧t.len≤1048576)
def Tk.right (t:Tk):Bool:=t.run||t.copy
def Tk.made (t:Tk):Int:=if t.run=true then t.lit.length else if t.copy=true then t.len else 0
structure Tk.ok (t:Tk):Prop where
 lit:A7 t.lit
 off0: -9223372036854775808≤t.off
 off1:t.off<9223372036854775808
 len0: -9223372036854775808≤t.len
 len1:t.len<9223372036854775808
theorem Dn {t:Tk}:t.run=true↔t.off=0∧t.len=0∧1≤t.lit.length∧t.lit.length≤1048576:=by simp[Tk.run]
theorem Cy {t:Tk}:t.copy=true↔t.lit=[]∧1≤t.off∧t.off≤65536∧4≤t.len∧t.len≤1048576:=by simp[Tk.copy]
def DK {t:Tk}:t.right=true↔t.run=true∨t.copy=true:=by simp[Tk.right]
theorem CI {t:Tk} (h:t.run=true):t.copy=false:=by
 cases hc:t.copy with
 |false=>rfl
 |true=>have h1:=Dn.1 h;have h2:=Cy.1 hc;omega
def Fc (t:Tk):List Int:=if t.run=true then vb (2*t.lit.length-2)++t.lit else vb (2*t.len-7)++vb (t.off-1)
def RS.thead (s:RS):RS×Bool×Int:=
 if s.vint.1.code=0 then
  (if s.vint.2%2=1 then(if 1048572<s.vint.2/2 then(s.vint.1.fail 2 s.at_,false,0)else(s.vint.1,true,s.vint.2/2+4))
  else(if 1048575<s.vint.2/2 then(s.vint.1.fail 2 s.at_,false,0)else(s.vint.1,false,s.vint.2/2+1)))
 else(s.vint.1,false,0)
def RS.toff (s:RS):RS×Int:=
 if s.vint.1.code=0 then(if 65536≤s.vint.2 then(s.vint.1.fail 10 s.at_,0)else(s.vint.1,s.vint.2+1))else(s.vint.1,0)
def RS.token (s:RS):RS×Tk:=
 if s.thead.1.code=0 then
  (if s.thead.2.1=true then(if s.thead.1.toff.1.code=0 then(s.thead.1.toff.1,⟨[],s.thead.1.toff.2,s.thead.2.2⟩)else(s.thead.1.toff.1,Ld))
  else(if(s.thead.1.take s.thead.2.2).1.code=0 then((s.thead.1.take s.thead.2.2).1,⟨(s.thead.1.take s.thead.2.2).2,0,0⟩)else((s.thead.1.take s.thead.2.2).1,Ld)))
 else(s.thead.1,Ld)
def ET {s:RS} (h:An s):An s.thead.1∧s.thead.1.l=s.l:=by
 have⟨a,b⟩:=h.vint;unfold RS.thead
 repeat' split
 all_goals first|exact⟨a,b⟩|exact⟨a.fail _ _,by rw[Bx];exact b⟩
def Pc {s:RS} (h:An s):An s.toff.1∧s.toff.1.l=s.l:=by
 have⟨a,b⟩:=h.vint;unfold RS.toff
 repeat' split
 all_goals first|exact⟨a,b⟩|exact⟨a.fail _ _,by rw[Bx];exact b⟩
def Mp {s:RS} (h:An s):An s.token.1∧s.token.1.l=s.l:=by
 have⟨a,b⟩:=ET h;have⟨c,d⟩:=Pc a;have e:=a.take s.thead.2.2;have f:=(a.ok.take s.thead.2.2).2;unfold RS.token
 repeat' split
 all_goals first|exact⟨a,b⟩|exact⟨c,d.trans b⟩|exact⟨e,f.trans b⟩
def I3 {s:RS} {c a:Int} (h:s.code=0) (hc:c≠0):¬(s.fail c a).code=0:=by
 unfold RS.fail;rw[if_pos h];simp[Cd,hc]
def JZ {s:RS} (h:An s) (hc:s.thead.1.code=0):s.vint.1.code=0∧s.thead.1=s.vint.1∧
 ((s.thead.2.1=true∧s.vint.2=2*s.thead.2.2-7∧4≤s.thead.2.2∧s.thead.2.2≤1048576)∨(s.thead.2.1=false∧s.vint.2=2*s.thead.2.2-2∧1≤s.thead.2.2∧s.thead.2.2≤1048576)):=by
 have hv:=Bf (s:=s) h.bys;unfold RS.thead at hc ⊢;by_cases h0:s.vint.1.code=0
 ·rw[if_pos h0]at hc ⊢;by_cases h1:s.vint.2%2=1
  ·rw[if_pos h1]at hc ⊢;by_cases h2:1048572<s.vint.2/2
   ·rw[if_pos h2]at hc;exact absurd hc (I3 h0 De)
   ·rw[if_neg h2];exact⟨h0,rfl,.inl ⟨rfl,by simp only;omega,by simp only;omega,by simp only;omega⟩⟩
  ·rw[if_neg h1]at hc ⊢;by_cases h2:1048575<s.vint.2/2
   ·rw[if_pos h2]at hc;exact absurd hc (I3 h0 De)
   ·rw[if_neg h2];exact⟨h0,rfl,.inr ⟨rfl,by simp only;omega,by simp only;omega,by simp only;omega⟩⟩
 ·rw[if_neg h0]at hc;exact absurd hc h0
theorem GI {s:RS} (hc:¬s.thead.1.code=0):s.thead.2=(false,0):=by
 unfold RS.thead at hc ⊢;by_cases h0:s.vint.1.code=0
 ·rw[if_pos h0]at hc ⊢;by_cases h1:s.vint.2%2=1
  ·rw[if_pos h1]at hc ⊢;by_cases h2:1048572<s.vint.2/2
   ·rw[if_pos h2]
   ·rw[if_neg h2]at hc;exact absurd h0 hc
  ·rw[if_neg h1]at hc ⊢;by_cases h2:1048575<s.vint.2/2
   ·rw[if_pos h2]
   ·rw[if_neg h2]at hc;exact absurd h0 hc
 ·rw[if_neg h0]
def Qu {s:RS} (hc:s.toff.1.code=0):s.vint.1.code=0∧s.toff.1=s.vint.1∧s.toff.2=s.vint.2+1∧s.vint.2<65536:=by
 unfold RS.toff at hc ⊢;by_cases h0:s.vint.1.code=0
 ·rw[if_pos h0]at hc ⊢;by_cases h2:65536≤s.vint.2
  ·rw[if_pos h2]at hc;exact absurd hc (I3 h0 De)
  ·rw[if_neg h2];exact⟨h0,rfl,rfl,Om⟩
 ·rw[if_neg h0]at hc;exact absurd hc h0
theorem gL {s:RS} (hc:¬s.toff.1.code=0):s.toff.2=0:=by
 unfold RS.toff at hc ⊢;by_cases h0:s.vint.1.code=0
 ·rw[if_pos h0]at hc ⊢;by_cases h2:65536≤s.vint.2
  ·rw[if_pos h2]
  ·rw[if_neg h2]at hc;exact absurd h0 hc
 ·rw[if_neg h0]
def H3 {s:RS} (h:An s) (hc:s.token.1.code=0):s.code=0∧s.token.2.right=true∧A7 s.token.2.lit∧s.at_<s.token.1.at_∧s.l.take s.token.1.at_.toNat=s.l.take s.at_.toNat++Fc s.token.2:=by
 unfold RS.token at hc ⊢;by_cases h0:s.thead.1.code=0
 ·have⟨a,b⟩:=ET h;have⟨k1,k2,k3⟩:=JZ h h0;have⟨v1,v2,v3⟩:=CK h k1;have ha:=EC h k1;rw[if_pos h0]at hc ⊢;rcases k3 with⟨c1,c2,c3,c4⟩|⟨c1,c2,c3,c4⟩
  ·rw[if_pos c1]at hc ⊢;by_cases h3:s.thead.1.toff.1.code=0
   ·rw[if_pos h3]at hc ⊢;have⟨t1,t2,t3,t4⟩:=Qu h3;have⟨w1,w2,w3⟩:=CK a t1;have hb:=EC a t1;have hr:=Bf (s:=s.thead.1) a.bys;have hcp:(Tk.mk [] s.thead.1.toff.2 s.thead.2.2).copy=true:=Cy.2 ⟨rfl,by simp only;omega,by simp only;omega,c3,c4⟩;have hrn:(Tk.mk [] s.thead.1.toff.2 s.thead.2.2).run=false:=by
     cases q:(Tk.mk [] s.thead.1.toff.2 s.thead.2.2).run with
     |false=>rfl
     |true=>rw[CI q]at hcp;cases hcp
    refine⟨v3,DK.2 (.inr hcp),(λx hx=>by simp at hx),by simp only;rw[t2,k2]at*;omega,?_⟩;simp only[Fc,hrn,Bool.false_eq_true,if_false];rw[t2,←b,w1,b,t3,show s.thead.1.vint.2+1-1=s.thead.1.vint.2 from by omega,k2,v1,←c2,append_assoc]
   ·rw[if_neg h3]at hc;exact absurd hc h3
  ·rw[c1]at hc ⊢;simp only[Bool.false_eq_true,if_false]at hc ⊢;by_cases h3:(s.thead.1.take s.thead.2.2).1.code=0
   ·rw[if_pos h3]at hc ⊢;have⟨t1,t2,t3,t4,t5⟩:=Bn a h3;have hrn:(Tk.mk (s.thead.1.take s.thead.2.2).2 0 0).run=true:=Dn.2 ⟨rfl,rfl,by simp only;omega,by simp only;omega⟩;refine⟨v3,DK.2 (.inl hrn),Fe a.bys _,by simp only;rw[t4,k2];omega,?_⟩;simp only[Fc,hrn,if_true];rw[←b,t5,b,t3,k2,v1,←c2,append_assoc]
   ·rw[if_neg h3]at hc;exact absurd hc h3
 ·rw[if_neg h0]at hc;exact absurd hc h0
def ZI {s:RS} {t:Tk} {r:List Int} (h:An s) (hc:s.code=0) (ht:t.right=true) (hr:s.rest=Fc t++r):s.token=(s.adv ((Fc t).length:Int),t):=by
 have⟨lit,off,len⟩:=t;rcases DK.1 ht with h1|h1
 ·have⟨a1,a2,a3,a4⟩:=Dn.1 h1;simp only at a1 a2 a3 a4;subst a1 a2;have eB:Fc ⟨lit,0,0⟩=vb (2*lit.length-2)++lit:=by simp[Fc,h1]
  rw[eB,append_assoc]at hr;have v:=Du hc Om Om hr;have b:=Bl h hr;have hh:s.thead=(s.adv ((vb (2*(lit.length:Int)-2)).length:Int),false,(lit.length:Int)):=by
   unfold RS.thead;rw[v];simp only;rw[if_pos (show(s.adv ((vb (2*(lit.length:Int)-2)).length:Int)).code=0 from hc),if_neg Om,if_neg Om];simp only[Prod.mk.injEq,true_and];omega
  have tk:=Da b (show(s.adv ((vb (2*(lit.length:Int)-2)).length:Int)).code=0 from hc) (b:=lit) (r:=r) (by rw[AW h.at0,hr,drop_left]);unfold RS.token;rw[hh];simp only;rw[tk];simp only[Bool.false_eq_true,if_false];have c2:((s.adv ((vb (2*(lit.length:Int)-2)).length:Int)).adv (lit.length:Int)).code=0:=hc;have c3:(s.adv ((vb (2*(lit.length:Int)-2)).length:Int)).code=0:=hc;rw[if_pos c3,if_pos c2,eB,Bs,length_append];rfl
 ·have⟨a1,a2,a3,a4,a5⟩:=Cy.1 h1;simp only at a1 a2 a3 a4 a5;subst a1;have hrn:(Tk.mk [] off len).run=false:=by
   cases q:(Tk.mk [] off len).run with
   |false=>rfl
   |true=>rw[CI q]at h1;cases h1
  have eB:Fc ⟨[],off,len⟩=vb (2*len-7)++vb (off-1):=by simp[Fc,hrn]
  rw[eB,append_assoc]at hr;have v:=Du hc Om Om hr;have b:=Bl h hr;have c3:(s.adv ((vb (2*len-7)).length:Int)).code=0:=hc;have hh:s.thead=(s.adv ((vb (2*len-7)).length:Int),true,len):=by
   unfold RS.thead;rw[v];simp only;rw[if_pos c3,if_pos Om,if_neg Om];simp only[Prod.mk.injEq,true_and];omega
  have v2:=Du (x:=off-1) (r:=r) c3 Om Om (by rw[AW h.at0,hr,drop_left]);have c4:((s.adv ((vb (2*len-7)).length:Int)).adv ((vb (off-1)).length:Int)).code=0:=hc;have ho:(s.adv ((vb (2*len-7)).length:Int)).toff=((s.adv ((vb (2*len-7)).length:Int)).adv ((vb (off-1)).length:Int),off):=by
   unfold RS.toff;rw[v2];simp only;rw[if_pos c4,if_neg Om];simp only[Prod.mk.injEq,true_and];omega
  unfold RS.token;rw[hh];simp only;rw[ho];simp only[if_true];rw[if_pos c3,if_pos c4,eB,Bs,length_append];rfl
section
variable {β:Type} {F:EM β}
def EM.all (F:EM β):Nat->RS->List β->RS×List β
 |0,s,acc=>(s,acc)
 |n+1,s,acc=>if s.code=0∧0<s.left then(if(F.f s acc).1.code=0 then F.all n (F.f s acc).1 (acc++[(F.f s acc).2])else((F.f s acc).1,[]))else(s,acc)
def YV {s:RS} (h:An s):0≤s.left:=by have:=h.at1;unfold RS.left;omega
theorem Oa {n:Nat} {s:RS} {acc:List β} (h:¬(s.code=0∧0<s.left)):F.all n s acc=(s,acc):=by
 cases n with
 |zero=>rfl
 |succ n=>rw[EM.all,if_neg h]
def nM (hF:F.Ok):∀(n m:Nat) (s:RS) (acc:List β),An s->Wf F.nx [] acc->s.left≤n->s.left≤m->F.all n s acc=F.all m s acc:=by
 intro n
 induction n with
 |zero=>intro m s acc h _ h1 h2;rw[Oa (n:=m) Om];rfl
 |succ n ih=>
  intro m s acc h hw h1 h2;by_cases hc:s.code=0∧0<s.left
  ·obtain⟨k,rfl⟩:∃k,m=k+1:=⟨m-1,Om⟩;rw[EM.all,EM.all,if_pos hc,if_pos hc];by_cases hn:(F.f s acc).1.code=0
   ·rw[if_pos hn,if_pos hn];have⟨k1,k2⟩:=hF.keep s acc h hw;have⟨r1,r2,r3,r4⟩:=hF.read s acc h hw hn;have hl:(F.f s acc).1.left<s.left:=by unfold RS.left;rw[k2];omega
    exact ih k _ _ k1 (D8.2 ⟨hw,by simpa using r2⟩) Om Om
   ·rw[if_neg hn,if_neg hn]
  ·rw[Oa hc,Oa hc]
def EM.rest (F:EM β) (s:RS) (acc:List β):RS×List β:=F.all s.left.toNat s acc
def Z_ (hF:F.Ok) {s:RS} {acc:List β} (h:An s) (hw:Wf F.nx [] acc) (hc:s.code=0) (hl:0<s.left) (hn:(F.f s acc).1.code=0):F.rest s acc=F.rest (F.f s acc).1 (acc++[(F.f s acc).2]):=by
 have⟨k1,k2⟩:=hF.keep s acc h hw;have⟨r1,r2,r3,r4⟩:=hF.read s acc h hw hn;have hl2:(F.f s acc).1.left<s.left:=by unfold RS.left;rw[k2];omega
 have hge:=YV k1;unfold EM.rest;obtain⟨k,hk⟩:∃k,s.left.toNat=k+1:=⟨s.left.toNat-1,Om⟩;rw[hk,EM.all,if_pos ⟨hc,hl⟩,if_pos hn];exact nM hF _ _ _ _ k1 (D8.2 ⟨hw,by simpa using r2⟩) Om Om
structure EM.Al (F:EM β) (s:RS) (a:RS×List β):Prop where
 ok:An a.1
 l:a.1.l=s.l
 adv:(a.2.length:Int)≤a.1.at_
 code:a.1.code=0
 wf:Wf F.nx [] a.2
 res:F.rest a.1 a.2=F.rest s []
 byt:s.l.take a.1.at_.toNat=s.l.take s.at_.toNat++BL F.enc [] a.2
theorem EM.Al.start {s:RS} (h:An s) (hc:s.code=0):F.Al s (s,[]):=⟨h,rfl,by simpa using h.at0,hc,trivial,rfl,by simp[BL]⟩
theorem EM.Al.next {s t:RS} {acc:List β} (hF:F.Ok) (h:F.Al s (t,acc)) (hl:0<t.left) (hc:(F.f t acc).1.code=0):F.Al s ((F.f t acc).1,acc++[(F.f t acc).2])∧(F.f t acc).1.left<t.left:=by
 have⟨h1,h2,h3,h4,h5,h6,h7⟩:=h;simp only at h1 h2 h3 h4 h5 h6 h7;have⟨k1,k2⟩:=hF.keep t acc h1 h5;have⟨r1,r2,r3,r4⟩:=hF.read t acc h1 h5 hc;refine⟨⟨k1,k2.trans h2,by simp;omega,hc,D8.2 ⟨h5,by simpa using r2⟩,?_,?_⟩,by unfold RS.left;rw[k2];omega⟩
 ·rw[←h6];exact(Z_ hF h1 h5 h4 hl hc).symm
 ·rw[h2]at r4;rw[r4,h7,G_];simp
theorem EM.Al.len {s t:RS} {acc:List β} (h:F.Al s (t,acc)):acc.length≤s.l.length:=by
 have h1:=h.ok.at1;have h2:=h.l;have h3:=h.adv;simp only at h1 h2 h3;rw[h2]at h1;omega
end
def gJ (t:Tk):0<(Fc t).length:=by
 unfold Fc;split
 ·have:=(A4 (2*(t.lit.length:Int)-2)).1;simp;omega
 ·have:=(A4 (2*t.len-7)).1;simp;omega
def gK {t:Tk} (h:t.right=true) (hb:A7 t.lit):A7 (Fc t):=by
 intro y hy;unfold Fc at hy;split at hy
 ·rename_i hr;have:=Dn.1 hr;rcases mem_append.1 hy with hy|hy
  ·exact CG Om Om y hy
  ·exact hb y hy
 ·rename_i hr;rcases DK.1 h with h|h
  ·exact absurd h hr
  ·have:=Cy.1 h;rcases mem_append.1 hy with hy|hy
   ·exact CG Om Om y hy
   ·exact CG Om Om y hy
def Fb (l:List Tk):List Int:=l.flatMap Fc
def CD (out:List Int) (off:Nat):Nat->List Int
 |0=>out
 |n+1=>CD (out++[out.getD (out.length-off) 0]) off n
theorem K_ (off:Nat):∀(n:Nat) (out:List Int),(CD out off n).length=out.length+n:=by
 intro n
 induction n with
 |zero=>intro out;rfl
 |succ n ih=>intro out;simp only[CD,ih,length_append,length_singleton];omega
def fK (off:Nat):∀(n:Nat) (out:List Int),A7 out->A7 (CD out off n):=by
 intro n
 induction n with
 |zero=>intro out h;exact h
 |succ n ih=>
  intro out h;refine ih _ λy hy=>?_
  rcases mem_append.1 hy with hy|hy
  ·exact h y hy
  ·simp only[mem_singleton]at hy;subst hy;rcases Nat.lt_or_ge (out.length-off) out.length with h1|h1
   ·exact h _ (D5 _ _ h1)
   ·simp[getElem?_eq_none h1]
theorem JP (off:Nat):∀(n:Nat) (out:List Int),CD out off (n+1)=CD out off n++[(CD out off n).getD ((CD out off n).length-off) 0]:=by
 intro n
 induction n with
 |zero=>intro out;rfl
 |succ n ih=>intro out;rw[CD,ih,←CD]
def G6 (out:List Int) (t:Tk):List Int:=CD (out++t.lit) t.off.toNat t.len.toNat
theorem NJ (out:List Int) {t:Tk} (h:t.right=true):((G6 out t).length:Int)=out.length+t.made:=by
 unfold G6;rw[K_,length_append];unfold Tk.made;rcases DK.1 h with h|h
 ·rw[if_pos h];have:=Dn.1 h;omega
 ·have hn:t.run=false:=by
   cases q:t.run with
   |false=>rfl
   |true=>rw[CI q]at h;cases h
  have:=Cy.1 h;rw[hn,if_neg Si,if_pos h,this.1];simp;omega
def TC {t:Tk} (h:t.right=true):1≤t.made∧t.made≤1048576:=by
 unfold Tk.made;rcases DK.1 h with h|h
 ·rw[if_pos h];have:=Dn.1 h;omega
 ·have hn:t.run=false:=by
   cases q:t.run with
   |false=>rfl
   |true=>rw[CI q]at h;cases h
  have:=Cy.1 h;rw[hn,if_neg Si,if_pos h];omega
theorem bO {t:Tk} (h:t.right=false):t.made=0:=by
 have h1:t.run=false∧t.copy=false:=by simpa[Tk.right]using h
 unfold Tk.made;rw[h1.1,h1.2];simp
def rB {t:Tk}:0≤t.made:=by
 cases h:t.right with
 |false=>rw[bO h];simp
 |true=>have:=TC h;omega
def Gz (t:Tk) (made bound:Int):Int:=if t.right=false then 3 else if bound<made+t.made then 11 else if made<t.off then 10 else 0
def C8 (bound:Int):List Tk->Nat->List Int->List Int×(Int×Int)
 |[],_,out=>(out,(0,0))
 |t::l,i,out=>if Gz t out.length bound=0 then C8 bound l (i+1) (G6 out t)else([],(Gz t out.length bound,(i:Int)))
def Lb {t:Tk} {made bound:Int} (h:Gz t made bound=0):t.right=true∧made+t.made≤bound∧t.off≤made:=by
 unfold Gz at h;split at h
 ·simp at h
 ·rename_i h1;split at h
  ·simp at h
  ·split at h
   ·simp at h
   ·exact⟨by simpa using h1,Om,Om⟩
abbrev vR (t:Tk):AV:=.agg [Bj .u8 t.lit,iA t.off,iA t.len]
def Og (l:List Tk):List AV:=l.map vR
abbrev uO (l:List Tk):AV:=.sl .none 3 (Og l)
@[simp] theorem YG (ρ:Nat->Nat) (l:List Tk):(Og l).map (λx=>x.ren ρ)=Og l:=by simp[Og,AD]
@[simp] theorem ren_ints_t (ρ:Nat->Nat) (k:IntKind) (l:List Int):(AU k l).map (λx=>x.ren ρ)=AU k l:=AI ρ k l
theorem ER (l:List Tk):(Og l).length=l.length:=by simp[Og]
theorem o8:Og []=[]:=(rfl)
theorem Su (l:List Tk) (t:Tk):Og l++[vR t]=Og (l++[t]):=by simp[Og]
def gN (l:List Tk) (k:Nat) (h:k<l.length):(Og l).getD k .any=vR (l.getD k Ld):=by simp[Og,h]
def Yt (l:List Tk) (k:Nat) (h:k<l.length):(Og l).getD (k:Int).toNat .any=vR (l.getD k Ld):=by
 rw[Int.toNat_natCast];exact gN l k h
def vQ (l:List Tk) (k:Nat) (h:k<l.length):l.getD k Ld∈l:=by simp[h]
theorem Yu (l:List Tk) (k:Nat) (h:k<l.length):l.take (k+1)=l.take k++[l.getD k Ld]:=by
 rw[take_succ_eq_append_getElem h];simp[h]
def So (t:Tk):Ct prog 211 [vR t] [] (λ_=>bA t.right) [] (λ_=>[]):=by
 refine Ag.toCt ?_ cl cl
 refine RN func211 RG ?_;refine (mq @Ab ?_).1
 by_cases c0:t.off=0
 ·have q0:(t.off==0)=true:=Sx c0
  have hcp:t.copy=false:=by simp[Tk.copy,c0]
  have hr:t.right=t.run:=by simp[Tk.right,hcp]
  by_cases c1:t.len=0
  ·have q1:(t.len==0)=true:=Sx c1
   by_cases c2:1≤(t.lit.length:Int)
   ·have q2:decide (1≤(t.lit.length:Int))=true:=Sx c2
    have e:decide ((t.lit.length:Int)≤1048576)=t.run:=by rw[Bool.eq_iff_iff,Dn,decide_eq_true_eq];omega
    simp only[go_sem,seval,q0,q1,q2,Ab,e];refine (AZ ?_).1
    exact FE RG [] hr
   ·have q2:decide (1≤(t.lit.length:Int))=false:=Sx c2
    have e:t.run=false:=by cases q:t.run with|false=>rfl|true=>have:=Dn.1 q;omega
    refine (ms q0 q1 q2 ?_).1
    exact FF RG [] hr e
  ·have q1:(t.len==0)=false:=Sx c1
   have e:t.run=false:=by cases q:t.run with|false=>rfl|true=>have:=Dn.1 q;omega
   refine (mr q0 q1 ?_).1
   exact FF RG [] hr e
 ·have q0:(t.off==0)=false:=Sx c0
  have hrn:t.run=false:=by simp[Tk.run,c0]
  have hr:t.right=t.copy:=by simp[Tk.right,hrn]
  by_cases c1:0<(t.lit.length:Int)
  ·have q1:decide (0<(t.lit.length:Int))=true:=Sx c1
   have e:t.copy=false:=by cases q:t.copy with|false=>rfl|true=>have:=Cy.1 q;rw[this.1]at c1;simp at c1
   refine (mr q0 q1 ?_).1
   exact FF RG [] hr e
  ·have q1:decide (0<(t.lit.length:Int))=false:=Sx c1
   have hlit:t.lit=[]:=eq_nil_of_length_eq_zero Om;by_cases c2:t.off<0
   ·have q2:decide (t.off<0)=true:=Sx c2
    have e:t.copy=false:=by cases q:t.copy with|false=>rfl|true=>have:=Cy.1 q;omega
    refine (ms q0 q1 q2 ?_).1
    exact FF RG [] hr e
   ·have q2:decide (t.off<0)=false:=Sx c2
    by_cases c3:65536<t.off
    ·have q3:decide (65536<t.off)=true:=Sx c3
     have e:t.copy=false:=by cases q:t.copy with|false=>rfl|true=>have:=Cy.1 q;omega
     refine (mt q0 q1 q2 q3 ?_).1
     exact FF RG [] hr e
    ·have q3:decide (65536<t.off)=false:=Sx c3
     by_cases c4:4≤t.len
     ·have q4:decide (4≤t.len)=true:=Sx c4
      have e:decide (t.len≤1048576)=t.copy:=by rw[Bool.eq_iff_iff,Cy,decide_eq_true_eq];exact⟨λh=>⟨hlit,Om,Om,c4,h⟩,λh=>h.2.2.2.2⟩
      simp only[go_sem,seval,q0,q1,q2,q3,q4,e];refine (AZ ?_).1
      exact FE RG [] hr
     ·have q4:decide (4≤t.len)=false:=Sx c4
      have e:t.copy=false:=by cases q:t.copy with|false=>rfl|true=>have:=Cy.1 q;omega
      simp only[go_sem,seval,q0,q1,q2,q3,q4];refine (AZ ?_).1
      exact FF RG [] hr e
def WS.tok (s:WS) (t:Tk):WS:=if t.right=true then(if t.run=true then(s.put (vb (2*t.lit.length-2))).put t.lit else(s.put (vb (2*t.len-7))).put (vb (t.off-1)))else s.fail 3
theorem WS.fine.tok {s:WS} (h:s.fine) (t:Tk):(s.tok t).fine:=by
 unfold WS.tok;split
 ·split
  ·exact(h.put _).put _
  ·exact(h.put _).put _
 ·exact h.fail 3
def VG (s:WS) (t:Tk) (hs:s.fine):Ag prog 205 [.ref 0 0,vR t] [B5 1 s,AQ s] (.tup []) [B5 1 (s.tok t),AQ (s.tok t)]:=by
 refine RM func205 tT ?_
 refine Aa.p (So t) ?_;cases hr:t.right
 ·refine (mq hr ?_).1;refine Aa.u2 (Cq s 3 0 1 De) rfl rfl (mp ?_).1
  exact FK tT [0,1] (by simp[WS.tok,hr])
 ·by_cases c0:t.off=0
  ·have q0:(t.off==0)=true:=Sx c0
   have hcp:t.copy=false:=by simp[Tk.copy,c0]
   have hrn:t.run=true:=by simpa[Tk.right,hcp]using hr
   have hri:=Dn.1 hrn;have e1:IntKind.i64.wrap ((t.lit.length:Int)-1)=t.lit.length-1:=i64_in _ Om;have e2:IntKind.u64.wrap ((t.lit.length:Int)-1)=t.lit.length-1:=u64_in _ Om;have e3:IntKind.u64.wrap (((t.lit.length:Int)-1)*2)=2*t.lit.length-2:=by rw[u64_in _ Om];omega
   simp only[go_sem,seval,hr,q0,Ab,e1,e2,e3];refine (AZ ?_).1;refine Aa.u2 (Bm s (2*t.lit.length-2) 0 1 De Om Om hs.ok (hs.room _)) rfl rfl (mp ?_).1;refine Aa.u2 (BZ _ t.lit 0 1 De (hs.put _).ok ((hs.put _).room _)) rfl rfl (mp ?_).1
   exact FK tT [0,1] (by simp[WS.tok,hr,hrn])
  ·have q0:(t.off==0)=false:=Sx c0
   have hrn:t.run=false:=by simp[Tk.run,c0]
   have hcp:t.copy=true:=by simpa[Tk.right,hrn]using hr
   have hci:=Cy.1 hcp;have e1:IntKind.i64.wrap (t.len-4)=t.len-4:=i64_in _ Om;have e2:IntKind.u64.wrap (t.len-4)=t.len-4:=u64_in _ Om;have e3:IntKind.u64.wrap ((t.len-4)*2)=(t.len-4)*2:=u64_in _ Om;have e4:IntKind.u64.wrap ((t.len-4)*2+1)=2*t.len-7:=by rw[u64_in _ Om];omega
   have e5:IntKind.i64.wrap (t.off-1)=t.off-1:=i64_in _ Om;have e6:IntKind.u64.wrap (t.off-1)=t.off-1:=u64_in _ Om;simp only[go_sem,seval,hr,q0,e1,e2,e3,e4];refine (AZ ?_).1;refine Aa.u2 (Bm s (2*t.len-7) 0 1 De Om Om hs.ok (hs.room _)) rfl rfl (mr e5 e6 ?_).1;refine Aa.u2 (Bm _ (t.off-1) 0 1 De Om Om (hs.put _).ok ((hs.put _).room _)) rfl rfl (mp ?_).1
   exact FK tT [0,1] (by simp[WS.tok,hr,hrn])
def ZJ (s:WS) (t:Tk) (i j:Nat) (h:i≠j) (hs:s.fine):Ct prog 205 [.ref i 0,vR t] [(i,B5 j s),(j,AQ s)] (λ_=>.tup []) [(i,B5 j (s.tok t)),(j,AQ (s.tok t))] (λ_=>[]):=Ct.u2 (VG s t hs) i j h cl cl cl cl cl (Bu _ _) (Bi _) Dl
def Sp (s:RS) (hs:An s):Ag prog 198 [.ref 0 0] [A1 s] (.tup [bA s.thead.2.1,iA s.thead.2.2]) [A1 (s.thead.1)]:=by
 have hv:=Bf (s:=s) hs.bys;refine RM func198 fE ?_
 refine Cr (AP s 0) rfl ?_;refine Cu (B4 s 0 hs.ok hs.bys) rfl ?_;refine Aa.r1 (Ah s.vint.1 0) rfl ?_;by_cases hc:s.vint.1.code=0
 ·have⟨x,hx⟩:=Ex s.vint.2;rw[hx]at hv;have em:x.tmod 2=x%2:=Int.tmod_eq_emod_of_nonneg hv.1;have ed:IntKind.u64.wrap (x.tdiv 2)=x/2:=by rw[Int.tdiv_eq_ediv_of_nonneg hv.1,u64_in _ Om]
  have e1:IntKind.i64.wrap (1048576-4)=1048572:=rfl;have e2:IntKind.i64.wrap (1048576-1)=1048575:=rfl;have e3:IntKind.u64.wrap 1048572=1048572:=rfl;have e4:IntKind.u64.wrap 1048575=1048575:=rfl;have e3':IntKind.i64.wrap 1048572=1048572:=rfl;have e4':IntKind.i64.wrap 1048575=1048575:=rfl;have eh:s.thead=if x%2=1 then(if 1048572<x/2 then(s.vint.1.fail 2 s.at_,false,0)else(s.vint.1,true,x/2+4))else(if 1048575<x/2 then(s.vint.1.fail 2 s.at_,false,0)else(s.vint.1,false,x/2+1)):=by
   unfold RS.thead;rw[if_pos hc,hx]
  by_cases c1:x%2=1
  ·have q1:(x%2==1)=true:=Sx c1
   rw[if_pos c1]at eh;by_cases c2:1048572<x/2
   ·have q2:decide (1048572<x/2)=true:=Sx c2
    rw[if_pos c2]at eh;simp only[go_sem,seval,A5 hc,hx,em,ed,q1,e1,e3,e3',q2];refine (AZ ?_).1;refine (Sr ?_).1;refine Cu (Ar s.vint.1 2 s.at_ 0) rfl ?_
    exact FE fE [0] eh
   ·have q2:decide (1048572<x/2)=false:=Sx c2
    rw[if_neg c2]at eh;have e5:IntKind.i64.wrap (x/2)=x/2:=i64_in _ Om;have e6:IntKind.i64.wrap (x/2+4)=x/2+4:=i64_in _ Om;simp only[go_sem,seval,A5 hc,hx,em,ed,q1,e1,e3,e3',q2,e5,e6];refine (AZ ?_).1;refine (Sr ?_).1
    exact FE fE [0] eh
  ·have q1:(x%2==1)=false:=Sx c1
   rw[if_neg c1]at eh;by_cases c2:1048575<x/2
   ·have q2:decide (1048575<x/2)=true:=Sx c2
    rw[if_pos c2]at eh;simp only[go_sem,seval,A5 hc,hx,em,ed,q1,e2,e4,e4',q2];refine (AZ ?_).1;refine (Sr ?_).1;refine Cu (Ar s.vint.1 2 s.at_ 0) rfl ?_
    exact FE fE [0] eh
   ·have q2:decide (1048575<x/2)=false:=Sx c2
    rw[if_neg c2]at eh;have e5:IntKind.i64.wrap (x/2)=x/2:=i64_in _ Om;have e6:IntKind.i64.wrap (x/2+1)=x/2+1:=i64_in _ Om;simp only[go_sem,seval,A5 hc,hx,em,ed,q1,e2,e4,e4',q2,e5,e6];refine (AZ ?_).1;refine (Sr ?_).1
    exact FE fE [0] eh
 ·have eh:s.thead=(s.vint.1,false,0):=by unfold RS.thead;rw[if_neg hc]
  refine (mq (AB hc) ?_).1
  exact FE fE [0] eh
def VH (s:RS) (i:Nat) (hs:An s):Ct prog 198 [.ref i 0] [(i,A1 s)] (λ_=>.tup [bA s.thead.2.1,iA s.thead.2.2]) [(i,A1 (s.thead.1))] (λ_=>[]):=Ct.u1 (Sp s hs) i cl (λρ=>AG ρ _) (λρ=>AG ρ _) (rdr_dead _) cl
def Oj (s:RS) (hs:An s):Ag prog 199 [.ref 0 0] [A1 s] (iA s.toff.2) [A1 (s.toff.1)]:=by
 have hv:=Bf (s:=s) hs.bys;refine RM func199 tV ?_
 refine Cr (AP s 0) rfl ?_;refine Cu (B4 s 0 hs.ok hs.bys) rfl ?_;have⟨x,hx⟩:=Ex s.vint.2;rw[hx]at hv;by_cases c:65536≤x
 ·have q:decide (65536≤x)=true:=Sx c
  by_cases hc:s.vint.1.code=0
  ·have eh:s.toff=(s.vint.1.fail 10 s.at_,0):=by unfold RS.toff;rw[if_pos hc,hx,if_pos c]
   have hno:=I3 (s:=s.vint.1) (c:=10) (a:=s.at_) hc De;refine (mr hx q ?_).1;refine Cu (Ar s.vint.1 10 s.at_ 0) rfl ?_;refine Aa.r1 (Ah _ 0) rfl (mq (AB hno) ?_).1
   exact FE tV [0] eh
  ·have:=Zu hc;omega
 ·have q:decide (65536≤x)=false:=Sx c
  refine (mr hx q ?_).1;refine Aa.r1 (Ah s.vint.1 0) rfl ?_;by_cases hc:s.vint.1.code=0
  ·have eh:s.toff=(s.vint.1,x+1):=by unfold RS.toff;rw[if_pos hc,hx,if_neg c]
   have e1:IntKind.i64.wrap x=x:=i64_in _ Om;have e2:IntKind.i64.wrap (x+1)=x+1:=i64_in _ Om;refine (ms (A5 hc) e1 e2 ?_).1
   exact FE tV [0] eh
  ·have eh:s.toff=(s.vint.1,0):=by unfold RS.toff;rw[if_neg hc]
   refine (mq (AB hc) ?_).1
   exact FE tV [0] eh
def Qs (s:RS) (i:Nat) (hs:An s):Ct prog 199 [.ref i 0] [(i,A1 s)] (λ_=>iA s.toff.2) [(i,A1 (s.toff.1))] (λ_=>[]):=Ct.u1 (Oj s hs) i cl (λρ=>AG ρ _) (λρ=>AG ρ _) (rdr_dead _) cl
def OS (out:List Int) (off n:Int) (hn:n≤1048576) (ho:0<n->1≤off∧off≤out.length) (hl:out.length≤100000000000000):Ag prog 200 [Ia 0 out,iA off,iA n] [.row 1 out.length] (Ia 0 (CD out off.toNat n.toNat)) [.row 1 (CD out off.toNat n.toNat).length]:=by
 refine RM func200 Acs ?_
 refine AA (α:=Nat) (λk=>Ia 0 (CD out off.toNat k)::iA off::.any::.any::.any::.any::.any::iA n::iA k::Ay (Ay (Ay [.any]))) (λk=>[.row 1 (CD out off.toNat k).length]) (λk=>k≤n.toNat) (λk=>n.toNat-k) 0 Si (Wk.to (by simp[CD]) (by simp[B6,CD])) ?_;intro k hk;have hal:=K_ off.toNat k out;refine (mq @Ab ?_).1;by_cases hlt:(k:Int)<n
 ·have q:decide ((k:Int)<n)=true:=Sx hlt
  have⟨h1,h2⟩:=ho Om;have ei:=Am k Om;have hs:=JP off.toNat k out;obtain⟨m,hm⟩:∃m:Nat,(CD out off.toNat k).length-off.toNat=m:=⟨_,rfl⟩;rw[hm]at hs;have e1:IntKind.i64.wrap (((CD out off.toNat k).length:Int)-off)=(m:Int):=by rw[i64_in _ Om];omega
  have g:=Qq (CD out off.toNat k) m Om Om;rw[Int.toNat_natCast]at g;have hsl:=congrArg List.length hs;rw[length_append,length_singleton]at hsl;simp only[go_sem,seval,q,e1,g,Int.toNat_natCast,Ab,Eo,←hs,ei];refine (AZ ?_).1;(repeat with_reducible refine Sa ?_);exact⟨k+1,Om,Om,Wk.to (by simp;omega) (by simp[B6])⟩
 ·have q:decide ((k:Int)<n)=false:=Sx hlt
  have ek:k=n.toNat:=Om
  refine (mq q ?_).1
  exact FE Acs [0] ek
def Ro (out:List Int) (off n:Int) (i:Nat) (hn:n≤1048576) (ho:0<n->1≤off∧off≤out.length) (hl:out.length≤100000000000000):Ct prog 200 [Ia i out,iA off,iA n] [(i,.row 1 out.length)] (λ_=>Ia i (CD out off.toNat n.toNat)) [(i,.row 1 (CD out off.toNat n.toNat).length)] (λ_=>[]):=
 Ct.o1 (OS out off n hn ho hl) i Dl Dl Dl Si Dl
def G7 (bound:Int):Nat->RS->List Int->List Int×(Int×Int)
 |0,_,out=>(out,(0,0))
 |n+1,s,out=>if 0<s.left then
   (if s.thead.1.code=0 then
     (if bound<out.length+s.thead.2.2 then([],(11,s.at_))
     else if s.token.1.code=0 then(if(out.length:Int)<s.token.2.off then([],(10,s.thead.1.at_))else G7 bound n s.token.1 (G6 out s.token.2))
     else([],(s.token.1.code,s.token.1.fat)))
   else([],(s.thead.1.code,s.thead.1.fat)))
  else(out,(0,0))
def Ee {s:RS} (h:An s) (hc:s.token.1.code=0):s.token.1.left<s.left∧An s.token.1∧s.token.1.l=s.l:=by
 have⟨k1,k2⟩:=Mp h;have⟨_,_,_,h4,_⟩:=H3 h hc;refine⟨by unfold RS.left;rw[k2];omega,k1,k2⟩
theorem HC {bound:Int} {n:Nat} {s:RS} {out:List Int} (h:¬0<s.left):G7 bound n s out=(out,(0,0)):=by
 cases n with
 |zero=>rfl
 |succ n=>rw[G7,if_neg h]
def XP {bound:Int}:∀(n m:Nat) (s:RS) (out:List Int),An s->s.left≤n->s.left≤m->G7 bound n s out=G7 bound m s out:=by
 intro n
 induction n with
 |zero=>intro m s out _ h1 _;rw[HC (n:=m) Om];rfl
 |succ n ih=>
  intro m s out h h1 h2;by_cases hl:0<s.left
  ·obtain⟨k,rfl⟩:∃k,m=k+1:=⟨m-1,Om⟩;rw[G7,G7,if_pos hl,if_pos hl];by_cases hh:s.thead.1.code=0
   ·rw[if_pos hh,if_pos hh];by_cases hb:bound<out.length+s.thead.2.2
    ·rw[if_pos hb,if_pos hb]
    ·rw[if_neg hb,if_neg hb];by_cases ht:s.token.1.code=0
     ·rw[if_pos ht,if_pos ht];by_cases ho:(out.length:Int)<s.token.2.off
      ·rw[if_pos ho,if_pos ho]
      ·rw[if_neg ho,if_neg ho];have⟨t1,t2,_⟩:=Ee h ht;exact ih k _ _ t2 Om Om
     ·rw[if_neg ht,if_neg ht]
   ·rw[if_neg hh,if_neg hh]
  ·rw[HC hl,HC hl]
def Ei (bound:Int) (s:RS) (out:List Int):List Int×(Int×Int):=G7 bound s.left.toNat s out
theorem F7 {bound:Int} {s:RS} {out:List Int} (h:¬0<s.left):Ei bound s out=(out,(0,0)):=HC h
def Kr {bound:Int} {s:RS} {out:List Int} (h:0<s.left):∃n,s.left.toNat=n+1:=⟨s.left.toNat-1,Om⟩
theorem G9 {bound:Int} {s:RS} {out:List Int} (h:0<s.left) (hh:¬s.thead.1.code=0):Ei bound s out=([],(s.thead.1.code,s.thead.1.fat)):=by
 have⟨n,hn⟩:=Kr (bound:=bound) (out:=out) h;unfold Ei;rw[hn,G7,if_pos h,if_neg hh]
theorem G8 {bound:Int} {s:RS} {out:List Int} (h:0<s.left) (hh:s.thead.1.code=0) (hb:bound<out.length+s.thead.2.2):Ei bound s out=([],(11,s.at_)):=by
 have⟨n,hn⟩:=Kr (bound:=bound) (out:=out) h;unfold Ei;rw[hn,G7,if_pos h,if_pos hh,if_pos hb]
theorem F6 {bound:Int} {s:RS} {out:List Int} (h:0<s.left) (hh:s.thead.1.code=0) (hb:¬bound<out.length+s.thead.2.2) (ht:¬s.token.1.code=0):Ei bound s out=([],(s.token.1.code,s.token.1.fat)):=by
 have⟨n,hn⟩:=Kr (bound:=bound) (out:=out) h;unfold Ei;rw[hn,G7,if_pos h,if_pos hh,if_neg hb,if_neg ht]
theorem Ks {bound:Int} {s:RS} {out:List Int} (h:0<s.left) (hh:s.thead.1.code=0) (hb:¬bound<out.length+s.thead.2.2) (ht:s.token.1.code=0) (ho:(out.length:Int)<s.token.2.off):Ei bound s out=([],(10,s.thead.1.at_)):=by
 have⟨n,hn⟩:=Kr (bound:=bound) (out:=out) h;unfold Ei;rw[hn,G7,if_pos h,if_pos hh,if_neg hb,if_pos ht,if_pos ho]
theorem FO {bound:Int} {s:RS} {out:List Int} (hs:An s) (h:0<s.left) (hh:s.thead.1.code=0) (hb:¬bound<out.length+s.thead.2.2) (ht:s.token.1.code=0) (ho:¬(out.length:Int)<s.token.2.off):Ei bound s out=Ei bound s.token.1 (G6 out s.token.2):=by
 have⟨n,hn⟩:=Kr (bound:=bound) (out:=out) h;have⟨t1,t2,_⟩:=Ee hs ht;have hge:=YV t2;unfold Ei;rw[hn,G7,if_pos h,if_pos hh,if_neg hb,if_pos ht,if_neg ho];exact XP _ _ _ _ t2 Om Om
def Mq {s:RS} (ht:s.token.1.code=0):s.thead.1.code=0:=by
 by_cases h:s.thead.1.code=0
 ·exact h
 ·unfold RS.token at ht;rw[if_neg h]at ht;exact ht
def Jo {s:RS} (h:An s) (ht:s.token.1.code=0):s.token.2.made=s.thead.2.2∧(s.thead.2.1=true->s.token.2.copy=true∧s.token.2=⟨[],s.thead.1.toff.2,s.thead.2.2⟩∧s.thead.1.toff.1.code=0∧s.token.1=s.thead.1.toff.1)∧
 (s.thead.2.1=false->s.token.2.run=true∧s.token.2=⟨(s.thead.1.take s.thead.2.2).2,0,0⟩∧(s.thead.1.take s.thead.2.2).1.code=0∧s.token.1=(s.thead.1.take s.thead.2.2).1):=by
 have hh:=Mq ht;have⟨a,b⟩:=ET h;have⟨k1,k2,k3⟩:=JZ h hh;have e:s.token=if s.thead.2.1=true then(if s.thead.1.toff.1.code=0 then(s.thead.1.toff.1,⟨[],s.thead.1.toff.2,s.thead.2.2⟩)else(s.thead.1.toff.1,Ld))else(if(s.thead.1.take s.thead.2.2).1.code=0 then((s.thead.1.take s.thead.2.2).1,⟨(s.thead.1.take s.thead.2.2).2,0,0⟩)else((s.thead.1.take s.thead.2.2).1,Ld)):=by
  unfold RS.token;rw[if_pos hh]
 rcases k3 with⟨c1,c2,c3,c4⟩|⟨c1,c2,c3,c4⟩
 ·rw[if_pos c1]at e;by_cases h3:s.thead.1.toff.1.code=0
  ·rw[if_pos h3]at e;have⟨t1,t2,t3,t4⟩:=Qu h3;have hr:=Bf (s:=s.thead.1) a.bys;have hcp:(Tk.mk [] s.thead.1.toff.2 s.thead.2.2).copy=true:=Cy.2 ⟨rfl,by simp only;omega,by simp only;omega,c3,c4⟩;have hrn:(Tk.mk [] s.thead.1.toff.2 s.thead.2.2).run=false:=by
    cases q:(Tk.mk [] s.thead.1.toff.2 s.thead.2.2).run with
    |false=>rfl
    |true=>rw[CI q]at hcp;cases hcp
   rw[e];refine⟨by simp[Tk.made,hrn,hcp],λ_=>⟨hcp,rfl,h3,rfl⟩,λh=>by rw[c1]at h;cases h⟩
  ·rw[if_neg h3]at e;rw[e]at ht;exact absurd ht h3
 ·rw[c1]at e;simp only[Bool.false_eq_true,if_false]at e;by_cases h3:(s.thead.1.take s.thead.2.2).1.code=0
  ·rw[if_pos h3]at e;have⟨t1,t2,t3,t4,t5⟩:=Bn a h3;have hrn:(Tk.mk (s.thead.1.take s.thead.2.2).2 0 0).run=true:=Dn.2 ⟨rfl,rfl,by simp only;omega,by simp only;omega⟩;rw[e];refine⟨by simp[Tk.made,hrn,t3],λh=>(by rw[c1]at h;cases h),λ_=>⟨hrn,rfl,h3,rfl⟩⟩
  ·rw[if_neg h3]at e;rw[e]at ht;exact absurd ht h3
def VB:List Tk->Int
 |[]=>0
 |t::l=>t.made+VB l
def o5 (l:List Tk):0≤VB l:=by
 induction l with
 |nil=>simp[VB]
 |cons x l ih=>have:=rB (t:=x);simp only[VB];omega
def sI {bound:Int}:∀(n:Nat) (s:RS) (out:List Int),An s->s.left≤n->(out.length:Int)≤max bound 0->((Ei bound s out).1.length:Int)≤max bound 0:=by
 intro n
 induction n with
 |zero=>intro s out _ hl ho;rw[F7 Om];exact ho
 |succ n ih=>
  intro s out h hl ho;by_cases hp:0<s.left
  ·by_cases hh:s.thead.1.code=0
   ·by_cases hb:bound<out.length+s.thead.2.2
    ·rw[G8 hp hh hb];simp;omega
    ·by_cases ht:s.token.1.code=0
     ·by_cases hf:(out.length:Int)<s.token.2.off
      ·rw[Ks hp hh hb ht hf];simp;omega
      ·rw[FO h hp hh hb ht hf];have⟨t1,t2,t3⟩:=Ee h ht;have⟨i1,i2,i3,i4,i5⟩:=H3 h ht;have hm:=(Jo h ht).1;refine ih _ _ t2 Om ?_;rw[NJ _ i2,hm];omega
     ·rw[F6 hp hh hb ht];simp;omega
   ·rw[G9 hp hh];simp;omega
  ·exact ih s out h Om ho
def XO {bound:Int}:∀(l:List Tk) (i:Nat) (out:List Int),(C8 bound l i out).2.1=0->((C8 bound l i out).1.length:Int)=out.length+VB l∧∀t∈l,t.right=true:=by
 intro l
 induction l with
 |nil=>intro i out _;exact⟨by simp[C8,VB],Si⟩
 |cons t l ih=>
  intro i out h;simp only[C8]at h ⊢;by_cases hw:Gz t out.length bound=0
  ·rw[if_pos hw]at h ⊢;have⟨w1,w2,w3⟩:=Lb hw;have⟨h1,h2⟩:=ih _ _ h;refine⟨by rw[h1,NJ _ w1];simp only[VB];omega,λx hx=>?_⟩;rcases mem_cons.1 hx with rfl|hx
   ·exact w1
   ·exact h2 x hx
  ·rw[if_neg hw]at h;exact absurd h hw
def Cb:List Tk->Int
 |[]=>0
 |t::l=>t.lit.length+20+Cb l
theorem V2 (l:List Tk) (t:Tk):Cb (l++[t])=Cb l+t.lit.length+20:=by
 induction l with
 |nil=>simp[Cb]
 |cons x l ih=>simp only[cons_append,Cb,ih];omega
def MO {l:List Tk} (h:∀t∈l,t.lit.length≤2000000):0≤Cb l∧Cb l≤2000020*l.length:=by
 induction l with
 |nil=>simp[Cb]
 |cons x l ih=>
  have h1:=h x (mem_cons_self ..);have h2:=ih λt ht=>h t (mem_cons_of_mem _ ht)
  simp only[Cb,length_cons];omega
def St (t:Tk):(Fc t).length≤t.lit.length+20:=by
 unfold Fc;split
 ·have:=(A4 (2*(t.lit.length:Int)-2)).2;rw[length_append];omega
 ·have:=(A4 (2*t.len-7)).2;have:=(A4 (t.off-1)).2;rw[length_append];omega
def VE (l:List Tk):((Fb l).length:Int)≤Cb l:=by
 induction l with
 |nil=>simp[Fb,Cb]
 |cons x l ih=>
  have:=St x;have e:Fb (x::l)=Fc x++Fb l:=by simp[Fb]
  rw[e,length_append];simp only[Cb];omega
theorem vI:(vb 18446744073709551615).length=10:=by kernel_rfl
def Sn (l:List Tk) (hn:l.length≤2000000) (hl:∀t∈l,t.lit.length≤2000000):Ag prog 204 [uO l] [] (iA (Cb l)) []:=by
 refine RN func204 Acq ?_;refine (mq @ER ?_).1
 refine AA (α:=Nat) (λk=>.any::.any::.any::iA (Cb (l.take k))::.any::.any::uO l::iA l.length::iA k::Ay (Ay (Ay [.any]))) (λ_=>[]) (λk=>k≤l.length) (λk=>l.length-k) 0 Si (Wk.to Si (by simp[B6,Cb])) ?_;intro k hk;refine (mp ?_).1;refine AK (λh=>?_) (λh=>?_)
 ·have hlt:k<l.length:=Sx h
  have g:=Yt l k hlt;have ei:=Am k Om;have h1:=MO (l:=l.take (k+1)) λt ht=>hl t (mem_of_mem_take ht)
  have hkl:(l.take (k+1)).length≤2000000:=by simp;omega
  have hx:=hl _ (vQ l k hlt);have hs:Cb (l.take (k+1))=Cb (l.take k)+(l.getD k Ld).lit.length+20:=by rw[Yu l k hlt,V2]
  obtain⟨t,ht⟩:∃t,l.getD k Ld=t:=⟨_,rfl⟩;rw[ht]at g hx hs;have e1:IntKind.i64.wrap (2*(((vb 18446744073709551615).length:Nat):Int))=20:=by rw[vI];rfl
  have e2:IntKind.i64.wrap ((t.lit.length:Int)+20)=t.lit.length+20:=i64_in _ Om;have es:IntKind.i64.wrap (Cb (l.take k)+((t.lit.length:Int)+20))=Cb (l.take (k+1)):=by rw[i64_in _ Om,hs];omega
  refine (ms g @ER @Ab ?_).1;(repeat with_reducible refine Sa ?_);refine Aa.p (CY 18446744073709551615 De De) (mt e1 e2 es ei ?_).1;exact⟨k+1,hlt,Om,Wk.sel [] Si rfl Si rfl Si (by simp[Ch,AD])⟩
 ·have ek:k=l.length:=by simp at h;omega
  refine (mp ?_).1
  exact FE Acq [] ek
theorem VF (l:List Tk) (hn:l.length≤2000000) (hl:∀t∈l,t.lit.length≤2000000):Ct Tryz.prog 204 [uO l] [] (λ_=>iA (Cb l)) [] (λ_=>[]):=(Sn l hn hl).toCt cl cl
def WS.toks (s:WS) (l:List Tk):WS:=l.foldl WS.tok s
theorem ZH (s:WS) (l:List Tk) (t:Tk):s.toks (l++[t])=(s.toks l).tok t:=by simp[WS.toks]
theorem WS.fine.toks {s:WS} (h:s.fine) (l:List Tk):(s.toks l).fine:=by
 induction l generalizing s with
 |nil=>exact h
 |cons x l ih=>exact ih (s:=s.tok x) (h.tok x)
def FU (l:List Tk):Bool:=l.all Tk.right
theorem V6 {l:List Tk}:FU l=true↔∀t∈l,t.right=true:=by simp[FU]
def YJ {s:WS} {a b:List Int} (h:s.code=0) (hm:(s.l.length:Int)+(a++b).length≤s.most):(s.put a).put b=⟨s.most,s.l++(a++b),0⟩:=by
 rw[length_append]at hm;have e1:s.put a=⟨s.most,s.l++a,0⟩:=by rw[WS.put_ok h Om];cases s;simp at h;simp[h]
 rw[e1,WS.put_ok rfl (by simp only[length_append];omega)];simp
theorem o6 {s:WS} {t:Tk} (h:s.code=0) (hr:t.right=true) (hm:(s.l.length:Int)+(Fc t).length≤s.most):s.tok t=⟨s.most,s.l++Fc t,0⟩:=by
 unfold WS.tok;unfold Fc at hm ⊢;rw[if_pos hr];split
 ·rename_i q;rw[if_pos q]at hm;exact YJ h hm
 ·rename_i q;rw[if_neg q]at hm;exact YJ h hm
theorem o7 {s:WS} {t:Tk} (h:¬s.code=0):s.tok t=s:=by
 unfold WS.tok;have hp:∀m,s.put m=s:=λm=>WS.put_bad h
 have hf:s.fail 3=s:=by unfold WS.fail;rw[if_neg h]
 rw[hp,hp,hp,hp,hf]
 repeat' split
 all_goals rfl
def gI {s:WS} (h:¬s.code=0) (l:List Tk):s.toks l=s:=by
 induction l with
 |nil=>rfl
 |cons x l ih=>show(s.tok x).toks l=s;rw[o7 h,ih]
def gH:∀(l:List Tk) (s:WS),s.code=0->(s.l.length:Int)+Cb l≤s.most->s.toks l=if FU l=true then⟨s.most,s.l++Fb l,0⟩else⟨s.most,(s.toks l).l,3⟩:=by
 intro l
 induction l with
 |nil=>intro s h _;cases s;simp at h;simp[WS.toks,FU,Fb,h]
 |cons x l ih=>
  intro s h hm;simp only[Cb]at hm;have hx:=St x;have hge:0≤Cb l:=by
   clear ih hm
   induction l with
   |nil=>simp[Cb]
   |cons y l ih=>simp only[Cb];omega
  show(s.tok x).toks l=if FU (x::l)=true then _ else⟨s.most,((s.tok x).toks l).l,3⟩
  cases hr:x.right
  ·have e:s.tok x=⟨s.most,s.l,3⟩:=by
    unfold WS.tok WS.fail;rw[hr,if_neg Si,if_pos h]
   have hb:(WS.mk s.most s.l 3).toks l=⟨s.most,s.l,3⟩:=gI Si l;rw[e,hb,if_neg (by simp[FU,hr])]
  ·rw[o6 h hr Om];have:=ih ⟨s.most,s.l++Fc x,0⟩ rfl (by simp only[length_append];omega);rw[this];have er:FU (x::l)=FU l:=by simp[FU,hr]
   rw[er];split
   ·simp[Fb]
   ·rfl
def Ss (l:List Tk):List Int×Int:=if FU l=true then(Fb l,0)else([],3)
def Qt (l:List Tk) (hn:l.length≤2000000) (hl:∀t∈l,t.lit.length≤2000000):Ag prog 196 [uO l] [] (.tup [Bj .u8 (Ss l).1,iA (Ss l).2]) []:=by
 have hr:=MO hl;have f0:(WS.new (Cb l)).fine:=WS.fine.new Om;refine RM func196 yE ?_
 refine Aa.p (VF l Om hl) (mp ?_).1;refine Aa.n (E6 (Cb l)) (mq @ER ?_).1;refine AA (α:=Nat) (λk=>Ay (.ref 0 0::.any::.any::.any::.any::.any::uO l::iA l.length::iA k::Ay (Ay [.any,.any,.any]))) (λk=>[B5 1 ((WS.new (Cb l)).toks (l.take k)),AQ ((WS.new (Cb l)).toks (l.take k))]) (λk=>k≤l.length) (λk=>l.length-k) 0 Si (Wk.to (by simp[WS.toks]) (by simp[B6])) ?_;intro k hk;refine (mp ?_).1;refine AK (λh=>?_) (λh=>?_)
 ·have hlt:k<l.length:=Sx h
  have g:=Yt l k hlt;have ei:=Am k Om;have hs:((WS.new (Cb l)).toks (l.take k)).tok (l.getD k Ld)=(WS.new (Cb l)).toks (l.take (k+1)):=by rw[Yu l k hlt,ZH]
  refine (mr g @ER ?_).1;(repeat with_reducible refine Sa ?_);refine Aa.u2 (ZJ _ (l.getD k Ld) 0 1 De (f0.toks _)) rfl rfl (mr hs ei ?_).1;exact⟨k+1,hlt,Om,Wk.sel [0,1] Si rfl Si rfl (by simp[IL,wrow_ren,AH]) (by simp[Ch,AD,AH])⟩
 ·have ek:k=l.length:=by simp at h;omega
  subst ek;have hf:=gH l (WS.new (Cb l)) rfl (by rw[WS.new_is hr.1];simp);have hff:=(f0.toks l).len;simp only[go_sem,seval,take_length];refine (AZ ?_).1;refine Aa.r2 (B0 _ 0 1 De hff) rfl rfl (mp ?_).1;cases hq:FU l
  ·rw[hq]at hf;have hc:((WS.new (Cb l)).toks l).code=3:=by rw[hf];rfl
   have hb:((WS.new (Cb l)).toks l).bytes=[]:=by unfold WS.bytes;rw[hc];rfl
   (refine FB yE [] ?_ ?_<;>first|with_reducible rfl|(simp[Ss,hq,hc,hb];done)|rfl)
  ·rw[if_pos hq]at hf;have hc:((WS.new (Cb l)).toks l).code=0:=by rw[hf]
   have hb:((WS.new (Cb l)).toks l).bytes=Fb l:=by unfold WS.bytes;rw[hf,WS.new_is hr.1];simp
   (refine FB yE [] ?_ ?_<;>first|with_reducible rfl|(simp[Ss,hq,hc,hb];done)|rfl)
theorem Sq (l:List Tk) (hn:l.length≤2000000) (hl:∀t∈l,t.lit.length≤2000000):Ct Tryz.prog 196 [uO l] [] (λ_=>.tup [Bj .u8 (Ss l).1,iA (Ss l).2]) [] (λ_=>[]):=(Qt l hn hl).toCt cl cl
def LB (l m:List Int) (hl:A7 l) (hm:A7 m):Ct prog 183 [Bj .u8 l,Bj .u8 m] [] (λ_=>bA (Ca l m)) [] (λ_=>[]):=by
 refine Ag.toCt ?_ cl cl
 refine RN func183 Ac0 ?_;refine (mr @L9 (HG hl hm) ?_).1
 exact FA Ac0 []
abbrev oA (x:O1):AV:=.agg [uA x.st,uA x.bk,bA x.hb,Bj .u8 x.data]
def o1s (l:List O1):List AV:=l.map oA
@[simp] theorem Adz (ρ:Nat->Nat) (l:List O1):(o1s l).map (λx=>x.ren ρ)=o1s l:=by
 simp[o1s,Function.comp_def,AD,AI]
section
variable {P:Program} {S:List Ac} {K:KT} {f:FuncId} {args args₀:List AV}
theorem Ct.u3 {o₀ p₀ q₀ o₁ p₁ q₁ o p q o' p' q':Ac} {r:AV} (h:Ag P f args₀ [o₀,p₀,q₀] r [o₁,p₁,q₁]) (i j k:Nat) (hn:[i,j,k].Nodup) (ha:∀N,args₀.map (λx=>x.ren (AH [i,j,k] N))=args)
 (ho:∀N,o₀.ren (AH [i,j,k] N)=o) (hp:∀N,p₀.ren (AH [i,j,k] N)=p) (hq:∀N,q₀.ren (AH [i,j,k] N)=q) (ho':∀N,o₁.ren (AH [i,j,k] N)=o') (hp':∀N,p₁.ren (AH [i,j,k] N)=p') (hq':∀N,q₁.ren (AH [i,j,k] N)=q')
 (hd:∀x∈[o₀,p₀,q₀],x≠ .dead) (hr:∀ρ,r.ren ρ=r):
 Ct P f args [(i,o),(j,p),(k,q)] (λ_=>r) [(i,o'),(j,p'),(k,q')] (λ_=>[]):=
 Ct.mk h [i,j,k] hn rfl Si hd (λn N=>by simpa using ha N) (λn N=>hr _) (λn N=>by simp[ho,hp,hq]) (.inl λn N=>by simp[ho',hp',hq']) (λn N=>rfl)
theorem Aa.u3 {r:AV} {i j k:Nat} {o p q o' p' q':Ac} (h:Ct P f (args.map Proofs.YtaajkppmibfgfaaGreat.untag) [(i,o),(j,p),(k,q)] (λ_=>r) [(i,o'),(j,p'),(k,q')] (λ_=>[])) (hS:S[i]? =some o) (hS':S[j]? =some p) (hS'':S[k]? =some q)
 (hK:K r [i,j,k] [(i,o'),(j,p'),(k,q')] []):Aa P f args S K:=Aa.of h.untag (by simp[hS,hS',hS'']) Si hK
theorem Ct.u4 {o₀ p₀ q₀ s₀ o₁ p₁ q₁ s₁ o p q s o' p' q' s':Ac} {r:AV} (h:Ag P f args₀ [o₀,p₀,q₀,s₀] r [o₁,p₁,q₁,s₁]) (i j k l:Nat) (hn:[i,j,k,l].Nodup) (ha:∀N,args₀.map (λx=>x.ren (AH [i,j,k,l] N))=args)
 (ho:∀N,o₀.ren (AH [i,j,k,l] N)=o) (hp:∀N,p₀.ren (AH [i,j,k,l] N)=p) (hq:∀N,q₀.ren (AH [i,j,k,l] N)=q) (hs:∀N,s₀.ren (AH [i,j,k,l] N)=s) (ho':∀N,o₁.ren (AH [i,j,k,l] N)=o') (hp':∀N,p₁.ren (AH [i,j,k,l] N)=p') (hq':∀N,q₁.ren (AH [i,j,k,l] N)=q') (hs':∀N,s₁.ren (AH [i,j,k,l] N)=s')
 (hd:∀x∈[o₀,p₀,q₀,s₀],x≠ .dead) (hr:∀ρ,r.ren ρ=r):
 Ct P f args [(i,o),(j,p),(k,q),(l,s)] (λ_=>r) [(i,o'),(j,p'),(k,q'),(l,s')] (λ_=>[]):=
 Ct.mk h [i,j,k,l] hn rfl Si hd (λn N=>by simpa using ha N) (λn N=>hr _) (λn N=>by simp[ho,hp,hq,hs]) (.inl λn N=>by simp[ho',hp',hq',hs']) (λn N=>rfl)
theorem Aa.u4 {r:AV} {i j k l:Nat} {o p q s o' p' q' s':Ac} (h:Ct P f (args.map Proofs.YtaajkppmibfgfaaGreat.untag) [(i,o),(j,p),(k,q),(l,s)] (λ_=>r) [(i,o'),(j,p'),(k,q'),(l,s')] (λ_=>[])) (hS:S[i]? =some o) (hS':S[j]? =some p) (hS'':S[k]? =some q) (hS3:S[l]? =some s)
 (hK:K r [i,j,k,l] [(i,o'),(j,p'),(k,q'),(l,s')] []):Aa P f args S K:=Aa.of h.untag (by simp[hS,hS',hS'',hS3]) Si hK
end
abbrev wA (n:Nat):AV:=.lit (.int .u32 (n:Int))
def Ys (n:Nat) (h:n<4294967296):IntKind.u32.wrap (n:Int)=n:=IntWalk.u32_in _ Om
theorem Yx (c:Nat):Gq c=if c%2=1 then(c/2)^^^2197175160 else c/2:=rfl
def mG (c:Nat) (hc:c<4294967296):Ct prog 194 [wA c] [] (λ_=>wA (Gq c)) [] (λ_=>[]):=by
 refine Ag.toCt ?_ cl cl
 have e1:=Aef c hc;have e2:(c:Int).fdiv (2^min 1 32)=((c/2:Nat):Int):=iI c 1;have e3:=Yn (c/2) 2197175160 Om Om;refine RN func194 yF ?_;refine (mr e1 e2 ?_).1
 by_cases h:c%2=1
 ·have q:(((c%2:Nat):Int)==1)=true:=by rw[h];rfl
  have e:Gq c=(c/2)^^^2197175160:=by rw[Yx,if_pos h]
  have e3':CJ .xor .u32 ((c/2:Nat):Int) 2197175160=((c/2^^^2197175160:Nat):Int):=e3;refine (mt q e1 e2 e3' ?_).1
  exact FE yF [] e
 ·have q:(((c%2:Nat):Int)==1)=false:=by simp only[beq_eq_false_iff_ne,ne_eq];omega
  have e:Gq c=c/2:=by rw[Yx,if_neg h]
  refine (ms q e1 e2 ?_).1
  exact FE yF [] e
def FG (k:Nat):List AV:=(List.range 16).map λi=>wA (if i<k then BE 4 i else 0)
theorem ED (k:Nat):(FG k).length=16:=by simp[FG]
theorem gR (k:Nat):(FG k).set k (wA (BE 4 k))=FG (k+1):=by
 refine ext_getElem? λi=>?_
 rw[getElem?_set];by_cases h:k=i
 ·subst h;rw[if_pos rfl];by_cases hk:k<16
  ·rw[if_pos (by simpa[FG]using hk)];simp[FG,hk]
  ·rw[if_neg (by simpa[FG]using hk)];simp[FG,hk]
 ·rw[if_neg h];by_cases hk:i<16
  ·have:(i<k+1)=(i<k):=by rw[eq_iff_iff];omega
   simp[FG,hk,this]
  ·simp[FG,hk]
@[simp] theorem gS (ρ:Nat->Nat) (k:Nat):(FG k).map (λx=>x.ren ρ)=FG k:=by simp[FG,AD]
def tab:List AV:=FG 16
def Yw (i:Nat) (h:i<16):tab[i]? =some (wA (BE 4 i)):=by
 simp[tab,FG,h]
def UZ (n:Nat):∀c,BE (n+1) c=Gq (BE n c):=by
 intro c;have:=NW n 1 c;rw[this];rfl
theorem Pn (xs:List AV) (o:Nat) (cs:List AV) (h:o+cs.length≤xs.length):Ce xs o cs=xs.take o++cs++xs.drop (o+cs.length):=by
 refine ext_getElem? λj=>?_
 rw[FR xs o cs h,append_assoc,getElem?_append,length_take,show min o xs.length=o by omega];by_cases h1:j<o
 ·rw[if_neg Om,if_pos h1,getElem?_take,if_pos h1]
 ·rw[if_neg h1,getElem?_append];by_cases h2:j-o<cs.length
  ·rw[if_pos Om,if_pos h2]
  ·rw[if_neg Om,if_neg h2,getElem?_drop];congr 1;omega
@[simp] theorem Adw (ρ:Nat->Nat):tab.map (λx=>x.ren ρ)=tab:=gS ρ 16
theorem XY:Ag prog 186 [] [] (.agg tab) []:=by
 refine RM func186 Acy ?_
 refine AA (α:=Nat) (λk=>.ref 0 0::.ref 1 0::.any::.any::iA k::Ay (Ay (Ay [.any,.any]))) (λk=>[.cells (FG 0),.cells (FG k)]) (λk=>k≤16) (λk=>16-k) 0 Si (Wk.to (by rfl) (by simp[B6])) ?_;intro k hk;refine (mp ?_).1;refine AK (λh=>?_) (λh=>?_)
 ·have hlt:k<16:=by simp at h;omega
  have ek:=Am k Om;have ec:=Ys k Om;refine (mq ec ?_).1;refine AA (α:=Nat) (λj=>.ref 0 0::.ref 1 0::iA k::wA (BE j k)::iA k::.any::.any::.any::.any::iA j::Ay (Ay [.any])) (λj=>[.cells (FG 0),.cells (FG k)]) (λj=>j≤4) (λj=>4-j) 0 Si (Wk.to (by rfl) (by simp[B6,BE])) ?_;intro j hj;refine (mp ?_).1;refine AK (λh=>?_) (λh=>?_)
  ·have hj4:j<4:=by simp at h;omega
   have ej:=Am j Om;have hs:=UZ j k;refine (mp ?_).1;refine Aa.p (mG (BE j k) (I8 j Om)) (mq ej ?_).1;exact⟨j+1,Om,Om,Wk.to (by rfl) (by simp[B6,hs])⟩
  ·have ej:j=4:=by simp at h;omega
   subst ej;simp only[go_sem,seval,Int.toNat_natCast,ED,Nat.mul_one,ek,gR];refine (AZ ?_).1;(repeat with_reducible refine Sa ?_);exact⟨k+1,Om,Om,Wk.to Si (by simp[B6])⟩
 ·have ek:k=16:=by simp at h;omega
  subst ek;have etk:List.take 16 (FG 16)=FG 16:=take_of_length_le (by rw[ED];omega);have esp:Ce (FG 0) 0 (FG 16)=FG 16:=by
   rw[Pn _ 0 _ (by rw[ED,ED];omega),ED,drop_eq_nil_of_le (by rw[ED];omega)];simp
  refine (ms @ED etk esp ?_).1;(repeat with_reducible refine Sa ?_)
  (refine FB Acy [] ?_ ?_<;>first|with_reducible rfl|(simp[tab,ED,etk];done)|rfl)
theorem eN:Ct Tryz.prog 186 [] [] (λ_=>.agg tab) [] (λ_=>[]):=(XY).toCt cl cl
def bC (l:List Int) (k:Nat) (h:k<l.length):GS (l.take (k+1))=GS (l.take k)++[(l.getD k 0).toNat]:=by
 rw[FL l k h,Tu];rfl
theorem Qz:tab.length=16:=ED 16
theorem VQ {xs:List AV} (h:xs.length=16):Ce xs 0 tab=tab:=by
 rw[Pn xs 0 tab (by rw[Qz,h];omega),Qz,drop_eq_nil_of_le Om];simp
def Y3 (b:Nat) (hb:b<4294967296):CJ .xor .u32 ((b/16:Nat):Int) ((BE 4 (b%16):Nat):Int)=((BE 4 b:Nat):Int):=by
 have:=I8 4 (c:=b%16) Om;rw[Yn (b/16) (BE 4 (b%16)) Om Om,←U0]
def vE {a b:Nat} (ha:a<4294967296) (hb:b<4294967296):a^^^b<4294967296:=by
 have:a^^^b<2^32:=Nat.xor_lt_two_pow Om Om;omega
theorem mH (c:Nat) (l:List Int) (hc:c<4294967296) (hl:A7 l) (hn:l.length≤140737488355328):Ag prog 165 [wA c,Bj .u8 l] [] (wA (Ku c (GS l))) []:=by
 refine RM func165 Ac7 ?_
 refine Aa.p (eN) (ms @Ab @Qz @VQ ?_).1;(repeat with_reducible refine Sa ?_);refine AA (α:=Nat) (λk=>wA (Ku c (GS (l.take k)))::.any::.any::.any::.any::.ref 0 0::.any::.any::.any::Bj .u8 l::iA l.length::iA k::Az (Ay [.any,.any,.any])) (λ_=>[.cells tab]) (λk=>k≤l.length) (λk=>l.length-k) 0 Si (Wk.to Si (by simp[B6,GS,Ku])) ?_;intro k hk;refine (mp ?_).1;refine AK (λh=>?_) (λh=>?_)
 ·have hlt:k<l.length:=Sx h
  have ek:=Am k Om;have g:=Qq l (k:Int) Om Om;have hx:=hl _ (D5 l k hlt);have hst:=bC l k hlt;have ha:=Rx hc (l:=GS (l.take k)) (λx hx=>QR hl x (by
   simp only[GS,mem_map]at hx ⊢;obtain⟨y,hy,rfl⟩:=hx;exact⟨y,mem_of_mem_take hy,rfl⟩))
  rw[Int.toNat_natCast]at g;obtain⟨x,hxe⟩:∃x:Nat,l.getD k 0=(x:Int):=⟨(l.getD k 0).toNat,Om⟩;rw[hxe]at g hx hst;rw[Int.toNat_natCast]at hst;have he:Ku c (GS (l.take (k+1)))=U4 (Ku c (GS (l.take k))) x:=by rw[hst,eS]
  obtain⟨a,hae⟩:∃a,Ku c (GS (l.take k))=a:=⟨_,rfl⟩;rw[hae]at ha he ⊢;have hb:=vE ha (show x<4294967296 by omega);have e0:=Ys x Om;have e1:=Yn a x ha Om;obtain⟨b,hbe⟩:∃b,a^^^x=b:=⟨_,rfl⟩;rw[hbe]at e1 hb;have s1:(b:Int).fdiv (2^min 4 32)=((b/16:Nat):Int):=iI b 4;have s2:=vB b hb;have s3:=Y3 b hb;have t1:=Yw (b%16) Om;have hd:=I8 4 hb;obtain⟨d,hde⟩:∃d,BE 4 b=d:=⟨_,rfl⟩;rw[hde]at s3 hd;have u1:(d:Int).fdiv (2^min 4 32)=((d/16:Nat):Int):=iI d 4;have u2:=vB d hd;have u3:=Y3 d hd;have t2:=Yw (d%16) Om;have hf:BE 4 d=Ku c (GS (l.take (k+1))):=by rw[he,X1,hbe,hde]
  rw[hf]at u3;simp only[go_sem,seval,g,Ab,Int.toNat_natCast,e0,e1,s1,s2,s3,t1,u1,u2,u3,t2,ek,Nat.mul_one];refine (AZ ?_).1;(repeat with_reducible refine Sa ?_);exact⟨k+1,Om,Om,Wk.to Si (by simp[B6])⟩
 ·have ek:k=l.length:=by simp at h;omega
  subst ek;refine (mp ?_).1
  (refine FB Ac7 [] ?_ ?_<;>first|with_reducible rfl|(simp[take_length];done)|rfl)
theorem tF (c:Nat) (l:List Int) (hc:c<4294967296) (hl:A7 l) (hn:l.length≤140737488355328):Ct Tryz.prog 165 [wA c,Bj .u8 l] [] (λ_=>wA (Ku c (GS l))) [] (λ_=>[]):=(mH c l hc hl hn).toCt cl cl
def eQ :Ct prog 166 [] [] (λ_=>wA 4294967295) [] (λ_=>[]):=by
 refine Ag.toCt ?_ cl cl
 refine RM func166 Ac6 ?_
 exact FA Ac6 []
def tE (c:Nat) (hc:c<4294967296):Ct prog 164 [wA c] [] (λ_=>.lit (.int .u32 (4294967295-(c:Int)))) [] (λ_=>[]):=by
 refine Ag.toCt ?_ cl cl
 have e:CJ .xor .u32 (if IntKind.u32.signed then-1 else IntKind.u32.max) (c:Int)=4294967295-(c:Int):=Aa9 c hc;refine RN func164 Ac8 ?_;refine (mq e ?_).1
 exact FA Ac8 []
abbrev Ad1 (l:List Int):AV:=.lit (.int .u32 (Bq l))
def HF (l:List Int) (hl:A7 l) (hn:l.length≤140737488355328):Ct prog 127 [Bj .u8 l] [] (λ_=>Ad1 l) [] (λ_=>[]):=by
 refine Ag.toCt ?_ cl cl
 have h:=Rx (c:=4294967295) Om (QR hl);refine RM func127 Adp ?_
 refine Cp (eQ) ?_;refine Cp (tF 4294967295 l Om hl hn) ?_;refine Cp (tE (Ku 4294967295 (GS l)) h) ?_
 exact FK Adp [] (by simp[Bq])
def Hi {l:List Int} (hl:A7 l):IntKind.u64.wrap (Bq l)=Bq l:=by
 have:=Ek hl;exact u64_in _ Om
def JH (n:Int) (n1:n≤4611686018427387904):Ct prog 137 [iA n] [] (λ_=>iA (Dy n)) [] (λ_=>[]):=by
 refine Ag.toCt ?_ cl cl
 have hv:=(A4 (max n 0)).2;have e:IntKind.i64.wrap (((vb (max n 0)).length:Int)+max n 0+4)=Dy n:=i64_in _ Om;refine RM func137 Adi ?_
 refine Aa.p (Jc n n1) (mq e ?_).1;exact FA Adi []
def Ls (m:Int):Ct prog 175 [iA m] [] (λ_=>iA (CN m)) [] (λ_=>[]):=by
 refine Ag.toCt ?_ cl cl
 have e:=mn m 2097152;refine RN func175 Ac3 ?_;refine (mq e ?_).1
 exact FK Ac3 [] (by simp[CN])
def WS.frame (s:WS) (p:List Int):WS:=if 2097152<(p.length:Int)then s.fail 2 else((s.put (vb p.length)).put p).put (Aj 4 (Bq p))
theorem WS.fine.frame {s:WS} (h:s.fine) (p:List Int):(s.frame p).fine:=by
 unfold WS.frame;split
 ·exact h.fail 2
 ·exact((h.put _).put _).put _
def Xu (s:WS) (p:List Int) (hs:s.fine) (hp:A7 p) (hn:p.length≤140737488355328):Ag prog 138 [.ref 0 0,Bj .u8 p] [B5 1 s,AQ s] (.tup []) [B5 1 (s.frame p),AQ (s.frame p)]:=by
 have hr:=Ek hp;have e:=Hi hp;refine RN func138 yV ?_;refine (mq @Ab ?_).1
 by_cases h:2097152<(p.length:Int)
 ·have q:decide (2097152<(p.length:Int))=true:=Sx h
  refine (mq q ?_).1;refine Aa.u2 (Cq s 2 0 1 De) rfl rfl (mp ?_).1
  exact FK yV [0,1] (by simp[WS.frame,h])
 ·have q:decide (2097152<(p.length:Int))=false:=Sx h
  have hf1:((s.put (vb p.length)).put p).fine:=(hs.put _).put _;refine (mq q ?_).1;refine Aa.u2 (Vd s p 0 1 De hs hn) rfl rfl (mp ?_).1;refine Aa.p (HF p hp hn) (mq e ?_).1;refine Aa.u2 (HJ ((s.put (vb p.length)).put p) (Bq p) 4 0 1 De hr.1 Om hf1) rfl rfl (mp ?_).1
  exact FK yV [0,1] (by simp[WS.frame,h,show(min (max (4:Int) 0) 8).toNat=4 from rfl])
def PX (s:WS) (p:List Int) (i j:Nat) (h:i≠j) (hs:s.fine) (hp:A7 p) (hn:p.length≤140737488355328):Ct prog 138 [.ref i 0,Bj .u8 p] [(i,B5 j s),(j,AQ s)] (λ_=>.tup []) [(i,B5 j (s.frame p)),(j,AQ (s.frame p))] (λ_=>[]):=Ct.u2 (Xu s p hs hp hn) i j h cl cl cl cl cl (Bu _ _) (Bi _) Dl
def PW {s:WS} {p:List Int} (h:s.code=0) (hp:p.length≤2097152) (hm:(s.l.length:Int)+(Ad p).length≤s.most):s.frame p=⟨s.most,s.l++Ad p,0⟩:=by
 have h4:=Bo 4 (Bq p);rw[E1]at hm;unfold Dd at hm;rw[length_append]at hm;unfold WS.frame;rw[if_neg Om];have e1:s.put (vb p.length)=⟨s.most,s.l++vb p.length,0⟩:=by rw[WS.put_ok h Om];cases s;simp at h;simp[h]
 have e2:(WS.mk s.most (s.l++vb p.length) 0).put p=⟨s.most,s.l++vb p.length++p,0⟩:=by rw[WS.put_ok rfl (by simp only[length_append];omega)]
 have e3:(WS.mk s.most (s.l++vb p.length++p) 0).put (Aj 4 (Bq p))=⟨s.most,s.l++vb p.length++p++Aj 4 (Bq p),0⟩:=by rw[WS.put_ok rfl (by simp only[length_append];omega)]
 rw[e1,e2,e3];simp[Ad,Dd]
def Uo (p:List Int) (hp:A7 p) (hn:p.length≤2097152):Ct prog 86 [Bj .u8 p] [] (λ_=>.tup [Bj .u8 (Ad p),iA 0]) [] (λ_=>[]):=by
 refine Ag.toCt ?_ cl cl
 have hsz:=SI p.length;have hfr:=H5 (p:=p);have f0:(WS.new (Dy p.length)).fine:=WS.fine.new Om;have hf:=PW (s:=WS.new (Dy p.length)) (p:=p) rfl hn (by rw[WS.new_is Om];simp;omega);rw[WS.new_is Om]at hf;refine RN func86 b86 ?_;refine (mq @Ab ?_).1
 refine Cp (JH p.length Om) ?_;refine Aa.n (E6 (Dy p.length)) (mp ?_).1;refine Aa.u2 (PX (WS.new (Dy p.length)) p _ _ De f0 hp Om) rfl rfl (mp ?_).1;have hfin:=(f0.frame p).len;refine Aa.r2 (B0 ((WS.new (Dy p.length)).frame p) _ _ De hfin) rfl rfl (mp ?_).1;rw[WS.new_is Om,hf]
 exact FK b86 [] (by simp[WS.bytes])
def ND (s:RS) (b:List Int) (x a:Int) (hb:A7 b) (hn:b.length≤140737488355328):Ag prog 179 [Bj .u8 b,uA x,.fn 101 [.ref 0 0] [],iA a] [A1 s] (.tup []) [A1 (if x=Bq b then s else s.fail 6 a)]:=by
 have e:=Hi hb;refine RM func179 yK ?_
 refine Aa.p (HF b hb hn) (mq e ?_).1;by_cases h:x=Bq b
 ·have q:(Bq b != x)=false:=by simp[h]
  refine (mq q ?_).1
  exact FE yK [0] h
 ·have q:(Bq b != x)=true:=by simp;exactλh'=>h h'.symm
  refine (mq q ?_).1;refine Cu (Ar s 6 a 0) rfl ?_
  exact FE yK [0] h
def OM (s:RS) (b:List Int) (x a:Int) (i:Nat) (hb:A7 b) (hn:b.length≤140737488355328):Ct prog 179 [Bj .u8 b,uA x,.fn 101 [.ref i 0] [],iA a] [(i,A1 s)] (λ_=>.tup []) [(i,A1 (if x=Bq b then s else s.fail 6 a))] (λ_=>[]):=
 Ct.u1 (ND s b x a hb hn) i cl (λρ=>AG ρ _) (λρ=>AG ρ _) (rdr_dead s) Dl
def Um (s:RS) (m:Int) (hs:An s) (m1:m<9223372036854775808):Ag prog 154 [.ref 0 0,iA m] [A1 s] (Bj .u8 (s.frame m).2) [A1 ((s.frame m).1)]:=by
 have⟨a1,a2⟩:=RS.ok.blob hs (CN m);have hsh:=N4 hs (CN m);have hlen:=hs.len;refine RM func154 tZ ?_
 refine Cp (Ls m) ?_;refine Aa.u1 (Qf s (CN m) _ (by unfold CN;omega) hs) rfl ?_;refine (mp ?_).1;generalize hB:s.blob (CN m)=B at*;have⟨t,p⟩:=B;simp only at a1 a2 hsh;have e:s.frame m=if(t.fixed 4).1.code=0 then(if(t.fixed 4).2=Bq p then((t.fixed 4).1,p)else((t.fixed 4).1.fail 6 t.at_,[]))else((t.fixed 4).1,[]):=by
  unfold RS.frame;rw[hB]
 refine Cr (AP t _) rfl ?_;refine Cu (DF t 4 _ a1) rfl ?_;refine Cu (OM (t.fixed 4).1 p (t.fixed 4).2 t.at_ _ hsh.2 Om) rfl ?_;by_cases hc:(t.fixed 4).1.code=0
 ·rw[if_pos hc]at e;by_cases hx:(t.fixed 4).2=Bq p
  ·rw[if_pos hx]at e;rw[if_pos hx];refine Aa.r1 (Ah (t.fixed 4).1 _) rfl (mq (A5 hc) ?_).1
   exact FE tZ [0] e
  ·rw[if_neg hx]at e;rw[if_neg hx];have hb:¬((t.fixed 4).1.fail 6 t.at_).code=0:=BR _ _ hc De;refine Aa.r1 (Ah ((t.fixed 4).1.fail 6 t.at_) _) rfl (mq (AB hb) ?_).1;refine UT 4 ?_
   exact FE tZ [0] e
 ·rw[if_neg hc]at e;have hk:((if(t.fixed 4).2=Bq p then(t.fixed 4).1 else(t.fixed 4).1.fail 6 t.at_))=(t.fixed 4).1:=by
   split
   ·rfl
   ·unfold RS.fail;rw[if_neg hc]
  rw[hk];refine Aa.r1 (Ah (t.fixed 4).1 _) rfl (mq (AB hc) ?_).1;refine UT 4 ?_
  exact FE tZ [0] e
def Xt (s:RS) (m:Int) (i:Nat) (hs:An s) (m1:m<9223372036854775808):Ct prog 154 [.ref i 0,iA m] [(i,A1 s)] (λ_=>Bj .u8 (s.frame m).2) [(i,A1 ((s.frame m).1))] (λ_=>[]):=Ct.u1 (Um s m hs m1) i cl (λρ=>AG ρ _) (λρ=>AG ρ _) (rdr_dead _) cl
def GY (b:List Int) (m:Int) (hb:A7 b) (hn:b.length≤140737488355328) (m1:m<9223372036854775808):Ct prog 105 [Bj .u8 b,iA m] [] (λ_=>.tup [Bj .u8 (BI b m).1,iA (BI b m).2.1,Fk (BI b m).2.2]) [] (λ_=>[]):=by
 refine Ag.toCt ?_ cl cl
 have hok:An (RS.new b):=An.new hb hn;refine RM func105 Aac ?_
 refine Aa.n (C9 b) (mp ?_).1;refine Cu (Xt (RS.new b) m _ hok m1) rfl ?_;refine Cr (Bp ((RS.new b).frame m).1 _) rfl ?_;by_cases hc:((RS.new b).frame m).1.code=0
 ·have e:BI b m=(((RS.new b).frame m).2,((RS.new b).frame m).1.at_,(0,0)):=by unfold BI;rw[if_pos hc]
  have q:(((RS.new b).frame m).1.code==0)=true:=Sx hc
  refine Aa.p (Ap _ _) (mq q ?_).1;refine Cr (AP ((RS.new b).frame m).1 _) rfl ?_
  exact FE Aac [] e
 ·have e:BI b m=([],0,(((RS.new b).frame m).1.code,((RS.new b).frame m).1.fat)):=by unfold BI;rw[if_neg hc]
  have q:(((RS.new b).frame m).1.code==0)=false:=Sx hc
  refine Aa.p (Ap _ _) (mq q ?_).1;refine UT 4 ?_
  exact FE Aac [] e
def Ul (b:List Int) (m:Int) (hb:A7 b) (hn:b.length≤140737488355328):Ct prog 147 [Bj .u8 b,iA m] [] (λ_=>.tup [iA (Ed b m),bA (D7 b m)]) [] (λ_=>[]):=by
 refine Ag.toCt ?_ cl cl
 have hok:An (RS.new b):=An.new hb hn;have hm:=WE m;have hr:=Er (s:=RS.new b) (m:=CN m) hb;refine RM func147 yU ?_
 refine Aa.n (C9 b) (mp ?_).1;refine Cp (Ls m) ?_;refine Cu (AT (RS.new b) (CN m) _ Om hok.ok hok.bys) rfl ?_;by_cases hc:((RS.new b).int (CN m)).1.code=0
 ·have e:Ed b m=Dy ((RS.new b).int (CN m)).2:=by unfold Ed;rw[if_pos hc]
  have e2:D7 b m=true:=by unfold D7;rw[hc];rfl
  refine Aa.r1 (Ah ((RS.new b).int (CN m)).1 _) rfl (mq (A5 hc) ?_).1;refine Cp (JH ((RS.new b).int (CN m)).2 Om) ?_
  exact FF yU [] e e2
 ·have e:Ed b m=0:=by unfold Ed;rw[if_neg hc]
  have e2:D7 b m=false:=by unfold D7;simpa using hc
  refine Aa.r1 (Ah ((RS.new b).int (CN m)).1 _) rfl (mq (AB hc) ?_).1
  exact FF yU [] e e2
end Go.Proofs.YtaajkppmibfgfaaGreat
