/- Lemmas for TopLog, part 5. -/
import Derived.Test.YtaajkppmibfgfaaGreatB2
import Derived.Test.YtaajkppmibfgfaaGreatB1
import Derived.Test.YtaajkppmibfgfaaGreatB3
import Derived.Test.YtaajkppmibfgfaaGreatB4
set_option linter.all false
set_option maxRecDepth 100000
set_option maxHeartbeats 4000000
universe u v
namespace Go.Proofs.YtaajkppmibfgfaaGreat
open Go.RowKit List
section
open Go.RowKit Go.ChangeShapes Go.WideShapes Go.ChangeAt
inductive Sh where
 |bool
 |int (k:IntKind)
 |sl (agg:Bool) (n:Nat) (e:Sh)
 |nil
 |pair (a b:Sh)
def Sb (agg:Bool) (y:List AV):AV:=if agg then .agg y else y.headD .any
def Sh.Ty:Sh->List AV->Prop
 | .bool,xs=>∃b,xs=[.lit (.bool b)]
 | .int k,xs=>∃n,xs=[.lit (.int k n)]∧(Lit.int k n).wf=true
 | .sl g n e,xs=>∃ys:List (List AV),xs=[.sl .none n (ys.map (Sb g))]∧∀y∈ys,y.length=n∧e.Ty y
 | .nil,xs=>xs=[]
 | .pair a b,xs=>∃ys zs,xs=ys++zs∧a.Ty ys∧b.Ty zs
def Sh.flat:Sh->Bool
 | .int _=>true
 | .sl .. =>true
 |_=>false
section
variable {P:Program}
def iJ (P:Program) (sub:TypeId->Option Sh):List Field->Nat->Nat->Option Sh
 |[],off,tot=>if off=tot then some .nil else none
 |f::fs,off,tot=>if f.offset=off then(sub f.type).bind λa=>(iJ P sub fs (off+P.cellsOf f.type) tot).map (Sh.pair a)else none
def Q6 (P:Program) (t:TypeId):Bool:=match P.underlying t with|some (.struct _)=>true|_=>false
def Oq (P:Program):Nat->TypeId->Option Sh
 |0,_=>none
 |f+1,t=>match P.underlying t with
  |some .bool=>some .bool
  |some (.int k)=>some (.int k)
  |some (.slice e)=>match Oq P f e with
   |some s=>if 1≤P.cellsOf e∧(Q6 P e=true∨s.flat=true∧P.cellsOf e=1)then some (.sl (Q6 P e) (P.cellsOf e) s)else none
   |none=>none
  |some (.struct fs)=>iJ P (Oq P f) fs.toList 0 (P.cellsOf t)
  |_=>none
variable {H:Type} {enc:TypeId×Value->H} {W:World} {sp:Nat->Bool} {held:Bool}
def Xv {s:Sh} (hf:s.flat=true) {y:List AV} (h:s.Ty y):∃x,y=[x]∧x.cells=[x]:=by
 cases s with
 |bool=>cases hf
 |int k=>obtain⟨n,rfl,_⟩:=h;exact⟨_,rfl,rfl⟩
 |sl g n e=>obtain⟨ys,rfl,_⟩:=h;exact⟨_,rfl,rfl⟩
 |nil=>cases hf
 |pair a b=>cases hf
theorem P7 {g:Bool} {s:Sh} (hg:g=true∨s.flat=true) {y:List AV} (h:s.Ty y):(Sb g y).cells=y:=by
 cases g with
 |true=>simp[Sb,AV.cells]
 |false=>
  rcases hg with hg|hg
  ·cases hg
  ·obtain⟨x,rfl,hx⟩:=Xv hg h;simpa[Sb]using hx
def QD {n:Nat} {sub:TypeId->Option Sh}
 (ih:∀(t:TypeId) (s:Sh) (cs:List Value) (x:DataW H×List MemPlace),sub t=some s->DataW.trod enc P W 0 sp held n t cs=some x->∃xs,BT (G0 W) xs cs∧(∀v∈cs,v.oneCell'=true)∧s.Ty xs):
 ∀(fs:List Field) (off tot:Nat) (s:Sh) (cs:List Value) (zs:List (DataW H×List MemPlace)),iJ P sub fs off tot=some s->cs.length=tot->zs.length=fs.length->
  (∀(i:Nat) (f:Field),fs[i]? =some f->DataW.trod enc P W 0 sp held n f.type ((cs.drop f.offset).take (P.cellsOf f.type))=zs[i]?)->
  ∃xs,BT (G0 W) xs (cs.drop off)∧(∀v∈cs.drop off,v.oneCell'=true)∧s.Ty xs:=by
 intro fs
 induction fs with
 |nil=>
  intro off tot s cs zs hs hl _ _;simp only[iJ]at hs;split at hs
  ·rename_i ho;injection hs with hs;subst hs;have:cs.drop off=[]:=drop_eq_nil_of_le Om;rw[this];exact⟨[],BT.nil _,Si,rfl⟩
  ·cases hs
 |cons f fs ihf=>
  intro off tot s cs zs hs hl hz h;simp only[iJ]at hs;split at hs
  ·rename_i ho;cases ha:sub f.type with
   |none=>simp[ha]at hs
   |some a=>
    simp only[ha,Option.bind_some,Option.map_eq_some_iff]at hs;obtain⟨b,hb,rfl⟩:=hs;cases zs with
    |nil=>simp at hz
    |cons z zs=>
     have h0:=h 0 f rfl;simp only[getElem?_cons_zero]at h0;have⟨xs,r1,r2,r3⟩:=ih _ a _ z ha h0;have⟨ys,q1,q2,q3⟩:=ihf (off+P.cellsOf f.type) tot b cs zs hb hl (by simpa using hz) (λi g hg=>by simpa using h (i+1) g (by simpa using hg));rw[ho]at r1 r2;have e:cs.drop off=(cs.drop off).take (P.cellsOf f.type)++cs.drop (off+P.cellsOf f.type):=by
      rw[←drop_drop,take_append_drop]
     rw[e];exact⟨xs++ys,r1.append q1,λv hv=>by rcases mem_append.1 hv with hv|hv;exact r2 v hv;exact q2 v hv,xs,ys,rfl,r3,q3⟩
  ·cases hs
def eW {a:Addr} {n:Nat} {cs:List Value} (h:W.cells? 0 a n=some cs):cs.length=n∧∀i,i<n->W.cell? (a.add i)=cs[i]? :=by
 have⟨h1,h2,h3⟩:=World.cells?_some h;exact⟨h2,h3⟩
def ZZ:∀(f:Nat) (t:TypeId) (s:Sh) (n:Nat) (cs:List Value) (x:DataW H×List MemPlace),Oq P f t=some s->DataW.trod enc P W 0 sp held n t cs=some x->
 ∃xs,BT (G0 W) xs cs∧(∀v∈cs,v.oneCell'=true)∧s.Ty xs:=by
 intro f
 induction f with
 |zero=>intro t s n cs x h;simp[Oq]at h
 |succ f ih=>
  intro t s n cs x hs hd;simp only[Oq]at hs;cases hu:P.underlying t with
  |none=>simp[hu]at hs
  |some u=>
   rw[hu]at hs;cases u with
   |bool=>
    injection hs with hs;subst hs;obtain⟨m,rfl,_⟩:=DataW.trod_bool hu hd;exact⟨[.lit (.bool m)],(BT.nil _).cons (.lit _),by simp[Value.oneCell'],m,rfl⟩
   |int k=>
    injection hs with hs;subst hs;obtain⟨m,rfl,_,hw⟩:=DataW.trod_int hu hd;exact⟨[.lit (.int k m)],(BT.nil _).cons (.lit _),by simp[Value.oneCell'],m,rfl,hw⟩
   |struct fs=>
    have⟨xs,m,_,_,hl,hn,hf⟩:=DataW.trod_struct hu hd;have:=QD (sub:=Oq P f) (n:=m) (λt s cs x h1 h2=>ih t s m cs x h1 h2) fs.toList 0 (P.cellsOf t) s cs xs hs hl (by simpa using hn) (λi f hi=>hf i f (by simpa using hi));simpa using this
   |slice e=>
    simp only at hs;cases he:Oq P f e with
    |none=>simp[he]at hs
    |some se=>
     rw[he]at hs;simp only at hs;split at hs
     ·rename_i hc;injection hs with hs;subst hs;have⟨hc1,hc2⟩:=hc;have hg:Q6 P e=true∨se.flat=true:=by rcases hc2 with h|h;exact .inl h;exact .inr h.1
      rcases DataW.trod_slice hu hd with⟨rfl,_⟩|⟨a,len,cap,elems,rest,m,_,rfl,_,_,hle,_,hlen,hel,_,_⟩
      ·refine⟨[.sl .none (P.cellsOf e) []],(BT.nil _).cons ?_,by simp[Value.oneCell'],[],rfl,Si⟩;exact .sl (A:=none) (c:=0) (b:=0) (o:=0) (λ_ _=>undef) Si Si Si Si Si Si trivial
      ·have each:∀i,i<len->∃(ce:List Value) (y:List AV),ce.length=P.cellsOf e∧(∀j,j<P.cellsOf e->W.cell? ((a.add (i*P.cellsOf e)).add j)=ce[j]?)∧BT (G0 W) y ce∧(∀v∈ce,v.oneCell'=true)∧se.Ty y:=by
        intro i hi;have h1:=hel i hi;have h2:elems[i]? =some elems[i]:=by simp
        rw[h2,Option.bind_eq_some_iff]at h1;have⟨ce,h3,h4⟩:=h1;have⟨k1,k2⟩:=eW h3;have⟨y,y1,y2,y3⟩:=ih e se m ce _ he h4;exact⟨ce,y,k1,k2,y1,y2,y3⟩
       have pick:∃(cf:Nat->List Value) (yf:Nat->List AV),∀i,i<len->(cf i).length=P.cellsOf e∧(∀j,j<P.cellsOf e->W.cell? ((a.add (i*P.cellsOf e)).add j)=(cf i)[j]?)∧BT (G0 W) (yf i) (cf i)∧(∀v∈cf i,v.oneCell'=true)∧se.Ty (yf i):=by
        refine⟨λi=>if h:i<len then(each i h).choose else[],λi=>if h:i<len then(each i h).choose_spec.choose else[],λi hi=>?_⟩;simp only[dif_pos hi];exact(each i hi).choose_spec.choose_spec
       have⟨cf,yf,hall⟩:=pick;have hyl:∀i,i<len->(yf i).length=P.cellsOf e:=λi hi=>by
        have⟨p1,_,p3,_⟩:=hall i hi;rw[p3.1,p1]
       have hlenY:((List.range len).map yf).length=len:=by simp
       have hty:∀y∈(List.range len).map yf,y.length=P.cellsOf e∧se.Ty y:=by
        intro y hy;simp only[mem_map,mem_range]at hy;obtain⟨i,hi,rfl⟩:=hy;exact⟨hyl i hi,(hall i hi).2.2.2.2⟩
       refine⟨[.sl .none (P.cellsOf e) (((List.range len).map yf).map (Sb (Q6 P e)))],(BT.nil _).cons ?_,by simp[Value.oneCell'],(List.range len).map yf,rfl,hty⟩;have hL:(((List.range len).map yf).map (Sb (Q6 P e))).length=len:=by simp
       have hget:∀i x,(((List.range len).map yf).map (Sb (Q6 P e)))[i]? =some x->i<len∧x=Sb (Q6 P e) (yf i):=by
        intro i x hx;have hi:i<len:=by
         rcases Nat.lt_or_ge i len with h|h
         ·exact h
         ·rw[getElem?_eq_none (by simpa using h)]at hx;cases hx
        simp[hi]at hx;exact⟨hi,hx.symm⟩
       have hspot:0<len->a.spot=none:=by
        intro h0;have⟨p1,p2,_⟩:=hall 0 h0;have:=p2 0 Om;rw[getElem?_eq_getElem Om]at this;have:=Pm this;simpa[Addr.add]using this
       have hcell:∀i j,i<len->j<P.cellsOf e->W.cell? ⟨a.block,a.off+i*P.cellsOf e+j,none⟩=(cf i)[j]? :=by
        intro i j hi hj;have hs:=hspot Om;have⟨_,p2,_⟩:=hall i hi;rw[←p2 j hj];have⟨b,o,s⟩:=a;simp only at hs;subst hs;rw[A_,A_]
       have main:Bg (G0 W) (.sl .none (P.cellsOf e) (((List.range len).map yf).map (Sb (Q6 P e)))) (.slice (some a) (((List.range len).map yf).map (Sb (Q6 P e))).length cap):=by
        refine .sl (b:=a.block) (o:=a.off) (λi j=>(cf i).getD j undef) (by rw[hL];exact hle) (λh=>?_) (λi x hx=>?_) (λi j hi hj=>?_) (λi j hi hj=>?_) (λi j x y hx hy=>?_) trivial
        ·have hs:=hspot (by rw[hL]at h;exact h);have⟨b,o,s⟩:=a;simp only at hs;subst hs;rfl
        ·obtain⟨hi,rfl⟩:=hget i x hx;rw[P7 hg (hall i hi).2.2.2.2];exact hyl i hi
        ·rw[hL]at hi;have hc:=hcell i j hi hj;have p1:=(hall i hi).1;rw[getElem?_eq_getElem Om]at hc;have e2:(cf i).getD j undef=(cf i)[j]'Om:=by simp[show j<(cf i).length by omega]
         rw[e2];exact hc
        ·rw[hL]at hi;have p1:=(hall i hi).1;have e2:(cf i).getD j undef=(cf i)[j]'Om:=by simp[show j<(cf i).length by omega]
         rw[e2];exact(hall i hi).2.2.2.1 _ (getElem_mem _)
        ·obtain⟨hi,rfl⟩:=hget i x hx;rw[P7 hg (hall i hi).2.2.2.2]at hy;have p3:=(hall i hi).2.2.1;have hj:j<(yf i).length:=(Ge hy);have hj2:j<(cf i).length:=by rw[←p3.1];exact hj
         have e2:(cf i).getD j undef=(cf i)[j]:=by simp[hj2]
         rw[e2];exact p3.2 j y _ hy (getElem?_eq_getElem hj2)
       rw[hL]at main;exact main
     ·cases hs
   |_=>simp at hs
def qR {r:Reach} {b0:Nat} {t:TypeId} {s:Sh} {v:Value} {d:DataW H} {ps:List MemPlace} (f:Nat) (hs:Oq P f t=some s) (hval:Value.okWide P W r b0 t v) (hd:DataW.Trod enc P W 0 sp held t v d ps):
 ∃xs,BT (G0 W) xs v.cells.toList∧(∀u∈v.cells.toList,u.oneCell'=true)∧s.Ty xs:=by
 have⟨fuel,hf⟩:=hd;exact ZZ f t s fuel _ _ hs hf
def aV {r:Reach} {b0:Nat} {t:TypeId} {fs:Array Field} {s:Sh} {v:Value} {d:DataW H} {ps:List MemPlace} (f:Nat) (hs:Oq P f t=some s) (ht:P.underlying t=some (.struct fs)) (hval:Value.okWide P W r b0 t v) (hd:DataW.Trod enc P W 0 sp held t v d ps):
 ∃xs,Bg (G0 W) (.agg xs) v∧s.Ty xs:=by
 have⟨xs,h1,h2,h3⟩:=qR f hs hval hd;obtain⟨cs,rfl,_⟩:=okWide_struct ht hval;refine⟨xs,.agg (by simpa[Value.cells]using h1.1) (λj u hu=>h2 u ?_) (λj x u hx hu=>h1.2 j x u hx (by simpa[Value.cells]using hu)),h3⟩;simp only[Value.cells];exact Array.mem_toList_iff.2 (Array.mem_of_getElem? hu)
def Me {β:Type} {A:List AV->Prop} {g:β->List AV} {ok:β->Prop}:∀{ys:List (List AV)},(∀y∈ys,A y)->(∀y,A y->∃m,y=g m∧ok m)->∃l:List β,ys=l.map g∧∀m∈l,ok m:=by
 intro ys
 induction ys with
 |nil=>intro _ _;exact⟨[],rfl,Si⟩
 |cons y ys ih=>
  intro h hg;obtain⟨l,rfl,hl⟩:=ih (λy hy=>h y (mem_cons_of_mem _ hy)) hg;obtain⟨m,rfl,hm⟩:=hg y (h y (mem_cons_self ..));exact⟨m::l,rfl,λx hx=>by rcases mem_cons.1 hx with rfl|hx;exact hm;exact hl x hx⟩
end
end
def Zh {a b:List Int} (ha:A7 a) (hb:A7 b):A7 (a++b):=λx hx=>by rcases mem_append.1 hx with hx|hx;exact ha x hx;exact hb x hx
def dA (p:List Int):(Ad p).length≤p.length+14∧p.length+5≤(Ad p).length:=by
 rw[E1];unfold Dd;rw[length_append];have:=A4 (p.length:Int);omega
def bss (l:List (List Int)):List AV:=l.map (Bj .u8)
@[simp] theorem Ad0 (ρ:Nat->Nat) (l:List (List Int)):(bss l).map (λx=>x.ren ρ)=bss l:=by simp[bss,AD]
def Byss (l:List (List Int)):Prop:=∀b∈l,A7 b
def wN (l:List (List Int)) (k:Nat) (h:k<l.length):l.getD k []∈l:=by simp[h]
structure oC (l:List (List Int)) (i:Nat) (all pl:List Int):Prop where
 len:pl.length=i
 bys:A7 all
 le:all.length≤110*i
 at_:∀j,j<i->(l.getD j []).length≤60∧0≤pl.getD j 0∧(pl.getD j 0).toNat+(Ad (l.getD j [])).length≤all.length∧(all.drop (pl.getD j 0).toNat).take (Ad (l.getD j [])).length=Ad (l.getD j [])
 last:(if i=0 then 0 else(pl.getD (i-1) 0).toNat+(Ad (l.getD (i-1) [])).length)=all.length
theorem oC.next {l:List (List Int)} {i:Nat} {all pl x:List Int} (hl:Byss l) (h:oC l i all pl) (hi:i<l.length) (hx:A7 x) (h1:x.length≤30) (h2:(l.getD i []).length≤60):
 oC l (i+1) (all++x++Ad (l.getD i [])) (pl++[((all++x).length:Int)]):=by
 have hf:=dA (l.getD i []);have hb:=DD (hl _ (wN l i hi)) Om;have⟨a1,a2,a3,a4,a5⟩:=h;have hlast:(pl++[((all++x).length:Int)]).getD i 0=((all++x).length:Int):=by
  simp[←a1]
 refine⟨by simp[a1],Zh (Zh a2 hx) hb,by simp only[length_append];omega,λj hj=>?_,?_⟩
 ·by_cases h3:j<i
  ·have⟨b1,b2,b3,b4⟩:=a4 j h3;have e:(pl++[((all++x).length:Int)]).getD j 0=pl.getD j 0:=by
    simp[getElem?_append,a1,h3]
   rw[e];refine⟨b1,b2,by simp only[length_append];omega,?_⟩;rw[append_assoc,drop_append_of_le_length Om,take_append_of_le_length (by rw[length_drop];omega)];exact b4
  ·obtain rfl:j=i:=Om
   rw[hlast,Int.toNat_natCast];refine⟨h2,Om,by simp only[length_append];omega,?_⟩;rw[drop_left,take_length]
 ·rw[if_neg Om,Nat.add_sub_cancel,hlast,Int.toNat_natCast];simp only[length_append]
theorem oC.whole {l:List (List Int)} {i:Nat} {all pl:List Int} (hl:Byss l) (h:oC l i all pl) (hi:i=l.length) {j:Nat} (hj:j<i):Ed (all.drop (pl.getD j 0).toNat) 60=(Ad (l.getD j [])).length:=by
 have⟨b1,b2,b3,b4⟩:=h.at_ j hj;have⟨p,hp⟩:=Ex (l.getD j []);rw[hp]at b1 b3 b4 ⊢;have e:all.drop (pl.getD j 0).toNat=vb (p.length:Int)++((p++Aj 4 (Bq p))++(all.drop (pl.getD j 0).toNat).drop (Ad p).length):=by
  conv=>lhs;rw[←take_append_drop (Ad p).length (all.drop (pl.getD j 0).toNat),b4]
  unfold Ad Dd;simp only[append_assoc]
 have hm:CN 60=60:=by decide
 have hi:=Ec (s:=RS.new (all.drop (pl.getD j 0).toNat)) (x:=(p.length:Int)) (m:=CN 60) rfl Om (by rw[hm];omega) Om ((BB _).trans e);unfold Ed;rw[hi];show(if(0:Int)=0 then Dy (p.length:Int)else 0)=_;rw[if_pos rfl,H5]
def Sl {k:IntKind} {ys:List (List AV)} (h:∀y∈ys,y.length=1∧(Sh.int k).Ty y):∃l:List Int,ys.map (Sb false)=AU k l∧∀n∈l,(Lit.int k n).wf=true:=by
 obtain⟨l,rfl,hl⟩:=Me (g:=λn:Int=>[AV.lit (.int k n)]) (ok:=λn=>(Lit.int k n).wf=true) (λy hy=>(h y hy).2) λy hy=>hy
 exact⟨l,by simp[AU,Sb],hl⟩
def vW:Sh:=.pair (.int .u64) (.pair (.sl false 1 (.int .u64)) .nil)
def Aau {y:List AV} (h:vW.Ty y):∃x:Lk,y=[uA x.st,Bj .u64 x.bk]∧x.ok:=by
 obtain⟨a,b,rfl,⟨p,rfl,hp⟩,c,d,rfl,⟨ys,rfl,hy⟩,rfl⟩:=h;have⟨l,e1,hl⟩:=Sl hy;have:=Qr hp;exact⟨⟨p,l⟩,by rw[e1];rfl,⟨by simp only;omega,by simp only;omega,λx hx=>by have:=Qr (hl x hx);omega⟩⟩
def wO {ys:List (List AV)} (h:∀y∈ys,y.length=2∧vW.Ty y):∃l:List Lk,ys.map (Sb true)=EO l∧Oe l:=by
 obtain⟨l,rfl,hl⟩:=Me (g:=λx:Lk=>[uA x.st,Bj .u64 x.bk]) (ok:=Lk.ok) (λy hy=>(h y hy).2) λy hy=>Aau hy
 exact⟨l,by simp[EO,F3,Sb],hl⟩
def vX:Sh:=.pair (.sl true 2 vW) (.pair (.sl false 1 (.int .u8)) .nil)
def Aav {y:List AV} (h:vX.Ty y):∃e:En,y=[C3 e.lk,Bj .u8 e.data]∧e.ok:=by
 obtain⟨a,b,rfl,⟨zs,rfl,hz⟩,c,d,rfl,⟨ys,rfl,hy⟩,rfl⟩:=h;have⟨l,e1,hl⟩:=Sl hy;have⟨k,e2,hk⟩:=wO hz;exact⟨⟨k,l⟩,by rw[e1,e2];rfl,⟨hk,mS hl⟩⟩
def xG {ys:List (List AV)} (h:∀y∈ys,y.length=2∧vX.Ty y):∃l:List En,ys.map (Sb true)=H0 l∧oD l:=by
 obtain⟨l,rfl,hl⟩:=Me (g:=λe:En=>[C3 e.lk,Bj .u8 e.data]) (ok:=En.ok) (λy hy=>(h y hy).2) λy hy=>Aav hy
 exact⟨l,by simp[H0,Sb],hl⟩
def vY:Sh:=.pair (.int .u64) (.pair (.int .u64) (.pair (.sl true 2 vX) .nil))
def Aaw {y:List AV} (h:vY.Ty y):∃x:Bt,y=[uA x.ep,uA x.base,Fy x.en]∧x.ok:=by
 obtain⟨a,b,rfl,⟨p,rfl,hp⟩,c,d,rfl,⟨q,rfl,hq⟩,e,f,rfl,⟨ys,rfl,hy⟩,rfl⟩:=h;have⟨l,e1,hl⟩:=xG hy;have:=Qr hp;have:=Qr hq;exact⟨⟨p,q,l⟩,by rw[e1];rfl,⟨by simp only;omega,by simp only;omega,by simp only;omega,by simp only;omega,hl⟩⟩
def xV {ys:List (List AV)} (h:∀y∈ys,y.length=3∧vY.Ty y):∃l:List Bt,ys.map (Sb true)=Mf l∧Bts l:=by
 obtain⟨l,rfl,hl⟩:=Me (g:=λx:Bt=>[uA x.ep,uA x.base,Fy x.en]) (ok:=Bt.ok) (λy hy=>(h y hy).2) λy hy=>Aaw hy
 exact⟨l,by simp[Mf,Fx,Sb],hl⟩
def Aaz:Sh:=.pair (.int .u64) (.pair (.sl true 3 vY) .nil)
def Aa2 {xs:List AV} (h:Aaz.Ty xs):∃u:GH,AV.agg xs=Ot u∧Bts u.bt:=by
 obtain⟨a,b,rfl,⟨p,rfl,hp⟩,e,f,rfl,⟨ys,rfl,hy⟩,rfl⟩:=h;have⟨l,e1,hl⟩:=xV hy;exact⟨⟨p,l⟩,by rw[e1];rfl,hl⟩
def Ea (P:Program) (g:Nat):List Nat:=(P.funcs[g]?).elim [] P.leadsTo
def BP (P:Program) (g:Func):List Nat×Bool×Bool×List Nat:=
 (P.leadsTo g,(g.ours||g.body.isNone||g.name== "runtime.NumGoroutine"),(match g.body with|some c=>c.unfollowed|none=>entryCalls g),g.body.elim [] Code.globalsNamed)
section
variable {P:Program} {T:List (List Nat×Bool×Bool×List Nat)}
def T0:List Nat×Bool×Bool×List Nat:=([],false,false,[])
theorem IP (hT:P.funcs.toList.map (BP P)=T) (g:Nat) {fn:Func} (h:P.funcs[g]? =some fn):T[g]? =some (BP P fn):=by
 rw[←hT,List.getElem?_map];simp[h]
theorem GV (hT:P.funcs.toList.map (BP P)=T) (g:Nat):Ea P g=((T[g]?).getD T0).1:=by
 cases h:P.funcs[g]? with
 |none=>rw[←hT,List.getElem?_map];simp[Ea,h,T0]
 |some fn=>rw[IP hT g h];simp[Ea,h,BP]
theorem M7 (g:Nat):∀n todo seen,g∈seen->g∈P.closureVia n todo seen:=by
 intro n
 induction n with
 |zero=>intro todo seen h;simpa[Program.closureVia]using h
 |succ n ih=>
  intro todo seen h;cases todo with
  |nil=>simpa[Program.closureVia]using h
  |cons f todo=>
   unfold Program.closureVia;split
   ·exact ih _ _ h
   ·exact ih _ _ (List.mem_cons_of_mem _ h)
theorem U3 (C:Nat->Prop) (hC:∀g,C g->∀h∈Ea P g,C h):∀n todo seen,(∀x∈todo,C x)->(∀x∈seen,C x)->∀x∈P.closureVia n todo seen,C x:=by
 intro n
 induction n with
 |zero=>intro todo seen _ hs x hx;exact hs x (by simpa[Program.closureVia]using hx)
 |succ n ih=>
  intro todo seen ht hs;cases todo with
  |nil=>intro x hx;exact hs x (by simpa[Program.closureVia]using hx)
  |cons f todo=>
   unfold Program.closureVia;split
   ·exact ih _ _ (λx hx=>ht x (List.mem_cons_of_mem _ hx)) hs
   ·refine ih _ _ (λx hx=>?_) (λx hx=>?_)
    ·rcases List.mem_append.1 hx with h|h
     ·exact hC f (ht f (List.mem_cons_self ..)) x h
     ·exact ht x (List.mem_cons_of_mem _ h)
    ·rcases List.mem_cons.1 hx with h|h
     ·rw[h];exact ht f (List.mem_cons_self ..)
     ·exact hs x h
theorem E2 (C:Nat->Prop) (hC:∀g,C g->∀h∈Ea P g,C h) {f:Nat} (hf:C f):∀x∈P.closure f,C x:=
 U3 C hC _ _ _ (λx hx=>by simp at hx;rw[hx];exact hf) (λx hx=>by simp at hx)
def Gt (T:List (List Nat×Bool×Bool×List Nat)):Nat->List Nat->List Nat->List Nat×List Nat
 |0,todo,seen=>(todo,seen)
 |_,[],seen=>([],seen)
 |n+1,f::todo,seen=>if seen.contains f then Gt T n todo seen else Gt T n (((T[f]?).getD T0).1++todo) (f::seen)
theorem eU (hT:P.funcs.toList.map (BP P)=T) (g:Nat):∀k n todo seen,g∈(Gt T k todo seen).2->g∈P.closureVia (k+n) todo seen:=by
 intro k
 induction k with
 |zero=>intro n todo seen h;exact M7 g _ _ _ h
 |succ k ih=>
  intro n todo seen h;cases todo with
  |nil=>exact M7 g _ _ _ (by simpa[Gt]using h)
  |cons f todo=>
   rw[show k+1+n=(k+n)+1 from by omega];unfold Gt at h;unfold Program.closureVia;split at h
   ·rename_i hc;rw[if_pos hc];exact ih _ _ _ h
   ·rename_i hc;rw[if_neg hc];have e:=GV hT f;unfold Ea at e;rw[e];exact ih _ _ _ h
theorem LA (hT:P.funcs.toList.map (BP P)=T) {f g:Nat} (k:Nat) (hk:k≤(T.map λt=>t.1.length+1).sum) (h:(Gt T k [f] []).2.contains g=true):g∈P.closure f:=by
 have e:(P.funcs.toList.map λg=>(P.leadsTo g).length+1)=T.map λt=>t.1.length+1:=by
  rw[←hT,List.map_map];rfl
 unfold Program.closure;rw[e];obtain⟨m,hm⟩:=Nat.exists_eq_add_of_le (Nat.le_trans hk (Nat.le_add_left _ 1));rw[hm];exact eU hT g k m _ _ (by simpa using h)
def IT (T:List (List Nat×Bool×Bool×List Nat)) (g0:Nat) (C:List Nat):Bool:=
 C.all λg=>match T[g]? with|some t=>t.1.all (C.contains ·)&&(!t.2.1||g==g0)&&t.2.2.2.isEmpty|none=>false
theorem Ow (hT:P.funcs.toList.map (BP P)=T) {C:List Nat} {g0:Nat} (hq:IT T g0 C=true):∀g,g∈C->∀h∈Ea P g,h∈C:=by
 intro g hg h hh;have q:=List.all_eq_true.1 hq g hg;rw[GV hT]at hh;cases e:T[g]? with
 |none=>rw[e]at q;simp at q
 |some t=>
  rw[e]at q hh;simp only[Bool.and_eq_true,List.all_eq_true]at q;simpa using q.1.1 h hh
theorem Li (hT:P.funcs.toList.map (BP P)=T) {C:List Nat} {g0:Nat} (hq:IT T g0 C=true) {g:Nat} (hg:g∈C):∃fn,P.funcs[g]? =some fn∧((fn.ours||fn.body.isNone||fn.name== "runtime.NumGoroutine")=false∨g=g0)∧fn.body.elim [] Code.globalsNamed=[]:=by
 have q:=List.all_eq_true.1 hq g hg;cases h:P.funcs[g]? with
 |none=>
  have:T[g]? =none:=by rw[←hT,List.getElem?_map];simp[h]
  rw[this]at q;simp at q
 |some fn=>
  rw[IP hT g h]at q;simp only[BP,Bool.and_eq_true,List.isEmpty_iff,Bool.or_eq_true,Bool.not_eq_true',beq_iff_eq]at q;exact⟨fn,rfl,q.1.2,q.2⟩
theorem mL (hT:P.funcs.toList.map (BP P)=T):∀k n todo seen s,Gt T k todo seen=([],s)->P.closureVia (k+n) todo seen=s.reverse:=by
 intro k
 induction k with
 |zero=>
  intro n todo seen s h;simp only[Gt,Prod.mk.injEq]at h;obtain⟨rfl,rfl⟩:=h;cases n<;>simp[Program.closureVia]
 |succ k ih=>
  intro n todo seen s h;cases todo with
  |nil=>
   simp only[Gt,Prod.mk.injEq,true_and]at h;subst h;rw[show k+1+n=(k+n)+1 from by omega];simp[Program.closureVia]
  |cons f todo=>
   rw[show k+1+n=(k+n)+1 from by omega];unfold Gt at h;unfold Program.closureVia;split at h
   ·rename_i hc;rw[if_pos hc];exact ih _ _ _ _ h
   ·rename_i hc;rw[if_neg hc];have e:=GV hT f;unfold Ea at e;rw[e];exact ih _ _ _ _ h
theorem X0 (hT:P.funcs.toList.map (BP P)=T) {f:Nat} (k:Nat) (s:List Nat) (hk:k≤(T.map λt=>t.1.length+1).sum) (h:Gt T k [f] []=([],s)):P.closure f=s.reverse:=by
 have e:(P.funcs.toList.map λg=>(P.leadsTo g).length+1)=T.map λt=>t.1.length+1:=by
  rw[←hT,List.map_map];rfl
 unfold Program.closure;rw[e];obtain⟨m,hm⟩:=Nat.exists_eq_add_of_le (Nat.le_trans hk (Nat.le_add_left _ 1));rw[hm];exact mL hT k m _ _ _ h
theorem xD {α β:Type} (l:List α) (p:α->Bool) (F G:α->Option β) (hF:∀a,F a=if p a=true then G a else none):l.filterMap F=(l.filter p).filterMap G:=by
 induction l with
 |nil=>rfl
 |cons a l ih=>
  rw[List.filterMap_cons,List.filter_cons,ih,hF];cases hp:p a with
  |false=>rfl
  |true=>rw[if_pos rfl,if_pos rfl,List.filterMap_cons]
theorem Ud (hT:P.funcs.toList.map (BP P)=T) {f g0:Nat} (k:Nat) (s:List Nat) (hk:k≤(T.map λt=>t.1.length+1).sum) (h:Gt T k [f] []=([],s)) (hone:(s.reverse.filter λg=>((T[g]?).getD T0).2.1)=[g0]) {fn0:Func} (h0:P.funcs[g0]? =some fn0):[fn0.name]=P.inPlace f:=by
 have key:=λC:List Nat=>xD C (λg=>((T[g]?).getD T0).2.1) (λg=>(P.funcs[g]?).bind λfn=>if fn.ours||fn.body.isNone||fn.name== "runtime.NumGoroutine" then some fn.name else none) (λg=>(P.funcs[g]?).map (·.name)) λg=>by
  cases e:P.funcs[g]? with
  |none=>
   have:T[g]? =none:=by rw[←hT,List.getElem?_map];simp[e]
   simp[this,T0]
  |some fn=>rw[IP hT g e];rfl
 unfold Program.inPlace;rw[X0 hT k s hk h,key,hone];simp[h0]
theorem Mm (hT:P.funcs.toList.map (BP P)=T) {C:List Nat} {g0:Nat} (hq:IT T g0 C=true) {f:Nat} (hf:f∈C) {fn0:Func} (h0:P.funcs[g0]? =some fn0) (hr:entryReads.lookup fn0.name=none):[]=P.varsNamed f:=by
 have hin:=E2 (P:=P) (· ∈C) (Ow hT hq) hf;have e1:((P.closure f).flatMap λg=>((P.funcs[g]?).bind (·.body)).elim [] Code.globalsNamed)=[]:=by
  rw[List.flatMap_eq_nil_iff];intro g hg;obtain⟨fn,h,h1,h2⟩:=Li hT hq (hin g hg);simpa[h]using h2
 have e2:((P.closure f).filterMap λg=>(P.funcs[g]?).bind λfn=>if fn.body.isNone then entryReads.lookup fn.name else none)=[]:=by
  rw[List.filterMap_eq_nil_iff];intro g hg;obtain⟨fn,h,h1,h2⟩:=Li hT hq (hin g hg);rcases h1 with h1|rfl
  ·have hb:fn.body.isNone=false:=by
    simp only[Bool.or_eq_false_iff]at h1;exact h1.1.2
   simp only[h,Option.bind_some,hb];rfl
  ·rw[h0]at h;injection h with h;subst h;simp only[h0,Option.bind_some];split
   ·exact hr
   ·rfl
 unfold Program.varsNamed;rw[e1,e2];rfl
theorem LI (hT:P.funcs.toList.map (BP P)=T) {f g:Nat} (k:Nat) (hk:k≤(T.map λt=>t.1.length+1).sum) (h:(Gt T k [f] []).2.contains g=true)
 (hu:((T[g]?).getD T0).2.2.1=true):true=P.unfollowed f:=by
 unfold Program.unfollowed;symm;rw[List.any_eq_true];refine⟨g,LA hT k hk h,?_⟩;cases e:P.funcs[g]? with
 |none=>
  have:T[g]? =none:=by rw[←hT,List.getElem?_map];simp[e]
  rw[this]at hu;simp[T0]at hu
 |some fn=>
  rw[IP hT g e]at hu;simp only[Option.getD_some,BP]at hu;simp only[Option.any_some];revert hu;cases fn.body<;>simp
theorem FH {f:Nat} (h:true=P.unfollowed f):true=P.recurses f:=by
 unfold Program.recurses;rw[←h];rfl
end
theorem Pk (rest:List (List Char)):stripLifts liftWords ("cut".toList::rest)=([],"cut".toList::rest):=by kernel_rfl
theorem Rw:("cut".toList== "gc".toList)=false∧("cut".toList== "spec".toList)=false∧("cut".toList== "carried".toList)=false∧("cut".toList== "cut".toList)=true:=⟨by kernel_rfl,by kernel_rfl,by kernel_rfl,by kernel_rfl⟩
section
variable {P:Program} {rest:List (List Char)} (h:behindMainWord (wordsSigns P.initOrder.toList)= "cut".toList::rest)
include h
theorem Re:P.headLifts=[]:=by
 unfold Program.headLifts;rw[h,Pk];simp
theorem Tz (hl:P.laysLater=false) (hb:P.bearsReflect=false) (hd:P.doorFits []=true):P.mayEnter=true:=by
 obtain⟨c1,c2,c3,c4⟩:=Rw;unfold Program.mayEnter;rw[h];simp only[Pk,hl,hb,hd,c1,c2,c3,Bool.false_and,Bool.or_false,List.head?_cons,Bool.not_false,Bool.or_true,Bool.and_true,List.contains_nil,beq_self_eq_true]
theorem OH:false=P.liftsFinal:=by
 obtain⟨c1,c2,c3,c4⟩:=Rw;unfold Program.liftsFinal;rw[Re h,h];simp only[List.head?_cons,List.contains_nil,Bool.or_false];have:((some "cut".toList:Option (List Char))==some "carried".toList)=false:=c3;rw[this];rfl
theorem rA:P.make=some .cut:=by
 obtain⟨c1,c2,c3,c4⟩:=Rw;unfold Program.make;rw[h];simp only[c1,c2,c4,Bool.or_self,Bool.true_or,if_true];rfl
end
def JB (P:Program) (fn:Func) (s:ChangeSpec) (c:OpenClaim):Bool:=
 (c.wf (OpenSpec.ofChange s)&&mapsRowed P&&fn.params.all (P.readableRec ·)&&namedTie P c.named s.vars&&
 (c.stops==[])&&(P.stops==[])&&(c.knobs==[])&&(P.stopKnobs==[]))&&
 ((c.maps==(fn.params.toList++s.plain.varTypes P).any (P.mapsRec ·))&&(c.ifaces==(fn.params.toList++s.plain.varTypes P).any (P.ifacesRec ·))&&(c.mapsOut==P.mapsAmong fn.resultTypes.toList)&&
 (c.loops==(fn.params.toList++s.plain.varTypes P).any (P.loopsFrom ·))&&(c.wideKeys==(fn.params.toList++s.plain.varTypes P++fn.resultTypes.toList).any (P.wideKeysFrom ·))&&
 s.vars.all (P.varReadable ·)&&fn.resultTypes.all (λt=>P.readableRec t&&decide (t<P.types.size))&&(c.ifacesOut==fn.resultTypes.toList.any (P.ifacesRec ·))&&(c.loopsOut==fn.resultTypes.toList.any (P.loopsFrom ·))&&(c.plainKeys==P.plainKeys)&&c.shortTexts.isNone)&&
 (P.stopsHeard&&(c.kinds==(if c.domain.isEmpty then[]else fn.params.toList.map λt=>match P.underlying t with|some (.int k)=>some k|_=>none))&&(c.pinned==c.pinnedBy)&&
 (c.veiled==(fn.params.toList++s.plain.varTypes P++fn.resultTypes.toList).any (P.veiledRec ·))&&c.veiledFits P fn.params.toList (fn.params.toList++s.plain.varTypes P++fn.resultTypes.toList))
theorem cK {P:Program} {f:Nat} {fn:Func} {s:ChangeSpec} {c:OpenClaim} (hl:laidOutB P=true) (h:JB P fn s c=true) (he:P.mayEnter=true) (hf:c.lifted=P.liftsFinal) (hm:P.make=some c.make)
 (h1:c.inPlace=P.inPlace f) (h2:c.unfollowed=P.unfollowed f) (h3:c.recurses=P.recurses f) (h4:c.named=P.varsNamed f):joinedFacts P f fn s c=true:=by
 simp only[JB,Bool.and_eq_true,beq_iff_eq]at h;obtain⟨⟨⟨⟨⟨⟨⟨⟨⟨g0,g1⟩,g2⟩,g3⟩,g4⟩,g5⟩,g6⟩,g7⟩,⟨⟨⟨⟨⟨⟨⟨⟨⟨⟨m0,m1⟩,m2⟩,m3⟩,m4⟩,m5⟩,m6⟩,m7⟩,m8⟩,m9⟩,m10⟩⟩,⟨⟨⟨⟨q0,q1⟩,q2⟩,q3⟩,q4⟩⟩:=h;simp only[joinedFacts,Bool.and_eq_true,beq_iff_eq];exact⟨⟨⟨⟨⟨⟨⟨⟨⟨⟨⟨⟨⟨⟨⟨⟨⟨⟨⟨⟨⟨⟨⟨⟨⟨⟨⟨⟨⟨⟨⟨g0,hl⟩,g1⟩,g2⟩,g3⟩,g4⟩,g5⟩,g6⟩,g7⟩,h1⟩,h2⟩,h3⟩,h4⟩,m0⟩,m1⟩,m2⟩,m3⟩,m4⟩,m5⟩,m6⟩,m7⟩,m8⟩,m9⟩,m10⟩,q0⟩,he⟩,hf⟩,hm⟩,q1⟩,q2⟩,q3⟩,q4⟩
def Tf (l:List Nat):List Nat×Bool×Bool×List Nat:=(l,false,false,[])
def nX:List (List Nat×Bool×Bool×List Nat):=[([],true,false,[]),([],true,false,[]),Tf [1],Tf [4,5,6,5,7,5,8,9,10,11,12,13,5],Tf [14],Tf [7,15,16],Tf [18,17,19,18,21,20,17],Tf [22,23],Tf [24],Tf [],Tf [25,26],Tf [25,27],Tf [28],Tf [15,29,15],Tf [30],Tf [31,32,33,34,35,32,36],Tf [8,10,11],Tf [37,38,39,40],Tf [41],Tf [42,43],Tf [44,46,45],Tf [47],Tf [37,17,48],Tf [49,50,51,52,51,53,54],Tf [55,32,34,56],Tf [],([32,57],false,true,[]),Tf [58],Tf [29],Tf [59,60],Tf [61],Tf [62,32,34,63,64,32,34,65,34,32,57],Tf [],Tf [66,67],Tf [],Tf [34,68,69,32,34,57],Tf [70,71,72],Tf [],Tf [73],Tf []]
theorem ZQ:((Tryz.prog.funcs.toList.drop 0).take 40).map (BP Tryz.prog)=nX:=by kernel_rfl
def nW:List (List Nat×Bool×Bool×List Nat):=[Tf [74],Tf [72],([],false,true,[]),Tf [],Tf [76,75,47],Tf [21,47,77,75,79,75,78],Tf [],Tf [],Tf [71],Tf [81,80,82,83],Tf [84,80,85,83],Tf [86],Tf [80,87,83],Tf [88,89],Tf [90,86,91],Tf [92,93,94,95],([96,92,97,98,99,100,101,94,57,32,34],false,true,[]),Tf [34],Tf [],Tf [102],Tf [],Tf [103],Tf [104,32,58,105,32,57,34,106,32,57],([105,32,92,98,101,107,94,57,32],false,true,[]),Tf [108,95,109,108,108,110,101,111,67],Tf [89,88],Tf [110,67],Tf [],([105,32,92,98,101,107,94,57,32],false,true,[]),Tf [113,112],Tf [71],Tf [],Tf [21],Tf [],Tf [115,116,117,75],([],false,true,[]),Tf [],Tf [],Tf [119,120],Tf []]
theorem ZP:((Tryz.prog.funcs.toList.drop 40).take 40).map (BP Tryz.prog)=nW:=by kernel_rfl
def nV:List (List Nat×Bool×Bool×List Nat):=[Tf [],Tf [121],Tf [122,123,124,125,127,126],Tf [128],Tf [39,129,130],Tf [17,123,131,132,133,134,136,135],Tf [137,80,138,83],Tf [66,123,133,133,133,133,67],Tf [66],Tf [66,67],Tf [80,139,123,125,131,133,83],Tf [58,80,140,125,127,126,141,83],Tf [],Tf [142,143,144,145,95,146,111,124,127,101],Tf [34],Tf [],Tf [147,105,32],Tf [],Tf [148],Tf [69,107,111,71],Tf [64,107,111,149,88,89,150],Tf [111,34],Tf [151],Tf [],Tf [58,34,92,58,148,152,153,127,146,146,153,34,34,34],Tf [92,154,94,32,95],Tf [92,98,101,143,108,108,109,109,108,108,139,101,107,94,32],Tf [155,101],Tf [156,95,109,101],Tf [95,98,111,95,101,95,95,101],Tf [67],Tf [32],([143,145,95,108,38,101,111,157,95,158,101,111],false,true,[]),Tf [114],Tf [159,101,95,160,111],([],false,true,[]),Tf [],Tf [118],Tf [161],([],true,false,[])]
theorem ZO:((Tryz.prog.funcs.toList.drop 80).take 40).map (BP Tryz.prog)=nV:=by kernel_rfl
def nU:List (List Nat×Bool×Bool×List Nat):=[Tf [162],Tf [],Tf [37,73,144],Tf [128],Tf [81,80,141,125,131,144,132,83],Tf [128,163,123],Tf [140,125],Tf [166,165,164],Tf [],Tf [121],Tf [40,167,121],Tf [37,168],Tf [73,168],Tf [169,125],Tf [40,123,170,133],Tf [123,133,171,125,172,125,125],Tf [39],Tf [129],Tf [123,172,127,126],Tf [37,173],Tf [],Tf [125],Tf [95,153,101,98,95,101,111],Tf [174,37],Tf [],Tf [174,73],Tf [153],Tf [92,175,108,111,137],Tf [111,101,155,101],Tf [176],Tf [96,106,32,57,34,177],Tf [],Tf [155],Tf [148],Tf [175,178,95,146,101,179,111],Tf [],Tf [95,109,101],Tf [180,111],Tf [21],Tf [95,108,98,111,153,181,95,101,111,182,184,183]]
theorem ZN:((Tryz.prog.funcs.toList.drop 120).take 40).map (BP Tryz.prog)=nU:=by kernel_rfl
def nT:List (List Nat×Bool×Bool×List Nat):=[([],false,true,[]),Tf [],Tf [185,185,185],Tf [],Tf [],Tf [186],Tf [],Tf [74,121,187,121,188],Tf [123,133],Tf [],Tf [74,123,133,187,133,189],Tf [190,129],Tf [133,125],Tf [],([95,109,101,111],false,true,[]),Tf [],Tf [],Tf [58,91,183,34,191],Tf [108,153],([127],false,true,[]),Tf [192,108,111],Tf [178,111,95,193,32,57,101,95,101],Tf [129,80,135,83],Tf [],Tf [],Tf [],Tf [194],Tf [],Tf [161,121,121],Tf [161,123,133,133],Tf [195,196],Tf [34],Tf [108,95,109,101,197,111],Tf [92,155,111,95,198,101,153,95,199,101,111,200,94,32],Tf [],([201,202,203],false,true,[]),Tf [204,80,205,83],Tf [108,95,109,101,111],Tf [95,109,111,101],Tf [95,109,101,111]]
theorem ZM:((Tryz.prog.funcs.toList.drop 160).take 40).map (BP Tryz.prog)=nT:=by kernel_rfl
def nS:List (List Nat×Bool×Bool×List Nat):=[Tf [],Tf [],Tf [206],([207,208,209,210],false,true,[]),Tf [121],Tf [211,123,133,125,133,133],Tf [],Tf [212,213],Tf [214],Tf [],Tf [],Tf [],Tf [],Tf [212,215],([215],false,true,[]),Tf [],([],true,false,[]),([],true,false,[]),([],true,false,[]),([],true,false,[]),([],true,false,[]),([],true,false,[]),([],true,false,[]),([],true,false,[]),([],true,false,[]),([],true,false,[]),([],true,false,[]),([],true,false,[]),([],true,false,[]),([],true,false,[]),([],true,false,[]),([],true,false,[]),([],true,false,[]),([],true,false,[]),([],true,false,[])]
theorem ZL:((Tryz.prog.funcs.toList.drop 200).take 35).map (BP Tryz.prog)=nS:=by kernel_rfl
def nY:List (List Nat×Bool×Bool×List Nat):=nX++nW++nV++nU++nT++nS
theorem VN:Tryz.prog.funcs.toList.length=235:=by kernel_rfl
theorem GJ {α:Type} (l:List α) (i n:Nat):(l.drop i)=(l.drop i).take n++l.drop (i+n):=by
 rw[←List.drop_drop];exact(List.take_append_drop n _).symm
theorem Mu:Tryz.prog.funcs.toList.map (BP Tryz.prog)=nY:=by
 have h0:Tryz.prog.funcs.toList=Tryz.prog.funcs.toList.drop 0:=rfl;rw[h0];rw[GJ Tryz.prog.funcs.toList 0 40,List.map_append,ZQ];rw[GJ Tryz.prog.funcs.toList 40 40,List.map_append,ZP];rw[GJ Tryz.prog.funcs.toList 80 40,List.map_append,ZO];rw[GJ Tryz.prog.funcs.toList 120 40,List.map_append,ZN];rw[GJ Tryz.prog.funcs.toList 160 40,List.map_append,ZM];rw[GJ Tryz.prog.funcs.toList 200 35,List.map_append,ZL];rw[List.drop_eq_nil_of_le (by rw[VN];omega)];simp[nY]
def IY:List Nat:=[104,97,114,110,101,115,115,32,57,55,98,53,53,99,53,97,101,57,48,56,101,55,54,56,49,55,102,56,52,102,49,51,101,51,97,50,57,48,101,48,49,99,49,97,101,102,55,98,51,49,52,57,100,100,53,56,55,54,97,101,48,99,101,101,97,102,57,49,98,54,57,56,32,99,117,116,32,97,116,32,116,104,111,108,101,112,105,110,47,116,104,111,108,101,112,105,110,116,111,112,46,84,111,112,76,111,103]
theorem rX:Tryz.prog.initOrder=String.ofList (IY.map Char.ofNat):=by kernel_rfl
theorem cO:Tryz.prog.initOrder.toList=IY.map Char.ofNat:=by rw[rX];exact String.toList_ofList
theorem mD:("cut").toList=[99,117,116].map Char.ofNat:=by decide+kernel
theorem mE:(behindMainWord (wordsSigns (IY.map Char.ofNat))).head?=some ([99,117,116].map Char.ofNat):=by kernel_rfl
theorem IG:∃rest,behindMainWord (wordsSigns Tryz.prog.initOrder.toList)= "cut".toList::rest:=by
 have h:=mE;rw[cO,mD];cases hb:behindMainWord (wordsSigns (IY.map Char.ofNat))with
 |nil=>rw[hb]at h;cases h
 |cons c r=>rw[hb]at h;simp only[List.head?_cons,Option.some.injEq]at h;exact⟨r,by rw[h]⟩
theorem WX:Tryz.prog.laysLater=false:=by kernel_rfl
theorem O2:Tryz.prog.bearsReflect=false:=by kernel_rfl
theorem eG:Tryz.prog.doorFits []=true:=by kernel_rfl
theorem bI:Tryz.prog.mayEnter=true:=by
 obtain⟨rest,h⟩:=IG;exact Tz h WX O2 eG
theorem TV:false=Tryz.prog.liftsFinal:=by
 obtain⟨rest,h⟩:=IG;exact OH h
theorem kE:Tryz.prog.make=some .cut:=by
 obtain⟨rest,h⟩:=IG;exact rA h
namespace CellTopLog
def C:List Nat:=[3,4,5,6,7,8,9,10,11,12,13,14,15,16,17,18,19,20,21,22,23,24,25,26,27,28,29,30,31,32,33,34,35,36,37,38,39,40,41,42,43,44,45,46,47,48,49,50,51,52,53,54,55,56,57,58,59,60,61,62,63,64,65,66,67,68,69,70,71,72,73,74,75,76,77,78,79,80,81,82,83,84,85,86,87,88,89,90,91,92,93,94,95,96,97,98,99,100,101,102,103,104,105,106,107,108,109,110,111,112,113,114,115,116,117,118,119,120,121,122,123,124,125,126,127,128,129,130,131,132,133,134,135,136,137,138,139,140,141,142,143,144,145,146,147,148,149,150,151,152,153,154,155,156,157,158,159,160,161,162,163,164,165,166,167,168,169,170,171,172,173,174,175,176,177,178,179,180,181,182,183,184,185,186,187,188,189,190,191,192,193,194,195,196,197,198,199,200,201,202,203,204,205,206,207,208,209,210,211,212,213,214,215]
theorem Aa5:IT nY 119 C=true:=by decide+kernel
theorem mem:3∈C:=by decide
theorem unf:true=Tryz.prog.unfollowed 3:=LI (g:=115) Mu 18 (by decide+kernel) (by decide+kernel) (by decide+kernel)
theorem iS:true=Tryz.prog.recurses 3:=FH unf
theorem Abb:JB Tryz.pinned.checked.prog Tryz.f3 Rows.topLogSpec Rows.topLogRow=true:=by kernel_rfl
theorem lifted:Rows.topLogRow.lifted=Tryz.pinned.checked.prog.liftsFinal:=TV
theorem made:Tryz.pinned.checked.prog.make=some Rows.topLogRow.make:=kE
theorem Aea:[Tryz.f119.name]=Tryz.prog.inPlace 3:=Ud Mu (g0:=119) 572 [13,60,151,102,59,29,28,12,9,185,162,120,119,78,79,77,45,46,76,44,20,43,42,19,41,18,6,27,11,26,25,10,191,177,150,176,149,100,99,97,147,96,56,142,93,55,24,8,16,72,70,36,47,21,158,197,192,180,157,145,112,160,183,184,182,200,199,198,193,181,159,114,113,69,68,35,33,65,64,63,107,174,143,106,57,94,179,98,109,95,156,108,178,175,154,105,146,153,152,155,101,32,111,148,92,34,104,62,31,15,58,91,173,139,90,54,89,88,53,67,110,66,87,52,138,137,86,51,172,211,205,204,196,210,209,214,208,215,213,212,207,203,206,202,201,195,190,171,135,136,189,170,134,85,188,187,167,130,129,84,50,140,126,164,194,186,165,166,127,83,132,169,133,168,131,163,125,141,124,128,123,144,122,82,80,121,81,49,23,71,48,75,161,118,117,116,115,74,40,39,73,38,17,37,22,7,5,103,61,30,14,4,3] (by decide+kernel) (by decide+kernel) (by decide+kernel) Tryz.func119
theorem closed:joinedFacts Tryz.pinned.checked.prog 3 Tryz.f3 Rows.topLogSpec Rows.topLogRow=true:=
 cK Tryz.laidOut Abb bI lifted made Aea unf iS (Mm Mu Aa5 mem Tryz.func119 (by decide+kernel))
theorem named:Tryz.pinned.checked.prog.funcNamed Rows.topLogRow.func=some 3:=by kernel_rfl
theorem inst:Tryz.f3.isInstance Tryz.pinned.checked.prog Rows.topLogRow.origin Rows.topLogRow.targs:=of_decide_eq_true (by kernel_rfl)
theorem wrap:Tryz.f3.isWrapper Tryz.pinned.checked.prog Rows.topLogRow.wrapper Rows.topLogRow.mainSum:=by unfold Func.isWrapper;first|(rw[if_pos (by decide+kernel)];kernel_rfl)|(rw[if_neg (by decide+kernel)];exact⟨rfl,rfl⟩)
end CellTopLog
end Go.Proofs.YtaajkppmibfgfaaGreat
