/- Lemmas for TopLog, part 1. -/
import Derived.Test.YtaajkppmibfgfaaGreatB0
import Derived.Laws.StructEq
import Derived.KernelRfl
import Derived.ProofKit
import Derived.OpenShut
import Derived.Lib.Hide
import Derived.WalkKit
import Derived.WalkSpells
import Derived.WalkLawsBesides
import Derived.Laws.BitsAllLaws
import Derived.IntWalk
set_option linter.all false
set_option maxRecDepth 100000
set_option maxHeartbeats 4000000
universe u v
namespace Go.Proofs.YtaajkppmibfgfaaGreat
open Go.RowKit List
section
variable {P:Program}
def Rq:List Value->List Value->Bool
 | .int _ a::xs,.int _ b::ys=>(a==b)&&Rq xs ys
 |_,_=>true
def YN (xs ys:List Value):Prop:=xs.length=ys.length∧∀(j:Nat) (u v:Value),xs[j]? =some u->ys[j]? =some v->∃k a b,u=.int k a∧v=.int k b
theorem YN.tail {u v:Value} {xs ys:List Value} (h:YN (u::xs) (v::ys)):YN xs ys:=⟨by simpa using h.1,λj a b ha hb=>h.2 (j+1) a b (by simpa using ha) (by simpa using hb)⟩
theorem YN.take {xs ys:List Value} (h:YN xs ys) (n:Nat):YN (xs.take n) (ys.take n):=⟨by simp[h.1],λj a b ha hb=>by
 rw[getElem?_take]at ha hb;split at ha
 ·rename_i hj;rw[if_pos hj]at hb;exact h.2 j a b ha hb
 ·cases ha⟩
theorem YN.drop {xs ys:List Value} (h:YN xs ys) (n:Nat):YN (xs.drop n) (ys.drop n):=⟨by simp[h.1],λj a b ha hb=>by
 rw[getElem?_drop]at ha hb;exact h.2 _ a b ha hb⟩
def P4 {xs ys:List Value} (h:YN xs ys) (n:Nat):Rq xs ys=(Rq (xs.take n) (ys.take n)&&Rq (xs.drop n) (ys.drop n)):=by
 induction n generalizing xs ys with
 |zero=>simp[Rq]
 |succ n ih=>
  match xs,ys,h with
  |[],[],_=>simp[Rq]
  |u::xs,v::ys,h=>
   obtain⟨k,a,b,rfl,rfl⟩:=h.2 0 u v rfl rfl;simp only[take_succ_cons,drop_succ_cons,Rq];rw[ih h.tail,Bool.and_assoc]
  |[],_::_,h=>exact absurd h.1 Si
  |_::_,[],h=>exact absurd h.1 Si
def RL (a:Option Nat) (vs:Array Value):Value:=match a with
 |none=>vs.getD 0 undef
 |some _=>.agg vs
def E5 {t:TypeId} {a:Option Nat} {s:Nat} (ha:D6 P t=some a) (hs:FP P t=some s) (h1:a=none->s=1) (vs:Array Value) (off:Nat) (hle:off+s≤vs.size) (w:World):
 (part t vs off).run P w=.ok (RL a (vs.extract off (off+s))) w:=by
 cases a with
 |none=>
  have:=h1 rfl;subst this;have hv:vs[off]? =some vs[off]:=Array.getElem?_eq_getElem Om;simp[part,Hl ha,hv,RL,show 0<min (off+1) vs.size-off by omega]
 |some n=>
  simp[part,GC ha,B1 hs,RL]
def MK:∀(d:Nat) (t:TypeId) (n:Nat) (a:Option Nat),Iv P d t=some n->D6 P t=some a->(a=none->n=1)->∀(D:Nat) (xs ys:Array Value),d≤D->xs.size=n->ys.size=n->YN xs.toList ys.toList->∀w:World,
 (Op.equalIn D t (RL a xs) (RL a ys)).run P w=.ok (Rq xs.toList ys.toList) w:=by
 intro d
 induction d with
 |zero=>intro t n a h;simp[Iv]at h
 |succ d ih=>
  intro t n a h ha h1 D xs ys hD hx hy hok w;obtain⟨D,rfl⟩:∃D',D=D'+1:=⟨D-1,Om⟩;simp only[Iv]at h;cases hu:P.underlying t with
  |none=>simp[hu]at h
  |some ds=>
   rw[hu]at h;cases ds with
   |int k=>
    have han:a=none:=by simpa[D6,hu]using ha.symm
    subst han;have hn:=h1 rfl;subst hn;have⟨xl⟩:=xs;have⟨yl⟩:=ys
    match xl,yl,hx,hy with
    |[u],[v],_,_=>
     obtain⟨k',p,q,rfl,rfl⟩:=hok.2 0 u v rfl rfl;have:=run_equalIn_int (P:=P) w D t k' k p q hu;simpa[RL,Rq]using this
   |struct fs=>
    simp only at h;split at h
    ·cases h
    ·rename_i hst;have hagg:∃m,a=some m:=by
      cases a with
      |none=>have⟨d',hd',hq,_⟩:=K9 ha;rw[hu]at hd';injection hd' with e;exact(hq _ e.symm).elim
      |some m=>exact⟨m,rfl⟩
     obtain⟨m,rfl⟩:=hagg;simp only[RL];have hfo:P.fieldsOf t=fs:=by simp[Program.fieldsOf,hu]
     rw[run_equalIn_struct (P:=P) w D t xs ys (by rw[hfo];exact hu) (by simpa using hst),hfo];have key:∀(l:List Field) (off:Nat),off≤n->l.foldl (λacc f=>acc.bind λoff=>match Iv P d f.type,D6 P f.type with
      |some s,some a=>if f.name≠ "_"∧f.offset=off∧FP P f.type=some s∧(a=none->s=1)then some (off+s)else none
      |_,_=>none) (some off)=some n->(Op.eqFields D xs ys l).run P w=.ok (Rq (xs.toList.drop off) (ys.toList.drop off)) w:=by
      intro l
      induction l with
      |nil=>
       intro off hoff hl;simp at hl;subst hl;rw[drop_eq_nil_of_le (by simp;omega),drop_eq_nil_of_le (by simp;omega)];simp[Op.eqFields,Rq]
      |cons f l ihl=>
       intro off hoff hl;have hnone:∀l:List Field,l.foldl (λacc f=>acc.bind λoff=>match Iv P d f.type,D6 P f.type with
        |some s,some a=>if f.name≠ "_"∧f.offset=off∧FP P f.type=some s∧(a=none->s=1)then some (off+s)else none
        |_,_=>none) none=(none:Option Nat):=by
        intro l;induction l with
        |nil=>rfl
        |cons g l ih=>simpa using ih
       have hmono:∀(l:List Field) (o:Nat),l.foldl (λacc f=>acc.bind λoff=>match Iv P d f.type,D6 P f.type with
        |some s,some a=>if f.name≠ "_"∧f.offset=off∧FP P f.type=some s∧(a=none->s=1)then some (off+s)else none
        |_,_=>none) (some o)=some n->o≤n:=by
        intro l;induction l with
        |nil=>intro o ho;simp at ho;omega
        |cons g l ih=>
         intro o ho;simp only[foldl_cons,Option.bind_some]at ho;split at ho
         ·split at ho
          ·have:=ih _ ho;omega
          ·rw[hnone]at ho;cases ho
         ·rw[hnone]at ho;cases ho
       simp only[foldl_cons,Option.bind_some]at hl;split at hl
       ·rename_i s a' hs' ha';split at hl
        ·rename_i hc;have⟨hname,hfoff,hsz,h1'⟩:=hc;have hle:=hmono _ _ hl;subst hfoff;have e1:=E5 ha' hsz h1' xs f.offset Om w;have e2:=E5 ha' hsz h1' ys f.offset Om w;have hokp:YN (xs.extract f.offset (f.offset+s)).toList (ys.extract f.offset (f.offset+s)).toList:=by
          simp only[Array.toList_extract,extract_eq_take_drop];exact(hok.drop _).take _
         have e3:=ih f.type s a' hs' ha' h1' D _ _ Om (by simp;omega) (by simp;omega) hokp w;have e4:=ihl _ hle hl;simp only[Op.eqFields];rw[if_pos hname];simp only[Sem.run_bind,e1,e2,e3,Result.andThen_ok];have hsp:=P4 (hok.drop f.offset) s;simp only[Array.toList_extract,extract_eq_take_drop,Nat.add_sub_cancel_left]at*;rw[hsp,drop_drop,drop_drop];cases hb:Rq (List.take s (List.drop f.offset xs.toList)) (List.take s (List.drop f.offset ys.toList))
         ·simp
         ·simp[e4]
        ·rw[hnone]at hl;cases hl
       ·rw[hnone]at hl;cases hl
     have:=key fs.toList 0 (Nat.zero_le _) h;simpa using this
   |array len e=>
    simp only at h;split at h
    ·rename_i s a' hs' ha';split at h
     ·rename_i hc;have⟨hsz,h1'⟩:=hc;injection h with h;have hagg:∃m,a=some m:=by
       cases a with
       |none=>have⟨d',hd',_,hq⟩:=K9 ha;rw[hu]at hd';injection hd' with e;exact(hq _ _ e.symm).elim
       |some m=>exact⟨m,rfl⟩
      obtain⟨m,rfl⟩:=hagg;simp only[RL,Op.equalIn,Sem.run_bind,run_underlying hu,Result.andThen_ok,B1 hsz];have step:∀i,i<len->(do
       let p ←part e xs (i*s)
       let q ←part e ys (i*s)
       Op.equalIn D e p q).run P w=.ok (Rq ((xs.toList.drop (i*s)).take s) ((ys.toList.drop (i*s)).take s)) w:=by
       intro i hi;have hle:i*s+s≤n:=by
        rw[←h];have:(i+1)*s≤len*s:=Nat.mul_le_mul_right _ Om;rw[Nat.add_mul]at this;omega
       have e1:=E5 ha' hsz h1' xs (i*s) Om w;have e2:=E5 ha' hsz h1' ys (i*s) Om w;have hokp:YN (xs.extract (i*s) (i*s+s)).toList (ys.extract (i*s) (i*s+s)).toList:=by
        simp only[Array.toList_extract,extract_eq_take_drop];exact(hok.drop _).take _
       have e3:=ih e s a' hs' ha' h1' D _ _ Om (by simp;omega) (by simp;omega) hokp w;simp only[Sem.run_bind,e1,e2,e3,Result.andThen_ok];simp only[Array.toList_extract,extract_eq_take_drop,Nat.add_sub_cancel_left]
      have key:∀(r i:Nat),i+r=len->(forIn (range' i r) ((none,()):Option Bool×Unit) λi _=>do
       let p ←part e xs (i*s)
       let q ←part e ys (i*s)
       let b ←Op.equalIn D e p q
       if(!b)=true then pure (ForInStep.done ((some false,()):Option Bool×Unit))else pure (ForInStep.yield (none,()))).run P w=.ok (if Rq (xs.toList.drop (i*s)) (ys.toList.drop (i*s))then none else some false,()) w:=by
       intro r
       induction r with
       |zero=>
        intro i hi;rw[drop_eq_nil_of_le (by simp;rw[hx,←h,show i=len by omega];exact Nat.le_refl _),drop_eq_nil_of_le (by simp;rw[hy,←h,show i=len by omega];exact Nat.le_refl _)];simp[Rq]
       |succ r ihr=>
        intro i hi;have e1:=step i Om;have e2:=ihr (i+1) Om;rw[range'_succ,forIn_cons];have hsp:=P4 (hok.drop (i*s)) s;rw[drop_drop,drop_drop,show i*s+s=(i+1)*s by rw[Nat.add_mul];omega]at hsp;rw[hsp];simp only[Sem.run_bind]at e1 ⊢;generalize(part e xs (i*s)).run P w=r1 at e1 ⊢;cases r1 with
        |halt x w1=>simp[Result.andThen]at e1
        |ok p w1=>
         simp only[Result.andThen_ok]at e1 ⊢;generalize(part e ys (i*s)).run P w1=r2 at e1 ⊢;cases r2 with
         |halt x w2=>simp[Result.andThen]at e1
         |ok q w2=>
          simp only[Result.andThen_ok]at e1 ⊢;rw[e1];cases Rq ((xs.toList.drop (i*s)).take s) ((ys.toList.drop (i*s)).take s)
          ·simp
          ·simpa using e2
      have e0:=key len 0 Om;simp only[Nat.zero_mul,drop_zero]at e0;rw[Std.Legacy.Range.forIn_eq_forIn_range'];simp only[Std.Legacy.Range.size,Nat.sub_zero,Nat.add_sub_cancel,Nat.div_one];rw[e0];cases Rq xs.toList ys.toList<;>simp
     ·cases h
    ·cases h
   |_=>simp at h
def sQ {G:Gh}:∀{xs ys:List AV} {vs us:List Value},Je xs ys=true->BT G xs vs->BT G ys us->YN vs us∧Rq vs us=E_ xs ys:=by
 intro xs
 induction xs with
 |nil=>
  intro ys vs us h r1 r2;cases ys with
  |nil=>
   have hv:vs=[]:=eq_nil_of_length_eq_zero (by simpa using r1.1.symm);have hu:us=[]:=eq_nil_of_length_eq_zero (by simpa using r2.1.symm);subst hv hu;exact⟨⟨rfl,λj u v h=>by simp at h⟩,rfl⟩
  |cons=>simp[Je]at h
 |cons x xs ih=>
  intro ys vs us h r1 r2;cases ys with
  |nil=>cases x with
   |lit v=>cases v<;>simp[Je]at h
   |_=>simp[Je]at h
  |cons y ys=>
   cases x with
   |lit v=>
    cases v with
    |int k a=>
     cases y with
     |lit v'=>
      cases v' with
      |int k' b=>
       simp only[Je,Bool.and_eq_true,beq_iff_eq]at h;obtain⟨rfl,h⟩:=h;cases vs with
       |nil=>simpa using r1.1
       |cons v vs=>
        cases us with
        |nil=>simpa using r2.1
        |cons u us=>
         have e1:=AY (r1.2 0 _ v rfl rfl);have e2:=AY (r2.2 0 _ u rfl rfl);subst e1 e2;have⟨h1,h2⟩:=ih (ys:=ys) (vs:=vs) (us:=us) h ⟨by simpa using r1.1,λj x v hx hv=>r1.2 (j+1) x v (by simpa using hx) (by simpa using hv)⟩ ⟨by simpa using r2.1,λj x v hx hv=>r2.2 (j+1) x v (by simpa using hx) (by simpa using hv)⟩;refine⟨⟨by simp[h1.1],λj p q hp hq=>?_⟩,by simp[Rq,E_,h2]⟩;cases j with
         |zero=>simp at hp hq;exact⟨k,a,b,hp.symm,hq.symm⟩
         |succ j=>exact h1.2 j p q (by simpa using hp) (by simpa using hq)
      |_=>simp[Je]at h
     |_=>simp[Je]at h
    |_=>simp[Je]at h
   |_=>simp[Je]at h
def LZ {o:Oper} {ρ:Operand->AV} {S:List Ac} {K:KT} {op:BinOp} {t t':TypeId} {x y:Operand} {neg:Bool} {n m:Nat} (hop:o.op=.binOp op t x y t') (ha:D6 P t=some (some m)) (hg:P.eqGuardType P.depth t=false) (hf:Iv P 9 t=some n)
 (hn:op=if neg then .neq else .eql) (h:Xb neg n (ρ x) (ρ y) K):F_ P o ρ S K:=by
 unfold Xb at h;split at h
 ·rename_i xs ys hx hy;have⟨hl,hok,hK⟩:=h;refine AN (λG a w T _ hr=>⟨_,?_,.lit _⟩) hK;have rx:=hr x (by simp[hop,Op.operands]);have ry:=hr y (by simp[hop,Op.operands]);rw[hx]at rx;rw[hy]at ry;generalize e1:a.eval x=vx at rx;generalize e2:a.eval y=vy at ry;cases rx with
  | @agg _ vs h0 h2 h3=>
    cases ry with
    | @agg _ us g0 g2 g3=>
      have⟨hv,he⟩:=sQ (G:=G) (vs:=vs.toList) (us:=us.toList) hok ⟨by simpa using h0,λj x v hx hv=>h3 j x v hx (by simpa using hv)⟩ ⟨by simpa using g0,λj x v hx hv=>g3 j x v hx (by simpa using hv)⟩;have hvs:vs.size=n:=by rw[←h0];exact hl
      have hus:us.size=n:=by have:=hv.1;simp at this;omega
      have heq:=MK (P:=P) 9 t n (some m) hf ha (λh=>by cases h) 10000 vs us De hvs hus hv w;simp only[RL]at heq;have hgd:=run_eqGuard_agg (P:=P) w op t x y vs us hg;cases neg<;>simp at hn<;>subst hn<;>simp[execOp,hop,e1,e2,hgd,run_eql_struct,run_neq_struct,heq,he]
 ·exact h.elim
def NU {o:Oper} {i:I} {ρ:Operand->AV} {S:List Ac} {K:KT} (hc:ID P o=some i) (h:Cf P i ρ S K):F_ P o ρ S K:=by
 unfold ID at hc;split at hc
 ·rename_i x hop;injection hc with hc;subst hc;exact Yy (.inl hop) h
 ·rename_i x hop;injection hc with hc;subst hc;exact Yy (.inr hop) h
 ·rename_i c a b hop;injection hc with hc;subst hc;exact gW hop h
 ·rename_i e hop;cases hz:EN P e with
  |none=>simp[hz]at hc
  |some zs=>simp[hz]at hc;subst hc;exact pG hop hz h
 ·rename_i e x hop;injection hc with hc;subst hc;exact pO hop h
 ·rename_i t ps hop;split at hc
  ·rename_i fs z ht hz;split at hc
   ·rename_i hfs;cases hq:LN (λp:Nat×Operand=>(fs[p.1]?).bind λf=>(FP P f.type).map λs=>(f.offset,s,p.2)) ps.toList with
    |none=>simp[hq]at hc
    |some qs=>simp[hq]at hc;subst hc;exact KK hop ht hz hfs hq h
   ·cases hc
  ·rename_i n e z ht hz;cases hs:FP P e with
   |none=>simp[hs]at hc
   |some s=>simp[hs]at hc;subst hc;exact LJ hop ht hz hs h
  ·cases hc
 ·rename_i t n ps hop;split at hc
  ·rename_i e ht;split at hc
   ·rename_i s z hs hz;split at hc
    ·rename_i hcond;injection hc with hc;subst hc;exact pN hop ht hs hz hcond.1 hcond.2.1 hcond.2.2.1 hcond.2.2.2 h
    ·cases hc
   ·cases hc
  ·cases hc
 ·rename_i t a hop;cases hn:D6 P t with
  |none=>simp[hn]at hc
  |some n=>simp[hn]at hc;subst hc;exact g8 hop hn h
 ·rename_i t a x hop;cases hn:FP P t with
  |none=>simp[hn]at hc
  |some n=>simp[hn]at hc;subst hc;exact ZU hop hn h
 ·rename_i x hop;injection hc with hc;subst hc;exact pF hop h
 ·rename_i op t x y t' hop;split at hc
  ·injection hc with hc;subst hc;exact YD hop h
  ·injection hc with hc;subst hc;exact YD hop h
  ·rename_i ht;split at hc
   ·rename_i e;injection hc with hc;subst hc;exact YB hop ht (neg:=false) (by simpa using e) h
   ·split at hc
    ·rename_i e;injection hc with hc;subst hc;exact YB hop ht (neg:=true) (by simpa using e) h
    ·cases hc
  ·rename_i e ht;split at hc
   ·split at hc
    ·rename_i e;injection hc with hc;subst hc;exact Yz hop ht (neg:=false) (by simpa using e) h
    ·split at hc
     ·rename_i e;injection hc with hc;subst hc;exact Yz hop ht (neg:=true) (by simpa using e) h
     ·cases hc
   ·cases hc
  ·rename_i fs ht;split at hc
   ·cases hc
   ·rename_i hg;have hg':P.eqGuardType P.depth t=false:=Sx hg
    split at hc
    ·rename_i n m hf ha;split at hc
     ·rename_i e;injection hc with hc;subst hc;exact LZ hop ha hg' hf (neg:=false) (by simpa using e) h
     ·split at hc
      ·rename_i e;injection hc with hc;subst hc;exact LZ hop ha hg' hf (neg:=true) (by simpa using e) h
      ·cases hc
    ·cases hc
  ·rename_i n0 e0 ht;split at hc
   ·cases hc
   ·rename_i hg;have hg':P.eqGuardType P.depth t=false:=Sx hg
    split at hc
    ·rename_i n m hf ha;split at hc
     ·rename_i e;injection hc with hc;subst hc;exact LZ hop ha hg' hf (neg:=false) (by simpa using e) h
     ·split at hc
      ·rename_i e;injection hc with hc;subst hc;exact LZ hop ha hg' hf (neg:=true) (by simpa using e) h
      ·cases hc
    ·cases hc
  ·rename_i d1 d2 d3 ht;split at hc
   ·rename_i e;injection hc with hc;subst hc;exact YA hop ht (neg:=false) (by simpa using e) h
   ·split at hc
    ·rename_i e;injection hc with hc;subst hc;exact YA hop ht (neg:=true) (by simpa using e) h
    ·cases hc
  ·cases hc
 ·rename_i op t x hop;injection hc with hc;subst hc;exact vU hop h
 ·rename_i src dst x hop;split at hc
  ·rename_i k0 k hs hd;injection hc with hc;subst hc;exact pM hop hs hd h
  ·rename_i e hs hd;split at hc
   ·rename_i he;injection hc with hc;subst hc;exact pP hop hs he hd h
   ·cases hc
  ·rename_i e hs hd;split at hc
   ·rename_i he;injection hc with hc;subst hc;exact pE hop hs hd he h
   ·cases hc
  ·cases hc
 ·rename_i t x lo hi mx hop;split at hc
  ·rename_i e ht;cases hs:FP P e with
   |none=>simp[hs]at hc
   |some s=>simp[hs]at hc;subst hc;exact ZV hop ht hs h
  ·rename_i ht;split at hc
   ·rename_i hm;have:mx=none:=Sx hm
    subst this;injection hc with hc;subst hc;exact gU hop ht h
   ·cases hc
  ·cases hc
 ·rename_i t x f hop;split at hc
  ·rename_i fs ht;split at hc
   ·rename_i fd hf;split at hc
    ·rename_i s hs;split at hc
     ·rename_i h1;injection hc with hc;subst hc;exact iD hop ht hf hs h1 h
     ·cases hc
    ·cases hc
   ·cases hc
  ·cases hc
 ·rename_i t x f hop;split at hc
  ·rename_i fs ht;split at hc
   ·rename_i fd hf;cases hn:D6 P fd.type with
    |none=>simp[hn]at hc
    |some n=>simp[hn]at hc;subst hc;exact pK hop ht hf hn h
   ·cases hc
  ·cases hc
 ·rename_i t x ix hop;split at hc
  ·rename_i e ht;cases hs:FP P e with
   |none=>simp[hs]at hc
   |some s=>simp[hs]at hc;subst hc;exact iC hop ht hs h
  ·rename_i n e ht;cases hs:FP P e with
   |none=>simp[hs]at hc
   |some s=>simp[hs]at hc;subst hc;exact iH hop ht hs h
  ·cases hc
 ·rename_i t x ix hop;split at hc
  ·rename_i n e ht;split at hc
   ·rename_i s a hs ha;injection hc with hc;subst hc;exact pJ hop ht hs ha h
   ·cases hc
  ·rename_i ht;injection hc with hc;subst hc;exact gV hop ht h
  ·cases hc
 ·rename_i x i hop;injection hc with hc;subst hc;exact pL hop h
 ·rename_i f a b hop;injection hc with hc;subst hc;exact pH hop h
 ·rename_i t l c hop;split at hc
  ·rename_i e ht;split at hc
   ·rename_i i z hi hz;split at hc
    ·rename_i hcond;injection hc with hc;subst hc;exact gZ hop ht hi hz hcond.1 hcond.2 h
    ·cases hc
   ·cases hc
  ·cases hc
 ·rename_i t hop;injection hc with hc;subst hc;exact ZX hop h
 ·rename_i t x k hop;split at hc
  ·rename_i kt e ht;split at hc
   ·rename_i hk he;injection hc with hc;subst hc;exact ZW hop ht hk he h
   ·cases hc
  ·cases hc
 ·rename_i t x k v hop;split at hc
  ·rename_i kt e ht;split at hc
   ·rename_i hk;injection hc with hc;subst hc;exact gY hop ht hk h
   ·cases hc
  ·cases hc
 ·rename_i c hop;split at hc
  ·rename_i f hcal;injection hc with hc;subst hc;exact iE hop hcal h
  ·rename_i hcal;split at hc
   ·rename_i t t' s x hat ha;split at hc
    ·rename_i e ht;split at hc
     ·rename_i i z hi hz;split at hc
      ·rename_i hcond;obtain⟨rfl,h1,h2,h3⟩:=hcond;injection hc with hc;subst hc;exact pQ hop hcal ha hat ht hi hz h1 h2 h3 h
      ·cases hc
     ·cases hc
    ·cases hc
   ·cases hc
  ·rename_i hcal;split at hc
   ·rename_i t x hat ha;split at hc
    ·rename_i e ht;injection hc with hc;subst hc;exact pI hop hcal ha hat ht h
    ·rename_i ht;injection hc with hc;subst hc;exact g9 hop hcal ha hat ht h
    ·rename_i n e ht;injection hc with hc;subst hc;exact iB hop hcal ha hat ht h
    ·cases hc
   ·cases hc
  ·rename_i hcal;split at hc
   ·rename_i x y ha;injection hc with hc;subst hc;exact gX (isMax:=true) (_t:=0) hop hcal ha h
   ·cases hc
  ·rename_i hcal;split at hc
   ·rename_i x y ha;injection hc with hc;subst hc;exact gX (isMax:=false) (_t:=0) hop hcal ha h
   ·cases hc
  ·cases hc
 ·cases hc
end
def tch:I->Bool
 | .new _| .box _| .load _ _| .store _ _ _| .call _ _| .app _ _ _ _| .mksl _ _ _ _| .mkmap| .mlook _ _| .mput _ _ _=>true
 |_=>false
def eE {P:Program} {i:I} {ρ:Operand->AV} {S:List Ac} {K:KT} (ht:tch i=false) (h:Cf P i ρ S K):Cf P i ρ S (λv rd upd new=>(rd=[]∧upd=[]∧new=[])∧K v rd upd new):=by
 cases i<;>simp only[tch,Bool.true_eq_false]at ht<;>clear ht<;>dsimp only[Cf]at h ⊢
 case mov=>exact⟨⟨by trivial,by trivial,by trivial⟩,h⟩
 case pick=>unfold Nk at h ⊢;split at h<;>simp_all
 case build=>unfold Hs at h ⊢;split at h<;>simp_all
 case bsl=>exact⟨h.1,⟨by trivial,by trivial,by trivial⟩,h.2⟩
 case nilc=>unfold Q3 at h ⊢;split at h<;>simp_all
 case bin op x y=>
  unfold T5 at h ⊢;split at h
  ·cases op<;>dsimp only[Dk]at h ⊢ <;>first|exact⟨h.1,⟨by trivial,by trivial,by trivial⟩,h.2⟩|exact⟨h.1,h.2.1,⟨by trivial,by trivial,by trivial⟩,h.2.2⟩
  ·cases op<;>dsimp only[W5]at h ⊢ <;>first|exact⟨⟨by trivial,by trivial,by trivial⟩,h⟩|exact h.elim
  ·exact h.elim
 case eqb=>unfold Xa at h ⊢;split at h<;>simp_all
 case eqa=>unfold Xb at h ⊢;split at h<;>simp_all
 case eqp=>unfold T3 at h ⊢;split at h<;>simp_all
 case eqf=>unfold T4 at h ⊢;split at h<;>simp_all
 case un=>unfold rR at h ⊢;split at h<;>simp_all
 case cvt=>unfold Xc at h ⊢;split at h<;>simp_all
 case b2s=>unfold Xd at h ⊢;split at h<;>simp_all
 case s2b=>unfold W6 at h ⊢;split at h<;>simp_all
 case slice=>
  unfold Eh at h ⊢;split at h
  ·split at h
   ·rename_i l hh hl hhh;simp only[];have⟨h1,h2,h3,h4,h5⟩:=h;refine⟨h1,h2,h3,h4,?_⟩;split at h5
    ·exact⟨⟨by trivial,by trivial,by trivial⟩,h5⟩
    ·exact⟨h5.1,⟨by trivial,by trivial,by trivial⟩,h5.2⟩
   ·exact h.elim
  ·exact h.elim
 case sstr=>
  unfold PL at h ⊢;split at h
  ·split at h
   ·rename_i l hh hl hhh;simp only[];exact⟨h.1,h.2.1,h.2.2.1,⟨by trivial,by trivial,by trivial⟩,h.2.2.2⟩
   ·exact h.elim
  ·exact h.elim
 case fadr=>unfold Kg at h ⊢;split at h<;>simp_all
 case fld=>unfold KV at h ⊢;(repeat' split at h)<;>simp_all
 case iadr=>
  unfold Lo at h ⊢;split at h
  ·exact⟨h.1,h.2.1,h.2.2.1,⟨by trivial,by trivial,by trivial⟩,h.2.2.2⟩
  ·exact⟨h.1,h.2.1,⟨by trivial,by trivial,by trivial⟩,h.2.2⟩
  ·exact h.elim
 case aadr=>unfold Lp at h ⊢;split at h<;>simp_all
 case idx=>unfold W9 KV at h ⊢;(repeat' split at h)<;>simp_all
 case sidx=>
  unfold PM at h ⊢;split at h
  ·exact⟨h.1,h.2.1,⟨by trivial,by trivial,by trivial⟩,h.2.2⟩
  ·exact h.elim
 case ext=>unfold W_ at h ⊢;(repeat' split at h)<;>simp_all
 case mkf=>exact⟨⟨by trivial,by trivial,by trivial⟩,h⟩
 case len=>unfold Nl at h ⊢;split at h<;>simp_all
 case lenc=>exact⟨⟨by trivial,by trivial,by trivial⟩,h⟩
 case mx=>unfold wS at h ⊢;split at h<;>simp_all
abbrev RO:=Option (Nat×Bool)×I×Option Nat
def Ef (tm:List AV) (d:Option Nat) (v:AV):List AV:=match d with
 |some t=>tm.set t v
 |none=>tm
def gdK (x:AV) (want:Bool) (run skip:Prop):Prop:=
 match x with
 | .lit (.bool b)=>if b=want then run else skip
 | .lit _=>skip
 |_=>False
def xU (a b:List Nat):Bool:=a.all λx=> !b.contains x
def OE (u:List (Nat×Nat)) (tr:List (List Nat×List Nat)):Bool:=
 u.all λp=>xU (tr.getD p.1 ([],[])).2 (tr.getD p.2 ([],[])).1&&xU (tr.getD p.2 ([],[])).2 (tr.getD p.1 ([],[])).1
def DZ (P:Program):List RO->List (Nat×Nat)->List (List Nat×List Nat)->List AV->List Ac->(List AV->List Ac->Prop)->Prop
 |[],u,tr,tm,S,Q=>OE u tr=true∧Q tm S
 |(none,i,d)::rest,u,tr,tm,S,Q=>Cf P i (ev tm) S λv rd upd new=>DZ P rest u (tr++[(rd,upd.map (·.1)++(BC S.length new).map (·.1))]) (Ef tm d v) (Cv S upd++new) Q
 |(some (t,want),i,d)::rest,u,tr,tm,S,Q=>gdK (tm.getD t .any) want
    (Cf P i (ev tm) S λv rd upd new=>DZ P rest u (tr++[(rd,upd.map (·.1)++(BC S.length new).map (·.1))]) (Ef tm d v) (Cv S upd++new) Q)
    (DZ P rest u (tr++[([],[])]) (Ef tm d (.lit undef)) S Q)
structure JQ where
 ran:Bool
 v:AV
 rd:List Nat
 upd:List (Nat×Ac)
 new:List Ac
def sT (dst:Nat->Option Nat) (r:Nat->JQ) (tm:List AV):Nat->List AV
 |0=>tm
 |i+1=>Ef (sT dst r tm i) (dst i) (r i).v
def sS (r:Nat->JQ) (S:List Ac):Nat->List Ac
 |0=>S
 |i+1=>Cv (sS r S i) (r i).upd++(r i).new
def Gx (P:Program) (o:Oper) (i:I) (g:Option (Nat×Bool)) (tm:List AV) (S:List Ac) (r:JQ):Prop:=
 if r.ran then(∀t w,g=some (t,w)->tm.getD t .any=.lit (.bool w))∧Eff P o (ev tm) S r.v r.rd r.upd r.new∧(∀p∈r.upd,p.1∈r.rd)∧(∀i∈r.rd,i<S.length)∧(tch i=false->r.rd=[]∧r.upd=[]∧r.new=[])
 else(∃t w u,g=some (t,w)∧tm.getD t .any=.lit u∧u≠ .bool w)∧r.v=.lit undef∧r.rd=[]∧r.upd=[]∧r.new=[]
def OL (r:JQ) (N:Nat):List Nat×List Nat:=(r.rd,r.upd.map (·.1)++(BC N r.new).map (·.1))
theorem SM (dst:Nat->Option Nat) (r:Nat->JQ) (tm:List AV) (i:Nat):sT (λj=>dst (j+1)) (λj=>r (j+1)) (Ef tm (dst 0) (r 0).v) i=sT dst r tm (i+1):=by
 induction i with
 |zero=>rfl
 |succ i ih=>simp only[sT,ih]
theorem MJ (r:Nat->JQ) (S:List Ac) (i:Nat):sS (λj=>r (j+1)) (Cv S (r 0).upd++(r 0).new) i=sS r S (i+1):=by
 induction i with
 |zero=>rfl
 |succ i ih=>simp only[sS,ih]
def Qj {P:Program}:∀(os:List Oper) (cs:List RO) (u:List (Nat×Nat)) (tr:List (List Nat×List Nat)) (tm:List AV) (S:List Ac) (Q:List AV->List Ac->Prop),
 os.length=cs.length->(∀(j:Nat) (o:Oper) (c:RO),os[j]? =some o->cs[j]? =some c->ID P o=some c.2.1∧o.dst=c.2.2)->DZ P cs u tr tm S Q->
 ∃r:Nat->JQ,(∀(j:Nat) (o:Oper) (c:RO),os[j]? =some o->cs[j]? =some c->Gx P o c.2.1 c.1 (sT (λj=>(os[j]?).bind (·.dst)) r tm j) (sS r S j) (r j))∧
  OE u (tr++(List.range os.length).map λj=>OL (r j) (sS r S j).length)=true∧Q (sT (λj=>(os[j]?).bind (·.dst)) r tm os.length) (sS r S os.length):=by
 intro os
 induction os with
 |nil=>
  intro cs u tr tm S Q hl hc h;have:cs=[]:=eq_nil_of_length_eq_zero (by simpa using hl.symm);subst this;simp only[DZ]at h;exact⟨λ_=>⟨false,.any,[],[],[]⟩,λj o c ho=>by simp at ho,by simpa using h.1,h.2⟩
 |cons o os ih=>
  intro cs u tr tm S Q hl hc h;cases cs with
  |nil=>simp at hl
  |cons c cs=>
   have⟨g,i,d⟩:=c;have⟨hco,hd⟩:=hc 0 o (g,i,d) rfl rfl;simp only at hco hd;subst hd;have hcs:∀(j:Nat) (o':Oper) (c:RO),os[j]? =some o'->cs[j]? =some c->ID P o'=some c.2.1∧o'.dst=c.2.2:=λj o' c h1 h2=>hc (j+1) o' c (by simpa using h1) (by simpa using h2)
   have hl':os.length=cs.length:=Sx hl
   have fin:∀(r0:JQ),Gx P o i g tm S r0->DZ P cs u (tr++[OL r0 S.length]) (Ef tm o.dst r0.v) (Cv S r0.upd++r0.new) Q->
    ∃r:Nat->JQ,(∀(j:Nat) (o':Oper) (c:RO),(o::os)[j]? =some o'->((g,i,o.dst)::cs)[j]? =some c->Gx P o' c.2.1 c.1 (sT (λj=>((o::os)[j]?).bind (·.dst)) r tm j) (sS r S j) (r j))∧
     OE u (tr++(List.range (o::os).length).map λj=>OL (r j) (sS r S j).length)=true∧Q (sT (λj=>((o::os)[j]?).bind (·.dst)) r tm (o::os).length) (sS r S (o::os).length):=by
    intro r0 h0 hrest;have⟨r',h1,h2,h3⟩:=ih cs u _ _ _ Q hl' hcs hrest;refine⟨λj=>match j with|0=>r0|j+1=>r' j,λj o' c ho hc'=>?_,?_,?_⟩
    ·cases j with
     |zero=>simp at ho hc';subst ho hc';exact h0
     |succ j=>
      have:=h1 j o' c (by simpa using ho) (by simpa using hc');rw[←SM,←MJ];exact this
    ·rw[length_cons,range_succ_eq_map];rw[append_assoc]at h2;simp only[map_cons,map_map,singleton_append]at h2 ⊢;have e:(λj=>OL (r' j) (sS r' (Cv S r0.upd++r0.new) j).length)=(λj=>OL ((λj=>match j with|0=>r0|j+1=>r' j:Nat->JQ) j) (sS (λj=>match j with|0=>r0|j+1=>r' j) S j).length)∘Nat.succ:=by
      funext j;simp only[Function.comp,Nat.succ_eq_add_one];rw[←MJ]
     rw[e]at h2;exact h2
    ·rw[length_cons,←SM,←MJ];exact h3
   have run:Cf P i (ev tm) S (λv rd upd new=>DZ P cs u (tr++[(rd,upd.map (·.1)++(BC S.length new).map (·.1))]) (Ef tm o.dst v) (Cv S upd++new) Q)->(∀t w,g=some (t,w)->tm.getD t .any=.lit (.bool w))->
    ∃r0,Gx P o i g tm S r0∧DZ P cs u (tr++[OL r0 S.length]) (Ef tm o.dst r0.v) (Cv S r0.upd++r0.new) Q:=by
    intro he hg;by_cases ht:tch i=false
    ·have⟨v,rd,upd,new,h1,h2,h2',h2'',h3⟩:=NU hco (eE ht he);exact⟨⟨true,v,rd,upd,new⟩,by simp only[Gx,if_true];exact⟨hg,h1,h2,h2',λ_=>h2''⟩,h3⟩
    ·have⟨v,rd,upd,new,h1,h2,h2',h3⟩:=NU hco he;exact⟨⟨true,v,rd,upd,new⟩,by simp only[Gx,if_true];exact⟨hg,h1,h2,h2',λe=>(ht e).elim⟩,h3⟩
   cases g with
   |none=>
    simp only[DZ]at h;have⟨r0,h1,h2⟩:=run h (λt w e=>by cases e);exact fin r0 h1 h2
   |some g=>
    have⟨t,want⟩:=g;simp only[DZ,gdK]at h;have skip:∀u',tm.getD t .any=.lit u'->u'≠ .bool want->DZ P cs u (tr++[([],[])]) (Ef tm o.dst (.lit undef)) S Q->∃r0,Gx P o i (some (t,want)) tm S r0∧DZ P cs u (tr++[OL r0 S.length]) (Ef tm o.dst r0.v) (Cv S r0.upd++r0.new) Q:=by
     intro u' hu' hne hk;exact⟨⟨false,.lit undef,[],[],[]⟩,by unfold Gx;rw[if_neg Si];exact⟨⟨t,want,u',rfl,hu',hne⟩,rfl,rfl,rfl,rfl⟩,by simpa[OL,BC]using hk⟩
    split at h
    ·rename_i b hb;split at h
     ·rename_i hbw;subst hbw;have⟨r0,h1,h2⟩:=run h (λt' w e=>by injection e with e;injection e with e1 e2;subst e1 e2;exact hb);exact fin r0 h1 h2
     ·rename_i hbw;have⟨r0,h1,h2⟩:=skip _ hb (λe=>by injection e with e;exact hbw e) h;exact fin r0 h1 h2
    ·rename_i x u' hne hu';have⟨r0,h1,h2⟩:=skip u' hu' (λe=>hne want (by rw[e])) h;exact fin r0 h1 h2
    ·exact h.elim
def Fw (ro:Option Nat):Fence:={Fence.wide with round:=ro}
def pZ {ro:Option Nat} {P:Program} {row:String} {args:Array Value} {w:World} {R:Value->World->Prop} (h:Rows P row args w R):RowsIn (Fw ro) 0 P row args w R:=
 λc cs _=>let⟨v,w',r,s⟩:=h c cs;⟨v,w',r,stepsIn_wide.2 s⟩
def mP {ro:Option Nat} {P:Program} {f:FuncId} {args:Array Value} {w:World} {R:Ending->World->Prop} (h:Calls P f args w R):CallsIn (Fw ro) 0 P f args w R:=by
 have:CallsIn Fence.wide 0 P f args w R:=callsIn_wide.2 h;exact this
def Gf {P:Program} {o:Oper} (hd:∀c,o.op≠ .defer c) {ro:Option Nat} {a:Act} {w:World} {K:Act->World->Prop} {Q:Exit->Act->World->Prop} (h:OwpG P o a w K Q):o.wpIn (Fw ro) 0 P a w K Q:=by
 refine⟨λ_ _=>trivial,?_⟩;rw[Oper.semAt_eq _ _ _ hd];rcases h with h|⟨l,f,tmps,as,body,hrun,hr⟩
 ·unfold Oper.wp at h;generalize(execOp a.eval o).run P w=r at h;cases r with
  |ok x w'=>
   cases x<;>simp only[Oper.upon,Oper.uponIn]at h ⊢ <;>first
    |exact h
    |exact⟨λh0=>by simp[Fw,Fence.wide]at h0,mP h⟩
    |exact⟨λh0=>by simp[Fw,Fence.wide]at h0,pZ h⟩
  |halt x w'=>cases x<;>simp only[Oper.upon,Oper.uponIn]at h ⊢ <;>exact h
 ·rw[hrun];refine⟨λh0=>by simp[Fw,Fence.wide]at h0,?_⟩;have:RoundIn (Fw ro) 0 P l f tmps as body w λe w'=>∃v,e=.returned v∧K (a.put o.dst v) w':=hr
  refine this.mono ?_;rintro e w' ⟨v,rfl,hK⟩;exact hK
def Kv {P:Program} {o:Oper} {i:I} (h:ID P o=some i):∀c,o.op≠ .defer c:=by
 intro c hc;unfold ID at h;rw[hc]at h;cases h
def Jm (w0 w:World) (ds:List Deferred):Prop:=
 ∃Ds:List Nat,Ds.Nodup∧ds=Ds.map (λD=>{target:=.collected D,args:=#[]})∧∀D∈Ds,w0.heap.size≤D∧w.heap[D]? =some (.deferred (some []))
theorem Jm.nil (w0 w:World):Jm w0 w []:=⟨[],Si,rfl,λD h=>by simp at h⟩
def tO {G:Gh} {T:List Ac} {w:World} (h:Wd G T w) {i b:Nat} (hb:blk G T i=some b):∃o,w.heap[b]? =some o∧∀d,o≠ .deferred d:=by
 unfold blk at hb;split at hb
 ·rename_i xs hi;have⟨b',cs,t,h1,h2,_⟩:=h.obj i xs hi;rw[h1]at hb;injection hb with hb;subst hb;exact⟨_,h2,Si⟩
 ·rename_i k n hi;have⟨_,A,c,h1,h2,h3,h4⟩:=h.row i k n hi;rw[h1]at hb;split at hb
  ·rename_i a _ c' heq;split at hb
   ·rename_i hlt;injection heq with heq;injection heq with e1 e2 e3;subst e1 e3;have⟨b',cs,t,h5,h6,_⟩:=h4 hlt;injection h5 with h5;injection hb with hb;rw[←hb,h5];exact⟨_,h6,Si⟩
   ·cases hb
  ·cases hb
 ·rename_i k n xs hi;have⟨_,_,A,c,h1,h2,h3,_,h4⟩:=h.mrow i k n xs hi;rw[h1]at hb;split at hb
  ·rename_i a _ c' heq;split at hb
   ·rename_i hlt;injection heq with heq;injection heq with e1 e2 e3;subst e1 e3;have⟨b',cs,t,h5,h6,_⟩:=h4 hlt;injection h5 with h5;injection hb with hb;rw[←hb,h5];exact⟨_,h6,Si⟩
   ·cases hb
  ·cases hb
 ·rename_i o xs hi;have⟨b',vs,h1,h2,_⟩:=h.raw i o xs hi;rw[h1]at hb;injection hb with hb;subst hb;exact⟨_,h2,by cases o<;>simp[Fp.obj]⟩
 ·cases hb
theorem Jm.left {w0 w w':World} {ds:List Deferred} {G G':Gh} {S S':List Ac} (h:Jm w0 w ds) (hw:Wd G S w) (hl:AS G S w G' S' w'):Jm w0 w' ds:=by
 have⟨Ds,h1,h2,h3⟩:=h;refine⟨Ds,h1,h2,λD hD=>⟨(h3 D hD).1,?_⟩⟩;have h4:=(h3 D hD).2;refine(hl.kept.block D (Array.getElem?_eq_some_iff.1 h4).1 λi hi=>?_).trans h4;have⟨o,g1,g2⟩:=tO hw hi;rw[h4]at g1;injection g1 with g1;exact g2 _ g1.symm
theorem Wd.turnOut {G:Gh} {T:List Ac} {w:World} (h:Wd G T w) {D:Nat} {d d':Option (List Deferred)} (hD:w.heap[D]? =some (.deferred d)):Wd G T (w.putObj D (.deferred d')):=by
 have other:∀{b:Nat} {o:Obj},w.heap[b]? =some o->(∀d,o≠ .deferred d)->(w.putObj D (.deferred d')).heap[b]? =some o:=λ{b o} hb ho=>by
  rw[World.putObj_heap_other]
  ·exact hb
  ·rintro rfl;rw[hD]at hb;injection hb with hb;exact ho _ hb.symm
 refine⟨λb i v hv=>?_,h.dom,λi xs hi=>?_,λj k n hj=>?_,λj k n xs hj=>?_,λi o xs hi=>?_,h.sep⟩
 ·have hc:=h.imm b i v hv;have⟨o,ho,hk⟩:=cells_of_cell hc;refine(World.cell?_of_block (w:=w) ?_).trans hc;rw[ho];exact other ho (λd e=>by subst e;simp[Obj.isCells]at hk)
 ·have⟨b,cs,t,h1,h2,h3,h4,h5⟩:=h.obj i xs hi;exact⟨b,cs,t,h1,other h2 Si,h3,h4,h5⟩
 ·have⟨h0,A,c,h1,h2,h3,h4⟩:=h.row j k n hj;refine⟨h0,A,c,h1,h2,h3,λhlt=>?_⟩;have⟨b,cs,t,g1,g2,g3,g4⟩:=h4 hlt;exact⟨b,cs,t,g1,other g2 Si,g3,g4⟩
 ·have⟨h0,hl,A,c,h1,h2,h3,hc6,h4⟩:=h.mrow j k n xs hj;refine⟨h0,hl,A,c,h1,h2,h3,hc6,λhlt=>?_⟩;have⟨b,cs,t,g1,g2,g3,g4⟩:=h4 hlt;exact⟨b,cs,t,g1,other g2 Si,g3,g4⟩
 ·have⟨b,vs,h1,h2,h3⟩:=h.raw i o xs hi;exact⟨b,vs,h1,other h2 (by cases o<;>simp[Fp.obj]),h3⟩
structure Cz (G0:Gh) (S0:List Ac) (w0:World) (tm:List AV) (S:List Ac) (G:Gh) (a:Act) (w:World):Prop where
 left:AS G0 S0 w0 G S w
 size:a.tmps.size=tm.length
 rep:∀(t:Nat) (x:AV) (v:Value),tm[t]? =some x->a.tmps[t]? =some v->Bg G x v
 defers:Jm w0 w a.defers
 wd0:Wd G0 S0 w0
theorem Cz.ev {G0:Gh} {S0:List Ac} {w0:World} {tm:List AV} {S:List Ac} {G:Gh} {a:Act} {w:World} (h:Cz G0 S0 w0 tm S G a w) (x:Operand):Bg G (ev tm x) (a.eval x):=by
 cases x with
 |tmp t=>
  simp only[Proofs.YtaajkppmibfgfaaGreat.ev,Act.eval];by_cases ht:t<tm.length
  ·have h1:=getElem?_eq_getElem ht;have h2:=Array.getElem?_eq_getElem (show t<a.tmps.size by rw[h.size];exact ht);have:=h.rep t _ _ h1 h2;simpa[ht,h.size]using this
  ·simp[ht];exact .any _
 |const v=>exact qB G v
 |global g=>exact .any _
 |func f=>
  exact .fn Si Si (λj x v h=>by simp at h) (λj x v h=>by simp at h)
theorem Cz.put {G0:Gh} {S0:List Ac} {w0:World} {tm:List AV} {S S':List Ac} {G G':Gh} {a:Act} {w w':World} (h:Cz G0 S0 w0 tm S G a w) (hl:AS G S w G' S' w') {x:AV} {v:Value} (hv:Bg G' x v) (d:Option Nat):
 Cz G0 S0 w0 (Ef tm d x) S' G' (a.put d v) w':=by
 refine⟨h.left.trans hl,?_,λt y u hy hu=>?_,?_,h.wd0⟩
 ·cases d<;>simp[Act.put,Ef,h.size]
 ·cases d with
  |none=>exact(h.rep t y u hy hu).mono hl.le
  |some d=>
   simp only[Ef,Act.put]at hy hu;by_cases e:t=d
   ·subst e;rw[getElem?_set]at hy;rw[Array.getElem?_setIfInBounds]at hu;simp only[if_true]at hy hu;split at hy
    ·injection hy with hy;subst hy;rw[if_pos (by rw[h.size];assumption)]at hu;injection hu with hu;subst hu;exact hv
    ·cases hy
   ·rw[getElem?_set_ne (Ne.symm e)]at hy;rw[Array.getElem?_setIfInBounds_ne (Ne.symm e)]at hu;exact(h.rep t y u hy hu).mono hl.le
 ·have:(a.put d v).defers=a.defers:=by cases d<;>rfl
  rw[this];exact h.defers.left h.left.wd hl
theorem AS.dead {G:Gh} {S:List Ac} {w:World} (h:Wd G S w) (n:Nat):AS G S w G (S++List.replicate n .dead) w:=by
 have hold:∀{i:Nat} {o:Ac},(S++List.replicate n .dead)[i]? =some o->o≠ .dead->S[i]? =some o:=λ{i o} e hne=>by
  rw[getElem?_append]at e;split at e
  ·exact e
  ·rw[getElem?_replicate]at e;split at e
   ·injection e with e;exact(hne e.symm).elim
   ·cases e
 have hblk:∀i,blk G (S++List.replicate n .dead) i=blk G S i:=by
  intro i;by_cases hi:i<S.length
  ·simp[blk,getElem?_append_left hi]
  ·have h1:S[i]? =none:=getElem?_eq_none Om;cases he:(S++List.replicate n Ac.dead)[i]? with
   |none=>simp[blk,he,h1]
   |some o=>
    cases o with
    |dead=>simp[blk,he,h1]
    |cells xs=>have:=hold he Si;rw[h1]at this;cases this
    |row k m=>have:=hold he Si;rw[h1]at this;cases this
    |mrow k m xs=>have:=hold he Si;rw[h1]at this;cases this
    |raw o xs=>have:=hold he Si;rw[h1]at this;cases this
 refine⟨Gh.Le.refl _,⟨h.imm,λi hi=>?_,λi xs hi=>h.obj i xs (hold hi Si),λj k m hj=>h.row j k m (hold hj Si),λj k m xs hj=>h.mrow j k m xs (hold hj Si),λi o xs hi=>h.raw i o xs (hold hi Si),λi j b hi hj=>h.sep i j b (by rw[←hblk];exact hi) (by rw[←hblk];exact hj)⟩,CE.refl _ _,λi b hb=>.inr ⟨i,by rw[←hblk];exact hb⟩,λ_ _ _ h=>.inl h⟩;by_cases hlt:i<S.length
 ·rw[getElem?_append_left hlt]at hi;exact h.dom i hi
 ·exact h.dom i (.inl (getElem?_eq_none Om))
def J_ {n:Nat} {l:List Ac} {p:Nat×Ac} (h:p∈BC n l):n≤p.1∧p.1<n+l.length∧l[p.1-n]? =some p.2:=by
 induction l generalizing n with
 |nil=>cases h
 |cons o l ih=>
  simp only[BC,mem_cons]at h;rcases h with rfl|h
  ·simp
  ·have⟨h1,h2,h3⟩:=ih h;refine⟨Om,by simp;omega,?_⟩;rw[show p.1-n=(p.1-(n+1))+1 by omega];simpa using h3
theorem Sj (S:List Ac) (new:List Ac):∀(n:Nat),n=S.length->Cv (S++List.replicate new.length .dead) (BC n new)=S++new:=by
 induction new generalizing S with
 |nil=>intro n hn;simp[BC]
 |cons o new ih=>
  intro n hn;subst hn;simp only[length_cons,BC,CF,replicate_succ];have:(S++Ac.dead::List.replicate new.length Ac.dead).set S.length o=(S++[o])++List.replicate new.length Ac.dead:=by
   rw[set_append_right _ _ (Nat.le_refl _)];simp
  rw[this,ih (S++[o]) (S.length+1) Si];simp
theorem CZ (T:List Ac) (u v:List (Nat×Ac)):Cv T (u++v)=Cv (Cv T u) v:=by
 induction u generalizing T with
 |nil=>rfl
 |cons p u ih=>simp[ih]
theorem Pb (S R:List Ac) (u:List (Nat×Ac)) (h:∀p∈u,p.1<S.length):Cv (S++R) u=Cv S u++R:=by
 induction u generalizing S with
 |nil=>rfl
 |cons p u ih=>
  rw[CF,CF,set_append_left _ _ (h p Si),ih _ (λq hq=>by simpa using h q (by simp[hq]))]
section
variable {P:Program}
def ZS {o:Oper} {G0:Gh} {S0:List Ac} {w0:World} {tm:List AV} {S:List Ac} {G:Gh} {a:Act} {w:World} (hz:Cz G0 S0 w0 tm S G a w) {v:AV} {rd:List Nat} {upd:List (Nat×Ac)} {new:List Ac}
 (he:Eff P o (ev tm) S v rd upd new) (hu:∀p∈upd,p.1∈rd) (hrd:∀i∈rd,i<S.length) (K:Act->World->Prop) (Q:Exit->Act->World->Prop)
 (hk:∀G' a' w',Cz G0 S0 w0 (Ef tm o.dst v) (Cv S upd++new) G' a' w'->K a' w'):OwpG P o a w K Q:=by
 have hd:=AS.dead hz.left.wd new.length;refine he (S++List.replicate new.length .dead) (λi hi=>getElem?_append_left (hrd i hi)) (λp hp=>?_) G a w hd.wd (λx _=>hz.ev x) K Q λv' w' G' hv hl=>hk G' _ _ ?_
 ·have⟨h1,h2,_⟩:=J_ hp;rw[getElem?_append_right h1,getElem?_replicate,if_pos Om]
 ·have e:Cv (S++List.replicate new.length .dead) (upd++BC S.length new)=Cv S upd++new:=by
   rw[CZ,Pb _ _ _ (λp hp=>hrd _ (hu p hp))];exact Sj _ _ _ Si
  rw[e]at hl;exact hz.put (hd.trans hl) hv o.dst
end
def Gs (P:Program) (ops:Array Oper):Option (List RO):=
 LN (λo:Oper=>match ID P o with
  |none=>none
  |some i=>match o.guard with
   |none=>some (none,i,o.dst)
   |some (j,want)=>match(ops[j]?).bind (·.dst)with
    |some t=>some (some (t,want),i,o.dst)
    |none=>none) ops.toList
section
variable {P:Program} {ops:Array Oper} {cs:List RO}
def NX (h:Gs P ops=some cs):ops.toList.length=cs.length∧∀(j:Nat) (o:Oper) (c:RO),ops.toList[j]? =some o->cs[j]? =some c->
 (ID P o=some c.2.1∧o.dst=c.2.2)∧(o.guard=none∧c.1=none∨∃g want t,o.guard=some (g,want)∧(ops[g]?).bind (·.dst)=some t∧c.1=some (t,want)):=by
 have⟨h1,h2⟩:=Tq h;refine⟨h1,λj o c ho hc=>?_⟩;have e:=h2 j o c ho hc;split at e
 ·cases e
 ·rename_i i hi;split at e
  ·rename_i hg;injection e with e;subst e;exact⟨⟨hi,rfl⟩,.inl ⟨hg,rfl⟩⟩
  ·rename_i g want hg;split at e
   ·rename_i t ht;injection e with e;subst e;exact⟨⟨hi,rfl⟩,.inr ⟨g,want,t,hg,ht,rfl⟩⟩
   ·cases e
def O9 {G0:Gh} {S0:List Ac} {w0:World} {tm:List AV} {S:List Ac} {G:Gh} {a:Act} {w:World} (hz:Cz G0 S0 w0 tm S G a w) {o:Oper} {i:I} {c:Option (Nat×Bool)} {tm':List AV} {S':List Ac} {r:JQ}
 (hg:o.guard=none∧c=none∨∃g want t,o.guard=some (g,want)∧(ops[g]?).bind (·.dst)=some t∧c=some (t,want)) (htm:∀t w,c=some (t,w)->tm.getD t .any=tm'.getD t .any) (hr:Gx P o i c tm' S' r):
 Region.wanted o (yielded ops a.tmps)=r.ran:=by
 have look:∀{t:Nat} {u:Value},tm.getD t .any=.lit u->a.tmps[t]? =some u:=λ{t u} e=>by
  by_cases ht:t<tm.length
  ·have h1:tm[t]? =some (.lit u):=by rw[←e];simp[ht]
   have h2:=Array.getElem?_eq_getElem (show t<a.tmps.size by rw[hz.size];exact ht);rw[h2,AY (hz.rep t _ _ h1 h2)]
  ·simp[ht]at e
 unfold Gx at hr;cases hran:r.ran with
 |true=>
  rw[hran,if_pos rfl]at hr;rcases hg with⟨h1,_⟩|⟨g,want,t,h1,h2,h3⟩
  ·simp[Region.wanted,h1]
  ·have e:=look ((htm t want h3).trans (hr.1 t want h3));simp[Region.wanted,h1,yielded,h2,e]
 |false=>
  rw[hran,if_neg Si]at hr;have⟨⟨t,want,u,hc,hu,hne⟩,_⟩:=hr;rcases hg with⟨_,h1⟩|⟨g,want',t',h1,h2,h3⟩
  ·rw[h1]at hc;cases hc
  ·rw[h3]at hc;injection hc with hc;injection hc with e1 e2;subst e1 e2;have e:=look ((htm t' want' h3).trans hu);simp only[Region.wanted,h1,yielded,h2,Option.bind_some,e];cases u<;>simp;rintro rfl;exact hne rfl
def Pw {ro:Option Nat} {G0:Gh} {S0:List Ac} {w0:World} {tm:List AV} {S:List Ac} {G:Gh} {a:Act} {w:World} (hc:Gs P ops=some cs) (hz:Cz G0 S0 w0 tm S G a w) {QA:List AV->List Ac->Prop} (h:DZ P cs [] [] tm S QA)
 (Q:Exit->Act->World->Prop) (hQ:∀tm' S' G' a' w',Cz G0 S0 w0 tm' S' G' a' w'->QA tm' S'->Q .normal a' w'):wpOpsIn (Fw ro) 0 P ops Q (List.range ops.size) a w:=by
 have⟨hl,hat⟩:=NX hc;have⟨r,hrec,_,hfin⟩:=Qj ops.toList cs [] [] tm S QA hl (λj o c h1 h2=>(hat j o c h1 h2).1) h;have key:∀(k i:Nat) (G:Gh) (a:Act) (w:World),i+k=ops.size->Cz G0 S0 w0 (sT (λj=>(ops.toList[j]?).bind (·.dst)) r tm i) (sS r S i) G a w->wpOpsIn (Fw ro) 0 P ops Q (range' i k) a w:=by
  intro k
  induction k with
  |zero=>
   intro i G a w hi hz;have e:i=ops.toList.length:=by simp;omega
   subst e;exact hQ _ _ _ _ _ hz hfin
  |succ k ih=>
   intro i G a w hi hz;have hlt:i<ops.size:=Om
   have ho:ops[i]? =some ops[i]:=Array.getElem?_eq_getElem hlt;have hol:ops.toList[i]? =some ops[i]:=by simp
   have hcl:cs[i]? =some (cs[i]'(by rw[←hl];simpa using hlt)):=getElem?_eq_getElem _;have⟨hco,hg⟩:=hat i _ _ hol hcl;have hr:=hrec i _ _ hol hcl;have hw:=O9 (ops:=ops) hz hg (λt w e=>rfl) hr;simp only[range'_succ,wpOpsIn,ho,hw];unfold Gx at hr;have hnext:∀{x:AV},Ef (sT (λj=>(ops.toList[j]?).bind (·.dst)) r tm i) (ops[i]).dst (r i).v=sT (λj=>(ops.toList[j]?).bind (·.dst)) r tm (i+1):=λ{x}=>by
    simp only[sT,hol,Option.bind_some]
   cases hran:(r i).ran with
   |true=>
    rw[hran,if_pos rfl]at hr;have⟨_,he,hu,hrd,_⟩:=hr;simp only[if_true];refine Gf (Kv hco.1) ?_;refine ZS hz he hu hrd _ _ λG' a' w' hz'=>ih (i+1) G' a' w' Om ?_
    rw[hnext (x:=.any)]at hz';exact hz'
   |false=>
    rw[hran,if_neg Si]at hr;have⟨_,hv,hrd,hu,hn⟩:=hr;simp only[Bool.false_eq_true,if_false];refine⟨λ_ _=>trivial,ih (i+1) G _ w Om ?_⟩;have:=hz.put (AS.refl hz.left.wd) (x:=.lit undef) (v:=undef) (.lit _) (ops[i]).dst;rw[←hv,hnext (x:=.any)]at this;simpa[sS,hu,hn]using this
 have:=key ops.size 0 G a w Om hz;rwa[range_eq_range']
def SS {ro:Option Nat} {id:Nat} {G0:Gh} {S0:List Ac} {w0:World} {tm:List AV} {S:List Ac} {G:Gh} {a:Act} {w:World} (hc:Gs P ops=some cs) (hz:Cz G0 S0 w0 tm S G a w) {QA:List AV->List Ac->Prop} (h:DZ P cs [] [] tm S QA)
 (Q:Exit->Act->World->Prop) (hQ:∀tm' S' G' a' w',Cz G0 S0 w0 tm' S' G' a' w'->QA tm' S'->Q .normal a' w'):(Code.region id ops false).wpIn (Fw ro) 0 P Q a w:=wpIn_region (Pw hc hz h Q hQ)
end
def NV (o:Oper):List Nat:=(o.after.toList.filter λe=>Region.binds .any e).map (·.on)
def mZ:List Oper->List Nat->List Nat
 |[],acc=>acc
 |o::os,acc=>mZ os (acc++[(NV o).foldl (λs e=>s|||2^e|||acc.getD e 0) 0])
def gM (xs:List Operand):List Nat:=xs.filterMap λ | .tmp t=>some t|_=>none
def D_ (o:Oper) (c:RO):List Nat:=gM o.op.operands.toList++o.dst.toList++(match c.1 with|some (t,_)=>[t]|none=>[])
def nL (o:Oper) (c:RO) (o':Oper) (c':RO):Bool:=
 (match o.dst with|some d=> !(D_ o' c').contains d|none=>true)&&(match o'.dst with|some d=> !(D_ o c).contains d|none=>true)
def jL (n:Nat):List (Nat×Nat):=(List.range n).flatMap λk=>(List.range k).map λi=>(i,k)
def Yq (n:Nat) (bef:List Nat):List (Nat×Nat):=(jL n).filter λp=> !(bef.getD p.2 0).testBit p.1
def KH (cs:List RO) (i:Nat):Bool:=match cs[i]? with|some c=>tch c.2.1|none=>false
def pR (ops:List Oper) (cs:List RO) (u:List (Nat×Nat)):Bool:=
 u.all λp=>match ops[p.1]?,cs[p.1]?,ops[p.2]?,cs[p.2]? with
  |some o,some c,some o',some c'=>nL o c o' c'
  |_,_,_,_=>true
def Gr (P:Program) (ops:Array Oper) (draw:Bool):Option (List RO×List (Nat×Nat)):=
 match Gs P ops with
 |none=>none
 |some cs=>if draw then
   let u:=Yq ops.size (mZ ops.toList [])
   if P.follows .mixedOrders&&(ops.toList.zipIdx.all λp=>(NV p.1).all (· <p.2))&&pR ops.toList cs u then some (cs,u.filter λp=>KH cs p.1&&KH cs p.2)else none
  else some (cs,[])
def PA {n i k:Nat} (h:i<k) (hk:k<n):(i,k)∈jL n:=by
 simp only[jL,mem_flatMap,mem_range,mem_map];exact⟨k,hk,i,h,rfl⟩
def LD (D:Nat->Prop):∀(os:List Oper) (acc:List Nat),(∀(k:Nat) (o:Oper),os[k]? =some o->D (acc.length+k)->∀e∈NV o,D e)->(∀k,k<acc.length->D k->∀i,(acc.getD k 0).testBit i=true->D i)->
 ∀k,k<acc.length+os.length->D k->∀i,((mZ os acc).getD k 0).testBit i=true->D i:=by
 intro os
 induction os with
 |nil=>intro acc _ h k hk;exact h k (by simpa using hk)
 |cons o os ih=>
  intro acc hd h k hk hDk i hi;simp only[mZ]at hi;refine ih (acc++[(NV o).foldl (λs e=>s|||2^e|||acc.getD e 0) 0]) (λk o' ho hD=>hd (k+1) o' (by simpa using ho) (by rw[←Nat.add_assoc,Nat.add_right_comm];simpa using hD)) (λk' hk' hD' j hj=>?_) k (by simp at hk ⊢;omega) hDk i hi;by_cases e:k'<acc.length
  ·refine h k' e hD' j ?_;simpa[getElem?_append_left e]using hj
  ·have hk0:k'=acc.length:=by simp at hk';omega
   subst hk0;have hj':((NV o).foldl (λs e=>s|||2^e|||acc.getD e 0) 0).testBit j=true:=Sx hj
   have hdir:=hd 0 o rfl (by simpa using hD');have key:∀(l:List Nat) (s:Nat),(∀e∈l,D e)->(l.foldl (λs e=>s|||2^e|||acc.getD e 0) s).testBit j=true->s.testBit j=true∨D j:=by
    intro l
    induction l with
    |nil=>intro s _ h;exact .inl h
    |cons e l ihl=>
     intro s hl hs;rcases ihl _ (λx hx=>hl x (by simp[hx])) hs with h1|h1
     ·rw[Nat.testBit_or,Nat.testBit_or]at h1;simp only[Bool.or_eq_true]at h1;rcases h1 with(h1|h1)|h1
      ·exact .inl h1
      ·rw[Nat.testBit_two_pow]at h1;have:e=j:=Sx h1
       subst this;exact .inr (hl e Si)
      ·right;by_cases hea:e<acc.length
       ·exact h e hea (hl e Si) j h1
       ·simp[getElem?_eq_none (Nat.le_of_not_lt hea)]at h1
     ·exact .inr h1
   rcases key (NV o) 0 hdir hj' with h1|h1
   ·simp at h1
   ·exact h1
def Cx {α:Type} (D:Nat->Bool) (f:Nat->Option α):Nat->Option α
 |0=>none
 |n+1=>if D n then(match f n with|some v=>some v|none=>Cx D f n)else Cx D f n
theorem Em {α:Type} {D D':Nat->Bool} {f:Nat->Option α}:∀{n:Nat},(∀i,i<n->f i≠none->D i=D' i)->Cx D f n=Cx D' f n:=by
 intro n
 induction n with
 |zero=>intro _;rfl
 |succ n ih=>
  intro h;have e:=ih λi hi=>h i Om
  simp only[Cx];cases hf:f n with
  |none=>simp[e]
  |some v=>rw[h n Om (by simp[hf]),e]
theorem KR {α:Type} {D:Nat->Bool} {f:Nat->Option α} {j:Nat}:∀{n:Nat},j≤n->(∀i,j≤i->i<n->f i≠none->D i=false)->Cx D f n=Cx D f j:=by
 intro n
 induction n with
 |zero=>intro h _;have:j=0:=Om
        subst this;rfl
 |succ n ih=>
  intro hj h;by_cases e:j=n+1
  ·subst e;rfl
  ·simp only[Cx];rw[←ih Om λi h1 h2=>h i h1 Om];cases hf:f n with
   |none=>simp
   |some v=>simp[h n Om Om (by simp[hf])]
def Nj {α:Type} {D:Nat->Bool} {f:Nat->Option α}:∀{n:Nat},(∀i,i<n->D i=true->f i=none)->Cx D f n=none:=by
 intro n
 induction n with
 |zero=>intro _;rfl
 |succ n ih=>
  intro h;simp only[Cx,ih λi hi=>h i Om];cases hD:D n with
  |true=>simp[h n Om hD]
  |false=>simp
theorem PK {α:Type} {D:Nat->Bool} {f:Nat->Option α} {j:Nat} {v:α} {n:Nat} (hj:j<n) (hD:D j=true) (hf:f j=some v) (h:∀i,j<i->i<n->f i≠none->D i=false):Cx D f n=some v:=by
 rw[KR (j:=j+1) Om λi h1 h2 h3=>h i Om h2 h3];simp[Cx,hD,hf]
def Wz {α:Type}:Option α->Option α->Option α
 |some x,_=>some x
 |none,y=>y
section
variable {dst:Nat->Option Nat} {r:Nat->JQ} {tm:List AV} {S:List Ac}
def fT (dst:Nat->Option Nat) (r:Nat->JQ) (t i:Nat):Option AV:=if dst i=some t then some (r i).v else none
def EB (r:Nat->JQ) (S:List Ac) (i:Nat):List (Nat×Ac):=(r i).upd++BC (sS r S i).length (r i).new
def fS (r:Nat->JQ) (S:List Ac) (q i:Nat):Option Ac:=if q∈(EB r S i).map (·.1)then(sS r S (i+1))[q]? else none
theorem KM (i:Nat):(sT dst r tm i).length=tm.length:=by
 induction i with
 |zero=>rfl
 |succ i ih=>simp only[sT,Ef];split<;>simp[ih]
theorem uR (t i:Nat):(sT dst r tm i)[t]? =if t<tm.length then Wz (Cx (λ_=>true) (fT dst r t) i) tm[t]? else none:=by
 induction i with
 |zero=>
  simp only[sT,Cx,Wz];split
  ·rfl
  ·exact getElem?_eq_none Om
 |succ i ih=>
  simp only[sT,Cx,fT,if_true];cases hd:dst i with
  |none=>simpa[Ef]using ih
  |some d=>
   simp only[Ef];by_cases e:d=t
   ·subst e;by_cases hlt:d<tm.length
    ·simp[hlt,Wz,KM]
    ·rw[if_neg hlt];exact getElem?_eq_none (by simp[KM];omega)
   ·rw[getElem?_set_ne e,ih];simp[e]
def J1 (i j:Nat) (h:i≤j):(sS r S i).length≤(sS r S j).length:=by
 induction j with
 |zero=>have:i=0:=Om
        subst this;exact Nat.le_refl _
 |succ j ih=>
  by_cases e:i=j+1
  ·subst e;exact Nat.le_refl _
  ·have:=ih Om;simp only[sS,length_append,H2];omega
def JS {i:Nat} (hu:∀p∈(r i).upd,p.1<(sS r S i).length) {q:Nat} (hq:q∈(EB r S i).map (·.1)):q<(sS r S (i+1)).length:=by
 simp only[EB,map_append,mem_append,mem_map]at hq;simp only[sS,length_append,H2];rcases hq with⟨p,hp,rfl⟩|⟨p,hp,rfl⟩
 ·have:=hu p hp;omega
 ·have:=(J_ hp).2.1;omega
def ZC (T T':List Ac) (u:List (Nat×Ac)) {q:Nat} (hq:q∈u.map (·.1)) (h:q<T.length) (h':q<T'.length):(Cv T u)[q]? =(Cv T' u)[q]? :=by
 induction u generalizing T T' with
 |nil=>simp at hq
 |cons p u ih=>
  simp only[CF];by_cases e:q∈u.map (·.1)
  ·exact ih _ _ e (by simpa using h) (by simpa using h')
  ·simp only[map_cons,mem_cons]at hq;rcases hq with rfl|hq
   ·rw[Dv _ _ _ e,Dv _ _ _ e];simp[h,h']
   ·exact(e hq).elim
def YE (i:Nat) (hu:∀p∈(r i).upd,p.1<(sS r S i).length):Cv (sS r S i++List.replicate (r i).new.length .dead) (EB r S i)=sS r S (i+1):=by
 simp only[EB,sS];rw[CZ,Pb _ _ _ hu,Sj _ _ _ Si]
def uS (n:Nat) (hu:∀i,i<n->∀p∈(r i).upd,p.1<(sS r S i).length) (q:Nat):(sS r S n)[q]? =Wz (Cx (λ_=>true) (fS r S q) n) S[q]? :=by
 induction n with
 |zero=>rfl
 |succ i ih=>
  have hi:=hu i Om;simp only[Cx,if_true];by_cases hq:q∈(EB r S i).map (·.1)
  ·have hlt:=JS hi hq;have e:fS r S q i=some ((sS r S (i+1))[q]'hlt):=by simp[fS,hq]
   rw[e];simp[Wz]
  ·have e:fS r S q i=none:=by simp[fS,hq]
   rw[e];show _=Wz (Cx (λ_=>true) (fS r S q) i) S[q]?;rw[←ih λj hj=>hu j Om];have hstep:=YE (r:=r) (S:=S) i hi;rw[←hstep,Dv _ _ _ hq];by_cases hlt:q<(sS r S i).length
   ·rw[getElem?_append_left hlt]
   ·rw[getElem?_append_right Om,getElem?_eq_none (show(sS r S i).length≤q by omega),getElem?_replicate];rw[if_neg];intro hcon;apply hq;have hmem:∀(l:List Ac) (n q:Nat),n≤q->q<n+l.length->q∈(BC n l).map (·.1):=by
     intro l
     induction l with
     |nil=>intro n q h1 h2;simp at h2;omega
     |cons o l ihl=>
      intro n q h1 h2;simp only[BC,map_cons,mem_cons];by_cases e:q=n
      ·exact .inl e
      ·exact .inr (ihl (n+1) q Om (by simp at h2;omega))
    simp only[EB,map_append,mem_append];exact .inr (hmem _ _ q Om Om)
end
def OG {l:List Bool} {i:Nat} (h:l[i]? =some false):(l.set i true).countP (λb=> !b)+1=l.countP (λb=> !b):=by
 induction l generalizing i with
 |nil=>simp at h
 |cons b l ih=>
  cases i with
  |zero=>simp at h;subst h;simp
  |succ i=>
   simp at h;have:=ih h;simp only[set_cons_succ,countP_cons];omega
section
variable {P:Program} {ops:Array Oper} {cs:List RO}
def ST {ro:Option Nat} {id:Nat} {G0:Gh} {S0:List Ac} {w0:World} {tm:List AV} {S:List Ac} {G:Gh} {a:Act} {w:World} {u:List (Nat×Nat)} (hc:Gr P ops true=some (cs,u)) (hz:Cz G0 S0 w0 tm S G a w) {QA:List AV->List Ac->Prop}
 (h:DZ P cs u [] tm S QA) (Q:Exit->Act->World->Prop) (hQ:∀tm' S' G' a' w',Cz G0 S0 w0 tm' S' G' a' w'->QA tm' S'->Q .normal a' w'):(Code.region id ops true).wpIn (Fw ro) 0 P Q a w:=by
 unfold Gr at hc;split at hc
 ·cases hc
 rename_i cs' hcs;simp only[if_true]at hc;split at hc
 case isFalse=>cases hc
 rename_i hcond;injection hc with hc;injection hc with e1 e2;subst e1;simp only[Bool.and_eq_true]at hcond;have⟨⟨hmix,hdir⟩,hslots⟩:=hcond;have⟨hl,hat⟩:=NX hcs;have⟨r,hrec,hok,hfin⟩:=Qj ops.toList cs' u [] tm S QA hl (λj o c h1 h2=>(hat j o c h1 h2).1) h
 let n:=ops.toList.length
 have hn:n=ops.size:=by simp[n]
 let dst:Nat->Option Nat:=λj=>(ops.toList[j]?).bind (·.dst)
 let bef:=mZ ops.toList []
 have hol:∀j,j<n->∃o c,ops.toList[j]? =some o∧ops[j]? =some o∧cs'[j]? =some c:=λj hj=>by
  have h1:=getElem?_eq_getElem (show j<ops.toList.length from hj);exact⟨_,_,h1,Si,getElem?_eq_getElem (show j<cs'.length by rw[←hl];exact hj)⟩
 have hup:∀i,i<n->(∀p∈(r i).upd,p.1∈(r i).rd)∧∀q∈(r i).rd,q<(sS r S i).length:=λi hi=>by
  have⟨o,c,h1,_,h3⟩:=hol i hi;have hr:=hrec i o c h1 h3;unfold Gx at hr;split at hr
  ·exact⟨hr.2.2.1,hr.2.2.2.1⟩
  ·have⟨_,_,h4,h5,_⟩:=hr;rw[h4,h5];exact⟨(λp hp=>by cases hp),(λq hq=>by cases hq)⟩
 have hupd:∀i,i<n->∀p∈(r i).upd,p.1<(sS r S i).length:=λi hi p hp=>(hup i hi).2 _ ((hup i hi).1 p hp)
 have hopen:∀i k,i<k->k<n->(bef.getD k 0).testBit i=false->(∀q∈(EB r S i).map (·.1),q∉(r k).rd)∧(∀q∈(EB r S k).map (·.1),q∉(r i).rd):=by
  intro i k hik hk hb;have pure0:∀j,j<n->KH cs' j=false->(r j).rd=[]∧(EB r S j)=[]:=λj hj ht=>by
   have⟨o,c,h1,_,h3⟩:=hol j hj;have hr:=hrec j o c h1 h3;simp only[KH,h3]at ht;unfold Gx at hr;split at hr
   ·have⟨e1,e2,e3⟩:=hr.2.2.2.2 ht;exact⟨e1,by simp[EB,e2,e3,BC]⟩
   ·have⟨_,_,e1,e2,e3⟩:=hr;exact⟨e1,by simp[EB,e2,e3,BC]⟩
  by_cases hti:KH cs' i=true
  ·by_cases htk:KH cs' k=true
   ·have hmem:(i,k)∈u:=by
     rw[←e2];simp only[mem_filter,Yq];exact⟨⟨PA hik Om,by simpa[bef]using hb⟩,by simp[hti,htk]⟩
    have hd:=all_eq_true.1 hok (i,k) hmem;have hget:∀j,j<n->(([]:List (List Nat×List Nat))++(List.range ops.toList.length).map λj=>OL (r j) (sS r S j).length).getD j ([],[])=((r j).rd,(EB r S j).map (·.1)):=λj hj=>by
     have:(List.range ops.toList.length)[j]? =some j:=getElem?_range hj;rw[nil_append,getD_eq_getElem?_getD,getElem?_map,this];simp[OL,EB]
    rw[hget i Om,hget k hk]at hd;simp only[Bool.and_eq_true,xU,all_eq_true,Bool.not_eq_true',contains_eq_mem,decide_eq_false_iff_not]at hd;exact hd
   ·have⟨e1,e3⟩:=pure0 k hk (by simpa using htk);rw[e1,e3];exact⟨(λq _ hq=>by cases hq),(λq hq=>by simp at hq)⟩
  ·have⟨e1,e3⟩:=pure0 i Om (by simpa using hti);rw[e1,e3];exact⟨(λq hq=>by simp at hq),(λq _ hq=>by cases hq)⟩
 have hslot:∀i k,i<k->k<n->(bef.getD k 0).testBit i=false->∀o c o' c',ops.toList[i]? =some o->cs'[i]? =some c->ops.toList[k]? =some o'->cs'[k]? =some c'->
  (∀d,o.dst=some d->d∉D_ o' c')∧(∀d,o'.dst=some d->d∉D_ o c):=by
  intro i k hik hk hb o c o' c' h1 h2 h3 h4;have hmem:(i,k)∈Yq ops.size bef:=by
   simp only[mem_filter,Yq];exact⟨PA hik Om,by simpa using hb⟩
  have hd:=all_eq_true.1 hslots (i,k) hmem;simp only[h1,h2,h3,h4,nL,Bool.and_eq_true]at hd;refine⟨λd hd'=>?_,λd hd'=>?_⟩
  ·have:=hd.1;rw[hd']at this;simpa using this
  ·have:=hd.2;rw[hd']at this;simpa using this
 let N:=(sS r S n).length
 have inv:∀(fuel:Nat) (listed:Array Bool) (tmD:List AV) (SD:List Ac) (G:Gh) (a:Act) (w:World),listed.size=n->listed.toList.countP (λb=> !b)≤fuel->
  (∀i,i<n->listed.getD i false=true->∀e∈(ops.toList[i]?).elim [] NV,listed.getD e false=true)->
  tmD.length=tm.length->(∀t,t<tm.length->tmD[t]? =Wz (Cx (λi=>listed.getD i false) (fT dst r t) n) tm[t]?)->
  SD.length=N->(∀q,q<N->SD[q]? =some ((Wz (Cx (λi=>listed.getD i false) (fS r S q) n) S[q]?).getD .dead))->
  Cz G0 S0 w0 tmD SD G a w->wpAnyIn (Fw ro) 0 P .any ops Q fuel listed a w:=by
  have fin:∀(listed:Array Bool) (tmD:List AV) (SD:List Ac) (G:Gh) (a:Act) (w:World),(∀i,i<n->listed.getD i false=true)->tmD.length=tm.length->
   (∀t,t<tm.length->tmD[t]? =Wz (Cx (λi=>listed.getD i false) (fT dst r t) n) tm[t]?)->SD.length=N->(∀q,q<N->SD[q]? =some ((Wz (Cx (λi=>listed.getD i false) (fS r S q) n) S[q]?).getD .dead))->
   Cz G0 S0 w0 tmD SD G a w->Q .normal a w:=by
   intro listed tmD SD G a w hall htl ht hsl hs hz;have e1:tmD=sT dst r tm n:=by
    apply ext_getElem?;intro t;by_cases hlt:t<tm.length
    ·rw[ht t hlt,uR,if_pos hlt,Em (D':=λ_=>true) λi hi _=>hall i hi]
    ·rw[getElem?_eq_none Om,getElem?_eq_none (by rw[KM];omega)]
   have e2:SD=sS r S n:=by
    apply ext_getElem?;intro q;by_cases hlt:q<N
    ·have h1:=uS (r:=r) (S:=S) n hupd q;have h2:=getElem?_eq_getElem (show q<(sS r S n).length from hlt);rw[hs q hlt,Em (D':=λ_=>true) λi hi _=>hall i hi,←h1,h2];rfl
    ·rw[getElem?_eq_none Om,getElem?_eq_none (by show N≤q;omega)]
   subst e1 e2;exact hQ _ _ _ _ _ hz hfin
  have allDone:∀(listed:Array Bool),listed.size=n->Region.ready .any ops listed=[]->∀i,i<n->listed.getD i false=true:=by
   intro listed hsz hr i
   induction i using Nat.strongRecOn with
   |_ i ihi=>
    intro hi;have⟨o,c,h1,h2,h3⟩:=hol i hi;cases hb:listed.getD i false with
    |true=>rfl
    |false=>
     exfalso;have hmem:i∈Region.ready .any ops listed:=by
      simp only[Region.ready,mem_filter,mem_range];refine⟨Om,?_⟩;have hb':listed.getD i true=false:=by
       simp only[Array.getD_eq_getD_getElem?]at hb ⊢;rw[Array.getElem?_eq_getElem (show i<listed.size by omega)]at hb ⊢;exact hb
      rw[hb',h2];simp only[Bool.not_false,Bool.true_and,Option.map_some,Option.getD_some];rw[Array.all_eq_true];intro k hk;by_cases hbind:Region.binds .any o.after[k]=true
      ·have hd:o.after[k].on∈NV o:=by
        simp only[NV,mem_map,mem_filter];exact⟨o.after[k],⟨Si,hbind⟩,rfl⟩
       have hz0:=all_eq_true.1 hdir (o,i) (by
        rw[mem_zipIdx_iff_getElem?];exact h1)
       have hlt:=all_eq_true.1 hz0 _ hd;have hlt':o.after[k].on<i:=Sx hlt
       rw[ihi _ hlt' Om];simp
      ·simp[hbind]
     rw[hr]at hmem;cases hmem
  have readyOf:∀(listed:Array Bool) (j:Nat),listed.size=n->j∈Region.ready .any ops listed->j<n∧listed[j]? =some false∧∀e∈(ops.toList[j]?).elim [] NV,listed.getD e false=true:=by
   intro listed j hsz hj;simp only[Region.ready,mem_filter,mem_range,Bool.and_eq_true]at hj;have⟨hj1,hj2,hj3⟩:=hj;have⟨o,c,h1,h2,h3⟩:=hol j Om;refine⟨Om,?_,?_⟩
   ·have:=Array.getElem?_eq_getElem (show j<listed.size by omega);rw[this];simp only[Array.getD_eq_getD_getElem?,this,Option.getD_some]at hj2;simpa using hj2
   ·rw[h2]at hj3;simp only[Option.map_some,Option.getD_some,Array.all_eq_true]at hj3;rw[h1];intro e he;simp only[Option.elim,NV,mem_map,mem_filter]at he;obtain⟨ed,⟨hm,hb⟩,rfl⟩:=he;obtain⟨k,hk,rfl⟩:=getElem_of_mem hm;have:=hj3 k (by simpa using hk);simp only[Array.getElem_toList]at hb ⊢;rw[hb]at this;simpa using this
  intro fuel
  induction fuel with
  |zero=>
   intro listed tmD SD G a w hsz hcnt _ htl ht hsl hs hz;have hall:∀i,i<n->listed.getD i false=true:=by
    intro i hi;have h0:listed.toList.countP (λb=> !b)=0:=Om
    rw[countP_eq_zero]at h0;have hg:=Array.getElem?_eq_getElem (show i<listed.size by omega);have:=h0 listed[i] Si;simp only[Array.getD_eq_getD_getElem?,hg,Option.getD_some];simpa using this
   refine⟨?_,fin listed tmD SD G a w hall htl ht hsl hs hz⟩;cases hr:Region.ready .any ops listed with
   |nil=>rfl
   |cons j rest=>
    have⟨h1,h2,_⟩:=readyOf listed j hsz (by rw[hr];simp);have:=hall j h1;simp[h2]at this
  |succ fuel ih=>
   intro listed tmD SD G a w hsz hcnt hcl htl ht hsl hs hz;refine⟨λhr=>fin listed tmD SD G a w (allDone listed hsz hr) htl ht hsl hs hz,λj hj=>?_⟩;have⟨hjn,hjf,hjd⟩:=readyOf listed j hsz hj;have⟨o,c,h1,h2,h3⟩:=hol j hjn;rw[h1]at hjd;simp only[Option.elim]at hjd
   let D:Nat->Bool:=λi=>listed.getD i false
   have hDj:D j=false:=by simp[D,hjf]
   have before_:∀i,i<j->(bef.getD j 0).testBit i=true->D i=true:=by
    intro i hij hb;have:=LD (λi=>D i=true∨i=j) ops.toList [] (λk o' ho hD e he=>by
     left;simp only[length_nil,Nat.zero_add]at hD;rcases hD with hD|rfl
     ·have hk:k<n:=(Ge ho);have:=hcl k hk hD e;rw[ho]at this;exact this he
     ·rw[h1]at ho;injection ho with ho;subst ho;exact hjd e he) (λk hk=>by simp at hk) j (by simp;omega) (.inr rfl) i hb
    rcases this with h|h
    ·exact h
    ·omega
   have after_:∀i,j<i->i<n->(bef.getD i 0).testBit j=true->D i=false:=by
    intro i hji hi hb;cases hD:D i with
    |false=>rfl
    |true=>
     have:=LD (λi=>D i=true) ops.toList [] (λk o' ho hD e he=>by
      simp only[length_nil,Nat.zero_add]at hD;have hk:k<n:=(Ge ho);have:=hcl k hk hD e;rw[ho]at this;exact this he) (λk hk=>by simp at hk) i (by simp;omega) hD j hb
     rw[hDj]at this;cases this
   have htmp:∀t,t∈D_ o c->(∀i,i<j->fT dst r t i≠none->D i=true)∧∀i,j<i->i<n->fT dst r t i≠none->D i=false:=by
    intro t htn;have hdst:∀i,fT dst r t i≠none->dst i=some t:=λi hi=>by
     unfold fT at hi;by_cases e:dst i=some t
     ·exact e
     ·simp[e]at hi
    refine⟨λi hij hi=>?_,λi hji hi hne=>?_⟩
    ·have hd:=hdst i hi;have⟨o',c',g1,g1',g3⟩:=hol i Om;have hd':o'.dst=some t:=by simpa[dst,g1']using hd
     cases hb:(bef.getD j 0).testBit i with
     |true=>exact before_ i hij hb
     |false=>exact((hslot i j hij hjn hb o' c' o c g1 g3 h1 h3).1 t hd' htn).elim
    ·have hd:=hdst i hne;have⟨o',c',g1,g1',g3⟩:=hol i hi;have hd':o'.dst=some t:=by simpa[dst,g1']using hd
     cases hb:(bef.getD i 0).testBit j with
     |true=>exact after_ i hji hi hb
     |false=>exact((hslot j i hji hi hb o c o' c' h1 h3 g1 g3).2 t hd' htn).elim
   have hsame:∀t,t∈D_ o c->tmD[t]? =(sT dst r tm j)[t]? :=by
    intro t htn;have⟨q1,q2⟩:=htmp t htn;rw[uR];by_cases hlt:t<tm.length
    ·rw[if_pos hlt,ht t hlt,KR (j:=j) Om (λi hi1 hi2 hne=>by
      by_cases e:i=j
      ·subst e;exact hDj
      ·exact q2 i Om hi2 hne),Em (D':=λ_=>true) λi hi hne=>q1 i hi hne]
    ·rw[if_neg hlt,getElem?_eq_none Om]
   have hev:∀x∈o.op.operands,ev tmD x=ev (sT dst r tm j) x:=by
    intro x hx;cases x with
    |tmp t=>
     have:t∈D_ o c:=by
      simp only[D_,gM,mem_append,mem_filterMap];left;left;exact⟨.tmp t,by simpa using hx,rfl⟩
     simp only[ev,getD_eq_getElem?_getD,hsame t this]
    |_=>rfl
   have hplace:∀q,(q∈(r j).rd∨q∈(EB r S j).map (·.1))->(∀i,j<i->i<n->fS r S q i≠none->D i=false):=by
    intro q hq i hji hi hne;have hqi:q∈(EB r S i).map (·.1):=by
     unfold fS at hne;by_cases e:q∈(EB r S i).map (·.1)
     ·exact e
     ·simp[e]at hne
    cases hb:(bef.getD i 0).testBit j with
    |true=>exact after_ i hji hi hb
    |false=>
     exfalso;have⟨g1,g2⟩:=hopen j i hji hi hb;rcases hq with hq|hq
     ·exact g2 q hqi hq
     ·
      simp only[EB,map_append,mem_append,mem_map]at hqi;rcases hqi with⟨p,hp,rfl⟩|⟨p,hp,rfl⟩
      ·exact g1 _ hq ((hup i hi).1 p hp)
      ·have h5:=(J_ hp).1;have h6:=JS (hupd j hjn) hq;have h7:=J1 (r:=r) (S:=S) (j+1) i Om;omega
   have hrdlt:∀q∈(r j).rd,q<(sS r S j).length:=(hup j hjn).2;have hNle:∀i,i≤n->(sS r S i).length≤N:=λi hi=>J1 i n hi
   have hread:∀q∈(r j).rd,SD[q]? =(sS r S j)[q]? :=by
    intro q hq;have hlt:=hrdlt q hq;have hltN:q<N:=Nat.lt_of_lt_of_le hlt (hNle j Om);have hpl:=hplace q (.inl hq);have e1:Cx D (fS r S q) n=Cx (λ_=>true) (fS r S q) j:=by
     rw[KR (j:=j) Om (λi hi1 hi2 hne=>by
      by_cases e:i=j
      ·subst e;exact hDj
      ·exact hpl i Om hi2 hne)]
     refine Em λi hi hne=>?_
     have hqi:q∈(EB r S i).map (·.1):=by
      unfold fS at hne;by_cases e:q∈(EB r S i).map (·.1)
      ·exact e
      ·simp[e]at hne
     cases hb:(bef.getD j 0).testBit i with
     |true=>exact before_ i hi hb
     |false=>exact((hopen i j hi hjn hb).1 q hqi hq).elim
    have e2:=uS (r:=r) (S:=S) j (λi hi=>hupd i Om) q;rw[hs q hltN];show some ((Wz (Cx D (fS r S q) n) S[q]?).getD .dead)=_;rw[e1,←e2,getElem?_eq_getElem hlt];rfl
   have hfree:∀p∈BC (sS r S j).length (r j).new,SD[p.1]? =some .dead:=by
    intro p hp;have⟨g1,g2,_⟩:=J_ hp;have hw:p.1∈(EB r S j).map (·.1):=by simp only[EB,map_append,mem_append,mem_map];exact .inr ⟨p,hp,rfl⟩
    have hltN:p.1<N:=Nat.lt_of_lt_of_le (JS (hupd j hjn) hw) (hNle (j+1) Om);have hpl:=hplace p.1 (.inr hw);have e1:Cx D (fS r S p.1) n=none:=Nj λi hi hD=>by
     cases hne:fS r S p.1 i with
     |none=>rfl
     |some x=>
      exfalso;have hqi:p.1∈(EB r S i).map (·.1):=by
       unfold fS at hne;by_cases e:p.1∈(EB r S i).map (·.1)
       ·exact e
       ·simp[e]at hne
      rcases Nat.lt_trichotomy i j with h|h|h
      ·have h6:=JS (hupd i hi) hqi;have h7:=J1 (r:=r) (S:=S) (i+1) j Om;omega
      ·subst h;rw[hDj]at hD;cases hD
      ·have:=hpl i h hi (by rw[hne];simp);rw[this]at hD;cases hD
    rw[hs p.1 hltN];show some ((Wz (Cx D (fS r S p.1) n) S[p.1]?).getD .dead)=_;have h0:=J1 (r:=r) (S:=S) 0 j Om;simp only[sS]at h0;rw[e1,getElem?_eq_none Om];rfl
   have next:∀(G':Gh) (a':Act) (w':World),Cz G0 S0 w0 (Ef tmD o.dst (r j).v) (Cv SD (EB r S j)) G' a' w'->wpAnyIn (Fw ro) 0 P .any ops Q fuel (listed.setIfInBounds j true) a' w':=by
    intro G' a' w' hz';have hDn:∀i,(listed.setIfInBounds j true).getD i false=if i=j then true else D i:=by
     intro i;by_cases e:i=j
     ·subst e;simp[show i<listed.size by omega]
     ·simp only[e,if_false,D,Array.getD_eq_getD_getElem?,Array.getElem?_setIfInBounds_ne (Ne.symm e)]
    refine ih _ _ _ G' a' w' (by simp[hsz]) ?_ (λi hi hD e he=>?_) ?_ (λt htl'=>?_) (by simp[hsl]) (λq hq=>?_) hz'
    ·have:=OG (l:=listed.toList) (i:=j) (by simpa using hjf);simp only[Array.toList_setIfInBounds];omega
    ·rw[hDn]at hD ⊢;split
     ·rfl
     ·by_cases e':i=j
      ·subst e';rw[h1]at he;exact hjd e he
      ·rw[if_neg e']at hD;exact hcl i hi hD e he
    ·cases ho:o.dst<;>simp[Ef,htl]
    ·have hcongr:∀f:Nat->Option AV,f j=none->Cx (λi=>(listed.setIfInBounds j true).getD i false) f n=Cx D f n:=λf hf=>Em λi hi hne=>by
      rw[hDn];split
      ·rename_i e;subst e;exact(hne hf).elim
      ·rfl
     have hdj:dst j=o.dst:=by simp[dst,h2]
     by_cases hd:o.dst=some t
     ·have hf:fT dst r t j=some (r j).v:=by simp[fT,hdj,hd]
      have htn:t∈D_ o c:=by simp[D_,hd]
      rw[PK (j:=j) (v:=(r j).v) hjn (by simp[hDn]) hf (λi h5 h6 h7=>by rw[hDn,if_neg Om];exact(htmp t htn).2 i h5 h6 h7)];simp[Ef,hd,Wz,htl,htl']
     ·have hf:fT dst r t j=none:=by simp[fT,hdj,hd]
      rw[hcongr _ hf];show _=Wz (Cx (λi=>listed.getD i false) (fT dst r t) n) tm[t]?;rw[←ht t htl'];cases ho:o.dst with
      |none=>rfl
      |some d=>simp only[Ef];rw[getElem?_set_ne];rintro rfl;exact hd ho
    ·by_cases hqw:q∈(EB r S j).map (·.1)
     ·have hlt:=JS (hupd j hjn) hqw;have hf:fS r S q j=some ((sS r S (j+1))[q]'hlt):=by simp[fS,hqw]
      rw[PK (j:=j) hjn (by simp[hDn]) hf (λi h5 h6 h7=>by rw[hDn,if_neg Om];exact hplace q (.inr hqw) i h5 h6 h7)];have hst:=YE (r:=r) (S:=S) j (hupd j hjn);have e3:=ZC SD (sS r S j++List.replicate (r j).new.length .dead) (EB r S j) hqw Om (by simp only[length_append,length_replicate];simp only[sS,length_append,H2]at hlt;exact hlt);rw[e3,hst,getElem?_eq_getElem hlt];rfl
     ·have hf:fS r S q j=none:=by simp[fS,hqw]
      rw[Dv _ _ _ hqw,hs q hq];congr 3;refine Em λi hi hne=>?_
      rw[hDn];split
      ·rename_i e;subst e;exact(hne hf).elim
      ·rfl
   have⟨hco,hg⟩:=hat j o c h1 h3;have hr:=hrec j o c h1 h3;have hwant:=O9 (ops:=ops) hz hg (λt wn e=>by
    have:t∈D_ o c:=by simp[D_,e]
    simp only[getD_eq_getElem?_getD,hsame t this];rfl) hr
   unfold wpOpIn;rw[h2];simp only[hwant];unfold Gx at hr;cases hran:(r j).ran with
   |true=>
    rw[hran,if_pos rfl]at hr;have⟨_,he,hu,hrd,_⟩:=hr;simp only[if_true];refine Gf (Kv hco.1) ?_;refine he SD hread hfree G a w hz.left.wd (λx hx=>by rw[←hev x hx];exact hz.ev x) _ _ λv' w' G' hv hl=>next G' _ w' ?_
    exact hz.put hl hv o.dst
   |false=>
    rw[hran,if_neg Si]at hr;have⟨_,hv,hrd,hu,hnw⟩:=hr;simp only[Bool.false_eq_true,if_false];refine⟨λ_ _=>trivial,next G _ w ?_⟩;have:=hz.put (AS.refl hz.left.wd) (x:=.lit undef) (v:=undef) (.lit _) o.dst;rw[←hv]at this;have e0:EB r S j=[]:=by simp[EB,hu,hnw,BC]
    rw[e0,Sg];exact this
 have hSN:S.length≤N:=J1 (r:=r) (S:=S) 0 n Om;have hLD:∀{α:Type} (f:Nat->Option α),Cx (λi=>(Array.replicate ops.size false).getD i false) f n=none:=by
  intro α f;refine Nj λi hi hD=>?_
  have hlt:i<ops.size:=Om
  simp[hlt]at hD
 have hD0:=AS.dead hz.left.wd (N-S.length);have hzD:Cz G0 S0 w0 tm (S++List.replicate (N-S.length) .dead) G a {w with drawn:=w.drawn+1}:=by
  have hl:=hz.left.trans hD0;refine⟨⟨hl.le,hl.wd.drawn rfl,⟨hl.kept.os,hl.kept.tape,hl.kept.output,hl.kept.size,hl.kept.block⟩,hl.own,hl.still⟩,hz.size,hz.rep,hz.defers,hz.wd0⟩
 refine wpIn_region_any hmix (inv ops.size (Array.replicate ops.size false) tm (S++List.replicate (N-S.length) .dead) G a _ (by simp[hn]) (Nat.le_trans countP_le_length Si) (λi hi h=>by
  have:i<ops.size:=Om
  simp[this]at h) rfl (λt ht=>?_) ?_ (λq hq=>?_) hzD)
 ·rw[hLD];rfl
 ·simp;omega
 ·rw[hLD];simp only[Wz];by_cases hlt:q<S.length
  ·rw[getElem?_append_left hlt,getElem?_eq_getElem hlt];rfl
  ·rw[getElem?_append_right Om,getElem?_replicate,if_pos Om,getElem?_eq_none (show S.length≤q by omega)];rfl
end
inductive C where
 |skip
 |reg (ops:List RO) (u:List (Nat×Nat))
 |seq (a b:C)
 |cond (c:Operand) (a b:C)
 |block (id:Nat) (c:C)
 |loop (c:C)
 |exit (id:Nat)
 |scope (c:C)
 |label (l:Nat)
 |goto (l:Nat)
 |ret
 |rng (g:Operand) (ps:List Nat) (a b:C)
def AO (P:Program):Code->Option C
 | .skip=>some .skip
 | .region _ ops draw=>(Gr P ops draw).map λp=>.reg p.1 p.2
 | .seq a b=>match AO P a,AO P b with
   |some x,some y=>some (.seq x y)
   |_,_=>none
 | .cond c a b=>match AO P a,AO P b with
   |some x,some y=>some (.cond c x y)
   |_,_=>none
 | .block id c=>(AO P c).map (.block id)
 | .loop c=>(AO P c).map .loop
 | .exit id=>some (.exit id)
 | .scope c=>(AO P c).map .scope
 | .label l=>some (.label l)
 | .goto l=>some (.goto l)
 | .ret=>some .ret
 | .rangeFunc g ps a b=>match AO P a,AO P b with
   |some x,some y=>some (.rng g ps.toList x y)
   |_,_=>none
 |_=>none
abbrev QT:=Exit->List AV->List Ac->Prop
def Wk (m:Nat) (tm:List AV) (S:List Ac) (tm':List AV) (S':List Ac):Prop:=
 ∀G0 S0 w0 G a w,S0.length=m->Cz G0 S0 w0 tm S G a w->∃G',Cz G0 S0 w0 tm' S' G' a w
theorem Wk.refl (m:Nat) (tm:List AV) (S:List Ac):Wk m tm S tm S:=λ_ _ _ G _ _ _ h=>⟨G,h⟩
theorem Wk.trans {m:Nat} {tm tm' tm'':List AV} {S S' S'':List Ac} (h:Wk m tm S tm' S') (k:Wk m tm' S' tm'' S''):Wk m tm S tm'' S'':=λG0 S0 w0 G a w e hz=>by
 have⟨G',h'⟩:=h G0 S0 w0 G a w e hz;exact k G0 S0 w0 G' a w e h'
def AC (P:Program) (m:Nat) (code:Code) (tm:List AV) (S:List Ac) (Q:QT):Prop:=
 ∀G0 S0 w0 G a w,S0.length=m->Cz G0 S0 w0 tm S G a w->code.wp P (λe a' w'=>∃tm' S' G',Cz G0 S0 w0 tm' S' G' a' w'∧Q e tm' S') a w
def MU (k:List AV->List Ac->Prop) (Q:QT):QT
 | .normal,tm,S=>k tm S
 |e,tm,S=>Q e tm S
def Hn (id:Nat) (Q:QT):QT
 | .exit id',tm,S=>if id'=id then Q .normal tm S else Q (.exit id') tm S
 |e,tm,S=>Q e tm S
def aw (P:Program) (m:Nat):C->List AV->List Ac->QT->Prop
 | .skip,tm,S,Q=>Q .normal tm S
 | .reg ops u,tm,S,Q=>DZ P ops u [] tm S (Q .normal)
 | .seq a b,tm,S,Q=>aw P m a tm S (MU (λtm S=>aw P m b tm S Q) Q)
 | .cond c a b,tm,S,Q=>match ev tm c with
   | .lit (.bool t)=>(t=true->aw P m a tm S Q)∧(t=false->aw P m b tm S Q)
   |_=>False
 | .block id c,tm,S,Q=>aw P m c tm S (Hn id Q)
 | .loop c,tm,S,Q=>∃I:Nat->List AV->List Ac->Prop,(∃n tm' S',Wk m tm S tm' S'∧I n tm' S')∧∀n tm S,I n tm S->aw P m c tm S (MU (λtm' S'=>∃n' tm'' S'',Wk m tm' S' tm'' S''∧I n' tm'' S''∧n'<n) Q)
 | .exit id,tm,S,Q=>Q (.exit id) tm S
 | .scope c,tm,S,Q=>∀code,AO P code=some c->AC P m (.scope code) tm S Q
 | .label _,tm,S,Q=>∃tm' S',Wk m tm S tm' S'∧Q .normal tm' S'
 | .goto l,tm,S,Q=>Q (.goto l) tm S
 | .ret,tm,S,Q=>Q .ret tm S
 | .rng g ps ca cb,tm,S,Q=>∀a b,AO P a=some ca->AO P b=some cb->AC P m (.rangeFunc g ps.toArray a b) tm S Q
def IJ {P:Program} {m:Nat}:∀(code:Code) (c:C),AO P code=some c->∀(tm:List AV) (S:List Ac) (Q:QT),aw P m c tm S Q->AC P m code tm S Q:=by
 intro code
 induction code with
 |skip=>
  intro c hc tm S Q h G0 S0 w0 G a w hm hz;simp only[AO]at hc;injection hc with hc;subst hc;exact wp_skip ⟨_,_,G,hz,h⟩
 |region id ops draw=>
  intro c hc tm S Q h G0 S0 w0 G a w hm hz;simp only[AO]at hc;cases hr:Gr P ops draw with
  |none=>simp[hr]at hc
  |some p=>
   have⟨cs,u⟩:=p;simp[hr]at hc;subst hc;cases draw with
   |true=>exact wpIn_wide.1 (ST (ro:=none) hr hz h _ λtm' S' G' a' w' hz' hq=>⟨_,_,G',hz',hq⟩)
   |false=>
    simp only[Gr]at hr;cases hcs:Gs P ops with
    |none=>simp[hcs]at hr
    |some cs'=>
     simp[hcs]at hr;obtain⟨rfl,rfl⟩:=hr;exact wpIn_wide.1 (SS (ro:=none) hcs hz h _ λtm' S' G' a' w' hz' hq=>⟨_,_,G',hz',hq⟩)
 |seq a b iha ihb=>
  intro c hc tm S Q h G0 S0 w0 G act w hm hz;simp only[AO]at hc;split at hc
  ·rename_i x y hx hy;injection hc with hc;subst hc;refine wp_seq (wp_mono (iha x hx tm S _ h G0 S0 w0 G act w hm hz) λe a' w' hq=>?_);have⟨tm',S',G',hz',hq⟩:=hq;cases e with
   |normal=>exact ihb y hy tm' S' Q hq G0 S0 w0 G' a' w' hm hz'
   |_=>exact⟨tm',S',G',hz',hq⟩
  ·cases hc
 |cond x a b iha ihb=>
  intro c hc tm S Q h G0 S0 w0 G act w hm hz;simp only[AO]at hc;split at hc
  ·rename_i x' y hx hy;injection hc with hc;subst hc;simp only[aw]at h;split at h
   ·rename_i t ht;have r:=hz.ev x;rw[ht]at r;refine wp_cond (MR r) ?_;cases t with
    |true=>exact iha x' hx tm S Q (h.1 rfl) G0 S0 w0 G act w hm hz
    |false=>exact ihb y hy tm S Q (h.2 rfl) G0 S0 w0 G act w hm hz
   ·exact h.elim
  ·cases hc
 |block id b ih=>
  intro c hc tm S Q h G0 S0 w0 G a w hm hz;simp only[AO]at hc;cases hb:AO P b with
  |none=>simp[hb]at hc
  |some x=>
   simp[hb]at hc;subst hc;refine wp_block (wp_mono (ih x hb tm S _ h G0 S0 w0 G a w hm hz) λe a' w' hq=>?_);have⟨tm',S',G',hz',hq⟩:=hq;cases e with
   |exit id'=>
    simp only[Hn]at hq;simp only[Exit.inBlock];split
    ·rename_i e;rw[if_pos e]at hq;exact⟨tm',S',G',hz',hq⟩
    ·rename_i e;rw[if_neg e]at hq;exact⟨tm',S',G',hz',hq⟩
   |_=>exact⟨tm',S',G',hz',hq⟩
 |loop b ih=>
  intro c hc tm S Q h G0 S0 w0 G a w hm hz;simp only[AO]at hc;cases hb:AO P b with
  |none=>simp[hb]at hc
  |some x=>
   simp[hb]at hc;subst hc;have⟨I,⟨n0,tm0,S1,hw0,h0⟩,hround⟩:=h;have⟨G1,hz1⟩:=hw0 G0 S0 w0 G a w hm hz;have key:∀(n:Nat) (tm:List AV) (S:List Ac) (G:Gh) (a:Act) (w:World),I n tm S->Cz G0 S0 w0 tm S G a w->
    ∀(b':Frame) (k:List Item) (cs:List Frame),∃e a' w',(∃tm' S' G',Cz G0 S0 w0 tm' S' G' a' w'∧Q e tm' S')∧Arrives P (lone (b'.at a (.code b::.inLoop b::k)) cs w) b' k cs e a' w':=by
    intro n
    induction n using Nat.strongRecOn with
    |_ n ihn=>
     intro tm S G a w hI hz b' k cs;have⟨e,a₁,w₁,⟨tm',S',G',hz',hq⟩,harr⟩:=ih x hb tm S _ (hround n tm S hI) G0 S0 w0 G a w hm hz b' (.inLoop b::k) cs;cases e with
     |normal=>
      have⟨n',tm'',S'',hwk,hI',hlt⟩:=hq;have⟨G'',hz''⟩:=hwk G0 S0 w0 G' a₁ w₁ hm hz';have⟨e₂,a₂,w₂,hq₂,harr₂⟩:=ihn n' hlt tm'' S'' G'' a₁ w₁ hI' hz'' b' k cs;exact⟨e₂,a₂,w₂,hq₂,.of_steps (Steps.trans harr (.one step_inLoop)) harr₂⟩
     |exit id=>exact⟨_,a₁,w₁,⟨tm',S',G',hz',hq⟩,.pass (x:=.inLoop b) rfl (λ_ _=>.inl Si) harr⟩
     |goto l=>exact⟨_,a₁,w₁,⟨tm',S',G',hz',hq⟩,.pass (x:=.inLoop b) rfl (λ_ _=>.inl Si) harr⟩
     |ret=>exact⟨_,a₁,w₁,⟨tm',S',G',hz',hq⟩,.pass (x:=.inLoop b) rfl (λ_ _=>.inl Si) harr⟩
     |panic ch=>exact⟨_,a₁,w₁,⟨tm',S',G',hz',hq⟩,.pass (x:=.inLoop b) rfl (λ_ _=>.inl Si) harr⟩
     |outgrown=>exact⟨_,a₁,w₁,⟨tm',S',G',hz',hq⟩,.pass (x:=.inLoop b) rfl (λ_ _=>.inl Si) harr⟩
   intro b' k cs;have⟨e,a',w',hq,harr⟩:=key n0 tm0 S1 G1 a w h0 hz1 b' k cs;exact⟨e,a',w',hq,.of_steps (.one step_loop) harr⟩
 |exit id=>
  intro c hc tm S Q h G0 S0 w0 G a w hm hz;simp only[AO]at hc;injection hc with hc;subst hc;exact wp_exit ⟨_,_,G,hz,h⟩
 |scope b ih=>
  intro c hc tm S Q h;simp only[AO]at hc;cases hb:AO P b with
  |none=>simp[hb]at hc
  |some x=>simp[hb]at hc;subst hc;exact h b hb
 |label l=>
  intro c hc tm S Q h G0 S0 w0 G a w hm hz;simp only[AO]at hc;injection hc with hc;subst hc;have⟨tm',S',hwk,hq⟩:=h;have⟨G',hz'⟩:=hwk G0 S0 w0 G a w hm hz;exact wp_label ⟨_,_,G',hz',hq⟩
 |goto l=>
  intro c hc tm S Q h G0 S0 w0 G a w hm hz;simp only[AO]at hc;injection hc with hc;subst hc;exact wp_goto ⟨_,_,G,hz,h⟩
 |ret=>
  intro c hc tm S Q h G0 S0 w0 G a w hm hz;simp only[AO]at hc;injection hc with hc;subst hc;exact wp_ret ⟨_,_,G,hz,h⟩
 |rangeFunc f ps x y _ _=>
  intro c hc tm S Q h;simp only[AO]at hc;split at hc
  ·rename_i x' y' hx hy;injection hc with hc;subst hc;have:=h x y hx hy;simpa using this
  ·cases hc
 |refuse s=>intro c hc;simp[AO]at hc
def G5:C->Nat->Option C
 | .seq a b,l=>match G5 a l with
   |some r=>some (.seq r b)
   |none=>G5 b l
 | .label l',l=>if l'==l then some .skip else none
 |_,_=>none
def Xx {P:Program}:∀(code:Code) (c:C) (l:Nat),AO P code=some c->(∀r,G5 c l=some r->∃rest,findLabel code l=some rest∧AO P rest=some r)∧(G5 c l=none->findLabel code l=none):=by
 intro code
 induction code with
 |seq a b iha ihb=>
  intro c l hc;simp only[AO]at hc;split at hc
  ·rename_i x y hx hy;injection hc with hc;subst hc;have⟨a1,a2⟩:=iha x l hx;have⟨b1,b2⟩:=ihb y l hy;simp only[G5,findLabel];cases hfa:G5 x l with
   |some r=>
    have⟨rest,h1,h2⟩:=a1 r hfa;refine⟨λr' h=>?_,λh=>by cases h⟩;injection h with h;subst h;exact⟨.seq rest b,by rw[h1],by simp[AO,h2,hy]⟩
   |none=>
    rw[a2 hfa];exact⟨λr' h=>b1 r' h,λh=>b2 h⟩
  ·cases hc
 |label l'=>
  intro c l hc;simp only[AO]at hc;injection hc with hc;subst hc;simp only[G5,findLabel];split
  ·exact⟨λr h=>⟨.skip,rfl,by injection h with h;subst h;rfl⟩,λh=>by cases h⟩
  ·exact⟨λr h=>(by cases h),λ_=>rfl⟩
 |skip=>intro c l hc;simp only[AO]at hc;injection hc with hc;subst hc;exact⟨λr h=>(by cases h),λ_=>rfl⟩
 |region id ops d=>
  intro c l hc;simp only[AO]at hc;cases hr:Gr P ops d with
  |none=>simp[hr]at hc
  |some p=>simp[hr]at hc;subst hc;exact⟨λr h=>(by cases h),λ_=>rfl⟩
 |cond x a b _ _=>
  intro c l hc;simp only[AO]at hc;split at hc
  ·injection hc with hc;subst hc;exact⟨λr h=>(by cases h),λ_=>rfl⟩
  ·cases hc
 |block id b _=>
  intro c l hc;simp only[AO]at hc;cases hb:AO P b with
  |none=>simp[hb]at hc
  |some p=>simp[hb]at hc;subst hc;exact⟨λr h=>(by cases h),λ_=>rfl⟩
 |loop b _=>
  intro c l hc;simp only[AO]at hc;cases hb:AO P b with
  |none=>simp[hb]at hc
  |some p=>simp[hb]at hc;subst hc;exact⟨λr h=>(by cases h),λ_=>rfl⟩
 |scope b _=>
  intro c l hc;simp only[AO]at hc;cases hb:AO P b with
  |none=>simp[hb]at hc
  |some p=>simp[hb]at hc;subst hc;exact⟨λr h=>(by cases h),λ_=>rfl⟩
 |exit id=>intro c l hc;simp only[AO]at hc;injection hc with hc;subst hc;exact⟨λr h=>(by cases h),λ_=>rfl⟩
 |goto id=>intro c l hc;simp only[AO]at hc;injection hc with hc;subst hc;exact⟨λr h=>(by cases h),λ_=>rfl⟩
 |ret=>intro c l hc;simp only[AO]at hc;injection hc with hc;subst hc;exact⟨λr h=>(by cases h),λ_=>rfl⟩
 |rangeFunc f ps x y _ _=>
  intro c l hc;simp only[AO]at hc;split at hc
  ·injection hc with hc;subst hc;simp[G5,findLabel]
  ·cases hc
 |refuse s=>intro c l hc;simp[AO]at hc
def uU (m:Nat) (J:Nat->List AV->List Ac->Prop) (Q:QT):QT
 | .goto l,tm,S=>∃tm' S',Wk m tm S tm' S'∧J l tm' S'
 |e,tm,S=>Q e tm S
def Jq {P:Program} {m:Nat} {c:C} {tm:List AV} {S:List Ac} {Q:QT} (J:Nat->Nat->List AV->List Ac->Prop) (first:aw P m c tm S (uU m (λl tm S=>∃n,J n l tm S) Q))
 (pass:∀n l tm S,J n l tm S->∃r,G5 c l=some r∧aw P m r tm S (uU m (λl' tm' S'=>∃n',J n' l' tm' S'∧n'<n) Q)):aw P m (.scope c) tm S Q:=by
 intro code hc G0 S0 w0 G a w hm hz;have key:∀(n:Nat) (l:Nat) (tm:List AV) (S:List Ac) (G:Gh) (a:Act) (w:World),J n l tm S->Cz G0 S0 w0 tm S G a w->∃rest,findLabel code l=some rest∧
  ∀(b:Frame) (k:List Item) (cs:List Frame),∃e a' w',(∃tm' S' G',Cz G0 S0 w0 tm' S' G' a' w'∧Q e tm' S')∧Arrives P (lone (b.at a (.code rest::.inScope code::k)) cs w) b k cs e a' w':=by
  intro n
  induction n using Nat.strongRecOn with
  |_ n ih=>
   intro l tm S G a w hJ hz;have⟨r,hr,hpass⟩:=pass n l tm S hJ;have⟨rest,hrest,hcr⟩:=(Xx code c l hc).1 r hr;refine⟨rest,hrest,λb k cs=>?_⟩;have⟨e,a₁,w₁,⟨tm',S',G',hz',hq⟩,harr⟩:=IJ rest r hcr tm S _ hpass G0 S0 w0 G a w hm hz b (.inScope code::k) cs;cases e with
   |normal=>exact⟨.normal,a₁,w₁,⟨tm',S',G',hz',hq⟩,Steps.trans harr (.one step_inScope)⟩
   |exit id=>exact⟨.exit id,a₁,w₁,⟨tm',S',G',hz',hq⟩,λk' hk=>harr k' (by simp[exitTo,hk])⟩
   |goto l'=>
    have⟨tm'',S'',hwk,n',hJ',hlt⟩:=hq;have⟨G'',hz''⟩:=hwk G0 S0 w0 G' a₁ w₁ hm hz';have⟨rest',hrest',hgo⟩:=ih n' hlt l' tm'' S'' G'' a₁ w₁ hJ' hz'';have⟨e₂,a₂,w₂,hq₂,harr₂⟩:=hgo b k cs;exact⟨e₂,a₂,w₂,hq₂,.of_steps (harr _ (by simp[gotoIn,hrest'])) harr₂⟩
   |ret=>exact⟨_,a₁,w₁,⟨tm',S',G',hz',hq⟩,harr⟩
   |panic ch=>exact⟨_,a₁,w₁,⟨tm',S',G',hz',hq⟩,harr⟩
   |outgrown=>exact⟨_,a₁,w₁,⟨tm',S',G',hz',hq⟩,harr⟩
 intro b k cs;have⟨e,a₁,w₁,⟨tm',S',G',hz',hq⟩,harr⟩:=IJ code c hc tm S _ first G0 S0 w0 G a w hm hz b (.inScope code::k) cs
 cases e with
 |normal=>exact⟨.normal,a₁,w₁,⟨tm',S',G',hz',hq⟩,.head step_scope (Steps.trans harr (.one step_inScope))⟩
 |exit id=>exact⟨.exit id,a₁,w₁,⟨tm',S',G',hz',hq⟩,λk' hk=>.head step_scope (harr k' (by simp[exitTo,hk]))⟩
 |goto l'=>
  have⟨tm'',S'',hwk,n',hJ'⟩:=hq;have⟨G'',hz''⟩:=hwk G0 S0 w0 G' a₁ w₁ hm hz';have⟨rest',hrest',hgo⟩:=key n' l' tm'' S'' G'' a₁ w₁ hJ' hz'';have⟨e₂,a₂,w₂,hq₂,harr₂⟩:=hgo b k cs;exact⟨e₂,a₂,w₂,hq₂,.of_steps (.head step_scope (harr _ (by simp[gotoIn,hrest']))) harr₂⟩
 |ret=>exact⟨_,a₁,w₁,⟨tm',S',G',hz',hq⟩,.of_steps (.one step_scope) harr⟩
 |panic ch=>exact⟨_,a₁,w₁,⟨tm',S',G',hz',hq⟩,.of_steps (.one step_scope) harr⟩
 |outgrown=>exact⟨_,a₁,w₁,⟨tm',S',G',hz',hq⟩,.of_steps (.one step_scope) harr⟩
inductive RV where
 |tmp (t:Nat)
 |cell (t:Nat) (n:Option Nat)
def Ha (P:Program) (fn:Func):Option (List RV):=
 LN (λr:ResultVar=>match r with
  | .tmp t=>some (.tmp t)
  | .cell a t=>(D6 P t).map λn=>.cell a n) fn.results.toList
def D4 (n:Option Nat) (x:AV) (S:List Ac):Option AV:=
 match x with
 | .iptr cs=>match n with
   |none=>cs.head?
   |some n=>if n≤cs.length then some (.agg (cs.take n))else none
 | .ref i o=>match S[i]? with
   |some (.cells xs)=>match n with
    |none=>xs[o]?
    |some n=>if o+n≤xs.length then some (.agg ((xs.drop o).take n))else none
   |_=>none
 |_=>none
def D1 (tm:List AV) (S:List Ac):RV->Option AV
 | .tmp t=>some (tm.getD t .any)
 | .cell t n=>D4 n (tm.getD t .any) S
def B8 (tm:List AV) (S:List Ac):List RV->Option (List AV)
 |[]=>some []
 |r::rs=>match D1 tm S r,B8 tm S rs with
  |some x,some xs=>some (x::xs)
  |_,_=>none
def Ci (xs:List AV):AV:=match xs with
 |[x]=>x
 |xs=>.tup xs
def A2 (P:Program) (m:Nat) (fn:Func) (tm:List AV) (S:List Ac) (r:AV) (S':List Ac):Prop:=
 ∀G0 S0 w0 G a w,S0.length=m->Cz G0 S0 w0 tm S G a w->∃v G',(results fn a.tmps).run P w=.ok v w∧Bg G' r v∧AS G0 S0 w0 G' S' w
theorem A2.wk {P:Program} {m:Nat} {fn:Func} {tm tm':List AV} {S S' S'':List Ac} {r:AV} (h:Wk m tm S tm' S') (k:A2 P m fn tm' S' r S''):A2 P m fn tm S r S'':=λG0 S0 w0 G a w e hz=>by
 have⟨G',h'⟩:=h G0 S0 w0 G a w e hz;exact k G0 S0 w0 G' a w e h'
def Z6 {P:Program} {t:TypeId} {n:Option Nat} (hn:D6 P t=some n) {G:Gh} {S:List Ac} {w:World} (hw:Wd G S w) {x y:AV} {v:Value} (h:D4 n x S=some y) (r:Bg G x v):
 ∃ad u,v=.pointer (some ad)∧(loadVar t ad).run P w=.ok u w∧Bg G y u:=by
 unfold D4 at h;split at h
 ·rename_i cs;cases r with
  | @iptr _ b off vs h1 h2 h3=>
    refine⟨⟨b,off,none⟩,?_⟩;cases n with
    |none=>
     cases cs with
     |nil=>simp at h
     |cons c cs=>
      simp at h;subst h;have h0:=hw.imm _ _ _ (h1 0 Si);exact⟨_,rfl,Db hn (by simpa using h0),h3 0 _ Si⟩
    |some n=>
     simp only at h;split at h
     ·rename_i hle;injection h with h;subst h;refine⟨_,rfl,Dc hn vs λj hj=>by rw[A_];exact hw.imm _ _ _ (h1 j Om),D2 vs (by simp;omega) (λj hj=>h2 j Om) λj y hy=>h3 j y ?_⟩;rw[getElem?_take]at hy;split at hy<;>simp_all
     ·cases h
 ·rename_i i off;cases r with
  | @ref _ _ b hb=>
    refine⟨⟨b,off,none⟩,?_⟩;split at h
    ·rename_i xs hS;have⟨b',cs,t',g1,g2,g3,g4,_⟩:=hw.obj i xs hS;rw[hb]at g1;injection g1 with g1;subst g1;cases n with
     |none=>
      have hlt:off<cs.size:=by rw[g3];exact(Ge h)
      have hc:cs[off]? =some cs[off]:=Array.getElem?_eq_getElem hlt;exact⟨_,rfl,Db hn ((CQ g2 off).trans hc),(g4 off y _ h hc).2⟩
     |some n=>
      simp only at h;split at h
      ·rename_i hle;injection h with h;subst h;have hc:∀j,j<n->cs[off+j]? =some (cs.getD (off+j) undef):=λj hj=>by
        rw[Array.getElem?_eq_getElem (show off+j<cs.size by omega)];simp[show off+j<cs.size by omega]
       refine⟨_,rfl,Dc hn (λj=>cs.getD (off+j) undef) λj hj=>by rw[A_];exact(CQ g2 _).trans (hc j hj),D2 _ (by simp;omega) (λj hj=>?_) λj y hy=>?_⟩
       ·exact(g4 (off+j) _ _ (getElem?_eq_getElem (show off+j<xs.length by omega)) (hc j hj)).1
       ·have hjn:j<n:=by
         rcases Nat.lt_or_ge j n with h|h
         ·exact h
         ·rw[getElem?_take,if_neg Om]at hy;cases hy
        refine(g4 (off+j) y _ ?_ (hc j hjn)).2;rw[getElem?_take,if_pos hjn,getElem?_drop]at hy;exact hy
      ·cases h
    ·cases h
 ·cases h
def SN {P:Program} {fn:Func} {rv:List RV} (hr:Ha P fn=some rv) {tm:List AV} {S:List Ac} {xs:List AV} (h:B8 tm S rv=some xs) {G0:Gh} {S0:List Ac} {w0:World} {G:Gh} {a:Act} {w:World} (hz:Cz G0 S0 w0 tm S G a w):
 ∃v,(results fn a.tmps).run P w=.ok v w∧Bg G (Ci xs) v:=by
 obtain⟨F,hF⟩:∃F:ResultVar->Sem Value,F=(λr=>match r with
  | .tmp t=>pure (a.tmps.getD t undef)
  | .cell q t=>do loadVar t (←asAddr (a.tmps.getD q undef))):=⟨_,rfl⟩
 have hFt:∀t,F (.tmp t)=pure (a.tmps.getD t undef):=λt=>by rw[hF]
 have hFc:∀q t,F (.cell q t)=(do loadVar t (←asAddr (a.tmps.getD q undef)):Sem Value):=λq t=>by rw[hF]
 have key:∀(rs:List ResultVar) (rv:List RV) (xs:List AV),LN (λr:ResultVar=>match r with
  | .tmp t=>some (.tmp t)
  | .cell a t=>(D6 P t).map λn=>.cell a n) rs=some rv->B8 tm S rv=some xs->∃vs:List Value,(rs.mapM F).run P w=.ok vs w∧BT G xs vs:=by
  intro rs
  induction rs with
  |nil=>intro rv xs h1 h2;simp[LN]at h1;subst h1;simp[B8]at h2;subst h2;exact⟨[],Si,BT.nil _⟩
  |cons r rs ih=>
   intro rv xs h1 h2;simp only[LN]at h1;split at h1
   ·rename_i y ys hy hys;injection h1 with h1;subst h1;simp only[B8]at h2;split at h2
    ·rename_i x xs' hx hxs;injection h2 with h2;subst h2;have⟨vs,hv,hrep⟩:=ih ys xs' hys hxs;cases r with
     |tmp t=>
      injection hy with hy;subst hy;simp only[D1]at hx;injection hx with hx;subst hx;have:=hz.ev (.tmp t);simp only[ev,Act.eval]at this;exact⟨_,by rw[mapM_cons];simp only[Sem.run_bind,hFt,Sem.run_pure,Result.andThen_ok,hv],BT.cons this hrep⟩
     |cell q t=>
      simp only at hy;cases hn:D6 P t with
      |none=>simp[hn]at hy
      |some n=>
       simp[hn]at hy;subst hy;simp only[D1]at hx;have:=hz.ev (.tmp q);simp only[ev,Act.eval]at this;have⟨ad,u,e1,e2,e3⟩:=Z6 (P:=P) hn hz.left.wd hx this;refine⟨u::vs,?_,BT.cons e3 hrep⟩;rw[mapM_cons];simp only[Sem.run_bind,hFc,e1,asAddr,Sem.run_pure,Result.andThen_ok,e2,hv]
    ·cases h2
   ·cases h1
 have⟨vs,hv,hrep⟩:=key fn.results.toList rv xs hr h;have hm:(fn.results.mapM F).run P w=.ok vs.toArray w:=by
  rw[Array.mapM_eq_mapM_toList];simp only[Sem.run_map,hv,Result.andThen_ok]
 have e:results fn a.tmps=(do let vs ←fn.results.mapM F;pure (if h:vs.size=1 then vs[0]else .tuple vs)):=by rw[hF];rfl
 rw[e];simp only[Sem.run_bind,hm,Result.andThen_ok,Sem.run_pure];refine⟨_,rfl,?_⟩
 match xs,vs,hrep with
 |[x],[v],hrep=>exact hrep.2 0 x v rfl rfl
 |[],[],_=>exact .tup rfl (λj x v h=>by simp at h)
 |x::y::xs,v::u::vs,hrep=>
  have:¬(v::u::vs).toArray.size=1:=by simp
  rw[dif_neg this];exact .tup (by simpa using hrep.1) (λj x v hx hv=>hrep.2 j x v hx (by simpa using hv))
 |[],_::_,hrep=>simpa using hrep.1
 |_::_,[],hrep=>simpa using hrep.1
 |[_],_::_::_,hrep=>simpa using hrep.1
 |_::_::_,[_],hrep=>simpa using hrep.1
theorem A2.res {P:Program} {m:Nat} {fn:Func} {rv:List RV} (hr:Ha P fn=some rv) {tm:List AV} {S:List Ac} {xs:List AV} (h:B8 tm S rv=some xs):A2 P m fn tm S (Ci xs) S:=λG0 S0 w0 G a w _ hz=>by
 have⟨v,h1,h2⟩:=SN hr h hz;exact⟨v,G,h1,h2,hz.left⟩
theorem A2.sel {P:Program} {m:Nat} {fn:Func} {tm:List AV} {S S':List Ac} {r r':AV} (h:A2 P m fn tm S r' S) (ids:List Nat) (hn:ids.Nodup) (hl:ids.length=S'.length) (hm:m≤S'.length)
 (hp:∀(k i:Nat),k<m->ids[k]? =some i->i=k) (hT:∀(k:Nat) (o:Ac),S'[k]? =some o->∃i,ids[k]? =some i∧S[i]? =some (o.ren (AH ids S.length))) (hr:r.ren (AH ids S.length)=r'):A2 P m fn tm S r S':=λG0 S0 w0 G a w e hz=>by
 have⟨v,G',hv,hrep,hs⟩:=h G0 S0 w0 G a w e hz;have hD:∀(k i:Nat),S'.length≤k->ids[k]? =some i->S[i]? =some .dead:=λk i hk hi=>by
  rw[getElem?_eq_none Om]at hi;cases hi
 have⟨hwd,hblk⟩:=Wd.pull hs.wd ids hn Om hT hD;have hid:∀k,k<m->AH ids S.length k=k:=λk hk=>by
  have e:ids[k]? =some (ids[k]'Om):=by simp
  rw[Eb e];exact hp k _ hk e
 have hw0:∀i,m≤i->G0.loc i=none∧∀n,G0.hist i n=none:=λi hi=>hz.wd0.dom i (.inl (getElem?_eq_none Om))
 refine⟨v,_,hv,hrep.pull r hr,⟨⟨hs.le.imm,λi b hb=>?_,λi n u hb=>?_⟩,hwd,hs.kept,λi b hb=>?_,hs.still⟩⟩
 ·have hi:i<m:=by
   rcases Nat.lt_or_ge i m with h|h
   ·exact h
   ·rw[(hw0 i h).1]at hb;cases hb
  show G'.loc (AH ids S.length i)=_;rw[hid i hi];exact hs.le.loc i b hb
 ·have hi:i<m:=by
   rcases Nat.lt_or_ge i m with h|h
   ·exact h
   ·rw[(hw0 i h).2]at hb;cases hb
  show G'.hist (AH ids S.length i) n=_;rw[hid i hi];exact hs.le.hist i n u hb
 ·rcases hblk i with h|h
  ·rw[h]at hb;cases hb
  ·rw[h]at hb;exact hs.own _ b hb
theorem Ag.body {P:Program} {f:FuncId} {fn:Func} {code:Code} {c:C} {args:List AV} {S:List Ac} {r:AV} {S':List Ac} (hf:P.funcs[f]? =some fn) (hb:fn.body=some code) (hname:(fn.name== "runtime.NumGoroutine")=false) (hc:AO P code=some c)
 (h:aw P S.length c (args++List.replicate (fn.ntmps-args.length) .any) S λe tm S1=>(e=.ret∨e=.normal)∧A2 P S.length fn tm S1 r S'):Ag P f args S r S':=by
 refine⟨⟨fn,hf,by simp[hb],hname⟩,λG w vs hw hr=>?_⟩;refine(callsIn_wide (n:=0)).1 (callsIn_of_wp_marks hf hb trivial ?_);have hsz:vs.size=args.length:=by simpa using hr.1.symm
 have hz:Cz G S w (args++List.replicate (fn.ntmps-args.length) .any) S G {tmps:=vs++Array.replicate (fn.ntmps-vs.size) undef,defers:=[]} w:=by
  refine⟨AS.refl hw,by simp[hsz],λt x v hx hv=>?_,Jm.nil _ _,hw⟩;rw[getElem?_append]at hx;split at hx
  ·rename_i ht;simp only[Array.getElem?_append]at hv;rw[if_pos Om]at hv;exact hr.2 t x v hx (by simpa using hv)
  ·rw[getElem?_replicate]at hx;split at hx
   ·injection hx with hx;subst hx;exact .any v
   ·cases hx
 refine wpIn_wide.2 (wp_mono (IJ code c hc _ S _ h G S w G _ w rfl hz) λe a' w' hq=>?_);have⟨tm',S1,G',hz',he,hfin⟩:=hq;have key:∀(ds:List Deferred) (w':World),Cz G S w tm' S1 G' {a' with defers:=ds} w'->LeavesInM Fence.wide 0 P fn a'.tmps (λe w'=>∃v G',e=.returned v∧Bg G' r v∧AS G S w G' S' w') ds .returning w':=by
  intro ds
  induction ds with
  |nil=>
   intro w' hz';have⟨v,G'',hv,hrep,hleft⟩:=hfin G S w G' _ w' rfl hz';exact⟨v,hv,v,G'',rfl,hrep,hleft⟩
  |cons d ds ih=>
   intro w' hz';have⟨Ds,h1,h2,h3⟩:=hz'.defers;cases Ds with
   |nil=>cases h2
   |cons D Ds=>
    simp only[map_cons,List.cons.injEq]at h2;obtain⟨rfl,h2⟩:=h2;have hD:=h3 D Si;refine⟨Si,.inl ⟨D,w'.putObj D (.deferred none),rfl,run_takeDeferred hD.2,ih _ ?_⟩⟩;have hl:=hz'.left;refine⟨⟨hl.le,hl.wd.turnOut hD.2,⟨hl.kept.os,hl.kept.tape,hl.kept.output,by simpa[World.putObj]using hl.kept.size,λi hi hu=>?_⟩,hl.own,hl.still⟩,hz'.size,hz'.rep,⟨Ds,(nodup_cons.1 h1).2,h2,λD' hD'=>⟨(h3 D' (by simp[hD'])).1,?_⟩⟩,hz'.wd0⟩
    ·rw[World.putObj_heap_other Om];exact hl.kept.block i hi hu
    ·rw[World.putObj_heap_other (by rintro rfl;exact(nodup_cons.1 h1).1 hD')];exact(h3 D' (by simp[hD'])).2
 rcases he with rfl|rfl
 ·exact key a'.defers w' hz'
 ·exact key a'.defers w' hz'
def zM (a d:Nat):RO:=(none,.mov (.tmp a),some d)
def zV (v:Value) (d:Nat):RO:=(none,.mov (.const v),some d)
def zF (o a d:Nat):RO:=(none,.fadr o (.tmp a),some d)
def zL (a d:Nat):RO:=(none,.load none (.tmp a),some d)
def zN (n a d:Nat):RO:=(none,.load (some n) (.tmp a),some d)
def zS (n a b:Nat):RO:=(none,.store n (.tmp a) (.tmp b),none)
def zC (f:FuncId) (xs:List Nat) (d:Nat):RO:=(none,.call (.func f) (xs.map .tmp),some d)
def zE (a i d:Nat):RO:=(none,.ext (.tmp a) i,some d)
def zU (a d:Nat):RO:=(none,.len false (.tmp a),some d)
def zB (op:BinOp) (a b d:Nat):RO:=(none,.bin op (.tmp a) (.tmp b),some d)
def zI (op:BinOp) (a:Nat) (n:Int) (d:Nat):RO:=(none,.bin op (.tmp a) (.const (.int .i64 n)),some d)
def zJ (k a i d:Nat):RO:=(none,.iadr k (.tmp a) (.tmp i),some d)
def zG (t:Nat) (w:Bool) (r:RO):RO:=(some (t,w),r.2)
theorem Aao (t:Nat) (w:Bool) (g:Option (Nat×Bool)) (r:I×Option Nat):zG t w (g,r)=(some (t,w),r):=rfl
def Ct (P:Program) (f:FuncId) (args:List AV) (rd:List (Nat×Ac)) (r:Nat->AV) (upd:List (Nat×Ac)) (new:Nat->List Ac):Prop:=
 ∀T n,(∀p∈rd,T[p.1]? =some p.2)->(∀p∈BC n (new n),T[p.1]? =some .dead)->Ag P f args T (r n) (Cv T (upd++BC n (new n)))
theorem Aa.of {P:Program} {f:FuncId} {args:List AV} {rd:List (Nat×Ac)} {r:Nat->AV} {upd:List (Nat×Ac)} {new:Nat->List Ac} {S:List Ac} {K:KT} (h:Ct P f args rd r upd new) (hrd:∀p∈rd,S[p.1]? =some p.2)
 (hu:∀p∈upd,p.1∈rd.map (·.1)) (hK:K (r S.length) (rd.map (·.1)) upd (new S.length)):Aa P f args S K:=by
 refine⟨_,_,_,_,λT hT _ hd=>h T S.length (λp hp=>?_) hd,hu,λi hi=>?_,hK⟩
 ·rw[hT p.1 (mem_map.2 ⟨p,hp,rfl⟩)];exact hrd p hp
 ·obtain⟨p,hp,rfl⟩:=mem_map.1 hi;exact(Ge (hrd p hp))
theorem ZB (T:List Ac) (u:List (Nat×Ac)) (h:∀p∈u,T[p.1]? =some p.2):Cv T u=T:=by
 induction u with
 |nil=>rfl
 |cons p u ih=>
  have:T.set p.1 p.2=T:=by
   apply ext_getElem?;intro q;by_cases e:q=p.1
   ·subst e;have hp:=h p Si;rw[getElem?_set_self (Ge hp),hp]
   ·rw[getElem?_set_ne (Ne.symm e)]
  rw[CF,this];exact ih λq hq=>h q (by simp[hq])
theorem Ib (n:Nat) (l:List Ac):BC n l=(range' n l.length).zip l:=by
 induction l generalizing n with
 |nil=>rfl
 |cons o l ih=>simp[BC,ih,range'_succ]
theorem Ct.mk {P:Program} {f:FuncId} {args args₀:List AV} {S₀ S₁:List Ac} {r₀:AV} {r:Nat->AV} {rd upd:List (Nat×Ac)} {new:Nat->List Ac} (h:Ag P f args₀ S₀ r₀ S₁) (is:List Nat) (hn:is.Nodup) (hl:is.length=S₀.length) (hSl:S₀.length≤S₁.length)
 (hal:∀o∈S₀,o≠ .dead) (ha:∀n N,args₀.map (λx=>x.ren (AH (is++range' n (S₁.length-S₀.length)) N))=args) (hr:∀n N,r₀.ren (AH (is++range' n (S₁.length-S₀.length)) N)=r n)
 (hrd:∀n N,is.zip (S₀.map λo=>o.ren (AH (is++range' n (S₁.length-S₀.length)) N))=rd)
 (hupd:(∀n N,is.zip ((S₁.take S₀.length).map λo=>o.ren (AH (is++range' n (S₁.length-S₀.length)) N))=upd)∨upd=[]∧S₁.take S₀.length=S₀)
 (hnew:∀n N,((S₁.drop S₀.length).map λo=>o.ren (AH (is++range' n (S₁.length-S₀.length)) N))=new n):Ct P f args rd r upd new:=by
 intro T n hT hd;have hln:(new n).length=S₁.length-S₀.length:=by rw[←hnew n T.length];simp
 have hat:∀(k:Nat) (o:Ac),S₀[k]? =some o->∃i,(is++range' n (S₁.length-S₀.length))[k]? =some i∧T[i]? =some (o.ren (AH (is++range' n (S₁.length-S₀.length)) T.length)):=by
  intro k o ho;have hk:k<is.length:=by rw[hl];exact(Ge ho)
  refine⟨is[k],by rw[getElem?_append_left hk];simp,hT (is[k],_) ?_⟩;rw[←hrd n T.length];refine mem_of_getElem? (i:=k) ?_;rw[getElem?_zip_eq_some];exact⟨getElem?_eq_getElem hk,by rw[getElem?_map,ho];rfl⟩
 have hdead:∀i,i∈range' n (S₁.length-S₀.length)->T[i]? =some .dead:=by
  intro i hi;rw[Ib,hln]at hd;obtain⟨j,hj,rfl⟩:=getElem_of_mem hi;have hj':j<(new n).length:=by rw[hln];simpa using hj
  have:=hd ((range' n (S₁.length-S₀.length))[j],(new n)[j]) (by
   refine mem_of_getElem? (i:=j) ?_;rw[getElem?_zip_eq_some];exact⟨getElem?_eq_getElem hj,getElem?_eq_getElem hj'⟩)
  exact this
 have hnd:(is++range' n (S₁.length-S₀.length)).Nodup:=by
  rw[nodup_append];refine⟨hn,nodup_range',λa ha1 b hb1=>?_⟩;rintro rfl;obtain⟨k,hk,rfl⟩:=getElem_of_mem ha1;have hk':k<S₀.length:=by rw[←hl];exact hk
  have⟨i,h1,h2⟩:=hat k S₀[k] (getElem?_eq_getElem hk');rw[getElem?_append_left hk,getElem?_eq_getElem hk]at h1;injection h1 with h1;subst h1;rw[hdead _ hb1]at h2;injection h2 with h2;have:=hal S₀[k] (getElem_mem hk');cases ho:S₀[k]with
  |dead=>exact this ho
  |cells xs=>rw[ho]at h2;simp[Ac.ren]at h2
  |row a b=>rw[ho]at h2;simp[Ac.ren]at h2
  |mrow a b c=>rw[ho]at h2;simp[Ac.ren]at h2
  |raw a b=>rw[ho]at h2;simp[Ac.ren]at h2
 have:=h.embed T (is++range' n (S₁.length-S₀.length)) hnd (by simp;omega) hSl hat (λk i hk hi=>by
  rw[getElem?_append_right Om]at hi;exact hdead i (mem_of_getElem? hi))
 rw[ha,hr]at this;have e:(is++range' n (S₁.length-S₀.length)).zip (S₁.map λo=>o.ren (AH (is++range' n (S₁.length-S₀.length)) T.length))=
  is.zip ((S₁.take S₀.length).map λo=>o.ren (AH (is++range' n (S₁.length-S₀.length)) T.length))++BC n (new n):=by
  rw[Ib,hln,←hnew n T.length]
  conv=>lhs;rw[←take_append_drop S₀.length S₁]
  rw[map_append,zip_append (by simp;omega)];simp
 rw[e,CZ]at this;rw[CZ];rcases hupd with hupd|⟨rfl,hsame⟩
 ·rw[hupd]at this;exact this
 ·rw[hsame,ZB T _ (λp hp=>?_)]at this
  ·exact this
  ·rw[hrd]at hp;exact hT p hp
def B6:List AV->List AV->Prop
 |[],[]=>True
 |x::xs,y::ys=>(y=.any∨x=y)∧B6 xs ys
 |_,_=>False
def kO:∀{xs ys:List AV},B6 xs ys->xs.length=ys.length∧∀(t:Nat) (y:AV),ys[t]? =some y->y=.any∨xs[t]? =some y:=by
 intro xs
 induction xs with
 |nil=>intro ys h;cases ys with
  |nil=>exact⟨rfl,λt y h=>by simp at h⟩
  |cons=>exact h.elim
 |cons x xs ih=>intro ys h;cases ys with
  |nil=>exact h.elim
  |cons y ys=>
   have⟨h1,h2⟩:=h;have⟨g1,g2⟩:=ih h2;refine⟨by simp[g1],λt z hz=>?_⟩;cases t with
   |zero=>simp at hz;subst hz;rcases h1 with h|h;exact .inl h;exact .inr (by simp[h])
   |succ t=>simp at hz;simpa using g2 t z hz
theorem Wk.forget {m:Nat} {tm tm':List AV} {S:List Ac} (h:B6 tm tm'):Wk m tm S tm' S:=λG0 S0 w0 G a w _ hz=>by
 have⟨h1,h2⟩:=kO h;refine⟨G,hz.left,by rw[hz.size,h1],λt x v hx hv=>?_,hz.defers,hz.wd0⟩;rcases h2 t x hx with rfl|h
 ·exact .any v
 ·exact hz.rep t x v h hv
theorem Wk.to {m:Nat} {tm tm':List AV} {S S':List Ac} (hS:S=S') (h:B6 tm tm'):Wk m tm S tm' S':=hS▸Wk.forget h
def Ch (ρ:Nat->Nat):List AV->List AV->Prop
 |[],[]=>True
 |x::xs,y::ys=>(y=.any∨x=y.ren ρ)∧Ch ρ xs ys
 |_,_=>False
def Z2 {ρ:Nat->Nat}:∀{xs ys:List AV},Ch ρ xs ys->xs.length=ys.length∧∀(t:Nat) (y:AV),ys[t]? =some y->y=.any∨xs[t]? =some (y.ren ρ):=by
 intro xs
 induction xs with
 |nil=>intro ys h;cases ys with
  |nil=>exact⟨rfl,λt y h=>by simp at h⟩
  |cons=>exact h.elim
 |cons x xs ih=>intro ys h;cases ys with
  |nil=>exact h.elim
  |cons y ys=>
   have⟨h1,h2⟩:=h;have⟨g1,g2⟩:=ih h2;refine⟨by simp[g1],λt z hz=>?_⟩;cases t with
   |zero=>simp at hz;subst hz;rcases h1 with h|h;exact .inl h;exact .inr (by simp[h])
   |succ t=>simp at hz;simpa using g2 t z hz
theorem AS.sel {G0:Gh} {S0:List Ac} {w0:World} {G:Gh} {S:List Ac} {w:World} (hs:AS G0 S0 w0 G S w) (h0:Wd G0 S0 w0) {S':List Ac} (ids:List Nat) (hn:ids.Nodup) (hl:ids.length=S'.length) (hm:S0.length≤S'.length)
 (hp:∀(k i:Nat),k<S0.length->ids[k]? =some i->i=k) (hT:∀(k:Nat) (o:Ac),S'[k]? =some o->∃i,ids[k]? =some i∧S[i]? =some (o.ren (AH ids S.length))):AS G0 S0 w0 (G.pull (AH ids S.length)) S' w:=by
 have hD:∀(k i:Nat),S'.length≤k->ids[k]? =some i->S[i]? =some .dead:=λk i hk hi=>by
  rw[getElem?_eq_none Om]at hi;cases hi
 have⟨hwd,hblk⟩:=Wd.pull hs.wd ids hn Om hT hD;have hid:∀k,k<S0.length->AH ids S.length k=k:=λk hk=>by
  have e:ids[k]? =some (ids[k]'Om):=by simp
  rw[Eb e];exact hp k _ hk e
 have hw0:∀i,S0.length≤i->G0.loc i=none∧∀n,G0.hist i n=none:=λi hi=>h0.dom i (.inl (getElem?_eq_none Om))
 refine⟨⟨hs.le.imm,λi b hb=>?_,λi n u hb=>?_⟩,hwd,hs.kept,λi b hb=>?_,hs.still⟩
 ·have hi:i<S0.length:=by
   rcases Nat.lt_or_ge i S0.length with h|h
   ·exact h
   ·rw[(hw0 i h).1]at hb;cases hb
  show G.loc (AH ids S.length i)=_;rw[hid i hi];exact hs.le.loc i b hb
 ·have hi:i<S0.length:=by
   rcases Nat.lt_or_ge i S0.length with h|h
   ·exact h
   ·rw[(hw0 i h).2]at hb;cases hb
  show G.hist (AH ids S.length i) n=_;rw[hid i hi];exact hs.le.hist i n u hb
 ·rcases hblk i with h|h
  ·rw[h]at hb;cases hb
  ·rw[h]at hb;exact hs.own _ b hb
theorem Wk.sel {m:Nat} {tm tm':List AV} {S S':List Ac} (ids:List Nat) (hn:ids.Nodup) (hl:ids.length=S'.length) (hm:m≤S'.length) (hp:ids.take m=List.range m)
 (hT:ids.map (λi=>S[i]?)=S'.map λo=>some (o.ren (AH ids S.length))) (ht:Ch (AH ids S.length) tm tm'):Wk m tm S tm' S':=λG0 S0 w0 G a w e hz=>by
 have⟨h1,h2⟩:=Z2 ht;refine⟨_,AS.sel hz.left hz.wd0 (S':=S') ids hn hl Om (λk i hk hi=>?_) (λk o ho=>?_),by rw[hz.size,h1],λt x v hx hv=>?_,hz.defers,hz.wd0⟩
 ·have:(ids.take m)[k]? =some i:=by rw[getElem?_take,if_pos Om];exact hi
  rw[hp,getElem?_range Om]at this;injection this with this;exact this.symm
 ·have hk:k<ids.length:=by rw[hl];exact(Ge ho)
  refine⟨ids[k],Si,?_⟩;have:=congrArg (λl:List (Option Ac)=>l[k]?) hT;simp only[getElem?_map,getElem?_eq_getElem hk,ho,Option.map_some]at this;injection this
 ·rcases h2 t x hx with rfl|h
  ·exact .any v
  ·exact(hz.rep t _ v h hv).pull x rfl
theorem AS.reobj {G:Gh} {T:List Ac} {w:World} {i:Nat} {xs xs':List AV} (h:Wd G T w) (hi:T[i]? =some (.cells xs)) (hl:xs'.length=xs.length) (hc:∀(k:Nat) (x:AV) (v:Value),xs'[k]? =some x->(∀y,xs[k]? =some y->Bg G y v)->Bg G x v):
 AS G T w G (T.set i (.cells xs')) w:=by
 have⟨b,cs,t,h1,h2,h3,h4,_⟩:=h.obj i xs hi;refine AS.turn h hi h1 (⟨rfl,rfl,rfl,rfl,λ_ _=>rfl,h2⟩:KA w w b (.cells cs t (0,0))) Om λk x v hx hv=>?_
 have hk:k<xs.length:=by rw[←hl];exact(Ge hx)
 have:=h4 k _ v (getElem?_eq_getElem hk) hv;refine⟨this.1,hc k x v hx λy hy=>?_⟩;rw[getElem?_eq_getElem hk]at hy;injection hy with hy;subst hy;exact this.2
theorem Wk.row {m:Nat} {tm:List AV} {S:List Ac} (t k:Nat) {k':Nat} {xs:List AV} (ht:tm[t]? =some (.sl .full k' xs)) (hk:k'=k∨xs=[]) (h1:1≤k):Wk m tm S (tm.set t (.sl (.row S.length) k xs)) (S++[.row k xs.length]):=λG0 S0 w0 G a w _ hz=>by
 have hd:=AS.dead hz.left.wd 1;have htl:=(Ge ht);have hlt:t<a.tmps.size:=by rw[hz.size];exact htl
 have hv:=Array.getElem?_eq_getElem hlt;have r:=hz.rep t _ _ ht hv;have r':Bg G (.sl .full k xs) a.tmps[t]:=by
  rcases hk with rfl|rfl
  ·exact r
  ·exact r.rek
 generalize a.tmps[t]=v at*;cases r' with
 | @sl _ _ _ A c b o vs q1 q2 q3 q4 q5 q6 q7=>
   have hc:c=xs.length:=q7;subst hc;have hid:(S++List.replicate 1 Ac.dead)[S.length]? =some .dead:=by simp
   have⟨hl,hh⟩:=AS.rowFull (id:=S.length) (k:=k) (n:=xs.length) (A:=A) hd.wd hid h1;have e:(S++List.replicate 1 Ac.dead).set S.length (.row k xs.length)=S++[.row k xs.length]:=by simp
   rw[e]at hl;have hall:=(hz.left.trans hd).trans hl;refine⟨_,hall,by simp[hz.size],λt' x u hx hu=>?_,hz.defers,hz.wd0⟩;by_cases et:t'=t
   ·subst et;simp[htl]at hx;subst hx;rw[hv]at hu;injection hu with hu;subst hu;exact((Bg.sl vs q1 q2 q3 q4 q5 q6 q7:Bg G (.sl .full k xs) _).mono hl.le).retag hh
   ·rw[getElem?_set_ne (Ne.symm et)]at hx;exact(hz.rep t' x u hx hu).mono hl.le
theorem Wk.rowObj {m:Nat} {tm:List AV} {S:List Ac} (i j k:Nat) {k':Nat} {ys xs:List AV} (hi:S[i]? =some (.cells ys)) (hj:ys[j]? =some (.sl .full k' xs)) (hk:k'=k∨xs=[]) (h1:1≤k):
 Wk m tm S tm (S.set i (.cells (ys.set j (.sl (.row S.length) k xs)))++[.row k xs.length]):=λG0 S0 w0 G a w _ hz=>by
 have hd:=AS.dead hz.left.wd 1;have hil:=(Ge hi);have hjl:=(Ge hj);have⟨b,cs,t,g1,g2,g3,g4,_⟩:=hz.left.wd.obj i ys hi;have hv:=Array.getElem?_eq_getElem (show j<cs.size by omega);have r:=(g4 j _ _ hj hv).2;have r':Bg G (.sl .full k xs) cs[j]:=by
  rcases hk with rfl|rfl
  ·exact r
  ·exact r.rek
 generalize hcj:cs[j]=v at*;cases r' with
 | @sl _ _ _ A c b' o vs q1 q2 q3 q4 q5 q6 q7=>
   have hc:c=xs.length:=q7;subst hc;have hid:(S++List.replicate 1 Ac.dead)[S.length]? =some .dead:=by simp
   have⟨hl,hh⟩:=AS.rowFull (id:=S.length) (k:=k) (n:=xs.length) (A:=A) hd.wd hid h1;have e:(S++List.replicate 1 Ac.dead).set S.length (.row k xs.length)=S++[.row k xs.length]:=by simp
   rw[e]at hl;have hi':(S++[Ac.row k xs.length])[i]? =some (.cells ys):=by rw[getElem?_append_left hil];exact hi
   have⟨b2,cs2,t2,p1,p2,p3,p4,_⟩:=hl.wd.obj i ys hi';have hb2:b2=b:=by
    have:=hl.le.loc i b (by simpa using g1);rw[p1]at this;injection this
   subst hb2;rw[p2]at g2;injection g2 with g2;injection g2 with e1 e1t;subst e1 e1t;have hturn:AS (G.newHist S.length xs.length (.slice A xs.length xs.length)) (S++[Ac.row k xs.length]) w (G.newHist S.length xs.length (.slice A xs.length xs.length)) ((S++[Ac.row k xs.length]).set i (.cells (ys.set j (.sl (.row S.length) k xs)))) w:=by
    refine AS.turn (xs':=ys.set j (.sl (.row S.length) k xs)) hl.wd hi' p1 (⟨rfl,rfl,rfl,rfl,λ_ _=>rfl,p2⟩:KA w w b2 (.cells cs2 t2 (0,0))) (by rw[length_set];omega) λq x u hx hu=>?_
    by_cases eq:q=j
    ·subst eq;simp[hjl]at hx;subst hx;rw[hv]at hu;injection hu with hu;refine⟨?_,?_⟩
     ·rw[←hu];rfl
     ·rw[←hu];exact((Bg.sl vs q1 q2 q3 q4 q5 q6 q7:Bg G (.sl .full k xs) _).mono hl.le).retag hh
    ·rw[getElem?_set_ne (Ne.symm eq)]at hx;exact p4 q x u hx hu
   have e2:(S++[Ac.row k xs.length]).set i (.cells (ys.set j (.sl (.row S.length) k xs)))=S.set i (.cells (ys.set j (.sl (.row S.length) k xs)))++[.row k xs.length]:=by rw[set_append_left _ _ hil]
   rw[e2]at hturn;have hall:=((hz.left.trans hd).trans hl).trans hturn;exact⟨_,hall,hz.size,λt' x u hx hu=>(hz.rep t' x u hx hu).mono hl.le,hz.defers,hz.wd0⟩
theorem Wk.mrow {m:Nat} {tm:List AV} {S:List Ac} (t k:Nat) {k':Nat} (ht:tm[t]? =some (.sl .full k' [])) (h1:1≤k):Wk m tm S (tm.set t (.ms S.length 0)) (S++[.mrow k 0 []]):=λG0 S0 w0 G a w _ hz=>by
 have hd:=AS.dead hz.left.wd 1;have htl:=(Ge ht);have hlt:t<a.tmps.size:=by rw[hz.size];exact htl
 have hv:=Array.getElem?_eq_getElem hlt;have r:=hz.rep t _ _ ht hv;generalize a.tmps[t]=v at*;cases r with
 | @sl _ _ _ A c b o vs q1 q2 q3 q4 q5 q6 q7=>
   have hc:c=0:=q7;subst hc;have hid:(S++List.replicate 1 Ac.dead)[S.length]? =some .dead:=by simp
   have hl:=AS.mrowTo (j:=S.length) (k:=k) (n:=0) (c:=0) (xs:=[]) (A:=A) hd.wd (.inl hid) h1 Si (Nat.le_refl _) Om (CE.refl _ w) (λh=>by omega);have e:(S++List.replicate 1 Ac.dead).set S.length (.mrow k 0 [])=S++[.mrow k 0 []]:=by simp
   rw[e]at hl;have hall:=(hz.left.trans hd).trans hl;refine⟨_,hall,by simp[hz.size],λt' x u hx hu=>?_,hz.defers,hz.wd0⟩;by_cases et:t'=t
   ·subst et;simp[htl]at hx;subst hx;rw[hv]at hu;injection hu with hu;subst hu;exact .ms (by simp[Gh.newHist]) λh=>by omega
   ·rw[getElem?_set_ne (Ne.symm et)]at hx;exact(hz.rep t' x u hx hu).mono hl.le
def Mc {k:Nat}:∀(ys:List AV),(∀x∈ys,x.cells.length=k)->∀(i j:Nat) (x y:AV),ys[i]? =some x->x.cells[j]? =some y->(flat ys)[i*k+j]? =some y
 |[],_=>λi j x y h _=>by simp at h
 |x::ys,hk=>λi j z y hz hy=>by
  have hx:x.cells.length=k:=hk x Si;have e:flat (x::ys)=x.cells++flat ys:=by simp[flat]
  rw[e];cases i with
  |zero=>
   simp at hz;subst hz;have:=(Ge hy);rw[Nat.zero_mul,Nat.zero_add,getElem?_append_left this];exact hy
  |succ i=>
   have:=Mc ys (λx h=>hk x (by simp[h])) i j z y (by simpa using hz) hy;rw[Nat.add_mul,Nat.one_mul,getElem?_append_right Om,hx,show i*k+k+j-k=i*k+j by omega];exact this
theorem Wk.freeze {m:Nat} {tm:List AV} {S:List Ac} (t j k:Nat) {n:Nat} {xs:List AV} (zs:List AV) (ht:tm[t]? =some (.ms j n)) (hj:S[j]? =some (.mrow k n xs)) (hl:zs.length=n) (hf:flat zs=xs) (hk:∀z∈zs,z.cells.length=k):
 Wk m tm S (tm.set t (.sl (.row j) k zs)) (S.set j (.row k n)):=λG0 S0 w0 G a w _ hz=>by
 have htl:=(Ge ht);have hlt:t<a.tmps.size:=by rw[hz.size];exact htl
 have hv:=Array.getElem?_eq_getElem hlt;have r:=hz.rep t _ _ ht hv;generalize a.tmps[t]=v at*;cases r with
 | @ms _ _ A c hh hA=>
   have⟨G',hl',hh',vs,v1,v2,v3,v4,v5⟩:=AS.freeze hz.left.wd hj hh;refine⟨G',hz.left.trans hl',by simp[hz.size],λt' x u hx hu=>?_,hz.defers,hz.wd0⟩;by_cases et:t'=t
   ·subst et;simp[htl]at hx;subst hx;rw[hv]at hu;injection hu with hu;subst hu;subst hl hf;by_cases h0:0<zs.length
    ·obtain⟨b,rfl,v6⟩:=v5 h0;exact C5 v1 v2 v3 (λi x hx=>hk x (mem_of_getElem? hx)) v6 (λi j x y u h1 h2 h3=>v4 _ y u (Mc zs hk i j x y h1 h2) h3) hh'
    ·have hzn:zs=[]:=eq_nil_of_length_eq_zero Om;subst hzn;exact Bg.sl (b:=0) (o:=0) (λ_ _=>undef) v2 (λh=>by simp at h) (λi x h=>by simp at h) (λi j h=>by simp at h) (λi j h=>by simp at h) (λi j x y h=>by simp at h) hh'
   ·rw[getElem?_set_ne (Ne.symm et)]at hx;exact(hz.rep t' x u hx hu).mono hl'.le
def P8 {P:Program} {i:I} {ρ:Operand->AV} {S:List Ac} {K K':KT} (hK:∀v rd upd new,K v rd upd new->K' v rd upd new) (h:Cf P i ρ S K):Cf P i ρ S K':=by
 cases i<;>dsimp only[Cf]at h ⊢
 case mov=>exact hK _ _ _ _ h
 case pick=>unfold Nk at h ⊢;split at h<;>first|exact hK _ _ _ _ h|exact h.elim
 case new=>exact hK _ _ _ _ h
 case box=>unfold No at h ⊢;split at h<;>first|exact hK _ _ _ _ h|exact h.elim
 case build=>unfold Hs at h ⊢;split at h<;>first|exact hK _ _ _ _ h|exact h.elim
 case bsl=>exact⟨h.1,hK _ _ _ _ h.2⟩
 case load=>unfold Kf W8 at h ⊢;(repeat' split at h)<;>first|exact hK _ _ _ _ h|exact⟨h.1,hK _ _ _ _ h.2⟩|exact⟨h.1,h.2.1,h.2.2.1,hK _ _ _ _ h.2.2.2⟩|exact h.2.elim|exact h.elim
 case store=>unfold JC Q1 at h ⊢;(repeat' split at h)<;>first|exact⟨h.1,h.2.1,hK _ _ _ _ h.2.2⟩|exact⟨h.1,h.2.1,h.2.2.1,h.2.2.2.1,hK _ _ _ _ h.2.2.2.2⟩|exact h.elim
 case nilc=>unfold Q3 at h ⊢;split at h<;>first|exact hK _ _ _ _ h|exact h.elim
 case bin op x y=>
  unfold T5 at h ⊢;split at h
  ·cases op<;>dsimp only[Dk]at h ⊢ <;>first|exact⟨h.1,hK _ _ _ _ h.2⟩|exact⟨h.1,h.2.1,hK _ _ _ _ h.2.2⟩
  ·cases op<;>dsimp only[W5]at h ⊢ <;>first|exact hK _ _ _ _ h|exact h.elim
  ·exact h.elim
 case eqb=>unfold Xa at h ⊢;split at h<;>first|exact hK _ _ _ _ h|exact h.elim
 case eqa=>unfold Xb at h ⊢;split at h<;>first|exact⟨h.1,h.2.1,hK _ _ _ _ h.2.2⟩|exact h.elim
 case eqp=>unfold T3 at h ⊢;split at h<;>first|exact hK _ _ _ _ h|exact h.elim
 case un=>unfold rR at h ⊢;split at h<;>first|exact hK _ _ _ _ h|exact h.elim
 case cvt=>unfold Xc at h ⊢;split at h<;>first|exact hK _ _ _ _ h|exact h.elim
 case b2s=>unfold Xd at h ⊢;split at h<;>first|exact⟨h.1,h.2.1,hK _ _ _ _ h.2.2⟩|exact h.elim
 case s2b=>unfold W6 at h ⊢;split at h<;>first|exact⟨h.1,hK _ _ _ _ h.2⟩|exact h.elim
 case slice=>
  unfold Eh at h ⊢;split at h
  ·split at h
   ·rename_i l hh hl hhh;have⟨h1,h2,h3,h4,h5⟩:=h;refine⟨h1,h2,h3,h4,?_⟩;split at h5
    ·exact hK _ _ _ _ h5
    ·exact⟨h5.1,hK _ _ _ _ h5.2⟩
   ·exact h.elim
  ·exact h.elim
 case sstr=>
  unfold PL at h ⊢;split at h
  ·split at h
   ·rename_i l hh hl hhh;exact⟨h.1,h.2.1,h.2.2.1,hK _ _ _ _ h.2.2.2⟩
   ·exact h.elim
  ·exact h.elim
 case fadr=>unfold Kg at h ⊢;split at h<;>first|exact hK _ _ _ _ h|exact h.elim
 case fld=>unfold KV at h ⊢;(repeat' split at h)<;>first|exact hK _ _ _ _ h|exact⟨h.1,hK _ _ _ _ h.2⟩|exact h.elim
 case iadr=>unfold Lo at h ⊢;split at h<;>first|exact⟨h.1,h.2.1,h.2.2.1,hK _ _ _ _ h.2.2.2⟩|exact⟨h.1,h.2.1,hK _ _ _ _ h.2.2⟩|exact h.elim
 case aadr=>unfold Lp at h ⊢;split at h<;>first|exact⟨h.1,h.2.1,hK _ _ _ _ h.2.2⟩|exact h.elim
 case idx=>unfold W9 KV at h ⊢;(repeat' split at h)<;>first|exact⟨h.1,h.2.1,hK _ _ _ _ h.2.2⟩|exact⟨h.1,h.2.1,h.2.2.1,hK _ _ _ _ h.2.2.2⟩|exact h.elim|exact h.2.2.elim
 case sidx=>unfold PM at h ⊢;split at h<;>first|exact⟨h.1,h.2.1,hK _ _ _ _ h.2.2⟩|exact h.elim
 case ext=>unfold W_ at h ⊢;(repeat' split at h)<;>first|exact hK _ _ _ _ h|exact h.elim
 case mkf=>exact hK _ _ _ _ h
 case call=>
  unfold Nn at h ⊢;split at h
  ·have⟨v,rd,upd,new,h1,h2,h3,h4⟩:=h;exact⟨v,rd,upd,new,h1,h2,h3,hK _ _ _ _ h4⟩
  ·have⟨go,S',h1,h2,h3,h4⟩:=h;exact⟨go,S',h1,h2,h3,hK _ _ _ _ h4⟩
  ·exact h.elim
 case mkmap=>exact hK _ _ _ _ h
 case mlook=>unfold KU at h ⊢;(repeat' split at h)<;>first|exact hK _ _ _ _ h|exact h.elim
 case mput=>unfold PN at h ⊢;(repeat' split at h)<;>first|exact hK _ _ _ _ h|exact h.elim
 case eqf=>unfold T4 at h ⊢;(repeat' split at h)<;>first|exact hK _ _ _ _ h|exact h.elim
 case app=>
  unfold Q5 at h ⊢;split at h
  ·unfold YW at h ⊢;split at h
   ·exact⟨h.1,h.2.1,h.2.2.1,h.2.2.2.1,hK _ _ _ _ h.2.2.2.2⟩
   ·exact h.elim
  ·exact⟨h.1,h.2.1,h.2.2.1,h.2.2.2.1,hK _ _ _ _ h.2.2.2.2⟩
  ·have⟨h1,h2,h3,h4⟩:=h;refine⟨h1,h2,h3,?_⟩;split at h4
   ·exact hK _ _ _ _ h4
   ·exact⟨h4.1,hK _ _ _ _ h4.2⟩
   ·exact h4.elim
  ·exact h.elim
 case len=>unfold Nl at h ⊢;split at h<;>first|exact hK _ _ _ _ h|exact h.elim
 case lenc=>exact hK _ _ _ _ h
 case mx=>unfold wS at h ⊢;split at h<;>first|exact hK _ _ _ _ h|exact h.elim
 case mksl=>unfold Ln at h ⊢;split at h<;>first|exact⟨h.1,h.2.1,h.2.2.1,h.2.2.2.1,hK _ _ _ _ h.2.2.2.2⟩|exact h.elim
def fO {P:Program} {R R':List AV->List Ac->Prop} (hR:∀tm S,R tm S->R' tm S):∀(cs:List RO) (u:List (Nat×Nat)) (tr:List (List Nat×List Nat)) (tm:List AV) (S:List Ac),DZ P cs u tr tm S R->DZ P cs u tr tm S R':=by
 intro cs
 induction cs with
 |nil=>intro u tr tm S h;exact⟨h.1,hR _ _ h.2⟩
 |cons c cs ih=>
  have⟨g,i,d⟩:=c;intro u tr tm S h;cases g with
  |none=>exact P8 (λ_ _ _ _=>ih _ _ _ _) h
  |some g=>
   have⟨t,want⟩:=g;simp only[DZ,gdK]at h ⊢;split at h
   ·split at h
    ·rename_i h1 h2;rw[if_pos h2];exact P8 (λ_ _ _ _=>ih _ _ _ _) h
    ·rename_i h1 h2;rw[if_neg h2];exact ih _ _ _ _ h
   ·exact ih _ _ _ _ h
   ·exact h.elim
def Gv {P:Program} {m:Nat}:∀{c:C} {tm:List AV} {S:List Ac} {Q Q':QT},aw P m c tm S Q->(∀e tm S,Q e tm S->Q' e tm S)->aw P m c tm S Q':=by
 intro c
 induction c with
 |skip=>intro tm S Q Q' h hq;exact hq _ _ _ h
 |reg ops u=>intro tm S Q Q' h hq;exact fO (hq .normal) _ _ _ _ _ h
 |seq a b iha ihb=>
  intro tm S Q Q' h hq;refine iha h λe tm S h=>?_
  cases e with
  |normal=>exact ihb h hq
  |_=>exact hq _ _ _ h
 |cond x a b iha ihb=>
  intro tm S Q Q' h hq;simp only[aw]at h ⊢;split at h
  ·exact⟨λe=>iha (h.1 e) hq,λe=>ihb (h.2 e) hq⟩
  ·exact h.elim
 |block id b ih=>
  intro tm S Q Q' h hq;refine ih h λe tm S h=>?_
  cases e with
  |exit id'=>
   simp only[Hn]at h ⊢;split
   ·rename_i e;rw[if_pos e]at h;exact hq _ _ _ h
   ·rename_i e;rw[if_neg e]at h;exact hq _ _ _ h
  |_=>exact hq _ _ _ h
 |loop b ih=>
  intro tm S Q Q' h hq;have⟨I,h0,hr⟩:=h;refine⟨I,h0,λn tm S hI=>ih (hr n tm S hI) λe tm S h=>?_⟩;cases e with
  |normal=>exact h
  |_=>exact hq _ _ _ h
 |exit id=>intro tm S Q Q' h hq;exact hq _ _ _ h
 |scope b ih=>
  intro tm S Q Q' h hq code hc G0 S0 w0 G a w hm hz;exact wp_mono (h code hc G0 S0 w0 G a w hm hz) λe a' w' ⟨tm',S',G',hz',hq'⟩=>⟨tm',S',G',hz',hq _ _ _ hq'⟩
 |label l=>intro tm S Q Q' h hq;have⟨tm',S',hwk,h⟩:=h;exact⟨tm',S',hwk,hq _ _ _ h⟩
 |goto l=>intro tm S Q Q' h hq;exact hq _ _ _ h
 |ret=>intro tm S Q Q' h hq;exact hq _ _ _ h
 |rng g ps a b _ _=>
  intro tm S Q Q' h hq ca cb h1 h2 G0 S0 w0 G a w hm hz;exact wp_mono (h ca cb h1 h2 G0 S0 w0 G a w hm hz) λe a' w' ⟨tm',S',G',hz',hq'⟩=>⟨tm',S',G',hz',hq _ _ _ hq'⟩
section
variable {P:Program} {m:Nat} {tm:List AV} {S:List Ac} {Q:QT}
def iU (P:Program) (m:Nat) (b:C) (Q:QT):QT:=MU (λtm S=>aw P m b tm S Q) Q
theorem SW (b:C):iU P m b Q .normal tm S=aw P m b tm S Q:=(rfl)
theorem iT (b:C):iU P m b Q .ret tm S=Q .ret tm S:=(rfl)
theorem aE (b:C) (id:Nat):iU P m b Q (.exit id) tm S=Q (.exit id) tm S:=(rfl)
theorem aD (b:C) (l:Nat):iU P m b Q (.goto l) tm S=Q (.goto l) tm S:=(rfl)
theorem Oy (id:Nat):Hn id Q .normal tm S=Q .normal tm S:=(rfl)
theorem Wm (id:Nat):Hn id Q .ret tm S=Q .ret tm S:=(rfl)
theorem S7 (id id':Nat):Hn id Q (.exit id') tm S=if id'=id then Q .normal tm S else Q (.exit id') tm S:=(rfl)
theorem S6 (id l:Nat):Hn id Q (.goto l) tm S=Q (.goto l) tm S:=(rfl)
def YI {α:Type} (m:Nat) (tmF:α->List AV) (SF:α->List Ac) (ok:α->Prop) (μ:α->Nat) (a:α) (Q:QT):QT:=MU (λtm S=>∃a',ok a'∧μ a'<μ a∧Wk m tm S (tmF a') (SF a')) Q
section
variable {α:Type} {tmF:α->List AV} {SF:α->List Ac} {ok:α->Prop} {μ:α->Nat} {a:α}
theorem QL:YI m tmF SF ok μ a Q .normal tm S=∃a',ok a'∧μ a'<μ a∧Wk m tm S (tmF a') (SF a'):=(rfl)
theorem aH:YI m tmF SF ok μ a Q .ret tm S=Q .ret tm S:=(rfl)
theorem Wl (id:Nat):YI m tmF SF ok μ a Q (.exit id) tm S=Q (.exit id) tm S:=(rfl)
end
def AA {α:Type} {c:C} (tmF:α->List AV) (SF:α->List Ac) (ok:α->Prop) (μ:α->Nat) (a:α) (ha:ok a) (h0:Wk m tm S (tmF a) (SF a)) (hr:∀a,ok a->aw P m c (tmF a) (SF a) (YI m tmF SF ok μ a Q)):aw P m (.loop c) tm S Q:=by
 refine⟨λn tm S=>∃a,ok a∧tm=tmF a∧S=SF a∧n=μ a,⟨_,_,_,h0,a,ha,rfl,rfl,rfl⟩,λn tm S ⟨a,ha,h1,h2,h3⟩=>?_⟩;subst h1 h2 h3;refine Gv (hr a ha) λe tm' S' hq=>?_
 cases e with
 |normal=>
  have⟨a',h1,h2,h3⟩:=hq;exact⟨μ a',_,_,h3,⟨a',h1,rfl,rfl,rfl⟩,h2⟩
 |_=>exact hq
def QE (P:Program) (m:Nat) (c:C) (Q:QT):List Unit->List AV->List Ac->Prop
 |[],_,_=>False
 |_::f,tm,S=>aw P m c tm S (MU (λtm S=>QE P m c Q f tm S) Q)
def iX (P:Program) (m:Nat) (c:C) (Q:QT) (f:List Unit):QT:=MU (λtm S=>QE P m c Q f tm S) Q
section
variable {c:C} {f:List Unit}
theorem SP (u:Unit):QE P m c Q (u::f) tm S=aw P m c tm S (iX P m c Q f):=(rfl)
theorem S3:iX P m c Q f .normal tm S=QE P m c Q f tm S:=(rfl)
theorem iW:iX P m c Q f .ret tm S=Q .ret tm S:=(rfl)
theorem aG (id:Nat):iX P m c Q f (.exit id) tm S=Q (.exit id) tm S:=(rfl)
theorem aF (l:Nat):iX P m c Q f (.goto l) tm S=Q (.goto l) tm S:=(rfl)
end
def Jv {α:Type} (m l:Nat) (tmF:α->List AV) (SF:α->List Ac) (ok:α->Prop) (Q:QT):QT
 | .goto l',tm,S=>l'=l∧∃a,ok a∧Wk m tm S (tmF a) (SF a)
 |e,tm,S=>Q e tm S
def J6 {α:Type} (m l:Nat) (tmF:α->List AV) (SF:α->List Ac) (ok:α->Prop) (μ:α->Nat) (a:α) (Q:QT):QT
 | .goto l',tm,S=>l'=l∧∃a',ok a'∧μ a'<μ a∧Wk m tm S (tmF a') (SF a')
 |e,tm,S=>Q e tm S
section
variable {α:Type} {l:Nat} {tmF:α->List AV} {SF:α->List Ac} {ok:α->Prop} {μ:α->Nat} {a:α}
theorem Ox:Jv m l tmF SF ok Q .normal tm S=Q .normal tm S:=(rfl)
theorem Wj:Jv m l tmF SF ok Q .ret tm S=Q .ret tm S:=(rfl)
theorem SZ (id:Nat):Jv m l tmF SF ok Q (.exit id) tm S=Q (.exit id) tm S:=(rfl)
theorem SY (l':Nat):Jv m l tmF SF ok Q (.goto l') tm S=(l'=l∧∃a,ok a∧Wk m tm S (tmF a) (SF a)):=(rfl)
theorem MV:J6 m l tmF SF ok μ a Q .normal tm S=Q .normal tm S:=(rfl)
theorem SX:J6 m l tmF SF ok μ a Q .ret tm S=Q .ret tm S:=(rfl)
theorem QK (id:Nat):J6 m l tmF SF ok μ a Q (.exit id) tm S=Q (.exit id) tm S:=(rfl)
theorem QJ (l':Nat):J6 m l tmF SF ok μ a Q (.goto l') tm S=(l'=l∧∃a',ok a'∧μ a'<μ a∧Wk m tm S (tmF a') (SF a')):=(rfl)
end
def SL {α:Type} {c r:C} (l:Nat) (hf:G5 c l=some r) (tmF:α->List AV) (SF:α->List Ac) (ok:α->Prop) (μ:α->Nat) (first:(∀a,ok a->aw P m r (tmF a) (SF a) (Jv m l tmF SF ok Q))->aw P m c tm S (Jv m l tmF SF ok Q)) (pass:∀a,ok a->aw P m r (tmF a) (SF a) (J6 m l tmF SF ok μ a Q)):aw P m (.scope c) tm S Q:=by
 refine Jq (λn l' tm S=>l'=l∧∃a,ok a∧tm=tmF a∧S=SF a∧n=μ a) (Gv (first λa ha=>Gv (pass a ha) λe tm' S' hq=>?_) λe tm' S' hq=>?_) λn l' tm S ⟨hl,a,ha,h1,h2,h3⟩=>⟨r,by rw[hl];exact hf,?_⟩
 ·cases e with
  |goto l'=>have⟨h1,a',h2,_,h4⟩:=hq;exact⟨h1,a',h2,h4⟩
  |_=>exact hq
 ·cases e with
  |goto l'=>have⟨h1,a,h2,h3⟩:=hq;exact⟨_,_,h3,μ a,h1,a,h2,rfl,rfl,rfl⟩
  |_=>exact hq
 ·subst h1 h2 h3;refine Gv (pass a ha) λe tm' S' hq=>?_
  cases e with
  |goto l'=>have⟨h1,a',h2,h3,h4⟩:=hq;exact⟨_,_,h4,μ a',⟨h1,a',h2,rfl,rfl,rfl⟩,h3⟩
  |_=>exact hq
def u0 (P:Program) (m:Nat) (x:AV) (a b:C) (tm:List AV) (S:List Ac) (Q:QT):Prop:=match x with
 | .lit (.bool t)=>(t=true->aw P m a tm S Q)∧(t=false->aw P m b tm S Q)
 |_=>False
theorem mO (a b:C):u0 P m (.lit (.bool true)) a b tm S Q=aw P m a tm S Q:=by simp[u0]
theorem eX (a b:C):u0 P m (.lit (.bool false)) a b tm S Q=aw P m b tm S Q:=by simp[u0]
def AK {t:Bool} {a b:C} (h1:t=true->aw P m a tm S Q) (h2:t=false->aw P m b tm S Q):u0 P m (.lit (.bool t)) a b tm S Q:=⟨h1,h2⟩
theorem uC:aw P m .skip tm S Q=Q .normal tm S:=(rfl)
theorem Aai (ops:List RO) (u:List (Nat×Nat)):aw P m (.reg ops u) tm S Q=DZ P ops u [] tm S (Q .normal):=(rfl)
theorem Aaf (a b:C):aw P m (.seq a b) tm S Q=aw P m a tm S (iU P m b Q):=(rfl)
theorem uF (c:Operand) (a b:C):aw P m (.cond c a b) tm S Q=u0 P m (ev tm c) a b tm S Q:=by
 cases h:ev tm c with
 |lit v=>cases v<;>simp[aw,u0,h]
 |_=>simp[aw,u0,h]
theorem nJ (id:Nat) (c:C):aw P m (.block id c) tm S Q=aw P m c tm S (Hn id Q):=(rfl)
theorem uE (id:Nat):aw P m (.exit id) tm S Q=Q (.exit id) tm S:=(rfl)
def Abd (m:Nat) (tm:List AV) (S:List Ac) (R:List AV->List Ac->Prop):Prop:=∃tm' S',Wk m tm S tm' S'∧R tm' S'
def Q4 {R:List AV->List Ac->Prop} {tm':List AV} {S':List Ac} (h:Wk m tm S tm' S') (k:R tm' S'):Abd m tm S R:=⟨tm',S',h,k⟩
theorem nI (l:Nat):aw P m (.label l) tm S Q=Abd m tm S (Q .normal):=(rfl)
theorem uD (l:Nat):aw P m (.goto l) tm S Q=Q (.goto l) tm S:=(rfl)
theorem Aah:aw P m .ret tm S Q=Q .ret tm S:=(rfl)
def p9 (P:Program) (m:Nat) (g:Operand) (ps:List Nat) (a b:C) (tm:List AV) (S:List Ac) (Q:QT):Prop:=aw P m (.rng g ps a b) tm S Q
theorem Aag (g:Operand) (ps:List Nat) (a b:C):aw P m (.rng g ps a b) tm S Q=p9 P m g ps a b tm S Q:=(rfl)
def W7 (P:Program) (rest:List RO) (u:List (Nat×Nat)) (tr:List (List Nat×List Nat)) (tm:List AV) (S:List Ac) (d:Option Nat) (R:List AV->List Ac->Prop):KT:=λv rd upd new=>
 DZ P rest u (tr++[(rd,upd.map (·.1)++(BC S.length new).map (·.1))]) (Ef tm d v) (Cv S upd++new) R
def gdF (P:Program) (x:AV) (want:Bool) (i:I) (rest:List RO) (u:List (Nat×Nat)) (tr:List (List Nat×List Nat)) (tm:List AV) (S:List Ac) (d:Option Nat) (R:List AV->List Ac->Prop):Prop:=
 gdK x want (Cf P i (ev tm) S (W7 P rest u tr tm S d R)) (DZ P rest u (tr++[([],[])]) (Ef tm d (.lit undef)) S R)
variable {rest:List RO} {u:List (Nat×Nat)} {tr:List (List Nat×List Nat)} {d:Option Nat} {R:List AV->List Ac->Prop}
theorem Q2 (v:AV) (rd:List Nat) (upd:List (Nat×Ac)) (new:List Ac):W7 P rest u tr tm S d R v rd upd new=DZ P rest u (tr++[(rd,upd.map (·.1)++(BC S.length new).map (·.1))]) (Ef tm d v) (Cv S upd++new) R:=(rfl)
theorem cG (v:AV):W7 P rest u tr tm S d R v [] [] []=DZ P rest u (tr++[([],[])]) (Ef tm d v) S R:=by
 simp[W7,BC]
theorem nQ:DZ P [] u tr tm S R=(OE u tr=true∧R tm S):=(rfl)
theorem fN:DZ P [] [] tr tm S R=R tm S:=by simp[DZ,OE]
theorem fP (i:I):DZ P ((none,i,d)::rest) u tr tm S R=Cf P i (ev tm) S (W7 P rest u tr tm S d R):=(rfl)
theorem Yi (t:Nat) (want:Bool) (i:I):DZ P ((some (t,want),i,d)::rest) u tr tm S R=gdF P (tm.getD t .any) want i rest u tr tm S d R:=(rfl)
theorem wX (i:I):gdF P (.lit (.bool true)) true i rest u tr tm S d R=Cf P i (ev tm) S (W7 P rest u tr tm S d R):=(rfl)
theorem w9 (i:I):gdF P (.lit (.bool false)) false i rest u tr tm S d R=Cf P i (ev tm) S (W7 P rest u tr tm S d R):=(rfl)
theorem wY (i:I):gdF P (.lit (.bool true)) false i rest u tr tm S d R=DZ P rest u (tr++[([],[])]) (Ef tm d (.lit undef)) S R:=(rfl)
theorem wZ (i:I):gdF P (.lit (.bool false)) true i rest u tr tm S d R=DZ P rest u (tr++[([],[])]) (Ef tm d (.lit undef)) S R:=(rfl)
theorem cW (want:Bool) (i:I):gdF P (.lit undef) want i rest u tr tm S d R=DZ P rest u (tr++[([],[])]) (Ef tm d (.lit undef)) S R:=(rfl)
theorem Z0 (t:Nat) (v:AV):Ef tm (some t) v=tm.set t v:=(rfl)
theorem Z1 (v:AV):Ef tm none v=tm:=(rfl)
theorem xE (t:Nat):ev tm (.tmp t)=tm.getD t .any:=(rfl)
theorem lZ (v:Value):ev tm (.const v)=AV.ofC v:=(rfl)
theorem sJ (f:FuncId):ev tm (.func f)=.fn f [] []:=(rfl)
theorem qU (k:IntKind) (n:Int):AV.ofC (.int k n)=.lit (.int k n):=(rfl)
theorem jU (b:Bool):AV.ofC (.bool b)=.lit (.bool b):=(rfl)
theorem WB (s:ByteArray):AV.ofC (.string s)=.lit (.string s):=(rfl)
theorem qT:AV.ofC (.slice none 0 0)=.sl .full 1 []:=(rfl)
theorem qS:AV.ofC (.pointer none)=.lit (.pointer none):=(rfl)
theorem jX (k:IntKind) (n:Int):AV.ofC1 (.int k n)=.lit (.int k n):=(rfl)
theorem a9 (b:Bool):AV.ofC1 (.bool b)=.lit (.bool b):=(rfl)
theorem Tt (s:ByteArray):AV.ofC1 (.string s)=.lit (.string s):=(rfl)
theorem jW:AV.ofC1 (.slice none 0 0)=.sl .full 1 []:=(rfl)
theorem jV:AV.ofC1 (.pointer none)=.lit (.pointer none):=(rfl)
theorem OD (k:IntKind) (n:Int):(AV.lit (.int k n)).parts=some [.lit (.int k n)]:=(rfl)
theorem M4 (b:Bool):(AV.lit (.bool b)).parts=some [.lit (.bool b)]:=(rfl)
theorem KO (s:ByteArray):(AV.lit (.string s)).parts=some [.lit (.string s)]:=(rfl)
theorem OC:(AV.lit (.pointer none)).parts=some [.lit (.pointer none)]:=(rfl)
theorem aS (xs:List AV):(AV.agg xs).parts=some xs:=(rfl)
theorem aR (i o:Nat):(AV.ref i o).parts=some [.ref i o]:=(rfl)
theorem Wv (cs:List AV):(AV.iptr cs).parts=some [.iptr cs]:=(rfl)
theorem jH (t:Gd) (k:Nat) (xs:List AV):(AV.sl t k xs).parts=some [.sl t k xs]:=(rfl)
theorem jJ (f:FuncId) (a b:List AV):(AV.fn f a b).parts=some [.fn f a b]:=(rfl)
theorem K2 (xs:List AV):(AV.agg xs).cells=xs:=(rfl)
theorem I9 (v:Value):(AV.lit v).cells=[.lit v]:=(rfl)
theorem mN (t:Gd) (k:Nat) (xs:List AV):(AV.sl t k xs).cells=[.sl t k xs]:=(rfl)
theorem VS (xs:List AV) (o:Nat):Ce xs o []=xs:=(rfl)
theorem SH (xs:List AV) (o:Nat) (c:AV) (cs:List AV):Ce xs o (c::cs)=Ce (xs.set o c) (o+1) cs:=(rfl)
variable {ρ:Operand->AV} {K:KT}
theorem Ab3 (x:Operand):Cf P (.mov x) ρ S K=K (ρ x) [] [] []:=(rfl)
theorem xK (c a b:Operand):Cf P (.pick c a b) ρ S K=Nk (ρ c) (ρ a) (ρ b) K:=(rfl)
theorem Ab2 (zs:List Value):Cf P (.new zs) ρ S K=K (.ref S.length 0) [] [] [.cells (zs.map AV.ofC1)]:=(rfl)
theorem Acf (x:Operand):Cf P (.box x) ρ S K=No (ρ x) S.length K:=(rfl)
theorem sZ (zs:List Value) (ps:List (Nat×Nat×Operand)):Cf P (.build zs ps) ρ S K=Hs (zs.map AV.ofC1) (ps.map λp=>(p.1,p.2.1,ρ p.2.2)) K:=(rfl)
theorem Ace (k:Nat) (xs:List Operand):Cf P (.bsl k xs) ρ S K=rT k (xs.map ρ) K:=(rfl)
theorem xO (n:Option Nat) (a:Operand):Cf P (.load n a) ρ S K=Kf n (ρ a) S K:=(rfl)
theorem sV (n:Nat) (a x:Operand):Cf P (.store n a x) ρ S K=JC n (ρ a) (ρ x) S K:=(rfl)
theorem xL (x:Operand):Cf P (.nilc x) ρ S K=Q3 (ρ x) K:=(rfl)
theorem Acg (op:BinOp) (x y:Operand):Cf P (.bin op x y) ρ S K=T5 op (ρ x) (ρ y) K:=(rfl)
theorem Acb (b:Bool) (x y:Operand):Cf P (.eqb b x y) ρ S K=Xa b (ρ x) (ρ y) K:=(rfl)
theorem Acc (b:Bool) (n:Nat) (x y:Operand):Cf P (.eqa b n x y) ρ S K=Xb b n (ρ x) (ρ y) K:=(rfl)
theorem Ab9 (b:Bool) (x y:Operand):Cf P (.eqp b x y) ρ S K=T3 b (ρ x) (ρ y) K:=(rfl)
theorem Aed (op:UnOp) (x:Operand):Cf P (.un op x) ρ S K=rR op (ρ x) K:=(rfl)
theorem Acd (k:IntKind) (x:Operand):Cf P (.cvt k x) ρ S K=Xc k (ρ x) K:=(rfl)
theorem Ach (x:Operand):Cf P (.b2s x) ρ S K=Xd (ρ x) K:=(rfl)
theorem Ab1 (x:Operand):Cf P (.s2b x) ρ S K=W6 (ρ x) K:=(rfl)
theorem sW (k:Nat) (x:Operand) (lo hi mx:Option Operand):Cf P (.slice k x lo hi mx) ρ S K=Eh k (ρ x) (lo.map ρ) (hi.map ρ) (mx.map ρ) K:=(rfl)
theorem xI (x:Operand) (lo hi:Option Operand):Cf P (.sstr x lo hi) ρ S K=PL (ρ x) (lo.map ρ) (hi.map ρ) K:=(rfl)
theorem xR (off:Nat) (x:Operand):Cf P (.fadr off x) ρ S K=Kg off (ρ x) K:=(rfl)
theorem Ab7 (off:Nat) (n:Option Nat) (x:Operand):Cf P (.fld off n x) ρ S K=KV off n (ρ x) K:=(rfl)
theorem xQ (k:Nat) (x ix:Operand):Cf P (.iadr k x ix) ρ S K=Lo k (ρ x) (ρ ix) K:=(rfl)
theorem xT (n k:Nat) (x ix:Operand):Cf P (.aadr n k x ix) ρ S K=Lp n k (ρ x) (ρ ix) K:=(rfl)
theorem Ab6 (n k:Nat) (a:Option Nat) (x ix:Operand):Cf P (.idx n k a x ix) ρ S K=W9 n k a (ρ x) (ρ ix) K:=(rfl)
theorem xJ (x ix:Operand):Cf P (.sidx x ix) ρ S K=PM (ρ x) (ρ ix) K:=(rfl)
theorem Ab8 (x:Operand) (i:Nat):Cf P (.ext x i) ρ S K=W_ (ρ x) i K:=(rfl)
theorem Ab4 (f:FuncId) (a b:List Operand):Cf P (.mkf f a b) ρ S K=K (.fn f (a.map ρ) (b.map ρ)) [] [] []:=(rfl)
theorem xS (f:Operand) (args:List Operand):Cf P (.call f args) ρ S K=Nn P (ρ f) (args.map ρ) S K:=(rfl)
theorem Aci (k b:Nat) (s x:Operand):Cf P (.app k b s x) ρ S K=Q5 k b (ρ s) (ρ x) S K:=(rfl)
theorem Ab5 (b:Bool) (x:Operand):Cf P (.len b x) ρ S K=Nl b (ρ x) K:=(rfl)
theorem xP (n:Nat):Cf P (.lenc n) ρ S K=K (.lit (.int .i64 n)) [] [] []:=(rfl)
theorem Aee (b:Bool) (x y:Operand):Cf P (.mx b x y) ρ S K=wS b (ρ x) (ρ y) K:=(rfl)
theorem sY:Cf P .mkmap ρ S K=K (.mapr S.length) [] [] [.raw (.imap []) []]:=(rfl)
theorem sX (x k:Operand):Cf P (.mlook x k) ρ S K=KU (ρ x) (ρ k) S K:=(rfl)
theorem xM (x k v:Operand):Cf P (.mput x k v) ρ S K=PN (ρ x) (ρ k) (ρ v) S K:=(rfl)
theorem Aca (b:Bool) (x y:Operand):Cf P (.eqf b x y) ρ S K=T4 b (ρ x) (ρ y) K:=(rfl)
theorem j7 (i:Nat) (a:Int):KU (.mapr i) (.lit (.int .u32 a)) S K=match S[i]? with
 |some (.raw (.imap l) _)=>K (.lit (.int .i64 (Gc l a))) [i] [] []
 |_=>False:=(rfl)
theorem qX (i:Nat) (a u:Int):PN (.mapr i) (.lit (.int .u32 a)) (.lit (.int .i64 u)) S K=match S[i]? with
 |some (.raw (.imap l) _)=>K .any [i] [(i,.raw (.imap (HW l a u)) [])] []
 |_=>False:=(rfl)
theorem xF (neg:Bool) (f:FuncId) (a b:List AV):T4 neg (.fn f a b) (.lit .nilFunc) K=K (.lit (.bool neg)) [] [] []:=(rfl)
theorem sN (neg:Bool):T4 neg (.lit .nilFunc) (.lit .nilFunc) K=K (.lit (.bool !neg)) [] [] []:=(rfl)
theorem jT:AV.ofC .nilFunc=.lit .nilFunc:=(rfl)
theorem aZ:AV.ofC1 .nilFunc=.lit .nilFunc:=(rfl)
theorem aY:AV.ofC1 (.map none)=.lit (.map none):=(rfl)
theorem M3:(AV.lit .nilFunc).parts=some [.lit .nilFunc]:=(rfl)
theorem M2:(AV.lit (.map none)).parts=some [.lit (.map none)]:=(rfl)
theorem Wu (i:Nat):(AV.mapr i).parts=some [.mapr i]:=(rfl)
theorem rV (f:FuncId) (a b:List AV) (n:Nat):No (.fn f a b) n K=K (.ref n 0) [] [] [.cells [.fn f a b]]:=(rfl)
theorem tG (q:Nat) (args:List AV):Nn P (.yv q) args S K=nR P q args S K:=(rfl)
theorem xN (k b:Nat) (l c:Operand):Cf P (.mksl k b l c) ρ S K=Ln k b (ρ l) (ρ c) S.length K:=(rfl)
theorem cH (t:Bool) (x y:AV):Nk (.lit (.bool t)) x y K=K (bif t then x else y) [] [] []:=(rfl)
theorem kU (op:BinOp) (k k':IntKind) (a b:Int):T5 op (.lit (.int k a)) (.lit (.int k' b)) K=Dk op k a k' b K:=(rfl)
theorem kT (op:BinOp) (a b:ByteArray):T5 op (.lit (.string a)) (.lit (.string b)) K=W5 op a b K:=(rfl)
theorem Abv (k:IntKind) (a b:Int):Dk .add k a k b K=K (.lit (.int k (k.wrap (a+b)))) [] [] []:=by simp[Dk]
theorem Abi (k:IntKind) (a b:Int):Dk .sub k a k b K=K (.lit (.int k (k.wrap (a-b)))) [] [] []:=by simp[Dk]
theorem Abo (k:IntKind) (a b:Int):Dk .mul k a k b K=K (.lit (.int k (k.wrap (a*b)))) [] [] []:=by simp[Dk]
theorem Abm (k:IntKind) (a b:Int):Dk .quo k a k b K=(b≠0∧K (.lit (.int k (k.wrap (a.tdiv b)))) [] [] []):=by simp[Dk]
theorem Abl (k:IntKind) (a b:Int):Dk .rem k a k b K=(b≠0∧K (.lit (.int k (a.tmod b))) [] [] []):=by simp[Dk]
theorem Abu (k:IntKind) (a b:Int):Dk .and k a k b K=K (.lit (.int k (CJ .and k a b))) [] [] []:=by simp[Dk]
theorem Aeb (k:IntKind) (a b:Int):Dk .or k a k b K=K (.lit (.int k (CJ .or k a b))) [] [] []:=by simp[Dk]
theorem Abh (k:IntKind) (a b:Int):Dk .xor k a k b K=K (.lit (.int k (CJ .xor k a b))) [] [] []:=by simp[Dk]
theorem kY (k:IntKind) (a b:Int):Dk .andNot k a k b K=K (.lit (.int k (CJ .andNot k a b))) [] [] []:=by simp[Dk]
theorem Abk (k k':IntKind) (a b:Int):Dk .shl k a k' b K=(0≤b∧K (.lit (.int k (k.wrap (a*2^min b.toNat k.bits)))) [] [] []):=(rfl)
theorem Abj (k k':IntKind) (a b:Int):Dk .shr k a k' b K=(0≤b∧K (.lit (.int k (a.fdiv (2^min b.toNat k.bits)))) [] [] []):=(rfl)
theorem Abt (k:IntKind) (a b:Int):Dk .eql k a k b K=K (.lit (.bool (a==b))) [] [] []:=by simp[Dk]
theorem Abn (k:IntKind) (a b:Int):Dk .neq k a k b K=K (.lit (.bool (a != b))) [] [] []:=by simp[Dk]
theorem Abp (k:IntKind) (a b:Int):Dk .lss k a k b K=K (.lit (.bool (decide (a<b)))) [] [] []:=by simp[Dk]
theorem Abq (k:IntKind) (a b:Int):Dk .leq k a k b K=K (.lit (.bool (decide (a≤b)))) [] [] []:=by simp[Dk]
theorem Abr (k:IntKind) (a b:Int):Dk .gtr k a k b K=K (.lit (.bool (decide (b<a)))) [] [] []:=by simp[Dk]
theorem Abs (k:IntKind) (a b:Int):Dk .geq k a k b K=K (.lit (.bool (decide (b≤a)))) [] [] []:=by simp[Dk]
theorem Aa1 (a b:ByteArray):W5 .eql a b K=K (.lit (.bool (a.toList==b.toList))) [] [] []:=(rfl)
theorem Aa0 (a b:ByteArray):W5 .neq a b K=K (.lit (.bool (!(a.toList==b.toList)))) [] [] []:=(rfl)
theorem kR (k:IntKind) (a:Int) (n:Nat):No (.lit (.int k a)) n K=K (.ref n 0) [] [] [.cells [.lit (.int k a)]]:=(rfl)
theorem cJ (b:Bool) (n:Nat):No (.lit (.bool b)) n K=K (.ref n 0) [] [] [.cells [.lit (.bool b)]]:=(rfl)
theorem kS (xs:List AV) (n:Nat):No (.agg xs) n K=K (.ref n 0) [] [] [.cells xs]:=(rfl)
theorem kQ (i o:Nat) (n:Nat):No (.ref i o) n K=K (.ref n 0) [] [] [.cells [.ref i o]]:=(rfl)
theorem rU (t:Gd) (k:Nat) (xs:List AV) (n:Nat):No (.sl t k xs) n K=K (.ref n 0) [] [] [.cells [.sl t k xs]]:=(rfl)
theorem cI (cells:List AV) (ps:List (Nat×Nat×AV)):Hs cells ps K=match Kl cells ps with
 |some cs=>K (.agg cs) [] [] []
 |none=>False:=(rfl)
theorem dH (cells:List AV):Kl cells []=some cells:=(rfl)
theorem Xy (cells:List AV) (off size:Nat) (x:AV) (rest:List (Nat×Nat×AV)):Kl cells ((off,size,x)::rest)=match x.parts with
 |some cs=>if cs.length=size∧off+size≤cells.length then Kl (Ce cells off cs) rest else none
 |none=>none:=(rfl)
theorem rS (k:Nat) (xs:List AV):rT k xs K=(xs.all (aX k)=true∧K (.sl .full k xs) [] [] []):=(rfl)
theorem BK (k:Nat) (x:AV):aX k x=match x.parts with
 |some cs=>cs.length==k
 |none=>false:=(rfl)
theorem rQ (x:AV) (cs:List AV):Kf none (.iptr (x::cs)) S K=K x [] [] []:=(rfl)
theorem rP (n:Nat) (cs:List AV):Kf (some n) (.iptr cs) S K=(n≤cs.length∧K (.agg (cs.take n)) [] [] []):=(rfl)
theorem Abc (n:Option Nat) (i o:Nat):Kf n (.ref i o) S K=match S[i]? with
 |some (.cells xs)=>match n with
  |none=>match xs[o]? with
   |some x=>K x [i] [] []
   |none=>False
  |some n=>o+n≤xs.length∧K (.agg ((xs.drop o).take n)) [i] [] []
 |_=>False:=(rfl)
theorem vT (n i o:Nat) (x:AV):JC n (.ref i o) x S K=match S[i]? with
 |some (.cells xs)=>match x.parts with
  |some cs=>cs.length=n∧o+n≤xs.length∧K .any [i] [(i,.cells (Ce xs o cs))] []
  |none=>False
 |_=>False:=(rfl)
theorem wR (n:Option Nat) (j g o:Nat):Kf n (.mref j g o) S K=match S[j]? with
 |some (.mrow _ m xs)=>m=g∧match n with
  |none=>match xs[o]? with
   |some x=>K x [j] [] []
   |none=>False
  |some n=>0<n∧o+n≤xs.length∧K (.agg ((xs.drop o).take n)) [j] [] []
 |_=>False:=(rfl)
theorem pC (n j g o:Nat) (x:AV):JC n (.mref j g o) x S K=match S[j]? with
 |some (.mrow k m xs)=>match x.parts with
  |some cs=>m=g∧0<n∧cs.length=n∧o+n≤xs.length∧K .any [j] [(j,.mrow k m (Ce xs o cs))] []
  |none=>False
 |_=>False:=(rfl)
theorem jY (j g o:Nat):Q3 (.mref j g o) K=K (.mref j g o) [] [] []:=(rfl)
theorem dX (off j g o:Nat):Kg off (.mref j g o) K=K (.mref j g (o+off)) [] [] []:=(rfl)
theorem sA (k j g:Nat) (k1:IntKind) (i:Int):Lo k (.ms j g) (.lit (.int k1 i)) K=(0≤i∧i<g∧K (.mref j g (i.toNat*k)) [] [] []):=(rfl)
theorem wQ (j g:Nat):Nl false (.ms j g) K=K (.lit (.int .i64 g)) [] [] []:=(rfl)
theorem Aaj (k bytes j g ky:Nat) (t:Gd) (ys:List AV):Q5 k bytes (.ms j g) (.sl t ky ys) S K=match S[j]? with
 |some (.mrow k' m xs)=>k'=k∧m=g∧(ky=k∨ys=[])∧(g+ys.length)*bytes≤140737488355328∧K (.ms j (g+ys.length)) [j] [(j,.mrow k (g+ys.length) (xs++flat ys))] []
 |_=>False:=(rfl)
theorem uG (k bytes ks ky:Nat) (t:Gd) (xs ys:List AV):Q5 k bytes (.sl t ks xs) (.slc ky ys) S K=
 (t=.full∧xs=[]∧(ky=k∨ys=[])∧ys.length*bytes≤140737488355328∧K (.ms S.length ys.length) [] [] [.mrow k ys.length (flat ys)]):=(rfl)
theorem jI (j g:Nat):(AV.ms j g).parts=some [.ms j g]:=(rfl)
theorem I0 (x:AV) (ys:List AV):flat (x::ys)=x.cells++flat ys:=by simp[flat]
theorem qV (i o:Nat):Q3 (.ref i o) K=K (.ref i o) [] [] []:=(rfl)
theorem jZ (cs:List AV):Q3 (.iptr cs) K=K (.iptr cs) [] [] []:=(rfl)
theorem sO (neg a b:Bool):Xa neg (.lit (.bool a)) (.lit (.bool b)) K=K (.lit (.bool (if neg then !(a==b)else a==b))) [] [] []:=(rfl)
theorem sP (neg:Bool) (n:Nat) (xs ys:List AV):Xb neg n (.agg xs) (.agg ys) K=(xs.length=n∧Je xs ys=true∧K (.lit (.bool (if neg then !(E_ xs ys)else E_ xs ys))) [] [] []):=(rfl)
theorem U5:E_ [] []=true:=(rfl)
theorem Ry (k k':IntKind) (a b:Int) (xs ys:List AV):E_ (.lit (.int k a)::xs) (.lit (.int k' b)::ys)=((a==b)&&E_ xs ys):=(rfl)
theorem l0:Je [] []=true:=(rfl)
theorem d8 (k:IntKind) (a b:Int) (xs ys:List AV):Je (.lit (.int k a)::xs) (.lit (.int k b)::ys)=Je xs ys:=by simp[Je]
theorem sL (neg:Bool) (i o:Nat):T3 neg (.ref i o) (.lit (.pointer none)) K=K (.lit (.bool neg)) [] [] []:=(rfl)
theorem sM (neg:Bool):T3 neg (.lit (.pointer none)) (.lit (.pointer none)) K=K (.lit (.bool !neg)) [] [] []:=(rfl)
theorem vN (k:IntKind) (n:Int):rR .neg (.lit (.int k n)) K=K (.lit (.int k (k.wrap (0-n)))) [] [] []:=(rfl)
theorem vL (k:IntKind) (n:Int):rR .xor (.lit (.int k n)) K=K (.lit (.int k (CJ .xor k (if k.signed then-1 else k.max) n))) [] [] []:=(rfl)
theorem vM (b:Bool):rR .not (.lit (.bool b)) K=K (.lit (.bool !b)) [] [] []:=(rfl)
theorem tD (k k':IntKind) (n:Int):Xc k (.lit (.int k' n)) K=K (.lit (.int k (k.wrap n))) [] [] []:=(rfl)
theorem x9 (t:Gd) (k:Nat) (xs:List AV):Xd (.sl t k xs) K=((k=1∨xs=[])∧xs.all (·.isU8)=true∧K (.lit (.string (FJ xs))) [] [] []):=(rfl)
theorem pU (s:ByteArray):W6 (.lit (.string s)) K=(s.size≤140737488355328∧K (.sl .none 1 (s.data.toList.map λb=>.lit (.int .u8 b.toNat))) [] [] []):=(rfl)
theorem vV (k ks:Nat) (t:Gd) (xs:List AV) (k1 k2:IntKind) (l h:Int):Eh k (.sl t ks xs) (some (.lit (.int k1 l))) (some (.lit (.int k2 h))) none K=
 ((ks=k∨xs=[])∧0≤l∧l≤h∧h≤xs.length∧K (.sl .none ks ((xs.drop l.toNat).take (h-l).toNat)) [] [] []):=(rfl)
theorem Aax (k ks:Nat) (t:Gd) (xs:List AV) (k2:IntKind) (h:Int):Eh k (.sl t ks xs) none (some (.lit (.int k2 h))) none K=
 ((ks=k∨xs=[])∧0≤h∧h≤xs.length∧K (.sl .none ks (xs.take h.toNat)) [] [] []):=by
 simp[Eh,e8,AV.i,iN]
theorem VV (k ks:Nat) (xs:List AV) (k1:IntKind) (l:Int):Eh k (.sl .full ks xs) (some (.lit (.int k1 l))) none none K=
 ((ks=k∨xs=[])∧0≤l∧l≤xs.length∧K (.sl .full ks (xs.drop l.toNat)) [] [] []):=by
 simp only[Eh,e8,AV.i,iN,Int.le_refl,true_and];congr 4;funext;rw[take_of_length_le];simp;omega
theorem VU (k ks:Nat) (xs:List AV) (k1:IntKind) (l:Int):Eh k (.sl .none ks xs) (some (.lit (.int k1 l))) none none K=
 ((ks=k∨xs=[])∧0≤l∧l≤xs.length∧K (.sl .none ks (xs.drop l.toNat)) [] [] []):=by
 simp only[Eh,e8,AV.i,iN,Int.le_refl,true_and];congr 4;funext;rw[take_of_length_le];simp;omega
theorem QB (k ks:Nat) (t:Gd) (xs:List AV) (k2 k3:IntKind) (h m:Int):Eh k (.sl t ks xs) none (some (.lit (.int k2 h))) (some (.lit (.int k3 m))) K=
 ((ks=k∨xs=[])∧0≤h∧h≤xs.length∧m=h∧K (.sl .full ks (xs.take h.toNat)) [] [] []):=by
 simp[Eh,e8,AV.i]
theorem lT (off i o:Nat):Kg off (.ref i o) K=K (.ref i (o+off)) [] [] []:=(rfl)
theorem dY (off:Nat) (cs:List AV):Kg off (.iptr cs) K=K (.iptr (cs.drop off)) [] [] []:=(rfl)
theorem sF (off:Nat) (xs:List AV):KV off none (.agg xs) K=match xs[off]? with
 |some x=>K x [] [] []
 |none=>False:=(rfl)
theorem Abz (off n:Nat) (xs:List AV):KV off (some n) (.agg xs) K=(off+n≤xs.length∧K (.agg ((xs.drop off).take n)) [] [] []):=(rfl)
theorem rZ (k ks:Nat) (t:Gd) (xs:List AV) (k1:IntKind) (i:Int):Lo k (.sl t ks xs) (.lit (.int k1 i)) K=(ks=k∧0≤i∧i<xs.length∧K (.iptr (xs.getD i.toNat .any).cells) [] [] []):=(rfl)
theorem nP (len k i o:Nat) (k1:IntKind) (n:Int):Lp len k (.ref i o) (.lit (.int k1 n)) K=(0≤n∧n<len∧K (.ref i (o+n.toNat*k)) [] [] []):=(rfl)
theorem fM (len k:Nat) (cs:List AV) (k1:IntKind) (n:Int):Lp len k (.iptr cs) (.lit (.int k1 n)) K=(0≤n∧n<len∧K (.iptr (cs.drop (n.toNat*k))) [] [] []):=(rfl)
theorem rY (len k:Nat) (n:Option Nat) (xs:List AV) (k1:IntKind) (i:Int):W9 len k n (.agg xs) (.lit (.int k1 i)) K=(0≤i∧i<len∧KV (i.toNat*k) n (.agg xs) K):=(rfl)
theorem sH (xs:List AV) (i:Nat):W_ (.tup xs) i K=match xs[i]? with
 |some x=>K x [] [] []
 |none=>False:=(rfl)
theorem tH (f:FuncId) (a b args:List AV):Nn P (.fn f a b) args S K=Aa P f (a++args++b) S K:=(rfl)
theorem nK (k bytes ks ky:Nat) (t:Gd) (xs ys:List AV):Q5 k bytes (.sl .full ks xs) (.sl t ky ys) S K=
 ((ks=k∨xs=[])∧(ky=k∨ys=[])∧(xs.length+ys.length)*bytes≤140737488355328∧K (.sl (.row S.length) k (xs++ys)) [] [] [.row k (xs.length+ys.length)]):=(rfl)
theorem uH (k bytes ks ky j:Nat) (t:Gd) (xs ys:List AV):Q5 k bytes (.sl (.row j) ks xs) (.sl t ky ys) S K=
 ((ks=k∨xs=[])∧(ky=k∨ys=[])∧(xs.length+ys.length)*bytes≤140737488355328∧S[j]? =some (.row k xs.length)∧K (.sl (.row j) k (xs++ys)) [j] [(j,.row k (xs.length+ys.length))] []):=(rfl)
theorem wP (t:Gd) (k:Nat) (xs:List AV):Nl false (.sl t k xs) K=K (.lit (.int .i64 xs.length)) [] [] []:=(rfl)
theorem rO (s:ByteArray):Nl true (.lit (.string s)) K=K (.lit (.int .i64 s.size)) [] [] []:=(rfl)
theorem wG (b:Bool) (k k':IntKind) (x y:Int):wS b (.lit (.int k x)) (.lit (.int k' y)) K=K (.lit (.int k (if b then(if y>x then y else x)else if y<x then y else x))) [] [] []:=(rfl)
theorem jS (tr:List (List Nat×List Nat)):OE [] tr=true:=(rfl)
end
def S5 (P:Program) (m:Nat) (fn:Func) (r:AV) (S':List Ac):QT:=λe tm S1=>(e=.ret∨e=.normal)∧A2 P m fn tm S1 r S'
section
variable {P:Program} {m:Nat} {fn:Func} {r:AV} {S':List Ac} {tm:List AV} {S:List Ac}
theorem iY:S5 P m fn r S' .ret tm S=A2 P m fn tm S r S':=by simp[S5]
theorem S4:S5 P m fn r S' .normal tm S=A2 P m fn tm S r S':=by simp[S5]
theorem Ag.run {f:FuncId} {c:C} {args:List AV} {tm:List AV} {n:Nat} (hf:P.funcs[f]? =some fn) (hb:fn.body.bind (AO P)=some c) (hname:(fn.name== "runtime.NumGoroutine")=false) (hn:fn.ntmps=n)
 (ht:args++List.replicate (n-args.length) .any=tm) (h:aw P S.length c tm S (S5 P S.length fn r S')):Ag P f args S r S':=by
 cases hbd:fn.body with
 |none=>simp[hbd]at hb
 |some code=>
  simp[hbd]at hb;refine Ag.body hf hbd hname hb ?_;rw[hn,ht];exact h
theorem A2.fin {rv:List RV} (hr:Ha P fn=some rv) (ids:List Nat) (hn:ids.Nodup) (hl:ids.length=S'.length) (hm:m≤S'.length) (hp:ids.take m=List.range m)
 (hT:ids.map (λi=>S[i]?)=S'.map λo=>some (o.ren (AH ids S.length))) (hx0:(B8 tm S rv).map Ci=some (r.ren (AH ids S.length))):A2 P m fn tm S r S':=by
 obtain⟨xs,h,hx⟩:∃xs,B8 tm S rv=some xs∧r.ren (AH ids S.length)=Ci xs:=by
  cases hq:B8 tm S rv with
  |none=>simp[hq]at hx0
  |some xs=>simp[hq]at hx0;exact⟨xs,rfl,hx0.symm⟩
 refine A2.sel (r':=Ci xs) (A2.res hr h) ids hn hl hm (λk i hk hi=>?_) (λk o ho=>?_) hx
 ·have:(ids.take m)[k]? =some i:=by rw[getElem?_take,if_pos Om];exact hi
  rw[hp,getElem?_range Om]at this;injection this with this;exact this.symm
 ·have hk:k<ids.length:=by rw[hl];exact(Ge ho)
  refine⟨ids[k],Si,?_⟩;have:=congrArg (λl:List (Option Ac)=>l[k]?) hT;simp only[getElem?_map,getElem?_eq_getElem hk,ho,Option.map_some]at this;injection this
theorem qF (ρ:Nat->Nat) (v:Value):(AV.lit v).ren ρ=.lit v:=by simp[AV.ren]
theorem qE (ρ:Nat->Nat) (i o:Nat):(AV.ref i o).ren ρ=.ref (ρ i) o:=by simp[AV.ren]
theorem wC (ρ:Nat->Nat) (j g:Nat):(AV.ms j g).ren ρ=.ms (ρ j) g:=by simp[AV.ren]
theorem qD (ρ:Nat->Nat) (k:Nat) (xs:List AV):(AV.slc k xs).ren ρ=.slc k (xs.map λx=>x.ren ρ):=by simp[AV.ren]
theorem DP (ρ:Nat->Nat) (k n:Nat) (xs:List AV):(Ac.mrow k n xs).ren ρ=.mrow k n (xs.map λx=>x.ren ρ):=(rfl)
theorem iQ (ρ:Nat->Nat) (i:Nat):(AV.mapr i).ren ρ=.mapr (ρ i):=by simp[AV.ren]
theorem wB (ρ:Nat->Nat) (i:Nat):(AV.yv i).ren ρ=.yv (ρ i):=by simp[AV.ren]
theorem jP (ρ:Nat->Nat) (o:Fp) (xs:List AV):(Ac.raw o xs).ren ρ=.raw o (xs.map λx=>x.ren ρ):=(rfl)
theorem QI (ρ:Nat->Nat):AV.any.ren ρ=.any:=by simp[AV.ren]
theorem YH (ρ:Nat->Nat) (xs:List AV):(AV.agg xs).ren ρ=.agg (xs.map λx=>x.ren ρ):=by simp[AV.ren]
theorem qC (ρ:Nat->Nat) (xs:List AV):(AV.tup xs).ren ρ=.tup (xs.map λx=>x.ren ρ):=by simp[AV.ren]
theorem V_ (ρ:Nat->Nat) (t:Gd) (k:Nat) (xs:List AV):(AV.sl t k xs).ren ρ=.sl (t.ren ρ) k (xs.map λx=>x.ren ρ):=by simp[AV.ren]
theorem wE (ρ:Nat->Nat) (f:FuncId) (a b:List AV):(AV.fn f a b).ren ρ=.fn f (a.map λx=>x.ren ρ) (b.map λx=>x.ren ρ):=by simp[AV.ren]
theorem ZE (ρ:Nat->Nat):Gd.none.ren ρ=.none:=(rfl)
theorem ZF (ρ:Nat->Nat):Gd.full.ren ρ=.full:=(rfl)
theorem gF (ρ:Nat->Nat) (j:Nat):(Gd.row j).ren ρ=.row (ρ j):=(rfl)
theorem Wx (ρ:Nat->Nat) (xs:List AV):(Ac.cells xs).ren ρ=.cells (xs.map λx=>x.ren ρ):=(rfl)
theorem jO (ρ:Nat->Nat) (k n:Nat):(Ac.row k n).ren ρ=.row k n:=(rfl)
theorem aU (ρ:Nat->Nat):Ac.dead.ren ρ=.dead:=(rfl)
theorem AD (i:Nat) (ids:List Nat) (N:Nat):AH (i::ids) N 0=i:=(rfl)
theorem Abg (i j:Nat) (ids:List Nat) (N:Nat):AH (i::j::ids) N 1=j:=(rfl)
theorem Abf (i j k:Nat) (ids:List Nat) (N:Nat):AH (i::j::k::ids) N 2=k:=(rfl)
theorem Abe (i j k l:Nat) (ids:List Nat) (N:Nat):AH (i::j::k::l::ids) N 3=l:=(rfl)
def AU (k:IntKind) (l:List Int):List AV:=l.map λz=>.lit (.int k z)
theorem AI (ρ:Nat->Nat) (k:IntKind) (l:List Int):(AU k l).map (λx=>x.ren ρ)=AU k l:=by simp[AU,AV.ren]
theorem Ab (k:IntKind) (l:List Int):(AU k l).length=l.length:=by simp[AU]
theorem C0 (k:IntKind) (l m:List Int):AU k l++AU k m=AU k (l++m):=by simp[AU]
theorem kX (k:IntKind):AU k []=[]:=(rfl)
def DS (k:IntKind) (l:List Int) (i:Nat) (h:i<l.length):(AU k l).getD i .any=.lit (.int k (l.getD i 0)):=by
 simp[AU,h]
theorem Dh (k:IntKind) (l:List Int) (n:Nat):(AU k l).take n=AU k (l.take n):=by simp[AU]
theorem Ep (k:IntKind) (l:List Int) (n:Nat):(AU k l).drop n=AU k (l.drop n):=by simp[AU]
theorem L9 (l:List Int):(AU .u8 l).all (·.isU8)=true:=by simp[AU,AV.isU8]
theorem Ts (k:IntKind) (z:Int):aX 1 (.lit (.int k z))=true:=(rfl)
theorem cN (k:IntKind) (l:List Int):(AU k l).all (aX 1)=true:=by simp[AU,Ts]
theorem Aas:IntKind.i64.wrap 1=1:=(rfl)
theorem Aar:IntKind.i64.wrap 2=2:=(rfl)
theorem Aaq:IntKind.i64.wrap 3=3:=(rfl)
theorem Aap:IntKind.i64.wrap 4=4:=(rfl)
def Fr:AV->AV
 | .sl _ k xs=>.sl .none k xs
 |x=>x
def untag:AV->AV
 | .sl _ k xs=>.sl .none k xs
 | .agg xs=>.agg (xs.map Fr)
 |x=>x
def FW {G:Gh} {x:AV} {v:Value} (r:Bg G x v):Bg G (Fr x) v:=by
 cases x with
 |sl t k xs=>cases r with
  |sl vs hc hA hk h1 h2 h3 ht=>exact .sl vs hc hA hk h1 h2 h3 trivial
 |_=>exact r
def aA {G:Gh} {x:AV} {v:Value} (r:Bg G x v):Bg G (untag x) v:=by
 cases x with
 |sl t k xs=>exact FW (x:=.sl t k xs) r
 |agg xs=>cases r with
  |agg h0 h2 h3=>exact .agg (by simpa using h0) h2 (λj x v hx hv=>by
    obtain⟨y,hy,rfl⟩:=A6 hx;exact FW (h3 j y v hy hv))
 |_=>exact r
theorem Wk.untag {tm:List AV} {S:List Ac} (t:Nat) {x:AV} (ht:tm[t]? =some x):Wk m tm S (tm.set t (Fr x)) S:=λG0 S0 w0 G a w _ hz=>by
 have htl:=(Ge ht);refine⟨G,hz.left,by simp[hz.size],λt' y u hx hu=>?_,hz.defers,hz.wd0⟩;by_cases et:t'=t
 ·subst et;simp[htl]at hx;subst hx;exact FW (hz.rep t' x u ht hu)
 ·rw[getElem?_set_ne (Ne.symm et)]at hx;exact hz.rep t' y u hx hu
theorem A2.untag (t:Nat) {x:AV} (ht:tm[t]? =some x) (h:A2 P m fn (tm.set t (Fr x)) S r S'):A2 P m fn tm S r S':=A2.wk (Wk.untag t ht) h
theorem Wk.nilk {tm:List AV} {S:List Ac} (t k:Nat) {g:Gd} {k':Nat} (ht:tm[t]? =some (.sl g k' [])):Wk m tm S (tm.set t (.sl .none k [])) S:=λG0 S0 w0 G a w _ hz=>by
 have htl:=(Ge ht);refine⟨G,hz.left,by simp[hz.size],λt' y u hx hu=>?_,hz.defers,hz.wd0⟩;by_cases et:t'=t
 ·subst et;simp[htl]at hx;subst hx;exact(FW (hz.rep t' _ u ht hu)).rek
 ·rw[getElem?_set_ne (Ne.symm et)]at hx;exact hz.rep t' y u hx hu
theorem A2.nilk (t k:Nat) {g:Gd} {k':Nat} (ht:tm[t]? =some (.sl g k' [])) (h:A2 P m fn (tm.set t (.sl .none k [])) S r S'):A2 P m fn tm S r S':=A2.wk (Wk.nilk t k ht) h
theorem Wk.unobj {tm:List AV} {S:List Ac} (i:Nat) {xs:List AV} (hi:S[i]? =some (.cells xs)):Wk m tm S tm (S.set i (.cells (xs.map Fr))):=λG0 S0 w0 G a w _ hz=>by
 refine⟨G,hz.left.trans (AS.reobj hz.left.wd hi Si λk x v hx h=>?_),hz.size,hz.rep,hz.defers,hz.wd0⟩;obtain⟨y,hy,rfl⟩:=A6 hx;exact FW (h y hy)
theorem A2.unobj (i:Nat) {xs:List AV} (hi:S[i]? =some (.cells xs)) (h:A2 P m fn tm (S.set i (.cells (xs.map Fr))) r S'):A2 P m fn tm S r S':=A2.wk (Wk.unobj i hi) h
theorem VA (v:Value):Fr (.lit v)=.lit v:=(rfl)
theorem DI (t:Gd) (k:Nat) (xs:List AV):Fr (.sl t k xs)=.sl .none k xs:=(rfl)
theorem Ag.untag {f:FuncId} {args:List AV} {S:List Ac} (h:Ag P f (args.map untag) S r S'):Ag P f args S r S':=
 ⟨h.1,λG w vs hw hr=>h.2 G w vs hw ⟨by simpa using hr.1,λj x v hx hv=>by
   obtain⟨y,hy,rfl⟩:=A6 hx;exact aA (hr.2 j y v hy hv)⟩⟩
theorem Ct.untag {f:FuncId} {args:List AV} {rd:List (Nat×Ac)} {r:Nat->AV} {upd:List (Nat×Ac)} {new:Nat->List Ac} (h:Ct P f (args.map untag) rd r upd new):Ct P f args rd r upd new:=
 λT n h1 h2=>(h T n h1 h2).untag
theorem Ct.p {f:FuncId} {args:List AV} {r:AV} (h:Ag P f args [] r []) (ha:∀ρ,args.map (λx=>x.ren ρ)=args) (hr:∀ρ,r.ren ρ=r):Ct P f args [] (λ_=>r) [] (λ_=>[]):=
 Ct.mk h [] Si rfl Si Si (λn N=>ha _) (λn N=>hr _) (λn N=>rfl) (.inl λn N=>rfl) (λn N=>rfl)
theorem Ct.r1 {f:FuncId} {args args₀:List AV} {o:Ac} {r:AV} (h:Ag P f args₀ [o] r [o]) (i:Nat) (ha:∀N,args₀.map (λx=>x.ren (AH [i] N))=args) (ho:∀ρ,o.ren ρ=o) (hd:o≠ .dead) (hr:∀ρ,r.ren ρ=r):Ct P f args [(i,o)] (λ_=>r) [] (λ_=>[]):=
 Ct.mk h [i] Si rfl Si (by simpa using hd) (λn N=>ha N) (λn N=>hr _) (λn N=>by simp[ho]) (.inr ⟨rfl,rfl⟩) (λn N=>rfl)
theorem Ct.u1 {f:FuncId} {args args₀:List AV} {o o':Ac} {r:AV} (h:Ag P f args₀ [o] r [o']) (i:Nat) (ha:∀N,args₀.map (λx=>x.ren (AH [i] N))=args) (ho:∀ρ,o.ren ρ=o) (ho':∀ρ,o'.ren ρ=o') (hd:o≠ .dead) (hr:∀ρ,r.ren ρ=r):
 Ct P f args [(i,o)] (λ_=>r) [(i,o')] (λ_=>[]):=
 Ct.mk h [i] Si rfl Si (by simpa using hd) (λn N=>ha N) (λn N=>hr _) (λn N=>by simp[ho]) (.inl λn N=>by simp[ho']) (λn N=>rfl)
theorem Ct.n {f:FuncId} {args:List AV} {r₀:AV} {r:Nat->AV} {S₁:List Ac} {new:Nat->List Ac} (h:Ag P f args [] r₀ S₁) (ha:∀ρ,args.map (λx=>x.ren ρ)=args) (hr:∀n N,r₀.ren (AH (range' n S₁.length) N)=r n)
 (hn:∀n N,(S₁.map λo=>o.ren (AH (range' n S₁.length) N))=new n):Ct P f args [] r [] new:=
 Ct.mk h [] Si rfl Si Si (λn N=>ha _) (λn N=>by simpa using hr n N) (λn N=>rfl) (.inl λn N=>rfl) (λn N=>by simpa using hn n N)
theorem Ct.un {f:FuncId} {args args₀:List AV} {o o':Ac} {r₀:AV} {r:Nat->AV} {S₁:List Ac} {new:Nat->List Ac} (h:Ag P f args₀ [o] r₀ (o'::S₁)) (i:Nat) (ha:∀n N,args₀.map (λx=>x.ren (AH (i::range' n S₁.length) N))=args) (ho:∀ρ,o.ren ρ=o) (ho':∀ρ,o'.ren ρ=o') (hd:o≠ .dead)
 (hr:∀n N,r₀.ren (AH (i::range' n S₁.length) N)=r n) (hn:∀n N,(S₁.map λo=>o.ren (AH (i::range' n S₁.length) N))=new n):Ct P f args [(i,o)] r [(i,o')] new:=
 Ct.mk h [i] Si rfl Si (by simpa using hd) (λn N=>by simpa using ha n N) (λn N=>by simpa using hr n N) (λn N=>by simp[ho]) (.inl λn N=>by simp[ho']) (λn N=>by simpa using hn n N)
theorem Ag.toCt {f:FuncId} {args:List AV} {r:AV} (h:Ag P f args [] r []) (ha:∀ρ,args.map (λx=>x.ren ρ)=args) (hr:∀ρ,r.ren ρ=r):Ct P f args [] (λ_=>r) [] (λ_=>[]):=Ct.p h ha hr
variable {K:KT} {f:FuncId} {args:List AV}
theorem Aa.p {r:AV} (h:Ct P f (args.map Proofs.YtaajkppmibfgfaaGreat.untag) [] (λ_=>r) [] (λ_=>[])) (hK:K r [] [] []):Aa P f args S K:=Aa.of h.untag Si Si hK
theorem Aa.r1 {r:AV} {i:Nat} {o:Ac} (h:Ct P f (args.map Proofs.YtaajkppmibfgfaaGreat.untag) [(i,o)] (λ_=>r) [] (λ_=>[])) (hS:S[i]? =some o) (hK:K r [i] [] []):Aa P f args S K:=Aa.of h.untag (by simpa using hS) Si hK
theorem Aa.u1 {r:AV} {i:Nat} {o o':Ac} (h:Ct P f (args.map Proofs.YtaajkppmibfgfaaGreat.untag) [(i,o)] (λ_=>r) [(i,o')] (λ_=>[])) (hS:S[i]? =some o) (hK:K r [i] [(i,o')] []):Aa P f args S K:=Aa.of h.untag (by simpa using hS) Si hK
theorem Aa.n {r:Nat->AV} {new:Nat->List Ac} (h:Ct P f (args.map Proofs.YtaajkppmibfgfaaGreat.untag) [] r [] new) (hK:K (r S.length) [] [] (new S.length)):Aa P f args S K:=Aa.of h.untag Si Si hK
theorem Aa.un {r:Nat->AV} {i:Nat} {o o':Ac} {new:Nat->List Ac} (h:Ct P f (args.map Proofs.YtaajkppmibfgfaaGreat.untag) [(i,o)] r [(i,o')] new) (hS:S[i]? =some o) (hK:K (r S.length) [i] [(i,o')] (new S.length)):Aa P f args S K:=Aa.of h.untag (by simpa using hS) Si hK
end
section
variable {P:Program} {S:List Ac} {K:KT} {f:FuncId} {args args₀:List AV}
theorem Ct.u2 {o₀ p₀ o₁ p₁ o p o' p':Ac} {r:AV} (h:Ag P f args₀ [o₀,p₀] r [o₁,p₁]) (i j:Nat) (hij:i≠j) (ha:∀N,args₀.map (λx=>x.ren (AH [i,j] N))=args)
 (ho:∀N,o₀.ren (AH [i,j] N)=o) (hp:∀N,p₀.ren (AH [i,j] N)=p) (ho':∀N,o₁.ren (AH [i,j] N)=o') (hp':∀N,p₁.ren (AH [i,j] N)=p') (hd:o₀≠ .dead) (hd':p₀≠ .dead) (hr:∀ρ,r.ren ρ=r):
 Ct P f args [(i,o),(j,p)] (λ_=>r) [(i,o'),(j,p')] (λ_=>[]):=
 Ct.mk h [i,j] (by simpa using hij) rfl Si (by simp[hd,hd']) (λn N=>by simpa using ha N) (λn N=>hr _) (λn N=>by simp[ho,hp]) (.inl λn N=>by simp[ho',hp']) (λn N=>rfl)
theorem Ct.r2 {o₀ p₀ o p:Ac} {r:AV} (h:Ag P f args₀ [o₀,p₀] r [o₀,p₀]) (i j:Nat) (hij:i≠j) (ha:∀N,args₀.map (λx=>x.ren (AH [i,j] N))=args)
 (ho:∀N,o₀.ren (AH [i,j] N)=o) (hp:∀N,p₀.ren (AH [i,j] N)=p) (hd:o₀≠ .dead) (hd':p₀≠ .dead) (hr:∀ρ,r.ren ρ=r):
 Ct P f args [(i,o),(j,p)] (λ_=>r) [] (λ_=>[]):=
 Ct.mk h [i,j] (by simpa using hij) rfl Si (by simp[hd,hd']) (λn N=>by simpa using ha N) (λn N=>hr _) (λn N=>by simp[ho,hp]) (.inr ⟨rfl,rfl⟩) (λn N=>rfl)
theorem Aa.r2 {r:AV} {i j:Nat} {o p:Ac} (h:Ct P f (args.map Proofs.YtaajkppmibfgfaaGreat.untag) [(i,o),(j,p)] (λ_=>r) [] (λ_=>[])) (hS:S[i]? =some o) (hS':S[j]? =some p) (hK:K r [i,j] [] []):Aa P f args S K:=Aa.of h.untag (by simp[hS,hS']) Si hK
theorem Aa.u2 {r:AV} {i j:Nat} {o p o' p':Ac} (h:Ct P f (args.map Proofs.YtaajkppmibfgfaaGreat.untag) [(i,o),(j,p)] (λ_=>r) [(i,o'),(j,p')] (λ_=>[])) (hS:S[i]? =some o) (hS':S[j]? =some p) (hK:K r [i,j] [(i,o'),(j,p')] []):Aa P f args S K:=Aa.of h.untag (by simp[hS,hS']) Si hK
end
attribute [go_sem]
 SP S3 iW aG aF QL aH Wl Ox Wj SZ SY MV SX
 QK QJ SW iT aE aD Oy Wm S7 S6 mO eX uC Aai
 Aaf uF nJ uE nI uD Aah cG nQ fN fP Yi wX w9
 wY wZ cW Z0 Z1 xE lZ sJ qU jU WB qT qS jX
 a9 Tt jW jV OD M4 KO OC aS aR Wv jH jJ K2
 I9 mN VS SH Ab3 xK Ab2 Acf sZ Ace xO sV xL Acg
 Acb Acc Ab9 Aed Acd Ach Ab1 sW xI xR Ab7 xQ xT Ab6
 xJ Ab8 Ab4 xS Aci Ab5 xP Aee xN cH kU kT Abv Abi
 Abo Abm Abl Abu Aeb Abh kY Abk Abj Abt Abn Abp Abq Abr
 Abs Aa1 Aa0 kR cJ kS kQ rU cI dH Xy rS BK rQ
 rP Abc vT wR pC jY dX sA wQ Aaj uG jI I0 lF qV jZ sO sP U5 Ry l0 d8 sL sM vN
 vL vM tD x9 pU lT dY sF Abz rZ nP fM rY sH tH
 nK uH wP rO wG jS vV Aax VV VU QB Q2 getD_cons_zero getD_cons_succ
 set_cons_zero set_cons_succ getElem?_cons_zero getElem?_cons_succ map_cons map_nil length_cons length_nil nil_append cons_append append_nil Sg CF BC
 List.replicate Nat.zero_add Nat.add_zero Option.map_some Option.map_none drop_zero drop_succ_cons take_succ_cons take_zero drop_nil take_nil and_true true_and Nat.le_refl
 Int.le_refl Nat.zero_le Bool.false_eq_true or_true true_or Bool.not_true Bool.not_false cond_true cond_false Int.cast_ofNat_Int all_cons all_nil Ts cN
 Bool.and_true Bool.and_self decide_false decide_true beq_self_eq_true bne_self_eq_false Aas Aar Aaq Aap
 Aag sY sX xM Aca j7 qX xF sN jT aZ aY M3 M2 Wu rV tG
section
variable {P:Program} {m:Nat} {tm:List AV} {S:List Ac} {Q:QT}
def iM {c:C} (h:aw P m c tm S (Jv (α:=Unit) m 0 (λ_=>[]) (λ_=>[]) (λ_=>False) Q)):aw P m (.scope c) tm S Q:=by
 refine Jq (λ_ _ _ _=>False) (Gv h λe tm' S' hq=>?_) λn l' tm S h=>h.elim
 cases e with
 |goto l'=>have⟨_,a,h2,_⟩:=hq;exact h2.elim
 |_=>exact hq
end
attribute [simp] iQ wB jP wC qD DP qF qE QI YH qC V_ wE ZE ZF gF Wx jO aU AD Abg Abf Abe AI kX
attribute [go_sem] iY S4 zM zV zF zL zN zS zC zE zU zB zI zJ Aao
def cl {p:Prop} (h:p:=by(intros;simp[AH,range'_succ])):p:=h
def sd {p:Prop} (h:p:=by first|with_reducible assumption|omega|with_reducible rfl|(simp only[length_append,length_cons,length_nil,length_singleton];omega)|(simp[Ab,BK,AV.parts];done)|(simp[Ab,BK,AV.parts];omega)|rfl):p:=h
section
variable {P:Program} {m:Nat} {fn:Func} {r:AV} {S':List Ac} {tm:List AV} {S:List Ac}
theorem A2.finA {rv:List RV} (hr:Ha P fn=some rv) (ids:List Nat) (hn:ids.Nodup:=by decide) (hl:ids.length=S'.length:=by rfl) (hm:m≤S'.length:=by simp) (hp:ids.take m=List.range m:=by rfl)
 (hT:ids.map (λi=>S[i]?)=S'.map (λo=>some (o.ren (AH ids S.length))):=by first|with_reducible rfl|(simp;done)|rfl) (hx0:(B8 tm S rv).map Ci=some (r.ren (AH ids S.length)):=by simp[B8,D1,D4,Ci]):A2 P m fn tm S r S':=A2.fin hr ids hn hl hm hp hT hx0
end
theorem E7 {u:List (Nat×Nat)} {tr:List (List Nat×List Nat)} {p:Prop} (h:OE u tr=true):(OE u tr=true∧p)=p:=by rw[h];simp
structure U (a:Prop):Prop where
 i:a
theorem mp {a b:Prop} (x:b) (h:a=b:=by simp only[go_sem,seval];first|((with_reducible refine E7 ?_);exact rfl)|exact rfl):U a:=⟨h.mpr x⟩
theorem AZ {a b:Prop} (x:b) (h:a=b:=by first|((with_reducible refine E7 ?_);exact rfl)|exact rfl):U a:=⟨h.mpr x⟩
theorem mq {p a b:Prop} (e:p) (x:b) (h:p->a=b:=by intro e;simp only[go_sem,seval,e];first|((with_reducible refine E7 ?_);exact rfl)|exact rfl):U a:=⟨(h e).mpr x⟩
theorem mr {p q a b:Prop} (e:p) (f:q) (x:b) (h:p->q->a=b:=by intro e f;simp only[go_sem,seval,e,f];first|((with_reducible refine E7 ?_);exact rfl)|exact rfl):U a:=⟨(h e f).mpr x⟩
theorem ms {p q r a b:Prop} (e:p) (f:q) (g:r) (x:b) (h:p->q->r->a=b:=by intro e f g;simp only[go_sem,seval,e,f,g];first|((with_reducible refine E7 ?_);exact rfl)|exact rfl):U a:=⟨(h e f g).mpr x⟩
theorem mt {p q r s a b:Prop} (e:p) (f:q) (g:r) (k:s) (x:b) (h:p->q->r->s->a=b:=by intro e f g k;simp only[go_sem,seval,e,f,g,k];first|((with_reducible refine E7 ?_);exact rfl)|exact rfl):U a:=⟨(h e f g k).mpr x⟩
def Is (P:Program) (f:Func) (c:C) (r:List RV) (n:Nat):Prop:=((f.body.bind (AO P)).bind λc=>(Ha P f).bind λr=>cond (f.name== "runtime.NumGoroutine") none (some (c,r,f.ntmps)))=some (c,r,n)
theorem Is.all {P:Program} {f:Func} {c:C} {r:List RV} {n:Nat} (h:Is P f c r n):f.body.bind (AO P)=some c∧Ha P f=some r∧(f.name== "runtime.NumGoroutine")=false∧f.ntmps=n:=by
 unfold Is at h
 cases h1:f.body.bind (AO P) with
 |none=>rw[h1]at h;cases h
 |some c1=>
  rw[h1]at h
  cases h2:Ha P f with
  |none=>rw[h2]at h;cases h
  |some r1=>
   rw[h2]at h
   cases h3:f.name== "runtime.NumGoroutine" with
   |true=>rw[h3]at h;cases h
   |false=>rw[h3]at h;cases h;exact⟨rfl,rfl,rfl,rfl⟩
theorem ki {P:Program} {f:Func} {c:C} {r:List RV} {n:Nat} (h:((f.body.bind (AO P)).bind λc=>(Ha P f).bind λr=>cond (f.name== "runtime.NumGoroutine") none (some (c,r,f.ntmps)))=some (c,r,n):=by kernel_rfl):Is P f c r n:=h
section
variable {P:Program} {m:Nat} {fn:Func} {r:AV} {S':List Ac} {tm:List AV} {S:List Ac} {c:C} {rv:List RV} {n:Nat}
theorem RN {f:FuncId} {args:List AV} (hf:P.funcs[f]?=some fn) (hb:Is P fn c rv n) (h:aw P S.length c tm S (S5 P S.length fn r S')) (ht:args++List.replicate (n-args.length) .any=tm:=by simp only[List.cons_append,List.nil_append,List.length_cons,List.length_nil,Nat.zero_add,Nat.reduceAdd,Nat.reduceSub,List.replicate];rfl):Ag P f args S r S':=Ag.run hf hb.all.1 hb.all.2.2.1 hb.all.2.2.2 ht h
theorem RM {f:FuncId} {args:List AV} {b:Prop} (hf:P.funcs[f]?=some fn) (hb:Is P fn c rv n) (x:b) (ht:args++List.replicate (n-args.length) .any=tm:=by simp only[List.cons_append,List.nil_append,List.length_cons,List.length_nil,Nat.zero_add,Nat.reduceAdd,Nat.reduceSub,List.replicate];rfl) (h:aw P S.length c tm S (S5 P S.length fn r S')=b:=by simp only[go_sem,seval];first|((with_reducible refine E7 ?_);exact rfl)|exact rfl):Ag P f args S r S':=RN hf hb (h.mpr x) ht
theorem FB (hr:Is P fn c rv n) (ids:List Nat) (hT:ids.map (λi=>S[i]?)=S'.map λo=>some (o.ren (AH ids S.length))) (hx0:(B8 tm S rv).map Ci=some (r.ren (AH ids S.length))) (hn:ids.Nodup:=by decide) (hl:ids.length=S'.length:=by rfl) (hm:m≤S'.length:=by simp) (hp:ids.take m=List.range m:=by rfl):A2 P m fn tm S r S':=A2.fin hr.all.2.1 ids hn hl hm hp hT hx0
theorem FK (hr:Is P fn c rv n) (ids:List Nat) (h:ids.map (λi=>S[i]?)=S'.map (λo=>some (o.ren (AH ids S.length)))∧(B8 tm S rv).map Ci=some (r.ren (AH ids S.length))) (hn:ids.Nodup:=by decide) (hl:ids.length=S'.length:=by rfl) (hm:m≤S'.length:=by simp) (hp:ids.take m=List.range m:=by rfl):A2 P m fn tm S r S':=FB hr ids h.1 h.2 hn hl hm hp
theorem FA (hr:Is P fn c rv n) (ids:List Nat) (hn:ids.Nodup:=by decide) (hl:ids.length=S'.length:=by rfl) (hm:m≤S'.length:=by simp) (hp:ids.take m=List.range m:=by rfl) (hT:ids.map (λi=>S[i]?)=S'.map (λo=>some (o.ren (AH ids S.length))):=by first|with_reducible rfl|(simp;done)|rfl) (hx0:(B8 tm S rv).map Ci=some (r.ren (AH ids S.length)):=by simp[B8,D1,D4,Ci]):A2 P m fn tm S r S':=A2.fin hr.all.2.1 ids hn hl hm hp hT hx0
theorem FE {p:Prop} (hr:Is P fn c rv n) (ids:List Nat) (e:p) (hn:ids.Nodup:=by decide) (hl:ids.length=S'.length:=by rfl) (hm:m≤S'.length:=by simp) (hp:ids.take m=List.range m:=by rfl) (hT:p->ids.map (λi=>S[i]?)=S'.map (λo=>some (o.ren (AH ids S.length))):=by intro e;first|with_reducible rfl|(simp[e];done)|rfl) (hx0:p->(B8 tm S rv).map Ci=some (r.ren (AH ids S.length)):=by intro e;simp[B8,D1,D4,Ci,e]):A2 P m fn tm S r S':=A2.fin hr.all.2.1 ids hn hl hm hp (hT e) (hx0 e)
theorem FF {p q:Prop} (hr:Is P fn c rv n) (ids:List Nat) (e:p) (f:q) (hn:ids.Nodup:=by decide) (hl:ids.length=S'.length:=by rfl) (hm:m≤S'.length:=by simp) (hp:ids.take m=List.range m:=by rfl) (hT:p->q->ids.map (λi=>S[i]?)=S'.map (λo=>some (o.ren (AH ids S.length))):=by intro e f;first|with_reducible rfl|(simp[e,f];done)|rfl) (hx0:p->q->(B8 tm S rv).map Ci=some (r.ren (AH ids S.length)):=by intro e f;simp[B8,D1,D4,Ci,e,f]):A2 P m fn tm S r S':=A2.fin hr.all.2.1 ids hn hl hm hp (hT e f) (hx0 e f)
end
def zA (a b d:Nat):RO:=(none,.pick (.tmp a) (.tmp b) (.const (.bool .false)),some d)
def zO (a b d:Nat):RO:=(none,.pick (.tmp a) (.const (.bool .true)) (.tmp b),some d)
def zH (a d:Nat):RO:=(none,.nilc (.tmp a),some d)
def zQ (a d:Nat):RO:=(none,.un .not (.tmp a),some d)
def zX (l:List Value) (d:Nat):RO:=(none,.new l,some d)
def zY (a d:Nat):RO:=(none,.box (.tmp a),some d)
def zK (k:IntKind) (a d:Nat):RO:=(none,.cvt k (.tmp a),some d)
def zP (k b s x d:Nat):RO:=(none,.app k b (.tmp s) (.tmp x),some d)
def zD (l:List Value) (p:List (Nat×Nat×Operand)) (d:Nat):RO:=(none,.build l p,some d)
def zR (f:FuncId) (l:List Operand) (d:Nat):RO:=(none,.call (.func f) l,some d)
def zW (o:I) (d:Nat):RO:=(none,o,some d)
def zT (t:Nat) (r:RO):RO:=zG t true r
def zZ (t:Nat) (r:RO):RO:=zG t false r
def zk (n:Int):Operand:=.const (.int .i64 n)
def zi:Value:=.int .i64 0
def zu:Value:=.int .u64 0
def zn:Value:=.slice none 0 0
def zf:Value:=.bool .false
def zt:Value:=.bool .true
def zq (l:List RO) (x:C):C:=.seq (.reg l []) x
def zc (a:Nat) (x:C):C:=.cond (.tmp a) x .skip
attribute [go_sem] List.zip_cons_cons List.zip_nil_right zA zO zH zQ zX zY zK zP zD zR zW zT zZ zk zi zu zn zf zt zq zc
section
variable {P:Program} {f:FuncId} {args:List AV} {S:List Ac} {K:KT} {b:Prop}
theorem Cp {r:AV} (h:Ct P f (args.map Proofs.YtaajkppmibfgfaaGreat.untag) [] (λ_=>r) [] (λ_=>[])) (x:b) (e:K r [] [] []=b:=by simp only[go_sem,seval];first|((with_reducible refine E7 ?_);exact rfl)|exact rfl):Aa P f args S K:=Aa.p h (e.mpr x)
theorem Cr {r:AV} {i:Nat} {o:Ac} (h:Ct P f (args.map Proofs.YtaajkppmibfgfaaGreat.untag) [(i,o)] (λ_=>r) [] (λ_=>[])) (hS:S[i]? =some o) (x:b) (e:K r [i] [] []=b:=by simp only[go_sem,seval];first|((with_reducible refine E7 ?_);exact rfl)|exact rfl):Aa P f args S K:=Aa.r1 h hS (e.mpr x)
theorem Cu {r:AV} {i:Nat} {o o':Ac} (h:Ct P f (args.map Proofs.YtaajkppmibfgfaaGreat.untag) [(i,o)] (λ_=>r) [(i,o')] (λ_=>[])) (hS:S[i]? =some o) (x:b) (e:K r [i] [(i,o')] []=b:=by simp only[go_sem,seval];first|((with_reducible refine E7 ?_);exact rfl)|exact rfl):Aa P f args S K:=Aa.u1 h hS (e.mpr x)
section
variable {m:Nat} {fn:Func} {tm:List AV} {S':List Ac} {r:AV}
theorem UT (t:Nat) {x:AV} (k:b) (ht:tm[t]? =some x:=by rfl) (e:A2 P m fn (tm.set t (Fr x)) S r S'=b:=by simp only[DI,List.set_cons_zero,List.set_cons_succ];exact rfl):A2 P m fn tm S r S':=A2.untag t ht (e.mpr k)
theorem UO (i:Nat) {xs:List AV} (k:b) (hi:S[i]? =some (.cells xs):=by rfl) (e:A2 P m fn tm (S.set i (.cells (xs.map Fr))) r S'=b:=by simp only[List.set_cons_zero,List.set_cons_succ,List.map_cons,List.map_nil,VA,DI];exact rfl):A2 P m fn tm S r S':=A2.unobj i hi (e.mpr k)
end
theorem Sa {a b:Prop} (x:b) (h:a:=by with_unfolding_all exact sd):a∧b:=⟨h,x⟩
theorem Sr {a b:Prop} (x:b) (h:b->a:=by intro h;(repeat with_reducible refine Sa ?_);exact h):U a:=⟨h x⟩
abbrev Ay (l:List AV):List AV:=.any::.any::.any::.any::l
abbrev Az (l:List AV):List AV:=.any::.any::.any::.any::.any::.any::.any::.any::.any::.any::.any::.any::.any::.any::.any::.any::l
attribute [go_sem] Ay Az
attribute [simp] Ay Az B8 D1 D4 Ci
end
section
open Go.RowKit Go.ChangeShapes Go.WideShapes Go.ChangeAt
theorem FL (l:List Int) (k:Nat) (h:k<l.length):l.take (k+1)=l.take k++[l.getD k 0]:=by
 rw[List.take_succ_eq_append_getElem h];simp[h]
theorem D5 (l:List Int) (k:Nat) (h:k<l.length):l.getD k 0∈l:=by
 simp[h]
def RdI (k:IntKind) (w:World) (F:Nat->Prop) (v:Value) (l:List Int):Prop:=
 ∃A c,v=.slice A l.length c∧l.length≤c∧c≤maxLen∧
  (0<l.length->∃b o,A=some ⟨b,o,none⟩∧F b∧∀i,i<l.length->w.cell? ⟨b,o+i,none⟩=some (.int k (l.getD i 0)))
def F9 (l:List Int):Prop:=∀x∈l,0≤x∧x<18446744073709551616
def A7 (l:List Int):Prop:=∀x∈l,0≤x∧x<256
section
variable {H:Type} {enc:TypeId×Value->H} {P:Program}
theorem fJ (hlaid:laidOutB P=true) {W W':World} (hb:Below W.heap.size W W'):∀(ts:List TypeId) (vs:List Value) (ds:List (DataW H)) (ps:List MemPlace),
 ts.all (λt=>P.readableRec t&&decide (t<P.types.size))=true->
 DataW.TrodAll enc P W 0 (λ_=>true) true ts vs ds ps->(∀x∈ps,x.block<W.heap.size)->
 DataW.TrodAll enc P W' 0 (λb=>decide (b<W.heap.size)) true ts vs ds ps:=by
 intro ts
 induction ts with
 |nil=>intro vs ds ps _ h _;cases vs<;>cases ds<;>first|exact h|exact h.elim
 |cons t ts ih=>
  intro vs ds ps hr h hlt;obtain⟨v,vs',d,ds',p,q,rfl,rfl,rfl,h0,h1⟩:=trodAll_cons h;simp only[List.all_cons,Bool.and_eq_true,decide_eq_true_eq]at hr;exact⟨p,q,Below.trod hlaid hr.1.1 hr.1.2 h0 hb (λx hx=>hlt x (List.mem_append_left _ hx)),
   ih vs' ds' q hr.2 h1 (λx hx=>hlt x (List.mem_append_right _ hx)),rfl⟩
theorem kP (hlaid:laidOutB P=true) {fn:Func} {s:ChangeSpec} {W W':World} {args:Array Value} {ds gs:List (DataW H)} {before:List MemPlace}
 (hW:DataW.Whole enc P fn.params.toList s.vars false W args.toList ds gs before) (hv:s.vars=[])
 (hr:fn.params.toList.all (λt=>P.readableRec t&&decide (t<P.types.size))=true)
 (tb:TypeId) (ht:P.underlying tb=some .bool) (hres:fn.resultTypes=#[tb])
 (hfn:s.fn H (ds++gs)={results:=[.lit (.bool true)],args:=ds}) (hb:Below W.heap.size W W'):
 s.post enc P fn false true false false W args (.bool true) W':=by
 have hW0:=hW;obtain⟨p,q,hA,hV,rfl,hfz,hnd⟩:=hW0;rw[hv]at hV;obtain⟨rfl,rfl⟩:=trodVars_none hV;refine⟨ds,[],p++[],[],p,[],hW,?_,?_,?_,hb.frame _,λh=>by cases h⟩
 ·rw[hfn,hres];exact trodAll_mk1 (shut_bool ht _)
 ·rw[hfn];exact fJ hlaid hb _ _ _ _ hr hA (λx hx=>by simpa using hW.lt x (List.mem_append_left _ hx))
 ·rw[hfn,hv];rfl
theorem Qr {x:Int} (h:(Lit.int .u64 x).wf=true):0≤x∧x<18446744073709551616:=by
 simp[Lit.wf,IntKind.min,IntKind.max,IntKind.signed,IntKind.bits]at h;omega
theorem Aat {x:Int} (h:(Lit.int .u8 x).wf=true):0≤x∧x<256:=by
 simp[Lit.wf,IntKind.min,IntKind.max,IntKind.signed,IntKind.bits]at h;omega
theorem mS {l:List Int} (h:∀n∈l,(Lit.int .u8 n).wf=true):A7 l:=λx hx=>Aat (h x hx)
theorem Zp {a:Addr} {n:Nat} {w:World} {u:Value} (h:w.cell? (a.add n)=some u) (h0:a.spot=none):w.cell? ⟨a.block,a.off+n,none⟩=some u:=by
 cases n with
 |zero=>simpa[Addr.add,←h0]using h
 |succ n=>simpa[Addr.add]using h
theorem Pm {a:Addr} {w:World} {u:Value} (h:w.cell? a=some u):a.spot=none:=by
 unfold World.cell? at h;split at h
 ·split at h
  ·cases h
  ·rename_i hs;cases hsp:a.spot with
   |none=>rfl
   |some _=>rw[hsp]at hs;simp at hs
 ·cases h
theorem qQ {W:World} {r:Reach} {b0:Nat} {t e:TypeId} {k:IntKind} {v:Value} {d:DataW H} {ps:List MemPlace}
 (ht:P.underlying t=some (.slice e)) (he:P.underlying e=some (.int k)) (hc:P.cellsOf e=1)
 (hval:Value.okWide P W r b0 t v) (hd:DataW.Trod enc P W 0 (λ_=>true) true t v d ps):
 ∃l:List Int,RdI k W (· <W.heap.size) v l∧(∀n∈l,(Lit.int k n).wf=true):=by
 obtain⟨a0,len,cap,rfl⟩:=okWide_slice ht hval;obtain⟨fuel,hf⟩:=hd;rcases open_ints ht he hc hf with⟨hcs,hx⟩|⟨a,len',cap',zs,hcs,_,hl,hm,hz,hx,hcell,hwz⟩
 ·simp[Value.cells]at hcs;obtain⟨rfl,rfl,rfl⟩:=hcs;exact⟨[],⟨none,0,rfl,Nat.le_refl _,Nat.zero_le _,λh=>by simp at h⟩,λn hn=>by simp at hn⟩
 ·simp[Value.cells]at hcs;obtain⟨rfl,rfl,rfl⟩:=hcs;simp only[if_true]at hz;have hlen:(zs.take len).length=len:=by simp;omega
  refine⟨zs.take len,⟨some a,cap,by rw[hlen],by rw[hlen];exact hl,hm,λh0=>?_⟩,λn hn=>hwz n (List.mem_of_mem_take hn)⟩;rw[hlen]at h0;have h00:=hcell 0 Om;have hs:a.spot=none:=by have:=Pm h00;simpa[Addr.add]using this
  refine⟨a.block,a.off,by cases a;simp_all,World.block_lt_of_cell? W ⟨a.block,a.off,none⟩ (by have:=Zp h00 hs;simpa using this),λi hi=>?_⟩;rw[hlen]at hi;have e:(zs.take len).getD i 0=zs.getD i 0:=by simp[List.getElem?_take,hi]
  rw[e];exact Zp (hcell i Om) hs
end
end
def Jf:Nat->Int->List Int
 |0,x=>[x]
 |n+1,x=>if x<128 then[x]else(128+x%128)::Jf n (x/128)
def vb (x:Int):List Int:=Jf 9 x
theorem vK:∀(n m:Nat) (x:Int),0≤x->x<128^(n+1)->n≤m->Jf n x=Jf m x:=by
 intro n
 induction n with
 |zero=>
  intro m x h0 h1 _;cases m with
  |zero=>rfl
  |succ m=>simp only[Jf];rw[if_pos Om]
 |succ n ih=>
  intro m x h0 h1 hm;obtain⟨k,rfl⟩:∃k,m=k+1:=⟨m-1,Om⟩;simp only[Jf];by_cases h:x<128
  ·rw[if_pos h,if_pos h]
  ·rw[if_neg h,if_neg h,ih k (x/128) Om ?_ Om];rw[Int.pow_succ]at h1;omega
def uM {x:Int} (h:x<128):vb x=[x]:=by unfold vb;simp only[Jf];rw[if_pos h]
def uN {x:Int} (h:128≤x) (h1:x<18446744073709551616):vb x=(128+x%128)::vb (x/128):=by
 have e:vb x=(128+x%128)::Jf 8 (x/128):=by unfold vb;rw[show(9:Nat)=8+1 from rfl];simp only[Jf];rw[if_neg Om]
 rw[e];unfold vb;rw[vK 8 9 (x/128) Om Om Om]
def vJ:∀(n:Nat) (x:Int),0≤x->x<128^(n+1)->A7 (Jf n x):=by
 intro n
 induction n with
 |zero=>intro x h0 h1 y hy;simp[Jf]at hy;omega
 |succ n ih=>
  intro x h0 h1 y hy;simp only[Jf]at hy;split at hy
  ·simp at hy;omega
  ·rcases mem_cons.1 hy with rfl|hy
   ·omega
   ·exact ih (x/128) Om (by rw[Int.pow_succ]at h1;omega) y hy
def CG {x:Int} (h0:0≤x) (h1:x<18446744073709551616):A7 (vb x):=vJ 9 x h0 Om
def oV:∀(n:Nat) (x:Int),1≤(Jf n x).length∧(Jf n x).length≤n+1:=by
 intro n
 induction n with
 |zero=>intro x;simp[Jf]
 |succ n ih=>
  intro x;simp only[Jf];split
  ·simp
  ·have:=ih (x/128);simp;omega
def A4 (x:Int):1≤(vb x).length∧(vb x).length≤10:=oV 9 x
def gD:∀(n:Nat) (x y:Int),x≤y->(Jf n x).length≤(Jf n y).length:=by
 intro n
 induction n with
 |zero=>intro x y _;simp[Jf]
 |succ n ih=>
  intro x y h;simp only[Jf];by_cases hy:y<128
  ·rw[if_pos hy,if_pos Om];simp
  ·rw[if_neg hy];split
   ·simp
   ·have:=ih (x/128) (y/128) Om;simp;omega
def oU {x y:Int} (h:x≤y):(vb x).length≤(vb y).length:=gD 9 x y h
def Cs:Int->List Int->Int×Int×Int
 |n,[]=>(1,n,0)
 |n,c::t=>if n=9∧1<c then(5,n,0)else if 0<n∧c=0 then(4,n,0)else if c<128 then(0,n+1,c)
  else((Cs (n+1) t).1,(Cs (n+1) t).2.1,if(Cs (n+1) t).1=0 then c%128+128*(Cs (n+1) t).2.2 else 0)
def oR:∀(k:Nat) (x:Int) (n:Int) (b:List Int),0≤x->0≤n->n+k≤9->x<128^(k+1)->(n+k=9->x<2*128^k)->(0<n->0<x)->Cs n (Jf k x++b)=(0,n+(Jf k x).length,x):=by
 intro k
 induction k with
 |zero=>
  intro x n b h0 hn h9 hx h2 hp;simp only[Jf,cons_append,nil_append,Cs];rw[if_neg Om,if_neg Om,if_pos Om];simp
 |succ k ih=>
  intro x n b h0 hn h9 hx h2 hp;rw[Int.pow_succ]at hx;simp only[Jf];by_cases h:x<128
  ·rw[if_pos h];simp only[cons_append,nil_append,Cs];rw[if_neg Om,if_neg Om,if_pos h];simp
  ·rw[if_neg h];simp only[cons_append,Cs];rw[if_neg Om,if_neg Om,if_neg Om];rw[ih (x/128) (n+1) b Om Om Om Om (λe=>by have:=h2 Om;rw[Int.pow_succ]at this;omega) (λ_=>by omega)];simp only[if_true,length_cons,Prod.mk.injEq,true_and];refine⟨Om,Om⟩
theorem vF {x:Int} (b:List Int) (h0:0≤x) (h1:x<18446744073709551616):Cs 0 (vb x++b)=(0,((vb x).length:Int),x):=by
 have:=oR 9 x 0 b h0 Om Om Om (λ_=>by omega) (λh=>by omega);simpa[vb]using this
def gB:∀(l:List Int) (n:Int) (k:Nat),A7 l->0≤n->n+k=9->(Cs n l).1=0->
 Jf k (Cs n l).2.2=l.take ((Cs n l).2.1-n).toNat∧n<(Cs n l).2.1∧(Cs n l).2.1≤n+l.length∧0≤(Cs n l).2.2∧(Cs n l).2.2<2*128^k∧(0<n->0<(Cs n l).2.2):=by
 intro l
 induction l with
 |nil=>intro n k _ _ _ h;simp[Cs]at h
 |cons c t ih=>
  intro n k hb hn hk h;have hc:=hb c (mem_cons_self ..);simp only[Cs]at h ⊢;by_cases h1:n=9∧1<c
  ·rw[if_pos h1]at h;simp at h
  rw[if_neg h1]at h ⊢;by_cases h2:0<n∧c=0
  ·rw[if_pos h2]at h;simp at h
  rw[if_neg h2]at h ⊢;by_cases h3:c<128
  ·rw[if_pos h3];refine⟨?_,by simp only;omega,by simp;omega,by simp only;omega,?_,λh=>by simp only;omega⟩
   ·rw[show(n+1-n).toNat=1 from by omega];cases k with
    |zero=>simp[Jf]
    |succ k=>simp only[Jf];rw[if_pos h3];simp
   ·cases k with
    |zero=>simp only[Int.pow_zero];omega
    |succ k=>simp only;have:(0:Int)<128^k:=Int.pow_pos Om;rw[Int.pow_succ];omega
  ·rw[if_neg h3]at h ⊢;simp only at h ⊢;obtain⟨j,rfl⟩:∃j,k=j+1:=⟨k-1,Om⟩;have⟨e1,e2,e3,e4,e5,e6⟩:=ih (n+1) j (λx hx=>hb x (mem_cons_of_mem _ hx)) Om Om h;rw[if_pos h];have e7:=e6 Om;refine⟨?_,Om,by simp;omega,Om,?_,λ_=>by omega⟩
   ·simp only[Jf];rw[if_neg Om];rw[show(c%128+128*(Cs (n+1) t).2.2)/128=(Cs (n+1) t).2.2 from by omega,e1];rw[show((Cs (n+1) t).2.1-n).toNat=((Cs (n+1) t).2.1-(n+1)).toNat+1 from by omega,take_succ_cons];congr 1;omega
   ·rw[Int.pow_succ];omega
def Ml {l:List Int} (hb:A7 l) (h:(Cs 0 l).1=0):vb (Cs 0 l).2.2=l.take (Cs 0 l).2.1.toNat∧1≤(Cs 0 l).2.1∧(Cs 0 l).2.1≤l.length∧0≤(Cs 0 l).2.2∧(Cs 0 l).2.2<18446744073709551616:=by
 have⟨e1,e2,e3,e4,e5,_⟩:=gB l 0 9 hb Om Om h;refine⟨by simpa[vb]using e1,Om,Om,e4,Om⟩
def O_:∀(l:List Int) (n:Int),0≤n->(Cs n l).1≠0->(Cs n l).2.2=0∧n≤(Cs n l).2.1∧(((Cs n l).1=1∧(Cs n l).2.1=n+l.length)∨(((Cs n l).1=4∨(Cs n l).1=5)∧(Cs n l).2.1<n+l.length)):=by
 intro l
 induction l with
 |nil=>intro n _ _;simp[Cs]
 |cons c t ih=>
  intro n hn h;simp only[Cs]at h ⊢;by_cases h1:n=9∧1<c
  ·rw[if_pos h1];simp;omega
  rw[if_neg h1]at h ⊢;by_cases h2:0<n∧c=0
  ·rw[if_pos h2];simp;omega
  rw[if_neg h2]at h ⊢;by_cases h3:c<128
  ·rw[if_pos h3]at h;simp at h
  rw[if_neg h3]at h ⊢;simp only at h ⊢;have⟨e1,e2,e3⟩:=ih (n+1) Om h;rw[if_neg h];refine⟨rfl,Om,?_⟩;rcases e3 with⟨a,b⟩|⟨a,b⟩
  ·left;exact⟨a,by simp;omega⟩
  ·right;exact⟨a,by simp;omega⟩
def Cd (c a:Int):Int×Int:=if c=0 then(0,0)else(c,a)
structure RS where
 l:List Int
 at_:Int
 code:Int
 fat:Int
def RS.fail (s:RS) (c a:Int):RS:=if s.code=0 then{s with code:=(Cd c a).1,fat:=(Cd c a).2}else s
def RS.good (s:RS):Bool:=s.code==0
def RS.left (s:RS):Int:=s.l.length-s.at_
def RS.ok (s:RS):Prop:=0≤s.at_∧s.at_≤s.l.length∧s.l.length≤140737488355328
def RS.skip (s:RS) (n:Int):RS×Bool:=
 if s.code=0 then(if n<0 then(s.fail 17 s.at_,false)else if s.left<n then(s.fail 1 s.l.length,false)else({s with at_:=s.at_+n},true))else(s,false)
def RS.byte (s:RS):RS×Int:=if(s.skip 1).2=true then((s.skip 1).1,s.l.getD s.at_.toNat 0)else((s.skip 1).1,0)
def RS.take (s:RS) (n:Int):RS×List Int:=if(s.skip n).2=true then((s.skip n).1,(s.l.drop s.at_.toNat).take n.toNat)else((s.skip n).1,[])
def RS.new (l:List Int):RS:=⟨l,0,0,0⟩
def GK {s:RS} {n:Int} (h:(s.skip n).2=true):s.code=0∧0≤n∧n≤s.left∧(s.skip n).1={s with at_:=s.at_+n}:=by
 unfold RS.skip at h ⊢;by_cases h1:s.code=0
 ·rw[if_pos h1]at h ⊢;by_cases h2:n<0
  ·rw[if_pos h2]at h;cases h
  ·rw[if_neg h2]at h ⊢;by_cases h3:s.left<n
   ·rw[if_pos h3]at h;cases h
   ·rw[if_neg h3];exact⟨h1,Om,Om,rfl⟩
 ·rw[if_neg h1]at h;cases h
theorem Bx (s:RS) (c a:Int):(s.fail c a).l=s.l:=by unfold RS.fail;split<;>rfl
theorem Y9 (s:RS) (c a:Int):(s.fail c a).at_=s.at_:=by unfold RS.fail;split<;>rfl
theorem RS.ok.fail {s:RS} (h:s.ok) (c a:Int):(s.fail c a).ok:=by unfold RS.ok;rw[Bx,Y9];exact h
theorem RS.ok.skip {s:RS} (h:s.ok) (n:Int):(s.skip n).1.ok∧(s.skip n).1.l=s.l:=by
 by_cases hy:(s.skip n).2=true
 ·have⟨h1,h2,h3,h4⟩:=GK hy;rw[h4];have⟨a,b,c⟩:=h;unfold RS.left at h3;exact⟨⟨by show 0≤s.at_+n;omega,by show s.at_+n≤s.l.length;omega,c⟩,rfl⟩
 ·unfold RS.skip at hy ⊢;by_cases h1:s.code=0
  ·rw[if_pos h1]at hy ⊢;by_cases h2:n<0
   ·rw[if_pos h2];exact⟨h.fail _ _,Bx _ _ _⟩
   ·rw[if_neg h2]at hy ⊢;by_cases h3:s.left<n
    ·rw[if_pos h3];exact⟨h.fail _ _,Bx _ _ _⟩
    ·rw[if_neg h3]at hy;exact absurd rfl hy
  ·rw[if_neg h1];exact⟨h,rfl⟩
theorem RS.ok.byte {s:RS} (h:s.ok):s.byte.1.ok∧s.byte.1.l=s.l:=by
 unfold RS.byte;split<;>exact h.skip 1
theorem RS.ok.take {s:RS} (h:s.ok) (n:Int):(s.take n).1.ok∧(s.take n).1.l=s.l:=by
 unfold RS.take;split<;>exact h.skip n
theorem RS.ok.new {l:List Int} (h:l.length≤140737488355328):(RS.new l).ok:=⟨Int.le_refl _,by simp[RS.new],h⟩
def Zf {s:RS} (h:s.ok) (hb:A7 s.l):0≤s.byte.2∧s.byte.2<256:=by
 unfold RS.byte;split
 ·rename_i hy;have⟨h1,h2,h3,h4⟩:=GK hy;have⟨a,b,c⟩:=h;unfold RS.left at h3;exact hb _ (D5 _ _ Om)
 ·simp
theorem A7.drop {l:List Int} (h:A7 l) (n:Nat):A7 (l.drop n):=λx hx=>h x (mem_of_mem_drop hx)
def Aa6:∀a:Fin 256,a.val|||128=128+a.val%128:=by decide+kernel
def RS.adv (s:RS) (i:Int):RS:={s with at_:=s.at_+i}
def RS.rest (s:RS):List Int:=s.l.drop s.at_.toNat
def RS.vint (s:RS):RS×Int:=
 if s.code=0 then
  (if(Cs 0 s.rest).1=0 then(s.adv (Cs 0 s.rest).2.1,(Cs 0 s.rest).2.2)
  else if(Cs 0 s.rest).1=1 then({s with at_:=s.l.length,code:=1,fat:=s.l.length},0)
  else({s with at_:=s.at_+(Cs 0 s.rest).2.1+1,code:=(Cs 0 s.rest).1,fat:=s.at_+(Cs 0 s.rest).2.1},0))
 else(s,0)
def XZ (i:Nat) (x:Int) (q:Int×Int×Int):Int×Int×Int:=(q.1,q.2.1,if q.1=0 then x+128^i*q.2.2 else 0)
def Kz (s:RS) (i:Nat) (x:Int):Prop:=Cs 0 s.rest=XZ i x (Cs i (s.rest.drop i))
def Zz (s:RS) (_hb:A7 s.l):Kz s 0 0:=by
 unfold Kz;rw[drop_zero];have e0:((0:Nat):Int)=0:=rfl;rw[e0];have hf:=O_ s.rest 0 (Int.le_refl _);generalize Cs 0 s.rest=q at*;have⟨q1,q2,q3⟩:=q;unfold XZ;simp only[Int.pow_zero,Int.one_mul,Int.zero_add]at*;by_cases h:q1=0
 ·rw[if_pos h]
 ·rw[if_neg h,(hf h).1]
def EI (s:RS) (h0:0≤s.at_) (h1:s.at_≤s.l.length):(s.rest.length:Int)=s.l.length-s.at_:=by
 unfold RS.rest;simp;omega
def mQ (s:RS) (i:Nat) (hc:s.code=0) (_h0:0≤s.at_) (_h1:s.at_≤s.l.length) (hi:s.at_+i=s.l.length):
 (s.adv i).byte=({s with at_:=s.l.length,code:=1,fat:=s.l.length},0):=by
 have e:(s.adv i).skip 1=({s with at_:=s.l.length,code:=1,fat:=s.l.length},false):=by
  unfold RS.skip RS.adv RS.left RS.fail;simp only[hc,if_true];rw[if_neg Om,if_pos Om,hi];simp[Cd]
 unfold RS.byte;rw[e];simp
def mR (s:RS) (hc:s.code≠0):(s.adv 0).byte=(s,0):=by
 have e0:s.adv 0=s:=by unfold RS.adv;simp
 rw[e0];have e:s.skip 1=(s,false):=by unfold RS.skip;rw[if_neg hc]
 unfold RS.byte;rw[e];simp
def eY (s:RS) (i:Nat) (c:Int) (t:List Int) (hc:s.code=0) (h0:0≤s.at_) (h1:s.at_≤s.l.length) (hd:s.rest.drop i=c::t):
 (s.adv i).byte=(s.adv (i+1),c)∧s.at_+i+1≤s.l.length:=by
 have hlen:i<s.rest.length:=by
  rcases Nat.lt_or_ge i s.rest.length with h|h
  ·exact h
  ·rw[drop_eq_nil_of_le h]at hd;cases hd
 have hl:=EI s h0 h1;have e:(s.adv i).skip 1=(s.adv (i+1),true):=by
  unfold RS.skip RS.adv RS.left;simp only[hc,if_true];rw[if_neg Om,if_neg Om];simp[Int.add_assoc]
 unfold RS.byte;rw[e];simp only[if_true];refine⟨?_,Om⟩;have:(s.adv i).l.getD (s.adv i).at_.toNat 0=c:=by
  unfold RS.adv RS.rest at*;simp only;rw[drop_drop]at hd;have e2:(s.at_+(i:Int)).toNat=s.at_.toNat+i:=Om
  rw[e2];have:=congrArg (λl=>l[0]?) hd;simp at this;simp[this]
 rw[this]
theorem H1 {s:RS} (hc:s.code≠0):s.vint=(s,0):=by unfold RS.vint;rw[if_neg hc]
def gA {s:RS} {i:Nat} {x:Int} (hc:s.code=0) (hu:Kz s i x) (hd:s.rest.drop i=[]):s.vint=({s with at_:=s.l.length,code:=1,fat:=s.l.length},0):=by
 unfold Kz at hu;rw[hd]at hu;unfold RS.vint;rw[if_pos hc,hu];simp[XZ,Cs]
def Zv {s:RS} {i:Nat} {x c:Int} {t:List Int} (hc:s.code=0) (hu:Kz s i x) (hd:s.rest.drop i=c::t) (h9:i=9) (h1:1<c):
 s.vint=((s.adv (i+1)).fail 5 (s.at_+i),0):=by
 have hq:Cs i (c::t)=(5,(i:Int),0):=by simp only[Cs];rw[if_pos Om]
 unfold Kz at hu;rw[hd,hq]at hu;unfold RS.vint;rw[if_pos hc,hu];simp[XZ,RS.fail,RS.adv,hc,Cd,Int.add_assoc]
def fZ {s:RS} {i:Nat} {x:Int} {t:List Int} (hc:s.code=0) (hu:Kz s i x) (hd:s.rest.drop i=0::t) (h9:0<i):
 s.vint=((s.adv (i+1)).fail 4 (s.at_+i),0):=by
 have hq:Cs i (0::t)=(4,(i:Int),0):=by unfold Cs;rw[if_neg Om,if_pos ⟨Om,rfl⟩]
 unfold Kz at hu;rw[hd,hq]at hu;unfold RS.vint;rw[if_pos hc,hu];simp[XZ,RS.fail,RS.adv,hc,Cd,Int.add_assoc]
def Zw {s:RS} {i:Nat} {x c:Int} {t:List Int} (hc:s.code=0) (hu:Kz s i x) (hd:s.rest.drop i=c::t) (h9:¬(i=9∧1<c)) (h1:¬(0<i∧c=0)) (h2:c<128):
 s.vint=(s.adv (i+1),x+128^i*c):=by
 have hq:Cs i (c::t)=(0,(i:Int)+1,c):=by simp only[Cs];rw[if_neg Om,if_neg Om,if_pos h2]
 unfold Kz at hu;rw[hd,hq]at hu;unfold RS.vint;rw[if_pos hc,hu];simp[XZ,RS.adv,hc]
def ZA {s:RS} {i:Nat} {x c:Int} {t:List Int} (hu:Kz s i x) (hd:s.rest.drop i=c::t) (h9:¬(i=9∧1<c)) (h1:¬(0<i∧c=0)) (h2:¬c<128):
 Kz s (i+1) (x+128^i*(c%128))∧s.rest.drop (i+1)=t:=by
 have e:s.rest.drop (i+1)=t:=by rw[←drop_drop,hd];rfl
 refine⟨?_,e⟩;have hq:Cs i (c::t)=((Cs (i+1) t).1,(Cs (i+1) t).2.1,if(Cs (i+1) t).1=0 then c%128+128*(Cs (i+1) t).2.2 else 0):=by
  simp only[Cs];rw[if_neg Om,if_neg Om,if_neg h2]
 unfold Kz at*;rw[hd,hq]at hu;rw[e,hu];have ei:((i+1:Nat):Int)=(i:Int)+1:=Om
 rw[ei];generalize Cs ((i:Int)+1) t=q;have⟨q1,q2,q3⟩:=q;unfold XZ;simp only;by_cases h:q1=0
 ·rw[if_pos h,if_pos h,if_pos h,Int.pow_succ,Int.mul_add,Int.mul_assoc,Int.add_assoc]
 ·rw[if_neg h,if_neg h]
def YM (i:Nat) (hi:i≤9) (x c:Int) (h0:0≤x) (h1:x<128^i) (c0:0≤c) (c1:c<128) (c2:i=9->c≤1):
 bits .or .u64 x (IntKind.u64.wrap (c*2^(7*i)))=x+128^i*c∧x+128^i*c<128^(i+1)∧0≤x+128^i*c:=by
 obtain⟨n,rfl⟩:=Int.eq_ofNat_of_zero_le c0;obtain⟨m,rfl⟩:=Int.eq_ofNat_of_zero_le h0;have hp:(2:Int)^(7*i)=128^i:=by rw[Int.pow_mul];rfl
 have hpos:(0:Int)<128^i:=Int.pow_pos Om;have hcast:((128^i:Nat):Int)=128^i:=by rw[Int.natCast_pow];rfl
 have h1':m<128^i:=Om
 have hB:n*128^i<18446744073709551616:=by
  have:i=0∨i=1∨i=2∨i=3∨i=4∨i=5∨i=6∨i=7∨i=8∨i=9:=Om
  rcases this with rfl|rfl|rfl|rfl|rfl|rfl|rfl|rfl|rfl|rfl<;>simp at c2 ⊢ <;>omega
 have hm:(m:Int)<18446744073709551616:=by
  have:i=0∨i=1∨i=2∨i=3∨i=4∨i=5∨i=6∨i=7∨i=8∨i=9:=Om
  rcases this with rfl|rfl|rfl|rfl|rfl|rfl|rfl|rfl|rfl|rfl<;>simp at h1<;>omega
 have e0:(n:Int)*128^i=((n*128^i:Nat):Int):=by rw[Int.natCast_mul,hcast]
 have e1:IntKind.u64.wrap ((n:Int)*2^(7*i))=((n*128^i:Nat):Int):=by
  rw[hp,e0];simp[IntKind.wrap,IntKind.bits,IntKind.signed];omega
 rw[e1,u64_or_nat m _ Om hB];have e2:m|||n*128^i=n*128^i+m:=by
  rw[Nat.or_comm];have q:(2:Nat)^(7*i)=128^i:=by rw[Nat.pow_mul]
  exact nat_join (7*i) _ _ (by rw[q];exact Nat.mul_mod_left _ _) (by rw[q];exact h1')
 rw[e2];have e3:((n*128^i+m:Nat):Int)=(m:Int)+128^i*(n:Int):=by
  rw[Int.natCast_add,←e0,Int.mul_comm,Int.add_comm]
 refine⟨e3,?_,?_⟩
 ·rw[Int.pow_succ];have:(128:Int)^i*n≤128^i*127:=Int.mul_le_mul_of_nonneg_left Om Om;omega
 ·have:(0:Int)≤128^i*n:=Int.mul_nonneg Om Om;omega
def RS.most (s:RS) (m:Int):RS×Int:=if m<s.vint.2 then(s.vint.1.fail 2 s.at_,0)else s.vint
def RS.int (s:RS) (m:Int):RS×Int:=if 0≤m then s.most m else(s.vint.1.fail 2 s.at_,0)
def Bf {s:RS} (hb:A7 s.l):0≤s.vint.2∧s.vint.2<18446744073709551616:=by
 unfold RS.vint;split
 ·split
  ·rename_i h1 h2;have:=Ml (l:=s.rest) (hb.drop _) h2;exact⟨this.2.2.2.1,this.2.2.2.2⟩
  ·split<;>simp
 ·simp
def M6 {s:RS} {m:Int} (hb:A7 s.l) (h0:0≤m):0≤(s.most m).2∧(s.most m).2≤m:=by
 have:=Bf hb;unfold RS.most;split
 ·simp;exact h0
 ·omega
theorem BB (l:List Int):(RS.new l).rest=l:=by simp[RS.rest,RS.new]
structure WS where
 most:Int
 l:List Int
 code:Int
def WS.new (most:Int):WS:=⟨max most 0,[],0⟩
def WS.fail (s:WS) (c:Int):WS:=if s.code=0 then{s with code:=c}else s
def WS.put (s:WS) (m:List Int):WS:=if s.code=0 then(if s.most-s.l.length<m.length then{s with code:=2}else{s with l:=s.l++m})else s
theorem WS.put_ok {s:WS} {m:List Int} (h:s.code=0) (hm:s.l.length+m.length≤s.most):s.put m={s with l:=s.l++m}:=by
 unfold WS.put;rw[if_pos h,if_neg Om]
theorem WS.put_bad {s:WS} {m:List Int} (h:s.code≠0):s.put m=s:=by
 unfold WS.put;rw[if_neg h]
theorem WS.new_is {n:Int} (h:0≤n):WS.new n=⟨n,[],0⟩:=by unfold WS.new;rw[show max n 0=n from by omega]
def WS.bytes (s:WS):List Int:=if s.code=0 then s.l else[]
def Aj:Nat->Int->List Int
 |0,_=>[]
 |n+1,x=>x%256::Aj n (x/256)
def OF (n:Nat):∀x:Int,Aj (n+1) x=Aj n x++[x/256^n%256]:=by
 induction n with
 |zero=>intro x;simp[Aj]
 |succ n ih=>
  intro x;have:=ih (x/256);rw[show Aj (n+1+1) x=x%256::Aj (n+1) (x/256)from rfl,this,show Aj (n+1) x=x%256::Aj n (x/256)from rfl];simp only[cons_append];congr 3;rw[Int.ediv_ediv_of_nonneg Om,Int.pow_succ',]
theorem Bo (n:Nat):∀x:Int,(Aj n x).length=n:=by
 induction n with
 |zero=>intro x;rfl
 |succ n ih=>intro x;simp[Aj,ih]
def DQ (n:Nat):∀x:Int,A7 (Aj n x):=by
 induction n with
 |zero=>intro x y hy;simp[Aj]at hy
 |succ n ih=>
  intro x y hy;simp only[Aj,mem_cons]at hy;rcases hy with rfl|hy
  ·omega
  ·exact ih _ y hy
def WS.ok (s:WS):Prop:=0≤s.most∧s.most<9223372036854775808∧s.l.length≤s.most
def WS.room (s:WS):Int:=s.most-s.l.length
theorem WS.ok.new {n:Int} (h:n<9223372036854775808):(WS.new n).ok:=by
 refine⟨?_,?_,?_⟩<;>simp[WS.new]<;>omega
theorem JK (s:WS) (c:Int):(s.fail c).most=s.most∧(s.fail c).l=s.l:=by unfold WS.fail;split<;>exact⟨rfl,rfl⟩
theorem WS.ok.fail {s:WS} (h:s.ok) (c:Int):(s.fail c).ok:=by
 have⟨h1,h2⟩:=JK s c;unfold WS.ok;rw[h1,h2];exact h
theorem S9 (s:WS) (m:List Int):(s.put m).most=s.most:=by
 unfold WS.put;split
 ·split<;>rfl
 ·rfl
theorem WS.ok.put {s:WS} (h:s.ok) (m:List Int):(s.put m).ok:=by
 have⟨a,b,c⟩:=h;unfold WS.put;split
 ·split
  ·exact⟨a,b,c⟩
  ·exact⟨a,b,by simp;omega⟩
 ·exact⟨a,b,c⟩
def oW (l:List Int):Int×Int×(Int×Int):=if(Cs 0 l).1=0 then((Cs 0 l).2.2,(Cs 0 l).2.1,(0,0))else(0,0,((Cs 0 l).1,(Cs 0 l).2.1))
theorem gC (n c:Int) (t:List Int):Cs n (c::t)=if n=9∧1<c then(5,n,0)else if 0<n∧c=0 then(4,n,0)else if c<128 then(0,n+1,c)
 else((Cs (n+1) t).1,(Cs (n+1) t).2.1,if(Cs (n+1) t).1=0 then c%128+128*(Cs (n+1) t).2.2 else 0):=rfl
structure An (s:RS):Prop where
 at0:0≤s.at_
 at1:s.at_≤s.l.length
 len:s.l.length≤140737488355328
 bys:A7 s.l
theorem An.ok {s:RS} (h:An s):s.ok:=⟨h.at0,h.at1,h.len⟩
theorem RS.ok.rok {s:RS} (h:s.ok) (hb:A7 s.l):An s:=⟨h.1,h.2.1,h.2.2,hb⟩
theorem An.new {l:List Int} (hb:A7 l) (hn:l.length≤140737488355328):An (RS.new l):=⟨by simp[RS.new],by simp[RS.new],hn,hb⟩
theorem An.fail {s:RS} (h:An s) (c a:Int):An (s.fail c a):=by
 unfold RS.fail;split
 ·exact⟨h.at0,h.at1,h.len,h.bys⟩
 ·exact h
theorem An.skip {s:RS} (h:An s) (n:Int):An (s.skip n).1:=(h.ok.skip n).1.rok (by rw[(h.ok.skip n).2];exact h.bys)
theorem An.take {s:RS} (h:An s) (n:Int):An (s.take n).1:=(h.ok.take n).1.rok (by rw[(h.ok.take n).2];exact h.bys)
def Mi {s:RS} (h:An s) (hc:s.code=0) {X N C Af:Int} (hq:oW s.rest=(X,N,(C,Af))):
 (C=0->s.vint=(s.adv N,X)∧1≤N∧s.at_+N≤s.l.length∧0≤X∧X<18446744073709551616)∧(C=1->s.vint=({s with at_:=s.l.length,code:=1,fat:=s.l.length},0))∧
   (C≠0->C≠1->s.vint=({s with at_:=s.at_+Af+1,code:=C,fat:=s.at_+Af},0)∧0≤Af∧s.at_+Af+1≤s.l.length):=by
 have hrl:=EI s h.at0 h.at1;have hb:A7 s.rest:=h.bys.drop _;unfold oW at hq;unfold RS.vint;rw[if_pos hc];by_cases h0:(Cs 0 s.rest).1=0
 ·have hk:=Ml hb h0;rw[if_pos h0]at hq;simp only[Prod.mk.injEq]at hq;obtain⟨rfl,rfl,rfl,rfl⟩:=hq;rw[if_pos h0];exact⟨λ_=>⟨rfl,Om,Om,Om,Om⟩,λh=>by omega,λh=>by omega⟩
 ·have hf:=O_ s.rest 0 (Int.le_refl _) h0;rw[if_neg h0]at hq;simp only[Prod.mk.injEq]at hq;obtain⟨rfl,rfl,rfl,rfl⟩:=hq;rw[if_neg h0];refine⟨λh=>by omega,λh=>by rw[if_pos h],λ_ h1=>?_⟩;rw[if_neg h1];refine⟨rfl,Om,Om⟩
theorem An.vint {s:RS} (h:An s):An s.vint.1∧s.vint.1.l=s.l:=by
 by_cases hc:s.code=0
 ·obtain⟨X,N,C,Af,hq⟩:∃X N C Af,oW s.rest=(X,N,(C,Af)):=⟨_,_,_,_,rfl⟩;have⟨p1,p2,p3⟩:=Mi h hc hq;by_cases c0:C=0
  ·have⟨e,h1,h2,_⟩:=p1 c0;rw[e];have:=h.at0;exact⟨⟨by simp[RS.adv];omega,by simp[RS.adv];omega,h.len,h.bys⟩,rfl⟩
  by_cases c1:C=1
  ·rw[p2 c1];exact⟨⟨Si,Si,h.len,h.bys⟩,rfl⟩
  ·have⟨e,h1,h2⟩:=p3 c0 c1;rw[e];have:=h.at0;exact⟨⟨by simp;omega,by simp;omega,h.len,h.bys⟩,rfl⟩
 ·rw[H1 hc];exact⟨h,rfl⟩
theorem An.most {s:RS} (h:An s) (m:Int):An (s.most m).1∧(s.most m).1.l=s.l:=by
 unfold RS.most;split
 ·exact⟨h.vint.1.fail _ _,by rw[Bx];exact h.vint.2⟩
 ·exact h.vint
theorem An.int {s:RS} (h:An s) (m:Int):An (s.int m).1∧(s.int m).1.l=s.l:=by
 unfold RS.int;split
 ·exact h.most m
 ·exact⟨h.vint.1.fail _ _,by rw[Bx];exact h.vint.2⟩
def Fe {s:RS} (h:A7 s.l) (n:Int):A7 (s.take n).2:=by
 unfold RS.take;split
 ·exactλx hx=>h x (mem_of_mem_drop (mem_of_mem_take hx))
 ·intro x hx;simp at hx
def SG (s:RS) (n:Int):(s.take n).2.length≤s.l.length:=by
 unfold RS.take;split
 ·simp;omega
 ·simp
def tI:∀(l m:List Int),A7 l->A7 m->(l.map λn=>UInt8.ofNat n.toNat)=(m.map λn=>UInt8.ofNat n.toNat)->l=m:=by
 intro l
 induction l with
 |nil=>intro m _ _ h;cases m with
  |nil=>rfl
  |cons=>simp at h
 |cons x l ih=>
  intro m hl hm h;cases m with
  |nil=>simp at h
  |cons y m=>
   simp only[map_cons,List.cons.injEq]at h;have hx:=hl x (mem_cons_self ..);have hy:=hm y (mem_cons_self ..);have e:=congrArg UInt8.toNat h.1;simp only[UInt8.toNat_ofNat']at e;rw[Nat.mod_eq_of_lt Om,Nat.mod_eq_of_lt Om]at e;rw[ih m (λz hz=>hl z (mem_cons_of_mem _ hz)) (λz hz=>hm z (mem_cons_of_mem _ hz)) h.2,show x=y from by omega]
def Ca (l m:List Int):Bool:=decide (l=m)
theorem Po (l:List Int):Ca l l=true:=by simp[Ca]
def Zt {x:Int} (h0:0≤x) (h1:x<18446744073709551616):CJ .xor .u64 x 18446744073709551615=18446744073709551615-x:=by
 obtain⟨n,rfl⟩:=Int.eq_ofNat_of_zero_le h0;show IntKind.u64.wrap ((BitVec.ofInt 64 (n:Int)^^^BitVec.ofInt 64 18446744073709551615).toNat:Int)=_;have e:BitVec.ofInt 64 18446744073709551615=BitVec.allOnes 64:=by decide
 rw[e,BitVec.xor_allOnes,BitVec.toNat_not,ofInt_u64 n Om,IntKind.wrap_u64];omega
def Jn (l:List Int):List Int:=l.flatMap vb
theorem Sd (l:List Int) (x:Int):Jn (l++[x])=Jn l++vb x:=by simp[Jn]
def Qm (l:List Int):(Jn l).length≤10*l.length:=by
 induction l with
 |nil=>simp[Jn]
 |cons x l ih=>have:=(A4 x).2;simp[Jn]at ih ⊢;omega
def oT {l:List Int} (h:F9 l):A7 (Jn l):=by
 intro y hy;simp only[Jn,mem_flatMap]at hy;have⟨x,hx,hy⟩:=hy;exact CG (h x hx).1 (h x hx).2 y hy
def WS.puts (s:WS) (l:List Int):WS:=l.foldl (λs x=>s.put (vb x)) s
theorem Px (s:WS) (l:List Int) (x:Int):s.puts (l++[x])=(s.puts l).put (vb x):=by simp[WS.puts]
def EC {s:RS} (h:An s) (hc:s.vint.1.code=0):s.at_+1≤s.vint.1.at_∧s.vint.1.at_≤s.l.length:=by
 have h0:=h.vint.1.at1;rw[h.vint.2]at h0;refine⟨?_,h0⟩;by_cases hc0:s.code=0
 ·obtain⟨X,N,C,Af,hq⟩:∃X N C Af,oW s.rest=(X,N,(C,Af)):=⟨_,_,_,_,rfl⟩;have⟨p1,p2,p3⟩:=Mi h hc0 hq;by_cases c0:C=0
  ·have⟨e,h1,h2,_⟩:=p1 c0;rw[e];show s.at_+1≤s.at_+N;omega
  ·by_cases c1:C=1
   ·rw[p2 c1]at hc;simp at hc
   ·have⟨e,_⟩:=p3 c0 c1;rw[e]at hc;exact absurd hc c0
 ·rw[H1 hc0]at hc;exact absurd hc hc0
def RS.rnext (s:RS) (acc:List Int):RS×Int:=
 if acc.length=0 then s.vint
 else if s.vint.1.code=0∧18446744073709551616≤acc.getD (acc.length-1) 0+1+s.vint.2 then(s.vint.1.fail 13 s.at_,0)
 else(s.vint.1,acc.getD (acc.length-1) 0+1+s.vint.2)
def RS.rr (s:RS):Nat->List Int->RS×List Int
 |0,acc=>(s,acc)
 |n+1,acc=>if(s.rnext acc).1.code=0 then(s.rnext acc).1.rr n (acc++[(s.rnext acc).2])else((s.rnext acc).1,[])
def pX {s:RS} {acc:List Int} {N:Nat} (h:acc.length<N) (hc:(s.rnext acc).1.code=0):s.rr (N-acc.length) acc=(s.rnext acc).1.rr (N-(acc++[(s.rnext acc).2]).length) (acc++[(s.rnext acc).2]):=by
 obtain⟨m,hm⟩:∃m,N-acc.length=m+1:=⟨N-acc.length-1,Om⟩;rw[hm,RS.rr,if_pos hc];congr 1;simp;omega
theorem V3 {s:RS} {acc:List Int} (h:acc.length=0):s.rnext acc=s.vint:=by unfold RS.rnext;rw[if_pos h]
def V4 {s:RS} {acc:List Int} (h:0<acc.length) (ho:18446744073709551616≤acc.getD (acc.length-1) 0+1+s.vint.2):
 (s.rnext acc).1=s.vint.1.fail 13 s.at_∧¬(s.rnext acc).1.code=0:=by
 unfold RS.rnext;rw[if_neg Om];by_cases hc:s.vint.1.code=0
 ·rw[if_pos ⟨hc,ho⟩];refine⟨rfl,?_⟩;unfold RS.fail;rw[if_pos hc];simp[Cd]
 ·rw[if_neg (by intro h;exact hc h.1)];refine⟨?_,hc⟩;unfold RS.fail;rw[if_neg hc]
theorem V5 {s:RS} {acc:List Int} (h:0<acc.length) (ho:¬18446744073709551616≤acc.getD (acc.length-1) 0+1+s.vint.2):
 s.rnext acc=(s.vint.1,acc.getD (acc.length-1) 0+1+s.vint.2):=by
 unfold RS.rnext;rw[if_neg Om,if_neg (by intro h;exact ho h.2)]
def ROn (s:RS) (N:Nat) (a:RS×List Int):Prop:=
 An a.1∧a.1.l=s.l∧(a.2.length:Int)≤a.1.at_∧a.2.length≤N∧F9 a.2∧a.1.rr (N-a.2.length) a.2=s.rr N []
theorem ROn.start {s:RS} (h:An s) (N:Nat):ROn s N (s,[]):=⟨h,rfl,by simpa using h.at0,Si,by intro x hx;simp at hx,rfl⟩
theorem F9.snoc {l:List Int} {x:Int} (h:F9 l) (h0:0≤x) (h1:x<18446744073709551616):F9 (l++[x]):=by
 intro y hy;rcases mem_append.1 hy with hy|hy
 ·exact h y hy
 ·simp at hy;subst hy;exact⟨h0,h1⟩
theorem ROn.next {s t:RS} {N:Nat} {acc:List Int} (h:ROn s N (t,acc)) (hN:acc.length<N) (hc:(t.rnext acc).1.code=0):ROn s N ((t.rnext acc).1,acc++[(t.rnext acc).2]):=by
 have⟨h1,h2,h3,h4,h5,h6⟩:=h;simp only at h1 h2 h3 h4 h5 h6;have hx:=Bf (s:=t) h1.bys;have key:(t.rnext acc).1=t.vint.1∧0≤(t.rnext acc).2∧(t.rnext acc).2<18446744073709551616:=by
  rcases Nat.eq_zero_or_pos acc.length with hz|hz
  ·rw[V3 hz];exact⟨rfl,hx.1,hx.2⟩
  ·by_cases ho:18446744073709551616≤acc.getD (acc.length-1) 0+1+t.vint.2
   ·exact absurd hc (V4 hz ho).2
   ·rw[V5 hz ho];have hp:=h5 _ (D5 acc (acc.length-1) Om);exact⟨rfl,by simp only;omega,by simp only;omega⟩
 have hadv:=EC h1 (key.1▸hc);refine⟨?_,?_,?_,?_,h5.snoc key.2.1 key.2.2,?_⟩
 ·rw[key.1];exact h1.vint.1
 ·rw[key.1,h1.vint.2];exact h2
 ·rw[key.1];simp;omega
 ·simp;omega
 ·rw[←h6];exact(pX hN hc).symm
theorem ROn.len {s t:RS} {N:Nat} {acc:List Int} (h:ROn s N (t,acc)):acc.length≤s.l.length:=by
 have⟨h1,h2,h3,_⟩:=h;have:=h1.at1;simp only at h2 h3 this;rw[h2]at this;omega
theorem MW {s:WS} (h:s.code=0) (l:List Int) (hm:(s.l.length:Int)+(Jn l).length≤s.most):s.puts l={s with l:=s.l++Jn l}:=by
 induction l generalizing s with
 |nil=>simp[WS.puts,Jn]
 |cons x l ih=>
  have e:Jn (x::l)=vb x++Jn l:=by simp[Jn]
  rw[e,length_append]at hm;show(s.put (vb x)).puts l=_;rw[WS.put_ok h Om,ih (s:={s with l:=s.l++vb x}) h (by simp only[length_append];omega),e];simp
def CK {s:RS} (h:An s) (hc:s.vint.1.code=0):s.l.take s.vint.1.at_.toNat=s.l.take s.at_.toNat++vb s.vint.2∧s.vint.1.l=s.l∧s.code=0:=by
 have hc0:s.code=0:=by
  by_cases hc0:s.code=0
  ·exact hc0
  ·rw[H1 hc0]at hc;exact absurd hc hc0
 refine⟨?_,h.vint.2,hc0⟩;have h0:(Cs 0 s.rest).1=0:=by
  by_cases h0:(Cs 0 s.rest).1=0
  ·exact h0
  ·unfold RS.vint at hc;rw[if_pos hc0,if_neg h0]at hc;split at hc
   ·simp at hc
   ·exact absurd hc h0
 have hb:A7 s.rest:=h.bys.drop _;have⟨k1,k2,k3,k4,k5⟩:=Ml hb h0;have e:s.vint=(s.adv (Cs 0 s.rest).2.1,(Cs 0 s.rest).2.2):=by unfold RS.vint;rw[if_pos hc0,if_pos h0]
 rw[e];show s.l.take (s.at_+(Cs 0 s.rest).2.1).toNat=_++vb (Cs 0 s.rest).2.2;rw[k1];have ha:=h.at0;rw[show(s.at_+(Cs 0 s.rest).2.1).toNat=s.at_.toNat+(Cs 0 s.rest).2.1.toNat from by omega];unfold RS.rest;rw[take_add]
def Du {s:RS} {x:Int} {r:List Int} (hc:s.code=0) (h0:0≤x) (h1:x<18446744073709551616) (hr:s.rest=vb x++r):s.vint=(s.adv ((vb x).length:Int),x):=by
 unfold RS.vint;rw[if_pos hc,hr,vF r h0 h1];simp
theorem AW {s:RS} (h0:0≤s.at_) (n:Nat):(s.adv (n:Int)).rest=s.rest.drop n:=by
 unfold RS.rest RS.adv;simp only[drop_drop];congr 1;omega
theorem Bs (s:RS) (a b:Int):(s.adv a).adv b=s.adv (a+b):=by simp[RS.adv,Int.add_assoc]
def vH (l:List Int):l.length≤(Jn l).length:=by
 induction l with
 |nil=>simp
 |cons x l ih=>have:=(A4 x).1;simp[Jn]at ih ⊢;omega
structure EM (β:Type) where
 f:RS->List β->RS×β
 enc:List β->β->List Int
 nx:List β->β->Prop
def Wf {β:Type} (nx:List β->β->Prop):List β->List β->Prop
 |_,[]=>True
 |acc,x::r=>nx acc x∧Wf nx (acc++[x]) r
def BL {β:Type} (enc:List β->β->List Int):List β->List β->List Int
 |_,[]=>[]
 |acc,x::r=>enc acc x++BL enc (acc++[x]) r
theorem D8 {β:Type} {nx:List β->β->Prop}:∀{r acc:List β} {x:β},Wf nx acc (r++[x])↔Wf nx acc r∧nx (acc++r) x:=by
 intro r
 induction r with
 |nil=>intro acc x;simp[Wf]
 |cons y r ih=>intro acc x;simp only[cons_append,Wf,ih,append_assoc,nil_append,and_assoc]
theorem G_ {β:Type} {enc:List β->β->List Int}:∀{r acc:List β} {x:β},BL enc acc (r++[x])=BL enc acc r++enc (acc++r) x:=by
 intro r
 induction r with
 |nil=>intro acc x;simp[BL]
 |cons y r ih=>intro acc x;simp only[cons_append,BL,ih,append_assoc,nil_append]
def IM {β:Type} {nx:List β->β->Prop}:∀{r acc:List β} (k:Nat),Wf nx acc r->Wf nx acc (r.take k):=by
 intro r
 induction r with
 |nil=>intro acc k h;simp[Wf]
 |cons y r ih=>
  intro acc k h;cases k with
  |zero=>simp[Wf]
  |succ k=>exact⟨h.1,ih k h.2⟩
def Fq {β:Type} {nx:List β->β->Prop}:∀{r acc:List β} (k:Nat) (h:k<r.length),Wf nx acc r->nx (acc++r.take k) r[k]:=by
 intro r
 induction r with
 |nil=>intro acc k h;simp at h
 |cons y r ih=>
  intro acc k h hw;cases k with
  |zero=>simpa using hw.1
  |succ k=>
   have:=ih (acc:=acc++[y]) k (by simpa using h) hw.2;simpa using this
def uL {β:Type} {nx:List β->β->Prop}:∀{r acc:List β},(∀(k:Nat) (h:k<r.length),nx (acc++r.take k) r[k])->Wf nx acc r:=by
 intro r
 induction r with
 |nil=>intro acc h;trivial
 |cons y r ih=>
  intro acc h;have h0:=h 0 Si;simp only[take_zero,append_nil,getElem_cons_zero]at h0;refine⟨h0,ih λk hk=>?_⟩;have:=h (k+1) (by simpa using hk);simpa using this
structure EM.Ok {β:Type} (F:EM β):Prop where
 keep:∀s acc,An s->Wf F.nx [] acc->An (F.f s acc).1∧(F.f s acc).1.l=s.l
 read:∀s acc,An s->Wf F.nx [] acc->(F.f s acc).1.code=0->s.code=0∧F.nx acc (F.f s acc).2∧s.at_<(F.f s acc).1.at_∧s.l.take (F.f s acc).1.at_.toNat=s.l.take s.at_.toNat++F.enc acc (F.f s acc).2
 own:∀s acc x r,An s->s.code=0->Wf F.nx [] acc->F.nx acc x->s.rest=F.enc acc x++r->F.f s acc=(s.adv ((F.enc acc x).length:Int),x)
 byt:∀acc x,Wf F.nx [] acc->F.nx acc x->A7 (F.enc acc x)
section
variable {β:Type} {F:EM β}
def UQ (hF:F.Ok):∀{r acc:List β},Wf F.nx [] acc->Wf F.nx acc r->A7 (BL F.enc acc r):=by
 intro r
 induction r with
 |nil=>intro acc _ _ y hy;simp[BL]at hy
 |cons y r ih=>
  intro acc ha h z hz;rcases mem_append.1 hz with hz|hz
  ·exact hF.byt _ _ ha h.1 z hz
  ·exact ih (D8.2 ⟨ha,by simpa using h.1⟩) h.2 z hz
def EM.many (F:EM β):Nat->RS->List β->RS×List β
 |0,s,acc=>(s,acc)
 |n+1,s,acc=>if(F.f s acc).1.code=0 then F.many n (F.f s acc).1 (acc++[(F.f s acc).2])else((F.f s acc).1,[])
def bL {s:RS} {acc:List β} {N:Nat} (h:acc.length<N) (hc:(F.f s acc).1.code=0):F.many (N-acc.length) s acc=F.many (N-(acc++[(F.f s acc).2]).length) (F.f s acc).1 (acc++[(F.f s acc).2]):=by
 obtain⟨m,hm⟩:∃m,N-acc.length=m+1:=⟨N-acc.length-1,Om⟩;rw[hm,EM.many,if_pos hc];congr 1;simp;omega
def F1 {s:RS} {acc:List β} {N:Nat} (h:acc.length<N) (hc:¬(F.f s acc).1.code=0):F.many (N-acc.length) s acc=((F.f s acc).1,[]):=by
 obtain⟨m,hm⟩:∃m,N-acc.length=m+1:=⟨N-acc.length-1,Om⟩;rw[hm,EM.many,if_neg hc]
def M8 {s:RS} {acc:List β} {N:Nat} (h:N≤acc.length):F.many (N-acc.length) s acc=(s,acc):=by
 rw[show N-acc.length=0 from by omega];rfl
structure EM.On (F:EM β) (s:RS) (N:Nat) (a:RS×List β):Prop where
 ok:An a.1
 l:a.1.l=s.l
 adv:(a.2.length:Int)≤a.1.at_
 le:a.2.length≤N
 wf:Wf F.nx [] a.2
 res:F.many (N-a.2.length) a.1 a.2=F.many N s []
theorem EM.On.start {s:RS} (h:An s) (N:Nat):F.On s N (s,[]):=⟨h,rfl,by simpa using h.at0,Si,trivial,rfl⟩
theorem EM.On.next {s t:RS} {N:Nat} {acc:List β} (hF:F.Ok) (h:F.On s N (t,acc)) (hN:acc.length<N) (hc:(F.f t acc).1.code=0):F.On s N ((F.f t acc).1,acc++[(F.f t acc).2]):=by
 have⟨h1,h2,h3,h4,h5,h6⟩:=h;simp only at h1 h2 h3 h4 h5 h6;have⟨k1,k2⟩:=hF.keep t acc h1 h5;have⟨r1,r2,r3,r4⟩:=hF.read t acc h1 h5 hc;refine⟨k1,k2.trans h2,?_,?_,D8.2 ⟨h5,by simpa using r2⟩,?_⟩
 ·simp;omega
 ·simp;omega
 ·rw[←h6];exact(bL hN hc).symm
theorem EM.On.len {s t:RS} {N:Nat} {acc:List β} (h:F.On s N (t,acc)):acc.length≤s.l.length:=by
 have h1:=h.ok.at1;have h2:=h.l;have h3:=h.adv;simp only at h1 h2 h3;rw[h2]at h1;omega
def PC (hF:F.Ok):∀(N:Nat) (s:RS) (acc:List β),An s->Wf F.nx [] acc->An (F.many N s acc).1∧(F.many N s acc).1.l=s.l:=by
 intro N
 induction N with
 |zero=>intro s acc h _;exact⟨h,rfl⟩
 |succ N ih=>
  intro s acc h hw;have⟨k1,k2⟩:=hF.keep s acc h hw;simp only[EM.many];split
  ·rename_i hc;have⟨r1,r2,r3,r4⟩:=hF.read s acc h hw hc;have⟨q1,q2⟩:=ih _ (acc++[(F.f s acc).2]) k1 (D8.2 ⟨hw,by simpa using r2⟩);exact⟨q1,q2.trans k2⟩
  ·exact⟨k1,k2⟩
def YP (hF:F.Ok):∀(N:Nat) (s:RS) (acc:List β),An s->Wf F.nx [] acc->(F.many N s acc).1.code=0->
 ∃r,(F.many N s acc).2=acc++r∧r.length=N∧Wf F.nx [] (acc++r)∧s.l.take (F.many N s acc).1.at_.toNat=s.l.take s.at_.toNat++BL F.enc acc r∧s.code=0∧s.at_≤(F.many N s acc).1.at_:=by
 intro N
 induction N with
 |zero=>intro s acc h hw hc;exact⟨[],by simp[EM.many],rfl,by simpa using hw,by simp[EM.many,BL],hc,Int.le_refl _⟩
 |succ N ih=>
  intro s acc h hw hc;have⟨k1,k2⟩:=hF.keep s acc h hw;simp only[EM.many]at hc ⊢;by_cases hn:(F.f s acc).1.code=0
  ·rw[if_pos hn]at hc ⊢;have⟨r1,r2,r3,r4⟩:=hF.read s acc h hw hn;have⟨r,q1,q2,q3,q4,q5,q6⟩:=ih (F.f s acc).1 (acc++[(F.f s acc).2]) k1 (D8.2 ⟨hw,by simpa using r2⟩) hc;refine⟨(F.f s acc).2::r,by rw[q1];simp,by simp[q2],by simpa using q3,?_,r1,Om⟩;rw[k2]at q4;rw[q4,r4,BL,append_assoc]
  ·rw[if_neg hn]at hc;exact absurd hc hn
theorem Ka:∀(N:Nat) (s:RS) (acc:List β),(s.code=0∨acc=[])->¬(F.many N s acc).1.code=0->(F.many N s acc).2=[]:=by
 intro N
 induction N with
 |zero=>intro s acc h hc;rcases h with h|h;exact absurd h hc;exact h
 |succ N ih=>
  intro s acc h hc;simp only[EM.many]at hc ⊢;by_cases hn:(F.f s acc).1.code=0
  ·rw[if_pos hn]at hc ⊢;exact ih _ _ (.inl hn) hc
  ·rw[if_neg hn]
def Bl {s:RS} (h:An s) {a r:List Int} (hr:s.rest=a++r):An (s.adv (a.length:Int)):=by
 have:=EI s h.at0 h.at1;rw[hr,length_append]at this;have h0:=h.at0;exact⟨by show 0≤s.at_+(a.length:Int);omega,by show s.at_+(a.length:Int)≤s.l.length;omega,h.len,h.bys⟩
theorem TB (hF:F.Ok) {m:List Int}:∀(l acc:List β) (s:RS),An s->s.code=0->Wf F.nx [] acc->Wf F.nx acc l->s.rest=BL F.enc acc l++m->F.many l.length s acc=(s.adv ((BL F.enc acc l).length:Int),acc++l):=by
 intro l
 induction l with
 |nil=>intro acc s _ _ _ _ _;simp[EM.many,BL,RS.adv]
 |cons x l ih=>
  intro acc s hs hc hw hl hr;simp only[BL,append_assoc]at hr;have h1:=hF.own s acc x _ hs hc hw hl.1 hr;have hs2:=Bl hs hr;simp only[length_cons,EM.many];rw[h1];have hc2:(s.adv ((F.enc acc x).length:Int)).code=0:=hc;rw[if_pos hc2,ih (acc++[x]) _ hs2 hc2 (D8.2 ⟨hw,by simpa using hl.1⟩) hl.2 (by rw[AW hs.at0,hr,drop_left]),Bs,BL,length_append];simp
end
def EM.counted {β:Type} (F:EM β) (m:Int) (s:RS):RS×List β:=F.many (s.int m).2.toNat (s.int m).1 []
def bE {s:RS} {m:Int} (h:(s.most m).1.code=0):s.vint.1.code=0∧s.vint.2≤m∧s.most m=s.vint:=by
 unfold RS.most at h ⊢;by_cases hm:m<s.vint.2
 ·rw[if_pos hm]at h;unfold RS.fail at h;split at h
  ·simp[Cd]at h
  ·contradiction
 ·rw[if_neg hm]at h ⊢;exact⟨h,Om,rfl⟩
def T7 {s:RS} {m:Int} (h:(s.int m).1.code=0):0≤m∧s.vint.1.code=0∧s.vint.2≤m∧s.int m=s.vint:=by
 unfold RS.int at h ⊢;by_cases hm:0≤m
 ·rw[if_pos hm]at h ⊢;have⟨a,b,c⟩:=bE h;exact⟨hm,a,b,c⟩
 ·rw[if_neg hm]at h;unfold RS.fail at h;split at h
  ·simp[Cd]at h
  ·contradiction
def Er {s:RS} {m:Int} (hb:A7 s.l):0≤(s.int m).2∧(s.int m).2≤max m 0:=by
 unfold RS.int;split
 ·have:=M6 (m:=m) hb (by assumption);omega
 ·simp;omega
def Zu {s:RS} (h:s.vint.1.code≠0):s.vint.2=0:=by
 unfold RS.vint at h ⊢;split
 ·rename_i hc;rw[if_pos hc]at h;split
  ·rename_i h0;rw[if_pos h0]at h;exact absurd hc h
  ·split<;>rfl
 ·rfl
section
variable {β:Type} {F:EM β}
def EL (hF:F.Ok) {s:RS} (h:An s) (m:Int):An (F.counted m s).1∧(F.counted m s).1.l=s.l:=by
 have⟨a,b⟩:=h.int m;have⟨c,d⟩:=PC hF (s.int m).2.toNat (s.int m).1 [] a trivial;exact⟨c,d.trans b⟩
def U1 (m:Int) {s:RS} (hc:¬(F.counted m s).1.code=0):(F.counted m s).2=[]:=Ka _ _ _ (.inr rfl) hc
def JN (hF:F.Ok) {s:RS} (h:An s) {m:Int} (hc:(F.counted m s).1.code=0):Wf F.nx [] (F.counted m s).2∧((F.counted m s).2.length:Int)≤m∧s.code=0∧
 s.l.take (F.counted m s).1.at_.toNat=s.l.take s.at_.toNat++vb (F.counted m s).2.length++BL F.enc [] (F.counted m s).2∧s.at_<(F.counted m s).1.at_:=by
 have⟨r,q1,q2,q3,q4,q5,q6⟩:=YP hF (s.int m).2.toNat (s.int m).1 [] (h.int m).1 trivial hc;have⟨i1,i2,i3,i4⟩:=T7 q5;have hv:=Bf (s:=s) h.bys;unfold EM.counted;rw[q1];have⟨v1,v2,v3⟩:=CK h i2;have ha:=EC h i2;refine⟨q3,?_,v3,?_,?_⟩
 ·simp only[nil_append];rw[q2,i4];omega
 ·rw[(h.int m).2]at q4;rw[q4];congr 1;rw[i4,v1];congr 2;simp only[nil_append];rw[q2,i4];omega
 ·rw[i4]at q6 ⊢;omega
def IC (hF:F.Ok) {s:RS} (h:An s) (hc:s.code=0) {l:List β} {m:Int} {r:List Int} (hm:(l.length:Int)≤m) (hl:Wf F.nx [] l) (hn:l.length<18446744073709551616) (hr:s.rest=vb l.length++(BL F.enc [] l++r)):
 F.counted m s=(s.adv (((vb l.length).length:Int)+(BL F.enc [] l).length),l):=by
 have hv:=Du hc (by omega:(0:Int)≤(l.length:Int)) Om hr;have hi:s.int m=(s.adv ((vb (l.length:Int)).length:Int),(l.length:Int)):=by
  unfold RS.int RS.most;rw[if_pos Om,hv,if_neg (by simp only;omega)]
 have hs2:=Bl h hr;unfold EM.counted;rw[hi];simp only[Int.toNat_natCast];rw[TB hF l [] _ hs2 hc trivial hl (m:=r) (by rw[AW h.at0,hr,drop_left]),Bs];rfl
end
def Es {s:RS} (h:An s) {m:Int} (hc:(s.int m).1.code=0):s.code=0∧0≤(s.int m).2∧(s.int m).2≤m∧s.at_<(s.int m).1.at_∧s.l.take (s.int m).1.at_.toNat=s.l.take s.at_.toNat++vb (s.int m).2:=by
 have⟨i1,i2,i3,i4⟩:=T7 hc;have hv:=Bf (s:=s) h.bys;have⟨v1,v2,v3⟩:=CK h i2;have ha:=EC h i2;rw[i4];exact⟨v3,hv.1,i3,Om,v1⟩
def Ec {s:RS} {x m:Int} {r:List Int} (hc:s.code=0) (h0:0≤x) (h1:x≤m) (h2:x<18446744073709551616) (hr:s.rest=vb x++r):s.int m=(s.adv ((vb x).length:Int),x):=by
 have hv:=Du hc h0 h2 hr;unfold RS.int RS.most;rw[if_pos Om,hv,if_neg (by simp only;omega)]
def YX {s:RS} (h:An s) {m:Int} (hc:(s.int m).1.code=0):s.at_+1≤(s.int m).1.at_:=by
 have⟨_,_,_,h4,_⟩:=Es h hc;omega
def RS.blob (s:RS) (m:Int):RS×List Int:=(s.int m).1.take (s.int m).2
def Dd (b:List Int):List Int:=vb b.length++b
theorem RS.ok.blob {s:RS} (h:An s) (m:Int):An (s.blob m).1∧(s.blob m).1.l=s.l:=by
 have⟨a,b⟩:=h.int m;exact⟨a.take _,((a.ok.take _).2).trans b⟩
def Pj {s:RS} {n:Int} (h:(s.take n).1.code=0):s.code=0∧0≤n∧n≤s.left∧s.take n=(s.adv n,(s.l.drop s.at_.toNat).take n.toNat):=by
 have hy:(s.skip n).2=true:=by
  cases hs:(s.skip n).2 with
  |true=>rfl
  |false=>
   exfalso;unfold RS.take at h;rw[hs]at h;simp only[Bool.false_eq_true,if_false]at h;unfold RS.skip at h hs;by_cases hc:s.code=0
   ·rw[if_pos hc]at h hs;by_cases h2:n<0
    ·rw[if_pos h2]at h;simp[RS.fail,hc,Cd]at h
    ·rw[if_neg h2]at h hs;by_cases h3:s.left<n
     ·rw[if_pos h3]at h;simp[RS.fail,hc,Cd]at h
     ·rw[if_neg h3]at hs;simp at hs
   ·rw[if_neg hc]at h;exact hc h
 have⟨h1,h2,h3,h4⟩:=GK hy;refine⟨h1,h2,h3,?_⟩;unfold RS.take;rw[if_pos hy,h4];rfl
theorem Da {s:RS} (h:An s) (hc:s.code=0) {b r:List Int} (hr:s.rest=b++r):s.take (b.length:Int)=(s.adv (b.length:Int),b):=by
 have hl:=EI s h.at0 h.at1;rw[hr,length_append]at hl;have hs:s.skip (b.length:Int)=(s.adv (b.length:Int),true):=by
  unfold RS.skip RS.left;rw[if_pos hc,if_neg Om,if_neg Om];rfl
 unfold RS.take;rw[hs];simp only[if_true];unfold RS.rest at hr;rw[hr];simp
theorem Mw {s:RS} {n:Int} (h:(s.take n).1.code≠0):(s.take n).2=[]:=by
 unfold RS.take at h ⊢;split
 ·rename_i hy;rw[if_pos hy]at h;have⟨h1,_,_,h4⟩:=GK hy;rw[h4]at h;exact absurd h1 h
 ·rfl
theorem KJ {s:RS} {n:Int} (h:s.code≠0):s.take n=(s,[]):=by
 have:s.skip n=(s,false):=by unfold RS.skip;rw[if_neg h]
 unfold RS.take;rw[this];simp
def Bn {s:RS} (h:An s) {n:Int} (hc:(s.take n).1.code=0):s.code=0∧0≤n∧((s.take n).2.length:Int)=n∧(s.take n).1.at_=s.at_+n∧s.l.take (s.take n).1.at_.toNat=s.l.take s.at_.toNat++(s.take n).2:=by
 have⟨h1,h2,h3,h4⟩:=Pj hc;have h0:=h.at0;unfold RS.left at h3;rw[h4];refine⟨h1,h2,?_,rfl,?_⟩
 ·simp;omega
 ·show s.l.take (s.at_+n).toNat=_;rw[show(s.at_+n).toNat=s.at_.toNat+n.toNat from by omega,take_add]
def tM {s:RS} (h:An s) {m:Int} (hc:(s.blob m).1.code=0):s.code=0∧((s.blob m).2.length:Int)≤m∧s.at_<(s.blob m).1.at_∧s.l.take (s.blob m).1.at_.toNat=s.l.take s.at_.toNat++Dd (s.blob m).2:=by
 unfold RS.blob at hc ⊢;have⟨a,b⟩:=h.int m;have⟨h1,h2,h3,h4,h5⟩:=Bn a hc;have⟨i1,i2,i3,i4,i5⟩:=Es h h1;refine⟨i1,Om,Om,?_⟩;rw[b]at h5;rw[h5,i5,append_assoc];unfold Dd;rw[h3]
def Vc {s:RS} (h:An s) (hc:s.code=0) {b r:List Int} {m:Int} (hm:(b.length:Int)≤m) (hn:b.length<18446744073709551616) (hr:s.rest=Dd b++r):s.blob m=(s.adv ((Dd b).length:Int),b):=by
 unfold Dd at hr;rw[append_assoc]at hr;have hi:=Ec hc Om hm Om hr;have hs2:=Bl h hr;unfold RS.blob;rw[hi];simp only;rw[Da hs2 hc (r:=r) (by rw[AW h.at0,hr,drop_left]),Bs];unfold Dd;rw[length_append];simp
def N4 {s:RS} (h:An s) (m:Int):(s.blob m).2.length≤s.l.length∧A7 (s.blob m).2:=by
 have⟨a,b⟩:=h.int m;unfold RS.blob;refine⟨?_,Fe a.bys _⟩;have:=SG (s.int m).1 (s.int m).2;rw[b]at this;exact this
def BM:List Int->Int
 |[]=>0
 |c::l=>c+256*BM l
def Iw:∀{l:List Int},A7 l->0≤BM l∧BM l<256^l.length:=by
 intro l
 induction l with
 |nil=>intro _;simp[BM]
 |cons c l ih=>
  intro h;have hc:=h c (mem_cons_self ..);have:=ih λx hx=>h x (mem_cons_of_mem _ hx)
  simp only[BM,length_cons,Int.pow_succ];omega
theorem Xw (l:List Int) (c:Int):BM (l++[c])=BM l+256^l.length*c:=by
 induction l with
 |nil=>simp[BM]
 |cons x l ih=>
  simp only[cons_append,BM,ih,length_cons,Int.pow_succ,Int.mul_add];rw[Int.mul_comm (256^l.length) 256,Int.mul_assoc,Int.add_assoc]
theorem I1 (n:Nat):∀x:Int,0≤x->x<256^n->BM (Aj n x)=x:=by
 induction n with
 |zero=>intro x h0 h1;simp[Aj,BM]at*;omega
 |succ n ih=>
  intro x h0 h1;rw[Int.pow_succ]at h1;simp only[Aj,BM];rw[ih (x/256) Om Om];omega
def IV:∀{l:List Int},A7 l->Aj l.length (BM l)=l:=by
 intro l
 induction l with
 |nil=>intro _;rfl
 |cons c l ih=>
  intro h;have hc:=h c (mem_cons_self ..);have:=ih λx hx=>h x (mem_cons_of_mem _ hx)
  simp only[length_cons,Aj,BM];have e1:(c+256*BM l)%256=c:=Om
  have e2:(c+256*BM l)/256=BM l:=Om
  rw[e1,e2,this]
structure WS.fine (s:WS):Prop where
 m0:0≤s.most
 m1:s.most≤140737488355328
 le:s.l.length≤s.most
theorem WS.fine.ok {s:WS} (h:s.fine):s.ok:=⟨h.m0,by have:=h.m1;omega,h.le⟩
theorem WS.fine.new {n:Int} (h:n≤140737488355328):(WS.new n).fine:=⟨by simp[WS.new];omega,by simp[WS.new];omega,by simp[WS.new];omega⟩
theorem WS.fine.put {s:WS} (h:s.fine) (m:List Int):(s.put m).fine:=⟨by rw[S9];exact h.m0,by rw[S9];exact h.m1,(h.ok.put m).2.2⟩
theorem WS.fine.fail {s:WS} (h:s.fine) (c:Int):(s.fail c).fine:=by
 have⟨a,b⟩:=JK s c;exact⟨by rw[a];exact h.m0,by rw[a];exact h.m1,by rw[a,b];exact h.le⟩
theorem WS.fine.puts {s:WS} (h:s.fine) (l:List Int):(s.puts l).fine:=by
 induction l generalizing s with
 |nil=>exact h
 |cons x l ih=>exact ih (s:=s.put (vb x)) (h.put _)
theorem WS.fine.room {s:WS} (h:s.fine) (k:Nat):(s.l.length:Int)+k≤s.most->s.l.length+k≤140737488355328:=λhk=>by have:=h.m1;omega
theorem WS.fine.len {s:WS} (h:s.fine):s.l.length≤140737488355328:=by have:=h.m1;have:=h.le;omega
theorem S8 (s:WS) (l m:List Int):s.puts (l++m)=(s.puts l).puts m:=by simp[WS.puts]
def RS.fixed (s:RS) (n:Int):RS×Int:=((s.take n).1,BM (s.take n).2)
def Gq (c:Nat):Nat:=if c%2=1 then(c/2)^^^2197175160 else c/2
def BE:Nat->Nat->Nat
 |0,c=>c
 |n+1,c=>BE n (Gq c)
def fX (a b:Nat):(a^^^b)%2=(a%2+b%2)%2:=by
 have h:(a^^^b)%2^1=(a%2^1)^^^(b%2^1):=Nat.xor_mod_two_pow;rw[Nat.pow_one]at h;rw[h];rcases Nat.mod_two_eq_zero_or_one a with ha|ha<;>rcases Nat.mod_two_eq_zero_or_one b with hb|hb<;>rw[ha,hb]<;>rfl
theorem nxl (a b c:Nat):a^^^(b^^^c)=b^^^(a^^^c):=by rw[←Nat.xor_assoc,Nat.xor_comm a b,Nat.xor_assoc]
theorem eJ (a b:Nat):Gq (a^^^b)=Gq a^^^Gq b:=by
 have hm:=fX a b;have hd:(a^^^b)/2=a/2^^^b/2:=Nat.xor_div_two;unfold Gq;rw[hd];rcases Nat.mod_two_eq_zero_or_one a with ha|ha<;>rcases Nat.mod_two_eq_zero_or_one b with hb|hb<;>rw[ha,hb]at hm<;>simp only[hm,ha,hb]
 ·simp
 ·simp[Nat.xor_assoc]
 ·simp only[if_pos,Nat.reduceAdd,Nat.reduceMod];simp[Nat.xor_assoc];rw[Nat.xor_comm (b/2)]
 ·simp[Nat.xor_assoc,nxl];rw[Nat.xor_comm (a/2)]
theorem XW (n:Nat):∀a b:Nat,BE n (a^^^b)=BE n a^^^BE n b:=by
 induction n with
 |zero=>intro a b;rfl
 |succ n ih=>intro a b;simp only[BE,eJ,ih]
theorem eK (m:Nat):Gq (2*m)=m:=by
 unfold Gq;rw[if_neg Om];omega
theorem XX (n:Nat):∀m:Nat,BE n (2^n*m)=m:=by
 induction n with
 |zero=>intro m;simp[BE]
 |succ n ih=>
  intro m;rw[BE,Nat.pow_succ,show 2^n*2*m=2*(2^n*m)from by rw[Nat.mul_comm (2^n) 2,Nat.mul_assoc],eK,ih]
def mF {c:Nat} (h:c<4294967296):Gq c<4294967296:=by
 unfold Gq;split
 ·have:c/2^^^2197175160<2^32:=Nat.xor_lt_two_pow Om Om;simpa using this
 ·omega
def I8 (n:Nat):∀{c:Nat},c<4294967296->BE n c<4294967296:=by
 induction n with
 |zero=>intro c h;exact h
 |succ n ih=>intro c h;exact ih (mF h)
def NW (m:Nat):∀(n c:Nat),BE (m+n) c=BE n (BE m c):=by
 induction m with
 |zero=>intro n c;simp[BE]
 |succ m ih=>intro n c;rw[show m+1+n=(m+n)+1 from by omega,BE,ih,BE]
def ZT (n c:Nat):c=(2^n*(c/2^n))^^^(c%2^n):=by
 apply Nat.eq_of_testBit_eq;intro i;rw[Nat.testBit_xor,Nat.testBit_mod_two_pow,Nat.mul_comm,Nat.testBit_mul_two_pow,Nat.testBit_div_two_pow];by_cases h:i<n
 ·simp[h,show¬n≤i by omega]
 ·simp[h,show n≤i by omega,show i-n+n=i by omega]
theorem U0 (c:Nat):BE 4 c=(c/16)^^^BE 4 (c%16):=by
 have h:=ZT 4 c
 conv=>lhs;rw[h]
 rw[XW,XX]
def U4 (c x:Nat):Nat:=BE 8 (c^^^x)
theorem X1 (c x:Nat):U4 c x=BE 4 (BE 4 (c^^^x)):=NW 4 4 _
def Ku (c:Nat) (l:List Nat):Nat:=l.foldl U4 c
theorem eS (c:Nat) (l:List Nat) (x:Nat):Ku c (l++[x])=U4 (Ku c l) x:=by simp[Ku]
def mM {c x:Nat} (h:c<4294967296) (hx:x<256):U4 c x<4294967296:=by
 have:c^^^x<2^32:=Nat.xor_lt_two_pow Om Om;exact I8 8 (by simpa using this)
def Rx {c:Nat} (h:c<4294967296):∀{l:List Nat},(∀x∈l,x<256)->Ku c l<4294967296:=by
 intro l
 induction l generalizing c with
 |nil=>intro _;exact h
 |cons x l ih=>intro hl;exact ih (mM h (hl x (mem_cons_self ..))) λy hy=>hl y (mem_cons_of_mem _ hy)
def GS (l:List Int):List Nat:=l.map Int.toNat
def QR {l:List Int} (h:A7 l):∀x∈GS l,x<256:=by
 intro x hx;simp only[GS,mem_map]at hx;obtain⟨y,hy,rfl⟩:=hx;have:=h y hy;omega
def Bq (l:List Int):Int:=4294967295-(Ku 4294967295 (GS l):Nat)
def Ek {l:List Int} (h:A7 l):0≤Bq l∧Bq l<4294967296:=by
 have:=Rx (c:=4294967295) Om (QR h);unfold Bq;omega
def Ad (p:List Int):List Int:=Dd p++Aj 4 (Bq p)
def CN (m:Int):Int:=min m 2097152
def RS.frame (s:RS) (m:Int):RS×List Int:=
 if((s.blob (CN m)).1.fixed 4).1.code=0 then
  (if((s.blob (CN m)).1.fixed 4).2=Bq (s.blob (CN m)).2 then(((s.blob (CN m)).1.fixed 4).1,(s.blob (CN m)).2)else(((s.blob (CN m)).1.fixed 4).1.fail 6 (s.blob (CN m)).1.at_,[]))
 else(((s.blob (CN m)).1.fixed 4).1,[])
theorem E1 (p:List Int):(Ad p).length=(Dd p).length+4:=by unfold Ad;rw[length_append,Bo]
def Hy {s:RS} (h:An s) (n:Int):An (s.fixed n).1∧(s.fixed n).1.l=s.l:=⟨h.take n,(h.ok.take n).2⟩
def E0 {s:RS} (h:An s) (m:Int):An (s.frame m).1∧(s.frame m).1.l=s.l:=by
 have⟨a,b⟩:=RS.ok.blob h (CN m);have⟨c,d⟩:=Hy a 4;unfold RS.frame
 repeat' split
 ·exact⟨c,d.trans b⟩
 ·exact⟨c.fail _ _,by rw[Bx];exact d.trans b⟩
 ·exact⟨c,d.trans b⟩
def NC {s:RS} {m:Int} (hc:(s.frame m).1.code=0):((s.blob (CN m)).1.fixed 4).1.code=0∧((s.blob (CN m)).1.fixed 4).2=Bq (s.blob (CN m)).2∧s.frame m=(((s.blob (CN m)).1.fixed 4).1,(s.blob (CN m)).2):=by
 unfold RS.frame at hc ⊢;by_cases h1:((s.blob (CN m)).1.fixed 4).1.code=0
 ·rw[if_pos h1]at hc ⊢;by_cases h2:((s.blob (CN m)).1.fixed 4).2=Bq (s.blob (CN m)).2
  ·rw[if_pos h2];exact⟨h1,h2,rfl⟩
  ·rw[if_neg h2]at hc;unfold RS.fail at hc;rw[if_pos h1]at hc;simp[Cd]at hc
 ·rw[if_neg h1]at hc;exact absurd hc h1
def NB {s:RS} (h:An s) {m:Int} (hc:(s.frame m).1.code=0):s.code=0∧((s.frame m).2.length:Int)≤CN m∧A7 (s.frame m).2∧s.at_<(s.frame m).1.at_∧s.l.take (s.frame m).1.at_.toNat=s.l.take s.at_.toNat++Ad (s.frame m).2:=by
 have⟨h1,h2,h3⟩:=NC hc;have⟨a,b⟩:=RS.ok.blob h (CN m);have t:=Bn a (n:=4) h1;have⟨t1,t2,t3,t4,t5⟩:=t;have⟨b1,b2,b3,b4⟩:=tM h t1;have hs:=N4 h (CN m);rw[h3];refine⟨b1,b2,hs.2,?_,?_⟩
 ·show s.at_<((s.blob (CN m)).1.take 4).1.at_;omega
 ·show s.l.take ((s.blob (CN m)).1.take 4).1.at_.toNat=_;rw[b]at t5;rw[t5,b4,append_assoc];unfold Ad;congr 2;have hb:A7 ((s.blob (CN m)).1.take 4).2:=Fe a.bys 4;have hl:=IV hb;have hlen:((s.blob (CN m)).1.take 4).2.length=4:=Om
  rw[hlen]at hl;rw[←h2];exact hl.symm
def PV {s:RS} (h:An s) (hc:s.code=0) {p r:List Int} {m:Int} (hp:A7 p) (hm:(p.length:Int)≤CN m) (hr:s.rest=Ad p++r):s.frame m=(s.adv ((Ad p).length:Int),p):=by
 have hn:p.length<18446744073709551616:=by unfold CN at hm;omega
 unfold Ad at hr;rw[append_assoc]at hr;have hb:=Vc h hc hm hn hr;have hs2:=Bl h hr;have hr2:(s.adv ((Dd p).length:Int)).rest=Aj 4 (Bq p)++r:=by rw[AW h.at0,hr,drop_left]
 have ht:=Da hs2 (show(s.adv ((Dd p).length:Int)).code=0 from hc) hr2;rw[Bo]at ht;have ht':(s.adv ((Dd p).length:Int)).take 4=((s.adv ((Dd p).length:Int)).adv 4,Aj 4 (Bq p)):=ht;have hcr:=Ek hp;have hf:(s.adv ((Dd p).length:Int)).fixed 4=(s.adv ((Ad p).length:Int),Bq p):=by
  unfold RS.fixed;rw[ht',I1 4 _ hcr.1 (by simpa using hcr.2),Bs,E1];congr 2
 unfold RS.frame;rw[hb];simp only;rw[hf];simp only;rw[if_pos (show(s.adv ((Ad p).length:Int)).code=0 from hc),if_pos trivial]
def DD {p:List Int} (hp:A7 p) (h:p.length<18446744073709551616):A7 (Ad p):=by
 intro y hy;rcases mem_append.1 hy with hy|hy
 ·rcases mem_append.1 hy with hy|hy
  ·exact CG Om Om y hy
  ·exact hp y hy
 ·exact DQ 4 _ y hy
def Mj {s:RS} (h:An s) (hc:s.code=0) {x:Int} (x0:0≤x) (x1:x<18446744073709551616) {k:Nat} (hk:k<(vb x).length) (hr:s.rest=(vb x).take k):s.vint=({s with at_:=s.l.length,code:=1,fat:=s.l.length},0):=by
 have key:∀(n k:Nat) (y:Int) (i:Int),0≤y->y<128^(n+1)->0≤i->(i=0∨0<y)->i+n≤9->(i+n=9->y<2*128^n)->k<(Jf n y).length->(Cs i ((Jf n y).take k)).1=1:=by
  intro n
  induction n with
  |zero=>
   intro k y i y0 y1 i0 iy _ _ hk;have hk0:k=0:=by simp only[Jf,length_cons,length_nil]at hk;omega
   subst hk0;simp[Cs]
  |succ n ih=>
   intro k y i y0 y1 i0 iy i9 hy9 hk;simp only[Jf]at hk ⊢;by_cases hlt:y<128
   ·rw[if_pos hlt]at hk ⊢;simp at hk;subst hk;simp[Cs]
   ·rw[if_neg hlt]at hk ⊢;cases k with
    |zero=>simp[Cs]
    |succ k=>
     simp only[take_succ_cons,length_cons,Nat.add_lt_add_iff_right]at hk ⊢;have hp:(0:Int)<128^n:=Int.pow_pos Om;rw[gC,if_neg Om,if_neg Om,if_neg Om];rw[Int.pow_succ]at y1;refine ih k (y/128) (i+1) Om Om Om (.inr Om) Om (λh=>?_) hk;have:=hy9 Om;rw[Int.pow_succ]at this;omega
 have h1:(Cs 0 ((vb x).take k)).1=1:=key 9 k x 0 x0 Om Om (.inl rfl) Om (λ_=>by omega) hk;unfold RS.vint;rw[if_pos hc,hr,h1];rfl
theorem IU (n a:Nat) (h:a<2^n):(BitVec.ofInt n (a:Int)).toNat=a:=by
 rw[BitVec.toNat_ofInt,←Int.natCast_emod,Int.toNat_natCast,Nat.mod_eq_of_lt h]
theorem Yn (a b:Nat) (ha:a<4294967296) (hb:b<4294967296):CJ .xor .u32 a b=((a^^^b:Nat):Int):=by
 show IntKind.u32.wrap ((BitVec.ofInt 32 (a:Int)^^^BitVec.ofInt 32 (b:Int)).toNat:Int)=_;have h:a^^^b<2^32:=Nat.xor_lt_two_pow Om Om;rw[BitVec.toNat_xor,IU 32 a Om,IU 32 b Om,IntWalk.u32_in _ Om]
def vA (a b:Nat) (ha:a<4294967296) (hb:b<4294967296):CJ .and .u32 a b=((a&&&b:Nat):Int):=by
 show IntKind.u32.wrap ((BitVec.ofInt 32 (a:Int)&&&BitVec.ofInt 32 (b:Int)).toNat:Int)=_;have h:a&&&b<2^32:=Nat.and_lt_two_pow a Om;rw[BitVec.toNat_and,IU 32 a Om,IU 32 b Om,IntWalk.u32_in _ Om]
def Aef (a:Nat) (ha:a<4294967296):CJ .and .u32 a 1=((a%2:Nat):Int):=by
 have:=vA a 1 ha Om;rw[Nat.and_one_is_mod]at this;exact this
def vB (a:Nat) (ha:a<4294967296):CJ .and .u32 a 15=((a%16:Nat):Int):=by
 have:=vA a 15 ha Om;rw[show(15:Nat)=2^4-1 from rfl,Nat.and_two_pow_sub_one_eq_mod]at this;exact this
theorem lB (a:Nat) (ha:a<4294967296):4294967295^^^a=4294967295-a:=by
 apply Nat.eq_of_testBit_eq;intro i;rw[Nat.testBit_xor,show(4294967295:Nat)=2^32-1 from rfl,Nat.testBit_two_pow_sub_one,show 2^32-1-a=2^32-(a+1)from by omega,Nat.testBit_two_pow_sub_succ Om];by_cases hi:i<32
 ·simp[hi]
 ·have:a.testBit i=false:=Nat.testBit_lt_two_pow (Nat.lt_of_lt_of_le (show a<2^32 by omega) (Nat.pow_le_pow_right Om Om));simp[hi,this]
def Aa9 (a:Nat) (ha:a<4294967296):CJ .xor .u32 4294967295 a=4294967295-(a:Int):=by
 have h:=Yn 4294967295 a Om ha;rw[lB a ha]at h;refine h.trans ?_;omega
def iI (a k:Nat):(a:Int).fdiv (2^k)=((a/2^k:Nat):Int):=by
 rw[Int.fdiv_eq_ediv_of_nonneg _ (by exact_mod_cast Nat.zero_le _)];simp
theorem Tu (a b:List Int):GS (a++b)=GS a++GS b:=by simp[GS]
def Dy (n:Int):Int:=(vb (max n 0)).length+max n 0+4
theorem H5 {p:List Int}:Dy p.length=(Ad p).length:=by
 rw[E1];unfold Dy Dd;have:max (p.length:Int) 0=p.length:=Om
 rw[this,length_append];omega
def SI (n:Int):5≤Dy n∧Dy n≤max n 0+14:=by
 unfold Dy;have:=A4 (max n 0);omega
def WE (m:Int):CN m≤2097152:=by unfold CN;omega
def BI (b:List Int) (m:Int):List Int×Int×(Int×Int):=if((RS.new b).frame m).1.code=0 then(((RS.new b).frame m).2,((RS.new b).frame m).1.at_,(0,0))else([],0,(((RS.new b).frame m).1.code,((RS.new b).frame m).1.fat))
def Ed (b:List Int) (m:Int):Int:=if((RS.new b).int (CN m)).1.code=0 then Dy ((RS.new b).int (CN m)).2 else 0
def D7 (b:List Int) (m:Int):Bool:=((RS.new b).int (CN m)).1.code==0
def okF (b:List Int) (m:Int):Bool:=((RS.new b).frame m).1.code==0
def cY {s:RS} (h:An s) {m:Int} (hc:(s.frame m).1.code=0):(s.int (CN m)).1.code=0∧(s.frame m).1.at_=(s.int (CN m)).1.at_+(s.int (CN m)).2+4:=by
 have⟨h1,h2,h3⟩:=NC hc;have⟨a,b⟩:=RS.ok.blob h (CN m);have⟨t1,t2,t3,t4,t5⟩:=Bn a (n:=4) h1;have hi:=h.int (CN m);have⟨u1,u2,u3,u4,u5⟩:=Bn hi.1 (n:=(s.int (CN m)).2) t1;refine⟨u1,?_⟩;rw[h3];show((s.blob (CN m)).1.take 4).1.at_=_;rw[t4];show((s.int (CN m)).1.take (s.int (CN m)).2).1.at_+4=_;rw[u4]
def aW {b:List Int} {m:Int} (hb:A7 b) (hn:b.length≤140737488355328) (h:okF b m=true):D7 b m=true∧((RS.new b).frame m).1.at_=Ed b m∧Ed b m≤b.length:=by
 have hok:An (RS.new b):=An.new hb hn;have hc:((RS.new b).frame m).1.code=0:=by simpa[okF]using h
 have⟨h1,h2⟩:=cY hok hc;have⟨i1,i2,i3,i4,i5⟩:=Es hok h1;have hw:Ed b m=Dy ((RS.new b).int (CN m)).2:=by unfold Ed;rw[if_pos h1]
 have⟨k1,k2⟩:=E0 hok m;have hat1:=k1.at1;rw[k2]at hat1;have hl:((RS.new b).int (CN m)).1.at_=(vb ((RS.new b).int (CN m)).2).length:=by
  have e:=congrArg List.length i5;have hi:=(hok.int (CN m)).1.at1;have hi2:=(hok.int (CN m)).2;have hi0:=(hok.int (CN m)).1.at0;rw[hi2]at hi;simp only[length_take,length_append,RS.new]at e hi;simp only[RS.new]at hi0;simp only[RS.new];simp at e;omega
 have hmx:max ((RS.new b).int (CN m)).2 0=((RS.new b).int (CN m)).2:=Om
 refine⟨by unfold D7;rw[h1];rfl,?_,?_⟩
 ·rw[h2,hw,hl];unfold Dy;rw[hmx]
 ·have:((RS.new b).frame m).1.at_=Ed b m:=by rw[h2,hw,hl];unfold Dy;rw[hmx]
  rw[←this];exact hat1
def Cl (s:RS):Prop:=s.code=0->s.fat=0
theorem Cl.new (l:List Int):Cl (RS.new l):=λ_=>rfl
theorem Cl.fail {s:RS} (h:Cl s) (c a:Int):Cl (s.fail c a):=by
 unfold RS.fail;split
 ·intro hc;simp only[Cd]at hc ⊢;by_cases h0:c=0
  ·rw[if_pos h0]
  ·rw[if_neg h0]at hc;exact absurd hc h0
 ·exact h
theorem Cl.adv {s:RS} (h:Cl s) (i:Int):Cl (s.adv i):=h
theorem Cl.skip {s:RS} (h:Cl s) (n:Int):Cl (s.skip n).1:=by
 unfold RS.skip
 repeat' split
 all_goals first|exact h.fail _ _|exact h
theorem Cl.take {s:RS} (h:Cl s) (n:Int):Cl (s.take n).1:=by
 unfold RS.take;split<;>exact h.skip n
theorem Cl.byte {s:RS} (h:Cl s):Cl s.byte.1:=by
 unfold RS.byte;split<;>exact h.skip 1
theorem Cl.vint {s:RS} (h:Cl s):Cl s.vint.1:=by
 unfold RS.vint;split
 ·split
  ·exact h
  ·split
   ·intro hc;simp at hc
   ·rename_i h1 _;intro hc;exact absurd hc h1
 ·exact h
theorem Cl.most {s:RS} (h:Cl s) (m:Int):Cl (s.most m).1:=by
 unfold RS.most;split
 ·exact h.vint.fail _ _
 ·exact h.vint
theorem Cl.int {s:RS} (h:Cl s) (m:Int):Cl (s.int m).1:=by
 unfold RS.int;split
 ·exact h.most m
 ·exact h.vint.fail _ _
theorem Cl.blob {s:RS} (h:Cl s) (m:Int):Cl (s.blob m).1:=(h.int m).take _
theorem Cl.fixed {s:RS} (h:Cl s) (n:Int):Cl (s.fixed n).1:=h.take n
theorem Cl.frame {s:RS} (h:Cl s) (m:Int):Cl (s.frame m).1:=by
 have:=(h.blob (CN m)).fixed 4;unfold RS.frame
 repeat' split
 ·exact this
 ·exact this.fail _ _
 ·exact this
def Ui {p r:List Int} {m:Int} (hp:A7 p) (hr:A7 r) (hn:(Ad p++r).length≤140737488355328) (hm:(p.length:Int)≤CN m):BI (Ad p++r) m=(p,((Ad p).length:Int),(0,0)):=by
 have hpl:p.length<18446744073709551616:=by have:=WE m;omega
 have hb:A7 (Ad p++r):=λx hx=>by rcases mem_append.1 hx with hx|hx;exact DD hp hpl x hx;exact hr x hx
 have h:=PV (An.new hb hn) rfl hp hm (BB _);unfold BI;rw[h,if_pos (show((RS.new (Ad p++r)).adv ((Ad p).length:Int)).code=0 from rfl)];show(p,(0:Int)+((Ad p).length:Int),(0,0))=_;rw[Int.zero_add]
def Fd {s:RS} {n:Int} (hc:s.code=0) (h0:0≤n) (h:s.left<n):s.take n=(s.fail 1 s.l.length,[]):=by
 have hs:s.skip n=(s.fail 1 s.l.length,false):=by
  unfold RS.skip;rw[if_pos hc,if_neg Om,if_pos h]
 unfold RS.take;rw[hs];rfl
def Vb {b x:List Int} {m:Int} {n:Int} {t:RS} (hi:(RS.new b).int (CN m)=(t,n)) (hx:t.take n=(t.fail 1 t.l.length,x)) (hc:t.code=0):BI b m=([],0,(1,(t.l.length:Int))):=by
 have hB:(RS.new b).blob (CN m)=(t.fail 1 t.l.length,x):=by unfold RS.blob;rw[hi];exact hx
 have hf:(t.fail 1 t.l.length)={t with code:=1,fat:=t.l.length}:=by unfold RS.fail;rw[if_pos hc];simp[Cd]
 have hfx:((RS.new b).blob (CN m)).1.fixed 4=(t.fail 1 t.l.length,0):=by
  rw[hB];unfold RS.fixed;rw[KJ (by rw[hf];simp)];rfl
 have hF:(RS.new b).frame m=(t.fail 1 t.l.length,[]):=by
  unfold RS.frame;rw[hfx];simp only;rw[if_neg (by rw[hf];simp)]
 unfold BI;rw[hF];simp only;rw[if_neg (by rw[hf];simp),hf]
def cZ {p:List Int} {m:Int} (hp:A7 p) (hm:(p.length:Int)≤CN m) {k:Nat} (hk:k<(Ad p).length):BI ((Ad p).take k) m=([],0,(1,(k:Int))):=by
 have hml:=WE m;have hv:=A4 (p.length:Int);have h4:=Bo 4 (Bq p);have hfl:(Ad p).length=(vb (p.length:Int)).length+p.length+4:=by rw[E1];unfold Dd;rw[length_append]
 have hB:A7 ((Ad p).take k):=λx hx=>DD hp Om x (mem_of_mem_take hx)
 have hbl:((Ad p).take k).length=k:=by rw[length_take];omega
 have hok:An (RS.new ((Ad p).take k)):=An.new hB Om;have hfe:Ad p=vb (p.length:Int)++(p++Aj 4 (Bq p)):=by unfold Ad Dd;rw[append_assoc]
 by_cases h1:k<(vb (p.length:Int)).length
 ·have e:(Ad p).take k=(vb (p.length:Int)).take k:=by rw[hfe,take_append_of_le_length Om]
  have hc:=Mj hok rfl Om Om h1 ((BB _).trans e);have hi:(RS.new ((Ad p).take k)).int (CN m)=({RS.new ((Ad p).take k)with at_:=((Ad p).take k).length,code:=1,fat:=((Ad p).take k).length},0):=by
   unfold RS.int RS.most;rw[hc,if_pos Om];simp only;rw[if_neg Om];rfl
  have hBl:(RS.new ((Ad p).take k)).blob (CN m)=({RS.new ((Ad p).take k)with at_:=((Ad p).take k).length,code:=1,fat:=((Ad p).take k).length},[]):=by
   unfold RS.blob;rw[hi];exact KJ Si
  have hfx:((RS.new ((Ad p).take k)).blob (CN m)).1.fixed 4=({RS.new ((Ad p).take k)with at_:=((Ad p).take k).length,code:=1,fat:=((Ad p).take k).length},0):=by
   rw[hBl];unfold RS.fixed;rw[KJ Si];rfl
  have hF:(RS.new ((Ad p).take k)).frame m=({RS.new ((Ad p).take k)with at_:=((Ad p).take k).length,code:=1,fat:=((Ad p).take k).length},[]):=by
   unfold RS.frame;rw[hfx];simp only;rw[if_neg Si]
  unfold BI;rw[hF];simp only;rw[if_neg Si,hbl]
 ·have e:(Ad p).take k=vb (p.length:Int)++(p++Aj 4 (Bq p)).take (k-(vb (p.length:Int)).length):=by
   rw[hfe,take_append,take_of_length_le Om]
  have hi:=Ec (s:=RS.new ((Ad p).take k)) (x:=(p.length:Int)) (m:=CN m) rfl Om hm Om ((BB _).trans e);have ht:((RS.new ((Ad p).take k)).adv ((vb (p.length:Int)).length:Int)).left=(k:Int)-(vb (p.length:Int)).length:=by
   show(((Ad p).take k).length:Int)-(0+((vb (p.length:Int)).length:Int))=_;rw[hbl];omega
  by_cases h2:k<(vb (p.length:Int)).length+p.length
  ·have hx:=Fd (s:=(RS.new ((Ad p).take k)).adv ((vb (p.length:Int)).length:Int)) (n:=(p.length:Int)) rfl Om (by rw[ht];omega);have:=Vb hi hx rfl;rw[this];show([],0,(1,((((Ad p).take k).length:Nat):Int)))=_;rw[hbl]
  ·have hok2:=Bl hok ((BB _).trans e);have hr2:((RS.new ((Ad p).take k)).adv ((vb (p.length:Int)).length:Int)).rest=p++(Aj 4 (Bq p)).take (k-(vb (p.length:Int)).length-p.length):=by
    rw[AW hok.at0,BB,e,drop_left,take_append,take_of_length_le Om]
   have hx:=Da hok2 (show((RS.new ((Ad p).take k)).adv ((vb (p.length:Int)).length:Int)).code=0 from rfl) hr2;obtain⟨u,hu⟩:∃u,((RS.new ((Ad p).take k)).adv ((vb (p.length:Int)).length:Int)).adv (p.length:Int)=u:=⟨_,rfl⟩;rw[hu]at hx;have hBl:(RS.new ((Ad p).take k)).blob (CN m)=(u,p):=by unfold RS.blob;rw[hi];exact hx
   have huc:u.code=0:=by rw[←hu];rfl
   have hul:u.l.length=k:=by rw[←hu];exact hbl
   have hua:u.at_=(vb (p.length:Int)).length+p.length:=by rw[←hu];show(0:Int)+_+_=_;omega
   have hf:(u.fail 1 u.l.length)={u with code:=1,fat:=u.l.length}:=by unfold RS.fail;rw[if_pos huc];simp[Cd]
   have hsh:=Fd (s:=u) (n:=4) huc Om (by unfold RS.left;rw[hul,hua];omega);have hfx:((RS.new ((Ad p).take k)).blob (CN m)).1.fixed 4=(u.fail 1 u.l.length,0):=by
    rw[hBl];unfold RS.fixed;rw[hsh];rfl
   have hF:(RS.new ((Ad p).take k)).frame m=(u.fail 1 u.l.length,[]):=by
    unfold RS.frame;rw[hfx];simp only;rw[if_neg (by rw[hf];simp)]
   unfold BI;rw[hF];simp only;rw[if_neg (by rw[hf];simp),hf];simp only;rw[hul]
def Ki {b:List Int} {m:Int} (hb:A7 b) (hn:b.length≤140737488355328) (hc:(BI b m).2.2.1=0):
 (BI b m).2.2=(0,0)∧A7 (BI b m).1∧((BI b m).1.length:Int)≤CN m∧0≤(BI b m).2.1∧(BI b m).2.1≤b.length∧b.take (BI b m).2.1.toNat=Ad (BI b m).1:=by
 have hok:An (RS.new b):=An.new hb hn;by_cases h:((RS.new b).frame m).1.code=0
 ·have e:BI b m=(((RS.new b).frame m).2,((RS.new b).frame m).1.at_,(0,0)):=by unfold BI;rw[if_pos h]
  have⟨i1,i2,i3,i4,i5⟩:=NB hok h;have⟨k1,k2⟩:=E0 hok m;have h5:=k1.at1;have h6:=k1.at0;rw[k2]at h5;rw[e];refine⟨rfl,i3,i2,h6,h5,?_⟩;have:(RS.new b).l.take (RS.new b).at_.toNat=[]:=by simp[RS.new]
  rw[this,nil_append]at i5;exact i5
 ·have e:BI b m=([],0,(((RS.new b).frame m).1.code,((RS.new b).frame m).1.fat)):=by unfold BI;rw[if_neg h]
  rw[e]at hc;exact absurd hc h
def Uj {b:List Int} {m:Int} (hc:¬(BI b m).2.2.1=0):(BI b m).1=[]∧(BI b m).2.1=0:=by
 unfold BI at hc ⊢;split
 ·rename_i h;rw[if_pos h]at hc;exact absurd rfl hc
 ·exact⟨rfl,rfl⟩
def Ae (e:Int):Bool:=decide (1≤e)&&decide (e<4611686018427387904)
def Bh (e:Int):Bool:=decide (e<4611686018427387904)
def RS.epo (s:RS) (ok:Int->Bool):RS×Int:=if s.vint.1.code=0 then(if ok s.vint.2=true then s.vint else(s.vint.1.fail 3 s.at_,0))else(s.vint.1,0)
theorem BS {e:Int}:Ae e=true↔1≤e∧e<4611686018427387904:=by simp[Ae]
theorem Ew {e:Int}:Bh e=true↔e<4611686018427387904:=by simp[Bh]
def Bz {s:RS} (h:An s) (ok:Int->Bool):An (s.epo ok).1∧(s.epo ok).1.l=s.l:=by
 have⟨a,b⟩:=h.vint;unfold RS.epo
 repeat' split
 ·exact⟨a,b⟩
 ·exact⟨a.fail _ _,by rw[Bx];exact b⟩
 ·exact⟨a,b⟩
def dS {s:RS} (a:Int) (h:s.code=0):¬(s.fail 3 a).code=0:=by
 unfold RS.fail;rw[if_pos h];simp[Cd]
def l8 {s:RS} {ok:Int->Bool} (hc:(s.epo ok).1.code=0):s.vint.1.code=0∧ok s.vint.2=true∧s.epo ok=s.vint:=by
 unfold RS.epo at hc ⊢;by_cases h:s.vint.1.code=0
 ·rw[if_pos h]at hc ⊢;by_cases ho:ok s.vint.2=true
  ·rw[if_pos ho];exact⟨h,ho,rfl⟩
  ·rw[if_neg ho]at hc;exact absurd hc (dS _ h)
 ·rw[if_neg h]at hc;exact absurd hc h
def JL {s:RS} (h:An s) {ok:Int->Bool} (hc:(s.epo ok).1.code=0):s.code=0∧0≤(s.epo ok).2∧(s.epo ok).2<18446744073709551616∧ok (s.epo ok).2=true∧s.at_<(s.epo ok).1.at_∧s.l.take (s.epo ok).1.at_.toNat=s.l.take s.at_.toNat++vb (s.epo ok).2:=by
 have⟨h1,h2,h3⟩:=l8 hc;have hv:=Bf (s:=s) h.bys;have⟨v1,v2,v3⟩:=CK h h1;have ha:=EC h h1;rw[h3];exact⟨v3,hv.1,hv.2,h2,Om,v1⟩
def HE {s:RS} {ok:Int->Bool} {x:Int} {r:List Int} (hc:s.code=0) (h0:0≤x) (h1:x<18446744073709551616) (ho:ok x=true) (hr:s.rest=vb x++r):s.epo ok=(s.adv ((vb x).length:Int),x):=by
 have hv:=Du hc h0 h1 hr;unfold RS.epo;rw[hv];simp only;rw[if_pos (show(s.adv ((vb x).length:Int)).code=0 from hc),if_pos ho]
theorem Zb {s:RS} {ok:Int->Bool} (hc:¬(s.epo ok).1.code=0):(s.epo ok).2=0:=by
 unfold RS.epo at hc ⊢;split
 ·rename_i h;rw[if_pos h]at hc;split
  ·rename_i ho;rw[if_pos ho]at hc;exact absurd h hc
  ·rfl
 ·rfl
def HQ (b:Int) (acc:List Int):Int:=acc.getLastD b
theorem U9 (b:Int) (acc:List Int) (x:Int):HQ b (acc++[x])=x:=by simp[HQ]
theorem tL (b:Int) (acc:List Int) (h:0<acc.length):HQ b acc=acc.getD (acc.length-1) 0:=by
 rcases eq_nil_or_concat acc with rfl|⟨l,x,rfl⟩
 ·simp at h
 ·simp[HQ]
theorem N2 (b:Int) (l:List Int) (i:Nat) (h:i≤l.length):HQ b (l.take i)=if i=0 then b else l.getD (i-1) 0:=by
 split
 ·rename_i h0;subst h0;rfl
 ·rw[tL _ _ (by simp;omega)];have:(l.take i).length=i:=by simp;omega
  rw[this];simp[show i-1<i from by omega]
def KY (b:Int) (acc:List Int) (x:Int):Prop:=0≤x∧x<HQ b acc
def Dp (b:Int):EM Int:=
 ⟨λs acc=>if s.vint.1.code=0∧HQ b acc≤s.vint.2 then(s.vint.1.fail 13 s.at_,0)else(s.vint.1,HQ b acc-1-s.vint.2),λacc x=>vb (HQ b acc-1-x),KY b⟩
def Md {b:Int} {acc:List Int} (h:Wf (KY b) [] acc):HQ b acc≤b:=by
 have gen:∀n,∀acc:List Int,acc.length=n->Wf (KY b) [] acc->HQ b acc≤b:=by
  intro n
  induction n with
  |zero=>intro acc h _;rw[eq_nil_of_length_eq_zero h];exact Int.le_refl _
  |succ n ih=>
   intro acc h hw;rcases eq_nil_or_concat acc with rfl|⟨l,x,rfl⟩
   ·simp at h
   ·rw[concat_eq_append]at h hw ⊢;have⟨h1,h2⟩:=D8.1 hw;have:=ih l (by simpa using h) h1;rw[U9];have h3:x<HQ b ([]++l):=h2.2;simp only[nil_append]at h3;omega
 exact gen _ acc rfl h
theorem BR {s:RS} (c a:Int) (h:s.code=0) (hc:c≠0):¬(s.fail c a).code=0:=by
 unfold RS.fail;rw[if_pos h];simp[Cd,hc]
def Ko {b:Int} (hb:b<18446744073709551616):(Dp b).Ok:=by
 refine⟨λs acc h _=>?_,λs acc h hw hc=>?_,λs acc x r h hc hw hx hr=>?_,λacc x hw hx=>?_⟩
 ·have⟨a,c⟩:=h.vint;simp only[Dp];split
  ·exact⟨a.fail _ _,by rw[Bx];exact c⟩
  ·exact⟨a,c⟩
 ·simp only[Dp]at hc ⊢;by_cases hf:s.vint.1.code=0∧HQ b acc≤s.vint.2
  ·rw[if_pos hf]at hc;exact absurd hc (BR _ _ hf.1 De)
  ·rw[if_neg hf]at hc ⊢;have⟨v1,v2,v3⟩:=CK h hc;have ha:=EC h hc;have hv:=Bf (s:=s) h.bys;have hlt:s.vint.2<HQ b acc:=by
    rcases Int.lt_or_le s.vint.2 (HQ b acc)with h1|h1
    ·exact h1
    ·exact absurd ⟨hc,h1⟩ hf
   have e:HQ b acc-1-(HQ b acc-1-s.vint.2)=s.vint.2:=Om
   refine⟨v3,⟨by simp only;omega,by simp only;omega⟩,by simp only;omega,?_⟩;simp only;rw[e];exact v1
 ·have hle:=Md hw;have⟨x0,x1⟩:=hx;simp only[Dp]at hr ⊢;have hv:=Du hc Om Om hr;rw[hv];simp only;rw[if_neg Om];simp only[Prod.mk.injEq,true_and];omega
 ·have hle:=Md hw;have⟨x0,x1⟩:=hx;exact CG Om Om
def CC (b:Int) (l:List Int):Bool:=(List.range l.length).all λi=>decide (l.getD i 0<if i=0 then b else l.getD (i-1) 0)
theorem I2 {b:Int} {l:List Int}:CC b l=true↔∀i,i<l.length->l.getD i 0<if i=0 then b else l.getD (i-1) 0:=by
 unfold CC;simp only[all_eq_true,mem_range,decide_eq_true_eq]
def dN {b:Int} {l:List Int} {i:Nat} (hi:i<l.length) (h:(if i=0 then b else l.getD (i-1) 0)≤l.getD i 0):CC b l=false:=by
 cases hr:CC b l with
 |false=>rfl
 |true=>have:=I2.1 hr i hi;omega
def UE {b:Int} {l:List Int} (hl:F9 l):CC b l=true↔Wf (KY b) [] l:=by
 rw[I2];constructor
 ·intro h;refine uL λk hk=>?_
  have h1:=h k hk;have h2:=hl _ (D5 l k hk);simp only[nil_append];unfold KY;rw[N2 b l k Om];have e:l.getD k 0=l[k]:=by simp[hk]
  rw[e]at h1 h2;exact⟨h2.1,h1⟩
 ·intro h i hi;have:=Fq i hi h;simp only[nil_append]at this;unfold KY at this;rw[N2 b l i Om]at this;have e:l.getD i 0=l[i]:=by simp[hi]
  rw[e];exact this.2
def dst (b:Int) (l:List Int) (i:Nat):Int:=(if i=0 then b else l.getD (i-1) 0)-1-l.getD i 0
def Dq (b:Int) (l:List Int) (k:Nat):List Int:=(List.range k).map (dst b l)
theorem I7 (b:Int) (l:List Int) (k:Nat):Dq b l (k+1)=Dq b l k++[dst b l k]:=by simp[Dq,range_succ]
theorem EK (b:Int) (l:List Int) (k:Nat):(Dq b l k).length=k:=by simp[Dq]
theorem UR (b:Int) (l:List Int) (n k:Nat) (h:k<n):(Dq b l n).getD k 0=dst b l k:=by simp[Dq,h]
def K0 {b:Int} {l:List Int} (hb:b<18446744073709551616) (hl:F9 l) (hf:CC b l=true) {i:Nat} (hi:i<l.length):0≤dst b l i∧dst b l i<18446744073709551616:=by
 have h1:=I2.1 hf i hi;have h2:=hl _ (D5 l i hi);unfold dst;split at h1
 ·rename_i h0;rw[if_pos h0];omega
 ·rename_i h0;rw[if_neg h0];have:=hl _ (D5 l (i-1) Om);omega
def mC {b:Int} {l:List Int} (hb:b<18446744073709551616) (hl:F9 l) (hf:CC b l=true) {k:Nat} (hk:k≤l.length):F9 (Dq b l k):=by
 intro x hx;simp only[Dq,mem_map,mem_range]at hx;obtain⟨i,hi,rfl⟩:=hx;exact K0 hb hl hf Om
def P2 {b:Int} {l:List Int}:BL (Dp b).enc [] l=Jn (Dq b l l.length):=by
 have gen:∀k,k≤l.length->BL (Dp b).enc [] (l.take k)=Jn (Dq b l k):=by
  intro k
  induction k with
  |zero=>intro _;simp[BL,Dq,Jn]
  |succ k ih=>
   intro hk;rw[FL l k Om,G_,ih Om,I7,Sd];congr 1;simp only[Dp,nil_append];rw[N2 b l k Om];rfl
 have:=gen l.length (Nat.le_refl _);rwa[take_length]at this
def DW (b:Int) (l:List Int):List Int:=vb l.length++Jn (Dq b l l.length)
def RS.fall (s:RS) (b m:Int):RS×List Int:=(Dp b).counted m s
def bat (b:Int) (l:List Int) (i:Nat):Int:=if i=0 then b else l.getD (i-1) 0
theorem nA (b:Int) (l:List Int) (i:Nat):bat b l (i+1)=l.getD i 0:=by simp[bat]
theorem s8 (b:Int) (l:List Int) (i:Nat):dst b l i=bat b l i-1-l.getD i 0:=rfl
def dO {b:Int} {l:List Int}:CC b l=true↔∀i,i<l.length->l.getD i 0<bat b l i:=I2
def mov (l:List Int) (d:Int):List Int:=l.map λx=>x+d
theorem Cl.epo {s:RS} (h:Cl s) (ok:Int->Bool):Cl (s.epo ok).1:=by
 unfold RS.epo
 repeat' split
 ·exact h.vint
 ·exact h.vint.fail _ _
 ·exact h.vint
structure Hd where
 ver:Int
 ep:Int
 base:Int
 deriving DecidableEq
def Nz:Hd:=⟨0,0,0⟩
structure Hd.ok (h:Hd):Prop where
 v0: -9223372036854775808≤h.ver
 v1:h.ver<9223372036854775808
 e0:0≤h.ep
 e1:h.ep<18446744073709551616
 b0:0≤h.base
 b1:h.base<18446744073709551616
def Bv (h:Hd):Bool:=decide (1≤h.ver∧h.ver≤3)&&Ae h.ep&&Bh h.base&&(decide (h.ver=1)||decide (h.base=0))
def DA {h:Hd}:Bv h=true↔(1≤h.ver∧h.ver≤3)∧(1≤h.ep∧h.ep<4611686018427387904)∧h.base<4611686018427387904∧(h.ver=1∨h.base=0):=by
 simp[Bv,BS,Ew,and_assoc]
def Br:List Int:=[84,72,79,76]
def AE (h:Hd):List Int:=Br++[h.ver]++vb h.ep++(if h.ver=1 then vb h.base else[])
def Ai (h:Hd):List Int:=AE h++Aj 4 (Bq (AE h))
def RS.lets (s:RS):RS:=if(s.take 4).1.code=0∧(s.take 4).2≠Br then(s.take 4).1.fail 14 s.at_ else(s.take 4).1
def RS.vers (s:RS):RS×Int:=
 if(s.take 1).1.code=0 then(if 1≤(s.take 1).2.getD 0 0∧(s.take 1).2.getD 0 0≤3 then((s.take 1).1,(s.take 1).2.getD 0 0)else((s.take 1).1.fail 8 s.at_,0))else((s.take 1).1,0)
def RS.hbegin (s:RS):RS×Int:=s.lets.vers
def RS.hbase (s:RS) (v:Int):RS×Int:=if v=1 then s.epo Bh else(s,0)
def RS.hplain (s:RS):RS×Hd:=(((s.hbegin.1.epo Ae).1.hbase s.hbegin.2).1,⟨s.hbegin.2,(s.hbegin.1.epo Ae).2,((s.hbegin.1.epo Ae).1.hbase s.hbegin.2).2⟩)
def RS.from (s t:RS):List Int:=(s.l.drop s.at_.toNat).take (t.at_.toNat-s.at_.toNat)
def RS.header (s:RS):RS×Hd:=
 if(s.hplain.1.fixed 4).1.code=0 then(if(s.hplain.1.fixed 4).2=Bq (s.from s.hplain.1)then((s.hplain.1.fixed 4).1,s.hplain.2)else((s.hplain.1.fixed 4).1.fail 6 s.hplain.1.at_,Nz))else((s.hplain.1.fixed 4).1,Nz)
theorem Cl.lets {s:RS} (h:Cl s):Cl s.lets:=by
 unfold RS.lets;split
 ·exact(h.take 4).fail _ _
 ·exact h.take 4
theorem Cl.vers {s:RS} (h:Cl s):Cl s.vers.1:=by
 unfold RS.vers
 repeat' split
 ·exact h.take 1
 ·exact(h.take 1).fail _ _
 ·exact h.take 1
theorem Cl.hbase {s:RS} (h:Cl s) (v:Int):Cl (s.hbase v).1:=by
 unfold RS.hbase;split
 ·exact h.epo _
 ·exact h
theorem Cl.hplain {s:RS} (h:Cl s):Cl s.hplain.1:=((h.lets.vers).epo Ae).hbase _
theorem Cl.header {s:RS} (h:Cl s):Cl s.header.1:=by
 unfold RS.header
 repeat' split
 ·exact h.hplain.fixed 4
 ·exact(h.hplain.fixed 4).fail _ _
 ·exact h.hplain.fixed 4
def IW {s:RS} (h:An s):An s.lets∧s.lets.l=s.l:=by
 have a:=h.take 4;have b:=(h.ok.take 4).2;unfold RS.lets;split
 ·exact⟨a.fail _ _,by rw[Bx];exact b⟩
 ·exact⟨a,b⟩
def KD {s:RS} (h:An s):An s.vers.1∧s.vers.1.l=s.l:=by
 have a:=h.take 1;have b:=(h.ok.take 1).2;unfold RS.vers
 repeat' split
 ·exact⟨a,b⟩
 ·exact⟨a.fail _ _,by rw[Bx];exact b⟩
 ·exact⟨a,b⟩
def Lq {s:RS} (h:An s):An s.hbegin.1∧s.hbegin.1.l=s.l:=by
 have⟨a,b⟩:=IW h;have⟨c,d⟩:=KD a;exact⟨c,d.trans b⟩
def Xs {s:RS} (h:An s) (v:Int):An (s.hbase v).1∧(s.hbase v).1.l=s.l:=by
 unfold RS.hbase;split
 ·exact Bz h _
 ·exact⟨h,rfl⟩
def Gn {s:RS} (h:An s):An s.hplain.1∧s.hplain.1.l=s.l:=by
 have⟨a,b⟩:=Lq h;have⟨c,d⟩:=Bz a Ae;have⟨e,f⟩:=Xs c s.hbegin.2;exact⟨e,f.trans (d.trans b)⟩
theorem Uf {s:RS} (h:An s):An s.header.1∧s.header.1.l=s.l:=by
 have⟨a,b⟩:=Gn h;have⟨c,d⟩:=Hy a 4;unfold RS.header
 repeat' split
 ·exact⟨c,d.trans b⟩
 ·exact⟨c.fail _ _,by rw[Bx];exact d.trans b⟩
 ·exact⟨c,d.trans b⟩
def rM {s:RS} (h:An s) (hc:s.lets.code=0):s.code=0∧s.lets.at_=s.at_+4∧s.l.take s.lets.at_.toNat=s.l.take s.at_.toNat++Br:=by
 unfold RS.lets at hc ⊢;by_cases hx:(s.take 4).1.code=0∧(s.take 4).2≠Br
 ·rw[if_pos hx]at hc;exact absurd hc (BR _ _ hx.1 De)
 ·rw[if_neg hx]at hc ⊢;have⟨t1,t2,t3,t4,t5⟩:=Bn h hc;have e:(s.take 4).2=Br:=by
   by_cases he:(s.take 4).2=Br
   ·exact he
   ·exact absurd ⟨hc,he⟩ hx
  rw[e]at t5;exact⟨t1,t4,t5⟩
def oS {s:RS} (h:An s) (hc:s.vers.1.code=0):s.code=0∧1≤s.vers.2∧s.vers.2≤3∧s.vers.1.at_=s.at_+1∧s.l.take s.vers.1.at_.toNat=s.l.take s.at_.toNat++[s.vers.2]:=by
 unfold RS.vers at hc ⊢;by_cases h1:(s.take 1).1.code=0
 ·rw[if_pos h1]at hc ⊢;by_cases h2:1≤(s.take 1).2.getD 0 0∧(s.take 1).2.getD 0 0≤3
  ·rw[if_pos h2];have⟨t1,t2,t3,t4,t5⟩:=Bn h h1;have e:(s.take 1).2=[(s.take 1).2.getD 0 0]:=by
    match hx:(s.take 1).2,t3 with
    |[x],_=>rfl
    |[],t3=>simp at t3
    |x::y::z,t3=>simp only[length_cons]at t3;omega
   exact⟨t1,h2.1,h2.2,t4,by rw[t5];congr 1⟩
  ·rw[if_neg h2]at hc;exact absurd hc (BR _ _ h1 De)
 ·rw[if_neg h1]at hc;exact absurd hc h1
def kZ {s:RS} (h:An s) {v:Int} (hc:(s.hbase v).1.code=0):s.code=0∧0≤(s.hbase v).2∧(s.hbase v).2<4611686018427387904∧(v=1∨(s.hbase v).2=0)∧s.at_≤(s.hbase v).1.at_∧s.l.take (s.hbase v).1.at_.toNat=s.l.take s.at_.toNat++(if v=1 then vb (s.hbase v).2 else[]):=by
 unfold RS.hbase at hc ⊢;by_cases hv:v=1
 ·rw[if_pos hv]at hc ⊢;have⟨e1,e2,e3,e4,e5,e6⟩:=JL h hc;rw[if_pos hv];exact⟨e1,e2,Ew.1 e4,.inl hv,Om,e6⟩
 ·rw[if_neg hv]at hc ⊢;rw[if_neg hv];exact⟨hc,Int.le_refl _,by show(0:Int)<4611686018427387904;decide,.inr rfl,Int.le_refl _,Si⟩
def PQ {s:RS} (h:An s) (hc:s.hplain.1.code=0):s.code=0∧Bv s.hplain.2=true∧0≤s.hplain.2.base∧s.at_+6≤s.hplain.1.at_∧s.l.take s.hplain.1.at_.toNat=s.l.take s.at_.toNat++AE s.hplain.2:=by
 have⟨a1,a2⟩:=IW h;have⟨b1,b2⟩:=KD a1;have⟨c1,c2⟩:=Bz b1 Ae;have⟨d1,d2,d3,d4,d5,d6⟩:=kZ c1 hc;have⟨e1,e2,e3,e4,e5,e6⟩:=JL b1 d1;have⟨f1,f2,f3,f4,f5⟩:=oS a1 e1;have⟨g1,g2,g3⟩:=rM h f1;have er:=BS.1 e4;refine⟨g1,DA.2 ⟨⟨f2,f3⟩,er,d3,d4⟩,d2,?_,?_⟩
 ·have x1:s.hplain.1.at_=((s.hbegin.1.epo Ae).1.hbase s.hbegin.2).1.at_:=rfl;rw[x1];have x2:s.hbegin.1.at_=s.lets.at_+1:=f4;have x3:s.hbegin.1.at_<(s.hbegin.1.epo Ae).1.at_:=e5;have x4:(s.hbegin.1.epo Ae).1.at_≤((s.hbegin.1.epo Ae).1.hbase s.hbegin.2).1.at_:=d5;omega
 ·rw[c2,b2,a2]at d6;rw[b2,a2]at e6;rw[a2]at f5;have y1:s.l.take s.hplain.1.at_.toNat=s.l.take (s.lets.vers.1.epo Ae).1.at_.toNat++(if s.hbegin.2=1 then vb s.hplain.2.base else[]):=d6;rw[y1,e6,f5,g3];simp only[append_assoc];rfl
def PU {s t:RS} (h0:0≤s.at_) (h1:s.at_≤t.at_) {x:List Int} (hx:s.l.take t.at_.toNat=s.l.take s.at_.toNat++x) (hl:s.at_≤s.l.length):s.from t=x:=by
 unfold RS.from;have hA:(s.l.take s.at_.toNat).length=s.at_.toNat:=by rw[length_take];omega
 have e:=congrArg (List.drop s.at_.toNat) hx;rw[drop_take]at e;exact e.trans (drop_left' hA)
def FX {h:Hd} (hr:Bv h=true) (hb:0≤h.base):A7 (AE h):=by
 have⟨h1,h2,h3,h4⟩:=DA.1 hr;intro y hy;unfold AE at hy;rcases mem_append.1 hy with hy|hy
 ·rcases mem_append.1 hy with hy|hy
  ·simp only[Br,cons_append,nil_append,mem_cons,not_mem_nil,or_false]at hy;omega
  ·exact CG Om Om y hy
 ·split at hy
  ·exact CG hb Om y hy
  ·simp at hy
def Wo (h:Hd):6≤(AE h).length∧(AE h).length≤25:=by
 unfold AE;have h1:=A4 h.ep;have h2:=A4 h.base;simp only[length_append,Br,length_cons,length_nil];split
 ·omega
 ·simp only[length_nil];omega
theorem Et (h:Hd):(Ai h).length=(AE h).length+4:=by unfold Ai;rw[length_append,Bo]
def Ip {h:Hd} (hr:Bv h=true) (hb:0≤h.base):A7 (Ai h):=by
 intro y hy;rcases mem_append.1 hy with hy|hy
 ·exact FX hr hb y hy
 ·exact DQ 4 _ y hy
def cS {s:RS} (h:An s) (hc:s.header.1.code=0):s.code=0∧Bv s.header.2=true∧0≤s.header.2.base∧s.at_+10≤s.header.1.at_∧s.l.take s.header.1.at_.toNat=s.l.take s.at_.toNat++Ai s.header.2:=by
 unfold RS.header at hc ⊢;by_cases h1:(s.hplain.1.fixed 4).1.code=0
 ·rw[if_pos h1]at hc ⊢;by_cases h2:(s.hplain.1.fixed 4).2=Bq (s.from s.hplain.1)
  ·rw[if_pos h2];have⟨a,b⟩:=Gn h;have⟨t1,t2,t3,t4,t5⟩:=Bn a (n:=4) h1;have⟨p1,p2,p3,p4,p5⟩:=PQ h t1;have hfr:=PU h.at0 Om p5 h.at1;have hfix:(s.hplain.1.fixed 4).1.at_=s.hplain.1.at_+4:=t4;refine⟨p1,p2,p3,by simp only;omega,?_⟩;rw[b]at t5;show s.l.take (s.hplain.1.take 4).1.at_.toNat=_;rw[t5,p5,append_assoc];unfold Ai;congr 2;have hb:A7 (s.hplain.1.take 4).2:=Fe a.bys 4;have hl:=IV hb;have hlen:(s.hplain.1.take 4).2.length=4:=Om
   rw[hlen]at hl;have h2':BM (s.hplain.1.take 4).2=Bq (AE s.hplain.2):=by rw[←hfr];exact h2
   rw[←h2'];exact hl.symm
  ·rw[if_neg h2]at hc;exact absurd hc (BR _ _ h1 De)
 ·rw[if_neg h1]at hc;exact absurd hc h1
def Xn {s:RS} (hc:¬s.header.1.code=0):s.header.2=Nz:=by
 unfold RS.header at hc ⊢
 repeat' split
 ·rename_i h1 h2;rw[if_pos h1,if_pos h2]at hc;exact absurd h1 hc
 ·rfl
 ·rfl
def Xj {s:RS} {h:Hd} {r:List Int} (hs:An s) (hc:s.code=0) (hr:Bv h=true) (hb:0≤h.base) (hrest:s.rest=AE h++r):s.hplain=(s.adv ((AE h).length:Int),h):=by
 have⟨h1,h2,h3,h4⟩:=DA.1 hr;have e1:s.rest=Br++([h.ver]++(vb h.ep++((if h.ver=1 then vb h.base else[])++r))):=by rw[hrest];unfold AE;simp only[append_assoc]
 have t1:=Da hs hc e1;have t1':s.take 4=(s.adv 4,Br):=t1;have hl:s.lets=s.adv 4:=by unfold RS.lets;rw[t1'];simp
 have hs1:An (s.adv 4):=Bl hs e1;have e2:(s.adv 4).rest=[h.ver]++(vb h.ep++((if h.ver=1 then vb h.base else[])++r)):=by
  have:=AW (s:=s) hs.at0 4;have e:s.adv ((4:Nat):Int)=s.adv 4:=rfl;rw[e,e1]at this;exact this
 have t2:=Da hs1 (show(s.adv 4).code=0 from hc) e2;have t2':(s.adv 4).take 1=((s.adv 4).adv 1,[h.ver]):=t2;have hv:s.hbegin=(s.adv 5,h.ver):=by
  unfold RS.hbegin RS.vers;rw[hl,t2'];simp only[getD_cons_zero];rw[if_pos (show((s.adv 4).adv 1).code=0 from hc),if_pos h1,Bs];rfl
 have hs2:An (s.adv 5):=by have:=Bl hs1 e2;rw[Bs]at this;exact this
 have e3:(s.adv 5).rest=vb h.ep++((if h.ver=1 then vb h.base else[])++r):=by
  have:=AW (s:=s.adv 4) hs1.at0 1;have e:(s.adv 4).adv ((1:Nat):Int)=s.adv 5:=by rw[Bs];rfl
  rw[e,e2]at this;exact this
 have hep:=HE (ok:=Ae) (show(s.adv 5).code=0 from hc) Om Om (BS.2 h2) e3;have hs3:=Bl hs2 e3;have e4:((s.adv 5).adv ((vb h.ep).length:Int)).rest=(if h.ver=1 then vb h.base else[])++r:=by rw[AW hs2.at0,e3,drop_left]
 have hlen:((AE h).length:Int)=5+(vb h.ep).length+(if h.ver=1 then vb h.base else[]).length:=by
  unfold AE;simp only[length_append,Br,length_cons,length_nil];omega
 have hba:((s.adv 5).adv ((vb h.ep).length:Int)).hbase h.ver=(s.adv ((AE h).length:Int),h.base):=by
  unfold RS.hbase;by_cases hv1:h.ver=1
  ·rw[if_pos hv1];rw[if_pos hv1]at e4 hlen;have:=HE (ok:=Bh) (show((s.adv 5).adv ((vb h.ep).length:Int)).code=0 from hc) hb Om (Ew.2 h3) e4;rw[this,Bs,Bs,hlen,Int.add_assoc]
  ·rw[if_neg hv1];rw[if_neg hv1]at hlen;have hb0:h.base=0:=Om
   rw[Bs,hlen,hb0];simp
 unfold RS.hplain;rw[hv];simp only;rw[hep];simp only;rw[hba]
def Xk {s:RS} {h:Hd} {r:List Int} (hs:An s) (hc:s.code=0) (hr:Bv h=true) (hb:0≤h.base) (hrest:s.rest=Ai h++r):s.header=(s.adv ((Ai h).length:Int),h):=by
 have e1:s.rest=AE h++(Aj 4 (Bq (AE h))++r):=by rw[hrest];unfold Ai;rw[append_assoc]
 have hp:=Xj hs hc hr hb e1;have hs1:=Bl hs e1;have e2:(s.adv ((AE h).length:Int)).rest=Aj 4 (Bq (AE h))++r:=by rw[AW hs.at0,e1,drop_left]
 have ht:=Da hs1 (show(s.adv ((AE h).length:Int)).code=0 from hc) e2;rw[Bo]at ht;have hcr:=Ek (FX hr hb);have hf:(s.adv ((AE h).length:Int)).fixed 4=(s.adv ((Ai h).length:Int),Bq (AE h)):=by
  unfold RS.fixed;have ht':(s.adv ((AE h).length:Int)).take 4=((s.adv ((AE h).length:Int)).adv 4,Aj 4 (Bq (AE h))):=ht;rw[ht',I1 4 _ hcr.1 (by simpa using hcr.2),Bs,Et];rfl
 have hfr:s.from (s.adv ((AE h).length:Int))=AE h:=by
  unfold RS.from;have h0:=hs.at0;have e3:(s.adv ((AE h).length:Int)).at_.toNat-s.at_.toNat=(AE h).length:=by
   show(s.at_+((AE h).length:Int)).toNat-s.at_.toNat=_;omega
  rw[e3];show s.rest.take _=_;rw[e1,take_left]
 unfold RS.header;rw[hp];simp only;rw[hf];simp only;rw[if_pos (show(s.adv ((Ai h).length:Int)).code=0 from hc),hfr,if_pos rfl]
structure Lk where
 st:Int
 bk:List Int
 deriving DecidableEq
def B_:Lk:=⟨0,[]⟩
structure Lk.ok (x:Lk):Prop where
 s0:0≤x.st
 s1:x.st<18446744073709551616
 b:F9 x.bk
def Oe (l:List Lk):Prop:=∀x∈l,x.ok
def HV (acc:List Lk):Int:=(acc.getLastD ⟨-1,[]⟩).st
theorem rG:HV []= -1:=rfl
theorem kG (acc:List Lk) (x:Lk):HV (acc++[x])=x.st:=by simp[HV]
theorem YR (l:List Lk) (h:0<l.length):HV l=(l.getD (l.length-1) B_).st:=by
 rcases eq_nil_or_concat l with rfl|⟨l,x,rfl⟩
 ·simp at h
 ·simp[HV]
theorem Kb (l:List Lk) (i:Nat) (h:i≤l.length):HV (l.take i)=if i=0 then-1 else(l.getD (i-1) B_).st:=by
 split
 ·rename_i h0;subst h0;rfl
 ·rw[YR _ (by simp;omega)];have:(l.take i).length=i:=by simp;omega
  rw[this];simp[show i-1<i by omega]
def Nh (pos:Int) (acc:List Lk) (x:Lk):Prop:=HV acc<x.st∧x.st<18446744073709551616∧F9 x.bk∧CC pos x.bk=true∧x.bk.length≤4
def RS.lkHead (s:RS) (acc:List Lk):RS:=if s.vint.1.code=0∧18446744073709551616≤HV acc+1+s.vint.2 then s.vint.1.fail 13 s.at_ else s.vint.1
def CR (pos:Int):EM Lk:=
 ⟨λs acc=>(((s.lkHead acc).fall pos 4).1,⟨HV acc+1+s.vint.2,((s.lkHead acc).fall pos 4).2⟩),λacc x=>vb (x.st-HV acc-1)++DW pos x.bk,Nh pos⟩
def KP {pos:Int} {acc:List Lk} (h:Wf (Nh pos) [] acc): -1≤HV acc∧HV acc<18446744073709551616:=by
 have gen:∀n,∀acc:List Lk,acc.length=n->Wf (Nh pos) [] acc-> -1≤HV acc∧HV acc<18446744073709551616:=by
  intro n
  induction n with
  |zero=>intro acc h _;rw[eq_nil_of_length_eq_zero h];exact⟨Int.le_refl _,De⟩
  |succ n ih=>
   intro acc h hw;rcases eq_nil_or_concat acc with rfl|⟨l,x,rfl⟩
   ·simp at h
   ·rw[concat_eq_append]at h hw ⊢;have⟨h1,h2⟩:=D8.1 hw;have:=ih l (by simpa using h) h1;rw[kG];have h3:HV ([]++l)<x.st:=h2.1;simp only[nil_append]at h3;exact⟨Om,h2.2.1⟩
 exact gen _ acc rfl h
def P1 {s:RS} {b:Int} (h:An s) (hb:b<18446744073709551616) (m:Int):An (s.fall b m).1∧(s.fall b m).1.l=s.l:=EL (Ko hb) h m
def dR {b:Int} {l:List Int} (hb:b<18446744073709551616) (hl:F9 l) (hf:CC b l=true) (hn:l.length<18446744073709551616):A7 (DW b l):=by
 unfold DW;intro y hy;rcases mem_append.1 hy with hy|hy
 ·exact CG Om Om y hy
 ·exact oT (mC hb hl hf (Nat.le_refl _)) y hy
def Rn {s:RS} {b m:Int} (h:An s) (b0:0≤b) (hb:b<18446744073709551616) (hc:(s.fall b m).1.code=0):s.code=0∧F9 (s.fall b m).2∧CC b (s.fall b m).2=true∧((s.fall b m).2.length:Int)≤m∧s.at_<(s.fall b m).1.at_∧s.l.take (s.fall b m).1.at_.toNat=s.l.take s.at_.toNat++DW b (s.fall b m).2:=by
 have⟨c1,c2,c3,c4,c5⟩:=JN (Ko hb) h hc;have hu:F9 (s.fall b m).2:=by
  intro x hx;obtain⟨i,hi,rfl⟩:=getElem_of_mem hx;have hn:=Fq i hi c1;have hw:=IM i c1;have hl:=Md hw;simp only[nil_append]at hn;have hn1:0≤(s.fall b m).2[i]∧(s.fall b m).2[i]<HQ b ((s.fall b m).2.take i):=hn;exact⟨hn1.1,by have:HQ b ((s.fall b m).2.take i)≤b:=hl;omega⟩
 refine⟨c3,hu,(UE hu).2 c1,c2,c5,?_⟩;have e:BL (Dp b).enc [] ((Dp b).counted m s).2=Jn (Dq b ((Dp b).counted m s).2 ((Dp b).counted m s).2.length):=P2;rw[e,append_assoc]at c4;exact c4
def lP {s:RS} {b m:Int} {l r:List Int} (h:An s) (hc:s.code=0) (hb:b<18446744073709551616) (hl:F9 l) (hf:CC b l=true) (hm:(l.length:Int)≤m) (hn:l.length<18446744073709551616) (hr:s.rest=DW b l++r):s.fall b m=(s.adv ((DW b l).length:Int),l):=by
 have hw:=(UE hl).1 hf;unfold DW at hr ⊢;rw[append_assoc]at hr;have e:BL (Dp b).enc [] l=Jn (Dq b l l.length):=P2;have:=IC (Ko hb) h hc hm hw hn (r:=r) (by rw[e];exact hr);unfold RS.fall;rw[this,e,length_append];rfl
def Io {pos:Int} (p0:0≤pos) (p1:pos<18446744073709551616):(CR pos).Ok:=by
 refine⟨λs acc h _=>?_,λs acc h hw hc=>?_,λs acc x r h hc hw hx hr=>?_,λacc x hw hx=>?_⟩
 ·have⟨a,c⟩:=h.vint;have hk:An (s.lkHead acc)∧(s.lkHead acc).l=s.l:=by
   unfold RS.lkHead;split
   ·exact⟨a.fail _ _,by rw[Bx];exact c⟩
   ·exact⟨a,c⟩
  have hf:=P1 hk.1 p1 4;exact⟨hf.1,hf.2.trans hk.2⟩
 ·have hg:=KP hw;have hv:=Bf (s:=s) h.bys;have⟨a,c⟩:=h.vint;have hkh:(s.lkHead acc).code=0∧An (s.lkHead acc):=by
   have hk:An (s.lkHead acc):=by
    unfold RS.lkHead;split
    ·exact a.fail _ _
    ·exact a
   exact⟨(Rn hk p0 p1 hc).1,hk⟩
  have hno:¬(s.vint.1.code=0∧18446744073709551616≤HV acc+1+s.vint.2):=by
   intro hx;have:=hkh.1;unfold RS.lkHead at this;rw[if_pos hx]at this;exact absurd this (BR _ _ hx.1 De)
  have hke:s.lkHead acc=s.vint.1:=by unfold RS.lkHead;rw[if_neg hno]
  have hc':((s.lkHead acc).fall pos 4).1.code=0:=hc;rw[hke]at hkh hc';have⟨f1,f2,f3,f4,f5,f6⟩:=Rn hkh.2 p0 p1 hc';have⟨v1,v2,v3⟩:=CK h hkh.1;have ha:=EC h hkh.1;have hlt:HV acc+1+s.vint.2<18446744073709551616:=by
   rcases Int.lt_or_le (HV acc+1+s.vint.2) 18446744073709551616 with h1|h1
   ·exact h1
   ·exact absurd ⟨hkh.1,h1⟩ hno
  simp only[CR];rw[hke];refine⟨v3,⟨by simp only;omega,hlt,f2,f3,by simp only;omega⟩,Om,?_⟩;rw[c]at f6;rw[f6,v1,append_assoc];have e:HV acc+1+s.vint.2-HV acc-1=s.vint.2:=Om
  rw[e]
 ·have hg:=KP hw;have⟨x1,x2,x3,x4,x5⟩:=hx;simp only[CR]at hr ⊢;rw[append_assoc]at hr;have hv:=Du hc Om Om hr;have hok:=Bl h hr;have hke:s.lkHead acc=s.adv ((vb (x.st-HV acc-1)).length:Int):=by
   unfold RS.lkHead;rw[hv];simp only;rw[if_neg Om]
  have hr2:(s.adv ((vb (x.st-HV acc-1)).length:Int)).rest=DW pos x.bk++r:=by rw[AW h.at0,hr,drop_left]
  have hfo:=lP (m:=4) hok (show(s.adv ((vb (x.st-HV acc-1)).length:Int)).code=0 from hc) p1 x3 x4 Om Om hr2;rw[hke,hfo,hv,Bs];simp only[Prod.mk.injEq];refine⟨by rw[length_append];rfl,?_⟩;cases x;simp only[Lk.mk.injEq,and_true];simp only at x1;omega
 ·have hg:=KP hw;have⟨x1,x2,x3,x4,x5⟩:=hx;intro y hy;rcases mem_append.1 hy with hy|hy
  ·exact CG Om Om y hy
  ·exact dR p1 x3 x4 Om y hy
def EH (l:List Lk):Bool:=(List.range l.length).all λi=>decide (i=0∨(l.getD (i-1) B_).st<(l.getD i B_).st)
def Fsq {l:List Lk}:EH l=true↔∀i,i<l.length->0<i->(l.getD (i-1) B_).st<(l.getD i B_).st:=by
 unfold EH;rw[all_eq_true];constructor
 ·intro h i hi h0;have:=h i (mem_range.2 hi);simp only[decide_eq_true_eq]at this;omega
 ·intro h i hi;simp only[decide_eq_true_eq];rcases Nat.eq_zero_or_pos i with h0|h0
  ·exact .inl h0
  ·exact .inr (h i (mem_range.1 hi) h0)
def GX (pos:Int) (x:Lk):Bool:=decide (x.bk.length≤4)&&CC pos x.bk
theorem GW {pos:Int} {x:Lk}:GX pos x=true↔x.bk.length≤4∧CC pos x.bk=true:=by simp[GX]
def BH (pos:Int) (l:List Lk):Bool:=decide (l.length≤16)&&EH l&&l.all (GX pos)
theorem Dz {pos:Int} {l:List Lk}:BH pos l=true↔l.length≤16∧EH l=true∧∀x∈l,GX pos x=true:=by
 simp[BH,and_assoc]
theorem DC (l:List Lk) (k:Nat) (h:k<l.length):l.getD k B_∈l:=by simp[h]
def GN {pos:Int} {l:List Lk} (hl:Oe l):BH pos l=true↔l.length≤16∧Wf (Nh pos) [] l:=by
 rw[Dz];constructor
 ·rintro⟨h1,h2,h3⟩;refine⟨h1,uL λk hk=>?_⟩;have e:l[k]=l.getD k B_:=by simp[hk]
  have hm:=DC l k hk;rw[e,nil_append];have⟨g1,g2⟩:=GW.1 (h3 _ hm);have ho:=hl _ hm;refine⟨?_,ho.s1,ho.b,g2,g1⟩;rw[Kb l k Om];split
  ·have:=ho.s0;omega
  ·exact Fsq.1 h2 k hk Om
 ·rintro⟨h1,h2⟩;have key:∀k,k<l.length->Nh pos (l.take k) (l.getD k B_):=λk hk=>by
   have:=Fq k hk h2;have e:l[k]=l.getD k B_:=by simp[hk]
   rw[e,nil_append]at this;exact this
  refine⟨h1,Fsq.2 λi hi h0=>?_,λx hx=>?_⟩
  ·have:=(key i hi).1;rw[Kb l i Om,if_neg Om]at this;exact this
  ·obtain⟨i,hi,rfl⟩:=getElem_of_mem hx;have e:l[i]=l.getD i B_:=by simp[hi]
   rw[e];have⟨_,_,_,k4,k5⟩:=key i hi;exact GW.2 ⟨k5,k4⟩
def Cn (pos:Int) (l:List Lk):List Int:=vb l.length++BL (CR pos).enc [] l
def RS.links (s:RS) (pos:Int):RS×List Lk:=(CR pos).counted 16 s
def EY {s:RS} {pos:Int} (h:An s) (p0:0≤pos) (p1:pos<18446744073709551616):An (s.links pos).1∧(s.links pos).1.l=s.l:=EL (Io p0 p1) h 16
def kM {s:RS} {pos:Int} (h:An s) (p0:0≤pos) (p1:pos<18446744073709551616) (hc:(s.links pos).1.code=0):s.code=0∧Oe (s.links pos).2∧BH pos (s.links pos).2=true∧s.at_<(s.links pos).1.at_∧s.l.take (s.links pos).1.at_.toNat=s.l.take s.at_.toNat++Cn pos (s.links pos).2:=by
 have⟨c1,c2,c3,c4,c5⟩:=JN (Io p0 p1) h hc;have hks:Oe (s.links pos).2:=by
  intro x hx;obtain⟨i,hi,rfl⟩:=getElem_of_mem hx;have hn:=Fq i hi c1;have hg:=KP (IM i c1);rw[nil_append]at hn;have⟨n1,n2,n3,n4,n5⟩:=hn;exact⟨by have: -1≤HV ((s.links pos).2.take i):=hg.1;have n1':HV ((s.links pos).2.take i)<((s.links pos).2[i]).st:=n1;omega,n2,n3⟩
 refine⟨c3,hks,(GN hks).2 ⟨by have:((s.links pos).2.length:Int)≤16:=c2;omega,c1⟩,c5,?_⟩;rw[append_assoc]at c4;exact c4
def bU {s:RS} {pos:Int} {l:List Lk} {r:List Int} (h:An s) (hc:s.code=0) (p0:0≤pos) (p1:pos<18446744073709551616) (hl:Oe l) (hr:BH pos l=true) (hrest:s.rest=Cn pos l++r):s.links pos=(s.adv ((Cn pos l).length:Int),l):=by
 have⟨h1,h2⟩:=(GN hl).1 hr;unfold Cn at hrest ⊢;rw[append_assoc]at hrest;have:=IC (Io p0 p1) h hc (m:=16) Om h2 Om hrest;unfold RS.links;rw[this,length_append];rfl
def Nb {pos:Int} {l:List Lk} (p0:0≤pos) (p1:pos<18446744073709551616) (hl:Oe l) (hr:BH pos l=true):A7 (Cn pos l):=by
 have⟨h1,h2⟩:=(GN hl).1 hr;intro y hy;rcases mem_append.1 hy with hy|hy
 ·exact CG Om Om y hy
 ·exact UQ (acc:=[]) (Io p0 p1) trivial h2 y hy
structure En where
 lk:List Lk
 data:List Int
def B3:En:=⟨[],[]⟩
structure En.ok (e:En):Prop where
 lk:Oe e.lk
 data:A7 e.data
def oD (l:List En):Prop:=∀e∈l,e.ok
def Cw (pos:Int) (e:En):Bool:=BH pos e.lk&&decide (e.data.length≤1048576)
theorem DB {pos:Int} {e:En}:Cw pos e=true↔BH pos e.lk=true∧e.data.length≤1048576:=by simp[Cw]
def Fj (pos:Int) (e:En):List Int:=Cn pos e.lk++vb e.data.length
def RS.ehead (s:RS) (pos m:Int):RS×(List Lk×Int):=if((s.links pos).1.int m).1.code=0 then(((s.links pos).1.int m).1,((s.links pos).2,((s.links pos).1.int m).2))else(((s.links pos).1.int m).1,([],0))
def NT {s:RS} {pos:Int} (h:An s) (p0:0≤pos) (p1:pos<18446744073709551616) (m:Int):An (s.ehead pos m).1∧(s.ehead pos m).1.l=s.l:=by
 have⟨a,b⟩:=EY h p0 p1;have⟨c,d⟩:=a.int m;unfold RS.ehead;split<;>exact⟨c,d.trans b⟩
theorem Cl.many {β:Type} {F:EM β} (hF:∀s acc,Cl s->Cl (F.f s acc).1):∀(n:Nat) (s:RS) (acc:List β),Cl s->Cl (F.many n s acc).1:=by
 intro n
 induction n with
 |zero=>intro s acc h;exact h
 |succ n ih=>
  intro s acc h;unfold EM.many;split
  ·exact ih _ _ (hF s acc h)
  ·exact hF s acc h
theorem Cl.counted {β:Type} {F:EM β} (hF:∀s acc,Cl s->Cl (F.f s acc).1) {s:RS} (h:Cl s) (m:Int):Cl (F.counted m s).1:=Cl.many hF _ _ _ (h.int m)
theorem Cl.fall {s:RS} (h:Cl s) (b m:Int):Cl (s.fall b m).1:=by
 refine Cl.counted (F:=Dp b) (λs acc h=>?_) h m;simp only[Dp];split
 ·exact h.vint.fail _ _
 ·exact h.vint
theorem Cl.links {s:RS} (h:Cl s) (pos:Int):Cl (s.links pos).1:=by
 refine Cl.counted (F:=CR pos) (λs acc h=>?_) h 16;simp only[CR];refine Cl.fall ?_ _ _;unfold RS.lkHead;split
 ·exact h.vint.fail _ _
 ·exact h.vint
theorem Cl.ehead {s:RS} (h:Cl s) (pos m:Int):Cl (s.ehead pos m).1:=by
 unfold RS.ehead;split<;>exact(h.links pos).int m
def eA {s:RS} {pos m:Int} {e:En} {r:List Int} (h:An s) (hc:s.code=0) (p0:0≤pos) (p1:pos<18446744073709551616) (he:e.ok) (hr:BH pos e.lk=true) (hm:(e.data.length:Int)≤m) (hn:e.data.length<18446744073709551616) (hrest:s.rest=Fj pos e++r):
 s.ehead pos m=(s.adv ((Fj pos e).length:Int),(e.lk,(e.data.length:Int))):=by
 unfold Fj at hrest ⊢;rw[append_assoc]at hrest;have hl:=bU h hc p0 p1 he.lk hr hrest;have h2:=Bl h hrest;have e2:(s.adv ((Cn pos e.lk).length:Int)).rest=vb (e.data.length:Int)++r:=by rw[AW h.at0,hrest,drop_left]
 have hi:=Ec (m:=m) (show(s.adv ((Cn pos e.lk).length:Int)).code=0 from hc) Om hm Om e2;unfold RS.ehead;rw[hl];simp only;rw[hi];simp only;rw[if_pos (show((s.adv ((Cn pos e.lk).length:Int)).adv ((vb (e.data.length:Int)).length:Int)).code=0 from hc),Bs,length_append];rfl
def Ak (l:List En):List Int:=l.flatMap (·.data)
theorem Np (l:List En) (e:En):Ak (l++[e])=Ak l++e.data:=by simp[Ak]
def DY:List En->List Int->List Int->List En->List En×Bool
 |e::hs,n::ns,d,acc=>if n<0∨(d.length:Int)<n then([],false)else DY hs ns (d.drop n.toNat) (acc++[⟨e.lk,d.take n.toNat⟩])
 |_,_,d,acc=>if d.length=0 then(acc,true)else([],false)
def Fm (hs:List En) (ns:List Int) (d:List Int):List En×Bool:=if hs.length=ns.length then DY hs ns d []else([],false)
theorem eI:∀(l acc:List En),DY l (l.map λe=>(e.data.length:Int)) (Ak l) acc=(acc++l,true):=by
 intro l
 induction l with
 |nil=>intro acc;simp[DY,Ak]
 |cons e l ih=>
  intro acc;have ej:Ak (e::l)=e.data++Ak l:=by simp[Ak]
  simp only[map_cons,DY];rw[ej,if_neg (by rw[length_append];omega),Int.toNat_natCast,drop_left,take_left,ih];simp
section
variable {pre:List Int}
end
structure Ft where
 ep:Int
 bat:Int
 ent:Int
 fst:Int
 fin:Int
 at_:Int
 size:Int
 deriving DecidableEq
def JG:Ft:=⟨0,0,0,0,0,0,0⟩
structure Ft.ok (f:Ft):Prop where
 ep:0≤f.ep∧f.ep<18446744073709551616
 bat: -9223372036854775808≤f.bat∧f.bat<9223372036854775808
 ent: -9223372036854775808≤f.ent∧f.ent<9223372036854775808
 fst:0≤f.fst∧f.fst<18446744073709551616
 fin:0≤f.fin∧f.fin<18446744073709551616
 at_: -9223372036854775808≤f.at_∧f.at_<9223372036854775808
 size: -9223372036854775808≤f.size∧f.size<9223372036854775808
def Dx (f:Ft):Bool:=if f.bat=0 then decide (f.fst=0∧f.fin=0)else decide (f.fst<f.fin∧f.fin≤4611686018427387904∧f.ent≤f.fin-f.fst)
def Aw (f:Ft):Bool:=Ae f.ep&&decide (0≤f.bat∧f.bat≤16∧f.bat≤f.ent∧f.ent≤16*f.bat)&&decide (1≤f.at_∧f.at_≤1099511627775∧1≤f.size∧f.size≤2097152)&&Dx f
def Mz {f:Ft}:Dx f=true↔(f.bat=0->f.fst=0∧f.fin=0)∧(¬f.bat=0->f.fst<f.fin∧f.fin≤4611686018427387904∧f.ent≤f.fin-f.fst):=by
 unfold Dx;split<;>rename_i h<;>simp[h]
def FV {f:Ft}:Aw f=true↔(1≤f.ep∧f.ep<4611686018427387904)∧(0≤f.bat∧f.bat≤16∧f.bat≤f.ent∧f.ent≤16*f.bat)∧(1≤f.at_∧f.at_≤1099511627775∧1≤f.size∧f.size≤2097152)∧Dx f=true:=by
 simp only[Aw,Bool.and_eq_true,decide_eq_true_eq,BS,and_assoc]
def Ba (f:Ft):List Int:=[3]++vb f.ep++vb f.bat++vb f.ent++vb f.fst++vb f.fin++vb f.at_++vb f.size
def A8 (x:Int):List Int:=Aj 4 x++Aj 4 (Bq (Aj 4 x))++[76,79,72,84]
def EP (f:Ft):List Int:=Ad (Ba f)++A8 (Ad (Ba f)).length
def RS.fkind (s:RS):RS:=if(s.take 1).1.code=0∧¬(s.take 1).2.getD 0 0=3 then(s.take 1).1.fail 7 0 else(s.take 1).1
def RS.fnums (s:RS):RS×Ft:=
 let a:=s.epo Ae
 let b:=a.1.int 65536
 let c:=b.1.int 65536
 let d:=c.1.vint
 let e:=d.1.vint
 let f:=e.1.int 1099511627776
 let g:=f.1.int 1099511627776
 (g.1,⟨a.2,b.2,c.2,d.2,e.2,f.2,g.2⟩)
def RS.rest9 (s:RS):RS:=if 0<s.left then s.fail 9 s.at_ else s
def RS.fcheck (s:RS) (f:Ft):RS:=if Aw f=true then s else s.fail 3 0
def RS.foot (s:RS):RS×Ft:=((s.fkind.fnums.1.fcheck s.fkind.fnums.2).rest9,s.fkind.fnums.2)
def BX (p:List Int):Ft×(Int×Int):=if(RS.new p).foot.1.code=0 then((RS.new p).foot.2,(0,0))else(JG,((RS.new p).foot.1.code,(RS.new p).foot.1.fat))
def JI {s:RS} (h:An s):An s.fkind∧s.fkind.l=s.l:=by
 have a:=h.take 1;have b:=(h.ok.take 1).2;unfold RS.fkind;split
 ·exact⟨a.fail _ _,by rw[Bx];exact b⟩
 ·exact⟨a,b⟩
def NE {s:RS} (h:An s):An s.fnums.1∧s.fnums.1.l=s.l:=by
 unfold RS.fnums;simp only;have⟨a,a'⟩:=Bz h Ae;have⟨b,b'⟩:=a.int 65536;have⟨c,c'⟩:=b.int 65536;have⟨d,d'⟩:=c.vint;have⟨e,e'⟩:=d.vint;have⟨f,f'⟩:=e.int 1099511627776;have⟨g,g'⟩:=f.int 1099511627776;exact⟨g,g'.trans (f'.trans (e'.trans (d'.trans (c'.trans (b'.trans a')))))⟩
def V9 {s:RS} (h:s.rest9.code=0):s.code=0∧s.left≤0∧s.rest9=s:=by
 unfold RS.rest9 at h ⊢;by_cases hl:0<s.left
 ·rw[if_pos hl]at h;by_cases hc:s.code=0
  ·exact absurd h (BR _ _ hc De)
  ·unfold RS.fail at h;rw[if_neg hc]at h;exact absurd h hc
 ·rw[if_neg hl]at h ⊢;exact⟨h,Om,rfl⟩
def UD {s:RS} {f:Ft} (h:(s.fcheck f).code=0):s.code=0∧Aw f=true∧s.fcheck f=s:=by
 unfold RS.fcheck at h ⊢;by_cases hr:Aw f=true
 ·rw[if_pos hr]at h ⊢;exact⟨h,hr,rfl⟩
 ·rw[if_neg hr]at h;by_cases hc:s.code=0
  ·exact absurd h (BR _ _ hc De)
  ·unfold RS.fail at h;rw[if_neg hc]at h;exact absurd h hc
def lG {s:RS} (h:An s) (hc:s.fkind.code=0):s.code=0∧s.fkind.at_=s.at_+1∧s.l.take s.fkind.at_.toNat=s.l.take s.at_.toNat++[3]:=by
 unfold RS.fkind at hc ⊢;by_cases hx:(s.take 1).1.code=0∧¬(s.take 1).2.getD 0 0=3
 ·rw[if_pos hx]at hc;exact absurd hc (BR _ _ hx.1 De)
 ·rw[if_neg hx]at hc ⊢;have⟨t1,t2,t3,t4,t5⟩:=Bn h hc;have e3:(s.take 1).2.getD 0 0=3:=by
   by_cases he:(s.take 1).2.getD 0 0=3
   ·exact he
   ·exact absurd ⟨hc,he⟩ hx
  have e:(s.take 1).2=[3]:=by
   match hx:(s.take 1).2,t3 with
   |[x],_=>rw[hx]at e3;simp at e3;rw[e3]
   |[],t3=>simp at t3
   |x::y::z,t3=>simp only[length_cons]at t3;omega
  rw[e]at t5;exact⟨t1,t4,t5⟩
def KW {s:RS} (h:An s) {m:Int} (hc:(s.int m).1.code=0):s.code=0∧0≤(s.int m).2∧(s.int m).2≤m∧s.l.take (s.int m).1.at_.toNat=s.l.take s.at_.toNat++vb (s.int m).2:=by
 have⟨a,b,c,_,e⟩:=Es h hc;exact⟨a,b,c,e⟩
def lE {s:RS} (h:An s) (hc:s.fnums.1.code=0):s.code=0∧s.fnums.2.ok∧s.l.take s.fnums.1.at_.toNat=s.l.take s.at_.toNat++(vb s.fnums.2.ep++vb s.fnums.2.bat++vb s.fnums.2.ent++vb s.fnums.2.fst++vb s.fnums.2.fin++vb s.fnums.2.at_++vb s.fnums.2.size):=by
 unfold RS.fnums at hc ⊢;simp only at hc ⊢;have⟨a,a'⟩:=Bz h Ae;have⟨b,b'⟩:=a.int 65536;have⟨c,c'⟩:=b.int 65536;have⟨d,d'⟩:=c.vint;have⟨e,e'⟩:=d.vint;have⟨f,f'⟩:=e.int 1099511627776;have⟨g1,g2,g3,g4⟩:=KW f hc;have⟨f1,f2,f3,f4⟩:=KW e g1;have⟨e4,_,e1⟩:=CK d f1;have e2:=Bf (s:=(((s.epo Ae).1.int 65536).1.int 65536).1.vint.1) d.bys;have⟨d4,_,d1⟩:=CK c e1;have d2:=Bf (s:=(((s.epo Ae).1.int 65536).1.int 65536).1) c.bys;have⟨c1,c2,c3,c4⟩:=KW b d1;have⟨b1,b2,b3,b4⟩:=KW a c1;have⟨a1,a2,a3,_,_,a4⟩:=JL h b1;refine⟨a1,⟨⟨a2,a3⟩,by simp only;omega,by simp only;omega,d2,e2,by simp only;omega,by simp only;omega⟩,?_⟩;rw[f',e',d',c',b',a']at g4;rw[e',d',c',b',a']at f4;rw[d',c',b',a']at e4;rw[c',b',a']at d4;rw[b',a']at c4;rw[a']at b4;rw[g4,f4,e4,d4,c4,b4,a4];simp only[append_assoc]
def sE {p:List Int} (hp:A7 p) (hn:p.length≤140737488355328) (hc:(RS.new p).foot.1.code=0):Aw (RS.new p).foot.2=true∧(RS.new p).foot.2.ok∧p=Ba (RS.new p).foot.2:=by
 have h:An (RS.new p):=An.new hp hn;have⟨r1,r2,r3⟩:=V9 hc;have⟨k1,k2,k3⟩:=UD r1;have⟨q1,q2⟩:=JI h;have⟨n1,n2,n3⟩:=lE q1 k1;have⟨m1,m2,m3⟩:=lG h n1;rw[k3]at r2;have⟨z1,z2⟩:=NE q1;refine⟨k2,n2,?_⟩;rw[q2,m3]at n3;have e0:(RS.new p).l.take (RS.new p).at_.toNat=[]:=by simp[RS.new]
 have e1:(RS.new p).l=p:=rfl;rw[e0,e1,nil_append]at n3;have ha:=z1.at0;have hl:p.length≤(RS.new p).fkind.fnums.1.at_.toNat:=by
  unfold RS.left at r2;rw[z2,q2,e1]at r2;omega
 rw[take_of_length_le hl]at n3;unfold Ba;simp only[append_assoc]at n3 ⊢;exact n3
def Fg (f:Ft):8≤(Ba f).length∧(Ba f).length≤71:=by
 unfold Ba;have h1:=A4 f.ep;have h2:=A4 f.bat;have h3:=A4 f.ent;have h4:=A4 f.fst;have h5:=A4 f.fin;have h6:=A4 f.at_;have h7:=A4 f.size;simp only[length_append,length_cons,length_nil];omega
def Ff {f:Ft} (hf:f.ok) (hr:Aw f=true):(0≤f.bat∧f.bat≤16)∧(0≤f.ent∧f.ent≤256)∧(f.fst<18446744073709551616)∧(1≤f.at_∧f.at_≤1099511627775)∧(1≤f.size∧f.size≤2097152):=by
 have⟨a,b,c,d⟩:=FV.1 hr;have:=hf.fst;omega
def H_ {f:Ft} (hf:f.ok) (hr:Aw f=true):A7 (Ba f):=by
 have⟨a,b,c,d,e⟩:=Ff hf hr;have app:∀{x y:List Int},A7 x->A7 y->A7 (x++y):=λhx hy z hz=>by rcases mem_append.1 hz with hz|hz;exact hx z hz;exact hy z hz
 unfold Ba;refine app (app (app (app (app (app (app ?_ ?_) ?_) ?_) ?_) ?_) ?_) ?_
 ·intro y hy;simp at hy;omega
 ·exact CG hf.ep.1 hf.ep.2
 ·exact CG Om Om
 ·exact CG Om Om
 ·exact CG hf.fst.1 hf.fst.2
 ·exact CG hf.fin.1 hf.fin.2
 ·exact CG Om Om
 ·exact CG Om Om
theorem lC {f:Ft} (hf:f.ok) (hr:Aw f=true):(RS.new (Ba f)).foot=((RS.new (Ba f)).adv ((Ba f).length:Int),f):=by
 have⟨n1,n2,n3,n4,n5⟩:=Ff hf hr;have⟨k1,_,_,_⟩:=FV.1 hr;have hb:=H_ hf hr;have hl:=Fg f;have h0:An (RS.new (Ba f)):=An.new hb Om;have e0:(RS.new (Ba f)).rest=[3]++(vb f.ep++(vb f.bat++(vb f.ent++(vb f.fst++(vb f.fin++(vb f.at_++(vb f.size++[]))))))):=by
  rw[BB];unfold Ba;simp only[append_assoc,append_nil]
 have t1:=Da h0 rfl e0;have t1':(RS.new (Ba f)).take 1=((RS.new (Ba f)).adv 1,[3]):=t1;have hk:(RS.new (Ba f)).fkind=(RS.new (Ba f)).adv 1:=by unfold RS.fkind;rw[t1'];simp
 have h1:An ((RS.new (Ba f)).adv 1):=Bl h0 e0;have e1:((RS.new (Ba f)).adv 1).rest=vb f.ep++(vb f.bat++(vb f.ent++(vb f.fst++(vb f.fin++(vb f.at_++(vb f.size++[])))))):=by
  have:=AW (s:=RS.new (Ba f)) h0.at0 1;rw[e0]at this;exact this
 generalize hs1:(RS.new (Ba f)).adv 1=s1 at*;have c1:s1.code=0:=by rw[←hs1];rfl
 have a2:=HE (ok:=Ae) c1 hf.ep.1 hf.ep.2 (BS.2 k1) e1;have h2:=Bl h1 e1;have e2:(s1.adv ((vb f.ep).length:Int)).rest=vb f.bat++(vb f.ent++(vb f.fst++(vb f.fin++(vb f.at_++(vb f.size++[]))))):=by rw[AW h1.at0,e1,drop_left]
 generalize hs2:s1.adv ((vb f.ep).length:Int)=s2 at*;have c2:s2.code=0:=by rw[←hs2];exact c1
 have a3:=Ec (m:=65536) c2 n1.1 Om Om e2;have h3:=Bl h2 e2;have e3:(s2.adv ((vb f.bat).length:Int)).rest=vb f.ent++(vb f.fst++(vb f.fin++(vb f.at_++(vb f.size++[])))):=by rw[AW h2.at0,e2,drop_left]
 generalize hs3:s2.adv ((vb f.bat).length:Int)=s3 at*;have c3:s3.code=0:=by rw[←hs3];exact c2
 have a4:=Ec (m:=65536) c3 n2.1 Om Om e3;have h4:=Bl h3 e3;have e4:(s3.adv ((vb f.ent).length:Int)).rest=vb f.fst++(vb f.fin++(vb f.at_++(vb f.size++[]))):=by rw[AW h3.at0,e3,drop_left]
 generalize hs4:s3.adv ((vb f.ent).length:Int)=s4 at*;have c4:s4.code=0:=by rw[←hs4];exact c3
 have a5:=Du c4 hf.fst.1 hf.fst.2 e4;have h5:=Bl h4 e4;have e5:(s4.adv ((vb f.fst).length:Int)).rest=vb f.fin++(vb f.at_++(vb f.size++[])):=by rw[AW h4.at0,e4,drop_left]
 generalize hs5:s4.adv ((vb f.fst).length:Int)=s5 at*;have c5:s5.code=0:=by rw[←hs5];exact c4
 have a6:=Du c5 hf.fin.1 hf.fin.2 e5;have h6:=Bl h5 e5;have e6:(s5.adv ((vb f.fin).length:Int)).rest=vb f.at_++(vb f.size++[]):=by rw[AW h5.at0,e5,drop_left]
 generalize hs6:s5.adv ((vb f.fin).length:Int)=s6 at*;have c6:s6.code=0:=by rw[←hs6];exact c5
 have a7:=Ec (m:=1099511627776) c6 Om Om Om e6;have h7:=Bl h6 e6;have e7:(s6.adv ((vb f.at_).length:Int)).rest=vb f.size++[]:=by rw[AW h6.at0,e6,drop_left]
 generalize hs7:s6.adv ((vb f.at_).length:Int)=s7 at*;have c7:s7.code=0:=by rw[←hs7];exact c6
 have a8:=Ec (m:=1099511627776) c7 Om Om Om e7;have hfn:s1.fnums=(s7.adv ((vb f.size).length:Int),f):=by
  unfold RS.fnums;simp only[a2,a3,a4,a5,a6,a7,a8]
 have hend:s7.adv ((vb f.size).length:Int)=(RS.new (Ba f)).adv ((Ba f).length:Int):=by
  rw[←hs7,←hs6,←hs5,←hs4,←hs3,←hs2,←hs1];simp only[Bs];congr 1;unfold Ba;simp only[length_append,length_cons,length_nil];omega
 have hleft:((RS.new (Ba f)).adv ((Ba f).length:Int)).left=0:=by unfold RS.left RS.adv RS.new;simp
 unfold RS.foot;rw[hk,hfn];simp only;unfold RS.fcheck;rw[if_pos hr];unfold RS.rest9;rw[hend,hleft];simp
theorem MT {f:Ft} (hf:f.ok) (hr:Aw f=true):BX (Ba f)=(f,(0,0)):=by
 unfold BX;rw[lC hf hr];simp only;rw[if_pos (show((RS.new (Ba f)).adv ((Ba f).length:Int)).code=0 from rfl)]
structure O1 where
 st:Int
 bk:Int
 hb:Bool
 data:List Int
 deriving DecidableEq
def o10:O1:=⟨0,0,false,[]⟩
structure O1.ok (x:O1):Prop where
 s0:0≤x.st
 s1:x.st<18446744073709551616
 b0:0≤x.bk
 b1:x.bk<18446744073709551616
 data:A7 x.data
def pB (l:List O1):Int:=((l.flatMap (·.data)).length:Int)
def Lx (base n:Int):Bool:=decide (base<4611686018427387904)&&decide (base+n≤4611686018427387904)
theorem dE {base n:Int}:Lx base n=true↔base<4611686018427387904∧base+n≤4611686018427387904:=by simp[Lx]
def Abx (pos:Int) (x:O1):Bool:=if x.hb=true then decide (x.bk<pos)else decide (x.bk=0)
def Acl (pos:Int) (x:O1):Int:=if x.hb=true then pos-x.bk else 0
def dW {s:RS} {c:Int} (a:Int) (h:¬c=0):¬(s.fail c a).code=0:=by
 unfold RS.fail;by_cases hc:s.code=0
 ·rw[if_pos hc];simp only[Cd,if_neg h];exact h
 ·rw[if_neg hc];exact hc
def RS.oback (s:RS) (pos:Int):RS:=if s.vint.1.vint.1.code=0∧pos<s.vint.1.vint.2 then s.vint.1.vint.1.fail 3 s.vint.1.at_ else s.vint.1.vint.1
def Ad4 (s:RS) (pos:Int) (d:List Int):O1:=if 0<s.vint.1.vint.2∧(s.oback pos).code=0 then⟨s.vint.2,pos-s.vint.1.vint.2,true,d⟩else⟨s.vint.2,0,false,d⟩
structure Aa7 (base:Int) (acc:List O1) (x:O1):Prop where
 s0:0≤x.st
 s1:x.st<18446744073709551616
 b0:0≤x.bk
 good:Abx (base+acc.length) x=true
 data:A7 x.data
 sum:pB acc+x.data.length≤1048576
 pos:base+acc.length<4611686018427387904
def Ad5 (base:Int):EM O1:=⟨λs acc=>if base+acc.length<4611686018427387904 then(((s.oback (base+acc.length)).blob (1048576-pB acc)).1,Ad4 s (base+acc.length) ((s.oback (base+acc.length)).blob (1048576-pB acc)).2)else(s.fail 3 0,o10),
 λacc x=>vb x.st++(vb (Acl (base+acc.length) x)++Dd x.data),λacc x=>Aa7 base acc x⟩
def RS.cnt (s:RS) (base least most:Int):RS×Int:=if(s.int most).1.code=0∧((s.int most).2<least∨Lx base (s.int most).2=false)then((s.int most).1.fail 3 s.at_,(s.int most).2)else s.int most
def RS.olds (s:RS) (base:Int):RS×List O1:=(Ad5 base).many (s.cnt base 0 400).2.toNat (s.cnt base 0 400).1 []
def mI {s:RS} (h:An s) (base least most:Int):An (s.cnt base least most).1∧(s.cnt base least most).1.l=s.l:=by
 have⟨a,b⟩:=h.int most;unfold RS.cnt;split
 ·exact⟨a.fail _ _,by simp only;rw[Bx];exact b⟩
 ·exact⟨a,b⟩
def Hq:List Int:=[76,79,72,84]
def D0 (s:List Int):Int×(Int×Int):=
 if s.length<12 then(0,(1,s.length))else
 if¬(s.drop (s.length-12)).drop 8=Hq then(0,(14,(s.length:Int)-4))else
 if¬BM (((s.drop (s.length-12)).drop 4).take 4)=Bq ((s.drop (s.length-12)).take 4)then(0,(6,(s.length:Int)-8))else
 if(s.length:Int)-12<BM ((s.drop (s.length-12)).take 4)then(0,(3,(s.length:Int)-12))else(BM ((s.drop (s.length-12)).take 4),(0,0))
def NH (s:List Int) (a e:Nat):Ft×Int×(Int×Int):=
 if((RS.new ((s.take e).drop a)).frame 2097152).1.code=0 then
  (if((RS.new ((s.take e).drop a)).frame 2097152).1.at_<(e:Int)-a then(JG,0,(9,(a:Int)+((RS.new ((s.take e).drop a)).frame 2097152).1.at_))
  else if(BX ((RS.new ((s.take e).drop a)).frame 2097152).2).2.1=0 then((BX ((RS.new ((s.take e).drop a)).frame 2097152).2).1,(a:Int),(0,0))
  else(JG,0,((BX ((RS.new ((s.take e).drop a)).frame 2097152).2).2.1,(BX ((RS.new ((s.take e).drop a)).frame 2097152).2).2.2+(a+((RS.new ((s.take e).drop a)).frame 2097152).1.at_-4-((RS.new ((s.take e).drop a)).frame 2097152).2.length))))
 else(JG,0,(((RS.new ((s.take e).drop a)).frame 2097152).1.code,((RS.new ((s.take e).drop a)).frame 2097152).1.fat+a))
def A0 (s:List Int):Ft×Int×(Int×Int):=
 if(D0 s).2.1=0 then NH s (s.length-12-(D0 s).1.toNat) (s.length-12)else(JG,0,(D0 s).2)
def MC {s:List Int} (hs:A7 s) (h:(D0 s).2.1=0):12≤s.length∧(D0 s).2=(0,0)∧0≤(D0 s).1∧(D0 s).1≤(s.length:Int)-12∧s.drop (s.length-12)=A8 (D0 s).1:=by
 unfold D0 at h ⊢;by_cases h1:s.length<12
 ·rw[if_pos h1]at h;exact absurd h Si
 ·rw[if_neg h1]at h ⊢;by_cases h2:¬(s.drop (s.length-12)).drop 8=Hq
  ·rw[if_pos h2]at h;exact absurd h Si
  ·rw[if_neg h2]at h ⊢;by_cases h3:¬BM (((s.drop (s.length-12)).drop 4).take 4)=Bq ((s.drop (s.length-12)).take 4)
   ·rw[if_pos h3]at h;exact absurd h Si
   ·rw[if_neg h3]at h ⊢;by_cases h4:(s.length:Int)-12<BM ((s.drop (s.length-12)).take 4)
    ·rw[if_pos h4]at h;exact absurd h Si
    ·rw[if_neg h4];have htl:(s.drop (s.length-12)).length=12:=by rw[length_drop];omega
     have htb:A7 (s.drop (s.length-12)):=λx hx=>hs x (mem_of_mem_drop hx)
     generalize s.drop (s.length-12)=t at*;have b1:A7 (t.take 4):=λx hx=>htb x (mem_of_mem_take hx)
     have b2:A7 ((t.drop 4).take 4):=λx hx=>htb x (mem_of_mem_drop (mem_of_mem_take hx))
     have l1:=IV b1;have l2:=IV b2;rw[show(t.take 4).length=4 by rw[length_take];omega]at l1;rw[show((t.drop 4).take 4).length=4 by rw[length_take,length_drop];omega]at l2;have r1:=Iw b1;refine⟨Om,rfl,r1.1,by simp only;omega,?_⟩;simp only[Decidable.not_not]at h2 h3;unfold A8;simp only;rw[l1,←h3,l2];have e1:t=t.take 4++t.drop 4:=(take_append_drop 4 t).symm;have e2:t.drop 4=(t.drop 4).take 4++(t.drop 4).drop 4:=(take_append_drop 4 _).symm;have e3:(t.drop 4).drop 4=Hq:=by rw[drop_drop];exact h2
     conv=>lhs;rw[e1,e2,e3]
     rw[append_assoc];rfl
def Dw (x:Int):(A8 x).length=12:=by
 unfold A8;simp only[length_append,Bo,length_cons,length_nil]
def Mo (x:Int):A7 (A8 x):=by
 intro y hy;unfold A8 at hy;rcases mem_append.1 hy with hy|hy
 ·rcases mem_append.1 hy with hy|hy
  ·exact DQ 4 _ y hy
  ·exact DQ 4 _ y hy
 ·simp at hy;omega
def ZY {b:List Int} {x:Int} (x0:0≤x) (x1:x<4294967296) (hx:x≤b.length):D0 (b++A8 x)=(x,(0,0)):=by
 have ht:=Dw x;have hl:(b++A8 x).length=b.length+12:=by rw[length_append,ht]
 have hd:(b++A8 x).drop ((b++A8 x).length-12)=A8 x:=by rw[hl,Nat.add_sub_cancel,drop_left]
 have l4:=Bo 4 x;have hcr:=Ek (DQ 4 x);have l5:=Bo 4 (Bq (Aj 4 x));have t1:(A8 x).take 4=Aj 4 x:=by unfold A8;rw[append_assoc,take_append_of_le_length Om,take_of_length_le Om]
 have t2:(A8 x).drop 4=Aj 4 (Bq (Aj 4 x))++[76,79,72,84]:=by unfold A8;rw[append_assoc];exact drop_left' l4
 have t3:((A8 x).drop 4).take 4=Aj 4 (Bq (Aj 4 x)):=by rw[t2,take_append_of_le_length Om,take_of_length_le Om]
 have t4:(A8 x).drop 8=Hq:=by
  have:(A8 x).drop 8=((A8 x).drop 4).drop 4:=by rw[drop_drop]
  rw[this,t2];exact drop_left' l5
 unfold D0;rw[hd,t4,t3,t1,I1 4 x x0 (by simpa using x1),I1 4 _ hcr.1 (by simpa using hcr.2),hl];rw[if_neg Om,if_neg Si,if_neg Si,if_neg Om]
def dB {f:Ft} (hf:f.ok) (hr:Aw f=true):A7 (EP f):=by
 have hl:=Fg f;intro y hy;rcases mem_append.1 hy with hy|hy
 ·exact DD (H_ hf hr) Om y hy
 ·exact Mo _ y hy
def Bb (p:List Int):(Ad p).length≤p.length+14∧p.length+5≤(Ad p).length:=by
 rw[E1];unfold Dd;rw[length_append];have:=A4 (p.length:Int);omega
def lJ {pre:List Int} {f:Ft} (hf:f.ok) (hr:Aw f=true):A0 (pre++EP f)=(f,(pre.length:Int),(0,0)):=by
 have hl:=Fg f;have hfl:=Bb (Ba f);have hpb:=H_ hf hr;have e:pre++EP f=(pre++Ad (Ba f))++A8 (Ad (Ba f)).length:=by unfold EP;rw[append_assoc]
 have hs:=ZY (b:=pre++Ad (Ba f)) (x:=((Ad (Ba f)).length:Int)) Om Om (by rw[length_append];omega);have ht:=Dw ((Ad (Ba f)).length:Int);have hn:(pre++EP f).length-12=(pre++Ad (Ba f)).length:=by rw[e,length_append,ht,Nat.add_sub_cancel]
 unfold A0;rw[hn,e,hs];simp only[if_true];have ha:(pre++Ad (Ba f)).length-((Ad (Ba f)).length:Int).toNat=pre.length:=by rw[Int.toNat_natCast,length_append,Nat.add_sub_cancel]
 rw[ha];have hd:((pre++Ad (Ba f)++A8 (Ad (Ba f)).length).take (pre++Ad (Ba f)).length).drop pre.length=Ad (Ba f):=by rw[take_left,drop_left]
 have hm:((Ba f).length:Int)≤CN 2097152:=by unfold CN;omega
 have hok:An (RS.new (Ad (Ba f))):=An.new (DD hpb Om) Om;have hfo:=PV (r:=[]) (m:=2097152) hok rfl hpb hm (by rw[BB,append_nil]);unfold NH;rw[hd,hfo];simp only;have hat:((RS.new (Ad (Ba f))).adv ((Ad (Ba f)).length:Int)).at_=(Ad (Ba f)).length:=by show(0:Int)+_=_;omega
 rw[if_pos (show((RS.new (Ad (Ba f))).adv ((Ad (Ba f)).length:Int)).code=0 from rfl),hat,if_neg (by rw[length_append];omega),MT hf hr];simp
def Y6 {s:List Int} (hs:A7 s) (hn:s.length≤140737488355328) (hc:(A0 s).2.2.1=0):(A0 s).2.2=(0,0)∧Aw (A0 s).1=true∧(A0 s).1.ok∧0≤(A0 s).2.1∧(A0 s).2.1+12≤s.length∧s.drop (A0 s).2.1.toNat=EP (A0 s).1:=by
 unfold A0 at hc ⊢;by_cases h0:(D0 s).2.1=0
 ·rw[if_pos h0]at hc ⊢;have⟨z1,z2,z3,z4,z5⟩:=MC hs h0;obtain⟨x,hx⟩:∃x:Nat,(D0 s).1=(x:Int):=⟨(D0 s).1.toNat,Om⟩;rw[hx]at hc z4 z5 ⊢;rw[Int.toNat_natCast]at hc ⊢;have⟨a,ha⟩:=Ex (s.length-12-x);rw[ha]at hc ⊢;have hb:A7 ((s.take (s.length-12)).drop a):=λy hy=>hs y (mem_of_mem_take (mem_of_mem_drop hy))
  have hbl:((s.take (s.length-12)).drop a).length=x:=by rw[length_drop,length_take];omega
  have hok:An (RS.new ((s.take (s.length-12)).drop a)):=An.new hb Om;unfold NH at hc ⊢;by_cases h1:((RS.new ((s.take (s.length-12)).drop a)).frame 2097152).1.code=0
  ·rw[if_pos h1]at hc ⊢;by_cases h2:((RS.new ((s.take (s.length-12)).drop a)).frame 2097152).1.at_<((s.length-12:Nat):Int)-a
   ·rw[if_pos h2]at hc;exact absurd hc Si
   ·rw[if_neg h2]at hc ⊢;have⟨i1,i2,i3,i4,i5⟩:=NB hok h1;have⟨k1,k2⟩:=E0 hok 2097152;have hle:=k1.at1;rw[k2]at hle;have e0:(RS.new ((s.take (s.length-12)).drop a)).l.take (RS.new ((s.take (s.length-12)).drop a)).at_.toNat=[]:=by simp[RS.new]
    rw[e0,nil_append]at i5;have e1:(RS.new ((s.take (s.length-12)).drop a)).l=(s.take (s.length-12)).drop a:=rfl;rw[e1]at i5 hle;generalize hF:(RS.new ((s.take (s.length-12)).drop a)).frame 2097152=F at*;have hfe:(s.take (s.length-12)).drop a=Ad F.2:=by
     have e2:=take_of_length_le (l:=(s.take (s.length-12)).drop a) (i:=F.1.at_.toNat) Om;rw[e2]at i5;exact i5
    have hfl:=congrArg List.length hfe;have hpl:=Bb F.2;by_cases h3:(BX F.2).2.1=0
    ·rw[if_pos h3];simp only;have hc3:(RS.new F.2).foot.1.code=0:=by
      by_cases h:(RS.new F.2).foot.1.code=0
      ·exact h
      ·unfold BX at h3;rw[if_neg h]at h3;exact absurd h3 h
     have⟨f1,f2,f3⟩:=sE i3 Om hc3;have hrf:BX F.2=((RS.new F.2).foot.2,(0,0)):=by unfold BX;rw[if_pos hc3]
     rw[hrf];refine⟨trivial,f1,f2,Om,Om,?_⟩;simp only[Int.toNat_natCast];have hsd:s.drop a=(s.take (s.length-12)).drop a++s.drop (s.length-12):=by
      conv=>lhs;rw[←take_append_drop (s.length-12) s]
      rw[drop_append_of_le_length (by rw[length_take];omega)]
     have hxl:(x:Int)=((Ad F.2).length:Int):=Om
     rw[hsd,hfe,z5,hxl];unfold EP;rw[←f3]
    ·rw[if_neg h3]at hc;exact absurd hc h3
  ·rw[if_neg h1]at hc;exact absurd hc h1
 ·rw[if_neg h0]at hc;exact absurd hc h0
end Go.Proofs.YtaajkppmibfgfaaGreat
