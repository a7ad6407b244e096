/- Lemmas for TopLooks, part 3. -/
import Derived.Test.YtileggkdbaejoaaGreatB2
import Derived.Test.YtileggkdbaejoaaGreatB1
import Derived.Test.YtileggkdbaejoaaGreatRows
import Derived.Test.YtileggkdbaejoaaGreatB0
set_option linter.all false
namespace Go.Proofs.YtileggkdbaejoaaGreat
open Go.RowKit
def UD (b:List Int) (at_:Nat):List Int->Int×Int->Bool
 |[],_=>false
 |p::ps,s=>if(at_:Int)+(EO b at_ s p).2=b.length then true else UD b at_ ps (EO b at_ s p)
abbrev skO (b:List Int) (t:Nat) (c:Nat):Ad:=.cells [A9 .u8 b,.ref c 0,iA t]
abbrev bS (b:List Int) (a t:Nat) (s:Int×Int) (lp:Ad):List Ad:=
 [skO b t 1,chO b (GB b a) 2 3,mpO (DI b a),.row 1 a,.cells [.ref 0 0],.cells [iA a],.cells [iA s.1],.cells [iA s.2],.cells [.ref 1 0],.cells [iA a],lp]
theorem Aee (b:List Int) (a k:Nat) (hk:k<a) (hw:(a:Int)-k≤65536):JX b a (k+1) (k+1)=(k:Int)::JX b a (HE b k).toNat (HE b k).toNat:=by
 have hin:=PZ b k
 rw[JX,if_neg (by omega),if_pos hk,S8 b a (HE b k).toNat k (HE b k).toNat (Nat.le_refl _) (by omega)];rfl
theorem Ah6 (b:List Int) (a t0:Nat) (s0:Int×Int) (lpR lpD:Ad) (hb:b.length≤1000000000000) (ha:a≤b.length) (ht:t0+a≤1000000000000000)
 (hY:∀(t:Nat) (s:Int×Int) (p:Int),t<1000000000000000->YI b a s->0≤p∧p<a∧(a:Int)-p≤65536->∀R,YC Tryz.prog 10 [iA p] (bS b a t s lpR++R) (bS b a (t+1) (EO b a s p) (if(a:Int)+(EO b a s p).2=b.length then lpD else lpR)++R) (decide (¬(a:Int)+(EO b a s p).2=b.length)))
 (hs0:YI b a s0):
 An Tryz.prog 289 [.yv 10,.ref 8 0,.ref 9 0] (bS b a t0 s0 lpR) (.tup []) (bS b a (t0+(ON b a (Ck b a) s0).1) (ON b a (Ck b a) s0).2 (if UD b a (Ck b a) s0=true then lpD else lpR)):=by
 have ep:=DB b a
 refine RM Tryz.func289 Ahc ?_
 refine Aa.p (PN b a hb ha) (mp ?_).1
 cases hk:LR b a with
 |false=>
  have epl:Ck b a=[]:=by unfold Ck;rw[hk];rfl
  rw[epl]
  refine (mp ?_).1
  exact AF.res Ahc.all.2.1 rfl
 |true=>
  have er:TC b a=KK b a:=by unfold TC;rw[hk];rfl
  have hin:=TB b a (KK b a)
  obtain⟨k0,hk0⟩:∃k0:Nat,FU (DI b a) (KK b a)=(k0:Int):=⟨(FU (DI b a) (KK b a)).toNat,by omega⟩
  have epl:Ck b a=JX b a k0 k0:=by
   unfold Ck;rw[if_pos hk,hk0,Int.toNat_natCast,S8 b a k0 a k0 (Nat.le_refl _) (by omega)]
  rw[hk0]at hin
  rw[epl]
  obtain⟨N,hN⟩:∃N,N=t0+(ON b a (JX b a k0 k0) s0).1:=⟨_,rfl⟩
  obtain⟨F,hF⟩:∃F,F=(ON b a (JX b a k0 k0) s0).2:=⟨_,rfl⟩
  obtain⟨X,hX⟩:∃X,X=UD b a (JX b a k0 k0) s0:=⟨_,rfl⟩
  rw[←hN,←hF,←hX]
  refine (mr er hk0 ?_).1
  refine AM (α:=Nat×Nat×(Int×Int)) (λu=>[.yv 10,.ref 8 0,.ref 9 0,.any,.any,.any,iA u.1,.any,.any,.any,.any,.any,.any,.any,.any,.any,.any,.any,.any,.any,.any,.any,.any,.any,.any,.any,.any,.any,.any,.any,.any,.any,.any,.any,.any,.any,.any,.any,.any,.any,.any,.any,.any,.any,.any,.any,.any,.any,.any,.any,.any,.any]) (λu=>bS b a u.2.1 u.2.2 lpR)
   (λu=>u.1≤a∧u.2.1+u.1≤t0+a∧YI b a u.2.2∧u.2.1+(ON b a (JX b a u.1 u.1) u.2.2).1=N∧(ON b a (JX b a u.1 u.1) u.2.2).2=F∧UD b a (JX b a u.1 u.1) u.2.2=X) (λu=>u.1) (k0,t0,s0) ⟨show k0≤a by omega,show t0+k0≤t0+a by omega,hs0,hN.symm,hF.symm,hX.symm⟩ (Wk.to (by simp) (by simp[Ca])) ?_
  rintro⟨k,t,s⟩ ⟨h1,h2,h3,h4,h5,h6⟩
  simp only[]at h1 h2 h3 h4 h5 h6
  cases k with
  |zero=>
   have c1:decide ((0:Int)<((0:Nat):Int))=false:=by simp
   simp only[JX,ON,UD,Nat.add_zero]at h4 h5 h6
   subst h4 h5 h6
   refine (mq c1 ?_).1
   exact AF.res Ahc.all.2.1 rfl
  |succ k=>
   have c1:decide ((0:Int)<((k+1:Nat):Int))=true:=by simp
   have c2:IntKind.i64.wrap (((k+1:Nat):Int)-1)=k:=by rw[IntWalk.i64_in _ (by omega)];omega
   have c3:IntKind.i64.wrap ((a:Int)-k)=a-k:=IntWalk.i64_in _ (by omega)
   by_cases hw:(a:Int)-k>65536
   ·have c4:decide (65536<(a:Int)-k)=true:=by simpa using hw
    have ep1:JX b a (k+1) (k+1)=[]:=by rw[JX,if_pos hw]
    rw[ep1]at h4 h5 h6
    simp only[ON,UD,Nat.add_zero]at h4 h5 h6
    subst h4 h5 h6
    simp only[go_sem,seval,c1,c2,c3,c4];refine (mok ?_).1
    exact AF.res Ahc.all.2.1 rfl
   ·have c4:decide (65536<(a:Int)-k)=false:=by simpa using hw
    have c5:decide ((k:Int)<a)=true:=by simp;omega
    have hst:=Aee b a k (by omega) (by omega)
    have hin:=PZ b k
    obtain⟨k',hk'⟩:∃k':Nat,HE b k=(k':Int):=⟨(HE b k).toNat,by omega⟩
    rw[hk',Int.toNat_natCast]at hst
    rw[hk']at hin
    rw[hst]at h4 h5 h6
    simp only[ON,UD]at h4 h5 h6
    have hy:=hY t s k (by omega) h3 (by omega)
    simp only[go_sem,seval,c1,c2,c3,c4,c5];refine (mok ?_).1
    have hok:=Rs h3 (p:=k) (by omega)
    by_cases hstop:(a:Int)+(EO b a s k).2=b.length
    ·rw[if_pos hstop]at h4 h5 h6 hy
     simp only[]at h4 h5
     refine⟨false,bS b a (t+1) (EO b a s k) lpD,λR=>by have:=hy R;rw[decide_eq_false (by simpa using hstop)]at this;exact this,rfl,by simp,?_⟩
     rw[QI,Sc (S:=bS b a t s lpR) (S':=bS b a (t+1) (EO b a s k) lpD) rfl]
     subst h4 h5 h6
     refine (mp ?_).1
     exact AF.res Ahc.all.2.1 rfl
    ·rw[if_neg hstop]at h4 h5 h6 hy
     simp only[]at h4 h5
     refine⟨true,bS b a (t+1) (EO b a s k) lpR,λR=>by have:=hy R;rw[decide_eq_true hstop]at this;exact this,rfl,by simp,?_⟩
     rw[QI,Sc (S:=bS b a t s lpR) (S':=bS b a (t+1) (EO b a s k) lpR) rfl]
     have g1:=CC .i64 (GB b a) k (by omega)
     have g2:=ZN b a k (by omega)
     rw[g2,hk']at g1
     simp only[go_sem,seval,Int.toNat_natCast,Ab,c2,g1,IH];refine (mok ?_).1
     (repeat((with_reducible refine And.intro ?_ ?_);(·first|exact sd|(simp[Ab,A8,AV.parts,ep];done)|(simp[Ab,A8,AV.parts,ep];omega))))
     exact⟨(k',t+1,EO b a s k),⟨by simp only[];omega,by simp only[];omega,hok,by simp only[];omega,h5,h6⟩,by simp only[];omega,Wk.to rfl (by simp[Ca])⟩
theorem OW (b:List Int) (n:Nat) (a:Int):An Tryz.prog 283 [.ref 0 0,iA a] (NI b n 1 2) (.fn 289 [] [.ref 3 0,.ref 4 0]) (NI b n 1 2++[.cells [.ref 0 0],.cells [iA a]]):=by
 refine RM Tryz.func283 Arv ?_
 (refine FB Arv [0,1,2,3,4] ?_ ?_<;>first|with_reducible rfl|(simp[Ae,Ah,Ai,Ag,AK];done)|rfl)
theorem R1 (b:List Int) (n:Nat) (a:Int) (i j k:Nat) (hn:[i,j,k].Nodup):Ct Tryz.prog 283 [.ref i 0,iA a] ([i,j,k].zip (NI b n j k)) (λm=>.fn 289 [] [.ref m 0,.ref (m+1) 0]) ([i,j,k].zip (NI b n j k)) (λ_=>[.cells [.ref i 0],.cells [iA a]]):=
 Ct.usn (OW b n a) [i,j,k] hn rfl (by simp) (by simp) (λm N=>by simp[AK]) (λm N=>by simp[AK,AN]) (λm N=>by simp[AK,AN]) (λm N=>by simp[AK,List.range'_succ]) (λm N=>by simp[AK])
abbrev bTm (s4:AV):List AV:=[.any,.any,.ref 4 0,.ref 5 0,iA 0,iA 0,.ref 6 0,.ref 7 0,.any,.any,.any,.any,.any,.any,.any,.any,.any,.any,.any,.any,.any,.any,.any,.any,.any,.any,.any,.any,.any,s4,.any,.any,.any,.any,.any,.any,.any,.any,.any,.any,.any,.any,.any,.any,.any,.any,.any,.any,.any,.any,.any,.any,.any,.any,.any,.any,.any,.any,.any,.any,.any,.any,.any,.any,.any,.any,.any,.any]
abbrev lpO (r:LpR) (x:AV):Ad:=.raw (.lp r) (bTm x)
def Anc:C:=.reg [(none,.mov (.tmp 30),some 8)] []
def Anb:C:=.block 1 (.seq (.reg [(none,.load none (.tmp 2),some 31),(none,.nilc (.tmp 31),some 32),(none,.fadr 2 (.tmp 32),some 33),(none,.load none (.tmp 33),some 34),(none,.bin .add (.tmp 34) (.const (.int .i64 1)),some 35),
 (none,.nilc (.tmp 31),some 36),(none,.fadr 2 (.tmp 36),some 37),(none,.store 1 (.tmp 37) (.tmp 35),none)] [])
 (.seq (.seq (.reg [(none,.load none (.tmp 2),some 38),(none,.nilc (.tmp 38),some 39),(none,.fadr 0 (.tmp 39),some 40),(none,.load none (.tmp 40),some 41),(none,.load none (.tmp 3),some 42),(none,.load none (.tmp 3),some 43),(none,.mov (.tmp 8),some 44),
   (none,.bin .sub (.tmp 43) (.tmp 44),some 45),(none,.call (.func 284) [.tmp 41,.tmp 42,.tmp 45],some 46),(none,.mov (.tmp 46),some 9)] [(0,4),(3,4),(0,5),(3,5),(4,5)])
   (.seq (.reg [(none,.mov (.tmp 9),some 47),(none,.load none (.tmp 7),some 48),(none,.bin .gtr (.tmp 47) (.tmp 48),some 49)] [])
     (.cond (.tmp 49) (.reg [(none,.load none (.tmp 3),some 50),(none,.mov (.tmp 8),some 51),(none,.bin .sub (.tmp 50) (.tmp 51),some 52),(none,.mov (.tmp 9),some 53),(none,.store 1 (.tmp 6) (.tmp 52),none),(none,.store 1 (.tmp 7) (.tmp 53),none)] []) .skip)))
   (.seq (.reg [(none,.load none (.tmp 3),some 54),(none,.load none (.tmp 7),some 55),(none,.bin .add (.tmp 54) (.tmp 55),some 56),(none,.load none (.tmp 2),some 57),(none,.nilc (.tmp 57),some 58),(none,.fadr 0 (.tmp 58),some 59),(none,.load none (.tmp 59),some 60),
     (none,.len false (.tmp 60),some 61),(none,.bin .eql (.tmp 56) (.tmp 61),some 62)] [(0,1),(0,3),(1,3),(0,6),(1,6)])
     (.cond (.tmp 62) (.exit 0) .skip))))
theorem XN (b:List Int) (a t:Nat) (s:Int×Int) (p:Nat) (x:AV) (fn:FuncId) (D:Nat) (ca cb:Code) (hA:AU Tryz.prog ca=some Anc) (hB:AU Tryz.prog cb=some Anb)
 (R:List Ad) (ht:t<1000000000000000) (hs:YI b a s) (hp:p<a∧(a:Int)-p≤65536) (ha:a≤b.length) (hb:b.length≤1000000000000):
 YC Tryz.prog 10 [iA p] (bS b a t s (lpO ⟨.ready,none,fn,#[30],ca,cb,D⟩ x)++R) (bS b a (t+1) (EO b a s p) (if(a:Int)+(EO b a s p).2=b.length then lpO ⟨.done,some (.exit 0),fn,#[30],ca,cb,D⟩ x else lpO ⟨.ready,none,fn,#[30],ca,cb,D⟩ x)++R) (decide (¬(a:Int)+(EO b a s p).2=b.length)):=by
 have e1:IntKind.i64.wrap ((t:Int)+1)=((t+1:Nat):Int):=by rw[IntWalk.i64_in _ (by omega)];omega
 have e2:IntKind.i64.wrap ((a:Int)-p)=((a-p:Nat):Int):=by rw[IntWalk.i64_in _ (by omega)];omega
 have hl:=Ae5 b a (a-p)
 have hm:=Rs hs (p:=p) (by omega)
 have hml:=hm.len
 have hmn:=hm.n0
 have hmm:=hm.most
 have hsm:=hs.most
 have hsn:=hs.n0
 have e3:IntKind.i64.wrap ((a:Int)+(EO b a s p).2)=a+(EO b a s p).2:=IntWalk.i64_in _ (by omega)
 refine YC.of (r:=⟨.ready,none,fn,#[30],ca,cb,D⟩) (tm:=bTm x) rfl rfl rfl hA hB (Ad0 _ _ hA rfl) (Ad0 _ _ hB rfl) ?_
 simp only[Anc,List.zip_cons_cons,List.zip_nil_right,List.foldl_cons,List.foldl_nil,go_sem]
 refine⟨rfl,?_⟩
 simp only[Anb]
 refine (mr e1 e2 ?_).1
 refine Aa.p (Vy b a (a-p) hb ha (by omega)) (mp ?_).1
 by_cases hbt:((NZ b a (a-p):Nat):Int)>s.2
 ·have c1:decide (s.2<((NZ b a (a-p):Nat):Int))=true:=by simpa using hbt
  have eu:EO b a s p=((a:Int)-p,((NZ b a (a-p):Nat):Int)):=by unfold EO;rw[Int.toNat_natCast,if_pos hbt]
  have ep:((a-p:Nat):Int)=a-p:=by omega
  rw[eu]at e3 ⊢
  simp only[]at e3
  refine (ms c1 e3 @Ab ?_).1
  by_cases hst:(a:Int)+(NZ b a (a-p):Nat)=b.length
  ·have c2:((a:Int)+(NZ b a (a-p):Nat)==(b.length:Int))=true:=by simpa using hst
   refine (mq c2 ?_).1
   exact⟨some (.exit 0),rfl,rfl,by simp[hst],by simp[hst,ep,e2]⟩
  ·have c2:((a:Int)+(NZ b a (a-p):Nat)==(b.length:Int))=false:=by simpa using hst
   refine (mq c2 ?_).1
   exact⟨none,rfl,rfl,by simp[hst],by simp[hst,ep,e2]⟩
 ·have c1:decide (s.2<((NZ b a (a-p):Nat):Int))=false:=by simpa using hbt
  have eu:EO b a s p=s:=by unfold EO;rw[Int.toNat_natCast,if_neg hbt]
  rw[eu]at e3 ⊢
  refine (ms c1 e3 @Ab ?_).1
  by_cases hst:(a:Int)+s.2=b.length
  ·have c2:((a:Int)+s.2==(b.length:Int))=true:=by simpa using hst
   refine (mq c2 ?_).1
   exact⟨some (.exit 0),rfl,rfl,by simp[hst],by simp[hst]⟩
  ·have c2:((a:Int)+s.2==(b.length:Int))=false:=by simpa using hst
   refine (mq c2 ?_).1
   exact⟨none,rfl,rfl,by simp[hst],by simp[hst]⟩
theorem Ap1 (b:List Int) (a n t:Nat) (hb:b.length≤1000000000000) (hn:n≤a) (ha:a≤b.length) (ht:t+a≤1000000000000000):
 An Tryz.prog 278 [.ref 0 0,iA a] (skO b t 1::NI b n 2 3) (.tup [iA (BT b a).1,iA (BT b a).2]) (skO b (t+(ON b a (Ck b a) (0,0)).1) 1::NI b a 2 3):=by
 have e0:(if(b.length:Int)<a then(b.length:Int)else a)=a:=by rw[if_neg (by omega)]
 refine RN Tryz.func278 Aoq ?_;refine (mr @Ab e0 ?_).1
 refine Aa.us (U6 b n a hb hn ha 1 2 3 (by decide)) rfl rfl ?_
 refine (mp ?_).1
 refine Aa.us (R1 b a a 1 2 3 (by decide)) rfl rfl ?_
 refine (mp ?_).1
 refine Ajg (tm':=bTm (.fn 289 [] [.ref 8 0,.ref 9 0])) (Wk.to rfl (by simp[Ca])) ?_
 refine VT (a:=Anc) (b:=Anb) rfl λfn D ca cb hA hB=>⟨.tup [],_,if UD b a (Ck b a) (0,0)=true then⟨.done,some (.exit 0),fn,#[30],ca,cb,D⟩else⟨.ready,none,fn,#[30],ca,cb,D⟩,
  Ah6 b a t (0,0) _ (lpO ⟨.done,some (.exit 0),fn,#[30],ca,cb,D⟩ (.fn 289 [] [.ref 8 0,.ref 9 0])) hb ha ht (λt s p ht hs hp R=>?_) (YI.zero b a 0),?_,?_,?_⟩
 ·obtain⟨p',rfl⟩:∃p':Nat,p=(p':Int):=⟨p.toNat,by omega⟩
  exact XN b a t s p' _ fn D ca cb hA hB R ht hs (by omega) ha hb
 ·split<;>rfl
 ·split<;>simp
 ·obtain⟨s',hs'⟩:∃s',s'=(ON b a (Ck b a) (0,0)).2:=⟨_,rfl⟩
  have hb':BT b a=P_ s':=by unfold BT;rw[hs']
  rw[hb',←hs']
  split
  ·simp only[jq,List.length_cons,List.length_nil]
   refine (mp ?_).1
   refine Aa.p (MC s'.1 s'.2) (mp ?_).1
   (refine FB Aoq [0,1,2,3] ?_ ?_<;>first|with_reducible rfl|(simp[Ae,Ah,Ai,Ag,AK];done)|rfl)
  ·simp only[jq,List.length_cons,List.length_nil]
   refine (mp ?_).1
   refine Aa.p (MC s'.1 s'.2) (mp ?_).1
   (refine FB Aoq [0,1,2,3] ?_ ?_<;>first|with_reducible rfl|(simp[Ae,Ah,Ai,Ag,AK];done)|rfl)
theorem Atz (b:List Int) (a n t:Nat) (hb:b.length≤1000000000000) (hn:n≤a) (ha:a≤b.length) (ht:t+a≤1000000000000000) (i j k l:Nat) (hd:[i,j,k,l].Nodup):
 Ct Tryz.prog 278 [.ref i 0,iA a] ([i,j,k,l].zip (skO b t j::NI b n k l)) (λ_=>.tup [iA (BT b a).1,iA (BT b a).2]) ([i,j,k,l].zip (skO b (t+(ON b a (Ck b a) (0,0)).1) j::NI b a k l)) (λ_=>[]):=
 Ct.us (Ap1 b a n t hb hn ha ht) [i,j,k,l] hd rfl rfl (by simp) (λN=>by simp[AK]) (λN=>by simp[AK,AN]) (λN=>by simp[AK,AN]) (λN=>by simp)
theorem Zr (b:List Int) (hb:b.length≤1000000000000):An Tryz.prog 277 [A9 .u8 b] [] (.ref 0 0) (skO b 0 1::NI b 0 2 3):=by
 refine RN Tryz.func277 Arz ?_;refine (mq @Ab ?_).1
 (repeat((with_reducible refine And.intro ?_ ?_);(·exact sd)))
 refine Aa.n (Ab4 b hb) (mp ?_).1
 (refine AF.wao (ys:=[A9 .u8 b,.ref 1 0,iA 0]) 4 rfl (by repeat(first|exact Wa.refl _|exact Bo.nil|exact Wa.nil|exact Wa.none|refine Bo.cons ?_ ?_|refine Wa.agg ?_|refine Wa.slN ?_|refine Wa.slS ?_|exact Bo.refl _)) ?_;simp only[List.set_cons_zero,List.set_cons_succ])
 (refine FB Arz [4,1,2,3] ?_ ?_<;>first|with_reducible rfl|(simp[Ae,Ah,Ai,Ag,AK,GB,DI];done)|rfl)
theorem Adx (b:List Int) (hb:b.length≤1000000000000):Ct Tryz.prog 277 [A9 .u8 b] [] (λn=>.ref n 0) [] (λn=>skO b 0 (n+1)::NI b 0 (n+2) (n+3)):=Ct.n (Zr b hb) Ci cl cl
theorem Am6 (l:List Tk) (t:Tk) (g:Gl):Bo (NY l++[.agg [.sl g 1 (A2 .u8 t.lit),iA t.off,iA t.len]]) (NY (l++[t])):=by
 rw[←Sj]
 exact Bo.app (Bo.refl _) (Bo.cons (Wa.agg (Bo.cons Wa.none (Bo.refl _))) Bo.nil)
theorem U3 (b:List Int) (x y:Nat) (l:List Tk) (hb:b.length≤1048576) (hy:y≤b.length) (hl:l.length≤1048576):
 An Tryz.prog 276 [iA y,.ref 0 0,.ref 1 0,.ref 2 0] [.cells [iA x],.cells [.sl (.row 3) 3 (NY l)],.cells [A9 .u8 b],.row 3 l.length] (.tup [])
  [.cells [iA x],.cells [.sl (.row 3) 3 (NY (l++Ek b x y))],.cells [A9 .u8 b],.row 3 (l++Ek b x y).length]:=by
 by_cases h:x<y
 ·have c1:decide ((x:Int)<y)=true:=by simpa using h
  have e1:((A2 .u8 b).drop (x:Int).toNat).take ((y:Int)-x).toNat=A2 .u8 ((b.drop x).take (y-x)):=by
   rw[Cb,DD];congr 2;omega
  have e2:((b.drop x).take (y-x)).length=y-x:=by simp;omega
  have er:Ek b x y=[⟨(b.drop x).take (y-x),0,0⟩]:=by unfold Ek;rw[if_pos h]
  refine RN Tryz.func276 Alv ?_;simp only[go_sem,seval,c1,Ab,e1,e2,EB];refine (mok ?_).1
  (repeat((with_reducible refine And.intro ?_ ?_);(·exact sd)))
  refine AF.wao (ys:=[.sl (.row 3) 3 (NY (l++[⟨(b.drop x).take (y-x),0,0⟩]))]) 1 rfl (Bo.cons (Wa.slS (Am6 l ⟨(b.drop x).take (y-x),0,0⟩ _)) Bo.nil) ?_
  refine (mp ?_).1
  (refine FB Alv [0,1,2,3] ?_ ?_<;>first|with_reducible rfl|(simp[Ae,Ah,Ai,Ag,er,AK];done)|rfl)
 ·have c1:decide ((x:Int)<y)=false:=by simpa using h
  have er:Ek b x y=[]:=by unfold Ek;rw[if_neg h]
  refine RN Tryz.func276 Alv ?_;refine (mq c1 ?_).1
  (refine FB Alv [0,1,2,3] ?_ ?_<;>first|with_reducible rfl|(simp[Ae,Ah,Ai,Ag,er,AK];done)|rfl)
theorem NW (b:List Int) (x y:Nat) (l:List Tk) (hb:b.length≤1048576) (hy:y≤b.length) (hl:l.length≤1048576) (i j k r:Nat) (hd:[i,j,k,r].Nodup):
 Ct Tryz.prog 276 [iA y,.ref i 0,.ref j 0,.ref k 0] ([i,j,k,r].zip [.cells [iA x],.cells [.sl (.row r) 3 (NY l)],.cells [A9 .u8 b],.row 3 l.length]) (λ_=>.tup [])
  ([i,j,k,r].zip [.cells [iA x],.cells [.sl (.row r) 3 (NY (l++Ek b x y))],.cells [A9 .u8 b],.row 3 (l++Ek b x y).length]) (λ_=>[]):=
 Ct.us (U3 b x y l hb hy hl) [i,j,k,r] hd rfl rfl (by simp) (λN=>by simp[AK]) (λN=>by simp[AK,AN,X0]) (λN=>by simp[AK,AN,X0]) (λN=>by simp)
abbrev tS (b:List Int) (a x t:Nat) (l:List Tk):List Ad:=[.cells [A9 .u8 b],.cells [.sl (.row 7) 3 (NY l)],.cells [iA x],skO b t 4,chO b (GB b a) 5 6,mpO (DI b a),.row 1 a,.row 3 l.length]
theorem ZM (b:List Int) (f a x:Nat) (h:a<b.length):FT b (f+1) a x=if(BT b a).2=0 then FT b f (a+1) x else Ek b x a++[⟨[],(BT b a).1,(BT b a).2⟩]++FT b f (a+(BT b a).2.toNat) (a+(BT b a).2.toNat):=by
 rw[FT,if_neg (by omega)]
theorem Oa (b:List Int) (hb:b.length≤1048576):An Tryz.prog 274 [A9 .u8 b] [] (.tup [slT (EG b),iA 0]) []:=by
 have c0:decide ((1048576:Int)<b.length)=false:=by simp;omega
 have hpl:=(Je b).1
 refine RN Tryz.func274 Ar0 ?_;refine (mr @Ab c0 ?_).1
 refine Aa.n (Adx b (by omega)) (mp ?_).1
 refine AM (α:=Nat×Nat×Nat×Nat×List Tk) (λu=>[.any,.ref 0 0,.any,.any,.ref 1 0,.ref 2 0,.fn 276 [] [.ref 2 0,.ref 1 0,.ref 0 0],.ref 3 0,iA u.1,.any,.any,.any,.any,.any,.any,.any,.any,.any,.any,.any,.any,.any,.any,.any,.any,.any,.any,.any,.any,.any,.any,.any,.any,.any,.any,.any,.any,.any,.any,.any,.any,.any,.any,.any,.any,.any,.any,.any,.any]) (λu=>tS b u.2.1 u.2.2.1 u.2.2.2.1 u.2.2.2.2)
  (λu=>u.2.1≤u.1∧u.1≤b.length∧u.2.2.1≤u.1∧u.2.2.2.1≤u.1*b.length∧∃f,b.length≤f+u.1∧u.2.2.2.2++FT b f u.1 u.2.2.1=EG b) (λu=>b.length-u.1) (0,0,0,0,[])
  ⟨Nat.le_refl _,Nat.zero_le _,Nat.le_refl _,Nat.zero_le _,b.length,Nat.le_refl _,rfl⟩ ?_ ?_
 ·refine(Wk.rowObj 1 0 3 rfl rfl (.inr rfl) (by omega)).trans (Wk.to ?_ (by simp[Ca]))
  simp[tS,GB,DI,Ain]
 ·rintro⟨a,n,x,t,l⟩ ⟨h1,h2,h3,h4,f,h5,h6⟩
  simp only[]at h1 h2 h3 h4 h5 h6
  have hall:l.length≤1048576:=by
   have:=congrArg List.length h6
   simp only[List.length_append]at this;omega
  have ht:t≤1048576*1048576:=Nat.le_trans h4 (Nat.mul_le_mul (by omega) hb)
  by_cases hlt:a<b.length
  ·have c1:decide ((a:Int)<b.length)=true:=by simp;omega
   have e1:=AJ a (by omega)
   have hok:=Ko b a
   have hbst:=YA b a (Ck b a) (0,0)
   have hpl2:=Ta b a
   have hmul:(a+1)*b.length=a*b.length+b.length:=by rw[Nat.add_mul];omega
   obtain⟨f,rfl⟩:∃f',f=f'+1:=⟨f-1,by omega⟩
   rw[ZM b f a x hlt]at h6
   obtain⟨o,m,hbe⟩:∃o m,BT b a=(o,m):=⟨_,_,rfl⟩
   rw[hbe]at h6 hok
   simp only[]at h6
   have hm0:=hok.1.n0
   have hml:=hok.1.len
   have hm4:=hok.2
   simp only[]at hm0 hml hm4
   obtain⟨t',ht'⟩:∃t',t'=t+(ON b a (Ck b a) (0,0)).1:=⟨_,rfl⟩
   have hcall:=Atz b a n t (by omega) h1 (by omega) (by omega) 3 4 5 6 (by decide)
   rw[hbe,←ht']at hcall
   simp only[]at hcall
   refine (mr @Ab c1 ?_).1
   refine Aa.us hcall rfl rfl ?_
   by_cases hm:m=0
   ·subst hm
    rw[if_pos rfl]at h6
    refine (mq e1 ?_).1
    exact⟨(a+1,a,x,t',l),⟨by simp only[];omega,by simp only[];omega,by simp only[];omega,by simp only[];omega,f,by simp only[];omega,h6⟩,by simp only[];omega,Wk.to rfl (by simp[Ca])⟩
   ·rw[if_neg hm]at h6
    have c2:(m==0)=false:=by simpa using hm
    obtain⟨m',rfl⟩:∃m':Nat,m=(m':Int):=⟨m.toNat,by omega⟩
    rw[Int.toNat_natCast]at h6
    have e2:IntKind.i64.wrap ((a:Int)+m')=((a+m':Nat):Int):=by rw[IntWalk.i64_in _ (by omega)];omega
    have hlr:(l++Ek b x a).length+1≤1048576:=by
     have:=congrArg List.length h6
     simp only[List.length_append,List.length_singleton]at this ⊢;omega
    have hmul2:a*b.length+b.length≤(a+m')*b.length:=by
     rw[←hmul];exact Nat.mul_le_mul_right _ (by omega)
    refine (mq c2 ?_).1
    refine Aa.us (NW b x a l hb (by omega) hall 2 1 0 7 (by decide)) rfl rfl ?_
    refine (mr @EB e2 ?_).1
    (repeat((with_reducible refine And.intro ?_ ?_);(·exact sd)))
    refine⟨(a+m',a,a+m',t',l++Ek b x a++[⟨[],o,m'⟩]),⟨by simp only[];omega,by simp only[];omega,by simp only[];omega,by simp only[];omega,f,by simp only[];omega,by rw[←h6];simp⟩,by simp only[];omega,(Wk.wao (ys:=[.sl (.row 7) 3 (NY (l++Ek b x a++[⟨[],o,m'⟩]))]) 1 rfl ?_).trans (Wk.to ?_ (by simp[Ca]))⟩
    ·refine Bo.cons (Wa.slS ?_) Bo.nil
     rw[←Sj]
     exact Bo.app (Bo.refl _) (Bo.cons (Wa.agg (Bo.cons Wa.nil (Bo.refl _))) Bo.nil)
    ·simp[tS,Nat.add_assoc]
  ·obtain rfl:a=b.length:=by omega
   have c1:decide ((b.length:Int)<b.length)=false:=by simp
   rw[Aed b f b.length x (Nat.le_refl _)]at h6
   refine (mr @Ab c1 ?_).1
   refine Aa.us (NW b x b.length l hb (Nat.le_refl _) hall 2 1 0 7 (by decide)) rfl rfl ?_
   refine (mq h6 ?_).1
   (refine AF.untag 2 rfl ?_;simp only[Au,List.set_cons_zero,List.set_cons_succ])
   exact FA Ar0 []
theorem Qq (b:List Int) (hb:b.length≤1048576):Ct Tryz.prog 274 [A9 .u8 b] [] (λ_=>.tup [slT (EG b),iA 0]) [] (λ_=>[]):=(Oa b hb).toCt cl cl
abbrev Aq7 (q:List Int×(Int×Int)):AV:=.tup [A9 .u8 q.1,B9 q.2]
theorem Rq (l m:List Int) (hl:AY l) (hm:AY m):An Tryz.prog 160 [A9 .u8 l,A9 .u8 m] [] (bA (BJ l m)) []:=by
 refine RN Tryz.func160 As0 ?_;refine (mr @L9 (Hs hl hm) ?_).1
 exact FA As0 []
theorem Ia (l m:List Int) (hl:AY l) (hm:AY m):Ct Tryz.prog 160 [A9 .u8 l,A9 .u8 m] [] (λ_=>bA (BJ l m)) [] (λ_=>[]):=(Rq l m hl hm).toCt cl cl
def FZ {α:Type} (m:Nat) (lab:α->Nat) (tmF:α->List AV) (SF:α->List Ad) (ok:α->Prop) (Q:QT):QT
 | .goto l',tm,S=>∃a,lab a=l'∧ok a∧Wk m tm S (tmF a) (SF a)
 |e,tm,S=>Q e tm S
def Gz {α:Type} (m:Nat) (lab:α->Nat) (tmF:α->List AV) (SF:α->List Ad) (ok:α->Prop) (μ:α->Nat) (a:α) (Q:QT):QT
 | .goto l',tm,S=>∃a',lab a'=l'∧ok a'∧μ a'<μ a∧Wk m tm S (tmF a') (SF a')
 |e,tm,S=>Q e tm S
section
variable {P:Program} {m:Nat} {tm:List AV} {S:List Ad} {Q:QT} {α:Type} {lab:α->Nat} {tmF:α->List AV} {SF:α->List Ad} {ok:α->Prop} {μ:α->Nat} {a:α}
@[go_sem] theorem Ad7:FZ m lab tmF SF ok Q .normal tm S=Q .normal tm S:=(rfl)
@[go_sem] theorem Amm:FZ m lab tmF SF ok Q .ret tm S=Q .ret tm S:=(rfl)
@[go_sem] theorem Ajq (id:Nat):FZ m lab tmF SF ok Q (.exit id) tm S=Q (.exit id) tm S:=(rfl)
@[go_sem] theorem Ajp (l':Nat):FZ m lab tmF SF ok Q (.goto l') tm S=(∃a,lab a=l'∧ok a∧Wk m tm S (tmF a) (SF a)):=(rfl)
@[go_sem] theorem Acp:Gz m lab tmF SF ok μ a Q .normal tm S=Q .normal tm S:=(rfl)
@[go_sem] theorem Ajr:Gz m lab tmF SF ok μ a Q .ret tm S=Q .ret tm S:=(rfl)
@[go_sem] theorem Aia (id:Nat):Gz m lab tmF SF ok μ a Q (.exit id) tm S=Q (.exit id) tm S:=(rfl)
@[go_sem] theorem Ah9 (l':Nat):Gz m lab tmF SF ok μ a Q (.goto l') tm S=(∃a',lab a'=l'∧ok a'∧μ a'<μ a∧Wk m tm S (tmF a') (SF a')):=(rfl)
theorem Zt {c:C} (lab:α->Nat) (rs:α->C) (hf:∀a,GL c (lab a)=some (rs a)) (tmF:α->List AV) (SF:α->List Ad) (ok:α->Prop) (μ:α->Nat)
 (first:(∀a,ok a->aw P m (rs a) (tmF a) (SF a) (FZ m lab tmF SF ok Q))->aw P m c tm S (FZ m lab tmF SF ok Q)) (pass:∀a,ok a->aw P m (rs a) (tmF a) (SF a) (Gz m lab tmF SF ok μ a Q)):aw P m (.scope c) tm S Q:=by
 refine I8 (λn l' tm S=>∃a,lab a=l'∧ok a∧tm=tmF a∧S=SF a∧n=μ a) (F8 (first λa ha=>F8 (pass a ha) λe tm' S' hq=>?_) λe tm' S' hq=>?_) λn l' tm S ⟨a,hl,ha,h1,h2,h3⟩=>⟨rs a,by rw[←hl];exact hf a,?_⟩
 ·cases e with
  |goto l'=>obtain⟨a',h1,h2,_,h4⟩:=hq;exact⟨a',h1,h2,h4⟩
  |_=>exact hq
 ·cases e with
  |goto l'=>obtain⟨a,h1,h2,h3⟩:=hq;exact⟨_,_,h3,μ a,a,h1,h2,rfl,rfl,rfl⟩
  |_=>exact hq
 ·subst h1 h2 h3
  refine F8 (pass a ha) λe tm' S' hq=>?_
  cases e with
  |goto l'=>obtain⟨a',h1,h2,h3,h4⟩:=hq;exact⟨_,_,h4,μ a',⟨a',h1,h2,rfl,rfl,rfl⟩,h3⟩
  |_=>exact hq
end
section
variable {P:Program} {m:Nat} {tm:List AV} {S:List Ad} {Q:QT} {α:Type}
theorem Zs {c r1 r0:C} (h1:GL c 1=some r1) (h0:GL c 0=some r0) (tmF:Bool×α->List AV) (SF:Bool×α->List Ad) (ok:Bool×α->Prop) (μ:Bool×α->Nat)
 (first:(∀a,ok a->aw P m (cond a.1 r1 r0) (tmF a) (SF a) (FZ m (λa=>cond a.1 1 0) tmF SF ok Q))->aw P m c tm S (FZ m (λa=>cond a.1 1 0) tmF SF ok Q))
 (pass:∀a,ok a->aw P m (cond a.1 r1 r0) (tmF a) (SF a) (Gz m (λa=>cond a.1 1 0) tmF SF ok μ a Q)):aw P m (.scope c) tm S Q:=
 Zt (λa=>cond a.1 1 0) (λa=>cond a.1 r1 r0) (λa=>by cases h:a.1<;>simp only[cond]<;>assumption) tmF SF ok μ first pass
end
def Hk (bound:Int) (s:RS) (out:List Int):List Int×(Int×Int):=if s.code=0 then DT bound s out else([],(s.code,s.fat))
def Ke (s:RS) (out:List Int):List Int×(Int×Int):=if s.code=0 then(out,(0,0))else([],(s.code,s.fat))
theorem Agf {bound:Int} {s:RS} {out:List Int} (h:¬0<s.left):Hk bound s out=Ke s out:=by
 unfold Hk Ke;rw[FP h]
theorem Nv {bound:Int} {s:RS} {out o:List Int} (h:¬s.code=0):Hk bound s out=Ke s o:=by
 unfold Hk Ke;rw[if_neg h,if_neg h]
theorem PG {s:RS} {c a:Int} (h:s.code=0) (hc:c≠0):(s.fail c a).code=c∧(s.fail c a).fat=a:=by
 unfold RS.fail;rw[if_pos h];simp[BW,hc]
theorem KQ {s:RS} {c a:Int} (h:¬s.code=0):s.fail c a=s:=by
 unfold RS.fail;rw[if_neg h]
theorem Abo {bound:Int} {s:RS} {out o:List Int} (hc:s.code=0) (h:0<s.left) (hb:bound<out.length+s.thead.2.2):Hk bound s out=Ke (s.thead.1.fail 11 s.at_) o:=by
 unfold Hk;rw[if_pos hc]
 by_cases hh:s.thead.1.code=0
 ·obtain⟨f1,f2⟩:=PG (a:=s.at_) hh (show(11:Int)≠0 by decide)
  rw[GO h hh hb];unfold Ke;rw[f1,f2];rfl
 ·rw[GP h hh,KQ hh];unfold Ke;rw[if_neg hh]
theorem Agd {bound:Int} {s:RS} {out:List Int} (hs:Av s) (hc:s.code=0) (h:0<s.left) (hb:¬bound<out.length+s.thead.2.2) (hr:s.thead.2.1=false):
 Hk bound s out=Hk bound (s.thead.1.take s.thead.2.2).1 (out++(s.thead.1.take s.thead.2.2).2):=by
 by_cases hh:s.thead.1.code=0
 ·by_cases ht:s.token.1.code=0
  ·obtain⟨m1,m2,m3⟩:=I4 hs ht
   obtain⟨r1,r2,r3,r4⟩:=m3 hr
   have ho:¬(out.length:Int)<s.token.2.off:=by rw[r2];simp only;omega
   unfold Hk
   rw[if_pos hc,if_pos r3,Fo hs h hh hb ht ho,r4,r2]
   simp[GM,Cy]
  ·have e:s.token.1=(s.thead.1.take s.thead.2.2).1:=by
    unfold RS.token;rw[if_pos hh,hr];simp only[Bool.false_eq_true,if_false];split<;>rfl
   unfold Hk
   rw[if_pos hc,FO h hh hb ht,←e,if_neg ht]
 ·have e:(s.thead.1.take s.thead.2.2).1=s.thead.1:=by
   unfold RS.take RS.skip;rw[if_neg hh];rfl
  unfold Hk
  rw[if_pos hc,GP h hh,e,if_neg hh]
theorem Age {bound:Int} {s:RS} {out o:List Int} (hc:s.code=0) (h:0<s.left) (hb:¬bound<out.length+s.thead.2.2) (hr:s.thead.2.1=true) (hf:(out.length:Int)<s.thead.1.toff.2):
 Hk bound s out=Ke (s.thead.1.toff.1.fail 10 s.thead.1.at_) o:=by
 have hh:s.thead.1.code=0:=by
  by_cases hh:s.thead.1.code=0
  ·exact hh
  ·rw[Gn hh]at hr;cases hr
 have ht:s.thead.1.toff.1.code=0:=by
  by_cases ht:s.thead.1.toff.1.code=0
  ·exact ht
  ·rw[Ac7 ht]at hf;omega
 have e:s.token=(s.thead.1.toff.1,⟨[],s.thead.1.toff.2,s.thead.2.2⟩):=by
  unfold RS.token;rw[if_pos hh,if_pos hr,if_pos ht]
 obtain⟨f1,f2⟩:=PG (a:=s.thead.1.at_) ht (show(10:Int)≠0 by decide)
 unfold Hk
 rw[if_pos hc,Kg h hh hb (by rw[e];exact ht) (by rw[e];exact hf)]
 unfold Ke;rw[f1,f2];rfl
theorem Abp {bound:Int} {s:RS} {out:List Int} (hs:Av s) (hc:s.code=0) (h:0<s.left) (hb:¬bound<out.length+s.thead.2.2) (hr:s.thead.2.1=true) (hf:¬(out.length:Int)<s.thead.1.toff.2) (ht:s.thead.1.toff.1.code=0):
 Hk bound s out=Hk bound s.thead.1.toff.1 (Cy out s.thead.1.toff.2.toNat s.thead.2.2.toNat):=by
 have hh:s.thead.1.code=0:=by
  by_cases hh:s.thead.1.code=0
  ·exact hh
  ·rw[Gn hh]at hr;cases hr
 have e:s.token=(s.thead.1.toff.1,⟨[],s.thead.1.toff.2,s.thead.2.2⟩):=by
  unfold RS.token;rw[if_pos hh,if_pos hr,if_pos ht]
 unfold Hk
 rw[if_pos hc,if_pos ht,Fo hs h hh hb (by rw[e];exact ht) (by rw[e];exact hf),e]
 simp[GM]
theorem Xd {bound:Int} {s:RS} {out:List Int} (hc:s.code=0) (h:0<s.left) (hb:¬bound<out.length+s.thead.2.2) (hr:s.thead.2.1=true) (ht:¬s.thead.1.toff.1.code=0) (o:List Int):
 Hk bound s out=Ke s.thead.1.toff.1 o:=by
 have hh:s.thead.1.code=0:=by
  by_cases hh:s.thead.1.code=0
  ·exact hh
  ·rw[Gn hh]at hr;cases hr
 have e:s.token=(s.thead.1.toff.1,K7):=by
  unfold RS.token;rw[if_pos hh,if_pos hr,if_neg ht]
 unfold Hk Ke
 rw[if_pos hc,if_neg ht,FO h hh hb (by rw[e];exact ht),e]
theorem Vn (s:RS) (n:Int):(s.take n).2.length≤n.toNat:=by
 unfold RS.take;split
 ·simp only[List.length_take];omega
 ·simp
theorem Abl {s:RS} {c:Int} (a:Int) (hc:c≠0):¬(s.fail c a).code=0:=by
 by_cases h:s.code=0
 ·exact IA h hc
 ·rw[KQ h];exact h
theorem Vk {s:RS} (h:Av s):0≤s.thead.2.2∧s.thead.2.2≤1048576:=by
 by_cases hh:s.thead.1.code=0
 ·obtain⟨_,_,h3⟩:=JK h hh
  rcases h3 with⟨_,_,a,b⟩|⟨_,_,a,b⟩<;>omega
 ·rw[Gn hh];simp
def JF (b:List Int) (bound:Int) (s:RS) (out:List Int):Prop:=s.l=b∧(out.length:Int)≤max bound 0∧(s.code=0->(out.length:Int)≤1048576*s.at_)∧out.length≤1048576*b.length
theorem JF.bad {b:List Int} {bound:Int} {s t:RS} {out:List Int} (h:JF b bound s out) (hl:t.l=s.l) (hc:¬t.code=0):JF b bound t out:=⟨hl.trans h.1,h.2.1,λh=>absurd h hc,h.2.2.2⟩
theorem JF.more {b:List Int} {bound:Int} {s t:RS} {out o:List Int} (h:JF b bound s out) (hs:s.code=0) (ht:Av t) (hl:t.l=s.l) (ha:s.at_<t.at_) (h1:(o.length:Int)≤max bound 0) (h2:o.length≤out.length+1048576):JF b bound t o:=by
 obtain⟨a1,a2,a3,a4⟩:=h
 have:=a3 hs
 have h5:=ht.at1
 have h6:t.l.length=b.length:=by rw[hl,a1]
 exact⟨hl.trans a1,h1,λ_=>by omega,by omega⟩
set_option maxRecDepth 100000 in
theorem OG (b:List Int) (bound:Int) (b0: -9223372036854775808≤bound) (b1:bound<9223372036854775808) (hb:AY b) (hn:b.length≤1000000):An Tryz.prog 246 [A9 .u8 b,iA bound] [] (Aq7 (DT bound (RS.new b) [])) []:=by
 obtain⟨E,hE⟩:∃E,DT bound (RS.new b) []=E:=⟨_,rfl⟩
 rw[hE]
 refine RM Tryz.func246 Ao0 ?_
 refine Zs (α:=RS×List Int) (by rfl) (by rfl) (λa=>[A9 .u8 b,iA bound,.any,.any,.any,.ref 0 0,.ref 1 0,HS 2 a.2.2,.any,.any,.any,.any,.any,.any,.any,.any,.any,.any,.any,.any,.any,.any,.any,.any,.any,.any,.any,.any,.any,.any,.any,.any,.any,.any,.any,.any,.any,.any,.any,.any,.any,.any,.any,.any,.any,.any,.any,.any,.any,.any,.any,.any,.any,.any,.any,.any,.any,.any,.any,.any,.any,.any,.any,.any,.any,.any,.any,.any,.any,.any,.any]) (λa=>[.cells [iA 0,iA 0],A7 a.2.1,.row 1 a.2.2.length]) (λa=>Av a.2.1∧JF b bound a.2.1 a.2.2∧(cond a.1 (Hk bound a.2.1 a.2.2) (Ke a.2.1 a.2.2))=E) (λa=>cond a.1 (1+if a.2.1.code=0 then a.2.1.left.toNat+1 else 0) 0) (λpass=>?_) ?_
 ·refine (mp ?_).1
  refine Aa.n (Ce b) (mp ?_).1
  exact QK ((Wk.row 7 1 rfl (.inl rfl) (Nat.le_refl _)).trans (Wk.to (by simp) (by simp[Ca,A2]))) (pass (true,RS.new b,[]) ⟨Av.new hb (by omega),⟨rfl,by simp;omega,by simp[RS.new],by simp⟩,by simp only[cond];rw[←hE];rfl⟩)
 ·rintro⟨c,R,out⟩ ⟨h1,h2,h3⟩
  simp only at h1 h2 h3
  obtain⟨g1,g2,g3,g4⟩:=h2
  cases c
  ·simp only[cond]at h3 ⊢
   refine (mp ?_).1
   refine Aa.r1 (A3 R _) rfl (mp ?_).1
   by_cases hc:R.code=0
   ·have q:(R.code==0)=true:=by simpa using hc
    have he:E=(out,(0,0)):=by rw[←h3];unfold Ke;rw[if_pos hc]
    refine Aa.p (Aw _ _) (mq q ?_).1
    (refine AF.untag 4 rfl ?_;simp only[Au,List.set_cons_zero,List.set_cons_succ])
    exact FE Ao0 [] he
   ·have q:(R.code==0)=false:=by simpa using hc
    have he:E=([],(R.code,R.fat)):=by rw[←h3];unfold Ke;rw[if_neg hc]
    refine Aa.p (Aw _ _) (mq q ?_).1
    (refine AF.untag 4 rfl ?_;simp only[Au,List.set_cons_zero,List.set_cons_succ])
    exact FE Ao0 [] he
  ·simp only[cond]at h3 ⊢
   refine (mp ?_).1
   refine Aa.r1 (Gb R _ h1.ok) rfl (mp ?_).1
   by_cases hl:R.left=0
   ·have q:(R.left==0)=true:=by simpa using hl
    refine (mq q ?_).1
    exact⟨(false,R,out),rfl,⟨h1,⟨g1,g2,g3,g4⟩,(Agf (s:=R) (by omega)).symm.trans h3⟩,by simp only;omega,Wk.to (by simp) (by simp[Ca])⟩
   ·have q:(R.left==0)=false:=by simpa using hl
    refine (mq q ?_).1
    by_cases hc:R.code=0
    ·refine Aa.r1 (Ak R _) rfl (mq (AW hc) ?_).1
     refine Aa.r1 (AP R _) rfl (mp ?_).1
     refine Aa.u1 (Vi R _ h1) rfl (mp ?_).1
     have hlp:0<R.left:=by obtain⟨z1,z2,z3⟩:=h1.ok;unfold RS.left at hl ⊢;omega
     have ew:IntKind.i64.wrap (bound-(out.length:Int))=bound-out.length:=IntWalk.i64_in _ (by omega)
     obtain⟨k1,k2⟩:=EC h1
     obtain⟨m1,m2⟩:=Vk h1
     by_cases ho:bound-(out.length:Int)<R.thead.2.2
     ·have q2:decide (bound-(out.length:Int)<R.thead.2.2)=true:=by simpa using ho
      refine (ms @Ab ew q2 ?_).1
      refine Aa.u1 (Ar R.thead.1 11 R.at_ _) rfl (mp ?_).1
      exact⟨(false,R.thead.1.fail 11 R.at_,out),rfl,⟨k1.fail _ _,JF.bad ⟨g1,g2,g3,g4⟩ (by rw[Bl];exact k2) (Abl _ (by decide)),(Abo hc hlp (by omega)).symm.trans h3⟩,by simp only;omega,Wk.to (by simp) (by simp[Ca])⟩
     ·have q2:decide (bound-(out.length:Int)<R.thead.2.2)=false:=by simpa using ho
      cases hr:R.thead.2.1
      ·refine (mt @Ab ew q2 hr ?_).1
       refine Aa.u1 (CH R.thead.1 R.thead.2.2 _ k1.ok) rfl ?_;simp only[go_sem,seval,CV,Ab,←List.length_append];refine (mok ?_).1
       have hts:=Vn R.thead.1 R.thead.2.2
       have hlen:((out++(R.thead.1.take R.thead.2.2).2).length:Int)≤max bound 0:=by rw[List.length_append];omega
       have hmade:JF b bound (R.thead.1.take R.thead.2.2).1 (out++(R.thead.1.take R.thead.2.2).2):=by
        have hl2:(R.thead.1.take R.thead.2.2).1.l=R.l:=by rw[(k1.ok.take R.thead.2.2).2];exact k2
        by_cases hz:(R.thead.1.take R.thead.2.2).1.code=0
        ·have hh:R.thead.1.code=0:=by
          by_cases hh:R.thead.1.code=0
          ·exact hh
          ·unfold RS.take RS.skip at hz;rw[if_neg hh]at hz;exact absurd hz hh
         have e:R.token.1=(R.thead.1.take R.thead.2.2).1:=by
          unfold RS.token;rw[if_pos hh,hr];simp only[Bool.false_eq_true,if_false];split<;>rfl
         have hat:=(HM h1 (by rw[e];exact hz)).2.2.2.1
         rw[e]at hat
         exact JF.more ⟨g1,g2,g3,g4⟩ hc (k1.take _) hl2 hat hlen (by rw[List.length_append];omega)
        ·rw[JL hz,List.append_nil]
         exact JF.bad ⟨g1,g2,g3,g4⟩ hl2 hz
       refine⟨by rw[List.length_append];omega,(true,(R.thead.1.take R.thead.2.2).1,out++(R.thead.1.take R.thead.2.2).2),rfl,⟨k1.take _,hmade,(Agd h1 hc hlp (by omega) hr).symm.trans h3⟩,?_,Wk.to (by simp) (by simp[Ca])⟩
       simp only[cond]
       rw[if_pos hc]
       split
       ·rename_i hz
        have hh:R.thead.1.code=0:=by
         by_cases hh:R.thead.1.code=0
         ·exact hh
         ·unfold RS.take RS.skip at hz;rw[if_neg hh]at hz;exact absurd hz hh
        have e:R.token.1=(R.thead.1.take R.thead.2.2).1:=by
         unfold RS.token;rw[if_pos hh,hr];simp only[Bool.false_eq_true,if_false];split<;>rfl
        have hlt:=(D0 h1 (by rw[e];exact hz)).1
        rw[e]at hlt
        omega
       ·omega
      ·refine (mt @Ab ew q2 hr ?_).1
       refine Aa.r1 (AP R.thead.1 _) rfl (mp ?_).1
       refine Aa.u1 (P7 R.thead.1 _ k1) rfl (mp ?_).1
       obtain⟨k3,k4⟩:=O2 k1
       by_cases hf:(out.length:Int)<R.thead.1.toff.2
       ·have q3:decide ((out.length:Int)<R.thead.1.toff.2)=true:=by simpa using hf
        refine (mr @Ab q3 ?_).1
        refine Aa.u1 (Ar R.thead.1.toff.1 10 R.thead.1.at_ _) rfl (mp ?_).1
        have hbad:¬(R.thead.1.toff.1.fail 10 R.thead.1.at_).code=0:=by
         by_cases ht:R.thead.1.toff.1.code=0
         ·exact IA ht (by decide)
         ·rw[KQ ht];exact ht
        refine Aa.r1 (Ak (R.thead.1.toff.1.fail 10 R.thead.1.at_) _) rfl (mq (Ay hbad) ?_).1
        exact⟨(true,R.thead.1.toff.1.fail 10 R.thead.1.at_,out),rfl,⟨k3.fail _ _,JF.bad ⟨g1,g2,g3,g4⟩ (by rw[Bl,k4,k2]) hbad,((Age hc hlp (by omega) hr hf (o:=out)).trans (Nv hbad).symm).symm.trans h3⟩,by simp only[cond];rw[if_pos hc,if_neg hbad];omega,Wk.to (by simp) (by simp[Ca])⟩
       ·have q3:decide ((out.length:Int)<R.thead.1.toff.2)=false:=by simpa using hf
        refine (mr @Ab q3 ?_).1
        by_cases ht:R.thead.1.toff.1.code=0
        ·refine Aa.r1 (Ak R.thead.1.toff.1 _) rfl (mq (AW ht) ?_).1
         have hh:R.thead.1.code=0:=by
          by_cases hh:R.thead.1.code=0
          ·exact hh
          ·rw[Gn hh]at hr;cases hr
         obtain⟨j1,j2,j3⟩:=JK h1 hh
         have hn1:4≤R.thead.2.2∧R.thead.2.2≤1048576:=by
          rcases j3 with⟨c1,c2,c3,c4⟩|⟨c1,c2,c3,c4⟩
          ·exact⟨c3,c4⟩
          ·rw[hr]at c1;cases c1
         obtain⟨t1,t2,t3,t4⟩:=P9 ht
         have hvr:=Bk (s:=R.thead.1) k1.bys
         have htk:R.token=(R.thead.1.toff.1,⟨[],R.thead.1.toff.2,R.thead.2.2⟩):=by
          unfold RS.token;rw[if_pos hh,if_pos hr,if_pos ht]
         have hlt:=(D0 h1 (by rw[htk];exact ht)).1
         rw[htk]at hlt
         simp only at hlt
         have hal:=K2 R.thead.1.toff.2.toNat R.thead.2.2.toNat out
         have hat:=(HM h1 (by rw[htk];exact ht)).2.2.2.1
         rw[htk]at hat
         simp only at hat
         have hmade:JF b bound R.thead.1.toff.1 (Cy out R.thead.1.toff.2.toNat R.thead.2.2.toNat):=JF.more ⟨g1,g2,g3,g4⟩ hc k3 (k4.trans k2) hat (by omega) (by omega)
         refine Aa.o1 (Rf out R.thead.1.toff.2 R.thead.2.2 _ hn1.2 (λ_=>⟨by omega,by omega⟩) (by omega)) rfl (mp ?_).1
         exact⟨(true,R.thead.1.toff.1,Cy out R.thead.1.toff.2.toNat R.thead.2.2.toNat),rfl,⟨k3,hmade,(Abp h1 hc hlp (by omega) hr hf ht).symm.trans h3⟩,by simp only[cond];rw[if_pos hc,if_pos ht];omega,Wk.to (by simp) (by simp[Ca])⟩
        ·refine Aa.r1 (Ak R.thead.1.toff.1 _) rfl (mq (Ay ht) ?_).1
         exact⟨(true,R.thead.1.toff.1,out),rfl,⟨k3,JF.bad ⟨g1,g2,g3,g4⟩ (k4.trans k2) ht,((Xd hc hlp (by omega) hr ht out).trans (Nv ht).symm).symm.trans h3⟩,by simp only[cond];rw[if_pos hc,if_neg ht];omega,Wk.to (by simp) (by simp[Ca])⟩
    ·refine Aa.r1 (Ak R _) rfl (mq (Ay hc) ?_).1
     exact⟨(false,R,out),rfl,⟨h1,⟨g1,g2,g3,g4⟩,(Nv hc).symm.trans h3⟩,by simp only;omega,Wk.to (by simp) (by simp[Ca])⟩
theorem Rg (b:List Int) (bound:Int) (b0: -9223372036854775808≤bound) (b1:bound<9223372036854775808) (hb:AY b) (hn:b.length≤1000000):Ct Tryz.prog 246 [A9 .u8 b,iA bound] [] (λ_=>Aq7 (DT bound (RS.new b) [])) [] (λ_=>[]):=(OG b bound b0 b1 hb hn).toCt cl cl
theorem Vj {b:List Int} (hb:b.length≤1048576):Sh (EG b)=(Bg b,0):=by
 unfold Sh
 rw[if_pos (VE.2 (JW hb))];rfl
theorem Qr (b:List Int) (hb:b.length≤1048576):An Tryz.prog 272 [A9 .u8 b] [] (.tup [A9 .u8 (Bg b),iA 0]) []:=by
 have hl:=Je b
 have et:=Vj hb
 refine RM Tryz.func272 Ar2 ?_
 refine Aa.p (Qq b hb) (mp ?_).1
 refine Aa.p (Sg (EG b) (by omega) (λt ht=>by have:=hl.2 t ht;omega)) ?_;refine (mq et ?_).1
 exact FA Ar2 []
theorem S7 (b:List Int) (hb:b.length≤1048576):Ct Tryz.prog 272 [A9 .u8 b] [] (λ_=>.tup [A9 .u8 (Bg b),iA 0]) [] (λ_=>[]):=(Qr b hb).toCt cl cl
theorem MV {b:List Int} (hb:b.length≤1048576):(Bg b).length≤4000000000000:=by
 have hl:=Je b
 have h1:=Vf (EG b)
 have h2:=(MG (l:=EG b) λt ht=>by have:=hl.2 t ht;omega).2
 unfold Bg
 omega
def Oc (b:List Int):List Int×Bool:=if FJ b=true then(Bg b,true)else([],false)
theorem OP (b:List Int) (hb:b.length≤1048576):An Tryz.prog 260 [A9 .u8 b] [] (.tup [A9 .u8 (Oc b).1,bA (Oc b).2]) []:=by
 have hl:=MV hb
 have e1:max ((Bg b).length:Int) 0=(Bg b).length:=by omega
 have e2:decide ((b.length:Int)≤((vb ((Bg b).length:Int)).length:Int)+(Bg b).length)= !FJ b:=by unfold FJ;rw[←decide_not];simp
 refine RM Tryz.func260 Aov ?_
 refine Aa.p (S7 b hb) (mq @Ab ?_).1
 refine Aa.p (IK _ (by omega)) (ms e1 @Ab e2 ?_).1
 cases hp:FJ b with
 |true=>
  refine (mp ?_).1
  (refine FB Aov [] ?_ ?_<;>first|with_reducible rfl|(simp[Ae,Ah,Ai,Ag,Oc,hp];done)|rfl)
 |false=>
  refine (mp ?_).1
  (refine AF.untag 2 rfl ?_;simp only[Au,List.set_cons_zero,List.set_cons_succ])
  (refine FB Aov [] ?_ ?_<;>first|with_reducible rfl|(simp[Ae,Ah,Ai,Ag,Oc,hp];done)|rfl)
theorem Ru (b:List Int) (hb:b.length≤1048576):Ct Tryz.prog 260 [A9 .u8 b] [] (λ_=>.tup [A9 .u8 (Oc b).1,bA (Oc b).2]) [] (λ_=>[]):=(OP b hb).toCt cl cl
def WS.blk (s:WS) (b:List Int):WS:=if FJ b=true then(((s.put (vb b.length)).put [1]).put (vb ((Bg b).length:Int))).put (Bg b)else((s.put (vb b.length)).put [0]).put b
theorem WS.fine.blk {s:WS} (h:s.fine) (b:List Int):(s.blk b).fine:=by
 unfold WS.blk
 split
 ·exact(((h.put _).put _).put _).put _
 ·exact((h.put _).put _).put _
theorem YD {s:WS} {b:List Int} (h:s.code=0) (hm:(s.l.length:Int)+(CM b).length≤s.most):s.blk b=⟨s.most,s.l++CM b,0⟩:=by
 unfold WS.blk
 unfold CM at hm ⊢
 cases hp:FJ b with
 |true=>
  rw[hp,if_pos rfl]at hm
  simp only[List.length_append,List.length_singleton]at hm
  rw[if_pos rfl,if_pos rfl,WS.put_ok h (by omega)]
  rw[WS.put_ok (s:={s with l:=s.l++vb (b.length:Int)}) h (by simp only[List.length_append,List.length_singleton];omega)]
  rw[WS.put_ok (s:={s with l:=s.l++vb (b.length:Int)++[1]}) h (by simp only[List.length_append,List.length_singleton];omega)]
  rw[WS.put_ok (s:={s with l:=s.l++vb (b.length:Int)++[1]++vb ((Bg b).length:Int)}) h (by simp only[List.length_append,List.length_singleton];omega)]
  cases s;simp at h;simp[h]
 |false=>
  rw[hp,if_neg (by simp)]at hm
  simp only[List.length_append,List.length_singleton]at hm
  rw[if_neg (by simp),if_neg (by simp),WS.put_ok h (by omega)]
  rw[WS.put_ok (s:={s with l:=s.l++vb (b.length:Int)}) h (by simp only[List.length_append,List.length_singleton];omega)]
  rw[WS.put_ok (s:={s with l:=s.l++vb (b.length:Int)++[0]}) h (by simp only[List.length_append,List.length_singleton];omega)]
  cases s;simp at h;simp[h]
theorem Xy (s:WS) (b:List Int) (hs:s.fine) (hb:b.length≤1048576):An Tryz.prog 237 [.ref 0 0,A9 .u8 b] [B4 1 s,A1 s] (.tup []) [B4 1 (s.blk b),A1 (s.blk b)]:=by
 have c0:decide ((1048576:Int)<b.length)=false:=by simp;omega
 have e:=Fe b (by omega)
 have hl:=MV hb
 refine RN Tryz.func237 Ao4 ?_;refine (ms @Ab c0 e ?_).1
 refine Aa.u2 (Bx s b.length 0 1 (by decide) (by omega) (by omega) hs.ok (hs.room _)) rfl rfl (mp ?_).1
 refine Aa.p (Ru b hb) (mp ?_).1
 cases hp:FJ b with
 |true=>
  have e1:Oc b=(Bg b,true):=by unfold Oc;rw[hp];rfl
  have eb:s.blk b=(((s.put (vb b.length)).put [1]).put (vb ((Bg b).length:Int))).put (Bg b):=by unfold WS.blk;rw[hp];rfl
  have h1:[AV.lit (.int .u8 1)]=A2 .u8 [1]:=rfl
  refine (mr e1 h1 ?_).1
  (repeat((with_reducible refine And.intro ?_ ?_);(·exact sd)))
  refine Aa.u2 (B0 _ [1] 0 1 (by decide) (hs.put _).ok ((hs.put _).room _)) rfl rfl (mp ?_).1
  refine Aa.u2 (UJ _ (Bg b) 0 1 (by decide) ((hs.put _).put _) (by omega)) rfl rfl (mp ?_).1
  rw[eb]
  exact FA Ao4 [0,1]
 |false=>
  have e1:Oc b=([],false):=by unfold Oc;rw[hp];rfl
  have eb:s.blk b=((s.put (vb b.length)).put [0]).put b:=by unfold WS.blk;rw[hp];rfl
  have h1:[AV.lit (.int .u8 0)]=A2 .u8 [0]:=rfl
  refine (mr e1 h1 ?_).1
  (repeat((with_reducible refine And.intro ?_ ?_);(·exact sd)))
  refine Aa.u2 (B0 _ [0] 0 1 (by decide) (hs.put _).ok ((hs.put _).room _)) rfl rfl (mp ?_).1
  refine Aa.u2 (B0 _ b 0 1 (by decide) ((hs.put _).put _).ok (((hs.put _).put _).room _)) rfl rfl (mp ?_).1
  rw[eb]
  exact FA Ao4 [0,1]
theorem PT (s:WS) (b:List Int) (i j:Nat) (h:i≠j) (hs:s.fine) (hb:b.length≤1048576):Ct Tryz.prog 237 [.ref i 0,A9 .u8 b] [(i,B4 j s),(j,A1 s)] (λ_=>.tup []) [(i,B4 j (s.blk b)),(j,A1 (s.blk b))] (λ_=>[]):=Ct.u2 (Xy s b hs hb) i j h cl cl cl cl cl (BI _ _) (Bm _) Ci
theorem Rv (b:List Int) (hb:b.length≤1048576):An Tryz.prog 191 [A9 .u8 b] [] (.tup [A9 .u8 (CM b),iA 0]) []:=by
 have e1:max (b.length:Int) 0=b.length:=by omega
 have hv:=Bd (b.length:Int)
 have e2:IntKind.i64.wrap (((vb (b.length:Int)).length:Int)+b.length+1)=(vb (b.length:Int)).length+b.length+1:=IntWalk.i64_in _ (by omega)
 have f0:(WS.new (((vb (b.length:Int)).length:Int)+b.length+1)).fine:=WS.fine.new (by omega)
 have hbl:=Kn b
 have hfit:(WS.new (((vb (b.length:Int)).length:Int)+b.length+1)).blk b=⟨((vb (b.length:Int)).length:Int)+b.length+1,CM b,0⟩:=by
  rw[WS.new_is (by omega),YD rfl (by simp;omega)];simp
 refine RN Tryz.func191 Asr ?_;refine (mq @Ab ?_).1
 refine Aa.p (IK (b.length:Int) (by omega)) (mr e1 e2 ?_).1
 refine Aa.n (ER _) (mp ?_).1
 refine Aa.u2 (PT _ b 0 1 (by decide) f0 hb) rfl rfl (mq hfit ?_).1
 refine Aa.r2 (B1 _ 0 1 (by decide) (by simp only[];omega)) rfl rfl ?_;refine (mp ?_).1
 (refine FB Asr [] ?_ ?_<;>first|with_reducible rfl|(simp[Ae,Ah,Ai,Ag,WS.bytes];done)|rfl)
theorem UG (b:List Int) (hb:b.length≤1048576):Ct Tryz.prog 191 [A9 .u8 b] [] (λ_=>.tup [A9 .u8 (CM b),iA 0]) [] (λ_=>[]):=(Rv b hb).toCt cl cl
def Up (b:Int) (l:List Int):List Int:=if Cv b l=true then Dg b l l.length else[]
theorem Rm (b:Int) (l:List Int) (b0:0≤b) (b1:b<18446744073709551616) (hl:Fi l) (hn:l.length*8≤140737488355328):An Tryz.prog 255 [uA b,Ks l] [] (.tup [Ks (Up b l),bA (Cv b l)]) []:=by
 refine RN Tryz.func255 Aoy ?_;refine (mq @Ab ?_).1
 refine AM (α:=Nat) (λk=>[uA (bat b l k),.any,.any,.any,.any,.any,.sl (.row 0) 1 (A2 .u64 (Dg b l k)),.any,.any,Ks l,iA l.length,iA k,.any,.any,.any,.any,.any,.any,.any,.any,.any,.any,.any,.any,.any,.any,.any,.any]) (λk=>[.row 1 k]) (λk=>k≤l.length∧∀i,i<k->l.getD i 0<bat b l i) (λk=>l.length-k) 0 ⟨by simp,by intro i hi;omega⟩ ((Wk.row 6 1 rfl (.inl rfl) (Nat.le_refl _)).trans (Wk.to (by simp) (by simp[Ca,A2,Dg,bat]))) ?_
 rintro k ⟨hk,hf⟩
 have hbk:bat b l k<18446744073709551616:=by
  unfold bat
  split
  ·exact b1
  ·exact(hl _ (CG l (k-1) (by omega))).2
 refine (mp ?_).1
 refine Ax (λh=>?_) (λh=>?_)
 ·have hlt:k<l.length:=by simpa using h
  have g:=E_ l k hlt
  have hx:=hl _ (CG l k hlt)
  have ei:=AJ k (by omega)
  refine (mr g @Ab ?_).1
  (repeat((with_reducible refine And.intro ?_ ?_);(·exact sd)))
  refine Ax (λh=>?_) (λh=>?_)
  ·have h2:bat b l k≤l.getD k 0:=by simpa using h
   have hno:Cv b l=false:=Abe hlt h2
   refine (mp ?_).1
   (refine AF.untag 4 rfl ?_;simp only[Au,List.set_cons_zero,List.set_cons_succ])
   (refine FB Aoy [] ?_ ?_<;>first|with_reducible rfl|(simp[Ae,Ah,Ai,Ag,hno,Up];done)|rfl)
  ·have h2:l.getD k 0<bat b l k:=by simp at h;simpa using h
   have hs:=IG b l k
   have e1:IntKind.u64.wrap (bat b l k-l.getD k 0)=bat b l k-l.getD k 0:=IntWalk.u64_in _ (by omega)
   have e2:IntKind.u64.wrap (bat b l k-l.getD k 0-1)=dst b l k:=by rw[IntWalk.u64_in _ (by omega),Ale];omega
   simp only[go_sem,seval,e1,e2,ei,D9,←hs,Ab,Ew];refine (mok ?_).1
   (repeat((with_reducible refine And.intro ?_ ?_);(·exact sd)))
   refine⟨k+1,⟨hlt,λi hi=>?_⟩,by omega,Wk.to (by simp) (by simp[Ca,Aha])⟩
   rcases Nat.lt_or_ge i k with h3|h3
   ·exact hf i h3
   ·obtain rfl:i=k:=by omega
    exact h2
 ·have ek:k=l.length:=by simp at h;omega
  have hyes:Cv b l=true:=Abf.2 λi hi=>hf i (by omega)
  refine (mp ?_).1
  (refine AF.untag 4 rfl ?_;simp only[Au,List.set_cons_zero,List.set_cons_succ])
  (refine FB Aoy [] ?_ ?_<;>first|with_reducible rfl|(simp[Ae,Ah,Ai,Ag,hyes,Up,ek];done)|rfl)
theorem H8 (b:Int) (l:List Int) (b0:0≤b) (b1:b<18446744073709551616) (hl:Fi l) (hn:l.length*8≤140737488355328):Ct Tryz.prog 255 [uA b,Ks l] [] (λ_=>.tup [Ks (Up b l),bA (Cv b l)]) [] (λ_=>[]):=(Rm b l b0 b1 hl hn).toCt cl cl
theorem Rn (b:Int) (l:List Int) (b0:0≤b) (b1:b<18446744073709551616) (hl:Fi l) (hn:l.length*8≤140737488355328):An Tryz.prog 226 [uA b,Ks l] [] (bA (Cv b l)) []:=by
 refine RM Tryz.func226 Asg ?_
 refine Aa.p (H8 b l b0 b1 hl hn) (mp ?_).1
 exact FA Asg []
theorem Us (b:Int) (l:List Int) (b0:0≤b) (b1:b<18446744073709551616) (hl:Fi l) (hn:l.length*8≤140737488355328):Ct Tryz.prog 226 [uA b,Ks l] [] (λ_=>bA (Cv b l)) [] (λ_=>[]):=(Rn b l b0 b1 hl hn).toCt cl cl
def WS.fall (s:WS) (b:Int) (l:List Int):WS:=if Cv b l=true then(s.put (vb l.length)).puts (Dg b l l.length)else s.fail 3
theorem Xn (s:WS) (b:Int) (l:List Int) (hs:s.fine) (b0:0≤b) (b1:b<18446744073709551616) (hl:Fi l) (hn:l.length*8≤140737488355328):An Tryz.prog 271 [.ref 0 0,uA b,Ks l] [B4 1 s,A1 s] (.tup []) [B4 1 (s.fall b l),A1 (s.fall b l)]:=by
 have e:=Fe l (by omega)
 refine RM Tryz.func271 Aos ?_
 refine Aa.p (H8 b l b0 b1 hl hn) ?_
 cases hf:Cv b l
 ·refine (mq hf ?_).1
  refine Aa.u2 (Cp s 3 0 1 (by decide)) rfl rfl (mp ?_).1
  (refine FB Aos [0,1] ?_ ?_<;>first|with_reducible rfl|(simp[Ae,Ah,Ai,Ag,WS.fall,hf];done)|rfl)
 ·have hd:Up b l=Dg b l l.length:=by unfold Up;rw[if_pos hf]
  refine (mt hf hd @Ab e ?_).1
  refine Aa.u2 (Bx s l.length 0 1 (by decide) (by omega) (by omega) hs.ok (hs.room _)) rfl rfl (mr @Ab @Ew ?_).1
  refine AM (α:=Nat) (λk=>[.ref 0 0,.any,.any,.any,.any,.any,.any,.any,.any,.any,.any,.any,.any,.any,.any,.any,.any,.any,.any,.any,.any,.any,.any,.any,.any,Ks (Dg b l l.length),iA l.length,iA k,.any,.any,.any,.any,.any,.any,.any]) (λk=>[B4 1 ((s.put (vb l.length)).puts (Dg b l k)),A1 ((s.put (vb l.length)).puts (Dg b l k))]) (λk=>k≤l.length) (λk=>l.length-k) 0 (by simp) (Wk.to (by simp[WS.puts,Dg]) (by simp[Ca])) ?_
  intro k hk
  refine (mp ?_).1
  refine Ax (λh=>?_) (λh=>?_)
  ·have hlt:k<l.length:=by simpa using h
   have g:(A2 .u64 (Dg b l l.length)).getD (k:Int).toNat .any=uA (dst b l k):=by rw[E_ _ k (by rw[Ew];exact hlt),Uo b l _ k hlt]
   have hx:=KR b1 hl hf hlt
   have ei:=AJ k (by omega)
   have hps:=Pc (s.put (vb l.length)) (Dg b l k) (dst b l k)
   rw[←IG]at hps
   refine (ms g @Ab @Ew ?_).1
   (repeat((with_reducible refine And.intro ?_ ?_);(·exact sd)))
   refine Aa.u2 (Bx _ (dst b l k) 0 1 (by decide) hx.1 hx.2 ((hs.put _).puts _).ok (((hs.put _).puts _).room _)) rfl rfl ?_;simp only[go_sem,seval,ei,←hps];refine (mok ?_).1
   exact⟨k+1,hlt,by omega,Wk.to (by simp) (by simp[Ca])⟩
  ·have ek:k=l.length:=by simp at h;omega
   refine (mp ?_).1
   (refine FB Aos [0,1] ?_ ?_<;>first|with_reducible rfl|(simp[Ae,Ah,Ai,Ag,WS.fall,hf,ek];done)|rfl)
theorem Abw (s:WS) (b:Int) (l:List Int) (i j:Nat) (h:i≠j) (hs:s.fine) (b0:0≤b) (b1:b<18446744073709551616) (hl:Fi l) (hn:l.length*8≤140737488355328):Ct Tryz.prog 271 [.ref i 0,uA b,Ks l] [(i,B4 j s),(j,A1 s)] (λ_=>.tup []) [(i,B4 j (s.fall b l)),(j,A1 (s.fall b l))] (λ_=>[]):=Ct.u2 (Xn s b l hs b0 b1 hl hn) i j h cl cl cl cl cl (BI _ _) (Bm _) Ci
theorem Uq (b:Int) (l:List Int) (b0:0≤b) (b1:b<18446744073709551616) (hl:Fi l) (hn:l.length*10≤140737488355328):An Tryz.prog 270 [uA b,Ks l] [] (iA (if Cv b l=true then(DJ b l).length else 0)) []:=by
 have e:=Fe l (by omega)
 have eB:((DJ b l).length:Int)=(vb l.length).length+(I0 (Dg b l l.length)).length:=by simp[DJ]
 have hv:=(Bd l.length).2
 refine RM Tryz.func270 Aot ?_
 refine Aa.p (H8 b l b0 b1 hl (by omega)) ?_
 cases hf:Cv b l
 ·refine (mq hf ?_).1
  exact FE Aot [] hf
 ·have hd:Up b l=Dg b l l.length:=by unfold Up;rw[if_pos hf]
  refine (mt hf hd @Ab e ?_).1
  refine Aa.p (CU l.length (by omega) (by omega)) (mr @Ab @Ew ?_).1
  refine AM (α:=Nat) (λk=>[.any,.any,.any,.any,.any,.any,.any,iA ((vb l.length).length+(I0 (Dg b l k)).length),.any,.any,.any,.any,.any,.any,.any,.any,.any,.any,.any,.any,.any,.any,Ks (Dg b l l.length),iA l.length,iA k,.any,.any,.any,.any,.any,.any,.any,.any,.any]) (λ_=>[]) (λk=>k≤l.length) (λk=>l.length-k) 0 (by simp) (Wk.to (by simp) (by simp[Ca,I0,Dg])) ?_
  intro k hk
  refine (mp ?_).1
  refine Ax (λh=>?_) (λh=>?_)
  ·have hlt:k<l.length:=by simpa using h
   have g:(A2 .u64 (Dg b l l.length)).getD (k:Int).toNat .any=uA (dst b l k):=by rw[E_ _ k (by rw[Ew];exact hlt),Uo b l _ k hlt]
   have hx:=KR b1 hl hf hlt
   have ei:=AJ k (by omega)
   have h1:=P0 (Dg b l k)
   rw[Ew]at h1
   have h2:=(Bd (dst b l k)).2
   have es:IntKind.i64.wrap (((vb (l.length:Int)).length:Int)+((I0 (Dg b l k)).length:Int)+((vb (dst b l k)).length:Int))=(vb (l.length:Int)).length+(I0 (Dg b l (k+1))).length:=by
    rw[IntWalk.i64_in _ (by omega),IG,R9,List.length_append];omega
   refine (ms g @Ab @Ew ?_).1
   (repeat((with_reducible refine And.intro ?_ ?_);(·exact sd)))
   refine Aa.p (CU _ hx.1 hx.2) (mr es ei ?_).1
   exact⟨k+1,hlt,by omega,Wk.to (by simp) (by simp[Ca])⟩
  ·have ek:k=l.length:=by simp at h;omega
   refine (mp ?_).1
   (refine FB Aot [] ?_ ?_<;>first|with_reducible rfl|(simp[Ae,Ah,Ai,Ag,ek,hf,eB];done)|rfl)
theorem Xm (b:Int) (l:List Int) (b0:0≤b) (b1:b<18446744073709551616) (hl:Fi l) (hn:l.length*10≤140737488355328):Ct Tryz.prog 270 [uA b,Ks l] [] (λ_=>iA (if Cv b l=true then(DJ b l).length else 0)) [] (λ_=>[]):=(Uq b l b0 b1 hl hn).toCt cl cl
theorem Xa {b:Int} {s:RS} {acc:List Int} (hx:HC b acc≤s.vint.2):((Df b).f s acc).1=s.vint.1.fail 13 s.at_∧¬((Df b).f s acc).1.code=0:=by
 show(if s.vint.1.code=0∧HC b acc≤s.vint.2 then(s.vint.1.fail 13 s.at_,(0:Int))else(s.vint.1,HC b acc-1-s.vint.2)).1=_∧_
 by_cases hc:s.vint.1.code=0
 ·refine⟨by rw[if_pos ⟨hc,hx⟩],?_⟩
  show¬(if s.vint.1.code=0∧HC b acc≤s.vint.2 then(s.vint.1.fail 13 s.at_,(0:Int))else(s.vint.1,HC b acc-1-s.vint.2)).1.code=0
  rw[if_pos ⟨hc,hx⟩];exact BM _ _ hc (by decide)
 ·refine⟨?_,?_⟩
  ·rw[if_neg λh=>hc h.1];unfold RS.fail;rw[if_neg hc]
  ·show¬(if s.vint.1.code=0∧HC b acc≤s.vint.2 then(s.vint.1.fail 13 s.at_,(0:Int))else(s.vint.1,HC b acc-1-s.vint.2)).1.code=0
   rw[if_neg λh=>hc h.1];exact hc
theorem Xb {b:Int} {s:RS} {acc:List Int} (hx:s.vint.2<HC b acc):(Df b).f s acc=(s.vint.1,HC b acc-1-s.vint.2):=by
 show(if s.vint.1.code=0∧HC b acc≤s.vint.2 then(s.vint.1.fail 13 s.at_,(0:Int))else(s.vint.1,HC b acc-1-s.vint.2))=_
 rw[if_neg (by omega)]
set_option maxRecDepth 100000 in
theorem Ur (s:RS) (b m:Int) (b0:0≤b) (b1:b<18446744073709551616) (m1:m<9223372036854775808) (hs:Av s) (hn:s.l.length*8≤140737488355328):An Tryz.prog 248 [.ref 0 0,uA b,iA m] [A7 s] (Ks (s.fall b m).2) [A7 ((s.fall b m).1)]:=by
 have hF:=Kd b1
 have hir:=D_ (s:=s) (m:=m) hs.bys
 obtain⟨hi1,hi2⟩:=hs.int m
 unfold RS.fall Ef.counted
 refine RM Tryz.func248 Alz ?_
 refine Aa.u1 (A4 s m 0 m1 hs.ok hs.bys) rfl ?_
 generalize hu:(s.int m).1=u at*
 generalize(s.int m).2=z at*
 obtain⟨N,hN⟩:∃N,z.toNat=N:=⟨_,rfl⟩
 have hz:z=(N:Int):=by omega
 subst hz
 rw[Int.toNat_natCast]
 refine (mp ?_).1
 refine AM (α:=RS×List Int) (λa=>[.ref 0 0,uA (HC b a.2),.any,.any,.any,.any,.any,.sl (.row 1) 1 (A2 .u64 a.2),.any,.any,.any,.any,iA N,iA a.2.length,.any,.any,.any,.any,.any,.any,.any,.any,.any,.any,.any,.any,.any,.any,.any,.any,.any,.any,.any,.any,.any,.any,.any,.any]) (λa=>[A7 a.1,.row 1 a.2.length]) ((Df b).On u N) (λa=>N-a.2.length) (u,[]) (Ef.On.start hi1 N) ((Wk.row 7 1 rfl (.inl rfl) (Nat.le_refl _)).trans (Wk.to (by simp) (by simp[Ca,A2,HC]))) ?_
 rintro⟨t,acc⟩ ho
 have hla:=ho.len
 rw[hi2]at hla
 have h1:=ho.ok
 have h6:=ho.res
 have hw:=Ma ho.wf
 simp only at h1 h6 hw
 refine (mp ?_).1
 refine Ax (λh=>?_) (λh=>?_)
 ·have hlt:acc.length<N:=by simpa using h
  have ei:=AJ acc.length (by omega)
  have hx:=Bk (s:=t) h1.bys
  refine (mp ?_).1
  refine Aa.r1 (AP t 0) rfl (mp ?_).1
  refine Aa.u1 (B3 t 0 h1.ok h1.bys) rfl (mp ?_).1
  by_cases hv:HC b acc≤t.vint.2
  ·have q:decide (HC b acc≤t.vint.2)=true:=by simpa using hv
   obtain⟨o1,o2⟩:=Xa (b:=b) (s:=t) (acc:=acc) hv
   have hb:=FL (F:=Df b) (s:=t) hlt o2
   rw[h6,o1]at hb
   rw[o1]at o2
   refine (mq q ?_).1
   refine Aa.u1 (Ar _ 13 _ 0) rfl (mp ?_).1
   refine Aa.r1 (Ak _ 0) rfl (mq (Ay o2) ?_).1
   (refine AF.untag 6 rfl ?_;simp only[Au,List.set_cons_zero,List.set_cons_succ])
   exact FE Alz [0] hb
  ·have q:decide (HC b acc≤t.vint.2)=false:=by simpa using hv
   have hf:=Xb (b:=b) (s:=t) (acc:=acc) (by omega)
   refine (mq q ?_).1
   refine Aa.r1 (Ak _ 0) rfl ?_
   by_cases hc:t.vint.1.code=0
   ·have hnx:=ho.next hF hlt (by rw[hf];exact hc)
    rw[hf]at hnx
    have hl2:=hnx.len
    rw[List.length_append,List.length_singleton,hi2]at hl2
    have e1:IntKind.u64.wrap (t.vint.2+1)=t.vint.2+1:=IntWalk.u64_in _ (by omega)
    have e2:IntKind.u64.wrap (HC b acc-(t.vint.2+1))=HC b acc-1-t.vint.2:=by rw[IntWalk.u64_in _ (by omega)];omega
    simp only[go_sem,seval,AW hc,e1,e2,D9,Ab,ei];refine (mok ?_).1
    (repeat((with_reducible refine And.intro ?_ ?_);(·exact sd)))
    exact⟨(t.vint.1,acc++[HC b acc-1-t.vint.2]),hnx,by simp;omega,Wk.to (by simp) (by simp[Ca,UE])⟩
   ·have hb:=FL (F:=Df b) (s:=t) (acc:=acc) hlt (by rw[hf];exact hc)
    rw[h6,hf]at hb
    refine (mq (Ay hc) ?_).1
    (refine AF.untag 6 rfl ?_;simp only[Au,List.set_cons_zero,List.set_cons_succ])
    exact FE Alz [0] hb
 ·have hge:N≤acc.length:=by simpa using h
  have hb:=M3 (F:=Df b) (s:=t) hge
  rw[h6]at hb
  refine (mp ?_).1
  (refine AF.untag 6 rfl ?_;simp only[Au,List.set_cons_zero,List.set_cons_succ])
  exact FE Alz [0] hb
theorem Jy (s:RS) (b m:Int) (i:Nat) (b0:0≤b) (b1:b<18446744073709551616) (m1:m<9223372036854775808) (hs:Av s) (hn:s.l.length*8≤140737488355328):Ct Tryz.prog 248 [.ref i 0,uA b,iA m] [(i,A7 s)] (λ_=>Ks (s.fall b m).2) [(i,A7 ((s.fall b m).1))] (λ_=>[]):=Ct.u1 (Ur s b m b0 b1 m1 hs hn) i cl (λρ=>Ao ρ _) (λρ=>Ao ρ _) (rdr_dead _) cl
abbrev R6 (x:Lk):AV:=.agg [uA x.st,Ks x.bk]
def L8 (l:List Lk):List AV:=l.map R6
abbrev Gp (l:List Lk):AV:=.sl .none 2 (L8 l)
@[simp] theorem Qj (ρ:Nat->Nat) (l:List Lk):(L8 l).map (λx=>x.ren ρ)=L8 l:=by
 have h:∀(k:IntKind) (m:List Int),(A2 k m).map (λx=>x.ren ρ)=A2 k m:=AN ρ
 simp[L8,AT]
@[simp] theorem Anh (ρ:Nat->Nat) (k:IntKind) (l:List Int):(A2 k l).map (λx=>x.ren ρ)=A2 k l:=AN ρ k l
theorem Ba (l:List Lk):(L8 l).length=l.length:=by simp[L8]
theorem Qz:L8 []=[]:=(rfl)
theorem M6 (l:List Lk) (x:Lk):L8 l++[R6 x]=L8 (l++[x]):=by simp[L8]
theorem Eo (l:List Lk) (k:Nat) (h:k<l.length):(L8 l).getD k .any=R6 (l.getD k EH):=by simp[L8,h]
theorem Aka (l:List Lk) (k:Nat) (h:k<l.length):l.take (k+1)=l.take k++[l.getD k EH]:=by
 rw[List.take_succ_eq_append_getElem h];simp[h]
theorem NX.take {l:List Lk} (h:NX l) (k:Nat):NX (l.take k):=λx hx=>h x (List.mem_of_mem_take hx)
theorem Nl (k:Nat) (h0:0<k) (h:k<140737488355328):IntKind.i64.wrap ((k:Int)-1)=((k-1:Nat):Int):=by rw[IntWalk.i64_in _ (by omega)];omega
theorem QB (x:Lk):An Tryz.prog 224 [R6 x] [] (uA x.st) []:=by
 refine RM Tryz.func224 Ash ?_
 exact FA Ash []
theorem Lh (x:Lk):Ct Tryz.prog 224 [R6 x] [] (λ_=>uA x.st) [] (λ_=>[]):=(QB x).toCt cl cl
set_option maxRecDepth 100000 in
theorem Tu (l:List Lk) (hn:l.length≤1000000):An Tryz.prog 223 [Gp l,.fn 224 [] []] [] (bA (El l)) []:=by
 refine RN Tryz.func223 Ao9 ?_;refine (mq @Ba ?_).1
 refine AM (α:=Nat) (λk=>[Gp l,.fn 224 [] [],.any,.any,.any,.any,.any,iA l.length,iA k,.any,.any,.any,.any,.any,.any,.any,.any,.any,.any,.any,.any,.any,.any,.any,.any,.any,.any,.any,.any,.any]) (λ_=>[]) (λk=>k≤l.length∧∀i,i<k->0<i->(l.getD (i-1) EH).st<(l.getD i EH).st) (λk=>l.length-k) 0 ⟨by simp,λi hi=>by omega⟩ (Wk.to (by simp) (by simp[Ca])) ?_
 rintro k ⟨hk,hall⟩
 refine (mp ?_).1
 by_cases hlt:k<l.length
 ·have q1:decide ((k:Int)<(l.length:Int))=true:=by simp;omega
  have ek:=AJ k (by omega)
  have g:=Eo l k hlt
  by_cases h0:0<k
  ·have q2:decide ((0:Int)<(k:Int))=true:=by simp;omega
   have ep:=Nl k h0 (by omega)
   have g2:=Eo l (k-1) (by omega)
   simp only[go_sem,seval,q1,q2,g,Ba,Int.toNat_natCast];refine (mok ?_).1
   (repeat((with_reducible refine And.intro ?_ ?_);(·exact sd)))
   refine Aa.p (Lh (l.getD k EH)) (mt ep g2 @Ba @Int.toNat_natCast ?_).1
   (repeat((with_reducible refine And.intro ?_ ?_);(·exact sd)))
   refine Aa.p (Lh (l.getD (k-1) EH)) ?_
   by_cases hs:(l.getD k EH).st≤(l.getD (k-1) EH).st
   ·have q3:decide ((l.getD k EH).st≤(l.getD (k-1) EH).st)=true:=by simpa using hs
    have e:El l=false:=by
     cases hr:El l with
     |false=>rfl
     |true=>have:=Fx.1 hr k hlt h0;omega
    refine (mq q3 ?_).1
    exact FE Ao9 [] e
   ·have q3:decide ((l.getD k EH).st≤(l.getD (k-1) EH).st)=false:=by simpa using hs
    refine (mr q3 ek ?_).1
    exact⟨k+1,⟨hlt,λi hi h1=>by
     rcases Nat.lt_or_ge i k with h|h
     ·exact hall i h h1
     ·obtain rfl:i=k:=by omega
      omega⟩,by omega,Wk.to (by simp) (by simp[Ca])⟩
  ·have q2:decide ((0:Int)<(k:Int))=false:=by simp;omega
   refine (ms q1 q2 ek ?_).1
   exact⟨k+1,⟨hlt,λi hi h1=>by omega⟩,by omega,Wk.to (by simp) (by simp[Ca])⟩
 ·have q1:decide ((k:Int)<(l.length:Int))=false:=by simp;omega
  have e:El l=true:=Fx.2 λi hi h0=>hall i (by omega) h0
  refine (mq q1 ?_).1
  exact FE Ao9 [] e
theorem Wm (l:List Lk) (hn:l.length≤1000000):Ct Tryz.prog 223 [Gp l,.fn 224 [] []] [] (λ_=>bA (El l)) [] (λ_=>[]):=(Tu l hn).toCt cl cl
theorem Akv {α:Type} {p:α->Bool} {l:List α} (h:∀x∈l,p x=false):l.findIdx p=l.length:=List.findIdx_eq_length.2 h
theorem Tv (f:FuncId) (o:Ad) (ok:Lk->Bool) (ho:∀ρ,o.ren ρ=o) (hd:o≠ .dead) (l:List Lk) (hf:∀x∈l,∀i,Ct Tryz.prog f [R6 x,.ref i 0] [(i,o)] (λ_=>bA (ok x)) [] (λ_=>[])) (hn:l.length≤1000000):
 An Tryz.prog 168 [Gp l,.fn f [] [.ref 0 0]] [o] (iA (l.findIdx ok)) [o]:=by
 refine RN Tryz.func168 Aph ?_;refine (mq @Ba ?_).1
 refine AM (α:=Nat) (λk=>[Gp l,.fn f [] [.ref 0 0],.any,.any,.any,.any,.any,Gp l,iA l.length,iA k,.any,.any,.any,.any,.any,.any,.any,.any,.any,.any,.any]) (λ_=>[o]) (λk=>k≤l.length∧∀i (h:i<l.length),i<k->ok l[i]=false) (λk=>l.length-k) 0 ⟨by simp,λi _ hi=>by omega⟩ (Wk.to (by simp) (by simp[Ca])) ?_
 rintro k ⟨hk,hall⟩
 refine (mp ?_).1
 by_cases hlt:k<l.length
 ·have q1:decide ((k:Int)<(l.length:Int))=true:=by simp;omega
  have ek:=AJ k (by omega)
  have g:=Eo l k hlt
  have eg:l.getD k EH=l[k]:=by simp[hlt]
  have hm:=Ep l k hlt
  have hfx:=hf _ hm 0
  rw[eg]at g hfx
  refine (mt q1 g @Ba @Int.toNat_natCast ?_).1
  (repeat((with_reducible refine And.intro ?_ ?_);(·exact sd)))
  refine Aa.r1 (hfx) rfl ?_
  by_cases hs:ok l[k]=true
  ·have e:l.findIdx ok=k:=by
    rw[List.findIdx_eq hlt]
    exact⟨hs,λj hj=>hall j (by omega) hj⟩
   refine (mq hs ?_).1
   exact FF Aph [0] e ho
  ·have hs':ok l[k]=false:=by simpa using hs
   refine (mr hs' ek ?_).1
   exact⟨k+1,⟨hlt,λi h hi=>by
    rcases Nat.lt_or_ge i k with h1|h1
    ·exact hall i h h1
    ·obtain rfl:i=k:=by omega
     exact hs'⟩,by omega,Wk.sel [0] (by simp) rfl (by simp) rfl (by simp[ho]) (by simp[Cq,AT])⟩
 ·have q1:decide ((k:Int)<(l.length:Int))=false:=by simp;omega
  have e:l.findIdx ok=l.length:=Akv λx hx=>by
   obtain⟨i,hi,rfl⟩:=List.getElem_of_mem hx
   exact hall i hi (by omega)
  refine (mr q1 @Ba ?_).1
  exact FF Aph [0] e ho
theorem Wn (f:FuncId) (o:Ad) (ok:Lk->Bool) (ho:∀ρ,o.ren ρ=o) (hd:o≠ .dead) (l:List Lk) (hf:∀x∈l,∀i,Ct Tryz.prog f [R6 x,.ref i 0] [(i,o)] (λ_=>bA (ok x)) [] (λ_=>[])) (hn:l.length≤1000000) (i:Nat):
 Ct Tryz.prog 168 [Gp l,.fn f [] [.ref i 0]] [(i,o)] (λ_=>iA (l.findIdx ok)) [] (λ_=>[]):=Ct.r1 (Tv f o ok ho hd l hf hn) i cl ho hd Ci
abbrev Ajx (x:Int):Ad:=.cells [uA x]
theorem QD (pos:Int) (x:Lk) (hx:x.ok) (p0:0≤pos) (p1:pos<18446744073709551616) (hn:x.bk.length≤1000000):An Tryz.prog 225 [R6 x,.ref 0 0] [Ajx pos] (bA (!GH pos x)) [Ajx pos]:=by
 refine RN Tryz.func225 Ao8 ?_;refine (mq @Ab ?_).1
 by_cases h4:x.bk.length≤4
 ·have q1:decide (4<(x.bk.length:Int))=false:=by simp;omega
  have e:GH pos x=Cv pos x.bk:=by unfold GH;rw[decide_eq_true h4];simp
  refine (mq q1 ?_).1
  refine Aa.p (Us pos x.bk p0 p1 hx.b (by omega)) (mp ?_).1
  exact FE Ao8 [0] e
 ·have q1:decide (4<(x.bk.length:Int))=true:=by simp;omega
  have e:GH pos x=false:=by unfold GH;rw[decide_eq_false h4];simp
  refine (mq q1 ?_).1
  exact FE Ao8 [0] e
theorem Tx (pos:Int) (x:Lk) (hx:x.ok) (p0:0≤pos) (p1:pos<18446744073709551616) (hn:x.bk.length≤1000000) (i:Nat):Ct Tryz.prog 225 [R6 x,.ref i 0] [(i,Ajx pos)] (λ_=>bA (!GH pos x)) [] (λ_=>[]):=
 Ct.r1 (QD pos x hx p0 p1 hn) i cl (λρ=>by simp[AT]) (by simp) Ci
def D6 (l:List Lk):Prop:=l.length≤1000000∧∀x∈l,x.bk.length≤1000000
theorem Ty (pos:Int) (l:List Lk) (hl:NX l) (hm:D6 l) (p0:0≤pos) (p1:pos<18446744073709551616):An Tryz.prog 167 [uA pos,Gp l] [] (bA (BO pos l)) []:=by
 obtain⟨hn,hb⟩:=hm
 refine RN Tryz.func167 Al4 ?_;refine (mq @Ba ?_).1
 by_cases h16:l.length≤16
 ·have q1:decide (16<(l.length:Int))=false:=by simp;omega
  refine (mq q1 ?_).1
  refine Aa.p (Wm l hn) ?_
  by_cases hr:El l=true
  ·have he:BO pos l=((l.findIdx λx=> !GH pos x:Nat)==l.length):=by
    rw[Bool.eq_iff_iff,EE,beq_iff_eq,List.findIdx_eq_length]
    simp[h16,hr]
   have he2:(((l.findIdx λx=> !GH pos x:Nat):Int)==(l.length:Int))=BO pos l:=by
    rw[he,Bool.eq_iff_iff,beq_iff_eq,beq_iff_eq];omega
   refine (mq hr ?_).1
   refine Aa.r1 (Wn 225 (Ajx pos) (λx=> !GH pos x) (λρ=>by simp[AT]) (by simp) l (λx hx i=>Tx pos x (hl x hx) p0 p1 (hb x hx) i) hn _) rfl (mr @Ba he2 ?_).1
   exact FA Al4 []
  ·have hr':El l=false:=by simpa using hr
   have he:BO pos l=false:=by simp[BO,hr']
   refine (mq hr' ?_).1
   exact FE Al4 [] he
 ·have q1:decide (16<(l.length:Int))=true:=by simp;omega
  have he:BO pos l=false:=by simp[BO,h16]
  refine (mq q1 ?_).1
  exact FE Al4 [] he
theorem Ji (pos:Int) (l:List Lk) (hl:NX l) (hm:D6 l) (p0:0≤pos) (p1:pos<18446744073709551616):Ct Tryz.prog 167 [uA pos,Gp l] [] (λ_=>bA (BO pos l)) [] (λ_=>[]):=(Ty pos l hl hm p0 p1).toCt cl cl
def GY (l:List Lk) (i:Nat):Int:=(l.getD i EH).st-HH (l.take i)-1
def Fu (l:List Lk) (k:Nat):List Int:=(List.range k).map (GY l)
theorem Vp (l:List Lk) (k:Nat):Fu l (k+1)=Fu l k++[GY l k]:=by simp[Fu,List.range_succ]
theorem ED (l:List Lk) (k:Nat):(Fu l k).length=k:=by simp[Fu]
theorem O6 (l:List Lk) (n k:Nat) (h:k<n):(Fu l n).getD k 0=GY l k:=by simp[Fu,h]
theorem I5 {l:List Lk} (hl:NX l) (hr:El l=true) {i:Nat} (hi:i<l.length):0≤GY l i∧GY l i<18446744073709551616:=by
 have ho:=hl _ (Ep l i hi)
 have h0:=ho.s0
 have h1:=ho.s1
 unfold GY
 rw[J2 l i (by omega)]
 split
 ·omega
 ·rename_i hz
  have:=Fx.1 hr i hi (by omega)
  have hp:=(hl _ (Ep l (i-1) (by omega))).s0
  omega
set_option maxRecDepth 100000 in
theorem Tt (l:List Lk) (hl:NX l) (hr:El l=true) (hn:l.length≤1000000):An Tryz.prog 269 [Gp l] [] (Ks (Fu l l.length)) []:=by
 refine RN Tryz.func269 Ar3 ?_;refine (mq @Ba ?_).1
 refine AM (α:=Nat) (λk=>[Gp l,.any,.any,.sl (.row 0) 1 (A2 .u64 (Fu l k)),.any,.any,.any,Gp l,iA l.length,iA k,.any,.any,.any,.any,.any,.any,.any,.any,.any,.any,.any,.any,.any,.any,.any,.any,.any,.any,.any,.any,.any,.any,.any]) (λk=>[.row 1 k]) (λk=>k≤l.length) (λk=>l.length-k) 0 (by simp) ((Wk.row 3 1 rfl (.inl rfl) (by decide)).trans (Wk.to (by simp) (by simp[Ca,A2,Fu]))) ?_
 intro k hk
 have hkl:=ED l k
 refine (mp ?_).1
 by_cases hlt:k<l.length
 ·have q1:decide ((k:Int)<(l.length:Int))=true:=by simp;omega
  have ek:=AJ k (by omega)
  have g:=Eo l k hlt
  have ho:=hl _ (Ep l k hlt)
  have hs:=I5 hl hr hlt
  have hss:=Vp l k
  have est:GY l k=if k=0 then(l.getD k EH).st else(l.getD k EH).st-(l.getD (k-1) EH).st-1:=by
   unfold GY
   rw[J2 l k (by omega)]
   split
   ·omega
   ·rfl
  by_cases h0:0<k
  ·have q2:decide ((0:Int)<(k:Int))=true:=by simp;omega
   rw[if_neg (by omega)]at est
   have ep:=Nl k h0 (by omega)
   have g2:=Eo l (k-1) (by omega)
   have hp:=hl _ (Ep l (k-1) (by omega))
   have hp0:=hp.s0
   have ho1:=ho.s1
   have w1:IntKind.u64.wrap ((l.getD (k-1) EH).st+1)=(l.getD (k-1) EH).st+1:=IntWalk.u64_in _ (by omega)
   have w2:IntKind.u64.wrap ((l.getD k EH).st-((l.getD (k-1) EH).st+1))=GY l k:=by rw[IntWalk.u64_in _ (by omega)];omega
   simp only[go_sem,seval,q1,q2,g,g2,ep,w1,w2,Ba,Int.toNat_natCast];refine (mok ?_).1
   (repeat((with_reducible refine And.intro ?_ ?_);(·exact sd)))
   simp only[go_sem,seval,D9,←hss,Ab,hkl,ek];refine (mok ?_).1
   (repeat((with_reducible refine And.intro ?_ ?_);(·exact sd)))
   exact⟨k+1,by omega,by omega,Wk.sel [0] (by simp) rfl (by simp) rfl (by simp[AT]) (by simp[Cq,AT])⟩
  ·have q2:decide ((0:Int)<(k:Int))=false:=by simp;omega
   rw[if_pos (by omega)]at est
   simp only[go_sem,seval,q1,q2,g,←est,D9,←hss,Ab,hkl,ek,Ba,Int.toNat_natCast];refine (mok ?_).1
   (repeat((with_reducible refine And.intro ?_ ?_);(·exact sd)))
   exact⟨k+1,by omega,by omega,Wk.sel [0] (by simp) rfl (by simp) rfl (by simp[AT]) (by simp[Cq,AT])⟩
 ·have q1:decide ((k:Int)<(l.length:Int))=false:=by simp;omega
  have ek:k=l.length:=by omega
  refine (mq q1 ?_).1
  (refine AF.untag 2 rfl ?_;simp only[Au,List.set_cons_zero,List.set_cons_succ])
  exact FE Ar3 [] ek
theorem M8 (l:List Lk) (hl:NX l) (hr:El l=true) (hn:l.length≤1000000):Ct Tryz.prog 269 [Gp l] [] (λ_=>Ks (Fu l l.length)) [] (λ_=>[]):=(Tt l hl hr hn).toCt cl cl
def WS.lkN (s:WS) (pos:Int) (l:List Lk):Nat->WS
 |0=>s.put (vb l.length)
 |k+1=>((s.lkN pos l k).put (vb (GY l k))).fall pos (l.getD k EH).bk
def WS.links (s:WS) (pos:Int) (l:List Lk):WS:=if BO pos l=true then s.lkN pos l l.length else s.fail 3
theorem WS.fine.fall {s:WS} (h:s.fine) (b:Int) (l:List Int):(s.fall b l).fine:=by
 unfold WS.fall
 split
 ·exact(h.put _).puts _
 ·exact h.fail 3
theorem WS.fine.lkN {s:WS} (h:s.fine) (pos:Int) (l:List Lk):∀k,(s.lkN pos l k).fine:=by
 intro k
 induction k with
 |zero=>exact h.put _
 |succ k ih=>exact(ih.put _).fall _ _
theorem WS.fine.links {s:WS} (h:s.fine) (pos:Int) (l:List Lk):(s.links pos l).fine:=by
 unfold WS.links;split
 ·exact h.lkN pos l _
 ·exact h.fail 3
theorem CO {s:WS} {m:List Int} (h:s.code=0) (hm:(s.l.length:Int)+m.length≤s.most):s.put m=⟨s.most,s.l++m,0⟩:=by
 rw[WS.put_ok h hm];cases s;simp at h;simp[h]
theorem Af9 {s:WS} {b:Int} {l:List Int} (h:s.code=0) (hf:Cv b l=true) (hm:(s.l.length:Int)+(DJ b l).length≤s.most):s.fall b l=⟨s.most,s.l++DJ b l,0⟩:=by
 unfold DJ at hm
 rw[List.length_append]at hm
 unfold WS.fall
 rw[if_pos hf,CO h (by omega),MR rfl _ (by simp only[List.length_append];omega)]
 simp[DJ]
theorem IF {pos:Int} {l:List Lk} {k:Nat} (h:k<l.length):BR (CS pos).enc [] (l.take (k+1))=BR (CS pos).enc [] (l.take k)++(vb (GY l k)++DJ pos (l.getD k EH).bk):=by
 rw[Aka l k h,GQ]
 rfl
theorem Yt {pos:Int} {l:List Lk}:∀k,k≤l.length->(BR (CS pos).enc [] (l.take k)).length≤(BR (CS pos).enc [] l).length:=by
 intro k hk
 have gen:∀n,k+n=l.length->(BR (CS pos).enc [] (l.take k)).length≤(BR (CS pos).enc [] l).length:=by
  intro n
  induction n generalizing k with
  |zero=>intro h;rw[List.take_of_length_le (by omega)];exact Nat.le_refl _
  |succ n ih=>
   intro h
   have h1:=ih (k+1) (by omega) (by omega)
   rw[IF (by omega),List.length_append]at h1
   omega
 exact gen (l.length-k) (by omega)
theorem Akb {s:WS} {pos:Int} {l:List Lk} (hr:BO pos l=true) (h:s.code=0) (hm:(s.l.length:Int)+(Cm pos l).length≤s.most):∀k,k≤l.length->s.lkN pos l k=⟨s.most,s.l++(vb l.length++BR (CS pos).enc [] (l.take k)),0⟩:=by
 obtain⟨r1,r2,r3⟩:=EE.1 hr
 unfold Cm at hm
 rw[List.length_append]at hm
 intro k
 induction k with
 |zero=>intro _;unfold WS.lkN;rw[CO h (by omega)];simp[BR]
 |succ k ih=>
  intro hk
  have hle:=Yt (pos:=pos) (l:=l) (k+1) hk
  have he:=IF (pos:=pos) (l:=l) (k:=k) (by omega)
  have hel:=congrArg List.length he
  simp only[List.length_append]at hel
  unfold WS.lkN
  rw[ih (by omega),CO rfl (by simp only[List.length_append];omega),Af9 rfl (GG.1 (r3 _ (Ep l k (by omega)))).2 (by simp only[List.length_append];omega),he]
  simp only[List.append_assoc]
theorem Aac {s:WS} {pos:Int} {l:List Lk} (hr:BO pos l=true) (h:s.code=0) (hm:(s.l.length:Int)+(Cm pos l).length≤s.most):s.links pos l=⟨s.most,s.l++Cm pos l,0⟩:=by
 unfold WS.links
 rw[if_pos hr,Akb hr h hm _ (Nat.le_refl _),List.take_length];rfl
theorem Abh {b:Int} {l:List Int} (h:l.length≤4):(DJ b l).length≤50:=by
 unfold DJ
 rw[List.length_append]
 have h1:=(Bd (l.length:Int)).2
 have h2:=P0 (Dg b l l.length)
 rw[Ew]at h2
 omega
theorem Jh {pos:Int} {l:List Lk} (hr:BO pos l=true):(Cm pos l).length≤970:=by
 obtain⟨r1,r2,r3⟩:=EE.1 hr
 have hv:=(Bd (l.length:Int)).2
 have key:∀k,k≤l.length->(BR (CS pos).enc [] (l.take k)).length≤60*k:=by
  intro k
  induction k with
  |zero=>intro _;simp[BR]
  |succ k ih=>
   intro hk
   have h1:=ih (by omega)
   rw[IF (by omega),List.length_append,List.length_append]
   have h2:=(Bd (GY l k)).2
   have h3:=Abh (b:=pos) (GG.1 (r3 _ (Ep l k (by omega)))).1
   omega
 have:=key l.length (Nat.le_refl _)
 rw[List.take_length]at this
 unfold Cm
 rw[List.length_append];omega
set_option maxRecDepth 100000 in
theorem Aaf (s:WS) (pos:Int) (l:List Lk) (hs:s.fine) (hl:NX l) (hm:D6 l) (p0:0≤pos) (p1:pos<18446744073709551616):An Tryz.prog 259 [.ref 0 0,uA pos,Gp l] [B4 1 s,A1 s] (.tup []) [B4 1 (s.links pos l),A1 (s.links pos l)]:=by
 have hn:=hm.1
 have e:=Fe l (by omega)
 refine RM Tryz.func259 Aow ?_
 refine Aa.p (Ji pos l hl hm p0 p1) ?_
 by_cases hr:BO pos l=true
 ·obtain⟨r1,r2,r3⟩:=EE.1 hr
  refine (ms hr @Ba e ?_).1
  refine Aa.u2 (Bx s l.length 0 1 (by decide) (by omega) (by omega) hs.ok (hs.room _)) rfl rfl (mp ?_).1
  refine Aa.p (M8 l hl r2 hn) (mr @Ab @ED ?_).1
  refine AM (α:=Nat) (λk=>[.ref 0 0,uA pos,Gp l,.any,.any,.any,.any,.any,.any,.any,.any,.any,.any,.any,.any,.any,.any,.any,.any,.any,Ks (Fu l l.length),iA l.length,iA k,.any,.any,.any,.any,.any,.any,.any,.any,.any,.any,.any,.any,.any,.any,.any,.any]) (λk=>[B4 1 (s.lkN pos l k),A1 (s.lkN pos l k)]) (λk=>k≤l.length) (λk=>l.length-k) 0 (by simp) (Wk.to (by rfl) (by simp[Ca])) ?_
  intro k hk
  have hf:=hs.lkN pos l k
  refine (mp ?_).1
  by_cases hlt:k<l.length
  ·have q1:decide ((k:Int)<(l.length:Int))=true:=by simp;omega
   have ek:=AJ k (by omega)
   have g:=Eo l k hlt
   have g2:=E_ (Fu l l.length) k (by rw[ED];exact hlt)
   rw[O6 l _ k hlt,Int.toNat_natCast]at g2
   have hx:=I5 hl r2 hlt
   have ho:=hl _ (Ep l k hlt)
   have hsm:=hm.2 _ (Ep l k hlt)
   simp only[go_sem,seval,q1,g2,Ab,ED,Int.toNat_natCast];refine (mok ?_).1
   (repeat((with_reducible refine And.intro ?_ ?_);(·exact sd)))
   refine Aa.u2 (Bx (s.lkN pos l k) (GY l k) 0 1 (by decide) hx.1 hx.2 hf.ok (hf.room _)) rfl rfl (ms g @Ba @Int.toNat_natCast ?_).1
   (repeat((with_reducible refine And.intro ?_ ?_);(·exact sd)))
   refine Aa.u2 (Abw ((s.lkN pos l k).put (vb (GY l k))) pos (l.getD k EH).bk 0 1 (by decide) (hf.put _) p0 p1 ho.b (by omega)) rfl rfl (mq ek ?_).1
   exact⟨k+1,by omega,by omega,Wk.to (by rfl) (by simp[Ca])⟩
  ·have q1:decide ((k:Int)<(l.length:Int))=false:=by simp;omega
   have ek:k=l.length:=by omega
   subst ek
   refine (mq q1 ?_).1
   (refine FB Aow [0,1] ?_ ?_<;>first|with_reducible rfl|(simp[Ae,Ah,Ai,Ag,WS.links,hr];done)|rfl)
 ·have hr':BO pos l=false:=by simpa using hr
  refine (mq hr' ?_).1
  refine Aa.u2 (Cp s 3 0 1 (by decide)) rfl rfl (mp ?_).1
  (refine FB Aow [0,1] ?_ ?_<;>first|with_reducible rfl|(simp[Ae,Ah,Ai,Ag,WS.links,hr'];done)|rfl)
theorem Aff (s:WS) (pos:Int) (l:List Lk) (i j:Nat) (h:i≠j) (hs:s.fine) (hl:NX l) (hm:D6 l) (p0:0≤pos) (p1:pos<18446744073709551616):Ct Tryz.prog 259 [.ref i 0,uA pos,Gp l] [(i,B4 j s),(j,A1 s)] (λ_=>.tup []) [(i,B4 j (s.links pos l)),(j,A1 (s.links pos l))] (λ_=>[]):=Ct.u2 (Aaf s pos l hs hl hm p0 p1) i j h cl cl cl cl cl (BI _ _) (Bm _) Ci
def K8 (pos:Int) (l:List Lk):Int:=if BO pos l=true then(Cm pos l).length else 0
set_option maxRecDepth 100000 in
theorem Wo (pos:Int) (l:List Lk) (hl:NX l) (hm:D6 l) (p0:0≤pos) (p1:pos<18446744073709551616):An Tryz.prog 257 [uA pos,Gp l] [] (iA (K8 pos l)) []:=by
 have hn:=hm.1
 have e:=Fe l (by omega)
 refine RM Tryz.func257 Aox ?_
 refine Aa.p (Ji pos l hl hm p0 p1) ?_
 by_cases hr:BO pos l=true
 ·obtain⟨r1,r2,r3⟩:=EE.1 hr
  have hbl:=Jh hr
  unfold Cm at hbl
  rw[List.length_append]at hbl
  refine (ms hr @Ba e ?_).1
  refine Aa.p (CU l.length (by omega) (by omega)) (mp ?_).1
  refine Aa.p (M8 l hl r2 hn) (mr @Ab @ED ?_).1
  refine AM (α:=Nat) (λk=>[uA pos,Gp l,.any,.any,.any,iA ((vb l.length++BR (CS pos).enc [] (l.take k)).length:Nat),.any,.any,.any,.any,.any,.any,.any,.any,.any,.any,.any,Ks (Fu l l.length),iA l.length,iA k,.any,.any,.any,.any,.any,.any,.any,.any,.any,.any,.any,.any,.any,.any,.any,.any,.any,.any]) (λ_=>[]) (λk=>k≤l.length) (λk=>l.length-k) 0 (by simp) (Wk.to (by simp) (by simp[Ca,BR])) ?_
  intro k hk
  refine (mp ?_).1
  by_cases hlt:k<l.length
  ·have q1:decide ((k:Int)<(l.length:Int))=true:=by simp;omega
   have ek:=AJ k (by omega)
   have g:=Eo l k hlt
   have g2:=E_ (Fu l l.length) k (by rw[ED];exact hlt)
   rw[O6 l _ k hlt,Int.toNat_natCast]at g2
   have hx:=I5 hl r2 hlt
   have ho:=hl _ (Ep l k hlt)
   have hsm:=hm.2 _ (Ep l k hlt)
   obtain⟨gg1,gg2⟩:=GG.1 (r3 _ (Ep l k hlt))
   have he:=IF (pos:=pos) (l:=l) (k:=k) hlt
   have hel:=congrArg List.length he
   simp only[List.length_append]at hel
   have hle:=Yt (pos:=pos) (l:=l) (k+1) hlt
   have hv:=Bd (GY l k)
   have w1:IntKind.i64.wrap (((vb (GY l k)).length:Int)+(DJ pos (l.getD k EH).bk).length)=(vb (GY l k)).length+(DJ pos (l.getD k EH).bk).length:=IntWalk.i64_in _ (by omega)
   have w2:IntKind.i64.wrap (((vb (l.length:Int)++BR (CS pos).enc [] (l.take k)).length:Int)+(((vb (GY l k)).length:Int)+(DJ pos (l.getD k EH).bk).length))=((vb (l.length:Int)++BR (CS pos).enc [] (l.take (k+1))).length:Nat):=by
    rw[List.length_append,List.length_append,hel,IntWalk.i64_in _ (by omega)];omega
   simp only[go_sem,seval,q1,g2,Ab,ED,Int.toNat_natCast];refine (mok ?_).1
   (repeat((with_reducible refine And.intro ?_ ?_);(·exact sd)))
   refine Aa.p (CU (GY l k) hx.1 hx.2) (ms g @Ba @Int.toNat_natCast ?_).1
   (repeat((with_reducible refine And.intro ?_ ?_);(·exact sd)))
   refine Aa.p (Xm pos (l.getD k EH).bk p0 p1 ho.b (by omega)) (mt gg2 w1 w2 ek ?_).1
   (repeat((with_reducible refine And.intro ?_ ?_);(·exact sd)))
   exact⟨k+1,by omega,by omega,Wk.to (by rfl) (by simp[Ca])⟩
  ·have q1:decide ((k:Int)<(l.length:Int))=false:=by simp;omega
   have ek:k=l.length:=by omega
   subst ek
   have he:K8 pos l=((vb (l.length:Int)++BR (CS pos).enc [] (l.take l.length)).length:Nat):=by unfold K8 Cm;rw[if_pos hr,List.take_length]
   refine (mq q1 ?_).1
   exact FE Aox [] he
 ·have hr':BO pos l=false:=by simpa using hr
  have he:K8 pos l=0:=by unfold K8;rw[if_neg hr]
  refine (mq hr' ?_).1
  exact FE Aox [] he
theorem Aad (pos:Int) (l:List Lk) (hl:NX l) (hm:D6 l) (p0:0≤pos) (p1:pos<18446744073709551616):Ct Tryz.prog 257 [uA pos,Gp l] [] (λ_=>iA (K8 pos l)) [] (λ_=>[]):=(Wo pos l hl hm p0 p1).toCt cl cl
theorem Aib {x:Int} (h0:0≤x) (h1:x<18446744073709551616):Cx .xor .u64 (if IntKind.u64.signed then-1 else IntKind.u64.max) x=18446744073709551615-x:=by
 have h:=YJ h0 h1
 have e:Cx .xor .u64 (if IntKind.u64.signed then-1 else IntKind.u64.max) x=Cx .xor .u64 x 18446744073709551615:=by
  show IntKind.u64.wrap ((BitVec.ofInt 64 18446744073709551615^^^BitVec.ofInt 64 x).toNat:Int)=IntKind.u64.wrap ((BitVec.ofInt 64 x^^^BitVec.ofInt 64 18446744073709551615).toNat:Int)
  rw[BitVec.xor_comm]
 rw[e,h]
theorem Wl {s:RS} (h:Av s):s.lkHead []=s.vint.1:=by
 have hv:=Bk (s:=s) h.bys
 unfold RS.lkHead;rw[Aj8,if_neg (by omega)]
theorem Tr {s:RS} (h:Av s) (acc:List Lk):Av (s.lkHead acc)∧(s.lkHead acc).l=s.l:=by
 obtain⟨a,b⟩:=h.vint
 unfold RS.lkHead;split
 ·exact⟨a.fail _ _,by rw[Bl];exact b⟩
 ·exact⟨a,b⟩
theorem Tq {s:RS} {acc:List Lk} (h:18446744073709551616≤HH acc+1+s.vint.2):s.vint.1.fail 13 s.at_=s.lkHead acc:=by
 unfold RS.lkHead
 by_cases hc:s.vint.1.code=0
 ·rw[if_pos ⟨hc,h⟩]
 ·rw[if_neg λx=>hc x.1];unfold RS.fail;rw[if_neg hc]
theorem Ts {s:RS} {acc:List Lk} (h:¬18446744073709551616≤HH acc+1+s.vint.2):s.lkHead acc=s.vint.1:=by
 unfold RS.lkHead;rw[if_neg λx=>h x.2]
theorem Akc (pos:Int) (s:RS) (acc:List Lk):(CS pos).f s acc=(((s.lkHead acc).fall pos 4).1,⟨HH acc+1+s.vint.2,((s.lkHead acc).fall pos 4).2⟩):=rfl
theorem Abg {s:RS} {b m:Int} (h:Av s) (b0:0≤b) (b1:b<18446744073709551616) (hc:(s.fall b m).1.code=0):s.code=0:=(Re h b0 b1 hc).1
set_option maxHeartbeats 1000000 in
set_option maxRecDepth 100000 in
theorem Wp (s:RS) (pos:Int) (p0:0≤pos) (p1:pos<18446744073709551616) (hs:Av s) (hn:s.l.length*32≤100000000000000):An Tryz.prog 203 [.ref 0 0,uA pos] [A7 s] (Gp (s.links pos).2) [A7 ((s.links pos).1)]:=by
 have hF:=HW p0 p1
 have hir:=D_ (s:=s) (m:=16) hs.bys
 obtain⟨hi1,hi2⟩:=hs.int 16
 unfold RS.links Ef.counted
 refine RM Tryz.func203 Ahi ?_
 refine Aa.u1 (A4 s 16 0 (by decide) hs.ok hs.bys) rfl ?_
 generalize hu:(s.int 16).1=u at*
 generalize(s.int 16).2=z at*
 obtain⟨N,hN⟩:∃N,z.toNat=N:=⟨_,rfl⟩
 have hz:z=(N:Int):=by omega
 subst hz
 rw[Int.toNat_natCast]
 refine (mp ?_).1
 refine AM (α:=RS×List Lk) (λa=>[.ref 0 0,uA pos,.any,.any,.any,.sl (.row 1) 2 (L8 a.2),.any,.any,.any,.any,.any,iA N,iA a.2.length,.any,.any,.any,.any,.any,.any,.any,.any,.any,.any,.any,.any,.any,.any,.any,.any,.any,.any,.any,.any,.any,.any,.any,.any,.any,.any,.any,.any,.any,.any,.any,.any,.any,.any,.any,.any,.any,.any,.any,.any,.any,.any]) (λa=>[A7 a.1,.row 2 a.2.length]) ((CS pos).On u N) (λa=>N-a.2.length) (u,[]) (Ef.On.start hi1 N) ((Wk.row 5 2 rfl (.inr rfl) (by decide)).trans (Wk.to (by simp) (by simp[Ca,L8]))) ?_
 rintro⟨t,acc⟩ ho
 have hla:=ho.len
 rw[hi2]at hla
 have h1:=ho.ok
 have h2:=ho.l
 have h6:=ho.res
 have hwf:=ho.wf
 simp only at h1 h2 h6 hwf
 have hg:=KH hwf
 have htl:t.l.length*32≤100000000000000:=by rw[h2,hi2];exact hn
 refine (mp ?_).1
 by_cases hlt:acc.length<N
 ·have q0:decide ((acc.length:Int)<(N:Int))=true:=by simp;omega
  have ei:=AJ acc.length (by omega)
  have hx:=Bk (s:=t) h1.bys
  obtain⟨hk1,hk2⟩:=Tr h1 acc
  obtain⟨hv1,hv2⟩:=h1.vint
  have hff:=Akc pos t acc
  have hkl:(t.lkHead acc).l.length*8≤140737488355328:=by rw[hk2];omega
  have hnx:((t.lkHead acc).fall pos 4).1.code=0->(CS pos).On u N (((t.lkHead acc).fall pos 4).1,acc++[⟨HH acc+1+t.vint.2,((t.lkHead acc).fall pos 4).2⟩]):=λhc=>by
   have:=ho.next hF hlt (by rw[hff];exact hc)
   rw[hff]at this;exact this
  have hnb:¬((t.lkHead acc).fall pos 4).1.code=0->(CS pos).many N u []=(((t.lkHead acc).fall pos 4).1,[]):=λhc=>by
   have:=FL (F:=CS pos) (s:=t) hlt (by rw[hff];exact hc)
   rw[h6,hff]at this;exact this
  have hst:((t.lkHead acc).fall pos 4).1.code=0->HH acc+1+t.vint.2<18446744073709551616:=λhc=>by
   rcases Int.lt_or_le (HH acc+1+t.vint.2) 18446744073709551616 with h|h
   ·exact h
   ·have hh:=Abg hk1 p0 p1 hc
    unfold RS.lkHead at hh
    by_cases hc0:t.vint.1.code=0
    ·rw[if_pos ⟨hc0,h⟩]at hh;exact absurd hh (BM _ _ hc0 (by decide))
    ·rw[if_neg λx=>hc0 x.1]at hh;exact absurd hh hc0
  refine (mq q0 ?_).1
  refine Aa.r1 (AP t 0) rfl (mp ?_).1
  refine Aa.u1 (B3 t 0 h1.ok h1.bys) rfl (mp ?_).1
  by_cases h0:0<acc.length
  ·have q1:decide ((0:Int)<(acc.length:Int))=true:=by simp;omega
   have ep:=Nl acc.length h0 (by omega)
   have g:=Eo acc (acc.length-1) (by omega)
   have hlg:=X9 acc h0
   obtain⟨w,hw⟩:∃w,(acc.getD (acc.length-1) EH).st=w:=⟨_,rfl⟩
   rw[hw]at hlg
   have g':(L8 acc).getD (acc.length-1) .any=.agg [uA w,Ks (acc.getD (acc.length-1) EH).bk]:=by rw[g,←hw]
   have hw0:0≤w∧w<18446744073709551616:=by
    have hlw:=EA (acc.length-1) (by omega) hwf
    rw[List.nil_append]at hlw
    have hg2:=KH (Il (acc.length-1) hwf)
    have e:acc[acc.length-1]=acc.getD (acc.length-1) EH:=by simp[show acc.length-1<acc.length by omega]
    have hl1:HH (acc.take (acc.length-1))<acc[acc.length-1].st:=hlw.1
    have hl2:acc[acc.length-1].st<18446744073709551616:=hlw.2.1
    rw[e,hw]at hl1 hl2
    exact⟨by have:=hg2.1;omega,hl2⟩
   have ex:=Aib hw0.1 hw0.2
   by_cases hov:18446744073709551615-w≤t.vint.2
   ·have q2:decide (18446744073709551615-w≤t.vint.2)=true:=by simpa using hov
    have hhe:=Tq (s:=t) (acc:=acc) (by omega)
    simp only[go_sem,seval,q1,ep,g',Ba,Int.toNat_natCast,ex,q2];refine (mok ?_).1
    (repeat((with_reducible refine And.intro ?_ ?_);(·exact sd)))
    refine Aa.u1 (Ar t.vint.1 13 t.at_ 0) rfl (mq hhe ?_).1
    refine Aa.u1 (Jy (t.lkHead acc) pos 4 0 p0 p1 (by decide) hk1 hkl) rfl (mp ?_).1
    have hbad:¬((t.lkHead acc).fall pos 4).1.code=0:=λhc=>by have:=hst hc;omega
    have hb:=hnb hbad
    refine Aa.r1 (Ak ((t.lkHead acc).fall pos 4).1 0) rfl (mq (Ay hbad) ?_).1
    (refine AF.nilk 4 2 rfl ?_;simp only[List.set_cons_zero,List.set_cons_succ])
    exact FF Ahi [0] hb @Qz
   ·have q2:decide (18446744073709551615-w≤t.vint.2)=false:=by simpa using hov
    have hhe:=Ts (s:=t) (acc:=acc) (by omega)
    have e1:IntKind.u64.wrap (w+1)=w+1:=IntWalk.u64_in _ (by omega)
    have e2:IntKind.u64.wrap (t.vint.2+(w+1))=HH acc+1+t.vint.2:=by rw[IntWalk.u64_in _ (by omega)];omega
    rw[hhe]at hnx hnb hkl
    simp only[go_sem,seval,q1,ep,g',Ba,Int.toNat_natCast,ex,q2,e1,e2];refine (mok ?_).1
    (repeat((with_reducible refine And.intro ?_ ?_);(·exact sd)))
    refine Aa.u1 (Jy t.vint.1 pos 4 0 p0 p1 (by decide) hv1 hkl) rfl (mp ?_).1
    by_cases hc:(t.vint.1.fall pos 4).1.code=0
    ·have hon:=hnx hc
     have hl2:=hon.len
     rw[List.length_append,List.length_singleton,hi2]at hl2
     refine Aa.r1 (Ak (t.vint.1.fall pos 4).1 0) rfl (mt (AW hc) @M6 @Ba ei ?_).1
     (repeat((with_reducible refine And.intro ?_ ?_);(·exact sd)))
     exact⟨((t.vint.1.fall pos 4).1,acc++[⟨HH acc+1+t.vint.2,(t.vint.1.fall pos 4).2⟩]),hon,by simp;omega,Wk.sel [0,1] (by simp) rfl (by simp) rfl (by simp[AT,Ao]) (by simp[Cq,AT,L8,AK])⟩
    ·have hb:=hnb hc
     refine Aa.r1 (Ak (t.vint.1.fall pos 4).1 0) rfl (mq (Ay hc) ?_).1
     (refine AF.nilk 4 2 rfl ?_;simp only[List.set_cons_zero,List.set_cons_succ])
     exact FF Ahi [0] hb @Qz
  ·have hnil:acc=[]:=List.eq_nil_of_length_eq_zero (by omega)
   have q1:decide ((0:Int)<(acc.length:Int))=false:=by rw[hnil];rfl
   have hhe:=Wl h1
   rw[←hnil]at hhe
   rw[hhe]at hnx hnb hkl
   have hl0:HH acc= -1:=by rw[hnil];rfl
   have e2:t.vint.2=HH acc+1+t.vint.2:=by omega
   refine (mq q1 ?_).1
   refine Aa.u1 (Jy t.vint.1 pos 4 0 p0 p1 (by decide) hv1 hkl) rfl (mp ?_).1
   by_cases hc:(t.vint.1.fall pos 4).1.code=0
   ·have hon:=hnx hc
    have hl2:=hon.len
    rw[List.length_append,List.length_singleton,hi2]at hl2
    rw[←e2]at hon
    have esn:L8 acc++[.agg [uA t.vint.2,Ks (t.vint.1.fall pos 4).2]]=L8 (acc++[⟨t.vint.2,(t.vint.1.fall pos 4).2⟩]):=M6 acc ⟨t.vint.2,(t.vint.1.fall pos 4).2⟩
    refine Aa.r1 (Ak (t.vint.1.fall pos 4).1 0) rfl (mt (AW hc) esn @Ba ei ?_).1
    (repeat((with_reducible refine And.intro ?_ ?_);(·exact sd)))
    exact⟨((t.vint.1.fall pos 4).1,acc++[⟨t.vint.2,(t.vint.1.fall pos 4).2⟩]),hon,by simp;omega,Wk.sel [0,1] (by simp) rfl (by simp) rfl (by simp[AT,Ao]) (by simp[Cq,AT,L8,AK])⟩
   ·have hb:=hnb hc
    refine Aa.r1 (Ak (t.vint.1.fall pos 4).1 0) rfl (mq (Ay hc) ?_).1
    (refine AF.nilk 4 2 rfl ?_;simp only[List.set_cons_zero,List.set_cons_succ])
    exact FF Ahi [0] hb @Qz
 ·have q0:decide ((acc.length:Int)<(N:Int))=false:=by simp;omega
  have hb:=M3 (F:=CS pos) (s:=t) (N:=N) (acc:=acc) (by omega)
  rw[h6]at hb
  refine (mq q0 ?_).1
  (refine AF.untag 4 rfl ?_;simp only[Au,List.set_cons_zero,List.set_cons_succ])
  exact FE Ahi [0] hb
theorem Aae (s:RS) (pos:Int) (i:Nat) (p0:0≤pos) (p1:pos<18446744073709551616) (hs:Av s) (hn:s.l.length*32≤100000000000000):Ct Tryz.prog 203 [.ref i 0,uA pos] [(i,A7 s)] (λ_=>Gp (s.links pos).2) [(i,A7 ((s.links pos).1))] (λ_=>[]):=Ct.u1 (Wp s pos p0 p1 hs hn) i cl (λρ=>Ao ρ _) (λρ=>Ao ρ _) (rdr_dead _) cl
theorem VI (x y:Lk) (hn:x.bk.length≤1000000):An Tryz.prog 88 [R6 x,R6 y] [] (bA (decide (x=y))) []:=by
 refine RM Tryz.func88 b88 ?_
 by_cases c0:x.st=y.st
 ·have q0:(x.st==y.st)=true:=by simpa using c0
  have e:BJ x.bk y.bk=decide (x=y):=by
   unfold BJ
   rw[Bool.eq_iff_iff,decide_eq_true_eq,decide_eq_true_eq]
   cases x;cases y;simp only at c0;simp[c0]
  refine (mq q0 ?_).1
  refine Aa.p (VN x.bk y.bk (by omega)) (mp ?_).1
  exact FE b88 [] e
 ·have q0:(x.st==y.st)=false:=by simpa using c0
  have e:decide (x=y)=false:=by simp only[decide_eq_false_iff_not];rintro rfl;exact c0 rfl
  refine (mq q0 ?_).1
  exact FE b88 [] e
theorem ZA (x y:Lk) (hn:x.bk.length≤1000000):Ct Tryz.prog 88 [R6 x,R6 y] [] (λ_=>bA (decide (x=y))) [] (λ_=>[]):=(VI x y hn).toCt cl cl
def Gr (l m:List Lk):Bool:=decide (l=m)
theorem Vz (l:List Lk):Gr l l=true:=by simp[Gr]
set_option maxRecDepth 100000 in
theorem SI (l m:List Lk) (hm:D6 l):An Tryz.prog 39 [Gp l,Gp m] [] (bA (Gr l m)) []:=by
 obtain⟨hn,hb⟩:=hm
 refine RN Tryz.func39 b39 ?_;refine (mq @Ba ?_).1
 by_cases hlen:l.length=m.length
 ·have q0:((l.length:Int) != (m.length:Int))=false:=by simp;omega
  refine (mq q0 ?_).1
  refine AM (α:=Nat) (λk=>[Gp l,Gp m,.any,.any,.any,iA k,.any,.any,.any,.any,.any,.any,.any,.any,.any,.any,.any,.any,.any,.any,.any,.any,.any,.any,.any,.any,.any]) (λ_=>[]) (λk=>k≤l.length∧∀i,i<k->l.getD i EH=m.getD i EH) (λk=>l.length-k) 0 ⟨by simp,λi hi=>by omega⟩ (Wk.to (by simp) (by simp[Ca])) ?_
  rintro k ⟨hk,hall⟩
  refine (mq @Ba ?_).1
  by_cases hlt:k<l.length
  ·have q1:decide ((k:Int)<(l.length:Int))=true:=by simp;omega
   have ek:=AJ k (by omega)
   have g:=Eo l k hlt
   have g2:=Eo m k (by omega)
   have hbk:=hb _ (Ep l k hlt)
   simp only[go_sem,seval,q1,g,g2,Ba,Int.toNat_natCast];refine (mok ?_).1
   (repeat((with_reducible refine And.intro ?_ ?_);(·exact sd)))
   refine Aa.p (ZA (l.getD k EH) (m.getD k EH) hbk) ?_
   by_cases he:l.getD k EH=m.getD k EH
   ·have q2:decide (l.getD k EH=m.getD k EH)=true:=by simpa using he
    refine (mr q2 ek ?_).1
    (repeat((with_reducible refine And.intro ?_ ?_);(·exact sd)))
    exact⟨k+1,⟨hlt,λi hi=>by
     rcases Nat.lt_or_ge i k with h|h
     ·exact hall i h
     ·obtain rfl:i=k:=by omega
      exact he⟩,by omega,Wk.to (by simp) (by simp[Ca])⟩
   ·have q2:decide (l.getD k EH=m.getD k EH)=false:=by simpa using he
    have e:Gr l m=false:=by unfold Gr;simp only[decide_eq_false_iff_not];rintro rfl;exact he rfl
    refine (mq q2 ?_).1
    (repeat((with_reducible refine And.intro ?_ ?_);(·exact sd)))
    exact FE b39 [] e
  ·have q1:decide ((k:Int)<(l.length:Int))=false:=by simp;omega
   have e:Gr l m=true:=by
    unfold Gr
    simp only[decide_eq_true_eq]
    refine List.ext_getElem hlen λi h1 h2=>?_
    have:=hall i (by omega)
    simpa[h1,h2]using this
   refine (mq q1 ?_).1
   exact FE b39 [] e
 ·have q0:((l.length:Int) != (m.length:Int))=true:=by simp;omega
  have e:Gr l m=false:=by unfold Gr;simp only[decide_eq_false_iff_not];rintro rfl;exact hlen rfl
  refine (mq q0 ?_).1
  exact FE b39 [] e
theorem VH (l m:List Lk) (hm:D6 l):Ct Tryz.prog 39 [Gp l,Gp m] [] (λ_=>bA (Gr l m)) [] (λ_=>[]):=(SI l m hm).toCt cl cl
theorem Tryz.own:ownKnob Tryz.prog.godebug=none:=by kernel_rfl
theorem Tryz.laidOut:laidOutB Tryz.prog=true:=by kernel_rfl
section
open Go.RowKit Go.ChangeShapes Go.WideShapes Go.ChangeAt
def G0 (W:World):Gh:=⟨λb i=>W.cell? ⟨b,i,none⟩,λ_=>none,λ_ _=>none⟩
theorem wd0 (W:World):Wd (G0 W) [] W:=
 ⟨λb i v h=>h,λi _=>⟨rfl,λ_=>rfl⟩,λi xs h=>by simp at h,λj k n h=>by simp at h,λj k n xs h=>by simp at h,λi o xs h=>by simp at h,λi j b h=>by simp[blk]at h⟩
theorem An.top {P:Program} {f:FuncId} {args:List AV} (h:An P f args [] (.lit (.bool true)) []) {W:World} {vs:Array Value} (hr:Cn (G0 W) args vs.toList):
 Calls P f vs W λr W'=>r=.returned (.bool true)∧Below W.heap.size W W':=by
 refine(h.2 (G0 W) W vs (wd0 W) hr).mono λr W' ⟨v,G',e,hv,hl⟩=>?_
 cases hv
 exact⟨e,hl.kept.below (λi _ j=>by simp[blk]) (Nat.le_refl _)⟩
theorem RdI.rep {k:IntKind} {W:World} {F:Nat->Prop} {v:Value} {l:List Int} (h:RdI k W F v l):BE (G0 W) (.sl .none 1 (A2 k l)) v:=by
 obtain⟨A,c,rfl,hc,_,hA⟩:=h
 have hlen:=Ab k l
 obtain⟨b,o,hb,hcell⟩:∃b o,(0<l.length->A=some ⟨b,o,none⟩)∧∀i,i<l.length->W.cell? ⟨b,o+i,none⟩=some (.int k (l.getD i 0)):=by
  rcases Nat.eq_zero_or_pos l.length with h0|h0
  ·exact⟨0,0,λh=>by omega,λi hi=>by omega⟩
  ·obtain⟨b,o,h1,_,h2⟩:=hA h0
   exact⟨b,o,λ_=>h1,h2⟩
 rw[←hlen]
 refine .sl (b:=b) (o:=o) (λi _=>.int k (l.getD i 0)) (by rw[hlen];exact hc) (λh=>hb (by rw[hlen]at h;exact h)) (λi x hx=>?_) (λi j hi hj=>?_) (λ_ _ _ _=>rfl) (λi j x y hx hy=>?_) trivial
 ·simp only[A2,List.getElem?_map,Option.map_eq_some_iff]at hx
  obtain⟨z,_,rfl⟩:=hx;rfl
 ·obtain rfl:j=0:=by omega
  rw[hlen]at hi
  simpa[G0]using hcell i hi
 ·simp only[A2,List.getElem?_map,Option.map_eq_some_iff]at hx
  obtain⟨z,hz,rfl⟩:=hx
  simp only[AV.cells]at hy
  cases j with
  |zero=>
   simp at hy;subst hy
   have:l.getD i 0=z:=by simp[hz]
   rw[this];exact .lit _
  |succ j=>simp at hy
end
abbrev Mb (e:En):AV:=.agg [Gp e.lk,A9 .u8 e.data]
def I6 (e:En):Prop:=D6 e.lk∧e.data.length≤100000000
theorem Rk (pos:Int) (e:En) (he:e.ok) (hm:I6 e) (p0:0≤pos) (p1:pos<18446744073709551616):An Tryz.prog 98 [uA pos,Mb e] [] (bA (Cj pos e)) []:=by
 refine RM Tryz.func98 b98 ?_
 refine Aa.p (Ji pos e.lk he.lk hm.1 p0 p1) ?_
 by_cases hr:BO pos e.lk=true
 ·have h:Cj pos e=decide ((e.data.length:Int)≤1048576):=by
   unfold Cj;rw[hr,Bool.true_and,Bool.eq_iff_iff,decide_eq_true_eq,decide_eq_true_eq];omega
  simp only[go_sem,seval,hr,Ab,←h];refine (mok ?_).1
  exact FA b98 []
 ·have hr':BO pos e.lk=false:=by simpa using hr
  have h:Cj pos e=false:=by unfold Cj;rw[hr'];rfl
  refine (mq hr' ?_).1
  exact FE b98 [] h
theorem H7 (pos:Int) (e:En) (he:e.ok) (hm:I6 e) (p0:0≤pos) (p1:pos<18446744073709551616):Ct Tryz.prog 98 [uA pos,Mb e] [] (λ_=>bA (Cj pos e)) [] (λ_=>[]):=(Rk pos e he hm p0 p1).toCt cl cl
def WS.ehead (s:WS) (pos:Int) (e:En):WS:=if Cj pos e=true then(s.links pos e.lk).put (vb e.data.length)else s.fail 3
theorem WS.fine.ehead {s:WS} (h:s.fine) (pos:Int) (e:En):(s.ehead pos e).fine:=by
 unfold WS.ehead;split
 ·exact(h.links pos e.lk).put _
 ·exact h.fail 3
theorem Aat {pos:Int} {e:En} (hr:BO pos e.lk=true):(E3 pos e).length≤980:=by
 unfold E3
 rw[List.length_append]
 have:=Jh hr
 have:=(Bd (e.data.length:Int)).2
 omega
theorem Abt {s:WS} {pos:Int} {e:En} (hr:Cj pos e=true) (h:s.code=0) (hm:(s.l.length:Int)+(E3 pos e).length≤s.most):s.ehead pos e=⟨s.most,s.l++E3 pos e,0⟩:=by
 unfold E3 at hm
 rw[List.length_append]at hm
 unfold WS.ehead
 rw[if_pos hr,Aac (D2.1 hr).1 h (by omega),CO rfl (by simp only[List.length_append];omega)]
 simp[E3]
theorem Nz (s:WS) (pos:Int) (e:En) (hs:s.fine) (he:e.ok) (hm:I6 e) (p0:0≤pos) (p1:pos<18446744073709551616):An Tryz.prog 236 [.ref 0 0,uA pos,Mb e] [B4 1 s,A1 s] (.tup []) [B4 1 (s.ehead pos e),A1 (s.ehead pos e)]:=by
 have hd:=hm.2
 have eu:=Fe e.data (by omega)
 refine RM Tryz.func236 Ao5 ?_
 refine Aa.p (H7 pos e he hm p0 p1) ?_
 by_cases hr:Cj pos e=true
 ·refine (mq hr ?_).1
  refine Aa.u2 (Aff s pos e.lk 0 1 (by decide) hs he.lk hm.1 p0 p1) rfl rfl (mr @Ab eu ?_).1
  have hf:=hs.links pos e.lk
  refine Aa.u2 (Bx (s.links pos e.lk) e.data.length 0 1 (by decide) (by omega) (by omega) hf.ok (hf.room _)) rfl rfl (mp ?_).1
  (refine FB Ao5 [0,1] ?_ ?_<;>first|with_reducible rfl|(simp[Ae,Ah,Ai,Ag,WS.ehead,hr];done)|rfl)
 ·have hr':Cj pos e=false:=by simpa using hr
  refine (mq hr' ?_).1
  refine Aa.u2 (Cp s 3 0 1 (by decide)) rfl rfl (mp ?_).1
  (refine FB Ao5 [0,1] ?_ ?_<;>first|with_reducible rfl|(simp[Ae,Ah,Ai,Ag,WS.ehead,hr'];done)|rfl)
theorem OJ (s:WS) (pos:Int) (e:En) (i j:Nat) (h:i≠j) (hs:s.fine) (he:e.ok) (hm:I6 e) (p0:0≤pos) (p1:pos<18446744073709551616):Ct Tryz.prog 236 [.ref i 0,uA pos,Mb e] [(i,B4 j s),(j,A1 s)] (λ_=>.tup []) [(i,B4 j (s.ehead pos e)),(j,A1 (s.ehead pos e))] (λ_=>[]):=Ct.u2 (Nz s pos e hs he hm p0 p1) i j h cl cl cl cl cl (BI _ _) (Bm _) Ci
def JO (pos:Int) (e:En):Int:=if Cj pos e=true then(E3 pos e).length else 0
theorem LV (pos:Int) (e:En) (he:e.ok) (hm:I6 e) (p0:0≤pos) (p1:pos<18446744073709551616):An Tryz.prog 234 [uA pos,Mb e] [] (iA (JO pos e)) []:=by
 have hd:=hm.2
 have eu:=Fe e.data (by omega)
 refine RM Tryz.func234 Ao6 ?_
 refine Aa.p (H7 pos e he hm p0 p1) ?_
 by_cases hr:Cj pos e=true
 ·have hrl:=(D2.1 hr).1
  have hl:=Jh hrl
  have hv:=(Bd (e.data.length:Int)).2
  have h1:K8 pos e.lk=((Cm pos e.lk).length:Int):=by unfold K8;rw[if_pos hrl]
  have h2:IntKind.i64.wrap (((Cm pos e.lk).length:Int)+(vb (e.data.length:Int)).length)=JO pos e:=by
   unfold JO E3;rw[if_pos hr,List.length_append,IntWalk.i64_in _ (by omega)];omega
  refine (mq hr ?_).1
  refine Aa.p (Aad pos e.lk he.lk hm.1 p0 p1) (ms h1 @Ab eu ?_).1
  refine Aa.p (CU e.data.length (by omega) (by omega)) (mq h2 ?_).1
  (repeat((with_reducible refine And.intro ?_ ?_);(·exact sd)))
  exact FA Ao6 []
 ·have hr':Cj pos e=false:=by simpa using hr
  have h2:JO pos e=0:=by unfold JO;rw[if_neg hr]
  refine (mq hr' ?_).1
  exact FE Ao6 [] h2
theorem NA (pos:Int) (e:En) (he:e.ok) (hm:I6 e) (p0:0≤pos) (p1:pos<18446744073709551616):Ct Tryz.prog 234 [uA pos,Mb e] [] (λ_=>iA (JO pos e)) [] (λ_=>[]):=(LV pos e he hm p0 p1).toCt cl cl
set_option maxRecDepth 100000 in
theorem LU (s:RS) (pos m:Int) (p0:0≤pos) (p1:pos<18446744073709551616) (m1:m<9223372036854775808) (hs:Av s) (hn:s.l.length*32≤100000000000000):An Tryz.prog 221 [.ref 0 0,uA pos,iA m] [A7 s] (.tup [Mb ⟨(s.ehead pos m).2.1,[]⟩,iA (s.ehead pos m).2.2]) [A7 ((s.ehead pos m).1)]:=by
 obtain⟨a,b⟩:=EI hs p0 p1
 refine RM Tryz.func221 Apa ?_
 refine Aa.u1 (Aae s pos 0 p0 p1 hs hn) rfl (mp ?_).1
 refine Aa.u1 (A4 (s.links pos).1 m 0 m1 a.ok a.bys) rfl (mp ?_).1
 by_cases hc:((s.links pos).1.int m).1.code=0
 ·have e:s.ehead pos m=(((s.links pos).1.int m).1,((s.links pos).2,((s.links pos).1.int m).2)):=by unfold RS.ehead;rw[if_pos hc]
  refine Aa.r1 (Ak ((s.links pos).1.int m).1 0) rfl (mq (AW hc) ?_).1
  (refine AF.wao (ys:=[Gp (s.links pos).2,A9 .u8 []]) 1 rfl (by repeat(first|exact Wa.refl _|exact Bo.nil|exact Wa.nil|exact Wa.none|refine Bo.cons ?_ ?_|refine Wa.agg ?_|refine Wa.slN ?_|refine Wa.slS ?_|exact Bo.refl _)) ?_;simp only[List.set_cons_zero,List.set_cons_succ])
  exact FE Apa [0] e
 ·have e:s.ehead pos m=(((s.links pos).1.int m).1,([],0)):=by unfold RS.ehead;rw[if_neg hc]
  refine Aa.r1 (Ak ((s.links pos).1.int m).1 0) rfl (mq (Ay hc) ?_).1
  (refine AF.wao (ys:=[Gp [],A9 .u8 []]) 1 rfl (by repeat(first|exact Wa.refl _|exact Bo.nil|exact Wa.nil|exact Wa.none|refine Bo.cons ?_ ?_|refine Wa.agg ?_|refine Wa.slN ?_|refine Wa.slS ?_|exact Bo.refl _)) ?_;simp only[List.set_cons_zero,List.set_cons_succ])
  exact FE Apa [0] e
theorem Ny (s:RS) (pos m:Int) (i:Nat) (p0:0≤pos) (p1:pos<18446744073709551616) (m1:m<9223372036854775808) (hs:Av s) (hn:s.l.length*32≤100000000000000):Ct Tryz.prog 221 [.ref i 0,uA pos,iA m] [(i,A7 s)] (λ_=>.tup [Mb ⟨(s.ehead pos m).2.1,[]⟩,iA (s.ehead pos m).2.2]) [(i,A7 ((s.ehead pos m).1))] (λ_=>[]):=Ct.u1 (LU s pos m p0 p1 m1 hs hn) i cl (λρ=>Ao ρ _) (λρ=>Ao ρ _) (rdr_dead _) cl
def K_ (a b:En):Bool:=Gr a.lk b.lk&&BJ a.data b.data
theorem I9 (e:En):K_ e e=true:=by unfold K_;rw[Vz,O8];rfl
theorem SH (a b:En) (hm:D6 a.lk) (ha:AY a.data) (hb:AY b.data):An Tryz.prog 11 [Mb a,Mb b] [] (bA (K_ a b)) []:=by
 refine RM Tryz.func11 b11 ?_
 refine Aa.p (VH a.lk b.lk hm) ?_
 by_cases h:Gr a.lk b.lk=true
 ·have e:K_ a b=BJ a.data b.data:=by unfold K_;rw[h];rfl
  refine (mq h ?_).1
  refine Aa.p (VR a.data b.data ha hb) (mp ?_).1
  exact FE b11 [] e
 ·have h':Gr a.lk b.lk=false:=by simpa using h
  have e:K_ a b=false:=by unfold K_;rw[h'];rfl
  refine (mq h' ?_).1
  exact FE b11 [] e
theorem Jb (a b:En) (hm:D6 a.lk) (ha:AY a.data) (hb:AY b.data):Ct Tryz.prog 11 [Mb a,Mb b] [] (λ_=>bA (K_ a b)) [] (λ_=>[]):=(SH a b hm ha hb).toCt cl cl
def IE (l:List En):List AV:=l.map Mb
abbrev JN (l:List En):AV:=.sl .none 2 (IE l)
theorem AA (l:List En):(IE l).length=l.length:=by simp[IE]
theorem Ff (l:List En) (k:Nat) (h:k<l.length):(IE l).getD k .any=Mb (l.getD k DN):=by simp[IE,h]
@[simp] theorem Iq (ρ:Nat->Nat) (l:List En):(IE l).map (λx=>x.ren ρ)=IE l:=by
 simp[IE,Function.comp_def,AT,AN,Qj]
theorem Mo (l:List En) (k:Nat) (h:k<l.length):AL (l.take k)++(l.getD k DN).data=AL (l.take (k+1)):=by
 have:l.take (k+1)=l.take k++[l.getD k DN]:=by
  rw[List.take_add_one]
  simp[h]
 rw[this,WD]
theorem IS (l:List En) (k:Nat):(AL (l.take k)).length≤(AL l).length:=by
 have e:AL l=AL (l.take k)++AL (l.drop k):=by unfold AL;rw[←List.flatMap_append,List.take_append_drop]
 rw[e,List.length_append];omega
theorem Rj (l:List En) (hl:l.length≤1000000) (hn:(AL l).length≤140737488355328):An Tryz.prog 97 [JN l] [] (iA (AL l).length) []:=by
 refine RN Tryz.func97 b97 ?_;refine (mq @AA ?_).1
 refine AM (α:=Nat) (λk=>[.any,.any,.any,iA (AL (l.take k)).length,.any,.any,JN l,iA l.length,iA k,.any,.any,.any,.any,.any,.any,.any,.any,.any,.any]) (λ_=>[]) (λk=>k≤l.length) (λk=>l.length-k) 0 (by simp) (Wk.to (by simp) (by simp[Ca,AL])) ?_
 intro k hk
 refine (mp ?_).1
 by_cases hlt:k<l.length
 ·have q1:decide ((k:Int)<(l.length:Int))=true:=decide_eq_true (by omega)
  have ek:=AJ k (by omega)
  have g:=Ff l k hlt
  have ht:=Mo l k hlt
  have hle:=IS l (k+1)
  have hlen:=congrArg List.length ht
  rw[List.length_append]at hlen
  have w:IntKind.i64.wrap (((AL (l.take k)).length:Int)+((l.getD k DN).data.length:Int))=((AL (l.take (k+1))).length:Int):=by rw[IntWalk.i64_in _ (by omega)];omega
  simp only[go_sem,seval,q1,g,AA,Ab,Int.toNat_natCast,w,ek];refine (mok ?_).1
  (repeat((with_reducible refine And.intro ?_ ?_);(·exact sd)))
  exact⟨k+1,hlt,by omega,Wk.sel [] (by simp) rfl (by simp) rfl (by simp) (by simp[Cq,AT,Iq])⟩
 ·have q1:decide ((k:Int)<(l.length:Int))=false:=decide_eq_false (by omega)
  have e:l.take k=l:=List.take_of_length_le (by omega)
  refine (mq q1 ?_).1
  exact FE b97 [] e
theorem H6 (l:List En) (hl:l.length≤1000000) (hn:(AL l).length≤140737488355328):Ct Tryz.prog 97 [JN l] [] (λ_=>iA (AL l).length) [] (λ_=>[]):=(Rj l hl hn).toCt cl cl
theorem Uj (l:List En) (hl:l.length≤1000000) (hn:(AL l).length≤100000000):An Tryz.prog 238 [JN l] [] (HS 0 (AL l)) [.row 1 (AL l).length]:=by
 refine RM Tryz.func238 Asb ?_
 refine Aa.p (H6 l hl (by omega)) ?_;simp only[go_sem,seval,Lj];refine (mok ?_).1
 (repeat((with_reducible refine And.intro ?_ ?_);(·exact sd)))
 refine (mq @AA ?_).1
 refine AM (α:=Nat) (λk=>[.any,.any,.any,HS 0 (AL (l.take k)),.any,.any,.any,.any,.any,JN l,iA l.length,iA k,.any,.any,.any,.any,.any,.any,.any,.any,.any]) (λk=>[.row 1 (AL (l.take k)).length]) (λk=>k≤l.length) (λk=>l.length-k) 0 (by simp) (Wk.to (by simp[AL]) (by simp[Ca,AL,A2])) ?_
 intro k hk
 refine (mp ?_).1
 by_cases hlt:k<l.length
 ·have q1:decide ((k:Int)<(l.length:Int))=true:=decide_eq_true (by omega)
  have ek:=AJ k (by omega)
  have g:=Ff l k hlt
  have ht:=Mo l k hlt
  have hle:=IS l (k+1)
  simp only[go_sem,seval,q1,g,AA,Int.toNat_natCast,CV,Ab,←List.length_append,ht,ek];refine (mok ?_).1
  (repeat((with_reducible refine And.intro ?_ ?_);(·exact sd)))
  exact⟨k+1,hlt,by omega,Wk.sel [0] (by simp) rfl (by simp) rfl (by simp[AT]) (by simp[Cq,AT,AK,AN])⟩
 ·have q1:decide ((k:Int)<(l.length:Int))=false:=decide_eq_false (by omega)
  have e:l.take k=l:=List.take_of_length_le (by omega)
  refine (mr q1 e ?_).1
  exact FA Asb [0]
theorem Xj (l:List En) (hl:l.length≤1000000) (hn:(AL l).length≤100000000):Ct Tryz.prog 238 [JN l] [] (λn=>HS n (AL l)) [] (λ_=>[.row 1 (AL l).length]):=Ct.n (Uj l hl hn) cl cl Ci
theorem QC (x:Lk) (hn:x.bk.length≤1000000):An Tryz.prog 105 [R6 x] [] (R6 x) []:=by
 refine RM Tryz.func105 Atf ?_
 (repeat((with_reducible refine And.intro ?_ ?_);(·exact sd)))
 simp only[go_sem,seval,List.nil_append,Ab];refine (mok ?_).1
 (refine AF.unobj 1 rfl ?_;simp only[List.set_cons_zero,List.set_cons_succ,List.map_cons,List.map_nil,Mi,Au])
 exact FA Atf []
theorem Tw (x:Lk) (hn:x.bk.length≤1000000):Ct Tryz.prog 105 [R6 x] [] (λ_=>R6 x) [] (λ_=>[]):=(QC x hn).toCt cl cl
theorem Wq (l:List Lk) (hl:l.length≤1000000) (hn:∀x∈l,x.bk.length≤1000000):An Tryz.prog 51 [Gp l] [] (Gp l) []:=by
 refine RN Tryz.func51 b51 ?_;refine (mq @Ba ?_).1
 refine AM (α:=Nat) (λk=>[.any,.any,.any,.sl (.row 0) 2 (L8 (l.take k)),.any,.any,Gp l,iA l.length,iA k,.any,.any,.any,.any,.any,.any,.any,.any,.any,.any]) (λk=>[.row 2 (l.take k).length]) (λk=>k≤l.length) (λk=>l.length-k) 0 (by simp) ((Wk.row 3 2 rfl (.inr rfl) (by decide)).trans (Wk.to (by simp[L8]) (by simp[Ca,L8]))) ?_
 intro k hk
 refine (mp ?_).1
 by_cases hlt:k<l.length
 ·have q1:decide ((k:Int)<(l.length:Int))=true:=decide_eq_true (by omega)
  have ek:=AJ k (by omega)
  have g:=Eo l k hlt
  have hm:l.getD k EH∈l:=by simp[hlt]
  have ht:L8 (l.take k)++[R6 (l.getD k EH)]=L8 (l.take (k+1)):=by
   rw[M6];congr 1;rw[List.take_add_one];simp[hlt]
  have hln:(l.take (k+1)).length≤1000000:=by rw[List.length_take];omega
  have hln2:(l.take k).length+1=(l.take (k+1)).length:=by rw[List.length_take,List.length_take];omega
  refine (mt q1 g @Ba @Int.toNat_natCast ?_).1
  (repeat((with_reducible refine And.intro ?_ ?_);(·exact sd)))
  refine Aa.p (Tw (l.getD k EH) (hn _ hm)) (mt ht @Ba hln2 ek ?_).1
  (repeat((with_reducible refine And.intro ?_ ?_);(·exact sd)))
  exact⟨k+1,hlt,by omega,Wk.sel [0] (by simp) rfl (by simp) rfl (by simp[AT]) (by simp[Cq,AT,AK])⟩
 ·have q1:decide ((k:Int)<(l.length:Int))=false:=decide_eq_false (by omega)
  have e:l.take k=l:=List.take_of_length_le (by omega)
  refine (mr q1 e ?_).1
  (refine AF.untag 2 rfl ?_;simp only[Au,List.set_cons_zero,List.set_cons_succ])
  exact FA b51 []
theorem Po (l:List Lk) (hl:l.length≤1000000) (hn:∀x∈l,x.bk.length≤1000000):Ct Tryz.prog 51 [Gp l] [] (λ_=>Gp l) [] (λ_=>[]):=(Wq l hl hn).toCt cl cl
theorem Agk (l:List En) (e:En):IE (l++[e])=IE l++[Mb e]:=by simp[IE]
set_option maxHeartbeats 2000000 in
set_option maxRecDepth 100000 in
theorem Uk (hs:List En) (ns d:List Int) (hl:hs.length≤1000000) (hd:d.length≤100000000) (hm:∀e∈hs,e.lk.length≤1000000∧∀x∈e.lk,x.bk.length≤1000000) (hns:∀n∈ns,n<9223372036854775808):An Tryz.prog 163 [JN hs,A9 .i64 ns,A9 .u8 d] [] (.tup [JN (DU hs ns d).1,bA (DU hs ns d).2]) []:=by
 by_cases hh:hs.length=ns.length
 ·have q:((ns.length:Int) != (hs.length:Int))=false:=by rw[hh];simp
  have e0:DU hs ns d=DL hs ns d []:=by unfold DU;rw[if_pos hh]
  refine RN Tryz.func163 XH ?_;refine (mr @AA @Ab ?_).1
  simp only[go_sem,seval,q,List.nil_append,Ab,AA];refine (mok ?_).1
  (repeat((with_reducible refine And.intro ?_ ?_);(·exact sd)))
  refine AM (α:=Nat×List Int×List En) (λa=>[.any,A9 .i64 ns,.any,.any,.any,.any,.any,.any,A9 .u8 a.2.1,.sl (.row 0) 2 (IE a.2.2),.any,.any,.any,.any,.any,.any,.any,.any,.any,.any,.any,JN hs,iA hs.length,iA a.1,.any,.any,.any,.any,.any,.any,.any,.any,.any,.any,.any,.any,.any,.any,.any,.any,.any,.any,.any,.any,.any,.any,.any,.any,.any,.any,.any,.any,.any,.any,.any,.any,.any,.any,.any,.any,.any]) (λa=>[.row 2 a.2.2.length]) (λa=>a.1≤hs.length∧a.2.2.length=a.1∧a.2.1.length≤d.length∧DL (hs.drop a.1) (ns.drop a.1) a.2.1 a.2.2=DU hs ns d) (λa=>hs.length-a.1) (0,d,[]) ⟨by simp,rfl,Nat.le_refl _,by rw[e0];rfl⟩ (((Wk.untag 8 rfl).trans (Wk.row 9 2 rfl (.inr rfl) (by decide))).trans (Wk.sel [1] (by simp) rfl (by simp) rfl (by simp[AT]) (by simp[Cq,AT,Au,IE,AK,AN,Iq]))) ?_
  rintro⟨k,rest,acc⟩ ⟨hk,hacc,hrl,hgo⟩
  simp only at hk hacc hrl hgo
  refine (mp ?_).1
  by_cases hlt:k<hs.length
  ·have q1:decide ((k:Int)<(hs.length:Int))=true:=decide_eq_true (by omega)
   have ek:=AJ k (by omega)
   have g:=Ff hs k hlt
   have g2:(A2 .i64 ns).getD k .any=iA (ns.getD k 0):=CC .i64 ns k (by omega)
   have hmm:=hm (hs.getD k DN) (by simp[hlt])
   have d1:hs.drop k=hs.getD k DN::hs.drop (k+1):=by rw[List.drop_eq_getElem_cons hlt];simp[hlt]
   have d2:ns.drop k=ns.getD k 0::ns.drop (k+1):=by
    have h2:k<ns.length:=by omega
    rw[List.drop_eq_getElem_cons h2];simp[h2]
   rw[d1,d2,DL]at hgo
   obtain⟨n,hn⟩:∃n,ns.getD k 0=n:=⟨_,rfl⟩
   have hnm:n<9223372036854775808:=hns n (by rw[←hn];have h2:k<ns.length:=by omega
                                             simp[h2])
   obtain⟨h,hh2⟩:∃h,hs.getD k DN=h:=⟨_,rfl⟩
   rw[hn]at hgo g2
   rw[hh2]at hgo g hmm
   by_cases c1:n<0
   ·have q2:decide (n<0)=true:=decide_eq_true c1
    rw[if_pos (.inl c1)]at hgo
    simp only[go_sem,seval,q1,g,AA,Int.toNat_natCast,g2,Ab,q2];refine (mok ?_).1
    (repeat((with_reducible refine And.intro ?_ ?_);(·exact sd)))
    (refine AF.nilk 6 2 rfl ?_;simp only[List.set_cons_zero,List.set_cons_succ])
    (refine FB XH [] ?_ ?_<;>first|with_reducible rfl|(simp[Ae,Ah,Ai,Ag,←hgo,IE];done)|rfl)
   ·have q2:decide (n<0)=false:=decide_eq_false c1
    by_cases c2:(rest.length:Int)<n
    ·have q3:decide ((rest.length:Int)<n)=true:=decide_eq_true c2
     rw[if_pos (.inr c2)]at hgo
     simp only[go_sem,seval,q1,g,AA,Int.toNat_natCast,g2,Ab,q2,q3];refine (mok ?_).1
     (repeat((with_reducible refine And.intro ?_ ?_);(·exact sd)))
     (refine AF.nilk 6 2 rfl ?_;simp only[List.set_cons_zero,List.set_cons_succ])
     (refine FB XH [] ?_ ?_<;>first|with_reducible rfl|(simp[Ae,Ah,Ai,Ag,←hgo,IE];done)|rfl)
    ·have q3:decide ((rest.length:Int)<n)=false:=decide_eq_false c2
     rw[if_neg (by omega)]at hgo
     simp only[go_sem,seval,q1,g,AA,Int.toNat_natCast,g2,Ab,q2,q3];refine (mok ?_).1
     (repeat((with_reducible refine And.intro ?_ ?_);(·exact sd)))
     refine Aa.p (Po h.lk hmm.1 hmm.2) ?_;simp only[go_sem,seval,Qd,Ab,DD,Cb,AA,ek];refine (mok ?_).1
     (repeat((with_reducible refine And.intro ?_ ?_);(·exact sd)))
     exact⟨(k+1,rest.drop n.toNat,acc++[⟨h.lk,rest.take n.toNat⟩]),⟨hlt,by simp[hacc],by simp only[List.length_drop];omega,hgo⟩,by simp only;omega,(Wk.wa 9 (y:=.sl (.row 0) 2 (IE (acc++[⟨h.lk,rest.take n.toNat⟩]))) rfl (by rw[Agk];exact Wa.slS (Bo.app (Bo.refl _) (by repeat(first|exact Wa.refl _|exact Bo.nil|exact Wa.nil|exact Wa.none|refine Bo.cons ?_ ?_|refine Wa.agg ?_|refine Wa.slN ?_|refine Wa.slS ?_|exact Bo.refl _))))).trans (Wk.sel [0] (by simp) rfl (by simp) rfl (by simp[AT]) (by simp[Cq,AT,AK,AN,Iq]))⟩
  ·have q1:decide ((k:Int)<(hs.length:Int))=false:=decide_eq_false (by omega)
   have d1:hs.drop k=[]:=List.drop_eq_nil_of_le (by omega)
   rw[d1]at hgo
   simp only[DL]at hgo
   by_cases c3:rest.length=0
   ·have q4:decide ((0:Int)<(rest.length:Int))=false:=decide_eq_false (by omega)
    rw[if_pos c3]at hgo
    refine (ms q1 @Ab q4 ?_).1
    (refine AF.untag 6 rfl ?_;simp only[Au,List.set_cons_zero,List.set_cons_succ])
    (refine FB XH [] ?_ ?_<;>first|with_reducible rfl|(simp[Ae,Ah,Ai,Ag,←hgo];done)|rfl)
   ·have q4:decide ((0:Int)<(rest.length:Int))=true:=decide_eq_true (by omega)
    rw[if_neg c3]at hgo
    refine (ms q1 @Ab q4 ?_).1
    (refine AF.nilk 6 2 rfl ?_;simp only[List.set_cons_zero,List.set_cons_succ])
    (refine FB XH [] ?_ ?_<;>first|with_reducible rfl|(simp[Ae,Ah,Ai,Ag,←hgo,IE];done)|rfl)
 ·have q:((ns.length:Int) != (hs.length:Int))=true:=by simp;omega
  have e:DU hs ns d=([],false):=by unfold DU;rw[if_neg hh]
  refine RN Tryz.func163 XH ?_;refine (mr @AA @Ab ?_).1
  refine (mq q ?_).1
  (refine AF.nilk 6 2 rfl ?_;simp only[List.set_cons_zero,List.set_cons_succ])
  (refine FB XH [] ?_ ?_<;>first|with_reducible rfl|(simp[Ae,Ah,Ai,Ag,e,IE];done)|rfl)
theorem Xk (hs:List En) (ns d:List Int) (hl:hs.length≤1000000) (hd:d.length≤100000000) (hm:∀e∈hs,e.lk.length≤1000000∧∀x∈e.lk,x.bk.length≤1000000) (hns:∀n∈ns,n<9223372036854775808):Ct Tryz.prog 163 [JN hs,A9 .i64 ns,A9 .u8 d] [] (λ_=>.tup [JN (DU hs ns d).1,bA (DU hs ns d).2]) [] (λ_=>[]):=(Uk hs ns d hl hd hm hns).toCt cl cl
theorem Ri (e:Int):An Tryz.prog 95 [uA e] [] (bA (Aj e)) []:=by
 refine RM Tryz.func95 b95 ?_
 by_cases h1:1≤e
 ·have q:decide (1≤e)=true:=by simpa using h1
  refine (mq q ?_).1
  (refine FB b95 [] ?_ ?_<;>first|with_reducible rfl|(simp[Ae,Ah,Ai,Ag,Aj,q];done)|rfl)
 ·have q:decide (1≤e)=false:=by simpa using h1
  refine (mq q ?_).1
  (refine FB b95 [] ?_ ?_<;>first|with_reducible rfl|(simp[Ae,Ah,Ai,Ag,Aj,q];done)|rfl)
theorem AQ (e:Int):Ct Tryz.prog 95 [uA e] [] (λ_=>bA (Aj e)) [] (λ_=>[]):=(Ri e).toCt Ci Ci
theorem Xi (e:Int):An Tryz.prog 166 [uA e] [] (bA (Bb e)) []:=by
 refine RM Tryz.func166 Asy ?_
 (refine FB Asy [] ?_ ?_<;>first|with_reducible rfl|(simp[Ae,Ah,Ai,Ag,Bb];done)|rfl)
theorem ID (e:Int):Ct Tryz.prog 166 [uA e] [] (λ_=>bA (Bb e)) [] (λ_=>[]):=(Xi e).toCt Ci Ci
theorem H5 {s:RS} (h:¬s.code=0) (c a:Int):s.fail c a=s:=by unfold RS.fail;rw[if_neg h]
theorem Abk {s:RS} (h:s.code=0) (a:Int):(s.fail 3 a).good=false:=by unfold RS.fail RS.good;rw[if_pos h];simp[BW]
theorem Ug (f:FuncId) (ok:Int->Bool) (hf:∀x,Ct Tryz.prog f [uA x] [] (λ_=>bA (ok x)) [] (λ_=>[])) (s:RS) (hs:Av s):An Tryz.prog 213 [.ref 0 0,.fn f [] []] [A7 s] (uA (s.epo ok).2) [A7 (s.epo ok).1]:=by
 refine RM Tryz.func213 Ahg ?_
 refine Aa.r1 (AP s 0) rfl ?_
 refine (mp ?_).1
 refine Aa.u1 (B3 s 0 hs.ok hs.bys) rfl ?_
 refine (mp ?_).1
 refine Aa.p (hf s.vint.2) ?_
 refine (mp ?_).1
 by_cases hc:s.vint.1.code=0
 ·by_cases ho:ok s.vint.2=true
  ·have hg:s.vint.1.good=true:=by simp[RS.good,hc]
   refine (mq ho ?_).1
   refine Aa.r1 (Ak _ 0) rfl ?_
   refine (mq hg ?_).1
   (refine FB Ahg [0] ?_ ?_<;>first|with_reducible rfl|(simp[Ae,Ah,Ai,Ag,RS.epo,hc,ho];done)|rfl)
  ·have hg:=Abk hc s.at_
   have ho':ok s.vint.2=false:=by simpa using ho
   refine (mq ho' ?_).1
   refine Aa.u1 (Ar _ 3 _ 0) rfl ?_
   refine (mp ?_).1
   refine Aa.r1 (Ak _ 0) rfl ?_
   refine (mq hg ?_).1
   (refine FB Ahg [0] ?_ ?_<;>first|with_reducible rfl|(simp[Ae,Ah,Ai,Ag,RS.epo,hc,ho'];done)|rfl)
 ·have hg:s.vint.1.good=false:=by simp[RS.good,hc]
  have hfl:=H5 hc 3 s.at_
  refine Ax (λh=>?_) (λh=>?_)
  ·refine (mp ?_).1
   refine Aa.u1 (Ar _ 3 _ 0) rfl ?_
   refine (mp ?_).1
   refine Aa.r1 (Ak _ 0) rfl ?_
   refine (mr hfl hg ?_).1
   (refine FB Ahg [0] ?_ ?_<;>first|with_reducible rfl|(simp[Ae,Ah,Ai,Ag,RS.epo,hc,hfl];done)|rfl)
  ·refine (mp ?_).1
   refine Aa.r1 (Ak _ 0) rfl ?_
   refine (mq hg ?_).1
   (refine FB Ahg [0] ?_ ?_<;>first|with_reducible rfl|(simp[Ae,Ah,Ai,Ag,RS.epo,hc];done)|rfl)
theorem Nw (f:FuncId) (ok:Int->Bool) (hf:∀x,Ct Tryz.prog f [uA x] [] (λ_=>bA (ok x)) [] (λ_=>[])) (s:RS) (i:Nat) (hs:Av s):Ct Tryz.prog 213 [.ref i 0,.fn f [] []] [(i,A7 s)] (λ_=>uA (s.epo ok).2) [(i,A7 (s.epo ok).1)] (λ_=>[]):=Ct.u1 (Ug f ok hf s hs) i Ci (λρ=>Ao ρ s) (λρ=>Ao ρ _) (rdr_dead s) Ci
theorem Uh (s:RS) (hs:Av s):An Tryz.prog 151 [.ref 0 0] [A7 s] (uA (s.epo Aj).2) [A7 (s.epo Aj).1]:=by
 refine RM Tryz.func151 As4 ?_
 refine Aa.u1 (Nw _ Aj AQ s 0 hs) rfl ?_
 refine (mp ?_).1
 exact FA As4 [0]
theorem Hn (s:RS) (i:Nat) (hs:Av s):Ct Tryz.prog 151 [.ref i 0] [(i,A7 s)] (λ_=>uA (s.epo Aj).2) [(i,A7 (s.epo Aj).1)] (λ_=>[]):=Ct.u1 (Uh s hs) i Ci (λρ=>Ao ρ s) (λρ=>Ao ρ _) (rdr_dead s) Ci
theorem Nx (s:RS) (hs:Av s):An Tryz.prog 153 [.ref 0 0] [A7 s] (uA (s.epo Bb).2) [A7 (s.epo Bb).1]:=by
 refine RM Tryz.func153 As2 ?_
 refine Aa.u1 (Nw _ Bb ID s 0 hs) rfl ?_
 refine (mp ?_).1
 exact FA As2 [0]
theorem IU (s:RS) (i:Nat) (hs:Av s):Ct Tryz.prog 153 [.ref i 0] [(i,A7 s)] (λ_=>uA (s.epo Bb).2) [(i,A7 (s.epo Bb).1)] (λ_=>[]):=Ct.u1 (Nx s hs) i Ci (λρ=>Ao ρ s) (λρ=>Ao ρ _) (rdr_dead s) Ci
abbrev oA (x:O1):AV:=.agg [uA x.st,uA x.bk,bA x.hb,A9 .u8 x.data]
def o1s (l:List O1):List AV:=l.map oA
@[simp] theorem Ati (ρ:Nat->Nat) (l:List O1):(o1s l).map (λx=>x.ren ρ)=o1s l:=by
 simp[o1s,Function.comp_def,AT,AN]
structure Atx (u:Sg1):Prop where
 b0:0≤u.base
 b1:u.base<18446744073709551616
 n:u.en.length≤1000000
 s:Aiq u.en≤100000000000
section
variable {P:Program} {S:List Ad} {K:KT} {f:FuncId} {args args₀:List AV}
theorem Ct.u3 {o₀ p₀ q₀ o₁ p₁ q₁ o p q o' p' q':Ad} {r:AV} (h:An P f args₀ [o₀,p₀,q₀] r [o₁,p₁,q₁]) (i j k:Nat) (hn:[i,j,k].Nodup) (ha:∀N,args₀.map (λx=>x.ren (AK [i,j,k] N))=args)
 (ho:∀N,o₀.ren (AK [i,j,k] N)=o) (hp:∀N,p₀.ren (AK [i,j,k] N)=p) (hq:∀N,q₀.ren (AK [i,j,k] N)=q) (ho':∀N,o₁.ren (AK [i,j,k] N)=o') (hp':∀N,p₁.ren (AK [i,j,k] N)=p') (hq':∀N,q₁.ren (AK [i,j,k] N)=q')
 (hd:∀x∈[o₀,p₀,q₀],x≠ .dead) (hr:∀ρ,r.ren ρ=r):
 Ct P f args [(i,o),(j,p),(k,q)] (λ_=>r) [(i,o'),(j,p'),(k,q')] (λ_=>[]):=
 Ct.mk h [i,j,k] hn rfl (by simp) hd (λn N=>by simpa using ha N) (λn N=>hr _) (λn N=>by simp[ho,hp,hq]) (.inl λn N=>by simp[ho',hp',hq']) (λn N=>rfl)
theorem Aa.u3 {r:AV} {i j k:Nat} {o p q o' p' q':Ad} (h:Ct P f (args.map Proofs.YtileggkdbaejoaaGreat.untag) [(i,o),(j,p),(k,q)] (λ_=>r) [(i,o'),(j,p'),(k,q')] (λ_=>[])) (hS:S[i]? =some o) (hS':S[j]? =some p) (hS'':S[k]? =some q)
 (hK:K r [i,j,k] [(i,o'),(j,p'),(k,q')] []):Aa P f args S K:=Aa.of h.untag (by simp[hS,hS',hS'']) (by simp) hK
theorem Ct.u4 {o₀ p₀ q₀ s₀ o₁ p₁ q₁ s₁ o p q s o' p' q' s':Ad} {r:AV} (h:An P f args₀ [o₀,p₀,q₀,s₀] r [o₁,p₁,q₁,s₁]) (i j k l:Nat) (hn:[i,j,k,l].Nodup) (ha:∀N,args₀.map (λx=>x.ren (AK [i,j,k,l] N))=args)
 (ho:∀N,o₀.ren (AK [i,j,k,l] N)=o) (hp:∀N,p₀.ren (AK [i,j,k,l] N)=p) (hq:∀N,q₀.ren (AK [i,j,k,l] N)=q) (hs:∀N,s₀.ren (AK [i,j,k,l] N)=s) (ho':∀N,o₁.ren (AK [i,j,k,l] N)=o') (hp':∀N,p₁.ren (AK [i,j,k,l] N)=p') (hq':∀N,q₁.ren (AK [i,j,k,l] N)=q') (hs':∀N,s₁.ren (AK [i,j,k,l] N)=s')
 (hd:∀x∈[o₀,p₀,q₀,s₀],x≠ .dead) (hr:∀ρ,r.ren ρ=r):
 Ct P f args [(i,o),(j,p),(k,q),(l,s)] (λ_=>r) [(i,o'),(j,p'),(k,q'),(l,s')] (λ_=>[]):=
 Ct.mk h [i,j,k,l] hn rfl (by simp) hd (λn N=>by simpa using ha N) (λn N=>hr _) (λn N=>by simp[ho,hp,hq,hs]) (.inl λn N=>by simp[ho',hp',hq',hs']) (λn N=>rfl)
theorem Aa.u4 {r:AV} {i j k l:Nat} {o p q s o' p' q' s':Ad} (h:Ct P f (args.map Proofs.YtileggkdbaejoaaGreat.untag) [(i,o),(j,p),(k,q),(l,s)] (λ_=>r) [(i,o'),(j,p'),(k,q'),(l,s')] (λ_=>[])) (hS:S[i]? =some o) (hS':S[j]? =some p) (hS'':S[k]? =some q) (hS3:S[l]? =some s)
 (hK:K r [i,j,k,l] [(i,o'),(j,p'),(k,q'),(l,s')] []):Aa P f args S K:=Aa.of h.untag (by simp[hS,hS',hS'',hS3]) (by simp) hK
end
abbrev wA (n:Nat):AV:=.lit (.int .u32 (n:Int))
theorem P5 (n:Nat) (h:n<4294967296):IntKind.u32.wrap (n:Int)=n:=IntWalk.u32_in _ (by omega)
theorem Qc (c:Nat):FQ c=if c%2=1 then(c/2)^^^2197175160 else c/2:=rfl
theorem Ab1 (c:Nat) (hc:c<4294967296):An Tryz.prog 267 [wA c] [] (wA (FQ c)) []:=by
 have e1:=Atu c hc
 have e2:(c:Int).fdiv (2^min 1 32)=((c/2:Nat):Int):=Adu c 1
 have e3:=OX (c/2) 2197175160 (by omega) (by omega)
 refine RN Tryz.func267 Aou ?_;refine (mr e1 e2 ?_).1
 by_cases h:c%2=1
 ·have q:(((c%2:Nat):Int)==1)=true:=by rw[h];rfl
  have e:FQ c=(c/2)^^^2197175160:=by rw[Qc,if_pos h]
  have e3':Cx .xor .u32 ((c/2:Nat):Int) 2197175160=((c/2^^^2197175160:Nat):Int):=e3
  refine (mt q e1 e2 e3' ?_).1
  exact FE Aou [] e
 ·have q:(((c%2:Nat):Int)==1)=false:=by simp only[beq_eq_false_iff_ne,ne_eq];omega
  have e:FQ c=c/2:=by rw[Qc,if_neg h]
  refine (ms q e1 e2 ?_).1
  exact FE Aou [] e
theorem Agr (c:Nat) (hc:c<4294967296):Ct Tryz.prog 267 [wA c] [] (λ_=>wA (FQ c)) [] (λ_=>[]):=(Ab1 c hc).toCt cl cl
def Fb (k:Nat):List AV:=(List.range 16).map λi=>wA (if i<k then BC 4 i else 0)
theorem Ej (k:Nat):(Fb k).length=16:=by simp[Fb]
theorem Adb (k:Nat):(Fb k).set k (wA (BC 4 k))=Fb (k+1):=by
 refine List.ext_getElem? λi=>?_
 rw[List.getElem?_set]
 by_cases h:k=i
 ·subst h
  rw[if_pos rfl]
  by_cases hk:k<16
  ·rw[if_pos (by simpa[Fb]using hk)];simp[Fb,hk]
  ·rw[if_neg (by simpa[Fb]using hk)];simp[Fb,hk]
 ·rw[if_neg h]
  by_cases hk:i<16
  ·have:(i<k+1)=(i<k):=by rw[eq_iff_iff];omega
   simp[Fb,hk,this]
  ·simp[Fb,hk]
@[simp] theorem Adc (ρ:Nat->Nat) (k:Nat):(Fb k).map (λx=>x.ren ρ)=Fb k:=by simp[Fb,AT]
def tab:List AV:=Fb 16
theorem XT (i:Nat) (h:i<16):tab[i]? =some (wA (BC 4 i)):=by
 simp[tab,Fb,h]
theorem Lz (n:Nat):∀c,BC (n+1) c=FQ (BC n c):=by
 intro c
 have:=NE n 1 c
 rw[this];rfl
theorem O7 (xs:List AV) (o:Nat) (cs:List AV) (h:o+cs.length≤xs.length):CB xs o cs=xs.take o++cs++xs.drop (o+cs.length):=by
 refine List.ext_getElem? λj=>?_
 rw[GZ xs o cs h,List.append_assoc,List.getElem?_append,List.length_take,show min o xs.length=o by omega]
 by_cases h1:j<o
 ·rw[if_neg (by omega),if_pos h1,List.getElem?_take,if_pos h1]
 ·rw[if_neg h1,List.getElem?_append]
  by_cases h2:j-o<cs.length
  ·rw[if_pos (by omega),if_pos h2]
  ·rw[if_neg (by omega),if_neg h2,List.getElem?_drop];congr 1;omega
@[simp] theorem Atg (ρ:Nat->Nat):tab.map (λx=>x.ren ρ)=tab:=Adc ρ 16
set_option maxRecDepth 100000 in
theorem Xq:An Tryz.prog 247 [] [] (.agg tab) []:=by
 refine RM Tryz.func247 Ar8 ?_
 refine AM (α:=Nat) (λk=>[.ref 0 0,.ref 1 0,.any,.any,iA k,.any,.any,.any,.any,.any,.any,.any,.any,.any,.any,.any,.any,.any,.any]) (λk=>[.cells (Fb 0),.cells (Fb k)]) (λk=>k≤16) (λk=>16-k) 0 (by simp) (Wk.to (by rfl) (by simp[Ca])) ?_
 intro k hk
 refine (mp ?_).1
 refine Ax (λh=>?_) (λh=>?_)
 ·have hlt:k<16:=by simp at h;omega
  have ek:=AJ k (by omega)
  have ec:=P5 k (by omega)
  refine (mq ec ?_).1
  refine AM (α:=Nat) (λj=>[.ref 0 0,.ref 1 0,iA k,wA (BC j k),iA k,.any,.any,.any,.any,iA j,.any,.any,.any,.any,.any,.any,.any,.any,.any]) (λj=>[.cells (Fb 0),.cells (Fb k)]) (λj=>j≤4) (λj=>4-j) 0 (by simp) (Wk.to (by rfl) (by simp[Ca,BC])) ?_
  intro j hj
  refine (mp ?_).1
  refine Ax (λh=>?_) (λh=>?_)
  ·have hj4:j<4:=by simp at h;omega
   have ej:=AJ j (by omega)
   have hs:=Lz j k
   refine (mp ?_).1
   refine Aa.p (Agr (BC j k) (GS j (by omega))) (mq ej ?_).1
   exact⟨j+1,by omega,by omega,Wk.to (by rfl) (by simp[Ca,hs])⟩
  ·have ej:j=4:=by simp at h;omega
   subst ej
   simp only[go_sem,seval,Int.toNat_natCast,Ej,Nat.mul_one,ek,Adb];refine (mok ?_).1
   (repeat((with_reducible refine And.intro ?_ ?_);(·exact sd)))
   exact⟨k+1,by omega,by omega,Wk.to (by simp) (by simp[Ca])⟩
 ·have ek:k=16:=by simp at h;omega
  subst ek
  have etk:List.take 16 (Fb 16)=Fb 16:=List.take_of_length_le (by rw[Ej];omega)
  have esp:CB (Fb 0) 0 (Fb 16)=Fb 16:=by
   rw[O7 _ 0 _ (by rw[Ej,Ej];omega),Ej,List.drop_eq_nil_of_le (by rw[Ej];omega)];simp
  refine (ms @Ej etk esp ?_).1
  (repeat((with_reducible refine And.intro ?_ ?_);(·exact sd)))
  (refine FB Ar8 [] ?_ ?_<;>first|with_reducible rfl|(simp[Ae,Ah,Ai,Ag,tab,Ej,etk];done)|rfl)
theorem Ab0:Ct Tryz.prog 247 [] [] (λ_=>.agg tab) [] (λ_=>[]):=(Xq).toCt cl cl
theorem Pe (l:List Int) (k:Nat) (h:k<l.length):Ee (l.take (k+1))=Ee (l.take k)++[(l.getD k 0).toNat]:=by
 rw[Fj l k h,Th];rfl
theorem Qb:tab.length=16:=Ej 16
theorem Vo {xs:List AV} (h:xs.length=16):CB xs 0 tab=tab:=by
 rw[O7 xs 0 tab (by rw[Qb,h];omega),Qb,List.drop_eq_nil_of_le (by omega)];simp
theorem Yj (b:Nat) (hb:b<4294967296):Cx .xor .u32 ((b/16:Nat):Int) ((BC 4 (b%16):Nat):Int)=((BC 4 b:Nat):Int):=by
 have:=GS 4 (c:=b%16) (by omega)
 rw[OX (b/16) (BC 4 (b%16)) (by omega) (by omega),←Uw]
theorem Acr {a b:Nat} (ha:a<4294967296) (hb:b<4294967296):a^^^b<4294967296:=by
 have:a^^^b<2^32:=Nat.xor_lt_two_pow (by omega) (by omega)
 omega
set_option maxRecDepth 100000 in
theorem Agu (c:Nat) (l:List Int) (hc:c<4294967296) (hl:AY l) (hn:l.length≤140737488355328):An Tryz.prog 194 [wA c,A9 .u8 l] [] (wA (FV c (Ee l))) []:=by
 refine RM Tryz.func194 Asp ?_
 refine Aa.p (Ab0) (ms @Ab @Qb @Vo ?_).1
 (repeat((with_reducible refine And.intro ?_ ?_);(·exact sd)))
 refine AM (α:=Nat) (λk=>[wA (FV c (Ee (l.take k))),.any,.any,.any,.any,.ref 0 0,.any,.any,.any,A9 .u8 l,iA l.length,iA k,.any,.any,.any,.any,.any,.any,.any,.any,.any,.any,.any,.any,.any,.any,.any,.any,.any,.any,.any,.any,.any,.any,.any]) (λ_=>[.cells tab]) (λk=>k≤l.length) (λk=>l.length-k) 0 (by simp) (Wk.to (by simp) (by simp[Ca,Ee,FV])) ?_
 intro k hk
 refine (mp ?_).1
 refine Ax (λh=>?_) (λh=>?_)
 ·have hlt:k<l.length:=by simpa using h
  have ek:=AJ k (by omega)
  have g:=I2 l (k:Int) (by omega) (by omega)
  have hx:=hl _ (CG l k hlt)
  have hst:=Pe l k hlt
  have ha:=Mc hc (l:=Ee (l.take k)) (λx hx=>L4 hl x (by
   simp only[Ee,List.mem_map]at hx ⊢
   obtain⟨y,hy,rfl⟩:=hx
   exact⟨y,List.mem_of_mem_take hy,rfl⟩))
  rw[Int.toNat_natCast]at g
  obtain⟨x,hxe⟩:∃x:Nat,l.getD k 0=(x:Int):=⟨(l.getD k 0).toNat,by omega⟩
  rw[hxe]at g hx hst
  rw[Int.toNat_natCast]at hst
  have he:FV c (Ee (l.take (k+1)))=Kl (FV c (Ee (l.take k))) x:=by rw[hst,PL]
  obtain⟨a,hae⟩:∃a,FV c (Ee (l.take k))=a:=⟨_,rfl⟩
  rw[hae]at ha he ⊢
  have hb:=Acr ha (show x<4294967296 by omega)
  have e0:=P5 x (by omega)
  have e1:=OX a x ha (by omega)
  obtain⟨b,hbe⟩:∃b,a^^^x=b:=⟨_,rfl⟩
  rw[hbe]at e1 hb
  have s1:(b:Int).fdiv (2^min 4 32)=((b/16:Nat):Int):=Adu b 4
  have s2:=Amu b hb
  have s3:=Yj b hb
  have t1:=XT (b%16) (by omega)
  have hd:=GS 4 hb
  obtain⟨d,hde⟩:∃d,BC 4 b=d:=⟨_,rfl⟩
  rw[hde]at s3 hd
  have u1:(d:Int).fdiv (2^min 4 32)=((d/16:Nat):Int):=Adu d 4
  have u2:=Amu d hd
  have u3:=Yj d hd
  have t2:=XT (d%16) (by omega)
  have hf:BC 4 d=FV c (Ee (l.take (k+1))):=by rw[he,Xt,hbe,hde]
  rw[hf]at u3
  simp only[go_sem,seval,g,Ab,Int.toNat_natCast,e0,e1,s1,s2,s3,t1,u1,u2,u3,t2,ek,Nat.mul_one];refine (mok ?_).1
  (repeat((with_reducible refine And.intro ?_ ?_);(·exact sd)))
  exact⟨k+1,by omega,by omega,Wk.to (by simp) (by simp[Ca])⟩
 ·have ek:k=l.length:=by simp at h;omega
  subst ek
  refine (mp ?_).1
  (refine FB Asp [] ?_ ?_<;>first|with_reducible rfl|(simp[Ae,Ah,Ai,Ag,List.take_length];done)|rfl)
theorem Alj (c:Nat) (l:List Int) (hc:c<4294967296) (hl:AY l) (hn:l.length≤140737488355328):Ct Tryz.prog 194 [wA c,A9 .u8 l] [] (λ_=>wA (FV c (Ee l))) [] (λ_=>[]):=(Agu c l hc hl hn).toCt cl cl
theorem Xr:An Tryz.prog 195 [] [] (wA 4294967295) []:=by
 refine RM Tryz.func195 Aso ?_
 exact FA Aso []
theorem Ab2:Ct Tryz.prog 195 [] [] (λ_=>wA 4294967295) [] (λ_=>[]):=(Xr).toCt cl cl
theorem Agt (c:Nat) (hc:c<4294967296):An Tryz.prog 193 [wA c] [] (.lit (.int .u32 (4294967295-(c:Int)))) []:=by
 have e:Cx .xor .u32 (if IntKind.u32.signed then-1 else IntKind.u32.max) (c:Int)=4294967295-(c:Int):=Aqh c hc
 refine RN Tryz.func193 Asq ?_;refine (mq e ?_).1
 exact FA Asq []
theorem Ali (c:Nat) (hc:c<4294967296):Ct Tryz.prog 193 [wA c] [] (λ_=>.lit (.int .u32 (4294967295-(c:Int)))) [] (λ_=>[]):=(Agt c hc).toCt cl cl
abbrev Air (l:List Int):AV:=.lit (.int .u32 (Br l))
theorem Ags (l:List Int) (hl:AY l) (hn:l.length≤140737488355328):An Tryz.prog 129 [A9 .u8 l] [] (Air l) []:=by
 have h:=Mc (c:=4294967295) (by omega) (L4 hl)
 refine RM Tryz.func129 As5 ?_
 refine Aa.p (Ab2) (mp ?_).1
 refine Aa.p (Alj 4294967295 l (by omega) hl hn) (mp ?_).1
 refine Aa.p (Ali (FV 4294967295 (Ee l)) h) (mp ?_).1
 (refine FB As5 [] ?_ ?_<;>first|with_reducible rfl|(simp[Ae,Ah,Ai,Ag,Br];done)|rfl)
theorem Hq (l:List Int) (hl:AY l) (hn:l.length≤140737488355328):Ct Tryz.prog 129 [A9 .u8 l] [] (λ_=>Air l) [] (λ_=>[]):=(Ags l hl hn).toCt cl cl
set_option maxRecDepth 100000 in
theorem SK (c x:Nat) (hc:c<4294967296) (hx:x<256):An Tryz.prog 245 [wA c,O0 (x:Int)] [] (wA (Kl c x)) []:=by
 have e0:=P5 x (by omega)
 have e1:=OX c x hc (by omega)
 have hb:=Acr hc (show x<4294967296 by omega)
 have hce:Kl c x=BC 8 (c^^^x):=rfl
 obtain⟨b,hbe⟩:∃b,c^^^x=b:=⟨_,rfl⟩
 rw[hbe]at e1 hb hce
 refine RN Tryz.func245 Ar9 ?_;refine (mr e0 e1 ?_).1
 refine AM (α:=Nat) (λj=>[wA (BC j b),.any,.any,.any,.any,iA j,.any,.any,.any,.any,.any,.any,.any,.any,.any,.any,.any,.any,.any,.any,.any,.any,.any,.any]) (λ_=>[]) (λj=>j≤8) (λj=>8-j) 0 (by simp) (Wk.to (by simp) (by simp[Ca,BC])) ?_
 intro j hj
 have hs:=GS j hb
 have hsn:=Lz j b
 refine (mp ?_).1
 refine Ax (λh=>?_) (λh=>?_)
 ·have hlt:j<8:=by simp at h;omega
  have ej:=AJ j (by omega)
  obtain⟨d,hde⟩:∃d,BC j b=d:=⟨_,rfl⟩
  rw[hde]at hs hsn ⊢
  have em:(d:Int).tmod 2=((d%2:Nat):Int):=by rw[Int.tmod_eq_emod_of_nonneg (by omega)];omega
  have ed:IntKind.u32.wrap ((d:Int).tdiv 2)=((d/2:Nat):Int):=by rw[Int.tdiv_eq_ediv_of_nonneg (by omega),IntWalk.u32_in _ (by omega)];omega
  have e3:Cx .xor .u32 ((d/2:Nat):Int) 2197175160=((d/2^^^2197175160:Nat):Int):=OX (d/2) 2197175160 (by omega) (by omega)
  rw[Qc]at hsn
  by_cases h1:d%2=1
  ·have q:(((d%2:Nat):Int)==1)=true:=by rw[h1];rfl
   rw[if_pos h1]at hsn
   simp only[go_sem,seval,em,ed,q,e3,ej];refine (mok ?_).1
   (repeat((with_reducible refine And.intro ?_ ?_);(·exact sd)))
   exact⟨j+1,by omega,by omega,Wk.to (by simp) (by simp[Ca,hsn])⟩
  ·have q:(((d%2:Nat):Int)==1)=false:=by simp only[beq_eq_false_iff_ne,ne_eq];omega
   rw[if_neg h1]at hsn
   refine (mt em ed q ej ?_).1
   (repeat((with_reducible refine And.intro ?_ ?_);(·exact sd)))
   exact⟨j+1,by omega,by omega,Wk.to (by simp) (by simp[Ca,hsn])⟩
 ·have ej:j=8:=by simp at h;omega
  subst ej
  refine (mp ?_).1
  exact FE Ar9 [] hce
theorem VK (c x:Nat) (hc:c<4294967296) (hx:x<256):Ct Tryz.prog 245 [wA c,O0 (x:Int)] [] (λ_=>wA (Kl c x)) [] (λ_=>[]):=(SK c x hc hx).toCt cl cl
theorem VM (c:Nat) (l:List Int) (hc:c<4294967296) (hl:AY l) (hn:l.length≤140737488355328):An Tryz.prog 188 [wA c,A9 .u8 l] [] (wA (FV c (Ee l))) []:=by
 refine RM Tryz.func188 Ass ?_
 refine AM (α:=Nat) (λk=>[wA (FV c (Ee (l.take k))),A9 .u8 l,.any,.any,.any,iA k,.any,.any,.any,.any,.any,.any,.any,.any,.any,.any,.any,.any,.any]) (λ_=>[]) (λk=>k≤l.length) (λk=>l.length-k) 0 (by simp) (Wk.to (by simp) (by simp[Ca,Ee,FV])) ?_
 intro k hk
 refine (mq @Ab ?_).1
 refine Ax (λh=>?_) (λh=>?_)
 ·have hlt:k<l.length:=by simpa using h
  have ek:=AJ k (by omega)
  have g:=I2 l (k:Int) (by omega) (by omega)
  have hx:=hl _ (CG l k hlt)
  have hst:=Pe l k hlt
  have ha:=Mc hc (l:=Ee (l.take k)) (λx hx=>L4 hl x (by
   simp only[Ee,List.mem_map]at hx ⊢
   obtain⟨y,hy,rfl⟩:=hx
   exact⟨y,List.mem_of_mem_take hy,rfl⟩))
  rw[Int.toNat_natCast]at g
  obtain⟨x,hxe⟩:∃x:Nat,l.getD k 0=(x:Int):=⟨(l.getD k 0).toNat,by omega⟩
  rw[hxe]at g hx hst
  rw[Int.toNat_natCast]at hst
  have he:FV c (Ee (l.take (k+1)))=Kl (FV c (Ee (l.take k))) x:=by rw[hst,PL]
  refine (ms g @Ab @Int.toNat_natCast ?_).1
  (repeat((with_reducible refine And.intro ?_ ?_);(·exact sd)))
  refine Aa.p (VK (FV c (Ee (l.take k))) x ha (by omega)) (mq ek ?_).1
  exact⟨k+1,by omega,by omega,Wk.to (by simp) (by simp[Ca,he])⟩
 ·have ek:k=l.length:=by simp at h;omega
  subst ek
  refine (mp ?_).1
  (refine FB Ass [] ?_ ?_<;>first|with_reducible rfl|(simp[Ae,Ah,Ai,Ag,List.take_length];done)|rfl)
theorem ZB (c:Nat) (l:List Int) (hc:c<4294967296) (hl:AY l) (hn:l.length≤140737488355328):Ct Tryz.prog 188 [wA c,A9 .u8 l] [] (λ_=>wA (FV c (Ee l))) [] (λ_=>[]):=(VM c l hc hl hn).toCt cl cl
theorem VL (l:List Int) (hl:AY l) (hn:l.length≤140737488355328):An Tryz.prog 118 [A9 .u8 l] [] (Air l) []:=by
 have h:=Dt hl
 have e:IntKind.u32.wrap (4294967295-((FV 4294967295 (Ee l):Nat):Int))=Br l:=IntWalk.u32_in _ (by unfold Br at h;omega)
 refine RM Tryz.func118 As7 ?_
 refine Aa.p (ZB 4294967295 l (by omega) hl hn) (mq e ?_).1
 exact FA As7 []
theorem Pb (l:List Int) (hl:AY l) (hn:l.length≤140737488355328):Ct Tryz.prog 118 [A9 .u8 l] [] (λ_=>Air l) [] (λ_=>[]):=(VL l hl hn).toCt cl cl
theorem FY {l:List Int} (hl:AY l):IntKind.u64.wrap (Br l)=Br l:=by
 have:=Dt hl
 exact IntWalk.u64_in _ (by omega)
theorem TU (n:Int) (n1:n≤4611686018427387904):An Tryz.prog 239 [iA n] [] (iA (Dm n)) []:=by
 have hv:=(Bd (max n 0)).2
 have e:IntKind.i64.wrap (((vb (max n 0)).length:Int)+max n 0+4)=Dm n:=IntWalk.i64_in _ (by omega)
 refine RM Tryz.func239 Asa ?_
 refine Aa.p (IK n n1) (mq e ?_).1
 exact FA Asa []
theorem Jv (n:Int) (n1:n≤4611686018427387904):Ct Tryz.prog 239 [iA n] [] (λ_=>iA (Dm n)) [] (λ_=>[]):=(TU n n1).toCt cl cl
theorem Q1 (m:Int):An Tryz.prog 90 [iA m] [] (iA (Ch m)) []:=by
 have e:=mn m 2097152
 refine RN Tryz.func90 b90 ?_;refine (mq e ?_).1
 (refine FB b90 [] ?_ ?_<;>first|with_reducible rfl|(simp[Ae,Ah,Ai,Ag,Ch];done)|rfl)
theorem Ls (m:Int):Ct Tryz.prog 90 [iA m] [] (λ_=>iA (Ch m)) [] (λ_=>[]):=(Q1 m).toCt cl cl
def WS.frame (s:WS) (p:List Int):WS:=if 2097152<(p.length:Int)then s.fail 2 else((s.put (vb p.length)).put p).put (Aq 4 (Br p))
theorem WS.fine.frame {s:WS} (h:s.fine) (p:List Int):(s.frame p).fine:=by
 unfold WS.frame
 split
 ·exact h.fail 2
 ·exact((h.put _).put _).put _
theorem WT (s:WS) (p:List Int) (hs:s.fine) (hp:AY p) (hn:p.length≤140737488355328):An Tryz.prog 240 [.ref 0 0,A9 .u8 p] [B4 1 s,A1 s] (.tup []) [B4 1 (s.frame p),A1 (s.frame p)]:=by
 have hr:=Dt hp
 have e:=FY hp
 refine RN Tryz.func240 Ao3 ?_;refine (mq @Ab ?_).1
 by_cases h:2097152<(p.length:Int)
 ·have q:decide (2097152<(p.length:Int))=true:=by simpa using h
  refine (mq q ?_).1
  refine Aa.u2 (Cp s 2 0 1 (by decide)) rfl rfl (mp ?_).1
  (refine FB Ao3 [0,1] ?_ ?_<;>first|with_reducible rfl|(simp[Ae,Ah,Ai,Ag,WS.frame,h];done)|rfl)
 ·have q:decide (2097152<(p.length:Int))=false:=by simpa using h
  have hf1:((s.put (vb p.length)).put p).fine:=(hs.put _).put _
  refine (mq q ?_).1
  refine Aa.u2 (UJ s p 0 1 (by decide) hs hn) rfl rfl (mp ?_).1
  refine Aa.p (Hq p hp hn) (mq e ?_).1
  refine Aa.u2 (Hv ((s.put (vb p.length)).put p) (Br p) 4 0 1 (by decide) hr.1 (by omega) hf1) rfl rfl (mp ?_).1
  (refine FB Ao3 [0,1] ?_ ?_<;>first|with_reducible rfl|(simp[Ae,Ah,Ai,Ag,WS.frame,h,show(min (max (4:Int) 0) 8).toNat=4 from rfl];done)|rfl)
theorem PB (s:WS) (p:List Int) (i j:Nat) (h:i≠j) (hs:s.fine) (hp:AY p) (hn:p.length≤140737488355328):Ct Tryz.prog 240 [.ref i 0,A9 .u8 p] [(i,B4 j s),(j,A1 s)] (λ_=>.tup []) [(i,B4 j (s.frame p)),(j,A1 (s.frame p))] (λ_=>[]):=Ct.u2 (WT s p hs hp hn) i j h cl cl cl cl cl (BI _ _) (Bm _) Ci
theorem PA {s:WS} {p:List Int} (h:s.code=0) (hp:p.length≤2097152) (hm:(s.l.length:Int)+(Ac p).length≤s.most):s.frame p=⟨s.most,s.l++Ac p,0⟩:=by
 have h4:=BD 4 (Br p)
 rw[FN]at hm
 unfold Dv at hm
 rw[List.length_append]at hm
 unfold WS.frame
 rw[if_neg (by omega)]
 have e1:s.put (vb p.length)=⟨s.most,s.l++vb p.length,0⟩:=by rw[WS.put_ok h (by omega)];cases s;simp at h;simp[h]
 have e2:(WS.mk s.most (s.l++vb p.length) 0).put p=⟨s.most,s.l++vb p.length++p,0⟩:=by rw[WS.put_ok rfl (by simp only[List.length_append];omega)]
 have e3:(WS.mk s.most (s.l++vb p.length++p) 0).put (Aq 4 (Br p))=⟨s.most,s.l++vb p.length++p++Aq 4 (Br p),0⟩:=by rw[WS.put_ok rfl (by simp only[List.length_append];omega)]
 rw[e1,e2,e3]
 simp[Ac,Dv]
theorem Q4 (p:List Int) (hp:AY p) (hn:p.length≤2097152):An Tryz.prog 179 [A9 .u8 p] [] (.tup [A9 .u8 (Ac p),iA 0]) []:=by
 have hsz:=Sp p.length
 have hfr:=K9 (p:=p)
 have f0:(WS.new (Dm p.length)).fine:=WS.fine.new (by omega)
 have hf:=PA (s:=WS.new (Dm p.length)) (p:=p) rfl hn (by rw[WS.new_is (by omega)];simp;omega)
 rw[WS.new_is (by omega)]at hf
 refine RN Tryz.func179 Al3 ?_;refine (mq @Ab ?_).1
 refine Aa.p (Jv p.length (by omega)) (mp ?_).1
 refine Aa.n (ER (Dm p.length)) (mp ?_).1
 refine Aa.u2 (PB (WS.new (Dm p.length)) p _ _ (by decide) f0 hp (by omega)) rfl rfl (mp ?_).1
 have hfin:=(f0.frame p).len
 refine Aa.r2 (B1 ((WS.new (Dm p.length)).frame p) _ _ (by decide) hfin) rfl rfl (mp ?_).1
 rw[WS.new_is (by omega),hf]
 (refine FB Al3 [] ?_ ?_<;>first|with_reducible rfl|(simp[Ae,Ah,Ai,Ag,WS.bytes];done)|rfl)
theorem TW (p:List Int) (hp:AY p) (hn:p.length≤2097152):Ct Tryz.prog 179 [A9 .u8 p] [] (λ_=>.tup [A9 .u8 (Ac p),iA 0]) [] (λ_=>[]):=(Q4 p hp hn).toCt cl cl
theorem No (s:RS) (b:List Int) (x a:Int) (hb:AY b) (hn:b.length≤140737488355328):An Tryz.prog 92 [A9 .u8 b,uA x,.fn 81 [.ref 0 0] [],iA a] [A7 s] (.tup []) [A7 (if x=Br b then s else s.fail 6 a)]:=by
 have e:=FY hb
 refine RM Tryz.func92 b92 ?_
 refine Aa.p (Hq b hb hn) (mq e ?_).1
 by_cases h:x=Br b
 ·have q:(Br b != x)=false:=by simp[h]
  refine (mq q ?_).1
  exact FE b92 [0] h
 ·have q:(Br b != x)=true:=by simp;exactλh'=>h h'.symm
  refine (mq q ?_).1
  refine Aa.u1 (Ar s 6 a 0) rfl (mp ?_).1
  exact FE b92 [0] h
theorem Ox (s:RS) (b:List Int) (x a:Int) (i:Nat) (hb:AY b) (hn:b.length≤140737488355328):Ct Tryz.prog 92 [A9 .u8 b,uA x,.fn 81 [.ref i 0] [],iA a] [(i,A7 s)] (λ_=>.tup []) [(i,A7 (if x=Br b then s else s.fail 6 a))] (λ_=>[]):=
 Ct.u1 (No s b x a hb hn) i cl (λρ=>Ao ρ _) (λρ=>Ao ρ _) (rdr_dead s) Ci
theorem TV (s:RS) (m:Int) (hs:Av s) (m1:m<9223372036854775808):An Tryz.prog 42 [.ref 0 0,iA m] [A7 s] (A9 .u8 (s.frame m).2) [A7 ((s.frame m).1)]:=by
 obtain⟨a1,a2⟩:=RS.ok.blob hs (Ch m)
 have hsh:=JB hs (Ch m)
 have hlen:=hs.len
 refine RM Tryz.func42 b42 ?_
 refine Aa.p (Ls m) (mp ?_).1
 refine Aa.u1 (PU s (Ch m) _ (by unfold Ch;omega) hs) rfl ?_;refine (mp ?_).1
 generalize hB:s.blob (Ch m)=B at*
 obtain⟨t,p⟩:=B
 simp only at a1 a2 hsh
 have e:s.frame m=if(t.fixed 4).1.code=0 then(if(t.fixed 4).2=Br p then((t.fixed 4).1,p)else((t.fixed 4).1.fail 6 t.at_,[]))else((t.fixed 4).1,[]):=by
  unfold RS.frame;rw[hB]
 refine Aa.r1 (AP t _) rfl (mp ?_).1
 refine Aa.u1 (Du t 4 _ a1) rfl (mp ?_).1
 refine Aa.u1 (Ox (t.fixed 4).1 p (t.fixed 4).2 t.at_ _ hsh.2 (by omega)) rfl (mp ?_).1
 by_cases hc:(t.fixed 4).1.code=0
 ·rw[if_pos hc]at e
  by_cases hx:(t.fixed 4).2=Br p
  ·rw[if_pos hx]at e
   rw[if_pos hx]
   refine Aa.r1 (Ak (t.fixed 4).1 _) rfl (mq (AW hc) ?_).1
   exact FE b42 [0] e
  ·rw[if_neg hx]at e
   rw[if_neg hx]
   have hb:¬((t.fixed 4).1.fail 6 t.at_).code=0:=BM _ _ hc (by decide)
   refine Aa.r1 (Ak ((t.fixed 4).1.fail 6 t.at_) _) rfl (mq (Ay hb) ?_).1
   (refine AF.untag 4 rfl ?_;simp only[Au,List.set_cons_zero,List.set_cons_succ])
   exact FE b42 [0] e
 ·rw[if_neg hc]at e
  have hk:((if(t.fixed 4).2=Br p then(t.fixed 4).1 else(t.fixed 4).1.fail 6 t.at_))=(t.fixed 4).1:=by
   split
   ·rfl
   ·unfold RS.fail;rw[if_neg hc]
  rw[hk]
  refine Aa.r1 (Ak (t.fixed 4).1 _) rfl (mq (Ay hc) ?_).1
  (refine AF.untag 4 rfl ?_;simp only[Au,List.set_cons_zero,List.set_cons_succ])
  exact FE b42 [0] e
theorem Np (s:RS) (m:Int) (i:Nat) (hs:Av s) (m1:m<9223372036854775808):Ct Tryz.prog 42 [.ref i 0,iA m] [(i,A7 s)] (λ_=>A9 .u8 (s.frame m).2) [(i,A7 ((s.frame m).1))] (λ_=>[]):=Ct.u1 (TV s m hs m1) i cl (λρ=>Ao ρ _) (λρ=>Ao ρ _) (rdr_dead _) cl
theorem WU (b:List Int) (m:Int) (hb:AY b) (hn:b.length≤140737488355328) (m1:m<9223372036854775808):An Tryz.prog 13 [A9 .u8 b,iA m] [] (.tup [A9 .u8 (BA b m).1,iA (BA b m).2.1,B9 (BA b m).2.2]) []:=by
 have hok:Av (RS.new b):=Av.new hb hn
 refine RM Tryz.func13 b13 ?_
 refine Aa.n (Ce b) (mp ?_).1
 refine Aa.u1 (Np (RS.new b) m _ hok m1) rfl (mp ?_).1
 refine Aa.r1 (A3 ((RS.new b).frame m).1 _) rfl (mp ?_).1
 by_cases hc:((RS.new b).frame m).1.code=0
 ·have e:BA b m=(((RS.new b).frame m).2,((RS.new b).frame m).1.at_,(0,0)):=by unfold BA;rw[if_pos hc]
  have q:(((RS.new b).frame m).1.code==0)=true:=by simpa using hc
  refine Aa.p (Aw _ _) (mq q ?_).1
  refine Aa.r1 (AP ((RS.new b).frame m).1 _) rfl (mp ?_).1
  exact FE b13 [] e
 ·have e:BA b m=([],0,(((RS.new b).frame m).1.code,((RS.new b).frame m).1.fat)):=by unfold BA;rw[if_neg hc]
  have q:(((RS.new b).frame m).1.code==0)=false:=by simpa using hc
  refine Aa.p (Aw _ _) (mq q ?_).1
  (refine AF.untag 4 rfl ?_;simp only[Au,List.set_cons_zero,List.set_cons_succ])
  exact FE b13 [] e
theorem Fm (b:List Int) (m:Int) (hb:AY b) (hn:b.length≤140737488355328) (m1:m<9223372036854775808):Ct Tryz.prog 13 [A9 .u8 b,iA m] [] (λ_=>.tup [A9 .u8 (BA b m).1,iA (BA b m).2.1,B9 (BA b m).2.2]) [] (λ_=>[]):=(WU b m hb hn m1).toCt cl cl
theorem Q2 (b:List Int) (m:Int) (hb:AY b) (hn:b.length≤140737488355328):An Tryz.prog 241 [A9 .u8 b,iA m] [] (.tup [iA (Eh b m),bA (Dw b m)]) []:=by
 have hok:Av (RS.new b):=Av.new hb hn
 have hm:=KG m
 have hr:=D_ (s:=RS.new b) (m:=Ch m) hb
 refine RM Tryz.func241 Ao2 ?_
 refine Aa.n (Ce b) (mp ?_).1
 refine Aa.p (Ls m) (mp ?_).1
 refine Aa.u1 (A4 (RS.new b) (Ch m) _ (by omega) hok.ok hok.bys) rfl (mp ?_).1
 by_cases hc:((RS.new b).int (Ch m)).1.code=0
 ·have e:Eh b m=Dm ((RS.new b).int (Ch m)).2:=by unfold Eh;rw[if_pos hc]
  have e2:Dw b m=true:=by unfold Dw;rw[hc];rfl
  refine Aa.r1 (Ak ((RS.new b).int (Ch m)).1 _) rfl (mq (AW hc) ?_).1
  refine Aa.p (Jv ((RS.new b).int (Ch m)).2 (by omega)) (mp ?_).1
  exact FF Ao2 [] e e2
 ·have e:Eh b m=0:=by unfold Eh;rw[if_neg hc]
  have e2:Dw b m=false:=by unfold Dw;simpa using hc
  refine Aa.r1 (Ak ((RS.new b).int (Ch m)).1 _) rfl (mq (Ay hc) ?_).1
  exact FF Ao2 [] e e2
theorem TT (b:List Int) (m:Int) (hb:AY b) (hn:b.length≤140737488355328):Ct Tryz.prog 241 [A9 .u8 b,iA m] [] (λ_=>.tup [iA (Eh b m),bA (Dw b m)]) [] (λ_=>[]):=(Q2 b m hb hn).toCt cl cl
set_option maxRecDepth 100000 in
theorem SJ (s:RS) (m:Int) (hs:Av s) (m1:m<9223372036854775808):An Tryz.prog 59 [cv s,iA m] [] (.tup [cv (s.frame m).1,A9 .u8 (s.frame m).2]) []:=by
 obtain⟨a1,a2⟩:=RS.ok.blob hs (Ch m)
 have hsh:=JB hs (Ch m)
 have hlen:=hs.len
 have hm:=KG m
 obtain⟨B,hB⟩:∃B,s.blob (Ch m)=B:=⟨_,rfl⟩
 rw[hB]at a1 a2 hsh
 obtain⟨t,p⟩:=B
 simp only at a1 a2 hsh
 have e:s.frame m=if(t.fixed 4).1.code=0 then(if(t.fixed 4).2=Br p then((t.fixed 4).1,p)else((t.fixed 4).1.fail 6 t.at_,[]))else((t.fixed 4).1,[]):=by
  unfold RS.frame;rw[hB]
 have eb:=FY hsh.2
 obtain⟨F,hF⟩:∃F,t.fixed 4=F:=⟨_,rfl⟩
 have hF':t.fixed (min (max 4 0) 8)=F:=hF
 rw[hF]at e
 obtain⟨u,x⟩:=F
 simp only at e
 obtain⟨M,hM⟩:∃M,Ch m=M:=⟨_,rfl⟩
 rw[hM]at hB hm
 refine RM Tryz.func59 b59 ?_
 by_cases hmm:2097152<m
 ·have q:decide (2097152<m)=true:=by simpa using hmm
  have em:M=2097152:=by rw[←hM];unfold Ch;omega
  subst em
  refine (mq q ?_).1
  refine Aa.p (MK s 2097152 (by omega) hs) (mq hB ?_).1
  refine Aa.p (Lc t 4 a1) ?_
  by_cases hc:u.code=0
  ·have q1:(u.code==0)=true:=by simpa using hc
   have q1':(u.code != 0)=false:=by simpa using hc
   rw[if_pos hc]at e
   refine (mr hF' q1 ?_).1
   refine Aa.p (Pb p hsh.2 (by omega)) ?_
   by_cases hx:x=Br p
   ·have q2:(x != Br p)=false:=by simpa using hx
    rw[if_pos hx]at e
    refine (ms eb q2 q1' ?_).1
    exact FE b59 [] e
   ·have q2:(x != Br p)=true:=by simpa using hx
    have q3:((u.fail 6 t.at_).code != 0)=true:=by simpa using BM 6 t.at_ hc (by decide)
    rw[if_neg hx]at e
    refine (mr eb q2 ?_).1
    refine Aa.p (EF u 6 t.at_) (mq q3 ?_).1
    (refine AF.untag 5 rfl ?_;simp only[Au,List.set_cons_zero,List.set_cons_succ])
    exact FE b59 [] e
  ·have q1:(u.code==0)=false:=by simpa using hc
   have q1':(u.code != 0)=true:=by simpa using hc
   rw[if_neg hc]at e
   refine (ms hF' q1 q1' ?_).1
   (refine AF.untag 5 rfl ?_;simp only[Au,List.set_cons_zero,List.set_cons_succ])
   exact FE b59 [] e
 ·have q:decide (2097152<m)=false:=by simpa using hmm
  have em:M=m:=by rw[←hM];unfold Ch;omega
  subst em
  refine (mq q ?_).1
  refine Aa.p (MK s M m1 hs) (mq hB ?_).1
  refine Aa.p (Lc t 4 a1) ?_
  by_cases hc:u.code=0
  ·have q1:(u.code==0)=true:=by simpa using hc
   have q1':(u.code != 0)=false:=by simpa using hc
   rw[if_pos hc]at e
   refine (mr hF' q1 ?_).1
   refine Aa.p (Pb p hsh.2 (by omega)) ?_
   by_cases hx:x=Br p
   ·have q2:(x != Br p)=false:=by simpa using hx
    rw[if_pos hx]at e
    refine (ms eb q2 q1' ?_).1
    exact FE b59 [] e
   ·have q2:(x != Br p)=true:=by simpa using hx
    have q3:((u.fail 6 t.at_).code != 0)=true:=by simpa using BM 6 t.at_ hc (by decide)
    rw[if_neg hx]at e
    refine (mr eb q2 ?_).1
    refine Aa.p (EF u 6 t.at_) (mq q3 ?_).1
    (refine AF.untag 5 rfl ?_;simp only[Au,List.set_cons_zero,List.set_cons_succ])
    exact FE b59 [] e
  ·have q1:(u.code==0)=false:=by simpa using hc
   have q1':(u.code != 0)=true:=by simpa using hc
   rw[if_neg hc]at e
   refine (ms hF' q1 q1' ?_).1
   (refine AF.untag 5 rfl ?_;simp only[Au,List.set_cons_zero,List.set_cons_succ])
   exact FE b59 [] e
theorem VJ (s:RS) (m:Int) (hs:Av s) (m1:m<9223372036854775808):Ct Tryz.prog 59 [cv s,iA m] [] (λ_=>.tup [cv (s.frame m).1,A9 .u8 (s.frame m).2]) [] (λ_=>[]):=(SJ s m hs m1).toCt cl cl
abbrev hdA (h:Hd):AV:=.agg [iA h.ver,uA h.ep,uA h.base]
abbrev XS:ByteArray:=⟨#[84,72,79,76]⟩
theorem Ada:AY BF:=by unfold AY BF;decide
theorem Aio {l:List Int} (hl:AY l):((Fg (A2 .u8 l)).toList==XS.toList)=BJ l BF:=Hs hl Ada
theorem Y3:(XS.data.toList.map λb=>AV.lit (.int .u8 b.toNat))=A2 .u8 BF:=rfl
theorem vb9 {x:Int} (h:x<4611686018427387904):(vb x).length≤9:=by
 have h1:=Aig (x:=x) (y:=4611686018427387903) (by omega)
 have h2:(vb 4611686018427387903).length=9:=by kernel_rfl
 omega
theorem Anv:An Tryz.prog 174 [] [] (iA 27) []:=by
 have h2:((vb 4611686018427387903).length:Int)=9:=by have:(vb 4611686018427387903).length=9:=by kernel_rfl
                                                     omega
 have e1:IntKind.i64.wrap 18=18:=by decide
 have e2:IntKind.i64.wrap 23=23:=by decide
 have e3:IntKind.i64.wrap 27=27:=by decide
 refine RM Tryz.func174 Asw ?_
 refine Aa.p (CU 4611686018427387903 (by omega) (by omega)) (mt h2 e1 e2 e3 ?_).1
 (repeat((with_reducible refine And.intro ?_ ?_);(·exact sd)))
 exact FA Asw []
theorem Amr:Ct Tryz.prog 174 [] [] (λ_=>iA 27) [] (λ_=>[]):=(Anv).toCt cl cl
theorem Oq (v:Int):An Tryz.prog 152 [iA v] [] (bA (v==1)) []:=by
 refine RM Tryz.func152 As3 ?_
 exact FA As3 []
theorem Hf (v:Int):Ct Tryz.prog 152 [iA v] [] (λ_=>bA (v==1)) [] (λ_=>[]):=(Oq v).toCt cl cl
theorem Ot (h:Hd):An Tryz.prog 230 [hdA h] [] (bA (Bz h)) []:=by
 refine RM Tryz.func230 XG ?_
 by_cases h1:1≤h.ver
 ·have q1:decide (1≤h.ver)=true:=decide_eq_true h1
  by_cases h2:h.ver≤3
  ·have q2:decide (h.ver≤3)=true:=decide_eq_true h2
   have q12:decide (1≤h.ver∧h.ver≤3)=true:=decide_eq_true ⟨h1,h2⟩
   refine (mr q1 q2 ?_).1
   refine Aa.p (AQ h.ep) ?_
   cases q3:Aj h.ep
   ·have e:Bz h=false:=by unfold Bz;rw[q12,q3];rfl
    refine (mq q3 ?_).1
    exact FE XG [] e
   ·refine (mq q3 ?_).1
    refine Aa.p (ID h.base) ?_
    cases q4:Bb h.base
    ·have e:Bz h=false:=by unfold Bz;rw[q12,q3,q4];rfl
     refine (mq q4 ?_).1
     exact FE XG [] e
    ·refine (mq q4 ?_).1
     refine Aa.p (Hf h.ver) ?_
     by_cases h5:h.ver=1
     ·have q5:(h.ver==1)=true:=by simpa using h5
      have e:Bz h=true:=by unfold Bz;rw[q12,q3,q4,decide_eq_true h5];rfl
      refine (mq q5 ?_).1
      exact FE XG [] e
     ·have q5:(h.ver==1)=false:=by simpa using h5
      have e:(h.base==0)=Bz h:=by
       unfold Bz;rw[q12,q3,q4,decide_eq_false h5,Bool.eq_iff_iff];simp
      refine (mr q5 e ?_).1
      exact FA XG []
  ·have q2:decide (h.ver≤3)=false:=decide_eq_false h2
   have e:Bz h=false:=by unfold Bz;rw[decide_eq_false (by omega)];rfl
   refine (mr q1 q2 ?_).1
   exact FE XG [] e
 ·have q1:decide (1≤h.ver)=false:=decide_eq_false h1
  have e:Bz h=false:=by unfold Bz;rw[decide_eq_false (by omega)];rfl
  refine (mq q1 ?_).1
  exact FE XG [] e
theorem QV (h:Hd):Ct Tryz.prog 230 [hdA h] [] (λ_=>bA (Bz h)) [] (λ_=>[]):=(Ot h).toCt cl cl
theorem RH (s:WS) (hs:s.fine):An Tryz.prog 214 [.ref 0 0,.lit (.string XS)] [B4 1 s,A1 s] (.tup []) [B4 1 (s.put BF),A1 (s.put BF)]:=by
 refine RN Tryz.func214 Al1 ?_;refine (mq @Y3 ?_).1
 (repeat((with_reducible refine And.intro ?_ ?_);(·exact sd)))
 refine Aa.u2 (B0 s BF 0 1 (by decide) hs.ok (hs.room _)) rfl rfl (mp ?_).1
 exact FA Al1 [0,1]
theorem UZ (s:WS) (i j:Nat) (h:i≠j) (hs:s.fine):Ct Tryz.prog 214 [.ref i 0,.lit (.string XS)] [(i,B4 j s),(j,A1 s)] (λ_=>.tup []) [(i,B4 j (s.put BF)),(j,A1 (s.put BF))] (λ_=>[]):=Ct.u2 (RH s hs) i j h cl cl cl cl cl (BI _ _) (Bm _) Ci
def WS.epput (s:WS) (x:Int) (b:Bool):WS:=if b=true then s.put (vb x)else s.fail 3
theorem Xg (s:WS) (x:Int) (b:Bool) (h0:0≤x) (h1:x<18446744073709551616) (hs:s.fine):An Tryz.prog 253 [.ref 0 0,uA x,bA b] [B4 1 s,A1 s] (.tup []) [B4 1 (s.epput x b),A1 (s.epput x b)]:=by
 refine RM Tryz.func253 Aoz ?_
 cases b
 ·refine (mp ?_).1
  refine Aa.u2 (Cp s 3 0 1 (by decide)) rfl rfl (mp ?_).1
  (refine FB Aoz [0,1] ?_ ?_<;>first|with_reducible rfl|(simp[Ae,Ah,Ai,Ag,WS.epput];done)|rfl)
 ·refine (mp ?_).1
  refine Aa.u2 (Bx s x 0 1 (by decide) h0 h1 hs.ok (hs.room _)) rfl rfl (mp ?_).1
  (refine FB Aoz [0,1] ?_ ?_<;>first|with_reducible rfl|(simp[Ae,Ah,Ai,Ag,WS.epput];done)|rfl)
theorem PI (s:WS) (x:Int) (b:Bool) (i j:Nat) (h:i≠j) (h0:0≤x) (h1:x<18446744073709551616) (hs:s.fine):Ct Tryz.prog 253 [.ref i 0,uA x,bA b] [(i,B4 j s),(j,A1 s)] (λ_=>.tup []) [(i,B4 j (s.epput x b)),(j,A1 (s.epput x b))] (λ_=>[]):=Ct.u2 (Xg s x b h0 h1 hs) i j h cl cl cl cl cl (BI _ _) (Bm _) Ci
theorem Xh (s:WS) (x:Int) (h0:0≤x) (h1:x<18446744073709551616) (hs:s.fine):An Tryz.prog 216 [.ref 0 0,uA x] [B4 1 s,A1 s] (.tup []) [B4 1 (s.epput x (Aj x)),A1 (s.epput x (Aj x))]:=by
 refine RM Tryz.func216 Asm ?_
 refine Aa.p (AQ x) (mp ?_).1
 refine Aa.u2 (PI s x (Aj x) 0 1 (by decide) h0 h1 hs) rfl rfl (mp ?_).1
 exact FA Asm [0,1]
theorem IC (s:WS) (x:Int) (i j:Nat) (h:i≠j) (h0:0≤x) (h1:x<18446744073709551616) (hs:s.fine):Ct Tryz.prog 216 [.ref i 0,uA x] [(i,B4 j s),(j,A1 s)] (λ_=>.tup []) [(i,B4 j (s.epput x (Aj x))),(j,A1 (s.epput x (Aj x)))] (λ_=>[]):=Ct.u2 (Xh s x h0 h1 hs) i j h cl cl cl cl cl (BI _ _) (Bm _) Ci
theorem OI (s:WS) (x:Int) (h0:0≤x) (h1:x<18446744073709551616) (hs:s.fine):An Tryz.prog 217 [.ref 0 0,uA x] [B4 1 s,A1 s] (.tup []) [B4 1 (s.epput x (Bb x)),A1 (s.epput x (Bb x))]:=by
 refine RM Tryz.func217 Asl ?_
 refine Aa.p (ID x) (mp ?_).1
 refine Aa.u2 (PI s x (Bb x) 0 1 (by decide) h0 h1 hs) rfl rfl (mp ?_).1
 exact FA Asl [0,1]
theorem Ki (s:WS) (x:Int) (i j:Nat) (h:i≠j) (h0:0≤x) (h1:x<18446744073709551616) (hs:s.fine):Ct Tryz.prog 217 [.ref i 0,uA x] [(i,B4 j s),(j,A1 s)] (λ_=>.tup []) [(i,B4 j (s.epput x (Bb x))),(j,A1 (s.epput x (Bb x)))] (λ_=>[]):=Ct.u2 (OI s x h0 h1 hs) i j h cl cl cl cl cl (BI _ _) (Bm _) Ci
theorem FM {h:Hd} (hr:Bz h=true):(AH h).length≤23∧(Am h).length≤27:=by
 obtain⟨h1,h2,h3,h4⟩:=CY.1 hr
 have a:=vb9 h2.2
 have b:=vb9 h3
 have c:=Ea h
 have d:(AH h).length≤23:=by
  unfold AH
  simp only[List.length_append,BF,List.length_cons,List.length_nil]
  split
  ·omega
  ·simp only[List.length_nil];omega
 exact⟨d,by omega⟩
theorem Om (h:Hd) (hr:Bz h=true) (hb:0≤h.base):An Tryz.prog 154 [hdA h] [] (A9 .u8 (AH h)) []:=by
 obtain⟨h1,h2,h3,h4⟩:=CY.1 hr
 have a:=vb9 h2.2
 have b:=vb9 h3
 have ew:IntKind.u8.wrap h.ver=h.ver:=IntWalk.u8_in _ (by omega)
 have f0:(WS.new 27).fine:=WS.fine.new (by omega)
 have f1:=f0.put BF
 have w1:(WS.new 27).put BF=⟨27,BF,0⟩:=by kernel_rfl
 rw[w1]at f1
 have f2:=f1.put [h.ver]
 have w2:(WS.mk 27 BF 0).put [h.ver]=⟨27,BF++[h.ver],0⟩:=CO rfl (by simp[BF])
 rw[w2]at f2
 have f3:=f2.put (vb h.ep)
 have w3:(WS.mk 27 (BF++[h.ver]) 0).put (vb h.ep)=⟨27,BF++[h.ver]++vb h.ep,0⟩:=CO rfl (by simp[BF];omega)
 rw[w3]at f3
 have w3':(WS.mk 27 (BF++[h.ver]) 0).epput h.ep (Aj h.ep)=⟨27,BF++[h.ver]++vb h.ep,0⟩:=by unfold WS.epput;rw[if_pos (BV.2 h2),w3]
 have w4:(WS.mk 27 (BF++[h.ver]++vb h.ep) 0).put (vb h.base)=⟨27,BF++[h.ver]++vb h.ep++vb h.base,0⟩:=CO rfl (by simp[BF];omega)
 have w4':(WS.mk 27 (BF++[h.ver]++vb h.ep) 0).epput h.base (Bb h.base)=⟨27,BF++[h.ver]++vb h.ep++vb h.base,0⟩:=by unfold WS.epput;rw[if_pos (Ec.2 h3),w4]
 have e1:A2 .u8 [h.ver]=[O0 h.ver]:=rfl
 have hl:=(FM hr).1
 refine RM Tryz.func154 Apm ?_
 refine Aa.p (Amr) (mp ?_).1
 refine Aa.n (ER 27) (mp ?_).1
 refine Aa.u2 (UZ (WS.new 27) _ _ (by decide) f0) rfl rfl (mr w1 ew ?_).1
 (repeat((with_reducible refine And.intro ?_ ?_);(·exact sd)))
 refine Aa.u2 (B0 (WS.mk 27 BF 0) [h.ver] _ _ (by decide) f1.ok (f1.room _)) rfl rfl (mq w2 ?_).1
 refine Aa.u2 (IC (WS.mk 27 (BF++[h.ver]) 0) h.ep _ _ (by decide) (by omega) (by omega) f2) rfl rfl (mq w3' ?_).1
 refine Aa.p (Hf h.ver) ?_
 by_cases hv:h.ver=1
 ·have q5:(h.ver==1)=true:=by simpa using hv
  have e:AH h=BF++[h.ver]++vb h.ep++vb h.base:=by unfold AH;rw[if_pos hv]
  have hbs:(WS.mk 27 (AH h) 0).bytes=AH h:=rfl
  rw[←e]at w4'
  refine (mq q5 ?_).1
  refine Aa.u2 (Ki (WS.mk 27 (BF++[h.ver]++vb h.ep) 0) h.base _ _ (by decide) hb (by omega) f3) rfl rfl (mq w4' ?_).1
  refine Aa.r2 (B1 (WS.mk 27 (AH h) 0) _ _ (by decide) (by show(AH h).length≤_;omega)) rfl rfl ?_;refine (mq hbs ?_).1
  exact FA Apm []
 ·have q5:(h.ver==1)=false:=by simpa using hv
  have e:AH h=BF++[h.ver]++vb h.ep:=by unfold AH;rw[if_neg hv,List.append_nil]
  have hbs:(WS.mk 27 (AH h) 0).bytes=AH h:=rfl
  rw[←e]
  refine (mq q5 ?_).1
  refine Aa.r2 (B1 (WS.mk 27 (AH h) 0) _ _ (by decide) (by show(AH h).length≤_;omega)) rfl rfl ?_;refine (mq hbs ?_).1
  exact FA Apm []
theorem He (h:Hd) (hr:Bz h=true) (hb:0≤h.base):Ct Tryz.prog 154 [hdA h] [] (λ_=>A9 .u8 (AH h)) [] (λ_=>[]):=(Om h hr hb).toCt cl cl
def WS.header (s:WS) (h:Hd):WS:=if Bz h=true then(s.put (AH h)).put (Aq 4 (Br (AH h)))else s.fail 3
theorem WS.fine.header {s:WS} (hs:s.fine) (h:Hd):(s.header h).fine:=by
 unfold WS.header;split
 ·exact(hs.put _).put _
 ·exact hs.fail 3
theorem WJ {s:WS} {h:Hd} (hr:Bz h=true) (hc:s.code=0) (hm:(s.l.length:Int)+(Am h).length≤s.most):s.header h=⟨s.most,s.l++Am h,0⟩:=by
 rw[Ea]at hm
 have h4:=BD 4 (Br (AH h))
 unfold WS.header
 rw[if_pos hr,CO hc (by omega),CO rfl (by simp only[List.length_append];omega)]
 simp[Am]
theorem TQ (s:WS) (h:Hd) (hs:s.fine) (hb:0≤h.base):An Tryz.prog 175 [.ref 0 0,hdA h] [B4 1 s,A1 s] (.tup []) [B4 1 (s.header h),A1 (s.header h)]:=by
 refine RM Tryz.func175 Apg ?_
 refine Aa.p (QV h) ?_
 by_cases hr:Bz h=true
 ·have hp:=FI hr hb
  have hl:=(FM hr).1
  have hcr:=Dt hp
  have e:=FY hp
  refine (mq hr ?_).1
  refine Aa.p (He h hr hb) (mp ?_).1
  refine Aa.u2 (B0 s (AH h) 0 1 (by decide) hs.ok (hs.room _)) rfl rfl (mp ?_).1
  refine Aa.p (Hq (AH h) hp (by omega)) (mq e ?_).1
  refine Aa.u2 (Hv (s.put (AH h)) (Br (AH h)) 4 0 1 (by decide) hcr.1 (by omega) (hs.put _)) rfl rfl (mp ?_).1
  (refine FB Apg [0,1] ?_ ?_<;>first|with_reducible rfl|(simp[Ae,Ah,Ai,Ag,WS.header,hr,show(min (max (4:Int) 0) 8).toNat=4 from rfl];done)|rfl)
 ·have hr':Bz h=false:=by simpa using hr
  refine (mq hr' ?_).1
  refine Aa.u2 (Cp s 3 0 1 (by decide)) rfl rfl (mp ?_).1
  (refine FB Apg [0,1] ?_ ?_<;>first|with_reducible rfl|(simp[Ae,Ah,Ai,Ag,WS.header,hr'];done)|rfl)
theorem WM (s:WS) (d:Hd) (i j:Nat) (h:i≠j) (hs:s.fine) (hb:0≤d.base):Ct Tryz.prog 175 [.ref i 0,hdA d] [(i,B4 j s),(j,A1 s)] (λ_=>.tup []) [(i,B4 j (s.header d)),(j,A1 (s.header d))] (λ_=>[]):=Ct.u2 (TQ s d hs hb) i j h cl cl cl cl cl (BI _ _) (Bm _) Ci
def NJ (h:Hd):List Int:=if Bz h=true then Am h else[]
def Ak0 (h:Hd):Int:=if Bz h=true then 0 else 3
theorem V9 (h:Hd) {n:Int} (hn:27≤n):(WS.new n).header h=⟨n,NJ h,Ak0 h⟩∧((WS.new n).header h).bytes=NJ h:=by
 by_cases hr:Bz h=true
 ·have hl:=(FM hr).2
  have e:=WJ (s:=WS.new n) hr rfl (by rw[WS.new_is (by omega)];simp;omega)
  rw[e,WS.new_is (by omega)]
  unfold NJ Ak0
  rw[if_pos hr,if_pos hr]
  exact⟨by simp,by simp[WS.bytes]⟩
 ·unfold WS.header NJ Ak0
  rw[if_neg hr,if_neg hr,if_neg hr,WS.new_is (by omega)]
  exact⟨rfl,rfl⟩
theorem PO (s:RS) (h0:0≤s.at_):s.byte=((s.take 1).1,(s.take 1).2.getD 0 0):=by
 unfold RS.byte RS.take
 split
 ·simp[List.getD_eq_getElem?_getD,List.getElem?_take,List.getElem?_drop]
 ·rfl
theorem Ake (s:RS):s.lets=if BJ (s.take 4).2 BF=true then(s.take 4).1 else(s.take 4).1.fail 14 s.at_:=by
 unfold RS.lets BJ
 by_cases h:(s.take 4).2=BF
 ·rw[if_neg (by rintro⟨_,h'⟩;exact h' h),if_pos (by simpa using h)]
 ·rw[if_neg (c:=decide ((s.take 4).2=BF)=true) (by simpa using h)]
  by_cases hc:(s.take 4).1.code=0
  ·rw[if_pos ⟨hc,h⟩]
  ·rw[if_neg (by rintro⟨h',_⟩;exact hc h'),H5 hc]
set_option maxRecDepth 100000 in
theorem Oo (s:RS) (hs:Av s):An Tryz.prog 122 [.ref 0 0] [A7 s] (iA s.hbegin.2) [A7 (s.hbegin.1)]:=by
 obtain⟨hk,hkl⟩:=Iu hs
 have hTb:=DO hs.bys 4
 have hl:=Ake s
 have hbt:=PO s.lets hk.at0
 have hvr:=Yv hk.ok hk.bys
 have hv2:s.hbegin=if(s.lets.take 1).1.code=0 then(if 1≤(s.lets.take 1).2.getD 0 0∧(s.lets.take 1).2.getD 0 0≤3 then((s.lets.take 1).1,(s.lets.take 1).2.getD 0 0)else((s.lets.take 1).1.fail 8 s.lets.at_,0))else((s.lets.take 1).1,0):=rfl
 have hv0:¬(s.lets.take 1).1.code=0->(s.lets.take 1).2.getD 0 0=0:=λh=>by rw[JL h];rfl
 have hat:(s.lets.take 1).1.code=0->IntKind.i64.wrap ((s.lets.take 1).1.at_-1)=s.lets.at_:=λh=>by
  have h4:=(Bn hk h).2.2.2.1
  have h0:=hk.at0
  have h1:=hk.at1
  have h2:=hk.len
  rw[h4,IntWalk.i64_in _ (by omega)];omega
 rw[hbt]at hvr
 obtain⟨t,ht⟩:∃t,(s.lets.take 1).1=t:=⟨_,rfl⟩
 obtain⟨v,hv⟩:∃v,(s.lets.take 1).2.getD 0 0=v:=⟨_,rfl⟩
 rw[ht,hv]at hbt
 rw[ht,hv]at hv2
 rw[ht,hv]at hv0
 rw[ht]at hat
 simp only[hv]at hvr
 have ev:IntKind.i64.wrap v=v:=IntWalk.i64_in _ (by omega)
 refine RM Tryz.func122 RE ?_
 refine Aa.r1 (AP s 0) rfl (mp ?_).1
 refine Aa.u1 (CH s 4 0 hs.ok) rfl (mr @L9 (Aio hTb) ?_).1
 by_cases hT:BJ (s.take 4).2 BF=true
 ·rw[if_pos hT]at hl
  rw[←hl]
  refine (mq hT ?_).1
  refine Aa.u1 (CI s.lets 0 hk.ok) rfl ?_;simp only[go_sem,seval,hbt,ev];refine (mok ?_).1
  by_cases hc:t.code=0
  ·rw[if_pos hc]at hv2
   by_cases h1:1≤v
   ·have q1:decide (v<1)=false:=decide_eq_false (by omega)
    by_cases h3:v≤3
    ·have q3:decide (3<v)=false:=decide_eq_false (by omega)
     rw[if_pos ⟨h1,h3⟩]at hv2
     refine (mr q1 q3 ?_).1
     refine Aa.r1 (Ak t 0) rfl (mq (AW hc) ?_).1
     exact FE RE [0] hv2
    ·have q3:decide (3<v)=true:=decide_eq_true (by omega)
     rw[if_neg (by omega)]at hv2
     refine (mr q1 q3 ?_).1
     refine Aa.r1 (AP t 0) rfl (mq (hat hc) ?_).1
     refine Aa.u1 (Ar t 8 s.lets.at_ 0) rfl (mp ?_).1
     refine Aa.r1 (Ak (t.fail 8 s.lets.at_) 0) rfl (mq (Ay (BM 8 s.lets.at_ hc (by decide))) ?_).1
     exact FE RE [0] hv2
   ·have q1:decide (v<1)=true:=decide_eq_true (by omega)
    rw[if_neg (by omega)]at hv2
    refine (mq q1 ?_).1
    refine Aa.r1 (AP t 0) rfl (mq (hat hc) ?_).1
    refine Aa.u1 (Ar t 8 s.lets.at_ 0) rfl (mp ?_).1
    refine Aa.r1 (Ak (t.fail 8 s.lets.at_) 0) rfl (mq (Ay (BM 8 s.lets.at_ hc (by decide))) ?_).1
    exact FE RE [0] hv2
  ·rw[if_neg hc]at hv2
   have q0:=hv0 hc
   have q1:decide (v<1)=true:=decide_eq_true (by omega)
   refine (mq q1 ?_).1
   refine Aa.r1 (AP t 0) rfl (mp ?_).1
   refine Aa.u1 (Ar t 8 _ 0) rfl (mq (H5 hc) ?_).1
   refine Aa.r1 (Ak t 0) rfl (mq (Ay hc) ?_).1
   exact FE RE [0] hv2
 ·have hT':BJ (s.take 4).2 BF=false:=by simpa using hT
  rw[if_neg hT]at hl
  refine (mq hT' ?_).1
  refine Aa.u1 (Ar (s.take 4).1 14 s.at_ 0) rfl ?_;simp only[go_sem,seval,←hl];refine (mok ?_).1
  refine Aa.u1 (CI s.lets 0 hk.ok) rfl ?_;simp only[go_sem,seval,hbt,ev];refine (mok ?_).1
  by_cases hc:t.code=0
  ·rw[if_pos hc]at hv2
   by_cases h1:1≤v
   ·have q1:decide (v<1)=false:=decide_eq_false (by omega)
    by_cases h3:v≤3
    ·have q3:decide (3<v)=false:=decide_eq_false (by omega)
     rw[if_pos ⟨h1,h3⟩]at hv2
     refine (mr q1 q3 ?_).1
     refine Aa.r1 (Ak t 0) rfl (mq (AW hc) ?_).1
     exact FE RE [0] hv2
    ·have q3:decide (3<v)=true:=decide_eq_true (by omega)
     rw[if_neg (by omega)]at hv2
     refine (mr q1 q3 ?_).1
     refine Aa.r1 (AP t 0) rfl (mq (hat hc) ?_).1
     refine Aa.u1 (Ar t 8 s.lets.at_ 0) rfl (mp ?_).1
     refine Aa.r1 (Ak (t.fail 8 s.lets.at_) 0) rfl (mq (Ay (BM 8 s.lets.at_ hc (by decide))) ?_).1
     exact FE RE [0] hv2
   ·have q1:decide (v<1)=true:=decide_eq_true (by omega)
    rw[if_neg (by omega)]at hv2
    refine (mq q1 ?_).1
    refine Aa.r1 (AP t 0) rfl (mq (hat hc) ?_).1
    refine Aa.u1 (Ar t 8 s.lets.at_ 0) rfl (mp ?_).1
    refine Aa.r1 (Ak (t.fail 8 s.lets.at_) 0) rfl (mq (Ay (BM 8 s.lets.at_ hc (by decide))) ?_).1
    exact FE RE [0] hv2
  ·rw[if_neg hc]at hv2
   have q0:=hv0 hc
   have q1:decide (v<1)=true:=decide_eq_true (by omega)
   refine (mq q1 ?_).1
   refine Aa.r1 (AP t 0) rfl (mp ?_).1
   refine Aa.u1 (Ar t 8 _ 0) rfl (mq (H5 hc) ?_).1
   refine Aa.r1 (Ak t 0) rfl (mq (Ay hc) ?_).1
   exact FE RE [0] hv2
theorem QU (s:RS) (i:Nat) (hs:Av s):Ct Tryz.prog 122 [.ref i 0] [(i,A7 s)] (λ_=>iA s.hbegin.2) [(i,A7 (s.hbegin.1))] (λ_=>[]):=Ct.u1 (Oo s hs) i cl (λρ=>Ao ρ _) (λρ=>Ao ρ _) (rdr_dead _) cl
set_option maxRecDepth 100000 in
theorem QW (s:RS) (hs:Av s):An Tryz.prog 80 [.ref 0 0] [A7 s] (hdA s.header.2) [A7 (s.header.1)]:=by
 obtain⟨ka,_⟩:=Lq hs
 obtain⟨kb,_⟩:=Bu ka Aj
 obtain⟨kc,kl⟩:=F2 hs
 have e0:s.hplain=(((s.hbegin.1.epo Aj).1.hbase s.hbegin.2).1,⟨s.hbegin.2,(s.hbegin.1.epo Aj).2,((s.hbegin.1.epo Aj).1.hbase s.hbegin.2).2⟩):=rfl
 have hgood:(s.hplain.1.fixed 4).1.code=0->Bz s.hplain.2=true∧0≤s.hplain.2.base∧s.from s.hplain.1=AH s.hplain.2:=λh=>by
  obtain⟨t1,t2,t3,t4,t5⟩:=Bn kc (n:=4) h
  obtain⟨p1,p2,p3,p4,p5⟩:=Pv hs t1
  exact⟨p2,p3,Px hs.at0 (by omega) p5 hs.at1⟩
 have e:s.header=if(s.hplain.1.fixed 4).1.code=0 then(if(s.hplain.1.fixed 4).2=Br (s.from s.hplain.1)then((s.hplain.1.fixed 4).1,s.hplain.2)else((s.hplain.1.fixed 4).1.fail 6 s.hplain.1.at_,Lp))else((s.hplain.1.fixed 4).1,Lp):=rfl
 obtain⟨A,hA⟩:∃A,s.hbegin=A:=⟨_,rfl⟩
 rw[hA]at e0 ka kb
 obtain⟨B,hB⟩:∃B,A.1.epo Aj=B:=⟨_,rfl⟩
 rw[hB]at e0 kb
 refine RM Tryz.func80 b80 ?_
 refine Aa.u1 (QU s 0 hs) rfl (mq hA ?_).1
 refine Aa.u1 (Hn A.1 0 ka) rfl (mq hB ?_).1
 refine Aa.p (Hf A.2) ?_
 by_cases hv:A.2=1
 ·have qv:(A.2==1)=true:=by simpa using hv
  obtain⟨C,hC⟩:∃C,B.1.epo Bb=C:=⟨_,rfl⟩
  have hC':B.1.hbase A.2=C:=by unfold RS.hbase;rw[if_pos hv,hC]
  rw[hC']at e0
  rw[e0]at kc
  rw[e0]at hgood
  rw[e0]at e
  simp only at kc hgood e
  obtain⟨F,hF⟩:∃F,C.1.fixed 4=F:=⟨_,rfl⟩
  have hF':C.1.fixed (min (max 4 0) 8)=F:=hF
  rw[hF]at hgood
  rw[hF]at e
  refine (mq qv ?_).1
  refine Aa.u1 (IU B.1 0 kb) rfl (mq hC ?_).1
  refine Aa.r1 (AP C.1 0) rfl (mp ?_).1
  refine Aa.u1 (Du C.1 4 0 kc) rfl (mq hF' ?_).1
  by_cases hc:F.1.code=0
  ·obtain⟨hr,hb,hfr⟩:=hgood hc
   rw[if_pos hc,hfr]at e
   have hp:=FI hr hb
   have hpl:=(FM hr).1
   have eb:=FY hp
   refine Aa.r1 (Ak F.1 0) rfl (mq (AW hc) ?_).1
   refine Aa.p (He ⟨A.2,B.2,C.2⟩ hr hb) (mp ?_).1
   refine Aa.p (Hq (AH ⟨A.2,B.2,C.2⟩) hp (by omega)) (mq eb ?_).1
   by_cases hx:F.2=Br (AH ⟨A.2,B.2,C.2⟩)
   ·have q2:(F.2 != Br (AH ⟨A.2,B.2,C.2⟩))=false:=by simpa using hx
    rw[if_pos hx]at e
    refine (mq q2 ?_).1
    exact FE b80 [0] e
   ·have q2:(F.2 != Br (AH ⟨A.2,B.2,C.2⟩))=true:=by simpa using hx
    rw[if_neg hx]at e
    refine (mq q2 ?_).1
    refine Aa.u1 (Ar F.1 6 C.1.at_ 0) rfl (mp ?_).1
    (refine FB b80 [0] ?_ ?_<;>first|with_reducible rfl|(simp[Ae,Ah,Ai,Ag,e,Lp];done)|rfl)
  ·rw[if_neg hc]at e
   refine Aa.r1 (Ak F.1 0) rfl (mq (Ay hc) ?_).1
   (refine FB b80 [0] ?_ ?_<;>first|with_reducible rfl|(simp[Ae,Ah,Ai,Ag,e,Lp];done)|rfl)
 ·have qv:(A.2==1)=false:=by simpa using hv
  have hC':B.1.hbase A.2=(B.1,0):=by unfold RS.hbase;rw[if_neg hv]
  rw[hC']at e0
  rw[e0]at kc
  rw[e0]at hgood
  rw[e0]at e
  simp only at kc hgood e
  obtain⟨F,hF⟩:∃F,B.1.fixed 4=F:=⟨_,rfl⟩
  have hF':B.1.fixed (min (max 4 0) 8)=F:=hF
  rw[hF]at hgood
  rw[hF]at e
  refine (mq qv ?_).1
  refine Aa.r1 (AP B.1 0) rfl (mp ?_).1
  refine Aa.u1 (Du B.1 4 0 kc) rfl (mq hF' ?_).1
  by_cases hc:F.1.code=0
  ·obtain⟨hr,hb,hfr⟩:=hgood hc
   rw[if_pos hc,hfr]at e
   have hp:=FI hr hb
   have hpl:=(FM hr).1
   have eb:=FY hp
   refine Aa.r1 (Ak F.1 0) rfl (mq (AW hc) ?_).1
   refine Aa.p (He ⟨A.2,B.2,0⟩ hr hb) (mp ?_).1
   refine Aa.p (Hq (AH ⟨A.2,B.2,0⟩) hp (by omega)) (mq eb ?_).1
   by_cases hx:F.2=Br (AH ⟨A.2,B.2,0⟩)
   ·have q2:(F.2 != Br (AH ⟨A.2,B.2,0⟩))=false:=by simpa using hx
    rw[if_pos hx]at e
    refine (mq q2 ?_).1
    exact FE b80 [0] e
   ·have q2:(F.2 != Br (AH ⟨A.2,B.2,0⟩))=true:=by simpa using hx
    rw[if_neg hx]at e
    refine (mq q2 ?_).1
    refine Aa.u1 (Ar F.1 6 B.1.at_ 0) rfl (mp ?_).1
    (refine FB b80 [0] ?_ ?_<;>first|with_reducible rfl|(simp[Ae,Ah,Ai,Ag,e,Lp];done)|rfl)
  ·rw[if_neg hc]at e
   refine Aa.r1 (Ak F.1 0) rfl (mq (Ay hc) ?_).1
   (refine FB b80 [0] ?_ ?_<;>first|with_reducible rfl|(simp[Ae,Ah,Ai,Ag,e,Lp];done)|rfl)
theorem Lo (s:RS) (i:Nat) (hs:Av s):Ct Tryz.prog 80 [.ref i 0] [(i,A7 s)] (λ_=>hdA s.header.2) [(i,A7 (s.header.1))] (λ_=>[]):=Ct.u1 (QW s hs) i cl (λρ=>Ao ρ _) (λρ=>Ao ρ _) (rdr_dead _) cl
def QZ (b:List Int):Hd×Int×(Int×Int):=if(RS.new b).header.1.code=0 then((RS.new b).header.2,(RS.new b).header.1.at_,(0,0))else(Lp,0,((RS.new b).header.1.code,(RS.new b).header.1.fat))
theorem TR (b:List Int) (hb:AY b) (hn:b.length≤140737488355328):An Tryz.prog 113 [A9 .u8 b] [] (.tup [hdA (QZ b).1,iA (QZ b).2.1,B9 (QZ b).2.2]) []:=by
 have hok:Av (RS.new b):=Av.new hb hn
 have hgood:=λhc=>Pw hok hc
 have hbad:=λhc=>WL (s:=RS.new b) hc
 obtain⟨F,hF⟩:∃F,(RS.new b).header=F:=⟨_,rfl⟩
 have e:QZ b=if F.1.code=0 then(F.2,F.1.at_,(0,0))else(Lp,0,(F.1.code,F.1.fat)):=by unfold QZ;rw[hF]
 rw[hF]at hgood hbad
 refine RM Tryz.func113 Apr ?_
 refine Aa.n (Ce b) (mp ?_).1
 refine Aa.u1 (Lo (RS.new b) _ hok) rfl (mq hF ?_).1
 by_cases hc:F.1.code=0
 ·have h1:=(CY.1 (hgood hc).2.1).1
  have q:(F.2.ver==0)=false:=by simp;omega
  rw[if_pos hc]at e
  refine (mr q @Bool.false_and ?_).1
  refine Aa.r1 (AP F.1 _) rfl (mp ?_).1
  exact FE Apr [] e
 ·have hz:=hbad hc
  have z1:F.2.ver=0:=by rw[hz];rfl
  have z2:F.2.ep=0:=by rw[hz];rfl
  have z3:F.2.base=0:=by rw[hz];rfl
  rw[if_neg hc]at e
  refine (ms z1 z2 z3 ?_).1
  refine Aa.r1 (A3 F.1 _) rfl (mp ?_).1
  (refine FB Apr [] ?_ ?_<;>first|with_reducible rfl|(simp[Ae,Ah,Ai,Ag,e,Lp];done)|rfl)
theorem WN (b:List Int) (hb:AY b) (hn:b.length≤140737488355328):Ct Tryz.prog 113 [A9 .u8 b] [] (λ_=>.tup [hdA (QZ b).1,iA (QZ b).2.1,B9 (QZ b).2.2]) [] (λ_=>[]):=(TR b hb hn).toCt cl cl
abbrev U9 (f:Ft):AV:=.agg [uA f.ep,iA f.bat,iA f.ent,uA f.fst,uA f.fin,iA f.at_,iA f.size]
theorem Oz (f:Ft) (s0:0≤f.fst) (s1:f.fst<18446744073709551616) (n0:0≤f.fin) (n1:f.fin<18446744073709551616) (e0:0≤f.ent) (e1:f.ent<9223372036854775808):An Tryz.prog 251 [U9 f] [] (bA (C_ f)) []:=by
 refine RM Tryz.func251 Acc ?_
 by_cases hb:f.bat=0
 ·have qb:(f.bat==0)=true:=by simpa using hb
  by_cases h1:f.fst=0
  ·have q1:(f.fst==0)=true:=by simpa using h1
   have e:(f.fin==0)=C_ f:=by unfold C_;rw[if_pos hb,Bool.eq_iff_iff];simp[h1]
   refine (ms qb q1 e ?_).1
   exact FA Acc []
  ·have q1:(f.fst==0)=false:=by simpa using h1
   have e:C_ f=false:=by unfold C_;rw[if_pos hb];simp[h1]
   refine (mr qb q1 ?_).1
   exact FE Acc [] e
 ·have qb:(f.bat==0)=false:=by simpa using hb
  by_cases h1:f.fst<f.fin
  ·have q1:decide (f.fst<f.fin)=true:=decide_eq_true h1
   by_cases h2:f.fin≤4611686018427387904
   ·have q2:decide (f.fin≤4611686018427387904)=true:=decide_eq_true h2
    have w1:IntKind.u64.wrap (f.fin-f.fst)=f.fin-f.fst:=IntWalk.u64_in _ (by omega)
    have w2:IntKind.u64.wrap f.ent=f.ent:=IntWalk.u64_in _ (by omega)
    have e:decide (f.ent≤f.fin-f.fst)=C_ f:=by unfold C_;rw[if_neg hb,decide_eq_decide];omega
    simp only[go_sem,seval,qb,q1,q2,w1,w2,e];refine (mok ?_).1
    exact FA Acc []
   ·have q2:decide (f.fin≤4611686018427387904)=false:=decide_eq_false h2
    have e:C_ f=false:=by unfold C_;rw[if_neg hb];exact decide_eq_false (by omega)
    refine (ms qb q1 q2 ?_).1
    exact FE Acc [] e
  ·have q1:decide (f.fst<f.fin)=false:=decide_eq_false h1
   have e:C_ f=false:=by unfold C_;rw[if_neg hb];exact decide_eq_false (by omega)
   refine (mr qb q1 ?_).1
   exact FE Acc [] e
theorem Q5 (f:Ft) (s0:0≤f.fst) (s1:f.fst<18446744073709551616) (n0:0≤f.fin) (n1:f.fin<18446744073709551616) (e0:0≤f.ent) (e1:f.ent<9223372036854775808):Ct Tryz.prog 251 [U9 f] [] (λ_=>bA (C_ f)) [] (λ_=>[]):=(Oz f s0 s1 n0 n1 e0 e1).toCt cl cl
theorem Gx {f:Ft} (h:¬(0≤f.bat∧f.bat≤16∧f.bat≤f.ent∧f.ent≤16*f.bat)):Az f=false:=by
 unfold Az;rw[decide_eq_false h];simp
theorem Aji {f:Ft} (h:¬(1≤f.at_∧f.at_≤1099511627775∧1≤f.size∧f.size≤2097152)):Az f=false:=by
 unfold Az;rw[decide_eq_false h];simp
theorem E6 {f:Ft} (h:Aj f.ep=false):Az f=false:=by
 unfold Az;rw[h];simp
theorem Aqc {f:Ft} (h:Aj f.ep=true) (ha:0≤f.bat∧f.bat≤16∧f.bat≤f.ent∧f.ent≤16*f.bat) (hb:1≤f.at_∧f.at_≤1099511627775∧1≤f.size∧f.size≤2097152):Az f=C_ f:=by
 unfold Az;rw[h,decide_eq_true ha,decide_eq_true hb];simp
set_option maxHeartbeats 4000000 in
set_option maxRecDepth 100000 in
theorem OA (f:Ft) (s0:0≤f.fst) (s1:f.fst<18446744073709551616) (n0:0≤f.fin) (n1:f.fin<18446744073709551616):An Tryz.prog 212 [U9 f] [] (bA (Az f)) []:=by
 refine RM Tryz.func212 Cf ?_
 by_cases a0:0≤f.bat
 ·have qa0:decide (0≤f.bat)=true:=decide_eq_true a0
  by_cases a1:f.bat≤16
  ·have qa1:decide (f.bat≤16)=true:=decide_eq_true a1
   by_cases a2:f.bat≤f.ent
   ·have qa2:decide (f.bat≤f.ent)=true:=decide_eq_true a2
    have w16:IntKind.i64.wrap (f.bat*16)=16*f.bat:=by rw[IntWalk.i64_in _ (by omega)];omega
    by_cases a3:f.ent≤16*f.bat
    ·have qa3:decide (f.ent≤16*f.bat)=true:=decide_eq_true a3
     by_cases b0:1≤f.at_
     ·have qb0:decide (1≤f.at_)=true:=decide_eq_true b0
      by_cases b1:f.at_≤1099511627775
      ·have qb1:decide (f.at_≤1099511627775)=true:=decide_eq_true b1
       by_cases b2:1≤f.size
       ·have qb2:decide (1≤f.size)=true:=decide_eq_true b2
        by_cases b3:f.size≤2097152
        ·have qb3:decide (f.size≤2097152)=true:=decide_eq_true b3
         simp only[go_sem,seval,qa0,qa1,qa2,w16,qa3,qb0,qb1,qb2,qb3];refine (mok ?_).1
         refine Aa.p (AQ f.ep) ?_
         cases q3:Aj f.ep
         ·have e:Az f=false:=E6 q3
          refine (mq q3 ?_).1
          exact FE Cf [] e
         ·have e:Az f=C_ f:=Aqc q3 ⟨a0,a1,a2,a3⟩ ⟨b0,b1,b2,b3⟩
          refine (mq q3 ?_).1
          refine Aa.p (Q5 f s0 s1 n0 n1 (by omega) (by omega)) ?_
          rw[←e]
          refine (mp ?_).1
          exact FA Cf []
        ·have qb3:decide (f.size≤2097152)=false:=decide_eq_false b3
         simp only[go_sem,seval,qa0,qa1,qa2,w16,qa3,qb0,qb1,qb2,qb3];refine (mok ?_).1
         refine Aa.p (AQ f.ep) ?_
         cases q3:Aj f.ep
         ·have e:Az f=false:=E6 q3
          refine (mq q3 ?_).1
          exact FE Cf [] e
         ·have e:Az f=false:=Aji (by omega)
          refine (mq q3 ?_).1
          exact FE Cf [] e
       ·have qb2:decide (1≤f.size)=false:=decide_eq_false b2
        simp only[go_sem,seval,qa0,qa1,qa2,w16,qa3,qb0,qb1,qb2];refine (mok ?_).1
        refine Aa.p (AQ f.ep) ?_
        cases q3:Aj f.ep
        ·have e:Az f=false:=E6 q3
         refine (mq q3 ?_).1
         exact FE Cf [] e
        ·have e:Az f=false:=Aji (by omega)
         refine (mq q3 ?_).1
         exact FE Cf [] e
      ·have qb1:decide (f.at_≤1099511627775)=false:=decide_eq_false b1
       simp only[go_sem,seval,qa0,qa1,qa2,w16,qa3,qb0,qb1];refine (mok ?_).1
       refine Aa.p (AQ f.ep) ?_
       cases q3:Aj f.ep
       ·have e:Az f=false:=E6 q3
        refine (mq q3 ?_).1
        exact FE Cf [] e
       ·have e:Az f=false:=Aji (by omega)
        refine (mq q3 ?_).1
        exact FE Cf [] e
     ·have qb0:decide (1≤f.at_)=false:=decide_eq_false b0
      simp only[go_sem,seval,qa0,qa1,qa2,w16,qa3,qb0];refine (mok ?_).1
      refine Aa.p (AQ f.ep) ?_
      cases q3:Aj f.ep
      ·have e:Az f=false:=E6 q3
       refine (mq q3 ?_).1
       exact FE Cf [] e
      ·have e:Az f=false:=Aji (by omega)
       refine (mq q3 ?_).1
       exact FE Cf [] e
    ·have qa3:decide (f.ent≤16*f.bat)=false:=decide_eq_false a3
     by_cases b0:1≤f.at_
     ·have qb0:decide (1≤f.at_)=true:=decide_eq_true b0
      by_cases b1:f.at_≤1099511627775
      ·have qb1:decide (f.at_≤1099511627775)=true:=decide_eq_true b1
       by_cases b2:1≤f.size
       ·have qb2:decide (1≤f.size)=true:=decide_eq_true b2
        by_cases b3:f.size≤2097152
        ·have qb3:decide (f.size≤2097152)=true:=decide_eq_true b3
         simp only[go_sem,seval,qa0,qa1,qa2,w16,qa3,qb0,qb1,qb2,qb3];refine (mok ?_).1
         refine Aa.p (AQ f.ep) ?_
         cases q3:Aj f.ep
         ·have e:Az f=false:=E6 q3
          refine (mq q3 ?_).1
          exact FE Cf [] e
         ·have e:Az f=false:=Gx (by omega)
          refine (mq q3 ?_).1
          exact FE Cf [] e
        ·have qb3:decide (f.size≤2097152)=false:=decide_eq_false b3
         simp only[go_sem,seval,qa0,qa1,qa2,w16,qa3,qb0,qb1,qb2,qb3];refine (mok ?_).1
         refine Aa.p (AQ f.ep) ?_
         cases q3:Aj f.ep
         ·have e:Az f=false:=E6 q3
          refine (mq q3 ?_).1
          exact FE Cf [] e
         ·have e:Az f=false:=Gx (by omega)
          refine (mq q3 ?_).1
          exact FE Cf [] e
       ·have qb2:decide (1≤f.size)=false:=decide_eq_false b2
        simp only[go_sem,seval,qa0,qa1,qa2,w16,qa3,qb0,qb1,qb2];refine (mok ?_).1
        refine Aa.p (AQ f.ep) ?_
        cases q3:Aj f.ep
        ·have e:Az f=false:=E6 q3
         refine (mq q3 ?_).1
         exact FE Cf [] e
        ·have e:Az f=false:=Gx (by omega)
         refine (mq q3 ?_).1
         exact FE Cf [] e
      ·have qb1:decide (f.at_≤1099511627775)=false:=decide_eq_false b1
       simp only[go_sem,seval,qa0,qa1,qa2,w16,qa3,qb0,qb1];refine (mok ?_).1
       refine Aa.p (AQ f.ep) ?_
       cases q3:Aj f.ep
       ·have e:Az f=false:=E6 q3
        refine (mq q3 ?_).1
        exact FE Cf [] e
       ·have e:Az f=false:=Gx (by omega)
        refine (mq q3 ?_).1
        exact FE Cf [] e
     ·have qb0:decide (1≤f.at_)=false:=decide_eq_false b0
      simp only[go_sem,seval,qa0,qa1,qa2,w16,qa3,qb0];refine (mok ?_).1
      refine Aa.p (AQ f.ep) ?_
      cases q3:Aj f.ep
      ·have e:Az f=false:=E6 q3
       refine (mq q3 ?_).1
       exact FE Cf [] e
      ·have e:Az f=false:=Gx (by omega)
       refine (mq q3 ?_).1
       exact FE Cf [] e
   ·have qa2:decide (f.bat≤f.ent)=false:=decide_eq_false a2
    by_cases b0:1≤f.at_
    ·have qb0:decide (1≤f.at_)=true:=decide_eq_true b0
     by_cases b1:f.at_≤1099511627775
     ·have qb1:decide (f.at_≤1099511627775)=true:=decide_eq_true b1
      by_cases b2:1≤f.size
      ·have qb2:decide (1≤f.size)=true:=decide_eq_true b2
       by_cases b3:f.size≤2097152
       ·have qb3:decide (f.size≤2097152)=true:=decide_eq_true b3
        simp only[go_sem,seval,qa0,qa1,qa2,qb0,qb1,qb2,qb3];refine (mok ?_).1
        refine Aa.p (AQ f.ep) ?_
        cases q3:Aj f.ep
        ·have e:Az f=false:=E6 q3
         refine (mq q3 ?_).1
         exact FE Cf [] e
        ·have e:Az f=false:=Gx (by omega)
         refine (mq q3 ?_).1
         exact FE Cf [] e
       ·have qb3:decide (f.size≤2097152)=false:=decide_eq_false b3
        simp only[go_sem,seval,qa0,qa1,qa2,qb0,qb1,qb2,qb3];refine (mok ?_).1
        refine Aa.p (AQ f.ep) ?_
        cases q3:Aj f.ep
        ·have e:Az f=false:=E6 q3
         refine (mq q3 ?_).1
         exact FE Cf [] e
        ·have e:Az f=false:=Gx (by omega)
         refine (mq q3 ?_).1
         exact FE Cf [] e
      ·have qb2:decide (1≤f.size)=false:=decide_eq_false b2
       simp only[go_sem,seval,qa0,qa1,qa2,qb0,qb1,qb2];refine (mok ?_).1
       refine Aa.p (AQ f.ep) ?_
       cases q3:Aj f.ep
       ·have e:Az f=false:=E6 q3
        refine (mq q3 ?_).1
        exact FE Cf [] e
       ·have e:Az f=false:=Gx (by omega)
        refine (mq q3 ?_).1
        exact FE Cf [] e
     ·have qb1:decide (f.at_≤1099511627775)=false:=decide_eq_false b1
      simp only[go_sem,seval,qa0,qa1,qa2,qb0,qb1];refine (mok ?_).1
      refine Aa.p (AQ f.ep) ?_
      cases q3:Aj f.ep
      ·have e:Az f=false:=E6 q3
       refine (mq q3 ?_).1
       exact FE Cf [] e
      ·have e:Az f=false:=Gx (by omega)
       refine (mq q3 ?_).1
       exact FE Cf [] e
    ·have qb0:decide (1≤f.at_)=false:=decide_eq_false b0
     refine (mt qa0 qa1 qa2 qb0 ?_).1
     refine Aa.p (AQ f.ep) ?_
     cases q3:Aj f.ep
     ·have e:Az f=false:=E6 q3
      refine (mq q3 ?_).1
      exact FE Cf [] e
     ·have e:Az f=false:=Gx (by omega)
      refine (mq q3 ?_).1
      exact FE Cf [] e
  ·have qa1:decide (f.bat≤16)=false:=decide_eq_false a1
   by_cases b0:1≤f.at_
   ·have qb0:decide (1≤f.at_)=true:=decide_eq_true b0
    by_cases b1:f.at_≤1099511627775
    ·have qb1:decide (f.at_≤1099511627775)=true:=decide_eq_true b1
     by_cases b2:1≤f.size
     ·have qb2:decide (1≤f.size)=true:=decide_eq_true b2
      by_cases b3:f.size≤2097152
      ·have qb3:decide (f.size≤2097152)=true:=decide_eq_true b3
       simp only[go_sem,seval,qa0,qa1,qb0,qb1,qb2,qb3];refine (mok ?_).1
       refine Aa.p (AQ f.ep) ?_
       cases q3:Aj f.ep
       ·have e:Az f=false:=E6 q3
        refine (mq q3 ?_).1
        exact FE Cf [] e
       ·have e:Az f=false:=Gx (by omega)
        refine (mq q3 ?_).1
        exact FE Cf [] e
      ·have qb3:decide (f.size≤2097152)=false:=decide_eq_false b3
       simp only[go_sem,seval,qa0,qa1,qb0,qb1,qb2,qb3];refine (mok ?_).1
       refine Aa.p (AQ f.ep) ?_
       cases q3:Aj f.ep
       ·have e:Az f=false:=E6 q3
        refine (mq q3 ?_).1
        exact FE Cf [] e
       ·have e:Az f=false:=Gx (by omega)
        refine (mq q3 ?_).1
        exact FE Cf [] e
     ·have qb2:decide (1≤f.size)=false:=decide_eq_false b2
      simp only[go_sem,seval,qa0,qa1,qb0,qb1,qb2];refine (mok ?_).1
      refine Aa.p (AQ f.ep) ?_
      cases q3:Aj f.ep
      ·have e:Az f=false:=E6 q3
       refine (mq q3 ?_).1
       exact FE Cf [] e
      ·have e:Az f=false:=Gx (by omega)
       refine (mq q3 ?_).1
       exact FE Cf [] e
    ·have qb1:decide (f.at_≤1099511627775)=false:=decide_eq_false b1
     refine (mt qa0 qa1 qb0 qb1 ?_).1
     refine Aa.p (AQ f.ep) ?_
     cases q3:Aj f.ep
     ·have e:Az f=false:=E6 q3
      refine (mq q3 ?_).1
      exact FE Cf [] e
     ·have e:Az f=false:=Gx (by omega)
      refine (mq q3 ?_).1
      exact FE Cf [] e
   ·have qb0:decide (1≤f.at_)=false:=decide_eq_false b0
    refine (ms qa0 qa1 qb0 ?_).1
    refine Aa.p (AQ f.ep) ?_
    cases q3:Aj f.ep
    ·have e:Az f=false:=E6 q3
     refine (mq q3 ?_).1
     exact FE Cf [] e
    ·have e:Az f=false:=Gx (by omega)
     refine (mq q3 ?_).1
     exact FE Cf [] e
 ·have qa0:decide (0≤f.bat)=false:=decide_eq_false a0
  by_cases b0:1≤f.at_
  ·have qb0:decide (1≤f.at_)=true:=decide_eq_true b0
   by_cases b1:f.at_≤1099511627775
   ·have qb1:decide (f.at_≤1099511627775)=true:=decide_eq_true b1
    by_cases b2:1≤f.size
    ·have qb2:decide (1≤f.size)=true:=decide_eq_true b2
     by_cases b3:f.size≤2097152
     ·have qb3:decide (f.size≤2097152)=true:=decide_eq_true b3
      simp only[go_sem,seval,qa0,qb0,qb1,qb2,qb3];refine (mok ?_).1
      refine Aa.p (AQ f.ep) ?_
      cases q3:Aj f.ep
      ·have e:Az f=false:=E6 q3
       refine (mq q3 ?_).1
       exact FE Cf [] e
      ·have e:Az f=false:=Gx (by omega)
       refine (mq q3 ?_).1
       exact FE Cf [] e
     ·have qb3:decide (f.size≤2097152)=false:=decide_eq_false b3
      simp only[go_sem,seval,qa0,qb0,qb1,qb2,qb3];refine (mok ?_).1
      refine Aa.p (AQ f.ep) ?_
      cases q3:Aj f.ep
      ·have e:Az f=false:=E6 q3
       refine (mq q3 ?_).1
       exact FE Cf [] e
      ·have e:Az f=false:=Gx (by omega)
       refine (mq q3 ?_).1
       exact FE Cf [] e
    ·have qb2:decide (1≤f.size)=false:=decide_eq_false b2
     refine (mt qa0 qb0 qb1 qb2 ?_).1
     refine Aa.p (AQ f.ep) ?_
     cases q3:Aj f.ep
     ·have e:Az f=false:=E6 q3
      refine (mq q3 ?_).1
      exact FE Cf [] e
     ·have e:Az f=false:=Gx (by omega)
      refine (mq q3 ?_).1
      exact FE Cf [] e
   ·have qb1:decide (f.at_≤1099511627775)=false:=decide_eq_false b1
    refine (ms qa0 qb0 qb1 ?_).1
    refine Aa.p (AQ f.ep) ?_
    cases q3:Aj f.ep
    ·have e:Az f=false:=E6 q3
     refine (mq q3 ?_).1
     exact FE Cf [] e
    ·have e:Az f=false:=Gx (by omega)
     refine (mq q3 ?_).1
     exact FE Cf [] e
  ·have qb0:decide (1≤f.at_)=false:=decide_eq_false b0
   refine (mr qa0 qb0 ?_).1
   refine Aa.p (AQ f.ep) ?_
   cases q3:Aj f.ep
   ·have e:Az f=false:=E6 q3
    refine (mq q3 ?_).1
    exact FE Cf [] e
   ·have e:Az f=false:=Gx (by omega)
    refine (mq q3 ?_).1
    exact FE Cf [] e
theorem Hg (f:Ft) (s0:0≤f.fst) (s1:f.fst<18446744073709551616) (n0:0≤f.fin) (n1:f.fin<18446744073709551616):Ct Tryz.prog 212 [U9 f] [] (λ_=>bA (Az f)) [] (λ_=>[]):=(OA f s0 s1 n0 n1).toCt cl cl
theorem Af1 (s:RS):s.fkind=if(s.take 1).2.getD 0 0=3 then(s.take 1).1 else(s.take 1).1.fail 7 0:=by
 unfold RS.fkind
 by_cases h:(s.take 1).2.getD 0 0=3
 ·rw[if_pos h,if_neg (by rintro⟨_,h'⟩;exact h' h)]
 ·rw[if_neg h]
  by_cases hc:(s.take 1).1.code=0
  ·rw[if_pos ⟨hc,h⟩]
  ·rw[if_neg (by rintro⟨h',_⟩;exact hc h'),H5 hc]
theorem U5 (s:RS) (hs:Av s):An Tryz.prog 45 [.ref 0 0] [A7 s] (.tup []) [A7 (s.rest9)]:=by
 refine RM Tryz.func45 b45 ?_
 refine Aa.r1 (Gb s 0 hs.ok) rfl ?_
 by_cases h:0<s.left
 ·have q:decide (0<s.left)=true:=decide_eq_true h
  have e:s.rest9=s.fail 9 s.at_:=by unfold RS.rest9;rw[if_pos h]
  refine (mq q ?_).1
  refine Aa.u1 (Ar s 9 s.at_ 0) rfl (mp ?_).1
  exact FE b45 [0] e
 ·have q:decide (0<s.left)=false:=decide_eq_false h
  have e:s.rest9=s:=by unfold RS.rest9;rw[if_neg h]
  refine (mq q ?_).1
  exact FE b45 [0] e
theorem BL (s:RS) (i:Nat) (hs:Av s):Ct Tryz.prog 45 [.ref i 0] [(i,A7 s)] (λ_=>.tup []) [(i,A7 (s.rest9))] (λ_=>[]):=Ct.u1 (U5 s hs) i cl (λρ=>Ao ρ _) (λρ=>Ao ρ _) (rdr_dead _) cl
theorem Av.rest9 {s:RS} (h:Av s):Av s.rest9:=by
 unfold RS.rest9;split
 ·exact h.fail _ _
 ·exact h
set_option maxHeartbeats 4000000 in
set_option maxRecDepth 100000 in
theorem IN (p:List Int) (hp:AY p) (hn:p.length≤140737488355328):An Tryz.prog 145 [A9 .u8 p] [] (.tup [U9 (Bs p).1,B9 (Bs p).2]) []:=by
 have hok:Av (RS.new p):=Av.new hp hn
 obtain⟨hk,hkl⟩:=Jw hok
 have hkq:=Af1 (RS.new p)
 have hbt:=PO (RS.new p) hok.at0
 have hfoot:(RS.new p).foot=(((RS.new p).fkind.fnums.1.fcheck (RS.new p).fkind.fnums.2).rest9,(RS.new p).fkind.fnums.2):=rfl
 have hrd:Bs p=if(RS.new p).foot.1.code=0 then((RS.new p).foot.2,(0,0))else(JH,((RS.new p).foot.1.code,(RS.new p).foot.1.fat)):=rfl
 have hlen1:((RS.new p).take 1).1.code=0->((RS.new p).take 1).2.length=1:=λh=>by have:=(Bn hok h).2.2.1;omega
 obtain⟨T,hT⟩:∃T,(RS.new p).take 1=T:=⟨_,rfl⟩
 obtain⟨k,hkk⟩:∃k,(RS.new p).fkind=k:=⟨_,rfl⟩
 rw[hT]at hkq hbt hlen1
 rw[hkk]at hk hkq hfoot
 obtain⟨v,hv⟩:∃v,T.2.getD 0 0=v:=⟨_,rfl⟩
 rw[hv]at hbt hkq
 obtain⟨A,hA⟩:∃A,k.epo Aj=A:=⟨_,rfl⟩
 obtain⟨ka,_⟩:=Bu hk Aj
 rw[hA]at ka
 obtain⟨B,hB⟩:∃B,A.1.int 65536=B:=⟨_,rfl⟩
 obtain⟨kb,_⟩:=ka.int 65536
 rw[hB]at kb
 obtain⟨C,hC⟩:∃C,B.1.int 65536=C:=⟨_,rfl⟩
 obtain⟨kc,_⟩:=kb.int 65536
 rw[hC]at kc
 obtain⟨D,hD⟩:∃D,C.1.vint=D:=⟨_,rfl⟩
 obtain⟨kd,_⟩:=kc.vint
 have rd:=Bk (s:=C.1) kc.bys
 rw[hD]at kd rd
 obtain⟨E,hE⟩:∃E,D.1.vint=E:=⟨_,rfl⟩
 obtain⟨ke,_⟩:=kd.vint
 have re:=Bk (s:=D.1) kd.bys
 rw[hE]at ke re
 obtain⟨F,hF⟩:∃F,E.1.int 1099511627776=F:=⟨_,rfl⟩
 obtain⟨kf,_⟩:=ke.int 1099511627776
 rw[hF]at kf
 obtain⟨G,hG⟩:∃G,F.1.int 1099511627776=G:=⟨_,rfl⟩
 obtain⟨kg,_⟩:=kf.int 1099511627776
 rw[hG]at kg
 have hfn:k.fnums=(G.1,⟨A.2,B.2,C.2,D.2,E.2,F.2,G.2⟩):=by
  unfold RS.fnums
  simp only[hA,hB,hC,hD,hE,hF,hG]
 rw[hfn]at hfoot
 simp only at hfoot
 refine RM Tryz.func145 RD ?_
 refine Aa.n (Ce p) (mp ?_).1
 refine Aa.u1 (CI (RS.new p) _ hok.ok) rfl (mq hbt ?_).1
 by_cases hv3:v=3
 ·have q3:(v != 3)=false:=by simpa using hv3
  rw[if_pos hv3]at hkq
  refine (mq q3 ?_).1
  rw[←hkq]
  refine Aa.u1 (Hn k _ hk) rfl (mq hA ?_).1
  refine Aa.u1 (A4 A.1 65536 _ (by decide) ka.ok ka.bys) rfl (mq hB ?_).1
  refine Aa.u1 (A4 B.1 65536 _ (by decide) kb.ok kb.bys) rfl (mq hC ?_).1
  refine Aa.u1 (B3 C.1 _ kc.ok kc.bys) rfl (mq hD ?_).1
  refine Aa.u1 (B3 D.1 _ kd.ok kd.bys) rfl (mq hE ?_).1
  refine Aa.u1 (A4 E.1 1099511627776 _ (by decide) ke.ok ke.bys) rfl (mq hF ?_).1
  refine Aa.u1 (A4 F.1 1099511627776 _ (by decide) kf.ok kf.bys) rfl (mq hG ?_).1
  refine Aa.p (Hg ⟨A.2,B.2,C.2,D.2,E.2,F.2,G.2⟩ rd.1 rd.2 re.1 re.2) ?_
  by_cases hr:Az ⟨A.2,B.2,C.2,D.2,E.2,F.2,G.2⟩=true
  ·have hfc:G.1.fcheck ⟨A.2,B.2,C.2,D.2,E.2,F.2,G.2⟩=G.1:=by unfold RS.fcheck;rw[if_pos hr]
   rw[hfc]at hfoot
   refine (mq hr ?_).1
   refine Aa.u1 (BL G.1 _ kg) rfl (mp ?_).1
   refine Aa.r1 (A3 G.1.rest9 _) rfl (mp ?_).1
   refine Aa.p (Aw G.1.rest9.code G.1.rest9.fat) ?_
   rw[hfoot]at hrd
   simp only at hrd
   by_cases hz:G.1.rest9.code=0
   ·have q:(G.1.rest9.code==0)=true:=by simpa using hz
    rw[if_pos hz]at hrd
    refine (mq q ?_).1
    exact FE RD [] hrd
   ·have q:(G.1.rest9.code==0)=false:=by simpa using hz
    rw[if_neg hz]at hrd
    refine (mq q ?_).1
    (refine FB RD [] ?_ ?_<;>first|with_reducible rfl|(simp[Ae,Ah,Ai,Ag,hrd,JH];done)|rfl)
  ·have hr':Az ⟨A.2,B.2,C.2,D.2,E.2,F.2,G.2⟩=false:=by simpa using hr
   have hfc:G.1.fcheck ⟨A.2,B.2,C.2,D.2,E.2,F.2,G.2⟩=G.1.fail 3 0:=by unfold RS.fcheck;rw[if_neg hr]
   rw[hfc]at hfoot
   refine (mq hr' ?_).1
   refine Aa.u1 (Ar G.1 3 0 _) rfl (mp ?_).1
   refine Aa.u1 (BL (G.1.fail 3 0) _ (kg.fail 3 0)) rfl (mp ?_).1
   refine Aa.r1 (A3 (G.1.fail 3 0).rest9 _) rfl (mp ?_).1
   refine Aa.p (Aw (G.1.fail 3 0).rest9.code (G.1.fail 3 0).rest9.fat) ?_
   rw[hfoot]at hrd
   simp only at hrd
   by_cases hz:(G.1.fail 3 0).rest9.code=0
   ·have q:((G.1.fail 3 0).rest9.code==0)=true:=by simpa using hz
    rw[if_pos hz]at hrd
    refine (mq q ?_).1
    exact FE RD [] hrd
   ·have q:((G.1.fail 3 0).rest9.code==0)=false:=by simpa using hz
    rw[if_neg hz]at hrd
    refine (mq q ?_).1
    (refine FB RD [] ?_ ?_<;>first|with_reducible rfl|(simp[Ae,Ah,Ai,Ag,hrd,JH];done)|rfl)
 ·have q3:(v != 3)=true:=by simpa using hv3
  rw[if_neg hv3]at hkq
  refine (mq q3 ?_).1
  refine Aa.u1 (Ar T.1 7 0 _) rfl ?_;simp only[go_sem,seval,←hkq];refine (mok ?_).1
  refine Aa.u1 (Hn k _ hk) rfl (mq hA ?_).1
  refine Aa.u1 (A4 A.1 65536 _ (by decide) ka.ok ka.bys) rfl (mq hB ?_).1
  refine Aa.u1 (A4 B.1 65536 _ (by decide) kb.ok kb.bys) rfl (mq hC ?_).1
  refine Aa.u1 (B3 C.1 _ kc.ok kc.bys) rfl (mq hD ?_).1
  refine Aa.u1 (B3 D.1 _ kd.ok kd.bys) rfl (mq hE ?_).1
  refine Aa.u1 (A4 E.1 1099511627776 _ (by decide) ke.ok ke.bys) rfl (mq hF ?_).1
  refine Aa.u1 (A4 F.1 1099511627776 _ (by decide) kf.ok kf.bys) rfl (mq hG ?_).1
  refine Aa.p (Hg ⟨A.2,B.2,C.2,D.2,E.2,F.2,G.2⟩ rd.1 rd.2 re.1 re.2) ?_
  by_cases hr:Az ⟨A.2,B.2,C.2,D.2,E.2,F.2,G.2⟩=true
  ·have hfc:G.1.fcheck ⟨A.2,B.2,C.2,D.2,E.2,F.2,G.2⟩=G.1:=by unfold RS.fcheck;rw[if_pos hr]
   rw[hfc]at hfoot
   refine (mq hr ?_).1
   refine Aa.u1 (BL G.1 _ kg) rfl (mp ?_).1
   refine Aa.r1 (A3 G.1.rest9 _) rfl (mp ?_).1
   refine Aa.p (Aw G.1.rest9.code G.1.rest9.fat) ?_
   rw[hfoot]at hrd
   simp only at hrd
   by_cases hz:G.1.rest9.code=0
   ·have q:(G.1.rest9.code==0)=true:=by simpa using hz
    rw[if_pos hz]at hrd
    refine (mq q ?_).1
    exact FE RD [] hrd
   ·have q:(G.1.rest9.code==0)=false:=by simpa using hz
    rw[if_neg hz]at hrd
    refine (mq q ?_).1
    (refine FB RD [] ?_ ?_<;>first|with_reducible rfl|(simp[Ae,Ah,Ai,Ag,hrd,JH];done)|rfl)
  ·have hr':Az ⟨A.2,B.2,C.2,D.2,E.2,F.2,G.2⟩=false:=by simpa using hr
   have hfc:G.1.fcheck ⟨A.2,B.2,C.2,D.2,E.2,F.2,G.2⟩=G.1.fail 3 0:=by unfold RS.fcheck;rw[if_neg hr]
   rw[hfc]at hfoot
   refine (mq hr' ?_).1
   refine Aa.u1 (Ar G.1 3 0 _) rfl (mp ?_).1
   refine Aa.u1 (BL (G.1.fail 3 0) _ (kg.fail 3 0)) rfl (mp ?_).1
   refine Aa.r1 (A3 (G.1.fail 3 0).rest9 _) rfl (mp ?_).1
   refine Aa.p (Aw (G.1.fail 3 0).rest9.code (G.1.fail 3 0).rest9.fat) ?_
   rw[hfoot]at hrd
   simp only at hrd
   by_cases hz:(G.1.fail 3 0).rest9.code=0
   ·have q:((G.1.fail 3 0).rest9.code==0)=true:=by simpa using hz
    rw[if_pos hz]at hrd
    refine (mq q ?_).1
    exact FE RD [] hrd
   ·have q:((G.1.fail 3 0).rest9.code==0)=false:=by simpa using hz
    rw[if_neg hz]at hrd
    refine (mq q ?_).1
    (refine FB RD [] ?_ ?_<;>first|with_reducible rfl|(simp[Ae,Ah,Ai,Ag,hrd,JH];done)|rfl)
theorem D5 (p:List Int) (hp:AY p) (hn:p.length≤140737488355328):Ct Tryz.prog 145 [A9 .u8 p] [] (λ_=>.tup [U9 (Bs p).1,B9 (Bs p).2]) [] (λ_=>[]):=(IN p hp hn).toCt cl cl
theorem OU (s:RS) (a:Int) (hs:s.ok) (a0:0≤a) (a1:a≤s.at_):An Tryz.prog 128 [.ref 0 0,iA a] [A7 s] (A9 .u8 ((s.l.drop a.toNat).take (s.at_-a).toNat)) [A7 (s)]:=by
 obtain⟨h0,h1,h2⟩:=hs
 have q1:decide (a<0)=false:=decide_eq_false (by omega)
 have q2:decide (s.at_<a)=false:=decide_eq_false (by omega)
 have e1:((s.l.drop a.toNat).take (s.at_-a).toNat).length≤s.l.length:=by simp;omega
 unfold A7
 refine RN Tryz.func128 As6 ?_;simp only[go_sem,seval,q1,q2,Ab,Cb,DD];refine (mok ?_).1
 (repeat((with_reducible refine And.intro ?_ ?_);(·exact sd)))
 (refine AF.untag 4 rfl ?_;simp only[Au,List.set_cons_zero,List.set_cons_succ])
 exact FA As6 [0]
theorem RT (s:RS) (a:Int) (i:Nat) (hs:s.ok) (a0:0≤a) (a1:a≤s.at_):Ct Tryz.prog 128 [.ref i 0,iA a] [(i,A7 s)] (λ_=>A9 .u8 ((s.l.drop a.toNat).take (s.at_-a).toNat)) [] (λ_=>[]):=
 Ct.r1 (OU s a hs a0 a1) i cl (λρ=>Ao ρ s) (rdr_dead s) cl
abbrev Ya:ByteArray:=⟨#[76,79,72,84]⟩
theorem Afd:AY Hb:=by unfold AY Hb;decide
theorem Aj9 {l:List Int} (hl:AY l):((Fg (A2 .u8 l)).toList==Ya.toList)=BJ l Hb:=Hs hl Afd
theorem Z_:(Ya.data.toList.map λb=>AV.lit (.int .u8 b.toNat))=A2 .u8 Hb:=rfl
theorem RJ (s:WS) (hs:s.fine):An Tryz.prog 214 [.ref 0 0,.lit (.string Ya)] [B4 1 s,A1 s] (.tup []) [B4 1 (s.put Hb),A1 (s.put Hb)]:=by
 refine RN Tryz.func214 Al1 ?_;refine (mq @Z_ ?_).1
 (repeat((with_reducible refine And.intro ?_ ?_);(·exact sd)))
 refine Aa.u2 (B0 s Hb 0 1 (by decide) hs.ok (hs.room _)) rfl rfl (mp ?_).1
 exact FA Al1 [0,1]
theorem U2 (s:WS) (i j:Nat) (h:i≠j) (hs:s.fine):Ct Tryz.prog 214 [.ref i 0,.lit (.string Ya)] [(i,B4 j s),(j,A1 s)] (λ_=>.tup []) [(i,B4 j (s.put Hb)),(j,A1 (s.put Hb))] (λ_=>[]):=Ct.u2 (RJ s hs) i j h cl cl cl cl cl (BI _ _) (Bm _) Ci
theorem RP:An Tryz.prog 115 [] [] (iA 12) []:=by
 refine RM Tryz.func115 Ata ?_
 exact FA Ata []
theorem CW:Ct Tryz.prog 115 [] [] (λ_=>iA 12) [] (λ_=>[]):=(RP).toCt cl cl
theorem LS (n x:Int) (hx:IntKind.u64.wrap n=x) (x0:0≤x) (x1:x<18446744073709551616):An Tryz.prog 161 [iA n] [] (A9 .u8 (A0 x)) []:=by
 have m4:(min (max (4:Int) 0) 8).toNat=4:=rfl
 have hb:=DC 4 x
 have hl:=BD 4 x
 have hcr:=Dt hb
 have eb:=FY hb
 have hl2:=BD 4 (Br (Aq 4 x))
 have f0:(WS.new 12).fine:=WS.fine.new (by omega)
 have w1:(WS.new 12).put (Aq 4 x)=⟨12,Aq 4 x,0⟩:=by rw[WS.new_is (by decide),CO rfl (by simp;omega)];rfl
 have f1:=f0.put (Aq 4 x)
 rw[w1]at f1
 have w2:(WS.mk 12 (Aq 4 x) 0).put (Aq 4 (Br (Aq 4 x)))=⟨12,Aq 4 x++Aq 4 (Br (Aq 4 x)),0⟩:=CO rfl (by simp;omega)
 have f2:=f1.put (Aq 4 (Br (Aq 4 x)))
 rw[w2]at f2
 have w3:(WS.mk 12 (Aq 4 x++Aq 4 (Br (Aq 4 x))) 0).put Hb=⟨12,A0 x,0⟩:=CO rfl (by rw[List.length_append];simp[Hb];omega)
 have hbs:(WS.mk 12 (A0 x) 0).bytes=A0 x:=rfl
 have htl:=Dk x
 refine RM Tryz.func161 Asz ?_
 refine Aa.p (CW) (mp ?_).1
 refine Aa.n (ER 12) (mq hx ?_).1
 refine Aa.p (Pd x 4 x0 x1) (mq m4 ?_).1
 refine Aa.u2 (B0 (WS.new 12) (Aq 4 x) _ _ (by decide) f0.ok (f0.room _)) rfl rfl (mq w1 ?_).1
 refine Aa.p (Hq (Aq 4 x) hb (by omega)) (mq eb ?_).1
 refine Aa.u2 (Hv (WS.mk 12 (Aq 4 x) 0) (Br (Aq 4 x)) 4 _ _ (by decide) hcr.1 (by omega) f1) rfl rfl (mr m4 w2 ?_).1
 refine Aa.u2 (U2 (WS.mk 12 (Aq 4 x++Aq 4 (Br (Aq 4 x))) 0) _ _ (by decide) f2) rfl rfl (mq w3 ?_).1
 refine Aa.r2 (B1 (WS.mk 12 (A0 x) 0) _ _ (by decide) (by show(A0 x).length≤_;omega)) rfl rfl ?_;refine (mq hbs ?_).1
 exact FA Asz []
theorem Et (n x:Int) (hx:IntKind.u64.wrap n=x) (x0:0≤x) (x1:x<18446744073709551616):Ct Tryz.prog 161 [iA n] [] (λ_=>A9 .u8 (A0 x)) [] (λ_=>[]):=(LS n x hx x0 x1).toCt cl cl
def XO (f:Ft):List Int:=[f.bat,f.ent,f.fst,f.fin,f.at_,f.size]
theorem ZQ (f:Ft):Bj f=([3]++vb f.ep)++I0 (XO f):=by
 unfold Bj XO;simp[I0]
theorem Rd (c a n x:Int) (hx:IntKind.i64.wrap (a+n)=x):An Tryz.prog 73 [B9 (c,a),iA n] [] (B9 (BW c x)) []:=by
 refine RN Tryz.func73 b73 ?_;refine (mq hx ?_).1
 refine Aa.p (BQ c x) (mp ?_).1
 exact FA b73 []
theorem Bi (c a n x:Int) (hx:IntKind.i64.wrap (a+n)=x):Ct Tryz.prog 73 [B9 (c,a),iA n] [] (λ_=>B9 (BW c x)) [] (λ_=>[]):=(Rd c a n x hx).toCt cl cl
def RS.part4 (s:RS):RS:=⟨s.l.take (s.at_+4).toNat,s.at_,0,0⟩
theorem RU (s:RS) (hs:Av s) (h4:4≤s.left):An Tryz.prog 211 [.ref 0 0,iA 4] [A7 s] (.ref 1 0) [A7 s,A7 s.part4]:=by
 have h0:=hs.at0
 have h1:=hs.at1
 have h2:=hs.len
 unfold RS.left at h4
 have hm0:(if(0:Int)>4 then(0:Int)else 4)=4:=if_neg (by decide)
 have hm:min 4 s.left=4:=by unfold RS.left;omega
 have hw:IntKind.i64.wrap (s.at_+4)=s.at_+4:=IntWalk.i64_in _ (by omega)
 refine RM Tryz.func211 Asn ?_
 refine Aa.r1 (Gb s 0 hs.ok) rfl ?_
 simp only[go_sem,seval,A7,mn,hm0,hm,hw,Ab,Qd,DD];refine (mok ?_).1
 (repeat((with_reducible refine And.intro ?_ ?_);(·exact sd)))
 (refine FB Asn [0,1] ?_ ?_<;>first|with_reducible rfl|(simp[Ae,Ah,Ai,Ag,A7,RS.part4];done)|rfl)
theorem U4 (s:RS) (i:Nat) (hs:Av s) (h4:4≤s.left):Ct Tryz.prog 211 [.ref i 0,iA 4] [(i,A7 s)] (λn=>.ref n 0) [(i,A7 s)] (λ_=>[A7 s.part4]):=Ct.un (RU s hs h4) i cl (λρ=>Ao ρ _) (λρ=>Ao ρ _) (rdr_dead _) cl (by intros;simp[Ao])
theorem L2 {l:List Int} {a n:Int} (n0:0≤n) (h:a+n≤l.length):(⟨l,a,0,0⟩:RS).take n=(⟨l,a+n,0,0⟩,(l.drop a.toNat).take n.toNat):=by
 have h1:¬n<0:=by omega
 have h2:¬(l.length:Int)-a<n:=by omega
 unfold RS.take RS.skip RS.left
 simp only[if_true,if_neg h1,if_neg h2]
theorem Ajd {b:List Int} {n:Int} (n0:0≤n) (n1:n≤b.length):(RS.new b).skip n=(⟨b,n,0,0⟩,true):=by
 unfold RS.skip RS.left RS.new
 simp only[if_true]
 rw[if_neg (by omega),if_neg (by omega)]
 simp
set_option maxHeartbeats 2000000 in
set_option maxRecDepth 100000 in
theorem Q6 (b:List Int) (hb:AY b) (hn:b.length≤140737488355328):An Tryz.prog 144 [A9 .u8 b] [] (.tup [iA (Dl b).1,B9 (Dl b).2]) []:=by
 have hok:Av (RS.new b):=Av.new hb hn
 refine RN Tryz.func144 Acf ?_;refine (mq @Ab ?_).1
 refine Aa.p (CW) ?_
 by_cases h12:b.length<12
 ·have q:decide ((b.length:Int)<12)=true:=decide_eq_true (by omega)
  have e:Dl b=(0,(1,(b.length:Int))):=by unfold Dl;rw[if_pos h12]
  refine (mq q ?_).1
  refine Aa.p (BQ 1 b.length) (mp ?_).1
  (refine FB Acf [] ?_ ?_<;>first|with_reducible rfl|(simp[Ae,Ah,Ai,Ag,e,BW];done)|rfl)
 ·have q:decide ((b.length:Int)<12)=false:=decide_eq_false (by omega)
  obtain⟨m,hm⟩:∃m:Nat,b.length=m+12:=⟨b.length-12,by omega⟩
  have hm':b.length-12=m:=by omega
  have w1:IntKind.i64.wrap ((b.length:Int)-12)=(m:Int):=by rw[IntWalk.i64_in _ (by omega)];omega
  have w4:IntKind.i64.wrap ((b.length:Int)-4)=(b.length:Int)-4:=IntWalk.i64_in _ (by omega)
  have w8:IntKind.i64.wrap ((b.length:Int)-4-4)=(b.length:Int)-8:=by rw[IntWalk.i64_in _ (by omega)];omega
  have wu:IntKind.u64.wrap (m:Int)=m:=IntWalk.u64_in _ (by omega)
  have hsk:=Ajd (b:=b) (n:=(m:Int)) (by omega) (by omega)
  have k0:Av ⟨b,(m:Int),0,0⟩:=⟨by show(0:Int)≤m;omega,by show(m:Int)≤(b.length:Int);omega,hn,hb⟩
  have k4:Av ⟨b,(m:Int)+4,0,0⟩:=⟨by show(0:Int)≤m+4;omega,by show(m:Int)+4≤(b.length:Int);omega,hn,hb⟩
  have k8:Av ⟨b,(m:Int)+4+4,0,0⟩:=⟨by show(0:Int)≤m+4+4;omega,by show(m:Int)+4+4≤(b.length:Int);omega,hn,hb⟩
  have hp4:(RS.mk b (m:Int) 0 0).part4=⟨b.take (m+4),(m:Int),0,0⟩:=by unfold RS.part4;simp only;rw[show((m:Int)+4).toNat=m+4 by omega]
  have lp:(b.take (m+4)).length=m+4:=by rw[List.length_take];omega
  have kp:Av ⟨b.take (m+4),(m:Int),0,0⟩:=⟨by show(0:Int)≤m;omega,by show(m:Int)≤((b.take (m+4)).length:Int);omega,by show(b.take (m+4)).length≤_;omega,λx hx=>hb x (List.mem_of_mem_take hx)⟩
  have t1:=L2 (l:=b.take (m+4)) (a:=(m:Int)) (n:=4) (by decide) (by omega)
  have e1:((b.take (m+4)).drop (m:Int).toNat).take (4:Int).toNat=(b.drop m).take 4:=by
   rw[Int.toNat_natCast,List.drop_take,show m+4-m=4 by omega,List.take_take];rfl
  rw[e1]at t1
  have t2:=L2 (l:=b) (a:=(m:Int)) (n:=4) (by decide) (by omega)
  have t3:=L2 (l:=b) (a:=(m:Int)+4) (n:=4) (by decide) (by omega)
  have t4:=L2 (l:=b) (a:=(m:Int)+4+4) (n:=4) (by decide) (by omega)
  obtain⟨x1,hx1⟩:∃x,(b.drop m).take 4=x:=⟨_,rfl⟩
  obtain⟨x2,hx2⟩:∃x,((b.drop m).drop 4).take 4=x:=⟨_,rfl⟩
  obtain⟨x3,hx3⟩:∃x,(b.drop m).drop 8=x:=⟨_,rfl⟩
  have e2:(b.drop (m:Int).toNat).take (4:Int).toNat=x1:=by rw[Int.toNat_natCast];exact hx1
  have e3:(b.drop ((m:Int)+4).toNat).take (4:Int).toNat=x2:=by rw[←hx2,List.drop_drop,show((m:Int)+4).toNat=m+4 by omega];rfl
  have e4:(b.drop ((m:Int)+4+4).toNat).take (4:Int).toNat=x3:=by
   rw[←hx3,List.drop_drop,show((m:Int)+4+4).toNat=m+8 by omega]
   exact List.take_of_length_le (by rw[List.length_drop];show _≤4;omega)
  rw[hx1]at t1
  rw[e2]at t2
  rw[e3]at t3
  rw[e4]at t4
  have f2:(RS.mk b (m:Int) 0 0).fixed (min (max 4 0) 8)=(⟨b,(m:Int)+4,0,0⟩,Bw x1):=by
   show(RS.mk b (m:Int) 0 0).fixed 4=_
   unfold RS.fixed;rw[t2]
  have f3:(RS.mk b ((m:Int)+4) 0 0).fixed (min (max 4 0) 8)=(⟨b,(m:Int)+4+4,0,0⟩,Bw x2):=by
   show(RS.mk b ((m:Int)+4) 0 0).fixed 4=_
   unfold RS.fixed;rw[t3]
  have b1:AY x1:=λy hy=>hb y (by rw[←hx1]at hy;exact List.mem_of_mem_drop (List.mem_of_mem_take hy))
  have b3:AY x3:=λy hy=>hb y (by rw[←hx3]at hy;exact List.mem_of_mem_drop (List.mem_of_mem_drop hy))
  have lx1:x1.length=4:=by rw[←hx1,List.length_take,List.length_drop];omega
  have eb:=FY b1
  have hr1:=E4 b1
  rw[lx1]at hr1
  have wi:IntKind.i64.wrap (Bw x1)=Bw x1:=IntWalk.i64_in _ (by omega)
  have e:Dl b=if¬x3=Hb then(0,(14,(b.length:Int)-4))else if¬Bw x2=Br x1 then(0,(6,(b.length:Int)-8))else if(b.length:Int)-12<Bw x1 then(0,(3,(b.length:Int)-12))else(Bw x1,(0,0)):=by
   unfold Dl;rw[if_neg h12,hm',hx1,hx2,hx3]
  refine (mq q ?_).1
  refine Aa.n (Ce b) (mp ?_).1
  refine Aa.p (CW) (mq w1 ?_).1
  refine Aa.u1 (Ij (RS.new b) m _ hok.ok) rfl (mq hsk ?_).1
  refine Aa.un (U4 ⟨b,(m:Int),0,0⟩ _ k0 (by unfold RS.left;simp only;omega)) rfl ?_
  refine (mq hp4 ?_).1
  refine Aa.u1 (CH ⟨b.take (m+4),(m:Int),0,0⟩ 4 _ kp.ok) rfl (mq t1 ?_).1
  refine Aa.p (Hq x1 b1 (by omega)) (mq eb ?_).1
  refine Aa.u1 (Du ⟨b,(m:Int),0,0⟩ 4 _ k0) rfl (mq f2 ?_).1
  refine Aa.u1 (Du ⟨b,(m:Int)+4,0,0⟩ 4 _ k4) rfl (mq f3 ?_).1
  refine Aa.u1 (CH ⟨b,(m:Int)+4+4,0,0⟩ 4 _ k8.ok) rfl (ms t4 @L9 (Aj9 b3) ?_).1
  by_cases c1:x3=Hb
  ·have q1:BJ x3 Hb=true:=by rw[c1];exact O8 _
   rw[if_neg (by simpa using c1)]at e
   by_cases c2:Bw x2=Br x1
   ·have q2:(Bw x2 != Br x1)=false:=by simpa using c2
    rw[if_neg (by simpa using c2)]at e
    by_cases c3:(m:Int)<Bw x1
    ·have q3:decide ((m:Int)<Bw x1)=true:=decide_eq_true c3
     rw[if_pos (by omega)]at e
     have em:(b.length:Int)-12=m:=by omega
     rw[em]at e
     simp only[go_sem,seval,q1,q2,eb,wu,q3];refine (mok ?_).1
     refine Aa.p (BQ 3 m) (mp ?_).1
     (refine FB Acf [] ?_ ?_<;>first|with_reducible rfl|(simp[Ae,Ah,Ai,Ag,e,BW];done)|rfl)
    ·have q3:decide ((m:Int)<Bw x1)=false:=decide_eq_false c3
     rw[if_neg (by omega)]at e
     simp only[go_sem,seval,q1,q2,eb,wu,q3,wi];refine (mok ?_).1
     exact FE Acf [] e
   ·have q2:(Bw x2 != Br x1)=true:=by simpa using c2
    rw[if_pos c2]at e
    simp only[go_sem,seval,q1,eb,q2,w4,w8];refine (mok ?_).1
    refine Aa.p (BQ 6 _) (mp ?_).1
    (refine FB Acf [] ?_ ?_<;>first|with_reducible rfl|(simp[Ae,Ah,Ai,Ag,e,BW];done)|rfl)
  ·have q1:BJ x3 Hb=false:=by simp[BJ,c1]
   rw[if_pos c1]at e
   refine (mr q1 w4 ?_).1
   refine Aa.p (BQ 14 _) (mp ?_).1
   (refine FB Acf [] ?_ ?_<;>first|with_reducible rfl|(simp[Ae,Ah,Ai,Ag,e,BW];done)|rfl)
theorem Lt (b:List Int) (hb:AY b) (hn:b.length≤140737488355328):Ct Tryz.prog 144 [A9 .u8 b] [] (λ_=>.tup [iA (Dl b).1,B9 (Dl b).2]) [] (λ_=>[]):=(Q6 b hb hn).toCt cl cl
theorem Aga (s:RS) (c a:Int):s.fail (BW c a).1 (BW c a).2=s.fail c a:=by
 unfold RS.fail BW
 by_cases hs:s.code=0
 ·by_cases h:c=0
  ·simp[h]
  ·simp[h]
 ·simp[hs]
theorem LW (s:RS) (n:Int) (hs:Av s) (n1: -9223372036854775808≤n) (n2:n<9223372036854775808) (hl:s.l.length≤1000000):An Tryz.prog 190 [.ref 0 0,iA n] [A7 s] (A9 .u8 (s.unpk n).2) [A7 ((s.unpk n).1)]:=by
 obtain⟨h1,h2,h3,h4⟩:=EP hs 1048576
 obtain⟨u,hu⟩:∃u,(s.blob 1048576).1=u:=⟨_,rfl⟩
 obtain⟨t,ht⟩:∃t,(s.blob 1048576).2=t:=⟨_,rfl⟩
 obtain⟨E,hE⟩:∃E,DT n (RS.new t) []=E:=⟨_,rfl⟩
 have hpl:=JC hs 1048576
 have hfat:=Ue (bound:=n) _ (RS.new t) [] (Av.new (ht▸h3) (by rw[←ht];omega)) (Fa.new _) (Int.self_le_toNat _)
 have hun:s.unpk n=if u.code=0 then(if E.2.1=0 then(if(E.1.length:Int)<n then(u.fail 3 u.at_,E.1)else(u,E.1))else(u.fail E.2.1 (E.2.2+(u.at_-t.length)),E.1))else(u,[]):=by
  unfold RS.unpk;rw[hu,ht,hE]
 rw[hE]at hfat
 rw[hu]at h1 h2 hpl
 rw[ht]at h3 h4 hpl
 have tl:(RS.new t).l.length=t.length:=rfl
 have ha0:=h1.at0
 have ha1:=h1.at1
 have eb:(if(1048576:Int)<1048576 then(1048576:Int)else 1048576)=1048576:=by simp
 refine RM Tryz.func190 Ahj ?_
 refine Aa.u1 (PU s 1048576 0 (by omega) hs) rfl (mr hu ht ?_).1
 refine Aa.r1 (Ak u 0) rfl ?_
 by_cases hc:u.code=0
 ·rw[if_pos hc]at hun
  have hp:=hpl hc
  have ew:IntKind.i64.wrap (u.at_-(t.length:Int))=u.at_-t.length:=IntWalk.i64_in _ (by omega)
  have es:IntKind.i64.wrap (E.2.2+(u.at_-t.length))=E.2.2+(u.at_-t.length):=IntWalk.i64_in _ (by omega)
  refine (mq (AW hc) ?_).1
  refine Aa.r1 (AP u 0) rfl ?_
  refine (mr @Ab ew ?_).1
  refine Aa.p (Rg t n n1 n2 h3 (by omega)) (mq hE ?_).1
  by_cases he:E.2.1=0
  ·rw[if_pos he]at hun
   have eg:(E.2.1==0)=true:=by simpa using he
   refine Aa.p (Aw E.2.1 E.2.2) (mr eg @Ab ?_).1
   by_cases hl2:(E.1.length:Int)<n
   ·rw[if_pos hl2]at hun
    have c1:decide ((E.1.length:Int)<n)=true:=by simpa using hl2
    refine (mq c1 ?_).1
    refine Aa.r1 (AP u 0) rfl ?_
    refine (mp ?_).1
    refine Aa.u1 (Ar u 3 u.at_ 0) rfl (mp ?_).1
    exact FE Ahj [0] hun
   ·rw[if_neg hl2]at hun
    have c1:decide ((E.1.length:Int)<n)=false:=by simpa using hl2
    refine (mq c1 ?_).1
    exact FE Ahj [0] hun
  ·rw[if_neg he]at hun
   have eg:(E.2.1==0)=false:=by simpa using he
   have ef:=Aga u E.2.1 (E.2.2+(u.at_-t.length))
   refine Aa.p (Aw E.2.1 E.2.2) (mq eg ?_).1
   refine Aa.p (Bi E.2.1 E.2.2 (u.at_-t.length) _ es) (mp ?_).1
   refine Aa.u1 (Ar u _ _ 0) rfl (mp ?_).1
   exact FF Ahj [0] hun ef
 ·rw[if_neg hc]at hun
  refine (mq (Ay hc) ?_).1
  (refine AF.untag 4 rfl ?_;simp only[Au,List.set_cons_zero,List.set_cons_succ])
  exact FE Ahj [0] hun
theorem NP (s:RS) (n:Int) (i:Nat) (hs:Av s) (n1: -9223372036854775808≤n) (n2:n<9223372036854775808) (hl:s.l.length≤1000000):Ct Tryz.prog 190 [.ref i 0,iA n] [(i,A7 s)] (λ_=>A9 .u8 (s.unpk n).2) [(i,A7 ((s.unpk n).1))] (λ_=>[]):=Ct.u1 (LW s n hs n1 n2 hl) i cl (λρ=>Ao ρ _) (λρ=>Ao ρ _) (rdr_dead _) cl
theorem Aln {s:RS} (hs:Av s):0≤s.bway.2.1∧s.bway.2.1≤1048576∧0≤s.bway.2.2∧s.bway.2.2<256:=by
 obtain⟨h1,h2⟩:=hs.int 1048576
 have h3:=Yv h1.ok h1.bys
 have h4:=D_ (m:=1048576) hs.bys
 exact⟨h4.1,by have:=h4.2;show(s.int 1048576).2≤_;omega,h3⟩
theorem KW (s:RS) (hs:Av s) (hl:s.l.length≤1000000):An Tryz.prog 121 [.ref 0 0,iA 1048576] [A7 s] (.tup [A9 .u8 s.blkL.2.1,bA s.blkL.2.2]) [A7 (s.blkL.1)]:=by
 obtain⟨h1,h2⟩:=hs.int 1048576
 obtain⟨k1,k2⟩:=II hs
 obtain⟨d1,d2⟩:=PV hs
 obtain⟨w1,w2,w3,w4⟩:=Aln hs
 have hat:=YE hs
 obtain⟨v,hv⟩:∃v,(s.int 1048576).1=v:=⟨_,rfl⟩
 obtain⟨n,hn⟩:∃n,(s.int 1048576).2=n:=⟨_,rfl⟩
 obtain⟨u,hu⟩:∃u,v.byte.1=u:=⟨_,rfl⟩
 obtain⟨y,hy⟩:∃y,v.byte.2=y:=⟨_,rfl⟩
 have eb:s.bway=(u,(n,y)):=by unfold RS.bway;rw[hv,hn,hu,hy]
 rw[hv]at h1 h2
 rw[eb]at k1 k2 w1 w2 w3 w4
 simp only[]at k1 k2 w1 w2 w3 w4
 have ed:s.bdat=if u.code=0 then(if y=0 then u.take n else if y=1 then u.unpk n else(u.fail 7 (u.at_-1),[]))else(u,[]):=by unfold RS.bdat;rw[eb]
 have ea:IntKind.i64.wrap (u.at_-1)=u.at_-1:=IntWalk.i64_in _ (by have:=k1.at0;have:=k1.at1;have:=k1.len;omega)
 obtain⟨D,hD⟩:∃D,s.bdat=D:=⟨_,rfl⟩
 rw[hD]at d1 d2 ed hat
 have eL:s.blkL=if D.1.code=0 then(D.1,(D.2,BJ (CM D.2) ((s.l.drop s.at_.toNat).take (D.1.at_-s.at_).toNat)))else(D.1,([],false)):=by unfold RS.blkL;rw[hD]
 have fin:∀(hc:D.1.code=0),Ct Tryz.prog 191 [A9 .u8 D.2] [] (λ_=>.tup [A9 .u8 (CM D.2),iA 0]) [] (λ_=>[])∧Ct Tryz.prog 128 [.ref 0 0,iA s.at_] [(0,A7 D.1)] (λ_=>A9 .u8 ((s.l.drop s.at_.toNat).take (D.1.at_-s.at_).toNat)) [] (λ_=>[])∧
  Ct Tryz.prog 160 [A9 .u8 (CM D.2),A9 .u8 ((s.l.drop s.at_.toNat).take (D.1.at_-s.at_).toNat)] [] (λ_=>bA (BJ (CM D.2) ((s.l.drop s.at_.toNat).take (D.1.at_-s.at_).toNat))) [] (λ_=>[]):=λhc=>by
  obtain⟨a1,a2,a3,a4⟩:=hat hc
  have hsi:=RT D.1 s.at_ 0 d1.ok hs.at0 a2
  rw[d2]at hsi
  exact⟨UG D.2 a4,hsi,Ia _ _ (UK a4 a3) (λx hx=>hs.bys x (List.mem_of_mem_drop (List.mem_of_mem_take hx)))⟩
 have em:(if(1048576:Int)<1048576 then(1048576:Int)else 1048576)=1048576:=by simp
 refine RM Tryz.func121 XI ?_
 refine Aa.r1 (AP s 0) rfl ?_
 refine (mp ?_).1
 refine Aa.u1 (A4 s 1048576 0 (by omega) hs.ok hs.bys) rfl (mr hv hn ?_).1
 refine Aa.u1 (CI v 0 h1.ok) rfl (mr hu hy ?_).1
 refine Aa.r1 (Ak u 0) rfl ?_
 by_cases hc:u.code=0
 ·rw[if_pos hc]at ed
  refine (mq (AW hc) ?_).1
  by_cases hy0:y=0
  ·subst hy0
   rw[if_pos rfl]at ed
   refine (mp ?_).1
   refine Aa.u1 (CH u n 0 k1.ok) rfl ?_;simp only[go_sem,seval,←ed];refine (mok ?_).1
   refine Aa.r1 (Ak D.1 0) rfl ?_
   by_cases hd:D.1.code=0
   ·rw[if_pos hd]at eL
    obtain⟨f1,f2,f3⟩:=fin hd
    refine (mq (AW hd) ?_).1
    refine Aa.p (f1) (mp ?_).1
    refine Aa.r1 (f2) rfl ?_
    refine (mp ?_).1
    refine Aa.p (f3) (mp ?_).1
    exact FE XI [0] eL
   ·rw[if_neg hd]at eL
    refine (mq (Ay hd) ?_).1
    (refine AF.untag 4 rfl ?_;simp only[Au,List.set_cons_zero,List.set_cons_succ])
    exact FE XI [0] eL
  ·have c0:(y==0)=false:=by simpa using hy0
   rw[if_neg hy0]at ed
   by_cases hy1:y=1
   ·subst hy1
    rw[if_pos rfl]at ed
    refine (mq c0 ?_).1
    refine Aa.u1 (NP u n 0 k1 (by omega) (by omega) (by rw[k2];exact hl)) rfl ?_;simp only[go_sem,seval,←ed];refine (mok ?_).1
    refine Aa.r1 (Ak D.1 0) rfl ?_
    by_cases hd:D.1.code=0
    ·rw[if_pos hd]at eL
     obtain⟨f1,f2,f3⟩:=fin hd
     refine (mq (AW hd) ?_).1
     refine Aa.p (f1) (mp ?_).1
     refine Aa.r1 (f2) rfl ?_
     refine (mp ?_).1
     refine Aa.p (f3) (mp ?_).1
     exact FE XI [0] eL
    ·rw[if_neg hd]at eL
     refine (mq (Ay hd) ?_).1
     (refine AF.untag 4 rfl ?_;simp only[Au,List.set_cons_zero,List.set_cons_succ])
     exact FE XI [0] eL
   ·have c1:(y==1)=false:=by simpa using hy1
    rw[if_neg hy1]at ed
    have e1:D.1=u.fail 7 (u.at_-1):=by rw[ed]
    have hd:¬D.1.code=0:=by rw[e1];unfold RS.fail;rw[if_pos hc];simp[BW]
    rw[if_neg hd]at eL
    refine (mr c0 c1 ?_).1
    refine Aa.r1 (AP u 0) rfl ?_
    refine (mq ea ?_).1
    refine Aa.u1 (Ar u 7 (u.at_-1) 0) rfl ?_;simp only[go_sem,seval,←e1];refine (mok ?_).1
    refine Aa.r1 (Ak D.1 0) rfl ?_
    refine (mq (Ay hd) ?_).1
    (refine AF.untag 4 rfl ?_;simp only[Au,List.set_cons_zero,List.set_cons_succ])
    exact FE XI [0] eL
 ·rw[if_neg hc]at ed
  refine (mq (Ay hc) ?_).1
  (refine AF.untag 4 rfl ?_;simp only[Au,List.set_cons_zero,List.set_cons_succ])
  (refine FB XI [0] ?_ ?_<;>first|with_reducible rfl|(simp[Ae,Ah,Ai,Ag,eL,ed,hc];done)|rfl)
theorem LX (s:RS) (i:Nat) (hs:Av s) (hl:s.l.length≤1000000):Ct Tryz.prog 121 [.ref i 0,iA 1048576] [(i,A7 s)] (λ_=>.tup [A9 .u8 s.blkL.2.1,bA s.blkL.2.2]) [(i,A7 (s.blkL.1))] (λ_=>[]):=Ct.u1 (KW s hs hl) i cl (λρ=>Ao ρ _) (λρ=>Ao ρ _) (rdr_dead _) cl
theorem OO (s:RS) (w:Bool) (a:Int):An Tryz.prog 164 [bA w,.fn 81 [.ref 0 0] [],iA a] [A7 s] (.tup []) [A7 (if w=true then s else s.fail 12 a)]:=by
 refine RM Tryz.func164 Api ?_
 cases w with
 |true=>
  refine (mp ?_).1
  exact FA Api [0]
 |false=>
  refine (mp ?_).1
  refine Aa.u1 (Ar s 12 a 0) rfl (mp ?_).1
  exact FA Api [0]
theorem Rt (s:RS) (w:Bool) (a:Int) (i:Nat):Ct Tryz.prog 164 [bA w,.fn 81 [.ref i 0] [],iA a] [(i,A7 s)] (λ_=>.tup []) [(i,A7 (if w=true then s else s.fail 12 a))] (λ_=>[]):=
 Ct.u1 (OO s w a) i (λN=>by simp[AK]) (λρ=>Ao ρ s) (λρ=>Ao ρ _) (rdr_dead s) (λρ=>by simp)
theorem UF (s:RS) (hs:Av s) (hl:s.l.length≤1000000):An Tryz.prog 87 [.ref 0 0,iA 1048576] [A7 s] (A9 .u8 s.blk.2) [A7 (s.blk.1)]:=by
 obtain⟨k1,k2⟩:=KX hs
 have hf:s.blkL.2.2=true->s.blkL.1.code=0:=λh=>by
  unfold RS.blkL at h ⊢
  split at h
  ·rename_i hc;rw[if_pos hc];exact hc
  ·simp at h
 obtain⟨D,hD⟩:∃D,s.blkL=D:=⟨_,rfl⟩
 have eB:s.blk=if D.2.2=true then(D.1,D.2.1)else(D.1.fail 12 D.1.at_,[]):=by unfold RS.blk;rw[hD]
 rw[hD]at hf
 refine RM Tryz.func87 b87 ?_
 refine Aa.u1 (LX s 0 hs hl) rfl (mq hD ?_).1
 refine Aa.r1 (AP D.1 0) rfl ?_
 refine (mp ?_).1
 refine Aa.u1 (Rt D.1 D.2.2 D.1.at_ 0) rfl (mp ?_).1
 cases hw:D.2.2 with
 |true=>
  have hc:=hf hw
  rw[if_pos hw]at eB
  refine (mp ?_).1
  refine Aa.r1 (Ak D.1 0) rfl ?_
  refine (mq (AW hc) ?_).1
  exact FE b87 [0] eB
 |false=>
  rw[if_neg (by rw[hw];simp)]at eB
  have hc:¬(D.1.fail 12 D.1.at_).code=0:=by
   unfold RS.fail
   split
   ·simp[BW]
   ·rename_i h;exact h
  refine (mp ?_).1
  refine Aa.r1 (Ak (D.1.fail 12 D.1.at_) 0) rfl ?_
  refine (mq (Ay hc) ?_).1
  (refine AF.untag 4 rfl ?_;simp only[Au,List.set_cons_zero,List.set_cons_succ])
  exact FE b87 [0] eB
theorem Xx (s:RS) (i:Nat) (hs:Av s) (hl:s.l.length≤1000000):Ct Tryz.prog 87 [.ref i 0,iA 1048576] [(i,A7 s)] (λ_=>A9 .u8 s.blk.2) [(i,A7 (s.blk.1))] (λ_=>[]):=Ct.u1 (UF s hs hl) i cl (λρ=>Ao ρ _) (λρ=>Ao ρ _) (rdr_dead _) cl
theorem Aij (n:Int):0≤IntKind.u64.wrap n∧IntKind.u64.wrap n<18446744073709551616:=by
 have e:IntKind.u64.wrap n=n%18446744073709551616:=by
  unfold IntKind.wrap
  simp[IntKind.signed,IntKind.bits]
 rw[e];omega
def Co (f:Ft):List Int:=[IntKind.u64.wrap f.bat,IntKind.u64.wrap f.ent,f.fst,f.fin,IntKind.u64.wrap f.at_,IntKind.u64.wrap f.size]
theorem YR {f:Ft} (hf:f.ok):Fi (Co f):=by
 have:=hf.fst
 have:=hf.fin
 have:=Aij f.bat
 have:=Aij f.ent
 have:=Aij f.at_
 have:=Aij f.size
 intro x hx
 simp only[Co,List.mem_cons,List.not_mem_nil,or_false]at hx
 rcases hx with rfl|rfl|rfl|rfl|rfl|rfl<;>omega
theorem Sa {f:Ft} (hf:f.ok) (hr:Az f=true):Co f=XO f:=by
 obtain⟨n1,n2,n3,n4,n5⟩:=D7 hf hr
 unfold Co XO
 rw[IntWalk.u64_in f.bat (by omega),IntWalk.u64_in f.ent (by omega),IntWalk.u64_in f.at_ (by omega),IntWalk.u64_in f.size (by omega)]
def Td (f:Ft):List Int:=if Az f=true then Bj f else[]
def OH (f:Ft):Int:=if Az f=true then 0 else 3
def Aej (f:Ft):WS:=(((if Az f=true then WS.new 80 else(WS.new 80).fail 3).put [3]).epput f.ep (Aj f.ep)).puts (Co f)
theorem Aeb {s:WS} (h:¬s.code=0) (l:List Int):s.puts l=s:=by
 induction l with
 |nil=>rfl
 |cons x l ih=>
  have:s.puts (x::l)=(s.put (vb x)).puts l:=rfl
  rw[this,WS.put_bad h,ih]
theorem Ajv {f:Ft} (hf:f.ok):(Aej f).bytes=Td f∧(Aej f).code=OH f:=by
 unfold Aej Td OH
 by_cases hr:Az f=true
 ·have hpl:=E0 f
  have e:=ZQ f
  have hl:=congrArg List.length e
  simp only[List.length_append,List.length_cons,List.length_nil]at hl
  have he:=(FC.1 hr).1
  rw[if_pos hr,if_pos hr,if_pos hr,Sa hf hr]
  have w1:(WS.new 80).put [3]=⟨80,[3],0⟩:=by kernel_rfl
  have w2:(WS.mk 80 [3] 0).epput f.ep (Aj f.ep)=⟨80,[3]++vb f.ep,0⟩:=by
   unfold WS.epput
   rw[if_pos (BV.2 he),CO rfl (by simp only[List.length_cons,List.length_nil];omega)]
  rw[w1,w2,MR rfl _ (by simp only[List.length_append,List.length_cons,List.length_nil];omega),←e]
  exact⟨rfl,rfl⟩
 ·rw[if_neg hr,if_neg hr,if_neg hr]
  have w0:(WS.new 80).fail 3=⟨80,[],3⟩:=by kernel_rfl
  have w1:(WS.mk 80 [] 3).put [3]=⟨80,[],3⟩:=WS.put_bad (by decide)
  have w2:(WS.mk 80 [] 3).epput f.ep (Aj f.ep)=⟨80,[],3⟩:=by
   unfold WS.epput;split
   ·exact WS.put_bad (by decide)
   ·rfl
  rw[w0,w1,w2,Aeb (by decide)]
  exact⟨rfl,rfl⟩
theorem WS.fine.epput {s:WS} (h:s.fine) (x:Int) (b:Bool):(s.epput x b).fine:=by
 unfold WS.epput;split
 ·exact h.put _
 ·exact h.fail 3
set_option maxHeartbeats 1000000 in
set_option maxRecDepth 100000 in
theorem LT (f:Ft) (hf:f.ok):An Tryz.prog 181 [U9 f] [] (.tup [A9 .u8 (Td f),iA (OH f)]) []:=by
 obtain⟨p1,p2⟩:=Ajv hf
 have hu:=YR hf
 have lv:(Co f).length=6:=rfl
 have ev:[uA (IntKind.u64.wrap f.bat),uA (IntKind.u64.wrap f.ent),uA f.fst,uA f.fin,uA (IntKind.u64.wrap f.at_),uA (IntKind.u64.wrap f.size)]=A2 .u64 (Co f):=rfl
 have f0:(WS.new 80).fine:=WS.fine.new (by omega)
 have hs:=hf
 obtain⟨s,hsv⟩:∃s,(if Az f=true then WS.new 80 else(WS.new 80).fail 3)=s:=⟨_,rfl⟩
 have fs:s.fine:=by
  rw[←hsv];split
  ·exact f0
  ·exact f0.fail 3
 have hpw:Aej f=((s.put [3]).epput f.ep (Aj f.ep)).puts (Co f):=by unfold Aej;rw[hsv]
 obtain⟨W,hW⟩:∃W,(s.put [3]).epput f.ep (Aj f.ep)=W:=⟨_,rfl⟩
 have fw:W.fine:=by rw[←hW];exact(fs.put _).epput _ _
 rw[hW]at hpw
 rw[hpw]at p1 p2
 have w00:W.puts []=W:=rfl
 refine RM Tryz.func181 Ape ?_
 refine Aa.n (ER 80) (mp ?_).1
 refine Aa.p (Hg f hf.fst.1 hf.fst.2 hf.fin.1 hf.fin.2) ?_
 by_cases hr:Az f=true
 ·rw[if_pos hr]at hsv
  refine (mr hr hsv ?_).1
  (repeat((with_reducible refine And.intro ?_ ?_);(·exact sd)))
  refine Aa.u2 (B0 s [3] _ _ (by decide) fs.ok (fs.room _)) rfl rfl (mp ?_).1
  refine Aa.u2 (IC (s.put [3]) f.ep _ _ (by decide) hf.ep.1 hf.ep.2 (fs.put _)) rfl rfl ?_;simp only[go_sem,seval,hW,ev,Ab,lv];refine (mok ?_).1
  (repeat((with_reducible refine And.intro ?_ ?_);(·exact sd)))
  refine AM (α:=Nat) (λk=>[.any,.any,.any,.any,.ref 0 0,.any,.any,.any,.any,.any,.any,.any,.any,.any,.any,.any,.any,.any,.any,.any,.any,.any,.any,.any,.any,.any,.any,.any,.any,.any,.any,.any,.any,.any,.any,.any,A9 .u64 (Co f),iA 6,iA k,.any,.any,.any,.any,.any,.any,.any,.any,.any,.any,.any]) (λk=>[B4 1 (W.puts ((Co f).take k)),A1 (W.puts ((Co f).take k))]) (λk=>k≤6) (λk=>6-k) 0 (by simp) ?_ ?_
  ·exact(Wk.untag 36 rfl).trans (Wk.sel [1,2] (by simp) rfl (by simp) rfl (by simp[Ik,wrow_ren,AK,w00]) (by simp[Cq,AT,Au,AN,AK]))
  ·intro k hk
   have fk:=fw.puts ((Co f).take k)
   refine (mp ?_).1
   by_cases hlt:k<6
   ·have q1:decide ((k:Int)<6)=true:=decide_eq_true (by omega)
    have ek:=AJ k (by omega)
    have g:=E_ (Co f) k (by omega)
    have hx:=hu ((Co f).getD k 0) (by rw[List.getD_eq_getElem?_getD,List.getElem?_eq_getElem (by omega)];exact List.getElem_mem _)
    have st:=O4 W (Co f) k (by omega)
    refine (mt q1 @Ab lv g ?_).1
    (repeat((with_reducible refine And.intro ?_ ?_);(·exact sd)))
    refine Aa.u2 (Bx (W.puts ((Co f).take k)) ((Co f).getD k 0) 0 1 (by decide) hx.1 hx.2 fk.ok (fk.room _)) rfl rfl (mr st ek ?_).1
    exact⟨k+1,by omega,by omega,Wk.to (by simp) (by simp[Ca])⟩
   ·have q1:decide ((k:Int)<6)=false:=decide_eq_false (by omega)
    have e6:(Co f).take k=Co f:=List.take_of_length_le (by omega)
    rw[e6]at fk
    refine (mr q1 e6 ?_).1
    refine Aa.r2 (B1 (W.puts (Co f)) 0 1 (by decide) fk.len) rfl rfl (mr p1 p2 ?_).1
    exact FA Ape []
 ·have hr':Az f=false:=by simpa using hr
  rw[if_neg hr]at hsv
  refine (mq hr' ?_).1
  refine Aa.u2 (Cp (WS.new 80) 3 _ _ (by decide)) rfl rfl (mq hsv ?_).1
  (repeat((with_reducible refine And.intro ?_ ?_);(·exact sd)))
  refine Aa.u2 (B0 s [3] _ _ (by decide) fs.ok (fs.room _)) rfl rfl (mp ?_).1
  refine Aa.u2 (IC (s.put [3]) f.ep _ _ (by decide) hf.ep.1 hf.ep.2 (fs.put _)) rfl rfl ?_;simp only[go_sem,seval,hW,ev,Ab,lv];refine (mok ?_).1
  (repeat((with_reducible refine And.intro ?_ ?_);(·exact sd)))
  refine AM (α:=Nat) (λk=>[.any,.any,.any,.any,.ref 0 0,.any,.any,.any,.any,.any,.any,.any,.any,.any,.any,.any,.any,.any,.any,.any,.any,.any,.any,.any,.any,.any,.any,.any,.any,.any,.any,.any,.any,.any,.any,.any,A9 .u64 (Co f),iA 6,iA k,.any,.any,.any,.any,.any,.any,.any,.any,.any,.any,.any]) (λk=>[B4 1 (W.puts ((Co f).take k)),A1 (W.puts ((Co f).take k))]) (λk=>k≤6) (λk=>6-k) 0 (by simp) ?_ ?_
  ·exact(Wk.untag 36 rfl).trans (Wk.sel [1,2] (by simp) rfl (by simp) rfl (by simp[Ik,wrow_ren,AK,w00]) (by simp[Cq,AT,Au,AN,AK]))
  ·intro k hk
   have fk:=fw.puts ((Co f).take k)
   refine (mp ?_).1
   by_cases hlt:k<6
   ·have q1:decide ((k:Int)<6)=true:=decide_eq_true (by omega)
    have ek:=AJ k (by omega)
    have g:=E_ (Co f) k (by omega)
    have hx:=hu ((Co f).getD k 0) (by rw[List.getD_eq_getElem?_getD,List.getElem?_eq_getElem (by omega)];exact List.getElem_mem _)
    have st:=O4 W (Co f) k (by omega)
    refine (mt q1 @Ab lv g ?_).1
    (repeat((with_reducible refine And.intro ?_ ?_);(·exact sd)))
    refine Aa.u2 (Bx (W.puts ((Co f).take k)) ((Co f).getD k 0) 0 1 (by decide) hx.1 hx.2 fk.ok (fk.room _)) rfl rfl (mr st ek ?_).1
    exact⟨k+1,by omega,by omega,Wk.to (by simp) (by simp[Ca])⟩
   ·have q1:decide ((k:Int)<6)=false:=decide_eq_false (by omega)
    have e6:(Co f).take k=Co f:=List.take_of_length_le (by omega)
    rw[e6]at fk
    refine (mr q1 e6 ?_).1
    refine Aa.r2 (B1 (W.puts (Co f)) 0 1 (by decide) fk.len) rfl rfl (mr p1 p2 ?_).1
    exact FA Ape []
theorem H2 (f:Ft) (hf:f.ok):Ct Tryz.prog 181 [U9 f] [] (λ_=>.tup [A9 .u8 (Td f),iA (OH f)]) [] (λ_=>[]):=(LT f hf).toCt cl cl
section
variable {P:Program} {S:List Ad} {K:KT} {f:FuncId} {args args₀:List AV}
theorem Aa.rn2 {r:Nat->AV} {new:Nat->List Ad} {i j:Nat} {o p:Ad} (h:Ct P f (args.map Proofs.YtileggkdbaejoaaGreat.untag) [(i,o),(j,p)] r [] new) (hS:S[i]? =some o) (hS':S[j]? =some p) (hK:K (r S.length) [i,j] [] (new S.length)):Aa P f args S K:=Aa.of h.untag (by simp[hS,hS']) (by simp) hK
end
theorem NV (s:WS) (hc:s.code=0) (hb:s.l.length≤140737488355328):An Tryz.prog 176 [.ref 0 0] [B4 1 s,A1 s] (.tup [HS 2 s.l,iA 0]) [B4 1 s,A1 s,.row 1 s.l.length]:=by
 have q:(s.code != 0)=false:=by simpa using hc
 refine RM Tryz.func176 Ahl ?_
 refine Aa.r2 (F9 s 0 1 (by decide)) rfl rfl (mq q ?_).1
 simp only[go_sem,seval,B4,A1,Ab];refine (mok ?_).1
 (repeat((with_reducible refine And.intro ?_ ?_);(·exact sd)))
 (refine FB Ahl [0,1,2] ?_ ?_<;>first|with_reducible rfl|(simp[Ae,Ah,Ai,Ag,B4,A1];done)|rfl)
theorem IW (s:WS) (i j:Nat) (h:i≠j) (hc:s.code=0) (hb:s.l.length≤140737488355328):Ct Tryz.prog 176 [.ref i 0] [(i,B4 j s),(j,A1 s)] (λn=>.tup [HS n s.l,iA 0]) [] (λ_=>[.row 1 s.l.length]):=
 Ct.mk (NV s hc hb) [i,j] (by simpa using h) rfl (by simp) (by simp[BI,Bm]) (by intros;simp[AT,AK,List.range'_succ]) (by intros;simp[AT,AK,List.range'_succ,AN]) (by intros;simp[Ik,wrow_ren,AK,List.range'_succ]) (.inr ⟨rfl,rfl⟩) (by intros;simp[AT])
theorem Oy (p:List Int) (hp:AY p) (hn:p.length≤2097152):An Tryz.prog 179 [A9 .u8 p] [] (.tup [HS 0 (Ac p),iA 0]) [.row 1 (Ac p).length]:=by
 have hsz:=Sp p.length
 have hfr:=K9 (p:=p)
 have f0:(WS.new (Dm p.length)).fine:=WS.fine.new (by omega)
 have hf:=PA (s:=WS.new (Dm p.length)) (p:=p) rfl hn (by rw[WS.new_is (by omega)];simp;omega)
 rw[WS.new_is (by omega)]at hf
 have hff:=(f0.frame p).len
 rw[WS.new_is (by omega),hf]at hff
 simp only[List.nil_append]at hf hff
 refine RN Tryz.func179 Al3 ?_;refine (mq @Ab ?_).1
 refine Aa.p (Jv p.length (by omega)) (mp ?_).1
 refine Aa.n (ER (Dm p.length)) (mp ?_).1
 refine Aa.u2 (PB (WS.new (Dm p.length)) p _ _ (by decide) f0 hp (by omega)) rfl rfl (mp ?_).1
 rw[WS.new_is (by omega),hf]
 refine Aa.rn2 (IW (WS.mk (Dm p.length) (Ac p) 0) _ _ (by decide) rfl hff) rfl rfl ?_
 refine (mp ?_).1
 exact FA Al3 [2]
theorem Q3 (p:List Int) (hp:AY p) (hn:p.length≤2097152):Ct Tryz.prog 179 [A9 .u8 p] [] (λn=>.tup [HS n (Ac p),iA 0]) [] (λ_=>[.row 1 (Ac p).length]):=Ct.n (Oy p hp hn) cl cl Ci
def Ic (f:Ft):List Int:=if Az f=true then Eu f else[]
theorem OB (f:Ft) (hf:f.ok):An Tryz.prog 112 [U9 f] [] (.tup [A9 .u8 (Ic f),iA (OH f)]) []:=by
 by_cases hr:Az f=true
 ·have e1:Td f=Bj f:=by unfold Td;rw[if_pos hr]
  have e2:OH f=0:=by unfold OH;rw[if_pos hr]
  have e3:Ic f=Eu f:=by unfold Ic;rw[if_pos hr]
  have hp:=HR hf hr
  have hpl:=E0 f
  have hfl:=Bh (Bj f)
  have htl:=Dk ((Ac (Bj f)).length:Int)
  have wl:IntKind.u64.wrap ((Ac (Bj f)).length:Int)=((Ac (Bj f)).length:Int):=IntWalk.u64_in _ (by omega)
  have ef:Ac (Bj f)++A0 (Ac (Bj f)).length=Eu f:=rfl
  have efl:(Eu f).length=(Ac (Bj f)).length+12:=by rw[←ef,List.length_append,htl]
  refine RM Tryz.func112 Al8 ?_
  refine Aa.p (H2 f hf) (mr e1 e2 ?_).1
  refine Aa.n (Q3 (Bj f) hp (by omega)) (mq @Ab ?_).1
  refine Aa.p (Et _ _ wl (by omega) (by omega)) ?_;simp only[go_sem,seval,CV,Ab,←List.length_append,ef];refine (mok ?_).1
  (repeat((with_reducible refine And.intro ?_ ?_);(·exact sd)))
  (refine AF.untag 2 rfl ?_;simp only[Au,List.set_cons_zero,List.set_cons_succ])
  exact FF Al8 [] e2 e3
 ·have e1:Td f=[]:=by unfold Td;rw[if_neg hr]
  have e2:OH f=3:=by unfold OH;rw[if_neg hr]
  have e3:Ic f=[]:=by unfold Ic;rw[if_neg hr]
  refine RM Tryz.func112 Al8 ?_
  refine Aa.p (H2 f hf) (mr e1 e2 ?_).1
  (refine AF.untag 2 rfl ?_;simp only[Au,List.set_cons_zero,List.set_cons_succ])
  exact FF Al8 [] e2 e3
theorem Q8 (f:Ft) (hf:f.ok):Ct Tryz.prog 112 [U9 f] [] (λ_=>.tup [A9 .u8 (Ic f),iA (OH f)]) [] (λ_=>[]):=(OB f hf).toCt cl cl
theorem Nm (h:Hd) (hr:Bz h=true) (hb:0≤h.base):An Tryz.prog 107 [hdA h] [] (.tup [HS 0 (Am h),iA 0]) [.row 1 (Am h).length]:=by
 have f0:(WS.new 27).fine:=WS.fine.new (by omega)
 have hff:=(f0.header h).len
 obtain⟨e1,e2⟩:=V9 h (n:=27) (by omega)
 have e3:((WS.new 27).header h).code=0:=by rw[e1];unfold Ak0;rw[if_pos hr]
 have e4:((WS.new 27).header h).l=Am h:=by
  have:((WS.new 27).header h).bytes=((WS.new 27).header h).l:=by unfold WS.bytes;rw[if_pos e3]
  rw[←this,e2];unfold NJ;rw[if_pos hr]
 refine RM Tryz.func107 Ate ?_
 refine Aa.p (Amr) (mp ?_).1
 refine Aa.n (ER 27) (mp ?_).1
 refine Aa.u2 (WM (WS.new 27) h _ _ (by decide) f0 hb) rfl rfl (mp ?_).1
 refine Aa.rn2 (IW ((WS.new 27).header h) _ _ (by decide) e3 hff) rfl rfl ?_
 refine (mq e4 ?_).1
 exact FA Ate [3]
theorem Ou (h:Hd) (hr:Bz h=true) (hb:0≤h.base):Ct Tryz.prog 107 [hdA h] [] (λn=>.tup [HS n (Am h),iA 0]) [] (λ_=>[.row 1 (Am h).length]):=Ct.n (Nm h hr hb) cl cl Ci
abbrev Ie (b:Bt):AV:=.agg [uA b.ep,uA b.base,JN b.en]
def R7 (l:List Bt):List AV:=l.map Ie
abbrev slB (l:List Bt):AV:=.sl .none 3 (R7 l)
abbrev btO (b:Bt):Ad:=.cells [uA b.ep,uA b.base,JN b.en]
abbrev JP (u:Gj):AV:=.agg [uA u.ep,slB u.bt]
abbrev Vt (u:Gj):Ad:=.cells [uA u.ep,slB u.bt]
theorem AG (l:List Bt):(R7 l).length=l.length:=by simp[R7]
theorem Km (l:List Bt) (k:Nat) (h:k<l.length):(R7 l).getD k .any=Ie (l.getD k BZ):=by simp[R7,h]
theorem Ag4 (l:List Bt) (n:Nat):(R7 l).take n=R7 (l.take n):=by simp[R7]
@[simp] theorem L3 (ρ:Nat->Nat) (l:List Bt):(R7 l).map (λx=>x.ren ρ)=R7 l:=by
 simp[R7,Function.comp_def,AT,AN,Iq]
theorem Sq (u:Gj) (ρ:Nat->Nat):(Vt u).ren ρ=Vt u:=by simp[AT]
structure E9 (b:Bt):Prop where
 n:b.en.length≤1000000
 e:∀e∈b.en,I6 e
 s:(AL b.en).length≤100000000
theorem E9.lk {b:Bt} (h:E9 b):∀e∈b.en,D6 e.lk:=λe he=>(h.e e he).1
theorem TZ {base n:Int} (h:n<1∨16<n∨Lx base n=false):DS base n=false:=by
 unfold DS
 rcases h with h|h|h
 ·rw[decide_eq_false (by omega)];rfl
 ·rw[decide_eq_false (by omega)];rfl
 ·rw[h,Bool.and_false]
theorem Aa2 {base n:Int} (h1:1≤n) (h2:n≤16):DS base n=Lx base n:=by
 unfold DS;rw[decide_eq_true ⟨h1,h2⟩,Bool.true_and]
theorem UO (base n:Int) (b0:0≤base) (b1:base<18446744073709551616):An Tryz.prog 96 [uA base,iA n] [] (bA (DS base n)) []:=by
 refine RM Tryz.func96 b96 ?_
 by_cases h1:1≤n
 ·have q1:decide (1≤n)=true:=decide_eq_true h1
  by_cases h2:n≤16
  ·have q2:decide (n≤16)=true:=decide_eq_true h2
   have w0:IntKind.u64.wrap n=n:=IntWalk.u64_in _ (by omega)
   have ey:=Aa2 (base:=base) h1 h2
   refine (mr q1 q2 ?_).1
   refine Aa.p (ID base) ?_
   by_cases h:base<4611686018427387904
   ·have e:Bb base=true:=Ec.2 h
    have w1:IntKind.u64.wrap (base+n)=base+n:=IntWalk.u64_in _ (by omega)
    have ef:decide (base+n≤4611686018427387904)=DS base n:=by rw[ey];unfold Lx;rw[decide_eq_true h];rfl
    refine (mt e w0 w1 ef ?_).1
    exact FA b96 []
   ·have e:Bb base=false:=by unfold Bb;exact decide_eq_false h
    have ef:DS base n=false:=by rw[ey];unfold Lx;rw[decide_eq_false h];rfl
    refine (mq e ?_).1
    exact FE b96 [] ef
  ·have q2:decide (n≤16)=false:=decide_eq_false h2
   have ef:=TZ (base:=base) (n:=n) (.inr (.inl (by omega)))
   refine (mr q1 q2 ?_).1
   exact FE b96 [] ef
 ·have q1:decide (1≤n)=false:=decide_eq_false h1
  have ef:=TZ (base:=base) (n:=n) (.inl (by omega))
  refine (mq q1 ?_).1
  exact FE b96 [] ef
theorem NQ (base n:Int) (b0:0≤base) (b1:base<18446744073709551616):Ct Tryz.prog 96 [uA base,iA n] [] (λ_=>bA (DS base n)) [] (λ_=>[]):=(UO base n b0 b1).toCt cl cl
theorem Ip {b:Bt} (h:Aj b.ep=false∨DS b.base b.en.length=false∨1048576<(AL b.en).length∨∃i,i<b.en.length∧Cj (b.base+i) (b.en.getD i DN)=false):B8 b=false:=by
 cases hr:B8 b with
 |false=>rfl
 |true=>
  exfalso
  have h4:=(Cs.1 hr).2.2.2
  unfold B8 at hr
  simp only[Bool.and_eq_true,decide_eq_true_eq]at hr
  obtain⟨⟨⟨a,c⟩,d⟩,e⟩:=hr
  rcases h with h|h|h|⟨i,hi,h⟩
  ·rw[h]at a;cases a
  ·rw[h]at c;cases c
  ·omega
  ·rw[h4 i hi]at h;cases h
theorem VG {b:Bt} (h1:Aj b.ep=true) (h2:DS b.base b.en.length=true) (h3:(AL b.en).length≤1048576) (h4:∀i,i<b.en.length->Cj (b.base+i) (b.en.getD i DN)=true):B8 b=true:=by
 unfold B8
 simp only[Bool.and_eq_true,decide_eq_true_eq,List.all_eq_true,List.mem_range]
 exact⟨⟨⟨h1,h2⟩,h3⟩,h4⟩
set_option maxHeartbeats 1000000 in
set_option maxRecDepth 100000 in
theorem Ry (b:Bt) (hb:b.ok) (hs:E9 b):An Tryz.prog 47 [Ie b] [] (bA (B8 b)) []:=by
 obtain⟨n1,he,s1⟩:=hs
 refine RM Tryz.func47 b47 ?_
 refine Aa.p (AQ b.ep) ?_
 cases h1:Aj b.ep with
 |false=>
  have e:=Ip (b:=b) (.inl h1)
  refine (mq h1 ?_).1
  exact FE b47 [] e
 |true=>
  refine (mr h1 @AA ?_).1
  refine Aa.p (NQ b.base b.en.length hb.b0 hb.b1) ?_
  cases h2:DS b.base b.en.length with
  |false=>
   have e:=Ip (b:=b) (.inr (.inl h2))
   refine (mq h2 ?_).1
   exact FE b47 [] e
  |true=>
   obtain⟨⟨f0,f1⟩,f2,f3⟩:=GK.1 h2
   refine (mq h2 ?_).1
   refine Aa.p (H6 b.en n1 (by omega)) ?_
   by_cases h3:(AL b.en).length≤1048576
   ·have q3:decide (1048576<((AL b.en).length:Int))=false:=decide_eq_false (by omega)
    refine (mr q3 @AA ?_).1
    refine AM (α:=Nat) (λk=>[.any,.ref 0 0,.any,.any,.any,.any,.any,.any,.any,.any,.any,.any,.any,.any,.any,.any,.any,.any,.any,.any,.any,.any,.any,.any,.any,JN b.en,iA b.en.length,iA k,.any,.any,.any,.any,.any,.any,.any,.any,.any,.any,.any,.any,.any]) (λ_=>[btO b]) (λk=>k≤b.en.length∧∀i,i<k->Cj (b.base+i) (b.en.getD i DN)=true) (λk=>b.en.length-k) 0 ⟨by simp,λi hi=>by omega⟩ (Wk.to (by simp) (by simp[Ca])) ?_
    rintro k ⟨hk,hall⟩
    refine (mq @AA ?_).1
    by_cases hlt:k<b.en.length
    ·have q1:decide ((k:Int)<(b.en.length:Int))=true:=decide_eq_true (by omega)
     have ek:=AJ k (by omega)
     have g:=Ff b.en k hlt
     have b0:=hb.b0
     have wk:IntKind.u64.wrap (k:Int)=k:=IntWalk.u64_in _ (by omega)
     have wp:IntKind.u64.wrap (b.base+(k:Int))=b.base+k:=IntWalk.u64_in _ (by omega)
     have hm:=Xl b.en k hlt
     have hc:=H7 (b.base+k) (b.en.getD k DN) (hb.en _ hm) (he _ hm) (by omega) (by omega)
     simp only[go_sem,seval,q1,g,AA,Int.toNat_natCast,wk,wp];refine (mok ?_).1
     (repeat((with_reducible refine And.intro ?_ ?_);(·exact sd)))
     refine Aa.p (hc) ?_
     cases hq:Cj (b.base+k) (b.en.getD k DN)with
     |true=>
      refine (mq ek ?_).1
      (repeat((with_reducible refine And.intro ?_ ?_);(·exact sd)))
      exact⟨k+1,⟨hlt,λi hi=>by
       rcases Nat.lt_or_ge i k with h|h
       ·exact hall i h
       ·obtain rfl:i=k:=by omega
        exact hq⟩,by omega,Wk.sel [0] (by simp) rfl (by simp) rfl (by simp[AT]) (by simp[Cq,AT])⟩
     |false=>
      have e:=Ip (b:=b) (.inr (.inr (.inr ⟨k,hlt,hq⟩)))
      refine (mp ?_).1
      (repeat((with_reducible refine And.intro ?_ ?_);(·exact sd)))
      exact FE b47 [] e
    ·have q1:decide ((k:Int)<(b.en.length:Int))=false:=decide_eq_false (by omega)
     have e:=VG h1 h2 h3 λi hi=>hall i (by omega)
     refine (mq q1 ?_).1
     exact FE b47 [] e
   ·have q3:decide (1048576<((AL b.en).length:Int))=true:=decide_eq_true (by omega)
    have e:=Ip (b:=b) (.inr (.inr (.inl (by omega))))
    refine (mq q3 ?_).1
    exact FE b47 [] e
theorem LF (b:Bt) (hb:b.ok) (hs:E9 b):Ct Tryz.prog 47 [Ie b] [] (λ_=>bA (B8 b)) [] (λ_=>[]):=(Ry b hb hs).toCt cl cl
theorem XE (b:Bt) (hn:b.en.length≤1000000) (b0:0≤b.base) (b1:b.base+b.en.length<18446744073709551616):An Tryz.prog 78 [Ie b] [] (uA (b.base+b.en.length)) []:=by
 have w0:IntKind.u64.wrap (b.en.length:Int)=b.en.length:=IntWalk.u64_in _ (by omega)
 have w1:IntKind.u64.wrap (b.base+(b.en.length:Int))=b.base+b.en.length:=IntWalk.u64_in _ (by omega)
 refine RN Tryz.func78 b78 ?_;refine (ms @AA w0 w1 ?_).1
 exact FA b78 []
theorem KY (b:Bt) (hn:b.en.length≤1000000) (b0:0≤b.base) (b1:b.base+b.en.length<18446744073709551616):Ct Tryz.prog 78 [Ie b] [] (λ_=>uA (b.base+b.en.length)) [] (λ_=>[]):=(XE b hn b0 b1).toCt cl cl
theorem Afs (l:List Hh) (x:Hh):IE (HZ l)++[Mb ⟨x.1,[]⟩]=IE (HZ (l++[x])):=by simp[HZ,IE]
theorem Rx (s:RS) (base:Int) (N:Nat) (b0:0≤base) (bN:base+N≤4611686018427387904) (hs:Av s) (hn:s.l.length*32≤100000000000000) (hN:N≤1000):
 An Tryz.prog 162 [.ref 0 0,uA base,iA N] [A7 s] (.tup [JN (HZ ((CN base).many N s []).2),A9 .i64 (JG ((CN base).many N s []).2)]) [A7 (((CN base).many N s []).1)]:=by
 have hF:=J8 b0
 refine RM Tryz.func162 Apj ?_
 refine AM (α:=RS×List Hh) (λa=>[.ref 0 0,uA base,.any,.any,.any,.any,.any,.any,.sl (.row 1) 2 (IE (HZ a.2)),.sl (.row 2) 1 (A2 .i64 (JG a.2)),iA (1048576-R4 a.2),.any,.any,.any,iA N,iA a.2.length,.any,.any,.any,.any,.any,.any,.any,.any,.any,.any,.any,.any,.any,.any,.any,.any,.any,.any,.any,.any,.any,.any,.any,.any,.any,.any,.any,.any,.any]) (λa=>[A7 a.1,.row 2 a.2.length,.row 1 a.2.length]) ((CN base).On s N) (λa=>N-a.2.length) (s,[]) (Ef.On.start hs N)
  (((Wk.row 8 2 rfl (.inr rfl) (by decide)).trans (Wk.row 9 1 rfl (.inr rfl) (by decide))).trans (Wk.to (by simp) (by simp[Ca,HZ,JG,IE,R4,A2]))) ?_
 rintro⟨t,acc⟩ ho
 have h1:=ho.ok
 have h2:=ho.l
 have h6:=ho.res
 have hwf:=ho.wf
 have hle:=ho.le
 simp only at h1 h2 h6 hwf hle
 have hnn:=Mp hwf
 refine (mp ?_).1
 by_cases hlt:acc.length<N
 ·have q0:decide ((acc.length:Int)<(N:Int))=true:=by simp;omega
  have ei:=AJ acc.length (by omega)
  have hff:=QR (base:=base) (s:=t) (acc:=acc) (by omega)
  have eu:IntKind.u64.wrap (acc.length:Int)=acc.length:=IntWalk.u64_in _ (by omega)
  have eb:IntKind.u64.wrap (base+acc.length)=base+acc.length:=IntWalk.u64_in _ (by omega)
  have hcall:=Ny t (base+acc.length) (1048576-R4 acc) 0 (by omega) (by omega) (by omega) h1 (by rw[h2];exact hn)
  rw[←hff]at hcall
  have hnx:((CN base).f t acc).1.code=0->(CN base).On s N (((CN base).f t acc).1,acc++[((CN base).f t acc).2]):=λhc=>ho.next hF hlt hc
  have hnb:¬((CN base).f t acc).1.code=0->(CN base).many N s []=(((CN base).f t acc).1,[]):=λhc=>by
   have:=FL (F:=CN base) (s:=t) hlt hc
   rw[h6]at this;exact this
  have hrd:=hF.read t acc h1 hwf
  obtain⟨D,hD⟩:∃D,(CN base).f t acc=D:=⟨_,rfl⟩
  rw[hD]at hcall hnx hnb hrd
  refine (ms q0 eu eb ?_).1
  refine Aa.u1 (hcall) rfl (mp ?_).1
  refine Aa.r1 (Ak D.1 0) rfl ?_
  by_cases hc:D.1.code=0
  ·have hx:=(hrd hc).2.1
   have es:IntKind.i64.wrap (1048576-R4 acc-D.2.2)=1048576-R4 (acc++[D.2]):=by
    have:=hx.sum
    have:=hx.sz
    rw[Add,IntWalk.i64_in _ (by omega)];omega
   simp only[go_sem,seval,AW hc,es,ei,AA,EK,Ab,Jt];refine (mok ?_).1
   (repeat((with_reducible refine And.intro ?_ ?_);(·exact sd)))
   refine⟨(D.1,acc++[D.2]),hnx hc,by simp;omega,(Wk.wa 8 (y:=.sl (.row 1) 2 (IE (HZ (acc++[D.2])))) rfl ?_).trans ((Wk.wa 9 (y:=.sl (.row 2) 1 (A2 .i64 (JG (acc++[D.2])))) rfl ?_).trans (Wk.sel [0,1,2] (by simp) rfl (by simp) rfl (by simp[Ao]) (by simp[Cq,AT,AK])))⟩
   ·rw[←Afs];exact Wa.slS (Bo.refl _)
   ·have e:A2 .i64 (JG (acc++[D.2]))=A2 .i64 (JG acc)++[iA D.2.2]:=by simp[JG,A2]
    rw[e];exact Wa.slS (Bo.refl _)
  ·have hm:=hnb hc
   refine (mq (Ay hc) ?_).1
   (refine AF.nilk 6 2 rfl ?_;simp only[List.set_cons_zero,List.set_cons_succ])
   (refine AF.untag 6 rfl ?_;simp only[Au,List.set_cons_zero,List.set_cons_succ];refine AF.untag 7 rfl ?_;simp only[Au,List.set_cons_zero,List.set_cons_succ])
   (refine FB Apj [0] ?_ ?_<;>first|with_reducible rfl|(simp[Ae,Ah,Ai,Ag,hm,HZ,JG,IE];done)|rfl)
 ·have q0:decide ((acc.length:Int)<(N:Int))=false:=by simp;omega
  have el:acc.length=N:=by omega
  have hm:(CN base).many N s []=(t,acc):=by rw[←h6,el];simp[Ef.many]
  refine (mq q0 ?_).1
  (refine AF.untag 6 rfl ?_;simp only[Au,List.set_cons_zero,List.set_cons_succ];refine AF.untag 7 rfl ?_;simp only[Au,List.set_cons_zero,List.set_cons_succ])
  exact FE Apj [0] hm
theorem UN (s:RS) (base:Int) (N:Nat) (i:Nat) (b0:0≤base) (bN:base+N≤4611686018427387904) (hs:Av s) (hn:s.l.length*32≤100000000000000) (hN:N≤1000):
 Ct Tryz.prog 162 [.ref i 0,uA base,iA N] [(i,A7 s)] (λ_=>.tup [JN (HZ ((CN base).many N s []).2),A9 .i64 (JG ((CN base).many N s []).2)]) [(i,A7 (((CN base).many N s []).1))] (λ_=>[]):=Ct.u1 (Rx s base N b0 bN hs hn hN) i cl (λρ=>Ao ρ _) (λρ=>Ao ρ _) (rdr_dead _) cl
theorem Apz (s:RS) (hs:Av s) (hl:s.l.length≤1000000):An Tryz.prog 86 [.ref 1 0] [A7 s,.cells [.ref 0 0]] (A9 .u8 s.blk.2) [A7 s.blk.1,.cells [.ref 0 0]]:=by
 refine RM Tryz.func86 b86 ?_
 refine Aa.u1 (Xx s 0 hs hl) rfl (mp ?_).1
 exact FA b86 [0,1]
theorem UP (s:RS) (hs:Av s) (hl:s.l.length≤1000000) (i j:Nat) (h:i≠j):Ct Tryz.prog 86 [.ref j 0] [(i,A7 s),(j,.cells [.ref i 0])] (λ_=>A9 .u8 s.blk.2) [(i,A7 s.blk.1),(j,.cells [.ref i 0])] (λ_=>[]):=
 Ct.u2 (Apz s hs hl) i j h (λN=>by simp[AK]) (λN=>Ao _ _) (λN=>by simp[AK]) (λN=>Ao _ _) (λN=>by simp[AK]) (rdr_dead _) (by simp) (λρ=>by simp[AN])
structure Blk (f:FuncId) (blk:RS->RS×List Int):Prop where
 ct:∀(s:RS),Av s->s.l.length≤1000000->Ct Tryz.prog f [.ref 1 0] [(0,A7 s),(1,.cells [.ref 0 0])] (λ_=>A9 .u8 (blk s).2) [(0,A7 (blk s).1),(1,.cells [.ref 0 0])] (λ_=>[])
 keep:∀(s:RS),Av s->Av (blk s).1∧(blk s).1.l=s.l∧(blk s).2.length≤1048576
theorem UM (s:RS) (F:FuncId) (blk:RS->RS×List Int) (hB:Blk F blk) (hs:Av s) (hl:s.l.length≤1000000):
 An Tryz.prog 85 [.ref 0 0,.fn F [] [.ref 1 0]] [A7 s,.cells [.ref 0 0]] (Ie (s.btch blk).2) [A7 (s.btch blk).1,.cells [.ref 0 0]]:=by
 obtain⟨a1,a2⟩:=Bu hs Aj
 obtain⟨b1,b2⟩:=Bu a1 Bb
 obtain⟨c1,c2⟩:=b1.int 16
 obtain⟨d1,d2⟩:=Fp hs
 obtain⟨e1,e2⟩:=GU hs
 obtain⟨i1,i2,i3,i4⟩:=Rr hs
 obtain⟨u,hu⟩:∃u,(s.epo Aj).1=u:=⟨_,rfl⟩
 obtain⟨ep,hep⟩:∃ep,(s.epo Aj).2=ep:=⟨_,rfl⟩
 obtain⟨v,hv⟩:∃v,(u.epo Bb).1=v:=⟨_,rfl⟩
 obtain⟨ba,hba⟩:∃ba,(u.epo Bb).2=ba:=⟨_,rfl⟩
 obtain⟨w,hw⟩:∃w,(v.int 16).1=w:=⟨_,rfl⟩
 obtain⟨n,hn⟩:∃n,(v.int 16).2=n:=⟨_,rfl⟩
 have eh:s.bthd=(if DS ba n=true then w else w.fail 3 v.at_,(ep,(ba,n))):=by unfold RS.bthd;rw[hu,hep,hv,hba,hw,hn]
 rw[hu]at a1 a2
 rw[hu,hv]at b1 b2
 rw[hu,hv,hw]at c1 c2
 rw[eh]at i1 i2 i3 i4
 simp only[]at i1 i2 i3 i4
 obtain⟨N,rfl⟩:∃N:Nat,n=(N:Int):=⟨n.toNat,by omega⟩
 obtain⟨H,hH⟩:∃H,(if DS ba N=true then w else w.fail 3 v.at_)=H:=⟨_,rfl⟩
 rw[hH]at eh
 rw[eh]at d1 d2
 simp only[]at d1 d2
 have ef:(if DS ba N=true then w else w.fail 3 v.at_)=H:=hH
 refine RM Tryz.func85 b85 ?_
 refine Aa.u1 (Hn s 0 hs) rfl (mr hu hep ?_).1
 refine Aa.u1 (IU u 0 a1) rfl (mr hv hba ?_).1
 refine Aa.r1 (AP v 0) rfl ?_
 refine (mp ?_).1
 refine Aa.u1 (A4 v 16 0 (by decide) b1.ok b1.bys) rfl (mr hw hn ?_).1
 refine Aa.p (NQ ba N i1 (by omega)) (mp ?_).1
 cases hf:DS ba N with
 |false=>
  have e1:H=w.fail 3 v.at_:=by rw[←hH,hf];rfl
  have hc:¬H.code=0:=by rw[e1];unfold RS.fail;split;simp[BW];assumption
  have er:s.btch blk=(H,BZ):=by unfold RS.btch;rw[eh];simp only[];rw[if_neg hc]
  refine (mp ?_).1
  refine Aa.u1 (Ar w 3 v.at_ 0) rfl ?_;simp only[go_sem,seval,←e1];refine (mok ?_).1
  refine Aa.r1 (Ak H 0) rfl ?_
  refine (mq (Ay hc) ?_).1
  (refine AF.wao (ys:=[uA 0,uA 0,JN []]) 2 rfl (by repeat(first|exact Wa.refl _|exact Bo.nil|exact Wa.nil|exact Wa.none|refine Bo.cons ?_ ?_|refine Wa.agg ?_|refine Wa.slN ?_|refine Wa.slS ?_|exact Bo.refl _)) ?_;simp only[List.set_cons_zero,List.set_cons_succ])
  (refine FB b85 [0,1] ?_ ?_<;>first|with_reducible rfl|(simp[Ae,Ah,Ai,Ag,er,BZ,IE];done)|rfl)
 |true=>
  have e1:H=w:=by rw[←hH,hf];rfl
  subst e1
  refine (mp ?_).1
  refine Aa.r1 (Ak H 0) rfl ?_
  by_cases hc:H.code=0
  ·have hfi:=GK.1 hf
   obtain⟨Q,hQ⟩:∃Q,(CN ba).many N H []=Q:=⟨_,rfl⟩
   have eq:s.bthe=Q:=by unfold RS.bthe;rw[eh];simp only[];rw[Int.toNat_natCast];exact hQ
   rw[eq]at e1 e2
   obtain⟨D,hD⟩:∃D,blk Q.1=D:=⟨_,rfl⟩
   obtain⟨g1,g2,g3⟩:=hB.keep Q.1 e1
   have hct:=hB.ct Q.1 e1 (by rw[e2];exact hl)
   rw[hD]at g1 g2 g3 hct
   obtain⟨E,hE⟩:∃E,DU (HZ Q.2) (JG Q.2) D.2=E:=⟨_,rfl⟩
   have hsm:(∀e∈HZ Q.2,e.lk.length≤1000000∧∀x∈e.lk,x.bk.length≤1000000)∧(∀n∈JG Q.2,n<9223372036854775808)∧(HZ Q.2).length≤1000000:=by
    have hr:=Yg i1 d1 hc N
    rw[hQ]at hr
    have hs2:=KN hr.1
    exact⟨hs2.1,λn hn=>by have:=hs2.2 n hn;omega,by rw[EK];omega⟩
   have eb:s.btch blk=if(if E.2=true then D.1 else D.1.fail 3 Q.1.at_).code=0 then((if E.2=true then D.1 else D.1.fail 3 Q.1.at_),⟨ep,ba,E.1⟩)else((if E.2=true then D.1 else D.1.fail 3 Q.1.at_),BZ):=by
    unfold RS.btch RS.btfi;rw[eh];simp only[];rw[if_pos hc,eq,hD,hE]
   refine (mq (AW hc) ?_).1
   refine Aa.u1 (UN H ba N 0 i1 (by omega) d1 (by rw[d2];omega) (by omega)) rfl ?_;refine (mq hQ ?_).1
   refine Aa.r1 (AP Q.1 0) rfl ?_
   refine (mp ?_).1
   refine Aa.u2 (hct) rfl rfl (mp ?_).1
   refine Aa.p (Xk (HZ Q.2) (JG Q.2) D.2 hsm.2.2 (by omega) hsm.1 hsm.2.1) (mq hE ?_).1
   cases hdl:E.2 with
   |true=>
    rw[hdl]at eb
    simp only[if_true]at eb
    refine (mp ?_).1
    refine Aa.r1 (Ak D.1 0) rfl ?_
    by_cases hd:D.1.code=0
    ·rw[if_pos hd]at eb
     refine (mq (AW hd) ?_).1
     exact FE b85 [0,1] eb
    ·rw[if_neg hd]at eb
     refine (mq (Ay hd) ?_).1
     (refine AF.wao (ys:=[uA 0,uA 0,JN []]) 2 rfl (by repeat(first|exact Wa.refl _|exact Bo.nil|exact Wa.nil|exact Wa.none|refine Bo.cons ?_ ?_|refine Wa.agg ?_|refine Wa.slN ?_|refine Wa.slS ?_|exact Bo.refl _)) ?_;simp only[List.set_cons_zero,List.set_cons_succ])
     (refine FB b85 [0,1] ?_ ?_<;>first|with_reducible rfl|(simp[Ae,Ah,Ai,Ag,eb,BZ,IE];done)|rfl)
   |false=>
    rw[hdl]at eb
    simp only[Bool.false_eq_true,if_false]at eb
    have hd:¬(D.1.fail 3 Q.1.at_).code=0:=by unfold RS.fail;split;simp[BW];assumption
    rw[if_neg hd]at eb
    refine (mp ?_).1
    refine Aa.u1 (Ar D.1 3 Q.1.at_ 0) rfl (mp ?_).1
    refine Aa.r1 (Ak (D.1.fail 3 Q.1.at_) 0) rfl ?_
    refine (mq (Ay hd) ?_).1
    (refine AF.wao (ys:=[uA 0,uA 0,JN []]) 2 rfl (by repeat(first|exact Wa.refl _|exact Bo.nil|exact Wa.nil|exact Wa.none|refine Bo.cons ?_ ?_|refine Wa.agg ?_|refine Wa.slN ?_|refine Wa.slS ?_|exact Bo.refl _)) ?_;simp only[List.set_cons_zero,List.set_cons_succ])
    (refine FB b85 [0,1] ?_ ?_<;>first|with_reducible rfl|(simp[Ae,Ah,Ai,Ag,eb,BZ,IE];done)|rfl)
  ·have er:s.btch blk=(H,BZ):=by unfold RS.btch;rw[eh];simp only[];rw[if_neg hc]
   refine (mq (Ay hc) ?_).1
   (refine AF.wao (ys:=[uA 0,uA 0,JN []]) 2 rfl (by repeat(first|exact Wa.refl _|exact Bo.nil|exact Wa.nil|exact Wa.none|refine Bo.cons ?_ ?_|refine Wa.agg ?_|refine Wa.slN ?_|refine Wa.slS ?_|exact Bo.refl _)) ?_;simp only[List.set_cons_zero,List.set_cons_succ])
   (refine FB b85 [0,1] ?_ ?_<;>first|with_reducible rfl|(simp[Ae,Ah,Ai,Ag,er,BZ,IE];done)|rfl)
theorem Ag8:Blk 86 RS.blk:=⟨λs hs hl=>UP s hs hl 0 1 (by decide),λs hs=>⟨(B_ hs).1,(B_ hs).2,YB hs⟩⟩
theorem UQ (s:RS) (hs:Av s) (hl:s.l.length≤1000000):An Tryz.prog 38 [.ref 0 0] [A7 s] (Ie (s.btch RS.blk).2) [A7 ((s.btch RS.blk).1)]:=by
 have hct:Ct Tryz.prog 85 [.ref 0 0,.fn 86 [] [.ref 1 0]] [(0,A7 s),(1,.cells [.ref 0 0])] (λ_=>Ie (s.btch RS.blk).2) [(0,A7 (s.btch RS.blk).1),(1,.cells [.ref 0 0])] (λ_=>[]):=
  Ct.u2 (UM s _ _ Ag8 hs hl) 0 1 (by decide) (λN=>by simp[AK]) (λN=>Ao _ _) (λN=>by simp[AK]) (λN=>Ao _ _) (λN=>by simp[AK]) (rdr_dead _) (by simp) (λρ=>by simp[Ie])
 refine RM Tryz.func38 b38 ?_
 refine Aa.u2 (hct) rfl rfl (mp ?_).1
 exact FA b38 [0]
theorem Hu (s:RS) (i:Nat) (hs:Av s) (hl:s.l.length≤1000000):Ct Tryz.prog 38 [.ref i 0] [(i,A7 s)] (λ_=>Ie (s.btch RS.blk).2) [(i,A7 (s.btch RS.blk).1)] (λ_=>[]):=
 Ct.u1 (UQ s hs hl) i Ci (λρ=>Ao ρ _) (λρ=>Ao ρ _) (rdr_dead s) (λρ=>by simp[Ie])
theorem OR (l:List Int) (hb:AY l) (hl:l.length≤1000000):An Tryz.prog 14 [A9 .u8 l] [] (.tup [Ie (Ut l).1,B9 (Ut l).2]) []:=by
 have hok:Av (RS.new l):=Av.new hb (by omega)
 obtain⟨k1,k2⟩:=DG hok λs h=>B_ h
 obtain⟨D,hD⟩:∃D,(RS.new l).btch RS.blk=D:=⟨_,rfl⟩
 have e:Ut l=if D.1.rest9.code=0 then(D.2,(0,0))else(BZ,(D.1.rest9.code,D.1.rest9.fat)):=by unfold Ut;rw[hD]
 rw[hD]at k1
 refine RM Tryz.func14 b14 ?_
 refine Aa.n (Ce l) (mp ?_).1
 refine Aa.u1 (Hu (RS.new l) 2 hok hl) rfl (mq hD ?_).1
 refine Aa.u1 (BL D.1 2 k1) rfl (mp ?_).1
 refine Aa.r1 (A3 D.1.rest9 2) rfl ?_
 refine (mp ?_).1
 refine Aa.p (Aw D.1.rest9.code D.1.rest9.fat) ?_
 by_cases hc:D.1.rest9.code=0
 ·rw[if_pos hc]at e
  have hc':(D.1.rest9.code==0)=true:=by simpa using hc
  refine (mq hc' ?_).1
  exact FE b14 [] e
 ·rw[if_neg hc]at e
  have hc':(D.1.rest9.code==0)=false:=by simpa using hc
  refine (mq hc' ?_).1
  (refine AF.wao (ys:=[uA 0,uA 0,JN []]) 0 rfl (by repeat(first|exact Wa.refl _|exact Bo.nil|exact Wa.nil|exact Wa.none|refine Bo.cons ?_ ?_|refine Wa.agg ?_|refine Wa.slN ?_|refine Wa.slS ?_|exact Bo.refl _)) ?_;simp only[List.set_cons_zero,List.set_cons_succ])
  (refine FB b14 [] ?_ ?_<;>first|with_reducible rfl|(simp[Ae,Ah,Ai,Ag,e,BZ,IE];done)|rfl)
theorem Rz (l:List Int) (hb:AY l) (hl:l.length≤1000000):Ct Tryz.prog 14 [A9 .u8 l] [] (λ_=>.tup [Ie (Ut l).1,B9 (Ut l).2]) [] (λ_=>[]):=(OR l hb hl).toCt cl cl
abbrev Wb (m:Mk):AV:=.agg [uA m.pos,iA m.cnt,iA m.at_]
def HG (l:List Mk):List AV:=l.map Wb
abbrev Fv (l:List Mk):AV:=.sl .none 3 (HG l)
@[simp] theorem Em (ρ:Nat->Nat) (l:List Mk):(HG l).map (λx=>x.ren ρ)=HG l:=by simp[HG,AT]
@[simp] theorem ren_ints_s (ρ:Nat->Nat) (k:IntKind) (l:List Int):(A2 k l).map (λx=>x.ren ρ)=A2 k l:=AN ρ k l
theorem Ap (l:List Mk):(HG l).length=l.length:=by simp[HG]
theorem L5:HG []=[]:=(rfl)
theorem Ae7 (l:List Mk) (m:Mk):HG l++[Wb m]=HG (l++[m]):=by simp[HG]
theorem JZ (l:List Mk) (k:Nat) (h:k<l.length):(HG l).getD k .any=Wb (l.getD k Cr):=by simp[HG,h]
theorem G_ (l:List Mk) (k:Nat) (h:k<l.length):(HG l).getD (k:Int).toNat .any=Wb (l.getD k Cr):=by
 rw[Int.toNat_natCast];exact JZ l k h
theorem Anl (l:List Mk) (k:Nat) (h:k<l.length):l.getD k Cr∈l:=by simp[h]
theorem L6 (l:List Mk) (k:Nat) (h:k<l.length):l.take (k+1)=l.take k++[l.getD k Cr]:=by
 rw[List.take_succ_eq_append_getElem h];simp[h]
def U_ (l:List Mk):Prop:=∀m∈l,m.ok
theorem WE (m:Mk) (h0:0≤m.pos) (h1:0≤m.cnt) (h2:m.pos+m.cnt<18446744073709551616):An Tryz.prog 75 [Wb m] [] (uA m.fin) []:=by
 have e1:IntKind.u64.wrap m.cnt=m.cnt:=IntWalk.u64_in _ (by omega)
 have e2:IntKind.u64.wrap (m.pos+m.cnt)=m.fin:=IntWalk.u64_in _ (by omega)
 refine RN Tryz.func75 b75 ?_;refine (mr e1 e2 ?_).1
 exact FA b75 []
theorem C9 (m:Mk) (h0:0≤m.pos) (h1:0≤m.cnt) (h2:m.pos+m.cnt<18446744073709551616):Ct Tryz.prog 75 [Wb m] [] (λ_=>uA m.fin) [] (λ_=>[]):=(WE m h0 h1 h2).toCt cl cl
theorem TI (m:Mk) (pos at_:Int) (hm:m.ok):An Tryz.prog 148 [Wb m,uA pos,iA at_] [] (bA (decide (m.fits pos at_))) []:=by
 obtain⟨m1,m2,m3,m4,m5,m6⟩:=hm
 refine RM Tryz.func148 RC ?_
 by_cases c0:1≤m.cnt
 case neg=>
  have q0:decide (1≤m.cnt)=false:=by simpa using c0
  have hno:decide (m.fits pos at_)=false:=by(rw[decide_eq_false_iff_not];rintro⟨f1,f2,f3,f4,f5,f6⟩;first|(simp only[Mk.fin]at*;omega)|omega)
  refine (mq q0 ?_).1
  exact FE RC [] hno
 have q0:decide (1≤m.cnt)=true:=by simpa using c0
 by_cases c1:m.cnt≤16
 case neg=>
  have q1:decide (m.cnt≤16)=false:=by simpa using c1
  have hno:decide (m.fits pos at_)=false:=by(rw[decide_eq_false_iff_not];rintro⟨f1,f2,f3,f4,f5,f6⟩;first|(simp only[Mk.fin]at*;omega)|omega)
  refine (mr q0 q1 ?_).1
  exact FE RC [] hno
 have q1:decide (m.cnt≤16)=true:=by simpa using c1
 by_cases c2:pos≤m.pos
 case neg=>
  have q2:decide (pos≤m.pos)=false:=by simpa using c2
  have hno:decide (m.fits pos at_)=false:=by(rw[decide_eq_false_iff_not];rintro⟨f1,f2,f3,f4,f5,f6⟩;first|(simp only[Mk.fin]at*;omega)|omega)
  refine (ms q0 q1 q2 ?_).1
  exact FE RC [] hno
 have q2:decide (pos≤m.pos)=true:=by simpa using c2
 by_cases c3:m.pos<4611686018427387904
 case neg=>
  have q3:decide (m.pos<4611686018427387904)=false:=by simpa using c3
  have hno:decide (m.fits pos at_)=false:=by(rw[decide_eq_false_iff_not];rintro⟨f1,f2,f3,f4,f5,f6⟩;first|(simp only[Mk.fin]at*;omega)|omega)
  refine (mt q0 q1 q2 q3 ?_).1
  exact FE RC [] hno
 have q3:decide (m.pos<4611686018427387904)=true:=by simpa using c3
 by_cases c4:m.fin≤4611686018427387904
 case neg=>
  have q4:decide (m.fin≤4611686018427387904)=false:=by simpa using c4
  have hno:decide (m.fits pos at_)=false:=by(rw[decide_eq_false_iff_not];rintro⟨f1,f2,f3,f4,f5,f6⟩;first|(simp only[Mk.fin]at*;omega)|omega)
  refine (mt q0 q1 q2 q3 ?_).1
  refine Aa.p (C9 m m1 (by omega) (by omega)) (mq q4 ?_).1
  exact FE RC [] hno
 have q4:decide (m.fin≤4611686018427387904)=true:=by simpa using c4
 by_cases c5:at_<m.at_
 case neg=>
  have q5:decide (at_<m.at_)=false:=by simpa using c5
  have hno:decide (m.fits pos at_)=false:=by(rw[decide_eq_false_iff_not];rintro⟨f1,f2,f3,f4,f5,f6⟩;first|(simp only[Mk.fin]at*;omega)|omega)
  refine (mt q0 q1 q2 q3 ?_).1
  refine Aa.p (C9 m m1 (by omega) (by omega)) (mr q4 q5 ?_).1
  exact FE RC [] hno
 have q5:decide (at_<m.at_)=true:=by simpa using c5
 by_cases c6:m.at_≤1099511627775
 case neg=>
  have q6:decide (m.at_≤1099511627775)=false:=by simpa using c6
  have hno:decide (m.fits pos at_)=false:=by(rw[decide_eq_false_iff_not];rintro⟨f1,f2,f3,f4,f5,f6⟩;first|(simp only[Mk.fin]at*;omega)|omega)
  refine (mt q0 q1 q2 q3 ?_).1
  refine Aa.p (C9 m m1 (by omega) (by omega)) (ms q4 q5 q6 ?_).1
  exact FE RC [] hno
 have q6:decide (m.at_≤1099511627775)=true:=by simpa using c6
 have hyes:decide (m.fits pos at_)=true:=by rw[decide_eq_true_eq];simp only[Mk.fin]at*;exact⟨by omega,by omega,by omega,by omega,by omega,by omega⟩
 refine (mt q0 q1 q2 q3 ?_).1
 refine Aa.p (C9 m m1 (by omega) (by omega)) (ms q4 q5 q6 ?_).1
 exact FE RC [] hyes
theorem Nh (m:Mk) (pos at_:Int) (hm:m.ok):Ct Tryz.prog 148 [Wb m,uA pos,iA at_] [] (λ_=>bA (decide (m.fits pos at_))) [] (λ_=>[]):=(TI m pos at_ hm).toCt cl cl
theorem Yn {m:Mk} {pos at_:Int} (h:m.fits pos at_) (h0:0≤pos):0≤m.pos∧1≤m.cnt∧m.cnt≤16∧m.pos+m.cnt≤4611686018427387904:=by
 obtain⟨a,b,c,d,e,f⟩:=h;omega
theorem QO (l:List Mk) (hl:U_ l) (hn:l.length≤140737488355328):An Tryz.prog 74 [Fv l] [] (bA (AZ l)) []:=by
 refine RN Tryz.func74 b74 ?_;refine (mq @Ap ?_).1
 refine AM (α:=Nat) (λk=>[Fv l,.any,.any,uA (AI (l.take k)).fin,iA (AI (l.take k)).at_,.any,.any,Fv l,iA l.length,iA k,.any,.any,.any,.any,.any,.any,.any,.any,.any,.any,.any,.any,.any,.any,.any,.any]) (λ_=>[]) (λk=>k≤l.length∧Wf HV [] (l.take k)) (λk=>l.length-k) 0 ⟨by simp,trivial⟩ (Wk.to (by simp) (by simp[Ca,AI,Cr,Mk.fin])) ?_
 rintro k ⟨hk,hw⟩
 have hlast:=Fl hw
 refine (mp ?_).1
 refine Ax (λh=>?_) (λh=>?_)
 ·have hlt:k<l.length:=by simpa using h
  have g:=G_ l k hlt
  have hx:=hl _ (Anl l k hlt)
  have ei:=AJ k (by omega)
  obtain⟨x,hxe⟩:∃x,l.getD k Cr=x:=⟨_,rfl⟩
  have ht:=L6 l k hlt
  rw[hxe]at g hx ht
  refine (mr g @Ap ?_).1
  (repeat((with_reducible refine And.intro ?_ ?_);(·exact sd)))
  refine Aa.p (Nh x _ _ hx) ?_
  by_cases hf:x.fits (AI (l.take k)).fin (AI (l.take k)).at_
  ·have q:decide (x.fits (AI (l.take k)).fin (AI (l.take k)).at_)=true:=by simpa using hf
   obtain⟨f1,f2,f3,f4⟩:=Yn hf hlast.1
   refine (mq q ?_).1
   refine Aa.p (C9 x f1 (by omega) (by omega)) (mq ei ?_).1
   refine⟨k+1,⟨hlt,?_⟩,by omega,Wk.sel [] (by simp) rfl (by simp) rfl (by simp) ?_⟩
   ·rw[ht];exact Dx.2 ⟨hw,(show HV ([]++List.take k l) x from hf)⟩
   ·rw[ht];simp[Cq,AT,EJ]
  ·have q:decide (x.fits (AI (l.take k)).fin (AI (l.take k)).at_)=false:=by simpa using hf
   have hno:AZ l=false:=Zw hlt (by rw[hxe];exact hf)
   refine (mq q ?_).1
   exact FE b74 [] hno
 ·have ek:k=l.length:=by simp at h;omega
  subst ek
  rw[List.take_length]at hw
  have hr:AZ l=decide ((l.length:Int)≤16):=by
   rw[Bool.eq_iff_iff,Bc,decide_eq_true_eq]
   exact⟨λh=>by have:=h.2;omega,λh=>⟨hw,by omega⟩⟩
  refine (mq @Ap ?_).1
  exact FE b74 [] hr
theorem E1 (l:List Mk) (hl:U_ l) (hn:l.length≤140737488355328):Ct Tryz.prog 74 [Fv l] [] (λ_=>bA (AZ l)) [] (λ_=>[]):=(QO l hl hn).toCt cl cl
def Ez (l m:List Mk):Bool:=decide (l=m)
theorem Amo (x y:Mk):((x.pos==y.pos)&&((x.cnt==y.cnt)&&(x.at_==y.at_)))=decide (x=y):=by
 rw[Bool.eq_iff_iff]
 cases x;cases y
 simp
theorem Mu (a b:List Mk) (ha:a.length≤140737488355328):An Tryz.prog 254 [Fv a,Fv b] [] (bA (Ez a b)) []:=by
 refine RN Tryz.func254 Aly ?_;refine (mq @Ap ?_).1
 refine Ax (λh=>?_) (λh=>?_)
 ·have hne:Ez a b=false:=by unfold Ez;simp at h ⊢;intro e;subst e;exact h rfl
  refine (mp ?_).1
  exact FE Aly [] hne
 ·have hlen:a.length=b.length:=by have h':(a.length:Int)=b.length:=by simpa using h
                                  omega
  refine (mq @Ap ?_).1
  refine AM (α:=Nat) (λk=>[Fv a,Fv b,.any,.any,.any,.any,.any,.any,.any,.any,.any,.any,iA a.length,iA k,.any,.any,.any,.any,.any,.any,.any,.any,.any,.any,.any,.any]) (λ_=>[]) (λk=>k≤a.length∧a.take k=b.take k) (λk=>a.length-k) 0 ⟨by simp,by simp⟩ (Wk.to (by simp) (by simp[Ca])) ?_
  rintro k ⟨hk,ht⟩
  refine (mp ?_).1
  refine Ax (λh=>?_) (λh=>?_)
  ·have hlt:k<a.length:=by simpa using h
   have g1:=G_ a k hlt
   have g2:=G_ b k (by omega)
   have ei:=AJ k (by omega)
   obtain⟨x,hx⟩:∃x,a.getD k Cr=x:=⟨_,rfl⟩
   obtain⟨y,hy⟩:∃y,b.getD k Cr=y:=⟨_,rfl⟩
   rw[hx]at g1;rw[hy]at g2
   refine (ms g1 g2 @Ap ?_).1
   (repeat((with_reducible refine And.intro ?_ ?_);(·exact sd)))
   by_cases he:x=y
   ·have q:decide (x=y)=true:=by simpa using he
    refine (ms @Amo q ei ?_).1
    refine⟨k+1,⟨hlt,?_⟩,by omega,Wk.to (by simp) (by simp[Ca])⟩
    rw[L6 a k hlt,L6 b k (by omega),ht,hx,hy,he]
   ·have q:decide (x=y)=false:=by simpa using he
    have hne:Ez a b=false:=by unfold Ez;simp only[decide_eq_false_iff_not];rintro rfl;exact he (hx.symm.trans hy)
    refine (mr @Amo q ?_).1
    exact FE Aly [] hne
  ·have hk':k=a.length:=by simp at h;omega
   have he:Ez a b=true:=by
    unfold Ez
    rw[hk',List.take_length,List.take_of_length_le (by omega)]at ht
    simpa using ht
   refine (mp ?_).1
   exact FE Aly [] he
theorem N3 (a b:List Mk) (ha:a.length≤140737488355328):Ct Tryz.prog 254 [Fv a,Fv b] [] (λ_=>bA (Ez a b)) [] (λ_=>[]):=(Mu a b ha).toCt cl cl
theorem TJ (a b:List Mk) (ha:a.length≤140737488355328):An Tryz.prog 218 [Fv a,Fv b] [] (bA (Ez a b)) []:=by
 refine RM Tryz.func218 Ask ?_
 refine Aa.p (N3 a b ha) (mp ?_).1
 exact FA Ask []
theorem Ni (a b:List Mk) (ha:a.length≤140737488355328):Ct Tryz.prog 218 [Fv a,Fv b] [] (λ_=>bA (Ez a b)) [] (λ_=>[]):=(TJ a b ha).toCt cl cl
def WS.marks (s:WS) (l:List Mk):WS:=if AZ l=true then(s.put (vb l.length)).puts (BR GC [] l)else s.fail 3
theorem Wc (s:WS) (l:List Mk) (k:Nat) (x:Mk) (ht:l.take (k+1)=l.take k++[x]):((((s.puts (BR GC [] (l.take k))).put (vb (x.pos-(AI (l.take k)).fin))).put (vb x.cnt)).put (vb (x.at_-(AI (l.take k)).at_-1)))=s.puts (BR GC [] (l.take (k+1))):=by
 rw[ht,GQ,S4]
 simp[GC,WS.puts]
set_option maxRecDepth 100000 in
theorem WF (s:WS) (l:List Mk) (hs:s.fine) (hl:U_ l) (hn:l.length≤140737488355328):An Tryz.prog 180 [.ref 0 0,Fv l] [B4 1 s,A1 s] (.tup []) [B4 1 (s.marks l),A1 (s.marks l)]:=by
 have e:=Fe l (by omega)
 refine RM Tryz.func180 Apf ?_
 refine Aa.p (E1 l hl hn) ?_
 cases hf:AZ l
 ·refine (mq hf ?_).1
  refine Aa.u2 (Cp s 3 0 1 (by decide)) rfl rfl (mp ?_).1
  (refine FB Apf [0,1] ?_ ?_<;>first|with_reducible rfl|(simp[Ae,Ah,Ai,Ag,WS.marks,hf];done)|rfl)
 ·obtain⟨hwf,h16⟩:=Bc.1 hf
  refine (ms hf @Ap e ?_).1
  refine Aa.u2 (Bx s l.length 0 1 (by decide) (by omega) (by omega) hs.ok (hs.room _)) rfl rfl (mq @Ap ?_).1
  refine AM (α:=Nat) (λk=>[.ref 0 0,.any,.any,.any,uA (AI (l.take k)).fin,iA (AI (l.take k)).at_,.any,.any,.any,.any,.any,.any,.any,.any,.any,.any,.any,.any,Fv l,iA l.length,iA k,.any,.any,.any,.any,.any,.any,.any,.any,.any,.any,.any,.any,.any,.any,.any,.any,.any,.any,.any,.any,.any,.any,.any,.any,.any,.any,.any]) (λk=>[B4 1 ((s.put (vb l.length)).puts (BR GC [] (l.take k))),A1 ((s.put (vb l.length)).puts (BR GC [] (l.take k)))]) (λk=>k≤l.length) (λk=>l.length-k) 0 (by simp) (Wk.to (by simp[WS.puts,BR]) (by simp[Ca,AI,Cr,Mk.fin])) ?_
  intro k hk
  refine (mp ?_).1
  refine Ax (λh=>?_) (λh=>?_)
  ·have hlt:k<l.length:=by simpa using h
   have g:=G_ l k hlt
   have ei:=AJ k (by omega)
   obtain⟨x,hxe⟩:∃x,l.getD k Cr=x:=⟨_,rfl⟩
   have ht:=L6 l k hlt
   have hlast:=Fl (Il k hwf)
   have hnx:=EA k hlt hwf
   have h3:l[k]=x:=by rw[←hxe];simp[hlt]
   rw[h3,List.nil_append]at hnx
   rw[hxe]at g ht
   have hnx':x.fits (AI (l.take k)).fin (AI (l.take k)).at_:=hnx
   obtain⟨f1,f2,f3,f4,f5,f6⟩:=hnx'
   have st:=Wc (s.put (vb l.length)) l k x ht
   have hlx:AI (l.take (k+1))=x:=by rw[ht,EJ]
   have e1:IntKind.u64.wrap (x.pos-(AI (l.take k)).fin)=x.pos-(AI (l.take k)).fin:=IntWalk.u64_in _ (by omega)
   have e2:IntKind.u64.wrap x.cnt=x.cnt:=IntWalk.u64_in _ (by omega)
   have e3:IntKind.i64.wrap (x.at_-(AI (l.take k)).at_)=x.at_-(AI (l.take k)).at_:=IntWalk.i64_in _ (by omega)
   have e4:IntKind.i64.wrap (x.at_-(AI (l.take k)).at_-1)=x.at_-(AI (l.take k)).at_-1:=IntWalk.i64_in _ (by omega)
   have e5:IntKind.u64.wrap (x.at_-(AI (l.take k)).at_-1)=x.at_-(AI (l.take k)).at_-1:=IntWalk.u64_in _ (by omega)
   have hp:=(hs.put (vb l.length)).puts (BR GC [] (l.take k))
   refine (ms g @Ap e1 ?_).1
   (repeat((with_reducible refine And.intro ?_ ?_);(·exact sd)))
   refine Aa.u2 (Bx _ (x.pos-(AI (l.take k)).fin) 0 1 (by decide) (by omega) (by omega) hp.ok (hp.room _)) rfl rfl (mq e2 ?_).1
   refine Aa.u2 (Bx _ x.cnt 0 1 (by decide) (by omega) (by omega) (hp.put _).ok ((hp.put _).room _)) rfl rfl (ms e3 e4 e5 ?_).1
   refine Aa.u2 (Bx _ (x.at_-(AI (l.take k)).at_-1) 0 1 (by decide) (by omega) (by omega) ((hp.put _).put _).ok (((hp.put _).put _).room _)) rfl rfl (mq st ?_).1
   refine Aa.p (C9 x (by omega) (by omega) (by omega)) (mq ei ?_).1
   exact⟨k+1,hlt,by omega,Wk.sel [0,1] (by simp) rfl (by simp) rfl (by simp[Ik,wrow_ren,AK]) (by simp only[hlx];simp[Cq,AT])⟩
  ·have ek:k=l.length:=by simp at h;omega
   refine (mp ?_).1
   (refine FB Apf [0,1] ?_ ?_<;>first|with_reducible rfl|(simp[Ae,Ah,Ai,Ag,WS.marks,hf,ek];done)|rfl)
theorem Aaq (s:WS) (l:List Mk) (i j:Nat) (h:i≠j) (hs:s.fine) (hl:U_ l) (hn:l.length≤140737488355328):Ct Tryz.prog 180 [.ref i 0,Fv l] [(i,B4 j s),(j,A1 s)] (λ_=>.tup []) [(i,B4 j (s.marks l)),(j,A1 (s.marks l))] (λ_=>[]):=Ct.u2 (WF s l hs hl hn) i j h cl cl cl cl cl (BI _ _) (Bm _) Ci
theorem ZL {s:WS} {l:List Mk} (h:s.code=0) (hf:AZ l=true) (hm:(s.l.length:Int)+(AO l).length≤s.most):s.marks l=⟨s.most,s.l++AO l,0⟩:=by
 unfold AO at hm ⊢
 rw[List.length_append,←Kv]at hm
 unfold WS.marks
 have e1:s.put (vb (l.length:Int))=⟨s.most,s.l++vb l.length,0⟩:=by
  rw[WS.put_ok h (by omega)];cases s;simp at h;simp[h]
 rw[if_pos hf,e1,MR rfl _ (by simp only[List.length_append];omega),←Kv]
 simp
theorem We {l:List Mk} (hf:AZ l=true):(AO l).length≤490:=by
 have:=Dp l
 have:=(Bc.1 hf).2
 omega
def Pi (l:List Mk):List Int:=if AZ l=true then AO l else[]
theorem QP (l:List Mk) (hl:U_ l) (hn:l.length≤140737488355328):An Tryz.prog 110 [Fv l] [] (.tup [A9 .u8 (Pi l),iA (if AZ l=true then 0 else 3)]) []:=by
 have f1:(WS.new 1024).fine:=WS.fine.new (by decide)
 refine RM Tryz.func110 Aps ?_
 refine Aa.n (ER 1024) (mp ?_).1
 refine Aa.u2 (Aaq (WS.new 1024) l _ _ (by decide) f1 hl hn) rfl rfl ?_
 cases hf:AZ l
 ·have hw:(WS.new 1024).marks l=⟨1024,[],3⟩:=by unfold WS.marks;rw[hf];rfl
  refine (mq hw ?_).1
  refine Aa.r2 (B1 _ _ _ (by decide) (by decide)) rfl rfl (mp ?_).1
  (refine FB Aps [] ?_ ?_<;>first|with_reducible rfl|(simp[Ae,Ah,Ai,Ag,hf,Pi,WS.bytes];done)|rfl)
 ·have hr:=We hf
  have hw:(WS.new 1024).marks l=⟨1024,AO l,0⟩:=by rw[WS.new_is (by omega),ZL rfl hf (by simp only[List.length_nil];omega)];simp only[List.nil_append]
  refine (mq hw ?_).1
  refine Aa.r2 (B1 _ _ _ (by decide) (by simp only;omega)) rfl rfl ?_;refine (mp ?_).1
  (refine FB Aps [] ?_ ?_<;>first|with_reducible rfl|(simp[Ae,Ah,Ai,Ag,hf,Pi,WS.bytes];done)|rfl)
theorem TN (l:List Mk) (hl:U_ l) (hn:l.length≤140737488355328):Ct Tryz.prog 110 [Fv l] [] (λ_=>.tup [A9 .u8 (Pi l),iA (if AZ l=true then 0 else 3)]) [] (λ_=>[]):=(QP l hl hn).toCt cl cl
theorem Z6 {s:RS} {acc:List Mk} (hf:¬(s.mark (AI acc)).fits (AI acc).fin (AI acc).at_):(Dq.f s acc).1=s.m3.fail 3 s.at_∧¬(Dq.f s acc).1.code=0:=by
 have key:(Dq.f s acc).1=s.m3.fail 3 s.at_:=by
  show(if s.m3.code=0∧¬(s.mark (AI acc)).fits (AI acc).fin (AI acc).at_ then(s.m3.fail 3 s.at_,Cr)else(s.m3,s.mark (AI acc))).1=_
  by_cases hc:s.m3.code=0
  ·rw[if_pos ⟨hc,hf⟩]
  ·rw[if_neg λh=>hc h.1];unfold RS.fail;rw[if_neg hc]
 refine⟨key,?_⟩
 rw[key]
 by_cases hc:s.m3.code=0
 ·exact BM _ _ hc (by decide)
 ·unfold RS.fail;rw[if_neg hc];exact hc
theorem Wh {s:RS} {acc:List Mk} (hf:(s.mark (AI acc)).fits (AI acc).fin (AI acc).at_):Dq.f s acc=(s.m3,s.mark (AI acc)):=by
 show(if s.m3.code=0∧¬(s.mark (AI acc)).fits (AI acc).fin (AI acc).at_ then(s.m3.fail 3 s.at_,Cr)else(s.m3,s.mark (AI acc)))=_
 rw[if_neg λh=>h.2 hf]
set_option maxHeartbeats 1000000 in
set_option maxRecDepth 100000 in
theorem TK (s:RS) (hs:Av s) (hn:s.l.length*24≤140737488355328):An Tryz.prog 71 [.ref 0 0] [A7 s] (Fv s.marks.2) [A7 (s.marks.1)]:=by
 have hir:=D_ (s:=s) (m:=16) hs.bys
 obtain⟨hi1,hi2⟩:=hs.int 16
 unfold RS.marks Ef.counted
 refine RM Tryz.func71 b71 ?_
 refine Aa.u1 (A4 s 16 0 (by decide) hs.ok hs.bys) rfl ?_
 generalize hu:(s.int 16).1=u at*
 generalize(s.int 16).2=z at*
 obtain⟨N,hN⟩:∃N,z.toNat=N:=⟨_,rfl⟩
 have hz:z=(N:Int):=by omega
 subst hz
 rw[Int.toNat_natCast]
 refine (mp ?_).1
 refine AM (α:=RS×List Mk) (λa=>[.ref 0 0,.any,.any,.sl (.row 1) 3 (HG a.2),uA (AI a.2).fin,iA (AI a.2).at_,.any,.any,.any,.any,.any,iA N,iA a.2.length,.any,.any,.any,.any,.any,.any,.any,.any,.any,.any,.any,.any,.any,.any,.any,.any,.any,.any,.any,.any,.any,.any,.any,.any,.any,.any,.any,.any,.any,.any,.any,.any,.any,.any,.any,.any,.any,.any,.any,.any,.any,.any]) (λa=>[A7 a.1,.row 3 a.2.length]) (Dq.On u N) (λa=>N-a.2.length) (u,[]) (Ef.On.start hi1 N) ((Wk.row 3 3 rfl (.inr rfl) (by decide)).trans (Wk.to (by simp) (by simp[Ca,HG,AI,Cr,Mk.fin]))) ?_
 rintro⟨t,acc⟩ ho
 have hla:=ho.len
 rw[hi2]at hla
 have h1:=ho.ok
 have h6:=ho.res
 have hw:=Fl ho.wf
 simp only at h1 h6 hw
 have hmn:=Ae8 h1
 have hnxF:=ho.next DR
 obtain⟨p,hp⟩:∃p,AI acc=p:=⟨_,rfl⟩
 have hnot:=Z6 (s:=t) (acc:=acc)
 have hfit:=Wh (s:=t) (acc:=acc)
 rw[hp]at hw hnot hfit
 obtain⟨w1,w2,w3,w4,w5,w6⟩:=hw
 obtain⟨n1,n2,n3,n4,n5,n6⟩:=hmn
 have b2:=(h1.vint.1.int 16).1
 refine (mq hp ?_).1
 refine Ax (λh=>?_) (λh=>?_)
 ·have hlt:acc.length<N:=by simpa using h
  have ei:=AJ acc.length (by omega)
  have e1:IntKind.i64.wrap (p.at_+1)=p.at_+1:=IntWalk.i64_in _ (by omega)
  have e2:IntKind.i64.wrap (p.at_+1+t.mOn)=p.at_+t.mOn+1:=by rw[IntWalk.i64_in _ (by omega)];omega
  have d1:t.vint.2=t.mBy:=rfl
  have d2:(t.vint.1.int 16).2=t.mCnt:=rfl
  have d3:((t.vint.1.int 16).1.int 1099511627775).2=t.mOn:=rfl
  have d4:((t.vint.1.int 16).1.int 1099511627775).1=t.m3:=rfl
  refine (mp ?_).1
  refine Aa.r1 (AP t 0) rfl (mp ?_).1
  refine Aa.u1 (B3 t 0 h1.ok h1.bys) rfl (mp ?_).1
  refine Aa.u1 (A4 t.vint.1 16 0 (by decide) h1.vint.1.ok h1.vint.1.bys) rfl (mq e1 ?_).1
  refine Aa.u1 (A4 (t.vint.1.int 16).1 1099511627775 0 (by decide) b2.ok b2.bys) rfl ?_;simp only[go_sem,seval,d1,d2,d3,d4,e2];refine (mok ?_).1
  by_cases hby:4611686018427387904≤t.mBy
  ·have q:decide (4611686018427387904≤t.mBy)=true:=by simpa using hby
   have hno:¬(t.mark p).fits p.fin p.at_:=by
    rintro⟨f1,f2,f3,f4,f5,f6⟩
    simp only[RS.mark]at f1 f4
    omega
   obtain⟨o1,o2⟩:=hnot hno
   have hb:=FL (F:=Dq) (s:=t) hlt o2
   rw[h6,o1]at hb
   rw[o1]at o2
   refine (mq q ?_).1
   refine Aa.u1 (Ar t.m3 3 t.at_ 0) rfl (mp ?_).1
   refine Aa.r1 (Ak _ 0) rfl (mq (Ay o2) ?_).1
   (refine AF.nilk 2 3 rfl ?_;simp only[List.set_cons_zero,List.set_cons_succ])
   exact FF b71 [0] hb @L5
  ·have q:decide (4611686018427387904≤t.mBy)=false:=by simpa using hby
   have e3:IntKind.u64.wrap (p.fin+t.mBy)=p.fin+t.mBy:=IntWalk.u64_in _ (by omega)
   have hok:(t.mark p).ok:=⟨by simp only[RS.mark];omega,by simp only[RS.mark];omega,by simp only[RS.mark];omega,by simp only[RS.mark];omega,by simp only[RS.mark];omega,by simp only[RS.mark];omega⟩
   refine (mr q e3 ?_).1
   refine Aa.p (Nh (t.mark p) p.fin p.at_ hok) ?_
   by_cases hf:(t.mark p).fits p.fin p.at_
   ·have q2:decide ((t.mark p).fits p.fin p.at_)=true:=by simpa using hf
    have hff:=hfit hf
    refine (mq q2 ?_).1
    refine Aa.r1 (Ak t.m3 0) rfl ?_
    by_cases hc:t.m3.code=0
    ·have hnx:=hnxF hlt (by rw[hff];exact hc)
     rw[hff]at hnx
     have hl2:=hnx.len
     rw[List.length_append,List.length_singleton,hi2]at hl2
     have em:[AV.agg [uA (p.fin+t.mBy),iA t.mCnt,iA (p.at_+t.mOn+1)]]=[Wb (t.mark p)]:=rfl
     have hff2:=Yn hf w1
     refine (mt (AW hc) em @Ae7 @Ap ?_).1
     (repeat((with_reducible refine And.intro ?_ ?_);(·exact sd)))
     refine Aa.p (C9 (t.mark p) hff2.1 (by omega) (by omega)) (mq ei ?_).1
     exact⟨(t.m3,acc++[t.mark p]),hnx,by simp;omega,Wk.sel [0,1] (by simp) rfl (by simp) rfl (by simp[Ao,AK,AT]) (by simp[Cq,AT,EJ,RS.mark])⟩
    ·have hb:=FL (F:=Dq) (s:=t) (acc:=acc) hlt (by rw[hff];exact hc)
     rw[h6,hff]at hb
     refine (mq (Ay hc) ?_).1
     (refine AF.nilk 2 3 rfl ?_;simp only[List.set_cons_zero,List.set_cons_succ])
     exact FF b71 [0] hb @L5
   ·have q2:decide ((t.mark p).fits p.fin p.at_)=false:=by simpa using hf
    obtain⟨o1,o2⟩:=hnot hf
    have hb:=FL (F:=Dq) (s:=t) hlt o2
    rw[h6,o1]at hb
    rw[o1]at o2
    refine (mq q2 ?_).1
    refine Aa.u1 (Ar t.m3 3 t.at_ 0) rfl (mp ?_).1
    refine Aa.r1 (Ak _ 0) rfl (mq (Ay o2) ?_).1
    (refine AF.nilk 2 3 rfl ?_;simp only[List.set_cons_zero,List.set_cons_succ])
    exact FF b71 [0] hb @L5
 ·have hge:N≤acc.length:=by simpa using h
  have hb:=M3 (F:=Dq) (s:=t) hge
  rw[h6]at hb
  refine (mp ?_).1
  (refine AF.untag 2 rfl ?_;simp only[Au,List.set_cons_zero,List.set_cons_succ])
  exact FF b71 [0] hb @L5
theorem Jm (s:RS) (i:Nat) (hs:Av s) (hn:s.l.length*24≤140737488355328):Ct Tryz.prog 71 [.ref i 0] [(i,A7 s)] (λ_=>Fv s.marks.2) [(i,A7 (s.marks.1))] (λ_=>[]):=Ct.u1 (TK s hs hn) i cl (λρ=>Ao ρ _) (λρ=>Ao ρ _) (rdr_dead _) cl
theorem Nj (l:List Mk) (hl:U_ l) (hn:l.length≤140737488355328):An Tryz.prog 150 [Fv l] [] (iA (if AZ l=true then DK l l.length else 0)) []:=by
 refine RM Tryz.func150 Apn ?_
 refine Aa.p (E1 l hl hn) ?_
 cases hf:AZ l
 ·refine (mq hf ?_).1
  exact FE Apn [] hf
 ·have h16:=(Bc.1 hf).2
  refine (mr hf @Ap ?_).1
  refine AM (α:=Nat) (λk=>[.any,.any,.any,iA (DK l k),.any,.any,.any,.any,.any,Fv l,iA l.length,iA k,.any,.any,.any,.any,.any,.any,.any,.any,.any]) (λ_=>[]) (λk=>k≤l.length) (λk=>l.length-k) 0 (by simp) (Wk.to (by simp) (by simp[Ca,DK])) ?_
  intro k hk
  refine (mp ?_).1
  refine Ax (λh=>?_) (λh=>?_)
  ·have hlt:k<l.length:=by simpa using h
   have g:=G_ l k hlt
   have ei:=AJ k (by omega)
   have hc:=Uz hf k hk
   have hx:=Fy hf hlt
   have es:IntKind.i64.wrap (DK l k+(l.getD k Cr).cnt)=DK l (k+1):=by rw[IntWalk.i64_in _ (by omega)];rfl
   refine (mt g @Ap es ei ?_).1
   (repeat((with_reducible refine And.intro ?_ ?_);(·exact sd)))
   exact⟨k+1,hlt,by omega,Wk.sel [] (by simp) rfl (by simp) rfl (by simp) (by simp[Cq,AT])⟩
  ·have ek:k=l.length:=by simp at h;omega
   refine (mp ?_).1
   exact FF Apn [] hf ek
theorem Gf (l:List Mk) (hl:U_ l) (hn:l.length≤140737488355328):Ct Tryz.prog 150 [Fv l] [] (λ_=>iA (if AZ l=true then DK l l.length else 0)) [] (λ_=>[]):=(Nj l hl hn).toCt cl cl
def HA (l:List Mk):Int×Int:=if l.length=0∨AZ l=false then(0,0)else((l.getD 0 Cr).pos,(l.getD (l.length-1) Cr).fin)
theorem TM (l:List Mk) (hl:U_ l) (hn:l.length≤140737488355328):An Tryz.prog 149 [Fv l] [] (.tup [uA (HA l).1,uA (HA l).2]) []:=by
 refine RN Tryz.func149 Al6 ?_;refine (mq @Ap ?_).1
 by_cases hz:l.length=0
 ·have q:((l.length:Int)==0)=true:=by simp only[beq_iff_eq];omega
  have he:HA l=(0,0):=by unfold HA;rw[if_pos (.inl hz)]
  refine (mq q ?_).1
  exact FE Al6 [] he
 ·have q:((l.length:Int)==0)=false:=by simp only[beq_eq_false_iff_ne,ne_eq];omega
  refine (mq q ?_).1
  refine Aa.p (E1 l hl hn) ?_
  cases hf:AZ l
  ·have he:HA l=(0,0):=by unfold HA;rw[if_pos (.inr hf)]
   refine (mq hf ?_).1
   exact FE Al6 [] he
  ·have he:HA l=((l.getD 0 Cr).pos,(l.getD (l.length-1) Cr).fin):=by unfold HA;rw[if_neg (by rintro(h|h);exact hz h;rw[hf]at h;cases h)]
   have g0:=JZ l 0 (by omega)
   have g1:=G_ l (l.length-1) (by omega)
   have ej:IntKind.i64.wrap ((l.length:Int)-1)=((l.length-1:Nat):Int):=by rw[IntWalk.i64_in _ (by omega)];omega
   have hx:=Fy hf (k:=l.length-1) (by omega)
   simp only[go_sem,seval,hf,g0,Ap,ej,g1];refine (mok ?_).1
   (repeat((with_reducible refine And.intro ?_ ?_);(·exact sd)))
   refine Aa.p (C9 (l.getD (l.length-1) Cr) (by omega) (by omega) (by omega)) (mp ?_).1
   exact FE Al6 [] he
theorem Jn (l:List Mk) (hl:U_ l) (hn:l.length≤140737488355328):Ct Tryz.prog 149 [Fv l] [] (λ_=>.tup [uA (HA l).1,uA (HA l).2]) [] (λ_=>[]):=(TM l hl hn).toCt cl cl
def H4 (l:List Mk) (pos:Int):Mk×Bool:=if AZ l=true∧EL (C0 pos) l<l.length then(l.getD (EL (C0 pos) l) Cr,true)else(Cr,false)
set_option maxRecDepth 100000 in
theorem TL (l:List Mk) (pos:Int) (hl:U_ l) (hn:l.length≤140737488355328):An Tryz.prog 32 [Fv l,uA pos] [] (.tup [Wb (H4 l pos).1,bA (H4 l pos).2]) []:=by
 refine RM Tryz.func32 b32 ?_
 cases hf:AZ l
 ·have he:H4 l pos=(Cr,false):=by unfold H4;rw[hf];simp
  refine Ady ?_
  refine (mq @Ap ?_).1
  refine Aa.p (E1 l hl hn) (mq hf ?_).1
  (refine FB b32 [] ?_ ?_<;>first|with_reducible rfl|(simp[Ae,Ah,Ai,Ag,he,Cr];done)|rfl)
 ·have h16:=(Bc.1 hf).2
  refine Sv (α:=Nat×Nat) 0 (by rfl) (λa=>[Fv l,uA pos,.any,.any,.ref 0 0,.any,iA a.1,iA a.2,.any,.any,.any,.any,.any,.any,.any,.any,.any,.any,.any,.any,.any,.any,.any,.any,.any,.any,.any,.any,.any,.any,.any,.any,.any,.any,.any,.any,.any,.any,.any,.any,.any,.any]) (λ_=>[.cells [uA 0,iA 0,iA 0]])
   (λa=>a.1≤a.2∧a.2≤l.length∧(∀i,i<a.1->(l.getD i Cr).fin≤pos)∧∀i,a.2≤i->i<l.length->pos<(l.getD i Cr).pos) (λa=>a.2-a.1) (λpass=>?_) ?_
  ·refine (mq @Ap ?_).1
   refine Aa.p (E1 l hl hn) (mq hf ?_).1
   exact QK (Wk.to (by simp) (by simp[Ca])) (pass (0,l.length) ⟨by simp,by simp,by intro i hi;simp at hi,by intro i hi h;simp at hi;omega⟩)
  ·rintro⟨lo,hi⟩ ⟨h1,h2,h3,h4⟩
   simp only at h1 h2 h3 h4
   refine (mp ?_).1
   by_cases he:lo=hi
   ·have q:((lo:Int)==hi)=true:=by simp;omega
    have hnone:EL (C0 pos) l=l.length:=by
     refine Aax λi hil=>?_
     cases hh:C0 pos (l.getD i Cr)with
     |false=>rfl
     |true=>
      have:=ES.1 hh
      rcases Nat.lt_or_ge i lo with h5|h5
      ·have:=h3 i h5;omega
      ·have:=h4 i (by omega) hil;omega
    have hfm:H4 l pos=(Cr,false):=by unfold H4;rw[hnone];simp
    refine (mq q ?_).1
    (refine FB b32 [] ?_ ?_<;>first|with_reducible rfl|(simp[Ae,Ah,Ai,Ag,hfm,Cr];done)|rfl)
   ·have q:((lo:Int)==hi)=false:=by simp;omega
    have e1:IntKind.i64.wrap ((lo:Int)+hi)=lo+hi:=IntWalk.i64_in _ (by omega)
    have e2:IntKind.i64.wrap (((lo:Int)+hi).tdiv 2)=(((lo+hi)/2:Nat):Int):=by
     rw[Int.tdiv_eq_ediv_of_nonneg (by omega),IntWalk.i64_in _ (by omega)];omega
    obtain⟨m,hm⟩:∃m,(lo+hi)/2=m:=⟨_,rfl⟩
    rw[hm]at e2
    have hml:m<l.length:=by omega
    have g:=G_ l m hml
    have hx:=Fy hf hml
    obtain⟨x,hxe⟩:∃x,l.getD m Cr=x:=⟨_,rfl⟩
    rw[hxe]at g hx
    have ei:IntKind.i64.wrap ((m:Int)+1)=((m+1:Nat):Int):=AJ m (by omega)
    by_cases c1:pos<x.pos
    ·have r1:decide (pos<x.pos)=true:=by simpa using c1
     simp only[go_sem,seval,q,e1,e2,g,Ap,r1];refine (mok ?_).1
     (repeat((with_reducible refine And.intro ?_ ?_);(·exact sd)))
     refine⟨(lo,m),⟨by simp only;omega,by simp only;omega,h3,λi hmi hil=>?_⟩,by simp only;omega,Wk.sel [0] (by simp) rfl (by simp) rfl (by simp[AT]) (by simp[Cq,AT,AK])⟩
     rcases Nat.lt_or_ge m i with h5|h5
     ·have h6:=JR hf h5 hil
      rw[hxe]at h6
      unfold Mk.fin at h6
      omega
     ·obtain rfl:i=m:=by simp only at hmi;omega
      rw[hxe];exact c1
    ·have r1:decide (pos<x.pos)=false:=by simpa using c1
     by_cases c2:x.fin≤pos
     ·have r2:decide (x.fin≤pos)=true:=by simpa using c2
      simp only[go_sem,seval,q,e1,e2,g,Ap,r1];refine (mok ?_).1
      (repeat((with_reducible refine And.intro ?_ ?_);(·exact sd)))
      refine Aa.p (C9 x (by omega) (by omega) (by omega)) (mr r2 ei ?_).1
      refine⟨(m+1,hi),⟨by simp only;omega,h2,λi hmi=>?_,h4⟩,by simp only;omega,Wk.sel [0] (by simp) rfl (by simp) rfl (by simp[AT]) (by simp[Cq,AT,AK])⟩
      rcases Nat.lt_or_ge i m with h5|h5
      ·have h6:=JR hf h5 hml
       rw[hxe]at h6
       unfold Mk.fin at c2
       omega
      ·obtain rfl:i=m:=by simp only at hmi;omega
       rw[hxe];exact c2
     ·have r2:decide (x.fin≤pos)=false:=by simpa using c2
      have hyes:C0 pos (l.getD m Cr)=true:=ES.2 (by rw[hxe];omega)
      have hk2:EL (C0 pos) l=m:=Akr hml hyes λi hi=>by
       cases hh:C0 pos (l.getD i Cr)with
       |false=>rfl
       |true=>have:=Yf hf (by omega) hml hh hyes;omega
      have hfm:H4 l pos=(x,true):=by unfold H4;rw[hk2,if_pos ⟨hf,hml⟩,hxe]
      simp only[go_sem,seval,q,e1,e2,g,Ap,r1];refine (mok ?_).1
      (repeat((with_reducible refine And.intro ?_ ?_);(·exact sd)))
      refine Aa.p (C9 x (by omega) (by omega) (by omega)) (mq r2 ?_).1
      exact FE b32 [] hfm
theorem WG (l:List Mk) (pos:Int) (hl:U_ l) (hn:l.length≤140737488355328):Ct Tryz.prog 32 [Fv l,uA pos] [] (λ_=>.tup [Wb (H4 l pos).1,bA (H4 l pos).2]) [] (λ_=>[]):=(TL l pos hl hn).toCt cl cl
def prs (l:List (Int×Int)):List AV:=l.map λp=>.agg [uA p.1,uA p.2]
@[simp] theorem Ath (ρ:Nat->Nat) (l:List (Int×Int)):(prs l).map (λx=>x.ren ρ)=prs l:=by simp[prs,AT]
theorem Ag5 (l:List Bt) (h:l.length≠0):(R7 l).getD (l.length-1) .any=Ie (B5 l):=Km l (l.length-1) (by omega)
theorem Xw {l:List Bt} (h:l.length≠0):B5 l∈l:=by
 have e:B5 l=l[l.length-1]'(by omega):=by unfold B5;simp[show l.length-1<l.length by omega]
 rw[e];exact List.getElem_mem _
theorem Afv (ep:Int) (bs:List Bt) (b:Bt) (hb:Me b) (hbs:∀x∈bs,Me x) (hn:bs.length≤1000000):An Tryz.prog 106 [JP ⟨ep,bs⟩,Ie b] [] (bA (EM ep bs b)) []:=by
 refine RN Tryz.func106 Ahm ?_;refine (mq @AG ?_).1
 by_cases h1:b.ep≤ep
 ·have c1:decide (ep<b.ep)=false:=by simp;omega
  refine (mq c1 ?_).1
  by_cases h0:bs.length=0
  ·have c2:((bs.length:Int)==0)=true:=by simp only[beq_iff_eq];omega
   have e:EM ep bs b=true:=by unfold EM;simp[h1,h0]
   refine (mr @AG c2 ?_).1
   exact FE Ahm [] e
  ·have c2:((bs.length:Int)==0)=false:=by simp only[beq_eq_false_iff_ne,ne_eq];omega
   have hl:=hbs (B5 bs) (Xw h0)
   have ei:IntKind.i64.wrap ((bs.length:Int)-1)=((bs.length-1:Nat):Int):=by rw[IntWalk.i64_in _ (by omega)];omega
   have g:=Ag5 bs h0
   have e:EM ep bs b=(decide ((B5 bs).ep≤b.ep)&&decide ((B5 bs).base+(B5 bs).en.length≤b.base)):=by unfold EM;simp[h1,h0]
   have hbb:=hl.ok.b0
   have hss:=hl.sum
   have hle:=hl.len
   simp only[go_sem,seval,AG,c2,ei,Int.toNat_natCast,g,KU];refine (mok ?_).1
   refine⟨by omega,by omega,?_⟩
   by_cases hep:(B5 bs).ep≤b.ep
   ·have c3:decide ((B5 bs).ep≤b.ep)=true:=by simpa using hep
    rw[c3]at e
    simp only[go_sem,seval,c3,ei,AG,Int.toNat_natCast,g,KU];refine (mok ?_).1
    refine⟨by omega,by omega,?_⟩
    refine Aa.p (KY (B5 bs) (by omega) hbb (by omega)) (mp ?_).1
    exact FE Ahm [] e
   ·have c3:decide ((B5 bs).ep≤b.ep)=false:=by simpa using hep
    rw[c3]at e
    simp only[go_sem,seval,c3];refine (mok ?_).1
    exact FE Ahm [] e
 ·have c1:decide (ep<b.ep)=true:=by simp;omega
  have e:EM ep bs b=false:=by unfold EM;rw[decide_eq_false h1];rfl
  refine (mq c1 ?_).1
  exact FE Ahm [] e
theorem Hw (ep:Int) (bs:List Bt) (b:Bt) (hb:Me b) (hbs:∀x∈bs,Me x) (hn:bs.length≤1000000):Ct Tryz.prog 106 [JP ⟨ep,bs⟩,Ie b] [] (λ_=>bA (EM ep bs b)) [] (λ_=>[]):=(Afv ep bs b hb hbs hn).toCt cl cl
theorem Aks (ep:Int) (l:List Mk) (a n:Int) (hl:U_ l) (hn:l.length≤1000000):An Tryz.prog 111 [uA ep,Fv l,iA a,iA n] [] (U9 (GJ ep l a n)) []:=by
 refine RN Tryz.func111 Atb ?_;refine (mq @Ap ?_).1
 refine Aa.p (Gf l hl (by omega)) (mp ?_).1
 refine Aa.p (Jn l hl (by omega)) (mp ?_).1
 (refine FB Atb [] ?_ ?_<;>first|with_reducible rfl|(simp[Ae,Ah,Ai,Ag,GJ,Ed,HA];done)|rfl)
theorem HP (ep:Int) (l:List Mk) (a n:Int) (hl:U_ l) (hn:l.length≤1000000):Ct Tryz.prog 111 [uA ep,Fv l,iA a,iA n] [] (λ_=>U9 (GJ ep l a n)) [] (λ_=>[]):=(Aks ep l a n hl hn).toCt cl cl
abbrev sgO (S:SD) (r j k:Nat):Ad:=.cells [.ref r 0,uA S.ep,.sl (.row j) 3 (R7 S.bt),.sl (.row k) 3 (HG S.ms),bA S.w,iA S.fst]
abbrev LM (S:SD) (r j k:Nat):List Ad:=[sgO S r j k,A7 S.r,.row 3 S.bt.length,.row 3 S.ms.length]
theorem Aei (S:SD) (hS:Av S.r) (hn:S.r.l.length≤1000000):An Tryz.prog 155 [.ref 0 0] (LM S 1 2 3) (.tup [A9 .u8 S.pay.2.1,iA S.pay.2.2]) (LM S.pay.1 1 2 3):=by
 obtain⟨k1,k2⟩:=CL hS 2097152
 obtain⟨b1,b2⟩:=KO hS 2097152
 have a0:=k1.at0
 have a1:=k1.at1
 rw[k2]at a1
 have e1:IntKind.i64.wrap ((S.r.frame 2097152).1.at_-4)=(S.r.frame 2097152).1.at_-4:=IntWalk.i64_in _ (by omega)
 have e2:IntKind.i64.wrap ((S.r.frame 2097152).1.at_-4-((S.r.frame 2097152).2.length:Int))=(S.r.frame 2097152).1.at_-4-(S.r.frame 2097152).2.length:=IntWalk.i64_in _ (by omega)
 refine RM Tryz.func155 As1 ?_
 refine Aa.r1 (AP S.r 1) rfl ?_
 refine (mp ?_).1
 refine Aa.u1 (Np S.r 2097152 1 hS (by decide)) rfl (mp ?_).1
 refine Aa.r1 (AP (S.r.frame 2097152).1 1) rfl ?_
 refine (ms e1 @Ab e2 ?_).1
 (refine FB As1 [0,1,2,3] ?_ ?_<;>first|with_reducible rfl|(simp[Ae,Ah,Ai,Ag,SD.pay,AK];done)|rfl)
theorem Mw (S:SD) (hS:Av S.r) (hn:S.r.l.length≤1000000) (i r j k:Nat) (hd:[i,r,j,k].Nodup):Ct Tryz.prog 155 [.ref i 0] ([i,r,j,k].zip (LM S r j k)) (λ_=>.tup [A9 .u8 S.pay.2.1,iA S.pay.2.2]) ([i,r,j,k].zip (LM S.pay.1 r j k)) (λ_=>[]):=
 Ct.us (Aei S hS hn) [i,r,j,k] hd rfl rfl (by simp[A7]) (λN=>by simp[AK]) (λN=>by simp[AK,Ao,Em]) (λN=>by simp[AK,Ao,Em]) (λN=>by simp[AN])
theorem Aic (S:SD) (f:Int×Int) (a:Int) (hf: -1000000000≤f.2+a∧f.2+a≤1000000000):An Tryz.prog 158 [.ref 0 0,B9 f,iA a] (LM S 1 2 3) (.tup []) (LM {S with r:=S.r.wth f a} 1 2 3):=by
 have es:IntKind.i64.wrap (f.2+a)=f.2+a:=IntWalk.i64_in _ (by omega)
 refine RM Tryz.func158 Apl ?_
 refine Aa.p (Bi f.1 f.2 a _ es) (mp ?_).1
 by_cases hc:f.1=0
 ·have e1:BW f.1 (f.2+a)=(0,0):=by unfold BW;rw[if_pos hc]
  have e2:S.r.wth f a=S.r:=by unfold RS.wth;rw[if_pos hc]
  refine (mq e1 ?_).1
  refine Aa.p (Aw 0 0) (mp ?_).1
  (refine FB Apl [0,1,2,3] ?_ ?_<;>first|with_reducible rfl|(simp[Ae,Ah,Ai,Ag,e2,AK];done)|rfl)
 ·have e1:BW f.1 (f.2+a)=(f.1,f.2+a):=by unfold BW;rw[if_neg hc]
  have e2:S.r.wth f a=S.r.fail f.1 (f.2+a):=by unfold RS.wth;rw[if_neg hc]
  have e3:(f.1==0)=false:=by simpa using hc
  refine (mq e1 ?_).1
  refine Aa.p (Aw f.1 (f.2+a)) (mq e3 ?_).1
  refine Aa.u1 (Ar S.r f.1 (f.2+a) 1) rfl (mp ?_).1
  (refine FB Apl [0,1,2,3] ?_ ?_<;>first|with_reducible rfl|(simp[Ae,Ah,Ai,Ag,e2,AK];done)|rfl)
theorem Io (S:SD) (f:Int×Int) (a:Int) (hf: -1000000000≤f.2+a∧f.2+a≤1000000000) (i r j k:Nat) (hd:[i,r,j,k].Nodup):Ct Tryz.prog 158 [.ref i 0,B9 f,iA a] ([i,r,j,k].zip (LM S r j k)) (λ_=>.tup []) ([i,r,j,k].zip (LM {S with r:=S.r.wth f a} r j k)) (λ_=>[]):=
 Ct.us (Aic S f a hf) [i,r,j,k] hd rfl rfl (by simp[A7]) (λN=>by simp[AK]) (λN=>by simp[AK,Ao,Em]) (λN=>by simp[AK,Ao,Em]) (λN=>by simp)
theorem F0 (l:List Mk) (m:Mk):HG (l++[m])=HG l++[Wb m]:=by simp[HG]
theorem IJ (l:List Bt) (b:Bt):R7 (l++[b])=R7 l++[Ie b]:=by simp[R7]
structure RdC (F:FuncId) (rd:PY):Prop where
 ok:Acn rd
 ct:∀(q:RS) (i:Nat),Av q->q.l.length≤1000000->Ct Tryz.prog F [.ref i 0] [(i,A7 q)] (λ_=>.tup [Ie (rd q).2.1,bA (rd q).2.2]) [(i,A7 (rd q).1)] (λ_=>[])
set_option maxRecDepth 100000 in
theorem Vw (L:List Int) (F:FuncId) (rd:PY) (hR:RdC F rd) (S:SD) (q:RS) (a:Int) (hS:L0 L S) (hc:S.r.code=0) (hq:Av q) (hf:Fa q) (hn:q.l.length≤1000000) (ha:0≤a∧a≤1000000):
 An Tryz.prog 156 [.ref 0 0,.ref 4 0,iA a,.fn F [] []] (LM S 1 2 3++[A7 q]) (.tup []) (LM (S.bat rd q a) 1 2 3++[A7 (rd q).1.rest9]):=by
 obtain⟨k1,k2⟩:=hR.ok.keep q hq
 have hfa:=(hR.ok.fa q hq hf).rest9 k1
 have hB:=hR.ok.S q hq
 obtain⟨r1,r2⟩:=CZ k1
 unfold Fa at hfa
 rw[r2,k2]at hfa
 obtain⟨D,hD⟩:∃D,rd q=D:=⟨_,rfl⟩
 have hct:=hR.ct q 4 hq hn
 rw[hD]at k1 hfa hB hct
 obtain⟨w,hw⟩:∃w,S.r.wth (D.1.rest9.code,D.1.rest9.fat) a=w:=⟨_,rfl⟩
 have ebat:S.bat rd q a=if w.code=0 then{S with r:=S.batR D a,bt:=S.bt++[D.2.1],ms:=S.ms++[⟨D.2.1.base,D.2.1.en.length,S.fst⟩],w:=S.w&&D.2.2}else{S with r:=w}:=by unfold SD.bat;rw[hD,hw]
 have ebatR:S.batR D a=if w.code=0 then(if S.bt.length=16 then w.fail 2 S.fst else if EM S.ep S.bt D.2.1=false then w.fail 13 S.fst else w)else w:=by unfold SD.batR;rw[hw]
 have hwi:=Io S (D.1.rest9.code,D.1.rest9.fat) a (by simp only[];omega) 0 1 2 3 (by decide)
 rw[hw]at hwi
 have hml:=hS.ml
 have hnn:=hS.nn hc
 have hle:=hB.len
 have hb0:=hB.ok.b0
 have hss:=hB.sum
 rw[hD]
 refine RM Tryz.func156 UU ?_
 refine Aa.u1 (hct) rfl (mp ?_).1
 refine Aa.u1 (BL D.1 4 k1) rfl (mp ?_).1
 refine Aa.r1 (A3 D.1.rest9 4) rfl ?_
 refine (mp ?_).1
 refine Aa.us hwi rfl rfl ?_
 refine (mp ?_).1
 refine Aa.r1 (Ak w 1) rfl ?_
 by_cases hz:w.code=0
 ·rw[if_pos hz]at ebat ebatR
  refine (mr (AW hz) @AG ?_).1
  by_cases h16:S.bt.length=16
  ·rw[if_pos h16]at ebatR
   have c1:((S.bt.length:Int)==16)=true:=by simp only[beq_iff_eq];omega
   refine (mq c1 ?_).1
   refine Aa.u1 (Ar w 2 S.fst 1) rfl (mp ?_).1
   cases hsw:S.w with
   |true=>
    refine (mt hsw @AA @Ap @AG ?_).1
    (repeat((with_reducible refine And.intro ?_ ?_);(·first|exact sd|(simp[Ab,A8,AV.parts,Ap,AG];done)|(simp[Ab,A8,AV.parts,Ap,AG];omega))))
    (refine FB UU [0,1,2,3,4] ?_ ?_<;>first|with_reducible rfl|(simp[Ae,Ah,Ai,Ag,ebat,ebatR,hsw,F0,IJ,Ap,AG,AA,AK];done)|rfl)
   |false=>
    refine (mt hsw @AA @Ap @AG ?_).1
    (repeat((with_reducible refine And.intro ?_ ?_);(·first|exact sd|(simp[Ab,A8,AV.parts,Ap,AG];done)|(simp[Ab,A8,AV.parts,Ap,AG];omega))))
    (refine FB UU [0,1,2,3,4] ?_ ?_<;>first|with_reducible rfl|(simp[Ae,Ah,Ai,Ag,ebat,ebatR,hsw,F0,IJ,Ap,AG,AA,AK];done)|rfl)
  ·rw[if_neg h16]at ebatR
   have c1:((S.bt.length:Int)==16)=false:=by simp only[beq_eq_false_iff_ne,ne_eq];omega
   refine (mq c1 ?_).1
   refine Aa.p (Hw S.ep S.bt D.2.1 hB hS.bt (by omega)) (mp ?_).1
   cases hfo:EM S.ep S.bt D.2.1 with
   |false=>
    rw[hfo,if_pos rfl]at ebatR
    refine (mp ?_).1
    refine Aa.u1 (Ar w 13 S.fst 1) rfl (mp ?_).1
    cases hsw:S.w with
    |true=>
     refine (mt hsw @AA @Ap @AG ?_).1
     (repeat((with_reducible refine And.intro ?_ ?_);(·first|exact sd|(simp[Ab,A8,AV.parts,Ap,AG];done)|(simp[Ab,A8,AV.parts,Ap,AG];omega))))
     (refine FB UU [0,1,2,3,4] ?_ ?_<;>first|with_reducible rfl|(simp[Ae,Ah,Ai,Ag,ebat,ebatR,hsw,F0,IJ,Ap,AG,AA,AK];done)|rfl)
    |false=>
     refine (mt hsw @AA @Ap @AG ?_).1
     (repeat((with_reducible refine And.intro ?_ ?_);(·first|exact sd|(simp[Ab,A8,AV.parts,Ap,AG];done)|(simp[Ab,A8,AV.parts,Ap,AG];omega))))
     (refine FB UU [0,1,2,3,4] ?_ ?_<;>first|with_reducible rfl|(simp[Ae,Ah,Ai,Ag,ebat,ebatR,hsw,F0,IJ,Ap,AG,AA,AK];done)|rfl)
   |true=>
    rw[hfo,if_neg (by simp)]at ebatR
    refine (mp ?_).1
    cases hsw:S.w with
    |true=>
     refine (mt hsw @AA @Ap @AG ?_).1
     (repeat((with_reducible refine And.intro ?_ ?_);(·first|exact sd|(simp[Ab,A8,AV.parts,Ap,AG];done)|(simp[Ab,A8,AV.parts,Ap,AG];omega))))
     (refine FB UU [0,1,2,3,4] ?_ ?_<;>first|with_reducible rfl|(simp[Ae,Ah,Ai,Ag,ebat,ebatR,hsw,F0,IJ,Ap,AG,AA,AK];done)|rfl)
    |false=>
     refine (mt hsw @AA @Ap @AG ?_).1
     (repeat((with_reducible refine And.intro ?_ ?_);(·first|exact sd|(simp[Ab,A8,AV.parts,Ap,AG];done)|(simp[Ab,A8,AV.parts,Ap,AG];omega))))
     (refine FB UU [0,1,2,3,4] ?_ ?_<;>first|with_reducible rfl|(simp[Ae,Ah,Ai,Ag,ebat,ebatR,hsw,F0,IJ,Ap,AG,AA,AK];done)|rfl)
 ·rw[if_neg hz]at ebat
  refine (mq (Ay hz) ?_).1
  (refine FB UU [0,1,2,3,4] ?_ ?_<;>first|with_reducible rfl|(simp[Ae,Ah,Ai,Ag,ebat,AK];done)|rfl)
theorem L7 {s:RS} (h:Av s):Av s.marks.1∧s.marks.1.l=s.l:=DF DR h 16
theorem Vu (L:List Int) (S:SD) (q:RS) (a:Int) (hS:L0 L S) (hc:S.r.code=0) (hq:Av q) (hf:Fa q) (hn:q.l.length≤1000000) (ha:0≤a∧a≤1000000):
 An Tryz.prog 157 [.ref 0 0,.ref 4 0,iA a] (LM S 1 2 3++[A7 q]) (.tup []) (LM (S.idx q a) 1 2 3++[A7 q.marks.1.rest9]):=by
 obtain⟨k1,k2⟩:=L7 hq
 have hfa:=(hf.marks hq).rest9 k1
 obtain⟨r1,r2⟩:=CZ k1
 unfold Fa at hfa
 rw[r2,k2]at hfa
 obtain⟨D,hD⟩:∃D,q.marks=D:=⟨_,rfl⟩
 rw[hD]at k1 hfa
 obtain⟨w,hw⟩:∃w,S.r.wth (D.1.rest9.code,D.1.rest9.fat) a=w:=⟨_,rfl⟩
 have eidx:S.idx q a={S with r:=if w.code=0∧¬D.2=S.ms then w.fail 12 S.fst else w}:=by unfold SD.idx SD.idxR;rw[hD,hw]
 have hwi:=Io S (D.1.rest9.code,D.1.rest9.fat) a (by simp only[];omega) 0 1 2 3 (by decide)
 rw[hw]at hwi
 have hlen:D.2.length≤140737488355328:=by
  have:=Ux DR hq 16
  have e:Dq.counted 16 q=D:=hD
  rw[e]at this;omega
 rw[hD]
 refine RM Tryz.func157 Al5 ?_
 refine Aa.u1 (Jm q 4 hq (by omega)) rfl (mq hD ?_).1
 refine Aa.u1 (BL D.1 4 k1) rfl (mp ?_).1
 refine Aa.r1 (A3 D.1.rest9 4) rfl ?_
 refine (mp ?_).1
 refine Aa.us hwi rfl rfl ?_
 refine (mp ?_).1
 refine Aa.r1 (Ak w 1) rfl ?_
 by_cases hz:w.code=0
 ·refine (mq (AW hz) ?_).1
  refine Aa.p (Ni D.2 S.ms hlen) (mp ?_).1
  by_cases he:D.2=S.ms
  ·have c1:Ez D.2 S.ms=true:=by simp[Ez,he]
   refine (mq c1 ?_).1
   (refine FB Al5 [0,1,2,3,4] ?_ ?_<;>first|with_reducible rfl|(simp[Ae,Ah,Ai,Ag,eidx,he,AK];done)|rfl)
  ·have c1:Ez D.2 S.ms=false:=by simp[Ez,he]
   refine (mq c1 ?_).1
   refine Aa.u1 (Ar w 12 S.fst 1) rfl (mp ?_).1
   (refine FB Al5 [0,1,2,3,4] ?_ ?_<;>first|with_reducible rfl|(simp[Ae,Ah,Ai,Ag,eidx,he,hz,AK];done)|rfl)
 ·refine (mq (Ay hz) ?_).1
  (refine FB Al5 [0,1,2,3,4] ?_ ?_<;>first|with_reducible rfl|(simp[Ae,Ah,Ai,Ag,eidx,hz,AK];done)|rfl)
theorem Zq (L:List Int) (F:FuncId) (rd:PY) (hR:RdC F rd) (S:SD) (q:RS) (a:Int) (hS:L0 L S) (hc:S.r.code=0) (hq:Av q) (hf:Fa q) (hn:q.l.length≤1000000) (ha:0≤a∧a≤1000000) (i r j k p:Nat) (hd:[i,r,j,k,p].Nodup):
 Ct Tryz.prog 156 [.ref i 0,.ref p 0,iA a,.fn F [] []] ([i,r,j,k,p].zip (LM S r j k++[A7 q])) (λ_=>.tup []) ([i,r,j,k,p].zip (LM (S.bat rd q a) r j k++[A7 (rd q).1.rest9])) (λ_=>[]):=
 Ct.us (Vw L F rd hR S q a hS hc hq hf hn ha) [i,r,j,k,p] hd rfl rfl (by simp[A7]) (λN=>by simp[AK]) (λN=>by simp[AK,Ao]) (λN=>by simp[AK,Ao]) (λN=>by simp)
theorem Zp (L:List Int) (S:SD) (q:RS) (a:Int) (hS:L0 L S) (hc:S.r.code=0) (hq:Av q) (hf:Fa q) (hn:q.l.length≤1000000) (ha:0≤a∧a≤1000000) (i r j k p:Nat) (hd:[i,r,j,k,p].Nodup):
 Ct Tryz.prog 157 [.ref i 0,.ref p 0,iA a] ([i,r,j,k,p].zip (LM S r j k++[A7 q])) (λ_=>.tup []) ([i,r,j,k,p].zip (LM (S.idx q a) r j k++[A7 q.marks.1.rest9])) (λ_=>[]):=
 Ct.us (Vu L S q a hS hc hq hf hn ha) [i,r,j,k,p] hd rfl rfl (by simp[A7]) (λN=>by simp[AK]) (λN=>by simp[AK,Ao]) (λN=>by simp[AK,Ao]) (λN=>by simp)
end Go.Proofs.YtileggkdbaejoaaGreat
