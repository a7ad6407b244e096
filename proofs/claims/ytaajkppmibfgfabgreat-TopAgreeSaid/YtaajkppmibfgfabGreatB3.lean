/- Lemmas for TopAgree, part 3. -/
import Derived.Test.YtaajkppmibfgfabGreatB2
import Derived.Test.YtaajkppmibfgfabGreatB0
import Derived.Test.YtaajkppmibfgfabGreatB1
import Derived.Test.YtaajkppmibfgfabGreatRows
set_option linter.all false
set_option maxRecDepth 100000
set_option maxHeartbeats 4000000
universe u v
namespace Go.Proofs.YtaajkppmibfgfabGreat
open Go.RowKit List IntWalk Go.Proofs.Tryz
section
variable {P:Program} {f:FuncId} {args args₀:List AV} {S:List Ad} {K:KT}
def Ct.us {S₀ S₁ R U:List Ad} {r₀ r:AV} (h:Ah P f args₀ S₀ r₀ S₁) (is:List Nat) (hn:is.Nodup) (hl:is.length=S₀.length) (hl':S₁.length=S₀.length) (hal:∀o∈S₀,o≠ .dead)
 (ha:∀N,args₀.map (λx=>x.ren (AH is N))=args) (hR:∀N,S₀.map (λo=>o.ren (AH is N))=R) (hU:∀N,S₁.map (λo=>o.ren (AH is N))=U) (hr:∀N,r₀.ren (AH is N)=r):Ct P f args (is.zip R) (λ_=>r) (is.zip U) (λ_=>[]):=by
 have e0:S₁.length-S₀.length=0:=Om
 refine Ct.mk h is hn hl Om hal (λn N=>?_) (λn N=>?_) (λn N=>?_) (.inl λn N=>?_) (λn N=>?_)
 ·rw[e0];simpa using ha N
 ·rw[e0];simpa using hr N
 ·rw[e0];simp only[range'_zero,append_nil];rw[hR N]
 ·rw[e0];simp only[range'_zero,append_nil];rw[take_of_length_le Om,hU N]
 ·rw[drop_of_length_le Om];rfl
def Ct.usn {S₀ S₁ R U:List Ad} {r₀:AV} {r:Nat->AV} {new:Nat->List Ad} (h:Ah P f args₀ S₀ r₀ S₁) (is:List Nat) (hn:is.Nodup) (hl:is.length=S₀.length) (hSl:S₀.length≤S₁.length) (hal:∀o∈S₀,o≠ .dead)
 (ha:∀n N,args₀.map (λx=>x.ren (AH (is++range' n (S₁.length-S₀.length)) N))=args) (hR:∀n N,S₀.map (λo=>o.ren (AH (is++range' n (S₁.length-S₀.length)) N))=R) (hU:∀n N,(S₁.take S₀.length).map (λo=>o.ren (AH (is++range' n (S₁.length-S₀.length)) N))=U)
 (hr:∀n N,r₀.ren (AH (is++range' n (S₁.length-S₀.length)) N)=r n) (hnew:∀n N,(S₁.drop S₀.length).map (λo=>o.ren (AH (is++range' n (S₁.length-S₀.length)) N))=new n):Ct P f args (is.zip R) r (is.zip U) new:=
 Ct.mk h is hn hl hSl hal ha hr (λn N=>by rw[hR n N]) (.inl λn N=>by rw[hU n N]) hnew
def Aa.us {is:List Nat} {R U:List Ad} {r:Nat->AV} {new:Nat->List Ad} (h:Ct P f (args.map Proofs.YtaajkppmibfgfabGreat.untag) (is.zip R) r (is.zip U) new) (hl:is.length=R.length) (hS:is.map (λi=>S[i]?)=R.map some)
 (hK:K (r S.length) is (is.zip U) (new S.length)):Aa P f args S K:=by
 have hz:(is.zip R).map (·.1)=is:=by rw[map_fst_zip];omega
 refine Aa.of h.untag (λp hp=>?_) (λp hp=>?_) (by rw[hz];exact hK)
 ·obtain⟨j,hj,rfl⟩:=getElem_of_mem hp;simp only[getElem_zip];have hj1:j<is.length:=by simp at hj;omega
  have hj2:j<R.length:=Om
  have:=congrArg (λl:List (Option Ad)=>l[j]?) hS;simp only[getElem?_map,getElem?_eq_getElem hj1,getElem?_eq_getElem hj2,Option.map_some]at this;injection this
 ·rw[hz];exact(of_mem_zip hp).1
end
abbrev chO (b prev:List Int) (m r:Nat):Ad:=.cells [Bd .u8 b,.mapr m,.sl (.row r) 1 (A0 .i64 prev)]
abbrev mpO (l:List (Int×Int)):Ad:=.raw (.imap l) []
def Zy (b:List Int) (hb:b.length≤1000000000000):Ah prog 252 [Bd .u8 b] [] (.ref 0 0) [chO b [] 1 2,mpO [],.row 1 0]:=by
 refine RN func252 Agb ?_;refine (mq @Ab ?_).1
 (repeat with_reducible refine Sa ?_);refine A6.wk (Wk.rowObj 2 2 1 rfl rfl (.inl rfl) (Nat.le_refl _)) (mp ?_).1;refine WO 2 [Bd .u8 b,.mapr 1,.sl (.row 3) 1 (A0 .i64 [])] ?_;exact FA Agb [2,1,3]
def jF (b:List Int) (hb:b.length≤1000000000000):Ct prog 252 [Bd .u8 b] [] (λk=>.ref k 0) [] (λk=>[chO b [] (k+1) (k+2),mpO [],.row 1 0]):=Ct.n (Zy b hb) CN cl cl
abbrev Po (b:List Int) (n m r:Nat):List Ad:=[chO b (GZ b n) m r,mpO (DN b n),.row 1 n]
def T8 (b:List Int) (n:Nat):Ah prog 258 [.ref 0 0] (Po b n 1 2) (iA n) (Po b n 1 2):=by
 have e:=DK b n;refine RN func258 Af8 ?_;refine (mr @Ab e ?_).1
 exact FA Af8 [0,1,2]
def MS (b:List Int) (n:Nat) (i j k:Nat) (hn:[i,j,k].Nodup):Ct prog 258 [.ref i 0] ([i,j,k].zip (Po b n j k)) (λ_=>iA n) ([i,j,k].zip (Po b n j k)) (λ_=>[]):=
 Ct.us (T8 b n) [i,j,k] hn rfl rfl Si (λN=>by simp[AH]) (λN=>by simp[AH,AM]) (λN=>by simp[AH,AM]) (λN=>by simp)
def ZR (b:List Int) (n:Nat) (hb:b.length≤1000000000000) (hn:n<b.length):Ah prog 259 [.ref 0 0] (Po b n 1 2) (bA true) (Po b (n+1) 1 2):=by
 have ep:=DK b n;have e1:decide ((b.length:Int)≤n)=false:=by simp;omega
 have e2:=Aw n Om;refine RM func259 Acw ?_
 refine Aa.us (MS b n 0 1 2 De) rfl rfl (mr @Ab e1 ?_).1;refine Cp (RT b n hb Om) ?_;cases hk:M_ b n with
 |false=>
  have ew:Ii b n=0:=by unfold Ii;rw[hk];rfl
  have el:DN b (n+1)=DN b n:=by simp[DN,hk]
  refine (mp ?_).1;(repeat((with_reducible refine And.intro ?_ ?_);(·first|exact sd|(simp[Ab,A2,AV.parts,ep];done)|(simp[Ab,A2,AV.parts,ep];omega))))
  exact FK Acw [0,1,2] (by simp[el,GZ,ew,ep,El,Ab,AH])
 |true=>
  have er:VN b n=LR b n:=by unfold VN;rw[hk];rfl
  have ew:Ii b n=Gi (DN b n) (LR b n):=by unfold Ii;rw[hk];rfl
  have el:DN b (n+1)=Io (DN b n) (LR b n) (n+1):=by simp[DN,hk]
  refine (mr er e2 ?_).1;(repeat((with_reducible refine And.intro ?_ ?_);(·first|exact sd|(simp[Ab,A2,AV.parts,ep];done)|(simp[Ab,A2,AV.parts,ep];omega))))
  exact FK Acw [0,1,2] (by simp[el,GZ,ew,ep,El,Ab,AH])
def kA (b:List Int) (n:Nat) (hb:b.length≤1000000000000) (hl:n<b.length) (i j k:Nat) (hn:[i,j,k].Nodup):Ct prog 259 [.ref i 0] ([i,j,k].zip (Po b n j k)) (λ_=>bA true) ([i,j,k].zip (Po b (n+1) j k)) (λ_=>[]):=
 Ct.us (ZR b n hb hl) [i,j,k] hn rfl rfl Si (λN=>by simp[AH]) (λN=>by simp[AH,AM]) (λN=>by simp[AH,AM]) (λN=>by simp)
def T9 (b:List Int) (n a:Nat) (hb:b.length≤1000000000000) (h1:n≤a) (h2:a≤b.length):Ah prog 253 [.ref 0 0,iA a] (Po b n 1 2) (iA ((a-n:Nat):Int)) (Po b a 1 2):=by
 refine RM func253 Aga ?_
 refine AA (α:=Nat) (λk=>.ref 0 0::iA a::.any::.any::.any::iA ((k-n:Nat):Int)::Ay (Ay [.any,.any,.any])) (λk=>Po b k 1 2) (λk=>n≤k∧k≤a) (λk=>a-k) n Om (Wk.to Si (by simp[BS])) ?_;intro k hk;refine (mp ?_).1;refine Aa.us (MS b k 0 1 2 De) rfl rfl ?_;by_cases hlt:k<a
 ·have c1:decide ((k:Int)<a)=true:=by simp;omega
  have e2:IntKind.i64.wrap (((k-n:Nat):Int)+1)=((k+1-n:Nat):Int):=by rw[i64_in _ Om];omega
  refine (mq c1 ?_).1;refine Aa.us (kA b k hb Om 0 1 2 De) rfl rfl (mq e2 ?_).1;exact⟨k+1,Om,Om,Wk.sel [0,1,2] Si rfl Si rfl (by simp[AH,AM]) (by simp[BP,AE,AH])⟩
 ·obtain rfl:k=a:=Om
  have c1:decide ((k:Int)<k)=false:=by simp
  refine (mq c1 ?_).1;exact FA Aga [0,1,2]
def Xe (b:List Int) (n a:Nat) (hb:b.length≤1000000000000) (h1:n≤a) (h2:a≤b.length) (i j k:Nat) (hn:[i,j,k].Nodup):Ct prog 253 [.ref i 0,iA a] ([i,j,k].zip (Po b n j k)) (λ_=>iA ((a-n:Nat):Int)) ([i,j,k].zip (Po b a j k)) (λ_=>[]):=
 Ct.us (T9 b n a hb h1 h2) [i,j,k] hn rfl rfl Si (λN=>by simp[AH]) (λN=>by simp[AH,AM]) (λN=>by simp[AH,AM]) (λN=>by simp)
def WM (b:List Int) (at_:Nat):List Int->Int×Int->Bool
 |[],_=>false
 |p::ps,s=>if(at_:Int)+(E1 b at_ s p).2=b.length then true else WM b at_ ps (E1 b at_ s p)
abbrev skO (b:List Int) (t:Nat) (c:Nat):Ad:=.cells [Bd .u8 b,.ref c 0,iA t]
abbrev bS (b:List Int) (a t:Nat) (s:Int×Int) (lp:Ad):List Ad:=
 [skO b t 1,chO b (GZ b a) 2 3,mpO (DN b a),.row 1 a,.cells [.ref 0 0],.cells [iA a],.cells [iA s.1],.cells [iA s.2],.cells [.ref 1 0],.cells [iA a],lp]
def mP (b:List Int) (a k:Nat) (hk:k<a) (hw:(a:Int)-k≤65536):KZ b a (k+1) (k+1)=(k:Int)::KZ b a (Ii b k).toNat (Ii b k).toNat:=by
 have hin:=R2 b k;rw[KZ,if_neg Om,if_pos hk,Vb b a (Ii b k).toNat k (Ii b k).toNat (Nat.le_refl _) Om];rfl
def sJ (b:List Int) (a t0:Nat) (s0:Int×Int) (lpR lpD:Ad) (hb:b.length≤1000000000000) (ha:a≤b.length) (ht:t0+a≤1000000000000000)
 (hY:∀(t:Nat) (s:Int×Int) (p:Int),t<1000000000000000->bQ b a s->0≤p∧p<a∧(a:Int)-p≤65536->∀R,YC prog 10 [iA p] (bS b a t s lpR++R) (bS b a (t+1) (E1 b a s p) (if(a:Int)+(E1 b a s p).2=b.length then lpD else lpR)++R) (decide (¬(a:Int)+(E1 b a s p).2=b.length)))
 (hs0:bQ b a s0):
 Ah prog 260 [.yv 10,.ref 8 0,.ref 9 0] (bS b a t0 s0 lpR) (.tup []) (bS b a (t0+(QF b a (Cd b a) s0).1) (QF b a (Cd b a) s0).2 (if WM b a (Cd b a) s0=true then lpD else lpR)):=by
 have ep:=DK b a;refine RM func260 rD ?_
 refine Cp (RT b a hb ha) ?_;cases hk:M_ b a with
 |false=>
  have epl:Cd b a=[]:=by unfold Cd;rw[hk];rfl
  rw[epl];refine (mp ?_).1;exact A6.res rD.all.2.1 rfl
 |true=>
  have er:VN b a=LR b a:=by unfold VN;rw[hk];rfl
  have hin:=VM b a (LR b a);obtain⟨k0,hk0⟩:∃k0:Nat,Gi (DN b a) (LR b a)=(k0:Int):=⟨(Gi (DN b a) (LR b a)).toNat,Om⟩;have epl:Cd b a=KZ b a k0 k0:=by
   unfold Cd;rw[if_pos hk,hk0,Int.toNat_natCast,Vb b a k0 a k0 (Nat.le_refl _) Om]
  rw[hk0]at hin;rw[epl];obtain⟨N,hN⟩:∃N,N=t0+(QF b a (KZ b a k0 k0) s0).1:=⟨_,rfl⟩;obtain⟨F,hF⟩:∃F,F=(QF b a (KZ b a k0 k0) s0).2:=⟨_,rfl⟩;obtain⟨X,hX⟩:∃X,X=WM b a (KZ b a k0 k0) s0:=⟨_,rfl⟩;rw[←hN,←hF,←hX];refine (mr er hk0 ?_).1;refine AA (α:=Nat×Nat×(Int×Int)) (λu=>.yv 10::.ref 8 0::.ref 9 0::.any::.any::.any::iA u.1::Az (Az (Ay (Ay (Ay [.any]))))) (λu=>bS b a u.2.1 u.2.2 lpR)
   (λu=>u.1≤a∧u.2.1+u.1≤t0+a∧bQ b a u.2.2∧u.2.1+(QF b a (KZ b a u.1 u.1) u.2.2).1=N∧(QF b a (KZ b a u.1 u.1) u.2.2).2=F∧WM b a (KZ b a u.1 u.1) u.2.2=X) (λu=>u.1) (k0,t0,s0) ⟨show k0≤a by omega,show t0+k0≤t0+a by omega,hs0,hN.symm,hF.symm,hX.symm⟩ (Wk.to Si (by simp[BS])) ?_
  rintro⟨k,t,s⟩ ⟨h1,h2,h3,h4,h5,h6⟩;simp only[]at h1 h2 h3 h4 h5 h6;cases k with
  |zero=>
   have c1:decide ((0:Int)<((0:Nat):Int))=false:=by simp
   simp only[KZ,QF,WM,Nat.add_zero]at h4 h5 h6;subst h4 h5 h6;refine (mq c1 ?_).1;exact A6.res rD.all.2.1 rfl
  |succ k=>
   have c1:decide ((0:Int)<((k+1:Nat):Int))=true:=by simp
   have c2:IntKind.i64.wrap (((k+1:Nat):Int)-1)=k:=by rw[i64_in _ Om];omega
   have c3:IntKind.i64.wrap ((a:Int)-k)=a-k:=i64_in _ Om;by_cases hw:(a:Int)-k>65536
   ·have c4:decide (65536<(a:Int)-k)=true:=Sx hw
    have ep1:KZ b a (k+1) (k+1)=[]:=by rw[KZ,if_pos hw]
    rw[ep1]at h4 h5 h6;simp only[QF,WM,Nat.add_zero]at h4 h5 h6;subst h4 h5 h6;simp only[go_sem,seval,c1,c2,c3,c4];refine (mok ?_).1;exact A6.res rD.all.2.1 rfl
   ·have c4:decide (65536<(a:Int)-k)=false:=Sx hw
    have c5:decide ((k:Int)<a)=true:=by simp;omega
    have hst:=mP b a k Om Om;have hin:=R2 b k;obtain⟨k',hk'⟩:∃k':Nat,Ii b k=(k':Int):=⟨(Ii b k).toNat,Om⟩;rw[hk',Int.toNat_natCast]at hst;rw[hk']at hin;rw[hst]at h4 h5 h6;simp only[QF,WM]at h4 h5 h6;have hy:=hY t s k Om h3 Om;simp only[go_sem,seval,c1,c2,c3,c4,c5];refine (mok ?_).1;have hok:=TF h3 (p:=k) Om;by_cases hstop:(a:Int)+(E1 b a s k).2=b.length
    ·rw[if_pos hstop]at h4 h5 h6 hy;simp only[]at h4 h5;refine⟨false,bS b a (t+1) (E1 b a s k) lpD,λR=>by have:=hy R;rw[decide_eq_false (by simpa using hstop)]at this;exact this,rfl,Si,?_⟩;rw[SZ,Uk (S:=bS b a t s lpR) (S':=bS b a (t+1) (E1 b a s k) lpD) rfl];subst h4 h5 h6;refine (mp ?_).1;exact A6.res rD.all.2.1 rfl
    ·rw[if_neg hstop]at h4 h5 h6 hy;simp only[]at h4 h5;refine⟨true,bS b a (t+1) (E1 b a s k) lpR,λR=>by have:=hy R;rw[decide_eq_true hstop]at this;exact this,rfl,Si,?_⟩;rw[SZ,Uk (S:=bS b a t s lpR) (S':=bS b a (t+1) (E1 b a s k) lpR) rfl];have g1:=Cy .i64 (GZ b a) k Om;have g2:=eZ b a k Om;rw[g2,hk']at g1;simp only[go_sem,seval,Int.toNat_natCast,Ab,c2,g1,Jy];refine (mok ?_).1;(repeat((with_reducible refine And.intro ?_ ?_);(·first|exact sd|(simp[Ab,A2,AV.parts,ep];done)|(simp[Ab,A2,AV.parts,ep];omega))));exact⟨(k',t+1,E1 b a s k),⟨by simp only[];omega,by simp only[];omega,hok,by simp only[];omega,h5,h6⟩,by simp only[];omega,Wk.to rfl (by simp[BS])⟩
def QO (b:List Int) (n:Nat) (a:Int):Ah prog 254 [.ref 0 0,iA a] (Po b n 1 2) (.fn 260 [] [.ref 3 0,.ref 4 0]) (Po b n 1 2++[.cells [.ref 0 0],.cells [iA a]]):=by
 refine RM func254 Af9 ?_
 exact FK Af9 [0,1,2,3,4] (by simp[AH])
def T7 (b:List Int) (n:Nat) (a:Int) (i j k:Nat) (hn:[i,j,k].Nodup):Ct prog 254 [.ref i 0,iA a] ([i,j,k].zip (Po b n j k)) (λm=>.fn 260 [] [.ref m 0,.ref (m+1) 0]) ([i,j,k].zip (Po b n j k)) (λ_=>[.cells [.ref i 0],.cells [iA a]]):=
 Ct.usn (QO b n a) [i,j,k] hn rfl Si Si (λm N=>by simp[AH]) (λm N=>by simp[AH,AM]) (λm N=>by simp[AH,AM]) (λm N=>by simp[AH,range'_succ]) (λm N=>by simp[AH])
abbrev bTm (s4:AV):List AV:=[.any,.any,.ref 4 0,.ref 5 0,iA 0,iA 0,.ref 6 0,.ref 7 0,.any,.any,.any,.any,.any,.any,.any,.any,.any,.any,.any,.any,.any,.any,.any,.any,.any,.any,.any,.any,.any,s4,.any,.any,.any,.any,.any,.any,.any,.any,.any,.any,.any,.any,.any,.any,.any,.any,.any,.any,.any,.any,.any,.any,.any,.any,.any,.any,.any,.any,.any,.any,.any,.any,.any,.any,.any,.any,.any,.any]
abbrev lpO (r:LpR) (x:AV):Ad:=.raw (.lp r) (bTm x)
def Abg:C:=.reg [(none,.mov (.tmp 30),some 8)] []
def Abf:C:=.block 1 (.seq (.reg [(none,.load none (.tmp 2),some 31),(none,.nilc (.tmp 31),some 32),(none,.fadr 2 (.tmp 32),some 33),(none,.load none (.tmp 33),some 34),(none,.bin .add (.tmp 34) (.const (.int .i64 1)),some 35),
 (none,.nilc (.tmp 31),some 36),(none,.fadr 2 (.tmp 36),some 37),(none,.store 1 (.tmp 37) (.tmp 35),none)] [])
 (.seq (.seq (.reg [(none,.load none (.tmp 2),some 38),(none,.nilc (.tmp 38),some 39),(none,.fadr 0 (.tmp 39),some 40),(none,.load none (.tmp 40),some 41),(none,.load none (.tmp 3),some 42),(none,.load none (.tmp 3),some 43),(none,.mov (.tmp 8),some 44),
   (none,.bin .sub (.tmp 43) (.tmp 44),some 45),(none,.call (.func 255) [.tmp 41,.tmp 42,.tmp 45],some 46),(none,.mov (.tmp 46),some 9)] [(0,4),(3,4),(0,5),(3,5),(4,5)])
   (.seq (.reg [(none,.mov (.tmp 9),some 47),(none,.load none (.tmp 7),some 48),(none,.bin .gtr (.tmp 47) (.tmp 48),some 49)] [])
     (.cond (.tmp 49) (.reg [(none,.load none (.tmp 3),some 50),(none,.mov (.tmp 8),some 51),(none,.bin .sub (.tmp 50) (.tmp 51),some 52),(none,.mov (.tmp 9),some 53),(none,.store 1 (.tmp 6) (.tmp 52),none),(none,.store 1 (.tmp 7) (.tmp 53),none)] []) .skip)))
   (.seq (.reg [(none,.load none (.tmp 3),some 54),(none,.load none (.tmp 7),some 55),(none,.bin .add (.tmp 54) (.tmp 55),some 56),(none,.load none (.tmp 2),some 57),(none,.nilc (.tmp 57),some 58),(none,.fadr 0 (.tmp 58),some 59),(none,.load none (.tmp 59),some 60),
     (none,.len false (.tmp 60),some 61),(none,.bin .eql (.tmp 56) (.tmp 61),some 62)] [(0,1),(0,3),(1,3),(0,6),(1,6)])
     (.cond (.tmp 62) (.exit 0) .skip))))
def ZS (b:List Int) (a t:Nat) (s:Int×Int) (p:Nat) (x:AV) (fn:FuncId) (D:Nat) (ca cb:Code) (hA:AU prog ca=some Abg) (hB:AU prog cb=some Abf)
 (R:List Ad) (ht:t<1000000000000000) (hs:bQ b a s) (hp:p<a∧(a:Int)-p≤65536) (ha:a≤b.length) (hb:b.length≤1000000000000):
 YC prog 10 [iA p] (bS b a t s (lpO ⟨.ready,none,fn,#[30],ca,cb,D⟩ x)++R) (bS b a (t+1) (E1 b a s p) (if(a:Int)+(E1 b a s p).2=b.length then lpO ⟨.done,some (.exit 0),fn,#[30],ca,cb,D⟩ x else lpO ⟨.ready,none,fn,#[30],ca,cb,D⟩ x)++R) (decide (¬(a:Int)+(E1 b a s p).2=b.length)):=by
 have e1:IntKind.i64.wrap ((t:Int)+1)=((t+1:Nat):Int):=by rw[i64_in _ Om];omega
 have e2:IntKind.i64.wrap ((a:Int)-p)=((a-p:Nat):Int):=by rw[i64_in _ Om];omega
 have hl:=nV b a (a-p);have hm:=TF hs (p:=p) Om;have hml:=hm.len;have hmn:=hm.n0;have hmm:=hm.most;have hsm:=hs.most;have hsn:=hs.n0;have e3:IntKind.i64.wrap ((a:Int)+(E1 b a s p).2)=a+(E1 b a s p).2:=i64_in _ Om;refine YC.of (r:=⟨.ready,none,fn,#[30],ca,cb,D⟩) (tm:=bTm x) rfl rfl rfl hA hB (lW _ _ hA rfl) (lW _ _ hB rfl) ?_;simp only[Abg,zip_cons_cons,zip_nil_right,foldl_cons,foldl_nil,go_sem];refine⟨rfl,?_⟩;simp only[Abf];refine (mr e1 e2 ?_).1;refine Cp (XI b a (a-p) hb ha Om) ?_;by_cases hbt:((PN b a (a-p):Nat):Int)>s.2
 ·have c1:decide (s.2<((PN b a (a-p):Nat):Int))=true:=Sx hbt
  have eu:E1 b a s p=((a:Int)-p,((PN b a (a-p):Nat):Int)):=by unfold E1;rw[Int.toNat_natCast,if_pos hbt]
  have ep:((a-p:Nat):Int)=a-p:=Om
  rw[eu]at e3 ⊢;simp only[]at e3;refine (ms c1 e3 @Ab ?_).1;by_cases hst:(a:Int)+(PN b a (a-p):Nat)=b.length
  ·have c2:((a:Int)+(PN b a (a-p):Nat)==(b.length:Int))=true:=Sx hst
   refine (mq c2 ?_).1;exact⟨some (.exit 0),rfl,rfl,by simp[hst],by simp[hst,ep,e2]⟩
  ·have c2:((a:Int)+(PN b a (a-p):Nat)==(b.length:Int))=false:=Sx hst
   refine (mq c2 ?_).1;exact⟨none,rfl,rfl,by simp[hst],by simp[hst,ep,e2]⟩
 ·have c1:decide (s.2<((PN b a (a-p):Nat):Int))=false:=Sx hbt
  have eu:E1 b a s p=s:=by unfold E1;rw[Int.toNat_natCast,if_neg hbt]
  rw[eu]at e3 ⊢;refine (ms c1 e3 @Ab ?_).1;by_cases hst:(a:Int)+s.2=b.length
  ·have c2:((a:Int)+s.2==(b.length:Int))=true:=Sx hst
   refine (mq c2 ?_).1;exact⟨some (.exit 0),rfl,rfl,by simp[hst],by simp[hst]⟩
  ·have c2:((a:Int)+s.2==(b.length:Int))=false:=Sx hst
   refine (mq c2 ?_).1;exact⟨none,rfl,rfl,by simp[hst],by simp[hst]⟩
def Aej (b:List Int) (a n t:Nat) (hb:b.length≤1000000000000) (hn:n≤a) (ha:a≤b.length) (ht:t+a≤1000000000000000):
 Ah prog 249 [.ref 0 0,iA a] (skO b t 1::Po b n 2 3) (.tup [iA (Du b a).1,iA (Du b a).2]) (skO b (t+(QF b a (Cd b a) (0,0)).1) 1::Po b a 2 3):=by
 have e0:(if(b.length:Int)<a then(b.length:Int)else a)=a:=by rw[if_neg Om]
 refine RN func249 Acy ?_;refine (mr @Ab e0 ?_).1
 refine Aa.us (Xe b n a hb hn ha 1 2 3 De) rfl rfl (mp ?_).1;refine Aa.us (T7 b a a 1 2 3 De) rfl rfl (mp ?_).1;refine uN (tm':=bTm (.fn 260 [] [.ref 8 0,.ref 9 0])) (Wk.to rfl (by simp[BS])) ?_;refine X1 (a:=Abg) (b:=Abf) rfl λfn D ca cb hA hB=>⟨.tup [],_,if WM b a (Cd b a) (0,0)=true then⟨.done,some (.exit 0),fn,#[30],ca,cb,D⟩else⟨.ready,none,fn,#[30],ca,cb,D⟩,
  sJ b a t (0,0) _ (lpO ⟨.done,some (.exit 0),fn,#[30],ca,cb,D⟩ (.fn 260 [] [.ref 8 0,.ref 9 0])) hb ha ht (λt s p ht hs hp R=>?_) (bQ.zero b a 0),?_,?_,?_⟩
 ·obtain⟨p',rfl⟩:∃p':Nat,p=(p':Int):=⟨p.toNat,Om⟩;exact ZS b a t s p' _ fn D ca cb hA hB R ht hs Om ha hb
 ·split<;>rfl
 ·split<;>simp
 ·obtain⟨s',hs'⟩:∃s',s'=(QF b a (Cd b a) (0,0)).2:=⟨_,rfl⟩;have hb':Du b a=Xt s':=by unfold Du;rw[hs']
  rw[hb',←hs'];split
  ·simp only[jq,length_cons,length_nil];refine (mp ?_).1;refine Cp (NZ s'.1 s'.2) ?_
   exact FK Acy [0,1,2,3] (by simp[AH])
  ·simp only[jq,length_cons,length_nil];refine (mp ?_).1;refine Cp (NZ s'.1 s'.2) ?_
   exact FK Acy [0,1,2,3] (by simp[AH])
def Aii (b:List Int) (a n t:Nat) (hb:b.length≤1000000000000) (hn:n≤a) (ha:a≤b.length) (ht:t+a≤1000000000000000) (i j k l:Nat) (hd:[i,j,k,l].Nodup):
 Ct prog 249 [.ref i 0,iA a] ([i,j,k,l].zip (skO b t j::Po b n k l)) (λ_=>.tup [iA (Du b a).1,iA (Du b a).2]) ([i,j,k,l].zip (skO b (t+(QF b a (Cd b a) (0,0)).1) j::Po b a k l)) (λ_=>[]):=
 Ct.us (Aej b a n t hb hn ha ht) [i,j,k,l] hd rfl rfl Si (λN=>by simp[AH]) (λN=>by simp[AH,AM]) (λN=>by simp[AH,AM]) (λN=>by simp)
def dO (b:List Int) (hb:b.length≤1000000000000):Ah prog 248 [Bd .u8 b] [] (.ref 0 0) (skO b 0 1::Po b 0 2 3):=by
 refine RN func248 Agd ?_;refine (mq @Ab ?_).1
 (repeat with_reducible refine Sa ?_);refine Aa.n (jF b hb) (mp ?_).1;refine WO 4 [Bd .u8 b,.ref 1 0,iA 0] ?_
 (refine FB Agd [4,1,2,3] ?_ ?_<;>first|with_reducible rfl|(simp[AH,GZ,DN];done)|rfl)
def lU (b:List Int) (hb:b.length≤1000000000000):Ct prog 248 [Bd .u8 b] [] (λn=>.ref n 0) [] (λn=>skO b 0 (n+1)::Po b 0 (n+2) (n+3)):=Ct.n (dO b hb) CN cl cl
def Aa9 (l:List Tk) (t:Tk) (g:GF):Co (PM l++[.agg [.sl g 1 (A0 .u8 t.lit),iA t.off,iA t.len]]) (PM (l++[t])):=by
 rw[←Ut];exact Co.app (Co.refl _) (Co.cons (Wa.agg (Co.cons Wa.none (Co.refl _))) Co.nil)
def Xa (b:List Int) (x y:Nat) (l:List Tk) (hb:b.length≤1048576) (hy:y≤b.length) (hl:l.length≤1048576):
 Ah prog 247 [iA y,.ref 0 0,.ref 1 0,.ref 2 0] [.cells [iA x],.cells [.sl (.row 3) 3 (PM l)],.cells [Bd .u8 b],.row 3 l.length] (.tup [])
  [.cells [iA x],.cells [.sl (.row 3) 3 (PM (l++Fi b x y))],.cells [Bd .u8 b],.row 3 (l++Fi b x y).length]:=by
 by_cases h:x<y
 ·have c1:decide ((x:Int)<y)=true:=Sx h
  have e1:((A0 .u8 b).drop (x:Int).toNat).take ((y:Int)-x).toNat=A0 .u8 ((b.drop x).take (y-x)):=by
   rw[CA,Dh];congr 2;omega
  have e2:((b.drop x).take (y-x)).length=y-x:=by simp;omega
  have er:Fi b x y=[⟨(b.drop x).take (y-x),0,0⟩]:=by unfold Fi;rw[if_pos h]
  refine RN func247 yU ?_;simp only[go_sem,seval,c1,Ab,e1,e2,EN];refine (mok ?_).1
  (repeat with_reducible refine Sa ?_);refine A6.wao (ys:=[.sl (.row 3) 3 (PM (l++[⟨(b.drop x).take (y-x),0,0⟩]))]) 1 rfl (Co.cons (Wa.slS (Aa9 l ⟨(b.drop x).take (y-x),0,0⟩ _)) Co.nil) (mp ?_).1
  (refine FB yU [0,1,2,3] ?_ ?_<;>first|with_reducible rfl|(simp[er,AH];done)|rfl)
 ·have c1:decide ((x:Int)<y)=false:=Sx h
  have er:Fi b x y=[]:=by unfold Fi;rw[if_neg h]
  refine RN func247 yU ?_;refine (mq c1 ?_).1
  (refine FB yU [0,1,2,3] ?_ ?_<;>first|with_reducible rfl|(simp[er,AH];done)|rfl)
def PK (b:List Int) (x y:Nat) (l:List Tk) (hb:b.length≤1048576) (hy:y≤b.length) (hl:l.length≤1048576) (i j k r:Nat) (hd:[i,j,k,r].Nodup):
 Ct prog 247 [iA y,.ref i 0,.ref j 0,.ref k 0] ([i,j,k,r].zip [.cells [iA x],.cells [.sl (.row r) 3 (PM l)],.cells [Bd .u8 b],.row 3 l.length]) (λ_=>.tup [])
  ([i,j,k,r].zip [.cells [iA x],.cells [.sl (.row r) 3 (PM (l++Fi b x y))],.cells [Bd .u8 b],.row 3 (l++Fi b x y).length]) (λ_=>[]):=
 Ct.us (Xa b x y l hb hy hl) [i,j,k,r] hd rfl rfl Si (λN=>by simp[AH]) (λN=>by simp[AH,AM,Z8]) (λN=>by simp[AH,AM,Z8]) (λN=>by simp)
abbrev tS (b:List Int) (a x t:Nat) (l:List Tk):List Ad:=[.cells [Bd .u8 b],.cells [.sl (.row 7) 3 (PM l)],.cells [iA x],skO b t 4,chO b (GZ b a) 5 6,mpO (DN b a),.row 1 a,.row 3 l.length]
def eY (b:List Int) (f a x:Nat) (h:a<b.length):GY b (f+1) a x=if(Du b a).2=0 then GY b f (a+1) x else Fi b x a++[⟨[],(Du b a).1,(Du b a).2⟩]++GY b f (a+(Du b a).2.toNat) (a+(Du b a).2.toNat):=by
 rw[GY,if_neg Om]
def P6 (b:List Int) (hb:b.length≤1048576):Ah prog 245 [Bd .u8 b] [] (.tup [slT (Fz b),iA 0]) []:=by
 have c0:decide ((1048576:Int)<b.length)=false:=by simp;omega
 have hpl:=(J9 b).1;refine RN func245 Age ?_;refine (mr @Ab c0 ?_).1
 refine Aa.n (lU b Om) (mp ?_).1;refine AA (α:=Nat×Nat×Nat×Nat×List Tk) (λu=>.any::.ref 0 0::.any::.any::.ref 1 0::.ref 2 0::.fn 247 [] [.ref 2 0,.ref 1 0,.ref 0 0]::.ref 3 0::iA u.1::Az (Az (Ay (Ay [])))) (λu=>tS b u.2.1 u.2.2.1 u.2.2.2.1 u.2.2.2.2)
  (λu=>u.2.1≤u.1∧u.1≤b.length∧u.2.2.1≤u.1∧u.2.2.2.1≤u.1*b.length∧∃f,b.length≤f+u.1∧u.2.2.2.2++GY b f u.1 u.2.2.1=Fz b) (λu=>b.length-u.1) (0,0,0,0,[])
  ⟨Nat.le_refl _,Nat.zero_le _,Nat.le_refl _,Nat.zero_le _,b.length,Nat.le_refl _,rfl⟩ ?_ ?_
 ·refine(Wk.rowObj 1 0 3 rfl rfl (.inr rfl) Om).trans (Wk.to ?_ (by simp[BS]));simp[tS,GZ,DN,tK]
 ·rintro⟨a,n,x,t,l⟩ ⟨h1,h2,h3,h4,f,h5,h6⟩;simp only[]at h1 h2 h3 h4 h5 h6;have hall:l.length≤1048576:=by
   have:=congrArg List.length h6;simp only[length_append]at this;omega
  have ht:t≤1048576*1048576:=Nat.le_trans h4 (Nat.mul_le_mul Om hb);by_cases hlt:a<b.length
  ·have c1:decide ((a:Int)<b.length)=true:=by simp;omega
   have e1:=Aw a Om;have hok:=Pz b a;have hbst:=bG b a (Cd b a) (0,0);have hpl2:=Ve b a;have hmul:(a+1)*b.length=a*b.length+b.length:=by rw[Nat.add_mul];omega
   obtain⟨f,rfl⟩:∃f',f=f'+1:=⟨f-1,Om⟩;rw[eY b f a x hlt]at h6;obtain⟨o,m,hbe⟩:∃o m,Du b a=(o,m):=⟨_,_,rfl⟩;rw[hbe]at h6 hok;simp only[]at h6;have hm0:=hok.1.n0;have hml:=hok.1.len;have hm4:=hok.2;simp only[]at hm0 hml hm4;obtain⟨t',ht'⟩:∃t',t'=t+(QF b a (Cd b a) (0,0)).1:=⟨_,rfl⟩;have hcall:=Aii b a n t Om h1 Om Om 3 4 5 6 De;rw[hbe,←ht']at hcall;simp only[]at hcall;refine (mr @Ab c1 ?_).1;refine Aa.us hcall rfl rfl ?_;by_cases hm:m=0
   ·subst hm;rw[if_pos rfl]at h6;refine (mq e1 ?_).1;exact⟨(a+1,a,x,t',l),⟨by simp only[];omega,by simp only[];omega,by simp only[];omega,by simp only[];omega,f,by simp only[];omega,h6⟩,by simp only[];omega,Wk.to rfl (by simp[BS])⟩
   ·rw[if_neg hm]at h6;have c2:(m==0)=false:=Sx hm
    obtain⟨m',rfl⟩:∃m':Nat,m=(m':Int):=⟨m.toNat,Om⟩;rw[Int.toNat_natCast]at h6;have e2:IntKind.i64.wrap ((a:Int)+m')=((a+m':Nat):Int):=by rw[i64_in _ Om];omega
    have hlr:(l++Fi b x a).length+1≤1048576:=by
     have:=congrArg List.length h6;simp only[length_append,length_singleton]at this ⊢;omega
    have hmul2:a*b.length+b.length≤(a+m')*b.length:=by
     rw[←hmul];exact Nat.mul_le_mul_right _ Om
    refine (mq c2 ?_).1;refine Aa.us (PK b x a l hb Om hall 2 1 0 7 De) rfl rfl (mr @EN e2 ?_).1;(repeat with_reducible refine Sa ?_);refine⟨(a+m',a,a+m',t',l++Fi b x a++[⟨[],o,m'⟩]),⟨by simp only[];omega,by simp only[];omega,by simp only[];omega,by simp only[];omega,f,by simp only[];omega,by rw[←h6];simp⟩,by simp only[];omega,(Wk.wao (ys:=[.sl (.row 7) 3 (PM (l++Fi b x a++[⟨[],o,m'⟩]))]) 1 rfl ?_).trans (Wk.to ?_ (by simp[BS]))⟩
    ·refine Co.cons (Wa.slS ?_) Co.nil;rw[←Ut];exact Co.app (Co.refl _) (Co.cons (Wa.agg (Co.cons Wa.nil (Co.refl _))) Co.nil)
    ·simp[tS,Nat.add_assoc]
  ·obtain rfl:a=b.length:=Om
   have c1:decide ((b.length:Int)<b.length)=false:=by simp
   rw[mM b f b.length x (Nat.le_refl _)]at h6;refine (mr @Ab c1 ?_).1;refine Aa.us (PK b x b.length l hb (Nat.le_refl _) hall 2 1 0 7 De) rfl rfl (mq h6 ?_).1;refine UT 2 ?_;exact FA Age []
def Sz (b:List Int) (hb:b.length≤1048576):Ct Tryz.prog 245 [Bd .u8 b] [] (λ_=>.tup [slT (Fz b),iA 0]) [] (λ_=>[]):=(P6 b hb).toCt cl cl
abbrev Aib (q:List Int×(Int×Int)):AV:=.tup [Bd .u8 q.1,Ce q.2]
def IY (l m:List Int) (hl:AW l) (hm:AW m):Ct prog 127 [Bd .u8 l,Bd .u8 m] [] (λ_=>bA (BJ l m)) [] (λ_=>[]):=by
 refine Ah.toCt ?_ cl cl
 refine RN func127 Aho ?_;refine (mr @Nw (HX hl hm) ?_).1
 exact FA Aho []
def Gq {α:Type} (m:Nat) (lab:α->Nat) (tmF:α->List AV) (SF:α->List Ad) (ok:α->Prop) (Q:QT):QT
 | .goto l',tm,S=>∃a,lab a=l'∧ok a∧Wk m tm S (tmF a) (SF a)
 |e,tm,S=>Q e tm S
def GX {α:Type} (m:Nat) (lab:α->Nat) (tmF:α->List AV) (SF:α->List Ad) (ok:α->Prop) (μ:α->Nat) (a:α) (Q:QT):QT
 | .goto l',tm,S=>∃a',lab a'=l'∧ok a'∧μ a'<μ a∧Wk m tm S (tmF a') (SF a')
 |e,tm,S=>Q e tm S
section
variable {P:Program} {m:Nat} {tm:List AV} {S:List Ad} {Q:QT} {α:Type} {lab:α->Nat} {tmF:α->List AV} {SF:α->List Ad} {ok:α->Prop} {μ:α->Nat} {a:α}
@[go_sem] theorem mG:Gq m lab tmF SF ok Q .normal tm S=Q .normal tm S:=(rfl)
@[go_sem] theorem Aan:Gq m lab tmF SF ok Q .ret tm S=Q .ret tm S:=(rfl)
@[go_sem] theorem u0 (id:Nat):Gq m lab tmF SF ok Q (.exit id) tm S=Q (.exit id) tm S:=(rfl)
@[go_sem] theorem uZ (l':Nat):Gq m lab tmF SF ok Q (.goto l') tm S=(∃a,lab a=l'∧ok a∧Wk m tm S (tmF a) (SF a)):=(rfl)
@[go_sem] theorem kB:GX m lab tmF SF ok μ a Q .normal tm S=Q .normal tm S:=(rfl)
@[go_sem] theorem u6:GX m lab tmF SF ok μ a Q .ret tm S=Q .ret tm S:=(rfl)
@[go_sem] theorem sQ (id:Nat):GX m lab tmF SF ok μ a Q (.exit id) tm S=Q (.exit id) tm S:=(rfl)
@[go_sem] theorem sP (l':Nat):GX m lab tmF SF ok μ a Q (.goto l') tm S=(∃a',lab a'=l'∧ok a'∧μ a'<μ a∧Wk m tm S (tmF a') (SF a')):=(rfl)
def dQ {c:C} (lab:α->Nat) (rs:α->C) (hf:∀a,Hf c (lab a)=some (rs a)) (tmF:α->List AV) (SF:α->List Ad) (ok:α->Prop) (μ:α->Nat)
 (first:(∀a,ok a->aw P m (rs a) (tmF a) (SF a) (Gq m lab tmF SF ok Q))->aw P m c tm S (Gq m lab tmF SF ok Q)) (pass:∀a,ok a->aw P m (rs a) (tmF a) (SF a) (GX m lab tmF SF ok μ a Q)):aw P m (.scope c) tm S Q:=by
 refine J2 (λn l' tm S=>∃a,lab a=l'∧ok a∧tm=tmF a∧S=SF a∧n=μ a) (GC (first λa ha=>GC (pass a ha) λe tm' S' hq=>?_) λe tm' S' hq=>?_) λn l' tm S ⟨a,hl,ha,h1,h2,h3⟩=>⟨rs a,by rw[←hl];exact hf a,?_⟩
 ·cases e with
  |goto l'=>have⟨a',h1,h2,_,h4⟩:=hq;exact⟨a',h1,h2,h4⟩
  |_=>exact hq
 ·cases e with
  |goto l'=>have⟨a,h1,h2,h3⟩:=hq;exact⟨_,_,h3,μ a,a,h1,h2,rfl,rfl,rfl⟩
  |_=>exact hq
 ·subst h1 h2 h3;refine GC (pass a ha) λe tm' S' hq=>?_
  cases e with
  |goto l'=>have⟨a',h1,h2,h3,h4⟩:=hq;exact⟨_,_,h4,μ a',⟨a',h1,h2,rfl,rfl,rfl⟩,h3⟩
  |_=>exact hq
end
section
variable {P:Program} {m:Nat} {tm:List AV} {S:List Ad} {Q:QT} {α:Type}
def dP {c r1 r0:C} (h1:Hf c 1=some r1) (h0:Hf c 0=some r0) (tmF:Bool×α->List AV) (SF:Bool×α->List Ad) (ok:Bool×α->Prop) (μ:Bool×α->Nat)
 (first:(∀a,ok a->aw P m (cond a.1 r1 r0) (tmF a) (SF a) (Gq m (λa=>cond a.1 1 0) tmF SF ok Q))->aw P m c tm S (Gq m (λa=>cond a.1 1 0) tmF SF ok Q))
 (pass:∀a,ok a->aw P m (cond a.1 r1 r0) (tmF a) (SF a) (GX m (λa=>cond a.1 1 0) tmF SF ok μ a Q)):aw P m (.scope c) tm S Q:=
 dQ (λa=>cond a.1 1 0) (λa=>cond a.1 r1 r0) (λa=>by cases h:a.1<;>simp only[cond]<;>assumption) tmF SF ok μ first pass
end
def HT (bound:Int) (s:RS) (out:List Int):List Int×(Int×Int):=if s.code=0 then EX bound s out else([],(s.code,s.fat))
def Lg (s:RS) (out:List Int):List Int×(Int×Int):=if s.code=0 then(out,(0,0))else([],(s.code,s.fat))
def pT {bound:Int} {s:RS} {out:List Int} (h:¬0<s.left):HT bound s out=Lg s out:=by
 unfold HT Lg;rw[Hk h]
def O9 {bound:Int} {s:RS} {out o:List Int} (h:¬s.code=0):HT bound s out=Lg s o:=by
 unfold HT Lg;rw[if_neg h,if_neg h]
def RJ {s:RS} {c a:Int} (h:s.code=0) (hc:c≠0):(s.fail c a).code=c∧(s.fail c a).fat=a:=by
 unfold RS.fail;rw[if_pos h];simp[BB,hc]
def L0 {s:RS} {c a:Int} (h:¬s.code=0):s.fail c a=s:=by
 unfold RS.fail;rw[if_neg h]
def iP {bound:Int} {s:RS} {out o:List Int} (hc:s.code=0) (h:0<s.left) (hb:bound<out.length+s.thead.2.2):HT bound s out=Lg (s.thead.1.fail 11 s.at_) o:=by
 unfold HT;rw[if_pos hc];by_cases hh:s.thead.1.code=0
 ·have⟨f1,f2⟩:=RJ (a:=s.at_) hh (show(11:Int)≠0 by decide);rw[Jr h hh hb];unfold Lg;rw[f1,f2];rfl
 ·rw[Hj h hh,L0 hh];unfold Lg;rw[if_neg hh]
def pR {bound:Int} {s:RS} {out:List Int} (hs:Ak s) (hc:s.code=0) (h:0<s.left) (hb:¬bound<out.length+s.thead.2.2) (hr:s.thead.2.1=false):
 HT bound s out=HT bound (s.thead.1.take s.thead.2.2).1 (out++(s.thead.1.take s.thead.2.2).2):=by
 by_cases hh:s.thead.1.code=0
 ·by_cases ht:s.token.1.code=0
  ·have⟨m1,m2,m3⟩:=NK hs ht;have⟨r1,r2,r3,r4⟩:=m3 hr;have ho:¬(out.length:Int)<s.token.2.off:=by rw[r2];simp only;omega
   unfold HT;rw[if_pos hc,if_pos r3,Hi hs h hh hb ht ho,r4,r2];simp[Zh,C2]
  ·have e:s.token.1=(s.thead.1.take s.thead.2.2).1:=by
    unfold RS.token;rw[if_pos hh,hr];simp only[Bool.false_eq_true,if_false];split<;>rfl
   unfold HT;rw[if_pos hc,Gb h hh hb ht,←e,if_neg ht]
 ·have e:(s.thead.1.take s.thead.2.2).1=s.thead.1:=by
   unfold RS.take RS.skip;rw[if_neg hh];rfl
  unfold HT;rw[if_pos hc,Hj h hh,e,if_neg hh]
def pS {bound:Int} {s:RS} {out o:List Int} (hc:s.code=0) (h:0<s.left) (hb:¬bound<out.length+s.thead.2.2) (hr:s.thead.2.1=true) (hf:(out.length:Int)<s.thead.1.toff.2):
 HT bound s out=Lg (s.thead.1.toff.1.fail 10 s.thead.1.at_) o:=by
 have hh:s.thead.1.code=0:=by
  by_cases hh:s.thead.1.code=0
  ·exact hh
  ·rw[GP hh]at hr;cases hr
 have ht:s.thead.1.toff.1.code=0:=by
  by_cases ht:s.thead.1.toff.1.code=0
  ·exact ht
  ·rw[kS ht]at hf;omega
 have e:s.token=(s.thead.1.toff.1,⟨[],s.thead.1.toff.2,s.thead.2.2⟩):=by
  unfold RS.token;rw[if_pos hh,if_pos hr,if_pos ht]
 have⟨f1,f2⟩:=RJ (a:=s.thead.1.at_) ht (show(10:Int)≠0 by decide);unfold HT;rw[if_pos hc,Li h hh hb (by rw[e];exact ht) (by rw[e];exact hf)];unfold Lg;rw[f1,f2];rfl
def iQ {bound:Int} {s:RS} {out:List Int} (hs:Ak s) (hc:s.code=0) (h:0<s.left) (hb:¬bound<out.length+s.thead.2.2) (hr:s.thead.2.1=true) (hf:¬(out.length:Int)<s.thead.1.toff.2) (ht:s.thead.1.toff.1.code=0):
 HT bound s out=HT bound s.thead.1.toff.1 (C2 out s.thead.1.toff.2.toNat s.thead.2.2.toNat):=by
 have hh:s.thead.1.code=0:=by
  by_cases hh:s.thead.1.code=0
  ·exact hh
  ·rw[GP hh]at hr;cases hr
 have e:s.token=(s.thead.1.toff.1,⟨[],s.thead.1.toff.2,s.thead.2.2⟩):=by
  unfold RS.token;rw[if_pos hh,if_pos hr,if_pos ht]
 unfold HT;rw[if_pos hc,if_pos ht,Hi hs h hh hb (by rw[e];exact ht) (by rw[e];exact hf),e];simp[Zh]
def Zi {bound:Int} {s:RS} {out:List Int} (hc:s.code=0) (h:0<s.left) (hb:¬bound<out.length+s.thead.2.2) (hr:s.thead.2.1=true) (ht:¬s.thead.1.toff.1.code=0) (o:List Int):
 HT bound s out=Lg s.thead.1.toff.1 o:=by
 have hh:s.thead.1.code=0:=by
  by_cases hh:s.thead.1.code=0
  ·exact hh
  ·rw[GP hh]at hr;cases hr
 have e:s.token=(s.thead.1.toff.1,ZX):=by
  unfold RS.token;rw[if_pos hh,if_pos hr,if_neg ht]
 unfold HT Lg;rw[if_pos hc,if_neg ht,Gb h hh hb (by rw[e];exact ht),e]
def Xx (s:RS) (n:Int):(s.take n).2.length≤n.toNat:=by
 unfold RS.take;split
 ·simp only[length_take];omega
 ·simp
def iM {s:RS} {c:Int} (a:Int) (hc:c≠0):¬(s.fail c a).code=0:=by
 by_cases h:s.code=0
 ·exact Jq h hc
 ·rw[L0 h];exact h
def Xu {s:RS} (h:Ak s):0≤s.thead.2.2∧s.thead.2.2≤1048576:=by
 by_cases hh:s.thead.1.code=0
 ·have⟨_,_,h3⟩:=KO h hh;rcases h3 with⟨_,_,a,b⟩|⟨_,_,a,b⟩<;>omega
 ·rw[GP hh];simp
def KG (b:List Int) (bound:Int) (s:RS) (out:List Int):Prop:=s.l=b∧(out.length:Int)≤max bound 0∧(s.code=0->(out.length:Int)≤1048576*s.at_)∧out.length≤1048576*b.length
def KG.bad {b:List Int} {bound:Int} {s t:RS} {out:List Int} (h:KG b bound s out) (hl:t.l=s.l) (hc:¬t.code=0):KG b bound t out:=⟨hl.trans h.1,h.2.1,λh=>absurd h hc,h.2.2.2⟩
def KG.more {b:List Int} {bound:Int} {s t:RS} {out o:List Int} (h:KG b bound s out) (hs:s.code=0) (ht:Ak t) (hl:t.l=s.l) (ha:s.at_<t.at_) (h1:(o.length:Int)≤max bound 0) (h2:o.length≤out.length+1048576):KG b bound t o:=by
 have⟨a1,a2,a3,a4⟩:=h;have:=a3 hs;have h5:=ht.at1;have h6:t.l.length=b.length:=by rw[hl,a1]
 exact⟨hl.trans a1,h1,λ_=>by omega,Om⟩
def Tt (b:List Int) (bound:Int) (b0: -9223372036854775808≤bound) (b1:bound<9223372036854775808) (hb:AW b) (hn:b.length≤1000000):Ct prog 197 [Bd .u8 b,iA bound] [] (λ_=>Aib (EX bound (RS.new b) [])) [] (λ_=>[]):=by
 refine Ah.toCt ?_ cl cl
 have⟨E,hE⟩:=Ex (EX bound (RS.new b) []);rw[hE];refine RM func197 Adi ?_
 refine dP (α:=RS×List Int) (by rfl) (by rfl) (λa=>Bd .u8 b::iA bound::.any::.any::.any::.ref 0 0::.ref 1 0::IE 2 a.2.2::Az (Az (Az (Ay (Ay (Ay [.any,.any,.any])))))) (λa=>[.cells [iA 0,iA 0],AN a.2.1,.row 1 a.2.2.length]) (λa=>Ak a.2.1∧KG b bound a.2.1 a.2.2∧(cond a.1 (HT bound a.2.1 a.2.2) (Lg a.2.1 a.2.2))=E) (λa=>cond a.1 (1+if a.2.1.code=0 then a.2.1.left.toNat+1 else 0) 0) (λpass=>?_) ?_
 ·refine (mp ?_).1;refine Aa.n (BO b) (mp ?_).1;exact Nu ((Wk.row 7 1 rfl (.inl rfl) (Nat.le_refl _)).trans (Wk.to Si (by simp[BS,A0]))) (pass (true,RS.new b,[]) ⟨Ak.new hb Om,⟨rfl,by simp;omega,by simp[RS.new],Si⟩,by simp only[cond];rw[←hE];rfl⟩)
 ·rintro⟨c,R,out⟩ ⟨h1,h2,h3⟩;simp only at h1 h2 h3;have⟨g1,g2,g3,g4⟩:=h2;cases c
  ·simp only[cond]at h3 ⊢;refine (mp ?_).1;refine Cr (AQ R _) rfl ?_;by_cases hc:R.code=0
   ·have q:(R.code==0)=true:=Sx hc
    have he:E=(out,(0,0)):=by rw[←h3];unfold Lg;rw[if_pos hc]
    refine Aa.p (Ai _ _) (mq q ?_).1;refine UT 4 ?_
    exact FE Adi [] he
   ·have q:(R.code==0)=false:=Sx hc
    have he:E=([],(R.code,R.fat)):=by rw[←h3];unfold Lg;rw[if_neg hc]
    refine Aa.p (Ai _ _) (mq q ?_).1;refine UT 4 ?_
    exact FE Adi [] he
  ·simp only[cond]at h3 ⊢;refine (mp ?_).1;refine Cr (GH R _ h1.ok) rfl ?_;by_cases hl:R.left=0
   ·have q:(R.left==0)=true:=Sx hl
    refine (mq q ?_).1;exact⟨(false,R,out),rfl,⟨h1,⟨g1,g2,g3,g4⟩,(pT (s:=R) Om).symm.trans h3⟩,by simp only;omega,Wk.to Si (by simp[BS])⟩
   ·have q:(R.left==0)=false:=Sx hl
    refine (mq q ?_).1;by_cases hc:R.code=0
    ·refine Aa.r1 (Ae R _) rfl (mq (AR hc) ?_).1;refine Cr (AF R _) rfl ?_;refine Cu (Xr R _ h1) rfl ?_;have hlp:0<R.left:=by have⟨z1,z2,z3⟩:=h1.ok;unfold RS.left at hl ⊢;omega
     have ew:IntKind.i64.wrap (bound-(out.length:Int))=bound-out.length:=i64_in _ Om;have⟨k1,k2⟩:=EO h1;have⟨m1,m2⟩:=Xu h1;by_cases ho:bound-(out.length:Int)<R.thead.2.2
     ·have q2:decide (bound-(out.length:Int)<R.thead.2.2)=true:=Sx ho
      refine (ms @Ab ew q2 ?_).1;refine Cu (Aj R.thead.1 11 R.at_ _) rfl ?_;exact⟨(false,R.thead.1.fail 11 R.at_,out),rfl,⟨k1.fail _ _,KG.bad ⟨g1,g2,g3,g4⟩ (by rw[AY];exact k2) (iM _ De),(iP hc hlp Om).symm.trans h3⟩,by simp only;omega,Wk.to Si (by simp[BS])⟩
     ·have q2:decide (bound-(out.length:Int)<R.thead.2.2)=false:=Sx ho
      cases hr:R.thead.2.1
      ·refine (mt @Ab ew q2 hr ?_).1;refine Aa.u1 (CF R.thead.1 R.thead.2.2 _ k1.ok) rfl ?_;simp only[go_sem,seval,C1,Ab,←length_append];refine (mok ?_).1;have hts:=Xx R.thead.1 R.thead.2.2;have hlen:((out++(R.thead.1.take R.thead.2.2).2).length:Int)≤max bound 0:=by rw[length_append];omega
       have hmade:KG b bound (R.thead.1.take R.thead.2.2).1 (out++(R.thead.1.take R.thead.2.2).2):=by
        have hl2:(R.thead.1.take R.thead.2.2).1.l=R.l:=by rw[(k1.ok.take R.thead.2.2).2];exact k2
        by_cases hz:(R.thead.1.take R.thead.2.2).1.code=0
        ·have hh:R.thead.1.code=0:=by
          by_cases hh:R.thead.1.code=0
          ·exact hh
          ·unfold RS.take RS.skip at hz;rw[if_neg hh]at hz;exact absurd hz hh
         have e:R.token.1=(R.thead.1.take R.thead.2.2).1:=by
          unfold RS.token;rw[if_pos hh,hr];simp only[Bool.false_eq_true,if_false];split<;>rfl
         have hat:=(Iv h1 (by rw[e];exact hz)).2.2.2.1;rw[e]at hat;exact KG.more ⟨g1,g2,g3,g4⟩ hc (k1.take _) hl2 hat hlen (by rw[length_append];omega)
        ·rw[GR hz,append_nil];exact KG.bad ⟨g1,g2,g3,g4⟩ hl2 hz
       refine⟨by rw[length_append];omega,(true,(R.thead.1.take R.thead.2.2).1,out++(R.thead.1.take R.thead.2.2).2),rfl,⟨k1.take _,hmade,(pR h1 hc hlp Om hr).symm.trans h3⟩,?_,Wk.to Si (by simp[BS])⟩;simp only[cond];rw[if_pos hc];split
       ·rename_i hz;have hh:R.thead.1.code=0:=by
         by_cases hh:R.thead.1.code=0
         ·exact hh
         ·unfold RS.take RS.skip at hz;rw[if_neg hh]at hz;exact absurd hz hh
        have e:R.token.1=(R.thead.1.take R.thead.2.2).1:=by
         unfold RS.token;rw[if_pos hh,hr];simp only[Bool.false_eq_true,if_false];split<;>rfl
        have hlt:=(D9 h1 (by rw[e];exact hz)).1;rw[e]at hlt;omega
       ·omega
      ·refine (mt @Ab ew q2 hr ?_).1;refine Cr (AF R.thead.1 _) rfl ?_;refine Cu (R9 R.thead.1 _ k1) rfl ?_;have⟨k3,k4⟩:=QU k1;by_cases hf:(out.length:Int)<R.thead.1.toff.2
       ·have q3:decide ((out.length:Int)<R.thead.1.toff.2)=true:=Sx hf
        refine (mr @Ab q3 ?_).1;refine Cu (Aj R.thead.1.toff.1 10 R.thead.1.at_ _) rfl ?_;have hbad:¬(R.thead.1.toff.1.fail 10 R.thead.1.at_).code=0:=by
         by_cases ht:R.thead.1.toff.1.code=0
         ·exact Jq ht De
         ·rw[L0 ht];exact ht
        refine Aa.r1 (Ae (R.thead.1.toff.1.fail 10 R.thead.1.at_) _) rfl (mq (Au hbad) ?_).1;exact⟨(true,R.thead.1.toff.1.fail 10 R.thead.1.at_,out),rfl,⟨k3.fail _ _,KG.bad ⟨g1,g2,g3,g4⟩ (by rw[AY,k4,k2]) hbad,((pS hc hlp Om hr hf (o:=out)).trans (O9 hbad).symm).symm.trans h3⟩,by simp only[cond];rw[if_pos hc,if_neg hbad];omega,Wk.to Si (by simp[BS])⟩
       ·have q3:decide ((out.length:Int)<R.thead.1.toff.2)=false:=Sx hf
        refine (mr @Ab q3 ?_).1;by_cases ht:R.thead.1.toff.1.code=0
        ·refine Aa.r1 (Ae R.thead.1.toff.1 _) rfl (mq (AR ht) ?_).1;have hh:R.thead.1.code=0:=by
          by_cases hh:R.thead.1.code=0
          ·exact hh
          ·rw[GP hh]at hr;cases hr
         have⟨j1,j2,j3⟩:=KO h1 hh;have hn1:4≤R.thead.2.2∧R.thead.2.2≤1048576:=by
          rcases j3 with⟨c1,c2,c3,c4⟩|⟨c1,c2,c3,c4⟩
          ·exact⟨c3,c4⟩
          ·rw[hr]at c1;cases c1
         have⟨t1,t2,t3,t4⟩:=Sb ht;have hvr:=A8 (s:=R.thead.1) k1.bys;have htk:R.token=(R.thead.1.toff.1,⟨[],R.thead.1.toff.2,R.thead.2.2⟩):=by
          unfold RS.token;rw[if_pos hh,if_pos hr,if_pos ht]
         have hlt:=(D9 h1 (by rw[htk];exact ht)).1;rw[htk]at hlt;simp only at hlt;have hal:=Md R.thead.1.toff.2.toNat R.thead.2.2.toNat out;have hat:=(Iv h1 (by rw[htk];exact ht)).2.2.2.1;rw[htk]at hat;simp only at hat;have hmade:KG b bound R.thead.1.toff.1 (C2 out R.thead.1.toff.2.toNat R.thead.2.2.toNat):=KG.more ⟨g1,g2,g3,g4⟩ hc k3 (k4.trans k2) hat Om Om;refine Aa.o1 (Ts out R.thead.1.toff.2 R.thead.2.2 _ hn1.2 (λ_=>⟨Om,Om⟩) Om) rfl (mp ?_).1;exact⟨(true,R.thead.1.toff.1,C2 out R.thead.1.toff.2.toNat R.thead.2.2.toNat),rfl,⟨k3,hmade,(iQ h1 hc hlp Om hr hf ht).symm.trans h3⟩,by simp only[cond];rw[if_pos hc,if_pos ht];omega,Wk.to Si (by simp[BS])⟩
        ·refine Aa.r1 (Ae R.thead.1.toff.1 _) rfl (mq (Au ht) ?_).1;exact⟨(true,R.thead.1.toff.1,out),rfl,⟨k3,KG.bad ⟨g1,g2,g3,g4⟩ (k4.trans k2) ht,((Zi hc hlp Om hr ht out).trans (O9 ht).symm).symm.trans h3⟩,by simp only[cond];rw[if_pos hc,if_neg ht];omega,Wk.to Si (by simp[BS])⟩
    ·refine Aa.r1 (Ae R _) rfl (mq (Au hc) ?_).1;exact⟨(false,R,out),rfl,⟨h1,⟨g1,g2,g3,g4⟩,(O9 hc).symm.trans h3⟩,by simp only;omega,Wk.to Si (by simp[BS])⟩
def Xs {b:List Int} (hb:b.length≤1048576):Ur (Fz b)=(B3 b,0):=by
 unfold Ur;rw[if_pos (XM.2 (KY hb))];rfl
def Va (b:List Int) (hb:b.length≤1048576):Ct prog 239 [Bd .u8 b] [] (λ_=>.tup [Bd .u8 (B3 b),iA 0]) [] (λ_=>[]):=by
 refine Ah.toCt ?_ cl cl
 have hl:=J9 b;have et:=Xs hb;refine RM func239 Agh ?_
 refine Cp (Sz b hb) ?_;refine Aa.p (Uq (Fz b) Om (λt ht=>by have:=hl.2 t ht;omega)) ?_;refine (mq et ?_).1;exact FA Agh []
def Oo {b:List Int} (hb:b.length≤1048576):(B3 b).length≤4000000000000:=by
 have hl:=J9 b;have h1:=Xn (Fz b);have h2:=(N3 (l:=Fz b) λt ht=>by have:=hl.2 t ht;omega).2;unfold B3;omega
def Vf (b:List Int):List Int×Bool:=if ID b=true then(B3 b,true)else([],false)
def TH (b:List Int) (hb:b.length≤1048576):Ct prog 227 [Bd .u8 b] [] (λ_=>.tup [Bd .u8 (Vf b).1,bA (Vf b).2]) [] (λ_=>[]):=by
 refine Ah.toCt ?_ cl cl
 have hl:=Oo hb;have e1:max ((B3 b).length:Int) 0=(B3 b).length:=Om
 have e2:decide ((b.length:Int)≤((vb ((B3 b).length:Int)).length:Int)+(B3 b).length)= !ID b:=by unfold ID;rw[←decide_not];simp
 refine RM func227 Ac9 ?_
 refine Aa.p (Va b hb) (mq @Ab ?_).1;refine Aa.p (JC _ Om) (ms e1 @Ab e2 ?_).1;cases hp:ID b with
 |true=>
  refine (mp ?_).1
  exact FK Ac9 [] (by simp[Vf,hp])
 |false=>
  refine (mp ?_).1;refine UT 2 ?_
  exact FK Ac9 [] (by simp[Vf,hp])
def WS.blk (s:WS) (b:List Int):WS:=if ID b=true then(((s.put (vb b.length)).put [1]).put (vb ((B3 b).length:Int))).put (B3 b)else((s.put (vb b.length)).put [0]).put b
def WS.fine.blk {s:WS} (h:s.fine) (b:List Int):(s.blk b).fine:=by
 unfold WS.blk;split
 ·exact(((h.put _).put _).put _).put _
 ·exact((h.put _).put _).put _
def bJ {s:WS} {b:List Int} (h:s.code=0) (hm:(s.l.length:Int)+(HZ b).length≤s.most):s.blk b=⟨s.most,s.l++HZ b,0⟩:=by
 unfold WS.blk;unfold HZ at hm ⊢;cases hp:ID b with
 |true=>
  rw[hp,if_pos rfl]at hm;simp only[length_append,length_singleton]at hm;rw[if_pos rfl,if_pos rfl,WS.put_ok h Om];rw[WS.put_ok (s:={s with l:=s.l++vb (b.length:Int)}) h (by simp only[length_append,length_singleton];omega)];rw[WS.put_ok (s:={s with l:=s.l++vb (b.length:Int)++[1]}) h (by simp only[length_append,length_singleton];omega)];rw[WS.put_ok (s:={s with l:=s.l++vb (b.length:Int)++[1]++vb ((B3 b).length:Int)}) h (by simp only[length_append,length_singleton];omega)];cases s;simp at h;simp[h]
 |false=>
  rw[hp,if_neg Si]at hm;simp only[length_append,length_singleton]at hm;rw[if_neg Si,if_neg Si,WS.put_ok h Om];rw[WS.put_ok (s:={s with l:=s.l++vb (b.length:Int)}) h (by simp only[length_append,length_singleton];omega)];rw[WS.put_ok (s:={s with l:=s.l++vb (b.length:Int)++[0]}) h (by simp only[length_append,length_singleton];omega)];cases s;simp at h;simp[h]
def ZD (s:WS) (b:List Int) (hs:s.fine) (hb:b.length≤1048576):Ah prog 199 [.ref 0 0,Bd .u8 b] [B0 1 s,AX s] (.tup []) [B0 1 (s.blk b),AX (s.blk b)]:=by
 have c0:decide ((1048576:Int)<b.length)=false:=by simp;omega
 have e:=FM b Om;have hl:=Oo hb;refine RN func199 Adh ?_;refine (ms @Ab c0 e ?_).1
 refine Aa.u2 (Br s b.length 0 1 De Om Om hs.ok (hs.room _)) rfl rfl (mp ?_).1;refine Cp (TH b hb) ?_;cases hp:ID b with
 |true=>
  have e1:Vf b=(B3 b,true):=by unfold Vf;rw[hp];rfl
  have eb:s.blk b=(((s.put (vb b.length)).put [1]).put (vb ((B3 b).length:Int))).put (B3 b):=by unfold WS.blk;rw[hp];rfl
  have h1:[AV.lit (.int .u8 1)]=A0 .u8 [1]:=rfl;refine (mr e1 h1 ?_).1;refine (Sr ?_).1;refine Aa.u2 (BV _ [1] 0 1 De (hs.put _).ok ((hs.put _).room _)) rfl rfl (mp ?_).1;refine Aa.u2 (WT _ (B3 b) 0 1 De ((hs.put _).put _) Om) rfl rfl (mp ?_).1;rw[eb];exact FA Adh [0,1]
 |false=>
  have e1:Vf b=([],false):=by unfold Vf;rw[hp];rfl
  have eb:s.blk b=((s.put (vb b.length)).put [0]).put b:=by unfold WS.blk;rw[hp];rfl
  have h1:[AV.lit (.int .u8 0)]=A0 .u8 [0]:=rfl;refine (mr e1 h1 ?_).1;refine (Sr ?_).1;refine Aa.u2 (BV _ [0] 0 1 De (hs.put _).ok ((hs.put _).room _)) rfl rfl (mp ?_).1;refine Aa.u2 (BV _ b 0 1 De ((hs.put _).put _).ok (((hs.put _).put _).room _)) rfl rfl (mp ?_).1;rw[eb];exact FA Adh [0,1]
def RW (s:WS) (b:List Int) (i j:Nat) (h:i≠j) (hs:s.fine) (hb:b.length≤1048576):Ct prog 199 [.ref i 0,Bd .u8 b] [(i,B0 j s),(j,AX s)] (λ_=>.tup []) [(i,B0 j (s.blk b)),(j,AX (s.blk b))] (λ_=>[]):=Ct.u2 (ZD s b hs hb) i j h cl cl cl cl cl (Bx _ _) (Bg _) CN
def WQ (b:List Int) (hb:b.length≤1048576):Ct prog 134 [Bd .u8 b] [] (λ_=>.tup [Bd .u8 (HZ b),iA 0]) [] (λ_=>[]):=by
 refine Ah.toCt ?_ cl cl
 have e1:max (b.length:Int) 0=b.length:=Om
 have hv:=A7 (b.length:Int);have e2:IntKind.i64.wrap (((vb (b.length:Int)).length:Int)+b.length+1)=(vb (b.length:Int)).length+b.length+1:=i64_in _ Om;have f0:(WS.new (((vb (b.length:Int)).length:Int)+b.length+1)).fine:=WS.fine.new Om;have hbl:=Py b;have hfit:(WS.new (((vb (b.length:Int)).length:Int)+b.length+1)).blk b=⟨((vb (b.length:Int)).length:Int)+b.length+1,HZ b,0⟩:=by
  rw[WS.new_is Om,bJ rfl (by simp;omega)];simp
 refine RN func134 Ahm ?_;refine (mq @Ab ?_).1
 refine Aa.p (JC (b.length:Int) Om) (mr e1 e2 ?_).1;refine Aa.n (E5 _) (mp ?_).1;refine Aa.u2 (RW _ b 0 1 De f0 hb) rfl rfl (mq hfit ?_).1;refine Aa.r2 (BW _ 0 1 De (by simp only[];omega)) rfl rfl ?_;refine (mp ?_).1
 exact FK Ahm [] (by simp[WS.bytes])
def Wy (b:Int) (l:List Int):List Int:=if Cs b l=true then Dm b l l.length else[]
def TA (b:Int) (l:List Int) (b0:0≤b) (b1:b<18446744073709551616) (hl:H2 l) (hn:l.length*8≤140737488355328):Ah prog 241 [uA b,LG l] [] (.tup [LG (Wy b l),bA (Cs b l)]) []:=by
 refine RN func241 Ac2 ?_;refine (mq @Ab ?_).1
 refine AA (α:=Nat) (λk=>uA (bat b l k)::.any::.any::.any::.any::.any::.sl (.row 0) 1 (A0 .u64 (Dm b l k))::.any::.any::LG l::iA l.length::iA k::Az []) (λk=>[.row 1 k]) (λk=>k≤l.length∧∀i,i<k->l.getD i 0<bat b l i) (λk=>l.length-k) 0 ⟨Si,by intro i hi;omega⟩ ((Wk.row 6 1 rfl (.inl rfl) (Nat.le_refl _)).trans (Wk.to Si (by simp[BS,A0,Dm,bat]))) ?_;rintro k ⟨hk,hf⟩;have hbk:bat b l k<18446744073709551616:=by
  unfold bat;split
  ·exact b1
  ·exact(hl _ (CU l (k-1) Om)).2
 refine (mp ?_).1;refine Av (λh=>?_) (λh=>?_)
 ·have hlt:k<l.length:=Sx h
  have g:=FH l k hlt;have hx:=hl _ (CU l k hlt);have ei:=Aw k Om;refine (mr g @Ab ?_).1;(repeat with_reducible refine Sa ?_);refine Av (λh=>?_) (λh=>?_)
  ·have h2:bat b l k≤l.getD k 0:=Sx h
   have hno:Cs b l=false:=iF hlt h2;refine (mp ?_).1;refine UT 4 ?_
   (refine FB Ac2 [] ?_ ?_<;>first|with_reducible rfl|(simp[hno,Wy];done)|rfl)
  ·have h2:l.getD k 0<bat b l k:=by simp at h;simpa using h
   have hs:=Jx b l k;have e1:IntKind.u64.wrap (bat b l k-l.getD k 0)=bat b l k-l.getD k 0:=u64_in _ Om;have e2:IntKind.u64.wrap (bat b l k-l.getD k 0-1)=dst b l k:=by rw[u64_in _ Om,x8];omega
   simp only[go_sem,seval,e1,e2,ei,El,←hs,Ab,DY];refine (mok ?_).1;(repeat with_reducible refine Sa ?_);refine⟨k+1,⟨hlt,λi hi=>?_⟩,Om,Wk.to Si (by simp[BS,rA])⟩;rcases Nat.lt_or_ge i k with h3|h3
   ·exact hf i h3
   ·obtain rfl:i=k:=Om
    exact h2
 ·have ek:k=l.length:=by simp at h;omega
  have hyes:Cs b l=true:=iG.2 λi hi=>hf i Om
  refine (mp ?_).1;refine UT 4 ?_
  (refine FB Ac2 [] ?_ ?_<;>first|with_reducible rfl|(simp[hyes,Wy,ek];done)|rfl)
def IV (b:Int) (l:List Int) (b0:0≤b) (b1:b<18446744073709551616) (hl:H2 l) (hn:l.length*8≤140737488355328):Ct Tryz.prog 241 [uA b,LG l] [] (λ_=>.tup [LG (Wy b l),bA (Cs b l)]) [] (λ_=>[]):=(TA b l b0 b1 hl hn).toCt cl cl
def WB (b:Int) (l:List Int) (b0:0≤b) (b1:b<18446744073709551616) (hl:H2 l) (hn:l.length*8≤140737488355328):Ct prog 234 [uA b,LG l] [] (λ_=>bA (Cs b l)) [] (λ_=>[]):=by
 refine Ah.toCt ?_ cl cl
 refine RM func234 Agj ?_
 refine Cp (IV b l b0 b1 hl hn) ?_;exact FA Agj []
def WS.fall (s:WS) (b:Int) (l:List Int):WS:=if Cs b l=true then(s.put (vb l.length)).puts (Dm b l l.length)else s.fail 3
def Zq (s:WS) (b:Int) (l:List Int) (hs:s.fine) (b0:0≤b) (b1:b<18446744073709551616) (hl:H2 l) (hn:l.length*8≤140737488355328):Ah prog 244 [.ref 0 0,uA b,LG l] [B0 1 s,AX s] (.tup []) [B0 1 (s.fall b l),AX (s.fall b l)]:=by
 have e:=FM l Om;refine RM func244 Ac0 ?_
 refine Aa.p (IV b l b0 b1 hl hn) ?_;cases hf:Cs b l
 ·refine (mq hf ?_).1;refine Aa.u2 (Cj s 3 0 1 De) rfl rfl (mp ?_).1
  (refine FB Ac0 [0,1] ?_ ?_<;>first|with_reducible rfl|(simp[WS.fall,hf];done)|rfl)
 ·have hd:Wy b l=Dm b l l.length:=by unfold Wy;rw[if_pos hf]
  refine (mt hf hd @Ab e ?_).1;refine Aa.u2 (Br s l.length 0 1 De Om Om hs.ok (hs.room _)) rfl rfl (mr @Ab @DY ?_).1;refine AA (α:=Nat) (λk=>.ref 0 0::Az (Ay (Ay [LG (Dm b l l.length),iA l.length,iA k,.any,.any,.any,.any,.any,.any,.any]))) (λk=>[B0 1 ((s.put (vb l.length)).puts (Dm b l k)),AX ((s.put (vb l.length)).puts (Dm b l k))]) (λk=>k≤l.length) (λk=>l.length-k) 0 Si (Wk.to (by simp[WS.puts,Dm]) (by simp[BS])) ?_;intro k hk;refine (mp ?_).1;refine Av (λh=>?_) (λh=>?_)
  ·have hlt:k<l.length:=Sx h
   have g:(A0 .u64 (Dm b l l.length)).getD (k:Int).toNat .any=uA (dst b l k):=by rw[FH _ k (by rw[DY];exact hlt),Wx b l _ k hlt]
   have hx:=L5 b1 hl hf hlt;have ei:=Aw k Om;have hps:=Rb (s.put (vb l.length)) (Dm b l k) (dst b l k);rw[←Jx]at hps;refine (ms g @Ab @DY ?_).1;(repeat with_reducible refine Sa ?_);refine Aa.u2 (Br _ (dst b l k) 0 1 De hx.1 hx.2 ((hs.put _).puts _).ok (((hs.put _).puts _).room _)) rfl rfl ?_;simp only[go_sem,seval,ei,←hps];refine (mok ?_).1;exact⟨k+1,hlt,Om,Wk.to Si (by simp[BS])⟩
  ·have ek:k=l.length:=by simp at h;omega
   refine (mp ?_).1
   (refine FB Ac0 [0,1] ?_ ?_<;>first|with_reducible rfl|(simp[WS.fall,hf,ek];done)|rfl)
def i7 (s:WS) (b:Int) (l:List Int) (i j:Nat) (h:i≠j) (hs:s.fine) (b0:0≤b) (b1:b<18446744073709551616) (hl:H2 l) (hn:l.length*8≤140737488355328):Ct prog 244 [.ref i 0,uA b,LG l] [(i,B0 j s),(j,AX s)] (λ_=>.tup []) [(i,B0 j (s.fall b l)),(j,AX (s.fall b l))] (λ_=>[]):=Ct.u2 (Zq s b l hs b0 b1 hl hn) i j h cl cl cl cl cl (Bx _ _) (Bg _) CN
def Wz (b:Int) (l:List Int) (b0:0≤b) (b1:b<18446744073709551616) (hl:H2 l) (hn:l.length*10≤140737488355328):Ah prog 243 [uA b,LG l] [] (iA (if Cs b l=true then(DD b l).length else 0)) []:=by
 have e:=FM l Om;have eB:((DD b l).length:Int)=(vb l.length).length+(JW (Dm b l l.length)).length:=by simp[DD]
 have hv:=(A7 l.length).2;refine RM func243 Ac1 ?_
 refine Aa.p (IV b l b0 b1 hl Om) ?_;cases hf:Cs b l
 ·refine (mq hf ?_).1
  exact FE Ac1 [] hf
 ·have hd:Wy b l=Dm b l l.length:=by unfold Wy;rw[if_pos hf]
  refine (mt hf hd @Ab e ?_).1;refine Aa.p (C0 l.length Om Om) (mr @Ab @DY ?_).1;refine AA (α:=Nat) (λk=>Ay (.any::.any::.any::iA ((vb l.length).length+(JW (Dm b l k)).length)::Ay (Ay (Ay (.any::.any::LG (Dm b l l.length)::iA l.length::iA k::Ay (Ay [.any])))))) (λ_=>[]) (λk=>k≤l.length) (λk=>l.length-k) 0 Si (Wk.to Si (by simp[BS,JW,Dm])) ?_;intro k hk;refine (mp ?_).1;refine Av (λh=>?_) (λh=>?_)
  ·have hlt:k<l.length:=Sx h
   have g:(A0 .u64 (Dm b l l.length)).getD (k:Int).toNat .any=uA (dst b l k):=by rw[FH _ k (by rw[DY];exact hlt),Wx b l _ k hlt]
   have hx:=L5 b1 hl hf hlt;have ei:=Aw k Om;have h1:=Nh (Dm b l k);rw[DY]at h1;have h2:=(A7 (dst b l k)).2;have es:IntKind.i64.wrap (((vb (l.length:Int)).length:Int)+((JW (Dm b l k)).length:Int)+((vb (dst b l k)).length:Int))=(vb (l.length:Int)).length+(JW (Dm b l (k+1))).length:=by
    rw[i64_in _ Om,Jx,Ud,length_append];omega
   refine (ms g @Ab @DY ?_).1;(repeat with_reducible refine Sa ?_);refine Aa.p (C0 _ hx.1 hx.2) (mr es ei ?_).1;exact⟨k+1,hlt,Om,Wk.to Si (by simp[BS])⟩
  ·have ek:k=l.length:=by simp at h;omega
   refine (mp ?_).1
   (refine FB Ac1 [] ?_ ?_<;>first|with_reducible rfl|(simp[ek,hf,eB];done)|rfl)
def Zp (b:Int) (l:List Int) (b0:0≤b) (b1:b<18446744073709551616) (hl:H2 l) (hn:l.length*10≤140737488355328):Ct Tryz.prog 243 [uA b,LG l] [] (λ_=>iA (if Cs b l=true then(DD b l).length else 0)) [] (λ_=>[]):=(Wz b l b0 b1 hl hn).toCt cl cl
def Ze {b:Int} {s:RS} {acc:List Int} (hx:Ie b acc≤s.vint.2):((Df b).f s acc).1=s.vint.1.fail 13 s.at_∧¬((Df b).f s acc).1.code=0:=by
 show(if s.vint.1.code=0∧Ie b acc≤s.vint.2 then(s.vint.1.fail 13 s.at_,(0:Int))else(s.vint.1,Ie b acc-1-s.vint.2)).1=_∧_;by_cases hc:s.vint.1.code=0
 ·refine⟨by rw[if_pos ⟨hc,hx⟩],?_⟩;show¬(if s.vint.1.code=0∧Ie b acc≤s.vint.2 then(s.vint.1.fail 13 s.at_,(0:Int))else(s.vint.1,Ie b acc-1-s.vint.2)).1.code=0;rw[if_pos ⟨hc,hx⟩];exact BF _ _ hc De
 ·refine⟨?_,?_⟩
  ·rw[if_neg λh=>hc h.1];unfold RS.fail;rw[if_neg hc]
  ·show¬(if s.vint.1.code=0∧Ie b acc≤s.vint.2 then(s.vint.1.fail 13 s.at_,(0:Int))else(s.vint.1,Ie b acc-1-s.vint.2)).1.code=0;rw[if_neg λh=>hc h.1];exact hc
def Zf {b:Int} {s:RS} {acc:List Int} (hx:s.vint.2<Ie b acc):(Df b).f s acc=(s.vint.1,Ie b acc-1-s.vint.2):=by
 show(if s.vint.1.code=0∧Ie b acc≤s.vint.2 then(s.vint.1.fail 13 s.at_,(0:Int))else(s.vint.1,Ie b acc-1-s.vint.2))=_;rw[if_neg Om]
def WA (s:RS) (b m:Int) (b0:0≤b) (b1:b<18446744073709551616) (m1:m<9223372036854775808) (hs:Ak s) (hn:s.l.length*8≤140737488355328):Ah prog 201 [.ref 0 0,uA b,iA m] [AN s] (LG (s.fall b m).2) [AN ((s.fall b m).1)]:=by
 have hF:=Lf b1;have hir:=CB (s:=s) (m:=m) hs.bys;have⟨hi1,hi2⟩:=hs.int m;unfold RS.fall DH.counted;refine RM func201 yZ ?_
 refine Aa.u1 (AS s m 0 m1 hs.ok hs.bys) rfl ?_;generalize hu:(s.int m).1=u at*;generalize(s.int m).2=z at*;obtain⟨N,hN⟩:∃N,z.toNat=N:=⟨_,rfl⟩;have hz:z=(N:Int):=Om
 subst hz;rw[Int.toNat_natCast];refine (mp ?_).1;refine AA (α:=RS×List Int) (λa=>.ref 0 0::uA (Ie b a.2)::.any::.any::.any::.any::.any::.sl (.row 1) 1 (A0 .u64 a.2)::.any::.any::.any::.any::iA N::iA a.2.length::Az (Ay (Ay []))) (λa=>[AN a.1,.row 1 a.2.length]) ((Df b).On u N) (λa=>N-a.2.length) (u,[]) (DH.On.start hi1 N) ((Wk.row 7 1 rfl (.inl rfl) (Nat.le_refl _)).trans (Wk.to Si (by simp[BS,A0,Ie]))) ?_;rintro⟨t,acc⟩ ho;have hla:=ho.len;rw[hi2]at hla;have h1:=ho.ok;have h6:=ho.res;have hw:=NA ho.wf;simp only at h1 h6 hw;refine (mp ?_).1;refine Av (λh=>?_) (λh=>?_)
 ·have hlt:acc.length<N:=Sx h
  have ei:=Aw acc.length Om;have hx:=A8 (s:=t) h1.bys;refine (mp ?_).1;refine Aa.r1 (AF t 0) rfl (mp ?_).1;refine Aa.u1 (BI t 0 h1.ok h1.bys) rfl (mp ?_).1;by_cases hv:Ie b acc≤t.vint.2
  ·have q:decide (Ie b acc≤t.vint.2)=true:=Sx hv
   have⟨o1,o2⟩:=Ze (b:=b) (s:=t) (acc:=acc) hv;have hb:=DX (F:=Df b) (s:=t) hlt o2;rw[h6,o1]at hb;rw[o1]at o2;refine (mq q ?_).1;refine Aa.u1 (Aj _ 13 _ 0) rfl (mp ?_).1;refine Aa.r1 (Ae _ 0) rfl (mq (Au o2) ?_).1;refine UT 6 ?_
   exact FE yZ [0] hb
  ·have q:decide (Ie b acc≤t.vint.2)=false:=Sx hv
   have hf:=Zf (b:=b) (s:=t) (acc:=acc) Om;refine (mq q ?_).1;refine Aa.r1 (Ae _ 0) rfl ?_;by_cases hc:t.vint.1.code=0
   ·have hnx:=ho.next hF hlt (by rw[hf];exact hc);rw[hf]at hnx;have hl2:=hnx.len;rw[length_append,length_singleton,hi2]at hl2;have e1:IntKind.u64.wrap (t.vint.2+1)=t.vint.2+1:=u64_in _ Om;have e2:IntKind.u64.wrap (Ie b acc-(t.vint.2+1))=Ie b acc-1-t.vint.2:=by rw[u64_in _ Om];omega
    simp only[go_sem,seval,AR hc,e1,e2,El,Ab,ei];refine (mok ?_).1;(repeat with_reducible refine Sa ?_);exact⟨(t.vint.1,acc++[Ie b acc-1-t.vint.2]),hnx,by simp;omega,Wk.to Si (by simp[BS,WN])⟩
   ·have hb:=DX (F:=Df b) (s:=t) (acc:=acc) hlt (by rw[hf];exact hc);rw[h6,hf]at hb;refine (mq (Au hc) ?_).1;refine UT 6 ?_
    exact FE yZ [0] hb
 ·have hge:N≤acc.length:=Sx h
  have hb:=G8 (F:=Df b) (s:=t) hge;rw[h6]at hb;refine (mp ?_).1;refine UT 6 ?_
  exact FE yZ [0] hb
def Kw (s:RS) (b m:Int) (i:Nat) (b0:0≤b) (b1:b<18446744073709551616) (m1:m<9223372036854775808) (hs:Ak s) (hn:s.l.length*8≤140737488355328):Ct prog 201 [.ref i 0,uA b,iA m] [(i,AN s)] (λ_=>LG (s.fall b m).2) [(i,AN ((s.fall b m).1))] (λ_=>[]):=Ct.u1 (WA s b m b0 b1 m1 hs hn) i cl (λρ=>An ρ _) (λρ=>An ρ _) (rdr_dead _) cl
abbrev Ub (x:Lk):AV:=.agg [uA x.st,LG x.bk]
def Nt (l:List Lk):List AV:=l.map Ub
abbrev Gg (l:List Lk):AV:=.sl .none 2 (Nt l)
@[simp] theorem uU (ρ:Nat->Nat) (l:List Lk):(Nt l).map (λx=>x.ren ρ)=Nt l:=by
 have h:∀(k:IntKind) (m:List Int),(A0 k m).map (λx=>x.ren ρ)=A0 k m:=AM ρ;simp[Nt,AE]
@[simp] theorem Abj (ρ:Nat->Nat) (k:IntKind) (l:List Int):(A0 k l).map (λx=>x.ren ρ)=A0 k l:=AM ρ k l
def AZ (l:List Lk):(Nt l).length=l.length:=by simp[Nt]
def SJ:Nt []=[]:=(rfl)
def OB (l:List Lk) (x:Lk):Nt l++[Ub x]=Nt (l++[x]):=by simp[Nt]
def D4 (l:List Lk) (k:Nat) (h:k<l.length):(Nt l).getD k .any=Ub (l.getD k Ei):=by simp[Nt,h]
def wD (l:List Lk) (k:Nat) (h:k<l.length):l.take (k+1)=l.take k++[l.getD k Ei]:=by
 rw[take_succ_eq_append_getElem h];simp[h]
def PL.take {l:List Lk} (h:PL l) (k:Nat):PL (l.take k):=λx hx=>h x (mem_of_mem_take hx)
def K9 (k:Nat) (h0:0<k) (h:k<140737488355328):IntKind.i64.wrap ((k:Int)-1)=((k-1:Nat):Int):=by rw[i64_in _ Om];omega
def Mr (x:Lk):Ct prog 232 [Ub x] [] (λ_=>uA x.st) [] (λ_=>[]):=by
 refine Ah.toCt ?_ cl cl
 refine RM func232 Agk ?_
 exact FA Agk []
def VC (l:List Lk) (hn:l.length≤1000000):Ah prog 231 [Gg l,.fn 232 [] []] [] (bA (ED l)) []:=by
 refine RN func231 Ac7 ?_;refine (mq @AZ ?_).1
 refine AA (α:=Nat) (λk=>Gg l::.fn 232 [] []::.any::.any::.any::.any::.any::iA l.length::iA k::Az (Ay [.any])) (λ_=>[]) (λk=>k≤l.length∧∀i,i<k->0<i->(l.getD (i-1) Ei).st<(l.getD i Ei).st) (λk=>l.length-k) 0 ⟨Si,λi hi=>by omega⟩ (Wk.to Si (by simp[BS])) ?_;rintro k ⟨hk,hall⟩;refine (mp ?_).1;by_cases hlt:k<l.length
 ·have q1:decide ((k:Int)<(l.length:Int))=true:=by simp;omega
  have ek:=Aw k Om;have g:=D4 l k hlt;by_cases h0:0<k
  ·have q2:decide ((0:Int)<(k:Int))=true:=by simp;omega
   have ep:=K9 k h0 Om;have g2:=D4 l (k-1) Om;simp only[go_sem,seval,q1,q2,g,AZ,Int.toNat_natCast];refine (mok ?_).1;(repeat with_reducible refine Sa ?_);refine Aa.p (Mr (l.getD k Ei)) (mt ep g2 @AZ @Int.toNat_natCast ?_).1;(repeat with_reducible refine Sa ?_);refine Aa.p (Mr (l.getD (k-1) Ei)) ?_;by_cases hs:(l.getD k Ei).st≤(l.getD (k-1) Ei).st
   ·have q3:decide ((l.getD k Ei).st≤(l.getD (k-1) Ei).st)=true:=Sx hs
    have e:ED l=false:=by
     cases hr:ED l with
     |false=>rfl
     |true=>have:=FX.1 hr k hlt h0;omega
    refine (mq q3 ?_).1
    exact FE Ac7 [] e
   ·have q3:decide ((l.getD k Ei).st≤(l.getD (k-1) Ei).st)=false:=Sx hs
    refine (mr q3 ek ?_).1;exact⟨k+1,⟨hlt,λi hi h1=>by
     rcases Nat.lt_or_ge i k with h|h
     ·exact hall i h h1
     ·obtain rfl:i=k:=Om
      omega⟩,Om,Wk.to Si (by simp[BS])⟩
  ·have q2:decide ((0:Int)<(k:Int))=false:=by simp;omega
   refine (ms q1 q2 ek ?_).1;exact⟨k+1,⟨hlt,λi hi h1=>by omega⟩,Om,Wk.to Si (by simp[BS])⟩
 ·have q1:decide ((k:Int)<(l.length:Int))=false:=by simp;omega
  have e:ED l=true:=FX.2 λi hi h0=>hall i Om h0
  refine (mq q1 ?_).1
  exact FE Ac7 [] e
def Yq (l:List Lk) (hn:l.length≤1000000):Ct Tryz.prog 231 [Gg l,.fn 232 [] []] [] (λ_=>bA (ED l)) [] (λ_=>[]):=(VC l hn).toCt cl cl
def xE {α:Type} {p:α->Bool} {l:List α} (h:∀x∈l,p x=false):l.findIdx p=l.length:=findIdx_eq_length.2 h
def VD (f:FuncId) (o:Ad) (ok:Lk->Bool) (ho:∀ρ,o.ren ρ=o) (hd:o≠ .dead) (l:List Lk) (hf:∀x∈l,∀i,Ct prog f [Ub x,.ref i 0] [(i,o)] (λ_=>bA (ok x)) [] (λ_=>[])) (hn:l.length≤1000000):
 Ah prog 235 [Gg l,.fn f [] [.ref 0 0]] [o] (iA (l.findIdx ok)) [o]:=by
 refine RN func235 Ac5 ?_;refine (mq @AZ ?_).1
 refine AA (α:=Nat) (λk=>Gg l::.fn f [] [.ref 0 0]::.any::.any::.any::.any::.any::Gg l::iA l.length::iA k::Ay (Ay [.any,.any,.any])) (λ_=>[o]) (λk=>k≤l.length∧∀i (h:i<l.length),i<k->ok l[i]=false) (λk=>l.length-k) 0 ⟨Si,λi _ hi=>by omega⟩ (Wk.to Si (by simp[BS])) ?_;rintro k ⟨hk,hall⟩;refine (mp ?_).1;by_cases hlt:k<l.length
 ·have q1:decide ((k:Int)<(l.length:Int))=true:=by simp;omega
  have ek:=Aw k Om;have g:=D4 l k hlt;have eg:l.getD k Ei=l[k]:=by simp[hlt]
  have hm:=EI l k hlt;have hfx:=hf _ hm 0;rw[eg]at g hfx;refine (mt q1 g @AZ @Int.toNat_natCast ?_).1;(repeat with_reducible refine Sa ?_);refine Aa.r1 (hfx) rfl ?_;by_cases hs:ok l[k]=true
  ·have e:l.findIdx ok=k:=by
    rw[findIdx_eq hlt];exact⟨hs,λj hj=>hall j Om hj⟩
   refine (mq hs ?_).1
   exact FF Ac5 [0] e ho
  ·have hs':ok l[k]=false:=Sx hs
   refine (mr hs' ek ?_).1;exact⟨k+1,⟨hlt,λi h hi=>by
    rcases Nat.lt_or_ge i k with h1|h1
    ·exact hall i h h1
    ·obtain rfl:i=k:=Om
     exact hs'⟩,Om,Wk.sel [0] Si rfl Si rfl (by simp[ho]) (by simp[BP,AE])⟩
 ·have q1:decide ((k:Int)<(l.length:Int))=false:=by simp;omega
  have e:l.findIdx ok=l.length:=xE λx hx=>by
   obtain⟨i,hi,rfl⟩:=getElem_of_mem hx;exact hall i hi Om
  refine (mr q1 @AZ ?_).1
  exact FF Ac5 [0] e ho
def Yr (f:FuncId) (o:Ad) (ok:Lk->Bool) (ho:∀ρ,o.ren ρ=o) (hd:o≠ .dead) (l:List Lk) (hf:∀x∈l,∀i,Ct prog f [Ub x,.ref i 0] [(i,o)] (λ_=>bA (ok x)) [] (λ_=>[])) (hn:l.length≤1000000) (i:Nat):
 Ct prog 235 [Gg l,.fn f [] [.ref i 0]] [(i,o)] (λ_=>iA (l.findIdx ok)) [] (λ_=>[]):=Ct.r1 (VD f o ok ho hd l hf hn) i cl ho hd CN
abbrev vI (x:Int):Ad:=.cells [uA x]
def SM (pos:Int) (x:Lk) (hx:x.ok) (p0:0≤pos) (p1:pos<18446744073709551616) (hn:x.bk.length≤1000000):Ah prog 233 [Ub x,.ref 0 0] [vI pos] (bA (!Ha pos x)) [vI pos]:=by
 refine RN func233 Ac6 ?_;refine (mq @Ab ?_).1
 by_cases h4:x.bk.length≤4
 ·have q1:decide (4<(x.bk.length:Int))=false:=by simp;omega
  have e:Ha pos x=Cs pos x.bk:=by unfold Ha;rw[decide_eq_true h4];simp
  refine (mq q1 ?_).1;refine Cp (WB pos x.bk p0 p1 hx.b Om) ?_
  exact FE Ac6 [0] e
 ·have q1:decide (4<(x.bk.length:Int))=true:=by simp;omega
  have e:Ha pos x=false:=by unfold Ha;rw[decide_eq_false h4];simp
  refine (mq q1 ?_).1
  exact FE Ac6 [0] e
def VF (pos:Int) (x:Lk) (hx:x.ok) (p0:0≤pos) (p1:pos<18446744073709551616) (hn:x.bk.length≤1000000) (i:Nat):Ct prog 233 [Ub x,.ref i 0] [(i,vI pos)] (λ_=>bA (!Ha pos x)) [] (λ_=>[]):=
 Ct.r1 (SM pos x hx p0 p1 hn) i cl (λρ=>by simp[AE]) Si CN
def DS (l:List Lk):Prop:=l.length≤1000000∧∀x∈l,x.bk.length≤1000000
def Kf (pos:Int) (l:List Lk) (hl:PL l) (hm:DS l) (p0:0≤pos) (p1:pos<18446744073709551616):Ct prog 207 [uA pos,Gg l] [] (λ_=>bA (BH pos l)) [] (λ_=>[]):=by
 refine Ah.toCt ?_ cl cl
 have⟨hn,hb⟩:=hm;refine RN func207 yY ?_;refine (mq @AZ ?_).1
 by_cases h16:l.length≤16
 ·have q1:decide (16<(l.length:Int))=false:=by simp;omega
  refine (mq q1 ?_).1;refine Aa.p (Yq l hn) ?_;by_cases hr:ED l=true
  ·have he:BH pos l=((l.findIdx λx=> !Ha pos x:Nat)==l.length):=by
    rw[Bool.eq_iff_iff,Dz,beq_iff_eq,findIdx_eq_length];simp[h16,hr]
   have he2:(((l.findIdx λx=> !Ha pos x:Nat):Int)==(l.length:Int))=BH pos l:=by
    rw[he,Bool.eq_iff_iff,beq_iff_eq,beq_iff_eq];omega
   refine (mq hr ?_).1;refine Aa.r1 (Yr 233 (vI pos) (λx=> !Ha pos x) (λρ=>by simp[AE]) Si l (λx hx i=>VF pos x (hl x hx) p0 p1 (hb x hx) i) hn _) rfl (mr @AZ he2 ?_).1;exact FA yY []
  ·have hr':ED l=false:=Sx hr
   have he:BH pos l=false:=by simp[BH,hr']
   refine (mq hr' ?_).1
   exact FE yY [] he
 ·have q1:decide (16<(l.length:Int))=true:=by simp;omega
  have he:BH pos l=false:=by simp[BH,h16]
  refine (mq q1 ?_).1
  exact FE yY [] he
def Ht (l:List Lk) (i:Nat):Int:=(l.getD i Ei).st-H_ (l.take i)-1
def FW (l:List Lk) (k:Nat):List Int:=(List.range k).map (Ht l)
def Xz (l:List Lk) (k:Nat):FW l (k+1)=FW l k++[Ht l k]:=by simp[FW,range_succ]
def EP (l:List Lk) (k:Nat):(FW l k).length=k:=by simp[FW]
def QZ (l:List Lk) (n k:Nat) (h:k<n):(FW l n).getD k 0=Ht l k:=by simp[FW,h]
def JY {l:List Lk} (hl:PL l) (hr:ED l=true) {i:Nat} (hi:i<l.length):0≤Ht l i∧Ht l i<18446744073709551616:=by
 have ho:=hl _ (EI l i hi);have h0:=ho.s0;have h1:=ho.s1;unfold Ht;rw[K4 l i Om];split
 ·omega
 ·rename_i hz;have:=FX.1 hr i hi Om;have hp:=(hl _ (EI l (i-1) Om)).s0;omega
def VB (l:List Lk) (hl:PL l) (hr:ED l=true) (hn:l.length≤1000000):Ah prog 242 [Gg l] [] (LG (FW l l.length)) []:=by
 refine RN func242 Agf ?_;refine (mq @AZ ?_).1
 refine AA (α:=Nat) (λk=>Gg l::.any::.any::.sl (.row 0) 1 (A0 .u64 (FW l k))::.any::.any::.any::Gg l::iA l.length::iA k::Az (Ay [.any,.any,.any])) (λk=>[.row 1 k]) (λk=>k≤l.length) (λk=>l.length-k) 0 Si ((Wk.row 3 1 rfl (.inl rfl) De).trans (Wk.to Si (by simp[BS,A0,FW]))) ?_;intro k hk;have hkl:=EP l k;refine (mp ?_).1;by_cases hlt:k<l.length
 ·have q1:decide ((k:Int)<(l.length:Int))=true:=by simp;omega
  have ek:=Aw k Om;have g:=D4 l k hlt;have ho:=hl _ (EI l k hlt);have hs:=JY hl hr hlt;have hss:=Xz l k;have est:Ht l k=if k=0 then(l.getD k Ei).st else(l.getD k Ei).st-(l.getD (k-1) Ei).st-1:=by
   unfold Ht;rw[K4 l k Om];split
   ·omega
   ·rfl
  by_cases h0:0<k
  ·have q2:decide ((0:Int)<(k:Int))=true:=by simp;omega
   rw[if_neg Om]at est;have ep:=K9 k h0 Om;have g2:=D4 l (k-1) Om;have hp:=hl _ (EI l (k-1) Om);have hp0:=hp.s0;have ho1:=ho.s1;have w1:IntKind.u64.wrap ((l.getD (k-1) Ei).st+1)=(l.getD (k-1) Ei).st+1:=u64_in _ Om;have w2:IntKind.u64.wrap ((l.getD k Ei).st-((l.getD (k-1) Ei).st+1))=Ht l k:=by rw[u64_in _ Om];omega
   simp only[go_sem,seval,q1,q2,g,g2,ep,w1,w2,AZ,Int.toNat_natCast];refine (mok ?_).1;(repeat with_reducible refine Sa ?_);simp only[go_sem,seval,El,←hss,Ab,hkl,ek];refine (mok ?_).1;(repeat with_reducible refine Sa ?_);exact⟨k+1,Om,Om,Wk.sel [0] Si rfl Si rfl (by simp[AE]) (by simp[BP,AE])⟩
  ·have q2:decide ((0:Int)<(k:Int))=false:=by simp;omega
   rw[if_pos Om]at est;simp only[go_sem,seval,q1,q2,g,←est,El,←hss,Ab,hkl,ek,AZ,Int.toNat_natCast];refine (mok ?_).1;(repeat with_reducible refine Sa ?_);exact⟨k+1,Om,Om,Wk.sel [0] Si rfl Si rfl (by simp[AE]) (by simp[BP,AE])⟩
 ·have q1:decide ((k:Int)<(l.length:Int))=false:=by simp;omega
  have ek:k=l.length:=Om
  refine (mq q1 ?_).1;refine UT 2 ?_
  exact FE Agf [] ek
def OD (l:List Lk) (hl:PL l) (hr:ED l=true) (hn:l.length≤1000000):Ct Tryz.prog 242 [Gg l] [] (λ_=>LG (FW l l.length)) [] (λ_=>[]):=(VB l hl hr hn).toCt cl cl
def WS.lkN (s:WS) (pos:Int) (l:List Lk):Nat->WS
 |0=>s.put (vb l.length)
 |k+1=>((s.lkN pos l k).put (vb (Ht l k))).fall pos (l.getD k Ei).bk
def WS.links (s:WS) (pos:Int) (l:List Lk):WS:=if BH pos l=true then s.lkN pos l l.length else s.fail 3
def WS.fine.fall {s:WS} (h:s.fine) (b:Int) (l:List Int):(s.fall b l).fine:=by
 unfold WS.fall;split
 ·exact(h.put _).puts _
 ·exact h.fail 3
def WS.fine.lkN {s:WS} (h:s.fine) (pos:Int) (l:List Lk):∀k,(s.lkN pos l k).fine:=by
 intro k
 induction k with
 |zero=>exact h.put _
 |succ k ih=>exact(ih.put _).fall _ _
def WS.fine.links {s:WS} (h:s.fine) (pos:Int) (l:List Lk):(s.links pos l).fine:=by
 unfold WS.links;split
 ·exact h.lkN pos l _
 ·exact h.fail 3
def CP {s:WS} {m:List Int} (h:s.code=0) (hm:(s.l.length:Int)+m.length≤s.most):s.put m=⟨s.most,s.l++m,0⟩:=by
 rw[WS.put_ok h hm];cases s;simp at h;simp[h]
def pN {s:WS} {b:Int} {l:List Int} (h:s.code=0) (hf:Cs b l=true) (hm:(s.l.length:Int)+(DD b l).length≤s.most):s.fall b l=⟨s.most,s.l++DD b l,0⟩:=by
 unfold DD at hm;rw[length_append]at hm;unfold WS.fall;rw[if_pos hf,CP h Om,Oe rfl _ (by simp only[length_append];omega)];simp[DD]
def Jw {pos:Int} {l:List Lk} {k:Nat} (h:k<l.length):Bo (Cq pos).enc [] (l.take (k+1))=Bo (Cq pos).enc [] (l.take k)++(vb (Ht l k)++DD pos (l.getD k Ei).bk):=by
 rw[wD l k h,Fsq];rfl
def bB {pos:Int} {l:List Lk}:∀k,k≤l.length->(Bo (Cq pos).enc [] (l.take k)).length≤(Bo (Cq pos).enc [] l).length:=by
 intro k hk;have gen:∀n,k+n=l.length->(Bo (Cq pos).enc [] (l.take k)).length≤(Bo (Cq pos).enc [] l).length:=by
  intro n
  induction n generalizing k with
  |zero=>intro h;rw[take_of_length_le Om];exact Nat.le_refl _
  |succ n ih=>
   intro h;have h1:=ih (k+1) Om Om;rw[Jw Om,length_append]at h1;omega
 exact gen (l.length-k) Om
def wE {s:WS} {pos:Int} {l:List Lk} (hr:BH pos l=true) (h:s.code=0) (hm:(s.l.length:Int)+(BR pos l).length≤s.most):∀k,k≤l.length->s.lkN pos l k=⟨s.most,s.l++(vb l.length++Bo (Cq pos).enc [] (l.take k)),0⟩:=by
 have⟨r1,r2,r3⟩:=Dz.1 hr;unfold BR at hm;rw[length_append]at hm;intro k
 induction k with
 |zero=>intro _;unfold WS.lkN;rw[CP h Om];simp[Bo]
 |succ k ih=>
  intro hk;have hle:=bB (pos:=pos) (l:=l) (k+1) hk;have he:=Jw (pos:=pos) (l:=l) (k:=k) Om;have hel:=congrArg List.length he;simp only[length_append]at hel;unfold WS.lkN;rw[ih Om,CP rfl (by simp only[length_append];omega),pN rfl (EU.1 (r3 _ (EI l k Om))).2 (by simp only[length_append];omega),he];simp only[append_assoc]
def gB {s:WS} {pos:Int} {l:List Lk} (hr:BH pos l=true) (h:s.code=0) (hm:(s.l.length:Int)+(BR pos l).length≤s.most):s.links pos l=⟨s.most,s.l++BR pos l,0⟩:=by
 unfold WS.links;rw[if_pos hr,wE hr h hm _ (Nat.le_refl _),take_length];rfl
def iI {b:Int} {l:List Int} (h:l.length≤4):(DD b l).length≤50:=by
 unfold DD;rw[length_append];have h1:=(A7 (l.length:Int)).2;have h2:=Nh (Dm b l l.length);rw[DY]at h2;omega
def Kd {pos:Int} {l:List Lk} (hr:BH pos l=true):(BR pos l).length≤970:=by
 have⟨r1,r2,r3⟩:=Dz.1 hr;have hv:=(A7 (l.length:Int)).2;have key:∀k,k≤l.length->(Bo (Cq pos).enc [] (l.take k)).length≤60*k:=by
  intro k
  induction k with
  |zero=>intro _;simp[Bo]
  |succ k ih=>
   intro hk;have h1:=ih Om;rw[Jw Om,length_append,length_append];have h2:=(A7 (Ht l k)).2;have h3:=iI (b:=pos) (EU.1 (r3 _ (EI l k Om))).1;omega
 have:=key l.length (Nat.le_refl _);rw[take_length]at this;unfold BR;rw[length_append];omega
def gD (s:WS) (pos:Int) (l:List Lk) (hs:s.fine) (hl:PL l) (hm:DS l) (p0:0≤pos) (p1:pos<18446744073709551616):Ah prog 238 [.ref 0 0,uA pos,Gg l] [B0 1 s,AX s] (.tup []) [B0 1 (s.links pos l),AX (s.links pos l)]:=by
 have hn:=hm.1;have e:=FM l Om;refine RM func238 Ac3 ?_
 refine Aa.p (Kf pos l hl hm p0 p1) ?_;by_cases hr:BH pos l=true
 ·have⟨r1,r2,r3⟩:=Dz.1 hr;refine (ms hr @AZ e ?_).1;refine Aa.u2 (Br s l.length 0 1 De Om Om hs.ok (hs.room _)) rfl rfl (mp ?_).1;refine Aa.p (OD l hl r2 hn) (mr @Ab @EP ?_).1;refine AA (α:=Nat) (λk=>.ref 0 0::uA pos::Gg l::Az (.any::LG (FW l l.length)::iA l.length::iA k::Az [])) (λk=>[B0 1 (s.lkN pos l k),AX (s.lkN pos l k)]) (λk=>k≤l.length) (λk=>l.length-k) 0 Si (Wk.to (by rfl) (by simp[BS])) ?_;intro k hk;have hf:=hs.lkN pos l k;refine (mp ?_).1;by_cases hlt:k<l.length
  ·have q1:decide ((k:Int)<(l.length:Int))=true:=by simp;omega
   have ek:=Aw k Om;have g:=D4 l k hlt;have g2:=FH (FW l l.length) k (by rw[EP];exact hlt);rw[QZ l _ k hlt,Int.toNat_natCast]at g2;have hx:=JY hl r2 hlt;have ho:=hl _ (EI l k hlt);have hsm:=hm.2 _ (EI l k hlt);simp only[go_sem,seval,q1,g2,Ab,EP,Int.toNat_natCast];refine (mok ?_).1;(repeat with_reducible refine Sa ?_);refine Aa.u2 (Br (s.lkN pos l k) (Ht l k) 0 1 De hx.1 hx.2 hf.ok (hf.room _)) rfl rfl (ms g @AZ @Int.toNat_natCast ?_).1;(repeat with_reducible refine Sa ?_);refine Aa.u2 (i7 ((s.lkN pos l k).put (vb (Ht l k))) pos (l.getD k Ei).bk 0 1 De (hf.put _) p0 p1 ho.b Om) rfl rfl (mq ek ?_).1;exact⟨k+1,Om,Om,Wk.to (by rfl) (by simp[BS])⟩
  ·have q1:decide ((k:Int)<(l.length:Int))=false:=by simp;omega
   have ek:k=l.length:=Om
   subst ek;refine (mq q1 ?_).1
   (refine FB Ac3 [0,1] ?_ ?_<;>first|with_reducible rfl|(simp[WS.links,hr];done)|rfl)
 ·have hr':BH pos l=false:=Sx hr
  refine (mq hr' ?_).1;refine Aa.u2 (Cj s 3 0 1 De) rfl rfl (mp ?_).1
  (refine FB Ac3 [0,1] ?_ ?_<;>first|with_reducible rfl|(simp[WS.links,hr'];done)|rfl)
def oH (s:WS) (pos:Int) (l:List Lk) (i j:Nat) (h:i≠j) (hs:s.fine) (hl:PL l) (hm:DS l) (p0:0≤pos) (p1:pos<18446744073709551616):Ct prog 238 [.ref i 0,uA pos,Gg l] [(i,B0 j s),(j,AX s)] (λ_=>.tup []) [(i,B0 j (s.links pos l)),(j,AX (s.links pos l))] (λ_=>[]):=Ct.u2 (gD s pos l hs hl hm p0 p1) i j h cl cl cl cl cl (Bx _ _) (Bg _) CN
def Mh (pos:Int) (l:List Lk):Int:=if BH pos l=true then(BR pos l).length else 0
def Ys (pos:Int) (l:List Lk) (hl:PL l) (hm:DS l) (p0:0≤pos) (p1:pos<18446744073709551616):Ah prog 236 [uA pos,Gg l] [] (iA (Mh pos l)) []:=by
 have hn:=hm.1;have e:=FM l Om;refine RM func236 Ac4 ?_
 refine Aa.p (Kf pos l hl hm p0 p1) ?_;by_cases hr:BH pos l=true
 ·have⟨r1,r2,r3⟩:=Dz.1 hr;have hbl:=Kd hr;unfold BR at hbl;rw[length_append]at hbl;refine (ms hr @AZ e ?_).1;refine Aa.p (C0 l.length Om Om) (mp ?_).1;refine Aa.p (OD l hl r2 hn) (mr @Ab @EP ?_).1;refine AA (α:=Nat) (λk=>uA pos::Gg l::.any::.any::.any::iA ((vb l.length++Bo (Cq pos).enc [] (l.take k)).length:Nat)::Ay (Ay (.any::.any::.any::LG (FW l l.length)::iA l.length::iA k::Az [.any,.any]))) (λ_=>[]) (λk=>k≤l.length) (λk=>l.length-k) 0 Si (Wk.to Si (by simp[BS,Bo])) ?_;intro k hk;refine (mp ?_).1;by_cases hlt:k<l.length
  ·have q1:decide ((k:Int)<(l.length:Int))=true:=by simp;omega
   have ek:=Aw k Om;have g:=D4 l k hlt;have g2:=FH (FW l l.length) k (by rw[EP];exact hlt);rw[QZ l _ k hlt,Int.toNat_natCast]at g2;have hx:=JY hl r2 hlt;have ho:=hl _ (EI l k hlt);have hsm:=hm.2 _ (EI l k hlt);have⟨gg1,gg2⟩:=EU.1 (r3 _ (EI l k hlt));have he:=Jw (pos:=pos) (l:=l) (k:=k) hlt;have hel:=congrArg List.length he;simp only[length_append]at hel;have hle:=bB (pos:=pos) (l:=l) (k+1) hlt;have hv:=A7 (Ht l k);have w1:IntKind.i64.wrap (((vb (Ht l k)).length:Int)+(DD pos (l.getD k Ei).bk).length)=(vb (Ht l k)).length+(DD pos (l.getD k Ei).bk).length:=i64_in _ Om;have w2:IntKind.i64.wrap (((vb (l.length:Int)++Bo (Cq pos).enc [] (l.take k)).length:Int)+(((vb (Ht l k)).length:Int)+(DD pos (l.getD k Ei).bk).length))=((vb (l.length:Int)++Bo (Cq pos).enc [] (l.take (k+1))).length:Nat):=by
    rw[length_append,length_append,hel,i64_in _ Om];omega
   simp only[go_sem,seval,q1,g2,Ab,EP,Int.toNat_natCast];refine (mok ?_).1;(repeat with_reducible refine Sa ?_);refine Aa.p (C0 (Ht l k) hx.1 hx.2) (ms g @AZ @Int.toNat_natCast ?_).1;(repeat with_reducible refine Sa ?_);refine Aa.p (Zp pos (l.getD k Ei).bk p0 p1 ho.b Om) (mt gg2 w1 w2 ek ?_).1;(repeat with_reducible refine Sa ?_);exact⟨k+1,Om,Om,Wk.to (by rfl) (by simp[BS])⟩
  ·have q1:decide ((k:Int)<(l.length:Int))=false:=by simp;omega
   have ek:k=l.length:=Om
   subst ek;have he:Mh pos l=((vb (l.length:Int)++Bo (Cq pos).enc [] (l.take l.length)).length:Nat):=by unfold Mh BR;rw[if_pos hr,take_length]
   refine (mq q1 ?_).1
   exact FE Ac4 [] he
 ·have hr':BH pos l=false:=Sx hr
  have he:Mh pos l=0:=by unfold Mh;rw[if_neg hr]
  refine (mq hr' ?_).1
  exact FE Ac4 [] he
def gC (pos:Int) (l:List Lk) (hl:PL l) (hm:DS l) (p0:0≤pos) (p1:pos<18446744073709551616):Ct Tryz.prog 236 [uA pos,Gg l] [] (λ_=>iA (Mh pos l)) [] (λ_=>[]):=(Ys pos l hl hm p0 p1).toCt cl cl
def sX {x:Int} (h0:0≤x) (h1:x<18446744073709551616):Cv .xor .u64 (if IntKind.u64.signed then-1 else IntKind.u64.max) x=18446744073709551615-x:=by
 have h:=bR h0 h1;have e:Cv .xor .u64 (if IntKind.u64.signed then-1 else IntKind.u64.max) x=Cv .xor .u64 x 18446744073709551615:=by
  show IntKind.u64.wrap ((BitVec.ofInt 64 18446744073709551615^^^BitVec.ofInt 64 x).toNat:Int)=IntKind.u64.wrap ((BitVec.ofInt 64 x^^^BitVec.ofInt 64 18446744073709551615).toNat:Int);rw[BitVec.xor_comm]
 rw[e,h]
def Yo {s:RS} (h:Ak s):s.lkHead []=s.vint.1:=by
 have hv:=A8 (s:=s) h.bys;unfold RS.lkHead;rw[v9,if_neg Om]
def Vy {s:RS} (h:Ak s) (acc:List Lk):Ak (s.lkHead acc)∧(s.lkHead acc).l=s.l:=by
 have⟨a,b⟩:=h.vint;unfold RS.lkHead;split
 ·exact⟨a.fail _ _,by rw[AY];exact b⟩
 ·exact⟨a,b⟩
def Vx {s:RS} {acc:List Lk} (h:18446744073709551616≤H_ acc+1+s.vint.2):s.vint.1.fail 13 s.at_=s.lkHead acc:=by
 unfold RS.lkHead;by_cases hc:s.vint.1.code=0
 ·rw[if_pos ⟨hc,h⟩]
 ·rw[if_neg λx=>hc x.1];unfold RS.fail;rw[if_neg hc]
def Vz {s:RS} {acc:List Lk} (h:¬18446744073709551616≤H_ acc+1+s.vint.2):s.lkHead acc=s.vint.1:=by
 unfold RS.lkHead;rw[if_neg λx=>h x.2]
def wF (pos:Int) (s:RS) (acc:List Lk):(Cq pos).f s acc=(((s.lkHead acc).fall pos 4).1,⟨H_ acc+1+s.vint.2,((s.lkHead acc).fall pos 4).2⟩):=rfl
def iH {s:RS} {b m:Int} (h:Ak s) (b0:0≤b) (b1:b<18446744073709551616) (hc:(s.fall b m).1.code=0):s.code=0:=(Tr h b0 b1 hc).1
def Yt (s:RS) (pos:Int) (p0:0≤pos) (p1:pos<18446744073709551616) (hs:Ak s) (hn:s.l.length*32≤100000000000000):Ah prog 151 [.ref 0 0,uA pos] [AN s] (Gg (s.links pos).2) [AN ((s.links pos).1)]:=by
 have hF:=IH p0 p1;have hir:=CB (s:=s) (m:=16) hs.bys;have⟨hi1,hi2⟩:=hs.int 16;unfold RS.links DH.counted;refine RM func151 rK ?_
 refine Aa.u1 (AS s 16 0 De hs.ok hs.bys) rfl ?_;generalize hu:(s.int 16).1=u at*;generalize(s.int 16).2=z at*;obtain⟨N,hN⟩:∃N,z.toNat=N:=⟨_,rfl⟩;have hz:z=(N:Int):=Om
 subst hz;rw[Int.toNat_natCast];refine (mp ?_).1;refine AA (α:=RS×List Lk) (λa=>.ref 0 0::uA pos::.any::.any::.any::.sl (.row 1) 2 (Nt a.2)::.any::.any::.any::.any::.any::iA N::iA a.2.length::Az (Az (Ay (Ay [.any,.any])))) (λa=>[AN a.1,.row 2 a.2.length]) ((Cq pos).On u N) (λa=>N-a.2.length) (u,[]) (DH.On.start hi1 N) ((Wk.row 5 2 rfl (.inr rfl) De).trans (Wk.to Si (by simp[BS,Nt]))) ?_;rintro⟨t,acc⟩ ho;have hla:=ho.len;rw[hi2]at hla;have h1:=ho.ok;have h2:=ho.l;have h6:=ho.res;have hwf:=ho.wf;simp only at h1 h2 h6 hwf;have hg:=LM hwf;have htl:t.l.length*32≤100000000000000:=by rw[h2,hi2];exact hn
 refine (mp ?_).1;by_cases hlt:acc.length<N
 ·have q0:decide ((acc.length:Int)<(N:Int))=true:=by simp;omega
  have ei:=Aw acc.length Om;have hx:=A8 (s:=t) h1.bys;have⟨hk1,hk2⟩:=Vy h1 acc;have⟨hv1,hv2⟩:=h1.vint;have hff:=wF pos t acc;have hkl:(t.lkHead acc).l.length*8≤140737488355328:=by rw[hk2];omega
  have hnx:((t.lkHead acc).fall pos 4).1.code=0->(Cq pos).On u N (((t.lkHead acc).fall pos 4).1,acc++[⟨H_ acc+1+t.vint.2,((t.lkHead acc).fall pos 4).2⟩]):=λhc=>by
   have:=ho.next hF hlt (by rw[hff];exact hc);rw[hff]at this;exact this
  have hnb:¬((t.lkHead acc).fall pos 4).1.code=0->(Cq pos).many N u []=(((t.lkHead acc).fall pos 4).1,[]):=λhc=>by
   have:=DX (F:=Cq pos) (s:=t) hlt (by rw[hff];exact hc);rw[h6,hff]at this;exact this
  have hst:((t.lkHead acc).fall pos 4).1.code=0->H_ acc+1+t.vint.2<18446744073709551616:=λhc=>by
   rcases Int.lt_or_le (H_ acc+1+t.vint.2) 18446744073709551616 with h|h
   ·exact h
   ·have hh:=iH hk1 p0 p1 hc;unfold RS.lkHead at hh;by_cases hc0:t.vint.1.code=0
    ·rw[if_pos ⟨hc0,h⟩]at hh;exact absurd hh (BF _ _ hc0 De)
    ·rw[if_neg λx=>hc0 x.1]at hh;exact absurd hh hc0
  refine (mq q0 ?_).1;refine Aa.r1 (AF t 0) rfl (mp ?_).1;refine Aa.u1 (BI t 0 h1.ok h1.bys) rfl (mp ?_).1;by_cases h0:0<acc.length
  ·have q1:decide ((0:Int)<(acc.length:Int))=true:=by simp;omega
   have ep:=K9 acc.length h0 Om;have g:=D4 acc (acc.length-1) Om;have hlg:=aN acc h0;obtain⟨w,hw⟩:∃w,(acc.getD (acc.length-1) Ei).st=w:=⟨_,rfl⟩;rw[hw]at hlg;have g':(Nt acc).getD (acc.length-1) .any=.agg [uA w,LG (acc.getD (acc.length-1) Ei).bk]:=by rw[g,←hw]
   have hw0:0≤w∧w<18446744073709551616:=by
    have hlw:=C5 (acc.length-1) Om hwf;rw[nil_append]at hlw;have hg2:=LM (I7 (acc.length-1) hwf);have e:acc[acc.length-1]=acc.getD (acc.length-1) Ei:=by simp[show acc.length-1<acc.length by omega]
    have hl1:H_ (acc.take (acc.length-1))<acc[acc.length-1].st:=hlw.1;have hl2:acc[acc.length-1].st<18446744073709551616:=hlw.2.1;rw[e,hw]at hl1 hl2;exact⟨by have:=hg2.1;omega,hl2⟩
   have ex:=sX hw0.1 hw0.2;by_cases hov:18446744073709551615-w≤t.vint.2
   ·have q2:decide (18446744073709551615-w≤t.vint.2)=true:=Sx hov
    have hhe:=Vx (s:=t) (acc:=acc) Om;simp only[go_sem,seval,q1,ep,g',AZ,Int.toNat_natCast,ex,q2];refine (mok ?_).1;(repeat with_reducible refine Sa ?_);refine Aa.u1 (Aj t.vint.1 13 t.at_ 0) rfl (mq hhe ?_).1;refine Aa.u1 (Kw (t.lkHead acc) pos 4 0 p0 p1 De hk1 hkl) rfl (mp ?_).1;have hbad:¬((t.lkHead acc).fall pos 4).1.code=0:=λhc=>by have:=hst hc;omega
    have hb:=hnb hbad;refine Aa.r1 (Ae ((t.lkHead acc).fall pos 4).1 0) rfl (mq (Au hbad) ?_).1;(refine A6.nilk 4 2 rfl ?_;simp only[set_cons_zero,set_cons_succ])
    exact FF rK [0] hb @SJ
   ·have q2:decide (18446744073709551615-w≤t.vint.2)=false:=Sx hov
    have hhe:=Vz (s:=t) (acc:=acc) Om;have e1:IntKind.u64.wrap (w+1)=w+1:=u64_in _ Om;have e2:IntKind.u64.wrap (t.vint.2+(w+1))=H_ acc+1+t.vint.2:=by rw[u64_in _ Om];omega
    rw[hhe]at hnx hnb hkl;simp only[go_sem,seval,q1,ep,g',AZ,Int.toNat_natCast,ex,q2,e1,e2];refine (mok ?_).1;(repeat with_reducible refine Sa ?_);refine Aa.u1 (Kw t.vint.1 pos 4 0 p0 p1 De hv1 hkl) rfl (mp ?_).1;by_cases hc:(t.vint.1.fall pos 4).1.code=0
    ·have hon:=hnx hc;have hl2:=hon.len;rw[length_append,length_singleton,hi2]at hl2;refine Aa.r1 (Ae (t.vint.1.fall pos 4).1 0) rfl (mt (AR hc) @OB @AZ ei ?_).1;(repeat with_reducible refine Sa ?_);exact⟨((t.vint.1.fall pos 4).1,acc++[⟨H_ acc+1+t.vint.2,(t.vint.1.fall pos 4).2⟩]),hon,by simp;omega,Wk.sel [0,1] Si rfl Si rfl (by simp[AE,An]) (by simp[BP,AE,Nt,AH])⟩
    ·have hb:=hnb hc;refine Aa.r1 (Ae (t.vint.1.fall pos 4).1 0) rfl (mq (Au hc) ?_).1;(refine A6.nilk 4 2 rfl ?_;simp only[set_cons_zero,set_cons_succ])
     exact FF rK [0] hb @SJ
  ·have hnil:acc=[]:=eq_nil_of_length_eq_zero Om;have q1:decide ((0:Int)<(acc.length:Int))=false:=by rw[hnil];rfl
   have hhe:=Yo h1;rw[←hnil]at hhe;rw[hhe]at hnx hnb hkl;have hl0:H_ acc= -1:=by rw[hnil];rfl
   have e2:t.vint.2=H_ acc+1+t.vint.2:=Om
   refine (mq q1 ?_).1;refine Aa.u1 (Kw t.vint.1 pos 4 0 p0 p1 De hv1 hkl) rfl (mp ?_).1;by_cases hc:(t.vint.1.fall pos 4).1.code=0
   ·have hon:=hnx hc;have hl2:=hon.len;rw[length_append,length_singleton,hi2]at hl2;rw[←e2]at hon;have esn:Nt acc++[.agg [uA t.vint.2,LG (t.vint.1.fall pos 4).2]]=Nt (acc++[⟨t.vint.2,(t.vint.1.fall pos 4).2⟩]):=OB acc ⟨t.vint.2,(t.vint.1.fall pos 4).2⟩;refine Aa.r1 (Ae (t.vint.1.fall pos 4).1 0) rfl (mt (AR hc) esn @AZ ei ?_).1;(repeat with_reducible refine Sa ?_);exact⟨((t.vint.1.fall pos 4).1,acc++[⟨t.vint.2,(t.vint.1.fall pos 4).2⟩]),hon,by simp;omega,Wk.sel [0,1] Si rfl Si rfl (by simp[AE,An]) (by simp[BP,AE,Nt,AH])⟩
   ·have hb:=hnb hc;refine Aa.r1 (Ae (t.vint.1.fall pos 4).1 0) rfl (mq (Au hc) ?_).1;(refine A6.nilk 4 2 rfl ?_;simp only[set_cons_zero,set_cons_succ])
    exact FF rK [0] hb @SJ
 ·have q0:decide ((acc.length:Int)<(N:Int))=false:=by simp;omega
  have hb:=G8 (F:=Cq pos) (s:=t) (N:=N) (acc:=acc) Om;rw[h6]at hb;refine (mq q0 ?_).1;refine UT 4 ?_
  exact FE rK [0] hb
def Ro (s:RS) (pos:Int) (i:Nat) (p0:0≤pos) (p1:pos<18446744073709551616) (hs:Ak s) (hn:s.l.length*32≤100000000000000):Ct prog 151 [.ref i 0,uA pos] [(i,AN s)] (λ_=>Gg (s.links pos).2) [(i,AN ((s.links pos).1))] (λ_=>[]):=Ct.u1 (Yt s pos p0 p1 hs hn) i cl (λρ=>An ρ _) (λρ=>An ρ _) (rdr_dead _) cl
def eD (x y:Lk) (hn:x.bk.length≤1000000):Ct prog 162 [Ub x,Ub y] [] (λ_=>bA (decide (x=y))) [] (λ_=>[]):=by
 refine Ah.toCt ?_ cl cl
 refine RM func162 Ads ?_
 by_cases c0:x.st=y.st
 ·have q0:(x.st==y.st)=true:=Sx c0
  have e:BJ x.bk y.bk=decide (x=y):=by
   unfold BJ;rw[Bool.eq_iff_iff,decide_eq_true_eq,decide_eq_true_eq];cases x;cases y;simp only at c0;simp[c0]
  refine (mq q0 ?_).1;refine Cp (N9 x.bk y.bk Om) ?_
  exact FE Ads [] e
 ·have q0:(x.st==y.st)=false:=Sx c0
  have e:decide (x=y)=false:=by simp only[decide_eq_false_iff_not];rintro rfl;exact c0 rfl
  refine (mq q0 ?_).1
  exact FE Ads [] e
def H5 (l m:List Lk):Bool:=decide (l=m)
def UR (l m:List Lk) (hm:DS l):Ah prog 89 [Gg l,Gg m] [] (bA (H5 l m)) []:=by
 have⟨hn,hb⟩:=hm;refine RN func89 b89 ?_;refine (mq @AZ ?_).1
 by_cases hlen:l.length=m.length
 ·have q0:((l.length:Int) != (m.length:Int))=false:=by simp;omega
  refine (mq q0 ?_).1;refine AA (α:=Nat) (λk=>Gg l::Gg m::.any::.any::.any::iA k::Az (Ay [.any])) (λ_=>[]) (λk=>k≤l.length∧∀i,i<k->l.getD i Ei=m.getD i Ei) (λk=>l.length-k) 0 ⟨Si,λi hi=>by omega⟩ (Wk.to Si (by simp[BS])) ?_;rintro k ⟨hk,hall⟩;refine (mq @AZ ?_).1;by_cases hlt:k<l.length
  ·have q1:decide ((k:Int)<(l.length:Int))=true:=by simp;omega
   have ek:=Aw k Om;have g:=D4 l k hlt;have g2:=D4 m k Om;have hbk:=hb _ (EI l k hlt);simp only[go_sem,seval,q1,g,g2,AZ,Int.toNat_natCast];refine (mok ?_).1;(repeat with_reducible refine Sa ?_);refine Aa.p (eD (l.getD k Ei) (m.getD k Ei) hbk) ?_;by_cases he:l.getD k Ei=m.getD k Ei
   ·have q2:decide (l.getD k Ei=m.getD k Ei)=true:=Sx he
    refine (mr q2 ek ?_).1;(repeat with_reducible refine Sa ?_);exact⟨k+1,⟨hlt,λi hi=>by
     rcases Nat.lt_or_ge i k with h|h
     ·exact hall i h
     ·obtain rfl:i=k:=Om
      exact he⟩,Om,Wk.to Si (by simp[BS])⟩
   ·have q2:decide (l.getD k Ei=m.getD k Ei)=false:=Sx he
    have e:H5 l m=false:=by unfold H5;simp only[decide_eq_false_iff_not];rintro rfl;exact he rfl
    refine (mq q2 ?_).1;(repeat with_reducible refine Sa ?_)
    exact FE b89 [] e
  ·have q1:decide ((k:Int)<(l.length:Int))=false:=by simp;omega
   have e:H5 l m=true:=by
    unfold H5;simp only[decide_eq_true_eq];refine ext_getElem hlen λi h1 h2=>?_
    have:=hall i Om;simpa[h1,h2]using this
   refine (mq q1 ?_).1
   exact FE b89 [] e
 ·have q0:((l.length:Int) != (m.length:Int))=true:=by simp;omega
  have e:H5 l m=false:=by unfold H5;simp only[decide_eq_false_iff_not];rintro rfl;exact hlen rfl
  refine (mq q0 ?_).1
  exact FE b89 [] e
def XU (l m:List Lk) (hm:DS l):Ct Tryz.prog 89 [Gg l,Gg m] [] (λ_=>bA (H5 l m)) [] (λ_=>[]):=(UR l m hm).toCt cl cl
def Tryz.own:ownKnob Tryz.prog.godebug=none:=by kernel_rfl
def Tryz.laidOut:laidOutB Tryz.prog=true:=by kernel_rfl
section
open Go.RowKit Go.ChangeShapes Go.WideShapes Go.ChangeAt
def G0 (W:World):Gh:=⟨λb i=>W.cell? ⟨b,i,none⟩,λ_=>none,λ_ _=>none⟩
def wd0 (W:World):Wd (G0 W) [] W:=
 ⟨λb i v h=>h,λi _=>⟨rfl,λ_=>rfl⟩,λi xs h=>by simp at h,λj k n h=>by simp at h,λj k n xs h=>by simp at h,λi o xs h=>by simp at h,λi j b h=>by simp[blk]at h⟩
def Ah.top {P:Program} {f:FuncId} {args:List AV} (h:Ah P f args [] (.lit (.bool true)) []) {W:World} {vs:Array Value} (hr:Cg (G0 W) args vs.toList):
 Calls P f vs W λr W'=>r=.returned (.bool true)∧Below W.heap.size W W':=by
 refine(h.2 (G0 W) W vs (wd0 W) hr).mono λr W' ⟨v,G',e,hv,hl⟩=>?_
 cases hv;exact⟨e,hl.kept.below (λi _ j=>by simp[blk]) (Nat.le_refl _)⟩
def RdI.rep {k:IntKind} {W:World} {F:Nat->Prop} {v:Value} {l:List Int} (h:RdI k W F v l):Bv (G0 W) (.sl .none 1 (A0 k l)) v:=by
 obtain⟨A,c,rfl,hc,_,hA⟩:=h;have hlen:=Ab k l;obtain⟨b,o,hb,hcell⟩:∃b o,(0<l.length->A=some ⟨b,o,none⟩)∧∀i,i<l.length->W.cell? ⟨b,o+i,none⟩=some (.int k (l.getD i 0)):=by
  rcases Nat.eq_zero_or_pos l.length with h0|h0
  ·exact⟨0,0,λh=>by omega,λi hi=>by omega⟩
  ·have⟨b,o,h1,_,h2⟩:=hA h0;exact⟨b,o,λ_=>h1,h2⟩
 rw[←hlen];refine .sl (b:=b) (o:=o) (λi _=>.int k (l.getD i 0)) (by rw[hlen];exact hc) (λh=>hb (by rw[hlen]at h;exact h)) (λi x hx=>?_) (λi j hi hj=>?_) (λ_ _ _ _=>rfl) (λi j x y hx hy=>?_) trivial
 ·simp only[A0,getElem?_map,Option.map_eq_some_iff]at hx;obtain⟨z,_,rfl⟩:=hx;rfl
 ·obtain rfl:j=0:=Om
  rw[hlen]at hi;simpa[G0]using hcell i hi
 ·simp only[A0,getElem?_map,Option.map_eq_some_iff]at hx;obtain⟨z,hz,rfl⟩:=hx;simp only[AV.cells]at hy;cases j with
  |zero=>
   simp at hy;subst hy;have:l.getD i 0=z:=by simp[hz]
   rw[this];exact .lit _
  |succ j=>simp at hy
end
abbrev Lt (e:En):AV:=.agg [Gg e.lk,Bd .u8 e.data]
def NS (e:En):Prop:=DS e.lk∧e.data.length≤100000000
def IU (pos:Int) (e:En) (he:e.ok) (hm:NS e) (p0:0≤pos) (p1:pos<18446744073709551616):Ct prog 169 [uA pos,Lt e] [] (λ_=>bA (Cx pos e)) [] (λ_=>[]):=by
 refine Ah.toCt ?_ cl cl
 refine RM func169 Adp ?_
 refine Aa.p (Kf pos e.lk he.lk hm.1 p0 p1) ?_;by_cases hr:BH pos e.lk=true
 ·have h:Cx pos e=decide ((e.data.length:Int)≤1048576):=by
   unfold Cx;rw[hr,Bool.true_and,Bool.eq_iff_iff,decide_eq_true_eq,decide_eq_true_eq];omega
  simp only[go_sem,seval,hr,Ab,←h];refine (mok ?_).1;exact FA Adp []
 ·have hr':BH pos e.lk=false:=Sx hr
  have h:Cx pos e=false:=by unfold Cx;rw[hr'];rfl
  refine (mq hr' ?_).1
  exact FE Adp [] h
def WS.ehead (s:WS) (pos:Int) (e:En):WS:=if Cx pos e=true then(s.links pos e.lk).put (vb e.data.length)else s.fail 3
def WS.fine.ehead {s:WS} (h:s.fine) (pos:Int) (e:En):(s.ehead pos e).fine:=by
 unfold WS.ehead;split
 ·exact(h.links pos e.lk).put _
 ·exact h.fail 3
def gR {pos:Int} {e:En} (hr:BH pos e.lk=true):(Fm pos e).length≤980:=by
 unfold Fm;rw[length_append];have:=Kd hr;have:=(A7 (e.data.length:Int)).2;omega
def iY {s:WS} {pos:Int} {e:En} (hr:Cx pos e=true) (h:s.code=0) (hm:(s.l.length:Int)+(Fm pos e).length≤s.most):s.ehead pos e=⟨s.most,s.l++Fm pos e,0⟩:=by
 unfold Fm at hm;rw[length_append]at hm;unfold WS.ehead;rw[if_pos hr,gB (C7.1 hr).1 h Om,CP rfl (by simp only[length_append];omega)];simp[Fm]
def Pc (s:WS) (pos:Int) (e:En) (hs:s.fine) (he:e.ok) (hm:NS e) (p0:0≤pos) (p1:pos<18446744073709551616):Ah prog 214 [.ref 0 0,uA pos,Lt e] [B0 1 s,AX s] (.tup []) [B0 1 (s.ehead pos e),AX (s.ehead pos e)]:=by
 have hd:=hm.2;have eu:=FM e.data Om;refine RM func214 Adc ?_
 refine Aa.p (IU pos e he hm p0 p1) ?_;by_cases hr:Cx pos e=true
 ·refine (mq hr ?_).1;refine Aa.u2 (oH s pos e.lk 0 1 De hs he.lk hm.1 p0 p1) rfl rfl (mr @Ab eu ?_).1;have hf:=hs.links pos e.lk;refine Aa.u2 (Br (s.links pos e.lk) e.data.length 0 1 De Om Om hf.ok (hf.room _)) rfl rfl (mp ?_).1
  exact FK Adc [0,1] (by simp[WS.ehead,hr])
 ·have hr':Cx pos e=false:=Sx hr
  refine (mq hr' ?_).1;refine Aa.u2 (Cj s 3 0 1 De) rfl rfl (mp ?_).1
  exact FK Adc [0,1] (by simp[WS.ehead,hr'])
def QC (s:WS) (pos:Int) (e:En) (i j:Nat) (h:i≠j) (hs:s.fine) (he:e.ok) (hm:NS e) (p0:0≤pos) (p1:pos<18446744073709551616):Ct prog 214 [.ref i 0,uA pos,Lt e] [(i,B0 j s),(j,AX s)] (λ_=>.tup []) [(i,B0 j (s.ehead pos e)),(j,AX (s.ehead pos e))] (λ_=>[]):=Ct.u2 (Pc s pos e hs he hm p0 p1) i j h cl cl cl cl cl (Bx _ _) (Bg _) CN
def Mj (pos:Int) (e:En):Int:=if Cx pos e=true then(Fm pos e).length else 0
def Pd (pos:Int) (e:En) (he:e.ok) (hm:NS e) (p0:0≤pos) (p1:pos<18446744073709551616):Ct prog 212 [uA pos,Lt e] [] (λ_=>iA (Mj pos e)) [] (λ_=>[]):=by
 refine Ah.toCt ?_ cl cl
 have hd:=hm.2;have eu:=FM e.data Om;refine RM func212 Add ?_
 refine Aa.p (IU pos e he hm p0 p1) ?_;by_cases hr:Cx pos e=true
 ·have hrl:=(C7.1 hr).1;have hl:=Kd hrl;have hv:=(A7 (e.data.length:Int)).2;have h1:Mh pos e.lk=((BR pos e.lk).length:Int):=by unfold Mh;rw[if_pos hrl]
  have h2:IntKind.i64.wrap (((BR pos e.lk).length:Int)+(vb (e.data.length:Int)).length)=Mj pos e:=by
   unfold Mj Fm;rw[if_pos hr,length_append,i64_in _ Om];omega
  refine (mq hr ?_).1;refine Aa.p (gC pos e.lk he.lk hm.1 p0 p1) (ms h1 @Ab eu ?_).1;refine Aa.p (C0 e.data.length Om Om) (mq h2 ?_).1;refine (Sr ?_).1;exact FA Add []
 ·have hr':Cx pos e=false:=Sx hr
  have h2:Mj pos e=0:=by unfold Mj;rw[if_neg hr]
  refine (mq hr' ?_).1
  exact FE Add [] h2
def Nb (s:RS) (pos m:Int) (p0:0≤pos) (p1:pos<18446744073709551616) (m1:m<9223372036854775808) (hs:Ak s) (hn:s.l.length*32≤100000000000000):Ah prog 196 [.ref 0 0,uA pos,iA m] [AN s] (.tup [Lt ⟨(s.ehead pos m).2.1,[]⟩,iA (s.ehead pos m).2.2]) [AN ((s.ehead pos m).1)]:=by
 have⟨a,b⟩:=Ec hs p0 p1;refine RM func196 Adj ?_
 refine Cu (Ro s pos 0 p0 p1 hs hn) rfl ?_;refine Cu (AS (s.links pos).1 m 0 m1 a.ok a.bys) rfl ?_;by_cases hc:((s.links pos).1.int m).1.code=0
 ·have e:s.ehead pos m=(((s.links pos).1.int m).1,((s.links pos).2,((s.links pos).1.int m).2)):=by unfold RS.ehead;rw[if_pos hc]
  refine Aa.r1 (Ae ((s.links pos).1.int m).1 0) rfl (mq (AR hc) ?_).1;refine WO 1 [Gg (s.links pos).2,Bd .u8 []] ?_
  exact FE Adj [0] e
 ·have e:s.ehead pos m=(((s.links pos).1.int m).1,([],0)):=by unfold RS.ehead;rw[if_neg hc]
  refine Aa.r1 (Ae ((s.links pos).1.int m).1 0) rfl (mq (Au hc) ?_).1;refine WO 1 [Gg [],Bd .u8 []] ?_
  exact FE Adj [0] e
def Pb (s:RS) (pos m:Int) (i:Nat) (p0:0≤pos) (p1:pos<18446744073709551616) (m1:m<9223372036854775808) (hs:Ak s) (hn:s.l.length*32≤100000000000000):Ct prog 196 [.ref i 0,uA pos,iA m] [(i,AN s)] (λ_=>.tup [Lt ⟨(s.ehead pos m).2.1,[]⟩,iA (s.ehead pos m).2.2]) [(i,AN ((s.ehead pos m).1))] (λ_=>[]):=Ct.u1 (Nb s pos m p0 p1 m1 hs hn) i cl (λρ=>An ρ _) (λρ=>An ρ _) (rdr_dead _) cl
def JO (a b:En):Bool:=H5 a.lk b.lk&&BJ a.data b.data
def XS (a b:En) (hm:DS a.lk) (ha:AW a.data) (hb:AW b.data):Ct prog 164 [Lt a,Lt b] [] (λ_=>bA (JO a b)) [] (λ_=>[]):=by
 refine Ah.toCt ?_ cl cl
 refine RM func164 Adr ?_
 refine Aa.p (XU a.lk b.lk hm) ?_;by_cases h:H5 a.lk b.lk=true
 ·have e:JO a b=BJ a.data b.data:=by unfold JO;rw[h];rfl
  refine (mq h ?_).1;refine Cp (Ob a.data b.data ha hb) ?_
  exact FE Adr [] e
 ·have h':H5 a.lk b.lk=false:=Sx h
  have e:JO a b=false:=by unfold JO;rw[h'];rfl
  refine (mq h' ?_).1
  exact FE Adr [] e
def E_ (l:List En):List AV:=l.map Lt
abbrev Fv (l:List En):AV:=.sl .none 2 (E_ l)
def Aq (l:List En):(E_ l).length=l.length:=by simp[E_]
def EK (l:List En) (k:Nat) (h:k<l.length):(E_ l).getD k .any=Lt (l.getD k Dt):=by simp[E_,h]
@[simp] theorem D2 (ρ:Nat->Nat) (l:List En):(E_ l).map (λx=>x.ren ρ)=E_ l:=by
 simp[E_,Function.comp_def,AE,AM,uU]
def NN (l:List En) (k:Nat) (h:k<l.length):AK (l.take k)++(l.getD k Dt).data=AK (l.take (k+1)):=by
 have:l.take (k+1)=l.take k++[l.getD k Dt]:=by
  rw[take_add_one];simp[h]
 rw[this,F8]
def JR (l:List En) (k:Nat):(AK (l.take k)).length≤(AK l).length:=by
 have e:AK l=AK (l.take k)++AK (l.drop k):=by unfold AK;rw[←flatMap_append,take_append_drop]
 rw[e,length_append];omega
def Tv (l:List En) (hl:l.length≤1000000) (hn:(AK l).length≤140737488355328):Ah prog 168 [Fv l] [] (iA (AK l).length) []:=by
 refine RN func168 Ag9 ?_;refine (mq @Aq ?_).1
 refine AA (α:=Nat) (λk=>.any::.any::.any::iA (AK (l.take k)).length::.any::.any::Fv l::iA l.length::iA k::Ay (Ay [.any,.any])) (λ_=>[]) (λk=>k≤l.length) (λk=>l.length-k) 0 Si (Wk.to Si (by simp[BS,AK])) ?_;intro k hk;refine (mp ?_).1;by_cases hlt:k<l.length
 ·have q1:decide ((k:Int)<(l.length:Int))=true:=decide_eq_true Om;have ek:=Aw k Om;have g:=EK l k hlt;have ht:=NN l k hlt;have hle:=JR l (k+1);have hlen:=congrArg List.length ht;rw[length_append]at hlen;have w:IntKind.i64.wrap (((AK (l.take k)).length:Int)+((l.getD k Dt).data.length:Int))=((AK (l.take (k+1))).length:Int):=by rw[i64_in _ Om];omega
  simp only[go_sem,seval,q1,g,Aq,Ab,Int.toNat_natCast,w,ek];refine (mok ?_).1;(repeat with_reducible refine Sa ?_);exact⟨k+1,hlt,Om,Wk.sel [] Si rfl Si rfl Si (by simp[BP,AE,D2])⟩
 ·have q1:decide ((k:Int)<(l.length:Int))=false:=decide_eq_false Om;have e:l.take k=l:=take_of_length_le Om;refine (mq q1 ?_).1
  exact FE Ag9 [] e
def IT (l:List En) (hl:l.length≤1000000) (hn:(AK l).length≤140737488355328):Ct Tryz.prog 168 [Fv l] [] (λ_=>iA (AK l).length) [] (λ_=>[]):=(Tv l hl hn).toCt cl cl
def Ng (a b:List En):Bool:=decide (a.length=b.length)&&(List.range a.length).all λi=>JO (a.getD i Dt) (b.getD i Dt)
def XT (a b:List En) (hl:a.length≤1000000) (hm:∀e∈a,DS e.lk) (ha:j9 a) (hb:j9 b):Ah prog 92 [Fv a,Fv b] [] (bA (Ng a b)) []:=by
 by_cases hab:a.length=b.length
 ·have q:((a.length:Int) != (b.length:Int))=false:=by rw[hab];simp
  refine RN func92 b92 ?_;refine (mq @Aq ?_).1
  refine (mq q ?_).1;refine AA (α:=Nat) (λk=>Fv a::Fv b::.any::.any::.any::iA k::Az (Ay [.any])) (λ_=>[]) (λk=>k≤a.length∧∀i,i<k->JO (a.getD i Dt) (b.getD i Dt)=true) (λk=>a.length-k) 0 ⟨Si,λi hi=>by omega⟩ (Wk.to Si (by simp[BS])) ?_;rintro k ⟨hk,hall⟩;refine (mq @Aq ?_).1;by_cases hlt:k<a.length
  ·have q1:decide ((k:Int)<(a.length:Int))=true:=decide_eq_true Om;have ek:=Aw k Om;have g:=EK a k hlt;have g2:=EK b k Om;have ma:a.getD k Dt∈a:=by simp[hlt]
   have mb:b.getD k Dt∈b:=by rw[hab]at hlt;simp[hlt]
   simp only[go_sem,seval,q1,g,g2,Aq,Int.toNat_natCast];refine (mok ?_).1;(repeat with_reducible refine Sa ?_);refine Aa.p (XS (a.getD k Dt) (b.getD k Dt) (hm _ ma) (ha _ ma).data (hb _ mb).data) ?_;cases hs:JO (a.getD k Dt) (b.getD k Dt)with
   |true=>
    refine (mr hs ek ?_).1;exact⟨k+1,⟨hlt,λi hi=>by
     rcases Nat.lt_or_ge i k with h|h
     ·exact hall i h
     ·obtain rfl:i=k:=Om
      exact hs⟩,Om,Wk.to Si (by simp[BS])⟩
   |false=>
    have e:Ng a b=false:=by
     cases hz:Ng a b with
     |false=>rfl
     |true=>
      unfold Ng at hz;rw[Bool.and_eq_true,all_eq_true]at hz;have:=hz.2 k (mem_range.2 hlt);rw[hs]at this;cases this
    refine (mq hs ?_).1
    exact FE b92 [] e
  ·have q1:decide ((k:Int)<(a.length:Int))=false:=decide_eq_false Om;have e:Ng a b=true:=by
    unfold Ng;rw[decide_eq_true hab,Bool.true_and,all_eq_true];intro i hi;have:=mem_range.1 hi;exact hall i Om
   refine (mq q1 ?_).1
   exact FE b92 [] e
 ·have q:((a.length:Int) != (b.length:Int))=true:=by simp;omega
  have e:Ng a b=false:=by unfold Ng;rw[decide_eq_false hab];rfl
  refine RN func92 b92 ?_;refine (mq @Aq ?_).1
  refine (mq q ?_).1
  exact FE b92 [] e
def d9 (a b:List En) (hl:a.length≤1000000) (hm:∀e∈a,DS e.lk) (ha:j9 a) (hb:j9 b):Ct Tryz.prog 92 [Fv a,Fv b] [] (λ_=>bA (Ng a b)) [] (λ_=>[]):=(XT a b hl hm ha hb).toCt cl cl
def Wu (l:List En) (hl:l.length≤1000000) (hn:(AK l).length≤100000000):Ah prog 215 [Fv l] [] (IE 0 (AK l)) [.row 1 (AK l).length]:=by
 refine RM func215 Agr ?_
 refine Aa.p (IT l hl Om) ?_;simp only[go_sem,seval,Mt];refine (mok ?_).1;(repeat with_reducible refine Sa ?_);refine (mq @Aq ?_).1;refine AA (α:=Nat) (λk=>.any::.any::.any::IE 0 (AK (l.take k))::.any::.any::.any::.any::.any::Fv l::iA l.length::iA k::Ay (Ay [.any])) (λk=>[.row 1 (AK (l.take k)).length]) (λk=>k≤l.length) (λk=>l.length-k) 0 Si (Wk.to (by simp[AK]) (by simp[BS,AK,A0])) ?_;intro k hk;refine (mp ?_).1;by_cases hlt:k<l.length
 ·have q1:decide ((k:Int)<(l.length:Int))=true:=decide_eq_true Om;have ek:=Aw k Om;have g:=EK l k hlt;have ht:=NN l k hlt;have hle:=JR l (k+1);simp only[go_sem,seval,q1,g,Aq,Int.toNat_natCast,C1,Ab,←length_append,ht,ek];refine (mok ?_).1;(repeat with_reducible refine Sa ?_);exact⟨k+1,hlt,Om,Wk.sel [0] Si rfl Si rfl (by simp[AE]) (by simp[BP,AE,AH,AM])⟩
 ·have q1:decide ((k:Int)<(l.length:Int))=false:=decide_eq_false Om;have e:l.take k=l:=take_of_length_le Om;refine (mr q1 e ?_).1;exact FA Agr [0]
def Zn (l:List En) (hl:l.length≤1000000) (hn:(AK l).length≤100000000):Ct prog 215 [Fv l] [] (λn=>IE n (AK l)) [] (λ_=>[.row 1 (AK l).length]):=Ct.n (Wu l hl hn) cl cl CN
def SL (x:Lk) (hn:x.bk.length≤1000000):Ah prog 219 [Ub x] [] (Ub x) []:=by
 refine RM func219 Ago ?_
 (repeat with_reducible refine Sa ?_);simp only[go_sem,seval,nil_append,Ab];refine (mok ?_).1;refine UO 1 ?_;exact FA Ago []
def VE (x:Lk) (hn:x.bk.length≤1000000):Ct Tryz.prog 219 [Ub x] [] (λ_=>Ub x) [] (λ_=>[]):=(SL x hn).toCt cl cl
def Yu (l:List Lk) (hl:l.length≤1000000) (hn:∀x∈l,x.bk.length≤1000000):Ah prog 184 [Gg l] [] (Gg l) []:=by
 refine RN func184 Ag4 ?_;refine (mq @AZ ?_).1
 refine AA (α:=Nat) (λk=>.any::.any::.any::.sl (.row 0) 2 (Nt (l.take k))::.any::.any::Gg l::iA l.length::iA k::Ay (Ay [.any,.any])) (λk=>[.row 2 (l.take k).length]) (λk=>k≤l.length) (λk=>l.length-k) 0 Si ((Wk.row 3 2 rfl (.inr rfl) De).trans (Wk.to (by simp[Nt]) (by simp[BS,Nt]))) ?_;intro k hk;refine (mp ?_).1;by_cases hlt:k<l.length
 ·have q1:decide ((k:Int)<(l.length:Int))=true:=decide_eq_true Om;have ek:=Aw k Om;have g:=D4 l k hlt;have hm:l.getD k Ei∈l:=by simp[hlt]
  have ht:Nt (l.take k)++[Ub (l.getD k Ei)]=Nt (l.take (k+1)):=by
   rw[OB];congr 1;rw[take_add_one];simp[hlt]
  have hln:(l.take (k+1)).length≤1000000:=by rw[length_take];omega
  have hln2:(l.take k).length+1=(l.take (k+1)).length:=by rw[length_take,length_take];omega
  refine (mt q1 g @AZ @Int.toNat_natCast ?_).1;(repeat with_reducible refine Sa ?_);refine Aa.p (VE (l.getD k Ei) (hn _ hm)) (mt ht @AZ hln2 ek ?_).1;(repeat with_reducible refine Sa ?_);exact⟨k+1,hlt,Om,Wk.sel [0] Si rfl Si rfl (by simp[AE]) (by simp[BP,AE,AH])⟩
 ·have q1:decide ((k:Int)<(l.length:Int))=false:=decide_eq_false Om;have e:l.take k=l:=take_of_length_le Om;refine (mr q1 e ?_).1;refine UT 2 ?_;exact FA Ag4 []
def Rp (l:List Lk) (hl:l.length≤1000000) (hn:∀x∈l,x.bk.length≤1000000):Ct Tryz.prog 184 [Gg l] [] (λ_=>Gg l) [] (λ_=>[]):=(Yu l hl hn).toCt cl cl
def Ww (l:List En) (e:En):E_ (l++[e])=E_ l++[Lt e]:=by simp[E_]
def Wv (hs:List En) (ns d:List Int) (hl:hs.length≤1000000) (hd:d.length≤100000000) (hm:∀e∈hs,e.lk.length≤1000000∧∀x∈e.lk,x.bk.length≤1000000) (hns:∀n∈ns,n<9223372036854775808):Ah prog 131 [Fv hs,Bd .i64 ns,Bd .u8 d] [] (.tup [Fv (FC hs ns d).1,bA (FC hs ns d).2]) []:=by
 by_cases hh:hs.length=ns.length
 ·have q:((ns.length:Int) != (hs.length:Int))=false:=by rw[hh];simp
  have e0:FC hs ns d=GM hs ns d []:=by unfold FC;rw[if_pos hh]
  refine RN func131 ZL ?_;refine (mr @Aq @Ab ?_).1
  simp only[go_sem,seval,q,nil_append,Ab,Aq];refine (mok ?_).1;(repeat with_reducible refine Sa ?_);refine AA (α:=Nat×List Int×List En) (λa=>.any::Bd .i64 ns::.any::.any::.any::.any::.any::.any::Bd .u8 a.2.1::.sl (.row 0) 2 (E_ a.2.2)::Ay (Ay (.any::.any::.any::Fv hs::iA hs.length::iA a.1::Az (Az (Ay [.any]))))) (λa=>[.row 2 a.2.2.length]) (λa=>a.1≤hs.length∧a.2.2.length=a.1∧a.2.1.length≤d.length∧GM (hs.drop a.1) (ns.drop a.1) a.2.1 a.2.2=FC hs ns d) (λa=>hs.length-a.1) (0,d,[]) ⟨Si,rfl,Nat.le_refl _,by rw[e0];rfl⟩ (((Wk.untag 8 rfl).trans (Wk.row 9 2 rfl (.inr rfl) De)).trans (Wk.sel [1] Si rfl Si rfl (by simp[AE]) (by simp[BP,AE,CS,E_,AH,AM,D2]))) ?_;rintro⟨k,rest,acc⟩ ⟨hk,hacc,hrl,hgo⟩;simp only at hk hacc hrl hgo;refine (mp ?_).1;by_cases hlt:k<hs.length
  ·have q1:decide ((k:Int)<(hs.length:Int))=true:=decide_eq_true Om;have ek:=Aw k Om;have g:=EK hs k hlt;have g2:(A0 .i64 ns).getD k .any=iA (ns.getD k 0):=Cy .i64 ns k Om;have hmm:=hm (hs.getD k Dt) (by simp[hlt]);have d1:hs.drop k=hs.getD k Dt::hs.drop (k+1):=by rw[drop_eq_getElem_cons hlt];simp[hlt]
   have d2:ns.drop k=ns.getD k 0::ns.drop (k+1):=by
    have h2:k<ns.length:=Om
    rw[drop_eq_getElem_cons h2];simp[h2]
   rw[d1,d2,GM]at hgo;obtain⟨n,hn⟩:∃n,ns.getD k 0=n:=⟨_,rfl⟩;have hnm:n<9223372036854775808:=hns n (by rw[←hn];have h2:k<ns.length:=Om;simp[h2]);obtain⟨h,hh2⟩:∃h,hs.getD k Dt=h:=⟨_,rfl⟩;rw[hn]at hgo g2;rw[hh2]at hgo g hmm;by_cases c1:n<0
   ·have q2:decide (n<0)=true:=decide_eq_true c1;rw[if_pos (.inl c1)]at hgo;simp only[go_sem,seval,q1,g,Aq,Int.toNat_natCast,g2,Ab,q2];refine (mok ?_).1;(repeat with_reducible refine Sa ?_);(refine A6.nilk 6 2 rfl ?_;simp only[set_cons_zero,set_cons_succ])
    (refine FB ZL [] ?_ ?_<;>first|with_reducible rfl|(simp[←hgo,E_];done)|rfl)
   ·have q2:decide (n<0)=false:=decide_eq_false c1;by_cases c2:(rest.length:Int)<n
    ·have q3:decide ((rest.length:Int)<n)=true:=decide_eq_true c2;rw[if_pos (.inr c2)]at hgo;simp only[go_sem,seval,q1,g,Aq,Int.toNat_natCast,g2,Ab,q2,q3];refine (mok ?_).1;(repeat with_reducible refine Sa ?_);(refine A6.nilk 6 2 rfl ?_;simp only[set_cons_zero,set_cons_succ])
     (refine FB ZL [] ?_ ?_<;>first|with_reducible rfl|(simp[←hgo,E_];done)|rfl)
    ·have q3:decide ((rest.length:Int)<n)=false:=decide_eq_false c2;rw[if_neg Om]at hgo;simp only[go_sem,seval,q1,g,Aq,Int.toNat_natCast,g2,Ab,q2,q3];refine (mok ?_).1;(repeat with_reducible refine Sa ?_);refine Aa.p (Rp h.lk hmm.1 hmm.2) ?_;simp only[go_sem,seval,Sg,Ab,Dh,CA,Aq,ek];refine (mok ?_).1;(repeat with_reducible refine Sa ?_);exact⟨(k+1,rest.drop n.toNat,acc++[⟨h.lk,rest.take n.toNat⟩]),⟨hlt,by simp[hacc],by simp only[length_drop];omega,hgo⟩,by simp only;omega,(Wk.wa 9 (y:=.sl (.row 0) 2 (E_ (acc++[⟨h.lk,rest.take n.toNat⟩]))) rfl (by rw[Ww];exact Wa.slS (Co.app (Co.refl _) Wp))).trans (Wk.sel [0] Si rfl Si rfl (by simp[AE]) (by simp[BP,AE,AH,AM,D2]))⟩
  ·have q1:decide ((k:Int)<(hs.length:Int))=false:=decide_eq_false Om;have d1:hs.drop k=[]:=drop_eq_nil_of_le Om;rw[d1]at hgo;simp only[GM]at hgo;by_cases c3:rest.length=0
   ·have q4:decide ((0:Int)<(rest.length:Int))=false:=decide_eq_false Om;rw[if_pos c3]at hgo;refine (ms q1 @Ab q4 ?_).1;refine UT 6 ?_
    (refine FB ZL [] ?_ ?_<;>first|with_reducible rfl|(simp[←hgo];done)|rfl)
   ·have q4:decide ((0:Int)<(rest.length:Int))=true:=decide_eq_true Om;rw[if_neg c3]at hgo;refine (ms q1 @Ab q4 ?_).1;(refine A6.nilk 6 2 rfl ?_;simp only[set_cons_zero,set_cons_succ])
    (refine FB ZL [] ?_ ?_<;>first|with_reducible rfl|(simp[←hgo,E_];done)|rfl)
 ·have q:((ns.length:Int) != (hs.length:Int))=true:=by simp;omega
  have e:FC hs ns d=([],false):=by unfold FC;rw[if_neg hh]
  refine RN func131 ZL ?_;refine (mr @Aq @Ab ?_).1
  refine (mq q ?_).1;(refine A6.nilk 6 2 rfl ?_;simp only[set_cons_zero,set_cons_succ])
  (refine FB ZL [] ?_ ?_<;>first|with_reducible rfl|(simp[e,E_];done)|rfl)
def Pe (hs:List En) (ns d:List Int) (hl:hs.length≤1000000) (hd:d.length≤100000000) (hm:∀e∈hs,e.lk.length≤1000000∧∀x∈e.lk,x.bk.length≤1000000) (hns:∀n∈ns,n<9223372036854775808):Ct Tryz.prog 131 [Fv hs,Bd .i64 ns,Bd .u8 d] [] (λ_=>.tup [Fv (FC hs ns d).1,bA (FC hs ns d).2]) [] (λ_=>[]):=(Wv hs ns d hl hd hm hns).toCt cl cl
def AO (e:Int):Ct prog 97 [uA e] [] (λ_=>bA (Ac e)) [] (λ_=>[]):=by
 refine Ah.toCt ?_ CN CN
 refine RM func97 b97 ?_
 by_cases h1:1≤e
 ·have q:decide (1≤e)=true:=Sx h1
  refine (mq q ?_).1
  exact FK b97 [] (by simp[Ac,q])
 ·have q:decide (1≤e)=false:=Sx h1
  refine (mq q ?_).1
  exact FK b97 [] (by simp[Ac,q])
def Hl (e:Int):Ct prog 186 [uA e] [] (λ_=>bA (AL e)) [] (λ_=>[]):=by
 refine Ah.toCt ?_ CN CN
 refine RM func186 Ag3 ?_
 exact FK Ag3 [] (by simp[AL])
def IS {s:RS} (h:¬s.code=0) (c a:Int):s.fail c a=s:=by unfold RS.fail;rw[if_neg h]
def iL {s:RS} (h:s.code=0) (a:Int):(s.fail 3 a).good=false:=by unfold RS.fail RS.good;rw[if_pos h];simp[BB]
def Wr (f:FuncId) (ok:Int->Bool) (hf:∀x,Ct prog f [uA x] [] (λ_=>bA (ok x)) [] (λ_=>[])) (s:RS) (hs:Ak s):Ah prog 185 [.ref 0 0,.fn f [] []] [AN s] (uA (s.epo ok).2) [AN (s.epo ok).1]:=by
 refine RM func185 rH ?_
 refine Cr (AF s 0) rfl ?_;refine Cu (BI s 0 hs.ok hs.bys) rfl ?_;refine Cp (hf s.vint.2) ?_;by_cases hc:s.vint.1.code=0
 ·by_cases ho:ok s.vint.2=true
  ·have hg:s.vint.1.good=true:=by simp[RS.good,hc]
   refine (mq ho ?_).1;refine Aa.r1 (Ae _ 0) rfl (mq hg ?_).1
   exact FK rH [0] (by simp[RS.epo,hc,ho])
  ·have hg:=iL hc s.at_;have ho':ok s.vint.2=false:=Sx ho
   refine (mq ho' ?_).1;refine Cu (Aj _ 3 _ 0) rfl ?_;refine Aa.r1 (Ae _ 0) rfl (mq hg ?_).1
   exact FK rH [0] (by simp[RS.epo,hc,ho'])
 ·have hg:s.vint.1.good=false:=by simp[RS.good,hc]
  have hfl:=IS hc 3 s.at_;refine Av (λh=>?_) (λh=>?_)
  ·refine (mp ?_).1;refine Cu (Aj _ 3 _ 0) rfl ?_;refine Aa.r1 (Ae _ 0) rfl (mr hfl hg ?_).1
   exact FK rH [0] (by simp[RS.epo,hc,hfl])
  ·refine (mp ?_).1;refine Aa.r1 (Ae _ 0) rfl (mq hg ?_).1
   exact FK rH [0] (by simp[RS.epo,hc])
def O_ (f:FuncId) (ok:Int->Bool) (hf:∀x,Ct prog f [uA x] [] (λ_=>bA (ok x)) [] (λ_=>[])) (s:RS) (i:Nat) (hs:Ak s):Ct prog 185 [.ref i 0,.fn f [] []] [(i,AN s)] (λ_=>uA (s.epo ok).2) [(i,AN (s.epo ok).1)] (λ_=>[]):=Rc (Wr f ok hf s hs) i
def Ws (s:RS) (hs:Ak s):Ah prog 116 [.ref 0 0] [AN s] (uA (s.epo Ac).2) [AN (s.epo Ac).1]:=by
 refine RM func116 Ahs ?_
 refine Cu (O_ _ Ac AO s 0 hs) rfl ?_;exact FA Ahs [0]
def EY (s:RS) (i:Nat) (hs:Ak s):Ct prog 116 [.ref i 0] [(i,AN s)] (λ_=>uA (s.epo Ac).2) [(i,AN (s.epo Ac).1)] (λ_=>[]):=Rc (Ws s hs) i
def Pa (s:RS) (hs:Ak s):Ah prog 118 [.ref 0 0] [AN s] (uA (s.epo AL).2) [AN (s.epo AL).1]:=by
 refine RM func118 Ahq ?_
 refine Cu (O_ _ AL Hl s 0 hs) rfl ?_;exact FA Ahq [0]
def E9 (s:RS) (i:Nat) (hs:Ak s):Ct prog 118 [.ref i 0] [(i,AN s)] (λ_=>uA (s.epo AL).2) [(i,AN (s.epo AL).1)] (λ_=>[]):=Rc (Pa s hs) i
abbrev oA (x:O1):AV:=.agg [uA x.st,uA x.bk,bA x.hb,Bd .u8 x.data]
def Xh (l:List O1):List AV:=l.map oA
abbrev XE (l:List O1):AV:=.sl .none 4 (Xh l)
abbrev Sh (u:JU):AV:=.agg [uA u.ep,uA u.base,XE u.en]
abbrev dI (u:JU):Ad:=.cells [uA u.ep,uA u.base,XE u.en]
def CI (l:List O1):(Xh l).length=l.length:=by simp[Xh]
def aK:Xh []=[]:=(rfl)
def aL (l:List O1) (k:Nat) (h:k<l.length):(Xh l).getD k .any=oA (l.getD k KI):=by simp[Xh,h]
def nR (l:List O1) (x:O1):Xh l++[oA x]=Xh (l++[x]):=by simp[Xh]
@[simp] theorem Ah3 (ρ:Nat->Nat) (l:List O1):(Xh l).map (λx=>x.ren ρ)=Xh l:=by
 simp[Xh,Function.comp_def,AE,AM]
def Uz (u:JU) (ρ:Nat->Nat):(dI u).ren ρ=dI u:=by simp[AE]
structure TX (u:JU):Prop where
 b0:0≤u.base
 b1:u.base<18446744073709551616
 n:u.en.length≤1000000
 s:B5 u.en≤100000000000
def Ia (base n:Int) (b0:0≤base) (b1:base<18446744073709551616) (n0:0≤n) (n1:n≤1000000000):Ct prog 135 [uA base,iA n] [] (λ_=>bA (CV base n)) [] (λ_=>[]):=by
 refine Ah.toCt ?_ cl cl
 have w0:IntKind.u64.wrap n=n:=u64_in _ Om;refine RM func135 Ad1 ?_
 refine Aa.p (Hl base) ?_;by_cases h:base<4611686018427387904
 ·have e:AL base=true:=DL.2 h;have w1:IntKind.u64.wrap (base+n)=base+n:=u64_in _ Om;have ef:decide (base+n≤4611686018427387904)=CV base n:=by unfold CV;rw[decide_eq_true h];rfl
  refine (mt e w0 w1 ef ?_).1;exact FA Ad1 []
 ·have e:AL base=false:=by unfold AL;exact decide_eq_false h
  have ef:CV base n=false:=by unfold CV;rw[decide_eq_false h];rfl
  refine (mq e ?_).1
  exact FE Ad1 [] ef
def Qe (l:List O1) (hn:l.length≤1000000) (hs:B5 l≤100000000000):Ah prog 142 [XE l] [] (iA (B5 l)) []:=by
 refine RN func142 Ahg ?_;refine (mq @CI ?_).1
 refine AA (α:=Nat) (λk=>.any::.any::.any::iA (B5 (l.take k))::.any::.any::XE l::iA l.length::iA k::Ay (Ay [.any,.any])) (λ_=>[]) (λk=>k≤l.length) (λk=>l.length-k) 0 Si (Wk.to Si (by simp[BS,B5])) ?_;intro k hk;refine (mp ?_).1;by_cases hlt:k<l.length
 ·have q1:decide ((k:Int)<(l.length:Int))=true:=decide_eq_true Om;have ek:=Aw k Om;have g:=aL l k hlt;have st:=LD l k hlt;have le:=Sd l (k+1);have ge:=KP (l.take k);have w:IntKind.i64.wrap (B5 (l.take k)+((l.getD k KI).data.length:Int))=B5 (l.take (k+1)):=by rw[i64_in _ Om];omega
  simp only[go_sem,seval,q1,g,CI,Int.toNat_natCast,Ab,w,ek];refine (mok ?_).1;(repeat with_reducible refine Sa ?_);exact⟨k+1,hlt,Om,Wk.sel [] Si rfl Si rfl Si (by simp[BP,AE])⟩
 ·have q1:decide ((k:Int)<(l.length:Int))=false:=decide_eq_false Om;have e:l.take k=l:=take_of_length_le Om;refine (mq q1 ?_).1
  exact FE Ahg [] e
def SN (l:List O1) (hn:l.length≤1000000) (hs:B5 l≤100000000000):Ct Tryz.prog 142 [XE l] [] (λ_=>iA (B5 l)) [] (λ_=>[]):=(Qe l hn hs).toCt cl cl
def GL (u:JU) (k:Nat) (x:O1):Bool:=IL (IntKind.u64.wrap (u.base+k)) x
def M7 (u:JU) (k:Nat) (x:O1) (hk:k≤1000000):Ah prog 144 [iA k,oA x,.ref 0 0] [dI u] (bA (GL u k x)) [dI u]:=by
 have w0:IntKind.u64.wrap (k:Int)=k:=u64_in _ Om;refine RM func144 z6 ?_
 cases hb:x.hb with
 |true=>
  have e:decide (x.bk<IntKind.u64.wrap (u.base+k))=GL u k x:=by unfold GL IL;rw[hb];rfl
  cases h:decide (x.bk<IntKind.u64.wrap (u.base+k))with
  |true=>
   rw[h]at e;refine (ms hb w0 h ?_).1
   exact FK z6 [0] (by simp[←e])
  |false=>
   rw[h]at e;refine (ms hb w0 h ?_).1
   exact FK z6 [0] (by simp[←e])
 |false=>
  have e:(x.bk==0)=GL u k x:=by
   unfold GL IL;rw[hb];simp only[Bool.false_eq_true,if_false];rw[Bool.eq_iff_iff,beq_iff_eq,decide_eq_true_eq]
  refine (mr hb e ?_).1;exact FA z6 [0]
def OI (u:JU) (k:Nat) (x:O1) (hk:k≤1000000) (i:Nat):Ct prog 144 [iA k,oA x,.ref i 0] [(i,dI u)] (λ_=>bA (GL u k x)) [] (λ_=>[]):=
 Ct.r1 (M7 u k x hk) i cl (Uz u) Si CN
def W5 (ok:Nat->O1->Bool) (l:List O1):Bool:=(List.range l.length).all λi=>ok i (l.getD i KI)
def PH {ok:Nat->O1->Bool} {l:List O1}:W5 ok l=true↔∀i,i<l.length->ok i (l.getD i KI)=true:=by
 simp only[W5,all_eq_true,mem_range]
def ST (f:FuncId) (o:Ad) (ok:Nat->O1->Bool) (ho:∀ρ,o.ren ρ=o) (hd:o≠ .dead) (l:List O1) (hf:∀k,k<l.length->∀i,Ct prog f [iA k,oA (l.getD k KI),.ref i 0] [(i,o)] (λ_=>bA (ok k (l.getD k KI))) [] (λ_=>[])) (hn:l.length≤1000000):
 Ah prog 143 [XE l,.fn f [] [.ref 0 0]] [o] (bA (W5 ok l)) [o]:=by
 refine RN func143 Ad0 ?_;refine (mq @CI ?_).1
 refine AA (α:=Nat) (λk=>XE l::.fn f [] [.ref 0 0]::.any::.any::.any::.any::.any::XE l::iA l.length::iA k::Ay (Ay [.any,.any])) (λ_=>[o]) (λk=>k≤l.length∧∀i,i<k->ok i (l.getD i KI)=true) (λk=>l.length-k) 0 ⟨Si,λi hi=>by omega⟩ (Wk.to Si (by simp[BS])) ?_;rintro k ⟨hk,hall⟩;refine (mp ?_).1;by_cases hlt:k<l.length
 ·have q1:decide ((k:Int)<(l.length:Int))=true:=decide_eq_true Om;have ek:=Aw k Om;have g:=aL l k hlt;have hfx:=hf k hlt 0;refine (mt q1 g @CI @Int.toNat_natCast ?_).1;(repeat with_reducible refine Sa ?_);refine Aa.r1 (hfx) rfl ?_;cases hs:ok k (l.getD k KI)with
  |false=>
   have e:W5 ok l=false:=by
    cases ha:W5 ok l with
    |false=>rfl
    |true=>rw[PH.1 ha k hlt]at hs;cases hs
   refine (mq hs ?_).1
   exact FF Ad0 [0] e ho
  |true=>
   refine (mr hs ek ?_).1;exact⟨k+1,⟨hlt,λi hi=>by
    rcases Nat.lt_or_ge i k with h|h
    ·exact hall i h
    ·obtain rfl:i=k:=Om
     exact hs⟩,Om,Wk.sel [0] Si rfl Si rfl (by simp[ho]) (by simp[BP,AE])⟩
 ·have q1:decide ((k:Int)<(l.length:Int))=false:=decide_eq_false Om;have e:W5 ok l=true:=PH.2 λi hi=>hall i Om
  refine (mq q1 ?_).1
  exact FF Ad0 [0] e ho
def VI (f:FuncId) (o:Ad) (ok:Nat->O1->Bool) (ho:∀ρ,o.ren ρ=o) (hd:o≠ .dead) (l:List O1) (hf:∀k,k<l.length->∀i,Ct prog f [iA k,oA (l.getD k KI),.ref i 0] [(i,o)] (λ_=>bA (ok k (l.getD k KI))) [] (λ_=>[])) (hn:l.length≤1000000) (i:Nat):
 Ct prog 143 [XE l,.fn f [] [.ref i 0]] [(i,o)] (λ_=>bA (W5 ok l)) [] (λ_=>[]):=Ct.r1 (ST f o ok ho hd l hf hn) i cl ho hd CN
def Jd {u:JU} (h:Ac u.ep=false∨400<u.en.length∨CV u.base u.en.length=false∨1048576<B5 u.en):Ea u=false:=by
 cases hr:Ea u with
 |false=>rfl
 |true=>
  exfalso;unfold Ea at hr;simp only[Bool.and_eq_true,decide_eq_true_eq]at hr;have⟨⟨⟨⟨a,b⟩,c⟩,d⟩,e⟩:=hr;rcases h with h|h|h|h
  ·rw[h]at a;cases a
  ·omega
  ·rw[h]at c;cases c
  ·omega
def XP {u:JU} (b0:0≤u.base) (h1:Ac u.ep=true) (h2:u.en.length≤400) (h3:CV u.base u.en.length=true) (h4:B5 u.en≤1048576):Ea u=W5 (GL u) u.en:=by
 have⟨f1,f2⟩:=He.1 h3;have key:∀i,i<u.en.length->GL u i (u.en.getD i KI)=IL (u.base+i) (u.en.getD i KI):=λi hi=>by
  unfold GL;rw[u64_in _ Om]
 rw[Bool.eq_iff_iff,Hz,PH];constructor
 ·rintro⟨_,_,_,_,h5⟩ i hi;rw[key i hi];exact h5 i hi
 ·intro h5;exact⟨Bq.1 h1,h2,⟨f1,f2⟩,h4,λi hi=>by rw[←key i hi];exact h5 i hi⟩
def Qm (u:JU) (hs:TX u):Ct prog 72 [Sh u] [] (λ_=>bA (Ea u)) [] (λ_=>[]):=by
 refine Ah.toCt ?_ cl cl
 have⟨b0,b1,n1,s1⟩:=hs;refine RM func72 b72 ?_
 refine Aa.p (AO u.ep) ?_;cases h1:Ac u.ep with
 |false=>
  have e:=Jd (u:=u) (.inl h1);refine (mq h1 ?_).1
  exact FE b72 [] e
 |true=>
  by_cases h2:u.en.length≤400
  ·have q2:decide (400<(u.en.length:Int))=false:=decide_eq_false Om;refine (ms h1 @CI q2 ?_).1;refine Aa.p (Ia u.base u.en.length b0 b1 Om Om) ?_;cases h3:CV u.base u.en.length with
   |false=>
    have e:=Jd (u:=u) (.inr (.inr (.inl h3)));refine (mq h3 ?_).1
    exact FE b72 [] e
   |true=>
    refine (mq h3 ?_).1;refine Aa.p (SN u.en n1 s1) ?_;by_cases h4:B5 u.en≤1048576
    ·have q4:decide (1048576<B5 u.en)=false:=decide_eq_false Om;have e:=XP b0 h1 h2 h3 h4;refine (mq q4 ?_).1;refine Aa.r1 (VI 144 (dI u) (GL u) (Uz u) Si u.en (λk hk i=>OI u k _ Om i) n1 _) rfl ?_;simp only[go_sem,seval,←e];refine (mok ?_).1;exact FA b72 []
    ·have q4:decide (1048576<B5 u.en)=true:=decide_eq_true Om;have e:=Jd (u:=u) (.inr (.inr (.inr Om)));refine (mq q4 ?_).1
     exact FE b72 [] e
  ·have q2:decide (400<(u.en.length:Int))=true:=decide_eq_true Om;have e:=Jd (u:=u) (.inr (.inl Om));refine (ms h1 @CI q2 ?_).1
   exact FE b72 [] e
section
variable {P:Program} {S:List Ad} {K:KT} {f:FuncId} {args args₀:List AV}
def Wa.any1 {x:AV} (hx:x.cells=[x]):Wa x .any:=Nl hx rfl λ_ v _=>.any v
def Wa.anyL (v:Value):Wa (.lit v) .any:=Wa.any1 rfl
def Wa.anyS (t:GF) (k:Nat) (xs:List AV):Wa (.sl t k xs) .any:=Wa.any1 rfl
def Ct.u3 {o₀ p₀ q₀ o₁ p₁ q₁ o p q o' p' q':Ad} {r:AV} (h:Ah P f args₀ [o₀,p₀,q₀] r [o₁,p₁,q₁]) (i j k:Nat) (hn:[i,j,k].Nodup) (ha:∀N,args₀.map (λx=>x.ren (AH [i,j,k] N))=args)
 (ho:∀N,o₀.ren (AH [i,j,k] N)=o) (hp:∀N,p₀.ren (AH [i,j,k] N)=p) (hq:∀N,q₀.ren (AH [i,j,k] N)=q) (ho':∀N,o₁.ren (AH [i,j,k] N)=o') (hp':∀N,p₁.ren (AH [i,j,k] N)=p') (hq':∀N,q₁.ren (AH [i,j,k] N)=q')
 (hd:∀x∈[o₀,p₀,q₀],x≠ .dead) (hr:∀ρ,r.ren ρ=r):
 Ct P f args [(i,o),(j,p),(k,q)] (λ_=>r) [(i,o'),(j,p'),(k,q')] (λ_=>[]):=
 Ct.mk h [i,j,k] hn rfl Si hd (λn N=>by simpa using ha N) (λn N=>hr _) (λn N=>by simp[ho,hp,hq]) (.inl λn N=>by simp[ho',hp',hq']) (λn N=>rfl)
def Aa.u3 {r:AV} {i j k:Nat} {o p q o' p' q':Ad} (h:Ct P f (args.map Proofs.YtaajkppmibfgfabGreat.untag) [(i,o),(j,p),(k,q)] (λ_=>r) [(i,o'),(j,p'),(k,q')] (λ_=>[])) (hS:S[i]? =some o) (hS':S[j]? =some p) (hS'':S[k]? =some q)
 (hK:K r [i,j,k] [(i,o'),(j,p'),(k,q')] []):Aa P f args S K:=Aa.of h.untag (by simp[hS,hS',hS'']) Si hK
def Ct.u4 {o₀ p₀ q₀ s₀ o₁ p₁ q₁ s₁ o p q s o' p' q' s':Ad} {r:AV} (h:Ah P f args₀ [o₀,p₀,q₀,s₀] r [o₁,p₁,q₁,s₁]) (i j k l:Nat) (hn:[i,j,k,l].Nodup) (ha:∀N,args₀.map (λx=>x.ren (AH [i,j,k,l] N))=args)
 (ho:∀N,o₀.ren (AH [i,j,k,l] N)=o) (hp:∀N,p₀.ren (AH [i,j,k,l] N)=p) (hq:∀N,q₀.ren (AH [i,j,k,l] N)=q) (hs:∀N,s₀.ren (AH [i,j,k,l] N)=s) (ho':∀N,o₁.ren (AH [i,j,k,l] N)=o') (hp':∀N,p₁.ren (AH [i,j,k,l] N)=p') (hq':∀N,q₁.ren (AH [i,j,k,l] N)=q') (hs':∀N,s₁.ren (AH [i,j,k,l] N)=s')
 (hd:∀x∈[o₀,p₀,q₀,s₀],x≠ .dead) (hr:∀ρ,r.ren ρ=r):
 Ct P f args [(i,o),(j,p),(k,q),(l,s)] (λ_=>r) [(i,o'),(j,p'),(k,q'),(l,s')] (λ_=>[]):=
 Ct.mk h [i,j,k,l] hn rfl Si hd (λn N=>by simpa using ha N) (λn N=>hr _) (λn N=>by simp[ho,hp,hq,hs]) (.inl λn N=>by simp[ho',hp',hq',hs']) (λn N=>rfl)
def Aa.u4 {r:AV} {i j k l:Nat} {o p q s o' p' q' s':Ad} (h:Ct P f (args.map Proofs.YtaajkppmibfgfabGreat.untag) [(i,o),(j,p),(k,q),(l,s)] (λ_=>r) [(i,o'),(j,p'),(k,q'),(l,s')] (λ_=>[])) (hS:S[i]? =some o) (hS':S[j]? =some p) (hS'':S[k]? =some q) (hS3:S[l]? =some s)
 (hK:K r [i,j,k,l] [(i,o'),(j,p'),(k,q'),(l,s')] []):Aa P f args S K:=Aa.of h.untag (by simp[hS,hS',hS'',hS3]) Si hK
end
abbrev wA (n:Nat):AV:=.lit (.int .u32 (n:Int))
def R8 (n:Nat) (h:n<4294967296):IntKind.u32.wrap (n:Int)=n:=IntWalk.u32_in _ Om
def Se (c:Nat):Gw c=if c%2=1 then(c/2)^^^2197175160 else c/2:=rfl
def qE (c:Nat) (hc:c<4294967296):Ct prog 229 [wA c] [] (λ_=>wA (Gw c)) [] (λ_=>[]):=by
 refine Ah.toCt ?_ cl cl
 have e1:=Aie c hc;have e2:(c:Int).fdiv (2^min 1 32)=((c/2:Nat):Int):=lR c 1;have e3:=QP (c/2) 2197175160 Om Om;refine RN func229 Ac8 ?_;refine (mr e1 e2 ?_).1
 by_cases h:c%2=1
 ·have q:(((c%2:Nat):Int)==1)=true:=by rw[h];rfl
  have e:Gw c=(c/2)^^^2197175160:=by rw[Se,if_pos h]
  have e3':Cv .xor .u32 ((c/2:Nat):Int) 2197175160=((c/2^^^2197175160:Nat):Int):=e3;refine (mt q e1 e2 e3' ?_).1
  exact FE Ac8 [] e
 ·have q:(((c%2:Nat):Int)==1)=false:=by simp only[beq_eq_false_iff_ne,ne_eq];omega
  have e:Gw c=c/2:=by rw[Se,if_neg h]
  refine (ms q e1 e2 ?_).1
  exact FE Ac8 [] e
def FI (k:Nat):List AV:=(List.range 16).map λi=>wA (if i<k then Bu 4 i else 0)
def EB (k:Nat):(FI k).length=16:=by simp[FI]
def kY (k:Nat):(FI k).set k (wA (Bu 4 k))=FI (k+1):=by
 refine ext_getElem? λi=>?_
 rw[getElem?_set];by_cases h:k=i
 ·subst h;rw[if_pos rfl];by_cases hk:k<16
  ·rw[if_pos (by simpa[FI]using hk)];simp[FI,hk]
  ·rw[if_neg (by simpa[FI]using hk)];simp[FI,hk]
 ·rw[if_neg h];by_cases hk:i<16
  ·have:(i<k+1)=(i<k):=by rw[eq_iff_iff];omega
   simp[FI,hk,this]
  ·simp[FI,hk]
@[simp] theorem kZ (ρ:Nat->Nat) (k:Nat):(FI k).map (λx=>x.ren ρ)=FI k:=by simp[FI,AE]
def tab:List AV:=FI 16
def ZZ (i:Nat) (h:i<16):tab[i]? =some (wA (Bu 4 i)):=by
 simp[tab,FI,h]
def MG (n:Nat):∀c,Bu (n+1) c=Gw (Bu n c):=by
 intro c;have:=Pm n 1 c;rw[this];rfl
def Q0 (xs:List AV) (o:Nat) (cs:List AV) (h:o+cs.length≤xs.length):Ck xs o cs=xs.take o++cs++xs.drop (o+cs.length):=by
 refine ext_getElem? λj=>?_
 rw[Hu xs o cs h,append_assoc,getElem?_append,length_take,show min o xs.length=o by omega];by_cases h1:j<o
 ·rw[if_neg Om,if_pos h1,getElem?_take,if_pos h1]
 ·rw[if_neg h1,getElem?_append];by_cases h2:j-o<cs.length
  ·rw[if_pos Om,if_pos h2]
  ·rw[if_neg Om,if_neg h2,getElem?_drop];congr 1;omega
@[simp] theorem Ah0 (ρ:Nat->Nat):tab.map (λx=>x.ren ρ)=tab:=kZ ρ 16
def Zv:Ah prog 200 [] [] (.agg tab) []:=by
 refine RM func200 Agw ?_
 refine AA (α:=Nat) (λk=>.ref 0 0::.ref 1 0::.any::.any::iA k::Ay (Ay (Ay [.any,.any]))) (λk=>[.cells (FI 0),.cells (FI k)]) (λk=>k≤16) (λk=>16-k) 0 Si (Wk.to (by rfl) (by simp[BS])) ?_;intro k hk;refine (mp ?_).1;refine Av (λh=>?_) (λh=>?_)
 ·have hlt:k<16:=by simp at h;omega
  have ek:=Aw k Om;have ec:=R8 k Om;refine (mq ec ?_).1;refine AA (α:=Nat) (λj=>.ref 0 0::.ref 1 0::iA k::wA (Bu j k)::iA k::.any::.any::.any::.any::iA j::Ay (Ay [.any])) (λj=>[.cells (FI 0),.cells (FI k)]) (λj=>j≤4) (λj=>4-j) 0 Si (Wk.to (by rfl) (by simp[BS,Bu])) ?_;intro j hj;refine (mp ?_).1;refine Av (λh=>?_) (λh=>?_)
  ·have hj4:j<4:=by simp at h;omega
   have ej:=Aw j Om;have hs:=MG j k;refine (mp ?_).1;refine Aa.p (qE (Bu j k) (Hn j Om)) (mq ej ?_).1;exact⟨j+1,Om,Om,Wk.to (by rfl) (by simp[BS,hs])⟩
  ·have ej:j=4:=by simp at h;omega
   subst ej;simp only[go_sem,seval,Int.toNat_natCast,EB,Nat.mul_one,ek,kY];refine (mok ?_).1;(repeat with_reducible refine Sa ?_);exact⟨k+1,Om,Om,Wk.to Si (by simp[BS])⟩
 ·have ek:k=16:=by simp at h;omega
  subst ek;have etk:List.take 16 (FI 16)=FI 16:=take_of_length_le (by rw[EB];omega);have esp:Ck (FI 0) 0 (FI 16)=FI 16:=by
   rw[Q0 _ 0 _ (by rw[EB,EB];omega),EB,drop_eq_nil_of_le (by rw[EB];omega)];simp
  refine (ms @EB etk esp ?_).1;(repeat with_reducible refine Sa ?_)
  (refine FB Agw [] ?_ ?_<;>first|with_reducible rfl|(simp[tab,EB,etk];done)|rfl)
def jC:Ct Tryz.prog 200 [] [] (λ_=>.agg tab) [] (λ_=>[]):=(Zv).toCt cl cl
def Rf (l:List Int) (k:Nat) (h:k<l.length):Ew (l.take (k+1))=Ew (l.take k)++[(l.getD k 0).toNat]:=by
 rw[FO l k h,Vm];rfl
def Sc:tab.length=16:=EB 16
def Xy {xs:List AV} (h:xs.length=16):Ck xs 0 tab=tab:=by
 rw[Q0 xs 0 tab (by rw[Sc,h];omega),Sc,drop_eq_nil_of_le Om];simp
def aW (b:Nat) (hb:b<4294967296):Cv .xor .u32 ((b/16:Nat):Int) ((Bu 4 (b%16):Nat):Int)=((Bu 4 b:Nat):Int):=by
 have:=Hn 4 (c:=b%16) Om;rw[QP (b/16) (Bu 4 (b%16)) Om Om,←WE]
def kF {a b:Nat} (ha:a<4294967296) (hb:b<4294967296):a^^^b<4294967296:=by
 have:a^^^b<2^32:=Nat.xor_lt_two_pow Om Om;omega
def qF (c:Nat) (l:List Int) (hc:c<4294967296) (hl:AW l) (hn:l.length≤140737488355328):Ah prog 139 [wA c,Bd .u8 l] [] (wA (Gj c (Ew l))) []:=by
 refine RM func139 Ahj ?_
 refine Aa.p (jC) (ms @Ab @Sc @Xy ?_).1;(repeat with_reducible refine Sa ?_);refine AA (α:=Nat) (λk=>wA (Gj c (Ew (l.take k)))::.any::.any::.any::.any::.ref 0 0::.any::.any::.any::Bd .u8 l::iA l.length::iA k::Az (Ay [.any,.any,.any])) (λ_=>[.cells tab]) (λk=>k≤l.length) (λk=>l.length-k) 0 Si (Wk.to Si (by simp[BS,Ew,Gj])) ?_;intro k hk;refine (mp ?_).1;refine Av (λh=>?_) (λh=>?_)
 ·have hlt:k<l.length:=Sx h
  have ek:=Aw k Om;have g:=It l (k:Int) Om Om;have hx:=hl _ (CU l k hlt);have hst:=Rf l k hlt;have ha:=NB hc (l:=Ew (l.take k)) (λx hx=>Nm hl x (by
   simp only[Ew,mem_map]at hx ⊢;obtain⟨y,hy,rfl⟩:=hx;exact⟨y,mem_of_mem_take hy,rfl⟩))
  rw[Int.toNat_natCast]at g;obtain⟨x,hxe⟩:∃x:Nat,l.getD k 0=(x:Int):=⟨(l.getD k 0).toNat,Om⟩;rw[hxe]at g hx hst;rw[Int.toNat_natCast]at hst;have he:Gj c (Ew (l.take (k+1)))=ML (Gj c (Ew (l.take k))) x:=by rw[hst,RR]
  obtain⟨a,hae⟩:∃a,Gj c (Ew (l.take k))=a:=⟨_,rfl⟩;rw[hae]at ha he ⊢;have hb:=kF ha (show x<4294967296 by omega);have e0:=R8 x Om;have e1:=QP a x ha Om;obtain⟨b,hbe⟩:∃b,a^^^x=b:=⟨_,rfl⟩;rw[hbe]at e1 hb;have s1:(b:Int).fdiv (2^min 4 32)=((b/16:Nat):Int):=lR b 4;have s2:=Aaw b hb;have s3:=aW b hb;have t1:=ZZ (b%16) Om;have hd:=Hn 4 hb;obtain⟨d,hde⟩:∃d,Bu 4 b=d:=⟨_,rfl⟩;rw[hde]at s3 hd;have u1:(d:Int).fdiv (2^min 4 32)=((d/16:Nat):Int):=lR d 4;have u2:=Aaw d hd;have u3:=aW d hd;have t2:=ZZ (d%16) Om;have hf:Bu 4 d=Gj c (Ew (l.take (k+1))):=by rw[he,Zx,hbe,hde]
  rw[hf]at u3;simp only[go_sem,seval,g,Ab,Int.toNat_natCast,e0,e1,s1,s2,s3,t1,u1,u2,u3,t2,ek,Nat.mul_one];refine (mok ?_).1;(repeat with_reducible refine Sa ?_);exact⟨k+1,Om,Om,Wk.to Si (by simp[BS])⟩
 ·have ek:k=l.length:=by simp at h;omega
  subst ek;refine (mp ?_).1
  (refine FB Ahj [] ?_ ?_<;>first|with_reducible rfl|(simp[take_length];done)|rfl)
def yE (c:Nat) (l:List Int) (hc:c<4294967296) (hl:AW l) (hn:l.length≤140737488355328):Ct Tryz.prog 139 [wA c,Bd .u8 l] [] (λ_=>wA (Gj c (Ew l))) [] (λ_=>[]):=(qF c l hc hl hn).toCt cl cl
def jD :Ct prog 140 [] [] (λ_=>wA 4294967295) [] (λ_=>[]):=by
 refine Ah.toCt ?_ cl cl
 refine RM func140 Ahi ?_
 exact FA Ahi []
def yD (c:Nat) (hc:c<4294967296):Ct prog 138 [wA c] [] (λ_=>.lit (.int .u32 (4294967295-(c:Int)))) [] (λ_=>[]):=by
 refine Ah.toCt ?_ cl cl
 have e:Cv .xor .u32 (if IntKind.u32.signed then-1 else IntKind.u32.max) (c:Int)=4294967295-(c:Int):=Ae0 c hc;refine RN func138 Ahk ?_;refine (mq e ?_).1
 exact FA Ahk []
abbrev Aeq (l:List Int):AV:=.lit (.int .u32 (Bb l))
def Gx (l:List Int) (hl:AW l) (hn:l.length≤140737488355328):Ct prog 69 [Bd .u8 l] [] (λ_=>Aeq l) [] (λ_=>[]):=by
 refine Ah.toCt ?_ cl cl
 have h:=NB (c:=4294967295) Om (Nm hl);refine RM func69 b69 ?_
 refine Cp (jD) ?_;refine Cp (yE 4294967295 l Om hl hn) ?_;refine Cp (yD (Gj 4294967295 (Ew l)) h) ?_
 exact FK b69 [] (by simp[Bb])
def XW (c x:Nat) (hc:c<4294967296) (hx:x<256):Ct prog 167 [wA c,Ul (x:Int)] [] (λ_=>wA (ML c x)) [] (λ_=>[]):=by
 refine Ah.toCt ?_ cl cl
 have e0:=R8 x Om;have e1:=QP c x hc Om;have hb:=kF hc (show x<4294967296 by omega);have hce:ML c x=Bu 8 (c^^^x):=rfl;have⟨b,hbe⟩:=Ex (c^^^x);rw[hbe]at e1 hb hce;refine RN func167 Aha ?_;refine (mr e0 e1 ?_).1
 refine AA (α:=Nat) (λj=>wA (Bu j b)::.any::.any::.any::.any::iA j::Az [.any,.any]) (λ_=>[]) (λj=>j≤8) (λj=>8-j) 0 Si (Wk.to Si (by simp[BS,Bu])) ?_;intro j hj;have hs:=Hn j hb;have hsn:=MG j b;refine (mp ?_).1;refine Av (λh=>?_) (λh=>?_)
 ·have hlt:j<8:=by simp at h;omega
  have ej:=Aw j Om;have⟨d,hde⟩:=Ex (Bu j b);rw[hde]at hs hsn ⊢;have em:(d:Int).tmod 2=((d%2:Nat):Int):=by rw[Int.tmod_eq_emod_of_nonneg Om];omega
  have ed:IntKind.u32.wrap ((d:Int).tdiv 2)=((d/2:Nat):Int):=by rw[Int.tdiv_eq_ediv_of_nonneg Om,IntWalk.u32_in _ Om];omega
  have e3:Cv .xor .u32 ((d/2:Nat):Int) 2197175160=((d/2^^^2197175160:Nat):Int):=QP (d/2) 2197175160 Om Om;rw[Se]at hsn;by_cases h1:d%2=1
  ·have q:(((d%2:Nat):Int)==1)=true:=by rw[h1];rfl
   rw[if_pos h1]at hsn;simp only[go_sem,seval,em,ed,q,e3,ej];refine (mok ?_).1;refine (Sr ?_).1;exact⟨j+1,Om,Om,Wk.to Si (by simp[BS,hsn])⟩
  ·have q:(((d%2:Nat):Int)==1)=false:=by simp only[beq_eq_false_iff_ne,ne_eq];omega
   rw[if_neg h1]at hsn;refine (mt em ed q ej ?_).1;refine (Sr ?_).1;exact⟨j+1,Om,Om,Wk.to Si (by simp[BS,hsn])⟩
 ·have ej:j=8:=by simp at h;omega
  subst ej;refine (mp ?_).1
  exact FE Aha [] hce
def XX (c:Nat) (l:List Int) (hc:c<4294967296) (hl:AW l) (hn:l.length≤140737488355328):Ah prog 95 [wA c,Bd .u8 l] [] (wA (Gj c (Ew l))) []:=by
 refine RM func95 b95 ?_
 refine AA (α:=Nat) (λk=>wA (Gj c (Ew (l.take k)))::Bd .u8 l::.any::.any::.any::iA k::Ay (Ay (Ay [.any]))) (λ_=>[]) (λk=>k≤l.length) (λk=>l.length-k) 0 Si (Wk.to Si (by simp[BS,Ew,Gj])) ?_;intro k hk;refine (mq @Ab ?_).1;refine Av (λh=>?_) (λh=>?_)
 ·have hlt:k<l.length:=Sx h
  have ek:=Aw k Om;have g:=It l (k:Int) Om Om;have hx:=hl _ (CU l k hlt);have hst:=Rf l k hlt;have ha:=NB hc (l:=Ew (l.take k)) (λx hx=>Nm hl x (by
   simp only[Ew,mem_map]at hx ⊢;obtain⟨y,hy,rfl⟩:=hx;exact⟨y,mem_of_mem_take hy,rfl⟩))
  rw[Int.toNat_natCast]at g;obtain⟨x,hxe⟩:∃x:Nat,l.getD k 0=(x:Int):=⟨(l.getD k 0).toNat,Om⟩;rw[hxe]at g hx hst;rw[Int.toNat_natCast]at hst;have he:Gj c (Ew (l.take (k+1)))=ML (Gj c (Ew (l.take k))) x:=by rw[hst,RR]
  refine (ms g @Ab @Int.toNat_natCast ?_).1;(repeat with_reducible refine Sa ?_);refine Aa.p (XW (Gj c (Ew (l.take k))) x ha Om) (mq ek ?_).1;exact⟨k+1,Om,Om,Wk.to Si (by simp[BS,he])⟩
 ·have ek:k=l.length:=by simp at h;omega
  subst ek;refine (mp ?_).1
  (refine FB b95 [] ?_ ?_<;>first|with_reducible rfl|(simp[take_length];done)|rfl)
def eH (c:Nat) (l:List Int) (hc:c<4294967296) (hl:AW l) (hn:l.length≤140737488355328):Ct Tryz.prog 95 [wA c,Bd .u8 l] [] (λ_=>wA (Gj c (Ew l))) [] (λ_=>[]):=(XX c l hc hl hn).toCt cl cl
def Q_ (l:List Int) (hl:AW l) (hn:l.length≤140737488355328):Ct prog 40 [Bd .u8 l] [] (λ_=>Aeq l) [] (λ_=>[]):=by
 refine Ah.toCt ?_ cl cl
 have h:=DE hl;have e:IntKind.u32.wrap (4294967295-((Gj 4294967295 (Ew l):Nat):Int))=Bb l:=IntWalk.u32_in _ (by unfold Bb at h;omega);refine RM func40 b40 ?_
 refine Aa.p (eH 4294967295 l Om hl hn) (mq e ?_).1;exact FA b40 []
def Gn {l:List Int} (hl:AW l):IntKind.u64.wrap (Bb l)=Bb l:=by
 have:=DE hl;exact u64_in _ Om
def Kr (n:Int) (n1:n≤4611686018427387904):Ct prog 216 [iA n] [] (λ_=>iA (Dy n)) [] (λ_=>[]):=by
 refine Ah.toCt ?_ cl cl
 have hv:=(A7 (max n 0)).2;have e:IntKind.i64.wrap (((vb (max n 0)).length:Int)+max n 0+4)=Dy n:=i64_in _ Om;refine RM func216 Agq ?_
 refine Aa.p (JC n n1) (mq e ?_).1;exact FA Agq []
def Mz (m:Int):Ct prog 147 [iA m] [] (λ_=>iA (BK m)) [] (λ_=>[]):=by
 refine Ah.toCt ?_ cl cl
 have e:=mn m 2097152;refine RN func147 Ahf ?_;refine (mq e ?_).1
 exact FK Ahf [] (by simp[BK])
def WS.frame (s:WS) (p:List Int):WS:=if 2097152<(p.length:Int)then s.fail 2 else((s.put (vb p.length)).put p).put (Ap 4 (Bb p))
def WS.fine.frame {s:WS} (h:s.fine) (p:List Int):(s.frame p).fine:=by
 unfold WS.frame;split
 ·exact h.fail 2
 ·exact((h.put _).put _).put _
def Y0 (s:WS) (p:List Int) (hs:s.fine) (hp:AW p) (hn:p.length≤140737488355328):Ah prog 217 [.ref 0 0,Bd .u8 p] [B0 1 s,AX s] (.tup []) [B0 1 (s.frame p),AX (s.frame p)]:=by
 have hr:=DE hp;have e:=Gn hp;refine RN func217 Adb ?_;refine (mq @Ab ?_).1
 by_cases h:2097152<(p.length:Int)
 ·have q:decide (2097152<(p.length:Int))=true:=Sx h
  refine (mq q ?_).1;refine Aa.u2 (Cj s 2 0 1 De) rfl rfl (mp ?_).1
  exact FK Adb [0,1] (by simp[WS.frame,h])
 ·have q:decide (2097152<(p.length:Int))=false:=Sx h
  have hf1:((s.put (vb p.length)).put p).fine:=(hs.put _).put _;refine (mq q ?_).1;refine Aa.u2 (WT s p 0 1 De hs hn) rfl rfl (mp ?_).1;refine Aa.p (Gx p hp hn) (mq e ?_).1;refine Aa.u2 (H1 ((s.put (vb p.length)).put p) (Bb p) 4 0 1 De hr.1 Om hf1) rfl rfl (mp ?_).1
  exact FK Adb [0,1] (by simp[WS.frame,h,show(min (max (4:Int) 0) 8).toNat=4 from rfl])
def RB (s:WS) (p:List Int) (i j:Nat) (h:i≠j) (hs:s.fine) (hp:AW p) (hn:p.length≤140737488355328):Ct prog 217 [.ref i 0,Bd .u8 p] [(i,B0 j s),(j,AX s)] (λ_=>.tup []) [(i,B0 j (s.frame p)),(j,AX (s.frame p))] (λ_=>[]):=Ct.u2 (Y0 s p hs hp hn) i j h cl cl cl cl cl (Bx _ _) (Bg _) CN
def Rz {s:WS} {p:List Int} (h:s.code=0) (hp:p.length≤2097152) (hm:(s.l.length:Int)+(Ag p).length≤s.most):s.frame p=⟨s.most,s.l++Ag p,0⟩:=by
 have h4:=BN 4 (Bb p);rw[EV]at hm;unfold CX at hm;rw[length_append]at hm;unfold WS.frame;rw[if_neg Om];have e1:s.put (vb p.length)=⟨s.most,s.l++vb p.length,0⟩:=by rw[WS.put_ok h Om];cases s;simp at h;simp[h]
 have e2:(WS.mk s.most (s.l++vb p.length) 0).put p=⟨s.most,s.l++vb p.length++p,0⟩:=by rw[WS.put_ok rfl (by simp only[length_append];omega)]
 have e3:(WS.mk s.most (s.l++vb p.length++p) 0).put (Ap 4 (Bb p))=⟨s.most,s.l++vb p.length++p++Ap 4 (Bb p),0⟩:=by rw[WS.put_ok rfl (by simp only[length_append];omega)]
 rw[e1,e2,e3];simp[Ag,CX]
def V5 (p:List Int) (hp:AW p) (hn:p.length≤2097152):Ct prog 176 [Bd .u8 p] [] (λ_=>.tup [Bd .u8 (Ag p),iA 0]) [] (λ_=>[]):=by
 refine Ah.toCt ?_ cl cl
 have hsz:=Ux p.length;have hfr:=Mi (p:=p);have f0:(WS.new (Dy p.length)).fine:=WS.fine.new Om;have hf:=Rz (s:=WS.new (Dy p.length)) (p:=p) rfl hn (by rw[WS.new_is Om];simp;omega);rw[WS.new_is Om]at hf;refine RN func176 y7 ?_;refine (mq @Ab ?_).1
 refine Cp (Kr p.length Om) ?_;refine Aa.n (E5 (Dy p.length)) (mp ?_).1;refine Aa.u2 (RB (WS.new (Dy p.length)) p _ _ De f0 hp Om) rfl rfl (mp ?_).1;have hfin:=(f0.frame p).len;refine Aa.r2 (BW ((WS.new (Dy p.length)).frame p) _ _ De hfin) rfl rfl (mp ?_).1;rw[WS.new_is Om,hf]
 exact FK y7 [] (by simp[WS.bytes])
def O2 (s:RS) (b:List Int) (x a:Int) (hb:AW b) (hn:b.length≤140737488355328):Ah prog 148 [Bd .u8 b,uA x,.fn 50 [.ref 0 0] [],iA a] [AN s] (.tup []) [AN (if x=Bb b then s else s.fail 6 a)]:=by
 have e:=Gn hb;refine RM func148 Adx ?_
 refine Aa.p (Gx b hb hn) (mq e ?_).1;by_cases h:x=Bb b
 ·have q:(Bb b != x)=false:=by simp[h]
  refine (mq q ?_).1
  exact FE Adx [0] h
 ·have q:(Bb b != x)=true:=by simp;exactλh'=>h h'.symm
  refine (mq q ?_).1;refine Cu (Aj s 6 a 0) rfl ?_
  exact FE Adx [0] h
def Qs (s:RS) (b:List Int) (x a:Int) (i:Nat) (hb:AW b) (hn:b.length≤140737488355328):Ct prog 148 [Bd .u8 b,uA x,.fn 50 [.ref i 0] [],iA a] [(i,AN s)] (λ_=>.tup []) [(i,AN (if x=Bb b then s else s.fail 6 a))] (λ_=>[]):=
 Ct.u1 (O2 s b x a hb hn) i cl (λρ=>An ρ _) (λρ=>An ρ _) (rdr_dead s) CN
def V4 (s:RS) (m:Int) (hs:Ak s) (m1:m<9223372036854775808):Ah prog 78 [.ref 0 0,iA m] [AN s] (Bd .u8 (s.frame m).2) [AN ((s.frame m).1)]:=by
 have⟨a1,a2⟩:=RS.ok.blob hs (BK m);have hsh:=Gc hs (BK m);have hlen:=hs.len;refine RM func78 b78 ?_
 refine Cp (Mz m) ?_;refine Aa.u1 (E3 s (BK m) _ (by unfold BK;omega) hs) rfl ?_;refine (mp ?_).1;generalize hB:s.blob (BK m)=B at*;have⟨t,p⟩:=B;simp only at a1 a2 hsh;have e:s.frame m=if(t.fixed 4).1.code=0 then(if(t.fixed 4).2=Bb p then((t.fixed 4).1,p)else((t.fixed 4).1.fail 6 t.at_,[]))else((t.fixed 4).1,[]):=by
  unfold RS.frame;rw[hB]
 refine Cr (AF t _) rfl ?_;refine Cu (CW t 4 _ a1) rfl ?_;refine Cu (Qs (t.fixed 4).1 p (t.fixed 4).2 t.at_ _ hsh.2 Om) rfl ?_;by_cases hc:(t.fixed 4).1.code=0
 ·rw[if_pos hc]at e;by_cases hx:(t.fixed 4).2=Bb p
  ·rw[if_pos hx]at e;rw[if_pos hx];refine Aa.r1 (Ae (t.fixed 4).1 _) rfl (mq (AR hc) ?_).1
   exact FE b78 [0] e
  ·rw[if_neg hx]at e;rw[if_neg hx];have hb:¬((t.fixed 4).1.fail 6 t.at_).code=0:=BF _ _ hc De;refine Aa.r1 (Ae ((t.fixed 4).1.fail 6 t.at_) _) rfl (mq (Au hb) ?_).1;refine UT 4 ?_
   exact FE b78 [0] e
 ·rw[if_neg hc]at e;have hk:((if(t.fixed 4).2=Bb p then(t.fixed 4).1 else(t.fixed 4).1.fail 6 t.at_))=(t.fixed 4).1:=by
   split
   ·rfl
   ·unfold RS.fail;rw[if_neg hc]
  rw[hk];refine Aa.r1 (Ae (t.fixed 4).1 _) rfl (mq (Au hc) ?_).1;refine UT 4 ?_
  exact FE b78 [0] e
def Ks (s:RS) (m:Int) (i:Nat) (hs:Ak s) (m1:m<9223372036854775808):Ct prog 78 [.ref i 0,iA m] [(i,AN s)] (λ_=>Bd .u8 (s.frame m).2) [(i,AN ((s.frame m).1))] (λ_=>[]):=Ct.u1 (V4 s m hs m1) i cl (λρ=>An ρ _) (λρ=>An ρ _) (rdr_dead _) cl
def Hb (b:List Int) (m:Int) (hb:AW b) (hn:b.length≤140737488355328) (m1:m<9223372036854775808):Ct prog 182 [Bd .u8 b,iA m] [] (λ_=>.tup [Bd .u8 (Bp b m).1,iA (Bp b m).2.1,Ce (Bp b m).2.2]) [] (λ_=>[]):=by
 refine Ah.toCt ?_ cl cl
 have hok:Ak (RS.new b):=Ak.new hb hn;refine RM func182 Adk ?_
 refine Aa.n (BO b) (mp ?_).1;refine Cu (Ks (RS.new b) m _ hok m1) rfl ?_;refine Cr (AQ ((RS.new b).frame m).1 _) rfl ?_;by_cases hc:((RS.new b).frame m).1.code=0
 ·have e:Bp b m=(((RS.new b).frame m).2,((RS.new b).frame m).1.at_,(0,0)):=by unfold Bp;rw[if_pos hc]
  have q:(((RS.new b).frame m).1.code==0)=true:=Sx hc
  refine Aa.p (Ai _ _) (mq q ?_).1;refine Cr (AF ((RS.new b).frame m).1 _) rfl ?_
  exact FE Adk [] e
 ·have e:Bp b m=([],0,(((RS.new b).frame m).1.code,((RS.new b).frame m).1.fat)):=by unfold Bp;rw[if_neg hc]
  have q:(((RS.new b).frame m).1.code==0)=false:=Sx hc
  refine Aa.p (Ai _ _) (mq q ?_).1;refine UT 4 ?_
  exact FE Adk [] e
def V3 (b:List Int) (m:Int) (hb:AW b) (hn:b.length≤140737488355328):Ct prog 204 [Bd .u8 b,iA m] [] (λ_=>.tup [iA (D8 b m),bA (Dn b m)]) [] (λ_=>[]):=by
 refine Ah.toCt ?_ cl cl
 have hok:Ak (RS.new b):=Ak.new hb hn;have hm:=Ox m;have hr:=CB (s:=RS.new b) (m:=BK m) hb;refine RM func204 Adf ?_
 refine Aa.n (BO b) (mp ?_).1;refine Cp (Mz m) ?_;refine Cu (AS (RS.new b) (BK m) _ Om hok.ok hok.bys) rfl ?_;by_cases hc:((RS.new b).int (BK m)).1.code=0
 ·have e:D8 b m=Dy ((RS.new b).int (BK m)).2:=by unfold D8;rw[if_pos hc]
  have e2:Dn b m=true:=by unfold Dn;rw[hc];rfl
  refine Aa.r1 (Ae ((RS.new b).int (BK m)).1 _) rfl (mq (AR hc) ?_).1;refine Cp (Kr ((RS.new b).int (BK m)).2 Om) ?_
  exact FF Adf [] e e2
 ·have e:D8 b m=0:=by unfold D8;rw[if_neg hc]
  have e2:Dn b m=false:=by unfold Dn;simpa using hc
  refine Aa.r1 (Ae ((RS.new b).int (BK m)).1 _) rfl (mq (Au hc) ?_).1
  exact FF Adf [] e e2
def XV (s:RS) (m:Int) (hs:Ak s) (m1:m<9223372036854775808):Ct prog 16 [cv s,iA m] [] (λ_=>.tup [cv (s.frame m).1,Bd .u8 (s.frame m).2]) [] (λ_=>[]):=by
 refine Ah.toCt ?_ cl cl
 have⟨a1,a2⟩:=RS.ok.blob hs (BK m);have hsh:=Gc hs (BK m);have hlen:=hs.len;have hm:=Ox m;have⟨B,hB⟩:=Ex (s.blob (BK m));rw[hB]at a1 a2 hsh;have⟨t,p⟩:=B;simp only at a1 a2 hsh;have e:s.frame m=if(t.fixed 4).1.code=0 then(if(t.fixed 4).2=Bb p then((t.fixed 4).1,p)else((t.fixed 4).1.fail 6 t.at_,[]))else((t.fixed 4).1,[]):=by
  unfold RS.frame;rw[hB]
 have eb:=Gn hsh.2;have⟨F,hF⟩:=Ex (t.fixed 4);have hF':t.fixed (min (max 4 0) 8)=F:=hF;rw[hF]at e;have⟨u,x⟩:=F;simp only at e;have⟨M,hM⟩:=Ex (BK m);rw[hM]at hB hm;refine RM func16 b16 ?_
 by_cases hmm:2097152<m
 ·have q:decide (2097152<m)=true:=Sx hmm
  have em:M=2097152:=by rw[←hM];unfold BK;omega
  subst em;refine (mq q ?_).1;refine Aa.p (N8 s 2097152 Om hs) (mq hB ?_).1;refine Aa.p (Mo t 4 a1) ?_;by_cases hc:u.code=0
  ·have q1:(u.code==0)=true:=Sx hc
   have q1':(u.code != 0)=false:=Sx hc
   rw[if_pos hc]at e;refine (mr hF' q1 ?_).1;refine Aa.p (Q_ p hsh.2 Om) ?_;by_cases hx:x=Bb p
   ·have q2:(x != Bb p)=false:=Sx hx
    rw[if_pos hx]at e;refine (ms eb q2 q1' ?_).1
    exact FE b16 [] e
   ·have q2:(x != Bb p)=true:=Sx hx
    have q3:((u.fail 6 t.at_).code != 0)=true:=by simpa using BF 6 t.at_ hc De
    rw[if_neg hx]at e;refine (mr eb q2 ?_).1;refine Aa.p (EQ u 6 t.at_) (mq q3 ?_).1;refine UT 5 ?_
    exact FE b16 [] e
  ·have q1:(u.code==0)=false:=Sx hc
   have q1':(u.code != 0)=true:=Sx hc
   rw[if_neg hc]at e;refine (ms hF' q1 q1' ?_).1;refine UT 5 ?_
   exact FE b16 [] e
 ·have q:decide (2097152<m)=false:=Sx hmm
  have em:M=m:=by rw[←hM];unfold BK;omega
  subst em;refine (mq q ?_).1;refine Aa.p (N8 s M m1 hs) (mq hB ?_).1;refine Aa.p (Mo t 4 a1) ?_;by_cases hc:u.code=0
  ·have q1:(u.code==0)=true:=Sx hc
   have q1':(u.code != 0)=false:=Sx hc
   rw[if_pos hc]at e;refine (mr hF' q1 ?_).1;refine Aa.p (Q_ p hsh.2 Om) ?_;by_cases hx:x=Bb p
   ·have q2:(x != Bb p)=false:=Sx hx
    rw[if_pos hx]at e;refine (ms eb q2 q1' ?_).1
    exact FE b16 [] e
   ·have q2:(x != Bb p)=true:=Sx hx
    have q3:((u.fail 6 t.at_).code != 0)=true:=by simpa using BF 6 t.at_ hc De
    rw[if_neg hx]at e;refine (mr eb q2 ?_).1;refine Aa.p (EQ u 6 t.at_) (mq q3 ?_).1;refine UT 5 ?_
    exact FE b16 [] e
  ·have q1:(u.code==0)=false:=Sx hc
   have q1':(u.code != 0)=true:=Sx hc
   rw[if_neg hc]at e;refine (ms hF' q1 q1' ?_).1;refine UT 5 ?_
   exact FE b16 [] e
abbrev oY (h:Hd):AV:=.agg [iA h.ver,uA h.ep,uA h.base]
abbrev ZY:ByteArray:=⟨#[84,72,79,76]⟩
def kV:AW Bs:=by unfold AW Bs;decide
def tL {l:List Int} (hl:AW l):((FN (A0 .u8 l)).toList==ZY.toList)=BJ l Bs:=HX hl kV
def cN:(ZY.data.toList.map λb=>AV.lit (.int .u8 b.toNat))=A0 .u8 Bs:=rfl
def vb9 {x:Int} (h:x<4611686018427387904):(vb x).length≤9:=by
 have h1:=tC (x:=x) (y:=4611686018427387903) Om;have h2:(vb 4611686018427387903).length=9:=by kernel_rfl
 omega
def Aas :Ct prog 171 [] [] (λ_=>iA 27) [] (λ_=>[]):=by
 refine Ah.toCt ?_ cl cl
 have h2:((vb 4611686018427387903).length:Int)=9:=by have:(vb 4611686018427387903).length=9:=by kernel_rfl
                                                     omega
 have e1:IntKind.i64.wrap 18=18:=by decide
 have e2:IntKind.i64.wrap 23=23:=by decide
 have e3:IntKind.i64.wrap 27=27:=by decide
 refine RM func171 Ag7 ?_
 refine Aa.p (C0 4611686018427387903 Om Om) (mt h2 e1 e2 e3 ?_).1;refine (Sr ?_).1;exact FA Ag7 []
def HO (v:Int):Ct prog 117 [iA v] [] (λ_=>bA (v==1)) [] (λ_=>[]):=by
 refine Ah.toCt ?_ cl cl
 refine RM func117 Ahr ?_
 exact FA Ahr []
def Ta (h:Hd):Ct prog 209 [oY h] [] (λ_=>bA (Bz h)) [] (λ_=>[]):=by
 refine Ah.toCt ?_ cl cl
 refine RM func209 ZK ?_
 by_cases h1:1≤h.ver
 ·have q1:decide (1≤h.ver)=true:=decide_eq_true h1;by_cases h2:h.ver≤3
  ·have q2:decide (h.ver≤3)=true:=decide_eq_true h2;have q12:decide (1≤h.ver∧h.ver≤3)=true:=decide_eq_true ⟨h1,h2⟩;refine (mr q1 q2 ?_).1;refine Aa.p (AO h.ep) ?_;cases q3:Ac h.ep
   ·have e:Bz h=false:=by unfold Bz;rw[q12,q3];rfl
    refine (mq q3 ?_).1
    exact FE ZK [] e
   ·refine (mq q3 ?_).1;refine Aa.p (Hl h.base) ?_;cases q4:AL h.base
    ·have e:Bz h=false:=by unfold Bz;rw[q12,q3,q4];rfl
     refine (mq q4 ?_).1
     exact FE ZK [] e
    ·refine (mq q4 ?_).1;refine Aa.p (HO h.ver) ?_;by_cases h5:h.ver=1
     ·have q5:(h.ver==1)=true:=Sx h5
      have e:Bz h=true:=by unfold Bz;rw[q12,q3,q4,decide_eq_true h5];rfl
      refine (mq q5 ?_).1
      exact FE ZK [] e
     ·have q5:(h.ver==1)=false:=Sx h5
      have e:(h.base==0)=Bz h:=by
       unfold Bz;rw[q12,q3,q4,decide_eq_false h5,Bool.eq_iff_iff];simp
      refine (mr q5 e ?_).1;exact FA ZK []
  ·have q2:decide (h.ver≤3)=false:=decide_eq_false h2;have e:Bz h=false:=by unfold Bz;rw[decide_eq_false Om];rfl
   refine (mr q1 q2 ?_).1
   exact FE ZK [] e
 ·have q1:decide (1≤h.ver)=false:=decide_eq_false h1;have e:Bz h=false:=by unfold Bz;rw[decide_eq_false Om];rfl
  refine (mq q1 ?_).1
  exact FE ZK [] e
def TS (s:WS) (hs:s.fine):Ah prog 187 [.ref 0 0,.lit (.string ZY)] [B0 1 s,AX s] (.tup []) [B0 1 (s.put Bs),AX (s.put Bs)]:=by
 refine RN func187 y5 ?_;refine (mq @cN ?_).1
 (repeat with_reducible refine Sa ?_);refine Aa.u2 (BV s Bs 0 1 De hs.ok (hs.room _)) rfl rfl (mp ?_).1;exact FA y5 [0,1]
def W7 (s:WS) (i j:Nat) (h:i≠j) (hs:s.fine):Ct prog 187 [.ref i 0,.lit (.string ZY)] [(i,B0 j s),(j,AX s)] (λ_=>.tup []) [(i,B0 j (s.put Bs)),(j,AX (s.put Bs))] (λ_=>[]):=Ct.u2 (TS s hs) i j h cl cl cl cl cl (Bx _ _) (Bg _) CN
def WS.epput (s:WS) (x:Int) (b:Bool):WS:=if b=true then s.put (vb x)else s.fail 3
def Zl (s:WS) (x:Int) (b:Bool) (h0:0≤x) (h1:x<18446744073709551616) (hs:s.fine):Ah prog 221 [.ref 0 0,uA x,bA b] [B0 1 s,AX s] (.tup []) [B0 1 (s.epput x b),AX (s.epput x b)]:=by
 refine RM func221 Ada ?_
 cases b
 ·refine (mp ?_).1;refine Aa.u2 (Cj s 3 0 1 De) rfl rfl (mp ?_).1
  exact FK Ada [0,1] (by simp[WS.epput])
 ·refine (mp ?_).1;refine Aa.u2 (Br s x 0 1 De h0 h1 hs.ok (hs.room _)) rfl rfl (mp ?_).1
  exact FK Ada [0,1] (by simp[WS.epput])
def RL (s:WS) (x:Int) (b:Bool) (i j:Nat) (h:i≠j) (h0:0≤x) (h1:x<18446744073709551616) (hs:s.fine):Ct prog 221 [.ref i 0,uA x,bA b] [(i,B0 j s),(j,AX s)] (λ_=>.tup []) [(i,B0 j (s.epput x b)),(j,AX (s.epput x b))] (λ_=>[]):=Ct.u2 (Zl s x b h0 h1 hs) i j h cl cl cl cl cl (Bx _ _) (Bg _) CN
def Zm (s:WS) (x:Int) (h0:0≤x) (h1:x<18446744073709551616) (hs:s.fine):Ah prog 189 [.ref 0 0,uA x] [B0 1 s,AX s] (.tup []) [B0 1 (s.epput x (Ac x)),AX (s.epput x (Ac x))]:=by
 refine RM func189 Ag2 ?_
 refine Cp (AO x) ?_;refine Aa.u2 (RL s x (Ac x) 0 1 De h0 h1 hs) rfl rfl (mp ?_).1;exact FA Ag2 [0,1]
def Js (s:WS) (x:Int) (i j:Nat) (h:i≠j) (h0:0≤x) (h1:x<18446744073709551616) (hs:s.fine):Ct prog 189 [.ref i 0,uA x] [(i,B0 j s),(j,AX s)] (λ_=>.tup []) [(i,B0 j (s.epput x (Ac x))),(j,AX (s.epput x (Ac x)))] (λ_=>[]):=Ct.u2 (Zm s x h0 h1 hs) i j h cl cl cl cl cl (Bx _ _) (Bg _) CN
def QB (s:WS) (x:Int) (h0:0≤x) (h1:x<18446744073709551616) (hs:s.fine):Ah prog 190 [.ref 0 0,uA x] [B0 1 s,AX s] (.tup []) [B0 1 (s.epput x (AL x)),AX (s.epput x (AL x))]:=by
 refine RM func190 Ag1 ?_
 refine Cp (Hl x) ?_;refine Aa.u2 (RL s x (AL x) 0 1 De h0 h1 hs) rfl rfl (mp ?_).1;exact FA Ag1 [0,1]
def Lj (s:WS) (x:Int) (i j:Nat) (h:i≠j) (h0:0≤x) (h1:x<18446744073709551616) (hs:s.fine):Ct prog 190 [.ref i 0,uA x] [(i,B0 j s),(j,AX s)] (λ_=>.tup []) [(i,B0 j (s.epput x (AL x))),(j,AX (s.epput x (AL x)))] (λ_=>[]):=Ct.u2 (QB s x h0 h1 hs) i j h cl cl cl cl cl (Bx _ _) (Bg _) CN
def F9 {h:Hd} (hr:Bz h=true):(AI h).length≤23∧(Am h).length≤27:=by
 have⟨h1,h2,h3,h4⟩:=B9.1 hr;have a:=vb9 h2.2;have b:=vb9 h3;have c:=Em h;have d:(AI h).length≤23:=by
  unfold AI;simp only[length_append,Bs,length_cons,length_nil];split
  ·omega
  ·simp only[length_nil];omega
 exact⟨d,Om⟩
def HN (h:Hd) (hr:Bz h=true) (hb:0≤h.base):Ct prog 119 [oY h] [] (λ_=>Bd .u8 (AI h)) [] (λ_=>[]):=by
 refine Ah.toCt ?_ cl cl
 have⟨h1,h2,h3,h4⟩:=B9.1 hr;have a:=vb9 h2.2;have b:=vb9 h3;have ew:IntKind.u8.wrap h.ver=h.ver:=IntWalk.u8_in _ Om;have f0:(WS.new 27).fine:=WS.fine.new Om;have f1:=f0.put Bs;have w1:(WS.new 27).put Bs=⟨27,Bs,0⟩:=by kernel_rfl
 rw[w1]at f1;have f2:=f1.put [h.ver];have w2:(WS.mk 27 Bs 0).put [h.ver]=⟨27,Bs++[h.ver],0⟩:=CP rfl (by simp[Bs]);rw[w2]at f2;have f3:=f2.put (vb h.ep);have w3:(WS.mk 27 (Bs++[h.ver]) 0).put (vb h.ep)=⟨27,Bs++[h.ver]++vb h.ep,0⟩:=CP rfl (by simp[Bs];omega);rw[w3]at f3;have w3':(WS.mk 27 (Bs++[h.ver]) 0).epput h.ep (Ac h.ep)=⟨27,Bs++[h.ver]++vb h.ep,0⟩:=by unfold WS.epput;rw[if_pos (Bq.2 h2),w3]
 have w4:(WS.mk 27 (Bs++[h.ver]++vb h.ep) 0).put (vb h.base)=⟨27,Bs++[h.ver]++vb h.ep++vb h.base,0⟩:=CP rfl (by simp[Bs];omega);have w4':(WS.mk 27 (Bs++[h.ver]++vb h.ep) 0).epput h.base (AL h.base)=⟨27,Bs++[h.ver]++vb h.ep++vb h.base,0⟩:=by unfold WS.epput;rw[if_pos (DL.2 h3),w4]
 have e1:A0 .u8 [h.ver]=[Ul h.ver]:=rfl;have hl:=(F9 hr).1;refine RM func119 Ad7 ?_
 refine Cp (Aas) ?_;refine Aa.n (E5 27) (mp ?_).1;refine Aa.u2 (W7 (WS.new 27) _ _ De f0) rfl rfl (mr w1 ew ?_).1;refine (Sr ?_).1;refine Aa.u2 (BV (WS.mk 27 Bs 0) [h.ver] _ _ De f1.ok (f1.room _)) rfl rfl (mq w2 ?_).1;refine Aa.u2 (Js (WS.mk 27 (Bs++[h.ver]) 0) h.ep _ _ De Om Om f2) rfl rfl (mq w3' ?_).1;refine Aa.p (HO h.ver) ?_;by_cases hv:h.ver=1
 ·have q5:(h.ver==1)=true:=Sx hv
  have e:AI h=Bs++[h.ver]++vb h.ep++vb h.base:=by unfold AI;rw[if_pos hv]
  have hbs:(WS.mk 27 (AI h) 0).bytes=AI h:=rfl;rw[←e]at w4';refine (mq q5 ?_).1;refine Aa.u2 (Lj (WS.mk 27 (Bs++[h.ver]++vb h.ep) 0) h.base _ _ De hb Om f3) rfl rfl (mq w4' ?_).1;refine Aa.r2 (BW (WS.mk 27 (AI h) 0) _ _ De (by show(AI h).length≤_;omega)) rfl rfl ?_;refine (mq hbs ?_).1;exact FA Ad7 []
 ·have q5:(h.ver==1)=false:=Sx hv
  have e:AI h=Bs++[h.ver]++vb h.ep:=by unfold AI;rw[if_neg hv,append_nil]
  have hbs:(WS.mk 27 (AI h) 0).bytes=AI h:=rfl;rw[←e];refine (mq q5 ?_).1;refine Aa.r2 (BW (WS.mk 27 (AI h) 0) _ _ De (by show(AI h).length≤_;omega)) rfl rfl ?_;refine (mq hbs ?_).1;exact FA Ad7 []
def WS.header (s:WS) (h:Hd):WS:=if Bz h=true then(s.put (AI h)).put (Ap 4 (Bb (AI h)))else s.fail 3
def WS.fine.header {s:WS} (hs:s.fine) (h:Hd):(s.header h).fine:=by
 unfold WS.header;split
 ·exact(hs.put _).put _
 ·exact hs.fail 3
def YQ {s:WS} {h:Hd} (hr:Bz h=true) (hc:s.code=0) (hm:(s.l.length:Int)+(Am h).length≤s.most):s.header h=⟨s.most,s.l++Am h,0⟩:=by
 rw[Em]at hm;have h4:=BN 4 (Bb (AI h));unfold WS.header;rw[if_pos hr,CP hc Om,CP rfl (by simp only[length_append];omega)];simp[Am]
def V0 (s:WS) (h:Hd) (hs:s.fine) (hb:0≤h.base):Ah prog 172 [.ref 0 0,oY h] [B0 1 s,AX s] (.tup []) [B0 1 (s.header h),AX (s.header h)]:=by
 refine RM func172 Ado ?_
 refine Aa.p (Ta h) ?_;by_cases hr:Bz h=true
 ·have hp:=F4 hr hb;have hl:=(F9 hr).1;have hcr:=DE hp;have e:=Gn hp;refine (mq hr ?_).1;refine Cp (HN h hr hb) ?_;refine Aa.u2 (BV s (AI h) 0 1 De hs.ok (hs.room _)) rfl rfl (mp ?_).1;refine Aa.p (Gx (AI h) hp Om) (mq e ?_).1;refine Aa.u2 (H1 (s.put (AI h)) (Bb (AI h)) 4 0 1 De hcr.1 Om (hs.put _)) rfl rfl (mp ?_).1
  exact FK Ado [0,1] (by simp[WS.header,hr,show(min (max (4:Int) 0) 8).toNat=4 from rfl])
 ·have hr':Bz h=false:=Sx hr
  refine (mq hr' ?_).1;refine Aa.u2 (Cj s 3 0 1 De) rfl rfl (mp ?_).1
  exact FK Ado [0,1] (by simp[WS.header,hr'])
def YS (s:WS) (d:Hd) (i j:Nat) (h:i≠j) (hs:s.fine) (hb:0≤d.base):Ct prog 172 [.ref i 0,oY d] [(i,B0 j s),(j,AX s)] (λ_=>.tup []) [(i,B0 j (s.header d)),(j,AX (s.header d))] (λ_=>[]):=Ct.u2 (V0 s d hs hb) i j h cl cl cl cl cl (Bx _ _) (Bg _) CN
def Pp (h:Hd):List Int:=if Bz h=true then Am h else[]
def xJ (h:Hd):Int:=if Bz h=true then 0 else 3
def Yg (h:Hd) {n:Int} (hn:27≤n):(WS.new n).header h=⟨n,Pp h,xJ h⟩∧((WS.new n).header h).bytes=Pp h:=by
 by_cases hr:Bz h=true
 ·have hl:=(F9 hr).2;have e:=YQ (s:=WS.new n) hr rfl (by rw[WS.new_is Om];simp;omega);rw[e,WS.new_is Om];unfold Pp xJ;rw[if_pos hr,if_pos hr];exact⟨Si,by simp[WS.bytes]⟩
 ·unfold WS.header Pp xJ;rw[if_neg hr,if_neg hr,if_neg hr,WS.new_is Om];exact⟨rfl,rfl⟩
def RU (s:RS) (h0:0≤s.at_):s.byte=((s.take 1).1,(s.take 1).2.getD 0 0):=by
 unfold RS.byte RS.take;split
 ·simp[getD_eq_getElem?_getD,getElem?_take,getElem?_drop]
 ·rfl
def wH (s:RS):s.lets=if BJ (s.take 4).2 Bs=true then(s.take 4).1 else(s.take 4).1.fail 14 s.at_:=by
 unfold RS.lets BJ;by_cases h:(s.take 4).2=Bs
 ·rw[if_neg (by rintro⟨_,h'⟩;exact h' h),if_pos (by simpa using h)]
 ·rw[if_neg (c:=decide ((s.take 4).2=Bs)=true) (by simpa using h)];by_cases hc:(s.take 4).1.code=0
  ·rw[if_pos ⟨hc,h⟩]
  ·rw[if_neg (by rintro⟨h',_⟩;exact hc h'),IS hc]
def Qn (s:RS) (hs:Ak s):Ah prog 60 [.ref 0 0] [AN s] (iA s.hbegin.2) [AN (s.hbegin.1)]:=by
 have⟨hk,hkl⟩:=Jj hs;have hTb:=Dw hs.bys 4;have hl:=wH s;have hbt:=RU s.lets hk.at0;have hvr:=bD hk.ok hk.bys;have hv2:s.hbegin=if(s.lets.take 1).1.code=0 then(if 1≤(s.lets.take 1).2.getD 0 0∧(s.lets.take 1).2.getD 0 0≤3 then((s.lets.take 1).1,(s.lets.take 1).2.getD 0 0)else((s.lets.take 1).1.fail 8 s.lets.at_,0))else((s.lets.take 1).1,0):=rfl
 have hv0:¬(s.lets.take 1).1.code=0->(s.lets.take 1).2.getD 0 0=0:=λh=>by rw[GR h];rfl
 have hat:(s.lets.take 1).1.code=0->IntKind.i64.wrap ((s.lets.take 1).1.at_-1)=s.lets.at_:=λh=>by
  have h4:=(Be hk h).2.2.2.1;have h0:=hk.at0;have h1:=hk.at1;have h2:=hk.len;rw[h4,i64_in _ Om];omega
 rw[hbt]at hvr;have⟨t,ht⟩:=Ex ((s.lets.take 1).1);have⟨v,hv⟩:=Ex ((s.lets.take 1).2.getD 0 0);rw[ht,hv]at hbt;rw[ht,hv]at hv2;rw[ht,hv]at hv0;rw[ht]at hat;simp only[hv]at hvr;have ev:IntKind.i64.wrap v=v:=i64_in _ Om;refine RM func60 yS ?_
 refine Cr (AF s 0) rfl ?_;refine Aa.u1 (CF s 4 0 hs.ok) rfl (mr @Nw (tL hTb) ?_).1;by_cases hT:BJ (s.take 4).2 Bs=true
 ·rw[if_pos hT]at hl;rw[←hl];refine (mq hT ?_).1;refine Aa.u1 (CG s.lets 0 hk.ok) rfl ?_;simp only[go_sem,seval,hbt,ev];refine (mok ?_).1;by_cases hc:t.code=0
  ·rw[if_pos hc]at hv2;by_cases h1:1≤v
   ·have q1:decide (v<1)=false:=decide_eq_false Om;by_cases h3:v≤3
    ·have q3:decide (3<v)=false:=decide_eq_false Om;rw[if_pos ⟨h1,h3⟩]at hv2;refine (mr q1 q3 ?_).1;refine Aa.r1 (Ae t 0) rfl (mq (AR hc) ?_).1
     exact FE yS [0] hv2
    ·have q3:decide (3<v)=true:=decide_eq_true Om;rw[if_neg Om]at hv2;refine (mr q1 q3 ?_).1;refine Aa.r1 (AF t 0) rfl (mq (hat hc) ?_).1;refine Cu (Aj t 8 s.lets.at_ 0) rfl ?_;refine Aa.r1 (Ae (t.fail 8 s.lets.at_) 0) rfl (mq (Au (BF 8 s.lets.at_ hc De)) ?_).1
     exact FE yS [0] hv2
   ·have q1:decide (v<1)=true:=decide_eq_true Om;rw[if_neg Om]at hv2;refine (mq q1 ?_).1;refine Aa.r1 (AF t 0) rfl (mq (hat hc) ?_).1;refine Cu (Aj t 8 s.lets.at_ 0) rfl ?_;refine Aa.r1 (Ae (t.fail 8 s.lets.at_) 0) rfl (mq (Au (BF 8 s.lets.at_ hc De)) ?_).1
    exact FE yS [0] hv2
  ·rw[if_neg hc]at hv2;have q0:=hv0 hc;have q1:decide (v<1)=true:=decide_eq_true Om;refine (mq q1 ?_).1;refine Cr (AF t 0) rfl ?_;refine Aa.u1 (Aj t 8 _ 0) rfl (mq (IS hc) ?_).1;refine Aa.r1 (Ae t 0) rfl (mq (Au hc) ?_).1
   exact FE yS [0] hv2
 ·have hT':BJ (s.take 4).2 Bs=false:=Sx hT
  rw[if_neg hT]at hl;refine (mq hT' ?_).1;refine Aa.u1 (Aj (s.take 4).1 14 s.at_ 0) rfl ?_;simp only[go_sem,seval,←hl];refine (mok ?_).1;refine Aa.u1 (CG s.lets 0 hk.ok) rfl ?_;simp only[go_sem,seval,hbt,ev];refine (mok ?_).1;by_cases hc:t.code=0
  ·rw[if_pos hc]at hv2;by_cases h1:1≤v
   ·have q1:decide (v<1)=false:=decide_eq_false Om;by_cases h3:v≤3
    ·have q3:decide (3<v)=false:=decide_eq_false Om;rw[if_pos ⟨h1,h3⟩]at hv2;refine (mr q1 q3 ?_).1;refine Aa.r1 (Ae t 0) rfl (mq (AR hc) ?_).1
     exact FE yS [0] hv2
    ·have q3:decide (3<v)=true:=decide_eq_true Om;rw[if_neg Om]at hv2;refine (mr q1 q3 ?_).1;refine Aa.r1 (AF t 0) rfl (mq (hat hc) ?_).1;refine Cu (Aj t 8 s.lets.at_ 0) rfl ?_;refine Aa.r1 (Ae (t.fail 8 s.lets.at_) 0) rfl (mq (Au (BF 8 s.lets.at_ hc De)) ?_).1
     exact FE yS [0] hv2
   ·have q1:decide (v<1)=true:=decide_eq_true Om;rw[if_neg Om]at hv2;refine (mq q1 ?_).1;refine Aa.r1 (AF t 0) rfl (mq (hat hc) ?_).1;refine Cu (Aj t 8 s.lets.at_ 0) rfl ?_;refine Aa.r1 (Ae (t.fail 8 s.lets.at_) 0) rfl (mq (Au (BF 8 s.lets.at_ hc De)) ?_).1
    exact FE yS [0] hv2
  ·rw[if_neg hc]at hv2;have q0:=hv0 hc;have q1:decide (v<1)=true:=decide_eq_true Om;refine (mq q1 ?_).1;refine Cr (AF t 0) rfl ?_;refine Aa.u1 (Aj t 8 _ 0) rfl (mq (IS hc) ?_).1;refine Aa.r1 (Ae t 0) rfl (mq (Au hc) ?_).1
   exact FE yS [0] hv2
def K_ (s:RS) (i:Nat) (hs:Ak s):Ct prog 60 [.ref i 0] [(i,AN s)] (λ_=>iA s.hbegin.2) [(i,AN (s.hbegin.1))] (λ_=>[]):=Ct.u1 (Qn s hs) i cl (λρ=>An ρ _) (λρ=>An ρ _) (rdr_dead _) cl
def Tb (s:RS) (hs:Ak s):Ah prog 49 [.ref 0 0] [AN s] (oY s.header.2) [AN (s.header.1)]:=by
 have⟨ka,_⟩:=Mx hs;have⟨kb,_⟩:=Bc ka Ac;have⟨kc,kl⟩:=Gs hs;have e0:s.hplain=(((s.hbegin.1.epo Ac).1.hbase s.hbegin.2).1,⟨s.hbegin.2,(s.hbegin.1.epo Ac).2,((s.hbegin.1.epo Ac).1.hbase s.hbegin.2).2⟩):=rfl;have hgood:(s.hplain.1.fixed 4).1.code=0->Bz s.hplain.2=true∧0≤s.hplain.2.base∧s.from s.hplain.1=AI s.hplain.2:=λh=>by
  have⟨t1,t2,t3,t4,t5⟩:=Be kc (n:=4) h;have⟨p1,p2,p3,p4,p5⟩:=Rw hs t1;exact⟨p2,p3,LX hs.at0 Om p5 hs.at1⟩
 have e:s.header=if(s.hplain.1.fixed 4).1.code=0 then(if(s.hplain.1.fixed 4).2=Bb (s.from s.hplain.1)then((s.hplain.1.fixed 4).1,s.hplain.2)else((s.hplain.1.fixed 4).1.fail 6 s.hplain.1.at_,Ls))else((s.hplain.1.fixed 4).1,Ls):=rfl
 have⟨A,hA⟩:=Ex s.hbegin;rw[hA]at e0 ka kb;have⟨B,hB⟩:=Ex (A.1.epo Ac);rw[hB]at e0 kb;refine RM func49 b49 ?_
 refine Aa.u1 (K_ s 0 hs) rfl (mq hA ?_).1;refine Aa.u1 (EY A.1 0 ka) rfl (mq hB ?_).1;refine Aa.p (HO A.2) ?_;by_cases hv:A.2=1
 ·have qv:(A.2==1)=true:=Sx hv
  have⟨C,hC⟩:=Ex (B.1.epo AL);have hC':B.1.hbase A.2=C:=by unfold RS.hbase;rw[if_pos hv,hC]
  rw[hC']at e0;rw[e0]at kc;rw[e0]at hgood;rw[e0]at e;simp only at kc hgood e;have⟨F,hF⟩:=Ex (C.1.fixed 4);have hF':C.1.fixed (min (max 4 0) 8)=F:=hF;rw[hF]at hgood;rw[hF]at e;refine (mq qv ?_).1;refine Aa.u1 (E9 B.1 0 kb) rfl (mq hC ?_).1;refine Cr (AF C.1 0) rfl ?_;refine Aa.u1 (CW C.1 4 0 kc) rfl (mq hF' ?_).1;by_cases hc:F.1.code=0
  ·have⟨hr,hb,hfr⟩:=hgood hc;rw[if_pos hc,hfr]at e;have hp:=F4 hr hb;have hpl:=(F9 hr).1;have eb:=Gn hp;refine Aa.r1 (Ae F.1 0) rfl (mq (AR hc) ?_).1;refine Cp (HN ⟨A.2,B.2,C.2⟩ hr hb) ?_;refine Aa.p (Gx (AI ⟨A.2,B.2,C.2⟩) hp Om) (mq eb ?_).1;by_cases hx:F.2=Bb (AI ⟨A.2,B.2,C.2⟩)
   ·have q2:(F.2 != Bb (AI ⟨A.2,B.2,C.2⟩))=false:=Sx hx
    rw[if_pos hx]at e;refine (mq q2 ?_).1
    exact FE b49 [0] e
   ·have q2:(F.2 != Bb (AI ⟨A.2,B.2,C.2⟩))=true:=Sx hx
    rw[if_neg hx]at e;refine (mq q2 ?_).1;refine Cu (Aj F.1 6 C.1.at_ 0) rfl ?_
    exact FK b49 [0] (by simp[e,Ls])
  ·rw[if_neg hc]at e;refine Aa.r1 (Ae F.1 0) rfl (mq (Au hc) ?_).1
   exact FK b49 [0] (by simp[e,Ls])
 ·have qv:(A.2==1)=false:=Sx hv
  have hC':B.1.hbase A.2=(B.1,0):=by unfold RS.hbase;rw[if_neg hv]
  rw[hC']at e0;rw[e0]at kc;rw[e0]at hgood;rw[e0]at e;simp only at kc hgood e;have⟨F,hF⟩:=Ex (B.1.fixed 4);have hF':B.1.fixed (min (max 4 0) 8)=F:=hF;rw[hF]at hgood;rw[hF]at e;refine (mq qv ?_).1;refine Cr (AF B.1 0) rfl ?_;refine Aa.u1 (CW B.1 4 0 kc) rfl (mq hF' ?_).1;by_cases hc:F.1.code=0
  ·have⟨hr,hb,hfr⟩:=hgood hc;rw[if_pos hc,hfr]at e;have hp:=F4 hr hb;have hpl:=(F9 hr).1;have eb:=Gn hp;refine Aa.r1 (Ae F.1 0) rfl (mq (AR hc) ?_).1;refine Cp (HN ⟨A.2,B.2,0⟩ hr hb) ?_;refine Aa.p (Gx (AI ⟨A.2,B.2,0⟩) hp Om) (mq eb ?_).1;by_cases hx:F.2=Bb (AI ⟨A.2,B.2,0⟩)
   ·have q2:(F.2 != Bb (AI ⟨A.2,B.2,0⟩))=false:=Sx hx
    rw[if_pos hx]at e;refine (mq q2 ?_).1
    exact FE b49 [0] e
   ·have q2:(F.2 != Bb (AI ⟨A.2,B.2,0⟩))=true:=Sx hx
    rw[if_neg hx]at e;refine (mq q2 ?_).1;refine Cu (Aj F.1 6 B.1.at_ 0) rfl ?_
    exact FK b49 [0] (by simp[e,Ls])
  ·rw[if_neg hc]at e;refine Aa.r1 (Ae F.1 0) rfl (mq (Au hc) ?_).1
   exact FK b49 [0] (by simp[e,Ls])
def IK (s:RS) (i:Nat) (hs:Ak s):Ct prog 49 [.ref i 0] [(i,AN s)] (λ_=>oY s.header.2) [(i,AN (s.header.1))] (λ_=>[]):=Ct.u1 (Tb s hs) i cl (λρ=>An ρ _) (λρ=>An ρ _) (rdr_dead _) cl
def gU (b:List Int):Hd×Int×(Int×Int):=if(RS.new b).header.1.code=0 then((RS.new b).header.2,(RS.new b).header.1.at_,(0,0))else(Ls,0,((RS.new b).header.1.code,(RS.new b).header.1.fat))
def Ij (b:List Int):Int×(Int×Int):=if(RS.new b).hbegin.1.code=0 then((RS.new b).hbegin.2,(0,0))else(0,((RS.new b).hbegin.1.code,(RS.new b).hbegin.1.fat))
def YT (b:List Int) (hb:AW b) (hn:b.length≤140737488355328):Ct prog 85 [Bd .u8 b] [] (λ_=>.tup [oY (gU b).1,iA (gU b).2.1,Ce (gU b).2.2]) [] (λ_=>[]):=by
 refine Ah.toCt ?_ cl cl
 have hok:Ak (RS.new b):=Ak.new hb hn;have hgood:=λhc=>ET hok hc
 have hbad:=λhc=>HP (s:=RS.new b) hc
 have⟨F,hF⟩:=Ex ((RS.new b).header);have e:gU b=if F.1.code=0 then(F.2,F.1.at_,(0,0))else(Ls,0,(F.1.code,F.1.fat)):=by unfold gU;rw[hF]
 rw[hF]at hgood hbad;refine RM func85 b85 ?_
 refine Aa.n (BO b) (mp ?_).1;refine Aa.u1 (IK (RS.new b) _ hok) rfl (mq hF ?_).1;by_cases hc:F.1.code=0
 ·have h1:=(B9.1 (hgood hc).2.1).1;have q:(F.2.ver==0)=false:=by simp;omega
  rw[if_pos hc]at e;refine (mr q @Bool.false_and ?_).1;refine Cr (AF F.1 _) rfl ?_
  exact FE b85 [] e
 ·have hz:=hbad hc;have z1:F.2.ver=0:=by rw[hz];rfl
  have z2:F.2.ep=0:=by rw[hz];rfl
  have z3:F.2.base=0:=by rw[hz];rfl
  rw[if_neg hc]at e;refine (ms z1 z2 z3 ?_).1;refine Cr (AQ F.1 _) rfl ?_
  exact FK b85 [] (by simp[e,Ls])
def OW (b:List Int) (hb:AW b) (hn:b.length≤140737488355328):Ct prog 24 [Bd .u8 b] [] (λ_=>.tup [iA (Ij b).1,Ce (Ij b).2]) [] (λ_=>[]):=by
 refine Ah.toCt ?_ cl cl
 have hok:Ak (RS.new b):=Ak.new hb hn;have⟨F,hF⟩:=Ex ((RS.new b).hbegin);have e:Ij b=if F.1.code=0 then(F.2,(0,0))else(0,(F.1.code,F.1.fat)):=by unfold Ij;rw[hF]
 refine RM func24 b24 ?_
 refine Aa.n (BO b) (mp ?_).1;refine Aa.u1 (K_ (RS.new b) _ hok) rfl (mq hF ?_).1;refine Cr (AQ F.1 _) rfl ?_;refine Aa.p (Ai F.1.code F.1.fat) ?_;by_cases hc:F.1.code=0
 ·have q:(F.1.code==0)=true:=Sx hc
  rw[if_pos hc]at e;refine (mq q ?_).1
  exact FE b24 [] e
 ·have q:(F.1.code==0)=false:=Sx hc
  rw[if_neg hc]at e;refine (mq q ?_).1
  exact FE b24 [] e
abbrev sV (f:Ft):AV:=.agg [uA f.ep,iA f.bat,iA f.ent,uA f.fst,uA f.fin,iA f.at_,iA f.size]
def Th (f:Ft) (s0:0≤f.fst) (s1:f.fst<18446744073709551616) (n0:0≤f.fin) (n1:f.fin<18446744073709551616) (e0:0≤f.ent) (e1:f.ent<9223372036854775808):Ct prog 223 [sV f] [] (λ_=>bA (Dx f)) [] (λ_=>[]):=by
 refine Ah.toCt ?_ cl cl
 refine RM func223 jP ?_
 by_cases hb:f.bat=0
 ·have qb:(f.bat==0)=true:=Sx hb
  by_cases h1:f.fst=0
  ·have q1:(f.fst==0)=true:=Sx h1
   have e:(f.fin==0)=Dx f:=by unfold Dx;rw[if_pos hb,Bool.eq_iff_iff];simp[h1]
   refine (ms qb q1 e ?_).1;exact FA jP []
  ·have q1:(f.fst==0)=false:=Sx h1
   have e:Dx f=false:=by unfold Dx;rw[if_pos hb];simp[h1]
   refine (mr qb q1 ?_).1
   exact FE jP [] e
 ·have qb:(f.bat==0)=false:=Sx hb
  by_cases h1:f.fst<f.fin
  ·have q1:decide (f.fst<f.fin)=true:=decide_eq_true h1;by_cases h2:f.fin≤4611686018427387904
   ·have q2:decide (f.fin≤4611686018427387904)=true:=decide_eq_true h2;have w1:IntKind.u64.wrap (f.fin-f.fst)=f.fin-f.fst:=u64_in _ Om;have w2:IntKind.u64.wrap f.ent=f.ent:=u64_in _ Om;have e:decide (f.ent≤f.fin-f.fst)=Dx f:=by unfold Dx;rw[if_neg hb,decide_eq_decide];omega
    simp only[go_sem,seval,qb,q1,q2,w1,w2,e];refine (mok ?_).1;exact FA jP []
   ·have q2:decide (f.fin≤4611686018427387904)=false:=decide_eq_false h2;have e:Dx f=false:=by unfold Dx;rw[if_neg hb];exact decide_eq_false Om
    refine (ms qb q1 q2 ?_).1
    exact FE jP [] e
  ·have q1:decide (f.fst<f.fin)=false:=decide_eq_false h1;have e:Dx f=false:=by unfold Dx;rw[if_neg hb];exact decide_eq_false Om
   refine (mr qb q1 ?_).1
   exact FE jP [] e
def GV {f:Ft} (h:¬(0≤f.bat∧f.bat≤16∧f.bat≤f.ent∧f.ent≤16*f.bat)):AG f=false:=by
 unfold AG;rw[decide_eq_false h];simp
def uP {f:Ft} (h:¬(1≤f.at_∧f.at_≤1099511627775∧1≤f.size∧f.size≤2097152)):AG f=false:=by
 unfold AG;rw[decide_eq_false h];simp
def Fy {f:Ft} (h:Ac f.ep=false):AG f=false:=by
 unfold AG;rw[h];simp
def Aew {f:Ft} (h:Ac f.ep=true) (ha:0≤f.bat∧f.bat≤16∧f.bat≤f.ent∧f.ent≤16*f.bat) (hb:1≤f.at_∧f.at_≤1099511627775∧1≤f.size∧f.size≤2097152):AG f=Dx f:=by
 unfold AG;rw[h,decide_eq_true ha,decide_eq_true hb];simp
def HR (f:Ft) (s0:0≤f.fst) (s1:f.fst<18446744073709551616) (n0:0≤f.fin) (n1:f.fin<18446744073709551616):Ct prog 193 [sV f] [] (λ_=>bA (AG f)) [] (λ_=>[]):=by
 refine Ah.toCt ?_ cl cl
 refine RM func193 Ca ?_
 by_cases a0:0≤f.bat
 ·have qa0:decide (0≤f.bat)=true:=decide_eq_true a0;by_cases a1:f.bat≤16
  ·have qa1:decide (f.bat≤16)=true:=decide_eq_true a1;by_cases a2:f.bat≤f.ent
   ·have qa2:decide (f.bat≤f.ent)=true:=decide_eq_true a2;have w16:IntKind.i64.wrap (f.bat*16)=16*f.bat:=by rw[i64_in _ Om];omega
    by_cases a3:f.ent≤16*f.bat
    ·have qa3:decide (f.ent≤16*f.bat)=true:=decide_eq_true a3;by_cases b0:1≤f.at_
     ·have qb0:decide (1≤f.at_)=true:=decide_eq_true b0;by_cases b1:f.at_≤1099511627775
      ·have qb1:decide (f.at_≤1099511627775)=true:=decide_eq_true b1;by_cases b2:1≤f.size
       ·have qb2:decide (1≤f.size)=true:=decide_eq_true b2;by_cases b3:f.size≤2097152
        ·have qb3:decide (f.size≤2097152)=true:=decide_eq_true b3;simp only[go_sem,seval,qa0,qa1,qa2,w16,qa3,qb0,qb1,qb2,qb3];refine (mok ?_).1;refine Aa.p (AO f.ep) ?_;cases q3:Ac f.ep
         ·have e:AG f=false:=Fy q3;refine (mq q3 ?_).1
          exact FE Ca [] e
         ·have e:AG f=Dx f:=Aew q3 ⟨a0,a1,a2,a3⟩ ⟨b0,b1,b2,b3⟩;refine (mq q3 ?_).1;refine Aa.p (Th f s0 s1 n0 n1 Om Om) ?_;rw[←e];refine (mp ?_).1;exact FA Ca []
        ·have qb3:decide (f.size≤2097152)=false:=decide_eq_false b3;simp only[go_sem,seval,qa0,qa1,qa2,w16,qa3,qb0,qb1,qb2,qb3];refine (mok ?_).1;refine Aa.p (AO f.ep) ?_;cases q3:Ac f.ep
         ·have e:AG f=false:=Fy q3;refine (mq q3 ?_).1
          exact FE Ca [] e
         ·have e:AG f=false:=uP Om;refine (mq q3 ?_).1
          exact FE Ca [] e
       ·have qb2:decide (1≤f.size)=false:=decide_eq_false b2;simp only[go_sem,seval,qa0,qa1,qa2,w16,qa3,qb0,qb1,qb2];refine (mok ?_).1;refine Aa.p (AO f.ep) ?_;cases q3:Ac f.ep
        ·have e:AG f=false:=Fy q3;refine (mq q3 ?_).1
         exact FE Ca [] e
        ·have e:AG f=false:=uP Om;refine (mq q3 ?_).1
         exact FE Ca [] e
      ·have qb1:decide (f.at_≤1099511627775)=false:=decide_eq_false b1;simp only[go_sem,seval,qa0,qa1,qa2,w16,qa3,qb0,qb1];refine (mok ?_).1;refine Aa.p (AO f.ep) ?_;cases q3:Ac f.ep
       ·have e:AG f=false:=Fy q3;refine (mq q3 ?_).1
        exact FE Ca [] e
       ·have e:AG f=false:=uP Om;refine (mq q3 ?_).1
        exact FE Ca [] e
     ·have qb0:decide (1≤f.at_)=false:=decide_eq_false b0;simp only[go_sem,seval,qa0,qa1,qa2,w16,qa3,qb0];refine (mok ?_).1;refine Aa.p (AO f.ep) ?_;cases q3:Ac f.ep
      ·have e:AG f=false:=Fy q3;refine (mq q3 ?_).1
       exact FE Ca [] e
      ·have e:AG f=false:=uP Om;refine (mq q3 ?_).1
       exact FE Ca [] e
    ·have qa3:decide (f.ent≤16*f.bat)=false:=decide_eq_false a3;by_cases b0:1≤f.at_
     ·have qb0:decide (1≤f.at_)=true:=decide_eq_true b0;by_cases b1:f.at_≤1099511627775
      ·have qb1:decide (f.at_≤1099511627775)=true:=decide_eq_true b1;by_cases b2:1≤f.size
       ·have qb2:decide (1≤f.size)=true:=decide_eq_true b2;by_cases b3:f.size≤2097152
        ·have qb3:decide (f.size≤2097152)=true:=decide_eq_true b3;simp only[go_sem,seval,qa0,qa1,qa2,w16,qa3,qb0,qb1,qb2,qb3];refine (mok ?_).1;refine Aa.p (AO f.ep) ?_;cases q3:Ac f.ep
         ·have e:AG f=false:=Fy q3;refine (mq q3 ?_).1
          exact FE Ca [] e
         ·have e:AG f=false:=GV Om;refine (mq q3 ?_).1
          exact FE Ca [] e
        ·have qb3:decide (f.size≤2097152)=false:=decide_eq_false b3;simp only[go_sem,seval,qa0,qa1,qa2,w16,qa3,qb0,qb1,qb2,qb3];refine (mok ?_).1;refine Aa.p (AO f.ep) ?_;cases q3:Ac f.ep
         ·have e:AG f=false:=Fy q3;refine (mq q3 ?_).1
          exact FE Ca [] e
         ·have e:AG f=false:=GV Om;refine (mq q3 ?_).1
          exact FE Ca [] e
       ·have qb2:decide (1≤f.size)=false:=decide_eq_false b2;simp only[go_sem,seval,qa0,qa1,qa2,w16,qa3,qb0,qb1,qb2];refine (mok ?_).1;refine Aa.p (AO f.ep) ?_;cases q3:Ac f.ep
        ·have e:AG f=false:=Fy q3;refine (mq q3 ?_).1
         exact FE Ca [] e
        ·have e:AG f=false:=GV Om;refine (mq q3 ?_).1
         exact FE Ca [] e
      ·have qb1:decide (f.at_≤1099511627775)=false:=decide_eq_false b1;simp only[go_sem,seval,qa0,qa1,qa2,w16,qa3,qb0,qb1];refine (mok ?_).1;refine Aa.p (AO f.ep) ?_;cases q3:Ac f.ep
       ·have e:AG f=false:=Fy q3;refine (mq q3 ?_).1
        exact FE Ca [] e
       ·have e:AG f=false:=GV Om;refine (mq q3 ?_).1
        exact FE Ca [] e
     ·have qb0:decide (1≤f.at_)=false:=decide_eq_false b0;simp only[go_sem,seval,qa0,qa1,qa2,w16,qa3,qb0];refine (mok ?_).1;refine Aa.p (AO f.ep) ?_;cases q3:Ac f.ep
      ·have e:AG f=false:=Fy q3;refine (mq q3 ?_).1
       exact FE Ca [] e
      ·have e:AG f=false:=GV Om;refine (mq q3 ?_).1
       exact FE Ca [] e
   ·have qa2:decide (f.bat≤f.ent)=false:=decide_eq_false a2;by_cases b0:1≤f.at_
    ·have qb0:decide (1≤f.at_)=true:=decide_eq_true b0;by_cases b1:f.at_≤1099511627775
     ·have qb1:decide (f.at_≤1099511627775)=true:=decide_eq_true b1;by_cases b2:1≤f.size
      ·have qb2:decide (1≤f.size)=true:=decide_eq_true b2;by_cases b3:f.size≤2097152
       ·have qb3:decide (f.size≤2097152)=true:=decide_eq_true b3;simp only[go_sem,seval,qa0,qa1,qa2,qb0,qb1,qb2,qb3];refine (mok ?_).1;refine Aa.p (AO f.ep) ?_;cases q3:Ac f.ep
        ·have e:AG f=false:=Fy q3;refine (mq q3 ?_).1
         exact FE Ca [] e
        ·have e:AG f=false:=GV Om;refine (mq q3 ?_).1
         exact FE Ca [] e
       ·have qb3:decide (f.size≤2097152)=false:=decide_eq_false b3;simp only[go_sem,seval,qa0,qa1,qa2,qb0,qb1,qb2,qb3];refine (mok ?_).1;refine Aa.p (AO f.ep) ?_;cases q3:Ac f.ep
        ·have e:AG f=false:=Fy q3;refine (mq q3 ?_).1
         exact FE Ca [] e
        ·have e:AG f=false:=GV Om;refine (mq q3 ?_).1
         exact FE Ca [] e
      ·have qb2:decide (1≤f.size)=false:=decide_eq_false b2;simp only[go_sem,seval,qa0,qa1,qa2,qb0,qb1,qb2];refine (mok ?_).1;refine Aa.p (AO f.ep) ?_;cases q3:Ac f.ep
       ·have e:AG f=false:=Fy q3;refine (mq q3 ?_).1
        exact FE Ca [] e
       ·have e:AG f=false:=GV Om;refine (mq q3 ?_).1
        exact FE Ca [] e
     ·have qb1:decide (f.at_≤1099511627775)=false:=decide_eq_false b1;simp only[go_sem,seval,qa0,qa1,qa2,qb0,qb1];refine (mok ?_).1;refine Aa.p (AO f.ep) ?_;cases q3:Ac f.ep
      ·have e:AG f=false:=Fy q3;refine (mq q3 ?_).1
       exact FE Ca [] e
      ·have e:AG f=false:=GV Om;refine (mq q3 ?_).1
       exact FE Ca [] e
    ·have qb0:decide (1≤f.at_)=false:=decide_eq_false b0;refine (mt qa0 qa1 qa2 qb0 ?_).1;refine Aa.p (AO f.ep) ?_;cases q3:Ac f.ep
     ·have e:AG f=false:=Fy q3;refine (mq q3 ?_).1
      exact FE Ca [] e
     ·have e:AG f=false:=GV Om;refine (mq q3 ?_).1
      exact FE Ca [] e
  ·have qa1:decide (f.bat≤16)=false:=decide_eq_false a1;by_cases b0:1≤f.at_
   ·have qb0:decide (1≤f.at_)=true:=decide_eq_true b0;by_cases b1:f.at_≤1099511627775
    ·have qb1:decide (f.at_≤1099511627775)=true:=decide_eq_true b1;by_cases b2:1≤f.size
     ·have qb2:decide (1≤f.size)=true:=decide_eq_true b2;by_cases b3:f.size≤2097152
      ·have qb3:decide (f.size≤2097152)=true:=decide_eq_true b3;simp only[go_sem,seval,qa0,qa1,qb0,qb1,qb2,qb3];refine (mok ?_).1;refine Aa.p (AO f.ep) ?_;cases q3:Ac f.ep
       ·have e:AG f=false:=Fy q3;refine (mq q3 ?_).1
        exact FE Ca [] e
       ·have e:AG f=false:=GV Om;refine (mq q3 ?_).1
        exact FE Ca [] e
      ·have qb3:decide (f.size≤2097152)=false:=decide_eq_false b3;simp only[go_sem,seval,qa0,qa1,qb0,qb1,qb2,qb3];refine (mok ?_).1;refine Aa.p (AO f.ep) ?_;cases q3:Ac f.ep
       ·have e:AG f=false:=Fy q3;refine (mq q3 ?_).1
        exact FE Ca [] e
       ·have e:AG f=false:=GV Om;refine (mq q3 ?_).1
        exact FE Ca [] e
     ·have qb2:decide (1≤f.size)=false:=decide_eq_false b2;simp only[go_sem,seval,qa0,qa1,qb0,qb1,qb2];refine (mok ?_).1;refine Aa.p (AO f.ep) ?_;cases q3:Ac f.ep
      ·have e:AG f=false:=Fy q3;refine (mq q3 ?_).1
       exact FE Ca [] e
      ·have e:AG f=false:=GV Om;refine (mq q3 ?_).1
       exact FE Ca [] e
    ·have qb1:decide (f.at_≤1099511627775)=false:=decide_eq_false b1;refine (mt qa0 qa1 qb0 qb1 ?_).1;refine Aa.p (AO f.ep) ?_;cases q3:Ac f.ep
     ·have e:AG f=false:=Fy q3;refine (mq q3 ?_).1
      exact FE Ca [] e
     ·have e:AG f=false:=GV Om;refine (mq q3 ?_).1
      exact FE Ca [] e
   ·have qb0:decide (1≤f.at_)=false:=decide_eq_false b0;refine (ms qa0 qa1 qb0 ?_).1;refine Aa.p (AO f.ep) ?_;cases q3:Ac f.ep
    ·have e:AG f=false:=Fy q3;refine (mq q3 ?_).1
     exact FE Ca [] e
    ·have e:AG f=false:=GV Om;refine (mq q3 ?_).1
     exact FE Ca [] e
 ·have qa0:decide (0≤f.bat)=false:=decide_eq_false a0;by_cases b0:1≤f.at_
  ·have qb0:decide (1≤f.at_)=true:=decide_eq_true b0;by_cases b1:f.at_≤1099511627775
   ·have qb1:decide (f.at_≤1099511627775)=true:=decide_eq_true b1;by_cases b2:1≤f.size
    ·have qb2:decide (1≤f.size)=true:=decide_eq_true b2;by_cases b3:f.size≤2097152
     ·have qb3:decide (f.size≤2097152)=true:=decide_eq_true b3;simp only[go_sem,seval,qa0,qb0,qb1,qb2,qb3];refine (mok ?_).1;refine Aa.p (AO f.ep) ?_;cases q3:Ac f.ep
      ·have e:AG f=false:=Fy q3;refine (mq q3 ?_).1
       exact FE Ca [] e
      ·have e:AG f=false:=GV Om;refine (mq q3 ?_).1
       exact FE Ca [] e
     ·have qb3:decide (f.size≤2097152)=false:=decide_eq_false b3;simp only[go_sem,seval,qa0,qb0,qb1,qb2,qb3];refine (mok ?_).1;refine Aa.p (AO f.ep) ?_;cases q3:Ac f.ep
      ·have e:AG f=false:=Fy q3;refine (mq q3 ?_).1
       exact FE Ca [] e
      ·have e:AG f=false:=GV Om;refine (mq q3 ?_).1
       exact FE Ca [] e
    ·have qb2:decide (1≤f.size)=false:=decide_eq_false b2;refine (mt qa0 qb0 qb1 qb2 ?_).1;refine Aa.p (AO f.ep) ?_;cases q3:Ac f.ep
     ·have e:AG f=false:=Fy q3;refine (mq q3 ?_).1
      exact FE Ca [] e
     ·have e:AG f=false:=GV Om;refine (mq q3 ?_).1
      exact FE Ca [] e
   ·have qb1:decide (f.at_≤1099511627775)=false:=decide_eq_false b1;refine (ms qa0 qb0 qb1 ?_).1;refine Aa.p (AO f.ep) ?_;cases q3:Ac f.ep
    ·have e:AG f=false:=Fy q3;refine (mq q3 ?_).1
     exact FE Ca [] e
    ·have e:AG f=false:=GV Om;refine (mq q3 ?_).1
     exact FE Ca [] e
  ·have qb0:decide (1≤f.at_)=false:=decide_eq_false b0;refine (mr qa0 qb0 ?_).1;refine Aa.p (AO f.ep) ?_;cases q3:Ac f.ep
   ·have e:AG f=false:=Fy q3;refine (mq q3 ?_).1
    exact FE Ca [] e
   ·have e:AG f=false:=GV Om;refine (mq q3 ?_).1
    exact FE Ca [] e
def pH (s:RS):s.fkind=if(s.take 1).2.getD 0 0=3 then(s.take 1).1 else(s.take 1).1.fail 7 0:=by
 unfold RS.fkind;by_cases h:(s.take 1).2.getD 0 0=3
 ·rw[if_pos h,if_neg (by rintro⟨_,h'⟩;exact h' h)]
 ·rw[if_neg h];by_cases hc:(s.take 1).1.code=0
  ·rw[if_pos ⟨hc,h⟩]
  ·rw[if_neg (by rintro⟨h',_⟩;exact hc h'),IS hc]
def Xc (s:RS) (hs:Ak s):Ah prog 70 [.ref 0 0] [AN s] (.tup []) [AN (s.rest9)]:=by
 refine RM func70 b70 ?_
 refine Aa.r1 (GH s 0 hs.ok) rfl ?_;by_cases h:0<s.left
 ·have q:decide (0<s.left)=true:=decide_eq_true h;have e:s.rest9=s.fail 9 s.at_:=by unfold RS.rest9;rw[if_pos h]
  refine (mq q ?_).1;refine Cu (Aj s 9 s.at_ 0) rfl ?_
  exact FE b70 [0] e
 ·have q:decide (0<s.left)=false:=decide_eq_false h;have e:s.rest9=s:=by unfold RS.rest9;rw[if_neg h]
  refine (mq q ?_).1
  exact FE b70 [0] e
def Bl (s:RS) (i:Nat) (hs:Ak s):Ct prog 70 [.ref i 0] [(i,AN s)] (λ_=>.tup []) [(i,AN (s.rest9))] (λ_=>[]):=Ct.u1 (Xc s hs) i cl (λρ=>An ρ _) (λρ=>An ρ _) (rdr_dead _) cl
def Ak.rest9 {s:RS} (h:Ak s):Ak s.rest9:=by
 unfold RS.rest9;split
 ·exact h.fail _ _
 ·exact h
def Ee (p:List Int) (hp:AW p) (hn:p.length≤140737488355328):Ct prog 125 [Bd .u8 p] [] (λ_=>.tup [sV (Bh p).1,Ce (Bh p).2]) [] (λ_=>[]):=by
 refine Ah.toCt ?_ cl cl
 have hok:Ak (RS.new p):=Ak.new hp hn;have⟨hk,hkl⟩:=Kt hok;have hkq:=pH (RS.new p);have hbt:=RU (RS.new p) hok.at0;have hfoot:(RS.new p).foot=(((RS.new p).fkind.fnums.1.fcheck (RS.new p).fkind.fnums.2).rest9,(RS.new p).fkind.fnums.2):=rfl;have hrd:Bh p=if(RS.new p).foot.1.code=0 then((RS.new p).foot.2,(0,0))else(Kn,((RS.new p).foot.1.code,(RS.new p).foot.1.fat)):=rfl
 have hlen1:((RS.new p).take 1).1.code=0->((RS.new p).take 1).2.length=1:=λh=>by have:=(Be hok h).2.2.1;omega
 have⟨T,hT⟩:=Ex ((RS.new p).take 1);have⟨k,hkk⟩:=Ex ((RS.new p).fkind);rw[hT]at hkq hbt hlen1;rw[hkk]at hk hkq hfoot;have⟨v,hv⟩:=Ex (T.2.getD 0 0);rw[hv]at hbt hkq;have⟨A,hA⟩:=Ex (k.epo Ac);have⟨ka,_⟩:=Bc hk Ac;rw[hA]at ka;have⟨B,hB⟩:=Ex (A.1.int 65536);have⟨kb,_⟩:=ka.int 65536;rw[hB]at kb;have⟨C,hC⟩:=Ex (B.1.int 65536);have⟨kc,_⟩:=kb.int 65536;rw[hC]at kc;have⟨D,hD⟩:=Ex C.1.vint;have⟨kd,_⟩:=kc.vint;have rd:=A8 (s:=C.1) kc.bys;rw[hD]at kd rd;have⟨E,hE⟩:=Ex D.1.vint;have⟨ke,_⟩:=kd.vint;have re:=A8 (s:=D.1) kd.bys;rw[hE]at ke re;have⟨F,hF⟩:=Ex (E.1.int 1099511627776);have⟨kf,_⟩:=ke.int 1099511627776;rw[hF]at kf;have⟨G,hG⟩:=Ex (F.1.int 1099511627776);have⟨kg,_⟩:=kf.int 1099511627776;rw[hG]at kg;have hfn:k.fnums=(G.1,⟨A.2,B.2,C.2,D.2,E.2,F.2,G.2⟩):=by
  unfold RS.fnums;simp only[hA,hB,hC,hD,hE,hF,hG]
 rw[hfn]at hfoot;simp only at hfoot;refine RM func125 TP ?_
 refine Aa.n (BO p) (mp ?_).1;refine Aa.u1 (CG (RS.new p) _ hok.ok) rfl (mq hbt ?_).1;by_cases hv3:v=3
 ·have q3:(v != 3)=false:=Sx hv3
  rw[if_pos hv3]at hkq;refine (mq q3 ?_).1;rw[←hkq];refine Aa.u1 (EY k _ hk) rfl (mq hA ?_).1;refine Aa.u1 (AS A.1 65536 _ De ka.ok ka.bys) rfl (mq hB ?_).1;refine Aa.u1 (AS B.1 65536 _ De kb.ok kb.bys) rfl (mq hC ?_).1;refine Aa.u1 (BI C.1 _ kc.ok kc.bys) rfl (mq hD ?_).1;refine Aa.u1 (BI D.1 _ kd.ok kd.bys) rfl (mq hE ?_).1;refine Aa.u1 (AS E.1 1099511627776 _ De ke.ok ke.bys) rfl (mq hF ?_).1;refine Aa.u1 (AS F.1 1099511627776 _ De kf.ok kf.bys) rfl (mq hG ?_).1;refine Aa.p (HR ⟨A.2,B.2,C.2,D.2,E.2,F.2,G.2⟩ rd.1 rd.2 re.1 re.2) ?_;by_cases hr:AG ⟨A.2,B.2,C.2,D.2,E.2,F.2,G.2⟩=true
  ·have hfc:G.1.fcheck ⟨A.2,B.2,C.2,D.2,E.2,F.2,G.2⟩=G.1:=by unfold RS.fcheck;rw[if_pos hr]
   rw[hfc]at hfoot;refine (mq hr ?_).1;refine Cu (Bl G.1 _ kg) rfl ?_;refine Cr (AQ G.1.rest9 _) rfl ?_;refine Aa.p (Ai G.1.rest9.code G.1.rest9.fat) ?_;rw[hfoot]at hrd;simp only at hrd;by_cases hz:G.1.rest9.code=0
   ·have q:(G.1.rest9.code==0)=true:=Sx hz
    rw[if_pos hz]at hrd;refine (mq q ?_).1
    exact FE TP [] hrd
   ·have q:(G.1.rest9.code==0)=false:=Sx hz
    rw[if_neg hz]at hrd;refine (mq q ?_).1
    exact FK TP [] (by simp[hrd,Kn])
  ·have hr':AG ⟨A.2,B.2,C.2,D.2,E.2,F.2,G.2⟩=false:=Sx hr
   have hfc:G.1.fcheck ⟨A.2,B.2,C.2,D.2,E.2,F.2,G.2⟩=G.1.fail 3 0:=by unfold RS.fcheck;rw[if_neg hr]
   rw[hfc]at hfoot;refine (mq hr' ?_).1;refine Cu (Aj G.1 3 0 _) rfl ?_;refine Cu (Bl (G.1.fail 3 0) _ (kg.fail 3 0)) rfl ?_;refine Cr (AQ (G.1.fail 3 0).rest9 _) rfl ?_;refine Aa.p (Ai (G.1.fail 3 0).rest9.code (G.1.fail 3 0).rest9.fat) ?_;rw[hfoot]at hrd;simp only at hrd;by_cases hz:(G.1.fail 3 0).rest9.code=0
   ·have q:((G.1.fail 3 0).rest9.code==0)=true:=Sx hz
    rw[if_pos hz]at hrd;refine (mq q ?_).1
    exact FE TP [] hrd
   ·have q:((G.1.fail 3 0).rest9.code==0)=false:=Sx hz
    rw[if_neg hz]at hrd;refine (mq q ?_).1
    exact FK TP [] (by simp[hrd,Kn])
 ·have q3:(v != 3)=true:=Sx hv3
  rw[if_neg hv3]at hkq;refine (mq q3 ?_).1;refine Aa.u1 (Aj T.1 7 0 _) rfl ?_;simp only[go_sem,seval,←hkq];refine (mok ?_).1;refine Aa.u1 (EY k _ hk) rfl (mq hA ?_).1;refine Aa.u1 (AS A.1 65536 _ De ka.ok ka.bys) rfl (mq hB ?_).1;refine Aa.u1 (AS B.1 65536 _ De kb.ok kb.bys) rfl (mq hC ?_).1;refine Aa.u1 (BI C.1 _ kc.ok kc.bys) rfl (mq hD ?_).1;refine Aa.u1 (BI D.1 _ kd.ok kd.bys) rfl (mq hE ?_).1;refine Aa.u1 (AS E.1 1099511627776 _ De ke.ok ke.bys) rfl (mq hF ?_).1;refine Aa.u1 (AS F.1 1099511627776 _ De kf.ok kf.bys) rfl (mq hG ?_).1;refine Aa.p (HR ⟨A.2,B.2,C.2,D.2,E.2,F.2,G.2⟩ rd.1 rd.2 re.1 re.2) ?_;by_cases hr:AG ⟨A.2,B.2,C.2,D.2,E.2,F.2,G.2⟩=true
  ·have hfc:G.1.fcheck ⟨A.2,B.2,C.2,D.2,E.2,F.2,G.2⟩=G.1:=by unfold RS.fcheck;rw[if_pos hr]
   rw[hfc]at hfoot;refine (mq hr ?_).1;refine Cu (Bl G.1 _ kg) rfl ?_;refine Cr (AQ G.1.rest9 _) rfl ?_;refine Aa.p (Ai G.1.rest9.code G.1.rest9.fat) ?_;rw[hfoot]at hrd;simp only at hrd;by_cases hz:G.1.rest9.code=0
   ·have q:(G.1.rest9.code==0)=true:=Sx hz
    rw[if_pos hz]at hrd;refine (mq q ?_).1
    exact FE TP [] hrd
   ·have q:(G.1.rest9.code==0)=false:=Sx hz
    rw[if_neg hz]at hrd;refine (mq q ?_).1
    exact FK TP [] (by simp[hrd,Kn])
  ·have hr':AG ⟨A.2,B.2,C.2,D.2,E.2,F.2,G.2⟩=false:=Sx hr
   have hfc:G.1.fcheck ⟨A.2,B.2,C.2,D.2,E.2,F.2,G.2⟩=G.1.fail 3 0:=by unfold RS.fcheck;rw[if_neg hr]
   rw[hfc]at hfoot;refine (mq hr' ?_).1;refine Cu (Aj G.1 3 0 _) rfl ?_;refine Cu (Bl (G.1.fail 3 0) _ (kg.fail 3 0)) rfl ?_;refine Cr (AQ (G.1.fail 3 0).rest9 _) rfl ?_;refine Aa.p (Ai (G.1.fail 3 0).rest9.code (G.1.fail 3 0).rest9.fat) ?_;rw[hfoot]at hrd;simp only at hrd;by_cases hz:(G.1.fail 3 0).rest9.code=0
   ·have q:((G.1.fail 3 0).rest9.code==0)=true:=Sx hz
    rw[if_pos hz]at hrd;refine (mq q ?_).1
    exact FE TP [] hrd
   ·have q:((G.1.fail 3 0).rest9.code==0)=false:=Sx hz
    rw[if_neg hz]at hrd;refine (mq q ?_).1
    exact FK TP [] (by simp[hrd,Kn])
def QL (s:RS) (a:Int) (hs:s.ok) (a0:0≤a) (a1:a≤s.at_):Ah prog 67 [.ref 0 0,iA a] [AN s] (Bd .u8 ((s.l.drop a.toNat).take (s.at_-a).toNat)) [AN (s)]:=by
 have⟨h0,h1,h2⟩:=hs;have q1:decide (a<0)=false:=decide_eq_false Om;have q2:decide (s.at_<a)=false:=decide_eq_false Om;have e1:((s.l.drop a.toNat).take (s.at_-a).toNat).length≤s.l.length:=by simp;omega
 unfold AN;refine RN func67 b67 ?_;simp only[go_sem,seval,q1,q2,Ab,CA,Dh];refine (mok ?_).1
 (repeat with_reducible refine Sa ?_);refine UT 4 ?_;exact FA b67 [0]
def Lr (s:RS) (a:Int) (i:Nat) (hs:s.ok) (a0:0≤a) (a1:a≤s.at_):Ct prog 67 [.ref i 0,iA a] [(i,AN s)] (λ_=>Bd .u8 ((s.l.drop a.toNat).take (s.at_-a).toNat)) [] (λ_=>[]):=
 Ct.r1 (QL s a hs a0 a1) i cl (λρ=>An ρ s) (rdr_dead s) cl
def Qi (s:RS) (v:Int) (hs:Ak s) (hv:¬v=0):Ah prog 61 [.ref 0 0,iA v] [AN s] (oY s.header.2) [AN (s.begin v)]:=by
 have hbad:=λhc=>HP (s:=s) hc
 have⟨F,hF⟩:=Ex s.header;have e:s.begin v=if F.1.code=0∧¬F.2.ver=v then F.1.fail 8 4 else F.1:=by unfold RS.begin;rw[hF]
 rw[e,hF];rw[hF]at hbad;refine RM func61 b61 ?_
 refine Aa.u1 (IK s 0 hs) rfl (mq hF ?_).1;by_cases h:F.2.ver=v
 ·have q:(F.2.ver != v)=false:=Sx h
  rw[if_neg (λhh=>hh.2 h)];refine (mq q ?_).1;exact FA b61 [0]
 ·have q:(F.2.ver != v)=true:=Sx h
  have e2:(if F.1.code=0∧¬F.2.ver=v then F.1.fail 8 4 else F.1)=F.1.fail 8 4:=by
   by_cases hc:F.1.code=0
   ·rw[if_pos ⟨hc,h⟩]
   ·rw[if_neg (λhh=>hc hh.1),Ef hc]
  rw[e2];refine (mq q ?_).1;refine Cu (Aj F.1 8 4 0) rfl ?_;exact FA b61 [0]
def K5 (s:RS) (v:Int) (i:Nat) (hs:Ak s) (hv:¬v=0):Ct prog 61 [.ref i 0,iA v] [(i,AN s)] (λ_=>oY s.header.2) [(i,AN (s.begin v))] (λ_=>[]):=Ct.u1 (Qi s v hs hv) i cl (λρ=>An ρ _) (λρ=>An ρ _) (rdr_dead _) cl
def M4 (s:RS) (base least most:Int) (hs:Ak s) (b0:0≤base) (b1:base<18446744073709551616) (m1:most≤1000000):Ah prog 63 [.ref 0 0,uA base,iA least,iA most] [AN s] (iA (s.cnt base least most).2) [AN ((s.cnt base least most).1)]:=by
 have hr:=CB (s:=s) (m:=most) hs.bys;have hsnd:=TC s base least most;have hz:=λhc=>oS (s:=s) (m:=most) hc
 have⟨F,hF⟩:=Ex (s.int most);have e:s.cnt base least most=if F.1.code=0∧(F.2<least∨CV base F.2=false)then(F.1.fail 3 s.at_,F.2)else F:=by unfold RS.cnt;rw[hF]
 rw[hsnd,e,hF];rw[hF]at hr hz;have yes:F.2<least∨CV base F.2=false->(if F.1.code=0∧(F.2<least∨CV base F.2=false)then(F.1.fail 3 s.at_,F.2)else F).1=F.1.fail 3 s.at_:=λh=>by
  by_cases hc:F.1.code=0
  ·rw[if_pos ⟨hc,h⟩]
  ·rw[if_neg (λhh=>hc hh.1),Ef hc]
 have no:¬(F.2<least∨CV base F.2=false)->(if F.1.code=0∧(F.2<least∨CV base F.2=false)then(F.1.fail 3 s.at_,F.2)else F).1=F.1:=λh=>by
  rw[if_neg (λhh=>h hh.2)]
 refine RM func63 b63 ?_
 refine Cr (AF s 0) rfl ?_;refine Aa.u1 (AS s most 0 Om hs.ok hs.bys) rfl (mq hF ?_).1;by_cases h1:F.2<least
 ·have q1:decide (F.2<least)=true:=decide_eq_true h1;rw[yes (.inl h1)];refine (mq q1 ?_).1;refine Cu (Aj F.1 3 s.at_ 0) rfl ?_;exact FA b63 [0]
 ·have q1:decide (F.2<least)=false:=decide_eq_false h1;refine (mq q1 ?_).1;refine Aa.p (Ia base F.2 b0 b1 hr.1 Om) ?_;cases h2:CV base F.2 with
  |false=>
   rw[h2]at yes;rw[yes (.inr rfl)];refine (mp ?_).1;refine Cu (Aj F.1 3 s.at_ 0) rfl ?_;exact FA b63 [0]
  |true=>
   rw[h2]at no;rw[no (by rintro(h|h);exact h1 h;cases h)];refine (mp ?_).1;exact FA b63 [0]
def IJ (s:RS) (base least most:Int) (i:Nat) (hs:Ak s) (b0:0≤base) (b1:base<18446744073709551616) (m1:most≤1000000):Ct prog 63 [.ref i 0,uA base,iA least,iA most] [(i,AN s)] (λ_=>iA (s.cnt base least most).2) [(i,AN ((s.cnt base least most).1))] (λ_=>[]):=Ct.u1 (M4 s base least most hs b0 b1 m1) i cl (λρ=>An ρ _) (λρ=>An ρ _) (rdr_dead _) cl
def Yf {s:RS} (hs:Ak s) (pos:Int) (p0:0≤pos):(pos<s.vint.1.vint.2->s.oback pos=s.vint.1.vint.1.fail 3 s.vint.1.at_)∧(¬pos<s.vint.1.vint.2->s.oback pos=s.vint.1.vint.1):=by
 unfold RS.oback;refine⟨λh=>?_,λh=>by rw[if_neg (λhh=>h hh.2)]⟩;by_cases hc:s.vint.1.vint.1.code=0
 ·rw[if_pos ⟨hc,h⟩]
 ·have:=Lu hc;omega
def aI {s:RS} (hs:Ak s) {pos:Int} (p0:0≤pos) {d:List Int}:(Im s pos d).data=d:=by unfold Im;split<;>rfl
def VH (s:RS) (pos m:Int) (hs:Ak s) (p0:0≤pos) (p1:pos<18446744073709551616) (m1:m<9223372036854775808):Ah prog 66 [.ref 0 0,uA pos,iA m] [AN s] (oA (Im s pos ((s.oback pos).blob m).2)) [AN (((s.oback pos).blob m).1)]:=by
 have⟨v1,v2⟩:=hs.vint;have⟨w1,w2⟩:=v1.vint;have r1:=A8 (s:=s) hs.bys;have r2:=A8 (s:=s.vint.1) v1.bys;have⟨ok1,ok2⟩:=F6 hs pos;have⟨of1,of2⟩:=Yf hs pos p0;have hV:Im s pos ((s.oback pos).blob m).2=if 0<s.vint.1.vint.2∧(s.oback pos).code=0 then⟨s.vint.2,pos-s.vint.1.vint.2,true,((s.oback pos).blob m).2⟩else⟨s.vint.2,0,false,((s.oback pos).blob m).2⟩:=rfl
 have hpos:(s.oback pos).code=0->s.vint.1.vint.2≤pos:=λh=>(Vl h).2.1
 have⟨B,hB⟩:=Ex (s.oback pos);rw[hB]at ok1 hV hpos of1 of2;rw[hB,hV];have⟨D,hD⟩:=Ex (B.blob m);rw[hD];have key:∀(tail:Prop),tail->tail:=λ_ h=>h
 refine RM func66 b66 ?_
 refine Cu (BI s 0 hs.ok hs.bys) rfl ?_;refine Cr (AF s.vint.1 0) rfl ?_;refine Cu (BI s.vint.1 0 v1.ok v1.bys) rfl ?_;by_cases hp:pos<s.vint.1.vint.2
 ·have q1:decide (pos<s.vint.1.vint.2)=true:=decide_eq_true hp;have q2:decide (0<s.vint.1.vint.2)=true:=decide_eq_true Om;have hc:¬B.code=0:=λh=>by have:=hpos h;omega
  have hg:B.good=false:=by unfold RS.good;simpa using hc
  rw[if_neg (λhh=>hc hh.2)];have e:=of1 hp;refine (mq q1 ?_).1;refine Aa.u1 (Aj s.vint.1.vint.1 3 s.vint.1.at_ 0) rfl ?_;simp only[go_sem,seval,q2,←e];refine (mok ?_).1;refine Aa.r1 (Ae B 0) rfl (mq hg ?_).1;refine Aa.u1 (E3 B m 0 m1 ok1) rfl (mq hD ?_).1;exact FA b66 [0]
 ·have q1:decide (pos<s.vint.1.vint.2)=false:=decide_eq_false hp;have e:=of2 hp;by_cases h0:0<s.vint.1.vint.2
  ·have q2:decide (0<s.vint.1.vint.2)=true:=decide_eq_true h0;simp only[go_sem,seval,q1,q2,←e];refine (mok ?_).1;refine Cr (Ae B 0) rfl ?_;by_cases hc:B.code=0
   ·have hg:B.good=true:=by unfold RS.good;simpa using hc
    have w:IntKind.u64.wrap (pos-s.vint.1.vint.2)=pos-s.vint.1.vint.2:=u64_in _ Om;rw[if_pos ⟨h0,hc⟩];refine (mr hg w ?_).1;refine Aa.u1 (E3 B m 0 m1 ok1) rfl (mq hD ?_).1;exact FA b66 [0]
   ·have hg:B.good=false:=by unfold RS.good;simpa using hc
    rw[if_neg (λhh=>hc hh.2)];refine (mq hg ?_).1;refine Aa.u1 (E3 B m 0 m1 ok1) rfl (mq hD ?_).1;exact FA b66 [0]
  ·have q2:decide (0<s.vint.1.vint.2)=false:=decide_eq_false h0;rw[if_neg (λhh=>h0 hh.1)];simp only[go_sem,seval,q1,q2,←e];refine (mok ?_).1;refine Aa.u1 (E3 B m 0 m1 ok1) rfl (mq hD ?_).1;exact FA b66 [0]
def Yv (s:RS) (pos m:Int) (i:Nat) (hs:Ak s) (p0:0≤pos) (p1:pos<18446744073709551616) (m1:m<9223372036854775808):Ct prog 66 [.ref i 0,uA pos,iA m] [(i,AN s)] (λ_=>oA (Im s pos ((s.oback pos).blob m).2)) [(i,AN (((s.oback pos).blob m).1))] (λ_=>[]):=Ct.u1 (VH s pos m hs p0 p1 m1) i cl (λρ=>An ρ _) (λρ=>An ρ _) (rdr_dead _) cl
abbrev aO:ByteArray:=⟨#[76,79,72,84]⟩
def oG:AW Ip:=by unfold AW Ip;decide
def wC {l:List Int} (hl:AW l):((FN (A0 .u8 l)).toList==aO.toList)=BJ l Ip:=HX hl oG
def fZ:(aO.data.toList.map λb=>AV.lit (.int .u8 b.toNat))=A0 .u8 Ip:=rfl
def TU (s:WS) (hs:s.fine):Ah prog 187 [.ref 0 0,.lit (.string aO)] [B0 1 s,AX s] (.tup []) [B0 1 (s.put Ip),AX (s.put Ip)]:=by
 refine RN func187 y5 ?_;refine (mq @fZ ?_).1
 (repeat with_reducible refine Sa ?_);refine Aa.u2 (BV s Ip 0 1 De hs.ok (hs.room _)) rfl rfl (mp ?_).1;exact FA y5 [0,1]
def W_ (s:WS) (i j:Nat) (h:i≠j) (hs:s.fine):Ct prog 187 [.ref i 0,.lit (.string aO)] [(i,B0 j s),(j,AX s)] (λ_=>.tup []) [(i,B0 j (s.put Ip)),(j,AX (s.put Ip))] (λ_=>[]):=Ct.u2 (TU s hs) i j h cl cl cl cl cl (Bx _ _) (Bg _) CN
def C3 :Ct prog 87 [] [] (λ_=>iA 12) [] (λ_=>[]):=by
 refine Ah.toCt ?_ cl cl
 refine RM func87 b87 ?_
 exact FA b87 []
def EJ (n x:Int) (hx:IntKind.u64.wrap n=x) (x0:0≤x) (x1:x<18446744073709551616):Ct prog 128 [iA n] [] (λ_=>Bd .u8 (A4 x)) [] (λ_=>[]):=by
 refine Ah.toCt ?_ cl cl
 have m4:(min (max (4:Int) 0) 8).toNat=4:=rfl;have hb:=EG 4 x;have hl:=BN 4 x;have hcr:=DE hb;have eb:=Gn hb;have hl2:=BN 4 (Bb (Ap 4 x));have f0:(WS.new 12).fine:=WS.fine.new Om;have w1:(WS.new 12).put (Ap 4 x)=⟨12,Ap 4 x,0⟩:=by rw[WS.new_is De,CP rfl (by simp;omega)];rfl
 have f1:=f0.put (Ap 4 x);rw[w1]at f1;have w2:(WS.mk 12 (Ap 4 x) 0).put (Ap 4 (Bb (Ap 4 x)))=⟨12,Ap 4 x++Ap 4 (Bb (Ap 4 x)),0⟩:=CP rfl (by simp;omega);have f2:=f1.put (Ap 4 (Bb (Ap 4 x)));rw[w2]at f2;have w3:(WS.mk 12 (Ap 4 x++Ap 4 (Bb (Ap 4 x))) 0).put Ip=⟨12,A4 x,0⟩:=CP rfl (by rw[length_append];simp[Ip];omega);have hbs:(WS.mk 12 (A4 x) 0).bytes=A4 x:=rfl;have htl:=FU x;refine RM func128 Ahn ?_
 refine Cp (C3) ?_;refine Aa.n (E5 12) (mq hx ?_).1;refine Aa.p (Rd x 4 x0 x1) (mq m4 ?_).1;refine Aa.u2 (BV (WS.new 12) (Ap 4 x) _ _ De f0.ok (f0.room _)) rfl rfl (mq w1 ?_).1;refine Aa.p (Gx (Ap 4 x) hb Om) (mq eb ?_).1;refine Aa.u2 (H1 (WS.mk 12 (Ap 4 x) 0) (Bb (Ap 4 x)) 4 _ _ De hcr.1 Om f1) rfl rfl (mr m4 w2 ?_).1;refine Aa.u2 (W_ (WS.mk 12 (Ap 4 x++Ap 4 (Bb (Ap 4 x))) 0) _ _ De f2) rfl rfl (mq w3 ?_).1;refine Aa.r2 (BW (WS.mk 12 (A4 x) 0) _ _ De (by show(A4 x).length≤_;omega)) rfl rfl ?_;refine (mq hbs ?_).1;exact FA Ahn []
def ZT (f:Ft):List Int:=[f.bat,f.ent,f.fst,f.fin,f.at_,f.size]
def fD (f:Ft):F5 f=([3]++vb f.ep)++JW (ZT f):=by
 unfold F5 ZT;simp[JW]
def Ba (c a n x:Int) (hx:IntKind.i64.wrap (a+n)=x):Ct prog 80 [Ce (c,a),iA n] [] (λ_=>Ce (BB c x)) [] (λ_=>[]):=by
 refine Ah.toCt ?_ cl cl
 refine RN func80 b80 ?_;refine (mq hx ?_).1
 refine Cp (Bj c x) ?_;exact FA b80 []
def RS.part4 (s:RS):RS:=⟨s.l.take (s.at_+4).toNat,s.at_,0,0⟩
def T1 (s:RS) (hs:Ak s) (h4:4≤s.left):Ah prog 218 [.ref 0 0,iA 4] [AN s] (.ref 1 0) [AN s,AN s.part4]:=by
 have h0:=hs.at0;have h1:=hs.at1;have h2:=hs.len;unfold RS.left at h4;have hm0:(if(0:Int)>4 then(0:Int)else 4)=4:=if_neg De;have hm:min 4 s.left=4:=by unfold RS.left;omega
 have hw:IntKind.i64.wrap (s.at_+4)=s.at_+4:=i64_in _ Om;refine RM func218 Agp ?_
 refine Aa.r1 (GH s 0 hs.ok) rfl ?_;simp only[go_sem,seval,AN,mn,hm0,hm,hw,Ab,Sg,Dh];refine (mok ?_).1;(repeat with_reducible refine Sa ?_)
 (refine FB Agp [0,1] ?_ ?_<;>first|with_reducible rfl|(simp[AN,RS.part4];done)|rfl)
def Xb (s:RS) (i:Nat) (hs:Ak s) (h4:4≤s.left):Ct prog 218 [.ref i 0,iA 4] [(i,AN s)] (λn=>.ref n 0) [(i,AN s)] (λ_=>[AN s.part4]):=Ct.un (T1 s hs h4) i cl (λρ=>An ρ _) (λρ=>An ρ _) (rdr_dead _) cl (by intros;simp[An])
def Nj {l:List Int} {a n:Int} (n0:0≤n) (h:a+n≤l.length):(⟨l,a,0,0⟩:RS).take n=(⟨l,a+n,0,0⟩,(l.drop a.toNat).take n.toNat):=by
 have h1:¬n<0:=Om
 have h2:¬(l.length:Int)-a<n:=Om
 unfold RS.take RS.skip RS.left;simp only[if_true,if_neg h1,if_neg h2]
def uL {b:List Int} {n:Int} (n0:0≤n) (n1:n≤b.length):(RS.new b).skip n=(⟨b,n,0,0⟩,true):=by
 unfold RS.skip RS.left RS.new;simp only[if_true];rw[if_neg Om,if_neg Om];simp
def MA (b:List Int) (hb:AW b) (hn:b.length≤140737488355328):Ct prog 181 [Bd .u8 b] [] (λ_=>.tup [iA (EC b).1,Ce (EC b).2]) [] (λ_=>[]):=by
 refine Ah.toCt ?_ cl cl
 have hok:Ak (RS.new b):=Ak.new hb hn;refine RN func181 jQ ?_;refine (mq @Ab ?_).1
 refine Aa.p (C3) ?_;by_cases h12:b.length<12
 ·have q:decide ((b.length:Int)<12)=true:=decide_eq_true Om;have e:EC b=(0,(1,(b.length:Int))):=by unfold EC;rw[if_pos h12]
  refine (mq q ?_).1;refine Cp (Bj 1 b.length) ?_
  exact FK jQ [] (by simp[e,BB])
 ·have q:decide ((b.length:Int)<12)=false:=decide_eq_false Om;obtain⟨m,hm⟩:∃m:Nat,b.length=m+12:=⟨b.length-12,Om⟩;have hm':b.length-12=m:=Om
  have w1:IntKind.i64.wrap ((b.length:Int)-12)=(m:Int):=by rw[i64_in _ Om];omega
  have w4:IntKind.i64.wrap ((b.length:Int)-4)=(b.length:Int)-4:=i64_in _ Om;have w8:IntKind.i64.wrap ((b.length:Int)-4-4)=(b.length:Int)-8:=by rw[i64_in _ Om];omega
  have wu:IntKind.u64.wrap (m:Int)=m:=u64_in _ Om;have hsk:=uL (b:=b) (n:=(m:Int)) Om Om;have k0:Ak ⟨b,(m:Int),0,0⟩:=⟨by show(0:Int)≤m;omega,by show(m:Int)≤(b.length:Int);omega,hn,hb⟩;have k4:Ak ⟨b,(m:Int)+4,0,0⟩:=⟨by show(0:Int)≤m+4;omega,by show(m:Int)+4≤(b.length:Int);omega,hn,hb⟩;have k8:Ak ⟨b,(m:Int)+4+4,0,0⟩:=⟨by show(0:Int)≤m+4+4;omega,by show(m:Int)+4+4≤(b.length:Int);omega,hn,hb⟩;have hp4:(RS.mk b (m:Int) 0 0).part4=⟨b.take (m+4),(m:Int),0,0⟩:=by unfold RS.part4;simp only;rw[show((m:Int)+4).toNat=m+4 by omega]
  have lp:(b.take (m+4)).length=m+4:=by rw[length_take];omega
  have kp:Ak ⟨b.take (m+4),(m:Int),0,0⟩:=⟨by show(0:Int)≤m;omega,by show(m:Int)≤((b.take (m+4)).length:Int);omega,by show(b.take (m+4)).length≤_;omega,λx hx=>hb x (mem_of_mem_take hx)⟩;have t1:=Nj (l:=b.take (m+4)) (a:=(m:Int)) (n:=4) De Om;have e1:((b.take (m+4)).drop (m:Int).toNat).take (4:Int).toNat=(b.drop m).take 4:=by
   rw[Int.toNat_natCast,drop_take,show m+4-m=4 by omega,take_take];rfl
  rw[e1]at t1;have t2:=Nj (l:=b) (a:=(m:Int)) (n:=4) De Om;have t3:=Nj (l:=b) (a:=(m:Int)+4) (n:=4) De Om;have t4:=Nj (l:=b) (a:=(m:Int)+4+4) (n:=4) De Om;obtain⟨x1,hx1⟩:∃x,(b.drop m).take 4=x:=⟨_,rfl⟩;obtain⟨x2,hx2⟩:∃x,((b.drop m).drop 4).take 4=x:=⟨_,rfl⟩;obtain⟨x3,hx3⟩:∃x,(b.drop m).drop 8=x:=⟨_,rfl⟩;have e2:(b.drop (m:Int).toNat).take (4:Int).toNat=x1:=by rw[Int.toNat_natCast];exact hx1
  have e3:(b.drop ((m:Int)+4).toNat).take (4:Int).toNat=x2:=by rw[←hx2,drop_drop,show((m:Int)+4).toNat=m+4 by omega];rfl
  have e4:(b.drop ((m:Int)+4+4).toNat).take (4:Int).toNat=x3:=by
   rw[←hx3,drop_drop,show((m:Int)+4+4).toNat=m+8 by omega];exact take_of_length_le (by rw[length_drop];show _≤4;omega)
  rw[hx1]at t1;rw[e2]at t2;rw[e3]at t3;rw[e4]at t4;have f2:(RS.mk b (m:Int) 0 0).fixed (min (max 4 0) 8)=(⟨b,(m:Int)+4,0,0⟩,Bm x1):=by
   show(RS.mk b (m:Int) 0 0).fixed 4=_;unfold RS.fixed;rw[t2]
  have f3:(RS.mk b ((m:Int)+4) 0 0).fixed (min (max 4 0) 8)=(⟨b,(m:Int)+4+4,0,0⟩,Bm x2):=by
   show(RS.mk b ((m:Int)+4) 0 0).fixed 4=_;unfold RS.fixed;rw[t3]
  have b1:AW x1:=λy hy=>hb y (by rw[←hx1]at hy;exact mem_of_mem_drop (mem_of_mem_take hy))
  have b3:AW x3:=λy hy=>hb y (by rw[←hx3]at hy;exact mem_of_mem_drop (mem_of_mem_drop hy))
  have lx1:x1.length=4:=by rw[←hx1,length_take,length_drop];omega
  have eb:=Gn b1;have hr1:=Fp b1;rw[lx1]at hr1;have wi:IntKind.i64.wrap (Bm x1)=Bm x1:=i64_in _ Om;have e:EC b=if¬x3=Ip then(0,(14,(b.length:Int)-4))else if¬Bm x2=Bb x1 then(0,(6,(b.length:Int)-8))else if(b.length:Int)-12<Bm x1 then(0,(3,(b.length:Int)-12))else(Bm x1,(0,0)):=by
   unfold EC;rw[if_neg h12,hm',hx1,hx2,hx3]
  refine (mq q ?_).1;refine Aa.n (BO b) (mp ?_).1;refine Aa.p (C3) (mq w1 ?_).1;refine Aa.u1 (I5 (RS.new b) m _ hok.ok) rfl (mq hsk ?_).1;refine Aa.un (Xb ⟨b,(m:Int),0,0⟩ _ k0 (by unfold RS.left;simp only;omega)) rfl ?_;refine (mq hp4 ?_).1;refine Aa.u1 (CF ⟨b.take (m+4),(m:Int),0,0⟩ 4 _ kp.ok) rfl (mq t1 ?_).1;refine Aa.p (Gx x1 b1 Om) (mq eb ?_).1;refine Aa.u1 (CW ⟨b,(m:Int),0,0⟩ 4 _ k0) rfl (mq f2 ?_).1;refine Aa.u1 (CW ⟨b,(m:Int)+4,0,0⟩ 4 _ k4) rfl (mq f3 ?_).1;refine Aa.u1 (CF ⟨b,(m:Int)+4+4,0,0⟩ 4 _ k8.ok) rfl (ms t4 @Nw (wC b3) ?_).1;by_cases c1:x3=Ip
  ·have q1:BJ x3 Ip=true:=by rw[c1];exact dS _
   rw[if_neg (by simpa using c1)]at e;by_cases c2:Bm x2=Bb x1
   ·have q2:(Bm x2 != Bb x1)=false:=Sx c2
    rw[if_neg (by simpa using c2)]at e;by_cases c3:(m:Int)<Bm x1
    ·have q3:decide ((m:Int)<Bm x1)=true:=decide_eq_true c3;rw[if_pos Om]at e;have em:(b.length:Int)-12=m:=Om
     rw[em]at e;simp only[go_sem,seval,q1,q2,eb,wu,q3];refine (mok ?_).1;refine Cp (Bj 3 m) ?_
     exact FK jQ [] (by simp[e,BB])
    ·have q3:decide ((m:Int)<Bm x1)=false:=decide_eq_false c3;rw[if_neg Om]at e;simp only[go_sem,seval,q1,q2,eb,wu,q3,wi];refine (mok ?_).1
     exact FE jQ [] e
   ·have q2:(Bm x2 != Bb x1)=true:=Sx c2
    rw[if_pos c2]at e;simp only[go_sem,seval,q1,eb,q2,w4,w8];refine (mok ?_).1;refine Cp (Bj 6 _) ?_
    exact FK jQ [] (by simp[e,BB])
  ·have q1:BJ x3 Ip=false:=by simp[BJ,c1]
   rw[if_pos c1]at e;refine (mr q1 w4 ?_).1;refine Cp (Bj 14 _) ?_
   exact FK jQ [] (by simp[e,BB])
def pO (s:RS) (c a:Int):s.fail (BB c a).1 (BB c a).2=s.fail c a:=by
 unfold RS.fail BB;by_cases hs:s.code=0
 ·by_cases h:c=0
  ·simp[h]
  ·simp[h]
 ·simp[hs]
def Nc (s:RS) (n:Int) (hs:Ak s) (n1: -9223372036854775808≤n) (n2:n<9223372036854775808) (hl:s.l.length≤1000000):Ah prog 133 [.ref 0 0,iA n] [AN s] (Bd .u8 (s.unpk n).2) [AN ((s.unpk n).1)]:=by
 have⟨h1,h2,h3,h4⟩:=E2 hs 1048576;have⟨u,hu⟩:=Ex ((s.blob 1048576).1);have⟨t,ht⟩:=Ex ((s.blob 1048576).2);have⟨E,hE⟩:=Ex (EX n (RS.new t) []);have hpl:=Kz hs 1048576;have hfat:=Wq (bound:=n) _ (RS.new t) [] (Ak.new (ht▸h3) (by rw[←ht];omega)) (Fa.new _) (Int.self_le_toNat _);have hun:s.unpk n=if u.code=0 then(if E.2.1=0 then(if(E.1.length:Int)<n then(u.fail 3 u.at_,E.1)else(u,E.1))else(u.fail E.2.1 (E.2.2+(u.at_-t.length)),E.1))else(u,[]):=by
  unfold RS.unpk;rw[hu,ht,hE]
 rw[hE]at hfat;rw[hu]at h1 h2 hpl;rw[ht]at h3 h4 hpl;have tl:(RS.new t).l.length=t.length:=rfl;have ha0:=h1.at0;have ha1:=h1.at1;have eb:(if(1048576:Int)<1048576 then(1048576:Int)else 1048576)=1048576:=by simp
 refine RM func133 rL ?_
 refine Aa.u1 (E3 s 1048576 0 Om hs) rfl (mr hu ht ?_).1;refine Aa.r1 (Ae u 0) rfl ?_;by_cases hc:u.code=0
 ·rw[if_pos hc]at hun;have hp:=hpl hc;have ew:IntKind.i64.wrap (u.at_-(t.length:Int))=u.at_-t.length:=i64_in _ Om;have es:IntKind.i64.wrap (E.2.2+(u.at_-t.length))=E.2.2+(u.at_-t.length):=i64_in _ Om;refine (mq (AR hc) ?_).1;refine Aa.r1 (AF u 0) rfl (mr @Ab ew ?_).1;refine Aa.p (Tt t n n1 n2 h3 Om) (mq hE ?_).1;by_cases he:E.2.1=0
  ·rw[if_pos he]at hun;have eg:(E.2.1==0)=true:=Sx he
   refine Aa.p (Ai E.2.1 E.2.2) (mr eg @Ab ?_).1;by_cases hl2:(E.1.length:Int)<n
   ·rw[if_pos hl2]at hun;have c1:decide ((E.1.length:Int)<n)=true:=Sx hl2
    refine (mq c1 ?_).1;refine Cr (AF u 0) rfl ?_;refine Cu (Aj u 3 u.at_ 0) rfl ?_
    exact FE rL [0] hun
   ·rw[if_neg hl2]at hun;have c1:decide ((E.1.length:Int)<n)=false:=Sx hl2
    refine (mq c1 ?_).1
    exact FE rL [0] hun
  ·rw[if_neg he]at hun;have eg:(E.2.1==0)=false:=Sx he
   have ef:=pO u E.2.1 (E.2.2+(u.at_-t.length));refine Aa.p (Ai E.2.1 E.2.2) (mq eg ?_).1;refine Cp (Ba E.2.1 E.2.2 (u.at_-t.length) _ es) ?_;refine Cu (Aj u _ _ 0) rfl ?_
   exact FF rL [0] hun ef
 ·rw[if_neg hc]at hun;refine (mq (Au hc) ?_).1;refine UT 4 ?_
  exact FE rL [0] hun
def Pu (s:RS) (n:Int) (i:Nat) (hs:Ak s) (n1: -9223372036854775808≤n) (n2:n<9223372036854775808) (hl:s.l.length≤1000000):Ct prog 133 [.ref i 0,iA n] [(i,AN s)] (λ_=>Bd .u8 (s.unpk n).2) [(i,AN ((s.unpk n).1))] (λ_=>[]):=Ct.u1 (Nc s n hs n1 n2 hl) i cl (λρ=>An ρ _) (λρ=>An ρ _) (rdr_dead _) cl
def yJ {s:RS} (hs:Ak s):0≤s.bway.2.1∧s.bway.2.1≤1048576∧0≤s.bway.2.2∧s.bway.2.2<256:=by
 have⟨h1,h2⟩:=hs.int 1048576;have h3:=bD h1.ok h1.bys;have h4:=CB (m:=1048576) hs.bys;exact⟨h4.1,by have:=h4.2;show(s.int 1048576).2≤_;omega,h3⟩
def L9 (s:RS) (hs:Ak s) (hl:s.l.length≤1000000):Ah prog 59 [.ref 0 0,iA 1048576] [AN s] (.tup [Bd .u8 s.blkL.2.1,bA s.blkL.2.2]) [AN (s.blkL.1)]:=by
 have⟨h1,h2⟩:=hs.int 1048576;have⟨k1,k2⟩:=Jz hs;have⟨d1,d2⟩:=RZ hs;have⟨w1,w2,w3,w4⟩:=yJ hs;have hat:=bK hs;have⟨v,hv⟩:=Ex ((s.int 1048576).1);have⟨n,hn⟩:=Ex ((s.int 1048576).2);have⟨u,hu⟩:=Ex v.byte.1;have⟨y,hy⟩:=Ex v.byte.2;have eb:s.bway=(u,(n,y)):=by unfold RS.bway;rw[hv,hn,hu,hy]
 rw[hv]at h1 h2;rw[eb]at k1 k2 w1 w2 w3 w4;simp only[]at k1 k2 w1 w2 w3 w4;have ed:s.bdat=if u.code=0 then(if y=0 then u.take n else if y=1 then u.unpk n else(u.fail 7 (u.at_-1),[]))else(u,[]):=by unfold RS.bdat;rw[eb]
 have ea:IntKind.i64.wrap (u.at_-1)=u.at_-1:=i64_in _ (by have:=k1.at0;have:=k1.at1;have:=k1.len;omega);have⟨D,hD⟩:=Ex s.bdat;rw[hD]at d1 d2 ed hat;have eL:s.blkL=if D.1.code=0 then(D.1,(D.2,BJ (HZ D.2) ((s.l.drop s.at_.toNat).take (D.1.at_-s.at_).toNat)))else(D.1,([],false)):=by unfold RS.blkL;rw[hD]
 have fin:∀(hc:D.1.code=0),Ct prog 134 [Bd .u8 D.2] [] (λ_=>.tup [Bd .u8 (HZ D.2),iA 0]) [] (λ_=>[])∧Ct prog 67 [.ref 0 0,iA s.at_] [(0,AN D.1)] (λ_=>Bd .u8 ((s.l.drop s.at_.toNat).take (D.1.at_-s.at_).toNat)) [] (λ_=>[])∧
  Ct prog 127 [Bd .u8 (HZ D.2),Bd .u8 ((s.l.drop s.at_.toNat).take (D.1.at_-s.at_).toNat)] [] (λ_=>bA (BJ (HZ D.2) ((s.l.drop s.at_.toNat).take (D.1.at_-s.at_).toNat))) [] (λ_=>[]):=λhc=>by
  have⟨a1,a2,a3,a4⟩:=hat hc;have hsi:=Lr D.1 s.at_ 0 d1.ok hs.at0 a2;rw[d2]at hsi;exact⟨WQ D.2 a4,hsi,IY _ _ (WU a4 a3) (λx hx=>hs.bys x (mem_of_mem_drop (mem_of_mem_take hx)))⟩
 have em:(if(1048576:Int)<1048576 then(1048576:Int)else 1048576)=1048576:=by simp
 refine RM func59 b59 ?_
 refine Cr (AF s 0) rfl ?_;refine Aa.u1 (AS s 1048576 0 Om hs.ok hs.bys) rfl (mr hv hn ?_).1;refine Aa.u1 (CG v 0 h1.ok) rfl (mr hu hy ?_).1;refine Aa.r1 (Ae u 0) rfl ?_;by_cases hc:u.code=0
 ·rw[if_pos hc]at ed;refine (mq (AR hc) ?_).1;by_cases hy0:y=0
  ·subst hy0;rw[if_pos rfl]at ed;refine (mp ?_).1;refine Aa.u1 (CF u n 0 k1.ok) rfl ?_;simp only[go_sem,seval,←ed];refine (mok ?_).1;refine Aa.r1 (Ae D.1 0) rfl ?_;by_cases hd:D.1.code=0
   ·rw[if_pos hd]at eL;have⟨f1,f2,f3⟩:=fin hd;refine (mq (AR hd) ?_).1;refine Cp (f1) ?_;refine Cr (f2) rfl ?_;refine Cp (f3) ?_
    exact FE b59 [0] eL
   ·rw[if_neg hd]at eL;refine (mq (Au hd) ?_).1;refine UT 4 ?_
    exact FE b59 [0] eL
  ·have c0:(y==0)=false:=Sx hy0
   rw[if_neg hy0]at ed;by_cases hy1:y=1
   ·subst hy1;rw[if_pos rfl]at ed;refine (mq c0 ?_).1;refine Aa.u1 (Pu u n 0 k1 Om Om (by rw[k2];exact hl)) rfl ?_;simp only[go_sem,seval,←ed];refine (mok ?_).1;refine Aa.r1 (Ae D.1 0) rfl ?_;by_cases hd:D.1.code=0
    ·rw[if_pos hd]at eL;have⟨f1,f2,f3⟩:=fin hd;refine (mq (AR hd) ?_).1;refine Cp (f1) ?_;refine Cr (f2) rfl ?_;refine Cp (f3) ?_
     exact FE b59 [0] eL
    ·rw[if_neg hd]at eL;refine (mq (Au hd) ?_).1;refine UT 4 ?_
     exact FE b59 [0] eL
   ·have c1:(y==1)=false:=Sx hy1
    rw[if_neg hy1]at ed;have e1:D.1=u.fail 7 (u.at_-1):=by rw[ed]
    have hd:¬D.1.code=0:=by rw[e1];unfold RS.fail;rw[if_pos hc];simp[BB]
    rw[if_neg hd]at eL;refine (mr c0 c1 ?_).1;refine Aa.r1 (AF u 0) rfl (mq ea ?_).1;refine Aa.u1 (Aj u 7 (u.at_-1) 0) rfl ?_;simp only[go_sem,seval,←e1];refine (mok ?_).1;refine Aa.r1 (Ae D.1 0) rfl (mq (Au hd) ?_).1;refine UT 4 ?_
    exact FE b59 [0] eL
 ·rw[if_neg hc]at ed;refine (mq (Au hc) ?_).1;refine UT 4 ?_
  exact FK b59 [0] (by simp[eL,ed,hc])
def Ig (s:RS) (i:Nat) (hs:Ak s) (hl:s.l.length≤1000000):Ct prog 59 [.ref i 0,iA 1048576] [(i,AN s)] (λ_=>.tup [Bd .u8 s.blkL.2.1,bA s.blkL.2.2]) [(i,AN (s.blkL.1))] (λ_=>[]):=Ct.u1 (L9 s hs hl) i cl (λρ=>An ρ _) (λρ=>An ρ _) (rdr_dead _) cl
def QG (s:RS) (w:Bool) (a:Int):Ah prog 132 [bA w,.fn 50 [.ref 0 0] [],iA a] [AN s] (.tup []) [AN (if w=true then s else s.fail 12 a)]:=by
 refine RM func132 Ad2 ?_
 cases w with
 |true=>
  refine (mp ?_).1;exact FA Ad2 [0]
 |false=>
  refine (mp ?_).1;refine Cu (Aj s 12 a 0) rfl ?_;exact FA Ad2 [0]
def TG (s:RS) (w:Bool) (a:Int) (i:Nat):Ct prog 132 [bA w,.fn 50 [.ref i 0] [],iA a] [(i,AN s)] (λ_=>.tup []) [(i,AN (if w=true then s else s.fail 12 a))] (λ_=>[]):=
 Ct.u1 (QG s w a) i (λN=>by simp[AH]) (λρ=>An ρ s) (λρ=>An ρ _) (rdr_dead s) (λρ=>by simp)
def WP (s:RS) (hs:Ak s) (hl:s.l.length≤1000000):Ah prog 57 [.ref 0 0,iA 1048576] [AN s] (Bd .u8 s.blk.2) [AN (s.blk.1)]:=by
 have⟨k1,k2⟩:=Es hs;have hf:s.blkL.2.2=true->s.blkL.1.code=0:=λh=>by
  unfold RS.blkL at h ⊢;split at h
  ·rename_i hc;rw[if_pos hc];exact hc
  ·simp at h
 have⟨D,hD⟩:=Ex s.blkL;have eB:s.blk=if D.2.2=true then(D.1,D.2.1)else(D.1.fail 12 D.1.at_,[]):=by unfold RS.blk;rw[hD]
 rw[hD]at hf;refine RM func57 b57 ?_
 refine Aa.u1 (Ig s 0 hs hl) rfl (mq hD ?_).1;refine Cr (AF D.1 0) rfl ?_;refine Cu (TG D.1 D.2.2 D.1.at_ 0) rfl ?_;cases hw:D.2.2 with
 |true=>
  have hc:=hf hw;rw[if_pos hw]at eB;refine (mp ?_).1;refine Aa.r1 (Ae D.1 0) rfl (mq (AR hc) ?_).1
  exact FE b57 [0] eB
 |false=>
  rw[if_neg (by rw[hw];simp)]at eB;have hc:¬(D.1.fail 12 D.1.at_).code=0:=by
   unfold RS.fail;split
   ·simp[BB]
   ·rename_i h;exact h
  refine (mp ?_).1;refine Aa.r1 (Ae (D.1.fail 12 D.1.at_) 0) rfl (mq (Au hc) ?_).1;refine UT 4 ?_
  exact FE b57 [0] eB
def ZC (s:RS) (i:Nat) (hs:Ak s) (hl:s.l.length≤1000000):Ct prog 57 [.ref i 0,iA 1048576] [(i,AN s)] (λ_=>Bd .u8 s.blk.2) [(i,AN (s.blk.1))] (λ_=>[]):=Ct.u1 (WP s hs hl) i cl (λρ=>An ρ _) (λρ=>An ρ _) (rdr_dead _) cl
abbrev wX (h:Hd):Ad:=.cells [iA h.ver,uA h.ep,uA h.base]
abbrev LJ (r:Nat):Ad:=.cells [.ref r 0]
abbrev aR (n:Int):Ad:=.cells [iA n]
def Te (s:RS) (u:JU):JU×(Int×Int):=if s.code=0 then(u,(0,0))else(lS,(s.code,s.fat))
def SS (s:RS) (u:JU):Ah prog 71 [.ref 0 0,Sh u] [AN s] (.tup [Sh (Te s u).1,Ce (Te s u).2]) [AN (s)]:=by
 refine RM func71 b71 ?_
 refine Cr (AQ s 0) rfl ?_;refine Aa.p (Ai s.code s.fat) ?_;by_cases hc:s.code=0
 ·have q:(s.code==0)=true:=Sx hc
  have e:Te s u=(u,(0,0)):=by unfold Te;rw[if_pos hc]
  rw[e];refine (mq q ?_).1;exact FA b71 [0]
 ·have q:(s.code==0)=false:=Sx hc
  have e:Te s u=(lS,(s.code,s.fat)):=by unfold Te;rw[if_neg hc]
  rw[e];refine (mq q ?_).1;refine WO 2 [uA 0,uA 0,XE []] ?_
  exact FK b71 [0] (by simp[lS,aK])
def Ms (s:RS) (u:JU) (i:Nat):Ct prog 71 [.ref i 0,Sh u] [(i,AN s)] (λ_=>.tup [Sh (Te s u).1,Ce (Te s u).2]) [] (λ_=>[]):=
 Ct.r1 (SS s u) i cl (λρ=>An ρ s) (rdr_dead s) cl
def RX {s:RS} (hs:Ak s) {m:Int} (m0:0≤m):((s.blob m).2.length:Int)≤m:=by
 by_cases hc:(s.blob m).1.code=0
 ·exact(ND hs hc).2.1
 ·rw[qW hc];simpa using m0
def LP (t:RS) (h:Hd) (k:Nat) (left pos:Int) (ht:Ak t) (hp:IntKind.u64.wrap (h.base+k)=pos) (hk:k≤1000000) (p0:0≤pos) (p1:pos<18446744073709551616) (l0:0≤left) (l1:left≤1048576):
 Ah prog 65 [iA k,.ref 1 0,.ref 2 0,.ref 3 0] [AN t,LJ 0,wX h,aR left] (oA (Im t pos ((t.oback pos).blob left).2)) [AN ((t.oback pos).blob left).1,LJ 0,wX h,aR (left-((t.oback pos).blob left).2.length)]:=by
 have w0:IntKind.u64.wrap (k:Int)=k:=u64_in _ Om;have hl:=RX (F6 ht pos).1 (m:=left) l0;have hd:=aI ht p0 (d:=((t.oback pos).blob left).2);have⟨D,hD⟩:=Ex ((t.oback pos).blob left);have hol:=Yv t pos left 0 ht p0 p1 Om;rw[hD]at hl hd hol ⊢;have⟨V,hV⟩:=Ex (Im t pos D.2);rw[hV]at hd hol ⊢;have w1:IntKind.i64.wrap (left-(V.data.length:Int))=left-(D.2.length:Int):=by rw[hd,i64_in _ Om]
 refine RN func65 b65 ?_;refine (mr w0 hp ?_).1
 refine Aa.u1 (hol) rfl (mr @Ab w1 ?_).1;exact FA b65 [0,1,2,3]
def M9 (t:RS) (h:Hd) (k:Nat) (left pos:Int) (r b c d:Nat) (hn:[r,b,c,d].Nodup) (ht:Ak t) (hp:IntKind.u64.wrap (h.base+k)=pos) (hk:k≤1000000) (p0:0≤pos) (p1:pos<18446744073709551616) (l0:0≤left) (l1:left≤1048576):
 Ct prog 65 [iA k,.ref b 0,.ref c 0,.ref d 0] [(r,AN t),(b,LJ r),(c,wX h),(d,aR left)] (λ_=>oA (Im t pos ((t.oback pos).blob left).2)) [(r,AN ((t.oback pos).blob left).1),(b,LJ r),(c,wX h),(d,aR (left-((t.oback pos).blob left).2.length))] (λ_=>[]):=
 Ct.u4 (LP t h k left pos ht hp hk p0 p1 l0 l1) r b c d hn cl cl cl cl cl cl cl cl cl (by simp[AN]) cl
def Qh (u:RS) (h:Hd) (N:Nat) (hu:Ak u) (b0:0≤h.base) (b1:h.base<18446744073709551616) (hN:N≤1000000) (hf:u.code=0->h.base+N≤4611686018427387904) (hn:u.l.length*48≤100000000000000):
 Ah prog 64 [.ref 0 0,iA N,.fn 65 [] [.ref 1 0,.ref 2 0,.ref 3 0]] [AN u,LJ 0,wX h,aR 1048576] (XE ((Eb h.base).many N u []).2) [AN ((Eb h.base).many N u []).1,LJ 0,wX h,.cells [.any]]:=by
 have hF:=SG b0;refine RM func64 b64 ?_
 refine AA (α:=RS×List O1) (λa=>.ref 0 0::.any::.fn 65 [] [.ref 1 0,.ref 2 0,.ref 3 0]::.any::.any::.any::.any::.sl (.row 4) 4 (Xh a.2)::.any::.any::iA N::iA a.2.length::Ay (Ay (Ay [.any,.any]))) (λa=>[AN a.1,LJ 0,wX h,aR (1048576-B5 a.2),.row 4 a.2.length]) (λa=>(Eb h.base).On u N a∧(a.1.code=0->u.code=0)) (λa=>N-a.2.length) (u,[]) ⟨DH.On.start hu N,λh=>h⟩ ((Wk.row 7 4 rfl (.inr rfl) De).trans (Wk.to (by simp[B5]) (by simp[BS,Xh]))) ?_;rintro⟨t,acc⟩ ⟨ho,hor⟩;have hla:=ho.len;have h1:=ho.ok;have h2:=ho.l;have h6:=ho.res;have hwf:=ho.wf;simp only at h1 h2 h6 hwf hor;have hsum:=aH hwf;have hs0:=KP acc;refine (mp ?_).1;by_cases hlt:acc.length<N
 ·have q0:decide ((acc.length:Int)<(N:Int))=true:=decide_eq_true Om;have ei:=Aw acc.length Om;obtain⟨pos,hpos⟩:∃pos,IntKind.u64.wrap (h.base+(acc.length:Int))=pos:=⟨_,rfl⟩;have hpr:0≤pos∧pos<18446744073709551616:=by
   rw[←hpos,IntKind.wrap_u64];omega
  have hcl:=M9 t h acc.length (1048576-B5 acc) pos 0 1 2 3 De h1 hpos Om hpr.1 hpr.2 Om Om;have hff:((Eb h.base).f t acc).1=((t.oback pos).blob (1048576-B5 acc)).1∧(((t.oback pos).blob (1048576-B5 acc)).1.code=0->((Eb h.base).f t acc).2=Im t pos ((t.oback pos).blob (1048576-B5 acc)).2):=by
   by_cases hc0:t.code=0
   ·have hg:h.base+(acc.length:Int)<4611686018427387904:=by
     have:=hf (hor hc0);omega
    have hpe:pos=h.base+(acc.length:Int):=by rw[←hpos];exact u64_in _ Om
    rw[SH hg,←hpe];exact⟨rfl,λ_=>rfl⟩
   ·rw[LL h.base t acc hc0];have ho2:t.oback pos=t:=by
     unfold RS.oback;rw[B1 hc0];simp only;rw[B1 hc0];simp only;rw[if_neg (λh=>hc0 h.1)]
    rw[ho2,JB hc0];exact⟨rfl,λhh=>absurd hh hc0⟩
  have hdt:=aI h1 hpr.1 (d:=((t.oback pos).blob (1048576-B5 acc)).2);obtain⟨D,hD⟩:∃D,(t.oback pos).blob (1048576-B5 acc)=D:=⟨_,rfl⟩;rw[hD]at hff hcl hdt;obtain⟨V,hV⟩:∃V,Im t pos D.2=V:=⟨_,rfl⟩;rw[hV]at hff hcl hdt;have⟨hf1,hf2⟩:=hff;refine (mq q0 ?_).1;refine Aa.u4 hcl rfl rfl rfl rfl (mp ?_).1;refine Aa.r1 (Ae D.1 0) rfl (mp ?_).1;by_cases hc:D.1.code=0
  ·have hg:D.1.good=true:=by unfold RS.good;simpa using hc
   have hnx:=ho.next hF hlt (by rw[hf1];exact hc);rw[hf1,hf2 hc]at hnx;have hrd:=(hF.read t acc h1 hwf (by rw[hf1];exact hc)).1;have hss:=LE acc V;have e1:1048576-B5 acc-(D.2.length:Int)=1048576-B5 (acc++[V]):=by rw[hss,hdt];omega
   simp only[go_sem,seval,hg,nR,CI,ei,e1];refine (mok ?_).1;(repeat with_reducible refine Sa ?_);exact⟨(D.1,acc++[V]),⟨hnx,λ_=>hor hrd⟩,by simp;omega,Wk.sel [0,1,2,3,4] Si rfl Si rfl (by simp[AE,An]) (by simp[BP,AE,AH])⟩
  ·have hg:D.1.good=false:=by unfold RS.good;simpa using hc
   have hb:=DX (F:=Eb h.base) (s:=t) hlt (by rw[hf1];exact hc);rw[h6,hf1]at hb;rw[hb];refine (mq hg ?_).1;(refine A6.nilk 6 4 rfl ?_;simp only[set_cons_zero,set_cons_succ]);refine A6.wao (ys:=[.any]) 3 rfl (Co.cons (Wa.anyL _) Co.nil) ?_;simp only[set_cons_zero,set_cons_succ]
   exact FE b64 [0,1,2,3] @aK
 ·have q0:decide ((acc.length:Int)<(N:Int))=false:=decide_eq_false Om;have he:=G8 (F:=Eb h.base) (s:=t) (acc:=acc) (N:=N) Om;rw[h6]at he;rw[he];refine (mq q0 ?_).1;refine UT 6 ?_;refine A6.wao (ys:=[.any]) 3 rfl (Co.cons (Wa.anyL _) Co.nil) ?_;simp only[set_cons_zero,set_cons_succ];exact FA b64 [0,1,2,3]
def SQ (u:RS) (h:Hd) (N:Nat) (hu:Ak u) (b0:0≤h.base) (b1:h.base<18446744073709551616) (hN:N≤1000000) (hf:u.code=0->h.base+N≤4611686018427387904) (hn:u.l.length*48≤100000000000000) (r b c d:Nat) (hnd:[r,b,c,d].Nodup):
 Ct prog 64 [.ref r 0,iA N,.fn 65 [] [.ref b 0,.ref c 0,.ref d 0]] [(r,AN u),(b,LJ r),(c,wX h),(d,aR 1048576)] (λ_=>XE ((Eb h.base).many N u []).2) [(r,AN ((Eb h.base).many N u []).1),(b,LJ r),(c,wX h),(d,.cells [.any])] (λ_=>[]):=
 Ct.u4 (Qh u h N hu b0 b1 hN hf hn) r b c d hnd cl cl cl cl cl cl cl cl cl (by simp[AN]) cl
def WF {l:List Int} (h:AW l):0≤Bb l∧Bb l<4294967296:=by
 have:=DE h;exact⟨this.1,by simpa using this.2⟩
def VZ {s:RS} (hs:Ak s):0≤s.header.2.base∧s.header.2.base<18446744073709551616:=by
 by_cases hc:s.header.1.code=0
 ·have⟨i1,i2,i3,i4,i5⟩:=ET hs hc;have:=(B9.1 i2).2.2.1;exact⟨i3,Om⟩
 ·rw[HP hc];exact⟨De,De⟩
def pB {s t:RS} (h0:0≤s.at_) (h1:s.at_≤t.at_) (hl:t.l=s.l):(t.l.drop s.at_.toNat).take (t.at_-s.at_).toNat=s.from t:=by
 unfold RS.from;rw[hl,show(t.at_-s.at_).toNat=t.at_.toNat-s.at_.toNat by omega]
def vV {β:Type} {F:DH β} (hF:∀s acc,Ak s->s.at_≤(F.f s acc).1.at_∧Ak (F.f s acc).1):∀(N:Nat) (s:RS) (acc:List β),Ak s->s.at_≤(F.many N s acc).1.at_:=by
 intro N
 induction N with
 |zero=>intro s acc _;exact Int.le_refl _
 |succ N ih=>
  intro s acc h;have h1:=hF s acc h;simp only[DH.many];split
  ·have:=ih (F.f s acc).1 (acc++[(F.f s acc).2]) h1.2;omega
  ·exact h1.1
def uF {s:RS} (n:Int):s.at_≤(s.skip n).1.at_:=by
 unfold RS.skip
 repeat' split
 all_goals first|omega|(simp only[Gv];omega)
def tN {s:RS} (n:Int):s.at_≤(s.take n).1.at_:=by unfold RS.take;split<;>exact uF n
def oT {s:RS} (h:Ak s) (m:Int):s.at_≤(s.int m).1.at_:=by
 have hv:=R3 h;unfold RS.int RS.most;split
 ·split
  ·simp only[Gv];exact hv
  ·exact hv
 ·simp only[Gv];exact hv
def yO {s:RS} (h:Ak s) (m:Int):s.at_≤(s.blob m).1.at_:=by
 have h1:=oT h m;have h2:=tN (s:=(s.int m).1) (s.int m).2;unfold RS.blob;omega
def nQ {s:RS} (h:Ak s) (pos:Int):s.at_≤(s.oback pos).at_:=by
 have h1:=R3 h;have h2:=R3 h.vint.1;unfold RS.oback;split
 ·rw[Gv];omega
 ·omega
def Acs {s:RS} (h:Ak s) (base least most:Int):s.at_≤(s.cnt base least most).1.at_:=by
 have:=oT h most;unfold RS.cnt;split
 ·simp only[Gv];exact this
 ·exact this
def vJ {s:RS} (h:Ak s) {base:Int} (b0:0≤base):s.at_≤(s.olds base).1.at_:=by
 have h1:=Acs h base 0 400;have h2:=vV (F:=Eb base) (λs acc hs=>by
  simp only[Eb];split
  ·have k:=F6 hs (base+acc.length);have e1:=nQ hs (base+acc.length);have e2:=yO k.1 (1048576-B5 acc);exact⟨by simp only;omega,(RS.ok.blob k.1 _).1⟩
  ·exact⟨by simp only[Gv];omega,hs.fail _ _⟩) (s.cnt base 0 400).2.toNat (s.cnt base 0 400).1 [] (Fq h base 0 400).1
 unfold RS.olds;omega
def OK (b:List Int) (hb:AW b) (hn:b.length≤1000000):Ct prog 25 [Bd .u8 b] [] (λ_=>.tup [Sh (dec1 b).1,Ce (dec1 b).2]) [] (λ_=>[]):=by
 refine Ah.toCt ?_ cl cl
 have hok:Ak (RS.new b):=Ak.new hb Om;have hbk:=H0 hok 1;have hhb:=VZ hok;have hck:=Fq hbk.1 (RS.new b).header.2.base 0 400;have hcr:=CB (s:=(RS.new b).begin 1) (m:=400) hbk.1.bys;have hcs:=TC ((RS.new b).begin 1) (RS.new b).header.2.base 0 400;have hci:=λhc=>(TD hbk.1 (base:=(RS.new b).header.2.base) (least:=0) (most:=400) hc)
 have hok2:=Re hbk.1 hhb.1;have hol:=vJ hbk.1 hhb.1;have hsk:=QX (s:=(RS.new b).begin 1) hok2.1;have hmk:=Ji (F:=Eb (RS.new b).header.2.base) (LL _) (N:=(((RS.new b).begin 1).cnt (RS.new b).header.2.base 0 400).2.toNat) (s:=(((RS.new b).begin 1).cnt (RS.new b).header.2.base 0 400).1);have hbl:(RS.new b).l=b:=rfl;have hdef:dec1 b=Te (RS.new b).dec1.1 (RS.new b).dec1.2:=rfl;have hd1:(RS.new b).dec1=(((RS.new b).begin 1).sum4 (((RS.new b).begin 1).olds (RS.new b).header.2.base).1 |>.rest9,⟨(RS.new b).header.2.ep,(RS.new b).header.2.base,(((RS.new b).begin 1).olds (RS.new b).header.2.base).2⟩):=rfl;rw[hdef,hd1];have hom:((RS.new b).begin 1).olds (RS.new b).header.2.base=(Eb (RS.new b).header.2.base).many (((RS.new b).begin 1).cnt (RS.new b).header.2.base 0 400).2.toNat (((RS.new b).begin 1).cnt (RS.new b).header.2.base 0 400).1 []:=rfl;have⟨H,hH⟩:=Ex ((RS.new b).header.2);have hbg:=K5 (RS.new b) 1 2 hok De;rw[hH]at hhb hck hcs hci hok2 hol hsk hmk hom hbg ⊢;have⟨B,hB⟩:=Ex ((RS.new b).begin 1);rw[hB]at hbk hck hcr hcs hci hok2 hol hsk hmk hom hbg ⊢;have hcn:=λi=>IJ B H.base 0 400 i hbk.1 hhb.1 hhb.2 De
 have⟨C,hC⟩:=Ex (B.cnt H.base 0 400);rw[hC]at hck hcs hci hmk hom hcn;have hN:C.2=(C.2.toNat:Int):=Om
 have hmn:=λr b' c d hnd=>SQ C.1 H C.2.toNat hck.1 hhb.1 hhb.2 Om (λhc=>by have:=(hci hc).2.2.2.2.2.1;omega) (by rw[hck.2,hbk.2,hbl];omega) r b' c d hnd
 rw[←hom,←hN]at hmn;have⟨O,hO⟩:=Ex (B.olds H.base);rw[hO]at hok2 hol hsk hmn ⊢;have hfr:=pB hbk.1.at0 hol hok2.2;have hfb:AW (B.from O.1):=λx hx=>by
  unfold RS.from at hx;exact hbk.1.bys x (mem_of_mem_drop (mem_of_mem_take hx))
 have hfl:(B.from O.1).length≤1000000:=by
  unfold RS.from;have:B.l.length≤1000000:=by rw[hbk.2,hbl];exact hn
  simp;omega
 have hcrc:=WF hfb;have hs4:B.sum4 O.1=if(O.1.fixed 4).1.code=0∧¬(O.1.fixed 4).2=Bb (B.from O.1)then(O.1.fixed 4).1.fail 6 O.1.at_ else(O.1.fixed 4).1:=rfl
 have hfx:¬(O.1.fixed 4).2=Bb (B.from O.1)->B.sum4 O.1=(O.1.fixed 4).1.fail 6 O.1.at_:=λh=>by
  rw[hs4];by_cases hc:(O.1.fixed 4).1.code=0
  ·rw[if_pos ⟨hc,h⟩]
  ·rw[if_neg (λhh=>hc hh.1),Ef hc]
 have hfx2:(O.1.fixed 4).2=Bb (B.from O.1)->B.sum4 O.1=(O.1.fixed 4).1:=λh=>by
  rw[hs4,if_neg (λhh=>hh.2 h)]
 have hmin:min (max (4:Int) 0) 8=4:=by decide
 have hrf:=CW O.1 4 2 hok2.1;rw[hmin]at hrf;have⟨X,hX⟩:=Ex (O.1.fixed 4);rw[hX]at hfx hfx2 hrf;have⟨Y,hY⟩:=Ex (B.sum4 O.1);rw[hY]at hsk hfx hfx2 ⊢;have wc:IntKind.u64.wrap (Bb (B.from O.1))=Bb (B.from O.1):=u64_in _ Om;have⟨Z,hZ⟩:=Ex (Bb (B.from O.1));have hsum:=Gx (B.from O.1) hfb Om;refine RM func25 b25 ?_
 refine Aa.n (BO b) (mp ?_).1;refine Cu (hbg) rfl ?_;refine Cr (AF B 2) rfl ?_;refine Cu (hcn 2) rfl ?_;refine Aa.u4 (hmn 2 3 4 5 De) rfl rfl rfl rfl (mp ?_).1;refine Cr (AF O.1 2) rfl ?_;refine Aa.r1 (Lr O.1 B.at_ 2 hok2.1.ok hbk.1.at0 hol) rfl (mq hfr ?_).1;refine Cu (hrf) rfl ?_;refine Aa.p (hsum) (mq wc ?_).1;by_cases h:X.2=Bb (B.from O.1)
 ·have q:(X.2 != Bb (B.from O.1))=false:=Sx h
  have e:=hfx2 h;rw[←e];refine (mq q ?_).1;refine Cu (Bl Y 2 hsk.1) rfl ?_;refine Cr (Ms Y.rest9 ⟨H.ep,H.base,O.2⟩ 2) rfl ?_;exact FA b25 []
 ·have q:(X.2 != Bb (B.from O.1))=true:=Sx h
  have e:=hfx h;refine (mq q ?_).1;refine Aa.u1 (Aj X.1 6 O.1.at_ 2) rfl ?_;simp only[go_sem,seval,←e];refine (mok ?_).1;refine Cu (Bl Y 2 hsk.1) rfl ?_;refine Cr (Ms Y.rest9 ⟨H.ep,H.base,O.2⟩ 2) rfl ?_;exact FA b25 []
def tH (n:Int):0≤IntKind.u64.wrap n∧IntKind.u64.wrap n<18446744073709551616:=by
 have e:IntKind.u64.wrap n=n%18446744073709551616:=by
  unfold IntKind.wrap;simp[IntKind.signed,IntKind.bits]
 rw[e];omega
def Ch (f:Ft):List Int:=[IntKind.u64.wrap f.bat,IntKind.u64.wrap f.ent,f.fst,f.fin,IntKind.u64.wrap f.at_,IntKind.u64.wrap f.size]
def cC {f:Ft} (hf:f.ok):H2 (Ch f):=by
 have:=hf.fst;have:=hf.fin;have:=tH f.bat;have:=tH f.ent;have:=tH f.at_;have:=tH f.size;intro x hx;simp only[Ch,mem_cons,not_mem_nil,or_false]at hx;rcases hx with rfl|rfl|rfl|rfl|rfl|rfl<;>omega
def Uf {f:Ft} (hf:f.ok) (hr:AG f=true):Ch f=ZT f:=by
 have⟨n1,n2,n3,n4,n5⟩:=Gp hf hr;unfold Ch ZT;rw[u64_in f.bat Om,u64_in f.ent Om,u64_in f.at_ Om,u64_in f.size Om]
def Vh (f:Ft):List Int:=if AG f=true then F5 f else[]
def Qz (f:Ft):Int:=if AG f=true then 0 else 3
def mU (f:Ft):WS:=(((if AG f=true then WS.new 80 else(WS.new 80).fail 3).put [3]).epput f.ep (Ac f.ep)).puts (Ch f)
def mK {s:WS} (h:¬s.code=0) (l:List Int):s.puts l=s:=by
 induction l with
 |nil=>rfl
 |cons x l ih=>
  have:s.puts (x::l)=(s.put (vb x)).puts l:=rfl;rw[this,WS.put_bad h,ih]
def vE {f:Ft} (hf:f.ok):(mU f).bytes=Vh f∧(mU f).code=Qz f:=by
 unfold mU Vh Qz;by_cases hr:AG f=true
 ·have hpl:=Ot f;have e:=fD f;have hl:=congrArg List.length e;simp only[length_append,length_cons,length_nil]at hl;have he:=(Hy.1 hr).1;rw[if_pos hr,if_pos hr,if_pos hr,Uf hf hr];have w1:(WS.new 80).put [3]=⟨80,[3],0⟩:=by kernel_rfl
  have w2:(WS.mk 80 [3] 0).epput f.ep (Ac f.ep)=⟨80,[3]++vb f.ep,0⟩:=by
   unfold WS.epput;rw[if_pos (Bq.2 he),CP rfl (by simp only[length_cons,length_nil];omega)]
  rw[w1,w2,Oe rfl _ (by simp only[length_append,length_cons,length_nil];omega),←e];exact⟨rfl,rfl⟩
 ·rw[if_neg hr,if_neg hr,if_neg hr];have w0:(WS.new 80).fail 3=⟨80,[],3⟩:=by kernel_rfl
  have w1:(WS.mk 80 [] 3).put [3]=⟨80,[],3⟩:=WS.put_bad De;have w2:(WS.mk 80 [] 3).epput f.ep (Ac f.ep)=⟨80,[],3⟩:=by
   unfold WS.epput;split
   ·exact WS.put_bad De
   ·rfl
  rw[w0,w1,w2,mK De];exact⟨rfl,rfl⟩
def WS.fine.epput {s:WS} (h:s.fine) (x:Int) (b:Bool):(s.epput x b).fine:=by
 unfold WS.epput;split
 ·exact h.put _
 ·exact h.fail 3
def Na (f:Ft) (hf:f.ok):Ah prog 180 [sV f] [] (.tup [Bd .u8 (Vh f),iA (Qz f)]) []:=by
 have⟨p1,p2⟩:=vE hf;have hu:=cC hf;have lv:(Ch f).length=6:=rfl;have ev:[uA (IntKind.u64.wrap f.bat),uA (IntKind.u64.wrap f.ent),uA f.fst,uA f.fin,uA (IntKind.u64.wrap f.at_),uA (IntKind.u64.wrap f.size)]=A0 .u64 (Ch f):=rfl;have f0:(WS.new 80).fine:=WS.fine.new Om;have hs:=hf;obtain⟨s,hsv⟩:∃s,(if AG f=true then WS.new 80 else(WS.new 80).fail 3)=s:=⟨_,rfl⟩;have fs:s.fine:=by
  rw[←hsv];split
  ·exact f0
  ·exact f0.fail 3
 have hpw:mU f=((s.put [3]).epput f.ep (Ac f.ep)).puts (Ch f):=by unfold mU;rw[hsv]
 obtain⟨W,hW⟩:∃W,(s.put [3]).epput f.ep (Ac f.ep)=W:=⟨_,rfl⟩;have fw:W.fine:=by rw[←hW];exact(fs.put _).epput _ _
 rw[hW]at hpw;rw[hpw]at p1 p2;have w00:W.puts []=W:=rfl;refine RM func180 Adl ?_
 refine Aa.n (E5 80) (mp ?_).1;refine Aa.p (HR f hf.fst.1 hf.fst.2 hf.fin.1 hf.fin.2) ?_;by_cases hr:AG f=true
 ·rw[if_pos hr]at hsv;refine (mr hr hsv ?_).1;(repeat with_reducible refine Sa ?_);refine Aa.u2 (BV s [3] _ _ De fs.ok (fs.room _)) rfl rfl (mp ?_).1;refine Aa.u2 (Js (s.put [3]) f.ep _ _ De hf.ep.1 hf.ep.2 (fs.put _)) rfl rfl ?_;simp only[go_sem,seval,hW,ev,Ab,lv];refine (mok ?_).1;(repeat with_reducible refine Sa ?_);refine AA (α:=Nat) (λk=>Ay (.ref 0 0::Az (Ay (Ay (Ay (.any::.any::.any::Bd .u64 (Ch f)::iA 6::iA k::Ay (Ay [.any,.any,.any]))))))) (λk=>[B0 1 (W.puts ((Ch f).take k)),AX (W.puts ((Ch f).take k))]) (λk=>k≤6) (λk=>6-k) 0 Si ?_ ?_
  ·exact(Wk.untag 36 rfl).trans (Wk.sel [1,2] Si rfl Si rfl (by simp[I6,wrow_ren,AH,w00]) (by simp[BP,AE,CS,AM,AH]))
  ·intro k hk;have fk:=fw.puts ((Ch f).take k);refine (mp ?_).1;by_cases hlt:k<6
   ·have q1:decide ((k:Int)<6)=true:=decide_eq_true Om;have ek:=Aw k Om;have g:=FH (Ch f) k Om;have hx:=hu ((Ch f).getD k 0) (by rw[getD_eq_getElem?_getD,getElem?_eq_getElem Om];exact getElem_mem _);have st:=QW W (Ch f) k Om;refine (mt q1 @Ab lv g ?_).1;(repeat with_reducible refine Sa ?_);refine Aa.u2 (Br (W.puts ((Ch f).take k)) ((Ch f).getD k 0) 0 1 De hx.1 hx.2 fk.ok (fk.room _)) rfl rfl (mr st ek ?_).1;exact⟨k+1,Om,Om,Wk.to Si (by simp[BS])⟩
   ·have q1:decide ((k:Int)<6)=false:=decide_eq_false Om;have e6:(Ch f).take k=Ch f:=take_of_length_le Om;rw[e6]at fk;refine (mr q1 e6 ?_).1;refine Aa.r2 (BW (W.puts (Ch f)) 0 1 De fk.len) rfl rfl (mr p1 p2 ?_).1;exact FA Adl []
 ·have hr':AG f=false:=Sx hr
  rw[if_neg hr]at hsv;refine (mq hr' ?_).1;refine Aa.u2 (Cj (WS.new 80) 3 _ _ De) rfl rfl (mq hsv ?_).1;(repeat with_reducible refine Sa ?_);refine Aa.u2 (BV s [3] _ _ De fs.ok (fs.room _)) rfl rfl (mp ?_).1;refine Aa.u2 (Js (s.put [3]) f.ep _ _ De hf.ep.1 hf.ep.2 (fs.put _)) rfl rfl ?_;simp only[go_sem,seval,hW,ev,Ab,lv];refine (mok ?_).1;(repeat with_reducible refine Sa ?_);refine AA (α:=Nat) (λk=>Ay (.ref 0 0::Az (Ay (Ay (Ay (.any::.any::.any::Bd .u64 (Ch f)::iA 6::iA k::Ay (Ay [.any,.any,.any]))))))) (λk=>[B0 1 (W.puts ((Ch f).take k)),AX (W.puts ((Ch f).take k))]) (λk=>k≤6) (λk=>6-k) 0 Si ?_ ?_
  ·exact(Wk.untag 36 rfl).trans (Wk.sel [1,2] Si rfl Si rfl (by simp[I6,wrow_ren,AH,w00]) (by simp[BP,AE,CS,AM,AH]))
  ·intro k hk;have fk:=fw.puts ((Ch f).take k);refine (mp ?_).1;by_cases hlt:k<6
   ·have q1:decide ((k:Int)<6)=true:=decide_eq_true Om;have ek:=Aw k Om;have g:=FH (Ch f) k Om;have hx:=hu ((Ch f).getD k 0) (by rw[getD_eq_getElem?_getD,getElem?_eq_getElem Om];exact getElem_mem _);have st:=QW W (Ch f) k Om;refine (mt q1 @Ab lv g ?_).1;(repeat with_reducible refine Sa ?_);refine Aa.u2 (Br (W.puts ((Ch f).take k)) ((Ch f).getD k 0) 0 1 De hx.1 hx.2 fk.ok (fk.room _)) rfl rfl (mr st ek ?_).1;exact⟨k+1,Om,Om,Wk.to Si (by simp[BS])⟩
   ·have q1:decide ((k:Int)<6)=false:=decide_eq_false Om;have e6:(Ch f).take k=Ch f:=take_of_length_le Om;rw[e6]at fk;refine (mr q1 e6 ?_).1;refine Aa.r2 (BW (W.puts (Ch f)) 0 1 De fk.len) rfl rfl (mr p1 p2 ?_).1;exact FA Adl []
def IN (f:Ft) (hf:f.ok):Ct Tryz.prog 180 [sV f] [] (λ_=>.tup [Bd .u8 (Vh f),iA (Qz f)]) [] (λ_=>[]):=(Na f hf).toCt cl cl
section
variable {P:Program} {S:List Ad} {K:KT} {f:FuncId} {args args₀:List AV}
def Aa.rn2 {r:Nat->AV} {new:Nat->List Ad} {i j:Nat} {o p:Ad} (h:Ct P f (args.map Proofs.YtaajkppmibfgfabGreat.untag) [(i,o),(j,p)] r [] new) (hS:S[i]? =some o) (hS':S[j]? =some p) (hK:K (r S.length) [i,j] [] (new S.length)):Aa P f args S K:=Aa.of h.untag (by simp[hS,hS']) Si hK
end
def PJ (s:WS) (hc:s.code=0) (hb:s.l.length≤140737488355328):Ah prog 173 [.ref 0 0] [B0 1 s,AX s] (.tup [IE 2 s.l,iA 0]) [B0 1 s,AX s,.row 1 s.l.length]:=by
 have q:(s.code != 0)=false:=Sx hc
 refine RM func173 rI ?_
 refine Aa.r2 (GD s 0 1 De) rfl rfl (mq q ?_).1;simp only[go_sem,seval,B0,AX,Ab];refine (mok ?_).1;(repeat with_reducible refine Sa ?_)
 (refine FB rI [0,1,2] ?_ ?_<;>first|with_reducible rfl|(simp[B0,AX];done)|rfl)
def JT (s:WS) (i j:Nat) (h:i≠j) (hc:s.code=0) (hb:s.l.length≤140737488355328):Ct prog 173 [.ref i 0] [(i,B0 j s),(j,AX s)] (λn=>.tup [IE n s.l,iA 0]) [] (λ_=>[.row 1 s.l.length]):=
 Ct.mk (PJ s hc hb) [i,j] (by simpa using h) rfl Si (by simp[Bx,Bg]) (by intros;simp[AE,AH,range'_succ]) (by intros;simp[AE,AH,range'_succ,AM]) (by intros;simp[I6,wrow_ren,AH,range'_succ]) (.inr ⟨rfl,rfl⟩) (by intros;simp[AE])
def Qt (p:List Int) (hp:AW p) (hn:p.length≤2097152):Ah prog 176 [Bd .u8 p] [] (.tup [IE 0 (Ag p),iA 0]) [.row 1 (Ag p).length]:=by
 have hsz:=Ux p.length;have hfr:=Mi (p:=p);have f0:(WS.new (Dy p.length)).fine:=WS.fine.new Om;have hf:=Rz (s:=WS.new (Dy p.length)) (p:=p) rfl hn (by rw[WS.new_is Om];simp;omega);rw[WS.new_is Om]at hf;have hff:=(f0.frame p).len;rw[WS.new_is Om,hf]at hff;simp only[nil_append]at hf hff;refine RN func176 y7 ?_;refine (mq @Ab ?_).1
 refine Cp (Kr p.length Om) ?_;refine Aa.n (E5 (Dy p.length)) (mp ?_).1;refine Aa.u2 (RB (WS.new (Dy p.length)) p _ _ De f0 hp Om) rfl rfl (mp ?_).1;rw[WS.new_is Om,hf];refine Aa.rn2 (JT (WS.mk (Dy p.length) (Ag p) 0) _ _ De rfl hff) rfl rfl (mp ?_).1;exact FA y7 [2]
def Tg (p:List Int) (hp:AW p) (hn:p.length≤2097152):Ct prog 176 [Bd .u8 p] [] (λn=>.tup [IE n (Ag p),iA 0]) [] (λ_=>[.row 1 (Ag p).length]):=Ct.n (Qt p hp hn) cl cl CN
def IZ (f:Ft):List Int:=if AG f=true then IP f else[]
def Qu (f:Ft) (hf:f.ok):Ah prog 105 [sV f] [] (.tup [Bd .u8 (IZ f),iA (Qz f)]) []:=by
 by_cases hr:AG f=true
 ·have e1:Vh f=F5 f:=by unfold Vh;rw[if_pos hr]
  have e2:Qz f=0:=by unfold Qz;rw[if_pos hr]
  have e3:IZ f=IP f:=by unfold IZ;rw[if_pos hr]
  have hp:=mX hf hr;have hpl:=Ot f;have hfl:=Bi (F5 f);have htl:=FU ((Ag (F5 f)).length:Int);have wl:IntKind.u64.wrap ((Ag (F5 f)).length:Int)=((Ag (F5 f)).length:Int):=u64_in _ Om;have ef:Ag (F5 f)++A4 (Ag (F5 f)).length=IP f:=rfl;have efl:(IP f).length=(Ag (F5 f)).length+12:=by rw[←ef,length_append,htl]
  refine RM func105 z9 ?_
  refine Aa.p (IN f hf) (mr e1 e2 ?_).1;refine Aa.n (Tg (F5 f) hp Om) (mq @Ab ?_).1;refine Aa.p (EJ _ _ wl Om Om) ?_;simp only[go_sem,seval,C1,Ab,←length_append,ef];refine (mok ?_).1;(repeat with_reducible refine Sa ?_);refine UT 2 ?_
  exact FF z9 [] e2 e3
 ·have e1:Vh f=[]:=by unfold Vh;rw[if_neg hr]
  have e2:Qz f=3:=by unfold Qz;rw[if_neg hr]
  have e3:IZ f=[]:=by unfold IZ;rw[if_neg hr]
  refine RM func105 z9 ?_
  refine Aa.p (IN f hf) (mr e1 e2 ?_).1;refine UT 2 ?_
  exact FF z9 [] e2 e3
def Ti (f:Ft) (hf:f.ok):Ct Tryz.prog 105 [sV f] [] (λ_=>.tup [Bd .u8 (IZ f),iA (Qz f)]) [] (λ_=>[]):=(Qu f hf).toCt cl cl
def OX (h:Hd) (hr:Bz h=true) (hb:0≤h.base):Ah prog 100 [oY h] [] (.tup [IE 0 (Am h),iA 0]) [.row 1 (Am h).length]:=by
 have f0:(WS.new 27).fine:=WS.fine.new Om;have hff:=(f0.header h).len;have⟨e1,e2⟩:=Yg h (n:=27) Om;have e3:((WS.new 27).header h).code=0:=by rw[e1];unfold xJ;rw[if_pos hr]
 have e4:((WS.new 27).header h).l=Am h:=by
  have:((WS.new 27).header h).bytes=((WS.new 27).header h).l:=by unfold WS.bytes;rw[if_pos e3]
  rw[←this,e2];unfold Pp;rw[if_pos hr]
 refine RM func100 Ahz ?_
 refine Cp (Aas) ?_;refine Aa.n (E5 27) (mp ?_).1;refine Aa.u2 (YS (WS.new 27) h _ _ De f0 hb) rfl rfl (mp ?_).1;refine Aa.rn2 (JT ((WS.new 27).header h) _ _ De e3 hff) rfl rfl (mq e4 ?_).1;exact FA Ahz [3]
def Qo (h:Hd) (hr:Bz h=true) (hb:0≤h.base):Ct prog 100 [oY h] [] (λn=>.tup [IE n (Am h),iA 0]) [] (λ_=>[.row 1 (Am h).length]):=Ct.n (OX h hr hb) cl cl CN
def Q2 (a b:En):JO a b=true↔a=b:=by
 unfold JO H5 BJ;rw[Bool.and_eq_true,decide_eq_true_eq,decide_eq_true_eq];exact⟨λ⟨h1,h2⟩=>by cases a;cases b;simp only at h1 h2;rw[h1,h2],λh=>by subst h;exact⟨rfl,rfl⟩⟩
def rV (a b:List En):Ng a b=true↔a=b:=by
 unfold Ng;rw[Bool.and_eq_true,decide_eq_true_eq,all_eq_true];constructor
 ·rintro⟨h1,h2⟩;exact ext_getElem h1 λi h3 h4=>by
   have:=(Q2 _ _).1 (h2 i (mem_range.2 h3));simpa[h3,h4]using this
 ·rintro rfl;exact⟨rfl,λi _=>(Q2 _ _).2 rfl⟩
abbrev FD (b:Bt):AV:=.agg [uA b.ep,uA b.base,Fv b.en]
def D7 (l:List Bt):List AV:=l.map FD
abbrev GN (l:List Bt):AV:=.sl .none 3 (D7 l)
abbrev btO (b:Bt):Ad:=.cells [uA b.ep,uA b.base,Fv b.en]
abbrev Et (u:EL):AV:=.agg [uA u.ep,GN u.bt]
abbrev PU (u:EL):Ad:=.cells [uA u.ep,GN u.bt]
def Ao (l:List Bt):(D7 l).length=l.length:=by simp[D7]
def yK:D7 []=[]:=(rfl)
def GB (l:List Bt) (k:Nat) (h:k<l.length):(D7 l).getD k .any=FD (l.getD k Cc):=by simp[D7,h]
def Lo (l:List Bt) (x:Bt):D7 l++[FD x]=D7 (l++[x]):=by simp[D7]
def WL (l:List Bt) (n:Nat):(D7 l).take n=D7 (l.take n):=by simp[D7]
@[simp] theorem Je (ρ:Nat->Nat) (l:List Bt):(D7 l).map (λx=>x.ren ρ)=D7 l:=by
 simp[D7,Function.comp_def,AE,AM,D2]
def Uy (u:EL) (ρ:Nat->Nat):(PU u).ren ρ=PU u:=by simp[AE]
structure DG (b:Bt):Prop where
 n:b.en.length≤1000000
 e:∀e∈b.en,NS e
 s:(AK b.en).length≤100000000
def DG.lk {b:Bt} (h:DG b):∀e∈b.en,DS e.lk:=λe he=>(h.e e he).1
def Hv (a b:Bt):Bool:=decide (a=b)
def J3 (a b:Bt):Hv a b=true↔a=b:=by simp[Hv]
def N7 (a b:Bt) (hs:DG a) (ha:j9 a.en) (hb:j9 b.en):Ct prog 37 [FD a,FD b] [] (λ_=>bA (Hv a b)) [] (λ_=>[]):=by
 refine Ah.toCt ?_ cl cl
 have hno:¬a=b->Hv a b=false:=λh=>by simp[Hv,h]
 refine RM func37 b37 ?_
 by_cases c0:a.ep=b.ep
 ·have q0:(a.ep==b.ep)=true:=Sx c0
  by_cases c1:a.base=b.base
  ·have q1:(a.base==b.base)=true:=Sx c1
   have e:Ng a.en b.en=Hv a b:=by
    rw[Bool.eq_iff_iff,rV,J3];cases a;cases b;simp only at c0 c1;simp[c0,c1]
   refine (mr q0 q1 ?_).1;refine Aa.p (d9 a.en b.en hs.n hs.lk ha hb) (mq e ?_).1;exact FA b37 []
  ·have q1:(a.base==b.base)=false:=Sx c1
   have e:=hno (by rintro rfl;exact c1 rfl);refine (mr q0 q1 ?_).1
   exact FE b37 [] e
 ·have q0:(a.ep==b.ep)=false:=Sx c0
  have e:=hno (by rintro rfl;exact c0 rfl);refine (mq q0 ?_).1
  exact FE b37 [] e
def Mm (u v:EL):Bool:=decide (u=v)
def XJ (u:EL):Mm u u=true:=by simp[Mm]
def UQ (u v:EL) (hn:u.bt.length≤1000000) (hs:∀b∈u.bt,DG b) (hu:sM u.bt) (hv:sM v.bt):Ah prog 15 [Et u,Et v] [] (bA (Mm u v)) []:=by
 have hno:¬u=v->Mm u v=false:=λh=>by simp[Mm,h]
 refine RM func15 b15 ?_
 by_cases c0:u.ep=v.ep
 ·have q0:(u.ep != v.ep)=false:=Sx c0
  by_cases hlen:u.bt.length=v.bt.length
  ·have q2:((u.bt.length:Int) != (v.bt.length:Int))=false:=by simp;omega
   refine (ms q0 @Ao q2 ?_).1;refine AA (α:=Nat) (λk=>.any::.any::.ref 0 0::.ref 1 0::.any::iA k::Az (Az [.any])) (λ_=>[PU u,PU v]) (λk=>k≤u.bt.length∧∀i,i<k->u.bt.getD i Cc=v.bt.getD i Cc) (λk=>u.bt.length-k) 0 ⟨Si,λi hi=>by omega⟩ (Wk.to Si (by simp[BS])) ?_;rintro k ⟨hk,hall⟩;refine (mq @Ao ?_).1;by_cases hlt:k<u.bt.length
   ·have p1:decide ((k:Int)<(u.bt.length:Int))=true:=decide_eq_true Om;have ek:=Aw k Om;have g1:=GB u.bt k hlt;have g2:=GB v.bt k Om;have m1:=Pr u.bt k hlt;have m2:=Pr v.bt k Om;have hc:=N7 _ _ (hs _ m1) (hu _ m1).en (hv _ m2).en;obtain⟨x,ex⟩:∃x,u.bt.getD k Cc=x:=⟨_,rfl⟩;obtain⟨y,ey⟩:∃y,v.bt.getD k Cc=y:=⟨_,rfl⟩;rw[ex]at g1 hc;rw[ey]at g2 hc;simp only[go_sem,seval,p1,g1,g2,Ao,Int.toNat_natCast];refine (mok ?_).1;(repeat with_reducible refine Sa ?_);refine Aa.p (hc) ?_;cases hq:Hv x y with
    |true=>
     have hxy:=(J3 x y).1 hq;refine (mr hq ek ?_).1;(repeat with_reducible refine Sa ?_);exact⟨k+1,⟨hlt,λi hi=>by
      rcases Nat.lt_or_ge i k with h|h
      ·exact hall i h
      ·obtain rfl:i=k:=Om
       rw[ex,ey,hxy]⟩,Om,Wk.to Si (by simp[BS])⟩
    |false=>
     have e:=hno (by rintro rfl;rw[ex]at ey;rw[(J3 x y).2 ey]at hq;cases hq);refine (mq hq ?_).1;(repeat with_reducible refine Sa ?_)
     exact FE b15 [] e
   ·have p1:decide ((k:Int)<(u.bt.length:Int))=false:=decide_eq_false Om;have e:Mm u v=true:=by
     have hen:u.bt=v.bt:=ext_getElem hlen λi h1 h2=>by
      have:=hall i Om;simpa[h1,h2]using this
     simp only[Mm,decide_eq_true_eq];cases u;cases v;simp only at c0 hen;simp[c0,hen]
    refine (mq p1 ?_).1
    exact FE b15 [] e
  ·have q2:((u.bt.length:Int) != (v.bt.length:Int))=true:=by simp;omega
   have e:=hno (by rintro rfl;exact hlen rfl);refine (ms q0 @Ao q2 ?_).1
   exact FE b15 [] e
 ·have q0:(u.ep != v.ep)=true:=Sx c0
  have e:=hno (by rintro rfl;exact c0 rfl);refine (mq q0 ?_).1
  exact FE b15 [] e
def XR (u v:EL) (hn:u.bt.length≤1000000) (hs:∀b∈u.bt,DG b) (hu:sM u.bt) (hv:sM v.bt):Ct Tryz.prog 15 [Et u,Et v] [] (λ_=>bA (Mm u v)) [] (λ_=>[]):=(UQ u v hn hs hu hv).toCt cl cl
def V8 {base n:Int} (h:n<1∨16<n∨CV base n=false):DO base n=false:=by
 unfold DO;rcases h with h|h|h
 ·rw[decide_eq_false Om];rfl
 ·rw[decide_eq_false Om];rfl
 ·rw[h,Bool.and_false]
def g9 {base n:Int} (h1:1≤n) (h2:n≤16):DO base n=CV base n:=by
 unfold DO;rw[decide_eq_true ⟨h1,h2⟩,Bool.true_and]
def KA (base n:Int) (b0:0≤base) (b1:base<18446744073709551616):Ct prog 129 [uA base,iA n] [] (λ_=>bA (DO base n)) [] (λ_=>[]):=by
 refine Ah.toCt ?_ cl cl
 refine RM func129 rM ?_
 by_cases h1:1≤n
 ·have q1:decide (1≤n)=true:=decide_eq_true h1;by_cases h2:n≤16
  ·have q2:decide (n≤16)=true:=decide_eq_true h2;have w0:IntKind.u64.wrap n=n:=u64_in _ Om;have ey:=g9 (base:=base) h1 h2;refine (mr q1 q2 ?_).1;refine Aa.p (Hl base) ?_;by_cases h:base<4611686018427387904
   ·have e:AL base=true:=DL.2 h;have w1:IntKind.u64.wrap (base+n)=base+n:=u64_in _ Om;have ef:decide (base+n≤4611686018427387904)=DO base n:=by rw[ey];unfold CV;rw[decide_eq_true h];rfl
    refine (mt e w0 w1 ef ?_).1;exact FA rM []
   ·have e:AL base=false:=by unfold AL;exact decide_eq_false h
    have ef:DO base n=false:=by rw[ey];unfold CV;rw[decide_eq_false h];rfl
    refine (mq e ?_).1
    exact FE rM [] ef
  ·have q2:decide (n≤16)=false:=decide_eq_false h2;have ef:=V8 (base:=base) (n:=n) (.inr (.inl Om));refine (mr q1 q2 ?_).1
   exact FE rM [] ef
 ·have q1:decide (1≤n)=false:=decide_eq_false h1;have ef:=V8 (base:=base) (n:=n) (.inl Om);refine (mq q1 ?_).1
  exact FE rM [] ef
def Jc {b:Bt} (h:Ac b.ep=false∨DO b.base b.en.length=false∨1048576<(AK b.en).length∨∃i,i<b.en.length∧Cx (b.base+i) (b.en.getD i Dt)=false):BL b=false:=by
 cases hr:BL b with
 |false=>rfl
 |true=>
  exfalso;have h4:=(B2.1 hr).2.2.2;unfold BL at hr;simp only[Bool.and_eq_true,decide_eq_true_eq]at hr;have⟨⟨⟨a,c⟩,d⟩,e⟩:=hr;rcases h with h|h|h|⟨i,hi,h⟩
  ·rw[h]at a;cases a
  ·rw[h]at c;cases c
  ·omega
  ·rw[h4 i hi]at h;cases h
def XO {b:Bt} (h1:Ac b.ep=true) (h2:DO b.base b.en.length=true) (h3:(AK b.en).length≤1048576) (h4:∀i,i<b.en.length->Cx (b.base+i) (b.en.getD i Dt)=true):BL b=true:=by
 unfold BL;simp only[Bool.and_eq_true,decide_eq_true_eq,all_eq_true,mem_range];exact⟨⟨⟨h1,h2⟩,h3⟩,h4⟩
def TL (b:Bt) (hb:b.ok) (hs:DG b):Ah prog 98 [FD b] [] (bA (BL b)) []:=by
 have⟨n1,he,s1⟩:=hs;refine RM func98 b98 ?_
 refine Aa.p (AO b.ep) ?_;cases h1:Ac b.ep with
 |false=>
  have e:=Jc (b:=b) (.inl h1);refine (mq h1 ?_).1
  exact FE b98 [] e
 |true=>
  refine (mr h1 @Aq ?_).1;refine Aa.p (KA b.base b.en.length hb.b0 hb.b1) ?_;cases h2:DO b.base b.en.length with
  |false=>
   have e:=Jc (b:=b) (.inr (.inl h2));refine (mq h2 ?_).1
   exact FE b98 [] e
  |true=>
   have⟨⟨f0,f1⟩,f2,f3⟩:=Hc.1 h2;refine (mq h2 ?_).1;refine Aa.p (IT b.en n1 Om) ?_;by_cases h3:(AK b.en).length≤1048576
   ·have q3:decide (1048576<((AK b.en).length:Int))=false:=decide_eq_false Om;refine (mr q3 @Aq ?_).1;refine AA (α:=Nat) (λk=>.any::.ref 0 0::Az (Ay (.any::.any::.any::Fv b.en::iA b.en.length::iA k::Ay (Ay (Ay [.any]))))) (λ_=>[btO b]) (λk=>k≤b.en.length∧∀i,i<k->Cx (b.base+i) (b.en.getD i Dt)=true) (λk=>b.en.length-k) 0 ⟨Si,λi hi=>by omega⟩ (Wk.to Si (by simp[BS])) ?_;rintro k ⟨hk,hall⟩;refine (mq @Aq ?_).1;by_cases hlt:k<b.en.length
    ·have q1:decide ((k:Int)<(b.en.length:Int))=true:=decide_eq_true Om;have ek:=Aw k Om;have g:=EK b.en k hlt;have b0:=hb.b0;have wk:IntKind.u64.wrap (k:Int)=k:=u64_in _ Om;have wp:IntKind.u64.wrap (b.base+(k:Int))=b.base+k:=u64_in _ Om;have hm:=L4 b.en k hlt;have hc:=IU (b.base+k) (b.en.getD k Dt) (hb.en _ hm) (he _ hm) Om Om;simp only[go_sem,seval,q1,g,Aq,Int.toNat_natCast,wk,wp];refine (mok ?_).1;(repeat with_reducible refine Sa ?_);refine Aa.p (hc) ?_;cases hq:Cx (b.base+k) (b.en.getD k Dt)with
     |true=>
      refine (mq ek ?_).1;(repeat with_reducible refine Sa ?_);exact⟨k+1,⟨hlt,λi hi=>by
       rcases Nat.lt_or_ge i k with h|h
       ·exact hall i h
       ·obtain rfl:i=k:=Om
        exact hq⟩,Om,Wk.sel [0] Si rfl Si rfl (by simp[AE]) (by simp[BP,AE])⟩
     |false=>
      have e:=Jc (b:=b) (.inr (.inr (.inr ⟨k,hlt,hq⟩)));refine (mp ?_).1;(repeat with_reducible refine Sa ?_)
      exact FE b98 [] e
    ·have q1:decide ((k:Int)<(b.en.length:Int))=false:=decide_eq_false Om;have e:=XO h1 h2 h3 λi hi=>hall i Om
     refine (mq q1 ?_).1
     exact FE b98 [] e
   ·have q3:decide (1048576<((AK b.en).length:Int))=true:=decide_eq_true Om;have e:=Jc (b:=b) (.inr (.inr (.inl Om)));refine (mq q3 ?_).1
    exact FE b98 [] e
def I2 (b:Bt) (hb:b.ok) (hs:DG b):Ct Tryz.prog 98 [FD b] [] (λ_=>bA (BL b)) [] (λ_=>[]):=(TL b hb hs).toCt cl cl
def Qj (f:FuncId) (ok:Lk->Bool) (l:List Lk) (hf:∀k,k<l.length->Ct prog f [iA k,Ub (l.getD k Ei)] [] (λ_=>bA (ok (l.getD k Ei))) [] (λ_=>[])) (hn:l.length≤1000000):
 Ah prog 202 [Gg l,.fn f [] []] [] (bA (l.all ok)) []:=by
 refine RN func202 Adg ?_;refine (mq @AZ ?_).1
 refine AA (α:=Nat) (λk=>Gg l::.fn f [] []::.any::.any::.any::.any::.any::Gg l::iA l.length::iA k::Ay (Ay [.any,.any])) (λ_=>[]) (λk=>k≤l.length∧∀i,i<k->ok (l.getD i Ei)=true) (λk=>l.length-k) 0 ⟨Si,λi hi=>by omega⟩ (Wk.to Si (by simp[BS])) ?_;rintro k ⟨hk,hall⟩;refine (mp ?_).1;by_cases hlt:k<l.length
 ·have q1:decide ((k:Int)<(l.length:Int))=true:=decide_eq_true Om;have ek:=Aw k Om;have g:=D4 l k hlt;have hfx:=hf k hlt;refine (mt q1 g @AZ @Int.toNat_natCast ?_).1;(repeat with_reducible refine Sa ?_);refine Aa.p (hfx) ?_;cases hs:ok (l.getD k Ei)with
  |false=>
   have e:l.all ok=false:=by
    rw[all_eq_false];exact⟨l.getD k Ei,by simp[hlt],by rw[hs];decide⟩
   refine (mq hs ?_).1
   exact FE Adg [] e
  |true=>
   refine (mr hs ek ?_).1;exact⟨k+1,⟨hlt,λi hi=>by
    rcases Nat.lt_or_ge i k with h|h
    ·exact hall i h
    ·obtain rfl:i=k:=Om
     exact hs⟩,Om,Wk.sel [] Si rfl Si rfl Si (by simp[BP,AE])⟩
 ·have q1:decide ((k:Int)<(l.length:Int))=false:=decide_eq_false Om;have e:l.all ok=true:=by
   rw[all_eq_true];intro x hx;obtain⟨i,hi,rfl⟩:=getElem_of_mem hx;have:=hall i Om;simpa[hi]using this
  refine (mq q1 ?_).1
  exact FE Adg [] e
def SU (f:FuncId) (ok:Lk->Bool) (l:List Lk) (hf:∀k,k<l.length->Ct prog f [iA k,Ub (l.getD k Ei)] [] (λ_=>bA (ok (l.getD k Ei))) [] (λ_=>[])) (hn:l.length≤1000000):
 Ct prog 202 [Gg l,.fn f [] []] [] (λ_=>bA (l.all ok)) [] (λ_=>[]):=(Qj f ok l hf hn).toCt cl cl
def Qk (f:FuncId) (ok:En->Bool) (l:List En) (hf:∀k,k<l.length->Ct prog f [iA k,Lt (l.getD k Dt)] [] (λ_=>bA (ok (l.getD k Dt))) [] (λ_=>[])) (hn:l.length≤1000000):
 Ah prog 155 [Fv l,.fn f [] []] [] (bA (l.all ok)) []:=by
 refine RN func155 Adt ?_;refine (mq @Aq ?_).1
 refine AA (α:=Nat) (λk=>Fv l::.fn f [] []::.any::.any::.any::.any::.any::Fv l::iA l.length::iA k::Ay (Ay [.any,.any])) (λ_=>[]) (λk=>k≤l.length∧∀i,i<k->ok (l.getD i Dt)=true) (λk=>l.length-k) 0 ⟨Si,λi hi=>by omega⟩ (Wk.to Si (by simp[BS])) ?_;rintro k ⟨hk,hall⟩;refine (mp ?_).1;by_cases hlt:k<l.length
 ·have q1:decide ((k:Int)<(l.length:Int))=true:=decide_eq_true Om;have ek:=Aw k Om;have g:=EK l k hlt;have hfx:=hf k hlt;refine (mt q1 g @Aq @Int.toNat_natCast ?_).1;(repeat with_reducible refine Sa ?_);refine Aa.p (hfx) ?_;cases hs:ok (l.getD k Dt)with
  |false=>
   have e:l.all ok=false:=by
    rw[all_eq_false];exact⟨l.getD k Dt,by simp[hlt],by rw[hs];decide⟩
   refine (mq hs ?_).1
   exact FE Adt [] e
  |true=>
   refine (mr hs ek ?_).1;exact⟨k+1,⟨hlt,λi hi=>by
    rcases Nat.lt_or_ge i k with h|h
    ·exact hall i h
    ·obtain rfl:i=k:=Om
     exact hs⟩,Om,Wk.sel [] Si rfl Si rfl Si (by simp[BP,AE])⟩
 ·have q1:decide ((k:Int)<(l.length:Int))=false:=decide_eq_false Om;have e:l.all ok=true:=by
   rw[all_eq_true];intro x hx;obtain⟨i,hi,rfl⟩:=getElem_of_mem hx;have:=hall i Om;simpa[hi]using this
  refine (mq q1 ?_).1
  exact FE Adt [] e
def SV (f:FuncId) (ok:En->Bool) (l:List En) (hf:∀k,k<l.length->Ct prog f [iA k,Lt (l.getD k Dt)] [] (λ_=>bA (ok (l.getD k Dt))) [] (λ_=>[])) (hn:l.length≤1000000):
 Ct prog 155 [Fv l,.fn f [] []] [] (λ_=>bA (l.all ok)) [] (λ_=>[]):=(Qk f ok l hf hn).toCt cl cl
def OG (k:Int) (x:Lk):Ct prog 203 [iA k,Ub x] [] (λ_=>bA (decide (x.bk.length≤1))) [] (λ_=>[]):=by
 refine Ah.toCt ?_ cl cl
 have e:decide ((x.bk.length:Int)≤1)=decide (x.bk.length≤1):=by rw[Bool.eq_iff_iff,decide_eq_true_eq,decide_eq_true_eq];omega
 refine RN func203 Agv ?_;refine (mr @Ab e ?_).1
 exact FA Agv []
def JQ (l:List Lk) (hn:l.length≤1000000):Ct prog 152 [Gg l] [] (λ_=>bA (C6 l)) [] (λ_=>[]):=by
 refine Ah.toCt ?_ cl cl
 have e:(l.all λx=>decide (x.bk.length≤1))=C6 l:=rfl;refine RM func152 Ahe ?_
 refine Aa.p (SU 203 (λx=>decide (x.bk.length≤1)) l (λk hk=>OG _ _) hn) (mq e ?_).1;exact FA Ahe []
def M5 (k:Int) (e:En) (hn:e.lk.length≤1000000):Ct prog 156 [iA k,Lt e] [] (λ_=>bA (C6 e.lk)) [] (λ_=>[]):=by
 refine Ah.toCt ?_ cl cl
 refine RM func156 Ahd ?_
 refine Cp (JQ e.lk hn) ?_;exact FA Ahd []
def JD (b:Bt) (hn:b.en.length≤1000000) (b0:0≤b.base) (b1:b.base+b.en.length<18446744073709551616):Ct prog 114 [FD b] [] (λ_=>uA (b.base+b.en.length)) [] (λ_=>[]):=by
 refine Ah.toCt ?_ cl cl
 have w0:IntKind.u64.wrap (b.en.length:Int)=b.en.length:=u64_in _ Om;have w1:IntKind.u64.wrap (b.base+(b.en.length:Int))=b.base+b.en.length:=u64_in _ Om;refine RN func114 z8 ?_;refine (ms @Aq w0 w1 ?_).1
 exact FA z8 []
def Xd (acc:List Bt):Prop:=0<acc.length->(Bf acc).en.length≤1000000∧0≤(Bf acc).base∧(Bf acc).base+(Bf acc).en.length<18446744073709551616
def M3 (ep:Int) (acc:List Bt) (b:Bt) (hn:acc.length≤1000000) (he:Xd acc):Ah prog 81 [uA ep,GN acc,FD b] [] (bA (JH ep acc b)) []:=by
 refine RN func81 b81 ?_;refine (mq @Ao ?_).1
 by_cases h1:b.ep≤ep
 ·have q1:decide (b.ep≤ep)=true:=decide_eq_true h1;by_cases h2:acc.length=0
  ·have q2:((acc.length:Int)==0)=true:=by simp;exact eq_nil_of_length_eq_zero h2
   have e:JH ep acc b=true:=by unfold JH;rw[q1,decide_eq_true h2];rfl
   refine (mr q1 q2 ?_).1
   exact FE b81 [] e
  ·have q2:((acc.length:Int)==0)=false:=by
    rw[Bool.eq_false_iff];intro hh;rw[beq_iff_eq]at hh;omega
   have⟨e1,e2,e3⟩:=he Om;have ep1:=K9 acc.length Om Om;have g:(D7 acc).getD (acc.length-1) .any=FD (Bf acc):=GB acc (acc.length-1) Om;have ey:JH ep acc b=(decide ((Bf acc).ep≤b.ep)&&decide ((Bf acc).base+(Bf acc).en.length≤b.base)):=by unfold JH;rw[q1,decide_eq_false h2];rfl
   have hE:=JD (Bf acc) e1 e2 e3;obtain⟨L,hL⟩:∃L,Bf acc=L:=⟨_,rfl⟩;rw[hL]at g ey hE;by_cases h3:L.ep≤b.ep
   ·have q3:decide (L.ep≤b.ep)=true:=decide_eq_true h3;rw[q3,Bool.true_and]at ey;simp only[go_sem,seval,q1,q2,ep1,g,Ao,Int.toNat_natCast,q3];refine (mok ?_).1;(repeat with_reducible refine Sa ?_);refine Aa.p (hE) ?_;simp only[go_sem,seval,←ey];refine (mok ?_).1;exact FA b81 []
   ·have q3:decide (L.ep≤b.ep)=false:=decide_eq_false h3;rw[q3,Bool.false_and]at ey;simp only[go_sem,seval,q1,q2,ep1,g,Ao,Int.toNat_natCast,q3];refine (mok ?_).1;(repeat with_reducible refine Sa ?_)
    exact FE b81 [] ey
 ·have q1:decide (b.ep≤ep)=false:=decide_eq_false h1;have e:JH ep acc b=false:=by unfold JH;rw[q1];rfl
  refine (mq q1 ?_).1
  exact FE b81 [] e
def II (ep:Int) (acc:List Bt) (b:Bt) (hn:acc.length≤1000000) (he:Xd acc):Ct Tryz.prog 81 [uA ep,GN acc,FD b] [] (λ_=>bA (JH ep acc b)) [] (λ_=>[]):=(M3 ep acc b hn he).toCt cl cl
def o8 (l:List Hh) (x:Hh):E_ (LW l)++[Lt ⟨x.1,[]⟩]=E_ (LW (l++[x])):=by simp[LW,E_]
def TK (s:RS) (base:Int) (N:Nat) (b0:0≤base) (bN:base+N≤4611686018427387904) (hs:Ak s) (hn:s.l.length*32≤100000000000000) (hN:N≤1000):
 Ah prog 130 [.ref 0 0,uA base,iA N] [AN s] (.tup [Fv (LW ((C_ base).many N s []).2),Bd .i64 (Ny ((C_ base).many N s []).2)]) [AN (((C_ base).many N s []).1)]:=by
 have hF:=S9 b0;refine RM func130 Ad3 ?_
 refine AA (α:=RS×List Hh) (λa=>.ref 0 0::uA base::.any::.any::.any::.any::.any::.any::.sl (.row 1) 2 (E_ (LW a.2))::.sl (.row 2) 1 (A0 .i64 (Ny a.2))::iA (1048576-Xf a.2)::.any::.any::.any::iA N::iA a.2.length::Az (Ay (Ay (Ay [.any])))) (λa=>[AN a.1,.row 2 a.2.length,.row 1 a.2.length]) ((C_ base).On s N) (λa=>N-a.2.length) (s,[]) (DH.On.start hs N)
  (((Wk.row 8 2 rfl (.inr rfl) De).trans (Wk.row 9 1 rfl (.inr rfl) De)).trans (Wk.to Si (by simp[BS,LW,Ny,E_,Xf,A0]))) ?_
 rintro⟨t,acc⟩ ho;have h1:=ho.ok;have h2:=ho.l;have h6:=ho.res;have hwf:=ho.wf;have hle:=ho.le;simp only at h1 h2 h6 hwf hle;have hnn:=NO hwf;refine (mp ?_).1;by_cases hlt:acc.length<N
 ·have q0:decide ((acc.length:Int)<(N:Int))=true:=by simp;omega
  have ei:=Aw acc.length Om;have hff:=S_ (base:=base) (s:=t) (acc:=acc) Om;have eu:IntKind.u64.wrap (acc.length:Int)=acc.length:=u64_in _ Om;have eb:IntKind.u64.wrap (base+acc.length)=base+acc.length:=u64_in _ Om;have hcall:=Pb t (base+acc.length) (1048576-Xf acc) 0 Om Om Om h1 (by rw[h2];exact hn);rw[←hff]at hcall;have hnx:((C_ base).f t acc).1.code=0->(C_ base).On s N (((C_ base).f t acc).1,acc++[((C_ base).f t acc).2]):=λhc=>ho.next hF hlt hc
  have hnb:¬((C_ base).f t acc).1.code=0->(C_ base).many N s []=(((C_ base).f t acc).1,[]):=λhc=>by
   have:=DX (F:=C_ base) (s:=t) hlt hc;rw[h6]at this;exact this
  have hrd:=hF.read t acc h1 hwf;obtain⟨D,hD⟩:∃D,(C_ base).f t acc=D:=⟨_,rfl⟩;rw[hD]at hcall hnx hnb hrd;refine (ms q0 eu eb ?_).1;refine Aa.u1 (hcall) rfl (mp ?_).1;refine Aa.r1 (Ae D.1 0) rfl ?_;by_cases hc:D.1.code=0
  ·have hx:=(hrd hc).2.1;have es:IntKind.i64.wrap (1048576-Xf acc-D.2.2)=1048576-Xf (acc++[D.2]):=by
    have:=hx.sum;have:=hx.sz;rw[lA,i64_in _ Om];omega
   simp only[go_sem,seval,AR hc,es,ei,Aq,F_,Ab,OZ];refine (mok ?_).1;(repeat with_reducible refine Sa ?_);refine⟨(D.1,acc++[D.2]),hnx hc,by simp;omega,(Wk.wa 8 (y:=.sl (.row 1) 2 (E_ (LW (acc++[D.2])))) rfl ?_).trans ((Wk.wa 9 (y:=.sl (.row 2) 1 (A0 .i64 (Ny (acc++[D.2])))) rfl ?_).trans (Wk.sel [0,1,2] Si rfl Si rfl (by simp[An]) (by simp[BP,AE,AH])))⟩
   ·rw[←o8];exact Wa.slS (Co.refl _)
   ·have e:A0 .i64 (Ny (acc++[D.2]))=A0 .i64 (Ny acc)++[iA D.2.2]:=by simp[Ny,A0]
    rw[e];exact Wa.slS (Co.refl _)
  ·have hm:=hnb hc;refine (mq (Au hc) ?_).1;(refine A6.nilk 6 2 rfl ?_;simp only[set_cons_zero,set_cons_succ]);(refine A6.untag 6 rfl ?_;simp only[CS,set_cons_zero,set_cons_succ];refine A6.untag 7 rfl ?_;simp only[CS,set_cons_zero,set_cons_succ])
   (refine FB Ad3 [0] ?_ ?_<;>first|with_reducible rfl|(simp[hm,LW,Ny,E_];done)|rfl)
 ·have q0:decide ((acc.length:Int)<(N:Int))=false:=by simp;omega
  have el:acc.length=N:=Om
  have hm:(C_ base).many N s []=(t,acc):=by rw[←h6,el];simp[DH.many]
  refine (mq q0 ?_).1;(refine A6.untag 6 rfl ?_;simp only[CS,set_cons_zero,set_cons_succ];refine A6.untag 7 rfl ?_;simp only[CS,set_cons_zero,set_cons_succ])
  exact FE Ad3 [0] hm
def MP (s:RS) (base:Int) (N:Nat) (i:Nat) (b0:0≤base) (bN:base+N≤4611686018427387904) (hs:Ak s) (hn:s.l.length*32≤100000000000000) (hN:N≤1000):
 Ct prog 130 [.ref i 0,uA base,iA N] [(i,AN s)] (λ_=>.tup [Fv (LW ((C_ base).many N s []).2),Bd .i64 (Ny ((C_ base).many N s []).2)]) [(i,AN (((C_ base).many N s []).1))] (λ_=>[]):=Ct.u1 (TK s base N b0 bN hs hn hN) i cl (λρ=>An ρ _) (λρ=>An ρ _) (rdr_dead _) cl
def Aei (s:RS) (hs:Ak s) (hl:s.l.length≤1000000):Ah prog 56 [.ref 1 0] [AN s,.cells [.ref 0 0]] (Bd .u8 s.blk.2) [AN s.blk.1,.cells [.ref 0 0]]:=by
 refine RM func56 b56 ?_
 refine Cu (ZC s 0 hs hl) rfl ?_;exact FA b56 [0,1]
def WX (s:RS) (hs:Ak s) (hl:s.l.length≤1000000) (i j:Nat) (h:i≠j):Ct prog 56 [.ref j 0] [(i,AN s),(j,.cells [.ref i 0])] (λ_=>Bd .u8 s.blk.2) [(i,AN s.blk.1),(j,.cells [.ref i 0])] (λ_=>[]):=
 Ct.u2 (Aei s hs hl) i j h (λN=>by simp[AH]) (λN=>An _ _) (λN=>by simp[AH]) (λN=>An _ _) (λN=>by simp[AH]) (rdr_dead _) Si (λρ=>by simp[AM])
structure Blk (f:FuncId) (blk:RS->RS×List Int):Prop where
 ct:∀(s:RS),Ak s->s.l.length≤1000000->Ct prog f [.ref 1 0] [(0,AN s),(1,.cells [.ref 0 0])] (λ_=>Bd .u8 (blk s).2) [(0,AN (blk s).1),(1,.cells [.ref 0 0])] (λ_=>[])
 keep:∀(s:RS),Ak s->Ak (blk s).1∧(blk s).1.l=s.l∧(blk s).2.length≤1048576
def WW (s:RS) (F:FuncId) (blk:RS->RS×List Int) (hB:Blk F blk) (hs:Ak s) (hl:s.l.length≤1000000):
 Ah prog 55 [.ref 0 0,.fn F [] [.ref 1 0]] [AN s,.cells [.ref 0 0]] (FD (s.btch blk).2) [AN (s.btch blk).1,.cells [.ref 0 0]]:=by
 have⟨a1,a2⟩:=Bc hs Ac;have⟨b1,b2⟩:=Bc a1 AL;have⟨c1,c2⟩:=b1.int 16;have⟨d1,d2⟩:=FT hs;have⟨e1,e2⟩:=Ho hs;have⟨i1,i2,i3,i4⟩:=NC hs;have⟨u,hu⟩:=Ex ((s.epo Ac).1);have⟨ep,hep⟩:=Ex ((s.epo Ac).2);have⟨v,hv⟩:=Ex ((u.epo AL).1);have⟨ba,hba⟩:=Ex ((u.epo AL).2);have⟨w,hw⟩:=Ex ((v.int 16).1);have⟨n,hn⟩:=Ex ((v.int 16).2);have eh:s.bthd=(if DO ba n=true then w else w.fail 3 v.at_,(ep,(ba,n))):=by unfold RS.bthd;rw[hu,hep,hv,hba,hw,hn]
 rw[hu]at a1 a2;rw[hu,hv]at b1 b2;rw[hu,hv,hw]at c1 c2;rw[eh]at i1 i2 i3 i4;simp only[]at i1 i2 i3 i4;obtain⟨N,rfl⟩:∃N:Nat,n=(N:Int):=⟨n.toNat,Om⟩;have⟨H,hH⟩:=Ex ((if DO ba N=true then w else w.fail 3 v.at_));rw[hH]at eh;rw[eh]at d1 d2;simp only[]at d1 d2;have ef:(if DO ba N=true then w else w.fail 3 v.at_)=H:=hH;refine RM func55 kD ?_
 refine Aa.u1 (EY s 0 hs) rfl (mr hu hep ?_).1;refine Aa.u1 (E9 u 0 a1) rfl (mr hv hba ?_).1;refine Cr (AF v 0) rfl ?_;refine Aa.u1 (AS v 16 0 De b1.ok b1.bys) rfl (mr hw hn ?_).1;refine Cp (KA ba N i1 Om) ?_;cases hf:DO ba N with
 |false=>
  have e1:H=w.fail 3 v.at_:=by rw[←hH,hf];rfl
  have hc:¬H.code=0:=by rw[e1];unfold RS.fail;split;simp[BB];assumption
  have er:s.btch blk=(H,Cc):=by unfold RS.btch;rw[eh];simp only[];rw[if_neg hc]
  refine (mp ?_).1;refine Aa.u1 (Aj w 3 v.at_ 0) rfl ?_;simp only[go_sem,seval,←e1];refine (mok ?_).1;refine Aa.r1 (Ae H 0) rfl (mq (Au hc) ?_).1;refine WO 2 [uA 0,uA 0,Fv []] ?_
  exact FK kD [0,1] (by simp[er,Cc,E_])
 |true=>
  have e1:H=w:=by rw[←hH,hf];rfl
  subst e1;refine (mp ?_).1;refine Aa.r1 (Ae H 0) rfl ?_;by_cases hc:H.code=0
  ·have hfi:=Hc.1 hf;have⟨Q,hQ⟩:=Ex ((C_ ba).many N H []);have eq:s.bthe=Q:=by unfold RS.bthe;rw[eh];simp only[];rw[Int.toNat_natCast];exact hQ
   rw[eq]at e1 e2;have⟨D,hD⟩:=Ex (blk Q.1);have⟨g1,g2,g3⟩:=hB.keep Q.1 e1;have hct:=hB.ct Q.1 e1 (by rw[e2];exact hl);rw[hD]at g1 g2 g3 hct;have⟨E,hE⟩:=Ex (FC (LW Q.2) (Ny Q.2) D.2);have hsm:(∀e∈LW Q.2,e.lk.length≤1000000∧∀x∈e.lk,x.bk.length≤1000000)∧(∀n∈Ny Q.2,n<9223372036854775808)∧(LW Q.2).length≤1000000:=by
    have hr:=S8 i1 d1 hc N;rw[hQ]at hr;have hs2:=LV hr.1;exact⟨hs2.1,λn hn=>by have:=hs2.2 n hn;omega,by rw[F_];omega⟩
   have eb:s.btch blk=if(if E.2=true then D.1 else D.1.fail 3 Q.1.at_).code=0 then((if E.2=true then D.1 else D.1.fail 3 Q.1.at_),⟨ep,ba,E.1⟩)else((if E.2=true then D.1 else D.1.fail 3 Q.1.at_),Cc):=by
    unfold RS.btch RS.btfi;rw[eh];simp only[];rw[if_pos hc,eq,hD,hE]
   refine (mq (AR hc) ?_).1;refine Aa.u1 (MP H ba N 0 i1 Om d1 (by rw[d2];omega) Om) rfl ?_;refine (mq hQ ?_).1;refine Cr (AF Q.1 0) rfl ?_;refine Aa.u2 (hct) rfl rfl (mp ?_).1;refine Aa.p (Pe (LW Q.2) (Ny Q.2) D.2 hsm.2.2 Om hsm.1 hsm.2.1) (mq hE ?_).1;cases hdl:E.2 with
   |true=>
    rw[hdl]at eb;simp only[if_true]at eb;refine (mp ?_).1;refine Aa.r1 (Ae D.1 0) rfl ?_;by_cases hd:D.1.code=0
    ·rw[if_pos hd]at eb;refine (mq (AR hd) ?_).1
     exact FE kD [0,1] eb
    ·rw[if_neg hd]at eb;refine (mq (Au hd) ?_).1;refine WO 2 [uA 0,uA 0,Fv []] ?_
     exact FK kD [0,1] (by simp[eb,Cc,E_])
   |false=>
    rw[hdl]at eb;simp only[Bool.false_eq_true,if_false]at eb;have hd:¬(D.1.fail 3 Q.1.at_).code=0:=by unfold RS.fail;split;simp[BB];assumption
    rw[if_neg hd]at eb;refine (mp ?_).1;refine Cu (Aj D.1 3 Q.1.at_ 0) rfl ?_;refine Aa.r1 (Ae (D.1.fail 3 Q.1.at_) 0) rfl (mq (Au hd) ?_).1;refine WO 2 [uA 0,uA 0,Fv []] ?_
    exact FK kD [0,1] (by simp[eb,Cc,E_])
  ·have er:s.btch blk=(H,Cc):=by unfold RS.btch;rw[eh];simp only[];rw[if_neg hc]
   refine (mq (Au hc) ?_).1;refine WO 2 [uA 0,uA 0,Fv []] ?_
   exact FK kD [0,1] (by simp[er,Cc,E_])
def qX:Blk 56 RS.blk:=⟨λs hs hl=>WX s hs hl 0 1 De,λs hs=>⟨(CE hs).1,(CE hs).2,bI hs⟩⟩
def WY (s:RS) (hs:Ak s) (hl:s.l.length≤1000000):Ah prog 22 [.ref 0 0] [AN s] (FD (s.btch RS.blk).2) [AN ((s.btch RS.blk).1)]:=by
 have hct:Ct prog 55 [.ref 0 0,.fn 56 [] [.ref 1 0]] [(0,AN s),(1,.cells [.ref 0 0])] (λ_=>FD (s.btch RS.blk).2) [(0,AN (s.btch RS.blk).1),(1,.cells [.ref 0 0])] (λ_=>[]):=
  Ct.u2 (WW s _ _ qX hs hl) 0 1 De (λN=>by simp[AH]) (λN=>An _ _) (λN=>by simp[AH]) (λN=>An _ _) (λN=>by simp[AH]) (rdr_dead _) Si (λρ=>by simp[FD])
 refine RM func22 b22 ?_
 refine Aa.u2 (hct) rfl rfl (mp ?_).1;exact FA b22 [0]
def KB (s:RS) (i:Nat) (hs:Ak s) (hl:s.l.length≤1000000):Ct prog 22 [.ref i 0] [(i,AN s)] (λ_=>FD (s.btch RS.blk).2) [(i,AN (s.btch RS.blk).1)] (λ_=>[]):=
 Ct.u1 (WY s hs hl) i CN (λρ=>An ρ _) (λρ=>An ρ _) (rdr_dead s) (λρ=>by simp[FD])
abbrev kC (m:Mk):AV:=.agg [uA m.pos,iA m.cnt,iA m.at_]
def H9 (l:List Mk):List AV:=l.map kC
abbrev Ik (l:List Mk):AV:=.sl .none 3 (H9 l)
@[simp] theorem HC (ρ:Nat->Nat) (l:List Mk):(H9 l).map (λx=>x.ren ρ)=H9 l:=by simp[H9,AE]
@[simp] theorem ren_ints_s (ρ:Nat->Nat) (k:IntKind) (l:List Int):(A0 k l).map (λx=>x.ren ρ)=A0 k l:=AM ρ k l
def Ar (l:List Mk):(H9 l).length=l.length:=by simp[H9]
def Nn:H9 []=[]:=(rfl)
def nX (l:List Mk) (m:Mk):H9 l++[kC m]=H9 (l++[m]):=by simp[H9]
def Vn (l:List Mk) (k:Nat) (h:k<l.length):(H9 l).getD k .any=kC (l.getD k Dq):=by simp[H9,h]
def HI (l:List Mk) (k:Nat) (h:k<l.length):(H9 l).getD (k:Int).toNat .any=kC (l.getD k Dq):=by
 rw[Int.toNat_natCast];exact Vn l k h
def Abt (l:List Mk) (k:Nat) (h:k<l.length):l.getD k Dq∈l:=by simp[h]
def No (l:List Mk) (k:Nat) (h:k<l.length):l.take (k+1)=l.take k++[l.getD k Dq]:=by
 rw[take_succ_eq_append_getElem h];simp[h]
def j8 (l:List Mk):Prop:=∀m∈l,m.ok
def Dj (m:Mk) (h0:0≤m.pos) (h1:0≤m.cnt) (h2:m.pos+m.cnt<18446744073709551616):Ct prog 111 [kC m] [] (λ_=>uA m.fin) [] (λ_=>[]):=by
 refine Ah.toCt ?_ cl cl
 have e1:IntKind.u64.wrap m.cnt=m.cnt:=u64_in _ Om;have e2:IntKind.u64.wrap (m.pos+m.cnt)=m.fin:=u64_in _ Om;refine RN func111 Ahv ?_;refine (mr e1 e2 ?_).1
 exact FA Ahv []
def OR (m:Mk) (pos at_:Int) (hm:m.ok):Ct prog 183 [kC m,uA pos,iA at_] [] (λ_=>bA (decide (m.fits pos at_))) [] (λ_=>[]):=by
 refine Ah.toCt ?_ cl cl
 have⟨m1,m2,m3,m4,m5,m6⟩:=hm;refine RM func183 TO ?_
 by_cases c0:1≤m.cnt
 case neg=>
  have q0:decide (1≤m.cnt)=false:=Sx c0
  have hno:decide (m.fits pos at_)=false:=by(rw[decide_eq_false_iff_not];rintro⟨f1,f2,f3,f4,f5,f6⟩;first|(simp only[Mk.fin]at*;omega)|omega)
  refine (mq q0 ?_).1
  exact FE TO [] hno
 have q0:decide (1≤m.cnt)=true:=Sx c0
 by_cases c1:m.cnt≤16
 case neg=>
  have q1:decide (m.cnt≤16)=false:=Sx c1
  have hno:decide (m.fits pos at_)=false:=by(rw[decide_eq_false_iff_not];rintro⟨f1,f2,f3,f4,f5,f6⟩;first|(simp only[Mk.fin]at*;omega)|omega)
  refine (mr q0 q1 ?_).1
  exact FE TO [] hno
 have q1:decide (m.cnt≤16)=true:=Sx c1
 by_cases c2:pos≤m.pos
 case neg=>
  have q2:decide (pos≤m.pos)=false:=Sx c2
  have hno:decide (m.fits pos at_)=false:=by(rw[decide_eq_false_iff_not];rintro⟨f1,f2,f3,f4,f5,f6⟩;first|(simp only[Mk.fin]at*;omega)|omega)
  refine (ms q0 q1 q2 ?_).1
  exact FE TO [] hno
 have q2:decide (pos≤m.pos)=true:=Sx c2
 by_cases c3:m.pos<4611686018427387904
 case neg=>
  have q3:decide (m.pos<4611686018427387904)=false:=Sx c3
  have hno:decide (m.fits pos at_)=false:=by(rw[decide_eq_false_iff_not];rintro⟨f1,f2,f3,f4,f5,f6⟩;first|(simp only[Mk.fin]at*;omega)|omega)
  refine (mt q0 q1 q2 q3 ?_).1
  exact FE TO [] hno
 have q3:decide (m.pos<4611686018427387904)=true:=Sx c3
 by_cases c4:m.fin≤4611686018427387904
 case neg=>
  have q4:decide (m.fin≤4611686018427387904)=false:=Sx c4
  have hno:decide (m.fits pos at_)=false:=by(rw[decide_eq_false_iff_not];rintro⟨f1,f2,f3,f4,f5,f6⟩;first|(simp only[Mk.fin]at*;omega)|omega)
  refine (mt q0 q1 q2 q3 ?_).1;refine Aa.p (Dj m m1 Om Om) (mq q4 ?_).1
  exact FE TO [] hno
 have q4:decide (m.fin≤4611686018427387904)=true:=Sx c4
 by_cases c5:at_<m.at_
 case neg=>
  have q5:decide (at_<m.at_)=false:=Sx c5
  have hno:decide (m.fits pos at_)=false:=by(rw[decide_eq_false_iff_not];rintro⟨f1,f2,f3,f4,f5,f6⟩;first|(simp only[Mk.fin]at*;omega)|omega)
  refine (mt q0 q1 q2 q3 ?_).1;refine Aa.p (Dj m m1 Om Om) (mr q4 q5 ?_).1
  exact FE TO [] hno
 have q5:decide (at_<m.at_)=true:=Sx c5
 by_cases c6:m.at_≤1099511627775
 case neg=>
  have q6:decide (m.at_≤1099511627775)=false:=Sx c6
  have hno:decide (m.fits pos at_)=false:=by(rw[decide_eq_false_iff_not];rintro⟨f1,f2,f3,f4,f5,f6⟩;first|(simp only[Mk.fin]at*;omega)|omega)
  refine (mt q0 q1 q2 q3 ?_).1;refine Aa.p (Dj m m1 Om Om) (ms q4 q5 q6 ?_).1
  exact FE TO [] hno
 have q6:decide (m.at_≤1099511627775)=true:=Sx c6
 have hyes:decide (m.fits pos at_)=true:=by rw[decide_eq_true_eq];simp only[Mk.fin]at*;exact⟨Om,Om,Om,Om,Om,Om⟩
 refine (mt q0 q1 q2 q3 ?_).1;refine Aa.p (Dj m m1 Om Om) (ms q4 q5 q6 ?_).1
 exact FE TO [] hyes
def aX {m:Mk} {pos at_:Int} (h:m.fits pos at_) (h0:0≤pos):0≤m.pos∧1≤m.cnt∧m.cnt≤16∧m.pos+m.cnt≤4611686018427387904:=by
 have⟨a,b,c,d,e,f⟩:=h;omega
def S6 (l:List Mk) (hl:j8 l) (hn:l.length≤140737488355328):Ah prog 110 [Ik l] [] (bA (A5 l)) []:=by
 refine RN func110 Ad8 ?_;refine (mq @Ar ?_).1
 refine AA (α:=Nat) (λk=>Ik l::.any::.any::uA (AJ (l.take k)).fin::iA (AJ (l.take k)).at_::.any::.any::Ik l::iA l.length::iA k::Az []) (λ_=>[]) (λk=>k≤l.length∧Wf IG [] (l.take k)) (λk=>l.length-k) 0 ⟨Si,trivial⟩ (Wk.to Si (by simp[BS,AJ,Dq,Mk.fin])) ?_;rintro k ⟨hk,hw⟩;have hlast:=FR hw;refine (mp ?_).1;refine Av (λh=>?_) (λh=>?_)
 ·have hlt:k<l.length:=Sx h
  have g:=HI l k hlt;have hx:=hl _ (Abt l k hlt);have ei:=Aw k Om;obtain⟨x,hxe⟩:∃x,l.getD k Dq=x:=⟨_,rfl⟩;have ht:=No l k hlt;rw[hxe]at g hx ht;refine (mr g @Ar ?_).1;(repeat with_reducible refine Sa ?_);refine Aa.p (OR x _ _ hx) ?_;by_cases hf:x.fits (AJ (l.take k)).fin (AJ (l.take k)).at_
  ·have q:decide (x.fits (AJ (l.take k)).fin (AJ (l.take k)).at_)=true:=Sx hf
   have⟨f1,f2,f3,f4⟩:=aX hf hlast.1;refine (mq q ?_).1;refine Aa.p (Dj x f1 Om Om) (mq ei ?_).1;refine⟨k+1,⟨hlt,?_⟩,Om,Wk.sel [] Si rfl Si rfl Si ?_⟩
   ·rw[ht];exact CO.2 ⟨hw,(show IG ([]++List.take k l) x from hf)⟩
   ·rw[ht];simp[BP,AE,ER]
  ·have q:decide (x.fits (AJ (l.take k)).fin (AJ (l.take k)).at_)=false:=Sx hf
   have hno:A5 l=false:=dU hlt (by rw[hxe];exact hf);refine (mq q ?_).1
   exact FE Ad8 [] hno
 ·have ek:k=l.length:=by simp at h;omega
  subst ek;rw[take_length]at hw;have hr:A5 l=decide ((l.length:Int)≤16):=by
   rw[Bool.eq_iff_iff,BY,decide_eq_true_eq];exact⟨λh=>by have:=h.2;omega,λh=>⟨hw,Om⟩⟩
  refine (mq @Ar ?_).1
  exact FE Ad8 [] hr
def Fk (l:List Mk) (hl:j8 l) (hn:l.length≤140737488355328):Ct Tryz.prog 110 [Ik l] [] (λ_=>bA (A5 l)) [] (λ_=>[]):=(S6 l hl hn).toCt cl cl
def Fh (l m:List Mk):Bool:=decide (l=m)
def Aap (x y:Mk):((x.pos==y.pos)&&((x.cnt==y.cnt)&&(x.at_==y.at_)))=decide (x=y):=by
 rw[Bool.eq_iff_iff];cases x;cases y;simp
def NT (a b:List Mk) (ha:a.length≤140737488355328):Ah prog 222 [Ik a,Ik b] [] (bA (Fh a b)) []:=by
 refine RN func222 yX ?_;refine (mq @Ar ?_).1
 refine Av (λh=>?_) (λh=>?_)
 ·have hne:Fh a b=false:=by unfold Fh;simp at h ⊢;intro e;subst e;exact h rfl
  refine (mp ?_).1
  exact FE yX [] hne
 ·have hlen:a.length=b.length:=by have h':(a.length:Int)=b.length:=Sx h
                                  omega
  refine (mq @Ar ?_).1;refine AA (α:=Nat) (λk=>Ik a::Ik b::Ay (Ay (.any::.any::iA a.length::iA k::Ay (Ay (Ay []))))) (λ_=>[]) (λk=>k≤a.length∧a.take k=b.take k) (λk=>a.length-k) 0 ⟨Si,Si⟩ (Wk.to Si (by simp[BS])) ?_;rintro k ⟨hk,ht⟩;refine (mp ?_).1;refine Av (λh=>?_) (λh=>?_)
  ·have hlt:k<a.length:=Sx h
   have g1:=HI a k hlt;have g2:=HI b k Om;have ei:=Aw k Om;obtain⟨x,hx⟩:∃x,a.getD k Dq=x:=⟨_,rfl⟩;obtain⟨y,hy⟩:∃y,b.getD k Dq=y:=⟨_,rfl⟩;rw[hx]at g1;rw[hy]at g2;refine (ms g1 g2 @Ar ?_).1;(repeat with_reducible refine Sa ?_);by_cases he:x=y
   ·have q:decide (x=y)=true:=Sx he
    refine (ms @Aap q ei ?_).1;refine⟨k+1,⟨hlt,?_⟩,Om,Wk.to Si (by simp[BS])⟩;rw[No a k hlt,No b k Om,ht,hx,hy,he]
   ·have q:decide (x=y)=false:=Sx he
    have hne:Fh a b=false:=by unfold Fh;simp only[decide_eq_false_iff_not];rintro rfl;exact he (hx.symm.trans hy)
    refine (mr @Aap q ?_).1
    exact FE yX [] hne
  ·have hk':k=a.length:=by simp at h;omega
   have he:Fh a b=true:=by
    unfold Fh;rw[hk',take_length,take_of_length_le Om]at ht;simpa using ht
   refine (mp ?_).1
   exact FE yX [] he
def PT (a b:List Mk) (ha:a.length≤140737488355328):Ct Tryz.prog 222 [Ik a,Ik b] [] (λ_=>bA (Fh a b)) [] (λ_=>[]):=(NT a b ha).toCt cl cl
def OS (a b:List Mk) (ha:a.length≤140737488355328):Ct prog 192 [Ik a,Ik b] [] (λ_=>bA (Fh a b)) [] (λ_=>[]):=by
 refine Ah.toCt ?_ cl cl
 refine RM func192 Ag0 ?_
 refine Cp (PT a b ha) ?_;exact FA Ag0 []
def WS.marks (s:WS) (l:List Mk):WS:=if A5 l=true then(s.put (vb l.length)).puts (Bo G6 [] l)else s.fail 3
def Yi (s:WS) (l:List Mk) (k:Nat) (x:Mk) (ht:l.take (k+1)=l.take k++[x]):((((s.puts (Bo G6 [] (l.take k))).put (vb (x.pos-(AJ (l.take k)).fin))).put (vb x.cnt)).put (vb (x.at_-(AJ (l.take k)).at_-1)))=s.puts (Bo G6 [] (l.take (k+1))):=by
 rw[ht,Fsq,U7];simp[G6,WS.puts]
def YL (s:WS) (l:List Mk) (hs:s.fine) (hl:j8 l) (hn:l.length≤140737488355328):Ah prog 177 [.ref 0 0,Ik l] [B0 1 s,AX s] (.tup []) [B0 1 (s.marks l),AX (s.marks l)]:=by
 have e:=FM l Om;refine RM func177 Adn ?_
 refine Aa.p (Fk l hl hn) ?_;cases hf:A5 l
 ·refine (mq hf ?_).1;refine Aa.u2 (Cj s 3 0 1 De) rfl rfl (mp ?_).1
  (refine FB Adn [0,1] ?_ ?_<;>first|with_reducible rfl|(simp[WS.marks,hf];done)|rfl)
 ·have⟨hwf,h16⟩:=BY.1 hf;refine (ms hf @Ar e ?_).1;refine Aa.u2 (Br s l.length 0 1 De Om Om hs.ok (hs.room _)) rfl rfl (mq @Ar ?_).1;refine AA (α:=Nat) (λk=>.ref 0 0::.any::.any::.any::uA (AJ (l.take k)).fin::iA (AJ (l.take k)).at_::Ay (Ay (Ay (Ik l::iA l.length::iA k::Az (Ay (Ay [.any,.any,.any])))))) (λk=>[B0 1 ((s.put (vb l.length)).puts (Bo G6 [] (l.take k))),AX ((s.put (vb l.length)).puts (Bo G6 [] (l.take k)))]) (λk=>k≤l.length) (λk=>l.length-k) 0 Si (Wk.to (by simp[WS.puts,Bo]) (by simp[BS,AJ,Dq,Mk.fin])) ?_;intro k hk;refine (mp ?_).1;refine Av (λh=>?_) (λh=>?_)
  ·have hlt:k<l.length:=Sx h
   have g:=HI l k hlt;have ei:=Aw k Om;obtain⟨x,hxe⟩:∃x,l.getD k Dq=x:=⟨_,rfl⟩;have ht:=No l k hlt;have hlast:=FR (I7 k hwf);have hnx:=C5 k hlt hwf;have h3:l[k]=x:=by rw[←hxe];simp[hlt]
   rw[h3,nil_append]at hnx;rw[hxe]at g ht;have hnx':x.fits (AJ (l.take k)).fin (AJ (l.take k)).at_:=hnx;have⟨f1,f2,f3,f4,f5,f6⟩:=hnx';have st:=Yi (s.put (vb l.length)) l k x ht;have hlx:AJ (l.take (k+1))=x:=by rw[ht,ER]
   have e1:IntKind.u64.wrap (x.pos-(AJ (l.take k)).fin)=x.pos-(AJ (l.take k)).fin:=u64_in _ Om;have e2:IntKind.u64.wrap x.cnt=x.cnt:=u64_in _ Om;have e3:IntKind.i64.wrap (x.at_-(AJ (l.take k)).at_)=x.at_-(AJ (l.take k)).at_:=i64_in _ Om;have e4:IntKind.i64.wrap (x.at_-(AJ (l.take k)).at_-1)=x.at_-(AJ (l.take k)).at_-1:=i64_in _ Om;have e5:IntKind.u64.wrap (x.at_-(AJ (l.take k)).at_-1)=x.at_-(AJ (l.take k)).at_-1:=u64_in _ Om;have hp:=(hs.put (vb l.length)).puts (Bo G6 [] (l.take k));refine (ms g @Ar e1 ?_).1;(repeat with_reducible refine Sa ?_);refine Aa.u2 (Br _ (x.pos-(AJ (l.take k)).fin) 0 1 De Om Om hp.ok (hp.room _)) rfl rfl (mq e2 ?_).1;refine Aa.u2 (Br _ x.cnt 0 1 De Om Om (hp.put _).ok ((hp.put _).room _)) rfl rfl (ms e3 e4 e5 ?_).1;refine Aa.u2 (Br _ (x.at_-(AJ (l.take k)).at_-1) 0 1 De Om Om ((hp.put _).put _).ok (((hp.put _).put _).room _)) rfl rfl (mq st ?_).1;refine Aa.p (Dj x Om Om Om) (mq ei ?_).1;exact⟨k+1,hlt,Om,Wk.sel [0,1] Si rfl Si rfl (by simp[I6,wrow_ren,AH]) (by simp only[hlx];simp[BP,AE])⟩
  ·have ek:k=l.length:=by simp at h;omega
   refine (mp ?_).1
   (refine FB Adn [0,1] ?_ ?_<;>first|with_reducible rfl|(simp[WS.marks,hf,ek];done)|rfl)
def gO (s:WS) (l:List Mk) (i j:Nat) (h:i≠j) (hs:s.fine) (hl:j8 l) (hn:l.length≤140737488355328):Ct prog 177 [.ref i 0,Ik l] [(i,B0 j s),(j,AX s)] (λ_=>.tup []) [(i,B0 j (s.marks l)),(j,AX (s.marks l))] (λ_=>[]):=Ct.u2 (YL s l hs hl hn) i j h cl cl cl cl cl (Bx _ _) (Bg _) CN
def eX {s:WS} {l:List Mk} (h:s.code=0) (hf:A5 l=true) (hm:(s.l.length:Int)+(CJ l).length≤s.most):s.marks l=⟨s.most,s.l++CJ l,0⟩:=by
 unfold CJ at hm ⊢;rw[length_append,←Lw]at hm;unfold WS.marks;have e1:s.put (vb (l.length:Int))=⟨s.most,s.l++vb l.length,0⟩:=by
  rw[WS.put_ok h Om];cases s;simp at h;simp[h]
 rw[if_pos hf,e1,Oe rfl _ (by simp only[length_append];omega),←Lw];simp
def Yj {l:List Mk} (hf:A5 l=true):(CJ l).length≤490:=by
 have:=Kb l;have:=(BY.1 hf).2;omega
def Vr (l:List Mk):List Int:=if A5 l=true then CJ l else[]
def VV (l:List Mk) (hl:j8 l) (hn:l.length≤140737488355328):Ct prog 103 [Ik l] [] (λ_=>.tup [Bd .u8 (Vr l),iA (if A5 l=true then 0 else 3)]) [] (λ_=>[]):=by
 refine Ah.toCt ?_ cl cl
 have f1:(WS.new 1024).fine:=WS.fine.new De;refine RM func103 Ad9 ?_
 refine Aa.n (E5 1024) (mp ?_).1;refine Aa.u2 (gO (WS.new 1024) l _ _ De f1 hl hn) rfl rfl ?_;cases hf:A5 l
 ·have hw:(WS.new 1024).marks l=⟨1024,[],3⟩:=by unfold WS.marks;rw[hf];rfl
  refine (mq hw ?_).1;refine Aa.r2 (BW _ _ _ De De) rfl rfl (mp ?_).1
  exact FK Ad9 [] (by simp[hf,Vr,WS.bytes])
 ·have hr:=Yj hf;have hw:(WS.new 1024).marks l=⟨1024,CJ l,0⟩:=by rw[WS.new_is Om,eX rfl hf (by simp only[length_nil];omega)];simp only[nil_append]
  refine (mq hw ?_).1;refine Aa.r2 (BW _ _ _ De (by simp only;omega)) rfl rfl ?_;refine (mp ?_).1
  exact FK Ad9 [] (by simp[hf,Vr,WS.bytes])
def fV {s:RS} {acc:List Mk} (hf:¬(s.mark (AJ acc)).fits (AJ acc).fin (AJ acc).at_):(DW.f s acc).1=s.m3.fail 3 s.at_∧¬(DW.f s acc).1.code=0:=by
 have key:(DW.f s acc).1=s.m3.fail 3 s.at_:=by
  show(if s.m3.code=0∧¬(s.mark (AJ acc)).fits (AJ acc).fin (AJ acc).at_ then(s.m3.fail 3 s.at_,Dq)else(s.m3,s.mark (AJ acc))).1=_;by_cases hc:s.m3.code=0
  ·rw[if_pos ⟨hc,hf⟩]
  ·rw[if_neg λh=>hc h.1];unfold RS.fail;rw[if_neg hc]
 refine⟨key,?_⟩;rw[key];by_cases hc:s.m3.code=0
 ·exact BF _ _ hc De
 ·unfold RS.fail;rw[if_neg hc];exact hc
def Yl {s:RS} {acc:List Mk} (hf:(s.mark (AJ acc)).fits (AJ acc).fin (AJ acc).at_):DW.f s acc=(s.m3,s.mark (AJ acc)):=by
 show(if s.m3.code=0∧¬(s.mark (AJ acc)).fits (AJ acc).fin (AJ acc).at_ then(s.m3.fail 3 s.at_,Dq)else(s.m3,s.mark (AJ acc)))=_;rw[if_neg λh=>h.2 hf]
def VS (s:RS) (hs:Ak s) (hn:s.l.length*24≤140737488355328):Ah prog 108 [.ref 0 0] [AN s] (Ik s.marks.2) [AN (s.marks.1)]:=by
 have hir:=CB (s:=s) (m:=16) hs.bys;have⟨hi1,hi2⟩:=hs.int 16;unfold RS.marks DH.counted;refine RM func108 rN ?_
 refine Aa.u1 (AS s 16 0 De hs.ok hs.bys) rfl ?_;generalize hu:(s.int 16).1=u at*;generalize(s.int 16).2=z at*;obtain⟨N,hN⟩:∃N,z.toNat=N:=⟨_,rfl⟩;have hz:z=(N:Int):=Om
 subst hz;rw[Int.toNat_natCast];refine (mp ?_).1;refine AA (α:=RS×List Mk) (λa=>.ref 0 0::.any::.any::.sl (.row 1) 3 (H9 a.2)::uA (AJ a.2).fin::iA (AJ a.2).at_::.any::.any::.any::.any::.any::iA N::iA a.2.length::Az (Az (Ay (Ay [.any,.any])))) (λa=>[AN a.1,.row 3 a.2.length]) (DW.On u N) (λa=>N-a.2.length) (u,[]) (DH.On.start hi1 N) ((Wk.row 3 3 rfl (.inr rfl) De).trans (Wk.to Si (by simp[BS,H9,AJ,Dq,Mk.fin]))) ?_;rintro⟨t,acc⟩ ho;have hla:=ho.len;rw[hi2]at hla;have h1:=ho.ok;have h6:=ho.res;have hw:=FR ho.wf;simp only at h1 h6 hw;have hmn:=nY h1;have hnxF:=ho.next F7;obtain⟨p,hp⟩:∃p,AJ acc=p:=⟨_,rfl⟩;have hnot:=fV (s:=t) (acc:=acc);have hfit:=Yl (s:=t) (acc:=acc);rw[hp]at hw hnot hfit;have⟨w1,w2,w3,w4,w5,w6⟩:=hw;have⟨n1,n2,n3,n4,n5,n6⟩:=hmn;have b2:=(h1.vint.1.int 16).1;refine (mq hp ?_).1;refine Av (λh=>?_) (λh=>?_)
 ·have hlt:acc.length<N:=Sx h
  have ei:=Aw acc.length Om;have e1:IntKind.i64.wrap (p.at_+1)=p.at_+1:=i64_in _ Om;have e2:IntKind.i64.wrap (p.at_+1+t.mOn)=p.at_+t.mOn+1:=by rw[i64_in _ Om];omega
  have d1:t.vint.2=t.mBy:=rfl;have d2:(t.vint.1.int 16).2=t.mCnt:=rfl;have d3:((t.vint.1.int 16).1.int 1099511627775).2=t.mOn:=rfl;have d4:((t.vint.1.int 16).1.int 1099511627775).1=t.m3:=rfl;refine (mp ?_).1;refine Aa.r1 (AF t 0) rfl (mp ?_).1;refine Aa.u1 (BI t 0 h1.ok h1.bys) rfl (mp ?_).1;refine Aa.u1 (AS t.vint.1 16 0 De h1.vint.1.ok h1.vint.1.bys) rfl (mq e1 ?_).1;refine Aa.u1 (AS (t.vint.1.int 16).1 1099511627775 0 De b2.ok b2.bys) rfl ?_;simp only[go_sem,seval,d1,d2,d3,d4,e2];refine (mok ?_).1;by_cases hby:4611686018427387904≤t.mBy
  ·have q:decide (4611686018427387904≤t.mBy)=true:=Sx hby
   have hno:¬(t.mark p).fits p.fin p.at_:=by
    rintro⟨f1,f2,f3,f4,f5,f6⟩;simp only[RS.mark]at f1 f4;omega
   have⟨o1,o2⟩:=hnot hno;have hb:=DX (F:=DW) (s:=t) hlt o2;rw[h6,o1]at hb;rw[o1]at o2;refine (mq q ?_).1;refine Aa.u1 (Aj t.m3 3 t.at_ 0) rfl (mp ?_).1;refine Aa.r1 (Ae _ 0) rfl (mq (Au o2) ?_).1;(refine A6.nilk 2 3 rfl ?_;simp only[set_cons_zero,set_cons_succ])
   exact FF rN [0] hb @Nn
  ·have q:decide (4611686018427387904≤t.mBy)=false:=Sx hby
   have e3:IntKind.u64.wrap (p.fin+t.mBy)=p.fin+t.mBy:=u64_in _ Om;have hok:(t.mark p).ok:=⟨by simp only[RS.mark];omega,by simp only[RS.mark];omega,by simp only[RS.mark];omega,by simp only[RS.mark];omega,by simp only[RS.mark];omega,by simp only[RS.mark];omega⟩;refine (mr q e3 ?_).1;refine Aa.p (OR (t.mark p) p.fin p.at_ hok) ?_;by_cases hf:(t.mark p).fits p.fin p.at_
   ·have q2:decide ((t.mark p).fits p.fin p.at_)=true:=Sx hf
    have hff:=hfit hf;refine (mq q2 ?_).1;refine Aa.r1 (Ae t.m3 0) rfl ?_;by_cases hc:t.m3.code=0
    ·have hnx:=hnxF hlt (by rw[hff];exact hc);rw[hff]at hnx;have hl2:=hnx.len;rw[length_append,length_singleton,hi2]at hl2;have em:[AV.agg [uA (p.fin+t.mBy),iA t.mCnt,iA (p.at_+t.mOn+1)]]=[kC (t.mark p)]:=rfl;have hff2:=aX hf w1;refine (mt (AR hc) em @nX @Ar ?_).1;(repeat with_reducible refine Sa ?_);refine Aa.p (Dj (t.mark p) hff2.1 Om Om) (mq ei ?_).1;exact⟨(t.m3,acc++[t.mark p]),hnx,by simp;omega,Wk.sel [0,1] Si rfl Si rfl (by simp[An,AH,AE]) (by simp[BP,AE,ER,RS.mark])⟩
    ·have hb:=DX (F:=DW) (s:=t) (acc:=acc) hlt (by rw[hff];exact hc);rw[h6,hff]at hb;refine (mq (Au hc) ?_).1;(refine A6.nilk 2 3 rfl ?_;simp only[set_cons_zero,set_cons_succ])
     exact FF rN [0] hb @Nn
   ·have q2:decide ((t.mark p).fits p.fin p.at_)=false:=Sx hf
    have⟨o1,o2⟩:=hnot hf;have hb:=DX (F:=DW) (s:=t) hlt o2;rw[h6,o1]at hb;rw[o1]at o2;refine (mq q2 ?_).1;refine Aa.u1 (Aj t.m3 3 t.at_ 0) rfl (mp ?_).1;refine Aa.r1 (Ae _ 0) rfl (mq (Au o2) ?_).1;(refine A6.nilk 2 3 rfl ?_;simp only[set_cons_zero,set_cons_succ])
    exact FF rN [0] hb @Nn
 ·have hge:N≤acc.length:=Sx h
  have hb:=G8 (F:=DW) (s:=t) hge;rw[h6]at hb;refine (mp ?_).1;refine UT 2 ?_
  exact FF rN [0] hb @Nn
def Kj (s:RS) (i:Nat) (hs:Ak s) (hn:s.l.length*24≤140737488355328):Ct prog 108 [.ref i 0] [(i,AN s)] (λ_=>Ik s.marks.2) [(i,AN (s.marks.1))] (λ_=>[]):=Ct.u1 (VS s hs hn) i cl (λρ=>An ρ _) (λρ=>An ρ _) (rdr_dead _) cl
def OT (l:List Mk) (hl:j8 l) (hn:l.length≤140737488355328):Ah prog 178 [Ik l] [] (iA (if A5 l=true then DP l l.length else 0)) []:=by
 refine RM func178 Adm ?_
 refine Aa.p (Fk l hl hn) ?_;cases hf:A5 l
 ·refine (mq hf ?_).1
  exact FE Adm [] hf
 ·have h16:=(BY.1 hf).2;refine (mr hf @Ar ?_).1;refine AA (α:=Nat) (λk=>.any::.any::.any::iA (DP l k)::.any::.any::.any::.any::.any::Ik l::iA l.length::iA k::Ay (Ay [.any])) (λ_=>[]) (λk=>k≤l.length) (λk=>l.length-k) 0 Si (Wk.to Si (by simp[BS,DP])) ?_;intro k hk;refine (mp ?_).1;refine Av (λh=>?_) (λh=>?_)
  ·have hlt:k<l.length:=Sx h
   have g:=HI l k hlt;have ei:=Aw k Om;have hc:=WH hf k hk;have hx:=FY hf hlt;have es:IntKind.i64.wrap (DP l k+(l.getD k Dq).cnt)=DP l (k+1):=by rw[i64_in _ Om];rfl
   refine (mt g @Ar es ei ?_).1;(repeat with_reducible refine Sa ?_);exact⟨k+1,hlt,Om,Wk.sel [] Si rfl Si rfl Si (by simp[BP,AE])⟩
  ·have ek:k=l.length:=by simp at h;omega
   refine (mp ?_).1
   exact FF Adm [] hf ek
def GK (l:List Mk) (hl:j8 l) (hn:l.length≤140737488355328):Ct Tryz.prog 178 [Ik l] [] (λ_=>iA (if A5 l=true then DP l l.length else 0)) [] (λ_=>[]):=(OT l hl hn).toCt cl cl
def Ic (l:List Mk):Int×Int:=if l.length=0∨A5 l=false then(0,0)else((l.getD 0 Dq).pos,(l.getD (l.length-1) Dq).fin)
def VU (l:List Mk) (hl:j8 l) (hn:l.length≤140737488355328):Ah prog 179 [Ik l] [] (.tup [uA (Ic l).1,uA (Ic l).2]) []:=by
 refine RN func179 y6 ?_;refine (mq @Ar ?_).1
 by_cases hz:l.length=0
 ·have q:((l.length:Int)==0)=true:=by simp only[beq_iff_eq];omega
  have he:Ic l=(0,0):=by unfold Ic;rw[if_pos (.inl hz)]
  refine (mq q ?_).1
  exact FE y6 [] he
 ·have q:((l.length:Int)==0)=false:=by simp only[beq_eq_false_iff_ne,ne_eq];omega
  refine (mq q ?_).1;refine Aa.p (Fk l hl hn) ?_;cases hf:A5 l
  ·have he:Ic l=(0,0):=by unfold Ic;rw[if_pos (.inr hf)]
   refine (mq hf ?_).1
   exact FE y6 [] he
  ·have he:Ic l=((l.getD 0 Dq).pos,(l.getD (l.length-1) Dq).fin):=by unfold Ic;rw[if_neg (by rintro(h|h);exact hz h;rw[hf]at h;cases h)]
   have g0:=Vn l 0 Om;have g1:=HI l (l.length-1) Om;have ej:IntKind.i64.wrap ((l.length:Int)-1)=((l.length-1:Nat):Int):=by rw[i64_in _ Om];omega
   have hx:=FY hf (k:=l.length-1) Om;simp only[go_sem,seval,hf,g0,Ar,ej,g1];refine (mok ?_).1;(repeat with_reducible refine Sa ?_);refine Aa.p (Dj (l.getD (l.length-1) Dq) Om Om Om) (mp ?_).1
   exact FE y6 [] he
def Kk (l:List Mk) (hl:j8 l) (hn:l.length≤140737488355328):Ct Tryz.prog 179 [Ik l] [] (λ_=>.tup [uA (Ic l).1,uA (Ic l).2]) [] (λ_=>[]):=(VU l hl hn).toCt cl cl
def IR (l:List Mk) (pos:Int):Mk×Bool:=if A5 l=true∧Ko (ES pos) l<l.length then(l.getD (Ko (ES pos) l) Dq,true)else(Dq,false)
def VT (l:List Mk) (pos:Int) (hl:j8 l) (hn:l.length≤140737488355328):Ah prog 45 [Ik l,uA pos] [] (.tup [kC (IR l pos).1,bA (IR l pos).2]) []:=by
 refine RM func45 b45 ?_
 cases hf:A5 l
 ·have he:IR l pos=(Dq,false):=by unfold IR;rw[hf];simp
  refine UD (mq @Ar ?_).1;refine Aa.p (Fk l hl hn) (mq hf ?_).1
  (refine FB b45 [] ?_ ?_<;>first|with_reducible rfl|(simp[he,Dq];done)|rfl)
 ·have h16:=(BY.1 hf).2;refine UC (α:=Nat×Nat) 0 (by rfl) (λa=>Ik l::uA pos::.any::.any::.ref 0 0::.any::iA a.1::iA a.2::Az (Az [.any,.any])) (λ_=>[.cells [uA 0,iA 0,iA 0]])
   (λa=>a.1≤a.2∧a.2≤l.length∧(∀i,i<a.1->(l.getD i Dq).fin≤pos)∧∀i,a.2≤i->i<l.length->pos<(l.getD i Dq).pos) (λa=>a.2-a.1) (λpass=>?_) ?_
  ·refine (mq @Ar ?_).1;refine Aa.p (Fk l hl hn) (mq hf ?_).1;exact Nu (Wk.to Si (by simp[BS])) (pass (0,l.length) ⟨Si,Si,by intro i hi;simp at hi,by intro i hi h;simp at hi;omega⟩)
  ·rintro⟨lo,hi⟩ ⟨h1,h2,h3,h4⟩;simp only at h1 h2 h3 h4;refine (mp ?_).1;by_cases he:lo=hi
   ·have q:((lo:Int)==hi)=true:=by simp;omega
    have hnone:Ko (ES pos) l=l.length:=by
     refine gW λi hil=>?_
     cases hh:ES pos (l.getD i Dq)with
     |false=>rfl
     |true=>
      have:=Nx.1 hh;rcases Nat.lt_or_ge i lo with h5|h5
      ·have:=h3 i h5;omega
      ·have:=h4 i Om hil;omega
    have hfm:IR l pos=(Dq,false):=by unfold IR;rw[hnone];simp
    refine (mq q ?_).1
    (refine FB b45 [] ?_ ?_<;>first|with_reducible rfl|(simp[hfm,Dq];done)|rfl)
   ·have q:((lo:Int)==hi)=false:=by simp;omega
    have e1:IntKind.i64.wrap ((lo:Int)+hi)=lo+hi:=i64_in _ Om;have e2:IntKind.i64.wrap (((lo:Int)+hi).tdiv 2)=(((lo+hi)/2:Nat):Int):=by
     rw[Int.tdiv_eq_ediv_of_nonneg Om,i64_in _ Om];omega
    obtain⟨m,hm⟩:∃m,(lo+hi)/2=m:=⟨_,rfl⟩;rw[hm]at e2;have hml:m<l.length:=Om
    have g:=HI l m hml;have hx:=FY hf hml;obtain⟨x,hxe⟩:∃x,l.getD m Dq=x:=⟨_,rfl⟩;rw[hxe]at g hx;have ei:IntKind.i64.wrap ((m:Int)+1)=((m+1:Nat):Int):=Aw m Om;by_cases c1:pos<x.pos
    ·have r1:decide (pos<x.pos)=true:=Sx c1
     simp only[go_sem,seval,q,e1,e2,g,Ar,r1];refine (mok ?_).1;(repeat with_reducible refine Sa ?_);refine⟨(lo,m),⟨by simp only;omega,by simp only;omega,h3,λi hmi hil=>?_⟩,by simp only;omega,Wk.sel [0] Si rfl Si rfl (by simp[AE]) (by simp[BP,AE,AH])⟩;rcases Nat.lt_or_ge m i with h5|h5
     ·have h6:=KU hf h5 hil;rw[hxe]at h6;unfold Mk.fin at h6;omega
     ·obtain rfl:i=m:=by simp only at hmi;omega
      rw[hxe];exact c1
    ·have r1:decide (pos<x.pos)=false:=Sx c1
     by_cases c2:x.fin≤pos
     ·have r2:decide (x.fin≤pos)=true:=Sx c2
      simp only[go_sem,seval,q,e1,e2,g,Ar,r1];refine (mok ?_).1;(repeat with_reducible refine Sa ?_);refine Aa.p (Dj x Om Om Om) (mr r2 ei ?_).1;refine⟨(m+1,hi),⟨by simp only;omega,h2,λi hmi=>?_,h4⟩,by simp only;omega,Wk.sel [0] Si rfl Si rfl (by simp[AE]) (by simp[BP,AE,AH])⟩;rcases Nat.lt_or_ge i m with h5|h5
      ·have h6:=KU hf h5 hml;rw[hxe]at h6;unfold Mk.fin at c2;omega
      ·obtain rfl:i=m:=by simp only at hmi;omega
       rw[hxe];exact c2
     ·have r2:decide (x.fin≤pos)=false:=Sx c2
      have hyes:ES pos (l.getD m Dq)=true:=Nx.2 (by rw[hxe];omega);have hk2:Ko (ES pos) l=m:=wZ hml hyes λi hi=>by
       cases hh:ES pos (l.getD i Dq)with
       |false=>rfl
       |true=>have:=wW hf Om hml hh hyes;omega
      have hfm:IR l pos=(x,true):=by unfold IR;rw[hk2,if_pos ⟨hf,hml⟩,hxe]
      simp only[go_sem,seval,q,e1,e2,g,Ar,r1];refine (mok ?_).1;(repeat with_reducible refine Sa ?_);refine Aa.p (Dj x Om Om Om) (mq r2 ?_).1
      exact FE b45 [] hfm
def YM (l:List Mk) (pos:Int) (hl:j8 l) (hn:l.length≤140737488355328):Ct Tryz.prog 45 [Ik l,uA pos] [] (λ_=>.tup [kC (IR l pos).1,bA (IR l pos).2]) [] (λ_=>[]):=(VT l pos hl hn).toCt cl cl
def prs (l:List (Int×Int)):List AV:=l.map λp=>.agg [uA p.1,uA p.2]
@[simp] theorem Ah1 (ρ:Nat->Nat) (l:List (Int×Int)):(prs l).map (λx=>x.ren ρ)=prs l:=by simp[prs,AE]
def qT (l:List Bt) (h:l.length≠0):(D7 l).getD (l.length-1) .any=FD (Bf l):=GB l (l.length-1) Om
def ZA {l:List Bt} (h:l.length≠0):Bf l∈l:=by
 have e:Bf l=l[l.length-1]'Om:=by unfold Bf;simp[show l.length-1<l.length by omega]
 rw[e];exact getElem_mem _
def H4 (ep:Int) (bs:List Bt) (b:Bt) (hb:R1 b) (hbs:∀x∈bs,R1 x) (hn:bs.length≤1000000):Ct prog 99 [Et ⟨ep,bs⟩,FD b] [] (λ_=>bA (Ey ep bs b)) [] (λ_=>[]):=by
 refine Ah.toCt ?_ cl cl
 refine RN func99 b99 ?_;refine (mq @Ao ?_).1
 by_cases h1:b.ep≤ep
 ·have c1:decide (ep<b.ep)=false:=by simp;omega
  refine (mq c1 ?_).1;by_cases h0:bs.length=0
  ·have c2:((bs.length:Int)==0)=true:=by simp only[beq_iff_eq];omega
   have e:Ey ep bs b=true:=by unfold Ey;simp[h1,h0]
   refine (mr @Ao c2 ?_).1
   exact FE b99 [] e
  ·have c2:((bs.length:Int)==0)=false:=by simp only[beq_eq_false_iff_ne,ne_eq];omega
   have hl:=hbs (Bf bs) (ZA h0);have ei:IntKind.i64.wrap ((bs.length:Int)-1)=((bs.length-1:Nat):Int):=by rw[i64_in _ Om];omega
   have g:=qT bs h0;have e:Ey ep bs b=(decide ((Bf bs).ep≤b.ep)&&decide ((Bf bs).base+(Bf bs).en.length≤b.base)):=by unfold Ey;simp[h1,h0]
   have hbb:=hl.ok.b0;have hss:=hl.sum;have hle:=hl.len;simp only[go_sem,seval,Ao,c2,ei,Int.toNat_natCast,g,L6];refine (mok ?_).1;refine⟨Om,Om,?_⟩;by_cases hep:(Bf bs).ep≤b.ep
   ·have c3:decide ((Bf bs).ep≤b.ep)=true:=Sx hep
    rw[c3]at e;simp only[go_sem,seval,c3,ei,Ao,Int.toNat_natCast,g,L6];refine (mok ?_).1;refine⟨Om,Om,?_⟩;refine Cp (JD (Bf bs) Om hbb Om) ?_
    exact FE b99 [] e
   ·have c3:decide ((Bf bs).ep≤b.ep)=false:=Sx hep
    rw[c3]at e;simp only[go_sem,seval,c3];refine (mok ?_).1
    exact FE b99 [] e
 ·have c1:decide (ep<b.ep)=true:=by simp;omega
  have e:Ey ep bs b=false:=by unfold Ey;rw[decide_eq_false h1];rfl
  refine (mq c1 ?_).1
  exact FE b99 [] e
def Iy (ep:Int) (l:List Mk) (a n:Int) (hl:j8 l) (hn:l.length≤1000000):Ct prog 104 [uA ep,Ik l,iA a,iA n] [] (λ_=>sV (Ib ep l a n)) [] (λ_=>[]):=by
 refine Ah.toCt ?_ cl cl
 refine RN func104 Ahw ?_;refine (mq @Ar ?_).1
 refine Cp (GK l hl Om) ?_;refine Cp (Kk l hl Om) ?_
 exact FK Ahw [] (by simp[Ib,Ep,Ic])
abbrev sgO (S:SD) (r j k:Nat):Ad:=.cells [.ref r 0,uA S.ep,.sl (.row j) 3 (D7 S.bt),.sl (.row k) 3 (H9 S.ms),bA S.w,iA S.fst]
abbrev MY (S:SD) (r j k:Nat):List Ad:=[sgO S r j k,AN S.r,.row 3 S.bt.length,.row 3 S.ms.length]
def mT (S:SD) (hS:Ak S.r) (hn:S.r.l.length≤1000000):Ah prog 120 [.ref 0 0] (MY S 1 2 3) (.tup [Bd .u8 S.pay.2.1,iA S.pay.2.2]) (MY S.pay.1 1 2 3):=by
 have⟨k1,k2⟩:=BA hS 2097152;have⟨b1,b2⟩:=LY hS 2097152;have a0:=k1.at0;have a1:=k1.at1;rw[k2]at a1;have e1:IntKind.i64.wrap ((S.r.frame 2097152).1.at_-4)=(S.r.frame 2097152).1.at_-4:=i64_in _ Om;have e2:IntKind.i64.wrap ((S.r.frame 2097152).1.at_-4-((S.r.frame 2097152).2.length:Int))=(S.r.frame 2097152).1.at_-4-(S.r.frame 2097152).2.length:=i64_in _ Om;refine RM func120 Ahp ?_
 refine Cr (AF S.r 1) rfl ?_;refine Cu (Ks S.r 2097152 1 hS De) rfl ?_;refine Aa.r1 (AF (S.r.frame 2097152).1 1) rfl (ms e1 @Ab e2 ?_).1
 exact FK Ahp [0,1,2,3] (by simp[SD.pay,AH])
def NV (S:SD) (hS:Ak S.r) (hn:S.r.l.length≤1000000) (i r j k:Nat) (hd:[i,r,j,k].Nodup):Ct prog 120 [.ref i 0] ([i,r,j,k].zip (MY S r j k)) (λ_=>.tup [Bd .u8 S.pay.2.1,iA S.pay.2.2]) ([i,r,j,k].zip (MY S.pay.1 r j k)) (λ_=>[]):=
 Ct.us (mT S hS hn) [i,r,j,k] hd rfl rfl (by simp[AN]) (λN=>by simp[AH]) (λN=>by simp[AH,An,HC]) (λN=>by simp[AH,An,HC]) (λN=>by simp[AM])
def sY (S:SD) (f:Int×Int) (a:Int) (hf: -1000000000≤f.2+a∧f.2+a≤1000000000):Ah prog 124 [.ref 0 0,Ce f,iA a] (MY S 1 2 3) (.tup []) (MY {S with r:=S.r.wth f a} 1 2 3):=by
 have es:IntKind.i64.wrap (f.2+a)=f.2+a:=i64_in _ Om;refine RM func124 Ad5 ?_
 refine Cp (Ba f.1 f.2 a _ es) ?_;by_cases hc:f.1=0
 ·have e1:BB f.1 (f.2+a)=(0,0):=by unfold BB;rw[if_pos hc]
  have e2:S.r.wth f a=S.r:=by unfold RS.wth;rw[if_pos hc]
  refine (mq e1 ?_).1;refine Cp (Ai 0 0) ?_
  exact FK Ad5 [0,1,2,3] (by simp[e2,AH])
 ·have e1:BB f.1 (f.2+a)=(f.1,f.2+a):=by unfold BB;rw[if_neg hc]
  have e2:S.r.wth f a=S.r.fail f.1 (f.2+a):=by unfold RS.wth;rw[if_neg hc]
  have e3:(f.1==0)=false:=Sx hc
  refine (mq e1 ?_).1;refine Aa.p (Ai f.1 (f.2+a)) (mq e3 ?_).1;refine Cu (Aj S.r f.1 (f.2+a) 1) rfl ?_
  exact FK Ad5 [0,1,2,3] (by simp[e2,AH])
def I_ (S:SD) (f:Int×Int) (a:Int) (hf: -1000000000≤f.2+a∧f.2+a≤1000000000) (i r j k:Nat) (hd:[i,r,j,k].Nodup):Ct prog 124 [.ref i 0,Ce f,iA a] ([i,r,j,k].zip (MY S r j k)) (λ_=>.tup []) ([i,r,j,k].zip (MY {S with r:=S.r.wth f a} r j k)) (λ_=>[]):=
 Ct.us (sY S f a hf) [i,r,j,k] hd rfl rfl (by simp[AN]) (λN=>by simp[AH]) (λN=>by simp[AH,An,HC]) (λN=>by simp[AH,An,HC]) (λN=>by simp)
end Go.Proofs.YtaajkppmibfgfabGreat
