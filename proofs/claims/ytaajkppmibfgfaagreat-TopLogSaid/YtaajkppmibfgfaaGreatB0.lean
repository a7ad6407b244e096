/- Lemmas for TopLog, part 0. -/
import Derived.WalkKit
import Derived.WalkSpells
import Derived.WalkLawsBesides
import Derived.ProofKit
import Derived.OpenShut
import Derived.Laws.IdiomStrings
import Derived.RangeFuncLeaves
import Derived.RangeFuncOwn
import Derived.OrdersIn
set_option linter.all false
set_option maxRecDepth 100000
set_option maxHeartbeats 4000000
universe u v
namespace Go.Proofs.YtaajkppmibfgfaaGreat
open Go.RowKit List IntWalk
theorem Om {p:Prop} (h:p:=by omega):p:=h
theorem De {p:Prop} (h:p:=by decide):p:=h
theorem Si {p:Prop} (h:p:=by simp):p:=h
theorem Ex {α:Sort u} (a:α):∃x,a=x:=⟨a,rfl⟩
theorem Ge {α:Type v} {l:List α} {i:Nat} {a:α} (h:l[i]? =some a):i<l.length:=(List.getElem?_eq_some_iff.1 h).1
theorem Sx {p q:Prop} (a:p) (h:p->q:=by intro h;simpa using h):q:=h a
structure CE (K:Nat->Prop) (w w':World):Prop where
 os:w'.os=w.os
 tape:w'.tape=w.tape
 output:w'.output=w.output
 size:w.heap.size≤w'.heap.size
 block:∀i,i<w.heap.size->K i->w'.heap[i]? =w.heap[i]?
abbrev Ext (w w':World):Prop:=CE (λ_=>True) w w'
section
variable {K K':Nat->Prop} {w w' w'':World}
theorem CE.refl (K:Nat->Prop) (w:World):CE K w w:=⟨rfl,rfl,rfl,Nat.le_refl _,λ_ _ _=>rfl⟩
theorem CE.trans (h:CE K w w') (h':CE K w' w''):CE K w w'':=
 ⟨h'.os.trans h.os,h'.tape.trans h.tape,h'.output.trans h.output,Nat.le_trans h.size h'.size,λi hi hk=>(h'.block i (Nat.lt_of_lt_of_le hi h.size) hk).trans (h.block i hi hk)⟩
theorem CE.mono (h:CE K w w') (hK:∀i,i<w.heap.size->K' i->K i):CE K' w w':=⟨h.os,h.tape,h.output,h.size,λi hi hk=>h.block i hi (hK i hi hk)⟩
theorem CE.any (h:CE (λ_=>True) w w'):CE K w w':=h.mono λ_ _ _=>trivial
theorem Below.ext (h:Below w.heap.size w w'):Ext w w':=⟨h.os,h.tape,h.output,h.size,λi hi _=>h.block i hi⟩
theorem CE.below {B:Nat} (h:CE K w w') (hB:∀i,i<B->K i) (hs:B≤w.heap.size):Below B w w':=⟨h.os,h.tape,h.output,h.size,λi hi=>h.block i Om (hB i hi)⟩
theorem CE.alloc (h:CE K w w') (o:Obj):CE K w (w'.alloc o):=
 ⟨h.os,h.tape,h.output,Nat.le_trans h.size Si,λi hi hk=>(Below.heap_alloc w' o i (Nat.lt_of_lt_of_le hi h.size)).trans (h.block i hi hk)⟩
theorem CE.drew (h:CE K w w'):CE K w w'.drew:=⟨h.os,h.tape,h.output,h.size,h.block⟩
theorem CE.grown (h:CE K w w') {row:Option Nat} (hg:w'.grownBy w'' row) (hr:∀k,row=some k->k<w.heap.size->¬K k):CE K w w'':=
 ⟨hg.os.trans h.os,hg.tape.trans h.tape,hg.output.trans h.output,Nat.le_trans h.size hg.size,λi hi hk=>(hg.block i (Nat.lt_of_lt_of_le hi h.size) (λe=>hr i e.symm hi hk)).trans (h.block i hi hk)⟩
theorem CE.cell (h:CE K w w') {p:Addr} {u:Value} (hc:w.cell? p=some u) (hk:K p.block):w'.cell? p=some u:=
 (World.cell?_of_block (w:=w) (h.block p.block (World.block_lt_of_cell? w p hc) hk)).trans hc
theorem CE.heap (h:CE K w w') {i:Nat} {o:Obj} (hc:w.heap[i]? =some o) (hk:K i):w'.heap[i]? =some o:=
 (h.block i (Array.getElem?_eq_some_iff.1 hc).1 hk).trans hc
end
inductive Gd where
 |none
 |full
 |row (j:Nat)
inductive AV where
 |lit (v:Value)
 |any
 |ref (i off:Nat)
 |iptr (cs:List AV)
 |sl (t:Gd) (k:Nat) (xs:List AV)
 |agg (xs:List AV)
 |tup (xs:List AV)
 |fn (f:FuncId) (first cap:List AV)
 |ms (j n:Nat)
 |mref (j n off:Nat)
 |slc (k:Nat) (xs:List AV)
 |mapr (i:Nat)
 |yv (q:Nat)
def AV.cells:AV->List AV
 | .agg xs=>xs
 |x=>[x]
def AV.one:AV->Bool
 | .lit v=>v.oneCell'
 | .ref .. | .iptr .. | .sl .. | .fn .. | .ms .. | .mref .. | .slc .. | .mapr .. | .yv .. =>true
 |_=>false
structure Gh where
 imm:Nat->Nat->Option Value
 loc:Nat->Option Nat
 hist:Nat->Nat->Option Value
structure Gh.Le (G G':Gh):Prop where
 imm:∀b i v,G.imm b i=some v->G'.imm b i=some v
 loc:∀i b,G.loc i=some b->G'.loc i=some b
 hist:∀j n v,G.hist j n=some v->G'.hist j n=some v
theorem Gh.Le.refl (G:Gh):G.Le G:=⟨λ_ _ _ h=>h,λ_ _ h=>h,λ_ _ _ h=>h⟩
theorem Gh.Le.trans {a b c:Gh} (h:a.Le b) (k:b.Le c):a.Le c:=
 ⟨λ_ _ _ x=>k.imm _ _ _ (h.imm _ _ _ x),λ_ _ x=>k.loc _ _ (h.loc _ _ x),λ_ _ _ x=>k.hist _ _ _ (h.hist _ _ _ x)⟩
def HR (G:Gh) (t:Gd) (A:Option Addr) (n c:Nat):Prop:=
 match t with
 | .none=>True
 | .full=>c=n
 | .row j=>G.hist j n=some (.slice A n c)
inductive Bg (G:Gh):AV->Value->Prop
 |lit (v:Value):Bg G (.lit v) v
 |any (v:Value):Bg G .any v
 |ref {i o b:Nat} (h:G.loc i=some b):Bg G (.ref i o) (.pointer (some ⟨b,o,none⟩))
 |iptr {cs:List AV} {b o:Nat} (vs:Nat->Value) (h1:∀j,j<cs.length->G.imm b (o+j)=some (vs j)) (h2:∀j,j<cs.length->(vs j).oneCell'=true)
   (h3:∀(j:Nat) (x:AV),cs[j]? =some x->Bg G x (vs j)):Bg G (.iptr cs) (.pointer (some ⟨b,o,none⟩))
 |sl {t:Gd} {k:Nat} {xs:List AV} {A:Option Addr} {c b o:Nat} (vs:Nat->Nat->Value) (hc:xs.length≤c) (hA:0<xs.length->A=some ⟨b,o,none⟩)
   (hk:∀(i:Nat) (x:AV),xs[i]? =some x->x.cells.length=k) (h1:∀i j,i<xs.length->j<k->G.imm b (o+i*k+j)=some (vs i j)) (h2:∀i j,i<xs.length->j<k->(vs i j).oneCell'=true)
   (h3:∀(i j:Nat) (x y:AV),xs[i]? =some x->x.cells[j]? =some y->Bg G y (vs i j)) (ht:HR G t A xs.length c):Bg G (.sl t k xs) (.slice A xs.length c)
 |agg {xs:List AV} {vs:Array Value} (h0:xs.length=vs.size) (h2:∀(j:Nat) (v:Value),vs[j]? =some v->v.oneCell'=true) (h3:∀(j:Nat) (x:AV) (v:Value),xs[j]? =some x->vs[j]? =some v->Bg G x v):Bg G (.agg xs) (.agg vs)
 |tup {xs:List AV} {vs:Array Value} (h0:xs.length=vs.size) (h3:∀(j:Nat) (x:AV) (v:Value),xs[j]? =some x->vs[j]? =some v->Bg G x v):Bg G (.tup xs) (.tuple vs)
 |fn {f:FuncId} {fs cs:List AV} {fv cv:Array Value} (hf:fs.length=fv.size) (hc:cs.length=cv.size) (h1:∀(j:Nat) (x:AV) (v:Value),fs[j]? =some x->fv[j]? =some v->Bg G x v)
   (h2:∀(j:Nat) (x:AV) (v:Value),cs[j]? =some x->cv[j]? =some v->Bg G x v):Bg G (.fn f fs cs) (.func (.func f) fv cv)
 |ms {j n:Nat} {A:Option Addr} {c:Nat} (h:G.hist j n=some (.slice A n c)) (h0:0<n->∃b,A=some ⟨b,0,none⟩):Bg G (.ms j n) (.slice A n c)
 |mref {j n o b c:Nat} (h:G.hist j n=some (.slice (some ⟨b,0,none⟩) n c)):Bg G (.mref j n o) (.pointer (some ⟨b,o,none⟩))
 |slc {k:Nat} {xs:List AV} {v:Value} (h:Bg G (.sl .none k xs) v):Bg G (.slc k xs) v
 |mapr {i b:Nat} (h:G.loc i=some b):Bg G (.mapr i) (.map (some b))
 |yv {q b:Nat} (h:G.loc q=some b):Bg G (.yv q) (.func (.yield b) #[] #[])
theorem HR.mono {G G':Gh} (h:G.Le G') {t:Gd} {A:Option Addr} {n c:Nat} (ht:HR G t A n c):HR G' t A n c:=by
 cases t with
 |none=>trivial
 |full=>exact ht
 |row j=>exact h.hist _ _ _ ht
theorem Bg.mono {G G':Gh} (h:G.Le G') {x:AV} {v:Value} (r:Bg G x v):Bg G' x v:=by
 induction r with
 |lit v=>exact .lit v
 |any v=>exact .any v
 |ref hl=>exact .ref (h.loc _ _ hl)
 |iptr vs h1 h2 _ ih=>exact .iptr vs (λj hj=>h.imm _ _ _ (h1 j hj)) h2 ih
 |sl vs hc hA hk h1 h2 _ ht ih=>exact .sl vs hc hA hk (λi j hi hj=>h.imm _ _ _ (h1 i j hi hj)) h2 ih (ht.mono h)
 |agg h0 h2 _ ih=>exact .agg h0 h2 ih
 |tup h0 _ ih=>exact .tup h0 ih
 |fn hf hc _ _ ih1 ih2=>exact .fn hf hc ih1 ih2
 |ms h1 h0=>exact .ms (h.hist _ _ _ h1) h0
 |mref h1=>exact .mref (h.hist _ _ _ h1)
 |slc _ ih=>exact .slc ih
 |mapr h1=>exact .mapr (h.loc _ _ h1)
 |yv h1=>exact .yv (h.loc _ _ h1)
theorem Bg.oneC {G:Gh} {x:AV} {v:Value} (r:Bg G x v) (h:x.one=true):v.oneCell'=true:=by
 cases r with
 |slc h=>cases h;rfl
 |_=>simp_all [AV.one,Value.oneCell']
def BT (G:Gh) (xs:List AV) (vs:List Value):Prop:=xs.length=vs.length∧∀(j:Nat) (x:AV) (v:Value),xs[j]? =some x->vs[j]? =some v->Bg G x v
theorem BT.mono {G G':Gh} (h:G.Le G') {xs:List AV} {vs:List Value} (r:BT G xs vs):BT G' xs vs:=⟨r.1,λj x v hx hv=>(r.2 j x v hx hv).mono h⟩
theorem BT.nil (G:Gh):BT G [] []:=⟨rfl,λj x v h=>by simp at h⟩
theorem BT.cons {G:Gh} {x:AV} {v:Value} {xs:List AV} {vs:List Value} (h:Bg G x v) (r:BT G xs vs):BT G (x::xs) (v::vs):=by
 refine⟨by simp[r.1],λj y u hy hu=>?_⟩;cases j with
 |zero=>simp at hy hu;subst hy hu;exact h
 |succ j=>simp at hy hu;exact r.2 j y u hy hu
theorem BT.append {G:Gh} {xs ys:List AV} {vs us:List Value} (h:BT G xs vs) (k:BT G ys us):BT G (xs++ys) (vs++us):=by
 refine⟨by simp[h.1,k.1],λj x v hx hv=>?_⟩;rw[getElem?_append]at hx hv;rw[h.1]at hx;split at hx
 ·rename_i hl;rw[if_pos hl]at hv;exact h.2 j x v hx hv
 ·rename_i hl;rw[if_neg hl]at hv;exact k.2 _ x v hx hv
structure LpR where
 state:LoopState
 pending:Option Code
 fn:FuncId
 params:Array Tmp
 assign:Code
 body:Code
 defers:Nat
inductive Fp where
 |imap (l:List (Int×Int))
 |lp (r:LpR)
def GU:Nat->List (Int×Int)->List MapEntry
 |_,[]=>[]
 |n,p::l=>{key:=.int .u32 p.1,val:=.int .i64 p.2,born:=n}::GU (n+1) l
def Fp.obj:Fp->List Value->Obj
 | .imap l,_=>.map (GU 0 l).toArray l.length
 | .lp r,vs=>.loop {state:=r.state,pending:=r.pending,fn:=r.fn,tmps:=vs.toArray,params:=r.params,assign:=r.assign,body:=r.body,defers:=r.defers}
inductive Ac where
 |dead
 |cells (xs:List AV)
 |row (k n:Nat)
 |mrow (k n:Nat) (xs:List AV)
 |raw (o:Fp) (xs:List AV)
def blk (G:Gh) (S:List Ac) (i:Nat):Option Nat:=
 match S[i]? with
 |some (.cells _)=>G.loc i
 |some (.row _ n)=>match G.hist i n with
  |some (.slice (some a) _ c)=>if n<c then some a.block else none
  |_=>none
 |some (.mrow _ n _)=>match G.hist i n with
  |some (.slice (some a) _ c)=>if 0<c then some a.block else none
  |_=>none
 |some (.raw _ _)=>G.loc i
 |_=>none
def R5 (G:Gh) (w:World) (k:Nat) (xs:List AV) (A:Option Addr) (c:Nat):Prop:=
 0<c->∃(b:Nat) (cs:Array Value) (t:TypeId),A=some ⟨b,0,none⟩∧w.heap[b]? =some (.cells cs t (0,0))∧cs.size=c*k∧(∀(i:Nat) (x:AV) (v:Value),xs[i]? =some x->cs[i]? =some v->v.oneCell'=true∧Bg G x v)∧∀i,G.imm b i=none
structure Wd (G:Gh) (S:List Ac) (w:World):Prop where
 imm:∀b i v,G.imm b i=some v->w.cell? ⟨b,i,none⟩=some v
 dom:∀(i:Nat),(S[i]? =none∨S[i]? =some .dead)->G.loc i=none∧∀n,G.hist i n=none
 obj:∀(i:Nat) (xs:List AV),S[i]? =some (.cells xs)->∃(b:Nat) (cs:Array Value) (t:TypeId),G.loc i=some b∧w.heap[b]? =some (.cells cs t (0,0))∧cs.size=xs.length∧
  (∀(k:Nat) (x:AV) (v:Value),xs[k]? =some x->cs[k]? =some v->v.oneCell'=true∧Bg G x v)∧∀k,G.imm b k=none
 row:∀(j k n:Nat),S[j]? =some (.row k n)->1≤k∧∃A c,G.hist j n=some (.slice A n c)∧(∀n' v',G.hist j n'=some v'->n'≤n)∧n≤c∧
  (n<c->∃(b:Nat) (cs:Array Value) (t:TypeId),A=some ⟨b,0,none⟩∧w.heap[b]? =some (.cells cs t (0,0))∧cs.size=c*k∧∀i,n*k≤i->G.imm b i=none)
 mrow:∀(j k n:Nat) (xs:List AV),S[j]? =some (.mrow k n xs)->1≤k∧xs.length=n*k∧∃A c,G.hist j n=some (.slice A n c)∧(∀n' v',G.hist j n'=some v'->n'≤n)∧n≤c∧c≤9223372036854775807∧R5 G w k xs A c
 raw:∀(i:Nat) (o:Fp) (xs:List AV),S[i]? =some (.raw o xs)->∃b vs,G.loc i=some b∧w.heap[b]? =some (o.obj vs)∧BT G xs vs
 sep:∀i j b,blk G S i=some b->blk G S j=some b->i=j
def Un (G:Gh) (S:List Ac) (b:Nat):Prop:=∀i,blk G S i≠some b
structure AS (G:Gh) (S:List Ac) (w:World) (G':Gh) (S':List Ac) (w':World):Prop where
 le:G.Le G'
 wd:Wd G' S' w'
 kept:CE (Un G S) w w'
 own:∀i b,blk G' S' i=some b->w.heap.size≤b∨∃j,blk G S j=some b
 still:∀b k v,G'.imm b k=some v->G.imm b k=some v∨w.heap.size≤b∨∃j,blk G S j=some b
theorem AS.refl {G:Gh} {S:List Ac} {w:World} (h:Wd G S w):AS G S w G S w:=⟨Gh.Le.refl _,h,CE.refl _ _,λi _ hb=>.inr ⟨i,hb⟩,λ_ _ _ h=>.inl h⟩
theorem AS.trans {G G' G'':Gh} {S S' S'':List Ac} {w w' w'':World} (h:AS G S w G' S' w') (k:AS G' S' w' G'' S'' w''):AS G S w G'' S'' w'':=by
 refine⟨h.le.trans k.le,k.wd,⟨k.kept.os.trans h.kept.os,k.kept.tape.trans h.kept.tape,k.kept.output.trans h.kept.output,Nat.le_trans h.kept.size k.kept.size,λi hi hu=>?_⟩,λi b hb=>?_,λb i v hv=>?_⟩
 ·rw[k.kept.block i (Nat.lt_of_lt_of_le hi h.kept.size) ?_]
  ·exact h.kept.block i hi hu
  ·intro j hj;rcases h.own j i hj with h1|⟨j',h1⟩
   ·omega
   ·exact hu j' h1
 ·rcases k.own i b hb with h1|⟨j,h1⟩
  ·exact .inl (Nat.le_trans h.kept.size h1)
  ·exact h.own j b h1
 ·rcases k.still b i v hv with h1|h1|⟨j,h1⟩
  ·exact h.still b i v h1
  ·exact .inr (.inl (Nat.le_trans h.kept.size h1))
  ·exact .inr (h.own j b h1)
def oE (P:Program) (f:FuncId):Prop:=∃fn,P.funcs[f]? =some fn∧fn.body.isNone=false∧(fn.name== "runtime.NumGoroutine")=false
def Ag (P:Program) (f:FuncId) (args:List AV) (S:List Ac) (r:AV) (S':List Ac):Prop:=
 oE P f∧∀G w (vs:Array Value),Wd G S w->BT G args vs.toList->Calls P f vs w λe w'=>∃v G',e=.returned v∧Bg G' r v∧AS G S w G' S' w'
def Gd.ren (ρ:Nat->Nat):Gd->Gd
 | .row j=>.row (ρ j)
 |t=>t
def AV.ren (ρ:Nat->Nat):AV->AV
 | .lit v=>.lit v
 | .any=>.any
 | .ref i o=>.ref (ρ i) o
 | .iptr cs=>.iptr (cs.map λx=>x.ren ρ)
 | .sl t k xs=>.sl (t.ren ρ) k (xs.map λx=>x.ren ρ)
 | .agg xs=>.agg (xs.map λx=>x.ren ρ)
 | .tup xs=>.tup (xs.map λx=>x.ren ρ)
 | .fn f a b=>.fn f (a.map λx=>x.ren ρ) (b.map λx=>x.ren ρ)
 | .ms j n=>.ms (ρ j) n
 | .mref j n o=>.mref (ρ j) n o
 | .slc k xs=>.slc k (xs.map λx=>x.ren ρ)
 | .mapr i=>.mapr (ρ i)
 | .yv q=>.yv (ρ q)
def Ac.ren (ρ:Nat->Nat):Ac->Ac
 | .dead=>.dead
 | .cells xs=>.cells (xs.map λx=>x.ren ρ)
 | .row k n=>.row k n
 | .mrow k n xs=>.mrow k n (xs.map λx=>x.ren ρ)
 | .raw o xs=>.raw o (xs.map λx=>x.ren ρ)
theorem AV.cells_ren (ρ:Nat->Nat) (x:AV):(x.ren ρ).cells=x.cells.map λx=>x.ren ρ:=by
 cases x<;>simp[AV.ren,AV.cells]
def A6 {α β:Type} {f:α->β} {l:List α} {j:Nat} {y:β} (h:(l.map f)[j]? =some y):∃x,l[j]? =some x∧f x=y:=by
 simpa using h
theorem Bg.ren {G G':Gh} {ρ:Nat->Nat} (hi:∀b i v,G.imm b i=some v->G'.imm b i=some v) (hl:∀k b,G.loc k=some b->G'.loc (ρ k)=some b)
 (hh:∀k n v,G.hist k n=some v->G'.hist (ρ k) n=some v) {x:AV} {v:Value} (r:Bg G x v):Bg G' (x.ren ρ) v:=by
 induction r with
 |lit v=>rw[AV.ren];exact .lit v
 |any v=>rw[AV.ren];exact .any v
 |ref h=>rw[AV.ren];exact .ref (hl _ _ h)
 |iptr vs h1 h2 _ ih=>
  rw[AV.ren];refine .iptr vs (λj hj=>hi _ _ _ (h1 j (by simpa using hj))) (λj hj=>h2 j (by simpa using hj)) λj x hx=>?_
  obtain⟨y,hy,rfl⟩:=A6 hx;exact ih j y hy
 | @sl t k xs A c b o vs hc hA hk h1 h2 _ ht ih=>
   rw[AV.ren];have hlen:(xs.map λx=>x.ren ρ).length=xs.length:=by simp
   have ht':HR G' (t.ren ρ) A xs.length c:=by
    cases t with
    |none=>trivial
    |full=>exact ht
    |row j=>exact hh _ _ _ ht
   rw[←hlen]at ht' hc hA ⊢;refine .sl (b:=b) (o:=o) vs hc hA (λi x hx=>?_) (λi j hii hj=>hi _ _ _ (h1 i j (by simpa using hii) hj)) (λi j hii hj=>h2 i j (by simpa using hii) hj) (λi j x y hx hy=>?_) ht'
   ·obtain⟨z,hz,rfl⟩:=A6 hx;rw[AV.cells_ren];simpa using hk i z hz
   ·obtain⟨z,hz,rfl⟩:=A6 hx;rw[AV.cells_ren]at hy;obtain⟨u,hu,rfl⟩:=A6 hy;exact ih i j z u hz hu
 |agg h0 h2 _ ih=>
  rw[AV.ren];refine .agg (by simpa using h0) h2 λj x v hx hv=>?_
  obtain⟨y,hy,rfl⟩:=A6 hx;exact ih j y v hy hv
 |tup h0 _ ih=>
  rw[AV.ren];refine .tup (by simpa using h0) λj x v hx hv=>?_
  obtain⟨y,hy,rfl⟩:=A6 hx;exact ih j y v hy hv
 |fn hf hc _ _ ih1 ih2=>
  rw[AV.ren];refine .fn (by simpa using hf) (by simpa using hc) (λj x v hx hv=>?_) (λj x v hx hv=>?_)
  ·obtain⟨y,hy,rfl⟩:=A6 hx;exact ih1 j y v hy hv
  ·obtain⟨y,hy,rfl⟩:=A6 hx;exact ih2 j y v hy hv
 |ms h h0=>rw[AV.ren];exact .ms (hh _ _ _ h) h0
 |mref h=>rw[AV.ren];exact .mref (hh _ _ _ h)
 |slc _ ih=>rw[AV.ren];rw[AV.ren]at ih;exact .slc ih
 |mapr h=>rw[AV.ren];exact .mapr (hl _ _ h)
 |yv h=>rw[AV.ren];exact .yv (hl _ _ h)
def Gh.pull (G:Gh) (ρ:Nat->Nat):Gh:=⟨G.imm,λk=>G.loc (ρ k),λk=>G.hist (ρ k)⟩
theorem Bg.pull {G:Gh} {ρ:Nat->Nat} {y:AV} {v:Value} (r:Bg G y v):∀x:AV,x.ren ρ=y->Bg (G.pull ρ) x v:=by
 induction r with
 |lit v=>intro x hx;cases x<;>simp[AV.ren]at hx;subst hx;exact .lit _
 |any v=>intro x hx;cases x<;>simp[AV.ren]at hx;exact .any v
 |ref h=>intro x hx;cases x<;>simp[AV.ren]at hx;obtain⟨rfl,rfl⟩:=hx;exact .ref h
 |iptr vs h1 h2 _ ih=>
  intro x hx;cases x<;>simp[AV.ren]at hx;subst hx;exact .iptr vs (λj hj=>h1 j (by simpa using hj)) (λj hj=>h2 j (by simpa using hj)) λj z hz=>ih j _ (by simp[hz]) z rfl
 | @sl t k xs A c b o vs hc hA hk h1 h2 _ ht ih=>
   intro x hx;cases x<;>simp[AV.ren]at hx;rename_i t' k' xs';obtain⟨rfl,rfl,rfl⟩:=hx;have hlen:(xs'.map λx=>x.ren ρ).length=xs'.length:=by simp
   rw[hlen];refine .sl (b:=b) (o:=o) vs (by simpa using hc) (by simpa using hA) (λi z hz=>?_) (λi j hii hj=>h1 i j (by simpa using hii) hj) (λi j hii hj=>h2 i j (by simpa using hii) hj) (λi j z u hz hu=>?_) ?_
   ·have:=hk i (z.ren ρ) (by simp[hz]);rw[AV.cells_ren]at this;simpa using this
   ·exact ih i j (z.ren ρ) (u.ren ρ) (by simp[hz]) (by rw[AV.cells_ren];simp[hu]) u rfl
   ·rw[hlen]at ht;cases t' with
    |none=>trivial
    |full=>exact ht
    |row j=>exact ht
 |agg h0 h2 _ ih=>
  intro x hx;cases x<;>simp[AV.ren]at hx;subst hx;exact .agg (by simpa using h0) h2 λj z v hz hv=>ih j _ v (by simp[hz]) hv z rfl
 |tup h0 _ ih=>
  intro x hx;cases x<;>simp[AV.ren]at hx;subst hx;exact .tup (by simpa using h0) λj z v hz hv=>ih j _ v (by simp[hz]) hv z rfl
 |fn hf hc _ _ ih1 ih2=>
  intro x hx;cases x<;>simp[AV.ren]at hx;obtain⟨rfl,rfl,rfl⟩:=hx;exact .fn (by simpa using hf) (by simpa using hc) (λj z v hz hv=>ih1 j _ v (by simp[hz]) hv z rfl) (λj z v hz hv=>ih2 j _ v (by simp[hz]) hv z rfl)
 |ms h h0=>intro x hx;cases x<;>simp[AV.ren]at hx;obtain⟨rfl,rfl⟩:=hx;exact .ms h h0
 |mref h=>intro x hx;cases x<;>simp[AV.ren]at hx;obtain⟨rfl,rfl,rfl⟩:=hx;exact .mref h
 |slc _ ih=>
  intro x hx;cases x<;>simp[AV.ren]at hx;rename_i k' xs';obtain⟨rfl,rfl⟩:=hx;exact .slc (ih (.sl .none k' xs') (by rw[AV.ren];rfl))
 |mapr h=>intro x hx;cases x<;>simp[AV.ren]at hx;subst hx;exact .mapr h
 |yv h=>intro x hx;cases x<;>simp[AV.ren]at hx;subst hx;exact .yv h
theorem BT.pull {G:Gh} {ρ:Nat->Nat} {xs:List AV} {vs:List Value} (h:BT G (xs.map λx=>x.ren ρ) vs):BT (G.pull ρ) xs vs:=
 ⟨by simpa using h.1,λj x v hx hv=>(h.2 j (x.ren ρ) v (by simp[hx]) hv).pull x rfl⟩
def AH (ids:List Nat) (N k:Nat):Nat:=ids.getD k (N+k)
theorem Wd.pull {G:Gh} {T S:List Ac} {w:World} (h:Wd G T w) (ids:List Nat) (hn:ids.Nodup) (_hl:S.length≤ids.length)
 (hT:∀(k:Nat) (o:Ac),S[k]? =some o->∃i,ids[k]? =some i∧T[i]? =some (o.ren (AH ids T.length))) (hD:∀(k i:Nat),S.length≤k->ids[k]? =some i->T[i]? =some .dead):
 Wd (G.pull (AH ids T.length)) S w∧∀k,blk (G.pull (AH ids T.length)) S k=none∨blk (G.pull (AH ids T.length)) S k=blk G T (AH ids T.length k):=by
 generalize hρ:AH ids T.length=ρ at*;have hix:∀{k i:Nat},ids[k]? =some i->ρ k=i:=λ{k i} e=>by rw[←hρ];simp[AH,e]
 have hblk:∀k,blk (G.pull ρ) S k=none∨blk (G.pull ρ) S k=blk G T (ρ k):=by
  intro k;cases ho:S[k]? with
  |none=>left;simp[blk,ho]
  |some o=>
   right;have⟨i,hi,hTi⟩:=hT k o ho;rw[hix hi];cases o<;>simp[blk,ho,hTi,Ac.ren,Gh.pull,hix hi]
 refine⟨⟨h.imm,?_,?_,?_,?_,?_,?_⟩,hblk⟩
 ·intro k hk;have key:T[ρ k]? =none∨T[ρ k]? =some .dead:=by
   cases hi:ids[k]? with
   |none=>
    left;have hge:ids.length≤k:=Sx hi
    rw[←hρ];simp[AH,hi]
   |some i=>
    right;rw[hix hi];by_cases hkS:S.length≤k
    ·exact hD k i hkS hi
    ·obtain⟨o,ho⟩:∃o,S[k]? =some o:=⟨S[k]'Om,Si⟩;have⟨i',hi',hTi⟩:=hT k o ho;rw[hi]at hi';injection hi' with hi';subst hi';rcases hk with hk|hk
     ·rw[hk]at ho;cases ho
     ·rw[hk]at ho;injection ho with ho;subst ho;exact hTi
  exact⟨(h.dom _ key).1,(h.dom _ key).2⟩
 ·intro k xs hk;have⟨i,hi,hTi⟩:=hT k _ hk;have⟨b,cs,t,h1,h2,h3,h4,h5⟩:=h.obj i _ hTi;refine⟨b,cs,t,?_,h2,by simpa using h3,λj x v hx hv=>?_,h5⟩
  ·show G.loc (ρ k)=some b;rw[hix hi];exact h1
  ·have⟨g1,g2⟩:=h4 j (x.ren ρ) v (by simp[hx]) hv;exact⟨g1,g2.pull x rfl⟩
 ·intro j k n hj;have⟨i,hi,hTi⟩:=hT j _ hj;have⟨h0,A,c,h1,h2,h3⟩:=h.row i k n hTi;exact⟨h0,A,c,by show G.hist (ρ j) n=_;rw[hix hi];exact h1,λn' v' e=>h2 n' v' (by rw[←hix hi];exact e),h3⟩
 ·intro j k n xs hj;have⟨i,hi,hTi⟩:=hT j _ hj;have⟨h0,hl,A,c,h1,h2,h3,hc6,h4⟩:=h.mrow i k n _ hTi;refine⟨h0,by simpa using hl,A,c,by show G.hist (ρ j) n=_;rw[hix hi];exact h1,λn' v' e=>h2 n' v' (by rw[←hix hi];exact e),h3,hc6,λhc=>?_⟩;have⟨b,cs,t,g1,g2,g3,g4,g5⟩:=h4 hc;refine⟨b,cs,t,g1,g2,g3,λq x v hx hv=>?_,g5⟩;have⟨p1,p2⟩:=g4 q (x.ren ρ) v (by simp[hx]) hv;exact⟨p1,p2.pull x rfl⟩
 ·intro k o xs hk;have⟨i,hi,hTi⟩:=hT k _ hk;have⟨b,vs,h1,h2,h3⟩:=h.raw i o _ hTi;exact⟨b,vs,by show G.loc (ρ k)=_;rw[hix hi];exact h1,h2,h3.pull⟩
 ·intro i j b hi hj;have bound:∀{k:Nat} {b:Nat},blk (G.pull ρ) S k=some b->∃o,S[k]? =some o:=λ{k b} e=>by
   cases ho:S[k]? with
   |none=>simp[blk,ho]at e
   |some o=>exact⟨o,rfl⟩
  have⟨oi,hoi⟩:=bound hi;have⟨oj,hoj⟩:=bound hj;have⟨pi,hpi,_⟩:=hT i oi hoi;have⟨pj,hpj,_⟩:=hT j oj hoj;have e1:=(hblk i).resolve_left (by rw[hi];simp);have e2:=(hblk j).resolve_left (by rw[hj];simp);have:=h.sep (ρ i) (ρ j) b (by rw[←e1];exact hi) (by rw[←e2];exact hj);rw[hix hpi,hix hpj]at this;subst this;exact(getElem?_inj (by
   rcases Nat.lt_or_ge i ids.length with hlt|hge
   ·exact hlt
   ·rw[getElem?_eq_none hge]at hpi;cases hpi) hn).1 (hpi.trans hpj.symm)
def Cv (T:List Ac) (u:List (Nat×Ac)):List Ac:=u.foldl (λT p=>T.set p.1 p.2) T
@[simp] theorem Sg (T:List Ac):Cv T []=T:=rfl
@[simp] theorem CF (T:List Ac) (p:Nat×Ac) (u:List (Nat×Ac)):Cv T (p::u)=Cv (T.set p.1 p.2) u:=rfl
@[simp] theorem H2 (T:List Ac) (u:List (Nat×Ac)):(Cv T u).length=T.length:=by
 induction u generalizing T with
 |nil=>rfl
 |cons p u ih=>rw[CF,ih];simp
theorem Dv (T:List Ac) (u:List (Nat×Ac)) (i:Nat) (h:i∉u.map (·.1)):(Cv T u)[i]? =T[i]? :=by
 induction u generalizing T with
 |nil=>rfl
 |cons p u ih=>
  simp only[map_cons,mem_cons,not_or]at h;rw[CF,ih _ h.2,getElem?_set_ne (Ne.symm h.1)]
theorem Qp (T:List Ac) (u:List (Nat×Ac)) (hn:(u.map (·.1)).Nodup) (i:Nat) (o:Ac) (h:(i,o)∈u) (hi:i<T.length):(Cv T u)[i]? =some o:=by
 induction u generalizing T with
 |nil=>cases h
 |cons p u ih=>
  simp only[map_cons,nodup_cons]at hn;rw[CF];rcases mem_cons.1 h with rfl|h
  ·rw[Dv _ _ _ hn.1];simp[hi]
  ·exact ih _ hn.2 h (by simpa using hi)
theorem Eb {ids:List Nat} {N k i:Nat} (e:ids[k]? =some i):AH ids N k=i:=by simp[AH,e]
def bB {ids:List Nat} (hn:ids.Nodup) {k k' i:Nat} (h:ids[k]? =some i) (h':ids[k']? =some i):k=k':=
 (getElem?_inj (by
   rcases Nat.lt_or_ge k ids.length with hlt|hge
   ·exact hlt
   ·rw[getElem?_eq_none hge]at h;cases h) hn).1 (h.trans h'.symm)
def Gh.push (G G':Gh) (ids:List Nat):Gh:=
 ⟨G'.imm,λi=>if i∈ids then G'.loc (ids.idxOf i)else G.loc i,λi=>if i∈ids then G'.hist (ids.idxOf i)else G.hist i⟩
theorem CP {G G':Gh} {ids:List Nat} (hn:ids.Nodup) {k i:Nat} (h:ids[k]? =some i):(G.push G' ids).loc i=G'.loc k∧(G.push G' ids).hist i=G'.hist k:=by
 have hm:i∈ids:=mem_of_getElem? h;have hk:ids.idxOf i=k:=bB hn (by rw[getElem?_eq_getElem (idxOf_lt_length_of_mem hm)];simp) h;simp[Gh.push,hm,hk]
def HH {G:Gh} {T:List Ac} {w:World} (h:Wd G T w) {i b:Nat} (hb:blk G T i=some b):b<w.heap.size:=by
 unfold blk at hb;split at hb
 ·rename_i xs hi;have⟨b',cs,t,h1,h2,_⟩:=h.obj i xs hi;rw[h1]at hb;injection hb with hb;subst hb;exact(Array.getElem?_eq_some_iff.1 h2).1
 ·rename_i k n hi;have⟨_,A,c,h1,h2,h3,h4⟩:=h.row i k n hi;rw[h1]at hb;split at hb
  ·rename_i a _ c' heq;split at hb
   ·rename_i hlt;injection heq with heq;injection heq with e1 e2 e3;subst e1 e3;have⟨b',cs,t,h5,h6,_⟩:=h4 hlt;injection h5 with h5;injection hb with hb;rw[←hb,h5];exact(Array.getElem?_eq_some_iff.1 h6).1
   ·cases hb
  ·cases hb
 ·rename_i k n xs hi;have⟨_,_,A,c,h1,h2,h3,_,h4⟩:=h.mrow i k n xs hi;rw[h1]at hb;split at hb
  ·rename_i a _ c' heq;split at hb
   ·rename_i hlt;injection heq with heq;injection heq with e1 e2 e3;subst e1 e3;have⟨b',cs,t,h5,h6,_⟩:=h4 hlt;injection h5 with h5;injection hb with hb;rw[←hb,h5];exact(Array.getElem?_eq_some_iff.1 h6).1
   ·cases hb
  ·cases hb
 ·rename_i o xs hi;have⟨b',vs,h1,h2,_⟩:=h.raw i o xs hi;rw[h1]at hb;injection hb with hb;subst hb;exact(Array.getElem?_eq_some_iff.1 h2).1
 ·cases hb
theorem AS.push {G:Gh} {T S S':List Ac} {w w':World} {G':Gh} (h:Wd G T w) (ids:List Nat) (hn:ids.Nodup) (hl:ids.length=S'.length) (hSl:S.length≤S'.length)
 (hT:∀(k:Nat) (o:Ac),S[k]? =some o->∃i,ids[k]? =some i∧T[i]? =some (o.ren (AH ids T.length))) (hD:∀(k i:Nat),S.length≤k->ids[k]? =some i->T[i]? =some .dead)
 (hs:AS (G.pull (AH ids T.length)) S w G' S' w'):
 AS G T w (G.push G' ids) (Cv T (ids.zip (S'.map λo=>o.ren (AH ids T.length)))) w'∧∀x v,Bg G' x v->Bg (G.push G' ids) (x.ren (AH ids T.length)) v:=by
 have hpull:=Wd.pull h ids hn Om hT hD;have hTlt:∀{k i:Nat},ids[k]? =some i->i<T.length:=λ{k i} e=>by
  rcases Nat.lt_or_ge k S.length with hk|hk
  ·have⟨i',h1,h2⟩:=hT k _ (getElem?_eq_getElem hk);rw[e]at h1;injection h1 with h1;subst h1;exact(Ge h2)
  ·exact(Ge (hD k i hk e))
 generalize hρ:AH ids T.length=ρ at*;have hix:∀{k i:Nat},ids[k]? =some i->ρ k=i:=λ{k i} e=>by rw[←hρ];exact Eb e
 have hge:∀{k:Nat},ids[k]? =none->ρ k=T.length+k:=λ{k} e=>by rw[←hρ];simp[AH,e]
 have hzip:(ids.zip (S'.map λo=>o.ren ρ)).map (·.1)=ids:=by rw[map_fst_zip];simp[hl]
 have hat:∀(k i:Nat) (o:Ac),ids[k]? =some i->S'[k]? =some o->(Cv T (ids.zip (S'.map λo=>o.ren ρ)))[i]? =some (o.ren ρ):=by
  intro k i o hk ho;refine Qp _ _ (by rw[hzip];exact hn) i _ (mem_of_getElem? (i:=k) ?_) (hTlt hk);rw[getElem?_zip_eq_some];exact⟨hk,by simp[ho]⟩
 have hout:∀i,i∉ids->(Cv T (ids.zip (S'.map λo=>o.ren ρ)))[i]? =T[i]? :=λi hi=>Dv _ _ _ (by rw[hzip];exact hi)
 have hin:∀i,i∈ids->∃(k:Nat) (o:Ac),ids[k]? =some i∧S'[k]? =some o:=by
  intro i hi;obtain⟨k,hk,rfl⟩:=getElem_of_mem hi;exact⟨k,S'[k]'Om,Si,Si⟩
 have hloc:∀k b,G'.loc k=some b->(G.push G' ids).loc (ρ k)=some b:=by
  intro k b hb;cases hk:ids[k]? with
  |none=>
   have:S'[k]? =none:=by rw[List.getElem?_eq_none_iff]at hk ⊢;omega
   rw[(hs.wd.dom k (.inl this)).1]at hb;cases hb
  |some i=>rw[hix hk,(CP hn hk).1];exact hb
 have hhist:∀k n v,G'.hist k n=some v->(G.push G' ids).hist (ρ k) n=some v:=by
  intro k n v hb;cases hk:ids[k]? with
  |none=>
   have:S'[k]? =none:=by rw[List.getElem?_eq_none_iff]at hk ⊢;omega
   rw[(hs.wd.dom k (.inl this)).2]at hb;cases hb
  |some i=>rw[hix hk,(CP hn hk).2];exact hb
 have himm:∀b i v,G'.imm b i=some v->(G.push G' ids).imm b i=some v:=λ_ _ _ e=>e
 have hren:∀{x:AV} {v:Value},Bg G' x v->Bg (G.push G' ids) (x.ren ρ) v:=λr=>r.ren himm hloc hhist
 have hle:G.Le (G.push G' ids):=by
  refine⟨λb i v hv=>hs.le.imm b i v hv,λi b hb=>?_,λi n v hv=>?_⟩
  ·by_cases hi:i∈ids
   ·have⟨k,o,hk,_⟩:=hin i hi;rw[(CP hn hk).1];exact hs.le.loc k b (by show G.loc (ρ k)=_;rw[hix hk];exact hb)
   ·simpa[Gh.push,hi]using hb
  ·by_cases hi:i∈ids
   ·have⟨k,o,hk,_⟩:=hin i hi;rw[(CP hn hk).2];exact hs.le.hist k n v (by show G.hist (ρ k) n=_;rw[hix hk];exact hv)
   ·simpa[Gh.push,hi]using hv
 have hblkin:∀{k i:Nat} {b:Nat},ids[k]? =some i->(blk (G.push G' ids) (Cv T (ids.zip (S'.map λo=>o.ren ρ))) i=some b↔blk G' S' k=some b):=by
  intro k i b hk;have hk':k<S'.length:=by
   rw[←hl];rcases Nat.lt_or_ge k ids.length with hlt|hge
   ·exact hlt
   ·rw[getElem?_eq_none hge]at hk;cases hk
  have ho:=getElem?_eq_getElem hk';have e:=hat k i _ hk ho;unfold blk;rw[e,ho];cases S'[k]with
  |dead=>simp[Ac.ren]
  |cells xs=>simp only[Ac.ren,(CP hn hk).1]
  |row k n=>simp only[Ac.ren,(CP hn hk).2]
  |mrow k n xs=>simp only[Ac.ren,(CP hn hk).2]
  |raw o xs=>simp only[Ac.ren,(CP hn hk).1]
 have hblkout:∀{i:Nat},i∉ids->blk (G.push G' ids) (Cv T (ids.zip (S'.map λo=>o.ren ρ))) i=blk G T i:=by
  intro i hi;unfold blk;rw[hout i hi];cases T[i]? with
  |none=>rfl
  |some o=>cases o<;>simp[Gh.push,hi]
 have hpin:∀{k i:Nat} {b:Nat},ids[k]? =some i->blk (G.pull ρ) S k=some b->blk G T i=some b:=by
  intro k i b hk hb;rw[←hix hk,←hb];exact((hpull.2 k).resolve_left (by rw[hb];simp)).symm
 have hpk:∀{k:Nat} {b:Nat},blk (G.pull ρ) S k=some b->∃i,ids[k]? =some i:=by
  intro k b hb;cases ho:S[k]? with
  |none=>simp[blk,ho]at hb
  |some o=>have⟨i,hi,_⟩:=hT k o ho;exact⟨i,hi⟩
 have hlt:∀{i b:Nat},blk G T i=some b->b<w.heap.size:=λ{i b} hb=>HH h hb
 have hsep:∀{i k b:Nat},i∉ids->blk G T i=some b->blk (G.pull ρ) S k=some b->False:=by
  intro i k b hi hb hb';have⟨i',hi'⟩:=hpk hb';have:=h.sep i i' b hb (hpin hi' hb');subst this;exact hi (mem_of_getElem? hi')
 have hun:∀{i b:Nat},i∉ids->blk G T i=some b->Un (G.pull ρ) S b:=λ{i b} hi hb k hk=>hsep hi hb hk
 have hstill:∀{i b k:Nat},i∉ids->blk G T i=some b->G.imm b k=none->(G.push G' ids).imm b k=none:=by
  intro i b k hi hb hk;cases hc:(G.push G' ids).imm b k with
  |none=>rfl
  |some u=>
   exfalso;rcases hs.still b k u hc with h1|h1|⟨j,h1⟩
   ·have:G.imm b k=some u:=h1;rw[hk]at this;cases this
   ·have:=hlt hb;omega
   ·exact hsep hi hb h1
 have hcross:∀{k i j b:Nat},ids[k]? =some i->blk G' S' k=some b->j∉ids->blk G T j=some b->False:=by
  intro k i j b hk hb hj hb';rcases hs.own k b hb with h1|⟨q,h1⟩
  ·have:=hlt hb';omega
  ·exact hsep hj hb' h1
 refine⟨⟨hle,⟨hs.wd.imm,?_,?_,?_,?_,?_,?_⟩,?_,?_,?_⟩,λx v r=>hren r⟩
 ·intro i hi;by_cases hm:i∈ids
  ·have⟨k,o,hk,ho⟩:=hin i hm;rw[hat k i o hk ho]at hi;have hd:o=.dead:=by
    rcases hi with hi|hi
    ·cases hi
    ·cases o<;>simp[Ac.ren]at hi ⊢
   subst hd;rw[(CP hn hk).1,(CP hn hk).2];exact hs.wd.dom k (.inr ho)
  ·rw[hout i hm]at hi;simpa[Gh.push,hm]using h.dom i hi
 ·intro i xs hi;by_cases hm:i∈ids
  ·have⟨k,o,hk,ho⟩:=hin i hm;rw[hat k i o hk ho]at hi;cases o<;>simp[Ac.ren]at hi;rename_i ys;subst hi;have⟨b,cs,t,h1,h2,h3,h4,h5⟩:=hs.wd.obj k ys ho;refine⟨b,cs,t,by rw[(CP hn hk).1];exact h1,h2,by simpa using h3,λj x v hx hv=>?_,h5⟩;obtain⟨y,hy,rfl⟩:=A6 hx;exact⟨(h4 j y v hy hv).1,hren (h4 j y v hy hv).2⟩
  ·rw[hout i hm]at hi;have⟨b,cs,t,h1,h2,h3,h4,h5⟩:=h.obj i xs hi;have hb:blk G T i=some b:=by simp[blk,hi,h1]
   have e:=hs.kept.block b (hlt hb) (hun hm hb);exact⟨b,cs,t,by simpa[Gh.push,hm]using h1,by rw[e];exact h2,h3,λj x v hx hv=>⟨(h4 j x v hx hv).1,(h4 j x v hx hv).2.mono hle⟩,λk=>hstill hm hb (h5 k)⟩
 ·intro i k n hi;by_cases hm:i∈ids
  ·have⟨q,o,hq,ho⟩:=hin i hm;rw[hat q i o hq ho]at hi;cases o<;>simp[Ac.ren]at hi;obtain⟨rfl,rfl⟩:=hi;have⟨h0,A,c,h1,h2,h3,h4⟩:=hs.wd.row q _ _ ho;exact⟨h0,A,c,by rw[(CP hn hq).2];exact h1,λn' v' e=>h2 n' v' (by rw[←(CP hn hq).2];exact e),h3,h4⟩
  ·rw[hout i hm]at hi;have⟨h0,A,c,h1,h2,h3,h4⟩:=h.row i k n hi;refine⟨h0,A,c,by simpa[Gh.push,hm]using h1,λn' v' e=>h2 n' v' (by simpa[Gh.push,hm]using e),h3,λhlt'=>?_⟩;have⟨b,cs,t,g1,g2,g3,g4⟩:=h4 hlt';have hb:blk G T i=some b:=by simp[blk,hi,h1,hlt',g1]
   have e:=hs.kept.block b (hlt hb) (hun hm hb);exact⟨b,cs,t,g1,by rw[e];exact g2,g3,λq hq1=>hstill hm hb (g4 q hq1)⟩
 ·intro i k n xs hi;by_cases hm:i∈ids
  ·have⟨q,o,hq,ho⟩:=hin i hm;rw[hat q i o hq ho]at hi;cases o<;>simp[Ac.ren]at hi;rename_i ys;obtain⟨rfl,rfl,rfl⟩:=hi;have⟨h0,hl,A,c,h1,h2,h3,hc6,h4⟩:=hs.wd.mrow q _ _ _ ho;refine⟨h0,by simpa using hl,A,c,by rw[(CP hn hq).2];exact h1,λn' v' e=>h2 n' v' (by rw[←(CP hn hq).2];exact e),h3,hc6,λhc=>?_⟩;have⟨b,cs,t,g1,g2,g3,g4,g5⟩:=h4 hc;refine⟨b,cs,t,g1,g2,g3,λp x v hx hv=>?_,g5⟩;obtain⟨y,hy,rfl⟩:=A6 hx;exact⟨(g4 p y v hy hv).1,hren (g4 p y v hy hv).2⟩
  ·rw[hout i hm]at hi;have⟨h0,hl,A,c,h1,h2,h3,hc6,h4⟩:=h.mrow i k n xs hi;refine⟨h0,hl,A,c,by simpa[Gh.push,hm]using h1,λn' v' e=>h2 n' v' (by simpa[Gh.push,hm]using e),h3,hc6,λhlt'=>?_⟩;have⟨b,cs,t,g1,g2,g3,g4,g5⟩:=h4 hlt';have hb:blk G T i=some b:=by simp[blk,hi,h1,hlt',g1]
   have e:=hs.kept.block b (hlt hb) (hun hm hb);exact⟨b,cs,t,g1,by rw[e];exact g2,g3,λp x v hx hv=>⟨(g4 p x v hx hv).1,(g4 p x v hx hv).2.mono hle⟩,λq=>hstill hm hb (g5 q)⟩
 ·intro i o xs hi;by_cases hm:i∈ids
  ·have⟨q,o',hq,ho⟩:=hin i hm;rw[hat q i o' hq ho]at hi;cases o'<;>simp[Ac.ren]at hi;rename_i o' ys;obtain⟨rfl,rfl⟩:=hi;have⟨b,vs,h1,h2,h3⟩:=hs.wd.raw q _ _ ho;exact⟨b,vs,by rw[(CP hn hq).1];exact h1,h2,by simpa using h3.1,λj x v hx hv=>by
    obtain⟨y,hy,rfl⟩:=A6 hx;exact hren (h3.2 j y v hy hv)⟩
  ·rw[hout i hm]at hi;have⟨b,vs,h1,h2,h3⟩:=h.raw i o xs hi;have hb:blk G T i=some b:=by simp[blk,hi,h1]
   exact⟨b,vs,by simpa[Gh.push,hm]using h1,by rw[hs.kept.block b (hlt hb) (hun hm hb)];exact h2,h3.mono hle⟩
 ·intro i j b hi hj;by_cases hm:i∈ids<;>by_cases hm':j∈ids
  ·have⟨k,o,hk,ho⟩:=hin i hm;have⟨k',o',hk',ho'⟩:=hin j hm';have:=hs.wd.sep k k' b ((hblkin hk).1 hi) ((hblkin hk').1 hj);subst this;rw[hk]at hk';injection hk'
  ·have⟨k,o,hk,ho⟩:=hin i hm;exact(hcross hk ((hblkin hk).1 hi) hm' (by rw[←hblkout hm'];exact hj)).elim
  ·have⟨k,o,hk,ho⟩:=hin j hm';exact(hcross hk ((hblkin hk).1 hj) hm (by rw[←hblkout hm];exact hi)).elim
  ·exact h.sep i j b (by rw[←hblkout hm];exact hi) (by rw[←hblkout hm'];exact hj)
 ·exact hs.kept.mono λb _ hu k hk=>by
   have⟨i,hi⟩:=hpk hk;exact hu i (hpin hi hk)
 ·intro i b hi;by_cases hm:i∈ids
  ·have⟨k,o,hk,ho⟩:=hin i hm;rcases hs.own k b ((hblkin hk).1 hi)with h1|⟨j,h1⟩
   ·exact .inl h1
   ·have⟨i',hi'⟩:=hpk h1;exact .inr ⟨i',hpin hi' h1⟩
  ·exact .inr ⟨i,by rw[←hblkout hm];exact hi⟩
 ·intro b k v hv;rcases hs.still b k v hv with h1|h1|⟨j,h1⟩
  ·exact .inl h1
  ·exact .inr (.inl h1)
  ·have⟨i',hi'⟩:=hpk h1;exact .inr (.inr ⟨i',hpin hi' h1⟩)
theorem Ag.embed {P:Program} {f:FuncId} {args:List AV} {S:List Ac} {r:AV} {S':List Ac} (hd:Ag P f args S r S') (T:List Ac) (ids:List Nat) (hn:ids.Nodup) (hl:ids.length=S'.length) (hSl:S.length≤S'.length)
 (hT:∀(k:Nat) (o:Ac),S[k]? =some o->∃i,ids[k]? =some i∧T[i]? =some (o.ren (AH ids T.length))) (hD:∀(k i:Nat),S.length≤k->ids[k]? =some i->T[i]? =some .dead):
 Ag P f (args.map λx=>x.ren (AH ids T.length)) T (r.ren (AH ids T.length)) (Cv T (ids.zip (S'.map λo=>o.ren (AH ids T.length)))):=by
 refine⟨hd.1,?_⟩;intro G w vs hw hr;refine(hd.2 (G.pull (AH ids T.length)) w vs (Wd.pull hw ids hn Om hT hD).1 hr.pull).mono ?_;rintro e w' ⟨v,G',rfl,hv,hs⟩;have:=AS.push hw ids hn hl hSl hT hD hs;exact⟨v,_,rfl,this.2 r v hv,this.1⟩
theorem Ag.clean {P:Program} {f:FuncId} {args:List AV} {S:List Ac} {r r':AV} {S' T:List Ac} (hd:Ag P f args S r' T) (ids:List Nat) (hn:ids.Nodup) (hl:ids.length=S'.length) (hSl:S.length≤S'.length)
 (hp:∀(k i:Nat),k<S.length->ids[k]? =some i->i=k)
 (hT:∀(k:Nat) (o:Ac),S'[k]? =some o->∃i,ids[k]? =some i∧T[i]? =some (o.ren (AH ids T.length))) (hr:r.ren (AH ids T.length)=r'):Ag P f args S r S':=by
 refine⟨hd.1,?_⟩;intro G w vs hw hra;refine(hd.2 G w vs hw hra).mono ?_;rintro e w' ⟨v,G',rfl,hv,hs⟩;have hD:∀(k i:Nat),S'.length≤k->ids[k]? =some i->T[i]? =some .dead:=λk i hk hi=>by
  rw[getElem?_eq_none Om]at hi;cases hi
 have⟨hwd,hblk⟩:=Wd.pull hs.wd ids hn Om hT hD;have hid:∀k,k<S.length->AH ids T.length k=k:=λk hk=>by
  have e:ids[k]? =some (ids[k]'Om):=by simp
  rw[Eb e];exact hp k _ hk e
 refine⟨v,_,rfl,hv.pull r hr,⟨⟨hs.le.imm,λi b hb=>?_,λi n u hb=>?_⟩,hwd,hs.kept,λi b hb=>?_,hs.still⟩⟩
 ·have hi:i<S.length:=by
   rcases Nat.lt_or_ge i S.length with h|h
   ·exact h
   ·rw[(hw.dom i (.inl (getElem?_eq_none h))).1]at hb;cases hb
  show G'.loc (AH ids T.length i)=_;rw[hid i hi];exact hs.le.loc i b hb
 ·have hi:i<S.length:=by
   rcases Nat.lt_or_ge i S.length with h|h
   ·exact h
   ·rw[(hw.dom i (.inl (getElem?_eq_none h))).2]at hb;cases hb
  show G'.hist (AH ids T.length i) n=_;rw[hid i hi];exact hs.le.hist i n u hb
 ·rcases hblk i with h|h
  ·rw[h]at hb;cases hb
  ·rw[h]at hb;exact hs.own _ b hb
def Q9 {G:Gh} {T:List Ac} {w:World} (h:Wd G T w) {b i:Nat} {v:Value} (hv:G.imm b i=some v):b<w.heap.size:=
 World.block_lt_of_cell? w _ (h.imm b i v hv)
structure C_ (w w':World) (o:Obj):Prop where
 os:w'.os=w.os
 tape:w'.tape=w.tape
 output:w'.output=w.output
 heap:w'.heap=w.heap.push o
theorem C_.alloc (w:World) (o:Obj):C_ w (w.alloc o) o:=⟨rfl,rfl,rfl,rfl⟩
theorem C_.drew (w:World) (o:Obj):C_ w (w.drew.alloc o) o:=⟨rfl,rfl,rfl,rfl⟩
theorem C_.old {w w':World} {o:Obj} (h:C_ w w' o) {i:Nat} (hi:i<w.heap.size):w'.heap[i]? =w.heap[i]? :=by
 rw[h.heap,Array.getElem?_push_lt hi];simp[hi]
theorem C_.new {w w':World} {o:Obj} (h:C_ w w' o):w'.heap[w.heap.size]? =some o:=by
 rw[h.heap];simp
theorem C_.size {w w':World} {o:Obj} (h:C_ w w' o):w'.heap.size=w.heap.size+1:=by rw[h.heap];simp
theorem C_.kept {w w':World} {o:Obj} (h:C_ w w' o) (K:Nat->Prop):CE K w w':=⟨h.os,h.tape,h.output,by rw[h.size];omega,λ_ hi _=>h.old hi⟩
theorem C_.cell {w w':World} {o:Obj} (h:C_ w w' o) {a:Addr} {v:Value} (hc:w.cell? a=some v):w'.cell? a=some v:=
 (World.cell?_of_block (w:=w) (h.old (World.block_lt_of_cell? w _ hc))).trans hc
def Gh.newLoc (G:Gh) (id b:Nat):Gh:=⟨G.imm,λi=>if i=id then some b else G.loc i,G.hist⟩
def Gh.newImm (G:Gh) (b:Nat) (vs:List Value):Gh:=⟨λb' i=>if b'=b then vs[i]? else G.imm b' i,G.loc,G.hist⟩
def Gh.newHist (G:Gh) (id n:Nat) (v:Value):Gh:=⟨G.imm,G.loc,λj m=>if j=id∧m=n then some v else G.hist j m⟩
theorem Wd.more {G:Gh} {T:List Ac} {w w':World} {o:Obj} (h:Wd G T w) (hm:C_ w w' o):Wd G T w':=by
 refine⟨λb i v hv=>hm.cell (h.imm b i v hv),h.dom,λi xs hi=>?_,λj k n hj=>?_,λj k n xs hj=>?_,λi o xs hi=>?_,h.sep⟩
 ·have⟨b,cs,t,h1,h2,h3,h4,h5⟩:=h.obj i xs hi;exact⟨b,cs,t,h1,by rw[hm.old (Array.getElem?_eq_some_iff.1 h2).1];exact h2,h3,h4,h5⟩
 ·have⟨h0,A,c,h1,h2,h3,h4⟩:=h.row j k n hj;refine⟨h0,A,c,h1,h2,h3,λhlt=>?_⟩;have⟨b,cs,t,g1,g2,g3,g4⟩:=h4 hlt;exact⟨b,cs,t,g1,by rw[hm.old (Array.getElem?_eq_some_iff.1 g2).1];exact g2,g3,g4⟩
 ·have⟨h0,hl,A,c,h1,h2,h3,hc6,h4⟩:=h.mrow j k n xs hj;refine⟨h0,hl,A,c,h1,h2,h3,hc6,λhlt=>?_⟩;have⟨b,cs,t,g1,g2,g3,g4⟩:=h4 hlt;exact⟨b,cs,t,g1,by rw[hm.old (Array.getElem?_eq_some_iff.1 g2).1];exact g2,g3,g4⟩
 ·have⟨b,vs,h1,h2,h3⟩:=h.raw i o xs hi;exact⟨b,vs,h1,by rw[hm.old (Array.getElem?_eq_some_iff.1 h2).1];exact h2,h3⟩
theorem AS.more {G:Gh} {T:List Ac} {w w':World} {o:Obj} (h:Wd G T w) (hm:C_ w w' o):AS G T w G T w':=
 ⟨Gh.Le.refl _,h.more hm,hm.kept _,λi _ hb=>.inr ⟨i,hb⟩,λ_ _ _ h=>.inl h⟩
theorem Wd.drawn {G:Gh} {T:List Ac} {w w':World} (h:Wd G T w) (hh:w'.heap=w.heap):Wd G T w':=by
 refine⟨λb i v hv=>(World.cell?_of_block (w:=w) (by rw[hh])).trans (h.imm b i v hv),h.dom,λi xs hi=>?_,λj k n hj=>?_,λj k n xs hj=>?_,λi o xs hi=>by rw[hh];exact h.raw i o xs hi,h.sep⟩
 ·rw[hh];exact h.obj i xs hi
 ·rw[hh];exact h.row j k n hj
 ·have⟨h0,hl,A,c,h1,h2,h3,hc6,h4⟩:=h.mrow j k n xs hj;exact⟨h0,hl,A,c,h1,h2,h3,hc6,λhlt=>by rw[hh];exact h4 hlt⟩
theorem Wd.claim {G:Gh} {T:List Ac} {w:World} (h:Wd G T w) (b:Nat) (vs:List Value) (hc:∀(i:Nat) (v:Value),vs[i]? =some v->w.cell? ⟨b,i,none⟩=some v)
 (hn:∀i,G.imm b i=none) (hb:∀i,blk G T i≠some b):Wd (G.newImm b vs) T w∧G.Le (G.newImm b vs):=by
 have hle:G.Le (G.newImm b vs):=by
  refine⟨λb' i v hv=>?_,λ_ _ h=>h,λ_ _ _ h=>h⟩;by_cases e:b'=b
  ·subst e;rw[hn i]at hv;cases hv
  ·simpa[Gh.newImm,e]using hv
 have hblk:∀i,blk (G.newImm b vs) T i=blk G T i:=λi=>rfl
 refine⟨⟨λb' i v hv=>?_,h.dom,λi xs hi=>?_,λj k n hj=>?_,λj k n xs hj=>?_,λi o xs hi=>?_,λi j b' hi hj=>h.sep i j b' hi hj⟩,hle⟩
 ·by_cases e:b'=b
  ·subst e;simp[Gh.newImm]at hv;exact hc i v hv
  ·simp[Gh.newImm,e]at hv;exact h.imm b' i v hv
 ·have⟨b',cs,t,h1,h2,h3,h4,h5⟩:=h.obj i xs hi;refine⟨b',cs,t,h1,h2,h3,λk x v hx hv=>⟨(h4 k x v hx hv).1,(h4 k x v hx hv).2.mono hle⟩,λk=>?_⟩;have:b'≠b:=by rintro rfl;exact hb i (by simp[blk,hi,h1])
  simpa[Gh.newImm,this]using h5 k
 ·have⟨h0,A,c,h1,h2,h3,h4⟩:=h.row j k n hj;refine⟨h0,A,c,h1,h2,h3,λhlt=>?_⟩;have⟨b',cs,t,g1,g2,g3,g4⟩:=h4 hlt;refine⟨b',cs,t,g1,g2,g3,λi hi=>?_⟩;have:b'≠b:=by rintro rfl;exact hb j (by simp[blk,hj,h1,hlt,g1])
  simpa[Gh.newImm,this]using g4 i hi
 ·have⟨h0,hl,A,c,h1,h2,h3,hc6,h4⟩:=h.mrow j k n xs hj;refine⟨h0,hl,A,c,h1,h2,h3,hc6,λhlt=>?_⟩;have⟨b',cs,t,g1,g2,g3,g4,g5⟩:=h4 hlt;refine⟨b',cs,t,g1,g2,g3,λq x v hx hv=>⟨(g4 q x v hx hv).1,(g4 q x v hx hv).2.mono hle⟩,λi=>?_⟩;have:b'≠b:=by rintro rfl;exact hb j (by simp[blk,hj,h1,hlt,g1])
  simpa[Gh.newImm,this]using g5 i
 ·have⟨b',vs',h1,h2,h3⟩:=h.raw i o xs hi;exact⟨b',vs',h1,h2,h3.mono hle⟩
theorem R5.mono {G G':Gh} {w:World} {k:Nat} {xs:List AV} {A:Option Addr} {c:Nat} (h:R5 G w k xs A c) (hle:G.Le G') (hi:G'.imm=G.imm):R5 G' w k xs A c:=λhc=>by
 have⟨b,cs,t,g1,g2,g3,g4,g5⟩:=h hc;exact⟨b,cs,t,g1,g2,g3,λq x v hx hv=>⟨(g4 q x v hx hv).1,(g4 q x v hx hv).2.mono hle⟩,λi=>by rw[hi];exact g5 i⟩
theorem AS.new {G:Gh} {T:List Ac} {w w':World} {id:Nat} {xs:List AV} {vs:List Value} {t:TypeId} (h:Wd G T w) (hid:T[id]? =some .dead) (hr:BT G xs vs) (ho:∀v∈vs,v.oneCell'=true)
 (hm:C_ w w' (.cells vs.toArray t)):AS G T w (G.newLoc id w.heap.size) (T.set id (.cells xs)) w':=by
 have hlt:id<T.length:=(Ge hid);have hd:=h.dom id (.inr hid);have hw:=h.more hm;have hle:G.Le (G.newLoc id w.heap.size):=by
  refine⟨λ_ _ _ h=>h,λi b hb=>?_,λ_ _ _ h=>h⟩;by_cases e:i=id
  ·subst e;rw[hd.1]at hb;cases hb
  ·simpa[Gh.newLoc,e]using hb
 have hold:∀{i:Nat},i≠id->(T.set id (.cells xs))[i]? =T[i]? :=λ{i} e=>by rw[getElem?_set_ne (Ne.symm e)]
 have hnew:(T.set id (.cells xs))[id]? =some (.cells xs):=by simp[hlt]
 have hbnew:blk (G.newLoc id w.heap.size) (T.set id (.cells xs)) id=some w.heap.size:=by simp[blk,hnew,Gh.newLoc]
 have hbold:∀{i:Nat},i≠id->blk (G.newLoc id w.heap.size) (T.set id (.cells xs)) i=blk G T i:=by
  intro i e;unfold blk;rw[hold e];simp[Gh.newLoc,e]
 refine⟨hle,⟨hw.imm,λi hi=>?_,λi ys hi=>?_,λj k n hj=>?_,λj k n ys hj=>?_,λj o ys hj=>?_,λi j b hi hj=>?_⟩,hm.kept _,λi b hb=>?_,λ_ _ _ h=>.inl h⟩
 ·by_cases e:i=id
  ·subst e;rw[hnew]at hi;simp at hi
  ·rw[hold e]at hi;simpa[Gh.newLoc,e]using h.dom i hi
 ·by_cases e:i=id
  ·subst e;rw[hnew]at hi;injection hi with hi;injection hi with hi;subst hi;refine⟨w.heap.size,vs.toArray,t,by simp[Gh.newLoc],hm.new,by simpa using hr.1.symm,λk x v hx hv=>⟨ho v ?_,(hr.2 k x v hx (by simpa using hv)).mono hle⟩,λk=>?_⟩
   ·exact mem_of_getElem? (by simpa using hv)
   ·cases hc:G.imm w.heap.size k with
    |none=>exact hc
    |some u=>have:=Q9 h hc;omega
  ·rw[hold e]at hi;have⟨b,cs,t,h1,h2,h3,h4,h5⟩:=hw.obj i ys hi;exact⟨b,cs,t,by simpa[Gh.newLoc,e]using h1,h2,h3,λk x v hx hv=>⟨(h4 k x v hx hv).1,(h4 k x v hx hv).2.mono hle⟩,h5⟩
 ·have e:j≠id:=by rintro rfl;rw[hnew]at hj;cases hj
  rw[hold e]at hj;exact hw.row j k n hj
 ·have e:j≠id:=by rintro rfl;rw[hnew]at hj;cases hj
  rw[hold e]at hj;have⟨h0,hl,A,c,h1,h2,h3,hc6,h4⟩:=hw.mrow j k n ys hj;exact⟨h0,hl,A,c,h1,h2,h3,hc6,h4.mono hle rfl⟩
 ·have e:j≠id:=by rintro rfl;rw[hnew]at hj;cases hj
  rw[hold e]at hj;have⟨b,us,h1,h2,h3⟩:=hw.raw j o ys hj;exact⟨b,us,by simpa[Gh.newLoc,e]using h1,h2,h3.mono hle⟩
 ·by_cases e:i=id<;>by_cases e':j=id
  ·rw[e,e']
  ·rw[e,hbnew]at hi;injection hi with hi;rw[hbold e']at hj;have:=HH h hj;omega
  ·rw[e',hbnew]at hj;injection hj with hj;rw[hbold e]at hi;have:=HH h hi;omega
  ·rw[hbold e]at hi;rw[hbold e']at hj;exact h.sep i j b hi hj
 ·by_cases e:i=id
  ·rw[e,hbnew]at hb;injection hb with hb;left;omega
  ·rw[hbold e]at hb;exact .inr ⟨i,hb⟩
structure KA (w w':World) (b:Nat) (o:Obj):Prop where
 os:w'.os=w.os
 tape:w'.tape=w.tape
 output:w'.output=w.output
 size:w'.heap.size=w.heap.size
 other:∀i,i≠b->w'.heap[i]? =w.heap[i]?
 here:w'.heap[b]? =some o
theorem KA.cell {w w':World} {b:Nat} {o:Obj} (h:KA w w' b o) {a:Addr} {v:Value} (ha:a.block≠b) (hc:w.cell? a=some v):w'.cell? a=some v:=
 (World.cell?_of_block (w:=w) (h.other _ ha)).trans hc
theorem KA.kept {w w':World} {b:Nat} {o:Obj} (h:KA w w' b o) {K:Nat->Prop} (hK:¬K b):CE K w w':=
 ⟨h.os,h.tape,h.output,by rw[h.size];omega,λi _ hk=>h.other i (by rintro rfl;exact hK hk)⟩
theorem CQ {w:World} {b:Nat} {cs:Array Value} {t:TypeId} {fz:Nat×Nat} (h:w.heap[b]? =some (.cells cs t fz)) (i:Nat):w.cell? ⟨b,i,none⟩=cs[i]? :=cell_of_row w b i cs t fz h
theorem AS.turn {G:Gh} {T:List Ac} {w w':World} {i b:Nat} {xs xs':List AV} {cs:Array Value} {t:TypeId} (h:Wd G T w) (hi:T[i]? =some (.cells xs)) (hb:G.loc i=some b)
 (hm:KA w w' b (.cells cs t (0,0))) (hs:cs.size=xs'.length) (hc:∀(k:Nat) (x:AV) (v:Value),xs'[k]? =some x->cs[k]? =some v->v.oneCell'=true∧Bg G x v):
 AS G T w G (T.set i (.cells xs')) w':=by
 have hlt:i<T.length:=(Ge hi);have hold:∀{j:Nat},j≠i->(T.set i (.cells xs'))[j]? =T[j]? :=λ{j} e=>by rw[getElem?_set_ne (Ne.symm e)]
 have hnew:(T.set i (.cells xs'))[i]? =some (.cells xs'):=by simp[hlt]
 have hbi:blk G T i=some b:=by simp[blk,hi,hb]
 have hblk:∀j,blk G (T.set i (.cells xs')) j=blk G T j:=by
  intro j;by_cases e:j=i
  ·subst e;simp[blk,hnew,hi]
  ·simp[blk,hold e]
 have hfar:∀{j b':Nat},j≠i->blk G T j=some b'->b'≠b:=λ{j b'} e hj he=>e (h.sep j i b (he▸hj) hbi)
 have himm:∀k,G.imm b k=none:=by
  have⟨b',_,_,h1,_,_,_,h5⟩:=h.obj i xs hi;rw[hb]at h1;injection h1 with h1;subst h1;exact h5
 refine⟨Gh.Le.refl _,⟨λb' k v hv=>?_,λj hj=>?_,λj ys hj=>?_,λj k n hj=>?_,λj k n ys hj=>?_,λj o ys hj=>?_,λj j' b' hj hj'=>?_⟩,hm.kept λhu=>hu i hbi,λj b' hj=>?_,λ_ _ _ h=>.inl h⟩
 ·refine hm.cell (λe=>?_) (h.imm b' k v hv);have e':b'=b:=e;subst e';rw[himm k]at hv;cases hv
 ·by_cases e:j=i
  ·subst e;rw[hnew]at hj;simp at hj
  ·rw[hold e]at hj;exact h.dom j hj
 ·by_cases e:j=i
  ·subst e;rw[hnew]at hj;injection hj with hj;injection hj with hj;subst hj;exact⟨b,cs,t,hb,hm.here,hs,hc,himm⟩
  ·rw[hold e]at hj;have⟨b',cs',t',h1,h2,h3⟩:=h.obj j ys hj;exact⟨b',cs',t',h1,by rw[hm.other b' (hfar e (by simp[blk,hj,h1]))];exact h2,h3⟩
 ·have e:j≠i:=by rintro rfl;rw[hnew]at hj;cases hj
  rw[hold e]at hj;have⟨h0,A,c,h1,h2,h3,h4⟩:=h.row j k n hj;refine⟨h0,A,c,h1,h2,h3,λhlt=>?_⟩;have⟨b',cs',t',g1,g2,g3⟩:=h4 hlt;exact⟨b',cs',t',g1,by rw[hm.other b' (hfar e (by simp[blk,hj,h1,hlt,g1]))];exact g2,g3⟩
 ·have e:j≠i:=by rintro rfl;rw[hnew]at hj;cases hj
  rw[hold e]at hj;have⟨h0,hl,A,c,h1,h2,h3,hc6,h4⟩:=h.mrow j k n ys hj;refine⟨h0,hl,A,c,h1,h2,h3,hc6,λhlt=>?_⟩;have⟨b',cs',t',g1,g2,g3⟩:=h4 hlt;exact⟨b',cs',t',g1,by rw[hm.other b' (hfar e (by simp[blk,hj,h1,hlt,g1]))];exact g2,g3⟩
 ·have e:j≠i:=by rintro rfl;rw[hnew]at hj;cases hj
  rw[hold e]at hj;have⟨b',us,h1,h2,h3⟩:=h.raw j o ys hj;exact⟨b',us,h1,by rw[hm.other b' (hfar e (by simp[blk,hj,h1]))];exact h2,h3⟩
 ·rw[hblk]at hj hj';exact h.sep j j' b' hj hj'
 ·rw[hblk]at hj;exact .inr ⟨j,hj⟩
theorem AS.rowFull {G:Gh} {T:List Ac} {w:World} {id k n:Nat} {A:Option Addr} (h:Wd G T w) (hid:T[id]? =some .dead) (hk:1≤k):
 AS G T w (G.newHist id n (.slice A n n)) (T.set id (.row k n)) w∧(G.newHist id n (.slice A n n)).hist id n=some (.slice A n n):=by
 have hlt:id<T.length:=(Ge hid);have hd:=h.dom id (.inr hid);have hle:G.Le (G.newHist id n (.slice A n n)):=by
  refine⟨λ_ _ _ h=>h,λ_ _ h=>h,λj m v hv=>?_⟩;by_cases e:j=id
  ·subst e;rw[hd.2]at hv;cases hv
  ·simpa[Gh.newHist,e]using hv
 have hold:∀{i:Nat},i≠id->(T.set id (.row k n))[i]? =T[i]? :=λ{i} e=>by rw[getElem?_set_ne (Ne.symm e)]
 have hnew:(T.set id (.row k n))[id]? =some (.row k n):=by simp[hlt]
 have hhist:(G.newHist id n (.slice A n n)).hist id n=some (.slice A n n):=by simp[Gh.newHist]
 have hbnew:blk (G.newHist id n (.slice A n n)) (T.set id (.row k n)) id=none:=by
  simp only[blk,hnew,hhist];cases A<;>simp
 have hbold:∀{i:Nat},i≠id->blk (G.newHist id n (.slice A n n)) (T.set id (.row k n)) i=blk G T i:=by
  intro i e;unfold blk;rw[hold e];simp[Gh.newHist,e]
 refine⟨⟨hle,⟨h.imm,λi hi=>?_,λi ys hi=>?_,λj k' n' hj=>?_,λj k' n' ys hj=>?_,λi o ys hi=>?_,λi j b hi hj=>?_⟩,CE.refl _ _,λi b hb=>?_,λ_ _ _ h=>.inl h⟩,hhist⟩
 ·by_cases e:i=id
  ·subst e;rw[hnew]at hi;simp at hi
  ·rw[hold e]at hi;simpa[Gh.newHist,e]using h.dom i hi
 ·have e:i≠id:=by rintro rfl;rw[hnew]at hi;cases hi
  rw[hold e]at hi;have⟨b,cs,t,h1,h2,h3,h4,h5⟩:=h.obj i ys hi;exact⟨b,cs,t,h1,h2,h3,λk x v hx hv=>⟨(h4 k x v hx hv).1,(h4 k x v hx hv).2.mono hle⟩,h5⟩
 ·by_cases e:j=id
  ·subst e;rw[hnew]at hj;injection hj with hj;injection hj with e1 e2;subst e1 e2;refine⟨hk,A,n,hhist,λn' v' hv=>?_,Nat.le_refl _,λhlt=>by omega⟩;by_cases e:n'=n
   ·omega
   ·simp[Gh.newHist,e]at hv;rw[hd.2]at hv;cases hv
  ·rw[hold e]at hj;have⟨h0,A',c,h1,h2,h3⟩:=h.row j k' n' hj;exact⟨h0,A',c,by simpa[Gh.newHist,e]using h1,λn' v' hv=>h2 n' v' (by simpa[Gh.newHist,e]using hv),h3⟩
 ·have e:j≠id:=by rintro rfl;rw[hnew]at hj;cases hj
  rw[hold e]at hj;have⟨h0,hl,A',c,h1,h2,h3,hc6,h4⟩:=h.mrow j k' n' ys hj;exact⟨h0,hl,A',c,by simpa[Gh.newHist,e]using h1,λn' v' hv=>h2 n' v' (by simpa[Gh.newHist,e]using hv),h3,hc6,h4.mono hle rfl⟩
 ·have e:i≠id:=by rintro rfl;rw[hnew]at hi;cases hi
  rw[hold e]at hi;have⟨b,us,h1,h2,h3⟩:=h.raw i o ys hi;exact⟨b,us,h1,h2,h3.mono hle⟩
 ·have e:i≠id:=by rintro rfl;rw[hbnew]at hi;cases hi
  have e':j≠id:=by rintro rfl;rw[hbnew]at hj;cases hj
  rw[hbold e]at hi;rw[hbold e']at hj;exact h.sep i j b hi hj
 ·have e:i≠id:=by rintro rfl;rw[hbnew]at hb;cases hb
  rw[hbold e]at hb;exact .inr ⟨i,hb⟩
theorem AS.rowNew {G:Gh} {T:List Ac} {w w':World} {id k n c:Nat} {vs:List Value} {cs:Array Value} {t:TypeId} (h:Wd G T w) (hid:T[id]? =some .dead∨∃m,m<n∧T[id]? =some (.row k m)) (hk:1≤k)
 (hm:C_ w w' (.cells cs t (0,0))) (hn:n≤c) (hcs:cs.size=c*k) (hvs:vs.length=n*k) (hc:∀(i:Nat) (v:Value),vs[i]? =some v->cs[i]? =some v):
 AS G T w ((G.newImm w.heap.size vs).newHist id n (.slice (some ⟨w.heap.size,0,none⟩) n c)) (T.set id (.row k n)) w':=by
 have hlt:id<T.length:=by rcases hid with h|⟨m,_,h⟩<;>exact(Ge h)
 have hw:=h.more hm;have hnone:∀i,G.imm w.heap.size i=none:=λi=>by
  cases hc:G.imm w.heap.size i with
  |none=>rfl
  |some u=>have:=Q9 h hc;omega
 have hbn:∀i,blk G T i≠some w.heap.size:=λi hi=>by have:=HH h hi;omega
 have⟨hw1,hle1⟩:=hw.claim w.heap.size vs (λi v hv=>by rw[CQ hm.new];exact hc i v hv) hnone hbn;have hhn:G.hist id n=none:=by
  rcases hid with h0|⟨m,hmn,h0⟩
  ·exact(h.dom id (.inr h0)).2 n
  ·have⟨_,A,c',_,h2,_⟩:=h.row id k m h0;cases hv:G.hist id n with
   |none=>rfl
   |some u=>have:=h2 n u hv;omega
 generalize hG1:G.newImm w.heap.size vs=G1 at*;have hG1h:G1.hist=G.hist:=by rw[←hG1];rfl
 have hG1l:G1.loc=G.loc:=by rw[←hG1];rfl
 generalize hG2:G1.newHist id n (.slice (some ⟨w.heap.size,0,none⟩) n c)=G2;have hh2:∀j m,j≠id->G2.hist j m=G.hist j m:=λj m e=>by rw[←hG2,←hG1h];simp[Gh.newHist,e]
 have hhid:∀m,m≠n->G2.hist id m=G.hist id m:=λm e=>by rw[←hG2,←hG1h];simp[Gh.newHist,e]
 have hl2:G2.loc=G.loc:=by rw[←hG2,←hG1l];rfl
 have hi2:G2.imm=G1.imm:=by rw[←hG2];rfl
 have hle2:G1.Le G2:=by
  refine⟨λ_ _ _ h=>by rw[hi2];exact h,λ_ _ h=>by rw[hl2,←hG1l];exact h,λj m v hv=>?_⟩;rw[hG1h]at hv;by_cases e:j=id
  ·subst e;by_cases e':m=n
   ·subst e';rw[hhn]at hv;cases hv
   ·rw[hhid m e'];exact hv
  ·rw[hh2 j m e];exact hv
 have hhist:G2.hist id n=some (.slice (some ⟨w.heap.size,0,none⟩) n c):=by rw[←hG2];simp[Gh.newHist]
 have hold:∀{i:Nat},i≠id->(T.set id (.row k n))[i]? =T[i]? :=λ{i} e=>by rw[getElem?_set_ne (Ne.symm e)]
 have hnew:(T.set id (.row k n))[id]? =some (.row k n):=by simp[hlt]
 have hbnew:∀{b:Nat},blk G2 (T.set id (.row k n)) id=some b->b=w.heap.size:=by
  intro b hb;simp only[blk,hnew,hhist]at hb;split at hb
  ·injection hb with hb;exact hb.symm
  ·cases hb
 have hbold:∀{i:Nat},i≠id->blk G2 (T.set id (.row k n)) i=blk G T i:=by
  intro i e;unfold blk;rw[hold e,hl2];simp only[hh2 i _ e]
 refine⟨hle1.trans hle2,⟨λb i v hv=>hw1.imm b i v (by rw[←hi2];exact hv),λi hi=>?_,λi ys hi=>?_,λj k' n' hj=>?_,λj k' n' ys hj=>?_,λi o ys hi=>?_,λi j b hi hj=>?_⟩,hm.kept _,λi b hb=>?_,λb i v hv=>?_⟩
 ·by_cases e:i=id
  ·subst e;rw[hnew]at hi;simp at hi
  ·rw[hold e]at hi;refine⟨by rw[hl2];exact(h.dom i hi).1,λm=>by rw[hh2 i m e];exact(h.dom i hi).2 m⟩
 ·have e:i≠id:=by rintro rfl;rw[hnew]at hi;cases hi
  rw[hold e]at hi;have⟨b,cs,t,h1,h2,h3,h4,h5⟩:=hw1.obj i ys hi;exact⟨b,cs,t,by rw[hl2,←hG1l];exact h1,h2,h3,λk x v hx hv=>⟨(h4 k x v hx hv).1,(h4 k x v hx hv).2.mono hle2⟩,λk=>by rw[hi2];exact h5 k⟩
 ·by_cases e:j=id
  ·subst e;rw[hnew]at hj;injection hj with hj;injection hj with e1 e2;subst e1 e2;refine⟨hk,_,c,hhist,λn' v' hv=>?_,hn,λ_=>⟨w.heap.size,cs,t,rfl,hm.new,hcs,λi hi=>?_⟩⟩
   ·by_cases e:n'=n
    ·omega
    ·rw[hhid n' e]at hv;rcases hid with h0|⟨m,hmn,h0⟩
     ·rw[(h.dom j (.inr h0)).2]at hv;cases hv
     ·have⟨_,A,c',_,h2,_⟩:=h.row j k m h0;have:=h2 n' v' hv;omega
   ·rw[hi2,←hG1];simp only[Gh.newImm,if_true];exact getElem?_eq_none Om
  ·rw[hold e]at hj;have⟨h0,A',c',h1,h2,h3,h4⟩:=hw1.row j k' n' hj;rw[hG1h]at h1 h2;exact⟨h0,A',c',by rw[hh2 j _ e];exact h1,λn' v' hv=>h2 n' v' (by rw[←hh2 j _ e];exact hv),h3,λhl=>by
    have⟨b,cs,t,g1,g2,g3,g4⟩:=h4 hl;exact⟨b,cs,t,g1,g2,g3,λi hi=>by rw[hi2];exact g4 i hi⟩⟩
 ·have e:j≠id:=by rintro rfl;rw[hnew]at hj;cases hj
  rw[hold e]at hj;have⟨h0,hl,A',c',h1,h2,h3,hc6,h4⟩:=hw1.mrow j k' n' ys hj;rw[hG1h]at h1 h2;exact⟨h0,hl,A',c',by rw[hh2 j _ e];exact h1,λn' v' hv=>h2 n' v' (by rw[←hh2 j _ e];exact hv),h3,hc6,h4.mono hle2 hi2⟩
 ·have e:i≠id:=by rintro rfl;rw[hnew]at hi;cases hi
  rw[hold e]at hi;have⟨b,us,h1,h2,h3⟩:=hw1.raw i o ys hi;exact⟨b,us,by rw[hl2,←hG1l];exact h1,h2,h3.mono hle2⟩
 ·by_cases e:i=id<;>by_cases e':j=id
  ·rw[e,e']
  ·subst e;have:=hbnew hi;subst this;rw[hbold e']at hj;exact(hbn _ hj).elim
  ·subst e';have:=hbnew hj;subst this;rw[hbold e]at hi;exact(hbn _ hi).elim
  ·rw[hbold e]at hi;rw[hbold e']at hj;exact h.sep i j b hi hj
 ·by_cases e:i=id
  ·subst e;left;rw[hbnew hb];omega
  ·rw[hbold e]at hb;exact .inr ⟨i,hb⟩
 ·rw[hi2,←hG1]at hv;by_cases e:b=w.heap.size
  ·right;left;omega
  ·left;simpa[Gh.newImm,e]using hv
def Gh.moreImm (G:Gh) (b at_:Nat) (vs:List Value):Gh:=⟨λb' i=>if b'=b∧at_≤i then vs[i-at_]? else G.imm b' i,G.loc,G.hist⟩
theorem AS.rowGrow {G:Gh} {T:List Ac} {w w':World} {j k n n' b c:Nat} {vs:List Value} {cs:Array Value} {t:TypeId} (h:Wd G T w) (hj:T[j]? =some (.row k n)) (hh:G.hist j n=some (.slice (some ⟨b,0,none⟩) n c))
 (hn:n<n') (hc:n'≤c) (hm:KA w w' b (.cells cs t (0,0))) (hcs:cs.size=c*k) (hold:∀i,i<n*k->w.cell? ⟨b,i,none⟩=cs[i]?) (hvs:vs.length=(n'-n)*k)
 (hnew:∀(i:Nat) (v:Value),vs[i]? =some v->cs[n*k+i]? =some v):
 AS G T w ((G.moreImm b (n*k) vs).newHist j n' (.slice (some ⟨b,0,none⟩) n' c)) (T.set j (.row k n')) w':=by
 have hlt:j<T.length:=(Ge hj);have⟨hk,A,c',h1,h2,h3,h4⟩:=h.row j k n hj;rw[hh]at h1;injection h1 with h1;injection h1 with e1 e2 e3;subst e1 e3;have⟨b',cs0,t0,g1,g2,g3,g4⟩:=h4 Om;injection g1 with g1;injection g1 with g1;subst g1;have hbj:blk G T j=some b:=by simp[blk,hj,hh,show n<c by omega]
 have hfar:∀{i b':Nat},i≠j->blk G T i=some b'->b'≠b:=λ{i b'} e hi he=>e (h.sep i j b (he▸hi) hbj)
 have hhn:G.hist j n'=none:=by
  cases hv:G.hist j n' with
  |none=>rfl
  |some u=>have:=h2 n' u hv;omega
 generalize hG2:(G.moreImm b (n*k) vs).newHist j n' (.slice (some ⟨b,0,none⟩) n' c)=G2;have hh2:∀i m,i≠j->G2.hist i m=G.hist i m:=λi m e=>by rw[←hG2];simp[Gh.newHist,Gh.moreImm,e]
 have hhj:∀m,m≠n'->G2.hist j m=G.hist j m:=λm e=>by rw[←hG2];simp[Gh.newHist,Gh.moreImm,e]
 have hl2:G2.loc=G.loc:=by rw[←hG2];rfl
 have hhist:G2.hist j n'=some (.slice (some ⟨b,0,none⟩) n' c):=by rw[←hG2];simp[Gh.newHist]
 have hifar:∀b' i,b'≠b->G2.imm b' i=G.imm b' i:=λb' i e=>by rw[←hG2];simp[Gh.newHist,Gh.moreImm,e]
 have hilow:∀i,i<n*k->G2.imm b i=G.imm b i:=λi e=>by rw[←hG2];simp[Gh.newHist,Gh.moreImm,show¬n*k≤i by omega]
 have hihigh:∀i,n*k≤i->G2.imm b i=vs[i-n*k]? :=λi e=>by rw[←hG2];simp[Gh.newHist,Gh.moreImm,e]
 have hle:G.Le G2:=by
  refine⟨λb' i v hv=>?_,λ_ _ h=>by rw[hl2];exact h,λi m v hv=>?_⟩
  ·by_cases e:b'=b
   ·subst e;by_cases e':i<n*k
    ·rw[hilow i e'];exact hv
    ·rw[g4 i Om]at hv;cases hv
   ·rw[hifar b' i e];exact hv
  ·by_cases e:i=j
   ·subst e;by_cases e':m=n'
    ·subst e';rw[hhn]at hv;cases hv
    ·rw[hhj m e'];exact hv
   ·rw[hh2 i m e];exact hv
 have hset:∀{i:Nat},i≠j->(T.set j (.row k n'))[i]? =T[i]? :=λ{i} e=>by rw[getElem?_set_ne (Ne.symm e)]
 have hsetj:(T.set j (.row k n'))[j]? =some (.row k n'):=by simp[hlt]
 have hbnew:∀{b':Nat},blk G2 (T.set j (.row k n')) j=some b'->b'=b:=by
  intro b' hb';simp only[blk,hsetj,hhist]at hb';split at hb'
  ·injection hb' with hb';exact hb'.symm
  ·cases hb'
 have hbold:∀{i:Nat},i≠j->blk G2 (T.set j (.row k n')) i=blk G T i:=by
  intro i e;unfold blk;rw[hset e,hl2];simp only[hh2 i _ e]
 refine⟨hle,⟨λb' i v hv=>?_,λi hi=>?_,λi ys hi=>?_,λi k' m hi=>?_,λi k' m ys hi=>?_,λi o ys hi=>?_,λi i' b' hi hi'=>?_⟩,hm.kept λhu=>hu j hbj,λi b' hb'=>?_,λb' i v hv=>?_⟩
 ·by_cases e:b'=b
  ·subst e;rw[CQ hm.here];by_cases e':i<n*k
   ·rw[hilow i e']at hv;rw[←hold i e'];exact h.imm b' i v hv
   ·rw[hihigh i Om]at hv;have:=hnew (i-n*k) v hv;rwa[show n*k+(i-n*k)=i by omega]at this
  ·rw[hifar b' i e]at hv;exact hm.cell e (h.imm b' i v hv)
 ·by_cases e:i=j
  ·subst e;rw[hsetj]at hi;simp at hi
  ·rw[hset e]at hi;exact⟨by rw[hl2];exact(h.dom i hi).1,λm=>by rw[hh2 i m e];exact(h.dom i hi).2 m⟩
 ·have e:i≠j:=by rintro rfl;rw[hsetj]at hi;cases hi
  rw[hset e]at hi;have⟨b',cs',t',q1,q2,q3,q4,q5⟩:=h.obj i ys hi;have hne:b'≠b:=hfar e (by simp[blk,hi,q1]);exact⟨b',cs',t',by rw[hl2];exact q1,by rw[hm.other b' hne];exact q2,q3,λk x v hx hv=>⟨(q4 k x v hx hv).1,(q4 k x v hx hv).2.mono hle⟩,λk=>by rw[hifar b' k hne];exact q5 k⟩
 ·by_cases e:i=j
  ·subst e;rw[hsetj]at hi;injection hi with hi;injection hi with e1 e2;subst e1 e2;refine⟨hk,_,c,hhist,λm' v' hv=>?_,hc,λ_=>⟨b,cs,t,rfl,hm.here,hcs,λq hq=>?_⟩⟩
   ·by_cases e:m'=n'
    ·omega
    ·rw[hhj m' e]at hv;have:=h2 m' v' hv;omega
   ·have:n*k≤n'*k:=Nat.mul_le_mul_right _ Om;rw[hihigh q Om];have hmul:(n'-n)*k=n'*k-n*k:=Nat.sub_mul _ _ _;exact getElem?_eq_none Om
  ·rw[hset e]at hi;have⟨h0,A',c',q1,q2,q3,q4⟩:=h.row i k' m hi;refine⟨h0,A',c',by rw[hh2 i _ e];exact q1,λn' v' hv=>q2 n' v' (by rw[←hh2 i _ e];exact hv),q3,λhl=>?_⟩;have⟨b',cs',t',p1,p2,p3,p4⟩:=q4 hl;have hne:b'≠b:=hfar e (by simp[blk,hi,q1,hl,p1]);exact⟨b',cs',t',p1,by rw[hm.other b' hne];exact p2,p3,λq hq=>by rw[hifar b' q hne];exact p4 q hq⟩
 ·have e:i≠j:=by rintro rfl;rw[hsetj]at hi;cases hi
  rw[hset e]at hi;have⟨h0,hl,A',c',q1,q2,q3,hc6,q4⟩:=h.mrow i k' m ys hi;refine⟨h0,hl,A',c',by rw[hh2 i _ e];exact q1,λn' v' hv=>q2 n' v' (by rw[←hh2 i _ e];exact hv),q3,hc6,λhl=>?_⟩;have⟨b',cs',t',p1,p2,p3,p4,p5⟩:=q4 hl;have hne:b'≠b:=hfar e (by simp[blk,hi,q1,hl,p1]);exact⟨b',cs',t',p1,by rw[hm.other b' hne];exact p2,p3,λq x v hx hv=>⟨(p4 q x v hx hv).1,(p4 q x v hx hv).2.mono hle⟩,λq=>by rw[hifar b' q hne];exact p5 q⟩
 ·have e:i≠j:=by rintro rfl;rw[hsetj]at hi;cases hi
  rw[hset e]at hi;have⟨b',us,h1,h2,h3⟩:=h.raw i o ys hi;exact⟨b',us,by rw[hl2];exact h1,by rw[hm.other b' (hfar e (by simp[blk,hi,h1]))];exact h2,h3.mono hle⟩
 ·by_cases e:i=j<;>by_cases e':i'=j
  ·rw[e,e']
  ·subst e;have:=hbnew hi;subst this;rw[hbold e']at hi';exact(hfar e' hi' rfl).elim
  ·subst e';have:=hbnew hi';subst this;rw[hbold e]at hi;exact(hfar e hi rfl).elim
  ·rw[hbold e]at hi;rw[hbold e']at hi';exact h.sep i i' b' hi hi'
 ·by_cases e:i=j
  ·subst e;right;exact⟨i,by rw[hbnew hb'];exact hbj⟩
  ·rw[hbold e]at hb';exact .inr ⟨i,hb'⟩
 ·by_cases e:b'=b
  ·subst e;exact .inr (.inr ⟨j,hbj⟩)
  ·rw[hifar b' i e]at hv;exact .inl hv
def bD {G:Gh} {T:List Ac} {w:World} {j k n:Nat} {v:Value} (h:Wd G T w) (hid:T[j]? =some .dead∨∃m ys,T[j]? =some (.mrow k m ys)∧(m<n∨m=n∧G.hist j n=some v)):
 G.hist j n=none∨G.hist j n=some v:=by
 rcases hid with h0|⟨m,ys,h0,hmn⟩
 ·exact .inl ((h.dom j (.inr h0)).2 n)
 ·rcases hmn with hmn|⟨rfl,h1⟩
  ·have⟨_,_,A,c',_,h2,_⟩:=h.mrow j k m ys h0;cases hv:G.hist j n with
   |none=>exact .inl rfl
   |some u=>have:=h2 n u hv;omega
  ·exact .inr h1
theorem AS.mrowTo {G:Gh} {T:List Ac} {w w':World} {j k n c:Nat} {xs:List AV} {A:Option Addr} (h:Wd G T w) (hid:T[j]? =some .dead∨∃m ys,T[j]? =some (.mrow k m ys)∧(m<n∨m=n∧G.hist j n=some (.slice A n c)))
 (hk:1≤k) (hl:xs.length=n*k) (hn:n≤c) (hc6:c≤9223372036854775807) (hkept:CE (λb=>blk G T j≠some b) w w')
 (hA:0<c->∃(b:Nat) (cs:Array Value) (t:TypeId),A=some ⟨b,0,none⟩∧w'.heap[b]? =some (.cells cs t (0,0))∧cs.size=c*k∧(∀(i:Nat) (x:AV) (v:Value),xs[i]? =some x->cs[i]? =some v->v.oneCell'=true∧Bg G x v)∧(w.heap.size≤b∨blk G T j=some b)):
 AS G T w (G.newHist j n (.slice A n c)) (T.set j (.mrow k n xs)) w':=by
 have hlt:j<T.length:=by rcases hid with h|⟨m,_,h,_⟩<;>exact(Ge h)
 have hhn:=bD h hid;have hhm:∀n' v',G.hist j n'=some v'->n'≤n:=λn' v' hv=>by
  rcases hid with h0|⟨m,ys,h0,hmn⟩
  ·rw[(h.dom j (.inr h0)).2]at hv;cases hv
  ·have⟨_,_,A,c',_,h2,_⟩:=h.mrow j k m ys h0;have:=h2 n' v' hv;rcases hmn with hmn|⟨rfl,_⟩<;>omega
 have hle:G.Le (G.newHist j n (.slice A n c)):=by
  refine⟨λ_ _ _ h=>h,λ_ _ h=>h,λi m v hv=>?_⟩;by_cases e:i=j∧m=n
  ·obtain⟨rfl,rfl⟩:=e;rcases hhn with h1|h1
   ·rw[h1]at hv;cases hv
   ·rw[h1]at hv;simpa[Gh.newHist]using hv
  ·simpa[Gh.newHist,e]using hv
 have himm:∀b i v,G.imm b i=some v->blk G T j≠some b:=λb i v hv hb=>by
  rcases hid with h0|⟨m,ys,h0,_⟩
  ·simp[blk,h0]at hb
  ·have⟨_,_,A',c',h1,_,_,_,h4⟩:=h.mrow j k m ys h0;by_cases hc:0<c'
   ·have⟨b',cs,t,e1,_,_,_,g5⟩:=h4 hc;subst e1;simp[blk,h0,h1,hc]at hb;subst hb;rw[g5 i]at hv;cases hv
   ·cases A'<;>simp[blk,h0,h1,hc]at hb
 have hhist:(G.newHist j n (.slice A n c)).hist j n=some (.slice A n c):=by simp[Gh.newHist]
 have hho:∀i m,i≠j->(G.newHist j n (.slice A n c)).hist i m=G.hist i m:=λi m e=>by simp[Gh.newHist,e]
 have hold:∀{i:Nat},i≠j->(T.set j (.mrow k n xs))[i]? =T[i]? :=λ{i} e=>by rw[getElem?_set_ne (Ne.symm e)]
 have hnew:(T.set j (.mrow k n xs))[j]? =some (.mrow k n xs):=by simp[hlt]
 have hbold:∀{i:Nat},i≠j->blk (G.newHist j n (.slice A n c)) (T.set j (.mrow k n xs)) i=blk G T i:=by
  intro i e;unfold blk;rw[hold e];simp only[hho i _ e];rfl
 have hbnew:∀{b:Nat},blk (G.newHist j n (.slice A n c)) (T.set j (.mrow k n xs)) j=some b->w.heap.size≤b∨blk G T j=some b:=by
  intro b hb;by_cases hc:0<c
  ·have⟨b',cs,t,e1,_,_,_,g5⟩:=hA hc;subst e1;simp[blk,hnew,hhist,hc]at hb;subst hb;exact g5
  ·cases A<;>simp[blk,hnew,hhist,hc]at hb
 have hfar:∀{i b:Nat},i≠j->blk G T i=some b->w'.heap[b]? =w.heap[b]? :=λ{i b} e hb=>
  hkept.block b (HH h hb) λhb'=>e (h.sep i j b hb hb')
 refine⟨hle,⟨λb i v hv=>hkept.cell (h.imm b i v hv) (himm b i v hv),λi hi=>?_,λi ys hi=>?_,λi k' n' hi=>?_,λi k' n' ys hi=>?_,λi o ys hi=>?_,λi i' b hi hi'=>?_⟩,hkept.mono λb _ hu=>hu j,λi b hb=>?_,λ_ _ _ h=>.inl h⟩
 ·by_cases e:i=j
  ·subst e;rw[hnew]at hi;simp at hi
  ·rw[hold e]at hi;exact⟨(h.dom i hi).1,λm=>by rw[hho i m e];exact(h.dom i hi).2 m⟩
 ·have e:i≠j:=by rintro rfl;rw[hnew]at hi;cases hi
  rw[hold e]at hi;have⟨b,cs,t,h1,h2,h3,h4,h5⟩:=h.obj i ys hi;exact⟨b,cs,t,h1,by rw[hfar e (by simp[blk,hi,h1])];exact h2,h3,λk x v hx hv=>⟨(h4 k x v hx hv).1,(h4 k x v hx hv).2.mono hle⟩,h5⟩
 ·have e:i≠j:=by rintro rfl;rw[hnew]at hi;cases hi
  rw[hold e]at hi;have⟨h0,A',c',h1,h2,h3,h4⟩:=h.row i k' n' hi;refine⟨h0,A',c',by rw[hho i _ e];exact h1,λm v hv=>h2 m v (by rw[←hho i _ e];exact hv),h3,λhl=>?_⟩;have⟨b,cs,t,g1,g2,g3⟩:=h4 hl;exact⟨b,cs,t,g1,by rw[hfar e (by simp[blk,hi,h1,hl,g1])];exact g2,g3⟩
 ·by_cases e:i=j
  ·subst e;rw[hnew]at hi;injection hi with hi;injection hi with e1 e2 e3;subst e1 e2 e3;refine⟨hk,hl,A,c,hhist,λm v hv=>?_,hn,hc6,λhc=>?_⟩
   ·by_cases e:m=n
    ·omega
    ·simp[Gh.newHist,e]at hv;exact hhm m v hv
   ·have⟨b,cs,t,e1,g2,g3,g4,g5⟩:=hA hc;refine⟨b,cs,t,e1,g2,g3,λi x v hx hv=>⟨(g4 i x v hx hv).1,(g4 i x v hx hv).2.mono hle⟩,λq=>?_⟩;cases hv:G.imm b q with
    |none=>exact hv
    |some u=>
     rcases g5 with g5|g5
     ·have:=Q9 h hv;omega
     ·exact(himm b q u hv g5).elim
  ·rw[hold e]at hi;have⟨h0,hl',A',c',h1,h2,h3,h6,h4⟩:=h.mrow i k' n' ys hi;refine⟨h0,hl',A',c',by rw[hho i _ e];exact h1,λm v hv=>h2 m v (by rw[←hho i _ e];exact hv),h3,h6,λhc=>?_⟩;have⟨b,cs,t,g1,g2,g3,g4,g5⟩:=h4 hc;exact⟨b,cs,t,g1,by rw[hfar e (by simp[blk,hi,h1,hc,g1])];exact g2,g3,λq x v hx hv=>⟨(g4 q x v hx hv).1,(g4 q x v hx hv).2.mono hle⟩,g5⟩
 ·have e:i≠j:=by rintro rfl;rw[hnew]at hi;cases hi
  rw[hold e]at hi;have⟨b,us,h1,h2,h3⟩:=h.raw i o ys hi;exact⟨b,us,h1,by rw[hfar e (by simp[blk,hi,h1])];exact h2,h3.mono hle⟩
 ·have key:∀{i:Nat},i≠j->blk (G.newHist j n (.slice A n c)) (T.set j (.mrow k n xs)) i=some b->blk (G.newHist j n (.slice A n c)) (T.set j (.mrow k n xs)) j=some b->False:=λ{i} e h1 h2=>by
   rw[hbold e]at h1;rcases hbnew h2 with h3|h3
   ·have:=HH h h1;omega
   ·exact e (h.sep i j b h1 h3)
  by_cases e:i=j<;>by_cases e':i'=j
  ·rw[e,e']
  ·subst e;exact(key e' hi' hi).elim
  ·subst e';exact(key e hi hi').elim
  ·rw[hbold e]at hi;rw[hbold e']at hi';exact h.sep i i' b hi hi'
 ·by_cases e:i=j
  ·subst e;rcases hbnew hb with h3|h3
   ·exact .inl h3
   ·exact .inr ⟨i,h3⟩
  ·rw[hbold e]at hb;exact .inr ⟨i,hb⟩
theorem AS.freeze {G:Gh} {T:List Ac} {w:World} {j k n c:Nat} {xs:List AV} {A:Option Addr} (h:Wd G T w) (hj:T[j]? =some (.mrow k n xs)) (hh:G.hist j n=some (.slice A n c)):
 ∃G',AS G T w G' (T.set j (.row k n)) w∧G'.hist j n=some (.slice A n c)∧∃vs:List Value,vs.length=n*k∧n≤c∧(∀u∈vs,u.oneCell'=true)∧(∀(i:Nat) (x:AV) (v:Value),xs[i]? =some x->vs[i]? =some v->Bg G' x v)∧
  (0<n->∃b,A=some ⟨b,0,none⟩∧∀(q:Nat) (u:Value),vs[q]? =some u->G'.imm b q=some u):=by
 have⟨hk,hl,A',c',h1,h2,h3,h6,h4⟩:=h.mrow j k n xs hj;rw[hh]at h1;injection h1 with h1;injection h1 with e1 _ e3;subst e1 e3;have hlt:j<T.length:=(Ge hj);have hold:∀{i:Nat},i≠j->(T.set j (.row k n))[i]? =T[i]? :=λ{i} e=>by rw[getElem?_set_ne (Ne.symm e)]
 have hnew:(T.set j (.row k n))[j]? =some (.row k n):=by simp[hlt]
 by_cases hc:0<c
 ·have⟨b,cs,t,e1,g2,g3,g4,g5⟩:=h4 hc;subst e1;have hbj:blk G T j=some b:=by simp[blk,hj,hh,hc]
  have hnk:n*k≤c*k:=Nat.mul_le_mul_right _ h3;have hvl:(cs.toList.take (n*k)).length=n*k:=by simp;omega
  have hvg:∀(q:Nat) (u:Value),(cs.toList.take (n*k))[q]? =some u->q<n*k∧cs[q]? =some u:=λq u hu=>by
   have:=(Ge hu);rw[hvl]at this;rw[getElem?_take,if_pos this]at hu;exact⟨this,by simpa using hu⟩
  have hle:G.Le (G.newImm b (cs.toList.take (n*k))):=by
   refine⟨λb' i v hv=>?_,λ_ _ h=>h,λ_ _ _ h=>h⟩;by_cases e:b'=b
   ·subst e;rw[g5 i]at hv;cases hv
   ·simpa[Gh.newImm,e]using hv
  have hbold:∀{i:Nat},i≠j->blk (G.newImm b (cs.toList.take (n*k))) (T.set j (.row k n)) i=blk G T i:=by
   intro i e;unfold blk;rw[hold e];rfl
  have hbnew:∀{b':Nat},blk (G.newImm b (cs.toList.take (n*k))) (T.set j (.row k n)) j=some b'->b'=b:=by
   intro b' hb;have:(G.newImm b (cs.toList.take (n*k))).hist j n=some (.slice (some ⟨b,0,none⟩) n c):=hh;simp only[blk,hnew,this]at hb;split at hb
   ·injection hb with hb;exact hb.symm
   ·cases hb
  have hfar:∀{i b':Nat},i≠j->blk G T i=some b'->b'≠b:=λ{i b'} e hb he=>by
   subst he;exact e (h.sep i j b' hb hbj)
  have hif:∀{b':Nat} (q:Nat),b'≠b->(G.newImm b (cs.toList.take (n*k))).imm b' q=G.imm b' q:=λ{b'} q e=>by simp[Gh.newImm,e]
  refine⟨G.newImm b (cs.toList.take (n*k)),⟨hle,⟨λb' i v hv=>?_,λi hi=>?_,λi ys hi=>?_,λi k' n' hi=>?_,λi k' n' ys hi=>?_,λi o ys hi=>?_,λi i' b' hi hi'=>?_⟩,CE.refl _ _,λi b' hb=>?_,λb' i v hv=>?_⟩,hh,cs.toList.take (n*k),hvl,h3,λu hu=>?_,λi x v hx hv=>?_,λ_=>⟨b,rfl,λq u hu=>?_⟩⟩
  ·by_cases e:b'=b
   ·subst e;simp only[Gh.newImm,if_true]at hv;rw[CQ g2];exact(hvg i v hv).2
   ·rw[hif i e]at hv;exact h.imm b' i v hv
  ·by_cases e:i=j
   ·subst e;rw[hnew]at hi;simp at hi
   ·rw[hold e]at hi;exact h.dom i hi
  ·have e:i≠j:=by rintro rfl;rw[hnew]at hi;cases hi
   rw[hold e]at hi;have⟨b',cs',t',q1,q2,q3,q4,q5⟩:=h.obj i ys hi;exact⟨b',cs',t',q1,q2,q3,λk x v hx hv=>⟨(q4 k x v hx hv).1,(q4 k x v hx hv).2.mono hle⟩,λq=>by rw[hif q (hfar e (by simp[blk,hi,q1]))];exact q5 q⟩
  ·by_cases e:i=j
   ·subst e;rw[hnew]at hi;injection hi with hi;injection hi with e1 e2;subst e1 e2;exact⟨hk,_,c,hh,h2,h3,λ_=>⟨b,cs,t,rfl,g2,g3,λq hq=>by simp only[Gh.newImm,if_true];exact getElem?_eq_none Om⟩⟩
   ·rw[hold e]at hi;have⟨h0,A',c',q1,q2,q3,q4⟩:=h.row i k' n' hi;refine⟨h0,A',c',q1,q2,q3,λhl=>?_⟩;have⟨b',cs',t',p1,p2,p3,p4⟩:=q4 hl;exact⟨b',cs',t',p1,p2,p3,λq hq=>by rw[hif q (hfar e (by simp[blk,hi,q1,hl,p1]))];exact p4 q hq⟩
  ·have e:i≠j:=by rintro rfl;rw[hnew]at hi;cases hi
   rw[hold e]at hi;have⟨h0,hl',A',c',q1,q2,q3,q6,q4⟩:=h.mrow i k' n' ys hi;refine⟨h0,hl',A',c',q1,q2,q3,q6,λhc'=>?_⟩;have⟨b',cs',t',p1,p2,p3,p4,p5⟩:=q4 hc';exact⟨b',cs',t',p1,p2,p3,λq x v hx hv=>⟨(p4 q x v hx hv).1,(p4 q x v hx hv).2.mono hle⟩,λq=>by rw[hif q (hfar e (by simp[blk,hi,q1,hc',p1]))];exact p5 q⟩
  ·have e:i≠j:=by rintro rfl;rw[hnew]at hi;cases hi
   rw[hold e]at hi;have⟨b',us,h1,h2,h3⟩:=h.raw i o ys hi;exact⟨b',us,h1,h2,h3.mono hle⟩
  ·by_cases e:i=j<;>by_cases e':i'=j
   ·rw[e,e']
   ·subst e;have:=hbnew hi;subst this;rw[hbold e']at hi';exact(hfar e' hi' rfl).elim
   ·subst e';have:=hbnew hi';subst this;rw[hbold e]at hi;exact(hfar e hi rfl).elim
   ·rw[hbold e]at hi;rw[hbold e']at hi';exact h.sep i i' b' hi hi'
  ·by_cases e:i=j
   ·subst e;exact .inr ⟨i,by rw[hbnew hb];exact hbj⟩
   ·rw[hbold e]at hb;exact .inr ⟨i,hb⟩
  ·by_cases e:b'=b
   ·subst e;exact .inr (.inr ⟨j,hbj⟩)
   ·rw[hif i e]at hv;exact .inl hv
  ·obtain⟨q,hq,rfl⟩:=getElem_of_mem hu;have⟨q1,q2⟩:=hvg q _ (getElem?_eq_getElem hq);exact(g4 q _ _ (getElem?_eq_getElem (show q<xs.length by omega)) q2).1
  ·exact(g4 i x v hx (hvg i v hv).2).2.mono hle
  ·simpa[Gh.newImm]using hu
 ·have hn0:n=0:=Om
  subst hn0;have hxn:xs=[]:=eq_nil_of_length_eq_zero Om;subst hxn;have hbold:∀i b,blk G (T.set j (.row k 0)) i=some b->blk G T i=some b:=λi b hb=>by
   by_cases e:i=j
   ·subst e;cases A<;>simp[blk,hnew,hh,hc]at hb
   ·unfold blk at hb ⊢;rwa[hold e]at hb
  refine⟨G,⟨Gh.Le.refl _,⟨h.imm,λi hi=>?_,λi ys hi=>?_,λi k' n' hi=>?_,λi k' n' ys hi=>?_,λi o ys hi=>?_,λi i' b' hi hi'=>h.sep i i' b' (hbold i b' hi) (hbold i' b' hi')⟩,CE.refl _ _,λi b' hb=>.inr ⟨i,hbold i b' hb⟩,λ_ _ _ h=>.inl h⟩,hh,[],Si,h3,Si,Si,λh=>by omega⟩
  ·by_cases e:i=j
   ·subst e;rw[hnew]at hi;simp at hi
   ·rw[hold e]at hi;exact h.dom i hi
  ·have e:i≠j:=by rintro rfl;rw[hnew]at hi;cases hi
   rw[hold e]at hi;exact h.obj i ys hi
  ·by_cases e:i=j
   ·subst e;rw[hnew]at hi;injection hi with hi;injection hi with e1 e2;subst e1 e2;exact⟨hk,_,c,hh,h2,h3,λhl=>absurd hl hc⟩
   ·rw[hold e]at hi;exact h.row i k' n' hi
  ·have e:i≠j:=by rintro rfl;rw[hnew]at hi;cases hi
   rw[hold e]at hi;exact h.mrow i k' n' ys hi
  ·have e:i≠j:=by rintro rfl;rw[hnew]at hi;cases hi
   rw[hold e]at hi;exact h.raw i o ys hi
theorem Fp.no_cell {w:World} {b:Nat} {o:Fp} {vs:List Value} (h:w.heap[b]? =some (o.obj vs)) (i:Nat):w.cell? ⟨b,i,none⟩=none:=by
 cases o<;>simp[World.cell?,h,Fp.obj]
theorem AS.rawNew {G:Gh} {T:List Ac} {w w':World} {id:Nat} {o:Fp} {xs:List AV} {vs:List Value} (h:Wd G T w) (hid:T[id]? =some .dead) (hr:BT G xs vs)
 (hm:C_ w w' (o.obj vs)):AS G T w (G.newLoc id w.heap.size) (T.set id (.raw o xs)) w':=by
 have hlt:id<T.length:=(Ge hid);have hd:=h.dom id (.inr hid);have hw:=h.more hm;have hle:G.Le (G.newLoc id w.heap.size):=by
  refine⟨λ_ _ _ h=>h,λi b hb=>?_,λ_ _ _ h=>h⟩;by_cases e:i=id
  ·subst e;rw[hd.1]at hb;cases hb
  ·simpa[Gh.newLoc,e]using hb
 have hold:∀{i:Nat},i≠id->(T.set id (.raw o xs))[i]? =T[i]? :=λ{i} e=>by rw[getElem?_set_ne (Ne.symm e)]
 have hnew:(T.set id (.raw o xs))[id]? =some (.raw o xs):=by simp[hlt]
 have hbnew:blk (G.newLoc id w.heap.size) (T.set id (.raw o xs)) id=some w.heap.size:=by simp[blk,hnew,Gh.newLoc]
 have hbold:∀{i:Nat},i≠id->blk (G.newLoc id w.heap.size) (T.set id (.raw o xs)) i=blk G T i:=by
  intro i e;unfold blk;rw[hold e];simp[Gh.newLoc,e]
 refine⟨hle,⟨hw.imm,λi hi=>?_,λi ys hi=>?_,λj k n hj=>?_,λj k n ys hj=>?_,λj o' ys hj=>?_,λi j b hi hj=>?_⟩,hm.kept _,λi b hb=>?_,λ_ _ _ h=>.inl h⟩
 ·by_cases e:i=id
  ·subst e;rw[hnew]at hi;simp at hi
  ·rw[hold e]at hi;simpa[Gh.newLoc,e]using h.dom i hi
 ·have e:i≠id:=by rintro rfl;rw[hnew]at hi;cases hi
  rw[hold e]at hi;have⟨b,cs,t,h1,h2,h3,h4,h5⟩:=hw.obj i ys hi;exact⟨b,cs,t,by simpa[Gh.newLoc,e]using h1,h2,h3,λk x v hx hv=>⟨(h4 k x v hx hv).1,(h4 k x v hx hv).2.mono hle⟩,h5⟩
 ·have e:j≠id:=by rintro rfl;rw[hnew]at hj;cases hj
  rw[hold e]at hj;exact hw.row j k n hj
 ·have e:j≠id:=by rintro rfl;rw[hnew]at hj;cases hj
  rw[hold e]at hj;have⟨h0,hl,A,c,h1,h2,h3,hc6,h4⟩:=hw.mrow j k n ys hj;exact⟨h0,hl,A,c,h1,h2,h3,hc6,h4.mono hle rfl⟩
 ·by_cases e:j=id
  ·subst e;rw[hnew]at hj;injection hj with hj;injection hj with e1 e2;subst e1 e2;exact⟨w.heap.size,vs,by simp[Gh.newLoc],hm.new,hr.mono hle⟩
  ·rw[hold e]at hj;have⟨b,us,h1,h2,h3⟩:=hw.raw j o' ys hj;exact⟨b,us,by simpa[Gh.newLoc,e]using h1,h2,h3.mono hle⟩
 ·by_cases e:i=id<;>by_cases e':j=id
  ·rw[e,e']
  ·rw[e,hbnew]at hi;injection hi with hi;rw[hbold e']at hj;have:=HH h hj;omega
  ·rw[e',hbnew]at hj;injection hj with hj;rw[hbold e]at hi;have:=HH h hi;omega
  ·rw[hbold e]at hi;rw[hbold e']at hj;exact h.sep i j b hi hj
 ·by_cases e:i=id
  ·rw[e,hbnew]at hb;injection hb with hb;left;omega
  ·rw[hbold e]at hb;exact .inr ⟨i,hb⟩
theorem AS.rawTo {G:Gh} {T:List Ac} {w w':World} {i b:Nat} {o o':Fp} {xs xs':List AV} {vs':List Value} (h:Wd G T w) (hi:T[i]? =some (.raw o xs)) (hb:G.loc i=some b)
 (hm:KA w w' b (o'.obj vs')) (hr:BT G xs' vs'):AS G T w G (T.set i (.raw o' xs')) w':=by
 have hlt:i<T.length:=(Ge hi);have hold:∀{j:Nat},j≠i->(T.set i (.raw o' xs'))[j]? =T[j]? :=λ{j} e=>by rw[getElem?_set_ne (Ne.symm e)]
 have hnew:(T.set i (.raw o' xs'))[i]? =some (.raw o' xs'):=by simp[hlt]
 have hbi:blk G T i=some b:=by simp[blk,hi,hb]
 have hblk:∀j,blk G (T.set i (.raw o' xs')) j=blk G T j:=by
  intro j;by_cases e:j=i
  ·subst e;simp[blk,hnew,hi]
  ·simp[blk,hold e]
 have hfar:∀{j b':Nat},j≠i->blk G T j=some b'->b'≠b:=λ{j b'} e hj he=>e (h.sep j i b (he▸hj) hbi)
 refine⟨Gh.Le.refl _,⟨λb' k v hv=>?_,λj hj=>?_,λj ys hj=>?_,λj k n hj=>?_,λj k n ys hj=>?_,λj o ys hj=>?_,λj j' b' hj hj'=>?_⟩,hm.kept λhu=>hu i hbi,λj b' hj=>?_,λ_ _ _ h=>.inl h⟩
 ·refine hm.cell (λe=>?_) (h.imm b' k v hv);have e':b'=b:=e;subst e';have⟨b2,vs,h1,h2,_⟩:=h.raw i o xs hi;rw[hb]at h1;injection h1 with h1;subst h1;have:=h.imm b' k v hv;rw[Fp.no_cell h2]at this;cases this
 ·by_cases e:j=i
  ·subst e;rw[hnew]at hj;simp at hj
  ·rw[hold e]at hj;exact h.dom j hj
 ·have e:j≠i:=by rintro rfl;rw[hnew]at hj;cases hj
  rw[hold e]at hj;have⟨b',cs',t',h1,h2,h3⟩:=h.obj j ys hj;exact⟨b',cs',t',h1,by rw[hm.other b' (hfar e (by simp[blk,hj,h1]))];exact h2,h3⟩
 ·have e:j≠i:=by rintro rfl;rw[hnew]at hj;cases hj
  rw[hold e]at hj;have⟨h0,A,c,h1,h2,h3,h4⟩:=h.row j k n hj;refine⟨h0,A,c,h1,h2,h3,λhlt=>?_⟩;have⟨b',cs',t',g1,g2,g3⟩:=h4 hlt;exact⟨b',cs',t',g1,by rw[hm.other b' (hfar e (by simp[blk,hj,h1,hlt,g1]))];exact g2,g3⟩
 ·have e:j≠i:=by rintro rfl;rw[hnew]at hj;cases hj
  rw[hold e]at hj;have⟨h0,hl,A,c,h1,h2,h3,hc6,h4⟩:=h.mrow j k n ys hj;refine⟨h0,hl,A,c,h1,h2,h3,hc6,λhlt=>?_⟩;have⟨b',cs',t',g1,g2,g3⟩:=h4 hlt;exact⟨b',cs',t',g1,by rw[hm.other b' (hfar e (by simp[blk,hj,h1,hlt,g1]))];exact g2,g3⟩
 ·by_cases e:j=i
  ·subst e;rw[hnew]at hj;injection hj with hj;injection hj with e1 e2;subst e1 e2;exact⟨b,vs',hb,hm.here,hr⟩
  ·rw[hold e]at hj;have⟨b',us,h1,h2,h3⟩:=h.raw j o ys hj;exact⟨b',us,h1,by rw[hm.other b' (hfar e (by simp[blk,hj,h1]))];exact h2,h3⟩
 ·rw[hblk]at hj hj';exact h.sep j j' b' hj hj'
 ·rw[hblk]at hj;exact .inr ⟨j,hj⟩
theorem AS.still_ {G:Gh} {T:List Ac} {w w':World} {cs:Array Value} {t:TypeId} {fz:Nat×Nat} {vs:List Value} (h:Wd G T w) (hm:C_ w w' (.cells cs t fz)) (hc:∀(i:Nat) (v:Value),vs[i]? =some v->cs[i]? =some v):
 AS G T w (G.newImm w.heap.size vs) T w':=by
 have hnone:∀i,G.imm w.heap.size i=none:=λi=>by
  cases hc:G.imm w.heap.size i with
  |none=>rfl
  |some u=>have:=Q9 h hc;omega
 have⟨hw1,hle1⟩:=(h.more hm).claim w.heap.size vs (λi v hv=>by rw[CQ hm.new];exact hc i v hv) hnone (λi hi=>by have:=HH h hi;omega);refine⟨hle1,hw1,hm.kept _,λi b hb=>.inr ⟨i,hb⟩,λb i v hv=>?_⟩;by_cases e:b=w.heap.size
 ·right;left;omega
 ·left;simpa[Gh.newImm,e]using hv
def AV.ofC1:Value->AV
 | .slice none 0 0=>.sl .full 1 []
 |v=>.lit v
def AV.ofC:Value->AV
 | .agg cs=>if cs.all (·.oneCell')then .agg (cs.toList.map AV.ofC1)else .any
 |v=>AV.ofC1 v
def J5 (G:Gh) (v:Value):Bg G (AV.ofC1 v) v:=by
 unfold AV.ofC1;split
 ·have:=Bg.sl (G:=G) (t:=.full) (k:=1) (xs:=[]) (A:=none) (c:=0) (b:=0) (o:=0) (λ_ _=>undef) Si Si Si Si Si Si rfl;simpa using this
 ·exact .lit v
def qB (G:Gh) (v:Value):Bg G (AV.ofC v) v:=by
 unfold AV.ofC;split
 ·rename_i cs;split
  ·rename_i h;refine .agg Si (λj v hv=>?_) (λj x v hx hv=>?_)
   ·rw[Array.all_eq_true]at h;obtain⟨hj,rfl⟩:=Array.getElem?_eq_some_iff.1 hv;exact h j hj
   ·obtain⟨y,hy,rfl⟩:=A6 hx;have:y=v:=by simpa[hv]using hy.symm
    subst this;exact J5 G y
  ·exact .any _
 ·exact J5 G _
def ev (tm:List AV):Operand->AV
 | .tmp t=>tm.getD t .any
 | .const v=>AV.ofC v
 | .global _=>.any
 | .func f=>.fn f [] []
def AV.parts:AV->Option (List AV)
 | .agg xs=>some xs
 | .any=>none
 | .tup _=>none
 |x=>if x.one then some [x]else none
theorem Bg.parts {G:Gh} {x:AV} {v:Value} (r:Bg G x v) {cs:List AV} (h:x.parts=some cs):cs=x.cells∧BT G cs v.cells.toList∧∀u∈v.cells.toList,u.oneCell'=true:=by
 have one:∀{x:AV} {v:Value},Bg G x v->x.one=true->v.oneCell'=true->BT G [x] [v]∧∀u∈[v],u.oneCell'=true:=
  λr _ hv=>⟨BT.cons r (BT.nil G),λu hu=>by simp at hu;subst hu;exact hv⟩
 cases r with
 |any=>simp[AV.parts]at h
 |tup=>simp[AV.parts]at h
 |agg h0 h2 h3=>
  simp[AV.parts]at h;subst h;refine⟨rfl,⟨by simpa[Value.cells]using h0,λj x v hx hv=>h3 j x v hx (by simpa[Value.cells]using hv)⟩,λu hu=>?_⟩;obtain⟨j,hj,rfl⟩:=getElem_of_mem hu;refine h2 j _ (by simp[Value.cells])
 |lit v=>
  simp only[AV.parts]at h;split at h
  ·rename_i ho;injection h with h;subst h;have hv:v.oneCell'=true:=ho;cases v<;>first|(exact⟨rfl,one (.lit _) ho hv⟩)|(simp[Value.oneCell']at hv)
  ·cases h
 |ref hl=>simp[AV.parts,AV.one]at h;subst h;exact⟨rfl,one (.ref hl) rfl rfl⟩
 |iptr vs h1 h2 h3=>simp[AV.parts,AV.one]at h;subst h;exact⟨rfl,one (.iptr vs h1 h2 h3) rfl rfl⟩
 |sl vs hc hA hk h1 h2 h3 ht=>simp[AV.parts,AV.one]at h;subst h;exact⟨rfl,one (.sl vs hc hA hk h1 h2 h3 ht) rfl rfl⟩
 |fn hf hc h1 h2=>simp[AV.parts,AV.one]at h;subst h;exact⟨rfl,one (.fn hf hc h1 h2) rfl rfl⟩
 |ms q1 q2=>simp[AV.parts,AV.one]at h;subst h;exact⟨rfl,one (.ms q1 q2) rfl rfl⟩
 |mapr q1=>simp[AV.parts,AV.one]at h;subst h;exact⟨rfl,one (.mapr q1) rfl rfl⟩
 |yv q1=>simp[AV.parts,AV.one]at h;subst h;exact⟨rfl,one (.yv q1) rfl rfl⟩
 |mref q1=>simp[AV.parts,AV.one]at h;subst h;exact⟨rfl,one (.mref q1) rfl rfl⟩
 |slc q1=>
  simp[AV.parts,AV.one]at h;subst h;have ho:=q1.oneC rfl;cases q1 with
  |sl vs hc hA hk h1 h2 h3 ht=>exact⟨rfl,one (.slc (.sl vs hc hA hk h1 h2 h3 ht)) rfl ho⟩
def Ce:List AV->Nat->List AV->List AV
 |xs,_,[]=>xs
 |xs,o,c::cs=>Ce (xs.set o c) (o+1) cs
def Kl:List AV->List (Nat×Nat×AV)->Option (List AV)
 |cells,[]=>some cells
 |cells,(off,size,x)::rest=>match x.parts with
  |some cs=>if cs.length=size∧off+size≤cells.length then Kl (Ce cells off cs) rest else none
  |none=>none
inductive I where
 |mov (x:Operand)
 |pick (c a b:Operand)
 |new (zs:List Value)
 |box (x:Operand)
 |build (zs:List Value) (parts:List (Nat×Nat×Operand))
 |bsl (k:Nat) (xs:List Operand)
 |load (n:Option Nat) (a:Operand)
 |store (n:Nat) (a x:Operand)
 |nilc (x:Operand)
 |bin (op:BinOp) (x y:Operand)
 |eqb (neg:Bool) (x y:Operand)
 |eqa (neg:Bool) (n:Nat) (x y:Operand)
 |eqp (neg:Bool) (x y:Operand)
 |un (op:UnOp) (x:Operand)
 |cvt (k:IntKind) (x:Operand)
 |b2s (x:Operand)
 |s2b (x:Operand)
 |slice (k:Nat) (x:Operand) (lo hi mx:Option Operand)
 |sstr (x:Operand) (lo hi:Option Operand)
 |fadr (off:Nat) (x:Operand)
 |fld (off:Nat) (n:Option Nat) (x:Operand)
 |iadr (k:Nat) (x ix:Operand)
 |aadr (len k:Nat) (x ix:Operand)
 |idx (len k:Nat) (n:Option Nat) (x ix:Operand)
 |sidx (x ix:Operand)
 |ext (x:Operand) (i:Nat)
 |mkf (f:FuncId) (first caps:List Operand)
 |call (f:Operand) (args:List Operand)
 |app (k bytes:Nat) (s x:Operand)
 |len (str:Bool) (x:Operand)
 |lenc (n:Nat)
 |mx (isMax:Bool) (x y:Operand)
 |mksl (k bytes:Nat) (l c:Operand)
 |mkmap
 |mlook (x k:Operand)
 |mput (x k v:Operand)
 |eqf (neg:Bool) (x y:Operand)
abbrev KT:=AV->List Nat->List (Nat×Ac)->List Ac->Prop
def BC (n:Nat):List Ac->List (Nat×Ac)
 |[]=>[]
 |o::os=>(n,o)::BC (n+1) os
def CJ (op:BinOp) (k:IntKind) (a b:Int):Int:=
 match op with
 | .and=>k.wrap (BitVec.ofInt k.bits a&&&BitVec.ofInt k.bits b).toNat
 | .or=>k.wrap (BitVec.ofInt k.bits a|||BitVec.ofInt k.bits b).toNat
 | .xor=>k.wrap (BitVec.ofInt k.bits a^^^BitVec.ofInt k.bits b).toNat
 |_=>k.wrap (BitVec.ofInt k.bits a&&& ~~~BitVec.ofInt k.bits b).toNat
def Dk (op:BinOp) (k:IntKind) (a:Int) (k':IntKind) (b:Int) (K:KT):Prop:=
 match op with
 | .add=>k=k'∧K (.lit (.int k (k.wrap (a+b)))) [] [] []
 | .sub=>k=k'∧K (.lit (.int k (k.wrap (a-b)))) [] [] []
 | .mul=>k=k'∧K (.lit (.int k (k.wrap (a*b)))) [] [] []
 | .quo=>k=k'∧b≠0∧K (.lit (.int k (k.wrap (a.tdiv b)))) [] [] []
 | .rem=>k=k'∧b≠0∧K (.lit (.int k (a.tmod b))) [] [] []
 | .and=>k=k'∧K (.lit (.int k (CJ .and k a b))) [] [] []
 | .or=>k=k'∧K (.lit (.int k (CJ .or k a b))) [] [] []
 | .xor=>k=k'∧K (.lit (.int k (CJ .xor k a b))) [] [] []
 | .andNot=>k=k'∧K (.lit (.int k (CJ .andNot k a b))) [] [] []
 | .shl=>0≤b∧K (.lit (.int k (k.wrap (a*2^min b.toNat k.bits)))) [] [] []
 | .shr=>0≤b∧K (.lit (.int k (a.fdiv (2^min b.toNat k.bits)))) [] [] []
 | .eql=>k=k'∧K (.lit (.bool (a==b))) [] [] []
 | .neq=>k=k'∧K (.lit (.bool (a != b))) [] [] []
 | .lss=>k=k'∧K (.lit (.bool (decide (a<b)))) [] [] []
 | .leq=>k=k'∧K (.lit (.bool (decide (a≤b)))) [] [] []
 | .gtr=>k=k'∧K (.lit (.bool (decide (b<a)))) [] [] []
 | .geq=>k=k'∧K (.lit (.bool (decide (b≤a)))) [] [] []
def W5 (op:BinOp) (a b:ByteArray) (K:KT):Prop:=
 match op with
 | .eql=>K (.lit (.bool (a.toList==b.toList))) [] [] []
 | .neq=>K (.lit (.bool (!(a.toList==b.toList)))) [] [] []
 |_=>False
def T5 (op:BinOp) (x y:AV) (K:KT):Prop:=
 match x,y with
 | .lit (.int k a),.lit (.int k' b)=>Dk op k a k' b K
 | .lit (.string a),.lit (.string b)=>W5 op a b K
 |_,_=>False
def Nk (c x y:AV) (K:KT):Prop:=
 match c with
 | .lit (.bool t)=>K (bif t then x else y) [] [] []
 |_=>False
def No (x:AV) (n:Nat) (K:KT):Prop:=
 match x.parts with
 |some cs=>K (.ref n 0) [] [] [.cells cs]
 |none=>False
def Hs (cells:List AV) (parts:List (Nat×Nat×AV)) (K:KT):Prop:=
 match Kl cells parts with
 |some cs=>K (.agg cs) [] [] []
 |none=>False
def aX (k:Nat) (x:AV):Bool:=match x.parts with
 |some cs=>cs.length==k
 |none=>false
def rT (k:Nat) (xs:List AV) (K:KT):Prop:=xs.all (aX k)=true∧K (.sl .full k xs) [] [] []
def flat (ys:List AV):List AV:=(ys.map AV.cells).flatten
def W8 (n:Option Nat) (j g o:Nat) (S:List Ac) (K:KT):Prop:=
 match S[j]? with
 |some (.mrow _ m xs)=>m=g∧match n with
  |none=>match xs[o]? with
   |some x=>K x [j] [] []
   |none=>False
  |some n=>0<n∧o+n≤xs.length∧K (.agg ((xs.drop o).take n)) [j] [] []
 |_=>False
def Q1 (n:Nat) (j g o:Nat) (x:AV) (S:List Ac) (K:KT):Prop:=
 match S[j]? with
 |some (.mrow k m xs)=>match x.parts with
  |some cs=>m=g∧0<n∧cs.length=n∧o+n≤xs.length∧K .any [j] [(j,.mrow k m (Ce xs o cs))] []
  |none=>False
 |_=>False
def Kf (n:Option Nat) (a:AV) (S:List Ac) (K:KT):Prop:=
 match a with
 | .mref j g o=>W8 n j g o S K
 | .iptr cs=>match n with
   |none=>match cs with
    |x::_=>K x [] [] []
    |[]=>False
   |some n=>n≤cs.length∧K (.agg (cs.take n)) [] [] []
 | .ref i o=>match S[i]? with
   |some (.cells xs)=>match n with
    |none=>match xs[o]? with
     |some x=>K x [i] [] []
     |none=>False
    |some n=>o+n≤xs.length∧K (.agg ((xs.drop o).take n)) [i] [] []
   |_=>False
 |_=>False
def JC (n:Nat) (a x:AV) (S:List Ac) (K:KT):Prop:=
 match a with
 | .mref j g o=>Q1 n j g o x S K
 | .ref i o=>match S[i]? with
   |some (.cells xs)=>match x.parts with
    |some cs=>cs.length=n∧o+n≤xs.length∧K .any [i] [(i,.cells (Ce xs o cs))] []
    |none=>False
   |_=>False
 |_=>False
def Q3 (x:AV) (K:KT):Prop:=
 match x with
 | .ref i o=>K (.ref i o) [] [] []
 | .iptr cs=>K (.iptr cs) [] [] []
 | .mref j g o=>K (.mref j g o) [] [] []
 |_=>False
def Xa (neg:Bool) (x y:AV) (K:KT):Prop:=
 match x,y with
 | .lit (.bool a),.lit (.bool b)=>K (.lit (.bool (if neg then !(a==b)else a==b))) [] [] []
 |_,_=>False
def E_:List AV->List AV->Bool
 | .lit (.int _ a)::xs,.lit (.int _ b)::ys=>(a==b)&&E_ xs ys
 |_,_=>true
def Je:List AV->List AV->Bool
 |[],[]=>true
 | .lit (.int k _)::xs,.lit (.int k' _)::ys=>k==k'&&Je xs ys
 |_,_=>false
def Xb (neg:Bool) (n:Nat) (x y:AV) (K:KT):Prop:=
 match x,y with
 | .agg xs,.agg ys=>xs.length=n∧Je xs ys=true∧K (.lit (.bool (if neg then !(E_ xs ys)else E_ xs ys))) [] [] []
 |_,_=>False
def T3 (neg:Bool) (x y:AV) (K:KT):Prop:=
 match x,y with
 | .ref _ _,.lit (.pointer none)=>K (.lit (.bool neg)) [] [] []
 | .lit (.pointer none),.lit (.pointer none)=>K (.lit (.bool !neg)) [] [] []
 |_,_=>False
def rR (op:UnOp) (x:AV) (K:KT):Prop:=
 match op,x with
 | .neg,.lit (.int k n)=>K (.lit (.int k (k.wrap (0-n)))) [] [] []
 | .xor,.lit (.int k n)=>K (.lit (.int k (CJ .xor k (if k.signed then-1 else k.max) n))) [] [] []
 | .not,.lit (.bool b)=>K (.lit (.bool !b)) [] [] []
 |_,_=>False
def Xc (k:IntKind) (x:AV) (K:KT):Prop:=
 match x with
 | .lit (.int _ n)=>K (.lit (.int k (k.wrap n))) [] [] []
 |_=>False
def AV.isU8:AV->Bool
 | .lit (.int .u8 _)=>true
 |_=>false
def AV.byte:AV->UInt8
 | .lit (.int _ n)=>UInt8.ofNat n.toNat
 |_=>0
def FJ (xs:List AV):ByteArray:=⟨(xs.map AV.byte).toArray⟩
def Xd (x:AV) (K:KT):Prop:=
 match x with
 | .sl _ k xs=>(k=1∨xs=[])∧xs.all (·.isU8)=true∧K (.lit (.string (FJ xs))) [] [] []
 |_=>False
def W6 (x:AV) (K:KT):Prop:=
 match x with
 | .lit (.string s)=>s.size≤140737488355328∧K (.sl .none 1 (s.data.toList.map λb=>.lit (.int .u8 b.toNat))) [] [] []
 |_=>False
def AV.i:AV->Option Int
 | .lit (.int _ n)=>some n
 |_=>none
def e8 (x:Option AV) (d:Int):Option Int:=
 match x with
 |none=>some d
 |some x=>x.i
def iN (t:Gd) (lo hi mx:Option AV):Gd:=
 match lo,hi,mx with
 |none,none,none=>t
 |some _,none,none=>match t with
  | .full=>.full
  |_=>.none
 |_,_,_=>.none
def Eh (k:Nat) (x:AV) (lo hi mx:Option AV) (K:KT):Prop:=
 match x with
 | .sl t ks xs=>match e8 lo 0,e8 hi xs.length with
   |some l,some h=>(ks=k∨xs=[])∧0≤l∧l≤h∧h≤xs.length∧match mx with
    |none=>K (.sl (iN t lo hi none) ks ((xs.drop l.toNat).take (h-l).toNat)) [] [] []
    |some m=>(hi.isSome=true∧m.i=some h)∧K (.sl .full ks ((xs.drop l.toNat).take (h-l).toNat)) [] [] []
   |_,_=>False
 |_=>False
def PL (x:AV) (lo hi:Option AV) (K:KT):Prop:=
 match x with
 | .lit (.string s)=>match e8 lo 0,e8 hi s.size with
   |some l,some h=>0≤l∧l≤h∧h≤s.size∧K (.lit (.string (s.extract l.toNat h.toNat))) [] [] []
   |_,_=>False
 |_=>False
def Kg (off:Nat) (x:AV) (K:KT):Prop:=
 match x with
 | .ref i o=>K (.ref i (o+off)) [] [] []
 | .iptr cs=>K (.iptr (cs.drop off)) [] [] []
 | .mref j g o=>K (.mref j g (o+off)) [] [] []
 |_=>False
def KV (off:Nat) (n:Option Nat) (x:AV) (K:KT):Prop:=
 match x with
 | .agg xs=>match n with
   |none=>match xs[off]? with
    |some x=>K x [] [] []
    |none=>False
   |some n=>off+n≤xs.length∧K (.agg ((xs.drop off).take n)) [] [] []
 |_=>False
def Lo (k:Nat) (x ix:AV) (K:KT):Prop:=
 match x,ix with
 | .sl _ ks xs,.lit (.int _ i)=>ks=k∧0≤i∧i<xs.length∧K (.iptr (xs.getD i.toNat .any).cells) [] [] []
 | .ms j g,.lit (.int _ i)=>0≤i∧i<g∧K (.mref j g (i.toNat*k)) [] [] []
 |_,_=>False
def Lp (len k:Nat) (x ix:AV) (K:KT):Prop:=
 match x,ix with
 | .ref i o,.lit (.int _ n)=>0≤n∧n<len∧K (.ref i (o+n.toNat*k)) [] [] []
 | .iptr cs,.lit (.int _ n)=>0≤n∧n<len∧K (.iptr (cs.drop (n.toNat*k))) [] [] []
 |_,_=>False
def W9 (len k:Nat) (n:Option Nat) (x ix:AV) (K:KT):Prop:=
 match x,ix with
 | .agg xs,.lit (.int _ i)=>0≤i∧i<len∧KV (i.toNat*k) n (.agg xs) K
 |_,_=>False
def PM (x ix:AV) (K:KT):Prop:=
 match x,ix with
 | .lit (.string s),.lit (.int _ i)=>0≤i∧i<s.size∧K (.lit (.int .u8 (s.data.toList.getD i.toNat 0).toNat)) [] [] []
 |_,_=>False
def W_ (x:AV) (i:Nat) (K:KT):Prop:=
 match x with
 | .tup xs=>match xs[i]? with
   |some x=>K x [] [] []
   |none=>False
 |_=>False
def YW (k bytes j g ky:Nat) (ys:List AV) (S:List Ac) (K:KT):Prop:=
 match S[j]? with
 |some (.mrow k' m xs)=>k'=k∧m=g∧(ky=k∨ys=[])∧(g+ys.length)*bytes≤140737488355328∧K (.ms j (g+ys.length)) [j] [(j,.mrow k (g+ys.length) (xs++flat ys))] []
 |_=>False
def Q5 (k bytes:Nat) (s x:AV) (S:List Ac) (K:KT):Prop:=
 match s,x with
 | .ms j g,.sl _ ky ys=>YW k bytes j g ky ys S K
 | .sl t _ xs,.slc ky ys=>t=.full∧xs=[]∧(ky=k∨ys=[])∧ys.length*bytes≤140737488355328∧K (.ms S.length ys.length) [] [] [.mrow k ys.length (flat ys)]
 | .sl t ks xs,.sl _ ky ys=>(ks=k∨xs=[])∧(ky=k∨ys=[])∧(xs.length+ys.length)*bytes≤140737488355328∧match t with
   | .full=>K (.sl (.row S.length) k (xs++ys)) [] [] [.row k (xs.length+ys.length)]
   | .row j=>S[j]? =some (.row k xs.length)∧K (.sl (.row j) k (xs++ys)) [j] [(j,.row k (xs.length+ys.length))] []
   | .none=>False
 |_,_=>False
def Nl (str:Bool) (x:AV) (K:KT):Prop:=
 match str,x with
 |false,.sl _ _ xs=>K (.lit (.int .i64 xs.length)) [] [] []
 |false,.ms _ g=>K (.lit (.int .i64 g)) [] [] []
 |true,.lit (.string s)=>K (.lit (.int .i64 s.size)) [] [] []
 |_,_=>False
def wS (isMax:Bool) (x y:AV) (K:KT):Prop:=
 match x,y with
 | .lit (.int k a),.lit (.int _ b)=>K (.lit (.int k (if isMax then(if b>a then b else a)else if b<a then b else a))) [] [] []
 |_,_=>False
def N_ (k:Nat):AV:=if k=1 then .any else .agg (List.replicate k .any)
theorem N9 (k:Nat):(N_ k).cells=List.replicate k .any:=by
 unfold N_;by_cases h:k=1
 ·rw[if_pos h,h];rfl
 ·rw[if_neg h];rfl
def Ln (k bytes:Nat) (l c:AV) (n:Nat) (K:KT):Prop:=
 match l,c with
 | .lit (.int .i64 l),.lit (.int .i64 c)=>(0≤l∧l≤c)∧0≤c∧c*bytes≤140737488355328∧c<9223372036854775808∧K (.sl (.row n) k (List.replicate l.toNat (N_ k))) [] [] [.row k l.toNat]
 |_,_=>False
def Gc:List (Int×Int)->Int->Int
 |[],_=>0
 |p::l,a=>if a==p.1 then p.2 else Gc l a
def HW:List (Int×Int)->Int->Int->List (Int×Int)
 |[],a,v=>[(a,v)]
 |p::l,a,v=>if a==p.1 then(a,v)::l else p::HW l a v
def KU (x k:AV) (S:List Ac) (K:KT):Prop:=
 match x,k with
 | .mapr i,.lit (.int .u32 a)=>match S[i]? with
   |some (.raw (.imap l) _)=>K (.lit (.int .i64 (Gc l a))) [i] [] []
   |_=>False
 |_,_=>False
def PN (x k v:AV) (S:List Ac) (K:KT):Prop:=
 match x,k,v with
 | .mapr i,.lit (.int .u32 a),.lit (.int .i64 u)=>match S[i]? with
   |some (.raw (.imap l) _)=>K .any [i] [(i,.raw (.imap (HW l a u)) [])] []
   |_=>False
 |_,_,_=>False
def T4 (neg:Bool) (x y:AV) (K:KT):Prop:=
 match x,y with
 | .fn _ _ _,.lit .nilFunc=>K (.lit (.bool neg)) [] [] []
 | .lit .nilFunc,.lit .nilFunc=>K (.lit (.bool !neg)) [] [] []
 |_,_=>False
def YC (P:Program) (q:Nat) (args:List AV) (S S':List Ac) (go:Bool):Prop:=
 ∀G w l (vs:Array Value),Wd G S w->G.loc q=some l->BT G args vs.toList->∃f tmps as body,(Instr.yield l vs).run P w=.ok (.round l f tmps as body) w∧
  RoundIn Fence.wide 0 P l f tmps as body w λe w'=>∃G',e=.returned (.bool go)∧AS G S w G' S' w'
def nR (P:Program) (q:Nat) (args:List AV) (S:List Ac) (K:KT):Prop:=
 ∃go S',(∀R,YC P q args (S++R) (S'++R) go)∧S'.length=S.length∧0<S.length∧K (.lit (.bool go)) (List.range S.length) ((List.range S.length).zip S') []
def Aek (P:Program) (f:FuncId) (args:List AV) (S:List Ac) (v:AV) (rd:List Nat) (upd:List (Nat×Ac)) (new:List Ac):Prop:=
 ∀T,(∀i∈rd,T[i]? =S[i]?)->(∀p∈upd,p.1∈rd)->(∀p∈BC S.length new,T[p.1]? =some .dead)->Ag P f args T v (Cv T (upd++BC S.length new))
def Aa (P:Program) (f:FuncId) (args:List AV) (S:List Ac) (K:KT):Prop:=∃v rd upd new,Aek P f args S v rd upd new∧(∀p∈upd,p.1∈rd)∧(∀i∈rd,i<S.length)∧K v rd upd new
def Nn (P:Program) (f:AV) (args:List AV) (S:List Ac) (K:KT):Prop:=
 match f with
 | .fn f first cap=>Aa P f (first++args++cap) S K
 | .yv q=>nR P q args S K
 |_=>False
def Cf (P:Program) (i:I) (ρ:Operand->AV) (S:List Ac) (K:KT):Prop:=
 match i with
 | .mov x=>K (ρ x) [] [] []
 | .pick c a b=>Nk (ρ c) (ρ a) (ρ b) K
 | .new zs=>K (.ref S.length 0) [] [] [.cells (zs.map AV.ofC1)]
 | .box x=>No (ρ x) S.length K
 | .build zs parts=>Hs (zs.map AV.ofC1) (parts.map λ(a,b,x)=>(a,b,ρ x)) K
 | .bsl k xs=>rT k (xs.map ρ) K
 | .load n a=>Kf n (ρ a) S K
 | .store n a x=>JC n (ρ a) (ρ x) S K
 | .nilc x=>Q3 (ρ x) K
 | .bin op x y=>T5 op (ρ x) (ρ y) K
 | .eqb neg x y=>Xa neg (ρ x) (ρ y) K
 | .eqa neg n x y=>Xb neg n (ρ x) (ρ y) K
 | .eqp neg x y=>T3 neg (ρ x) (ρ y) K
 | .un op x=>rR op (ρ x) K
 | .cvt k x=>Xc k (ρ x) K
 | .b2s x=>Xd (ρ x) K
 | .s2b x=>W6 (ρ x) K
 | .slice k x lo hi mx=>Eh k (ρ x) (lo.map ρ) (hi.map ρ) (mx.map ρ) K
 | .sstr x lo hi=>PL (ρ x) (lo.map ρ) (hi.map ρ) K
 | .fadr off x=>Kg off (ρ x) K
 | .fld off n x=>KV off n (ρ x) K
 | .iadr k x ix=>Lo k (ρ x) (ρ ix) K
 | .aadr len k x ix=>Lp len k (ρ x) (ρ ix) K
 | .idx len k n x ix=>W9 len k n (ρ x) (ρ ix) K
 | .sidx x ix=>PM (ρ x) (ρ ix) K
 | .ext x i=>W_ (ρ x) i K
 | .mkf f a b=>K (.fn f (a.map ρ) (b.map ρ)) [] [] []
 | .call f args=>Nn P (ρ f) (args.map ρ) S K
 | .app k bytes s x=>Q5 k bytes (ρ s) (ρ x) S K
 | .len s x=>Nl s (ρ x) K
 | .lenc n=>K (.lit (.int .i64 n)) [] [] []
 | .mx b x y=>wS b (ρ x) (ρ y) K
 | .mksl k bytes l c=>Ln k bytes (ρ l) (ρ c) S.length K
 | .mkmap=>K (.mapr S.length) [] [] [.raw (.imap []) []]
 | .mlook x k=>KU (ρ x) (ρ k) S K
 | .mput x k v=>PN (ρ x) (ρ k) (ρ v) S K
 | .eqf neg x y=>T4 neg (ρ x) (ρ y) K
def FP (P:Program) (t:TypeId):Option Nat:=(P.info? t).map (·.size)
def D6 (P:Program) (t:TypeId):Option (Option Nat):=
 match P.underlying t with
 |none=>none
 |some (.struct _)=>(FP P t).map some
 |some (.array _ _)=>(FP P t).map some
 |some _=>some none
def EN (P:Program) (t:TypeId):Option (List Value):=((P.info? t).bind (·.zero)).bind λz=>if z.cells.toList.all (·.oneCell')then some z.cells.toList else none
def Iv (P:Program):Nat->TypeId->Option Nat
 |0,_=>none
 |d+1,t=>match P.underlying t with
  |some (.int _)=>some 1
  |some (.struct fs)=>if P.stoodInHeld t then none else
   fs.toList.foldl (λacc f=>acc.bind λoff=>match Iv P d f.type,D6 P f.type with
    |some s,some a=>if f.name≠ "_"∧f.offset=off∧FP P f.type=some s∧(a=none->s=1)then some (off+s)else none
    |_,_=>none) (some 0)
  |some (.array n e)=>match Iv P d e,D6 P e with
   |some s,some a=>if FP P e=some s∧(a=none->s=1)then some (n*s)else none
   |_,_=>none
  |_=>none
def LN {α β:Type} (f:α->Option β):List α->Option (List β)
 |[]=>some []
 |x::xs=>match f x,LN f xs with
  |some y,some ys=>some (y::ys)
  |_,_=>none
def ID (P:Program) (o:Oper):Option I:=
 match o.op with
 | .move x=>some (.mov x)
 | .assign x=>some (.mov x)
 | .pick c a b=>some (.pick c a b)
 | .alloc e=>(EN P e).map .new
 | .box _ x=>some (.box x)
 | .build t parts=>match P.underlying t,EN P t with
   |some (.struct fs),some z=>if fs.all (λf=>(FP P f.type).isSome)then(LN (λp:Nat×Operand=>(fs[p.1]?).bind λf=>(FP P f.type).map λs=>(f.offset,s,p.2)) parts.toList).map (.build z)else none
   |some (.array _ e),some z=>(FP P e).map λs=>.build z (parts.toList.map λp=>(p.1*s,s,p.2))
   |_,_=>none
 | .buildSlice t n parts=>match P.underlying t with
   |some (.slice e)=>match FP P e,EN P e with
    |some s,some z=>if z.length=s∧1≤s∧n*s≤16777216∧parts.toList.map (·.1)=List.range n then some (.bsl s (parts.toList.map (·.2)))else none
    |_,_=>none
   |_=>none
 | .load t a=>(D6 P t).map λn=>.load n a
 | .store t a x=>(FP P t).map λn=>.store n a x
 | .nilCheck x=>some (.nilc x)
 | .binOp op t x y _=>match P.underlying t with
   |some (.int _)=>some (.bin op x y)
   |some .string=>some (.bin op x y)
   |some .bool=>if op=.eql then some (.eqb false x y)else if op=.neq then some (.eqb true x y)else none
   |some (.pointer e)=>if(FP P e).isSome then(if op=.eql then some (.eqp false x y)else if op=.neq then some (.eqp true x y)else none)else none
   |some (.struct _)=>if P.eqGuardType P.depth t then none else match Iv P 9 t,D6 P t with
    |some n,some (some _)=>if op=.eql then some (.eqa false n x y)else if op=.neq then some (.eqa true n x y)else none
    |_,_=>none
   |some (.array _ _)=>if P.eqGuardType P.depth t then none else match Iv P 9 t,D6 P t with
    |some n,some (some _)=>if op=.eql then some (.eqa false n x y)else if op=.neq then some (.eqa true n x y)else none
    |_,_=>none
   |some (.func _ _ _)=>if op=.eql then some (.eqf false x y)else if op=.neq then some (.eqf true x y)else none
   |_=>none
 | .unOp op _ x=>some (.un op x)
 | .convert src dst x=>match P.underlying src,P.underlying dst with
   |some (.int _),some (.int k)=>some (.cvt k x)
   |some (.slice e),some .string=>match P.underlying e with
    |some (.int .u8)=>some (.b2s x)
    |_=>none
   |some .string,some (.slice e)=>match P.underlying e with
    |some (.int .u8)=>some (.s2b x)
    |_=>none
   |_,_=>none
 | .slice t x lo hi mx=>match P.underlying t with
   |some (.slice e)=>(FP P e).map λs=>.slice s x lo hi mx
   |some .string=>if mx.isNone then some (.sstr x lo hi)else none
   |_=>none
 | .fieldAddr t x f=>match P.underlying t with
   |some (.struct fs)=>match fs[f]? with
    |some fd=>match FP P fd.type with
     |some s=>if 1≤s then some (.fadr fd.offset x)else none
     |none=>none
    |none=>none
   |_=>none
 | .field t x f=>match P.underlying t with
   |some (.struct fs)=>match fs[f]? with
    |some fd=>(D6 P fd.type).map λn=>.fld fd.offset n x
    |none=>none
   |_=>none
 | .indexAddr t x ix=>match P.underlying t with
   |some (.slice e)=>(FP P e).map λs=>.iadr s x ix
   |some (.array n e)=>(FP P e).map λs=>.aadr n s x ix
   |_=>none
 | .index t x ix=>match P.underlying t with
   |some (.array n e)=>match FP P e,D6 P e with
    |some s,some a=>some (.idx n s a x ix)
    |_,_=>none
   |some .string=>some (.sidx x ix)
   |_=>none
 | .extract x i=>some (.ext x i)
 | .makeFunc (.func f) a b=>some (.mkf f a.toList b.toList)
 | .makeSlice t l c=>match P.underlying t with
   |some (.slice e)=>match P.info? e,EN P e with
    |some i,some z=>if z.length=i.size∧1≤i.size then some (.mksl i.size i.bytes l c)else none
    |_,_=>none
   |_=>none
 | .makeMap _ none=>some .mkmap
 | .lookup t x k false=>match P.underlying t with
   |some (.map kt e)=>match P.underlying kt,(P.info? e).bind (·.zero)with
    |some (.int .u32),some (.int .i64 0)=>some (.mlook x k)
    |_,_=>none
   |_=>none
 | .mapUpdate t x k v=>match P.underlying t with
   |some (.map kt _)=>match P.underlying kt with
    |some (.int .u32)=>some (.mput x k v)
    |_=>none
   |_=>none
 | .call c=>match c.callee with
   | .value f=>some (.call f c.args.toList)
   | .builtin .append=>match c.argTypes.toList,c.args.toList with
     |[t,t'],[s,x]=>match P.underlying t with
      |some (.slice e)=>match P.info? e,EN P e with
       |some i,some z=>if t=t'∧z.length=i.size∧1≤i.size∧1≤i.bytes then some (.app i.size i.bytes s x)else none
       |_,_=>none
      |_=>none
     |_,_=>none
   | .builtin .len=>match c.argTypes.toList,c.args.toList with
     |[t],[x]=>match P.underlying t with
      |some (.slice _)=>some (.len false x)
      |some .string=>some (.len true x)
      |some (.array n _)=>some (.lenc n)
      |_=>none
     |_,_=>none
   | .builtin .max=>match c.args.toList with
     |[x,y]=>some (.mx true x y)
     |_=>none
   | .builtin .min=>match c.args.toList with
     |[x,y]=>some (.mx false x y)
     |_=>none
   |_=>none
 |_=>none
def OwpG (P:Program) (o:Oper) (a:Act) (w:World) (K:Act->World->Prop) (Q:Exit->Act->World->Prop):Prop:=
 o.wp P a w K Q∨∃l f tmps as body,(execOp a.eval o).run P w=.ok (.round l f tmps as body) w∧RoundIn Fence.wide 0 P l f tmps as body w λe w'=>∃v,e=.returned v∧K (a.put o.dst v) w'
def Eff (P:Program) (o:Oper) (ρ:Operand->AV) (S:List Ac) (v:AV) (rd:List Nat) (upd:List (Nat×Ac)) (new:List Ac):Prop:=
 ∀T,(∀i∈rd,T[i]? =S[i]?)->(∀p∈BC S.length new,T[p.1]? =some .dead)->∀G a w,Wd G T w->(∀x∈o.op.operands,Bg G (ρ x) (a.eval x))->
  ∀(K:Act->World->Prop) (Q:Exit->Act->World->Prop),(∀v' w' G',Bg G' v v'->AS G T w G' (Cv T (upd++BC S.length new)) w'->K (a.put o.dst v') w')->OwpG P o a w K Q
def F_ (P:Program) (o:Oper) (ρ:Operand->AV) (S:List Ac) (K:KT):Prop:=∃v rd upd new,Eff P o ρ S v rd upd new∧(∀p∈upd,p.1∈rd)∧(∀i∈rd,i<S.length)∧K v rd upd new
section
variable {P:Program} {o:Oper} {ρ:Operand->AV} {S:List Ac} {K:KT}
theorem A_ (b i j:Nat):(⟨b,i,none⟩:Addr).add j=⟨b,i+j,none⟩:=by
 unfold Addr.add;split
 ·rename_i h;subst h;rfl
 ·rfl
def AN {v:AV} (h:∀(G:Gh) (a:Act) (w:World) (T:List Ac),Wd G T w->(∀x∈o.op.operands,Bg G (ρ x) (a.eval x))->∃v',(execOp a.eval o).run P w=.ok (.value v') w∧Bg G v v')
 (hK:K v [] [] []):F_ P o ρ S K:=by
 refine⟨v,[],[],[],λT _ _ G a w hw hr K Q hk=>?_,(λp hp=>by cases hp),(λi hi=>by simp at hi),hK⟩;have⟨v',hrun,hv⟩:=h G a w T hw hr;refine .inl ?_;unfold Oper.wp;rw[hrun];exact hk v' w G hv (by simpa[BC]using AS.refl hw)
def H4 {v:AV} {i:Nat} (h:∀(G:Gh) (a:Act) (w:World) (T:List Ac),T[i]? =S[i]? ->Wd G T w->(∀x∈o.op.operands,Bg G (ρ x) (a.eval x))->∃v',(execOp a.eval o).run P w=.ok (.value v') w∧Bg G v v')
 (hi:i<S.length) (hK:K v [i] [] []):F_ P o ρ S K:=by
 refine⟨v,[i],[],[],λT ht _ G a w hw hr K Q hk=>?_,(λp hp=>by cases hp),(λj hj=>by simp at hj;subst hj;exact hi),hK⟩;have⟨v',hrun,hv⟩:=h G a w T (ht i Si) hw hr;refine .inl ?_;unfold Oper.wp;rw[hrun];exact hk v' w G hv (by simpa[BC]using AS.refl hw)
def MA {xs:List AV} (h:∀(G:Gh) (a:Act) (w:World) (T:List Ac),Wd G T w->(∀x∈o.op.operands,Bg G (ρ x) (a.eval x))->∃vs t w',(execOp a.eval o).run P w=.ok (.value (.pointer (some ⟨w.heap.size,0,none⟩))) w'∧C_ w w' (.cells (toArray vs) t)∧BT G xs vs∧∀v∈vs,v.oneCell'=true)
 (hK:K (.ref S.length 0) [] [] [.cells xs]):F_ P o ρ S K:=by
 refine⟨_,[],[],[.cells xs],λT _ hd G a w hw hr K Q hk=>?_,(λp hp=>by cases hp),(λi hi=>by simp at hi),hK⟩;have⟨vs,t,w',hrun,hm,hx,ho⟩:=h G a w T hw hr;refine .inl ?_;unfold Oper.wp;rw[hrun];have hid:T[S.length]? =some .dead:=hd (S.length,.cells xs) (by simp[BC]);have:=AS.new hw hid hx ho hm;refine hk _ w' _ ?_ (by simpa[BC]using this);exact .ref (by simp[Gh.newLoc])
def My {P:Program} {t:TypeId} {n:Nat} (h:FP P t=some n):∃i,P.info? t=some i∧i.size=n:=by
 simpa[FP]using h
def C2 {P:Program} {t:TypeId} {zs:List Value} (h:EN P t=some zs):∃i z,P.info? t=some i∧i.zero=some z∧zs=z.cells.toList∧∀v∈zs,v.oneCell'=true:=by
 unfold EN at h;cases hi:P.info? t with
 |none=>simp[hi]at h
 |some i=>
  cases hz:i.zero with
  |none=>simp[hi,hz]at h
  |some z=>
   simp only[hi,hz,Option.bind_some]at h;split at h
   ·rename_i ho;injection h with h;subst h;exact⟨i,z,rfl,hz,rfl,λv hv=>all_eq_true.1 ho v hv⟩
   ·cases h
def K9 {P:Program} {t:TypeId} (h:D6 P t=some none):∃d,P.underlying t=some d∧(∀fs,d≠ .struct fs)∧∀n e,d≠ .array n e:=by
 unfold D6 at h;cases hu:P.underlying t with
 |none=>simp[hu]at h
 |some d=>
  rw[hu]at h;cases d with
  |struct fs=>cases hs:FP P t<;>simp[hs]at h
  |array n e=>cases hs:FP P t<;>simp[hs]at h
  |_=>exact⟨_,rfl,Si,Si⟩
def Ob {P:Program} {t:TypeId} {n:Nat} (h:D6 P t=some (some n)):(∃d,P.underlying t=some d∧((∃fs,d=.struct fs)∨∃m e,d=.array m e))∧FP P t=some n:=by
 unfold D6 at h;cases hu:P.underlying t with
 |none=>simp[hu]at h
 |some d=>
  rw[hu]at h;cases d with
  |struct fs=>simp at h;exact⟨⟨_,rfl,.inl ⟨_,rfl⟩⟩,h⟩
  |array m e=>simp at h;exact⟨⟨_,rfl,.inr ⟨_,_,rfl⟩⟩,h⟩
  |_=>simp at h
theorem Hl {P:Program} {t:TypeId} (h:D6 P t=some none) (w:World):(isAgg t).run P w=.ok false w:=by
 have⟨d,hd,h1,h2⟩:=K9 h;simp only[isAgg,underlying,Sem.run_bind,run_program,Result.andThen_ok,hd,Sem.run_pure]
theorem GC {P:Program} {t:TypeId} {n:Nat} (h:D6 P t=some (some n)) (w:World):(isAgg t).run P w=.ok true w:=by
 have⟨⟨d,hd,h1⟩,_⟩:=Ob h;simp only[isAgg,underlying,Sem.run_bind,run_program,Result.andThen_ok,hd,Sem.run_pure];rcases h1 with⟨fs,rfl⟩|⟨m,e,rfl⟩<;>rfl
theorem B1 {P:Program} {t:TypeId} {n:Nat} (h:FP P t=some n) (w:World):(sizeOf t).run P w=.ok n w:=by
 obtain⟨i,hi,rfl⟩:=My h;simp[sizeOf,typeInfo,hi]
def Db {P:Program} {t:TypeId} (h:D6 P t=some none) {w:World} {a:Addr} {v:Value} (hc:w.cell? a=some v):(loadVar t a).run P w=.ok v w:=by
 simp[loadVar,Hl h,hc]
def Dc {P:Program} {t:TypeId} {n:Nat} (h:D6 P t=some (some n)) {w:World} {a:Addr} (f:Nat->Value) (hc:∀j,j<n->w.cell? (a.add j)=some (f j)):
 (loadVar t a).run P w=.ok (.agg ((List.range n).map f).toArray) w:=by
 have⟨_,hs⟩:=Ob h;simp[loadVar,GC h,B1 hs,run_loadCells w a n f hc]
def D2 {G:Gh} {xs:List AV} {n:Nat} (f:Nat->Value) (hl:xs.length=n) (h1:∀j,j<n->(f j).oneCell'=true) (h2:∀(j:Nat) (x:AV),xs[j]? =some x->Bg G x (f j)):Bg G (.agg xs) (.agg ((List.range n).map f).toArray):=by
 refine .agg (by simpa using hl) (λj v hv=>?_) (λj x v hx hv=>?_)
 ·obtain⟨q,hq,rfl⟩:=A6 (by simpa using hv:((List.range n).map f)[j]? =some v);rw[getElem?_range (by rcases Nat.lt_or_ge j n with h|h;exact h;rw[getElem?_eq_none (by simpa using h)]at hq;cases hq)]at hq;injection hq with hq;subst hq;refine h1 j ?_;rcases Nat.lt_or_ge j n with h|h
  ·exact h
  ·simp[show¬j<n by omega]at hv
 ·have hj:j<n:=by rw[←hl];exact(Ge hx)
  simp[hj]at hv;subst hv;exact h2 j x hx
def QS {G:Gh} {T:List Ac} {w:World} {j k m o:Nat} {xs:List AV} {v:Value} (h:Wd G T w) (hj:T[j]? =some (.mrow k m xs)) (r:Bg G (.mref j m o) v) (h0:0<xs.length):
 ∃(b c:Nat) (cs:Array Value) (t:TypeId),v=.pointer (some ⟨b,o,none⟩)∧G.hist j m=some (.slice (some ⟨b,0,none⟩) m c)∧m≤c∧c≤9223372036854775807∧1≤k∧xs.length=m*k∧w.heap[b]? =some (.cells cs t (0,0))∧cs.size=c*k∧xs.length≤cs.size∧
  (∀(i:Nat) (x:AV) (v:Value),xs[i]? =some x->cs[i]? =some v->v.oneCell'=true∧Bg G x v)∧blk G T j=some b:=by
 have⟨hk,hl,A,c,h1,h2,h3,h6,h4⟩:=h.mrow j k m xs hj;have hm:0<m:=by
  rcases Nat.eq_zero_or_pos m with e|e
  ·subst e;omega
  ·exact e
 have⟨b,cs,t,e1,g2,g3,g4,g5⟩:=h4 Om;subst e1;cases r with
 |mref hh=>
  rw[h1]at hh;injection hh with hh;injection hh with e1 _ e3;injection e1 with e1;injection e1 with e1;subst e1 e3;have:m*k≤c*k:=Nat.mul_le_mul_right _ h3;exact⟨_,c,cs,t,rfl,h1,h3,h6,hk,hl,g2,g3,Om,g4,by simp[blk,hj,h1,show 0<c by omega]⟩
def g8 {t:TypeId} {x:Operand} (hop:o.op=.load t x) {n:Option Nat} (hn:D6 P t=some n) (h:Kf n (ρ x) S K):F_ P o ρ S K:=by
 unfold Kf at h;have hrun:∀(a:Act) (w:World) (v:Value) (ad:Addr),a.eval x=.pointer (some ad)->(loadVar t ad).run P w=.ok v w->(execOp a.eval o).run P w=.ok (.value v) w:=by
  intro a w v ad ha hl;simp[execOp,hop,Instr.loadAt,ha,Instr.sureAddr,hl]
 split at h
 ·rename_i j g off hρ;unfold W8 at h;split at h
  ·rename_i k m xs hS;obtain⟨rfl,h⟩:=h;have rep:∀{G:Gh} {a:Act},(∀x∈o.op.operands,Bg G (ρ x) (a.eval x))->Bg G (.mref j m off) (a.eval x):=λ{G a} hr=>by
    have:=hr x (by simp[hop,Op.operands]);rwa[hρ]at this
   split at h
   ·split at h
    ·rename_i y hy;refine H4 (λG a w T hT hw hr=>?_) (Ge hS) h;have hlt:=(Ge hy);have⟨b,c,cs,t',ha,_,_,_,_,_,g2,_,g3,g4,_⟩:=QS hw (hT.trans hS) (rep hr) Om;have hc:cs[off]? =some cs[off]:=Array.getElem?_eq_getElem Om;exact⟨_,hrun a w _ _ ha (Db hn ((CQ g2 off).trans hc)),(g4 off y _ hy hc).2⟩
    ·exact h.elim
   ·rename_i n;have⟨hn0,hle,hK⟩:=h;refine H4 (λG a w T hT hw hr=>?_) (Ge hS) hK;have⟨b,c,cs,t',ha,_,_,_,_,_,g2,_,g3,g4,_⟩:=QS hw (hT.trans hS) (rep hr) Om;have hc:∀j,j<n->cs[off+j]? =some (cs.getD (off+j) undef):=λj hj=>by
     rw[Array.getElem?_eq_getElem (show off+j<cs.size by omega)];simp[show off+j<cs.size by omega]
    refine⟨_,hrun a w _ _ ha (Dc hn (λj=>cs.getD (off+j) undef) λj hj=>by rw[A_];exact(CQ g2 _).trans (hc j hj)),D2 _ (by simp;omega) (λj hj=>?_) λj y hy=>?_⟩
    ·exact(g4 (off+j) _ _ (getElem?_eq_getElem (show off+j<xs.length by omega)) (hc j hj)).1
    ·have hjn:j<n:=by
      rcases Nat.lt_or_ge j n with h|h
      ·exact h
      ·rw[getElem?_take,if_neg Om]at hy;cases hy
     refine(g4 (off+j) y _ ?_ (hc j hjn)).2;rw[getElem?_take,if_pos hjn,getElem?_drop]at hy;exact hy
  ·exact h.elim
 ·rename_i cs hρ;have rep:∀{G:Gh} {a:Act},(∀x∈o.op.operands,Bg G (ρ x) (a.eval x))->Bg G (.iptr cs) (a.eval x):=λ{G a} hr=>by
   have:=hr x (by simp[hop,Op.operands]);rwa[hρ]at this
  split at h
  ·split at h
   ·rename_i y ys;refine AN (λG a w T hw hr=>?_) h;have r:=rep hr;generalize ha:a.eval x=va at r;cases r with
    | @iptr _ b off vs h1 h2 h3=>
      have h0:=hw.imm _ _ _ (h1 0 Si);exact⟨vs 0,hrun a w _ _ ha (Db hn (by simpa using h0)),h3 0 _ Si⟩
   ·exact h.elim
  ·rename_i n;have⟨hle,hK⟩:=h;refine AN (λG a w T hw hr=>?_) hK;have r:=rep hr;generalize ha:a.eval x=va at r;cases r with
   | @iptr _ b off vs h1 h2 h3=>
     refine⟨_,hrun a w _ _ ha (Dc hn vs λj hj=>by rw[A_];exact hw.imm _ _ _ (h1 j Om)),D2 vs (by simp;omega) (λj hj=>h2 j Om) λj y hy=>h3 j y ?_⟩;rw[getElem?_take]at hy;split at hy<;>simp_all
 ·rename_i i off hρ;have rep:∀{G:Gh} {a:Act},(∀x∈o.op.operands,Bg G (ρ x) (a.eval x))->Bg G (.ref i off) (a.eval x):=λ{G a} hr=>by
   have:=hr x (by simp[hop,Op.operands]);rwa[hρ]at this
  split at h
  ·rename_i xs hS;split at h
   ·split at h
    ·rename_i y hy;refine H4 (λG a w T hT hw hr=>?_) (Ge hS) h;have r:=rep hr;generalize ha:a.eval x=va at r;cases r with
     | @ref _ _ b hb=>
       have⟨b',cs,t',g1,g2,g3,g4,_⟩:=hw.obj i xs (hT.trans hS);rw[hb]at g1;injection g1 with g1;subst g1;have hlt:off<cs.size:=by rw[g3];exact(Ge hy)
       have hc:cs[off]? =some cs[off]:=Array.getElem?_eq_getElem hlt;exact⟨_,hrun a w _ _ ha (Db hn ((CQ g2 off).trans hc)),(g4 off y _ hy hc).2⟩
    ·exact h.elim
   ·rename_i n;have⟨hle,hK⟩:=h;refine H4 (λG a w T hT hw hr=>?_) (Ge hS) hK;have r:=rep hr;generalize ha:a.eval x=va at r;cases r with
    | @ref _ _ b hb=>
      have⟨b',cs,t',g1,g2,g3,g4,_⟩:=hw.obj i xs (hT.trans hS);rw[hb]at g1;injection g1 with g1;subst g1;have hc:∀j,j<n->cs[off+j]? =some (cs.getD (off+j) undef):=λj hj=>by
       rw[Array.getElem?_eq_getElem (show off+j<cs.size by omega)];simp[show off+j<cs.size by omega]
      refine⟨_,hrun a w _ _ ha (Dc hn (λj=>cs.getD (off+j) undef) λj hj=>by rw[A_];exact(CQ g2 _).trans (hc j hj)),D2 _ (by simp;omega) (λj hj=>?_) λj y hy=>?_⟩
      ·exact(g4 (off+j) _ _ (getElem?_eq_getElem (show off+j<xs.length by omega)) (hc j hj)).1
      ·have hjn:j<n:=by
        rcases Nat.lt_or_ge j n with h|h
        ·exact h
        ·rw[getElem?_take,if_neg Om]at hy;cases hy
       refine(g4 (off+j) y _ ?_ (hc j hjn)).2;rw[getElem?_take,if_pos hjn,getElem?_drop]at hy;exact hy
  ·exact h.elim
 ·exact h.elim
end
section
variable {P:Program} {o:Oper} {ρ:Operand->AV} {S:List Ac} {K:KT}
def Yy {x:Operand} (hop:o.op=.move x∨o.op=.assign x) (h:K (ρ x) [] [] []):F_ P o ρ S K:=
 AN (λG a w T _ hr=>by
  rcases hop with hop|hop
  ·exact⟨_,by simp[execOp,hop],hr x (by simp[hop,Op.operands])⟩
  ·exact⟨_,by simp[execOp,hop],hr x (by simp[hop,Op.operands])⟩) h
theorem MR {G:Gh} {b:Bool} {v:Value} (h:Bg G (.lit (.bool b)) v):v=.bool b:=by cases h;rfl
theorem AY {G:Gh} {u v:Value} (h:Bg G (.lit u) v):v=u:=by cases h;rfl
def gW {c x y:Operand} (hop:o.op=.pick c x y) (h:Nk (ρ c) (ρ x) (ρ y) K):F_ P o ρ S K:=by
 unfold Nk at h;split at h
 ·rename_i t hc;refine AN (λG a w T _ hr=>?_) h;have rc:=hr c (by simp[hop,Op.operands]);have rx:=hr x (by simp[hop,Op.operands]);have ry:=hr y (by simp[hop,Op.operands]);rw[hc]at rc;refine⟨if t then a.eval x else a.eval y,by simp[execOp,hop,MR rc,asBool],?_⟩;cases t<;>simpa
 ·exact h.elim
def pG {e:TypeId} (hop:o.op=.alloc e) {zs:List Value} (hz:EN P e=some zs) (h:K (.ref S.length 0) [] [] [.cells (zs.map AV.ofC1)]):F_ P o ρ S K:=by
 obtain⟨i,z,hi,hz0,rfl,ho⟩:=C2 hz;refine MA (λG a w T _ hr=>⟨z.cells.toList,e,w.alloc (.cells z.cells.toList.toArray e),?_,C_.alloc _ _,⟨Si,λj x v hx hv=>?_⟩,ho⟩) h
 ·simp[execOp,hop,Instr.alloc,zeroValue,typeInfo,hi,hz0,newVar,newRow]
 ·obtain⟨y,hy,rfl⟩:=A6 hx;rw[hv]at hy;injection hy with hy;subst hy;exact J5 G v
def pO {e:TypeId} {x:Operand} (hop:o.op=.box e x) (h:No (ρ x) S.length K):F_ P o ρ S K:=by
 unfold No at h;split at h
 ·rename_i cs hc;refine MA (λG a w T _ hr=>?_) h;have⟨_,h2,h3⟩:=(hr x (by simp[hop,Op.operands])).parts hc;refine⟨_,e,w.alloc (.cells (a.eval x).cells.toList.toArray e),?_,C_.alloc _ _,h2,h3⟩;simp[execOp,hop,Instr.box,newVar,newRow]
 ·exact h.elim
theorem GA (xs:List AV) (o:Nat) (cs:List AV):(Ce xs o cs).length=xs.length:=by
 induction cs generalizing xs o with
 |nil=>rfl
 |cons c cs ih=>rw[Ce,ih];simp
theorem FR (xs:List AV) (o:Nat) (cs:List AV) (h:o+cs.length≤xs.length) (j:Nat):(Ce xs o cs)[j]? =if o≤j∧j<o+cs.length then cs[j-o]? else xs[j]? :=by
 induction cs generalizing xs o with
 |nil=>rw[Ce,if_neg Si]
 |cons c cs ih=>
  simp only[length_cons]at h ⊢;rw[Ce,ih _ _ (by simp;omega)];by_cases h1:o+1≤j∧j<o+1+cs.length
  ·rw[if_pos h1,if_pos Om,show j-o=(j-(o+1))+1 by omega];simp
  ·rw[if_neg h1];by_cases h2:j=o
   ·subst h2;rw[if_pos Om];simp[show j<xs.length by omega]
   ·rw[if_neg Om,getElem?_set_ne (Ne.symm h2)]
def CH {w:World} {b:Nat} {cs cs':Array Value} {t:TypeId} (h:w.heap[b]? =some (.cells cs t (0,0))):KA w (w.setRow b cs') b (.cells cs' t (0,0)):=
 ⟨rfl,rfl,rfl,Si,λi hi=>setRow_other w b i cs' hi,setRow_heap w b cs cs' t _ h⟩
def jM {xs cs:List AV} {us:List Value} {cur:Array Value} {off:Nat} {G:Gh} (hu:BT G cs us) (h3:∀u∈us,u.oneCell'=true) (hle:off+cs.length≤xs.length) (hc:xs.length≤cur.size)
 (g4:∀(i:Nat) (x:AV) (v:Value),xs[i]? =some x->cur[i]? =some v->v.oneCell'=true∧Bg G x v) (k:Nat) (x:AV) (v:Value) (hx:(Ce xs off cs)[k]? =some x)
 (hv:(cur.toList.take off++us++cur.toList.drop (off+us.length)).toArray[k]? =some v):v.oneCell'=true∧Bg G x v:=by
 have hl:=hu.1;rw[FR xs off cs Om]at hx;simp only[getElem?_toArray]at hv;by_cases hk1:off≤k∧k<off+cs.length
 ·rw[if_pos hk1]at hx;rw[append_assoc,getElem?_append_right (by simp;omega),getElem?_append_left (by simp;omega)]at hv;have hq:(List.take off cur.toList).length=off:=by simp;omega
  rw[hq]at hv;exact⟨h3 v (mem_of_getElem? hv),hu.2 _ x v hx hv⟩
 ·rw[if_neg hk1]at hx;refine g4 k x v hx ?_;by_cases hk2:k<off
  ·rw[append_assoc,getElem?_append_left (by simp;omega),getElem?_take,if_pos hk2]at hv;simpa using hv
  ·rw[getElem?_append_right (by simp;omega),getElem?_drop]at hv;rw[←hv];simp only[length_append,length_take,Array.length_toList];rw[Array.getElem?_toList];congr 1;omega
theorem KA.own {w w':World} {b:Nat} {o:Obj} {G:Gh} {T:List Ac} {j:Nat} (h:KA w w' b o) (hb:blk G T j=some b):CE (λb=>blk G T j≠some b) w w':=h.kept λhn=>hn hb
def ZU {t:TypeId} {x y:Operand} (hop:o.op=.store t x y) {n:Nat} (hn:FP P t=some n) (h:JC n (ρ x) (ρ y) S K):F_ P o ρ S K:=by
 unfold JC at h;split at h
 ·rename_i j g off hx;unfold Q1 at h;split at h
  ·rename_i k m xs hS;split at h
   ·rename_i cs hcs;obtain⟨rfl,hn0,hl,hle,hK⟩:=h;refine⟨_,[j],[(j,_)],[],λT hT _ G a w hw hr Kc Q hk=>?_,Si,(λi hi=>by simp at hi;subst hi;exact(Ge hS)),hK⟩;have hTj:T[j]? =some (.mrow k m xs):=(hT j Si).trans hS;have rx:=hr x (by simp[hop,Op.operands]);have ry:=hr y (by simp[hop,Op.operands]);rw[hx]at rx;have⟨_,h2,h3⟩:=ry.parts hcs;have⟨b,c,cur,t',ha,hh,hmc,h6,hk1,hxl,g2,gs,g3,g4,hb⟩:=QS hw hTj rx Om;generalize hbv:a.eval y=vb at h2 h3;have hlen:vb.cells.toList.length=n:=by rw[←h2.1,hl]
    have hst:=run_storeCells_at P b off t' vb.cells.toList 0 cur w g2 (by rw[hlen];omega) h3;simp only[Nat.add_zero]at hst;have hsz:vb.cells.size=n:=Sx hlen
    have hrun:(execOp a.eval o).run P w=.ok .skip (w.setRow b (cur.toList.take off++vb.cells.toList++cur.toList.drop (off+vb.cells.toList.length)).toArray):=by
     simp only[execOp,hop,Instr.storeAt,ha,hbv,Instr.sureAddr,storeVar,Sem.run_bind,Sem.run_pure,Result.andThen_ok,B1 hn,hsz,ne_eq,not_true,if_false,hst]
    refine .inl ?_;unfold Oper.wp;rw[hrun];have htn:=CH (cs':=(cur.toList.take off++vb.cells.toList++cur.toList.drop (off+vb.cells.toList.length)).toArray) g2;have:=AS.mrowTo (xs:=Ce xs off cs) hw (.inr ⟨m,xs,hTj,.inr ⟨rfl,hh⟩⟩) hk1 (by rw[GA];exact hxl) hmc h6 (htn.own hb)
     (λ_=>⟨b,_,t',rfl,htn.here,by simp;omega,λi x v hx hv=>jM h2 h3 Om g3 g4 i x v hx hv,.inr hb⟩)
    exact hk undef _ _ (.any _) (by simpa[BC]using this)
   ·exact h.elim
  ·exact h.elim
 ·rename_i i off hx;split at h
  ·rename_i xs hS;split at h
   ·rename_i cs hcs;have⟨hl,hle,hK⟩:=h;refine⟨_,[i],[(i,_)],[],λT hT _ G a w hw hr Kc Q hk=>?_,Si,(λj hj=>by simp at hj;subst hj;exact(Ge hS)),hK⟩;have hTi:T[i]? =some (.cells xs):=(hT i Si).trans hS;have rx:=hr x (by simp[hop,Op.operands]);have ry:=hr y (by simp[hop,Op.operands]);rw[hx]at rx;have⟨_,h2,h3⟩:=ry.parts hcs;generalize ha:a.eval x=va at rx;generalize hb:a.eval y=vb at h2 h3;cases rx with
    | @ref _ _ b hloc=>
      have⟨b',cur,t',g1,g2,g3,g4,_⟩:=hw.obj i xs hTi;rw[hloc]at g1;injection g1 with g1;subst g1;have hlen:vb.cells.toList.length=n:=by rw[←h2.1,hl]
      have hst:=run_storeCells_at P b off t' vb.cells.toList 0 cur w g2 (by rw[hlen];omega) h3;simp only[Nat.add_zero]at hst;have hsz:vb.cells.size=n:=Sx hlen
      have hrun:(execOp a.eval o).run P w=.ok .skip (w.setRow b (cur.toList.take off++vb.cells.toList++cur.toList.drop (off+vb.cells.toList.length)).toArray):=by
       simp only[execOp,hop,Instr.storeAt,ha,hb,Instr.sureAddr,storeVar,Sem.run_bind,Sem.run_pure,Result.andThen_ok,B1 hn,hsz,ne_eq,not_true,if_false,hst]
      refine .inl ?_;unfold Oper.wp;rw[hrun];refine hk undef _ G (.any _) ?_;have hcl:cur.size=xs.length:=g3;have:=AS.turn (xs':=Ce xs off cs) hw hTi hloc (CH g2) (by simp[GA];omega) (w':=w.setRow b (cur.toList.take off++vb.cells.toList++cur.toList.drop (off+vb.cells.toList.length)).toArray) (λk u v hu hv=>by
       rw[FR xs off cs Om]at hu;simp only[getElem?_toArray]at hv;by_cases hk1:off≤k∧k<off+cs.length
       ·rw[if_pos hk1]at hu;rw[append_assoc,getElem?_append_right (by simp;omega),getElem?_append_left (by simp;omega)]at hv;have hq:(List.take off cur.toList).length=off:=by simp;omega
        rw[hq]at hv;exact⟨h3 v (mem_of_getElem? hv),h2.2 _ u v hu hv⟩
       ·rw[if_neg hk1]at hu;refine g4 k u v hu ?_;by_cases hk2:k<off
        ·rw[append_assoc,getElem?_append_left (by simp;omega),getElem?_take,if_pos hk2]at hv;simpa using hv
        ·rw[getElem?_append_right (by simp;omega),getElem?_drop]at hv;rw[←hv];simp only[length_append,length_take,Array.length_toList];rw[Array.getElem?_toList];congr 1;omega)
      simpa[BC]using this
   ·exact h.elim
  ·exact h.elim
 ·exact h.elim
def pF {x:Operand} (hop:o.op=.nilCheck x) (h:Q3 (ρ x) K):F_ P o ρ S K:=by
 unfold Q3 at h;split at h
 ·rename_i i off hx;refine AN (λG a w T _ hr=>?_) h;have r:=hr x (by simp[hop,Op.operands]);rw[hx]at r;refine⟨a.eval x,?_,r⟩;generalize ha:a.eval x=va at r;cases r;simp[execOp,hop,ha]
 ·rename_i cs hx;refine AN (λG a w T _ hr=>?_) h;have r:=hr x (by simp[hop,Op.operands]);rw[hx]at r;refine⟨a.eval x,?_,r⟩;generalize ha:a.eval x=va at r;cases r;simp[execOp,hop,ha]
 ·rename_i j g off hx;refine AN (λG a w T _ hr=>?_) h;have r:=hr x (by simp[hop,Op.operands]);rw[hx]at r;refine⟨a.eval x,?_,r⟩;generalize ha:a.eval x=va at r;cases r;simp[execOp,hop,ha]
 ·exact h.elim
def YD {op:BinOp} {t t':TypeId} {x y:Operand} (hop:o.op=.binOp op t x y t') (h:T5 op (ρ x) (ρ y) K):F_ P o ρ S K:=by
 unfold T5 at h;split at h
 ·rename_i k n k' m hx hy;have key:∀{v:Value},(∀(a:Act) (w:World),a.eval x=.int k n->a.eval y=.int k' m->(execOp a.eval o).run P w=.ok (.value v) w)->K (.lit v) [] [] []->F_ P o ρ S K:=by
   intro v hv hK;refine AN (λG a w T _ hr=>⟨v,?_,.lit v⟩) hK;have rx:=hr x (by simp[hop,Op.operands]);have ry:=hr y (by simp[hop,Op.operands]);rw[hx]at rx;rw[hy]at ry;exact hv a w (AY rx) (AY ry)
  cases op<;>simp only[Dk]at h
  case quo=>obtain⟨rfl,h0,h⟩:=h;exact key (λa w e1 e2=>by simp[execOp,hop,e1,e2,eqGuard,binOp,Op.intDiv,h0]) h
  case rem=>obtain⟨rfl,h0,h⟩:=h;exact key (λa w e1 e2=>by simp[execOp,hop,e1,e2,eqGuard,binOp,Op.intDiv,h0]) h
  case shl=>have⟨h0,h⟩:=h;exact key (λa w e1 e2=>by simp[execOp,hop,e1,e2,eqGuard,binOp,Op.shift,show¬m<0 by omega]) h
  case shr=>have⟨h0,h⟩:=h;exact key (λa w e1 e2=>by simp[execOp,hop,e1,e2,eqGuard,binOp,Op.shift,show¬m<0 by omega]) h
  all_goals
   obtain⟨rfl,h⟩:=h;exact key (λa w e1 e2=>by simp[execOp,hop,e1,e2,eqGuard,binOp,Op.intArith,Op.intBits,Op.intCmp,CJ]) h
 ·rename_i s u hx hy;have key:∀{v:Value},(∀(a:Act) (w:World),a.eval x=.string s->a.eval y=.string u->(execOp a.eval o).run P w=.ok (.value v) w)->K (.lit v) [] [] []->F_ P o ρ S K:=by
   intro v hv hK;refine AN (λG a w T _ hr=>⟨v,?_,.lit v⟩) hK;have rx:=hr x (by simp[hop,Op.operands]);have ry:=hr y (by simp[hop,Op.operands]);rw[hx]at rx;rw[hy]at ry;exact hv a w (AY rx) (AY ry)
  cases op<;>simp only[W5]at h
  case eql=>exact key (λa w e1 e2=>by simp[execOp,hop,e1,e2,eqGuard,binOp,Op.stringOp]) h
  case neq=>exact key (λa w e1 e2=>by simp[execOp,hop,e1,e2,eqGuard,binOp,Op.stringOp]) h
 ·exact h.elim
theorem ML {t:TypeId} (ht:P.underlying t=some .bool) (a b:Bool) (w:World):(Op.equal t (.bool a) (.bool b)).run P w=.ok (a==b) w:=by
 have:∀d,(Op.equalIn (d+1) t (.bool a) (.bool b)).run P w=.ok (a==b) w:=λd=>by simp[Op.equalIn,run_underlying ht]
 exact this 9999
def YB {op:BinOp} {t t':TypeId} {x y:Operand} {neg:Bool} (hop:o.op=.binOp op t x y t') (ht:P.underlying t=some .bool) (hn:op=if neg then .neq else .eql) (h:Xa neg (ρ x) (ρ y) K):F_ P o ρ S K:=by
 unfold Xa at h;split at h
 ·rename_i p q hx hy;refine AN (λG a w T _ hr=>⟨_,?_,.lit _⟩) h;have rx:=hr x (by simp[hop,Op.operands]);have ry:=hr y (by simp[hop,Op.operands]);rw[hx]at rx;rw[hy]at ry;have e1:=AY rx;have e2:=AY ry;cases neg<;>simp at hn<;>subst hn<;>simp[execOp,hop,e1,e2,eqGuard,binOp,ML ht]
 ·exact h.elim
def Yz {op:BinOp} {t t' e:TypeId} {x y:Operand} {neg:Bool} (hop:o.op=.binOp op t x y t') (ht:P.underlying t=some (.pointer e)) (hn:op=if neg then .neq else .eql) (h:T3 neg (ρ x) (ρ y) K):F_ P o ρ S K:=by
 have heq:∀(p:Option Addr) (w:World),(Op.equal t (.pointer p) (.pointer none)).run P w=.ok p.isNone w:=by
  intro p w;have:∀d,(Op.equalIn (d+1) t (.pointer p) (.pointer none)).run P w=.ok p.isNone w:=λd=>by cases p<;>simp[Op.equalIn,run_underlying ht]
  exact this 9999
 unfold T3 at h;split at h
 ·rename_i i off hx hy;refine AN (λG a w T _ hr=>⟨_,?_,.lit _⟩) h;have rx:=hr x (by simp[hop,Op.operands]);have ry:=hr y (by simp[hop,Op.operands]);rw[hx]at rx;rw[hy]at ry;have e2:=AY ry;generalize e1:a.eval x=vx at rx;cases rx;cases neg<;>simp at hn<;>subst hn<;>simp[execOp,hop,e1,e2,eqGuard,binOp,heq]
 ·rename_i hx hy;refine AN (λG a w T _ hr=>⟨_,?_,.lit _⟩) h;have rx:=hr x (by simp[hop,Op.operands]);have ry:=hr y (by simp[hop,Op.operands]);rw[hx]at rx;rw[hy]at ry;have e1:=AY rx;have e2:=AY ry;cases neg<;>simp at hn<;>subst hn<;>simp[execOp,hop,e1,e2,eqGuard,binOp,heq]
 ·exact h.elim
def vU {op:UnOp} {t:TypeId} {x:Operand} (hop:o.op=.unOp op t x) (h:rR op (ρ x) K):F_ P o ρ S K:=by
 unfold rR at h;split at h
 ·rename_i k n hx;refine AN (λG a w T _ hr=>⟨_,?_,.lit _⟩) h;have rx:=hr x (by simp[hop,Op.operands]);rw[hx]at rx;simp[execOp,hop,AY rx,Op.unary,Op.intArith]
 ·rename_i k n hx;refine AN (λG a w T _ hr=>⟨_,?_,.lit _⟩) h;have rx:=hr x (by simp[hop,Op.operands]);rw[hx]at rx;simp[execOp,hop,AY rx,Op.unary,Op.intBits,CJ]
 ·rename_i b hx;refine AN (λG a w T _ hr=>⟨_,?_,.lit _⟩) h;have rx:=hr x (by simp[hop,Op.operands]);rw[hx]at rx;simp[execOp,hop,AY rx,Op.unary]
 ·exact h.elim
def pM {src dst:TypeId} {x:Operand} {k k0:IntKind} (hop:o.op=.convert src dst x) (hs:P.underlying src=some (.int k0)) (hd:P.underlying dst=some (.int k)) (h:Xc k (ρ x) K):F_ P o ρ S K:=by
 unfold Xc at h;split at h
 ·rename_i k' n hx;refine AN (λG a w T _ hr=>⟨_,?_,.lit _⟩) h;have rx:=hr x (by simp[hop,Op.operands]);rw[hx]at rx;simp[execOp,hop,AY rx,convert,run_underlying hs,run_underlying hd,Conv.intToInt]
 ·exact h.elim
def pL {x:Operand} {i:Nat} (hop:o.op=.extract x i) (h:W_ (ρ x) i K):F_ P o ρ S K:=by
 unfold W_ at h;split at h
 ·rename_i xs hx;split at h
  ·rename_i y hy;refine AN (λG a w T _ hr=>?_) h;have r:=hr x (by simp[hop,Op.operands]);rw[hx]at r;generalize ha:a.eval x=va at r;cases r with
   | @tup _ vs h0 h3=>
     have hlt:i<vs.size:=by rw[←h0];exact(Ge hy)
     have hv:vs[i]? =some vs[i]:=Array.getElem?_eq_getElem hlt;exact⟨vs[i],by simp[execOp,hop,ha,Instr.extract,hv],h3 i y _ hy hv⟩
  ·exact h.elim
 ·exact h.elim
def gX {isMax:Bool} {_t:TypeId} {x y:Operand} {c:Call} (hop:o.op=.call c) (hcal:c.callee=.builtin (if isMax then .max else .min)) (ha:c.args.toList=[x,y]) (h:wS isMax (ρ x) (ρ y) K):F_ P o ρ S K:=by
 unfold wS at h;split at h
 ·rename_i k n k' m hx hy;refine AN (λG a w T _ hr=>⟨_,?_,.lit _⟩) h;have hargs:c.args=#[x,y]:=by rw[←ha]
  have rx:=hr x (by simp[hop,Op.operands,Call.operands,hargs]);have ry:=hr y (by simp[hop,Op.operands,Call.operands,hargs]);rw[hx]at rx;rw[hy]at ry;have e1:=AY rx;have e2:=AY ry;cases isMax<;>simp[execOp,hop,resolve,hcal,hargs,invoke,builtin,Builtin.max_,Builtin.min_,Builtin.max2,Builtin.min2,e1,e2]
 ·exact h.elim
def pH {f:FuncId} {fs cs:Array Operand} (hop:o.op=.makeFunc (.func f) fs cs) (h:K (.fn f (fs.toList.map ρ) (cs.toList.map ρ)) [] [] []):F_ P o ρ S K:=by
 refine AN (λG a w T _ hr=>⟨.func (.func f) (fs.map a.eval) (cs.map a.eval),by simp[execOp,hop,Instr.makeFunc],?_⟩) h;refine .fn Si Si (λj x v hx hv=>?_) (λj x v hx hv=>?_)
 ·obtain⟨y,hy,rfl⟩:=A6 hx;have hy':fs[j]? =some y:=Sx hy
  have:v=a.eval y:=by simpa[hy']using hv.symm
  subst this;exact hr y (by simp[hop,Op.operands];left;exact Array.mem_of_getElem? hy')
 ·obtain⟨y,hy,rfl⟩:=A6 hx;have hy':cs[j]? =some y:=Sx hy
  have:v=a.eval y:=by simpa[hy']using hv.symm
  subst this;exact hr y (by simp[hop,Op.operands];right;exact Array.mem_of_getElem? hy')
def pI {x:Operand} {t e:TypeId} {c:Call} (hop:o.op=.call c) (hcal:c.callee=.builtin .len) (ha:c.args.toList=[x]) (hat:c.argTypes.toList=[t]) (ht:P.underlying t=some (.slice e)) (h:Nl false (ρ x) K):F_ P o ρ S K:=by
 have hargs:c.args=#[x]:=by rw[←ha]
 have hats:c.argTypes=#[t]:=by rw[←hat]
 unfold Nl at h;split at h
 ·rename_i tg k xs _ hx;refine AN (λG a w T _ hr=>⟨_,?_,.lit _⟩) h;have rx:=hr x (by simp[hop,Op.operands,Call.operands,hargs]);rw[hx]at rx;generalize e1:a.eval x=vx at rx;cases rx with
  |sl=>simp[execOp,hop,resolve,hcal,hargs,hats,invoke,builtin,Builtin.len_,e1,run_underlying ht,goInt]
 ·rename_i j g _ hx;refine AN (λG a w T _ hr=>⟨_,?_,.lit _⟩) h;have rx:=hr x (by simp[hop,Op.operands,Call.operands,hargs]);rw[hx]at rx;generalize e1:a.eval x=vx at rx;cases rx with
  |ms=>simp[execOp,hop,resolve,hcal,hargs,hats,invoke,builtin,Builtin.len_,e1,run_underlying ht,goInt]
 ·rename_i hc _;cases hc
 ·exact h.elim
def g9 {x:Operand} {t:TypeId} {c:Call} (hop:o.op=.call c) (hcal:c.callee=.builtin .len) (ha:c.args.toList=[x]) (hat:c.argTypes.toList=[t]) (ht:P.underlying t=some .string) (h:Nl true (ρ x) K):F_ P o ρ S K:=by
 have hargs:c.args=#[x]:=by rw[←ha]
 have hats:c.argTypes=#[t]:=by rw[←hat]
 unfold Nl at h;split at h
 ·rename_i hc _;cases hc
 ·rename_i hc _;cases hc
 ·rename_i s _ hx;refine AN (λG a w T _ hr=>⟨_,?_,.lit _⟩) h;have rx:=hr x (by simp[hop,Op.operands,Call.operands,hargs]);rw[hx]at rx;have e1:=AY rx;simp[execOp,hop,resolve,hcal,hargs,hats,invoke,builtin,Builtin.len_,e1,run_underlying ht,goInt]
 ·exact h.elim
def iB {t e:TypeId} {n:Nat} {x:Operand} {c:Call} (hop:o.op=.call c) (hcal:c.callee=.builtin .len) (ha:c.args.toList=[x]) (hat:c.argTypes.toList=[t]) (ht:P.underlying t=some (.array n e)) (h:K (.lit (.int .i64 n)) [] [] []):F_ P o ρ S K:=by
 have hargs:c.args=#[x]:=by rw[←ha]
 have hats:c.argTypes=#[t]:=by rw[←hat]
 refine AN (λG a w T _ hr=>⟨_,?_,.lit _⟩) h;simp[execOp,hop,resolve,hcal,hargs,hats,invoke,builtin,Builtin.len_,run_underlying ht,goInt]
end
section
variable {P:Program} {o:Oper} {ρ:Operand->AV} {S:List Ac} {K:KT}
def Js (P:Program) (w:World) (isS:Bool) (len cap:Nat) (lo hi mx:Option Value) (l h m:Int) (hlo:lo=none∧l=0∨∃k,lo=some (.int k l)) (hhi:hi=none∧mx=none∧h=len∨∃k,hi=some (.int k h))
 (hmx:mx=none∧m=cap∨∃k,mx=some (.int k m)) (h0:0≤l) (h1:l≤h) (h2:h≤m) (h3:m≤cap) (h4:mx=none->h≤cap):(Instr.sliceBounds isS len cap lo hi mx).run P w=.ok (l.toNat,h.toNat,m.toNat) w:=by
 have b:∀(k:IntKind) (i:Int) (y:Nat) (c:BoundsCode),0≤i->i≤y->(Instr.sliceBound (.int k i) y c).run P w=.ok i.toNat w:=λk i y c e1 e2=>run_sliceBound w k i y c e1 e2
 rcases hmx with⟨rfl,rfl⟩|⟨km,rfl⟩
 ·rcases hhi with⟨rfl,_,rfl⟩|⟨kh,rfl⟩<;>rcases hlo with⟨rfl,rfl⟩|⟨kl,rfl⟩
  ·simp[Instr.sliceBounds]
  ·simp[Instr.sliceBounds,b kl l len _ h0 h1]
  ·simp[Instr.sliceBounds,b kh h cap _ Om h2]
  ·simp[Instr.sliceBounds,b kh h cap _ Om h2,b kl l h.toNat _ h0 Om]
 ·rcases hhi with⟨_,e,_⟩|⟨kh,rfl⟩
  ·cases e
  ·rcases hlo with⟨rfl,rfl⟩|⟨kl,rfl⟩
   ·simp[Instr.sliceBounds,b km m cap _ Om h3,b kh h m.toNat _ Om Om]
   ·simp[Instr.sliceBounds,b km m cap _ Om h3,b kh h m.toNat _ Om Om,b kl l h.toNat _ h0 Om]
def He {G:Gh} {a:Act} {x:Option Operand} {d l:Int} (h:e8 (x.map ρ) d=some l) (hr:∀y,x=some y->Bg G (ρ y) (a.eval y)):x.map a.eval=none∧x=none∧l=d∨∃k,x.map a.eval=some (.int k l)∧x.isSome=true:=by
 cases x with
 |none=>left;simp[e8]at h;exact⟨rfl,rfl,h.symm⟩
 |some y=>
  right;simp only[Option.map_some,e8]at h;have r:=hr y rfl;cases hy:ρ y with
  |lit v=>
   rw[hy]at h r;cases v<;>simp[AV.i]at h;subst h;exact⟨_,by rw[Option.map_some,AY r],rfl⟩
  |_=>rw[hy]at h;simp[AV.i]at h
def SR {G:Gh} {t:Gd} {k:Nat} {xs:List AV} {A:Option Addr} {n c:Nat} (r:Bg G (.sl t k xs) (.slice A n c)) (l h m:Nat) (s:Nat) (hs:k=s∨xs=[]) (h1:l≤h) (h2:h≤xs.length) (h3:h≤m):
 Bg G (.sl .none k ((xs.drop l).take (h-l))) (.slice (if m=l then A else A.map (·.add (l*s))) (h-l) (m-l))∧n=xs.length:=by
 cases r with
 | @sl _ _ _ _ _ b o vs hc hA hk g1 g2 g3 ht=>
   refine⟨?_,rfl⟩;have hlen:((xs.drop l).take (h-l)).length=h-l:=by simp;omega
   have hget:∀{i:Nat} {x:AV},((xs.drop l).take (h-l))[i]? =some x->xs[l+i]? =some x:=λ{i x} e=>by
    rw[getElem?_take]at e;split at e
    ·rwa[getElem?_drop]at e
    ·cases e
   have:=Bg.sl (G:=G) (t:=.none) (k:=k) (xs:=(xs.drop l).take (h-l)) (A:=if m=l then A else A.map (·.add (l*s))) (c:=m-l) (b:=b) (o:=o+l*k) (λi j=>vs (l+i) j) Om
    (λhp=>by
      rw[hlen]at hp;rw[if_neg Om,hA Om];simp only[Option.map_some,Option.some.injEq];rcases hs with rfl|hs
      ·exact A_ _ _ _
      ·subst hs;simp at h2;omega)
    (λi x hx=>hk _ x (hget hx)) (λi j hi hj=>by rw[←g1 (l+i) j Om hj,Nat.add_mul];congr 1;omega) (λi j hi hj=>g2 _ j Om hj) (λi j x y hx hy=>g3 _ j x y (hget hx) hy) trivial
   rwa[hlen]at this
theorem Bg.retag {G:Gh} {t t':Gd} {k:Nat} {xs:List AV} {A:Option Addr} {n c:Nat} (r:Bg G (.sl t k xs) (.slice A n c)) (h:HR G t' A n c):Bg G (.sl t' k xs) (.slice A n c):=by
 cases r with
 |sl vs hc hA hk g1 g2 g3 ht=>exact .sl vs hc hA hk g1 g2 g3 h
theorem Bg.rek {G:Gh} {t:Gd} {k k':Nat} {v:Value} (r:Bg G (.sl t k []) v):Bg G (.sl t k' []) v:=by
 cases r with
 |sl vs hc hA hk g1 g2 g3 ht=>exact .sl (b:=0) (o:=0) vs hc (λh=>by simp at h) (λi x h=>by simp at h) (λi j h=>by simp at h) (λi j h=>by simp at h) (λi j x y h=>by simp at h) ht
theorem ZV {t e:TypeId} {x:Operand} {lo hi mx:Option Operand} (hop:o.op=.slice t x lo hi mx) (ht:P.underlying t=some (.slice e)) {s:Nat} (hs:FP P e=some s) (h:Eh s (ρ x) (lo.map ρ) (hi.map ρ) (mx.map ρ) K):F_ P o ρ S K:=by
 unfold Eh at h;split at h
 ·rename_i tg ks xs hx;split at h
  ·rename_i l hh hl hhh;obtain⟨hk,h0,h1,h2,h⟩:=h;have hrun:∀(a:Act) (w:World) (A:Option Addr) (n c:Nat) (m:Int),a.eval x=.slice A n c->(Instr.sliceBounds true n c (lo.map a.eval) (hi.map a.eval) (mx.map a.eval)).run P w=.ok (l.toNat,hh.toNat,m.toNat) w->
    (execOp a.eval o).run P w=.ok (.value (.slice (if m.toNat=l.toNat then A else A.map (·.add (l.toNat*s))) (hh.toNat-l.toNat) (m.toNat-l.toNat))) w:=by
    intro a w A n c m hv hb;simp[execOp,hop,Instr.sliceAt,Instr.slice,run_underlying ht,hv,hb,B1 hs]
   have hd:(hh-l).toNat=hh.toNat-l.toNat:=by omega
   split at h
   ·rename_i hm;have hmx:mx=none:=by simpa using hm
    subst hmx;refine AN (λG a w T _ hr=>?_) h;have rx:=hr x (by simp[hop,Op.operands]);rw[hx]at rx;have rlo:∀y,lo=some y->Bg G (ρ y) (a.eval y):=λy hy=>hr y (by simp[hop,Op.operands,hy])
    have rhi:∀y,hi=some y->Bg G (ρ y) (a.eval y):=λy hy=>hr y (by simp[hop,Op.operands,hy])
    have blo:=He hl rlo;have bhi:=He hhh rhi;generalize ev1:a.eval x=vx at rx;have rx0:=rx;cases rx with
    | @sl _ _ _ A c b off vs hc hA hk' g1 g2 g3 ht'=>
      have hb:=Js P w true xs.length c (lo.map a.eval) (hi.map a.eval) none l hh c (by rcases blo with⟨q1,_,q2⟩|⟨k,q,_⟩;exact .inl ⟨q1,q2⟩;exact .inr ⟨k,q⟩) (by rcases bhi with⟨q1,_,q2⟩|⟨k,q,_⟩;exact .inl ⟨q1,rfl,q2⟩;exact .inr ⟨k,q⟩) (.inl ⟨rfl,rfl⟩) h0 h1 (by omega) (by omega) (λ_=>by omega);refine⟨_,hrun a w A _ c c ev1 (by simpa using hb),?_⟩;have hp:=(SR rx0 l.toNat hh.toNat c s hk (by omega) (by omega) (by omega)).1;rw[hd];simp only[Int.toNat_natCast];refine hp.retag ?_;unfold iN;split
      ·rename_i e1 e2 _;have q1:lo=none:=by simpa using e1
       have q2:hi=none:=by simpa using e2
       subst q1 q2;simp[e8]at hl hhh;subst hl hhh;have e4:(if c=(0:Int).toNat then A else A.map (·.add ((0:Int).toNat*s)))=A:=by
        split
        ·rfl
        ·cases A<;>simp[Addr.add]
       rw[e4];simpa using ht'
      ·rename_i y e1 e2 _;have q2:hi=none:=by simpa using e2
       subst q2;simp[e8]at hhh;subst hhh;cases tg with
       |full=>
        have hcn:c=xs.length:=ht';show c-l.toNat=(xs.length:Int).toNat-l.toNat;omega
       |_=>trivial
      ·trivial
   ·rename_i m hm;obtain⟨⟨hhi,hmi⟩,hK⟩:=h;obtain⟨mo,rfl⟩:∃mo,mx=some mo:=by cases mx with|none=>simp at hm|some mo=>exact⟨mo,rfl⟩
    have hme:ρ mo=m:=by simpa using hm
    refine AN (λG a w T _ hr=>?_) hK;have rx:=hr x (by simp[hop,Op.operands]);rw[hx]at rx;have rlo:∀y,lo=some y->Bg G (ρ y) (a.eval y):=λy hy=>hr y (by simp[hop,Op.operands,hy])
    have rhi:∀y,hi=some y->Bg G (ρ y) (a.eval y):=λy hy=>hr y (by simp[hop,Op.operands,hy])
    have rm:=hr mo (by simp[hop,Op.operands]);have blo:=He hl rlo;have bhi:=He hhh rhi;have bm:∃k,a.eval mo=.int k hh:=by
     rw[hme]at rm;cases m with
     |lit v=>cases v<;>simp[AV.i]at hmi;subst hmi;exact⟨_,AY rm⟩
     |_=>simp[AV.i]at hmi
    obtain⟨km,bm⟩:=bm;generalize ev1:a.eval x=vx at rx;have rx0:=rx;cases rx with
    | @sl _ _ _ A c b off vs hc hA hk' g1 g2 g3 ht'=>
      have hb:=Js P w true xs.length c (lo.map a.eval) (hi.map a.eval) (some (.int km hh)) l hh hh (by rcases blo with⟨q1,_,q2⟩|⟨k,q,_⟩;exact .inl ⟨q1,q2⟩;exact .inr ⟨k,q⟩)
       (by rcases bhi with⟨_,q1,_⟩|⟨k,q,_⟩;(rw[q1]at hhi;simp at hhi);exact .inr ⟨k,q⟩) (.inr ⟨km,rfl⟩) h0 h1 (Int.le_refl _) (by omega) (λe=>by cases e)
      refine⟨_,hrun a w A _ c hh ev1 (by simpa[bm]using hb),?_⟩;have hp:=(SR rx0 l.toNat hh.toNat hh.toNat s hk (by omega) (by omega) (by omega)).1;rw[hd];exact hp.retag rfl
  ·exact h.elim
 ·exact h.elim
def gU {t:TypeId} {x:Operand} {lo hi:Option Operand} (hop:o.op=.slice t x lo hi none) (ht:P.underlying t=some .string) (h:PL (ρ x) (lo.map ρ) (hi.map ρ) K):F_ P o ρ S K:=by
 unfold PL at h;split at h
 ·rename_i s hx;split at h
  ·rename_i l hh hl hhh;have⟨h0,h1,h2,h⟩:=h;refine AN (λG a w T _ hr=>⟨_,?_,.lit _⟩) h;have rx:=hr x (by simp[hop,Op.operands]);rw[hx]at rx;have rlo:∀y,lo=some y->Bg G (ρ y) (a.eval y):=λy hy=>hr y (by simp[hop,Op.operands,hy])
   have rhi:∀y,hi=some y->Bg G (ρ y) (a.eval y):=λy hy=>hr y (by simp[hop,Op.operands,hy])
   have blo:=He hl rlo;have bhi:=He hhh rhi;have hb:=Js P w false s.size s.size (lo.map a.eval) (hi.map a.eval) none l hh s.size (by rcases blo with⟨q1,_,q2⟩|⟨k,q,_⟩;exact .inl ⟨q1,q2⟩;exact .inr ⟨k,q⟩) (by rcases bhi with⟨q1,_,q2⟩|⟨k,q,_⟩;exact .inl ⟨q1,rfl,q2⟩;exact .inr ⟨k,q⟩) (.inl ⟨rfl,rfl⟩) h0 h1 Om Om (λ_=>by omega);simp[execOp,hop,Instr.sliceAt,Instr.slice,run_underlying ht,AY rx,hb]
  ·exact h.elim
 ·exact h.elim
def iD {t:TypeId} {x:Operand} {f:Nat} {fs:Array Field} {fd:Field} {s:Nat} (hop:o.op=.fieldAddr t x f) (ht:P.underlying t=some (.struct fs)) (hf:fs[f]? =some fd) (hs:FP P fd.type=some s) (h1:1≤s) (h:Kg fd.offset (ρ x) K):F_ P o ρ S K:=by
 have hrun:∀(a:Act) (w:World) (ad:Addr),a.eval x=.pointer (some ad)->(execOp a.eval o).run P w=.ok (.value (.pointer (some (ad.add fd.offset)))) w:=by
  intro a w ad ha;simp[execOp,hop,Instr.fieldAt,run_underlying ht,hf,ha,Instr.sureAddr,fieldPlace,B1 hs,show s≠0 by omega]
 unfold Kg at h;split at h
 ·rename_i i off hx;refine AN (λG a w T _ hr=>?_) h;have r:=hr x (by simp[hop,Op.operands]);rw[hx]at r;generalize ha:a.eval x=va at r;cases r with
  |ref hb=>exact⟨_,hrun a w _ ha,by rw[A_];exact .ref hb⟩
 ·rename_i cs hx;refine AN (λG a w T _ hr=>?_) h;have r:=hr x (by simp[hop,Op.operands]);rw[hx]at r;generalize ha:a.eval x=va at r;cases r with
  | @iptr _ b off vs g1 g2 g3=>
    refine⟨_,hrun a w _ ha,?_⟩;rw[A_];exact .iptr (λj=>vs (fd.offset+j)) (λj hj=>by simp at hj;rw[←g1 (fd.offset+j) Om,Nat.add_assoc]) (λj hj=>by simp at hj;exact g2 _ Om) (λj y hy=>by rw[getElem?_drop]at hy;exact g3 _ y hy)
 ·rename_i j g off hx;refine AN (λG a w T _ hr=>?_) h;have r:=hr x (by simp[hop,Op.operands]);rw[hx]at r;generalize ha:a.eval x=va at r;cases r with
  |mref hb=>exact⟨_,hrun a w _ ha,by rw[A_];exact .mref hb⟩
 ·exact h.elim
def jK (n:Option Nat) (xs:List AV) (off:Nat) (v:AV):Prop:=
 match n with
 |none=>xs[off]? =some v
 |some n=>off+n≤xs.length∧v=.agg ((xs.drop off).take n)
def SO {t:TypeId} {n:Option Nat} (hn:D6 P t=some n) {G:Gh} {xs:List AV} {vs:Array Value} (r:Bg G (.agg xs) (.agg vs)) (off:Nat) {v:AV}
 (h:jK n xs off v) (w:World):∃u,(part t vs off).run P w=.ok u w∧Bg G v u:=by
 cases r with
 |agg h0 h2 h3=>
  cases n with
  |none=>
   have hlt:off<vs.size:=by rw[←h0];exact(Ge h)
   have hv:vs[off]? =some vs[off]:=Array.getElem?_eq_getElem hlt;exact⟨vs[off],by simp[part,Hl hn,hv],h3 off v _ h hv⟩
  |some n=>
   obtain⟨hle,rfl⟩:=h;have⟨_,hs⟩:=Ob hn;refine⟨_,by simp[part,GC hn,B1 hs];rfl,?_⟩;have hget:∀{j:Nat} {u:Value},(vs.extract off (off+n))[j]? =some u->vs[off+j]? =some u∧j<n:=λ{j u} e=>by
    rw[Array.getElem?_extract]at e;split at e
    ·exact⟨e,Om⟩
    ·cases e
   refine .agg (by simp;omega) (λj u hu=>h2 _ u (hget hu).1) (λj y u hy hu=>h3 (off+j) y u ?_ (hget hu).1);rw[getElem?_take,if_pos (hget hu).2,getElem?_drop]at hy;exact hy
def Nm {off:Nat} {n:Option Nat} {xs:List AV} (h:KV off n (.agg xs) K):∃v,jK n xs off v∧K v [] [] []:=by
 unfold KV at h;cases n with
 |none=>
  simp only at h;split at h
  ·rename_i v hv;exact⟨v,hv,h⟩
  ·exact h.elim
 |some n=>exact⟨_,⟨h.1,rfl⟩,h.2⟩
def pK {t:TypeId} {x:Operand} {f:Nat} {fs:Array Field} {fd:Field} {n:Option Nat} (hop:o.op=.field t x f) (ht:P.underlying t=some (.struct fs)) (hf:fs[f]? =some fd) (hn:D6 P fd.type=some n) (h:KV fd.offset n (ρ x) K):F_ P o ρ S K:=by
 cases hx:ρ x with
 |agg xs=>
  rw[hx]at h;have⟨v,hv,hK⟩:=Nm h;refine AN (λG a w T _ hr=>?_) hK;have r:=hr x (by simp[hop,Op.operands]);rw[hx]at r;generalize ha:a.eval x=va at r;cases r with
  | @agg _ vs h0 h2 h3=>
    have⟨u,hu,hru⟩:=SO (P:=P) hn (Bg.agg h0 h2 h3) fd.offset hv w;exact⟨u,by simp[execOp,hop,Instr.field,run_underlying ht,hf,ha,asAgg,hu],hru⟩
 |_=>rw[hx]at h;exact h.elim
def pJ {t e:TypeId} {x ix:Operand} {len s:Nat} {n:Option Nat} (hop:o.op=.index t x ix) (ht:P.underlying t=some (.array len e)) (hs:FP P e=some s) (hn:D6 P e=some n) (h:W9 len s n (ρ x) (ρ ix) K):F_ P o ρ S K:=by
 unfold W9 at h;split at h
 ·rename_i xs k i hx hix;have⟨h0,h1,h⟩:=h;have⟨v,hv,hK⟩:=Nm h;refine AN (λG a w T _ hr=>?_) hK;have r:=hr x (by simp[hop,Op.operands]);have ri:=hr ix (by simp[hop,Op.operands]);rw[hx]at r;rw[hix]at ri;have ei:=AY ri;generalize ha:a.eval x=va at r;cases r with
  | @agg _ vs g0 g2 g3=>
    have⟨u,hu,hru⟩:=SO (P:=P) hn (Bg.agg g0 g2 g3) (i.toNat*s) hv w;exact⟨u,by simp[execOp,hop,Instr.index,run_underlying ht,ha,ei,asIntOf,h0,h1,B1 hs,hu],hru⟩
 ·exact h.elim
def iC {t e:TypeId} {x ix:Operand} {s:Nat} (hop:o.op=.indexAddr t x ix) (ht:P.underlying t=some (.slice e)) (hs:FP P e=some s) (h:Lo s (ρ x) (ρ ix) K):F_ P o ρ S K:=by
 unfold Lo at h;split at h
 ·rename_i tg ks xs k i hx hix;obtain⟨rfl,h0,h1,hK⟩:=h;refine AN (λG a w T _ hr=>?_) hK;have r:=hr x (by simp[hop,Op.operands]);have ri:=hr ix (by simp[hop,Op.operands]);rw[hx]at r;rw[hix]at ri;have ei:=AY ri;generalize ha:a.eval x=va at r;cases r with
  | @sl _ _ _ A c b off vs hc hA hk g1 g2 g3 htg=>
    have hlt:i.toNat<xs.length:=Om
    have hxi:xs[i.toNat]? =some (xs.getD i.toNat .any):=by rw[getElem?_eq_getElem hlt];simp[hlt]
    have hA':=hA Om;subst hA';refine⟨.pointer (some ⟨b,off+i.toNat*ks,none⟩),?_,?_⟩
    ·simp[execOp,hop,Instr.indexAt,run_underlying ht,ha,ei,asIntOf,h0,h1,B1 hs,A_]
    ·have hcl:=hk _ _ hxi;exact .iptr (vs i.toNat) (λj hj=>g1 _ j hlt Om) (λj hj=>g2 _ j hlt Om) (λj y hy=>g3 _ j _ y hxi hy)
 ·rename_i j g k i hx hix;have⟨h0,h1,hK⟩:=h;refine AN (λG a w T _ hr=>?_) hK;have r:=hr x (by simp[hop,Op.operands]);have ri:=hr ix (by simp[hop,Op.operands]);rw[hx]at r;rw[hix]at ri;have ei:=AY ri;generalize ha:a.eval x=va at r;cases r with
  | @ms _ _ A c hh hA=>
    obtain⟨b,rfl⟩:=hA Om;refine⟨.pointer (some ⟨b,i.toNat*s,none⟩),?_,.mref hh⟩;simp[execOp,hop,Instr.indexAt,run_underlying ht,ha,ei,asIntOf,h0,h1,B1 hs,A_]
 ·exact h.elim
def iH {t e:TypeId} {x ix:Operand} {len s:Nat} (hop:o.op=.indexAddr t x ix) (ht:P.underlying t=some (.array len e)) (hs:FP P e=some s) (h:Lp len s (ρ x) (ρ ix) K):F_ P o ρ S K:=by
 unfold Lp at h;split at h
 ·rename_i i off k n hx hix;have⟨h0,h1,hK⟩:=h;refine AN (λG a w T _ hr=>?_) hK;have r:=hr x (by simp[hop,Op.operands]);have ri:=hr ix (by simp[hop,Op.operands]);rw[hx]at r;rw[hix]at ri;have ei:=AY ri;generalize ha:a.eval x=va at r;cases r with
  | @ref _ _ b hb=>
    refine⟨.pointer (some ⟨b,off+n.toNat*s,none⟩),?_,.ref hb⟩;simp[execOp,hop,Instr.indexAt,run_underlying ht,ha,ei,asIntOf,Instr.sureAddr,h0,h1,B1 hs,A_]
 ·rename_i cs k n hx hix;have⟨h0,h1,hK⟩:=h;refine AN (λG a w T _ hr=>?_) hK;have r:=hr x (by simp[hop,Op.operands]);have ri:=hr ix (by simp[hop,Op.operands]);rw[hx]at r;rw[hix]at ri;have ei:=AY ri;generalize ha:a.eval x=va at r;cases r with
  | @iptr _ b off vs g1 g2 g3=>
    refine⟨.pointer (some ⟨b,off+n.toNat*s,none⟩),?_,?_⟩
    ·simp[execOp,hop,Instr.indexAt,run_underlying ht,ha,ei,asIntOf,Instr.sureAddr,h0,h1,B1 hs,A_]
    ·exact .iptr (λj=>vs (n.toNat*s+j)) (λj hj=>by simp at hj;rw[←g1 (n.toNat*s+j) Om,Nat.add_assoc]) (λj hj=>by simp at hj;exact g2 _ Om) (λj y hy=>by rw[getElem?_drop]at hy;exact g3 _ y hy)
 ·exact h.elim
def gV {t:TypeId} {x ix:Operand} (hop:o.op=.index t x ix) (ht:P.underlying t=some .string) (h:PM (ρ x) (ρ ix) K):F_ P o ρ S K:=by
 unfold PM at h;split at h
 ·rename_i s k i hx hix;have⟨h0,h1,hK⟩:=h;refine AN (λG a w T _ hr=>⟨_,?_,.lit _⟩) hK;have r:=hr x (by simp[hop,Op.operands]);have ri:=hr ix (by simp[hop,Op.operands]);rw[hx]at r;rw[hix]at ri;have ex:=AY r;have ei:=AY ri;have hlt:i.toNat<s.size:=Om
  have hlt':i.toNat<s.data.toList.length:=Sx hlt
  have hg:s[i.toNat]? =some (s.data.toList.getD i.toNat 0):=by
   rw[ByteArray.getElem?_lt' s _ hlt];congr 1;simp only[getD_eq_getElem?_getD,getElem?_eq_getElem hlt',Option.getD_some];rfl
  simp[execOp,hop,Instr.index,run_underlying ht,ex,ei,asIntOf,h0,hg]
 ·exact h.elim
def pP {src dst e:TypeId} {x:Operand} (hop:o.op=.convert src dst x) (hs:P.underlying src=some (.slice e)) (he:P.underlying e=some (.int .u8)) (hd:P.underlying dst=some .string) (h:Xd (ρ x) K):F_ P o ρ S K:=by
 unfold Xd at h;split at h
 ·rename_i tg k xs hx;have⟨hk,hu,hK⟩:=h;refine AN (λG a w T hw hr=>⟨_,?_,.lit _⟩) hK;have r:=hr x (by simp[hop,Op.operands]);rw[hx]at r;generalize ha:a.eval x=va at r;cases r with
  | @sl _ _ _ A c b off vs hc hA hk' g1 g2 g3 htg=>
    have hbytes:∀(ns:List Int) (s:ByteArray),ns.foldl (λr n=>r.push (UInt8.ofNat n.toNat)) s=⟨s.data++(ns.map λn=>UInt8.ofNat n.toNat).toArray⟩:=by
     intro ns
     induction ns with
     |nil=>intro s;simp
     |cons n ns ih=>intro s;rw[foldl_cons,ih];simp[ByteArray.push]
    simp only[execOp,hop,ha];by_cases h0:0<xs.length
    ·have hA':=hA h0;subst hA';have hk1:k=1:=by rcases hk with h|h;exact h;(subst h;simp at h0)
     subst hk1
     let ns:List Int:=xs.map λx=>match x with| .lit (.int _ n)=>n|_=>0
     have hload:(loadCells ⟨b,off,none⟩ xs.length).run P w=.ok (ns.map (Value.int .u8)).toArray w:=by
      rw[run_loadCells w ⟨b,off,none⟩ xs.length (λj=>vs j 0) (λj hj=>by rw[A_];have:=hw.imm _ _ _ (g1 j 0 hj Om);simpa using this)];congr 2;apply ext_getElem?;intro j;by_cases hj:j<xs.length
      ·have hxj:=getElem?_eq_getElem hj;have hone:=all_eq_true.1 hu _ (getElem_mem hj);have hcell:=hk' j _ hxj;simp only[ns,getElem?_map,getElem?_range hj,Option.map_some,hxj];generalize hy:xs[j]=y at*;cases y<;>simp[AV.isU8]at hone;rename_i v;cases v<;>try(simp at hone;done)
       rename_i kk n;cases kk<;>try(simp at hone;done)
       have:=g3 j 0 _ (.lit (.int .u8 n)) hxj (by simp[AV.cells]);exact congrArg some (AY this)
      ·simp[ns,hj]
     have hb:=run_bytesToString (P:=P) w ⟨b,off,none⟩ xs.length c ns hload;have hc2:=run_convert_bytes_string (P:=P) w src dst e (some ⟨b,off,none⟩) xs.length c hs he hd;simp only[Sem.run_bind,hc2,hb,Result.andThen_ok,Sem.run_pure];rw[hbytes];have:(ns.map λn=>UInt8.ofNat n.toNat)=xs.map AV.byte:=by
      simp only[ns,map_map];apply map_congr_left;intro y hy;have hone:=all_eq_true.1 hu _ hy;cases y<;>simp[AV.isU8]at hone;rename_i v;cases v<;>try(simp at hone;done)
      rfl
     rw[this];simp[FJ]
    ·have hx0:xs=[]:=eq_nil_of_length_eq_zero Om;subst hx0;have hc2:=run_convert_bytes_string (P:=P) w src dst e A ([]:List AV).length c hs he hd;cases A with
     |none=>
      simp only[length_nil]at hc2 ⊢;simp only[Sem.run_bind,hc2,Conv.bytesToString,Result.andThen_ok,Sem.run_pure];rfl
     |some ad=>
      have hb:=run_bytesToString (P:=P) w ad 0 c [] (by simp[loadCells,loadCellsFrom]);simp only[length_nil]at hc2 ⊢;simp only[Sem.run_bind,hc2,hb,Result.andThen_ok,Sem.run_pure];rfl
 ·exact h.elim
end
section
variable {P:Program} {o:Oper} {ρ:Operand->AV} {S:List Ac} {K:KT}
def lD (cs:List Value) (off k:Nat) (A:Array Value) (i:Nat) (h:off+k+cs.length≤A.size):
 ((cs.zipIdx k).foldl (λA (p:Value×Nat)=>A.setIfInBounds (off+p.2) p.1) A)[i]? =(if off+k≤i∧i<off+k+cs.length then cs[i-off-k]? else A[i]?)∧
 ((cs.zipIdx k).foldl (λA (p:Value×Nat)=>A.setIfInBounds (off+p.2) p.1) A).size=A.size:=by
 induction cs generalizing k A with
 |nil=>simp;intro h1 h2;omega
 |cons c cs ih=>
  simp only[length_cons]at h ⊢;simp only[zipIdx_cons,foldl_cons];have⟨h1,h2⟩:=ih (k+1) (A.setIfInBounds (off+k) c) (by simp;omega);refine⟨?_,by rw[h2];simp⟩;rw[h1];by_cases e:i=off+k
  ·subst e;rw[if_neg Om,if_pos Om];have:off+k<A.size:=Om
   simp[this]
  ·by_cases e2:off+(k+1)≤i∧i<off+(k+1)+cs.length
   ·rw[if_pos e2,if_pos Om,show i-off-k=(i-off-(k+1))+1 by omega];simp
   ·rw[if_neg e2,if_neg Om,Array.getElem?_setIfInBounds_ne (Ne.symm e)]
def PY (place:Nat->Option (Nat×Nat)) (A:Array Value) (i off size:Nat) (v:Value) (rest:List (Nat×Value)) (hp:place i=some (off,size)) (hs:v.cells.size=size) (hle:off+size≤A.size):
 ∃B,Instr.fill place A ((i,v)::rest)=Instr.fill place B rest∧B.size=A.size∧∀q,B[q]? =if off≤q∧q<off+size then v.cells[q-off]? else A[q]? :=by
 have hf:=λq=>lD v.cells.toList off 0 A q (by simp[hs];omega)
 refine⟨_,?_,(hf 0).2,λq=>?_⟩
 ·simp only[Instr.fill,hp,hs];rw[if_neg (by simp;omega)];rw[←Array.foldl_toList];simp only[Array.toList_zipIdx]
 ·rw[(hf q).1];simp[hs]
def Ly {G:Gh} {place:Nat->Option (Nat×Nat)}:∀(ps:List (Nat×Nat×AV)) (vs:List (Nat×Value)) (cells:List AV) (A:Array Value) (out:List AV),
 Kl cells ps=some out->ps.length=vs.length->(∀(j:Nat) (p:Nat×Nat×AV) (q:Nat×Value),ps[j]? =some p->vs[j]? =some q->place q.1=some (p.1,p.2.1)∧Bg G p.2.2 q.2)->
 BT G cells A.toList->(∀v∈A.toList,v.oneCell'=true)->∃B,Instr.fill place A vs=some B∧BT G out B.toList∧∀v∈B.toList,v.oneCell'=true:=by
 intro ps
 induction ps with
 |nil=>
  intro vs cells A out h hl _ hr ho;cases vs with
  |nil=>simp[Kl]at h;subst h;exact⟨A,rfl,hr,ho⟩
  |cons=>simp at hl
 |cons p ps ih=>
  intro vs cells A out h hl hp hr ho;cases vs with
  |nil=>simp at hl
  |cons q vs=>
   have⟨off,size,x⟩:=p;have⟨i,v⟩:=q;have⟨hpl,hx⟩:=hp 0 _ _ rfl rfl;simp only[Kl]at h;split at h
   ·rename_i cs hcs;split at h
    ·rename_i hc;have⟨h1,h2,h3⟩:=hx.parts hcs;have hsz:v.cells.size=size:=by have:=h2.1;simp at this;omega
     have hA:cells.length=A.size:=by simpa using hr.1
     have⟨B,hB1,hB2,hB3⟩:=PY place A i off size v vs hpl hsz Om;have hBl:∀q,B.toList[q]? =if off≤q∧q<off+size then v.cells[q-off]? else A.toList[q]? :=λq=>by simpa using hB3 q
     refine hB1▸ih vs (Ce cells off cs) B out h (by simpa using hl) (λj p q hj hq=>hp (j+1) p q (by simpa using hj) (by simpa using hq)) ⟨by rw[GA];simp[hB2,hA],λj y u hy hu=>?_⟩ (λu hu=>?_)
     ·rw[FR _ _ _ Om]at hy;rw[hBl]at hu;rw[hc.1]at hy;split at hy
      ·rename_i hj;rw[if_pos hj]at hu;exact h2.2 _ y u hy (by simpa using hu)
      ·rename_i hj;rw[if_neg hj]at hu;exact hr.2 j y u hy hu
     ·obtain⟨j,hj,rfl⟩:=getElem_of_mem hu;have e:=getElem?_eq_getElem hj;rw[hBl]at e;split at e
      ·exact h3 _ (mem_of_getElem? (by simpa using e))
      ·exact ho _ (mem_of_getElem? e)
    ·cases h
   ·cases h
def Tq {α β:Type} {f:α->Option β}:∀{l:List α} {r:List β},LN f l=some r->l.length=r.length∧∀(j:Nat) (x:α) (y:β),l[j]? =some x->r[j]? =some y->f x=some y:=by
 intro l
 induction l with
 |nil=>intro r h;simp[LN]at h;subst h;exact⟨rfl,λj x y hx=>by simp at hx⟩
 |cons a l ih=>
  intro r h;simp only[LN]at h;split at h
  ·rename_i y ys hy hys;injection h with h;subst h;have⟨h1,h2⟩:=ih hys;refine⟨by simp[h1],λj x z hx hz=>?_⟩;cases j with
   |zero=>simp at hx hz;subst hx hz;exact hy
   |succ j=>simp at hx hz;exact h2 j x z hx hz
  ·cases h
def Pz {ps:Array (Nat×Operand)} {t:TypeId} (hop:o.op=.build t ps) {j:Nat} {p:Nat×Operand} (h:ps.toList[j]? =some p):p.2∈o.op.operands:=by
 simp only[hop,Op.operands,mem_toArray,mem_map];exact⟨p,mem_of_getElem? h,rfl⟩
def Pu {G:Gh} (zs:List Value):BT G (zs.map AV.ofC1) zs:=⟨Si,λj x v hx hv=>by
 obtain⟨y,hy,rfl⟩:=A6 hx;rw[hv]at hy;injection hy with hy;subst hy;exact J5 G v⟩
def KK {t:TypeId} {ps:Array (Nat×Operand)} {fs:Array Field} {zs:List Value} {qs:List (Nat×Nat×Operand)} (hop:o.op=.build t ps) (ht:P.underlying t=some (.struct fs)) (hz:EN P t=some zs)
 (hfs:fs.all (λf=>(FP P f.type).isSome)=true) (hq:LN (λp:Nat×Operand=>(fs[p.1]?).bind λf=>(FP P f.type).map λs=>(f.offset,s,p.2)) ps.toList=some qs)
 (h:Hs (zs.map AV.ofC1) (qs.map λ(a,b,x)=>(a,b,ρ x)) K):F_ P o ρ S K:=by
 unfold Hs at h;split at h
 ·rename_i out hout;have⟨hq1,hq2⟩:=Tq hq;obtain⟨it,z,E9,hz0,rfl,ho⟩:=C2 hz;refine AN (λG a w T _ hr=>?_) h
  let pl:List (Nat×Nat):=fs.toList.map λf=>(f.offset,(FP P f.type).getD 0)
  have hpl:fs.toList.mapM (λf=>(P.info? f.type).map λi=>(f.offset,i.size))=some pl:=by
   have hall:∀f∈fs.toList,(FP P f.type).isSome=true:=λf hf=>by
    obtain⟨j,hj,rfl⟩:=getElem_of_mem hf;have:=Array.all_eq_true.1 hfs j (by simpa using hj);simpa using this
   simp only[pl];generalize fs.toList=l at hall;clear pl
   induction l with
   |nil=>rfl
   |cons f l ih=>
    have hf:=hall f Si;have⟨s,hs⟩:=Option.isSome_iff_exists.1 hf;obtain⟨i,hi,rfl⟩:=My hs;rw[mapM_cons];simp[hi,hs,ih (λg hg=>hall g (by simp[hg]))]
  have⟨B,hB,hBr,hBo⟩:=Ly (G:=G) (place:=λi=>pl[i]?) _ (ps.toList.map λp=>(p.1,a.eval p.2)) _ z.cells out hout (by simp[hq1]) (λj p q hp hq'=>by
   obtain⟨⟨a1,b1,x1⟩,hp1,rfl⟩:=A6 hp;obtain⟨p1,hq1',rfl⟩:=A6 hq';have e:=hq2 j p1 _ hq1' hp1;cases hf:fs[p1.1]? with
   |none=>simp[hf]at e
   |some f=>
    cases hs:FP P f.type with
    |none=>simp[hf,hs]at e
    |some s=>
     simp[hf,hs]at e;obtain⟨rfl,rfl,rfl⟩:=e;refine⟨by simp[pl,hf,hs],hr _ (Pz hop hq1')⟩) (Pu _) ho
  refine⟨.agg B,?_,.agg (by simpa using hBr.1) (λj v hv=>hBo v (mem_of_getElem? (by simpa using hv))) (λj x v hx hv=>hBr.2 j x v hx (by simpa using hv))⟩;have hbt:P.built t (ps.map λ(i,x)=>(i,a.eval x)).toList=some B:=by
   simp only[Program.built,E9,ht,hz0,hpl];have:(ps.map λ(i,x)=>(i,a.eval x)).toList=ps.toList.map λp=>(p.1,a.eval p.2):=by simp
   rw[this];simpa using hB
  simp only[execOp,hop,Sem.run_bind,run_build w t _ B hbt,Result.andThen_ok,Sem.run_pure]
 ·exact h.elim
def LJ {t e:TypeId} {n s:Nat} {ps:Array (Nat×Operand)} {zs:List Value} (hop:o.op=.build t ps) (ht:P.underlying t=some (.array n e)) (hz:EN P t=some zs) (hs:FP P e=some s)
 (h:Hs (zs.map AV.ofC1) ((ps.toList.map λp=>(p.1*s,s,p.2)).map λ(a,b,x)=>(a,b,ρ x)) K):F_ P o ρ S K:=by
 unfold Hs at h;split at h
 ·rename_i out hout;obtain⟨it,z,E9,hz0,rfl,ho⟩:=C2 hz;obtain⟨ie,hie,rfl⟩:=My hs;refine AN (λG a w T _ hr=>?_) h;have⟨B,hB,hBr,hBo⟩:=Ly (G:=G) (place:=λi=>some (i*ie.size,ie.size)) _ (ps.toList.map λp=>(p.1,a.eval p.2)) _ z.cells out hout Si (λj p q hp hq'=>by
   obtain⟨p2,hp2,rfl⟩:=A6 hp;obtain⟨p3,hp3,rfl⟩:=A6 hp2;obtain⟨p1,hq1',rfl⟩:=A6 hq';rw[hp3]at hq1';injection hq1' with e;subst e;exact⟨rfl,hr _ (Pz hop hp3)⟩) (Pu _) ho
  refine⟨.agg B,?_,.agg (by simpa using hBr.1) (λj v hv=>hBo v (mem_of_getElem? (by simpa using hv))) (λj x v hx hv=>hBr.2 j x v hx (by simpa using hv))⟩;have hbt:P.built t (ps.map λ(i,x)=>(i,a.eval x)).toList=some B:=by
   simp only[Program.built,E9,ht,hz0,hie];have:(ps.map λ(i,x)=>(i,a.eval x)).toList=ps.toList.map λp=>(p.1,a.eval p.2):=by simp
   rw[this];exact hB
  simp only[execOp,hop,Sem.run_bind,run_build w t _ B hbt,Result.andThen_ok,Sem.run_pure]
 ·exact h.elim
def Ut (k:Nat):∀(us:List Value) (s:Nat) (A:Array Value),(∀u∈us,u.cells.size=k)->(s+us.length)*k≤A.size->
 ∃B,Instr.fill (λi=>some (i*k,k)) A ((range' s us.length).zip us)=some B∧B.size=A.size∧(∀q,q<s*k->B[q]? =A[q]?)∧∀i j u,us[i]? =some u->j<k->B[(s+i)*k+j]? =u.cells[j]? :=by
 intro us
 induction us with
 |nil=>intro s A _ _;exact⟨A,rfl,rfl,λ_ _=>rfl,λi j u h=>by simp at h⟩
 |cons u us ih=>
  intro s A hk hle;simp only[length_cons]at hle;have hmul:(s+(us.length+1))*k=s*k+k+us.length*k:=by rw[Nat.add_mul,Nat.add_mul];omega
  have⟨B,hB1,hB2,hB3⟩:=PY (λi=>some (i*k,k)) A s (s*k) k u ((range' (s+1) us.length).zip us) rfl (hk u Si) Om;have⟨C,hC1,hC2,hC3,hC4⟩:=ih (s+1) B (λv hv=>hk v (by simp[hv])) (by rw[hB2,show s+1+us.length=s+(us.length+1) by omega];exact hle);refine⟨C,?_,by rw[hC2,hB2],λq hq=>?_,λi j v hv hj=>?_⟩
  ·simp only[length_cons,range'_succ,zip_cons_cons];rw[hB1];exact hC1
  ·rw[hC3 q (by rw[Nat.add_mul];omega),hB3,if_neg Om]
  ·cases i with
   |zero=>
    simp at hv;subst hv;rw[Nat.add_zero,hC3 _ (by rw[Nat.add_mul];omega),hB3,if_pos Om,show s*k+j-s*k=j by omega]
   |succ i=>
    simp at hv;rw[show s+(i+1)=s+1+i by omega];exact hC4 i j v hv hj
def pN {t e:TypeId} {n k:Nat} {ps:Array (Nat×Operand)} {zs:List Value} (hop:o.op=.buildSlice t n ps) (ht:P.underlying t=some (.slice e)) (hs:FP P e=some k) (hz:EN P e=some zs)
 (_hzl:zs.length=k) (_hk1:1≤k) (hlim:n*k≤16777216) (hps:ps.toList.map (·.1)=List.range n) (h:rT k ((ps.toList.map (·.2)).map ρ) K):F_ P o ρ S K:=by
 have⟨hall,hK⟩:=h;have hlen:ps.toList.length=n:=by have:=congrArg List.length hps;simpa using this
 refine⟨_,[],[],[],λT _ _ G a w hw hr Kc Q hk=>?_,(λp hp=>by cases hp),(λi hi=>by simp at hi),hK⟩;have⟨it,z,E9,hz0,hzc,ho⟩:=C2 hz;have hrep:∀(j:Nat) (p:Nat×Operand),ps.toList[j]? =some p->Bg G (ρ p.2) (a.eval p.2):=λj p hp=>hr p.2 (by
  simp only[hop,Op.operands,mem_toArray,mem_map];exact⟨p,mem_of_getElem? hp,rfl⟩)
 have hpart:∀(j:Nat) (p:Nat×Operand),ps.toList[j]? =some p->∃cs,(ρ p.2).parts=some cs∧cs.length=k:=λj p hp=>by
  have:=all_eq_true.1 hall (ρ p.2) (by simp only[mem_map];exact⟨p.2,⟨p,mem_of_getElem? hp,rfl⟩,rfl⟩);unfold aX at this;split at this
  ·rename_i cs hcs;exact⟨cs,hcs,by simpa using this⟩
  ·cases this
 let us:List Value:=ps.toList.map λp=>a.eval p.2
 have husl:us.length=n:=by simp[us,hlen]
 have husk:∀u∈us,u.cells.size=k:=by
  intro u hu;simp only[us,mem_map]at hu;obtain⟨p,hp,rfl⟩:=hu;obtain⟨j,hj,rfl⟩:=getElem_of_mem hp;have⟨cs,hcs,hl⟩:=hpart j _ (getElem?_eq_getElem hj);have:=((hrep j _ (getElem?_eq_getElem hj)).parts hcs).2.1.1;rw[←hl,this];exact(Array.length_toList (xs:=_)).symm
 let A:Array Value:=(Array.range (n*k)).map (z.cells[· %z.cells.size]!)
 have hAs:A.size=n*k:=by simp[A]
 have⟨B,hB1,hB2,hB3,hB4⟩:=Ut k us 0 A husk (by rw[hAs,husl,Nat.zero_add];exact Nat.le_refl _);have hzip:(range' 0 us.length).zip us=(ps.map λ(i,x)=>(i,a.eval x)).toList:=by
  rw[husl,←range_eq_range',←hps];simp only[us,Array.toList_map];rw[zip_map']
 have hrun:(execOp a.eval o).run P w=.ok (.value (.slice (some ⟨w.heap.size,0,none⟩) n n)) (w.alloc (.cells B e)):=by
  simp only[execOp,hop,Instr.buildSlice,Sem.run_bind,run_underlying ht,Result.andThen_ok,B1 hs];rw[if_neg Om];have hz':zs.length=z.cells.size:=by rw[hzc];simp
  by_cases hn:n*k=0
  ·have hA0:A=(Array.range (n*k)).map (λx=>(#[]:Array Value)[x%(#[]:Array Value).size]!):=by
    apply Array.ext
    ·simp[A]
    ·intro i h1 h2;simp[A,hn]at h1
   rw[hzip,hA0]at hB1;simp[hn]at hB1 ⊢;simp[hB1,newRow]
  ·rw[hzip]at hB1;simp[hn,zeroValue,typeInfo,E9,hz0];simp[A]at hB1;simp[hB1,newRow]
 refine .inl ?_;unfold Oper.wp;rw[hrun];have hstill:=AS.still_ (vs:=B.toList) hw (C_.alloc w (.cells B e)) (λi v hv=>by simpa using hv);refine hk _ _ _ ?_ (by simpa[BC]using hstill);have hxl:((ps.toList.map (·.2)).map ρ).length=n:=Sx hlen
 have hBc:∀i j,i<n->j<k->∃p cs u,ps.toList[i]? =some p∧(ρ p.2).parts=some cs∧cs.length=k∧B[i*k+j]? =some u∧(a.eval p.2).cells[j]? =some u:=by
  intro i j hi hj;have hp:=getElem?_eq_getElem (show i<ps.toList.length by omega);have⟨cs,hcs,hl⟩:=hpart i _ hp;have hu:us[i]? =some (a.eval (ps.toList[i]'Om).2):=by simp only[us,getElem?_map,hp,Option.map_some]
  have e:=hB4 i j _ hu hj;have hsz:=husk _ (mem_of_getElem? hu);have hv:=Array.getElem?_eq_getElem (show j<(a.eval (ps.toList[i]'Om).2).cells.size by omega);refine⟨_,cs,_,hp,hcs,hl,?_,hv⟩;rw[Nat.zero_add]at e;rw[e];exact hv
 have:=Bg.sl (G:=G.newImm w.heap.size B.toList) (t:=.full) (k:=k) (xs:=(ps.toList.map (·.2)).map ρ) (A:=some ⟨w.heap.size,0,none⟩) (c:=n) (b:=w.heap.size) (o:=0) (λi j=>(B[i*k+j]?).getD undef) (by rw[hxl];omega) (λ_=>rfl)
  (λi x hx=>by
    obtain⟨p',hp',rfl⟩:=A6 hx;obtain⟨p,hp,rfl⟩:=A6 hp';have⟨cs,hcs,hl⟩:=hpart i p hp;rw[←((hrep i p hp).parts hcs).1];exact hl)
  (λi j hi hj=>by
    have⟨p,cs,u,hp,hcs,hl,hBu,hu⟩:=hBc i j Om hj;simp[Gh.newImm,hBu])
  (λi j hi hj=>by
    have⟨p,cs,u,hp,hcs,hl,hBu,hu⟩:=hBc i j Om hj;simp only[hBu,Option.getD_some];exact((hrep i p hp).parts hcs).2.2 u (mem_of_getElem? (by simpa using hu)))
  (λi j x y hx hy=>by
    obtain⟨p',hp',rfl⟩:=A6 hx;obtain⟨p,hp,rfl⟩:=A6 hp';have hi:i<n:=by rw[←hlen];exact(Ge hp)
    have⟨cs,hcs,hl⟩:=hpart i p hp;have hpt:=(hrep i p hp).parts hcs;rw[←hpt.1]at hy;have hj:j<k:=by rw[←hl];exact(Ge hy)
    have⟨p2,cs2,u,hp2,hcs2,hl2,hBu,hu⟩:=hBc i j hi hj;rw[hp]at hp2;injection hp2 with e;subst e;simp only[hBu,Option.getD_some];exact(hpt.2.1.2 j y u hy (by simpa using hu)).mono hstill.le)
  (by rw[hxl];rfl)
 rwa[hxl]at this
end
section
variable {P:Program} {o:Oper} {ρ:Operand->AV} {S:List Ac} {K:KT}
def EV (w:World) (t ty e t0:TypeId) (i:TypeInfo) (ht:P.underlying t=some (.slice e)) (hi:P.info? e=some i) (g sLen sCap:Nat) (cur:Array Value) (hg:w.heap[g]? =some (.cells cur t0 (0,0)))
 (a:Addr) (m c:Nat) (news:List Value) (hl:news.length=m*i.size) (hnews:∀j u,news[j]? =some u->w.cell? (a.add j)=some u) (h1:∀u∈news,u.oneCell'=true)
 (hroom:sLen+m≤sCap) (hfit:sLen*i.size+news.length≤cur.size):
 (Builtin.append_ #[t,t] ty #[.slice (some ⟨g,0,none⟩) sLen sCap,.slice (some a) m c]).run P w=
   .ok (.slice (some ⟨g,0,none⟩) (sLen+m) sCap) (w.setRow g (cur.toList.take (sLen*i.size)++news++cur.toList.drop (sLen*i.size+news.length)).toArray):=by
 have hf:=run_firstCells_some (P:=P) w i.size m a m c news hl hnews;have hst:=run_storeCells_at P g (sLen*i.size) t0 news 0 cur w hg (by simpa using hfit) h1;simp only[Nat.add_zero]at hst;simp[Builtin.append_,run_underlying ht,sizeOf,typeInfo,hi,Builtin.lenOf,hroom,hf,A_,hst]
def D9 (w:World) (t ty e:TypeId) (i:TypeInfo) (ht:P.underlying t=some (.slice e)) (hi:P.info? e=some i) (A B:Option Addr) (n c c2:Nat) (hc:n≤c):
 (Builtin.append_ #[t,t] ty #[.slice A n c,.slice B 0 c2]).run P w=.ok (.slice A n c) w:=by
 cases A<;>cases B<;>simp[Builtin.append_,run_underlying ht,sizeOf,typeInfo,hi,Builtin.lenOf,Builtin.firstCells,hc,storeCells,loadCells,loadCellsFrom]
def EE {G:Gh} {t:Gd} {k:Nat} {xs:List AV} {A:Option Addr} {n c:Nat} (r:Bg G (.sl t k xs) (.slice A n c)) (hk:1≤k):
 ∃vs:List Value,n=xs.length∧n≤c∧vs.length=xs.length*k∧(∀u∈vs,u.oneCell'=true)∧(∀(i j:Nat) (x y:AV),xs[i]? =some x->x.cells[j]? =some y->∃u,vs[i*k+j]? =some u∧Bg G y u)∧(∀(i:Nat) (x:AV),xs[i]? =some x->x.cells.length=k)∧
  (0<xs.length->∃b o,A=some ⟨b,o,none⟩∧∀(q:Nat) (u:Value),vs[q]? =some u->G.imm b (o+q)=some u)∧HR G t A n c:=by
 cases r with
 | @sl _ _ _ _ _ b o vs hc hA hk' g1 g2 g3 ht=>
   have hdm:∀i j,j<k->(i*k+j)/k=i∧(i*k+j)%k=j:=λi j hj=>by
    rw[Nat.mul_comm];exact⟨by rw[Nat.mul_add_div Om,Nat.div_eq_of_lt hj];rfl,by rw[Nat.mul_add_mod,Nat.mod_eq_of_lt hj]⟩
   have hq:∀q,q<xs.length*k->q/k<xs.length∧q%k<k:=λq hq=>⟨Nat.div_lt_of_lt_mul (by rw[Nat.mul_comm];exact hq),Nat.mod_lt _ Om⟩
   refine⟨(List.range (xs.length*k)).map λq=>vs (q/k) (q%k),rfl,hc,Si,λu hu=>?_,λi j x y hx hy=>?_,hk',λh0=>⟨b,o,hA h0,λq u hu=>?_⟩,ht⟩
   ·simp only[mem_map,mem_range]at hu;obtain⟨q,hq1,rfl⟩:=hu;exact g2 _ _ (hq q hq1).1 (hq q hq1).2
   ·have hi:i<xs.length:=(Ge hx);have hj:j<k:=by rw[←hk' i x hx];exact(Ge hy)
    have hlt:i*k+j<xs.length*k:=by
     have:(i+1)*k≤xs.length*k:=Nat.mul_le_mul_right _ Om;rw[Nat.add_mul]at this;omega
    refine⟨vs i j,?_,g3 i j x y hx hy⟩;rw[getElem?_map,getElem?_range hlt,Option.map_some,(hdm i j hj).1,(hdm i j hj).2]
   ·have hlt:q<xs.length*k:=by have:=(Ge hu);simpa using this
    rw[getElem?_map,getElem?_range hlt]at hu;simp at hu;rw[←hu];have:=g1 _ _ (hq q hlt).1 (hq q hlt).2;rwa[Nat.add_assoc,Nat.mul_comm,Nat.div_add_mod]at this
def C5 {G:Gh} {t:Gd} {k b c:Nat} {zs:List AV} {vs:List Value} (hl:vs.length=zs.length*k) (hc:zs.length≤c) (h1:∀u∈vs,u.oneCell'=true) (hk:∀(i:Nat) (x:AV),zs[i]? =some x->x.cells.length=k)
 (hi:∀(q:Nat) (u:Value),vs[q]? =some u->G.imm b q=some u) (hr:∀(i j:Nat) (x y:AV) (u:Value),zs[i]? =some x->x.cells[j]? =some y->vs[i*k+j]? =some u->Bg G y u) (ht:HR G t (some ⟨b,0,none⟩) zs.length c):
 Bg G (.sl t k zs) (.slice (some ⟨b,0,none⟩) zs.length c):=by
 have hlt:∀i j,i<zs.length->j<k->i*k+j<vs.length:=λi j h h'=>by
  have:(i+1)*k≤zs.length*k:=Nat.mul_le_mul_right _ Om;rw[Nat.add_mul]at this;omega
 refine .sl (b:=b) (o:=0) (λi j=>vs.getD (i*k+j) undef) hc (λ_=>rfl) hk (λi j hi' hj=>?_) (λi j hi' hj=>?_) (λi j x y hx hy=>?_) ht
 ·rw[Nat.zero_add];exact hi _ _ (by simp[hlt i j hi' hj])
 ·exact h1 _ (mem_of_getElem? (i:=i*k+j) (by simp[hlt i j hi' hj]))
 ·have hi':i<zs.length:=(Ge hx);have hj:j<k:=by rw[←hk i x hx];exact(Ge hy)
  exact hr i j x y _ hx hy (by simp[hlt i j hi' hj])
def LE {G:Gh} {k:Nat} {xs ys:List AV} {vs us:List Value} (hv:vs.length=xs.length*k) (h1:∀(i j:Nat) (x y:AV),xs[i]? =some x->x.cells[j]? =some y->∃u,vs[i*k+j]? =some u∧Bg G y u) (hxk:∀(i:Nat) (x:AV),xs[i]? =some x->x.cells.length=k)
 (h2:∀(i j:Nat) (x y:AV),ys[i]? =some x->x.cells[j]? =some y->∃u,us[i*k+j]? =some u∧Bg G y u) (hyk:∀(i:Nat) (x:AV),ys[i]? =some x->x.cells.length=k):
 (∀(i:Nat) (x:AV),(xs++ys)[i]? =some x->x.cells.length=k)∧∀(i j:Nat) (x y:AV) (u:Value),(xs++ys)[i]? =some x->x.cells[j]? =some y->(vs++us)[i*k+j]? =some u->Bg G y u:=by
 refine⟨λi x hx=>?_,λi j x y u hx hy hu=>?_⟩
 ·rw[getElem?_append]at hx;split at hx
  ·exact hxk i x hx
  ·exact hyk _ x hx
 ·rw[getElem?_append]at hx;split at hx
  ·rename_i hi;have⟨u',hu',hr⟩:=h1 i j x y hx hy;have hlt:=(Ge hu');rw[getElem?_append_left hlt,hu']at hu;injection hu with e;subst e;exact hr
  ·rename_i hi;have⟨u',hu',hr⟩:=h2 _ j x y hx hy;have hle:xs.length*k≤i*k:=Nat.mul_le_mul_right _ Om;have hs:(i-xs.length)*k=i*k-xs.length*k:=Nat.sub_mul _ _ _;rw[getElem?_append_right Om,show i*k+j-vs.length=(i-xs.length)*k+j by omega,hu']at hu;injection hu with e;subst e;exact hr
theorem lF:flat []=[]:=rfl
def Kj {k:Nat}:∀(ys:List AV),(∀(i:Nat) (x:AV),ys[i]? =some x->x.cells.length=k)->(flat ys).length=ys.length*k∧∀(q:Nat) (y:AV),(flat ys)[q]? =some y->∃i j x,q=i*k+j∧ys[i]? =some x∧x.cells[j]? =some y
 |[],_=>⟨by simp[flat],λq y h=>by simp[flat]at h⟩
 |x::ys,hk=>by
  have hx:x.cells.length=k:=hk 0 x rfl;have⟨h1,h2⟩:=Kj ys (λi x h=>hk (i+1) x (by simpa using h));have e:flat (x::ys)=x.cells++flat ys:=by simp[flat]
  refine⟨by rw[e,length_append,h1,hx,length_cons,Nat.add_mul];omega,λq y hq=>?_⟩;rw[e,getElem?_append]at hq;split at hq
  ·exact⟨0,q,x,Om,rfl,hq⟩
  ·rename_i hge;have⟨i,j,z,h3,h4,h5⟩:=h2 _ y hq;exact⟨i+1,j,z,by rw[Nat.add_mul];omega,by simpa using h4,h5⟩
def H7 (w:World) {t e ty:TypeId} {i:TypeInfo} {z:Value} (ht:P.underlying t=some (.slice e)) (hi:P.info? e=some i) (hz0:i.zero=some z) (hzs:z.cells.size=i.size) (hb1:1≤i.bytes) (A:Option Addr) (n c:Nat) (olds:List Value) (hlo:olds.length=n*i.size)
 (holds:∀ad,A=some ad->∀j v,olds[j]? =some v->w.cell? (ad.add j)=some v) (hA:A=none->c=0∧n=0) (B:Addr) (m cx:Nat) (news:List Value) (hl:news.length=m*i.size) (hnews:∀j v,news[j]? =some v->w.cell? (B.add j)=some v) (hm:0<m) (hcap:c<n+m) (hbd:(n+m)*i.bytes≤140737488355328):
 ∃(cap:Nat) (cells:Array Value),(Builtin.append_ #[t,t] ty #[.slice A n c,.slice (some B) m cx]).run P w=.ok (.slice (some ⟨w.heap.size,0,none⟩) (n+m) cap) (w.drew.alloc (.cells cells e))∧n+m≤cap∧cap≤9223372036854775807∧cells.size=cap*i.size∧
  ∀(q:Nat) (v:Value),(olds++news)[q]? =some v->cells[q]? =some v:=by
 have hsmall:n+m≤140737488355328:=Nat.le_trans (Nat.le_mul_of_pos_right _ hb1) hbd
 let cap:=grownCap w (n+m) c e
 have hge:n+m≤cap:=grownCap_ge w _ c e;have h63:cap≤9223372036854775807:=by
  have:=grownCap_le_maxLen w (n+m) c e (by unfold maxLen;omega);unfold maxLen at this;show grownCap w (n+m) c e≤_;omega
 let cells:Array Value:=olds.toArray++news.toArray++Builtin.zeroCells z.cells (cap-(n+m))
 refine⟨cap,cells,?_,hge,h63,?_,λq v hv=>?_⟩
 ·cases A with
  |none=>
   obtain⟨rfl,rfl⟩:=hA rfl;have hvn:olds=[]:=eq_nil_of_length_eq_zero (by rw[hlo];omega);subst hvn;have:=run_append_nil (P:=P) w t ty e i z ht hi hz0 B m cx news hl hnews hm Om (by simp at hbd;omega);simpa[cells,cap]using this
  |some ad=>exact run_append_grow (P:=P) w t ty e i z ht hi hz0 ad n c olds hlo (holds ad rfl) B m cx news hl hnews hcap Om (growslice_fits hcap hbd)
 ·simp only[cells,Array.size_append,size_toArray,size_zeroCells,hzs,hlo,hl,←Nat.add_mul];congr 1;omega
 ·have hlt:=(Ge hv);have:cells.toList[q]? =some v:=by
   simp only[cells,Array.toList_append];rw[getElem?_append_left (by simpa using hlt)];exact hv
  simpa using this
def iF {t e:TypeId} {s x:Operand} {c:Call} {i:TypeInfo} {zs:List Value} (hop:o.op=.call c) (hcal:c.callee=.builtin .append) (ha:c.args.toList=[s,x]) (hat:c.argTypes.toList=[t,t])
 (ht:P.underlying t=some (.slice e)) (hi:P.info? e=some i) (hz:EN P e=some zs) (hzl:zs.length=i.size) (hk1:1≤i.size) (hb1:1≤i.bytes) {j g ky:Nat} {ys:List AV} {tg:Gd} (hs:ρ s=.ms j g) (hx:ρ x=.sl tg ky ys) (h:YW i.size i.bytes j g ky ys S K):F_ P o ρ S K:=by
 have hargs:c.args=#[s,x]:=by rw[←ha]
 have hats:c.argTypes=#[t,t]:=by rw[←hat]
 have⟨it,z,E9,hz0,hzc,ho⟩:=C2 hz;rw[hi]at E9;injection E9 with E9;subst E9;have hzs:z.cells.size=i.size:=by rw[←hzl,hzc];simp
 have hrun:∀(a:Act) (w:World) (v:Value) (w':World),(Builtin.append_ #[t,t] o.type #[a.eval s,a.eval x]).run P w=.ok v w'->(execOp a.eval o).run P w=.ok (.value v) w':=by
  intro a w v w' hv;simp[execOp,hop,resolve,hcal,hargs,hats,invoke,builtin,hv]
 unfold YW at h;split at h
 ·rename_i k m xs hS;obtain⟨rfl,rfl,hky,hbd,hK⟩:=h;refine⟨_,[j],[(j,_)],[],λT hT _ G a w hw hr Kc Q hk=>?_,Si,(λq hq=>by simp at hq;subst hq;exact(Ge hS)),hK⟩;have hTj:T[j]? =some (.mrow i.size m xs):=(hT j Si).trans hS;have hlt:j<T.length:=(Ge hTj);have r1:=hr s (by simp[hop,Op.operands,Call.operands,hargs]);have r2:=hr x (by simp[hop,Op.operands,Call.operands,hargs]);rw[hs]at r1;rw[hx]at r2;have r2':Bg G (.sl tg i.size ys) (a.eval x):=by
   rcases hky with rfl|rfl
   ·exact r2
   ·exact r2.rek
  obtain⟨B,m2,cx,ex⟩:∃B m2 cx,a.eval x=.slice B m2 cx:=by generalize a.eval x=vx at r2';cases r2';exact⟨_,_,_,rfl⟩
  obtain⟨A,c',es,hh⟩:∃A c',a.eval s=.slice A m c'∧G.hist j m=some (.slice A m c'):=by generalize a.eval s=vx at r1;cases r1 with|ms h _=>exact⟨_,_,rfl,h⟩
  rw[ex]at r2';have⟨us,hm,huc,hul,hu1,hu2,huk,hu3,_⟩:=EE r2' hk1;subst hm;have⟨_,hxl,A',cap',q1,q2,q3,q6,q4⟩:=hw.mrow j _ _ _ hTj;rw[hh]at q1;injection q1 with q1;injection q1 with e1 _ e3;subst e1 e3;have⟨hfl,hfg⟩:=Kj ys huk;have hlen:(xs++flat ys).length=(m+ys.length)*i.size:=by rw[length_append,hxl,hfl,Nat.add_mul]
  have hnewrep:∀(q:Nat) (x:AV) (v:Value),(flat ys)[q]? =some x->us[q]? =some v->v.oneCell'=true∧Bg G x v:=λq x v hx hv=>by
   obtain⟨i',j',y,rfl,h1,h2⟩:=hfg q x hx;have⟨u,h3,h4⟩:=hu2 i' j' y x h1 h2;rw[hv]at h3;injection h3 with h3;subst h3;exact⟨hu1 v (mem_of_getElem? hv),h4⟩
  by_cases hy0:0<ys.length
  ·obtain⟨b2,o2,rfl,hu4⟩:=hu3 hy0;have hnews:∀j u,us[j]? =some u->w.cell? ((⟨b2,o2,none⟩:Addr).add j)=some u:=λj u hu=>by rw[A_];exact hw.imm _ _ _ (hu4 j u hu)
   by_cases hroom:m+ys.length≤c'
   ·have⟨b,cur,t0,e1,g2,g3,g4,g5⟩:=q4 Om;subst e1;have hb:blk G T j=some b:=by simp[blk,hTj,hh,show 0<c' by omega]
    have hfit:m*i.size+us.length≤cur.size:=by rw[hul,g3,←Nat.add_mul];exact Nat.mul_le_mul_right _ hroom
    have hrn:=EV (P:=P) w t o.type e t0 i ht hi b m c' cur g2 ⟨b2,o2,none⟩ ys.length cx us hul hnews hu1 hroom hfit;have hrn2:=hrun a w _ _ (by rw[es,ex];exact hrn);refine .inl ?_;unfold Oper.wp;rw[hrn2];have htn:=CH (cs':=(cur.toList.take (m*i.size)++us++cur.toList.drop (m*i.size+us.length)).toArray) g2;have hleft:=AS.mrowTo (n:=m+ys.length) (c:=c') (A:=some ⟨b,0,none⟩) (xs:=xs++flat ys) hw (.inr ⟨m,xs,hTj,.inl Om⟩) hk1 hlen hroom q6 (htn.own hb)
     (λ_=>⟨b,_,t0,rfl,htn.here,by simp;omega,λq x v hx hv=>by
       simp only[getElem?_toArray]at hv;rw[getElem?_append]at hx;split at hx
       ·rename_i hq;rw[append_assoc,getElem?_append_left (by simp;omega),getElem?_take,if_pos Om]at hv;exact g4 q x v hx (by simpa using hv)
       ·rename_i hq;have hq1:=(Ge hx);have hq2:(List.take (m*i.size) cur.toList).length=m*i.size:=by simp;omega
        rw[append_assoc,getElem?_append_right Om,hq2,getElem?_append_left Om]at hv;rw[hxl]at hx;exact hnewrep _ x v hx hv,.inr hb⟩)
    refine hk _ _ _ ?_ (by simpa[BC]using hleft);exact .ms (by simp[Gh.newHist]) λ_=>⟨b,rfl⟩
   ·have hold:∃olds:List Value,olds.length=m*i.size∧(∀ad,A=some ad->∀j v,olds[j]? =some v->w.cell? (ad.add j)=some v)∧(A=none->c'=0∧m=0)∧∀(q:Nat) (x:AV) (v:Value),xs[q]? =some x->olds[q]? =some v->v.oneCell'=true∧Bg G x v:=by
     by_cases hc:0<c'
     ·have⟨b,cur,t0,e1,g2,g3,g4,g5⟩:=q4 hc;subst e1;have hmk:m*i.size≤c'*i.size:=Nat.mul_le_mul_right _ q3;have hcl:(cur.toList.take (m*i.size)).length=m*i.size:=by simp;omega
      have hcg:∀(q:Nat) (v:Value),(cur.toList.take (m*i.size))[q]? =some v->cur[q]? =some v:=λq v hv=>by
       have:=(Ge hv);rw[getElem?_take,if_pos Om]at hv;simpa using hv
      exact⟨cur.toList.take (m*i.size),hcl,λad had j v hv=>by injection had with had;subst had;rw[A_,Nat.zero_add,CQ g2];exact hcg j v hv,λhA=>(by cases hA),λq x v hx hv=>g4 q x v hx (hcg q v hv)⟩
     ·have hm0:m=0:=Om
      exact⟨[],by simp[hm0],λ_ _ _ _ h=>by simp at h,λ_=>⟨Om,hm0⟩,λq x v _ h=>by simp at h⟩
    have⟨olds,hol,ho1,ho2,ho3⟩:=hold;have⟨cap,cells,hrn,hge,h63,hcs,hpre⟩:=H7 (P:=P) w (ty:=o.type) ht hi hz0 hzs hb1 A m c' olds hol ho1 ho2 ⟨b2,o2,none⟩ ys.length cx us hul hnews hy0 Om hbd;have hrn2:=hrun a w _ _ (by rw[es,ex];exact hrn);refine .inl ?_;unfold Oper.wp;rw[hrn2];have hmo:=C_.drew w (.cells cells e);have hleft:=AS.mrowTo (n:=m+ys.length) (c:=cap) (A:=some ⟨w.heap.size,0,none⟩) (xs:=xs++flat ys) hw (.inr ⟨m,xs,hTj,.inl Om⟩) hk1 hlen hge h63 (hmo.kept _)
     (λ_=>⟨w.heap.size,cells,e,rfl,hmo.new,hcs,λq x v hx hv=>by
       have hq1:=(Ge hx);have hql:q<(olds++us).length:=by rw[length_append,hol,hul,←Nat.add_mul];omega
       have hq2:=hpre q _ (getElem?_eq_getElem hql);rw[hv]at hq2;injection hq2 with hq2;have hq3:(olds++us)[q]? =some v:=by rw[hq2];exact getElem?_eq_getElem hql
       rw[getElem?_append]at hx hq3;rw[hxl]at hx;rw[hol]at hq3;split at hx
       ·rename_i hq;rw[if_pos hq]at hq3;exact ho3 q x v hx hq3
       ·rename_i hq;rw[if_neg hq]at hq3;exact hnewrep _ x v hx hq3,.inl (Nat.le_refl _)⟩)
    refine hk _ _ _ ?_ (by simpa[BC]using hleft);exact .ms (by simp[Gh.newHist]) λ_=>⟨_,rfl⟩
  ·have hyn:ys=[]:=eq_nil_of_length_eq_zero Om;subst hyn;have hz:=D9 (P:=P) w t o.type e i ht hi A B m c' cx q3;have hrn:=hrun a w _ _ (by rw[es,ex];exact hz);refine .inl ?_;unfold Oper.wp;rw[hrn];refine hk _ w G (by rw[←es];simpa using r1) ?_;have:T.set j (.mrow i.size m xs)=T:=by
    apply ext_getElem?;intro q;by_cases e:q=j
    ·subst e;rw[getElem?_set_self hlt,hTj]
    ·rw[getElem?_set_ne (Ne.symm e)]
   simpa[BC,this,flat]using AS.refl hw
 ·exact h.elim
def iG {t e:TypeId} {s x:Operand} {c:Call} {i:TypeInfo} {zs:List Value} (hop:o.op=.call c) (hcal:c.callee=.builtin .append) (ha:c.args.toList=[s,x]) (hat:c.argTypes.toList=[t,t])
 (ht:P.underlying t=some (.slice e)) (hi:P.info? e=some i) (hz:EN P e=some zs) (hzl:zs.length=i.size) (hk1:1≤i.size) (hb1:1≤i.bytes) {ks ky:Nat} {ys:List AV} (hs:ρ s=.sl .full ks []) (hx:ρ x=.slc ky ys)
 (hky:ky=i.size∨ys=[]) (hbd:ys.length*i.bytes≤140737488355328) (hK:K (.ms S.length ys.length) [] [] [.mrow i.size ys.length (flat ys)]):F_ P o ρ S K:=by
 have hargs:c.args=#[s,x]:=by rw[←ha]
 have hats:c.argTypes=#[t,t]:=by rw[←hat]
 have⟨it,z,E9,hz0,hzc,ho⟩:=C2 hz;rw[hi]at E9;injection E9 with E9;subst E9;have hzs:z.cells.size=i.size:=by rw[←hzl,hzc];simp
 have hrun:∀(a:Act) (w:World) (v:Value) (w':World),(Builtin.append_ #[t,t] o.type #[a.eval s,a.eval x]).run P w=.ok v w'->(execOp a.eval o).run P w=.ok (.value v) w':=by
  intro a w v w' hv;simp[execOp,hop,resolve,hcal,hargs,hats,invoke,builtin,hv]
 refine⟨_,[],[],[_],λT _ hd G a w hw hr Kc Q hk=>?_,(λp hp=>by cases hp),(λi hi=>by simp at hi),hK⟩;have hid:T[S.length]? =some .dead:=hd (S.length,.mrow i.size ys.length (flat ys)) (by simp[BC]);have r1:=hr s (by simp[hop,Op.operands,Call.operands,hargs]);have r2:=hr x (by simp[hop,Op.operands,Call.operands,hargs]);rw[hs]at r1;rw[hx]at r2;have r2':Bg G (.sl .none i.size ys) (a.eval x):=by
  cases r2 with
  |slc r2=>
   rcases hky with rfl|rfl
   ·exact r2
   ·exact r2.rek
 obtain⟨B,m2,cx,ex⟩:∃B m2 cx,a.eval x=.slice B m2 cx:=by generalize a.eval x=vx at r2';cases r2';exact⟨_,_,_,rfl⟩
 obtain⟨A,es⟩:∃A,a.eval s=.slice A 0 0:=by
  generalize a.eval s=vx at r1;cases r1 with
  | @sl _ _ _ A c' _ _ _ _ _ _ _ _ _ ht'=>
    have:c'=0:=ht';subst this;exact⟨A,rfl⟩
 rw[ex]at r2';have⟨us,hm,huc,hul,hu1,hu2,huk,hu3,_⟩:=EE r2' hk1;subst hm;have⟨hfl,hfg⟩:=Kj ys huk;have hnewrep:∀(q:Nat) (x:AV) (v:Value),(flat ys)[q]? =some x->us[q]? =some v->v.oneCell'=true∧Bg G x v:=λq x v hx hv=>by
  obtain⟨i',j',y,rfl,h1,h2⟩:=hfg q x hx;have⟨u,h3,h4⟩:=hu2 i' j' y x h1 h2;rw[hv]at h3;injection h3 with h3;subst h3;exact⟨hu1 v (mem_of_getElem? hv),h4⟩
 by_cases hy0:0<ys.length
 ·obtain⟨b2,o2,rfl,hu4⟩:=hu3 hy0;have hnews:∀j u,us[j]? =some u->w.cell? ((⟨b2,o2,none⟩:Addr).add j)=some u:=λj u hu=>by rw[A_];exact hw.imm _ _ _ (hu4 j u hu)
  have⟨cap,cells,hrn,hge,h63,hcs,hpre⟩:=H7 (P:=P) w (ty:=o.type) ht hi hz0 hzs hb1 A 0 0 [] Si (λ_ _ _ _ h=>by simp at h) (λ_=>⟨rfl,rfl⟩) ⟨b2,o2,none⟩ ys.length cx us hul hnews hy0 Om (by simpa using hbd);simp only[Nat.zero_add,nil_append]at hrn hge hpre;have hrn2:=hrun a w _ _ (by rw[es,ex];exact hrn);refine .inl ?_;unfold Oper.wp;rw[hrn2];have hmo:=C_.drew w (.cells cells e);have hleft:=AS.mrowTo (n:=ys.length) (c:=cap) (A:=some ⟨w.heap.size,0,none⟩) (xs:=flat ys) hw (.inl hid) hk1 hfl hge h63 (hmo.kept _)
   (λ_=>⟨w.heap.size,cells,e,rfl,hmo.new,hcs,λq x v hx hv=>by
     have hq1:=(Ge hx);have hql:q<us.length:=by rw[hul];omega
     have hq2:=hpre q _ (getElem?_eq_getElem hql);rw[hv]at hq2;injection hq2 with hq2;exact hnewrep q x v hx (by rw[hq2];exact getElem?_eq_getElem hql),.inl (Nat.le_refl _)⟩)
  refine hk _ _ _ ?_ (by simpa[BC]using hleft);exact .ms (by simp[Gh.newHist]) λ_=>⟨_,rfl⟩
 ·have hyn:ys=[]:=eq_nil_of_length_eq_zero Om;subst hyn;have hz:=D9 (P:=P) w t o.type e i ht hi A B 0 0 cx (Nat.le_refl _);have hrn:=hrun a w _ _ (by rw[es,ex];exact hz);refine .inl ?_;unfold Oper.wp;rw[hrn];have hleft:=AS.mrowTo (n:=0) (c:=0) (A:=A) (xs:=[]) (j:=S.length) (k:=i.size) hw (.inl hid) hk1 Si (Nat.le_refl _) Om (CE.refl _ w) (λh=>by omega);refine hk _ w _ ?_ (by simpa[BC,flat]using hleft);exact .ms (by simp[Gh.newHist]) λh=>by simp at h
theorem pQ {t e:TypeId} {s x:Operand} {c:Call} {i:TypeInfo} {zs:List Value} (hop:o.op=.call c) (hcal:c.callee=.builtin .append) (ha:c.args.toList=[s,x]) (hat:c.argTypes.toList=[t,t])
 (ht:P.underlying t=some (.slice e)) (hi:P.info? e=some i) (hz:EN P e=some zs) (hzl:zs.length=i.size) (hk1:1≤i.size) (hb1:1≤i.bytes) (h:Q5 i.size i.bytes (ρ s) (ρ x) S K):F_ P o ρ S K:=by
 have hargs:c.args=#[s,x]:=by rw[←ha]
 have hats:c.argTypes=#[t,t]:=by rw[←hat]
 obtain⟨it,z,E9,hz0,hzc,ho⟩:=C2 hz;rw[hi]at E9;injection E9 with E9;subst E9;have hzs:z.cells.size=i.size:=by rw[←hzl,hzc];simp
 generalize hK':i.size=k at*;have hrun:∀(a:Act) (w:World) (v:Value) (w':World),(Builtin.append_ #[t,t] o.type #[a.eval s,a.eval x]).run P w=.ok v w'->(execOp a.eval o).run P w=.ok (.value v) w':=by
  intro a w v w' hv;simp[execOp,hop,resolve,hcal,hargs,hats,invoke,builtin,hv]
 unfold Q5 at h;split at h
 ·rename_i j g tg ky ys hs hx;exact iF hop hcal ha hat ht hi hz (by omega) (by omega) hb1 hs hx (by rw[hK'];exact h)
 ·rename_i tg ks xs ky ys hs hx;obtain⟨rfl,rfl,hky,hbd,hK⟩:=h;exact iG hop hcal ha hat ht hi hz (by omega) (by omega) hb1 hs hx (by rw[hK'];exact hky) hbd (by rw[hK'];exact hK)
 ·rename_i tg ks xs tg2 ky ys hs hx;obtain⟨hks,hky,hbd,h⟩:=h;have hsmall:xs.length+ys.length≤140737488355328:=Nat.le_trans (Nat.le_mul_of_pos_right _ hb1) hbd;have hboth:∀(G:Gh) (a:Act),(∀x∈o.op.operands,Bg G (ρ x) (a.eval x))->(∃A n c',a.eval s=.slice A n c'∧Bg G (.sl tg k xs) (.slice A n c'))∧∃B m c',a.eval x=.slice B m c'∧Bg G (.sl tg2 k ys) (.slice B m c'):=by
   intro G a hr;have r1:=hr s (by simp[hop,Op.operands,Call.operands,hargs]);have r2:=hr x (by simp[hop,Op.operands,Call.operands,hargs]);rw[hs]at r1;rw[hx]at r2;have r1':Bg G (.sl tg k xs) (a.eval s):=by
    rcases hks with rfl|rfl
    ·exact r1
    ·exact r1.rek
   have r2':Bg G (.sl tg2 k ys) (a.eval x):=by
    rcases hky with rfl|rfl
    ·exact r2
    ·exact r2.rek
   generalize a.eval s=u1 at r1';generalize a.eval x=u2 at r2';refine⟨?_,?_⟩
   ·cases r1' with
    | @sl _ _ _ A c' _ _ vs q1 q2 q3 q4 q5 q6 q7=>exact⟨A,_,c',rfl,.sl vs q1 q2 q3 q4 q5 q6 q7⟩
   ·cases r2' with
    | @sl _ _ _ A c' _ _ vs q1 q2 q3 q4 q5 q6 q7=>exact⟨A,_,c',rfl,.sl vs q1 q2 q3 q4 q5 q6 q7⟩
  have grown:∀(G:Gh) (a:Act) (w:World) (T:List Ac) (id:Nat) (A B:Option Addr) (cs cx:Nat),Wd G T w->a.eval s=.slice A xs.length cs->a.eval x=.slice B ys.length cx->Bg G (.sl tg k xs) (.slice A xs.length cs)->Bg G (.sl tg2 k ys) (.slice B ys.length cx)->
   0<ys.length->cs<xs.length+ys.length->(A=none->cs=0)->(T[id]? =some .dead∨∃m,m<xs.length+ys.length∧T[id]? =some (.row k m))->
   ∃v' w' G',(execOp a.eval o).run P w=.ok (.value v') w'∧Bg G' (.sl (.row id) k (xs++ys)) v'∧AS G T w G' (T.set id (.row k (xs.length+ys.length))) w':=by
   intro G a w T id A B cs cx hw es ex r1 r2 hy0 hcap hA0 hid;obtain⟨vs,_,hvc,hvl,hv1,hv2,hvk,hv3,_⟩:=EE r1 hk1;obtain⟨us,_,huc,hul,hu1,hu2,huk,hu3,_⟩:=EE r2 hk1;obtain⟨b2,o2,rfl,hu4⟩:=hu3 hy0;have hnews:∀j u,us[j]? =some u->w.cell? ((⟨b2,o2,none⟩:Addr).add j)=some u:=λj u hu=>by rw[A_];exact hw.imm _ _ _ (hu4 j u hu)
   let cap:=grownCap w (xs.length+ys.length) cs e
   have hge:xs.length+ys.length≤cap:=grownCap_ge w _ cs e
   let cells:Array Value:=vs.toArray++us.toArray++Builtin.zeroCells z.cells (cap-(xs.length+ys.length))
   have hrun2:(Builtin.append_ #[t,t] o.type #[a.eval s,a.eval x]).run P w=.ok (.slice (some ⟨w.heap.size,0,none⟩) (xs.length+ys.length) cap) (w.drew.alloc (.cells cells e)):=by
    rw[es,ex];cases A with
    |none=>
     have hcs:=hA0 rfl;have hx0:xs.length=0:=by omega
     have hxn:xs=[]:=List.eq_nil_of_length_eq_zero hx0;have hvn:vs=[]:=List.eq_nil_of_length_eq_zero (by rw[hvl,hx0];omega);subst hcs hxn hvn;have:=run_append_nil (P:=P) w t o.type e i z ht hi hz0 ⟨b2,o2,none⟩ ys.length cx us (by rw[hul,hK']) hnews hy0 (by simp at hsmall;omega) (by simp at hbd;omega);simpa[cells,cap]using this
    |some ad=>
     have holds:∀j v,vs[j]? =some v->w.cell? (ad.add j)=some v:=λj v hv=>by
      have hx0:0<xs.length:=by
       rcases Nat.eq_zero_or_pos xs.length with h|h
       ·have:=(List.getElem?_eq_some_iff.1 hv).1;rw[hvl,h]at this;omega
       ·exact h
      obtain⟨b1,o1,e1,hv4⟩:=hv3 hx0;injection e1 with e1;subst e1;rw[A_];exact hw.imm _ _ _ (hv4 j v hv)
     exact run_append_grow (P:=P) w t o.type e i z ht hi hz0 ad xs.length cs vs (by rw[hvl,hK']) holds ⟨b2,o2,none⟩ ys.length cx us (by rw[hul,hK']) hnews hcap (by omega) (growslice_fits hcap hbd)
   have hlen:(vs++us).length=(xs.length+ys.length)*k:=by rw[List.length_append,hvl,hul,Nat.add_mul]
   have hcells:cells.size=cap*k:=by
    simp only[cells,Array.size_append,List.size_toArray,size_zeroCells,hzs,hvl,hul,←Nat.add_mul];congr 1;omega
   have hpre:∀(q:Nat) (v:Value),(vs++us)[q]? =some v->cells[q]? =some v:=by
    intro q v hv;have hlt:=(List.getElem?_eq_some_iff.1 hv).1;have:cells.toList[q]? =some v:=by
     simp only[cells,Array.toList_append];rw[List.getElem?_append_left (by simpa using hlt)];exact hv
    simpa using this
   have hleft:=AS.rowNew (id:=id) (k:=k) (n:=xs.length+ys.length) (c:=cap) (vs:=vs++us) (t:=e) hw hid hk1 (C_.drew w (.cells cells e)) hge hcells hlen hpre;refine⟨_,_,_,hrun a w _ _ hrun2,?_,hleft⟩;have hap:=LE (G:=G) hvl hv2 hvk hu2 huk;have:=C5 (G:=(G.newImm w.heap.size (vs++us)).newHist id (xs.length+ys.length) (.slice (some ⟨w.heap.size,0,none⟩) (xs.length+ys.length) cap)) (t:=.row id) (k:=k) (b:=w.heap.size) (c:=cap) (zs:=xs++ys) (vs:=vs++us)
    (by rw[hlen];simp) (by simpa using hge) (λu hu=>by rcases List.mem_append.1 hu with h|h;exact hv1 u h;exact hu1 u h) hap.1 (λq u hu=>by simpa[Gh.newImm,Gh.newHist]using hu) (λi j x y u h1 h2 h3=>(hap.2 i j x y u h1 h2 h3).mono hleft.le) (by simp[HR,Gh.newHist])
   simpa using this
  split at h
  ·
   refine⟨_,[],[],[.row k (xs.length+ys.length)],λT _ hd G a w hw hr Kc Q hk=>?_,(λp hp=>by cases hp),(λi hi=>by simp at hi),h⟩;have hid:T[S.length]? =some .dead:=hd (S.length,.row k (xs.length+ys.length)) (by simp[BC]);obtain⟨⟨A,n,c',es,r1⟩,B,m,cx,ex,r2⟩:=hboth G a hr;obtain⟨vs,hn,hvc,hvl,hv1,hv2,hvk,hv3,htag⟩:=EE r1 hk1;have hm:m=ys.length:=(EE r2 hk1).choose_spec.1;subst hn hm;have htag':c'=xs.length:=htag;by_cases hy0:0<ys.length
   ·obtain⟨v',w',G',hrn,hrep,hleft⟩:=grown G a w T S.length A B c' cx hw es ex r1 r2 hy0 (by omega) (λhA=>by
     rcases Nat.eq_zero_or_pos xs.length with h|h
     ·omega
     ·obtain⟨_,_,e,_⟩:=hv3 h;rw[hA]at e;cases e) (.inl hid)
    refine .inl ?_;unfold Oper.wp;rw[hrn];exact hk v' w' G' hrep (by simpa[BC]using hleft)
   ·have hyn:ys=[]:=List.eq_nil_of_length_eq_zero (by omega);subst hyn;have hz:=D9 (P:=P) w t o.type e i ht hi A B xs.length c' cx hvc;have hrn:=hrun a w _ _ (by rw[es,ex];exact hz);refine .inl ?_;unfold Oper.wp;rw[hrn];subst htag';obtain⟨hleft,hh⟩:=AS.rowFull (id:=S.length) (k:=k) (n:=xs.length) (A:=A) hw hid hk1;refine hk _ w _ ?_ (by simpa[BC]using hleft);have:=(r1.mono hleft.le).retag (t':=.row S.length) hh;simpa using this
  ·
   rename_i j;obtain⟨hSj,hK⟩:=h;refine⟨_,[j],[(j,.row k (xs.length+ys.length))],[],λT hT _ G a w hw hr Kc Q hk=>?_,by simp,(λq hq=>by simp at hq;subst hq;exact(List.getElem?_eq_some_iff.1 hSj).1),hK⟩;have hTj:T[j]? =some (.row k xs.length):=(hT j (by simp)).trans hSj;have hlt:j<T.length:=(List.getElem?_eq_some_iff.1 hTj).1;obtain⟨⟨A,n,c',es,r1⟩,B,m,cx,ex,r2⟩:=hboth G a hr;obtain⟨vs,hn,hvc,hvl,hv1,hv2,hvk,hv3,htag⟩:=EE r1 hk1;obtain⟨us,hm,huc,hul,hu1,hu2,huk,hu3,_⟩:=EE r2 hk1;subst hn hm;have htag':G.hist j xs.length=some (.slice A xs.length c'):=htag;obtain⟨_,A',cap',q1,q2,q3,q4⟩:=hw.row j k _ hTj;rw[htag']at q1;injection q1 with q1;injection q1 with e1 _ e3;subst e1 e3;by_cases hy0:0<ys.length
   ·by_cases hroom:xs.length+ys.length≤c'
    ·obtain⟨b,cur,t0,e1,g2,g3,g4⟩:=q4 (by omega);subst e1;obtain⟨b2,o2,rfl,hu4⟩:=hu3 hy0;have hnews:∀j u,us[j]? =some u->w.cell? ((⟨b2,o2,none⟩:Addr).add j)=some u:=λj u hu=>by rw[A_];exact hw.imm _ _ _ (hu4 j u hu)
     have hfit:xs.length*k+us.length≤cur.size:=by rw[hul,g3,←Nat.add_mul];exact Nat.mul_le_mul_right _ hroom
     have hrn:=EV (P:=P) w t o.type e t0 i ht hi b xs.length c' cur g2 ⟨b2,o2,none⟩ ys.length cx us (by rw[hul,hK']) hnews hu1 hroom (by rw[hK'];exact hfit);rw[hK']at hrn;have hrn2:=hrun a w _ _ (by rw[es,ex];exact hrn);refine .inl ?_;unfold Oper.wp;rw[hrn2];have hcl:∀q,q<xs.length*k->cur[q]? =(cur.toList.take (xs.length*k)++us++cur.toList.drop (xs.length*k+us.length)).toArray[q]? :=λq hq=>by
      simp only[List.getElem?_toArray];rw[List.append_assoc,List.getElem?_append_left (by simp;omega),List.getElem?_take,if_pos hq];simp
     have hnw:∀(q:Nat) (v:Value),us[q]? =some v->(cur.toList.take (xs.length*k)++us++cur.toList.drop (xs.length*k+us.length)).toArray[xs.length*k+q]? =some v:=λq v hv=>by
      simp only[List.getElem?_toArray];have hq:=(List.getElem?_eq_some_iff.1 hv).1;have hq2:(List.take (xs.length*k) cur.toList).length=xs.length*k:=by simp;omega
      rw[List.append_assoc,List.getElem?_append_right (by omega),hq2,List.getElem?_append_left (by omega)];rw[show xs.length*k+q-xs.length*k=q by omega];exact hv
     have hleft:=AS.rowGrow (n':=xs.length+ys.length) (vs:=us) hw hTj htag' (by omega) hroom (CH (cs':=(cur.toList.take (xs.length*k)++us++cur.toList.drop (xs.length*k+us.length)).toArray) g2) (by simp;omega)
      (λq hq=>by rw[CQ g2];exact hcl q hq) (by rw[hul];congr 1;omega) hnw
     refine hk _ _ _ ?_ (by simpa[BC]using hleft);have hap:=LE (G:=G) hvl hv2 hvk hu2 huk;have hlen:(vs++us).length=(xs.length+ys.length)*k:=by rw[List.length_append,hvl,hul,Nat.add_mul]
     have:=C5 (G:=(G.moreImm b (xs.length*k) us).newHist j (xs.length+ys.length) (.slice (some ⟨b,0,none⟩) (xs.length+ys.length) c')) (t:=.row j) (k:=k) (b:=b) (c:=c') (zs:=xs++ys) (vs:=vs++us)
      (by rw[hlen];simp) (by simpa using hroom) (λu hu=>by rcases List.mem_append.1 hu with h|h;exact hv1 u h;exact hu1 u h) hap.1 (λq u hu=>by
        rw[List.getElem?_append]at hu;split at hu
        ·rename_i hq;have hx0:0<xs.length:=by
          rcases Nat.eq_zero_or_pos xs.length with h|h
          ·rw[hvl,h]at hq;omega
          ·exact h
         obtain⟨b1,o1,e1,hv4⟩:=hv3 hx0;injection e1 with e1;injection e1 with e1 e2;subst e1 e2;have:=hv4 q u hu;rw[Nat.zero_add]at this;simpa[Gh.newHist,Gh.moreImm,show¬xs.length*k≤q by omega]using this
        ·rename_i hq;simp only[Gh.newHist,Gh.moreImm];rw[if_pos ⟨trivial,by omega⟩,←hvl];exact hu) (λi j x y u h1 h2 h3=>(hap.2 i j x y u h1 h2 h3).mono hleft.le) (by simp[HR,Gh.newHist])
     simpa using this
    ·obtain⟨v',w',G',hrn,hrep,hleft⟩:=grown G a w T j A B c' cx hw es ex r1 r2 hy0 (by omega) (λhA=>by
      rcases Nat.lt_or_ge xs.length c' with h|h
      ·obtain⟨b,_,_,e,_⟩:=q4 h;rw[hA]at e;cases e
      ·rcases Nat.eq_zero_or_pos xs.length with h'|h'
       ·omega
       ·obtain⟨_,_,e,_⟩:=hv3 h';rw[hA]at e;cases e) (.inr ⟨_,by omega,hTj⟩)
     refine .inl ?_;unfold Oper.wp;rw[hrn];exact hk v' w' G' hrep (by simpa[BC]using hleft)
   ·have hyn:ys=[]:=List.eq_nil_of_length_eq_zero (by omega);subst hyn;have hz:=D9 (P:=P) w t o.type e i ht hi A B xs.length c' cx hvc;have hrn:=hrun a w _ _ (by rw[es,ex];exact hz);refine .inl ?_;unfold Oper.wp;rw[hrn];refine hk _ w G (by simpa using r1) ?_;have:T.set j (.row k xs.length)=T:=by
     apply List.ext_getElem?;intro q;by_cases e:q=j
     ·subst e;rw[List.getElem?_set_self hlt,hTj]
     ·rw[List.getElem?_set_ne (Ne.symm e)]
    simpa[BC,this]using AS.refl hw
  ·exact h.elim
 ·exact h.elim
def pE {src dst e:TypeId} {x:Operand} (hop:o.op=.convert src dst x) (hs:P.underlying src=some .string) (hd:P.underlying dst=some (.slice e)) (he:P.underlying e=some (.int .u8)) (h:W6 (ρ x) K):F_ P o ρ S K:=by
 unfold W6 at h;split at h
 ·rename_i s hx;have⟨_,hK⟩:=h;refine⟨_,[],[],[],λT _ _ G a w hw hr Kc Q hk=>?_,(λp hp=>by cases hp),(λi hi=>by simp at hi),hK⟩;have r:=hr x (by simp[hop,Op.operands]);rw[hx]at r;have ex:=AY r;have hrun:=run_bytes_of_string (P:=P) w src dst e s hs hd he;have hrn:(execOp a.eval o).run P w=.ok (.value (.slice (some ⟨w.heap.size,0,none⟩) s.size (grownCap w s.size 0 e)))
   (w.drew.alloc (.cells (bytesRow s (grownCap w s.size 0 e)) e ((bytesRow s (grownCap w s.size 0 e)).size,(bytesRow s (grownCap w s.size 0 e)).size+1))):=by
   simp only[execOp,hop,ex,Sem.run_bind,hrun,Result.andThen_ok,Sem.run_pure]
  refine .inl ?_;unfold Oper.wp;rw[hrn]
  let vs:List Value:=s.data.toList.map λb=>.int .u8 b.toNat
  have hpre:∀(i:Nat) (v:Value),vs[i]? =some v->(bytesRow s (grownCap w s.size 0 e))[i]? =some v:=by
   intro i v hv;have hlt:=(Ge hv);simp only[bytesRow];rw[Array.getElem?_append_left (by simpa[vs]using hlt)];simpa[vs]using hv
  have hleft:=AS.still_ (vs:=vs) hw (C_.drew w (.cells (bytesRow s (grownCap w s.size 0 e)) e ((bytesRow s (grownCap w s.size 0 e)).size,(bytesRow s (grownCap w s.size 0 e)).size+1))) hpre;refine hk _ _ _ ?_ (by simpa[BC]using hleft);have hl:(s.data.toList.map λb=>AV.lit (.int .u8 b.toNat)).length=s.size:=by simp
  have:=C5 (G:=G.newImm w.heap.size vs) (t:=.none) (k:=1) (b:=w.heap.size) (c:=grownCap w s.size 0 e) (zs:=s.data.toList.map λb=>AV.lit (.int .u8 b.toNat)) (vs:=vs) (by simp[vs]) (by rw[hl];exact grownCap_ge w _ 0 e)
   (λu hu=>by simp only[vs,mem_map]at hu;obtain⟨b,_,rfl⟩:=hu;rfl) (λi x hx=>by obtain⟨b,_,rfl⟩:=A6 hx;rfl) (λq u hu=>by simpa[Gh.newImm]using hu)
   (λi j x y u h1 h2 h3=>by
     obtain⟨b,hb,rfl⟩:=A6 h1;cases j with
     |zero=>
      simp[AV.cells]at h2;subst h2;simp[vs]at h3;have hb':s.data[i]? =some b:=Sx hb
      rw[hb']at h3;simp at h3;subst h3;exact .lit _
     |succ j=>simp[AV.cells]at h2) trivial
  rwa[hl]at this
 ·exact h.elim
def gZ {t e:TypeId} {l c:Operand} {i:TypeInfo} {zs:List Value} (hop:o.op=.makeSlice t l c) (ht:P.underlying t=some (.slice e)) (hi:P.info? e=some i) (hz:EN P e=some zs) (hzl:zs.length=i.size) (hk1:1≤i.size)
 (h:Ln i.size i.bytes (ρ l) (ρ c) S.length K):F_ P o ρ S K:=by
 unfold Ln at h;split at h
 ·rename_i l' c' hl hc;have⟨⟨hl0,hlc⟩,h0,hbd,h63,hK⟩:=h;have⟨it,z,E9,hz0,hzc,ho⟩:=C2 hz;rw[hi]at E9;injection E9 with E9;subst E9;refine⟨_,[],[],[.row i.size l'.toNat],λT _ hd G a w hw hr Kc Q hk=>?_,(λp hp=>by cases hp),(λi hi=>by simp at hi),hK⟩;have hid:T[S.length]? =some .dead:=hd (S.length,.row i.size l'.toNat) (by simp[BC]);have rl:=hr l (by simp[hop,Op.operands]);have rc:=hr c (by simp[hop,Op.operands]);rw[hl]at rl;rw[hc]at rc;have hwc:IntKind.i64.wrap c'=c':=i64_in _ Om;have hw0:IntKind.i64.wrap l'=l':=i64_in _ Om;have hzs:z.cells.size=i.size:=by rw[←hzl,hzc];simp
  have hcm:(i.bytes:Int)*c'≤140737488355328:=by rw[Int.mul_comm];exact hbd
  have h1:¬(281474976710656<(i.bytes:Int)*c'):=Om
  have h2:¬c'<0:=Om
  have h3:¬l'<0:=Om
  have h4:¬l'>c':=Om
  let cells:Array Value:=(Array.range (c'.toNat*i.size)).map (z.cells[· %z.cells.size]!)
  have hrn:(execOp a.eval o).run P w=.ok (.value (.slice (some ⟨w.heap.size,0,none⟩) l'.toNat c'.toNat)) (w.alloc (.cells cells e)):=by
   have hsz:=B1 (P:=P) (t:=e) (n:=i.size) (by simp[FP,hi]);by_cases hn:c'.toNat*i.size=0
   ·have hcell:cells=#[]:=by simp[cells,hn]
    simp[execOp,hop,Instr.makeSlice,AY rl,AY rc,run_underlying ht,asInt,asIntOf,typeInfo,hi,hwc,hw0,h1,h2,h3,h4,hlc,hsz,hn,newRow,hcell];have:Array.map (λ_:Nat=>(default:Value)) (Array.range 0)=#[]:=by apply Array.ext<;>simp
    rw[this]
   ·simp[execOp,hop,Instr.makeSlice,AY rl,AY rc,run_underlying ht,asInt,asIntOf,typeInfo,hi,hwc,hw0,h1,h2,h3,h4,hlc,hsz,hn,newRow,zeroValue,hz0,cells]
  refine .inl ?_;unfold Oper.wp;rw[hrn];have hcs:cells.size=c'.toNat*i.size:=by simp[cells]
  have hle:l'.toNat*i.size≤c'.toNat*i.size:=Nat.mul_le_mul_right _ Om
  let vs:List Value:=cells.toList.take (l'.toNat*i.size)
  have hvl:vs.length=l'.toNat*i.size:=by simp only[vs,length_take,Array.length_toList,hcs];omega
  have hvc:∀(q:Nat) (v:Value),vs[q]? =some v->cells[q]? =some v:=λq v hv=>by
   simp only[vs,getElem?_take]at hv;split at hv
   ·simpa using hv
   ·cases hv
  have hone:∀u∈vs,u.oneCell'=true:=λu hu=>by
   have h5:=mem_of_mem_take hu;simp only[cells,Array.toList_map,mem_map]at h5;obtain⟨q,hq,rfl⟩:=h5;have hq':q%z.cells.size<z.cells.size:=Nat.mod_lt _ Om;have h6:z.cells[q%z.cells.size]! =z.cells[q%z.cells.size]:=by simp[hq']
   rw[h6];exact ho _ (by rw[hzc];exact Array.getElem_mem_toList hq')
  have hleft:=AS.rowNew (id:=S.length) (k:=i.size) (n:=l'.toNat) (c:=c'.toNat) (vs:=vs) (t:=e) hw (.inl hid) hk1 (C_.alloc w (.cells cells e)) Om hcs hvl hvc;refine hk _ _ _ ?_ (by simpa[BC]using hleft);have:=C5 (G:=(G.newImm w.heap.size vs).newHist S.length l'.toNat (.slice (some ⟨w.heap.size,0,none⟩) l'.toNat c'.toNat)) (t:=.row S.length) (k:=i.size) (b:=w.heap.size) (c:=c'.toNat) (zs:=List.replicate l'.toNat (N_ i.size)) (vs:=vs) (by rw[hvl,length_replicate]) (by rw[length_replicate];omega) hone (λq x hx=>by
   have h7:=mem_of_getElem? hx;rw[mem_replicate]at h7;rw[h7.2,N9,length_replicate]) (λq u hu=>by simpa[Gh.newHist,Gh.newImm]using hu) (λq j x y u hx hy hu=>by
   have h7:=mem_of_getElem? hx;rw[mem_replicate]at h7;rw[h7.2,N9]at hy;have h8:=mem_of_getElem? hy;rw[mem_replicate]at h8;rw[h8.2];exact .any _) (by simp[HR,Gh.newHist])
  simpa using this
 ·exact h.elim
def iE {c:Call} {f:Operand} (hop:o.op=.call c) (hcal:c.callee=.value f) (h:Nn P (ρ f) (c.args.toList.map ρ) S K):F_ P o ρ S K:=by
 unfold Nn at h;split at h
 ·rename_i g first cap hf
  have⟨v,rd,upd,new,he,hu,hrl,hK⟩:=h;refine⟨v,rd,upd,new,λT hT hd G a w hw hr Kc Q hk=>?_,hu,hrl,hK⟩;have⟨⟨fn,hfn,hbody,hname⟩,hdoes⟩:=he T hT hu hd;have rf:=hr f (by simp[hop,Op.operands,Call.operands,hcal]);rw[hf]at rf;generalize ef:a.eval f=vf at rf;cases rf with
  | @fn _ _ _ fv cv q1 q2 q3 q4=>
    have hrn:(execOp a.eval o).run P w=.ok (.enter g (fv++c.args.map a.eval++cv)) w:=by
     have hb':¬fn.body.isNone=true:=by simp[hbody]
     have hname':¬fn.name= "runtime.NumGoroutine":=Sx hname
     simp[execOp,hop,resolve,hcal,ef,Deferred.ofValue,invoke,callFunc,hfn,hname'];cases hbd:fn.body with
     |none=>simp[hbd]at hbody
     |some _=>simp
    refine .inl ?_;unfold Oper.wp;rw[hrn];refine(hdoes G w _ hw ?_).mono ?_
    ·simp only[Array.toList_append,Array.toList_map];refine BT.append (BT.append ⟨by simpa using q1,λj x v hx hv=>q3 j x v hx (by simpa using hv)⟩ ⟨Si,λj x v hx hv=>?_⟩) ⟨by simpa using q2,λj x v hx hv=>q4 j x v hx (by simpa using hv)⟩;obtain⟨y,hy,rfl⟩:=A6 hx;obtain⟨y',hy',rfl⟩:=A6 hv;rw[hy]at hy';injection hy' with e;subst e;exact hr y (by simp[hop,Op.operands,Call.operands,hcal];right;exact Array.mem_of_getElem? (by simpa using hy))
    ·rintro e w' ⟨v',G',rfl,hv',hleft⟩;exact hk v' w' G' hv' hleft
 ·rename_i q hf;have⟨go,S',hy,hl,h0,hK⟩:=h;refine⟨_,_,_,[],λT hT hd G a w hw hr Kc Q hk=>?_,λp hp=>(of_mem_zip hp).1,λi hi=>by simpa using hi,hK⟩;have hTl:S.length≤T.length:=by
   have:=hT (S.length-1) (by simp;omega);have h1:S[S.length-1]? =some (S[S.length-1]'Om):=by simp
   rw[h1]at this;have:=(Ge this);omega
  have hTe:T=S++T.drop S.length:=by
   apply ext_getElem?;intro i;by_cases hi:i<S.length
   ·rw[getElem?_append_left hi,hT i (by simpa using hi)]
   ·rw[getElem?_append_right Om,getElem?_drop];congr 1;omega
  generalize hR:T.drop S.length=R at hTe;subst hTe;have rf:=hr f (by simp[hop,Op.operands,Call.operands,hcal]);rw[hf]at rf;generalize ef:a.eval f=vf at rf;cases rf with
  | @yv _ l hql=>
    have⟨fn,tmps,as,body,h1,h2⟩:=hy R G w l (c.args.map a.eval) hw hql ⟨Si,λj x v hx hv=>by
     obtain⟨y,hy,rfl⟩:=A6 hx;simp only[Array.toList_map]at hv;obtain⟨y',hy',rfl⟩:=A6 hv;rw[hy]at hy';injection hy' with e;subst e;exact hr y (by simp[hop,Op.operands,Call.operands,hcal];right;exact Array.mem_of_getElem? (by simpa using hy))⟩
    refine .inr ⟨l,fn,tmps,as,body,?_,h2.mono ?_⟩
    ·simp[execOp,hop,resolve,hcal,ef,Deferred.ofValue,invoke,h1]
    ·rintro e w' ⟨G',rfl,hleft⟩;refine⟨_,rfl,hk _ w' G' (.lit _) ?_⟩;have e0:Cv (S++R) ((List.range S.length).zip S'++BC S.length [])=S'++R:=by
      have hz:((List.range S.length).zip S').map (·.1)=List.range S.length:=by rw[map_fst_zip];simp[hl]
      apply ext_getElem?;intro i;simp only[BC,append_nil];by_cases hi:i<S.length
      ·rw[Qp _ _ (by rw[hz];exact nodup_range) i (S'[i]'Om) ?_ (by simp;omega),getElem?_append_left Om]
       ·simp
       ·refine mem_of_getElem? (i:=i) ?_;rw[getElem?_zip_eq_some];exact⟨by simp[hi],Si⟩
      ·rw[Dv _ _ _ (by rw[hz];simpa using hi),getElem?_append_right Om,getElem?_append_right Om,hl]
     rw[e0];exact hleft
 ·exact h.elim
theorem Sk {S S':List Ac} (hl:S'.length=S.length):Cv S ((List.range S.length).zip S')++[]=S':=by
 have hz:((List.range S.length).zip S').map (·.1)=List.range S.length:=by rw[map_fst_zip];simp[hl]
 rw[append_nil];apply ext_getElem?;intro i;by_cases hi:i<S.length
 ·rw[Qp _ _ (by rw[hz];exact nodup_range) i (S'[i]'Om) ?_ Om]
  ·simp
  ·refine mem_of_getElem? (i:=i) ?_;rw[getElem?_zip_eq_some];exact⟨by simp[hi],Si⟩
 ·rw[Dv _ _ _ (by rw[hz];simpa using hi),getElem?_eq_none Om,getElem?_eq_none Om]
def Jd:List (Int×Int)->Int->Option Nat
 |[],_=>none
 |p::l,a=>if a==p.1 then some 0 else(Jd l a).map (· +1)
def Kk (a:Int):∀(l:List (Int×Int)) (n j:Nat),Instr.findNow (.int .u32) (.int .u32 a) (GU n l) j=some ((Jd l a).map λi=>(j+i,.int .i64 (Gc l a)))
 |[],n,j=>rfl
 |p::l,n,j=>by
  have ih:=Kk a l (n+1) (j+1);simp only[GU,Instr.findNow,Instr.sameNow,if_true,Jd,Gc];cases h:a==p.1 with
  |true=>simp
  |false=>
   simp only[ih,Bool.false_eq_true,if_false,Option.map_map];congr 2;funext i;simp only[Function.comp];congr 1;omega
theorem PI {a:Int}:∀{l:List (Int×Int)},Jd l a=none->Gc l a=0
 |[],_=>rfl
 |p::l,h=>by
  simp only[Jd]at h;split at h
  ·cases h
  ·rename_i hn;rw[Gc,if_neg hn];exact PI (by cases hl:Jd l a<;>simp_all)
theorem PF {a v:Int}:∀{l:List (Int×Int)} (n:Nat),Jd l a=none->GU n (HW l a v)=GU n l++[{key:=.int .u32 a,val:=.int .i64 v,born:=n+l.length}]∧(HW l a v).length=l.length+1
 |[],n,_=>by simp[HW,GU]
 |p::l,n,h=>by
  simp only[Jd]at h;split at h
  ·cases h
  ·rename_i hn;obtain⟨h1,h2⟩:=PF (l:=l) (v:=v) (n+1) (by cases hl:Jd l a<;>simp_all);rw[HW,if_neg hn];refine⟨?_,by simp[h2]⟩;simp only[GU,h1,List.cons_append,List.length_cons];rw[show n+1+l.length=n+(l.length+1) by omega]
def PE {a v:Int}:∀{l:List (Int×Int)} {i:Nat} (n:Nat),Jd l a=some i->(GU n l).modify i (λe=>{e with key:=.int .u32 a,val:=.int .i64 v})=GU n (HW l a v)∧(HW l a v).length=l.length∧∃e,(GU n l)[i]? =some e∧e.key=.int .u32 a
 |[],i,n,h=>by simp[Jd]at h
 |p::l,i,n,h=>by
  simp only[Jd]at h;split at h
  ·rename_i hp;injection h with h;subst h;rw[HW,if_pos hp];have hp':a=p.1:=Sx hp
   exact⟨by simp[GU],Si,{key:=.int .u32 p.1,val:=.int .i64 p.2,born:=n},by simp[GU],by simp[hp']⟩
  ·rename_i hn;cases hl:Jd l a with
   |none=>simp[hl]at h
   |some k=>
    simp[hl]at h;subst h;have⟨h1,h2,e,h3,h4⟩:=PE (v:=v) (n+1) hl;rw[HW,if_neg hn];exact⟨by simp[GU,h1],by simp[h2],e,by simpa[GU]using h3,h4⟩
def ZX {t:TypeId} (hop:o.op=.makeMap t none) (h:K (.mapr S.length) [] [] [.raw (.imap []) []]):F_ P o ρ S K:=by
 refine⟨_,[],[],_,λT _ hd G a w hw hr K Q hk=>?_,(λp hp=>by cases hp),(λi hi=>by simp at hi),h⟩;have hrun:(execOp a.eval o).run P w=.ok (.value (.map (some w.heap.size))) (w.alloc (.map #[] 0)):=by
  simp[execOp,hop,Instr.makeMap]
 refine .inl ?_;unfold Oper.wp;rw[hrun];have hid:T[S.length]? =some .dead:=hd (S.length,.raw (.imap []) []) (by simp[BC]);have:=AS.rawNew (o:=.imap []) hw hid (BT.nil G) (C_.alloc w _);refine hk _ _ _ ?_ (by simpa[BC,Fp.obj,GU]using this);exact .mapr (by simp[Gh.newLoc])
theorem GM {kt:TypeId} {k:IntKind} (hk:P.underlying kt=some (.int k)) (b:Bool) (v:Value) (w:World):(Instr.checkKey b 10000 kt v).run P w=.ok () w:=by
 have:∀d,(Instr.checkKey b (d+1) kt v).run P w=.ok () w:=λd=>by simp[Instr.checkKey,run_underlying hk]
 exact this 9999
theorem HN {kt:TypeId} (hk:P.underlying kt=some (.int .u32)) (a:Int) (l:List (Int×Int)) (w:World):(Instr.findKey kt (.int .u32 a) (GU 0 l)).run P w=.ok ((Jd l a).map λi=>(i,.int .i64 (Gc l a))) w:=by
 have:=Kk a l 0 0;simp only[Nat.zero_add]at this;simp[Instr.findKey,run_underlying hk,this]
theorem HM {b:Nat} {es:Array MapEntry} {c:Nat} {w:World} (h:w.heap[b]? =some (.map es c)):(getObj b).run P w=.ok (.map es c) w:=by simp[getObj,Sem.run,h]
theorem HL {b:Nat} {es:Array MapEntry} {c:Nat} (o':Obj) {w:World} (h:w.heap[b]? =some (.map es c)):(setObj b o').run P w=.ok () {w with heap:=w.heap.setIfInBounds b o'}:=by simp[setObj,Sem.run,h]
def Lc {w:World} {b:Nat} {o:Obj} (o':Obj) (h:w.heap[b]? =some o):KA w {w with heap:=w.heap.setIfInBounds b o'} b o':=
 ⟨rfl,rfl,rfl,Si,λi hi=>by simp[Array.getElem?_setIfInBounds_ne (Ne.symm hi)],by simp[(Array.getElem?_eq_some_iff.1 h).1]⟩
def ZW {t kt e:TypeId} {x k:Operand} (hop:o.op=.lookup t x k false) (ht:P.underlying t=some (.map kt e)) (hk:P.underlying kt=some (.int .u32)) (he:(P.info? e).bind (·.zero)=some (.int .i64 0)) (h:KU (ρ x) (ρ k) S K):F_ P o ρ S K:=by
 unfold KU at h;split at h
 ·rename_i i a hx hkey;split at h
  ·rename_i l xs hS;refine H4 (i:=i) (λG ac w T hT hw hr=>⟨.int .i64 (Gc l a),?_,.lit _⟩) (Ge hS) h;have⟨b,vs,h1,h2,_⟩:=hw.raw i (.imap l) xs (hT.trans hS);have rx:=hr x (by simp[hop,Op.operands]);have rk:=hr k (by simp[hop,Op.operands]);rw[hx]at rx;rw[hkey]at rk;have ek:=AY rk;generalize ex:ac.eval x=vx at rx;cases rx with
   | @mapr _ b' hb'=>
     rw[h1]at hb';injection hb' with hb';subst hb';have h2':w.heap[b]? =some (.map (GU 0 l).toArray l.length):=h2;have hz:(zeroValue e).run P w=.ok (.int .i64 0) w:=by
      cases hi:P.info? e with
      |none=>simp[hi]at he
      |some ii=>simp[hi]at he;simp[zeroValue,typeInfo,hi,he]
     simp only[execOp,hop,ex,ek,Instr.lookup,Sem.run_bind,run_underlying ht,Result.andThen,Sem.run_pure,HM h2',GM hk,HN hk];cases hl:Jd l a with
     |none=>simp[hz,PI hl,Result.andThen]
     |some j=>simp[Result.andThen]
  ·exact h.elim
 ·exact h.elim
def gY {t kt e:TypeId} {x k y:Operand} (hop:o.op=.mapUpdate t x k y) (ht:P.underlying t=some (.map kt e)) (hk:P.underlying kt=some (.int .u32)) (h:PN (ρ x) (ρ k) (ρ y) S K):F_ P o ρ S K:=by
 unfold PN at h;split at h
 ·rename_i i a u hx hkey hy;split at h
  ·rename_i l xs hS;refine⟨_,[i],[(i,_)],[],λT hT _ G ac w hw hr Kc Q hk'=>?_,Si,(λj hj=>by simp at hj;subst hj;exact(Ge hS)),h⟩;have hTi:T[i]? =some (.raw (.imap l) xs):=(hT i Si).trans hS;have⟨b,vs,h1,h2,_⟩:=hw.raw i (.imap l) xs hTi;have rx:=hr x (by simp[hop,Op.operands]);have rk:=hr k (by simp[hop,Op.operands]);have ry:=hr y (by simp[hop,Op.operands]);rw[hx]at rx;rw[hkey]at rk;rw[hy]at ry;have ek:=AY rk;have ey:=AY ry;generalize ex:ac.eval x=vx at rx;cases rx with
   | @mapr _ b' hb'=>
     rw[h1]at hb';injection hb' with hb';subst hb';have h2':w.heap[b]? =some (.map (GU 0 l).toArray l.length):=h2;have hrun:(execOp ac.eval o).run P w=.ok .skip {w with heap:=w.heap.setIfInBounds b ((Fp.imap (HW l a u)).obj [])}:=by
      simp only[execOp,hop,ex,ek,ey,Instr.mapUpdate,Sem.run_bind,run_underlying ht,Result.andThen,Sem.run_pure,HM h2',GM hk,HN hk];cases hl:Jd l a with
      |none=>
       have⟨g1,g2⟩:=PF (v:=u) 0 hl;simp only[Nat.zero_add]at g1;simp[HL _ h2',Result.andThen,Fp.obj,g1,g2]
      |some j=>
       have⟨g1,g2,en,g3,g4⟩:=PE (v:=u) 0 hl;have g5:(GU 0 l).toArray[j]? =some en:=Sx g3
       simp[HL _ h2',Result.andThen,Fp.obj,g2,g5,g4,Instr.keyThatStays,Instr.sameBits,←g1]
     refine .inl ?_;unfold Oper.wp;rw[hrun];have:=AS.rawTo (o':=.imap (HW l a u)) (vs':=[]) hw hTi h1 (Lc _ h2) (BT.nil G);exact hk' undef _ _ (.any _) (by simpa[BC]using this)
  ·exact h.elim
 ·exact h.elim
def YA {op:BinOp} {t t':TypeId} {x y:Operand} {neg:Bool} {d1 d2 d3} (hop:o.op=.binOp op t x y t') (ht:P.underlying t=some (.func d1 d2 d3)) (hn:op=if neg then .neq else .eql) (h:T4 neg (ρ x) (ρ y) K):F_ P o ρ S K:=by
 have heq1:∀(g:Fn) (u v:Array Value) (w:World),(Op.equal t (.func g u v) .nilFunc).run P w=.ok false w:=by
  intro g u v w;have:∀d,(Op.equalIn (d+1) t (.func g u v) .nilFunc).run P w=.ok false w:=λd=>by simp[Op.equalIn,run_underlying ht]
  exact this 9999
 have heq2:∀(w:World),(Op.equal t .nilFunc .nilFunc).run P w=.ok true w:=by
  intro w;have:∀d,(Op.equalIn (d+1) t .nilFunc .nilFunc).run P w=.ok true w:=λd=>by simp[Op.equalIn,run_underlying ht]
  exact this 9999
 unfold T4 at h;split at h
 ·rename_i f fs cs hx hy;refine AN (λG a w T _ hr=>⟨_,?_,.lit _⟩) h;have rx:=hr x (by simp[hop,Op.operands]);have ry:=hr y (by simp[hop,Op.operands]);rw[hx]at rx;rw[hy]at ry;have e2:=AY ry;generalize e1:a.eval x=vx at rx;cases rx;cases neg<;>simp at hn<;>subst hn<;>simp[execOp,hop,e1,e2,eqGuard,binOp,heq1]
 ·rename_i hx hy;refine AN (λG a w T _ hr=>⟨_,?_,.lit _⟩) h;have rx:=hr x (by simp[hop,Op.operands]);have ry:=hr y (by simp[hop,Op.operands]);rw[hx]at rx;rw[hy]at ry;have e1:=AY rx;have e2:=AY ry;cases neg<;>simp at hn<;>subst hn<;>simp[execOp,hop,e1,e2,eqGuard,binOp,heq2]
 ·exact h.elim
end
end Go.Proofs.YtaajkppmibfgfaaGreat
