/- Lemmas for TopLooks, part 0. -/
import Derived.ProofKit
import Derived.OpenShut
import Derived.Lib.Hide
import Derived.WalkKit
import Derived.WalkSpells
import Derived.WalkLawsBesides
import Derived.Laws.IdiomStrings
import Derived.RangeFuncLeaves
import Derived.RangeFuncOwn
import Derived.OrdersIn
import Derived.Laws.BitsAllLaws
set_option linter.all false
namespace Go.Proofs.YtileggkdbaejoaaGreat
open Go.RowKit
section
open Go.RowKit Go.ChangeShapes Go.WideShapes Go.ChangeAt
theorem Fj (l:List Int) (k:Nat) (h:k<l.length):l.take (k+1)=l.take k++[l.getD k 0]:=by
 rw[List.take_succ_eq_append_getElem h];simp[h]
theorem CG (l:List Int) (k:Nat) (h:k<l.length):l.getD k 0∈l:=by
 simp[h]
def RdI (k:IntKind) (w:World) (F:Nat->Prop) (v:Value) (l:List Int):Prop:=
 ∃A c,v=.slice A l.length c∧l.length≤c∧c≤maxLen∧
  (0<l.length->∃b o,A=some ⟨b,o,none⟩∧F b∧∀i,i<l.length->w.cell? ⟨b,o+i,none⟩=some (.int k (l.getD i 0)))
def Fi (l:List Int):Prop:=∀x∈l,0≤x∧x<18446744073709551616
def AY (l:List Int):Prop:=∀x∈l,0≤x∧x<256
section
variable {H:Type} {enc:TypeId×Value->H} {P:Program}
theorem Acg (hlaid:laidOutB P=true) {W W':World} (hb:Below W.heap.size W W'):∀(ts:List TypeId) (vs:List Value) (ds:List (DataW H)) (ps:List MemPlace),
 ts.all (λt=>P.readableRec t&&decide (t<P.types.size))=true->
 DataW.TrodAll enc P W 0 (λ_=>true) true ts vs ds ps->(∀x∈ps,x.block<W.heap.size)->
 DataW.TrodAll enc P W' 0 (λb=>decide (b<W.heap.size)) true ts vs ds ps:=by
 intro ts
 induction ts with
 |nil=>intro vs ds ps _ h _;cases vs<;>cases ds<;>first|exact h|exact h.elim
 |cons t ts ih=>
  intro vs ds ps hr h hlt
  obtain⟨v,vs',d,ds',p,q,rfl,rfl,rfl,h0,h1⟩:=trodAll_cons h
  simp only[List.all_cons,Bool.and_eq_true,decide_eq_true_eq]at hr
  exact⟨p,q,Below.trod hlaid hr.1.1 hr.1.2 h0 hb (λx hx=>hlt x (List.mem_append_left _ hx)),
   ih vs' ds' q hr.2 h1 (λx hx=>hlt x (List.mem_append_right _ hx)),rfl⟩
theorem Afh (hlaid:laidOutB P=true) {fn:Func} {s:ChangeSpec} {W W':World} {args:Array Value} {ds gs:List (DataW H)} {before:List MemPlace}
 (hW:DataW.Whole enc P fn.params.toList s.vars false W args.toList ds gs before) (hv:s.vars=[])
 (hr:fn.params.toList.all (λt=>P.readableRec t&&decide (t<P.types.size))=true)
 (tb:TypeId) (ht:P.underlying tb=some .bool) (hres:fn.resultTypes=#[tb])
 (hfn:s.fn H (ds++gs)={results:=[.lit (.bool true)],args:=ds}) (hb:Below W.heap.size W W'):
 s.post enc P fn false true false false W args (.bool true) W':=by
 have hW0:=hW
 obtain⟨p,q,hA,hV,rfl,hfz,hnd⟩:=hW0
 rw[hv]at hV
 obtain⟨rfl,rfl⟩:=trodVars_none hV
 refine⟨ds,[],p++[],[],p,[],hW,?_,?_,?_,hb.frame _,λh=>by cases h⟩
 ·rw[hfn,hres];exact trodAll_mk1 (shut_bool ht _)
 ·rw[hfn];exact Acg hlaid hb _ _ _ _ hr hA (λx hx=>by simpa using hW.lt x (List.mem_append_left _ hx))
 ·rw[hfn,hv];rfl
theorem Am4 {x:Int} (h:(Lit.int .u64 x).wf=true):0≤x∧x<18446744073709551616:=by
 simp[Lit.wf,IntKind.min,IntKind.max,IntKind.signed,IntKind.bits]at h
 omega
theorem Ap7 {x:Int} (h:(Lit.int .u8 x).wf=true):0≤x∧x<256:=by
 simp[Lit.wf,IntKind.min,IntKind.max,IntKind.signed,IntKind.bits]at h
 omega
theorem Aok {l:List Int} (h:∀n∈l,(Lit.int .u8 n).wf=true):AY l:=λx hx=>Ap7 (h x hx)
theorem YF {a:Addr} {n:Nat} {w:World} {u:Value} (h:w.cell? (a.add n)=some u) (h0:a.spot=none):w.cell? ⟨a.block,a.off+n,none⟩=some u:=by
 cases n with
 |zero=>simpa[Addr.add,←h0]using h
 |succ n=>simpa[Addr.add]using h
theorem Ze {a:Addr} {w:World} {u:Value} (h:w.cell? a=some u):a.spot=none:=by
 unfold World.cell? at h
 split at h
 ·split at h
  ·cases h
  ·rename_i hs;cases hsp:a.spot with
   |none=>rfl
   |some _=>rw[hsp]at hs;simp at hs
 ·cases h
theorem Ajw {W:World} {r:Reach} {b0:Nat} {t e:TypeId} {k:IntKind} {v:Value} {d:DataW H} {ps:List MemPlace}
 (ht:P.underlying t=some (.slice e)) (he:P.underlying e=some (.int k)) (hc:P.cellsOf e=1)
 (hval:Value.okWide P W r b0 t v) (hd:DataW.Trod enc P W 0 (λ_=>true) true t v d ps):
 ∃l:List Int,RdI k W (· <W.heap.size) v l∧(∀n∈l,(Lit.int k n).wf=true):=by
 obtain⟨a0,len,cap,rfl⟩:=okWide_slice ht hval
 obtain⟨fuel,hf⟩:=hd
 rcases open_ints ht he hc hf with⟨hcs,hx⟩|⟨a,len',cap',zs,hcs,_,hl,hm,hz,hx,hcell,hwz⟩
 ·simp[Value.cells]at hcs
  obtain⟨rfl,rfl,rfl⟩:=hcs
  exact⟨[],⟨none,0,rfl,Nat.le_refl _,Nat.zero_le _,λh=>by simp at h⟩,λn hn=>by simp at hn⟩
 ·simp[Value.cells]at hcs
  obtain⟨rfl,rfl,rfl⟩:=hcs
  simp only[if_true]at hz
  have hlen:(zs.take len).length=len:=by simp;omega
  refine⟨zs.take len,⟨some a,cap,by rw[hlen],by rw[hlen];exact hl,hm,λh0=>?_⟩,λn hn=>hwz n (List.mem_of_mem_take hn)⟩
  rw[hlen]at h0
  have h00:=hcell 0 (by omega)
  have hs:a.spot=none:=by have:=Ze h00;simpa[Addr.add]using this
  refine⟨a.block,a.off,by cases a;simp_all,World.block_lt_of_cell? W ⟨a.block,a.off,none⟩ (by have:=YF h00 hs;simpa using this),λi hi=>?_⟩
  rw[hlen]at hi
  have e:(zs.take len).getD i 0=zs.getD i 0:=by simp[List.getElem?_take,hi]
  rw[e]
  exact YF (hcell i (by omega)) hs
end
end
structure C7 (K:Nat->Prop) (w w':World):Prop where
 os:w'.os=w.os
 tape:w'.tape=w.tape
 output:w'.output=w.output
 size:w.heap.size≤w'.heap.size
 block:∀i,i<w.heap.size->K i->w'.heap[i]? =w.heap[i]?
abbrev Ext (w w':World):Prop:=C7 (λ_=>True) w w'
section
variable {K K':Nat->Prop} {w w' w'':World}
theorem C7.refl (K:Nat->Prop) (w:World):C7 K w w:=⟨rfl,rfl,rfl,Nat.le_refl _,λ_ _ _=>rfl⟩
theorem C7.trans (h:C7 K w w') (h':C7 K w' w''):C7 K w w'':=
 ⟨h'.os.trans h.os,h'.tape.trans h.tape,h'.output.trans h.output,Nat.le_trans h.size h'.size,λi hi hk=>(h'.block i (Nat.lt_of_lt_of_le hi h.size) hk).trans (h.block i hi hk)⟩
theorem C7.mono (h:C7 K w w') (hK:∀i,i<w.heap.size->K' i->K i):C7 K' w w':=⟨h.os,h.tape,h.output,h.size,λi hi hk=>h.block i hi (hK i hi hk)⟩
theorem C7.any (h:C7 (λ_=>True) w w'):C7 K w w':=h.mono λ_ _ _=>trivial
theorem Below.ext (h:Below w.heap.size w w'):Ext w w':=⟨h.os,h.tape,h.output,h.size,λi hi _=>h.block i hi⟩
theorem C7.below {B:Nat} (h:C7 K w w') (hB:∀i,i<B->K i) (hs:B≤w.heap.size):Below B w w':=⟨h.os,h.tape,h.output,h.size,λi hi=>h.block i (by omega) (hB i hi)⟩
theorem C7.alloc (h:C7 K w w') (o:Obj):C7 K w (w'.alloc o):=
 ⟨h.os,h.tape,h.output,Nat.le_trans h.size (by simp),λi hi hk=>(Below.heap_alloc w' o i (Nat.lt_of_lt_of_le hi h.size)).trans (h.block i hi hk)⟩
theorem C7.drew (h:C7 K w w'):C7 K w w'.drew:=⟨h.os,h.tape,h.output,h.size,h.block⟩
theorem C7.grown (h:C7 K w w') {row:Option Nat} (hg:w'.grownBy w'' row) (hr:∀k,row=some k->k<w.heap.size->¬K k):C7 K w w'':=
 ⟨hg.os.trans h.os,hg.tape.trans h.tape,hg.output.trans h.output,Nat.le_trans h.size hg.size,λi hi hk=>(hg.block i (Nat.lt_of_lt_of_le hi h.size) (λe=>hr i e.symm hi hk)).trans (h.block i hi hk)⟩
theorem C7.cell (h:C7 K w w') {p:Addr} {u:Value} (hc:w.cell? p=some u) (hk:K p.block):w'.cell? p=some u:=
 (World.cell?_of_block (w:=w) (h.block p.block (World.block_lt_of_cell? w p hc) hk)).trans hc
theorem C7.heap (h:C7 K w w') {i:Nat} {o:Obj} (hc:w.heap[i]? =some o) (hk:K i):w'.heap[i]? =some o:=
 (h.block i (Array.getElem?_eq_some_iff.1 hc).1 hk).trans hc
end
inductive Gl where
 |none
 |full
 |row (j:Nat)
inductive AV where
 |lit (v:Value)
 |any
 |ref (i off:Nat)
 |iptr (cs:List AV)
 |sl (t:Gl) (k:Nat) (xs:List AV)
 |agg (xs:List AV)
 |tup (xs:List AV)
 |fn (f:FuncId) (first cap:List AV)
 |ms (j n:Nat)
 |mref (j n off:Nat)
 |slc (k:Nat) (xs:List AV)
 |mapr (i:Nat)
 |yv (q:Nat)
def AV.cells:AV->List AV
 | .agg xs=>xs
 |x=>[x]
def AV.one:AV->Bool
 | .lit v=>v.oneCell'
 | .ref .. | .iptr .. | .sl .. | .fn .. | .ms .. | .mref .. | .slc .. | .mapr .. | .yv .. =>true
 |_=>false
structure Gh where
 imm:Nat->Nat->Option Value
 loc:Nat->Option Nat
 hist:Nat->Nat->Option Value
structure Gh.Le (G G':Gh):Prop where
 imm:∀b i v,G.imm b i=some v->G'.imm b i=some v
 loc:∀i b,G.loc i=some b->G'.loc i=some b
 hist:∀j n v,G.hist j n=some v->G'.hist j n=some v
theorem Gh.Le.refl (G:Gh):G.Le G:=⟨λ_ _ _ h=>h,λ_ _ h=>h,λ_ _ _ h=>h⟩
theorem Gh.Le.trans {a b c:Gh} (h:a.Le b) (k:b.Le c):a.Le c:=
 ⟨λ_ _ _ x=>k.imm _ _ _ (h.imm _ _ _ x),λ_ _ x=>k.loc _ _ (h.loc _ _ x),λ_ _ _ x=>k.hist _ _ _ (h.hist _ _ _ x)⟩
def HD (G:Gh) (t:Gl) (A:Option Addr) (n c:Nat):Prop:=
 match t with
 | .none=>True
 | .full=>c=n
 | .row j=>G.hist j n=some (.slice A n c)
inductive BE (G:Gh):AV->Value->Prop
 |lit (v:Value):BE G (.lit v) v
 |any (v:Value):BE G .any v
 |ref {i o b:Nat} (h:G.loc i=some b):BE G (.ref i o) (.pointer (some ⟨b,o,none⟩))
 |iptr {cs:List AV} {b o:Nat} (vs:Nat->Value) (h1:∀j,j<cs.length->G.imm b (o+j)=some (vs j)) (h2:∀j,j<cs.length->(vs j).oneCell'=true)
   (h3:∀(j:Nat) (x:AV),cs[j]? =some x->BE G x (vs j)):BE G (.iptr cs) (.pointer (some ⟨b,o,none⟩))
 |sl {t:Gl} {k:Nat} {xs:List AV} {A:Option Addr} {c b o:Nat} (vs:Nat->Nat->Value) (hc:xs.length≤c) (hA:0<xs.length->A=some ⟨b,o,none⟩)
   (hk:∀(i:Nat) (x:AV),xs[i]? =some x->x.cells.length=k) (h1:∀i j,i<xs.length->j<k->G.imm b (o+i*k+j)=some (vs i j)) (h2:∀i j,i<xs.length->j<k->(vs i j).oneCell'=true)
   (h3:∀(i j:Nat) (x y:AV),xs[i]? =some x->x.cells[j]? =some y->BE G y (vs i j)) (ht:HD G t A xs.length c):BE G (.sl t k xs) (.slice A xs.length c)
 |agg {xs:List AV} {vs:Array Value} (h0:xs.length=vs.size) (h2:∀(j:Nat) (v:Value),vs[j]? =some v->v.oneCell'=true) (h3:∀(j:Nat) (x:AV) (v:Value),xs[j]? =some x->vs[j]? =some v->BE G x v):BE G (.agg xs) (.agg vs)
 |tup {xs:List AV} {vs:Array Value} (h0:xs.length=vs.size) (h3:∀(j:Nat) (x:AV) (v:Value),xs[j]? =some x->vs[j]? =some v->BE G x v):BE G (.tup xs) (.tuple vs)
 |fn {f:FuncId} {fs cs:List AV} {fv cv:Array Value} (hf:fs.length=fv.size) (hc:cs.length=cv.size) (h1:∀(j:Nat) (x:AV) (v:Value),fs[j]? =some x->fv[j]? =some v->BE G x v)
   (h2:∀(j:Nat) (x:AV) (v:Value),cs[j]? =some x->cv[j]? =some v->BE G x v):BE G (.fn f fs cs) (.func (.func f) fv cv)
 |ms {j n:Nat} {A:Option Addr} {c:Nat} (h:G.hist j n=some (.slice A n c)) (h0:0<n->∃b,A=some ⟨b,0,none⟩):BE G (.ms j n) (.slice A n c)
 |mref {j n o b c:Nat} (h:G.hist j n=some (.slice (some ⟨b,0,none⟩) n c)):BE G (.mref j n o) (.pointer (some ⟨b,o,none⟩))
 |slc {k:Nat} {xs:List AV} {v:Value} (h:BE G (.sl .none k xs) v):BE G (.slc k xs) v
 |mapr {i b:Nat} (h:G.loc i=some b):BE G (.mapr i) (.map (some b))
 |yv {q b:Nat} (h:G.loc q=some b):BE G (.yv q) (.func (.yield b) #[] #[])
theorem HD.mono {G G':Gh} (h:G.Le G') {t:Gl} {A:Option Addr} {n c:Nat} (ht:HD G t A n c):HD G' t A n c:=by
 cases t with
 |none=>trivial
 |full=>exact ht
 |row j=>exact h.hist _ _ _ ht
theorem BE.mono {G G':Gh} (h:G.Le G') {x:AV} {v:Value} (r:BE G x v):BE G' x v:=by
 induction r with
 |lit v=>exact .lit v
 |any v=>exact .any v
 |ref hl=>exact .ref (h.loc _ _ hl)
 |iptr vs h1 h2 _ ih=>exact .iptr vs (λj hj=>h.imm _ _ _ (h1 j hj)) h2 ih
 |sl vs hc hA hk h1 h2 _ ht ih=>exact .sl vs hc hA hk (λi j hi hj=>h.imm _ _ _ (h1 i j hi hj)) h2 ih (ht.mono h)
 |agg h0 h2 _ ih=>exact .agg h0 h2 ih
 |tup h0 _ ih=>exact .tup h0 ih
 |fn hf hc _ _ ih1 ih2=>exact .fn hf hc ih1 ih2
 |ms h1 h0=>exact .ms (h.hist _ _ _ h1) h0
 |mref h1=>exact .mref (h.hist _ _ _ h1)
 |slc _ ih=>exact .slc ih
 |mapr h1=>exact .mapr (h.loc _ _ h1)
 |yv h1=>exact .yv (h.loc _ _ h1)
theorem BE.oneC {G:Gh} {x:AV} {v:Value} (r:BE G x v) (h:x.one=true):v.oneCell'=true:=by
 cases r with
 |slc h=>cases h;rfl
 |_=>simp_all [AV.one,Value.oneCell']
def Cn (G:Gh) (xs:List AV) (vs:List Value):Prop:=xs.length=vs.length∧∀(j:Nat) (x:AV) (v:Value),xs[j]? =some x->vs[j]? =some v->BE G x v
theorem Cn.mono {G G':Gh} (h:G.Le G') {xs:List AV} {vs:List Value} (r:Cn G xs vs):Cn G' xs vs:=⟨r.1,λj x v hx hv=>(r.2 j x v hx hv).mono h⟩
theorem Cn.nil (G:Gh):Cn G [] []:=⟨rfl,λj x v h=>by simp at h⟩
theorem Cn.cons {G:Gh} {x:AV} {v:Value} {xs:List AV} {vs:List Value} (h:BE G x v) (r:Cn G xs vs):Cn G (x::xs) (v::vs):=by
 refine⟨by simp[r.1],λj y u hy hu=>?_⟩
 cases j with
 |zero=>simp at hy hu;subst hy hu;exact h
 |succ j=>simp at hy hu;exact r.2 j y u hy hu
theorem Cn.append {G:Gh} {xs ys:List AV} {vs us:List Value} (h:Cn G xs vs) (k:Cn G ys us):Cn G (xs++ys) (vs++us):=by
 refine⟨by simp[h.1,k.1],λj x v hx hv=>?_⟩
 rw[List.getElem?_append]at hx hv
 rw[h.1]at hx
 split at hx
 ·rename_i hl;rw[if_pos hl]at hv;exact h.2 j x v hx hv
 ·rename_i hl;rw[if_neg hl]at hv;exact k.2 _ x v hx hv
structure LpR where
 state:LoopState
 pending:Option Code
 fn:FuncId
 params:Array Tmp
 assign:Code
 body:Code
 defers:Nat
inductive E5 where
 |imap (l:List (Int×Int))
 |lp (r:LpR)
def GD:Nat->List (Int×Int)->List MapEntry
 |_,[]=>[]
 |n,p::l=>{key:=.int .u32 p.1,val:=.int .i64 p.2,born:=n}::GD (n+1) l
def E5.obj:E5->List Value->Obj
 | .imap l,_=>.map (GD 0 l).toArray l.length
 | .lp r,vs=>.loop {state:=r.state,pending:=r.pending,fn:=r.fn,tmps:=vs.toArray,params:=r.params,assign:=r.assign,body:=r.body,defers:=r.defers}
inductive Ad where
 |dead
 |cells (xs:List AV)
 |row (k n:Nat)
 |mrow (k n:Nat) (xs:List AV)
 |raw (o:E5) (xs:List AV)
def blk (G:Gh) (S:List Ad) (i:Nat):Option Nat:=
 match S[i]? with
 |some (.cells _)=>G.loc i
 |some (.row _ n)=>match G.hist i n with
  |some (.slice (some a) _ c)=>if n<c then some a.block else none
  |_=>none
 |some (.mrow _ n _)=>match G.hist i n with
  |some (.slice (some a) _ c)=>if 0<c then some a.block else none
  |_=>none
 |some (.raw _ _)=>G.loc i
 |_=>none
def R0 (G:Gh) (w:World) (k:Nat) (xs:List AV) (A:Option Addr) (c:Nat):Prop:=
 0<c->∃(b:Nat) (cs:Array Value) (t:TypeId),A=some ⟨b,0,none⟩∧w.heap[b]? =some (.cells cs t (0,0))∧cs.size=c*k∧(∀(i:Nat) (x:AV) (v:Value),xs[i]? =some x->cs[i]? =some v->v.oneCell'=true∧BE G x v)∧∀i,G.imm b i=none
structure Wd (G:Gh) (S:List Ad) (w:World):Prop where
 imm:∀b i v,G.imm b i=some v->w.cell? ⟨b,i,none⟩=some v
 dom:∀(i:Nat),(S[i]? =none∨S[i]? =some .dead)->G.loc i=none∧∀n,G.hist i n=none
 obj:∀(i:Nat) (xs:List AV),S[i]? =some (.cells xs)->∃(b:Nat) (cs:Array Value) (t:TypeId),G.loc i=some b∧w.heap[b]? =some (.cells cs t (0,0))∧cs.size=xs.length∧
  (∀(k:Nat) (x:AV) (v:Value),xs[k]? =some x->cs[k]? =some v->v.oneCell'=true∧BE G x v)∧∀k,G.imm b k=none
 row:∀(j k n:Nat),S[j]? =some (.row k n)->1≤k∧∃A c,G.hist j n=some (.slice A n c)∧(∀n' v',G.hist j n'=some v'->n'≤n)∧n≤c∧
  (n<c->∃(b:Nat) (cs:Array Value) (t:TypeId),A=some ⟨b,0,none⟩∧w.heap[b]? =some (.cells cs t (0,0))∧cs.size=c*k∧∀i,n*k≤i->G.imm b i=none)
 mrow:∀(j k n:Nat) (xs:List AV),S[j]? =some (.mrow k n xs)->1≤k∧xs.length=n*k∧∃A c,G.hist j n=some (.slice A n c)∧(∀n' v',G.hist j n'=some v'->n'≤n)∧n≤c∧c≤9223372036854775807∧R0 G w k xs A c
 raw:∀(i:Nat) (o:E5) (xs:List AV),S[i]? =some (.raw o xs)->∃b vs,G.loc i=some b∧w.heap[b]? =some (o.obj vs)∧Cn G xs vs
 sep:∀i j b,blk G S i=some b->blk G S j=some b->i=j
def Un (G:Gh) (S:List Ad) (b:Nat):Prop:=∀i,blk G S i≠some b
structure Bf (G:Gh) (S:List Ad) (w:World) (G':Gh) (S':List Ad) (w':World):Prop where
 le:G.Le G'
 wd:Wd G' S' w'
 kept:C7 (Un G S) w w'
 own:∀i b,blk G' S' i=some b->w.heap.size≤b∨∃j,blk G S j=some b
 still:∀b k v,G'.imm b k=some v->G.imm b k=some v∨w.heap.size≤b∨∃j,blk G S j=some b
theorem Bf.refl {G:Gh} {S:List Ad} {w:World} (h:Wd G S w):Bf G S w G S w:=⟨Gh.Le.refl _,h,C7.refl _ _,λi _ hb=>.inr ⟨i,hb⟩,λ_ _ _ h=>.inl h⟩
theorem Bf.trans {G G' G'':Gh} {S S' S'':List Ad} {w w' w'':World} (h:Bf G S w G' S' w') (k:Bf G' S' w' G'' S'' w''):Bf G S w G'' S'' w'':=by
 refine⟨h.le.trans k.le,k.wd,⟨k.kept.os.trans h.kept.os,k.kept.tape.trans h.kept.tape,k.kept.output.trans h.kept.output,Nat.le_trans h.kept.size k.kept.size,λi hi hu=>?_⟩,λi b hb=>?_,λb i v hv=>?_⟩
 ·rw[k.kept.block i (Nat.lt_of_lt_of_le hi h.kept.size) ?_]
  ·exact h.kept.block i hi hu
  ·intro j hj
   rcases h.own j i hj with h1|⟨j',h1⟩
   ·omega
   ·exact hu j' h1
 ·rcases k.own i b hb with h1|⟨j,h1⟩
  ·exact .inl (Nat.le_trans h.kept.size h1)
  ·exact h.own j b h1
 ·rcases k.still b i v hv with h1|h1|⟨j,h1⟩
  ·exact h.still b i v h1
  ·exact .inr (.inl (Nat.le_trans h.kept.size h1))
  ·exact .inr (h.own j b h1)
def Ah7 (P:Program) (f:FuncId):Prop:=∃fn,P.funcs[f]? =some fn∧fn.body.isNone=false∧(fn.name== "runtime.NumGoroutine")=false
def An (P:Program) (f:FuncId) (args:List AV) (S:List Ad) (r:AV) (S':List Ad):Prop:=
 Ah7 P f∧∀G w (vs:Array Value),Wd G S w->Cn G args vs.toList->Calls P f vs w λe w'=>∃v G',e=.returned v∧BE G' r v∧Bf G S w G' S' w'
def Gl.ren (ρ:Nat->Nat):Gl->Gl
 | .row j=>.row (ρ j)
 |t=>t
def AV.ren (ρ:Nat->Nat):AV->AV
 | .lit v=>.lit v
 | .any=>.any
 | .ref i o=>.ref (ρ i) o
 | .iptr cs=>.iptr (cs.map λx=>x.ren ρ)
 | .sl t k xs=>.sl (t.ren ρ) k (xs.map λx=>x.ren ρ)
 | .agg xs=>.agg (xs.map λx=>x.ren ρ)
 | .tup xs=>.tup (xs.map λx=>x.ren ρ)
 | .fn f a b=>.fn f (a.map λx=>x.ren ρ) (b.map λx=>x.ren ρ)
 | .ms j n=>.ms (ρ j) n
 | .mref j n o=>.mref (ρ j) n o
 | .slc k xs=>.slc k (xs.map λx=>x.ren ρ)
 | .mapr i=>.mapr (ρ i)
 | .yv q=>.yv (ρ q)
def Ad.ren (ρ:Nat->Nat):Ad->Ad
 | .dead=>.dead
 | .cells xs=>.cells (xs.map λx=>x.ren ρ)
 | .row k n=>.row k n
 | .mrow k n xs=>.mrow k n (xs.map λx=>x.ren ρ)
 | .raw o xs=>.raw o (xs.map λx=>x.ren ρ)
theorem AV.cells_ren (ρ:Nat->Nat) (x:AV):(x.ren ρ).cells=x.cells.map λx=>x.ren ρ:=by
 cases x<;>simp[AV.ren,AV.cells]
theorem Be {α β:Type} {f:α->β} {l:List α} {j:Nat} {y:β} (h:(l.map f)[j]? =some y):∃x,l[j]? =some x∧f x=y:=by
 simpa using h
theorem BE.ren {G G':Gh} {ρ:Nat->Nat} (hi:∀b i v,G.imm b i=some v->G'.imm b i=some v) (hl:∀k b,G.loc k=some b->G'.loc (ρ k)=some b)
 (hh:∀k n v,G.hist k n=some v->G'.hist (ρ k) n=some v) {x:AV} {v:Value} (r:BE G x v):BE G' (x.ren ρ) v:=by
 induction r with
 |lit v=>rw[AV.ren];exact .lit v
 |any v=>rw[AV.ren];exact .any v
 |ref h=>rw[AV.ren];exact .ref (hl _ _ h)
 |iptr vs h1 h2 _ ih=>
  rw[AV.ren]
  refine .iptr vs (λj hj=>hi _ _ _ (h1 j (by simpa using hj))) (λj hj=>h2 j (by simpa using hj)) λj x hx=>?_
  obtain⟨y,hy,rfl⟩:=Be hx
  exact ih j y hy
 | @sl t k xs A c b o vs hc hA hk h1 h2 _ ht ih=>
   rw[AV.ren]
   have hlen:(xs.map λx=>x.ren ρ).length=xs.length:=by simp
   have ht':HD G' (t.ren ρ) A xs.length c:=by
    cases t with
    |none=>trivial
    |full=>exact ht
    |row j=>exact hh _ _ _ ht
   rw[←hlen]at ht' hc hA ⊢
   refine .sl (b:=b) (o:=o) vs hc hA (λi x hx=>?_) (λi j hii hj=>hi _ _ _ (h1 i j (by simpa using hii) hj)) (λi j hii hj=>h2 i j (by simpa using hii) hj) (λi j x y hx hy=>?_) ht'
   ·obtain⟨z,hz,rfl⟩:=Be hx
    rw[AV.cells_ren];simpa using hk i z hz
   ·obtain⟨z,hz,rfl⟩:=Be hx
    rw[AV.cells_ren]at hy
    obtain⟨u,hu,rfl⟩:=Be hy
    exact ih i j z u hz hu
 |agg h0 h2 _ ih=>
  rw[AV.ren]
  refine .agg (by simpa using h0) h2 λj x v hx hv=>?_
  obtain⟨y,hy,rfl⟩:=Be hx
  exact ih j y v hy hv
 |tup h0 _ ih=>
  rw[AV.ren]
  refine .tup (by simpa using h0) λj x v hx hv=>?_
  obtain⟨y,hy,rfl⟩:=Be hx
  exact ih j y v hy hv
 |fn hf hc _ _ ih1 ih2=>
  rw[AV.ren]
  refine .fn (by simpa using hf) (by simpa using hc) (λj x v hx hv=>?_) (λj x v hx hv=>?_)
  ·obtain⟨y,hy,rfl⟩:=Be hx
   exact ih1 j y v hy hv
  ·obtain⟨y,hy,rfl⟩:=Be hx
   exact ih2 j y v hy hv
 |ms h h0=>rw[AV.ren];exact .ms (hh _ _ _ h) h0
 |mref h=>rw[AV.ren];exact .mref (hh _ _ _ h)
 |slc _ ih=>rw[AV.ren];rw[AV.ren]at ih;exact .slc ih
 |mapr h=>rw[AV.ren];exact .mapr (hl _ _ h)
 |yv h=>rw[AV.ren];exact .yv (hl _ _ h)
def Gh.pull (G:Gh) (ρ:Nat->Nat):Gh:=⟨G.imm,λk=>G.loc (ρ k),λk=>G.hist (ρ k)⟩
theorem BE.pull {G:Gh} {ρ:Nat->Nat} {y:AV} {v:Value} (r:BE G y v):∀x:AV,x.ren ρ=y->BE (G.pull ρ) x v:=by
 induction r with
 |lit v=>intro x hx;cases x<;>simp[AV.ren]at hx;subst hx;exact .lit _
 |any v=>intro x hx;cases x<;>simp[AV.ren]at hx;exact .any v
 |ref h=>intro x hx;cases x<;>simp[AV.ren]at hx;obtain⟨rfl,rfl⟩:=hx;exact .ref h
 |iptr vs h1 h2 _ ih=>
  intro x hx
  cases x<;>simp[AV.ren]at hx
  subst hx
  exact .iptr vs (λj hj=>h1 j (by simpa using hj)) (λj hj=>h2 j (by simpa using hj)) λj z hz=>ih j _ (by simp[hz]) z rfl
 | @sl t k xs A c b o vs hc hA hk h1 h2 _ ht ih=>
   intro x hx
   cases x<;>simp[AV.ren]at hx
   rename_i t' k' xs'
   obtain⟨rfl,rfl,rfl⟩:=hx
   have hlen:(xs'.map λx=>x.ren ρ).length=xs'.length:=by simp
   rw[hlen]
   refine .sl (b:=b) (o:=o) vs (by simpa using hc) (by simpa using hA) (λi z hz=>?_) (λi j hii hj=>h1 i j (by simpa using hii) hj) (λi j hii hj=>h2 i j (by simpa using hii) hj) (λi j z u hz hu=>?_) ?_
   ·have:=hk i (z.ren ρ) (by simp[hz])
    rw[AV.cells_ren]at this;simpa using this
   ·exact ih i j (z.ren ρ) (u.ren ρ) (by simp[hz]) (by rw[AV.cells_ren];simp[hu]) u rfl
   ·rw[hlen]at ht
    cases t' with
    |none=>trivial
    |full=>exact ht
    |row j=>exact ht
 |agg h0 h2 _ ih=>
  intro x hx
  cases x<;>simp[AV.ren]at hx
  subst hx
  exact .agg (by simpa using h0) h2 λj z v hz hv=>ih j _ v (by simp[hz]) hv z rfl
 |tup h0 _ ih=>
  intro x hx
  cases x<;>simp[AV.ren]at hx
  subst hx
  exact .tup (by simpa using h0) λj z v hz hv=>ih j _ v (by simp[hz]) hv z rfl
 |fn hf hc _ _ ih1 ih2=>
  intro x hx
  cases x<;>simp[AV.ren]at hx
  obtain⟨rfl,rfl,rfl⟩:=hx
  exact .fn (by simpa using hf) (by simpa using hc) (λj z v hz hv=>ih1 j _ v (by simp[hz]) hv z rfl) (λj z v hz hv=>ih2 j _ v (by simp[hz]) hv z rfl)
 |ms h h0=>intro x hx;cases x<;>simp[AV.ren]at hx;obtain⟨rfl,rfl⟩:=hx;exact .ms h h0
 |mref h=>intro x hx;cases x<;>simp[AV.ren]at hx;obtain⟨rfl,rfl,rfl⟩:=hx;exact .mref h
 |slc _ ih=>
  intro x hx
  cases x<;>simp[AV.ren]at hx
  rename_i k' xs'
  obtain⟨rfl,rfl⟩:=hx
  exact .slc (ih (.sl .none k' xs') (by rw[AV.ren];rfl))
 |mapr h=>intro x hx;cases x<;>simp[AV.ren]at hx;subst hx;exact .mapr h
 |yv h=>intro x hx;cases x<;>simp[AV.ren]at hx;subst hx;exact .yv h
theorem Cn.pull {G:Gh} {ρ:Nat->Nat} {xs:List AV} {vs:List Value} (h:Cn G (xs.map λx=>x.ren ρ) vs):Cn (G.pull ρ) xs vs:=
 ⟨by simpa using h.1,λj x v hx hv=>(h.2 j (x.ren ρ) v (by simp[hx]) hv).pull x rfl⟩
def AK (ids:List Nat) (N k:Nat):Nat:=ids.getD k (N+k)
theorem Wd.pull {G:Gh} {T S:List Ad} {w:World} (h:Wd G T w) (ids:List Nat) (hn:ids.Nodup) (_hl:S.length≤ids.length)
 (hT:∀(k:Nat) (o:Ad),S[k]? =some o->∃i,ids[k]? =some i∧T[i]? =some (o.ren (AK ids T.length))) (hD:∀(k i:Nat),S.length≤k->ids[k]? =some i->T[i]? =some .dead):
 Wd (G.pull (AK ids T.length)) S w∧∀k,blk (G.pull (AK ids T.length)) S k=none∨blk (G.pull (AK ids T.length)) S k=blk G T (AK ids T.length k):=by
 generalize hρ:AK ids T.length=ρ at*
 have hix:∀{k i:Nat},ids[k]? =some i->ρ k=i:=λ{k i} e=>by rw[←hρ];simp[AK,e]
 have hblk:∀k,blk (G.pull ρ) S k=none∨blk (G.pull ρ) S k=blk G T (ρ k):=by
  intro k
  cases ho:S[k]? with
  |none=>left;simp[blk,ho]
  |some o=>
   right
   obtain⟨i,hi,hTi⟩:=hT k o ho
   rw[hix hi]
   cases o<;>simp[blk,ho,hTi,Ad.ren,Gh.pull,hix hi]
 refine⟨⟨h.imm,?_,?_,?_,?_,?_,?_⟩,hblk⟩
 ·intro k hk
  have key:T[ρ k]? =none∨T[ρ k]? =some .dead:=by
   cases hi:ids[k]? with
   |none=>
    left
    have hge:ids.length≤k:=by simpa using hi
    rw[←hρ];simp[AK,hi]
   |some i=>
    right
    rw[hix hi]
    by_cases hkS:S.length≤k
    ·exact hD k i hkS hi
    ·obtain⟨o,ho⟩:∃o,S[k]? =some o:=⟨S[k]'(by omega),by simp⟩
     obtain⟨i',hi',hTi⟩:=hT k o ho
     rw[hi]at hi'
     injection hi' with hi'
     subst hi'
     rcases hk with hk|hk
     ·rw[hk]at ho;cases ho
     ·rw[hk]at ho;injection ho with ho;subst ho;exact hTi
  exact⟨(h.dom _ key).1,(h.dom _ key).2⟩
 ·intro k xs hk
  obtain⟨i,hi,hTi⟩:=hT k _ hk
  obtain⟨b,cs,t,h1,h2,h3,h4,h5⟩:=h.obj i _ hTi
  refine⟨b,cs,t,?_,h2,by simpa using h3,λj x v hx hv=>?_,h5⟩
  ·show G.loc (ρ k)=some b
   rw[hix hi];exact h1
  ·obtain⟨g1,g2⟩:=h4 j (x.ren ρ) v (by simp[hx]) hv
   exact⟨g1,g2.pull x rfl⟩
 ·intro j k n hj
  obtain⟨i,hi,hTi⟩:=hT j _ hj
  obtain⟨h0,A,c,h1,h2,h3⟩:=h.row i k n hTi
  exact⟨h0,A,c,by show G.hist (ρ j) n=_;rw[hix hi];exact h1,λn' v' e=>h2 n' v' (by rw[←hix hi];exact e),h3⟩
 ·intro j k n xs hj
  obtain⟨i,hi,hTi⟩:=hT j _ hj
  obtain⟨h0,hl,A,c,h1,h2,h3,hc6,h4⟩:=h.mrow i k n _ hTi
  refine⟨h0,by simpa using hl,A,c,by show G.hist (ρ j) n=_;rw[hix hi];exact h1,λn' v' e=>h2 n' v' (by rw[←hix hi];exact e),h3,hc6,λhc=>?_⟩
  obtain⟨b,cs,t,g1,g2,g3,g4,g5⟩:=h4 hc
  refine⟨b,cs,t,g1,g2,g3,λq x v hx hv=>?_,g5⟩
  obtain⟨p1,p2⟩:=g4 q (x.ren ρ) v (by simp[hx]) hv
  exact⟨p1,p2.pull x rfl⟩
 ·intro k o xs hk
  obtain⟨i,hi,hTi⟩:=hT k _ hk
  obtain⟨b,vs,h1,h2,h3⟩:=h.raw i o _ hTi
  exact⟨b,vs,by show G.loc (ρ k)=_;rw[hix hi];exact h1,h2,h3.pull⟩
 ·intro i j b hi hj
  have bound:∀{k:Nat} {b:Nat},blk (G.pull ρ) S k=some b->∃o,S[k]? =some o:=λ{k b} e=>by
   cases ho:S[k]? with
   |none=>simp[blk,ho]at e
   |some o=>exact⟨o,rfl⟩
  obtain⟨oi,hoi⟩:=bound hi
  obtain⟨oj,hoj⟩:=bound hj
  obtain⟨pi,hpi,_⟩:=hT i oi hoi
  obtain⟨pj,hpj,_⟩:=hT j oj hoj
  have e1:=(hblk i).resolve_left (by rw[hi];simp)
  have e2:=(hblk j).resolve_left (by rw[hj];simp)
  have:=h.sep (ρ i) (ρ j) b (by rw[←e1];exact hi) (by rw[←e2];exact hj)
  rw[hix hpi,hix hpj]at this
  subst this
  exact(List.getElem?_inj (by
   rcases Nat.lt_or_ge i ids.length with hlt|hge
   ·exact hlt
   ·rw[List.getElem?_eq_none hge]at hpi;cases hpi) hn).1 (hpi.trans hpj.symm)
def CA (T:List Ad) (u:List (Nat×Ad)):List Ad:=u.foldl (λT p=>T.set p.1 p.2) T
@[simp] theorem Mh (T:List Ad):CA T []=T:=rfl
@[simp] theorem CQ (T:List Ad) (p:Nat×Ad) (u:List (Nat×Ad)):CA T (p::u)=CA (T.set p.1 p.2) u:=rfl
@[simp] theorem HK (T:List Ad) (u:List (Nat×Ad)):(CA T u).length=T.length:=by
 induction u generalizing T with
 |nil=>rfl
 |cons p u ih=>rw[CQ,ih];simp
theorem Dj (T:List Ad) (u:List (Nat×Ad)) (i:Nat) (h:i∉u.map (·.1)):(CA T u)[i]? =T[i]? :=by
 induction u generalizing T with
 |nil=>rfl
 |cons p u ih=>
  simp only[List.map_cons,List.mem_cons,not_or]at h
  rw[CQ,ih _ h.2,List.getElem?_set_ne (Ne.symm h.1)]
theorem P4 (T:List Ad) (u:List (Nat×Ad)) (hn:(u.map (·.1)).Nodup) (i:Nat) (o:Ad) (h:(i,o)∈u) (hi:i<T.length):(CA T u)[i]? =some o:=by
 induction u generalizing T with
 |nil=>cases h
 |cons p u ih=>
  simp only[List.map_cons,List.nodup_cons]at hn
  rw[CQ]
  rcases List.mem_cons.1 h with rfl|h
  ·rw[Dj _ _ _ hn.1];simp[hi]
  ·exact ih _ hn.2 h (by simpa using hi)
theorem QM {ids:List Nat} {N k i:Nat} (e:ids[k]? =some i):AK ids N k=i:=by simp[AK,e]
theorem Z1 {ids:List Nat} (hn:ids.Nodup) {k k' i:Nat} (h:ids[k]? =some i) (h':ids[k']? =some i):k=k':=
 (List.getElem?_inj (by
   rcases Nat.lt_or_ge k ids.length with hlt|hge
   ·exact hlt
   ·rw[List.getElem?_eq_none hge]at h;cases h) hn).1 (h.trans h'.symm)
def Gh.push (G G':Gh) (ids:List Nat):Gh:=
 ⟨G'.imm,λi=>if i∈ids then G'.loc (ids.idxOf i)else G.loc i,λi=>if i∈ids then G'.hist (ids.idxOf i)else G.hist i⟩
theorem CP {G G':Gh} {ids:List Nat} (hn:ids.Nodup) {k i:Nat} (h:ids[k]? =some i):(G.push G' ids).loc i=G'.loc k∧(G.push G' ids).hist i=G'.hist k:=by
 have hm:i∈ids:=List.mem_of_getElem? h
 have hk:ids.idxOf i=k:=Z1 hn (by rw[List.getElem?_eq_getElem (List.idxOf_lt_length_of_mem hm)];simp) h
 simp[Gh.push,hm,hk]
theorem Ht {G:Gh} {T:List Ad} {w:World} (h:Wd G T w) {i b:Nat} (hb:blk G T i=some b):b<w.heap.size:=by
 unfold blk at hb
 split at hb
 ·rename_i xs hi
  obtain⟨b',cs,t,h1,h2,_⟩:=h.obj i xs hi
  rw[h1]at hb;injection hb with hb;subst hb
  exact(Array.getElem?_eq_some_iff.1 h2).1
 ·rename_i k n hi
  obtain⟨_,A,c,h1,h2,h3,h4⟩:=h.row i k n hi
  rw[h1]at hb
  split at hb
  ·rename_i a _ c' heq
   split at hb
   ·rename_i hlt
    injection heq with heq
    injection heq with e1 e2 e3
    subst e1 e3
    obtain⟨b',cs,t,h5,h6,_⟩:=h4 hlt
    injection h5 with h5
    injection hb with hb
    rw[←hb,h5]
    exact(Array.getElem?_eq_some_iff.1 h6).1
   ·cases hb
  ·cases hb
 ·rename_i k n xs hi
  obtain⟨_,_,A,c,h1,h2,h3,_,h4⟩:=h.mrow i k n xs hi
  rw[h1]at hb
  split at hb
  ·rename_i a _ c' heq
   split at hb
   ·rename_i hlt
    injection heq with heq
    injection heq with e1 e2 e3
    subst e1 e3
    obtain⟨b',cs,t,h5,h6,_⟩:=h4 hlt
    injection h5 with h5
    injection hb with hb
    rw[←hb,h5]
    exact(Array.getElem?_eq_some_iff.1 h6).1
   ·cases hb
  ·cases hb
 ·rename_i o xs hi
  obtain⟨b',vs,h1,h2,_⟩:=h.raw i o xs hi
  rw[h1]at hb;injection hb with hb;subst hb
  exact(Array.getElem?_eq_some_iff.1 h2).1
 ·cases hb
theorem Bf.push {G:Gh} {T S S':List Ad} {w w':World} {G':Gh} (h:Wd G T w) (ids:List Nat) (hn:ids.Nodup) (hl:ids.length=S'.length) (hSl:S.length≤S'.length)
 (hT:∀(k:Nat) (o:Ad),S[k]? =some o->∃i,ids[k]? =some i∧T[i]? =some (o.ren (AK ids T.length))) (hD:∀(k i:Nat),S.length≤k->ids[k]? =some i->T[i]? =some .dead)
 (hs:Bf (G.pull (AK ids T.length)) S w G' S' w'):
 Bf G T w (G.push G' ids) (CA T (ids.zip (S'.map λo=>o.ren (AK ids T.length)))) w'∧∀x v,BE G' x v->BE (G.push G' ids) (x.ren (AK ids T.length)) v:=by
 have hpull:=Wd.pull h ids hn (by omega) hT hD
 have hTlt:∀{k i:Nat},ids[k]? =some i->i<T.length:=λ{k i} e=>by
  rcases Nat.lt_or_ge k S.length with hk|hk
  ·obtain⟨i',h1,h2⟩:=hT k _ (List.getElem?_eq_getElem hk)
   rw[e]at h1;injection h1 with h1;subst h1
   exact(List.getElem?_eq_some_iff.1 h2).1
  ·exact(List.getElem?_eq_some_iff.1 (hD k i hk e)).1
 generalize hρ:AK ids T.length=ρ at*
 have hix:∀{k i:Nat},ids[k]? =some i->ρ k=i:=λ{k i} e=>by rw[←hρ];exact QM e
 have hge:∀{k:Nat},ids[k]? =none->ρ k=T.length+k:=λ{k} e=>by rw[←hρ];simp[AK,e]
 have hzip:(ids.zip (S'.map λo=>o.ren ρ)).map (·.1)=ids:=by rw[List.map_fst_zip];simp[hl]
 have hat:∀(k i:Nat) (o:Ad),ids[k]? =some i->S'[k]? =some o->(CA T (ids.zip (S'.map λo=>o.ren ρ)))[i]? =some (o.ren ρ):=by
  intro k i o hk ho
  refine P4 _ _ (by rw[hzip];exact hn) i _ (List.mem_of_getElem? (i:=k) ?_) (hTlt hk)
  rw[List.getElem?_zip_eq_some]
  exact⟨hk,by simp[ho]⟩
 have hout:∀i,i∉ids->(CA T (ids.zip (S'.map λo=>o.ren ρ)))[i]? =T[i]? :=λi hi=>Dj _ _ _ (by rw[hzip];exact hi)
 have hin:∀i,i∈ids->∃(k:Nat) (o:Ad),ids[k]? =some i∧S'[k]? =some o:=by
  intro i hi
  obtain⟨k,hk,rfl⟩:=List.getElem_of_mem hi
  exact⟨k,S'[k]'(by omega),by simp,by simp⟩
 have hloc:∀k b,G'.loc k=some b->(G.push G' ids).loc (ρ k)=some b:=by
  intro k b hb
  cases hk:ids[k]? with
  |none=>
   have:S'[k]? =none:=by rw[List.getElem?_eq_none_iff]at hk ⊢;omega
   rw[(hs.wd.dom k (.inl this)).1]at hb;cases hb
  |some i=>rw[hix hk,(CP hn hk).1];exact hb
 have hhist:∀k n v,G'.hist k n=some v->(G.push G' ids).hist (ρ k) n=some v:=by
  intro k n v hb
  cases hk:ids[k]? with
  |none=>
   have:S'[k]? =none:=by rw[List.getElem?_eq_none_iff]at hk ⊢;omega
   rw[(hs.wd.dom k (.inl this)).2]at hb;cases hb
  |some i=>rw[hix hk,(CP hn hk).2];exact hb
 have himm:∀b i v,G'.imm b i=some v->(G.push G' ids).imm b i=some v:=λ_ _ _ e=>e
 have hren:∀{x:AV} {v:Value},BE G' x v->BE (G.push G' ids) (x.ren ρ) v:=λr=>r.ren himm hloc hhist
 have hle:G.Le (G.push G' ids):=by
  refine⟨λb i v hv=>hs.le.imm b i v hv,λi b hb=>?_,λi n v hv=>?_⟩
  ·by_cases hi:i∈ids
   ·obtain⟨k,o,hk,_⟩:=hin i hi
    rw[(CP hn hk).1]
    exact hs.le.loc k b (by show G.loc (ρ k)=_;rw[hix hk];exact hb)
   ·simpa[Gh.push,hi]using hb
  ·by_cases hi:i∈ids
   ·obtain⟨k,o,hk,_⟩:=hin i hi
    rw[(CP hn hk).2]
    exact hs.le.hist k n v (by show G.hist (ρ k) n=_;rw[hix hk];exact hv)
   ·simpa[Gh.push,hi]using hv
 have hblkin:∀{k i:Nat} {b:Nat},ids[k]? =some i->(blk (G.push G' ids) (CA T (ids.zip (S'.map λo=>o.ren ρ))) i=some b↔blk G' S' k=some b):=by
  intro k i b hk
  have hk':k<S'.length:=by
   rw[←hl]
   rcases Nat.lt_or_ge k ids.length with hlt|hge
   ·exact hlt
   ·rw[List.getElem?_eq_none hge]at hk;cases hk
  have ho:=List.getElem?_eq_getElem hk'
  have e:=hat k i _ hk ho
  unfold blk
  rw[e,ho]
  cases S'[k]with
  |dead=>simp[Ad.ren]
  |cells xs=>simp only[Ad.ren,(CP hn hk).1]
  |row k n=>simp only[Ad.ren,(CP hn hk).2]
  |mrow k n xs=>simp only[Ad.ren,(CP hn hk).2]
  |raw o xs=>simp only[Ad.ren,(CP hn hk).1]
 have hblkout:∀{i:Nat},i∉ids->blk (G.push G' ids) (CA T (ids.zip (S'.map λo=>o.ren ρ))) i=blk G T i:=by
  intro i hi
  unfold blk
  rw[hout i hi]
  cases T[i]? with
  |none=>rfl
  |some o=>cases o<;>simp[Gh.push,hi]
 have hpin:∀{k i:Nat} {b:Nat},ids[k]? =some i->blk (G.pull ρ) S k=some b->blk G T i=some b:=by
  intro k i b hk hb
  rw[←hix hk,←hb]
  exact((hpull.2 k).resolve_left (by rw[hb];simp)).symm
 have hpk:∀{k:Nat} {b:Nat},blk (G.pull ρ) S k=some b->∃i,ids[k]? =some i:=by
  intro k b hb
  cases ho:S[k]? with
  |none=>simp[blk,ho]at hb
  |some o=>obtain⟨i,hi,_⟩:=hT k o ho;exact⟨i,hi⟩
 have hlt:∀{i b:Nat},blk G T i=some b->b<w.heap.size:=λ{i b} hb=>Ht h hb
 have hsep:∀{i k b:Nat},i∉ids->blk G T i=some b->blk (G.pull ρ) S k=some b->False:=by
  intro i k b hi hb hb'
  obtain⟨i',hi'⟩:=hpk hb'
  have:=h.sep i i' b hb (hpin hi' hb')
  subst this
  exact hi (List.mem_of_getElem? hi')
 have hun:∀{i b:Nat},i∉ids->blk G T i=some b->Un (G.pull ρ) S b:=λ{i b} hi hb k hk=>hsep hi hb hk
 have hstill:∀{i b k:Nat},i∉ids->blk G T i=some b->G.imm b k=none->(G.push G' ids).imm b k=none:=by
  intro i b k hi hb hk
  cases hc:(G.push G' ids).imm b k with
  |none=>rfl
  |some u=>
   exfalso
   rcases hs.still b k u hc with h1|h1|⟨j,h1⟩
   ·have:G.imm b k=some u:=h1
    rw[hk]at this;cases this
   ·have:=hlt hb;omega
   ·exact hsep hi hb h1
 have hcross:∀{k i j b:Nat},ids[k]? =some i->blk G' S' k=some b->j∉ids->blk G T j=some b->False:=by
  intro k i j b hk hb hj hb'
  rcases hs.own k b hb with h1|⟨q,h1⟩
  ·have:=hlt hb';omega
  ·exact hsep hj hb' h1
 refine⟨⟨hle,⟨hs.wd.imm,?_,?_,?_,?_,?_,?_⟩,?_,?_,?_⟩,λx v r=>hren r⟩
 ·intro i hi
  by_cases hm:i∈ids
  ·obtain⟨k,o,hk,ho⟩:=hin i hm
   rw[hat k i o hk ho]at hi
   have hd:o=.dead:=by
    rcases hi with hi|hi
    ·cases hi
    ·cases o<;>simp[Ad.ren]at hi ⊢
   subst hd
   rw[(CP hn hk).1,(CP hn hk).2]
   exact hs.wd.dom k (.inr ho)
  ·rw[hout i hm]at hi
   simpa[Gh.push,hm]using h.dom i hi
 ·intro i xs hi
  by_cases hm:i∈ids
  ·obtain⟨k,o,hk,ho⟩:=hin i hm
   rw[hat k i o hk ho]at hi
   cases o<;>simp[Ad.ren]at hi
   rename_i ys
   subst hi
   obtain⟨b,cs,t,h1,h2,h3,h4,h5⟩:=hs.wd.obj k ys ho
   refine⟨b,cs,t,by rw[(CP hn hk).1];exact h1,h2,by simpa using h3,λj x v hx hv=>?_,h5⟩
   obtain⟨y,hy,rfl⟩:=Be hx
   exact⟨(h4 j y v hy hv).1,hren (h4 j y v hy hv).2⟩
  ·rw[hout i hm]at hi
   obtain⟨b,cs,t,h1,h2,h3,h4,h5⟩:=h.obj i xs hi
   have hb:blk G T i=some b:=by simp[blk,hi,h1]
   have e:=hs.kept.block b (hlt hb) (hun hm hb)
   exact⟨b,cs,t,by simpa[Gh.push,hm]using h1,by rw[e];exact h2,h3,λj x v hx hv=>⟨(h4 j x v hx hv).1,(h4 j x v hx hv).2.mono hle⟩,λk=>hstill hm hb (h5 k)⟩
 ·intro i k n hi
  by_cases hm:i∈ids
  ·obtain⟨q,o,hq,ho⟩:=hin i hm
   rw[hat q i o hq ho]at hi
   cases o<;>simp[Ad.ren]at hi
   obtain⟨rfl,rfl⟩:=hi
   obtain⟨h0,A,c,h1,h2,h3,h4⟩:=hs.wd.row q _ _ ho
   exact⟨h0,A,c,by rw[(CP hn hq).2];exact h1,λn' v' e=>h2 n' v' (by rw[←(CP hn hq).2];exact e),h3,h4⟩
  ·rw[hout i hm]at hi
   obtain⟨h0,A,c,h1,h2,h3,h4⟩:=h.row i k n hi
   refine⟨h0,A,c,by simpa[Gh.push,hm]using h1,λn' v' e=>h2 n' v' (by simpa[Gh.push,hm]using e),h3,λhlt'=>?_⟩
   obtain⟨b,cs,t,g1,g2,g3,g4⟩:=h4 hlt'
   have hb:blk G T i=some b:=by simp[blk,hi,h1,hlt',g1]
   have e:=hs.kept.block b (hlt hb) (hun hm hb)
   exact⟨b,cs,t,g1,by rw[e];exact g2,g3,λq hq1=>hstill hm hb (g4 q hq1)⟩
 ·intro i k n xs hi
  by_cases hm:i∈ids
  ·obtain⟨q,o,hq,ho⟩:=hin i hm
   rw[hat q i o hq ho]at hi
   cases o<;>simp[Ad.ren]at hi
   rename_i ys
   obtain⟨rfl,rfl,rfl⟩:=hi
   obtain⟨h0,hl,A,c,h1,h2,h3,hc6,h4⟩:=hs.wd.mrow q _ _ _ ho
   refine⟨h0,by simpa using hl,A,c,by rw[(CP hn hq).2];exact h1,λn' v' e=>h2 n' v' (by rw[←(CP hn hq).2];exact e),h3,hc6,λhc=>?_⟩
   obtain⟨b,cs,t,g1,g2,g3,g4,g5⟩:=h4 hc
   refine⟨b,cs,t,g1,g2,g3,λp x v hx hv=>?_,g5⟩
   obtain⟨y,hy,rfl⟩:=Be hx
   exact⟨(g4 p y v hy hv).1,hren (g4 p y v hy hv).2⟩
  ·rw[hout i hm]at hi
   obtain⟨h0,hl,A,c,h1,h2,h3,hc6,h4⟩:=h.mrow i k n xs hi
   refine⟨h0,hl,A,c,by simpa[Gh.push,hm]using h1,λn' v' e=>h2 n' v' (by simpa[Gh.push,hm]using e),h3,hc6,λhlt'=>?_⟩
   obtain⟨b,cs,t,g1,g2,g3,g4,g5⟩:=h4 hlt'
   have hb:blk G T i=some b:=by simp[blk,hi,h1,hlt',g1]
   have e:=hs.kept.block b (hlt hb) (hun hm hb)
   exact⟨b,cs,t,g1,by rw[e];exact g2,g3,λp x v hx hv=>⟨(g4 p x v hx hv).1,(g4 p x v hx hv).2.mono hle⟩,λq=>hstill hm hb (g5 q)⟩
 ·intro i o xs hi
  by_cases hm:i∈ids
  ·obtain⟨q,o',hq,ho⟩:=hin i hm
   rw[hat q i o' hq ho]at hi
   cases o'<;>simp[Ad.ren]at hi
   rename_i o' ys
   obtain⟨rfl,rfl⟩:=hi
   obtain⟨b,vs,h1,h2,h3⟩:=hs.wd.raw q _ _ ho
   exact⟨b,vs,by rw[(CP hn hq).1];exact h1,h2,by simpa using h3.1,λj x v hx hv=>by
    obtain⟨y,hy,rfl⟩:=Be hx
    exact hren (h3.2 j y v hy hv)⟩
  ·rw[hout i hm]at hi
   obtain⟨b,vs,h1,h2,h3⟩:=h.raw i o xs hi
   have hb:blk G T i=some b:=by simp[blk,hi,h1]
   exact⟨b,vs,by simpa[Gh.push,hm]using h1,by rw[hs.kept.block b (hlt hb) (hun hm hb)];exact h2,h3.mono hle⟩
 ·intro i j b hi hj
  by_cases hm:i∈ids<;>by_cases hm':j∈ids
  ·obtain⟨k,o,hk,ho⟩:=hin i hm
   obtain⟨k',o',hk',ho'⟩:=hin j hm'
   have:=hs.wd.sep k k' b ((hblkin hk).1 hi) ((hblkin hk').1 hj)
   subst this
   rw[hk]at hk';injection hk'
  ·obtain⟨k,o,hk,ho⟩:=hin i hm
   exact(hcross hk ((hblkin hk).1 hi) hm' (by rw[←hblkout hm'];exact hj)).elim
  ·obtain⟨k,o,hk,ho⟩:=hin j hm'
   exact(hcross hk ((hblkin hk).1 hj) hm (by rw[←hblkout hm];exact hi)).elim
  ·exact h.sep i j b (by rw[←hblkout hm];exact hi) (by rw[←hblkout hm'];exact hj)
 ·exact hs.kept.mono λb _ hu k hk=>by
   obtain⟨i,hi⟩:=hpk hk
   exact hu i (hpin hi hk)
 ·intro i b hi
  by_cases hm:i∈ids
  ·obtain⟨k,o,hk,ho⟩:=hin i hm
   rcases hs.own k b ((hblkin hk).1 hi)with h1|⟨j,h1⟩
   ·exact .inl h1
   ·obtain⟨i',hi'⟩:=hpk h1
    exact .inr ⟨i',hpin hi' h1⟩
  ·exact .inr ⟨i,by rw[←hblkout hm];exact hi⟩
 ·intro b k v hv
  rcases hs.still b k v hv with h1|h1|⟨j,h1⟩
  ·exact .inl h1
  ·exact .inr (.inl h1)
  ·obtain⟨i',hi'⟩:=hpk h1
   exact .inr (.inr ⟨i',hpin hi' h1⟩)
theorem An.embed {P:Program} {f:FuncId} {args:List AV} {S:List Ad} {r:AV} {S':List Ad} (hd:An P f args S r S') (T:List Ad) (ids:List Nat) (hn:ids.Nodup) (hl:ids.length=S'.length) (hSl:S.length≤S'.length)
 (hT:∀(k:Nat) (o:Ad),S[k]? =some o->∃i,ids[k]? =some i∧T[i]? =some (o.ren (AK ids T.length))) (hD:∀(k i:Nat),S.length≤k->ids[k]? =some i->T[i]? =some .dead):
 An P f (args.map λx=>x.ren (AK ids T.length)) T (r.ren (AK ids T.length)) (CA T (ids.zip (S'.map λo=>o.ren (AK ids T.length)))):=by
 refine⟨hd.1,?_⟩
 intro G w vs hw hr
 refine(hd.2 (G.pull (AK ids T.length)) w vs (Wd.pull hw ids hn (by omega) hT hD).1 hr.pull).mono ?_
 rintro e w' ⟨v,G',rfl,hv,hs⟩
 have:=Bf.push hw ids hn hl hSl hT hD hs
 exact⟨v,_,rfl,this.2 r v hv,this.1⟩
theorem QQ {G:Gh} {T:List Ad} {w:World} (h:Wd G T w) {b i:Nat} {v:Value} (hv:G.imm b i=some v):b<w.heap.size:=
 World.block_lt_of_cell? w _ (h.imm b i v hv)
structure DH (w w':World) (o:Obj):Prop where
 os:w'.os=w.os
 tape:w'.tape=w.tape
 output:w'.output=w.output
 heap:w'.heap=w.heap.push o
theorem DH.alloc (w:World) (o:Obj):DH w (w.alloc o) o:=⟨rfl,rfl,rfl,rfl⟩
theorem DH.drew (w:World) (o:Obj):DH w (w.drew.alloc o) o:=⟨rfl,rfl,rfl,rfl⟩
theorem DH.old {w w':World} {o:Obj} (h:DH w w' o) {i:Nat} (hi:i<w.heap.size):w'.heap[i]? =w.heap[i]? :=by
 rw[h.heap,Array.getElem?_push_lt hi];simp[hi]
theorem DH.new {w w':World} {o:Obj} (h:DH w w' o):w'.heap[w.heap.size]? =some o:=by
 rw[h.heap];simp
theorem DH.size {w w':World} {o:Obj} (h:DH w w' o):w'.heap.size=w.heap.size+1:=by rw[h.heap];simp
theorem DH.kept {w w':World} {o:Obj} (h:DH w w' o) (K:Nat->Prop):C7 K w w':=⟨h.os,h.tape,h.output,by rw[h.size];omega,λ_ hi _=>h.old hi⟩
theorem DH.cell {w w':World} {o:Obj} (h:DH w w' o) {a:Addr} {v:Value} (hc:w.cell? a=some v):w'.cell? a=some v:=
 (World.cell?_of_block (w:=w) (h.old (World.block_lt_of_cell? w _ hc))).trans hc
def Gh.newLoc (G:Gh) (id b:Nat):Gh:=⟨G.imm,λi=>if i=id then some b else G.loc i,G.hist⟩
def Gh.newImm (G:Gh) (b:Nat) (vs:List Value):Gh:=⟨λb' i=>if b'=b then vs[i]? else G.imm b' i,G.loc,G.hist⟩
def Gh.newHist (G:Gh) (id n:Nat) (v:Value):Gh:=⟨G.imm,G.loc,λj m=>if j=id∧m=n then some v else G.hist j m⟩
theorem Wd.more {G:Gh} {T:List Ad} {w w':World} {o:Obj} (h:Wd G T w) (hm:DH w w' o):Wd G T w':=by
 refine⟨λb i v hv=>hm.cell (h.imm b i v hv),h.dom,λi xs hi=>?_,λj k n hj=>?_,λj k n xs hj=>?_,λi o xs hi=>?_,h.sep⟩
 ·obtain⟨b,cs,t,h1,h2,h3,h4,h5⟩:=h.obj i xs hi
  exact⟨b,cs,t,h1,by rw[hm.old (Array.getElem?_eq_some_iff.1 h2).1];exact h2,h3,h4,h5⟩
 ·obtain⟨h0,A,c,h1,h2,h3,h4⟩:=h.row j k n hj
  refine⟨h0,A,c,h1,h2,h3,λhlt=>?_⟩
  obtain⟨b,cs,t,g1,g2,g3,g4⟩:=h4 hlt
  exact⟨b,cs,t,g1,by rw[hm.old (Array.getElem?_eq_some_iff.1 g2).1];exact g2,g3,g4⟩
 ·obtain⟨h0,hl,A,c,h1,h2,h3,hc6,h4⟩:=h.mrow j k n xs hj
  refine⟨h0,hl,A,c,h1,h2,h3,hc6,λhlt=>?_⟩
  obtain⟨b,cs,t,g1,g2,g3,g4⟩:=h4 hlt
  exact⟨b,cs,t,g1,by rw[hm.old (Array.getElem?_eq_some_iff.1 g2).1];exact g2,g3,g4⟩
 ·obtain⟨b,vs,h1,h2,h3⟩:=h.raw i o xs hi
  exact⟨b,vs,h1,by rw[hm.old (Array.getElem?_eq_some_iff.1 h2).1];exact h2,h3⟩
theorem Bf.more {G:Gh} {T:List Ad} {w w':World} {o:Obj} (h:Wd G T w) (hm:DH w w' o):Bf G T w G T w':=
 ⟨Gh.Le.refl _,h.more hm,hm.kept _,λi _ hb=>.inr ⟨i,hb⟩,λ_ _ _ h=>.inl h⟩
theorem Wd.drawn {G:Gh} {T:List Ad} {w w':World} (h:Wd G T w) (hh:w'.heap=w.heap):Wd G T w':=by
 refine⟨λb i v hv=>(World.cell?_of_block (w:=w) (by rw[hh])).trans (h.imm b i v hv),h.dom,λi xs hi=>?_,λj k n hj=>?_,λj k n xs hj=>?_,λi o xs hi=>by rw[hh];exact h.raw i o xs hi,h.sep⟩
 ·rw[hh];exact h.obj i xs hi
 ·rw[hh];exact h.row j k n hj
 ·obtain⟨h0,hl,A,c,h1,h2,h3,hc6,h4⟩:=h.mrow j k n xs hj
  exact⟨h0,hl,A,c,h1,h2,h3,hc6,λhlt=>by rw[hh];exact h4 hlt⟩
theorem Wd.claim {G:Gh} {T:List Ad} {w:World} (h:Wd G T w) (b:Nat) (vs:List Value) (hc:∀(i:Nat) (v:Value),vs[i]? =some v->w.cell? ⟨b,i,none⟩=some v)
 (hn:∀i,G.imm b i=none) (hb:∀i,blk G T i≠some b):Wd (G.newImm b vs) T w∧G.Le (G.newImm b vs):=by
 have hle:G.Le (G.newImm b vs):=by
  refine⟨λb' i v hv=>?_,λ_ _ h=>h,λ_ _ _ h=>h⟩
  by_cases e:b'=b
  ·subst e;rw[hn i]at hv;cases hv
  ·simpa[Gh.newImm,e]using hv
 have hblk:∀i,blk (G.newImm b vs) T i=blk G T i:=λi=>rfl
 refine⟨⟨λb' i v hv=>?_,h.dom,λi xs hi=>?_,λj k n hj=>?_,λj k n xs hj=>?_,λi o xs hi=>?_,λi j b' hi hj=>h.sep i j b' hi hj⟩,hle⟩
 ·by_cases e:b'=b
  ·subst e;simp[Gh.newImm]at hv;exact hc i v hv
  ·simp[Gh.newImm,e]at hv;exact h.imm b' i v hv
 ·obtain⟨b',cs,t,h1,h2,h3,h4,h5⟩:=h.obj i xs hi
  refine⟨b',cs,t,h1,h2,h3,λk x v hx hv=>⟨(h4 k x v hx hv).1,(h4 k x v hx hv).2.mono hle⟩,λk=>?_⟩
  have:b'≠b:=by rintro rfl;exact hb i (by simp[blk,hi,h1])
  simpa[Gh.newImm,this]using h5 k
 ·obtain⟨h0,A,c,h1,h2,h3,h4⟩:=h.row j k n hj
  refine⟨h0,A,c,h1,h2,h3,λhlt=>?_⟩
  obtain⟨b',cs,t,g1,g2,g3,g4⟩:=h4 hlt
  refine⟨b',cs,t,g1,g2,g3,λi hi=>?_⟩
  have:b'≠b:=by rintro rfl;exact hb j (by simp[blk,hj,h1,hlt,g1])
  simpa[Gh.newImm,this]using g4 i hi
 ·obtain⟨h0,hl,A,c,h1,h2,h3,hc6,h4⟩:=h.mrow j k n xs hj
  refine⟨h0,hl,A,c,h1,h2,h3,hc6,λhlt=>?_⟩
  obtain⟨b',cs,t,g1,g2,g3,g4,g5⟩:=h4 hlt
  refine⟨b',cs,t,g1,g2,g3,λq x v hx hv=>⟨(g4 q x v hx hv).1,(g4 q x v hx hv).2.mono hle⟩,λi=>?_⟩
  have:b'≠b:=by rintro rfl;exact hb j (by simp[blk,hj,h1,hlt,g1])
  simpa[Gh.newImm,this]using g5 i
 ·obtain⟨b',vs',h1,h2,h3⟩:=h.raw i o xs hi
  exact⟨b',vs',h1,h2,h3.mono hle⟩
theorem R0.mono {G G':Gh} {w:World} {k:Nat} {xs:List AV} {A:Option Addr} {c:Nat} (h:R0 G w k xs A c) (hle:G.Le G') (hi:G'.imm=G.imm):R0 G' w k xs A c:=λhc=>by
 obtain⟨b,cs,t,g1,g2,g3,g4,g5⟩:=h hc
 exact⟨b,cs,t,g1,g2,g3,λq x v hx hv=>⟨(g4 q x v hx hv).1,(g4 q x v hx hv).2.mono hle⟩,λi=>by rw[hi];exact g5 i⟩
theorem Bf.new {G:Gh} {T:List Ad} {w w':World} {id:Nat} {xs:List AV} {vs:List Value} {t:TypeId} (h:Wd G T w) (hid:T[id]? =some .dead) (hr:Cn G xs vs) (ho:∀v∈vs,v.oneCell'=true)
 (hm:DH w w' (.cells vs.toArray t)):Bf G T w (G.newLoc id w.heap.size) (T.set id (.cells xs)) w':=by
 have hlt:id<T.length:=(List.getElem?_eq_some_iff.1 hid).1
 have hd:=h.dom id (.inr hid)
 have hw:=h.more hm
 have hle:G.Le (G.newLoc id w.heap.size):=by
  refine⟨λ_ _ _ h=>h,λi b hb=>?_,λ_ _ _ h=>h⟩
  by_cases e:i=id
  ·subst e;rw[hd.1]at hb;cases hb
  ·simpa[Gh.newLoc,e]using hb
 have hold:∀{i:Nat},i≠id->(T.set id (.cells xs))[i]? =T[i]? :=λ{i} e=>by rw[List.getElem?_set_ne (Ne.symm e)]
 have hnew:(T.set id (.cells xs))[id]? =some (.cells xs):=by simp[hlt]
 have hbnew:blk (G.newLoc id w.heap.size) (T.set id (.cells xs)) id=some w.heap.size:=by simp[blk,hnew,Gh.newLoc]
 have hbold:∀{i:Nat},i≠id->blk (G.newLoc id w.heap.size) (T.set id (.cells xs)) i=blk G T i:=by
  intro i e
  unfold blk
  rw[hold e]
  simp[Gh.newLoc,e]
 refine⟨hle,⟨hw.imm,λi hi=>?_,λi ys hi=>?_,λj k n hj=>?_,λj k n ys hj=>?_,λj o ys hj=>?_,λi j b hi hj=>?_⟩,hm.kept _,λi b hb=>?_,λ_ _ _ h=>.inl h⟩
 ·by_cases e:i=id
  ·subst e;rw[hnew]at hi;simp at hi
  ·rw[hold e]at hi;simpa[Gh.newLoc,e]using h.dom i hi
 ·by_cases e:i=id
  ·subst e
   rw[hnew]at hi;injection hi with hi;injection hi with hi;subst hi
   refine⟨w.heap.size,vs.toArray,t,by simp[Gh.newLoc],hm.new,by simpa using hr.1.symm,λk x v hx hv=>⟨ho v ?_,(hr.2 k x v hx (by simpa using hv)).mono hle⟩,λk=>?_⟩
   ·exact List.mem_of_getElem? (by simpa using hv)
   ·cases hc:G.imm w.heap.size k with
    |none=>exact hc
    |some u=>have:=QQ h hc;omega
  ·rw[hold e]at hi
   obtain⟨b,cs,t,h1,h2,h3,h4,h5⟩:=hw.obj i ys hi
   exact⟨b,cs,t,by simpa[Gh.newLoc,e]using h1,h2,h3,λk x v hx hv=>⟨(h4 k x v hx hv).1,(h4 k x v hx hv).2.mono hle⟩,h5⟩
 ·have e:j≠id:=by rintro rfl;rw[hnew]at hj;cases hj
  rw[hold e]at hj
  exact hw.row j k n hj
 ·have e:j≠id:=by rintro rfl;rw[hnew]at hj;cases hj
  rw[hold e]at hj
  obtain⟨h0,hl,A,c,h1,h2,h3,hc6,h4⟩:=hw.mrow j k n ys hj
  exact⟨h0,hl,A,c,h1,h2,h3,hc6,h4.mono hle rfl⟩
 ·have e:j≠id:=by rintro rfl;rw[hnew]at hj;cases hj
  rw[hold e]at hj
  obtain⟨b,us,h1,h2,h3⟩:=hw.raw j o ys hj
  exact⟨b,us,by simpa[Gh.newLoc,e]using h1,h2,h3.mono hle⟩
 ·by_cases e:i=id<;>by_cases e':j=id
  ·rw[e,e']
  ·rw[e,hbnew]at hi;injection hi with hi
   rw[hbold e']at hj
   have:=Ht h hj;omega
  ·rw[e',hbnew]at hj;injection hj with hj
   rw[hbold e]at hi
   have:=Ht h hi;omega
  ·rw[hbold e]at hi;rw[hbold e']at hj;exact h.sep i j b hi hj
 ·by_cases e:i=id
  ·rw[e,hbnew]at hb;injection hb with hb;left;omega
  ·rw[hbold e]at hb;exact .inr ⟨i,hb⟩
structure Kr (w w':World) (b:Nat) (o:Obj):Prop where
 os:w'.os=w.os
 tape:w'.tape=w.tape
 output:w'.output=w.output
 size:w'.heap.size=w.heap.size
 other:∀i,i≠b->w'.heap[i]? =w.heap[i]?
 here:w'.heap[b]? =some o
theorem Kr.cell {w w':World} {b:Nat} {o:Obj} (h:Kr w w' b o) {a:Addr} {v:Value} (ha:a.block≠b) (hc:w.cell? a=some v):w'.cell? a=some v:=
 (World.cell?_of_block (w:=w) (h.other _ ha)).trans hc
theorem Kr.kept {w w':World} {b:Nat} {o:Obj} (h:Kr w w' b o) {K:Nat->Prop} (hK:¬K b):C7 K w w':=
 ⟨h.os,h.tape,h.output,by rw[h.size];omega,λi _ hk=>h.other i (by rintro rfl;exact hK hk)⟩
theorem Ex {w:World} {b:Nat} {cs:Array Value} {t:TypeId} {fz:Nat×Nat} (h:w.heap[b]? =some (.cells cs t fz)) (i:Nat):w.cell? ⟨b,i,none⟩=cs[i]? :=cell_of_row w b i cs t fz h
theorem Bf.turn {G:Gh} {T:List Ad} {w w':World} {i b:Nat} {xs xs':List AV} {cs:Array Value} {t:TypeId} (h:Wd G T w) (hi:T[i]? =some (.cells xs)) (hb:G.loc i=some b)
 (hm:Kr w w' b (.cells cs t (0,0))) (hs:cs.size=xs'.length) (hc:∀(k:Nat) (x:AV) (v:Value),xs'[k]? =some x->cs[k]? =some v->v.oneCell'=true∧BE G x v):
 Bf G T w G (T.set i (.cells xs')) w':=by
 have hlt:i<T.length:=(List.getElem?_eq_some_iff.1 hi).1
 have hold:∀{j:Nat},j≠i->(T.set i (.cells xs'))[j]? =T[j]? :=λ{j} e=>by rw[List.getElem?_set_ne (Ne.symm e)]
 have hnew:(T.set i (.cells xs'))[i]? =some (.cells xs'):=by simp[hlt]
 have hbi:blk G T i=some b:=by simp[blk,hi,hb]
 have hblk:∀j,blk G (T.set i (.cells xs')) j=blk G T j:=by
  intro j
  by_cases e:j=i
  ·subst e;simp[blk,hnew,hi]
  ·simp[blk,hold e]
 have hfar:∀{j b':Nat},j≠i->blk G T j=some b'->b'≠b:=λ{j b'} e hj he=>e (h.sep j i b (he▸hj) hbi)
 have himm:∀k,G.imm b k=none:=by
  obtain⟨b',_,_,h1,_,_,_,h5⟩:=h.obj i xs hi
  rw[hb]at h1;injection h1 with h1;subst h1;exact h5
 refine⟨Gh.Le.refl _,⟨λb' k v hv=>?_,λj hj=>?_,λj ys hj=>?_,λj k n hj=>?_,λj k n ys hj=>?_,λj o ys hj=>?_,λj j' b' hj hj'=>?_⟩,hm.kept λhu=>hu i hbi,λj b' hj=>?_,λ_ _ _ h=>.inl h⟩
 ·refine hm.cell (λe=>?_) (h.imm b' k v hv)
  have e':b'=b:=e
  subst e';rw[himm k]at hv;cases hv
 ·by_cases e:j=i
  ·subst e;rw[hnew]at hj;simp at hj
  ·rw[hold e]at hj;exact h.dom j hj
 ·by_cases e:j=i
  ·subst e
   rw[hnew]at hj;injection hj with hj;injection hj with hj;subst hj
   exact⟨b,cs,t,hb,hm.here,hs,hc,himm⟩
  ·rw[hold e]at hj
   obtain⟨b',cs',t',h1,h2,h3⟩:=h.obj j ys hj
   exact⟨b',cs',t',h1,by rw[hm.other b' (hfar e (by simp[blk,hj,h1]))];exact h2,h3⟩
 ·have e:j≠i:=by rintro rfl;rw[hnew]at hj;cases hj
  rw[hold e]at hj
  obtain⟨h0,A,c,h1,h2,h3,h4⟩:=h.row j k n hj
  refine⟨h0,A,c,h1,h2,h3,λhlt=>?_⟩
  obtain⟨b',cs',t',g1,g2,g3⟩:=h4 hlt
  exact⟨b',cs',t',g1,by rw[hm.other b' (hfar e (by simp[blk,hj,h1,hlt,g1]))];exact g2,g3⟩
 ·have e:j≠i:=by rintro rfl;rw[hnew]at hj;cases hj
  rw[hold e]at hj
  obtain⟨h0,hl,A,c,h1,h2,h3,hc6,h4⟩:=h.mrow j k n ys hj
  refine⟨h0,hl,A,c,h1,h2,h3,hc6,λhlt=>?_⟩
  obtain⟨b',cs',t',g1,g2,g3⟩:=h4 hlt
  exact⟨b',cs',t',g1,by rw[hm.other b' (hfar e (by simp[blk,hj,h1,hlt,g1]))];exact g2,g3⟩
 ·have e:j≠i:=by rintro rfl;rw[hnew]at hj;cases hj
  rw[hold e]at hj
  obtain⟨b',us,h1,h2,h3⟩:=h.raw j o ys hj
  exact⟨b',us,h1,by rw[hm.other b' (hfar e (by simp[blk,hj,h1]))];exact h2,h3⟩
 ·rw[hblk]at hj hj';exact h.sep j j' b' hj hj'
 ·rw[hblk]at hj;exact .inr ⟨j,hj⟩
theorem Bf.rowFull {G:Gh} {T:List Ad} {w:World} {id k n:Nat} {A:Option Addr} (h:Wd G T w) (hid:T[id]? =some .dead) (hk:1≤k):
 Bf G T w (G.newHist id n (.slice A n n)) (T.set id (.row k n)) w∧(G.newHist id n (.slice A n n)).hist id n=some (.slice A n n):=by
 have hlt:id<T.length:=(List.getElem?_eq_some_iff.1 hid).1
 have hd:=h.dom id (.inr hid)
 have hle:G.Le (G.newHist id n (.slice A n n)):=by
  refine⟨λ_ _ _ h=>h,λ_ _ h=>h,λj m v hv=>?_⟩
  by_cases e:j=id
  ·subst e;rw[hd.2]at hv;cases hv
  ·simpa[Gh.newHist,e]using hv
 have hold:∀{i:Nat},i≠id->(T.set id (.row k n))[i]? =T[i]? :=λ{i} e=>by rw[List.getElem?_set_ne (Ne.symm e)]
 have hnew:(T.set id (.row k n))[id]? =some (.row k n):=by simp[hlt]
 have hhist:(G.newHist id n (.slice A n n)).hist id n=some (.slice A n n):=by simp[Gh.newHist]
 have hbnew:blk (G.newHist id n (.slice A n n)) (T.set id (.row k n)) id=none:=by
  simp only[blk,hnew,hhist];cases A<;>simp
 have hbold:∀{i:Nat},i≠id->blk (G.newHist id n (.slice A n n)) (T.set id (.row k n)) i=blk G T i:=by
  intro i e
  unfold blk
  rw[hold e]
  simp[Gh.newHist,e]
 refine⟨⟨hle,⟨h.imm,λi hi=>?_,λi ys hi=>?_,λj k' n' hj=>?_,λj k' n' ys hj=>?_,λi o ys hi=>?_,λi j b hi hj=>?_⟩,C7.refl _ _,λi b hb=>?_,λ_ _ _ h=>.inl h⟩,hhist⟩
 ·by_cases e:i=id
  ·subst e;rw[hnew]at hi;simp at hi
  ·rw[hold e]at hi;simpa[Gh.newHist,e]using h.dom i hi
 ·have e:i≠id:=by rintro rfl;rw[hnew]at hi;cases hi
  rw[hold e]at hi
  obtain⟨b,cs,t,h1,h2,h3,h4,h5⟩:=h.obj i ys hi
  exact⟨b,cs,t,h1,h2,h3,λk x v hx hv=>⟨(h4 k x v hx hv).1,(h4 k x v hx hv).2.mono hle⟩,h5⟩
 ·by_cases e:j=id
  ·subst e
   rw[hnew]at hj;injection hj with hj;injection hj with e1 e2;subst e1 e2
   refine⟨hk,A,n,hhist,λn' v' hv=>?_,Nat.le_refl _,λhlt=>by omega⟩
   by_cases e:n'=n
   ·omega
   ·simp[Gh.newHist,e]at hv;rw[hd.2]at hv;cases hv
  ·rw[hold e]at hj
   obtain⟨h0,A',c,h1,h2,h3⟩:=h.row j k' n' hj
   exact⟨h0,A',c,by simpa[Gh.newHist,e]using h1,λn' v' hv=>h2 n' v' (by simpa[Gh.newHist,e]using hv),h3⟩
 ·have e:j≠id:=by rintro rfl;rw[hnew]at hj;cases hj
  rw[hold e]at hj
  obtain⟨h0,hl,A',c,h1,h2,h3,hc6,h4⟩:=h.mrow j k' n' ys hj
  exact⟨h0,hl,A',c,by simpa[Gh.newHist,e]using h1,λn' v' hv=>h2 n' v' (by simpa[Gh.newHist,e]using hv),h3,hc6,h4.mono hle rfl⟩
 ·have e:i≠id:=by rintro rfl;rw[hnew]at hi;cases hi
  rw[hold e]at hi
  obtain⟨b,us,h1,h2,h3⟩:=h.raw i o ys hi
  exact⟨b,us,h1,h2,h3.mono hle⟩
 ·have e:i≠id:=by rintro rfl;rw[hbnew]at hi;cases hi
  have e':j≠id:=by rintro rfl;rw[hbnew]at hj;cases hj
  rw[hbold e]at hi;rw[hbold e']at hj;exact h.sep i j b hi hj
 ·have e:i≠id:=by rintro rfl;rw[hbnew]at hb;cases hb
  rw[hbold e]at hb;exact .inr ⟨i,hb⟩
theorem Bf.rowNew {G:Gh} {T:List Ad} {w w':World} {id k n c:Nat} {vs:List Value} {cs:Array Value} {t:TypeId} (h:Wd G T w) (hid:T[id]? =some .dead∨∃m,m<n∧T[id]? =some (.row k m)) (hk:1≤k)
 (hm:DH w w' (.cells cs t (0,0))) (hn:n≤c) (hcs:cs.size=c*k) (hvs:vs.length=n*k) (hc:∀(i:Nat) (v:Value),vs[i]? =some v->cs[i]? =some v):
 Bf G T w ((G.newImm w.heap.size vs).newHist id n (.slice (some ⟨w.heap.size,0,none⟩) n c)) (T.set id (.row k n)) w':=by
 have hlt:id<T.length:=by rcases hid with h|⟨m,_,h⟩<;>exact(List.getElem?_eq_some_iff.1 h).1
 have hw:=h.more hm
 have hnone:∀i,G.imm w.heap.size i=none:=λi=>by
  cases hc:G.imm w.heap.size i with
  |none=>rfl
  |some u=>have:=QQ h hc;omega
 have hbn:∀i,blk G T i≠some w.heap.size:=λi hi=>by have:=Ht h hi;omega
 obtain⟨hw1,hle1⟩:=hw.claim w.heap.size vs (λi v hv=>by rw[Ex hm.new];exact hc i v hv) hnone hbn
 have hhn:G.hist id n=none:=by
  rcases hid with h0|⟨m,hmn,h0⟩
  ·exact(h.dom id (.inr h0)).2 n
  ·obtain⟨_,A,c',_,h2,_⟩:=h.row id k m h0
   cases hv:G.hist id n with
   |none=>rfl
   |some u=>have:=h2 n u hv;omega
 generalize hG1:G.newImm w.heap.size vs=G1 at*
 have hG1h:G1.hist=G.hist:=by rw[←hG1];rfl
 have hG1l:G1.loc=G.loc:=by rw[←hG1];rfl
 generalize hG2:G1.newHist id n (.slice (some ⟨w.heap.size,0,none⟩) n c)=G2
 have hh2:∀j m,j≠id->G2.hist j m=G.hist j m:=λj m e=>by rw[←hG2,←hG1h];simp[Gh.newHist,e]
 have hhid:∀m,m≠n->G2.hist id m=G.hist id m:=λm e=>by rw[←hG2,←hG1h];simp[Gh.newHist,e]
 have hl2:G2.loc=G.loc:=by rw[←hG2,←hG1l];rfl
 have hi2:G2.imm=G1.imm:=by rw[←hG2];rfl
 have hle2:G1.Le G2:=by
  refine⟨λ_ _ _ h=>by rw[hi2];exact h,λ_ _ h=>by rw[hl2,←hG1l];exact h,λj m v hv=>?_⟩
  rw[hG1h]at hv
  by_cases e:j=id
  ·subst e
   by_cases e':m=n
   ·subst e';rw[hhn]at hv;cases hv
   ·rw[hhid m e'];exact hv
  ·rw[hh2 j m e];exact hv
 have hhist:G2.hist id n=some (.slice (some ⟨w.heap.size,0,none⟩) n c):=by rw[←hG2];simp[Gh.newHist]
 have hold:∀{i:Nat},i≠id->(T.set id (.row k n))[i]? =T[i]? :=λ{i} e=>by rw[List.getElem?_set_ne (Ne.symm e)]
 have hnew:(T.set id (.row k n))[id]? =some (.row k n):=by simp[hlt]
 have hbnew:∀{b:Nat},blk G2 (T.set id (.row k n)) id=some b->b=w.heap.size:=by
  intro b hb
  simp only[blk,hnew,hhist]at hb
  split at hb
  ·injection hb with hb;exact hb.symm
  ·cases hb
 have hbold:∀{i:Nat},i≠id->blk G2 (T.set id (.row k n)) i=blk G T i:=by
  intro i e
  unfold blk
  rw[hold e,hl2]
  simp only[hh2 i _ e]
 refine⟨hle1.trans hle2,⟨λb i v hv=>hw1.imm b i v (by rw[←hi2];exact hv),λi hi=>?_,λi ys hi=>?_,λj k' n' hj=>?_,λj k' n' ys hj=>?_,λi o ys hi=>?_,λi j b hi hj=>?_⟩,hm.kept _,λi b hb=>?_,λb i v hv=>?_⟩
 ·by_cases e:i=id
  ·subst e;rw[hnew]at hi;simp at hi
  ·rw[hold e]at hi
   refine⟨by rw[hl2];exact(h.dom i hi).1,λm=>by rw[hh2 i m e];exact(h.dom i hi).2 m⟩
 ·have e:i≠id:=by rintro rfl;rw[hnew]at hi;cases hi
  rw[hold e]at hi
  obtain⟨b,cs,t,h1,h2,h3,h4,h5⟩:=hw1.obj i ys hi
  exact⟨b,cs,t,by rw[hl2,←hG1l];exact h1,h2,h3,λk x v hx hv=>⟨(h4 k x v hx hv).1,(h4 k x v hx hv).2.mono hle2⟩,λk=>by rw[hi2];exact h5 k⟩
 ·by_cases e:j=id
  ·subst e
   rw[hnew]at hj;injection hj with hj;injection hj with e1 e2;subst e1 e2
   refine⟨hk,_,c,hhist,λn' v' hv=>?_,hn,λ_=>⟨w.heap.size,cs,t,rfl,hm.new,hcs,λi hi=>?_⟩⟩
   ·by_cases e:n'=n
    ·omega
    ·rw[hhid n' e]at hv
     rcases hid with h0|⟨m,hmn,h0⟩
     ·rw[(h.dom j (.inr h0)).2]at hv;cases hv
     ·obtain⟨_,A,c',_,h2,_⟩:=h.row j k m h0
      have:=h2 n' v' hv;omega
   ·rw[hi2,←hG1]
    simp only[Gh.newImm,if_true]
    exact List.getElem?_eq_none (by omega)
  ·rw[hold e]at hj
   obtain⟨h0,A',c',h1,h2,h3,h4⟩:=hw1.row j k' n' hj
   rw[hG1h]at h1 h2
   exact⟨h0,A',c',by rw[hh2 j _ e];exact h1,λn' v' hv=>h2 n' v' (by rw[←hh2 j _ e];exact hv),h3,λhl=>by
    obtain⟨b,cs,t,g1,g2,g3,g4⟩:=h4 hl
    exact⟨b,cs,t,g1,g2,g3,λi hi=>by rw[hi2];exact g4 i hi⟩⟩
 ·have e:j≠id:=by rintro rfl;rw[hnew]at hj;cases hj
  rw[hold e]at hj
  obtain⟨h0,hl,A',c',h1,h2,h3,hc6,h4⟩:=hw1.mrow j k' n' ys hj
  rw[hG1h]at h1 h2
  exact⟨h0,hl,A',c',by rw[hh2 j _ e];exact h1,λn' v' hv=>h2 n' v' (by rw[←hh2 j _ e];exact hv),h3,hc6,h4.mono hle2 hi2⟩
 ·have e:i≠id:=by rintro rfl;rw[hnew]at hi;cases hi
  rw[hold e]at hi
  obtain⟨b,us,h1,h2,h3⟩:=hw1.raw i o ys hi
  exact⟨b,us,by rw[hl2,←hG1l];exact h1,h2,h3.mono hle2⟩
 ·by_cases e:i=id<;>by_cases e':j=id
  ·rw[e,e']
  ·subst e
   have:=hbnew hi;subst this
   rw[hbold e']at hj;exact(hbn _ hj).elim
  ·subst e'
   have:=hbnew hj;subst this
   rw[hbold e]at hi;exact(hbn _ hi).elim
  ·rw[hbold e]at hi;rw[hbold e']at hj;exact h.sep i j b hi hj
 ·by_cases e:i=id
  ·subst e;left;rw[hbnew hb];omega
  ·rw[hbold e]at hb;exact .inr ⟨i,hb⟩
 ·rw[hi2,←hG1]at hv
  by_cases e:b=w.heap.size
  ·right;left;omega
  ·left;simpa[Gh.newImm,e]using hv
def Gh.moreImm (G:Gh) (b at_:Nat) (vs:List Value):Gh:=⟨λb' i=>if b'=b∧at_≤i then vs[i-at_]? else G.imm b' i,G.loc,G.hist⟩
theorem Bf.rowGrow {G:Gh} {T:List Ad} {w w':World} {j k n n' b c:Nat} {vs:List Value} {cs:Array Value} {t:TypeId} (h:Wd G T w) (hj:T[j]? =some (.row k n)) (hh:G.hist j n=some (.slice (some ⟨b,0,none⟩) n c))
 (hn:n<n') (hc:n'≤c) (hm:Kr w w' b (.cells cs t (0,0))) (hcs:cs.size=c*k) (hold:∀i,i<n*k->w.cell? ⟨b,i,none⟩=cs[i]?) (hvs:vs.length=(n'-n)*k)
 (hnew:∀(i:Nat) (v:Value),vs[i]? =some v->cs[n*k+i]? =some v):
 Bf G T w ((G.moreImm b (n*k) vs).newHist j n' (.slice (some ⟨b,0,none⟩) n' c)) (T.set j (.row k n')) w':=by
 have hlt:j<T.length:=(List.getElem?_eq_some_iff.1 hj).1
 obtain⟨hk,A,c',h1,h2,h3,h4⟩:=h.row j k n hj
 rw[hh]at h1;injection h1 with h1;injection h1 with e1 e2 e3;subst e1 e3
 obtain⟨b',cs0,t0,g1,g2,g3,g4⟩:=h4 (by omega)
 injection g1 with g1;injection g1 with g1;subst g1
 have hbj:blk G T j=some b:=by simp[blk,hj,hh,show n<c by omega]
 have hfar:∀{i b':Nat},i≠j->blk G T i=some b'->b'≠b:=λ{i b'} e hi he=>e (h.sep i j b (he▸hi) hbj)
 have hhn:G.hist j n'=none:=by
  cases hv:G.hist j n' with
  |none=>rfl
  |some u=>have:=h2 n' u hv;omega
 generalize hG2:(G.moreImm b (n*k) vs).newHist j n' (.slice (some ⟨b,0,none⟩) n' c)=G2
 have hh2:∀i m,i≠j->G2.hist i m=G.hist i m:=λi m e=>by rw[←hG2];simp[Gh.newHist,Gh.moreImm,e]
 have hhj:∀m,m≠n'->G2.hist j m=G.hist j m:=λm e=>by rw[←hG2];simp[Gh.newHist,Gh.moreImm,e]
 have hl2:G2.loc=G.loc:=by rw[←hG2];rfl
 have hhist:G2.hist j n'=some (.slice (some ⟨b,0,none⟩) n' c):=by rw[←hG2];simp[Gh.newHist]
 have hifar:∀b' i,b'≠b->G2.imm b' i=G.imm b' i:=λb' i e=>by rw[←hG2];simp[Gh.newHist,Gh.moreImm,e]
 have hilow:∀i,i<n*k->G2.imm b i=G.imm b i:=λi e=>by rw[←hG2];simp[Gh.newHist,Gh.moreImm,show¬n*k≤i by omega]
 have hihigh:∀i,n*k≤i->G2.imm b i=vs[i-n*k]? :=λi e=>by rw[←hG2];simp[Gh.newHist,Gh.moreImm,e]
 have hle:G.Le G2:=by
  refine⟨λb' i v hv=>?_,λ_ _ h=>by rw[hl2];exact h,λi m v hv=>?_⟩
  ·by_cases e:b'=b
   ·subst e
    by_cases e':i<n*k
    ·rw[hilow i e'];exact hv
    ·rw[g4 i (by omega)]at hv;cases hv
   ·rw[hifar b' i e];exact hv
  ·by_cases e:i=j
   ·subst e
    by_cases e':m=n'
    ·subst e';rw[hhn]at hv;cases hv
    ·rw[hhj m e'];exact hv
   ·rw[hh2 i m e];exact hv
 have hset:∀{i:Nat},i≠j->(T.set j (.row k n'))[i]? =T[i]? :=λ{i} e=>by rw[List.getElem?_set_ne (Ne.symm e)]
 have hsetj:(T.set j (.row k n'))[j]? =some (.row k n'):=by simp[hlt]
 have hbnew:∀{b':Nat},blk G2 (T.set j (.row k n')) j=some b'->b'=b:=by
  intro b' hb'
  simp only[blk,hsetj,hhist]at hb'
  split at hb'
  ·injection hb' with hb';exact hb'.symm
  ·cases hb'
 have hbold:∀{i:Nat},i≠j->blk G2 (T.set j (.row k n')) i=blk G T i:=by
  intro i e
  unfold blk
  rw[hset e,hl2]
  simp only[hh2 i _ e]
 refine⟨hle,⟨λb' i v hv=>?_,λi hi=>?_,λi ys hi=>?_,λi k' m hi=>?_,λi k' m ys hi=>?_,λi o ys hi=>?_,λi i' b' hi hi'=>?_⟩,hm.kept λhu=>hu j hbj,λi b' hb'=>?_,λb' i v hv=>?_⟩
 ·by_cases e:b'=b
  ·subst e
   rw[Ex hm.here]
   by_cases e':i<n*k
   ·rw[hilow i e']at hv
    rw[←hold i e'];exact h.imm b' i v hv
   ·rw[hihigh i (by omega)]at hv
    have:=hnew (i-n*k) v hv
    rwa[show n*k+(i-n*k)=i by omega]at this
  ·rw[hifar b' i e]at hv
   exact hm.cell e (h.imm b' i v hv)
 ·by_cases e:i=j
  ·subst e;rw[hsetj]at hi;simp at hi
  ·rw[hset e]at hi
   exact⟨by rw[hl2];exact(h.dom i hi).1,λm=>by rw[hh2 i m e];exact(h.dom i hi).2 m⟩
 ·have e:i≠j:=by rintro rfl;rw[hsetj]at hi;cases hi
  rw[hset e]at hi
  obtain⟨b',cs',t',q1,q2,q3,q4,q5⟩:=h.obj i ys hi
  have hne:b'≠b:=hfar e (by simp[blk,hi,q1])
  exact⟨b',cs',t',by rw[hl2];exact q1,by rw[hm.other b' hne];exact q2,q3,λk x v hx hv=>⟨(q4 k x v hx hv).1,(q4 k x v hx hv).2.mono hle⟩,λk=>by rw[hifar b' k hne];exact q5 k⟩
 ·by_cases e:i=j
  ·subst e
   rw[hsetj]at hi;injection hi with hi;injection hi with e1 e2;subst e1 e2
   refine⟨hk,_,c,hhist,λm' v' hv=>?_,hc,λ_=>⟨b,cs,t,rfl,hm.here,hcs,λq hq=>?_⟩⟩
   ·by_cases e:m'=n'
    ·omega
    ·rw[hhj m' e]at hv
     have:=h2 m' v' hv;omega
   ·have:n*k≤n'*k:=Nat.mul_le_mul_right _ (by omega)
    rw[hihigh q (by omega)]
    have hmul:(n'-n)*k=n'*k-n*k:=Nat.sub_mul _ _ _
    exact List.getElem?_eq_none (by omega)
  ·rw[hset e]at hi
   obtain⟨h0,A',c',q1,q2,q3,q4⟩:=h.row i k' m hi
   refine⟨h0,A',c',by rw[hh2 i _ e];exact q1,λn' v' hv=>q2 n' v' (by rw[←hh2 i _ e];exact hv),q3,λhl=>?_⟩
   obtain⟨b',cs',t',p1,p2,p3,p4⟩:=q4 hl
   have hne:b'≠b:=hfar e (by simp[blk,hi,q1,hl,p1])
   exact⟨b',cs',t',p1,by rw[hm.other b' hne];exact p2,p3,λq hq=>by rw[hifar b' q hne];exact p4 q hq⟩
 ·have e:i≠j:=by rintro rfl;rw[hsetj]at hi;cases hi
  rw[hset e]at hi
  obtain⟨h0,hl,A',c',q1,q2,q3,hc6,q4⟩:=h.mrow i k' m ys hi
  refine⟨h0,hl,A',c',by rw[hh2 i _ e];exact q1,λn' v' hv=>q2 n' v' (by rw[←hh2 i _ e];exact hv),q3,hc6,λhl=>?_⟩
  obtain⟨b',cs',t',p1,p2,p3,p4,p5⟩:=q4 hl
  have hne:b'≠b:=hfar e (by simp[blk,hi,q1,hl,p1])
  exact⟨b',cs',t',p1,by rw[hm.other b' hne];exact p2,p3,λq x v hx hv=>⟨(p4 q x v hx hv).1,(p4 q x v hx hv).2.mono hle⟩,λq=>by rw[hifar b' q hne];exact p5 q⟩
 ·have e:i≠j:=by rintro rfl;rw[hsetj]at hi;cases hi
  rw[hset e]at hi
  obtain⟨b',us,h1,h2,h3⟩:=h.raw i o ys hi
  exact⟨b',us,by rw[hl2];exact h1,by rw[hm.other b' (hfar e (by simp[blk,hi,h1]))];exact h2,h3.mono hle⟩
 ·by_cases e:i=j<;>by_cases e':i'=j
  ·rw[e,e']
  ·subst e
   have:=hbnew hi;subst this
   rw[hbold e']at hi';exact(hfar e' hi' rfl).elim
  ·subst e'
   have:=hbnew hi';subst this
   rw[hbold e]at hi;exact(hfar e hi rfl).elim
  ·rw[hbold e]at hi;rw[hbold e']at hi';exact h.sep i i' b' hi hi'
 ·by_cases e:i=j
  ·subst e;right;exact⟨i,by rw[hbnew hb'];exact hbj⟩
  ·rw[hbold e]at hb';exact .inr ⟨i,hb'⟩
 ·by_cases e:b'=b
  ·subst e;exact .inr (.inr ⟨j,hbj⟩)
  ·rw[hifar b' i e]at hv;exact .inl hv
theorem Z2 {G:Gh} {T:List Ad} {w:World} {j k n:Nat} {v:Value} (h:Wd G T w) (hid:T[j]? =some .dead∨∃m ys,T[j]? =some (.mrow k m ys)∧(m<n∨m=n∧G.hist j n=some v)):
 G.hist j n=none∨G.hist j n=some v:=by
 rcases hid with h0|⟨m,ys,h0,hmn⟩
 ·exact .inl ((h.dom j (.inr h0)).2 n)
 ·rcases hmn with hmn|⟨rfl,h1⟩
  ·obtain⟨_,_,A,c',_,h2,_⟩:=h.mrow j k m ys h0
   cases hv:G.hist j n with
   |none=>exact .inl rfl
   |some u=>have:=h2 n u hv;omega
  ·exact .inr h1
theorem Bf.mrowTo {G:Gh} {T:List Ad} {w w':World} {j k n c:Nat} {xs:List AV} {A:Option Addr} (h:Wd G T w) (hid:T[j]? =some .dead∨∃m ys,T[j]? =some (.mrow k m ys)∧(m<n∨m=n∧G.hist j n=some (.slice A n c)))
 (hk:1≤k) (hl:xs.length=n*k) (hn:n≤c) (hc6:c≤9223372036854775807) (hkept:C7 (λb=>blk G T j≠some b) w w')
 (hA:0<c->∃(b:Nat) (cs:Array Value) (t:TypeId),A=some ⟨b,0,none⟩∧w'.heap[b]? =some (.cells cs t (0,0))∧cs.size=c*k∧(∀(i:Nat) (x:AV) (v:Value),xs[i]? =some x->cs[i]? =some v->v.oneCell'=true∧BE G x v)∧(w.heap.size≤b∨blk G T j=some b)):
 Bf G T w (G.newHist j n (.slice A n c)) (T.set j (.mrow k n xs)) w':=by
 have hlt:j<T.length:=by rcases hid with h|⟨m,_,h,_⟩<;>exact(List.getElem?_eq_some_iff.1 h).1
 have hhn:=Z2 h hid
 have hhm:∀n' v',G.hist j n'=some v'->n'≤n:=λn' v' hv=>by
  rcases hid with h0|⟨m,ys,h0,hmn⟩
  ·rw[(h.dom j (.inr h0)).2]at hv;cases hv
  ·obtain⟨_,_,A,c',_,h2,_⟩:=h.mrow j k m ys h0
   have:=h2 n' v' hv
   rcases hmn with hmn|⟨rfl,_⟩<;>omega
 have hle:G.Le (G.newHist j n (.slice A n c)):=by
  refine⟨λ_ _ _ h=>h,λ_ _ h=>h,λi m v hv=>?_⟩
  by_cases e:i=j∧m=n
  ·obtain⟨rfl,rfl⟩:=e
   rcases hhn with h1|h1
   ·rw[h1]at hv;cases hv
   ·rw[h1]at hv;simpa[Gh.newHist]using hv
  ·simpa[Gh.newHist,e]using hv
 have himm:∀b i v,G.imm b i=some v->blk G T j≠some b:=λb i v hv hb=>by
  rcases hid with h0|⟨m,ys,h0,_⟩
  ·simp[blk,h0]at hb
  ·obtain⟨_,_,A',c',h1,_,_,_,h4⟩:=h.mrow j k m ys h0
   by_cases hc:0<c'
   ·obtain⟨b',cs,t,e1,_,_,_,g5⟩:=h4 hc
    subst e1
    simp[blk,h0,h1,hc]at hb
    subst hb
    rw[g5 i]at hv;cases hv
   ·cases A'<;>simp[blk,h0,h1,hc]at hb
 have hhist:(G.newHist j n (.slice A n c)).hist j n=some (.slice A n c):=by simp[Gh.newHist]
 have hho:∀i m,i≠j->(G.newHist j n (.slice A n c)).hist i m=G.hist i m:=λi m e=>by simp[Gh.newHist,e]
 have hold:∀{i:Nat},i≠j->(T.set j (.mrow k n xs))[i]? =T[i]? :=λ{i} e=>by rw[List.getElem?_set_ne (Ne.symm e)]
 have hnew:(T.set j (.mrow k n xs))[j]? =some (.mrow k n xs):=by simp[hlt]
 have hbold:∀{i:Nat},i≠j->blk (G.newHist j n (.slice A n c)) (T.set j (.mrow k n xs)) i=blk G T i:=by
  intro i e
  unfold blk
  rw[hold e]
  simp only[hho i _ e]
  rfl
 have hbnew:∀{b:Nat},blk (G.newHist j n (.slice A n c)) (T.set j (.mrow k n xs)) j=some b->w.heap.size≤b∨blk G T j=some b:=by
  intro b hb
  by_cases hc:0<c
  ·obtain⟨b',cs,t,e1,_,_,_,g5⟩:=hA hc
   subst e1
   simp[blk,hnew,hhist,hc]at hb
   subst hb;exact g5
  ·cases A<;>simp[blk,hnew,hhist,hc]at hb
 have hfar:∀{i b:Nat},i≠j->blk G T i=some b->w'.heap[b]? =w.heap[b]? :=λ{i b} e hb=>
  hkept.block b (Ht h hb) λhb'=>e (h.sep i j b hb hb')
 refine⟨hle,⟨λb i v hv=>hkept.cell (h.imm b i v hv) (himm b i v hv),λi hi=>?_,λi ys hi=>?_,λi k' n' hi=>?_,λi k' n' ys hi=>?_,λi o ys hi=>?_,λi i' b hi hi'=>?_⟩,hkept.mono λb _ hu=>hu j,λi b hb=>?_,λ_ _ _ h=>.inl h⟩
 ·by_cases e:i=j
  ·subst e;rw[hnew]at hi;simp at hi
  ·rw[hold e]at hi
   exact⟨(h.dom i hi).1,λm=>by rw[hho i m e];exact(h.dom i hi).2 m⟩
 ·have e:i≠j:=by rintro rfl;rw[hnew]at hi;cases hi
  rw[hold e]at hi
  obtain⟨b,cs,t,h1,h2,h3,h4,h5⟩:=h.obj i ys hi
  exact⟨b,cs,t,h1,by rw[hfar e (by simp[blk,hi,h1])];exact h2,h3,λk x v hx hv=>⟨(h4 k x v hx hv).1,(h4 k x v hx hv).2.mono hle⟩,h5⟩
 ·have e:i≠j:=by rintro rfl;rw[hnew]at hi;cases hi
  rw[hold e]at hi
  obtain⟨h0,A',c',h1,h2,h3,h4⟩:=h.row i k' n' hi
  refine⟨h0,A',c',by rw[hho i _ e];exact h1,λm v hv=>h2 m v (by rw[←hho i _ e];exact hv),h3,λhl=>?_⟩
  obtain⟨b,cs,t,g1,g2,g3⟩:=h4 hl
  exact⟨b,cs,t,g1,by rw[hfar e (by simp[blk,hi,h1,hl,g1])];exact g2,g3⟩
 ·by_cases e:i=j
  ·subst e
   rw[hnew]at hi;injection hi with hi;injection hi with e1 e2 e3;subst e1 e2 e3
   refine⟨hk,hl,A,c,hhist,λm v hv=>?_,hn,hc6,λhc=>?_⟩
   ·by_cases e:m=n
    ·omega
    ·simp[Gh.newHist,e]at hv;exact hhm m v hv
   ·obtain⟨b,cs,t,e1,g2,g3,g4,g5⟩:=hA hc
    refine⟨b,cs,t,e1,g2,g3,λi x v hx hv=>⟨(g4 i x v hx hv).1,(g4 i x v hx hv).2.mono hle⟩,λq=>?_⟩
    cases hv:G.imm b q with
    |none=>exact hv
    |some u=>
     rcases g5 with g5|g5
     ·have:=QQ h hv;omega
     ·exact(himm b q u hv g5).elim
  ·rw[hold e]at hi
   obtain⟨h0,hl',A',c',h1,h2,h3,h6,h4⟩:=h.mrow i k' n' ys hi
   refine⟨h0,hl',A',c',by rw[hho i _ e];exact h1,λm v hv=>h2 m v (by rw[←hho i _ e];exact hv),h3,h6,λhc=>?_⟩
   obtain⟨b,cs,t,g1,g2,g3,g4,g5⟩:=h4 hc
   exact⟨b,cs,t,g1,by rw[hfar e (by simp[blk,hi,h1,hc,g1])];exact g2,g3,λq x v hx hv=>⟨(g4 q x v hx hv).1,(g4 q x v hx hv).2.mono hle⟩,g5⟩
 ·have e:i≠j:=by rintro rfl;rw[hnew]at hi;cases hi
  rw[hold e]at hi
  obtain⟨b,us,h1,h2,h3⟩:=h.raw i o ys hi
  exact⟨b,us,h1,by rw[hfar e (by simp[blk,hi,h1])];exact h2,h3.mono hle⟩
 ·have key:∀{i:Nat},i≠j->blk (G.newHist j n (.slice A n c)) (T.set j (.mrow k n xs)) i=some b->blk (G.newHist j n (.slice A n c)) (T.set j (.mrow k n xs)) j=some b->False:=λ{i} e h1 h2=>by
   rw[hbold e]at h1
   rcases hbnew h2 with h3|h3
   ·have:=Ht h h1;omega
   ·exact e (h.sep i j b h1 h3)
  by_cases e:i=j<;>by_cases e':i'=j
  ·rw[e,e']
  ·subst e;exact(key e' hi' hi).elim
  ·subst e';exact(key e hi hi').elim
  ·rw[hbold e]at hi;rw[hbold e']at hi';exact h.sep i i' b hi hi'
 ·by_cases e:i=j
  ·subst e
   rcases hbnew hb with h3|h3
   ·exact .inl h3
   ·exact .inr ⟨i,h3⟩
  ·rw[hbold e]at hb;exact .inr ⟨i,hb⟩
theorem E5.no_cell {w:World} {b:Nat} {o:E5} {vs:List Value} (h:w.heap[b]? =some (o.obj vs)) (i:Nat):w.cell? ⟨b,i,none⟩=none:=by
 cases o<;>simp[World.cell?,h,E5.obj]
theorem Bf.rawNew {G:Gh} {T:List Ad} {w w':World} {id:Nat} {o:E5} {xs:List AV} {vs:List Value} (h:Wd G T w) (hid:T[id]? =some .dead) (hr:Cn G xs vs)
 (hm:DH w w' (o.obj vs)):Bf G T w (G.newLoc id w.heap.size) (T.set id (.raw o xs)) w':=by
 have hlt:id<T.length:=(List.getElem?_eq_some_iff.1 hid).1
 have hd:=h.dom id (.inr hid)
 have hw:=h.more hm
 have hle:G.Le (G.newLoc id w.heap.size):=by
  refine⟨λ_ _ _ h=>h,λi b hb=>?_,λ_ _ _ h=>h⟩
  by_cases e:i=id
  ·subst e;rw[hd.1]at hb;cases hb
  ·simpa[Gh.newLoc,e]using hb
 have hold:∀{i:Nat},i≠id->(T.set id (.raw o xs))[i]? =T[i]? :=λ{i} e=>by rw[List.getElem?_set_ne (Ne.symm e)]
 have hnew:(T.set id (.raw o xs))[id]? =some (.raw o xs):=by simp[hlt]
 have hbnew:blk (G.newLoc id w.heap.size) (T.set id (.raw o xs)) id=some w.heap.size:=by simp[blk,hnew,Gh.newLoc]
 have hbold:∀{i:Nat},i≠id->blk (G.newLoc id w.heap.size) (T.set id (.raw o xs)) i=blk G T i:=by
  intro i e
  unfold blk
  rw[hold e]
  simp[Gh.newLoc,e]
 refine⟨hle,⟨hw.imm,λi hi=>?_,λi ys hi=>?_,λj k n hj=>?_,λj k n ys hj=>?_,λj o' ys hj=>?_,λi j b hi hj=>?_⟩,hm.kept _,λi b hb=>?_,λ_ _ _ h=>.inl h⟩
 ·by_cases e:i=id
  ·subst e;rw[hnew]at hi;simp at hi
  ·rw[hold e]at hi;simpa[Gh.newLoc,e]using h.dom i hi
 ·have e:i≠id:=by rintro rfl;rw[hnew]at hi;cases hi
  rw[hold e]at hi
  obtain⟨b,cs,t,h1,h2,h3,h4,h5⟩:=hw.obj i ys hi
  exact⟨b,cs,t,by simpa[Gh.newLoc,e]using h1,h2,h3,λk x v hx hv=>⟨(h4 k x v hx hv).1,(h4 k x v hx hv).2.mono hle⟩,h5⟩
 ·have e:j≠id:=by rintro rfl;rw[hnew]at hj;cases hj
  rw[hold e]at hj
  exact hw.row j k n hj
 ·have e:j≠id:=by rintro rfl;rw[hnew]at hj;cases hj
  rw[hold e]at hj
  obtain⟨h0,hl,A,c,h1,h2,h3,hc6,h4⟩:=hw.mrow j k n ys hj
  exact⟨h0,hl,A,c,h1,h2,h3,hc6,h4.mono hle rfl⟩
 ·by_cases e:j=id
  ·subst e
   rw[hnew]at hj;injection hj with hj;injection hj with e1 e2;subst e1 e2
   exact⟨w.heap.size,vs,by simp[Gh.newLoc],hm.new,hr.mono hle⟩
  ·rw[hold e]at hj
   obtain⟨b,us,h1,h2,h3⟩:=hw.raw j o' ys hj
   exact⟨b,us,by simpa[Gh.newLoc,e]using h1,h2,h3.mono hle⟩
 ·by_cases e:i=id<;>by_cases e':j=id
  ·rw[e,e']
  ·rw[e,hbnew]at hi;injection hi with hi
   rw[hbold e']at hj
   have:=Ht h hj;omega
  ·rw[e',hbnew]at hj;injection hj with hj
   rw[hbold e]at hi
   have:=Ht h hi;omega
  ·rw[hbold e]at hi;rw[hbold e']at hj;exact h.sep i j b hi hj
 ·by_cases e:i=id
  ·rw[e,hbnew]at hb;injection hb with hb;left;omega
  ·rw[hbold e]at hb;exact .inr ⟨i,hb⟩
theorem Bf.rawTo {G:Gh} {T:List Ad} {w w':World} {i b:Nat} {o o':E5} {xs xs':List AV} {vs':List Value} (h:Wd G T w) (hi:T[i]? =some (.raw o xs)) (hb:G.loc i=some b)
 (hm:Kr w w' b (o'.obj vs')) (hr:Cn G xs' vs'):Bf G T w G (T.set i (.raw o' xs')) w':=by
 have hlt:i<T.length:=(List.getElem?_eq_some_iff.1 hi).1
 have hold:∀{j:Nat},j≠i->(T.set i (.raw o' xs'))[j]? =T[j]? :=λ{j} e=>by rw[List.getElem?_set_ne (Ne.symm e)]
 have hnew:(T.set i (.raw o' xs'))[i]? =some (.raw o' xs'):=by simp[hlt]
 have hbi:blk G T i=some b:=by simp[blk,hi,hb]
 have hblk:∀j,blk G (T.set i (.raw o' xs')) j=blk G T j:=by
  intro j
  by_cases e:j=i
  ·subst e;simp[blk,hnew,hi]
  ·simp[blk,hold e]
 have hfar:∀{j b':Nat},j≠i->blk G T j=some b'->b'≠b:=λ{j b'} e hj he=>e (h.sep j i b (he▸hj) hbi)
 refine⟨Gh.Le.refl _,⟨λb' k v hv=>?_,λj hj=>?_,λj ys hj=>?_,λj k n hj=>?_,λj k n ys hj=>?_,λj o ys hj=>?_,λj j' b' hj hj'=>?_⟩,hm.kept λhu=>hu i hbi,λj b' hj=>?_,λ_ _ _ h=>.inl h⟩
 ·refine hm.cell (λe=>?_) (h.imm b' k v hv)
  have e':b'=b:=e
  subst e'
  obtain⟨b2,vs,h1,h2,_⟩:=h.raw i o xs hi
  rw[hb]at h1;injection h1 with h1;subst h1
  have:=h.imm b' k v hv
  rw[E5.no_cell h2]at this;cases this
 ·by_cases e:j=i
  ·subst e;rw[hnew]at hj;simp at hj
  ·rw[hold e]at hj;exact h.dom j hj
 ·have e:j≠i:=by rintro rfl;rw[hnew]at hj;cases hj
  rw[hold e]at hj
  obtain⟨b',cs',t',h1,h2,h3⟩:=h.obj j ys hj
  exact⟨b',cs',t',h1,by rw[hm.other b' (hfar e (by simp[blk,hj,h1]))];exact h2,h3⟩
 ·have e:j≠i:=by rintro rfl;rw[hnew]at hj;cases hj
  rw[hold e]at hj
  obtain⟨h0,A,c,h1,h2,h3,h4⟩:=h.row j k n hj
  refine⟨h0,A,c,h1,h2,h3,λhlt=>?_⟩
  obtain⟨b',cs',t',g1,g2,g3⟩:=h4 hlt
  exact⟨b',cs',t',g1,by rw[hm.other b' (hfar e (by simp[blk,hj,h1,hlt,g1]))];exact g2,g3⟩
 ·have e:j≠i:=by rintro rfl;rw[hnew]at hj;cases hj
  rw[hold e]at hj
  obtain⟨h0,hl,A,c,h1,h2,h3,hc6,h4⟩:=h.mrow j k n ys hj
  refine⟨h0,hl,A,c,h1,h2,h3,hc6,λhlt=>?_⟩
  obtain⟨b',cs',t',g1,g2,g3⟩:=h4 hlt
  exact⟨b',cs',t',g1,by rw[hm.other b' (hfar e (by simp[blk,hj,h1,hlt,g1]))];exact g2,g3⟩
 ·by_cases e:j=i
  ·subst e
   rw[hnew]at hj;injection hj with hj;injection hj with e1 e2;subst e1 e2
   exact⟨b,vs',hb,hm.here,hr⟩
  ·rw[hold e]at hj
   obtain⟨b',us,h1,h2,h3⟩:=h.raw j o ys hj
   exact⟨b',us,h1,by rw[hm.other b' (hfar e (by simp[blk,hj,h1]))];exact h2,h3⟩
 ·rw[hblk]at hj hj';exact h.sep j j' b' hj hj'
 ·rw[hblk]at hj;exact .inr ⟨j,hj⟩
theorem Bf.still_ {G:Gh} {T:List Ad} {w w':World} {cs:Array Value} {t:TypeId} {fz:Nat×Nat} {vs:List Value} (h:Wd G T w) (hm:DH w w' (.cells cs t fz)) (hc:∀(i:Nat) (v:Value),vs[i]? =some v->cs[i]? =some v):
 Bf G T w (G.newImm w.heap.size vs) T w':=by
 have hnone:∀i,G.imm w.heap.size i=none:=λi=>by
  cases hc:G.imm w.heap.size i with
  |none=>rfl
  |some u=>have:=QQ h hc;omega
 obtain⟨hw1,hle1⟩:=(h.more hm).claim w.heap.size vs (λi v hv=>by rw[Ex hm.new];exact hc i v hv) hnone (λi hi=>by have:=Ht h hi;omega)
 refine⟨hle1,hw1,hm.kept _,λi b hb=>.inr ⟨i,hb⟩,λb i v hv=>?_⟩
 by_cases e:b=w.heap.size
 ·right;left;omega
 ·left;simpa[Gh.newImm,e]using hv
def AV.ofC1:Value->AV
 | .slice none 0 0=>.sl .full 1 []
 |v=>.lit v
def AV.ofC:Value->AV
 | .agg cs=>if cs.all (·.oneCell')then .agg (cs.toList.map AV.ofC1)else .any
 |v=>AV.ofC1 v
theorem JS (G:Gh) (v:Value):BE G (AV.ofC1 v) v:=by
 unfold AV.ofC1
 split
 ·have:=BE.sl (G:=G) (t:=.full) (k:=1) (xs:=[]) (A:=none) (c:=0) (b:=0) (o:=0) (λ_ _=>undef) (by simp) (by simp) (by simp) (by simp) (by simp) (by simp) rfl
  simpa using this
 ·exact .lit v
theorem Ajj (G:Gh) (v:Value):BE G (AV.ofC v) v:=by
 unfold AV.ofC
 split
 ·rename_i cs
  split
  ·rename_i h
   refine .agg (by simp) (λj v hv=>?_) (λj x v hx hv=>?_)
   ·rw[Array.all_eq_true]at h
    obtain⟨hj,rfl⟩:=Array.getElem?_eq_some_iff.1 hv
    exact h j hj
   ·obtain⟨y,hy,rfl⟩:=Be hx
    have:y=v:=by simpa[hv]using hy.symm
    subst this;exact JS G y
  ·exact .any _
 ·exact JS G _
def ev (tm:List AV):Operand->AV
 | .tmp t=>tm.getD t .any
 | .const v=>AV.ofC v
 | .global _=>.any
 | .func f=>.fn f [] []
def AV.parts:AV->Option (List AV)
 | .agg xs=>some xs
 | .any=>none
 | .tup _=>none
 |x=>if x.one then some [x]else none
theorem BE.parts {G:Gh} {x:AV} {v:Value} (r:BE G x v) {cs:List AV} (h:x.parts=some cs):cs=x.cells∧Cn G cs v.cells.toList∧∀u∈v.cells.toList,u.oneCell'=true:=by
 have one:∀{x:AV} {v:Value},BE G x v->x.one=true->v.oneCell'=true->Cn G [x] [v]∧∀u∈[v],u.oneCell'=true:=
  λr _ hv=>⟨Cn.cons r (Cn.nil G),λu hu=>by simp at hu;subst hu;exact hv⟩
 cases r with
 |any=>simp[AV.parts]at h
 |tup=>simp[AV.parts]at h
 |agg h0 h2 h3=>
  simp[AV.parts]at h
  subst h
  refine⟨rfl,⟨by simpa[Value.cells]using h0,λj x v hx hv=>h3 j x v hx (by simpa[Value.cells]using hv)⟩,λu hu=>?_⟩
  obtain⟨j,hj,rfl⟩:=List.getElem_of_mem hu
  refine h2 j _ (by simp[Value.cells])
 |lit v=>
  simp only[AV.parts]at h
  split at h
  ·rename_i ho
   injection h with h;subst h
   have hv:v.oneCell'=true:=ho
   cases v<;>first|(exact⟨rfl,one (.lit _) ho hv⟩)|(simp[Value.oneCell']at hv)
  ·cases h
 |ref hl=>simp[AV.parts,AV.one]at h;subst h;exact⟨rfl,one (.ref hl) rfl rfl⟩
 |iptr vs h1 h2 h3=>simp[AV.parts,AV.one]at h;subst h;exact⟨rfl,one (.iptr vs h1 h2 h3) rfl rfl⟩
 |sl vs hc hA hk h1 h2 h3 ht=>simp[AV.parts,AV.one]at h;subst h;exact⟨rfl,one (.sl vs hc hA hk h1 h2 h3 ht) rfl rfl⟩
 |fn hf hc h1 h2=>simp[AV.parts,AV.one]at h;subst h;exact⟨rfl,one (.fn hf hc h1 h2) rfl rfl⟩
 |ms q1 q2=>simp[AV.parts,AV.one]at h;subst h;exact⟨rfl,one (.ms q1 q2) rfl rfl⟩
 |mapr q1=>simp[AV.parts,AV.one]at h;subst h;exact⟨rfl,one (.mapr q1) rfl rfl⟩
 |yv q1=>simp[AV.parts,AV.one]at h;subst h;exact⟨rfl,one (.yv q1) rfl rfl⟩
 |mref q1=>simp[AV.parts,AV.one]at h;subst h;exact⟨rfl,one (.mref q1) rfl rfl⟩
 |slc q1=>
  simp[AV.parts,AV.one]at h
  subst h
  have ho:=q1.oneC rfl
  cases q1 with
  |sl vs hc hA hk h1 h2 h3 ht=>exact⟨rfl,one (.slc (.sl vs hc hA hk h1 h2 h3 ht)) rfl ho⟩
def CB:List AV->Nat->List AV->List AV
 |xs,_,[]=>xs
 |xs,o,c::cs=>CB (xs.set o c) (o+1) cs
def Ka:List AV->List (Nat×Nat×AV)->Option (List AV)
 |cells,[]=>some cells
 |cells,(off,size,x)::rest=>match x.parts with
  |some cs=>if cs.length=size∧off+size≤cells.length then Ka (CB cells off cs) rest else none
  |none=>none
inductive I where
 |mov (x:Operand)
 |pick (c a b:Operand)
 |new (zs:List Value)
 |box (x:Operand)
 |build (zs:List Value) (parts:List (Nat×Nat×Operand))
 |bsl (k:Nat) (xs:List Operand)
 |load (n:Option Nat) (a:Operand)
 |store (n:Nat) (a x:Operand)
 |nilc (x:Operand)
 |bin (op:BinOp) (x y:Operand)
 |eqb (neg:Bool) (x y:Operand)
 |eqa (neg:Bool) (n:Nat) (x y:Operand)
 |eqp (neg:Bool) (x y:Operand)
 |un (op:UnOp) (x:Operand)
 |cvt (k:IntKind) (x:Operand)
 |b2s (x:Operand)
 |s2b (x:Operand)
 |slice (k:Nat) (x:Operand) (lo hi mx:Option Operand)
 |sstr (x:Operand) (lo hi:Option Operand)
 |fadr (off:Nat) (x:Operand)
 |fld (off:Nat) (n:Option Nat) (x:Operand)
 |iadr (k:Nat) (x ix:Operand)
 |aadr (len k:Nat) (x ix:Operand)
 |idx (len k:Nat) (n:Option Nat) (x ix:Operand)
 |sidx (x ix:Operand)
 |ext (x:Operand) (i:Nat)
 |mkf (f:FuncId) (first caps:List Operand)
 |call (f:Operand) (args:List Operand)
 |app (k bytes:Nat) (s x:Operand)
 |len (str:Bool) (x:Operand)
 |lenc (n:Nat)
 |mx (isMax:Bool) (x y:Operand)
 |mksl (k bytes:Nat) (l c:Operand)
 |mkmap
 |mlook (x k:Operand)
 |mput (x k v:Operand)
 |eqf (neg:Bool) (x y:Operand)
abbrev KT:=AV->List Nat->List (Nat×Ad)->List Ad->Prop
def BG (n:Nat):List Ad->List (Nat×Ad)
 |[]=>[]
 |o::os=>(n,o)::BG (n+1) os
def Cx (op:BinOp) (k:IntKind) (a b:Int):Int:=
 match op with
 | .and=>k.wrap (BitVec.ofInt k.bits a&&&BitVec.ofInt k.bits b).toNat
 | .or=>k.wrap (BitVec.ofInt k.bits a|||BitVec.ofInt k.bits b).toNat
 | .xor=>k.wrap (BitVec.ofInt k.bits a^^^BitVec.ofInt k.bits b).toNat
 |_=>k.wrap (BitVec.ofInt k.bits a&&& ~~~BitVec.ofInt k.bits b).toNat
def Db (op:BinOp) (k:IntKind) (a:Int) (k':IntKind) (b:Int) (K:KT):Prop:=
 match op with
 | .add=>k=k'∧K (.lit (.int k (k.wrap (a+b)))) [] [] []
 | .sub=>k=k'∧K (.lit (.int k (k.wrap (a-b)))) [] [] []
 | .mul=>k=k'∧K (.lit (.int k (k.wrap (a*b)))) [] [] []
 | .quo=>k=k'∧b≠0∧K (.lit (.int k (k.wrap (a.tdiv b)))) [] [] []
 | .rem=>k=k'∧b≠0∧K (.lit (.int k (a.tmod b))) [] [] []
 | .and=>k=k'∧K (.lit (.int k (Cx .and k a b))) [] [] []
 | .or=>k=k'∧K (.lit (.int k (Cx .or k a b))) [] [] []
 | .xor=>k=k'∧K (.lit (.int k (Cx .xor k a b))) [] [] []
 | .andNot=>k=k'∧K (.lit (.int k (Cx .andNot k a b))) [] [] []
 | .shl=>0≤b∧K (.lit (.int k (k.wrap (a*2^min b.toNat k.bits)))) [] [] []
 | .shr=>0≤b∧K (.lit (.int k (a.fdiv (2^min b.toNat k.bits)))) [] [] []
 | .eql=>k=k'∧K (.lit (.bool (a==b))) [] [] []
 | .neq=>k=k'∧K (.lit (.bool (a != b))) [] [] []
 | .lss=>k=k'∧K (.lit (.bool (decide (a<b)))) [] [] []
 | .leq=>k=k'∧K (.lit (.bool (decide (a≤b)))) [] [] []
 | .gtr=>k=k'∧K (.lit (.bool (decide (b<a)))) [] [] []
 | .geq=>k=k'∧K (.lit (.bool (decide (b≤a)))) [] [] []
def Wt (op:BinOp) (a b:ByteArray) (K:KT):Prop:=
 match op with
 | .eql=>K (.lit (.bool (a.toList==b.toList))) [] [] []
 | .neq=>K (.lit (.bool (!(a.toList==b.toList)))) [] [] []
 |_=>False
def TF (op:BinOp) (x y:AV) (K:KT):Prop:=
 match x,y with
 | .lit (.int k a),.lit (.int k' b)=>Db op k a k' b K
 | .lit (.string a),.lit (.string b)=>Wt op a b K
 |_,_=>False
def Nb (c x y:AV) (K:KT):Prop:=
 match c with
 | .lit (.bool t)=>K (bif t then x else y) [] [] []
 |_=>False
def Ng (x:AV) (n:Nat) (K:KT):Prop:=
 match x.parts with
 |some cs=>K (.ref n 0) [] [] [.cells cs]
 |none=>False
def Hc (cells:List AV) (parts:List (Nat×Nat×AV)) (K:KT):Prop:=
 match Ka cells parts with
 |some cs=>K (.agg cs) [] [] []
 |none=>False
def ZX (k:Nat) (x:AV):Bool:=match x.parts with
 |some cs=>cs.length==k
 |none=>false
def Akj (k:Nat) (xs:List AV) (K:KT):Prop:=xs.all (ZX k)=true∧K (.sl .full k xs) [] [] []
def E8 (ys:List AV):List AV:=(ys.map AV.cells).flatten
def Ww (n:Option Nat) (j g o:Nat) (S:List Ad) (K:KT):Prop:=
 match S[j]? with
 |some (.mrow _ m xs)=>m=g∧match n with
  |none=>match xs[o]? with
   |some x=>K x [j] [] []
   |none=>False
  |some n=>0<n∧o+n≤xs.length∧K (.agg ((xs.drop o).take n)) [j] [] []
 |_=>False
def QH (n:Nat) (j g o:Nat) (x:AV) (S:List Ad) (K:KT):Prop:=
 match S[j]? with
 |some (.mrow k m xs)=>match x.parts with
  |some cs=>m=g∧0<n∧cs.length=n∧o+n≤xs.length∧K .any [j] [(j,.mrow k m (CB xs o cs))] []
  |none=>False
 |_=>False
def J4 (n:Option Nat) (a:AV) (S:List Ad) (K:KT):Prop:=
 match a with
 | .mref j g o=>Ww n j g o S K
 | .iptr cs=>match n with
   |none=>match cs with
    |x::_=>K x [] [] []
    |[]=>False
   |some n=>n≤cs.length∧K (.agg (cs.take n)) [] [] []
 | .ref i o=>match S[i]? with
   |some (.cells xs)=>match n with
    |none=>match xs[o]? with
     |some x=>K x [i] [] []
     |none=>False
    |some n=>o+n≤xs.length∧K (.agg ((xs.drop o).take n)) [i] [] []
   |_=>False
 |_=>False
def Jk (n:Nat) (a x:AV) (S:List Ad) (K:KT):Prop:=
 match a with
 | .mref j g o=>QH n j g o x S K
 | .ref i o=>match S[i]? with
   |some (.cells xs)=>match x.parts with
    |some cs=>cs.length=n∧o+n≤xs.length∧K .any [i] [(i,.cells (CB xs o cs))] []
    |none=>False
   |_=>False
 |_=>False
def QJ (x:AV) (K:KT):Prop:=
 match x with
 | .ref i o=>K (.ref i o) [] [] []
 | .iptr cs=>K (.iptr cs) [] [] []
 | .mref j g o=>K (.mref j g o) [] [] []
 |_=>False
def Wz (neg:Bool) (x y:AV) (K:KT):Prop:=
 match x,y with
 | .lit (.bool a),.lit (.bool b)=>K (.lit (.bool (if neg then !(a==b)else a==b))) [] [] []
 |_,_=>False
def ET:List AV->List AV->Bool
 | .lit (.int _ a)::xs,.lit (.int _ b)::ys=>(a==b)&&ET xs ys
 |_,_=>true
def IP:List AV->List AV->Bool
 |[],[]=>true
 | .lit (.int k _)::xs,.lit (.int k' _)::ys=>k==k'&&IP xs ys
 |_,_=>false
def WA (neg:Bool) (n:Nat) (x y:AV) (K:KT):Prop:=
 match x,y with
 | .agg xs,.agg ys=>xs.length=n∧IP xs ys=true∧K (.lit (.bool (if neg then !(ET xs ys)else ET xs ys))) [] [] []
 |_,_=>False
def TD (neg:Bool) (x y:AV) (K:KT):Prop:=
 match x,y with
 | .ref _ _,.lit (.pointer none)=>K (.lit (.bool neg)) [] [] []
 | .lit (.pointer none),.lit (.pointer none)=>K (.lit (.bool !neg)) [] [] []
 |_,_=>False
def kUn (op:UnOp) (x:AV) (K:KT):Prop:=
 match op,x with
 | .neg,.lit (.int k n)=>K (.lit (.int k (k.wrap (0-n)))) [] [] []
 | .xor,.lit (.int k n)=>K (.lit (.int k (Cx .xor k (if k.signed then-1 else k.max) n))) [] [] []
 | .not,.lit (.bool b)=>K (.lit (.bool !b)) [] [] []
 |_,_=>False
def WB (k:IntKind) (x:AV) (K:KT):Prop:=
 match x with
 | .lit (.int _ n)=>K (.lit (.int k (k.wrap n))) [] [] []
 |_=>False
def AV.isU8:AV->Bool
 | .lit (.int .u8 _)=>true
 |_=>false
def AV.byte:AV->UInt8
 | .lit (.int _ n)=>UInt8.ofNat n.toNat
 |_=>0
def Fg (xs:List AV):ByteArray:=⟨(xs.map AV.byte).toArray⟩
def WC (x:AV) (K:KT):Prop:=
 match x with
 | .sl _ k xs=>(k=1∨xs=[])∧xs.all (·.isU8)=true∧K (.lit (.string (Fg xs))) [] [] []
 |_=>False
def Wu (x:AV) (K:KT):Prop:=
 match x with
 | .lit (.string s)=>s.size≤140737488355328∧K (.sl .none 1 (s.data.toList.map λb=>.lit (.int .u8 b.toNat))) [] [] []
 |_=>False
def AV.i:AV->Option Int
 | .lit (.int _ n)=>some n
 |_=>none
def bnd (x:Option AV) (d:Int):Option Int:=
 match x with
 |none=>some d
 |some x=>x.i
def Adz (t:Gl) (lo hi mx:Option AV):Gl:=
 match lo,hi,mx with
 |none,none,none=>t
 |some _,none,none=>match t with
  | .full=>.full
  |_=>.none
 |_,_,_=>.none
def D3 (k:Nat) (x:AV) (lo hi mx:Option AV) (K:KT):Prop:=
 match x with
 | .sl t ks xs=>match bnd lo 0,bnd hi xs.length with
   |some l,some h=>(ks=k∨xs=[])∧0≤l∧l≤h∧h≤xs.length∧match mx with
    |none=>K (.sl (Adz t lo hi none) ks ((xs.drop l.toNat).take (h-l).toNat)) [] [] []
    |some m=>(hi.isSome=true∧m.i=some h)∧K (.sl .full ks ((xs.drop l.toNat).take (h-l).toNat)) [] [] []
   |_,_=>False
 |_=>False
def Ps (x:AV) (lo hi:Option AV) (K:KT):Prop:=
 match x with
 | .lit (.string s)=>match bnd lo 0,bnd hi s.size with
   |some l,some h=>0≤l∧l≤h∧h≤s.size∧K (.lit (.string (s.extract l.toNat h.toNat))) [] [] []
   |_,_=>False
 |_=>False
def J5 (off:Nat) (x:AV) (K:KT):Prop:=
 match x with
 | .ref i o=>K (.ref i (o+off)) [] [] []
 | .iptr cs=>K (.iptr (cs.drop off)) [] [] []
 | .mref j g o=>K (.mref j g (o+off)) [] [] []
 |_=>False
def KM (off:Nat) (n:Option Nat) (x:AV) (K:KT):Prop:=
 match x with
 | .agg xs=>match n with
   |none=>match xs[off]? with
    |some x=>K x [] [] []
    |none=>False
   |some n=>off+n≤xs.length∧K (.agg ((xs.drop off).take n)) [] [] []
 |_=>False
def Ll (k:Nat) (x ix:AV) (K:KT):Prop:=
 match x,ix with
 | .sl _ ks xs,.lit (.int _ i)=>ks=k∧0≤i∧i<xs.length∧K (.iptr (xs.getD i.toNat .any).cells) [] [] []
 | .ms j g,.lit (.int _ i)=>0≤i∧i<g∧K (.mref j g (i.toNat*k)) [] [] []
 |_,_=>False
def Lm (len k:Nat) (x ix:AV) (K:KT):Prop:=
 match x,ix with
 | .ref i o,.lit (.int _ n)=>0≤n∧n<len∧K (.ref i (o+n.toNat*k)) [] [] []
 | .iptr cs,.lit (.int _ n)=>0≤n∧n<len∧K (.iptr (cs.drop (n.toNat*k))) [] [] []
 |_,_=>False
def Wx (len k:Nat) (n:Option Nat) (x ix:AV) (K:KT):Prop:=
 match x,ix with
 | .agg xs,.lit (.int _ i)=>0≤i∧i<len∧KM (i.toNat*k) n (.agg xs) K
 |_,_=>False
def Pt (x ix:AV) (K:KT):Prop:=
 match x,ix with
 | .lit (.string s),.lit (.int _ i)=>0≤i∧i<s.size∧K (.lit (.int .u8 (s.data.toList.getD i.toNat 0).toNat)) [] [] []
 |_,_=>False
def Wy (x:AV) (i:Nat) (K:KT):Prop:=
 match x with
 | .tup xs=>match xs[i]? with
   |some x=>K x [] [] []
   |none=>False
 |_=>False
def Yd (k bytes j g ky:Nat) (ys:List AV) (S:List Ad) (K:KT):Prop:=
 match S[j]? with
 |some (.mrow k' m xs)=>k'=k∧m=g∧(ky=k∨ys=[])∧(g+ys.length)*bytes≤140737488355328∧K (.ms j (g+ys.length)) [j] [(j,.mrow k (g+ys.length) (xs++E8 ys))] []
 |_=>False
def QL (k bytes:Nat) (s x:AV) (S:List Ad) (K:KT):Prop:=
 match s,x with
 | .ms j g,.sl _ ky ys=>Yd k bytes j g ky ys S K
 | .sl t _ xs,.slc ky ys=>t=.full∧xs=[]∧(ky=k∨ys=[])∧ys.length*bytes≤140737488355328∧K (.ms S.length ys.length) [] [] [.mrow k ys.length (E8 ys)]
 | .sl t ks xs,.sl _ ky ys=>(ks=k∨xs=[])∧(ky=k∨ys=[])∧(xs.length+ys.length)*bytes≤140737488355328∧match t with
   | .full=>K (.sl (.row S.length) k (xs++ys)) [] [] [.row k (xs.length+ys.length)]
   | .row j=>S[j]? =some (.row k xs.length)∧K (.sl (.row j) k (xs++ys)) [j] [(j,.row k (xs.length+ys.length))] []
   | .none=>False
 |_,_=>False
def Nc (str:Bool) (x:AV) (K:KT):Prop:=
 match str,x with
 |false,.sl _ _ xs=>K (.lit (.int .i64 xs.length)) [] [] []
 |false,.ms _ g=>K (.lit (.int .i64 g)) [] [] []
 |true,.lit (.string s)=>K (.lit (.int .i64 s.size)) [] [] []
 |_,_=>False
def kMx (isMax:Bool) (x y:AV) (K:KT):Prop:=
 match x,y with
 | .lit (.int k a),.lit (.int _ b)=>K (.lit (.int k (if isMax then(if b>a then b else a)else if b<a then b else a))) [] [] []
 |_,_=>False
def LZ (k:Nat):AV:=if k=1 then .any else .agg (List.replicate k .any)
theorem NS (k:Nat):(LZ k).cells=List.replicate k .any:=by
 unfold LZ
 by_cases h:k=1
 ·rw[if_pos h,h];rfl
 ·rw[if_neg h];rfl
def Lj (k bytes:Nat) (l c:AV) (n:Nat) (K:KT):Prop:=
 match l,c with
 | .lit (.int .i64 l),.lit (.int .i64 c)=>(0≤l∧l≤c)∧0≤c∧c*bytes≤140737488355328∧c<9223372036854775808∧K (.sl (.row n) k (List.replicate l.toNat (LZ k))) [] [] [.row k l.toNat]
 |_,_=>False
def FU:List (Int×Int)->Int->Int
 |[],_=>0
 |p::l,a=>if a==p.1 then p.2 else FU l a
def HI:List (Int×Int)->Int->Int->List (Int×Int)
 |[],a,v=>[(a,v)]
 |p::l,a,v=>if a==p.1 then(a,v)::l else p::HI l a v
def KL (x k:AV) (S:List Ad) (K:KT):Prop:=
 match x,k with
 | .mapr i,.lit (.int .u32 a)=>match S[i]? with
   |some (.raw (.imap l) _)=>K (.lit (.int .i64 (FU l a))) [i] [] []
   |_=>False
 |_,_=>False
def Pu (x k v:AV) (S:List Ad) (K:KT):Prop:=
 match x,k,v with
 | .mapr i,.lit (.int .u32 a),.lit (.int .i64 u)=>match S[i]? with
   |some (.raw (.imap l) _)=>K .any [i] [(i,.raw (.imap (HI l a u)) [])] []
   |_=>False
 |_,_,_=>False
def TE (neg:Bool) (x y:AV) (K:KT):Prop:=
 match x,y with
 | .fn _ _ _,.lit .nilFunc=>K (.lit (.bool neg)) [] [] []
 | .lit .nilFunc,.lit .nilFunc=>K (.lit (.bool !neg)) [] [] []
 |_,_=>False
def YC (P:Program) (q:Nat) (args:List AV) (S S':List Ad) (go:Bool):Prop:=
 ∀G w l (vs:Array Value),Wd G S w->G.loc q=some l->Cn G args vs.toList->∃f tmps as body,(Instr.yield l vs).run P w=.ok (.round l f tmps as body) w∧
  RoundIn Fence.wide 0 P l f tmps as body w λe w'=>∃G',e=.returned (.bool go)∧Bf G S w G' S' w'
def Ahw (P:Program) (q:Nat) (args:List AV) (S:List Ad) (K:KT):Prop:=
 ∃go S',(∀R,YC P q args (S++R) (S'++R) go)∧S'.length=S.length∧0<S.length∧K (.lit (.bool go)) (List.range S.length) ((List.range S.length).zip S') []
def Aty (P:Program) (f:FuncId) (args:List AV) (S:List Ad) (v:AV) (rd:List Nat) (upd:List (Nat×Ad)) (new:List Ad):Prop:=
 ∀T,(∀i∈rd,T[i]? =S[i]?)->(∀p∈upd,p.1∈rd)->(∀p∈BG S.length new,T[p.1]? =some .dead)->An P f args T v (CA T (upd++BG S.length new))
def Aa (P:Program) (f:FuncId) (args:List AV) (S:List Ad) (K:KT):Prop:=∃v rd upd new,Aty P f args S v rd upd new∧(∀p∈upd,p.1∈rd)∧(∀i∈rd,i<S.length)∧K v rd upd new
def Nf (P:Program) (f:AV) (args:List AV) (S:List Ad) (K:KT):Prop:=
 match f with
 | .fn f first cap=>Aa P f (first++args++cap) S K
 | .yv q=>Ahw P q args S K
 |_=>False
def Cd (P:Program) (i:I) (ρ:Operand->AV) (S:List Ad) (K:KT):Prop:=
 match i with
 | .mov x=>K (ρ x) [] [] []
 | .pick c a b=>Nb (ρ c) (ρ a) (ρ b) K
 | .new zs=>K (.ref S.length 0) [] [] [.cells (zs.map AV.ofC1)]
 | .box x=>Ng (ρ x) S.length K
 | .build zs parts=>Hc (zs.map AV.ofC1) (parts.map λ(a,b,x)=>(a,b,ρ x)) K
 | .bsl k xs=>Akj k (xs.map ρ) K
 | .load n a=>J4 n (ρ a) S K
 | .store n a x=>Jk n (ρ a) (ρ x) S K
 | .nilc x=>QJ (ρ x) K
 | .bin op x y=>TF op (ρ x) (ρ y) K
 | .eqb neg x y=>Wz neg (ρ x) (ρ y) K
 | .eqa neg n x y=>WA neg n (ρ x) (ρ y) K
 | .eqp neg x y=>TD neg (ρ x) (ρ y) K
 | .un op x=>kUn op (ρ x) K
 | .cvt k x=>WB k (ρ x) K
 | .b2s x=>WC (ρ x) K
 | .s2b x=>Wu (ρ x) K
 | .slice k x lo hi mx=>D3 k (ρ x) (lo.map ρ) (hi.map ρ) (mx.map ρ) K
 | .sstr x lo hi=>Ps (ρ x) (lo.map ρ) (hi.map ρ) K
 | .fadr off x=>J5 off (ρ x) K
 | .fld off n x=>KM off n (ρ x) K
 | .iadr k x ix=>Ll k (ρ x) (ρ ix) K
 | .aadr len k x ix=>Lm len k (ρ x) (ρ ix) K
 | .idx len k n x ix=>Wx len k n (ρ x) (ρ ix) K
 | .sidx x ix=>Pt (ρ x) (ρ ix) K
 | .ext x i=>Wy (ρ x) i K
 | .mkf f a b=>K (.fn f (a.map ρ) (b.map ρ)) [] [] []
 | .call f args=>Nf P (ρ f) (args.map ρ) S K
 | .app k bytes s x=>QL k bytes (ρ s) (ρ x) S K
 | .len s x=>Nc s (ρ x) K
 | .lenc n=>K (.lit (.int .i64 n)) [] [] []
 | .mx b x y=>kMx b (ρ x) (ρ y) K
 | .mksl k bytes l c=>Lj k bytes (ρ l) (ρ c) S.length K
 | .mkmap=>K (.mapr S.length) [] [] [.raw (.imap []) []]
 | .mlook x k=>KL (ρ x) (ρ k) S K
 | .mput x k v=>Pu (ρ x) (ρ k) (ρ v) S K
 | .eqf neg x y=>TE neg (ρ x) (ρ y) K
def Fs (P:Program) (t:TypeId):Option Nat:=(P.info? t).map (·.size)
def DV (P:Program) (t:TypeId):Option (Option Nat):=
 match P.underlying t with
 |none=>none
 |some (.struct _)=>(Fs P t).map some
 |some (.array _ _)=>(Fs P t).map some
 |some _=>some none
def Ey (P:Program) (t:TypeId):Option (List Value):=((P.info? t).bind (·.zero)).bind λz=>if z.cells.toList.all (·.oneCell')then some z.cells.toList else none
def H3 (P:Program):Nat->TypeId->Option Nat
 |0,_=>none
 |d+1,t=>match P.underlying t with
  |some (.int _)=>some 1
  |some (.struct fs)=>if P.stoodInHeld t then none else
   fs.toList.foldl (λacc f=>acc.bind λoff=>match H3 P d f.type,DV P f.type with
    |some s,some a=>if f.name≠ "_"∧f.offset=off∧Fs P f.type=some s∧(a=none->s=1)then some (off+s)else none
    |_,_=>none) (some 0)
  |some (.array n e)=>match H3 P d e,DV P e with
   |some s,some a=>if Fs P e=some s∧(a=none->s=1)then some (n*s)else none
   |_,_=>none
  |_=>none
def LP {α β:Type} (f:α->Option β):List α->Option (List β)
 |[]=>some []
 |x::xs=>match f x,LP f xs with
  |some y,some ys=>some (y::ys)
  |_,_=>none
def H_ (P:Program) (o:Oper):Option I:=
 match o.op with
 | .move x=>some (.mov x)
 | .assign x=>some (.mov x)
 | .pick c a b=>some (.pick c a b)
 | .alloc e=>(Ey P e).map .new
 | .box _ x=>some (.box x)
 | .build t parts=>match P.underlying t,Ey P t with
   |some (.struct fs),some z=>if fs.all (λf=>(Fs P f.type).isSome)then(LP (λp:Nat×Operand=>(fs[p.1]?).bind λf=>(Fs P f.type).map λs=>(f.offset,s,p.2)) parts.toList).map (.build z)else none
   |some (.array _ e),some z=>(Fs P e).map λs=>.build z (parts.toList.map λp=>(p.1*s,s,p.2))
   |_,_=>none
 | .buildSlice t n parts=>match P.underlying t with
   |some (.slice e)=>match Fs P e,Ey P e with
    |some s,some z=>if z.length=s∧1≤s∧n*s≤16777216∧parts.toList.map (·.1)=List.range n then some (.bsl s (parts.toList.map (·.2)))else none
    |_,_=>none
   |_=>none
 | .load t a=>(DV P t).map λn=>.load n a
 | .store t a x=>(Fs P t).map λn=>.store n a x
 | .nilCheck x=>some (.nilc x)
 | .binOp op t x y _=>match P.underlying t with
   |some (.int _)=>some (.bin op x y)
   |some .string=>some (.bin op x y)
   |some .bool=>if op=.eql then some (.eqb false x y)else if op=.neq then some (.eqb true x y)else none
   |some (.pointer e)=>if(Fs P e).isSome then(if op=.eql then some (.eqp false x y)else if op=.neq then some (.eqp true x y)else none)else none
   |some (.struct _)=>if P.eqGuardType P.depth t then none else match H3 P 9 t,DV P t with
    |some n,some (some _)=>if op=.eql then some (.eqa false n x y)else if op=.neq then some (.eqa true n x y)else none
    |_,_=>none
   |some (.array _ _)=>if P.eqGuardType P.depth t then none else match H3 P 9 t,DV P t with
    |some n,some (some _)=>if op=.eql then some (.eqa false n x y)else if op=.neq then some (.eqa true n x y)else none
    |_,_=>none
   |some (.func _ _ _)=>if op=.eql then some (.eqf false x y)else if op=.neq then some (.eqf true x y)else none
   |_=>none
 | .unOp op _ x=>some (.un op x)
 | .convert src dst x=>match P.underlying src,P.underlying dst with
   |some (.int _),some (.int k)=>some (.cvt k x)
   |some (.slice e),some .string=>match P.underlying e with
    |some (.int .u8)=>some (.b2s x)
    |_=>none
   |some .string,some (.slice e)=>match P.underlying e with
    |some (.int .u8)=>some (.s2b x)
    |_=>none
   |_,_=>none
 | .slice t x lo hi mx=>match P.underlying t with
   |some (.slice e)=>(Fs P e).map λs=>.slice s x lo hi mx
   |some .string=>if mx.isNone then some (.sstr x lo hi)else none
   |_=>none
 | .fieldAddr t x f=>match P.underlying t with
   |some (.struct fs)=>match fs[f]? with
    |some fd=>match Fs P fd.type with
     |some s=>if 1≤s then some (.fadr fd.offset x)else none
     |none=>none
    |none=>none
   |_=>none
 | .field t x f=>match P.underlying t with
   |some (.struct fs)=>match fs[f]? with
    |some fd=>(DV P fd.type).map λn=>.fld fd.offset n x
    |none=>none
   |_=>none
 | .indexAddr t x ix=>match P.underlying t with
   |some (.slice e)=>(Fs P e).map λs=>.iadr s x ix
   |some (.array n e)=>(Fs P e).map λs=>.aadr n s x ix
   |_=>none
 | .index t x ix=>match P.underlying t with
   |some (.array n e)=>match Fs P e,DV P e with
    |some s,some a=>some (.idx n s a x ix)
    |_,_=>none
   |some .string=>some (.sidx x ix)
   |_=>none
 | .extract x i=>some (.ext x i)
 | .makeFunc (.func f) a b=>some (.mkf f a.toList b.toList)
 | .makeSlice t l c=>match P.underlying t with
   |some (.slice e)=>match P.info? e,Ey P e with
    |some i,some z=>if z.length=i.size∧1≤i.size then some (.mksl i.size i.bytes l c)else none
    |_,_=>none
   |_=>none
 | .makeMap _ none=>some .mkmap
 | .lookup t x k false=>match P.underlying t with
   |some (.map kt e)=>match P.underlying kt,(P.info? e).bind (·.zero)with
    |some (.int .u32),some (.int .i64 0)=>some (.mlook x k)
    |_,_=>none
   |_=>none
 | .mapUpdate t x k v=>match P.underlying t with
   |some (.map kt _)=>match P.underlying kt with
    |some (.int .u32)=>some (.mput x k v)
    |_=>none
   |_=>none
 | .call c=>match c.callee with
   | .value f=>some (.call f c.args.toList)
   | .builtin .append=>match c.argTypes.toList,c.args.toList with
     |[t,t'],[s,x]=>match P.underlying t with
      |some (.slice e)=>match P.info? e,Ey P e with
       |some i,some z=>if t=t'∧z.length=i.size∧1≤i.size∧1≤i.bytes then some (.app i.size i.bytes s x)else none
       |_,_=>none
      |_=>none
     |_,_=>none
   | .builtin .len=>match c.argTypes.toList,c.args.toList with
     |[t],[x]=>match P.underlying t with
      |some (.slice _)=>some (.len false x)
      |some .string=>some (.len true x)
      |some (.array n _)=>some (.lenc n)
      |_=>none
     |_,_=>none
   | .builtin .max=>match c.args.toList with
     |[x,y]=>some (.mx true x y)
     |_=>none
   | .builtin .min=>match c.args.toList with
     |[x,y]=>some (.mx false x y)
     |_=>none
   |_=>none
 |_=>none
def OwpG (P:Program) (o:Oper) (a:Act) (w:World) (K:Act->World->Prop) (Q:Exit->Act->World->Prop):Prop:=
 o.wp P a w K Q∨∃l f tmps as body,(execOp a.eval o).run P w=.ok (.round l f tmps as body) w∧RoundIn Fence.wide 0 P l f tmps as body w λe w'=>∃v,e=.returned v∧K (a.put o.dst v) w'
def Eff (P:Program) (o:Oper) (ρ:Operand->AV) (S:List Ad) (v:AV) (rd:List Nat) (upd:List (Nat×Ad)) (new:List Ad):Prop:=
 ∀T,(∀i∈rd,T[i]? =S[i]?)->(∀p∈BG S.length new,T[p.1]? =some .dead)->∀G a w,Wd G T w->(∀x∈o.op.operands,BE G (ρ x) (a.eval x))->
  ∀(K:Act->World->Prop) (Q:Exit->Act->World->Prop),(∀v' w' G',BE G' v v'->Bf G T w G' (CA T (upd++BG S.length new)) w'->K (a.put o.dst v') w')->OwpG P o a w K Q
def Fsq (P:Program) (o:Oper) (ρ:Operand->AV) (S:List Ad) (K:KT):Prop:=∃v rd upd new,Eff P o ρ S v rd upd new∧(∀p∈upd,p.1∈rd)∧(∀i∈rd,i<S.length)∧K v rd upd new
section
variable {P:Program} {o:Oper} {ρ:Operand->AV} {S:List Ad} {K:KT}
theorem BS (b i j:Nat):(⟨b,i,none⟩:Addr).add j=⟨b,i+j,none⟩:=by
 unfold Addr.add
 split
 ·rename_i h;subst h;rfl
 ·rfl
theorem AS {v:AV} (h:∀(G:Gh) (a:Act) (w:World) (T:List Ad),Wd G T w->(∀x∈o.op.operands,BE G (ρ x) (a.eval x))->∃v',(execOp a.eval o).run P w=.ok (.value v') w∧BE G v v')
 (hK:K v [] [] []):Fsq P o ρ S K:=by
 refine⟨v,[],[],[],λT _ _ G a w hw hr K Q hk=>?_,(λp hp=>by cases hp),(λi hi=>by simp at hi),hK⟩
 obtain⟨v',hrun,hv⟩:=h G a w T hw hr
 refine .inl ?_
 unfold Oper.wp
 rw[hrun]
 exact hk v' w G hv (by simpa[BG]using Bf.refl hw)
theorem HN {v:AV} {i:Nat} (h:∀(G:Gh) (a:Act) (w:World) (T:List Ad),T[i]? =S[i]? ->Wd G T w->(∀x∈o.op.operands,BE G (ρ x) (a.eval x))->∃v',(execOp a.eval o).run P w=.ok (.value v') w∧BE G v v')
 (hi:i<S.length) (hK:K v [i] [] []):Fsq P o ρ S K:=by
 refine⟨v,[i],[],[],λT ht _ G a w hw hr K Q hk=>?_,(λp hp=>by cases hp),(λj hj=>by simp at hj;subst hj;exact hi),hK⟩
 obtain⟨v',hrun,hv⟩:=h G a w T (ht i (by simp)) hw hr
 refine .inl ?_
 unfold Oper.wp
 rw[hrun]
 exact hk v' w G hv (by simpa[BG]using Bf.refl hw)
theorem Mt {xs:List AV} (h:∀(G:Gh) (a:Act) (w:World) (T:List Ad),Wd G T w->(∀x∈o.op.operands,BE G (ρ x) (a.eval x))->∃vs t w',(execOp a.eval o).run P w=.ok (.value (.pointer (some ⟨w.heap.size,0,none⟩))) w'∧DH w w' (.cells (List.toArray vs) t)∧Cn G xs vs∧∀v∈vs,v.oneCell'=true)
 (hK:K (.ref S.length 0) [] [] [.cells xs]):Fsq P o ρ S K:=by
 refine⟨_,[],[],[.cells xs],λT _ hd G a w hw hr K Q hk=>?_,(λp hp=>by cases hp),(λi hi=>by simp at hi),hK⟩
 obtain⟨vs,t,w',hrun,hm,hx,ho⟩:=h G a w T hw hr
 refine .inl ?_
 unfold Oper.wp
 rw[hrun]
 have hid:T[S.length]? =some .dead:=hd (S.length,.cells xs) (by simp[BG])
 have:=Bf.new hw hid hx ho hm
 refine hk _ w' _ ?_ (by simpa[BG]using this)
 exact .ref (by simp[Gh.newLoc])
theorem Mq {P:Program} {t:TypeId} {n:Nat} (h:Fs P t=some n):∃i,P.info? t=some i∧i.size=n:=by
 simpa[Fs]using h
theorem CX {P:Program} {t:TypeId} {zs:List Value} (h:Ey P t=some zs):∃i z,P.info? t=some i∧i.zero=some z∧zs=z.cells.toList∧∀v∈zs,v.oneCell'=true:=by
 unfold Ey at h
 cases hi:P.info? t with
 |none=>simp[hi]at h
 |some i=>
  cases hz:i.zero with
  |none=>simp[hi,hz]at h
  |some z=>
   simp only[hi,hz,Option.bind_some]at h
   split at h
   ·rename_i ho
    injection h with h;subst h
    exact⟨i,z,rfl,hz,rfl,λv hv=>List.all_eq_true.1 ho v hv⟩
   ·cases h
theorem K0 {P:Program} {t:TypeId} (h:DV P t=some none):∃d,P.underlying t=some d∧(∀fs,d≠ .struct fs)∧∀n e,d≠ .array n e:=by
 unfold DV at h
 cases hu:P.underlying t with
 |none=>simp[hu]at h
 |some d=>
  rw[hu]at h
  cases d with
  |struct fs=>cases hs:Fs P t<;>simp[hs]at h
  |array n e=>cases hs:Fs P t<;>simp[hs]at h
  |_=>exact⟨_,rfl,by simp,by simp⟩
theorem NU {P:Program} {t:TypeId} {n:Nat} (h:DV P t=some (some n)):(∃d,P.underlying t=some d∧((∃fs,d=.struct fs)∨∃m e,d=.array m e))∧Fs P t=some n:=by
 unfold DV at h
 cases hu:P.underlying t with
 |none=>simp[hu]at h
 |some d=>
  rw[hu]at h
  cases d with
  |struct fs=>simp at h;exact⟨⟨_,rfl,.inl ⟨_,rfl⟩⟩,h⟩
  |array m e=>simp at h;exact⟨⟨_,rfl,.inr ⟨_,_,rfl⟩⟩,h⟩
  |_=>simp at h
theorem G5 {P:Program} {t:TypeId} (h:DV P t=some none) (w:World):(isAgg t).run P w=.ok false w:=by
 obtain⟨d,hd,h1,h2⟩:=K0 h
 simp only[isAgg,underlying,Sem.run_bind,run_program,Result.andThen_ok,hd,Sem.run_pure]
theorem Ge {P:Program} {t:TypeId} {n:Nat} (h:DV P t=some (some n)) (w:World):(isAgg t).run P w=.ok true w:=by
 obtain⟨⟨d,hd,h1⟩,_⟩:=NU h
 simp only[isAgg,underlying,Sem.run_bind,run_program,Result.andThen_ok,hd,Sem.run_pure]
 rcases h1 with⟨fs,rfl⟩|⟨m,e,rfl⟩<;>rfl
theorem B2 {P:Program} {t:TypeId} {n:Nat} (h:Fs P t=some n) (w:World):(sizeOf t).run P w=.ok n w:=by
 obtain⟨i,hi,rfl⟩:=Mq h
 simp[sizeOf,typeInfo,hi]
theorem C4 {P:Program} {t:TypeId} (h:DV P t=some none) {w:World} {a:Addr} {v:Value} (hc:w.cell? a=some v):(loadVar t a).run P w=.ok v w:=by
 simp[loadVar,G5 h,hc]
theorem C5 {P:Program} {t:TypeId} {n:Nat} (h:DV P t=some (some n)) {w:World} {a:Addr} (f:Nat->Value) (hc:∀j,j<n->w.cell? (a.add j)=some (f j)):
 (loadVar t a).run P w=.ok (.agg ((List.range n).map f).toArray) w:=by
 obtain⟨_,hs⟩:=NU h
 simp[loadVar,Ge h,B2 hs,run_loadCells w a n f hc]
theorem DQ {G:Gh} {xs:List AV} {n:Nat} (f:Nat->Value) (hl:xs.length=n) (h1:∀j,j<n->(f j).oneCell'=true) (h2:∀(j:Nat) (x:AV),xs[j]? =some x->BE G x (f j)):BE G (.agg xs) (.agg ((List.range n).map f).toArray):=by
 refine .agg (by simpa using hl) (λj v hv=>?_) (λj x v hx hv=>?_)
 ·obtain⟨q,hq,rfl⟩:=Be (by simpa using hv:((List.range n).map f)[j]? =some v)
  rw[List.getElem?_range (by rcases Nat.lt_or_ge j n with h|h;exact h;rw[List.getElem?_eq_none (by simpa using h)]at hq;cases hq)]at hq
  injection hq with hq;subst hq
  refine h1 j ?_
  rcases Nat.lt_or_ge j n with h|h
  ·exact h
  ·simp[show¬j<n by omega]at hv
 ·have hj:j<n:=by rw[←hl];exact(List.getElem?_eq_some_iff.1 hx).1
  simp[hj]at hv;subst hv;exact h2 j x hx
theorem Qv {G:Gh} {T:List Ad} {w:World} {j k m o:Nat} {xs:List AV} {v:Value} (h:Wd G T w) (hj:T[j]? =some (.mrow k m xs)) (r:BE G (.mref j m o) v) (h0:0<xs.length):
 ∃(b c:Nat) (cs:Array Value) (t:TypeId),v=.pointer (some ⟨b,o,none⟩)∧G.hist j m=some (.slice (some ⟨b,0,none⟩) m c)∧m≤c∧c≤9223372036854775807∧1≤k∧xs.length=m*k∧w.heap[b]? =some (.cells cs t (0,0))∧cs.size=c*k∧xs.length≤cs.size∧
  (∀(i:Nat) (x:AV) (v:Value),xs[i]? =some x->cs[i]? =some v->v.oneCell'=true∧BE G x v)∧blk G T j=some b:=by
 obtain⟨hk,hl,A,c,h1,h2,h3,h6,h4⟩:=h.mrow j k m xs hj
 have hm:0<m:=by
  rcases Nat.eq_zero_or_pos m with e|e
  ·subst e;omega
  ·exact e
 obtain⟨b,cs,t,e1,g2,g3,g4,g5⟩:=h4 (by omega)
 subst e1
 cases r with
 |mref hh=>
  rw[h1]at hh;injection hh with hh;injection hh with e1 _ e3;injection e1 with e1;injection e1 with e1;subst e1 e3
  have:m*k≤c*k:=Nat.mul_le_mul_right _ h3
  exact⟨_,c,cs,t,rfl,h1,h3,h6,hk,hl,g2,g3,by omega,g4,by simp[blk,hj,h1,show 0<c by omega]⟩
theorem Adl {t:TypeId} {x:Operand} (hop:o.op=.load t x) {n:Option Nat} (hn:DV P t=some n) (h:J4 n (ρ x) S K):Fsq P o ρ S K:=by
 unfold J4 at h
 have hrun:∀(a:Act) (w:World) (v:Value) (ad:Addr),a.eval x=.pointer (some ad)->(loadVar t ad).run P w=.ok v w->(execOp a.eval o).run P w=.ok (.value v) w:=by
  intro a w v ad ha hl
  simp[execOp,hop,Instr.loadAt,ha,Instr.sureAddr,hl]
 split at h
 ·rename_i j g off hρ
  unfold Ww at h
  split at h
  ·rename_i k m xs hS
   obtain⟨rfl,h⟩:=h
   have rep:∀{G:Gh} {a:Act},(∀x∈o.op.operands,BE G (ρ x) (a.eval x))->BE G (.mref j m off) (a.eval x):=λ{G a} hr=>by
    have:=hr x (by simp[hop,Op.operands]);rwa[hρ]at this
   split at h
   ·split at h
    ·rename_i y hy
     refine HN (λG a w T hT hw hr=>?_) (List.getElem?_eq_some_iff.1 hS).1 h
     have hlt:=(List.getElem?_eq_some_iff.1 hy).1
     obtain⟨b,c,cs,t',ha,_,_,_,_,_,g2,_,g3,g4,_⟩:=Qv hw (hT.trans hS) (rep hr) (by omega)
     have hc:cs[off]? =some cs[off]:=Array.getElem?_eq_getElem (by omega)
     exact⟨_,hrun a w _ _ ha (C4 hn ((Ex g2 off).trans hc)),(g4 off y _ hy hc).2⟩
    ·exact h.elim
   ·rename_i n
    obtain⟨hn0,hle,hK⟩:=h
    refine HN (λG a w T hT hw hr=>?_) (List.getElem?_eq_some_iff.1 hS).1 hK
    obtain⟨b,c,cs,t',ha,_,_,_,_,_,g2,_,g3,g4,_⟩:=Qv hw (hT.trans hS) (rep hr) (by omega)
    have hc:∀j,j<n->cs[off+j]? =some (cs.getD (off+j) undef):=λj hj=>by
     rw[Array.getElem?_eq_getElem (show off+j<cs.size by omega)];simp[show off+j<cs.size by omega]
    refine⟨_,hrun a w _ _ ha (C5 hn (λj=>cs.getD (off+j) undef) λj hj=>by rw[BS];exact(Ex g2 _).trans (hc j hj)),DQ _ (by simp;omega) (λj hj=>?_) λj y hy=>?_⟩
    ·exact(g4 (off+j) _ _ (List.getElem?_eq_getElem (show off+j<xs.length by omega)) (hc j hj)).1
    ·have hjn:j<n:=by
      rcases Nat.lt_or_ge j n with h|h
      ·exact h
      ·rw[List.getElem?_take,if_neg (by omega)]at hy;cases hy
     refine(g4 (off+j) y _ ?_ (hc j hjn)).2
     rw[List.getElem?_take,if_pos hjn,List.getElem?_drop]at hy;exact hy
  ·exact h.elim
 ·rename_i cs hρ
  have rep:∀{G:Gh} {a:Act},(∀x∈o.op.operands,BE G (ρ x) (a.eval x))->BE G (.iptr cs) (a.eval x):=λ{G a} hr=>by
   have:=hr x (by simp[hop,Op.operands]);rwa[hρ]at this
  split at h
  ·split at h
   ·rename_i y ys
    refine AS (λG a w T hw hr=>?_) h
    have r:=rep hr
    generalize ha:a.eval x=va at r
    cases r with
    | @iptr _ b off vs h1 h2 h3=>
      have h0:=hw.imm _ _ _ (h1 0 (by simp))
      exact⟨vs 0,hrun a w _ _ ha (C4 hn (by simpa using h0)),h3 0 _ (by simp)⟩
   ·exact h.elim
  ·rename_i n
   obtain⟨hle,hK⟩:=h
   refine AS (λG a w T hw hr=>?_) hK
   have r:=rep hr
   generalize ha:a.eval x=va at r
   cases r with
   | @iptr _ b off vs h1 h2 h3=>
     refine⟨_,hrun a w _ _ ha (C5 hn vs λj hj=>by rw[BS];exact hw.imm _ _ _ (h1 j (by omega))),DQ vs (by simp;omega) (λj hj=>h2 j (by omega)) λj y hy=>h3 j y ?_⟩
     rw[List.getElem?_take]at hy;split at hy<;>simp_all
 ·rename_i i off hρ
  have rep:∀{G:Gh} {a:Act},(∀x∈o.op.operands,BE G (ρ x) (a.eval x))->BE G (.ref i off) (a.eval x):=λ{G a} hr=>by
   have:=hr x (by simp[hop,Op.operands]);rwa[hρ]at this
  split at h
  ·rename_i xs hS
   split at h
   ·split at h
    ·rename_i y hy
     refine HN (λG a w T hT hw hr=>?_) (List.getElem?_eq_some_iff.1 hS).1 h
     have r:=rep hr
     generalize ha:a.eval x=va at r
     cases r with
     | @ref _ _ b hb=>
       obtain⟨b',cs,t',g1,g2,g3,g4,_⟩:=hw.obj i xs (hT.trans hS)
       rw[hb]at g1;injection g1 with g1;subst g1
       have hlt:off<cs.size:=by rw[g3];exact(List.getElem?_eq_some_iff.1 hy).1
       have hc:cs[off]? =some cs[off]:=Array.getElem?_eq_getElem hlt
       exact⟨_,hrun a w _ _ ha (C4 hn ((Ex g2 off).trans hc)),(g4 off y _ hy hc).2⟩
    ·exact h.elim
   ·rename_i n
    obtain⟨hle,hK⟩:=h
    refine HN (λG a w T hT hw hr=>?_) (List.getElem?_eq_some_iff.1 hS).1 hK
    have r:=rep hr
    generalize ha:a.eval x=va at r
    cases r with
    | @ref _ _ b hb=>
      obtain⟨b',cs,t',g1,g2,g3,g4,_⟩:=hw.obj i xs (hT.trans hS)
      rw[hb]at g1;injection g1 with g1;subst g1
      have hc:∀j,j<n->cs[off+j]? =some (cs.getD (off+j) undef):=λj hj=>by
       rw[Array.getElem?_eq_getElem (show off+j<cs.size by omega)];simp[show off+j<cs.size by omega]
      refine⟨_,hrun a w _ _ ha (C5 hn (λj=>cs.getD (off+j) undef) λj hj=>by rw[BS];exact(Ex g2 _).trans (hc j hj)),DQ _ (by simp;omega) (λj hj=>?_) λj y hy=>?_⟩
      ·exact(g4 (off+j) _ _ (List.getElem?_eq_getElem (show off+j<xs.length by omega)) (hc j hj)).1
      ·have hjn:j<n:=by
        rcases Nat.lt_or_ge j n with h|h
        ·exact h
        ·rw[List.getElem?_take,if_neg (by omega)]at hy;cases hy
       refine(g4 (off+j) y _ ?_ (hc j hjn)).2
       rw[List.getElem?_take,if_pos hjn,List.getElem?_drop]at hy;exact hy
  ·exact h.elim
 ·exact h.elim
end
section
variable {P:Program} {o:Oper} {ρ:Operand->AV} {S:List Ad} {K:KT}
theorem XU {x:Operand} (hop:o.op=.move x∨o.op=.assign x) (h:K (ρ x) [] [] []):Fsq P o ρ S K:=
 AS (λG a w T _ hr=>by
  rcases hop with hop|hop
  ·exact⟨_,by simp[execOp,hop],hr x (by simp[hop,Op.operands])⟩
  ·exact⟨_,by simp[execOp,hop],hr x (by simp[hop,Op.operands])⟩) h
theorem MJ {G:Gh} {b:Bool} {v:Value} (h:BE G (.lit (.bool b)) v):v=.bool b:=by cases h;rfl
theorem A_ {G:Gh} {u v:Value} (h:BE G (.lit u) v):v=u:=by cases h;rfl
theorem Adh {c x y:Operand} (hop:o.op=.pick c x y) (h:Nb (ρ c) (ρ x) (ρ y) K):Fsq P o ρ S K:=by
 unfold Nb at h
 split at h
 ·rename_i t hc
  refine AS (λG a w T _ hr=>?_) h
  have rc:=hr c (by simp[hop,Op.operands])
  have rx:=hr x (by simp[hop,Op.operands])
  have ry:=hr y (by simp[hop,Op.operands])
  rw[hc]at rc
  refine⟨if t then a.eval x else a.eval y,by simp[execOp,hop,MJ rc,asBool],?_⟩
  cases t<;>simpa
 ·exact h.elim
theorem Aix {e:TypeId} (hop:o.op=.alloc e) {zs:List Value} (hz:Ey P e=some zs) (h:K (.ref S.length 0) [] [] [.cells (zs.map AV.ofC1)]):Fsq P o ρ S K:=by
 obtain⟨i,z,hi,hz0,rfl,ho⟩:=CX hz
 refine Mt (λG a w T _ hr=>⟨z.cells.toList,e,w.alloc (.cells z.cells.toList.toArray e),?_,DH.alloc _ _,⟨by simp,λj x v hx hv=>?_⟩,ho⟩) h
 ·simp[execOp,hop,Instr.alloc,zeroValue,typeInfo,hi,hz0,newVar,newRow]
 ·obtain⟨y,hy,rfl⟩:=Be hx
  rw[hv]at hy;injection hy with hy;subst hy
  exact JS G v
theorem Ai5 {e:TypeId} {x:Operand} (hop:o.op=.box e x) (h:Ng (ρ x) S.length K):Fsq P o ρ S K:=by
 unfold Ng at h
 split at h
 ·rename_i cs hc
  refine Mt (λG a w T _ hr=>?_) h
  obtain⟨_,h2,h3⟩:=(hr x (by simp[hop,Op.operands])).parts hc
  refine⟨_,e,w.alloc (.cells (a.eval x).cells.toList.toArray e),?_,DH.alloc _ _,h2,h3⟩
  simp[execOp,hop,Instr.box,newVar,newRow]
 ·exact h.elim
theorem Gd (xs:List AV) (o:Nat) (cs:List AV):(CB xs o cs).length=xs.length:=by
 induction cs generalizing xs o with
 |nil=>rfl
 |cons c cs ih=>rw[CB,ih];simp
theorem GZ (xs:List AV) (o:Nat) (cs:List AV) (h:o+cs.length≤xs.length) (j:Nat):(CB xs o cs)[j]? =if o≤j∧j<o+cs.length then cs[j-o]? else xs[j]? :=by
 induction cs generalizing xs o with
 |nil=>rw[CB,if_neg (by simp)]
 |cons c cs ih=>
  simp only[List.length_cons]at h ⊢
  rw[CB,ih _ _ (by simp;omega)]
  by_cases h1:o+1≤j∧j<o+1+cs.length
  ·rw[if_pos h1,if_pos (by omega),show j-o=(j-(o+1))+1 by omega];simp
  ·rw[if_neg h1]
   by_cases h2:j=o
   ·subst h2;rw[if_pos (by omega)];simp[show j<xs.length by omega]
   ·rw[if_neg (by omega),List.getElem?_set_ne (Ne.symm h2)]
theorem FX {w:World} {b:Nat} {cs cs':Array Value} {t:TypeId} (h:w.heap[b]? =some (.cells cs t (0,0))):Kr w (w.setRow b cs') b (.cells cs' t (0,0)):=
 ⟨rfl,rfl,rfl,by simp,λi hi=>setRow_other w b i cs' hi,setRow_heap w b cs cs' t _ h⟩
theorem Aeq {xs cs:List AV} {us:List Value} {cur:Array Value} {off:Nat} {G:Gh} (hu:Cn G cs us) (h3:∀u∈us,u.oneCell'=true) (hle:off+cs.length≤xs.length) (hc:xs.length≤cur.size)
 (g4:∀(i:Nat) (x:AV) (v:Value),xs[i]? =some x->cur[i]? =some v->v.oneCell'=true∧BE G x v) (k:Nat) (x:AV) (v:Value) (hx:(CB xs off cs)[k]? =some x)
 (hv:(cur.toList.take off++us++cur.toList.drop (off+us.length)).toArray[k]? =some v):v.oneCell'=true∧BE G x v:=by
 have hl:=hu.1
 rw[GZ xs off cs (by omega)]at hx
 simp only[List.getElem?_toArray]at hv
 by_cases hk1:off≤k∧k<off+cs.length
 ·rw[if_pos hk1]at hx
  rw[List.append_assoc,List.getElem?_append_right (by simp;omega),List.getElem?_append_left (by simp;omega)]at hv
  have hq:(List.take off cur.toList).length=off:=by simp;omega
  rw[hq]at hv
  exact⟨h3 v (List.mem_of_getElem? hv),hu.2 _ x v hx hv⟩
 ·rw[if_neg hk1]at hx
  refine g4 k x v hx ?_
  by_cases hk2:k<off
  ·rw[List.append_assoc,List.getElem?_append_left (by simp;omega),List.getElem?_take,if_pos hk2]at hv
   simpa using hv
  ·rw[List.getElem?_append_right (by simp;omega),List.getElem?_drop]at hv
   rw[←hv]
   simp only[List.length_append,List.length_take,Array.length_toList]
   rw[Array.getElem?_toList]
   congr 1
   omega
theorem Kr.own {w w':World} {b:Nat} {o:Obj} {G:Gh} {T:List Ad} {j:Nat} (h:Kr w w' b o) (hb:blk G T j=some b):C7 (λb=>blk G T j≠some b) w w':=h.kept λhn=>hn hb
theorem Zg {t:TypeId} {x y:Operand} (hop:o.op=.store t x y) {n:Nat} (hn:Fs P t=some n) (h:Jk n (ρ x) (ρ y) S K):Fsq P o ρ S K:=by
 unfold Jk at h
 split at h
 ·rename_i j g off hx
  unfold QH at h
  split at h
  ·rename_i k m xs hS
   split at h
   ·rename_i cs hcs
    obtain⟨rfl,hn0,hl,hle,hK⟩:=h
    refine⟨_,[j],[(j,_)],[],λT hT _ G a w hw hr Kc Q hk=>?_,by simp,(λi hi=>by simp at hi;subst hi;exact(List.getElem?_eq_some_iff.1 hS).1),hK⟩
    have hTj:T[j]? =some (.mrow k m xs):=(hT j (by simp)).trans hS
    have rx:=hr x (by simp[hop,Op.operands])
    have ry:=hr y (by simp[hop,Op.operands])
    rw[hx]at rx
    obtain⟨_,h2,h3⟩:=ry.parts hcs
    obtain⟨b,c,cur,t',ha,hh,hmc,h6,hk1,hxl,g2,gs,g3,g4,hb⟩:=Qv hw hTj rx (by omega)
    generalize hbv:a.eval y=vb at h2 h3
    have hlen:vb.cells.toList.length=n:=by rw[←h2.1,hl]
    have hst:=run_storeCells_at P b off t' vb.cells.toList 0 cur w g2 (by rw[hlen];omega) h3
    simp only[Nat.add_zero]at hst
    have hsz:vb.cells.size=n:=by simpa using hlen
    have hrun:(execOp a.eval o).run P w=.ok .skip (w.setRow b (cur.toList.take off++vb.cells.toList++cur.toList.drop (off+vb.cells.toList.length)).toArray):=by
     simp only[execOp,hop,Instr.storeAt,ha,hbv,Instr.sureAddr,storeVar,Sem.run_bind,Sem.run_pure,Result.andThen_ok,B2 hn,hsz,ne_eq,not_true,if_false,hst]
    refine .inl ?_
    unfold Oper.wp
    rw[hrun]
    have htn:=FX (cs':=(cur.toList.take off++vb.cells.toList++cur.toList.drop (off+vb.cells.toList.length)).toArray) g2
    have:=Bf.mrowTo (xs:=CB xs off cs) hw (.inr ⟨m,xs,hTj,.inr ⟨rfl,hh⟩⟩) hk1 (by rw[Gd];exact hxl) hmc h6 (htn.own hb)
     (λ_=>⟨b,_,t',rfl,htn.here,by simp;omega,λi x v hx hv=>Aeq h2 h3 (by omega) g3 g4 i x v hx hv,.inr hb⟩)
    exact hk undef _ _ (.any _) (by simpa[BG]using this)
   ·exact h.elim
  ·exact h.elim
 ·rename_i i off hx
  split at h
  ·rename_i xs hS
   split at h
   ·rename_i cs hcs
    obtain⟨hl,hle,hK⟩:=h
    refine⟨_,[i],[(i,_)],[],λT hT _ G a w hw hr Kc Q hk=>?_,by simp,(λj hj=>by simp at hj;subst hj;exact(List.getElem?_eq_some_iff.1 hS).1),hK⟩
    have hTi:T[i]? =some (.cells xs):=(hT i (by simp)).trans hS
    have rx:=hr x (by simp[hop,Op.operands])
    have ry:=hr y (by simp[hop,Op.operands])
    rw[hx]at rx
    obtain⟨_,h2,h3⟩:=ry.parts hcs
    generalize ha:a.eval x=va at rx
    generalize hb:a.eval y=vb at h2 h3
    cases rx with
    | @ref _ _ b hloc=>
      obtain⟨b',cur,t',g1,g2,g3,g4,_⟩:=hw.obj i xs hTi
      rw[hloc]at g1;injection g1 with g1;subst g1
      have hlen:vb.cells.toList.length=n:=by rw[←h2.1,hl]
      have hst:=run_storeCells_at P b off t' vb.cells.toList 0 cur w g2 (by rw[hlen];omega) h3
      simp only[Nat.add_zero]at hst
      have hsz:vb.cells.size=n:=by simpa using hlen
      have hrun:(execOp a.eval o).run P w=.ok .skip (w.setRow b (cur.toList.take off++vb.cells.toList++cur.toList.drop (off+vb.cells.toList.length)).toArray):=by
       simp only[execOp,hop,Instr.storeAt,ha,hb,Instr.sureAddr,storeVar,Sem.run_bind,Sem.run_pure,Result.andThen_ok,B2 hn,hsz,ne_eq,not_true,if_false,hst]
      refine .inl ?_
      unfold Oper.wp
      rw[hrun]
      refine hk undef _ G (.any _) ?_
      have hcl:cur.size=xs.length:=g3
      have:=Bf.turn (xs':=CB xs off cs) hw hTi hloc (FX g2) (by simp[Gd];omega) (w':=w.setRow b (cur.toList.take off++vb.cells.toList++cur.toList.drop (off+vb.cells.toList.length)).toArray) (λk u v hu hv=>by
       rw[GZ xs off cs (by omega)]at hu
       simp only[List.getElem?_toArray]at hv
       by_cases hk1:off≤k∧k<off+cs.length
       ·rw[if_pos hk1]at hu
        rw[List.append_assoc,List.getElem?_append_right (by simp;omega),List.getElem?_append_left (by simp;omega)]at hv
        have hq:(List.take off cur.toList).length=off:=by simp;omega
        rw[hq]at hv
        exact⟨h3 v (List.mem_of_getElem? hv),h2.2 _ u v hu hv⟩
       ·rw[if_neg hk1]at hu
        refine g4 k u v hu ?_
        by_cases hk2:k<off
        ·rw[List.append_assoc,List.getElem?_append_left (by simp;omega),List.getElem?_take,if_pos hk2]at hv
         simpa using hv
        ·rw[List.getElem?_append_right (by simp;omega),List.getElem?_drop]at hv
         rw[←hv]
         simp only[List.length_append,List.length_take,Array.length_toList]
         rw[Array.getElem?_toList]
         congr 1
         omega)
      simpa[BG]using this
   ·exact h.elim
  ·exact h.elim
 ·exact h.elim
theorem Aiw {x:Operand} (hop:o.op=.nilCheck x) (h:QJ (ρ x) K):Fsq P o ρ S K:=by
 unfold QJ at h
 split at h
 ·rename_i i off hx
  refine AS (λG a w T _ hr=>?_) h
  have r:=hr x (by simp[hop,Op.operands])
  rw[hx]at r
  refine⟨a.eval x,?_,r⟩
  generalize ha:a.eval x=va at r
  cases r
  simp[execOp,hop,ha]
 ·rename_i cs hx
  refine AS (λG a w T _ hr=>?_) h
  have r:=hr x (by simp[hop,Op.operands])
  rw[hx]at r
  refine⟨a.eval x,?_,r⟩
  generalize ha:a.eval x=va at r
  cases r
  simp[execOp,hop,ha]
 ·rename_i j g off hx
  refine AS (λG a w T _ hr=>?_) h
  have r:=hr x (by simp[hop,Op.operands])
  rw[hx]at r
  refine⟨a.eval x,?_,r⟩
  generalize ha:a.eval x=va at r
  cases r
  simp[execOp,hop,ha]
 ·exact h.elim
theorem XY {op:BinOp} {t t':TypeId} {x y:Operand} (hop:o.op=.binOp op t x y t') (h:TF op (ρ x) (ρ y) K):Fsq P o ρ S K:=by
 unfold TF at h
 split at h
 ·rename_i k n k' m hx hy
  have key:∀{v:Value},(∀(a:Act) (w:World),a.eval x=.int k n->a.eval y=.int k' m->(execOp a.eval o).run P w=.ok (.value v) w)->K (.lit v) [] [] []->Fsq P o ρ S K:=by
   intro v hv hK
   refine AS (λG a w T _ hr=>⟨v,?_,.lit v⟩) hK
   have rx:=hr x (by simp[hop,Op.operands])
   have ry:=hr y (by simp[hop,Op.operands])
   rw[hx]at rx;rw[hy]at ry
   exact hv a w (A_ rx) (A_ ry)
  cases op<;>simp only[Db]at h
  case quo=>obtain⟨rfl,h0,h⟩:=h;exact key (λa w e1 e2=>by simp[execOp,hop,e1,e2,eqGuard,binOp,Op.intDiv,h0]) h
  case rem=>obtain⟨rfl,h0,h⟩:=h;exact key (λa w e1 e2=>by simp[execOp,hop,e1,e2,eqGuard,binOp,Op.intDiv,h0]) h
  case shl=>obtain⟨h0,h⟩:=h;exact key (λa w e1 e2=>by simp[execOp,hop,e1,e2,eqGuard,binOp,Op.shift,show¬m<0 by omega]) h
  case shr=>obtain⟨h0,h⟩:=h;exact key (λa w e1 e2=>by simp[execOp,hop,e1,e2,eqGuard,binOp,Op.shift,show¬m<0 by omega]) h
  all_goals
   obtain⟨rfl,h⟩:=h
   exact key (λa w e1 e2=>by simp[execOp,hop,e1,e2,eqGuard,binOp,Op.intArith,Op.intBits,Op.intCmp,Cx]) h
 ·rename_i s u hx hy
  have key:∀{v:Value},(∀(a:Act) (w:World),a.eval x=.string s->a.eval y=.string u->(execOp a.eval o).run P w=.ok (.value v) w)->K (.lit v) [] [] []->Fsq P o ρ S K:=by
   intro v hv hK
   refine AS (λG a w T _ hr=>⟨v,?_,.lit v⟩) hK
   have rx:=hr x (by simp[hop,Op.operands])
   have ry:=hr y (by simp[hop,Op.operands])
   rw[hx]at rx;rw[hy]at ry
   exact hv a w (A_ rx) (A_ ry)
  cases op<;>simp only[Wt]at h
  case eql=>exact key (λa w e1 e2=>by simp[execOp,hop,e1,e2,eqGuard,binOp,Op.stringOp]) h
  case neq=>exact key (λa w e1 e2=>by simp[execOp,hop,e1,e2,eqGuard,binOp,Op.stringOp]) h
 ·exact h.elim
theorem MF {t:TypeId} (ht:P.underlying t=some .bool) (a b:Bool) (w:World):(Op.equal t (.bool a) (.bool b)).run P w=.ok (a==b) w:=by
 have:∀d,(Op.equalIn (d+1) t (.bool a) (.bool b)).run P w=.ok (a==b) w:=λd=>by simp[Op.equalIn,run_underlying ht]
 exact this 9999
theorem XX {op:BinOp} {t t':TypeId} {x y:Operand} {neg:Bool} (hop:o.op=.binOp op t x y t') (ht:P.underlying t=some .bool) (hn:op=if neg then .neq else .eql) (h:Wz neg (ρ x) (ρ y) K):Fsq P o ρ S K:=by
 unfold Wz at h
 split at h
 ·rename_i p q hx hy
  refine AS (λG a w T _ hr=>⟨_,?_,.lit _⟩) h
  have rx:=hr x (by simp[hop,Op.operands])
  have ry:=hr y (by simp[hop,Op.operands])
  rw[hx]at rx;rw[hy]at ry
  have e1:=A_ rx
  have e2:=A_ ry
  cases neg<;>simp at hn<;>subst hn<;>simp[execOp,hop,e1,e2,eqGuard,binOp,MF ht]
 ·exact h.elim
theorem XV {op:BinOp} {t t' e:TypeId} {x y:Operand} {neg:Bool} (hop:o.op=.binOp op t x y t') (ht:P.underlying t=some (.pointer e)) (hn:op=if neg then .neq else .eql) (h:TD neg (ρ x) (ρ y) K):Fsq P o ρ S K:=by
 have heq:∀(p:Option Addr) (w:World),(Op.equal t (.pointer p) (.pointer none)).run P w=.ok p.isNone w:=by
  intro p w
  have:∀d,(Op.equalIn (d+1) t (.pointer p) (.pointer none)).run P w=.ok p.isNone w:=λd=>by cases p<;>simp[Op.equalIn,run_underlying ht]
  exact this 9999
 unfold TD at h
 split at h
 ·rename_i i off hx hy
  refine AS (λG a w T _ hr=>⟨_,?_,.lit _⟩) h
  have rx:=hr x (by simp[hop,Op.operands])
  have ry:=hr y (by simp[hop,Op.operands])
  rw[hx]at rx;rw[hy]at ry
  have e2:=A_ ry
  generalize e1:a.eval x=vx at rx
  cases rx
  cases neg<;>simp at hn<;>subst hn<;>simp[execOp,hop,e1,e2,eqGuard,binOp,heq]
 ·rename_i hx hy
  refine AS (λG a w T _ hr=>⟨_,?_,.lit _⟩) h
  have rx:=hr x (by simp[hop,Op.operands])
  have ry:=hr y (by simp[hop,Op.operands])
  rw[hx]at rx;rw[hy]at ry
  have e1:=A_ rx
  have e2:=A_ ry
  cases neg<;>simp at hn<;>subst hn<;>simp[execOp,hop,e1,e2,eqGuard,binOp,heq]
 ·exact h.elim
theorem Am9 {op:UnOp} {t:TypeId} {x:Operand} (hop:o.op=.unOp op t x) (h:kUn op (ρ x) K):Fsq P o ρ S K:=by
 unfold kUn at h
 split at h
 ·rename_i k n hx
  refine AS (λG a w T _ hr=>⟨_,?_,.lit _⟩) h
  have rx:=hr x (by simp[hop,Op.operands])
  rw[hx]at rx
  simp[execOp,hop,A_ rx,Op.unary,Op.intArith]
 ·rename_i k n hx
  refine AS (λG a w T _ hr=>⟨_,?_,.lit _⟩) h
  have rx:=hr x (by simp[hop,Op.operands])
  rw[hx]at rx
  simp[execOp,hop,A_ rx,Op.unary,Op.intBits,Cx]
 ·rename_i b hx
  refine AS (λG a w T _ hr=>⟨_,?_,.lit _⟩) h
  have rx:=hr x (by simp[hop,Op.operands])
  rw[hx]at rx
  simp[execOp,hop,A_ rx,Op.unary]
 ·exact h.elim
theorem Ai3 {src dst:TypeId} {x:Operand} {k k0:IntKind} (hop:o.op=.convert src dst x) (hs:P.underlying src=some (.int k0)) (hd:P.underlying dst=some (.int k)) (h:WB k (ρ x) K):Fsq P o ρ S K:=by
 unfold WB at h
 split at h
 ·rename_i k' n hx
  refine AS (λG a w T _ hr=>⟨_,?_,.lit _⟩) h
  have rx:=hr x (by simp[hop,Op.operands])
  rw[hx]at rx
  simp[execOp,hop,A_ rx,convert,run_underlying hs,run_underlying hd,Conv.intToInt]
 ·exact h.elim
theorem Ai2 {x:Operand} {i:Nat} (hop:o.op=.extract x i) (h:Wy (ρ x) i K):Fsq P o ρ S K:=by
 unfold Wy at h
 split at h
 ·rename_i xs hx
  split at h
  ·rename_i y hy
   refine AS (λG a w T _ hr=>?_) h
   have r:=hr x (by simp[hop,Op.operands])
   rw[hx]at r
   generalize ha:a.eval x=va at r
   cases r with
   | @tup _ vs h0 h3=>
     have hlt:i<vs.size:=by rw[←h0];exact(List.getElem?_eq_some_iff.1 hy).1
     have hv:vs[i]? =some vs[i]:=Array.getElem?_eq_getElem hlt
     exact⟨vs[i],by simp[execOp,hop,ha,Instr.extract,hv],h3 i y _ hy hv⟩
  ·exact h.elim
 ·exact h.elim
theorem Adi {isMax:Bool} {_t:TypeId} {x y:Operand} {c:Call} (hop:o.op=.call c) (hcal:c.callee=.builtin (if isMax then .max else .min)) (ha:c.args.toList=[x,y]) (h:kMx isMax (ρ x) (ρ y) K):Fsq P o ρ S K:=by
 unfold kMx at h
 split at h
 ·rename_i k n k' m hx hy
  refine AS (λG a w T _ hr=>⟨_,?_,.lit _⟩) h
  have hargs:c.args=#[x,y]:=by rw[←ha]
  have rx:=hr x (by simp[hop,Op.operands,Call.operands,hargs])
  have ry:=hr y (by simp[hop,Op.operands,Call.operands,hargs])
  rw[hx]at rx;rw[hy]at ry
  have e1:=A_ rx
  have e2:=A_ ry
  cases isMax<;>simp[execOp,hop,resolve,hcal,hargs,invoke,builtin,Builtin.max_,Builtin.min_,Builtin.max2,Builtin.min2,e1,e2]
 ·exact h.elim
theorem Aiy {f:FuncId} {fs cs:Array Operand} (hop:o.op=.makeFunc (.func f) fs cs) (h:K (.fn f (fs.toList.map ρ) (cs.toList.map ρ)) [] [] []):Fsq P o ρ S K:=by
 refine AS (λG a w T _ hr=>⟨.func (.func f) (fs.map a.eval) (cs.map a.eval),by simp[execOp,hop,Instr.makeFunc],?_⟩) h
 refine .fn (by simp) (by simp) (λj x v hx hv=>?_) (λj x v hx hv=>?_)
 ·obtain⟨y,hy,rfl⟩:=Be hx
  have hy':fs[j]? =some y:=by simpa using hy
  have:v=a.eval y:=by simpa[hy']using hv.symm
  subst this
  exact hr y (by simp[hop,Op.operands];left;exact Array.mem_of_getElem? hy')
 ·obtain⟨y,hy,rfl⟩:=Be hx
  have hy':cs[j]? =some y:=by simpa using hy
  have:v=a.eval y:=by simpa[hy']using hv.symm
  subst this
  exact hr y (by simp[hop,Op.operands];right;exact Array.mem_of_getElem? hy')
theorem Aiz {x:Operand} {t e:TypeId} {c:Call} (hop:o.op=.call c) (hcal:c.callee=.builtin .len) (ha:c.args.toList=[x]) (hat:c.argTypes.toList=[t]) (ht:P.underlying t=some (.slice e)) (h:Nc false (ρ x) K):Fsq P o ρ S K:=by
 have hargs:c.args=#[x]:=by rw[←ha]
 have hats:c.argTypes=#[t]:=by rw[←hat]
 unfold Nc at h
 split at h
 ·rename_i tg k xs _ hx
  refine AS (λG a w T _ hr=>⟨_,?_,.lit _⟩) h
  have rx:=hr x (by simp[hop,Op.operands,Call.operands,hargs])
  rw[hx]at rx
  generalize e1:a.eval x=vx at rx
  cases rx with
  |sl=>simp[execOp,hop,resolve,hcal,hargs,hats,invoke,builtin,Builtin.len_,e1,run_underlying ht,goInt]
 ·rename_i j g _ hx
  refine AS (λG a w T _ hr=>⟨_,?_,.lit _⟩) h
  have rx:=hr x (by simp[hop,Op.operands,Call.operands,hargs])
  rw[hx]at rx
  generalize e1:a.eval x=vx at rx
  cases rx with
  |ms=>simp[execOp,hop,resolve,hcal,hargs,hats,invoke,builtin,Builtin.len_,e1,run_underlying ht,goInt]
 ·rename_i hc _;cases hc
 ·exact h.elim
theorem Adm {x:Operand} {t:TypeId} {c:Call} (hop:o.op=.call c) (hcal:c.callee=.builtin .len) (ha:c.args.toList=[x]) (hat:c.argTypes.toList=[t]) (ht:P.underlying t=some .string) (h:Nc true (ρ x) K):Fsq P o ρ S K:=by
 have hargs:c.args=#[x]:=by rw[←ha]
 have hats:c.argTypes=#[t]:=by rw[←hat]
 unfold Nc at h
 split at h
 ·rename_i hc _;cases hc
 ·rename_i hc _;cases hc
 ·rename_i s _ hx
  refine AS (λG a w T _ hr=>⟨_,?_,.lit _⟩) h
  have rx:=hr x (by simp[hop,Op.operands,Call.operands,hargs])
  rw[hx]at rx
  have e1:=A_ rx
  simp[execOp,hop,resolve,hcal,hargs,hats,invoke,builtin,Builtin.len_,e1,run_underlying ht,goInt]
 ·exact h.elim
theorem Adn {t e:TypeId} {n:Nat} {x:Operand} {c:Call} (hop:o.op=.call c) (hcal:c.callee=.builtin .len) (ha:c.args.toList=[x]) (hat:c.argTypes.toList=[t]) (ht:P.underlying t=some (.array n e)) (h:K (.lit (.int .i64 n)) [] [] []):Fsq P o ρ S K:=by
 have hargs:c.args=#[x]:=by rw[←ha]
 have hats:c.argTypes=#[t]:=by rw[←hat]
 refine AS (λG a w T _ hr=>⟨_,?_,.lit _⟩) h
 simp[execOp,hop,resolve,hcal,hargs,hats,invoke,builtin,Builtin.len_,run_underlying ht,goInt]
end
section
variable {P:Program} {o:Oper} {ρ:Operand->AV} {S:List Ad} {K:KT}
theorem I_ (P:Program) (w:World) (isS:Bool) (len cap:Nat) (lo hi mx:Option Value) (l h m:Int) (hlo:lo=none∧l=0∨∃k,lo=some (.int k l)) (hhi:hi=none∧mx=none∧h=len∨∃k,hi=some (.int k h))
 (hmx:mx=none∧m=cap∨∃k,mx=some (.int k m)) (h0:0≤l) (h1:l≤h) (h2:h≤m) (h3:m≤cap) (h4:mx=none->h≤cap):(Instr.sliceBounds isS len cap lo hi mx).run P w=.ok (l.toNat,h.toNat,m.toNat) w:=by
 have b:∀(k:IntKind) (i:Int) (y:Nat) (c:BoundsCode),0≤i->i≤y->(Instr.sliceBound (.int k i) y c).run P w=.ok i.toNat w:=λk i y c e1 e2=>run_sliceBound w k i y c e1 e2
 rcases hmx with⟨rfl,rfl⟩|⟨km,rfl⟩
 ·rcases hhi with⟨rfl,_,rfl⟩|⟨kh,rfl⟩<;>rcases hlo with⟨rfl,rfl⟩|⟨kl,rfl⟩
  ·simp[Instr.sliceBounds]
  ·simp[Instr.sliceBounds,b kl l len _ h0 h1]
  ·simp[Instr.sliceBounds,b kh h cap _ (by omega) h2]
  ·simp[Instr.sliceBounds,b kh h cap _ (by omega) h2,b kl l h.toNat _ h0 (by omega)]
 ·rcases hhi with⟨_,e,_⟩|⟨kh,rfl⟩
  ·cases e
  ·rcases hlo with⟨rfl,rfl⟩|⟨kl,rfl⟩
   ·simp[Instr.sliceBounds,b km m cap _ (by omega) h3,b kh h m.toNat _ (by omega) (by omega)]
   ·simp[Instr.sliceBounds,b km m cap _ (by omega) h3,b kh h m.toNat _ (by omega) (by omega),b kl l h.toNat _ h0 (by omega)]
theorem GV {G:Gh} {a:Act} {x:Option Operand} {d l:Int} (h:bnd (x.map ρ) d=some l) (hr:∀y,x=some y->BE G (ρ y) (a.eval y)):x.map a.eval=none∧x=none∧l=d∨∃k,x.map a.eval=some (.int k l)∧x.isSome=true:=by
 cases x with
 |none=>left;simp[bnd]at h;exact⟨rfl,rfl,h.symm⟩
 |some y=>
  right
  simp only[Option.map_some,bnd]at h
  have r:=hr y rfl
  cases hy:ρ y with
  |lit v=>
   rw[hy]at h r
   cases v<;>simp[AV.i]at h
   subst h
   exact⟨_,by rw[Option.map_some,A_ r],rfl⟩
  |_=>rw[hy]at h;simp[AV.i]at h
theorem SB {G:Gh} {t:Gl} {k:Nat} {xs:List AV} {A:Option Addr} {n c:Nat} (r:BE G (.sl t k xs) (.slice A n c)) (l h m:Nat) (s:Nat) (hs:k=s∨xs=[]) (h1:l≤h) (h2:h≤xs.length) (h3:h≤m):
 BE G (.sl .none k ((xs.drop l).take (h-l))) (.slice (if m=l then A else A.map (·.add (l*s))) (h-l) (m-l))∧n=xs.length:=by
 cases r with
 | @sl _ _ _ _ _ b o vs hc hA hk g1 g2 g3 ht=>
   refine⟨?_,rfl⟩
   have hlen:((xs.drop l).take (h-l)).length=h-l:=by simp;omega
   have hget:∀{i:Nat} {x:AV},((xs.drop l).take (h-l))[i]? =some x->xs[l+i]? =some x:=λ{i x} e=>by
    rw[List.getElem?_take]at e
    split at e
    ·rwa[List.getElem?_drop]at e
    ·cases e
   have:=BE.sl (G:=G) (t:=.none) (k:=k) (xs:=(xs.drop l).take (h-l)) (A:=if m=l then A else A.map (·.add (l*s))) (c:=m-l) (b:=b) (o:=o+l*k) (λi j=>vs (l+i) j) (by omega)
    (λhp=>by
      rw[hlen]at hp
      rw[if_neg (by omega),hA (by omega)]
      simp only[Option.map_some,Option.some.injEq]
      rcases hs with rfl|hs
      ·exact BS _ _ _
      ·subst hs;simp at h2;omega)
    (λi x hx=>hk _ x (hget hx)) (λi j hi hj=>by rw[←g1 (l+i) j (by omega) hj,Nat.add_mul];congr 1;omega) (λi j hi hj=>g2 _ j (by omega) hj) (λi j x y hx hy=>g3 _ j x y (hget hx) hy) trivial
   rwa[hlen]at this
theorem BE.retag {G:Gh} {t t':Gl} {k:Nat} {xs:List AV} {A:Option Addr} {n c:Nat} (r:BE G (.sl t k xs) (.slice A n c)) (h:HD G t' A n c):BE G (.sl t' k xs) (.slice A n c):=by
 cases r with
 |sl vs hc hA hk g1 g2 g3 ht=>exact .sl vs hc hA hk g1 g2 g3 h
theorem BE.rek {G:Gh} {t:Gl} {k k':Nat} {v:Value} (r:BE G (.sl t k []) v):BE G (.sl t k' []) v:=by
 cases r with
 |sl vs hc hA hk g1 g2 g3 ht=>exact .sl (b:=0) (o:=0) vs hc (λh=>by simp at h) (λi x h=>by simp at h) (λi j h=>by simp at h) (λi j h=>by simp at h) (λi j x y h=>by simp at h) ht
theorem Zh {t e:TypeId} {x:Operand} {lo hi mx:Option Operand} (hop:o.op=.slice t x lo hi mx) (ht:P.underlying t=some (.slice e)) {s:Nat} (hs:Fs P e=some s) (h:D3 s (ρ x) (lo.map ρ) (hi.map ρ) (mx.map ρ) K):Fsq P o ρ S K:=by
 unfold D3 at h
 split at h
 ·rename_i tg ks xs hx
  split at h
  ·rename_i l hh hl hhh
   obtain⟨hk,h0,h1,h2,h⟩:=h
   have hrun:∀(a:Act) (w:World) (A:Option Addr) (n c:Nat) (m:Int),a.eval x=.slice A n c->(Instr.sliceBounds true n c (lo.map a.eval) (hi.map a.eval) (mx.map a.eval)).run P w=.ok (l.toNat,hh.toNat,m.toNat) w->
    (execOp a.eval o).run P w=.ok (.value (.slice (if m.toNat=l.toNat then A else A.map (·.add (l.toNat*s))) (hh.toNat-l.toNat) (m.toNat-l.toNat))) w:=by
    intro a w A n c m hv hb
    simp[execOp,hop,Instr.sliceAt,Instr.slice,run_underlying ht,hv,hb,B2 hs]
   have hd:(hh-l).toNat=hh.toNat-l.toNat:=by omega
   split at h
   ·rename_i hm
    have hmx:mx=none:=by simpa using hm
    subst hmx
    refine AS (λG a w T _ hr=>?_) h
    have rx:=hr x (by simp[hop,Op.operands])
    rw[hx]at rx
    have rlo:∀y,lo=some y->BE G (ρ y) (a.eval y):=λy hy=>hr y (by simp[hop,Op.operands,hy])
    have rhi:∀y,hi=some y->BE G (ρ y) (a.eval y):=λy hy=>hr y (by simp[hop,Op.operands,hy])
    have blo:=GV hl rlo
    have bhi:=GV hhh rhi
    generalize ev1:a.eval x=vx at rx
    have rx0:=rx
    cases rx with
    | @sl _ _ _ A c b off vs hc hA hk' g1 g2 g3 ht'=>
      have hb:=I_ P w true xs.length c (lo.map a.eval) (hi.map a.eval) none l hh c (by rcases blo with⟨q1,_,q2⟩|⟨k,q,_⟩;exact .inl ⟨q1,q2⟩;exact .inr ⟨k,q⟩) (by rcases bhi with⟨q1,_,q2⟩|⟨k,q,_⟩;exact .inl ⟨q1,rfl,q2⟩;exact .inr ⟨k,q⟩) (.inl ⟨rfl,rfl⟩) h0 h1 (by omega) (by omega) (λ_=>by omega)
      refine⟨_,hrun a w A _ c c ev1 (by simpa using hb),?_⟩
      have hp:=(SB rx0 l.toNat hh.toNat c s hk (by omega) (by omega) (by omega)).1
      rw[hd]
      simp only[Int.toNat_natCast]
      refine hp.retag ?_
      unfold Adz
      split
      ·rename_i e1 e2 _
       have q1:lo=none:=by simpa using e1
       have q2:hi=none:=by simpa using e2
       subst q1 q2
       simp[bnd]at hl hhh
       subst hl hhh
       have e4:(if c=(0:Int).toNat then A else A.map (·.add ((0:Int).toNat*s)))=A:=by
        split
        ·rfl
        ·cases A<;>simp[Addr.add]
       rw[e4]
       simpa using ht'
      ·rename_i y e1 e2 _
       have q2:hi=none:=by simpa using e2
       subst q2
       simp[bnd]at hhh
       subst hhh
       cases tg with
       |full=>
        have hcn:c=xs.length:=ht'
        show c-l.toNat=(xs.length:Int).toNat-l.toNat
        omega
       |_=>trivial
      ·trivial
   ·rename_i m hm
    obtain⟨⟨hhi,hmi⟩,hK⟩:=h
    obtain⟨mo,rfl⟩:∃mo,mx=some mo:=by cases mx with|none=>simp at hm|some mo=>exact⟨mo,rfl⟩
    have hme:ρ mo=m:=by simpa using hm
    refine AS (λG a w T _ hr=>?_) hK
    have rx:=hr x (by simp[hop,Op.operands])
    rw[hx]at rx
    have rlo:∀y,lo=some y->BE G (ρ y) (a.eval y):=λy hy=>hr y (by simp[hop,Op.operands,hy])
    have rhi:∀y,hi=some y->BE G (ρ y) (a.eval y):=λy hy=>hr y (by simp[hop,Op.operands,hy])
    have rm:=hr mo (by simp[hop,Op.operands])
    have blo:=GV hl rlo
    have bhi:=GV hhh rhi
    have bm:∃k,a.eval mo=.int k hh:=by
     rw[hme]at rm
     cases m with
     |lit v=>cases v<;>simp[AV.i]at hmi;subst hmi;exact⟨_,A_ rm⟩
     |_=>simp[AV.i]at hmi
    obtain⟨km,bm⟩:=bm
    generalize ev1:a.eval x=vx at rx
    have rx0:=rx
    cases rx with
    | @sl _ _ _ A c b off vs hc hA hk' g1 g2 g3 ht'=>
      have hb:=I_ P w true xs.length c (lo.map a.eval) (hi.map a.eval) (some (.int km hh)) l hh hh (by rcases blo with⟨q1,_,q2⟩|⟨k,q,_⟩;exact .inl ⟨q1,q2⟩;exact .inr ⟨k,q⟩)
       (by rcases bhi with⟨_,q1,_⟩|⟨k,q,_⟩;(rw[q1]at hhi;simp at hhi);exact .inr ⟨k,q⟩) (.inr ⟨km,rfl⟩) h0 h1 (Int.le_refl _) (by omega) (λe=>by cases e)
      refine⟨_,hrun a w A _ c hh ev1 (by simpa[bm]using hb),?_⟩
      have hp:=(SB rx0 l.toNat hh.toNat hh.toNat s hk (by omega) (by omega) (by omega)).1
      rw[hd]
      exact hp.retag rfl
  ·exact h.elim
 ·exact h.elim
theorem Adf {t:TypeId} {x:Operand} {lo hi:Option Operand} (hop:o.op=.slice t x lo hi none) (ht:P.underlying t=some .string) (h:Ps (ρ x) (lo.map ρ) (hi.map ρ) K):Fsq P o ρ S K:=by
 unfold Ps at h
 split at h
 ·rename_i s hx
  split at h
  ·rename_i l hh hl hhh
   obtain⟨h0,h1,h2,h⟩:=h
   refine AS (λG a w T _ hr=>⟨_,?_,.lit _⟩) h
   have rx:=hr x (by simp[hop,Op.operands])
   rw[hx]at rx
   have rlo:∀y,lo=some y->BE G (ρ y) (a.eval y):=λy hy=>hr y (by simp[hop,Op.operands,hy])
   have rhi:∀y,hi=some y->BE G (ρ y) (a.eval y):=λy hy=>hr y (by simp[hop,Op.operands,hy])
   have blo:=GV hl rlo
   have bhi:=GV hhh rhi
   have hb:=I_ P w false s.size s.size (lo.map a.eval) (hi.map a.eval) none l hh s.size (by rcases blo with⟨q1,_,q2⟩|⟨k,q,_⟩;exact .inl ⟨q1,q2⟩;exact .inr ⟨k,q⟩) (by rcases bhi with⟨q1,_,q2⟩|⟨k,q,_⟩;exact .inl ⟨q1,rfl,q2⟩;exact .inr ⟨k,q⟩) (.inl ⟨rfl,rfl⟩) h0 h1 (by omega) (by omega) (λ_=>by omega)
   simp[execOp,hop,Instr.sliceAt,Instr.slice,run_underlying ht,A_ rx,hb]
  ·exact h.elim
 ·exact h.elim
theorem Adp {t:TypeId} {x:Operand} {f:Nat} {fs:Array Field} {fd:Field} {s:Nat} (hop:o.op=.fieldAddr t x f) (ht:P.underlying t=some (.struct fs)) (hf:fs[f]? =some fd) (hs:Fs P fd.type=some s) (h1:1≤s) (h:J5 fd.offset (ρ x) K):Fsq P o ρ S K:=by
 have hrun:∀(a:Act) (w:World) (ad:Addr),a.eval x=.pointer (some ad)->(execOp a.eval o).run P w=.ok (.value (.pointer (some (ad.add fd.offset)))) w:=by
  intro a w ad ha
  simp[execOp,hop,Instr.fieldAt,run_underlying ht,hf,ha,Instr.sureAddr,fieldPlace,B2 hs,show s≠0 by omega]
 unfold J5 at h
 split at h
 ·rename_i i off hx
  refine AS (λG a w T _ hr=>?_) h
  have r:=hr x (by simp[hop,Op.operands])
  rw[hx]at r
  generalize ha:a.eval x=va at r
  cases r with
  |ref hb=>exact⟨_,hrun a w _ ha,by rw[BS];exact .ref hb⟩
 ·rename_i cs hx
  refine AS (λG a w T _ hr=>?_) h
  have r:=hr x (by simp[hop,Op.operands])
  rw[hx]at r
  generalize ha:a.eval x=va at r
  cases r with
  | @iptr _ b off vs g1 g2 g3=>
    refine⟨_,hrun a w _ ha,?_⟩
    rw[BS]
    exact .iptr (λj=>vs (fd.offset+j)) (λj hj=>by simp at hj;rw[←g1 (fd.offset+j) (by omega),Nat.add_assoc]) (λj hj=>by simp at hj;exact g2 _ (by omega)) (λj y hy=>by rw[List.getElem?_drop]at hy;exact g3 _ y hy)
 ·rename_i j g off hx
  refine AS (λG a w T _ hr=>?_) h
  have r:=hr x (by simp[hop,Op.operands])
  rw[hx]at r
  generalize ha:a.eval x=va at r
  cases r with
  |mref hb=>exact⟨_,hrun a w _ ha,by rw[BS];exact .mref hb⟩
 ·exact h.elim
def Aeo (n:Option Nat) (xs:List AV) (off:Nat) (v:AV):Prop:=
 match n with
 |none=>xs[off]? =some v
 |some n=>off+n≤xs.length∧v=.agg ((xs.drop off).take n)
theorem Sy {t:TypeId} {n:Option Nat} (hn:DV P t=some n) {G:Gh} {xs:List AV} {vs:Array Value} (r:BE G (.agg xs) (.agg vs)) (off:Nat) {v:AV}
 (h:Aeo n xs off v) (w:World):∃u,(part t vs off).run P w=.ok u w∧BE G v u:=by
 cases r with
 |agg h0 h2 h3=>
  cases n with
  |none=>
   have hlt:off<vs.size:=by rw[←h0];exact(List.getElem?_eq_some_iff.1 h).1
   have hv:vs[off]? =some vs[off]:=Array.getElem?_eq_getElem hlt
   exact⟨vs[off],by simp[part,G5 hn,hv],h3 off v _ h hv⟩
  |some n=>
   obtain⟨hle,rfl⟩:=h
   obtain⟨_,hs⟩:=NU hn
   refine⟨_,by simp[part,Ge hn,B2 hs];rfl,?_⟩
   have hget:∀{j:Nat} {u:Value},(vs.extract off (off+n))[j]? =some u->vs[off+j]? =some u∧j<n:=λ{j u} e=>by
    rw[Array.getElem?_extract]at e
    split at e
    ·exact⟨e,by omega⟩
    ·cases e
   refine .agg (by simp;omega) (λj u hu=>h2 _ u (hget hu).1) (λj y u hy hu=>h3 (off+j) y u ?_ (hget hu).1)
   rw[List.getElem?_take,if_pos (hget hu).2,List.getElem?_drop]at hy;exact hy
theorem Nd {off:Nat} {n:Option Nat} {xs:List AV} (h:KM off n (.agg xs) K):∃v,Aeo n xs off v∧K v [] [] []:=by
 unfold KM at h
 cases n with
 |none=>
  simp only at h
  split at h
  ·rename_i v hv;exact⟨v,hv,h⟩
  ·exact h.elim
 |some n=>exact⟨_,⟨h.1,rfl⟩,h.2⟩
theorem Ai1 {t:TypeId} {x:Operand} {f:Nat} {fs:Array Field} {fd:Field} {n:Option Nat} (hop:o.op=.field t x f) (ht:P.underlying t=some (.struct fs)) (hf:fs[f]? =some fd) (hn:DV P fd.type=some n) (h:KM fd.offset n (ρ x) K):Fsq P o ρ S K:=by
 cases hx:ρ x with
 |agg xs=>
  rw[hx]at h
  obtain⟨v,hv,hK⟩:=Nd h
  refine AS (λG a w T _ hr=>?_) hK
  have r:=hr x (by simp[hop,Op.operands])
  rw[hx]at r
  generalize ha:a.eval x=va at r
  cases r with
  | @agg _ vs h0 h2 h3=>
    obtain⟨u,hu,hru⟩:=Sy (P:=P) hn (BE.agg h0 h2 h3) fd.offset hv w
    exact⟨u,by simp[execOp,hop,Instr.field,run_underlying ht,hf,ha,asAgg,hu],hru⟩
 |_=>rw[hx]at h;exact h.elim
theorem Ai0 {t e:TypeId} {x ix:Operand} {len s:Nat} {n:Option Nat} (hop:o.op=.index t x ix) (ht:P.underlying t=some (.array len e)) (hs:Fs P e=some s) (hn:DV P e=some n) (h:Wx len s n (ρ x) (ρ ix) K):Fsq P o ρ S K:=by
 unfold Wx at h
 split at h
 ·rename_i xs k i hx hix
  obtain⟨h0,h1,h⟩:=h
  obtain⟨v,hv,hK⟩:=Nd h
  refine AS (λG a w T _ hr=>?_) hK
  have r:=hr x (by simp[hop,Op.operands])
  have ri:=hr ix (by simp[hop,Op.operands])
  rw[hx]at r
  rw[hix]at ri
  have ei:=A_ ri
  generalize ha:a.eval x=va at r
  cases r with
  | @agg _ vs g0 g2 g3=>
    obtain⟨u,hu,hru⟩:=Sy (P:=P) hn (BE.agg g0 g2 g3) (i.toNat*s) hv w
    exact⟨u,by simp[execOp,hop,Instr.index,run_underlying ht,ha,ei,asIntOf,h0,h1,B2 hs,hu],hru⟩
 ·exact h.elim
theorem Ado {t e:TypeId} {x ix:Operand} {s:Nat} (hop:o.op=.indexAddr t x ix) (ht:P.underlying t=some (.slice e)) (hs:Fs P e=some s) (h:Ll s (ρ x) (ρ ix) K):Fsq P o ρ S K:=by
 unfold Ll at h
 split at h
 ·rename_i tg ks xs k i hx hix
  obtain⟨rfl,h0,h1,hK⟩:=h
  refine AS (λG a w T _ hr=>?_) hK
  have r:=hr x (by simp[hop,Op.operands])
  have ri:=hr ix (by simp[hop,Op.operands])
  rw[hx]at r
  rw[hix]at ri
  have ei:=A_ ri
  generalize ha:a.eval x=va at r
  cases r with
  | @sl _ _ _ A c b off vs hc hA hk g1 g2 g3 htg=>
    have hlt:i.toNat<xs.length:=by omega
    have hxi:xs[i.toNat]? =some (xs.getD i.toNat .any):=by rw[List.getElem?_eq_getElem hlt];simp[hlt]
    have hA':=hA (by omega)
    subst hA'
    refine⟨.pointer (some ⟨b,off+i.toNat*ks,none⟩),?_,?_⟩
    ·simp[execOp,hop,Instr.indexAt,run_underlying ht,ha,ei,asIntOf,h0,h1,B2 hs,BS]
    ·have hcl:=hk _ _ hxi
     exact .iptr (vs i.toNat) (λj hj=>g1 _ j hlt (by omega)) (λj hj=>g2 _ j hlt (by omega)) (λj y hy=>g3 _ j _ y hxi hy)
 ·rename_i j g k i hx hix
  obtain⟨h0,h1,hK⟩:=h
  refine AS (λG a w T _ hr=>?_) hK
  have r:=hr x (by simp[hop,Op.operands])
  have ri:=hr ix (by simp[hop,Op.operands])
  rw[hx]at r
  rw[hix]at ri
  have ei:=A_ ri
  generalize ha:a.eval x=va at r
  cases r with
  | @ms _ _ A c hh hA=>
    obtain⟨b,rfl⟩:=hA (by omega)
    refine⟨.pointer (some ⟨b,i.toNat*s,none⟩),?_,.mref hh⟩
    simp[execOp,hop,Instr.indexAt,run_underlying ht,ha,ei,asIntOf,h0,h1,B2 hs,BS]
 ·exact h.elim
theorem Adt {t e:TypeId} {x ix:Operand} {len s:Nat} (hop:o.op=.indexAddr t x ix) (ht:P.underlying t=some (.array len e)) (hs:Fs P e=some s) (h:Lm len s (ρ x) (ρ ix) K):Fsq P o ρ S K:=by
 unfold Lm at h
 split at h
 ·rename_i i off k n hx hix
  obtain⟨h0,h1,hK⟩:=h
  refine AS (λG a w T _ hr=>?_) hK
  have r:=hr x (by simp[hop,Op.operands])
  have ri:=hr ix (by simp[hop,Op.operands])
  rw[hx]at r
  rw[hix]at ri
  have ei:=A_ ri
  generalize ha:a.eval x=va at r
  cases r with
  | @ref _ _ b hb=>
    refine⟨.pointer (some ⟨b,off+n.toNat*s,none⟩),?_,.ref hb⟩
    simp[execOp,hop,Instr.indexAt,run_underlying ht,ha,ei,asIntOf,Instr.sureAddr,h0,h1,B2 hs,BS]
 ·rename_i cs k n hx hix
  obtain⟨h0,h1,hK⟩:=h
  refine AS (λG a w T _ hr=>?_) hK
  have r:=hr x (by simp[hop,Op.operands])
  have ri:=hr ix (by simp[hop,Op.operands])
  rw[hx]at r
  rw[hix]at ri
  have ei:=A_ ri
  generalize ha:a.eval x=va at r
  cases r with
  | @iptr _ b off vs g1 g2 g3=>
    refine⟨.pointer (some ⟨b,off+n.toNat*s,none⟩),?_,?_⟩
    ·simp[execOp,hop,Instr.indexAt,run_underlying ht,ha,ei,asIntOf,Instr.sureAddr,h0,h1,B2 hs,BS]
    ·exact .iptr (λj=>vs (n.toNat*s+j)) (λj hj=>by simp at hj;rw[←g1 (n.toNat*s+j) (by omega),Nat.add_assoc]) (λj hj=>by simp at hj;exact g2 _ (by omega)) (λj y hy=>by rw[List.getElem?_drop]at hy;exact g3 _ y hy)
 ·exact h.elim
theorem Adg {t:TypeId} {x ix:Operand} (hop:o.op=.index t x ix) (ht:P.underlying t=some .string) (h:Pt (ρ x) (ρ ix) K):Fsq P o ρ S K:=by
 unfold Pt at h
 split at h
 ·rename_i s k i hx hix
  obtain⟨h0,h1,hK⟩:=h
  refine AS (λG a w T _ hr=>⟨_,?_,.lit _⟩) hK
  have r:=hr x (by simp[hop,Op.operands])
  have ri:=hr ix (by simp[hop,Op.operands])
  rw[hx]at r
  rw[hix]at ri
  have ex:=A_ r
  have ei:=A_ ri
  have hlt:i.toNat<s.size:=by omega
  have hlt':i.toNat<s.data.toList.length:=by simpa using hlt
  have hg:s[i.toNat]? =some (s.data.toList.getD i.toNat 0):=by
   rw[ByteArray.getElem?_lt' s _ hlt]
   congr 1
   simp only[List.getD_eq_getElem?_getD,List.getElem?_eq_getElem hlt',Option.getD_some]
   rfl
  simp[execOp,hop,Instr.index,run_underlying ht,ex,ei,asIntOf,h0,hg]
 ·exact h.elim
theorem Ai6 {src dst e:TypeId} {x:Operand} (hop:o.op=.convert src dst x) (hs:P.underlying src=some (.slice e)) (he:P.underlying e=some (.int .u8)) (hd:P.underlying dst=some .string) (h:WC (ρ x) K):Fsq P o ρ S K:=by
 unfold WC at h
 split at h
 ·rename_i tg k xs hx
  obtain⟨hk,hu,hK⟩:=h
  refine AS (λG a w T hw hr=>⟨_,?_,.lit _⟩) hK
  have r:=hr x (by simp[hop,Op.operands])
  rw[hx]at r
  generalize ha:a.eval x=va at r
  cases r with
  | @sl _ _ _ A c b off vs hc hA hk' g1 g2 g3 htg=>
    have hbytes:∀(ns:List Int) (s:ByteArray),ns.foldl (λr n=>r.push (UInt8.ofNat n.toNat)) s=⟨s.data++(ns.map λn=>UInt8.ofNat n.toNat).toArray⟩:=by
     intro ns
     induction ns with
     |nil=>intro s;simp
     |cons n ns ih=>intro s;rw[List.foldl_cons,ih];simp[ByteArray.push]
    simp only[execOp,hop,ha]
    by_cases h0:0<xs.length
    ·have hA':=hA h0
     subst hA'
     have hk1:k=1:=by rcases hk with h|h;exact h;(subst h;simp at h0)
     subst hk1
     let ns:List Int:=xs.map λx=>match x with| .lit (.int _ n)=>n|_=>0
     have hload:(loadCells ⟨b,off,none⟩ xs.length).run P w=.ok (ns.map (Value.int .u8)).toArray w:=by
      rw[run_loadCells w ⟨b,off,none⟩ xs.length (λj=>vs j 0) (λj hj=>by rw[BS];have:=hw.imm _ _ _ (g1 j 0 hj (by omega));simpa using this)]
      congr 2
      apply List.ext_getElem?
      intro j
      by_cases hj:j<xs.length
      ·have hxj:=List.getElem?_eq_getElem hj
       have hone:=List.all_eq_true.1 hu _ (List.getElem_mem hj)
       have hcell:=hk' j _ hxj
       simp only[ns,List.getElem?_map,List.getElem?_range hj,Option.map_some,hxj]
       generalize hy:xs[j]=y at*
       cases y<;>simp[AV.isU8]at hone
       rename_i v
       cases v<;>try(simp at hone;done)
       rename_i kk n
       cases kk<;>try(simp at hone;done)
       have:=g3 j 0 _ (.lit (.int .u8 n)) hxj (by simp[AV.cells])
       exact congrArg some (A_ this)
      ·simp[ns,hj]
     have hb:=run_bytesToString (P:=P) w ⟨b,off,none⟩ xs.length c ns hload
     have hc2:=run_convert_bytes_string (P:=P) w src dst e (some ⟨b,off,none⟩) xs.length c hs he hd
     simp only[Sem.run_bind,hc2,hb,Result.andThen_ok,Sem.run_pure]
     rw[hbytes]
     have:(ns.map λn=>UInt8.ofNat n.toNat)=xs.map AV.byte:=by
      simp only[ns,List.map_map]
      apply List.map_congr_left
      intro y hy
      have hone:=List.all_eq_true.1 hu _ hy
      cases y<;>simp[AV.isU8]at hone
      rename_i v
      cases v<;>try(simp at hone;done)
      rfl
     rw[this]
     simp[Fg]
    ·have hx0:xs=[]:=List.eq_nil_of_length_eq_zero (by omega)
     subst hx0
     have hc2:=run_convert_bytes_string (P:=P) w src dst e A ([]:List AV).length c hs he hd
     cases A with
     |none=>
      simp only[List.length_nil]at hc2 ⊢
      simp only[Sem.run_bind,hc2,Conv.bytesToString,Result.andThen_ok,Sem.run_pure]
      rfl
     |some ad=>
      have hb:=run_bytesToString (P:=P) w ad 0 c [] (by simp[loadCells,loadCellsFrom])
      simp only[List.length_nil]at hc2 ⊢
      simp only[Sem.run_bind,hc2,hb,Result.andThen_ok,Sem.run_pure]
      rfl
 ·exact h.elim
end
section
variable {P:Program} {o:Oper} {ρ:Operand->AV} {S:List Ad} {K:KT}
theorem Afw (cs:List Value) (off k:Nat) (A:Array Value) (i:Nat) (h:off+k+cs.length≤A.size):
 ((cs.zipIdx k).foldl (λA (p:Value×Nat)=>A.setIfInBounds (off+p.2) p.1) A)[i]? =(if off+k≤i∧i<off+k+cs.length then cs[i-off-k]? else A[i]?)∧
 ((cs.zipIdx k).foldl (λA (p:Value×Nat)=>A.setIfInBounds (off+p.2) p.1) A).size=A.size:=by
 induction cs generalizing k A with
 |nil=>simp;intro h1 h2;omega
 |cons c cs ih=>
  simp only[List.length_cons]at h ⊢
  simp only[List.zipIdx_cons,List.foldl_cons]
  obtain⟨h1,h2⟩:=ih (k+1) (A.setIfInBounds (off+k) c) (by simp;omega)
  refine⟨?_,by rw[h2];simp⟩
  rw[h1]
  by_cases e:i=off+k
  ·subst e
   rw[if_neg (by omega),if_pos (by omega)]
   have:off+k<A.size:=by omega
   simp[this]
  ·by_cases e2:off+(k+1)≤i∧i<off+(k+1)+cs.length
   ·rw[if_pos e2,if_pos (by omega),show i-off-k=(i-off-(k+1))+1 by omega];simp
   ·rw[if_neg e2,if_neg (by omega),Array.getElem?_setIfInBounds_ne (Ne.symm e)]
theorem PC (place:Nat->Option (Nat×Nat)) (A:Array Value) (i off size:Nat) (v:Value) (rest:List (Nat×Value)) (hp:place i=some (off,size)) (hs:v.cells.size=size) (hle:off+size≤A.size):
 ∃B,Instr.fill place A ((i,v)::rest)=Instr.fill place B rest∧B.size=A.size∧∀q,B[q]? =if off≤q∧q<off+size then v.cells[q-off]? else A[q]? :=by
 have hf:=λq=>Afw v.cells.toList off 0 A q (by simp[hs];omega)
 refine⟨_,?_,(hf 0).2,λq=>?_⟩
 ·simp only[Instr.fill,hp,hs]
  rw[if_neg (by simp;omega)]
  rw[←Array.foldl_toList]
  simp only[Array.toList_zipIdx]
 ·rw[(hf q).1]
  simp[hs]
theorem Ly {G:Gh} {place:Nat->Option (Nat×Nat)}:∀(ps:List (Nat×Nat×AV)) (vs:List (Nat×Value)) (cells:List AV) (A:Array Value) (out:List AV),
 Ka cells ps=some out->ps.length=vs.length->(∀(j:Nat) (p:Nat×Nat×AV) (q:Nat×Value),ps[j]? =some p->vs[j]? =some q->place q.1=some (p.1,p.2.1)∧BE G p.2.2 q.2)->
 Cn G cells A.toList->(∀v∈A.toList,v.oneCell'=true)->∃B,Instr.fill place A vs=some B∧Cn G out B.toList∧∀v∈B.toList,v.oneCell'=true:=by
 intro ps
 induction ps with
 |nil=>
  intro vs cells A out h hl _ hr ho
  cases vs with
  |nil=>simp[Ka]at h;subst h;exact⟨A,rfl,hr,ho⟩
  |cons=>simp at hl
 |cons p ps ih=>
  intro vs cells A out h hl hp hr ho
  cases vs with
  |nil=>simp at hl
  |cons q vs=>
   obtain⟨off,size,x⟩:=p
   obtain⟨i,v⟩:=q
   obtain⟨hpl,hx⟩:=hp 0 _ _ rfl rfl
   simp only[Ka]at h
   split at h
   ·rename_i cs hcs
    split at h
    ·rename_i hc
     obtain⟨h1,h2,h3⟩:=hx.parts hcs
     have hsz:v.cells.size=size:=by have:=h2.1;simp at this;omega
     have hA:cells.length=A.size:=by simpa using hr.1
     obtain⟨B,hB1,hB2,hB3⟩:=PC place A i off size v vs hpl hsz (by omega)
     have hBl:∀q,B.toList[q]? =if off≤q∧q<off+size then v.cells[q-off]? else A.toList[q]? :=λq=>by simpa using hB3 q
     refine hB1▸ih vs (CB cells off cs) B out h (by simpa using hl) (λj p q hj hq=>hp (j+1) p q (by simpa using hj) (by simpa using hq)) ⟨by rw[Gd];simp[hB2,hA],λj y u hy hu=>?_⟩ (λu hu=>?_)
     ·rw[GZ _ _ _ (by omega)]at hy
      rw[hBl]at hu
      rw[hc.1]at hy
      split at hy
      ·rename_i hj;rw[if_pos hj]at hu;exact h2.2 _ y u hy (by simpa using hu)
      ·rename_i hj;rw[if_neg hj]at hu;exact hr.2 j y u hy hu
     ·obtain⟨j,hj,rfl⟩:=List.getElem_of_mem hu
      have e:=List.getElem?_eq_getElem hj
      rw[hBl]at e
      split at e
      ·exact h3 _ (List.mem_of_getElem? (by simpa using e))
      ·exact ho _ (List.mem_of_getElem? e)
    ·cases h
   ·cases h
theorem Te {α β:Type} {f:α->Option β}:∀{l:List α} {r:List β},LP f l=some r->l.length=r.length∧∀(j:Nat) (x:α) (y:β),l[j]? =some x->r[j]? =some y->f x=some y:=by
 intro l
 induction l with
 |nil=>intro r h;simp[LP]at h;subst h;exact⟨rfl,λj x y hx=>by simp at hx⟩
 |cons a l ih=>
  intro r h
  simp only[LP]at h
  split at h
  ·rename_i y ys hy hys
   injection h with h;subst h
   obtain⟨h1,h2⟩:=ih hys
   refine⟨by simp[h1],λj x z hx hz=>?_⟩
   cases j with
   |zero=>simp at hx hz;subst hx hz;exact hy
   |succ j=>simp at hx hz;exact h2 j x z hx hz
  ·cases h
theorem Pf {ps:Array (Nat×Operand)} {t:TypeId} (hop:o.op=.build t ps) {j:Nat} {p:Nat×Operand} (h:ps.toList[j]? =some p):p.2∈o.op.operands:=by
 simp only[hop,Op.operands,List.mem_toArray,List.mem_map]
 exact⟨p,List.mem_of_getElem? h,rfl⟩
theorem O_ {G:Gh} (zs:List Value):Cn G (zs.map AV.ofC1) zs:=⟨by simp,λj x v hx hv=>by
 obtain⟨y,hy,rfl⟩:=Be hx
 rw[hv]at hy;injection hy with hy;subst hy
 exact JS G v⟩
theorem KB {t:TypeId} {ps:Array (Nat×Operand)} {fs:Array Field} {zs:List Value} {qs:List (Nat×Nat×Operand)} (hop:o.op=.build t ps) (ht:P.underlying t=some (.struct fs)) (hz:Ey P t=some zs)
 (hfs:fs.all (λf=>(Fs P f.type).isSome)=true) (hq:LP (λp:Nat×Operand=>(fs[p.1]?).bind λf=>(Fs P f.type).map λs=>(f.offset,s,p.2)) ps.toList=some qs)
 (h:Hc (zs.map AV.ofC1) (qs.map λ(a,b,x)=>(a,b,ρ x)) K):Fsq P o ρ S K:=by
 unfold Hc at h
 split at h
 ·rename_i out hout
  obtain⟨hq1,hq2⟩:=Te hq
  obtain⟨it,z,C0,hz0,rfl,ho⟩:=CX hz
  refine AS (λG a w T _ hr=>?_) h
  let pl:List (Nat×Nat):=fs.toList.map λf=>(f.offset,(Fs P f.type).getD 0)
  have hpl:fs.toList.mapM (λf=>(P.info? f.type).map λi=>(f.offset,i.size))=some pl:=by
   have hall:∀f∈fs.toList,(Fs P f.type).isSome=true:=λf hf=>by
    obtain⟨j,hj,rfl⟩:=List.getElem_of_mem hf
    have:=Array.all_eq_true.1 hfs j (by simpa using hj)
    simpa using this
   simp only[pl]
   generalize fs.toList=l at hall
   clear pl
   induction l with
   |nil=>rfl
   |cons f l ih=>
    have hf:=hall f (by simp)
    obtain⟨s,hs⟩:=Option.isSome_iff_exists.1 hf
    obtain⟨i,hi,rfl⟩:=Mq hs
    rw[List.mapM_cons]
    simp[hi,hs,ih (λg hg=>hall g (by simp[hg]))]
  obtain⟨B,hB,hBr,hBo⟩:=Ly (G:=G) (place:=λi=>pl[i]?) _ (ps.toList.map λp=>(p.1,a.eval p.2)) _ z.cells out hout (by simp[hq1]) (λj p q hp hq'=>by
   obtain⟨⟨a1,b1,x1⟩,hp1,rfl⟩:=Be hp
   obtain⟨p1,hq1',rfl⟩:=Be hq'
   have e:=hq2 j p1 _ hq1' hp1
   cases hf:fs[p1.1]? with
   |none=>simp[hf]at e
   |some f=>
    cases hs:Fs P f.type with
    |none=>simp[hf,hs]at e
    |some s=>
     simp[hf,hs]at e
     obtain⟨rfl,rfl,rfl⟩:=e
     refine⟨by simp[pl,hf,hs],hr _ (Pf hop hq1')⟩) (O_ _) ho
  refine⟨.agg B,?_,.agg (by simpa using hBr.1) (λj v hv=>hBo v (List.mem_of_getElem? (by simpa using hv))) (λj x v hx hv=>hBr.2 j x v hx (by simpa using hv))⟩
  have hbt:P.built t (ps.map λ(i,x)=>(i,a.eval x)).toList=some B:=by
   simp only[Program.built,C0,ht,hz0,hpl]
   have:(ps.map λ(i,x)=>(i,a.eval x)).toList=ps.toList.map λp=>(p.1,a.eval p.2):=by simp
   rw[this]
   simpa using hB
  simp only[execOp,hop,Sem.run_bind,run_build w t _ B hbt,Result.andThen_ok,Sem.run_pure]
 ·exact h.elim
theorem LL {t e:TypeId} {n s:Nat} {ps:Array (Nat×Operand)} {zs:List Value} (hop:o.op=.build t ps) (ht:P.underlying t=some (.array n e)) (hz:Ey P t=some zs) (hs:Fs P e=some s)
 (h:Hc (zs.map AV.ofC1) ((ps.toList.map λp=>(p.1*s,s,p.2)).map λ(a,b,x)=>(a,b,ρ x)) K):Fsq P o ρ S K:=by
 unfold Hc at h
 split at h
 ·rename_i out hout
  obtain⟨it,z,C0,hz0,rfl,ho⟩:=CX hz
  obtain⟨ie,hie,rfl⟩:=Mq hs
  refine AS (λG a w T _ hr=>?_) h
  obtain⟨B,hB,hBr,hBo⟩:=Ly (G:=G) (place:=λi=>some (i*ie.size,ie.size)) _ (ps.toList.map λp=>(p.1,a.eval p.2)) _ z.cells out hout (by simp) (λj p q hp hq'=>by
   obtain⟨p2,hp2,rfl⟩:=Be hp
   obtain⟨p3,hp3,rfl⟩:=Be hp2
   obtain⟨p1,hq1',rfl⟩:=Be hq'
   rw[hp3]at hq1';injection hq1' with e;subst e
   exact⟨rfl,hr _ (Pf hop hp3)⟩) (O_ _) ho
  refine⟨.agg B,?_,.agg (by simpa using hBr.1) (λj v hv=>hBo v (List.mem_of_getElem? (by simpa using hv))) (λj x v hx hv=>hBr.2 j x v hx (by simpa using hv))⟩
  have hbt:P.built t (ps.map λ(i,x)=>(i,a.eval x)).toList=some B:=by
   simp only[Program.built,C0,ht,hz0,hie]
   have:(ps.map λ(i,x)=>(i,a.eval x)).toList=ps.toList.map λp=>(p.1,a.eval p.2):=by simp
   rw[this]
   exact hB
  simp only[execOp,hop,Sem.run_bind,run_build w t _ B hbt,Result.andThen_ok,Sem.run_pure]
 ·exact h.elim
theorem T2 (k:Nat):∀(us:List Value) (s:Nat) (A:Array Value),(∀u∈us,u.cells.size=k)->(s+us.length)*k≤A.size->
 ∃B,Instr.fill (λi=>some (i*k,k)) A ((List.range' s us.length).zip us)=some B∧B.size=A.size∧(∀q,q<s*k->B[q]? =A[q]?)∧∀i j u,us[i]? =some u->j<k->B[(s+i)*k+j]? =u.cells[j]? :=by
 intro us
 induction us with
 |nil=>intro s A _ _;exact⟨A,rfl,rfl,λ_ _=>rfl,λi j u h=>by simp at h⟩
 |cons u us ih=>
  intro s A hk hle
  simp only[List.length_cons]at hle
  have hmul:(s+(us.length+1))*k=s*k+k+us.length*k:=by rw[Nat.add_mul,Nat.add_mul];omega
  obtain⟨B,hB1,hB2,hB3⟩:=PC (λi=>some (i*k,k)) A s (s*k) k u ((List.range' (s+1) us.length).zip us) rfl (hk u (by simp)) (by omega)
  obtain⟨C,hC1,hC2,hC3,hC4⟩:=ih (s+1) B (λv hv=>hk v (by simp[hv])) (by rw[hB2,show s+1+us.length=s+(us.length+1) by omega];exact hle)
  refine⟨C,?_,by rw[hC2,hB2],λq hq=>?_,λi j v hv hj=>?_⟩
  ·simp only[List.length_cons,List.range'_succ,List.zip_cons_cons]
   rw[hB1];exact hC1
  ·rw[hC3 q (by rw[Nat.add_mul];omega),hB3,if_neg (by omega)]
  ·cases i with
   |zero=>
    simp at hv;subst hv
    rw[Nat.add_zero,hC3 _ (by rw[Nat.add_mul];omega),hB3,if_pos (by omega),show s*k+j-s*k=j by omega]
   |succ i=>
    simp at hv
    rw[show s+(i+1)=s+1+i by omega]
    exact hC4 i j v hv hj
theorem Ai4 {t e:TypeId} {n k:Nat} {ps:Array (Nat×Operand)} {zs:List Value} (hop:o.op=.buildSlice t n ps) (ht:P.underlying t=some (.slice e)) (hs:Fs P e=some k) (hz:Ey P e=some zs)
 (_hzl:zs.length=k) (_hk1:1≤k) (hlim:n*k≤16777216) (hps:ps.toList.map (·.1)=List.range n) (h:Akj k ((ps.toList.map (·.2)).map ρ) K):Fsq P o ρ S K:=by
 obtain⟨hall,hK⟩:=h
 have hlen:ps.toList.length=n:=by have:=congrArg List.length hps;simpa using this
 refine⟨_,[],[],[],λT _ _ G a w hw hr Kc Q hk=>?_,(λp hp=>by cases hp),(λi hi=>by simp at hi),hK⟩
 obtain⟨it,z,C0,hz0,hzc,ho⟩:=CX hz
 have hrep:∀(j:Nat) (p:Nat×Operand),ps.toList[j]? =some p->BE G (ρ p.2) (a.eval p.2):=λj p hp=>hr p.2 (by
  simp only[hop,Op.operands,List.mem_toArray,List.mem_map]
  exact⟨p,List.mem_of_getElem? hp,rfl⟩)
 have hpart:∀(j:Nat) (p:Nat×Operand),ps.toList[j]? =some p->∃cs,(ρ p.2).parts=some cs∧cs.length=k:=λj p hp=>by
  have:=List.all_eq_true.1 hall (ρ p.2) (by simp only[List.mem_map];exact⟨p.2,⟨p,List.mem_of_getElem? hp,rfl⟩,rfl⟩)
  unfold ZX at this
  split at this
  ·rename_i cs hcs;exact⟨cs,hcs,by simpa using this⟩
  ·cases this
 let us:List Value:=ps.toList.map λp=>a.eval p.2
 have husl:us.length=n:=by simp[us,hlen]
 have husk:∀u∈us,u.cells.size=k:=by
  intro u hu
  simp only[us,List.mem_map]at hu
  obtain⟨p,hp,rfl⟩:=hu
  obtain⟨j,hj,rfl⟩:=List.getElem_of_mem hp
  obtain⟨cs,hcs,hl⟩:=hpart j _ (List.getElem?_eq_getElem hj)
  have:=((hrep j _ (List.getElem?_eq_getElem hj)).parts hcs).2.1.1
  rw[←hl,this];exact(Array.length_toList (xs:=_)).symm
 let A:Array Value:=(Array.range (n*k)).map (z.cells[· %z.cells.size]!)
 have hAs:A.size=n*k:=by simp[A]
 obtain⟨B,hB1,hB2,hB3,hB4⟩:=T2 k us 0 A husk (by rw[hAs,husl,Nat.zero_add];exact Nat.le_refl _)
 have hzip:(List.range' 0 us.length).zip us=(ps.map λ(i,x)=>(i,a.eval x)).toList:=by
  rw[husl,←List.range_eq_range',←hps]
  simp only[us,Array.toList_map]
  rw[List.zip_map']
 have hrun:(execOp a.eval o).run P w=.ok (.value (.slice (some ⟨w.heap.size,0,none⟩) n n)) (w.alloc (.cells B e)):=by
  simp only[execOp,hop,Instr.buildSlice,Sem.run_bind,run_underlying ht,Result.andThen_ok,B2 hs]
  rw[if_neg (by omega)]
  have hz':zs.length=z.cells.size:=by rw[hzc];simp
  by_cases hn:n*k=0
  ·have hA0:A=(Array.range (n*k)).map (λx=>(#[]:Array Value)[x%(#[]:Array Value).size]!):=by
    apply Array.ext
    ·simp[A]
    ·intro i h1 h2;simp[A,hn]at h1
   rw[hzip,hA0]at hB1
   simp[hn]at hB1 ⊢
   simp[hB1,newRow]
  ·rw[hzip]at hB1
   simp[hn,zeroValue,typeInfo,C0,hz0]
   simp[A]at hB1
   simp[hB1,newRow]
 refine .inl ?_
 unfold Oper.wp
 rw[hrun]
 have hstill:=Bf.still_ (vs:=B.toList) hw (DH.alloc w (.cells B e)) (λi v hv=>by simpa using hv)
 refine hk _ _ _ ?_ (by simpa[BG]using hstill)
 have hxl:((ps.toList.map (·.2)).map ρ).length=n:=by simpa using hlen
 have hBc:∀i j,i<n->j<k->∃p cs u,ps.toList[i]? =some p∧(ρ p.2).parts=some cs∧cs.length=k∧B[i*k+j]? =some u∧(a.eval p.2).cells[j]? =some u:=by
  intro i j hi hj
  have hp:=List.getElem?_eq_getElem (show i<ps.toList.length by omega)
  obtain⟨cs,hcs,hl⟩:=hpart i _ hp
  have hu:us[i]? =some (a.eval (ps.toList[i]'(by omega)).2):=by simp only[us,List.getElem?_map,hp,Option.map_some]
  have e:=hB4 i j _ hu hj
  have hsz:=husk _ (List.mem_of_getElem? hu)
  have hv:=Array.getElem?_eq_getElem (show j<(a.eval (ps.toList[i]'(by omega)).2).cells.size by omega)
  refine⟨_,cs,_,hp,hcs,hl,?_,hv⟩
  rw[Nat.zero_add]at e
  rw[e];exact hv
 have:=BE.sl (G:=G.newImm w.heap.size B.toList) (t:=.full) (k:=k) (xs:=(ps.toList.map (·.2)).map ρ) (A:=some ⟨w.heap.size,0,none⟩) (c:=n) (b:=w.heap.size) (o:=0) (λi j=>(B[i*k+j]?).getD undef) (by rw[hxl];omega) (λ_=>rfl)
  (λi x hx=>by
    obtain⟨p',hp',rfl⟩:=Be hx
    obtain⟨p,hp,rfl⟩:=Be hp'
    obtain⟨cs,hcs,hl⟩:=hpart i p hp
    rw[←((hrep i p hp).parts hcs).1];exact hl)
  (λi j hi hj=>by
    obtain⟨p,cs,u,hp,hcs,hl,hBu,hu⟩:=hBc i j (by omega) hj
    simp[Gh.newImm,hBu])
  (λi j hi hj=>by
    obtain⟨p,cs,u,hp,hcs,hl,hBu,hu⟩:=hBc i j (by omega) hj
    simp only[hBu,Option.getD_some]
    exact((hrep i p hp).parts hcs).2.2 u (List.mem_of_getElem? (by simpa using hu)))
  (λi j x y hx hy=>by
    obtain⟨p',hp',rfl⟩:=Be hx
    obtain⟨p,hp,rfl⟩:=Be hp'
    have hi:i<n:=by rw[←hlen];exact(List.getElem?_eq_some_iff.1 hp).1
    obtain⟨cs,hcs,hl⟩:=hpart i p hp
    have hpt:=(hrep i p hp).parts hcs
    rw[←hpt.1]at hy
    have hj:j<k:=by rw[←hl];exact(List.getElem?_eq_some_iff.1 hy).1
    obtain⟨p2,cs2,u,hp2,hcs2,hl2,hBu,hu⟩:=hBc i j hi hj
    rw[hp]at hp2;injection hp2 with e;subst e
    simp only[hBu,Option.getD_some]
    exact(hpt.2.1.2 j y u hy (by simpa using hu)).mono hstill.le)
  (by rw[hxl];rfl)
 rwa[hxl]at this
end
section
variable {P:Program} {o:Oper} {ρ:Operand->AV} {S:List Ad} {K:KT}
theorem Gt (w:World) (t ty e t0:TypeId) (i:TypeInfo) (ht:P.underlying t=some (.slice e)) (hi:P.info? e=some i) (g sLen sCap:Nat) (cur:Array Value) (hg:w.heap[g]? =some (.cells cur t0 (0,0)))
 (a:Addr) (m c:Nat) (news:List Value) (hl:news.length=m*i.size) (hnews:∀j u,news[j]? =some u->w.cell? (a.add j)=some u) (h1:∀u∈news,u.oneCell'=true)
 (hroom:sLen+m≤sCap) (hfit:sLen*i.size+news.length≤cur.size):
 (Builtin.append_ #[t,t] ty #[.slice (some ⟨g,0,none⟩) sLen sCap,.slice (some a) m c]).run P w=
   .ok (.slice (some ⟨g,0,none⟩) (sLen+m) sCap) (w.setRow g (cur.toList.take (sLen*i.size)++news++cur.toList.drop (sLen*i.size+news.length)).toArray):=by
 have hf:=run_firstCells_some (P:=P) w i.size m a m c news hl hnews
 have hst:=run_storeCells_at P g (sLen*i.size) t0 news 0 cur w hg (by simpa using hfit) h1
 simp only[Nat.add_zero]at hst
 simp[Builtin.append_,run_underlying ht,sizeOf,typeInfo,hi,Builtin.lenOf,hroom,hf,BS,hst]
theorem DW (w:World) (t ty e:TypeId) (i:TypeInfo) (ht:P.underlying t=some (.slice e)) (hi:P.info? e=some i) (A B:Option Addr) (n c c2:Nat) (hc:n≤c):
 (Builtin.append_ #[t,t] ty #[.slice A n c,.slice B 0 c2]).run P w=.ok (.slice A n c) w:=by
 cases A<;>cases B<;>simp[Builtin.append_,run_underlying ht,sizeOf,typeInfo,hi,Builtin.lenOf,Builtin.firstCells,hc,storeCells,loadCells,loadCellsFrom]
theorem EZ {G:Gh} {t:Gl} {k:Nat} {xs:List AV} {A:Option Addr} {n c:Nat} (r:BE G (.sl t k xs) (.slice A n c)) (hk:1≤k):
 ∃vs:List Value,n=xs.length∧n≤c∧vs.length=xs.length*k∧(∀u∈vs,u.oneCell'=true)∧(∀(i j:Nat) (x y:AV),xs[i]? =some x->x.cells[j]? =some y->∃u,vs[i*k+j]? =some u∧BE G y u)∧(∀(i:Nat) (x:AV),xs[i]? =some x->x.cells.length=k)∧
  (0<xs.length->∃b o,A=some ⟨b,o,none⟩∧∀(q:Nat) (u:Value),vs[q]? =some u->G.imm b (o+q)=some u)∧HD G t A n c:=by
 cases r with
 | @sl _ _ _ _ _ b o vs hc hA hk' g1 g2 g3 ht=>
   have hdm:∀i j,j<k->(i*k+j)/k=i∧(i*k+j)%k=j:=λi j hj=>by
    rw[Nat.mul_comm]
    exact⟨by rw[Nat.mul_add_div (by omega),Nat.div_eq_of_lt hj];rfl,by rw[Nat.mul_add_mod,Nat.mod_eq_of_lt hj]⟩
   have hq:∀q,q<xs.length*k->q/k<xs.length∧q%k<k:=λq hq=>⟨Nat.div_lt_of_lt_mul (by rw[Nat.mul_comm];exact hq),Nat.mod_lt _ (by omega)⟩
   refine⟨(List.range (xs.length*k)).map λq=>vs (q/k) (q%k),rfl,hc,by simp,λu hu=>?_,λi j x y hx hy=>?_,hk',λh0=>⟨b,o,hA h0,λq u hu=>?_⟩,ht⟩
   ·simp only[List.mem_map,List.mem_range]at hu
    obtain⟨q,hq1,rfl⟩:=hu
    exact g2 _ _ (hq q hq1).1 (hq q hq1).2
   ·have hi:i<xs.length:=(List.getElem?_eq_some_iff.1 hx).1
    have hj:j<k:=by rw[←hk' i x hx];exact(List.getElem?_eq_some_iff.1 hy).1
    have hlt:i*k+j<xs.length*k:=by
     have:(i+1)*k≤xs.length*k:=Nat.mul_le_mul_right _ (by omega)
     rw[Nat.add_mul]at this;omega
    refine⟨vs i j,?_,g3 i j x y hx hy⟩
    rw[List.getElem?_map,List.getElem?_range hlt,Option.map_some,(hdm i j hj).1,(hdm i j hj).2]
   ·have hlt:q<xs.length*k:=by have:=(List.getElem?_eq_some_iff.1 hu).1;simpa using this
    rw[List.getElem?_map,List.getElem?_range hlt]at hu
    simp at hu
    rw[←hu]
    have:=g1 _ _ (hq q hlt).1 (hq q hlt).2
    rwa[Nat.add_assoc,Nat.mul_comm,Nat.div_add_mod]at this
theorem Fc {G:Gh} {t:Gl} {k b c:Nat} {zs:List AV} {vs:List Value} (hl:vs.length=zs.length*k) (hc:zs.length≤c) (h1:∀u∈vs,u.oneCell'=true) (hk:∀(i:Nat) (x:AV),zs[i]? =some x->x.cells.length=k)
 (hi:∀(q:Nat) (u:Value),vs[q]? =some u->G.imm b q=some u) (hr:∀(i j:Nat) (x y:AV) (u:Value),zs[i]? =some x->x.cells[j]? =some y->vs[i*k+j]? =some u->BE G y u) (ht:HD G t (some ⟨b,0,none⟩) zs.length c):
 BE G (.sl t k zs) (.slice (some ⟨b,0,none⟩) zs.length c):=by
 have hlt:∀i j,i<zs.length->j<k->i*k+j<vs.length:=λi j h h'=>by
  have:(i+1)*k≤zs.length*k:=Nat.mul_le_mul_right _ (by omega)
  rw[Nat.add_mul]at this;omega
 refine .sl (b:=b) (o:=0) (λi j=>vs.getD (i*k+j) undef) hc (λ_=>rfl) hk (λi j hi' hj=>?_) (λi j hi' hj=>?_) (λi j x y hx hy=>?_) ht
 ·rw[Nat.zero_add];exact hi _ _ (by simp[hlt i j hi' hj])
 ·exact h1 _ (List.mem_of_getElem? (i:=i*k+j) (by simp[hlt i j hi' hj]))
 ·have hi':i<zs.length:=(List.getElem?_eq_some_iff.1 hx).1
  have hj:j<k:=by rw[←hk i x hx];exact(List.getElem?_eq_some_iff.1 hy).1
  exact hr i j x y _ hx hy (by simp[hlt i j hi' hj])
theorem LG {G:Gh} {k:Nat} {xs ys:List AV} {vs us:List Value} (hv:vs.length=xs.length*k) (h1:∀(i j:Nat) (x y:AV),xs[i]? =some x->x.cells[j]? =some y->∃u,vs[i*k+j]? =some u∧BE G y u) (hxk:∀(i:Nat) (x:AV),xs[i]? =some x->x.cells.length=k)
 (h2:∀(i j:Nat) (x y:AV),ys[i]? =some x->x.cells[j]? =some y->∃u,us[i*k+j]? =some u∧BE G y u) (hyk:∀(i:Nat) (x:AV),ys[i]? =some x->x.cells.length=k):
 (∀(i:Nat) (x:AV),(xs++ys)[i]? =some x->x.cells.length=k)∧∀(i j:Nat) (x y:AV) (u:Value),(xs++ys)[i]? =some x->x.cells[j]? =some y->(vs++us)[i*k+j]? =some u->BE G y u:=by
 refine⟨λi x hx=>?_,λi j x y u hx hy hu=>?_⟩
 ·rw[List.getElem?_append]at hx
  split at hx
  ·exact hxk i x hx
  ·exact hyk _ x hx
 ·rw[List.getElem?_append]at hx
  split at hx
  ·rename_i hi
   obtain⟨u',hu',hr⟩:=h1 i j x y hx hy
   have hlt:=(List.getElem?_eq_some_iff.1 hu').1
   rw[List.getElem?_append_left hlt,hu']at hu
   injection hu with e;subst e;exact hr
  ·rename_i hi
   obtain⟨u',hu',hr⟩:=h2 _ j x y hx hy
   have hle:xs.length*k≤i*k:=Nat.mul_le_mul_right _ (by omega)
   have hs:(i-xs.length)*k=i*k-xs.length*k:=Nat.sub_mul _ _ _
   rw[List.getElem?_append_right (by omega),show i*k+j-vs.length=(i-xs.length)*k+j by omega,hu']at hu
   injection hu with e;subst e;exact hr
theorem Afz:E8 []=[]:=rfl
theorem Nr {k:Nat}:∀(ys:List AV),(∀(i:Nat) (x:AV),ys[i]? =some x->x.cells.length=k)->(E8 ys).length=ys.length*k∧∀(q:Nat) (y:AV),(E8 ys)[q]? =some y->∃i j x,q=i*k+j∧ys[i]? =some x∧x.cells[j]? =some y
 |[],_=>⟨by simp[E8],λq y h=>by simp[E8]at h⟩
 |x::ys,hk=>by
  have hx:x.cells.length=k:=hk 0 x rfl
  obtain⟨h1,h2⟩:=Nr ys (λi x h=>hk (i+1) x (by simpa using h))
  have e:E8 (x::ys)=x.cells++E8 ys:=by simp[E8]
  refine⟨by rw[e,List.length_append,h1,hx,List.length_cons,Nat.add_mul];omega,λq y hq=>?_⟩
  rw[e,List.getElem?_append]at hq
  split at hq
  ·exact⟨0,q,x,by omega,rfl,hq⟩
  ·rename_i hge
   obtain⟨i,j,z,h3,h4,h5⟩:=h2 _ y hq
   exact⟨i+1,j,z,by rw[Nat.add_mul];omega,by simpa using h4,h5⟩
theorem La (w:World) {t e ty:TypeId} {i:TypeInfo} {z:Value} (ht:P.underlying t=some (.slice e)) (hi:P.info? e=some i) (hz0:i.zero=some z) (hzs:z.cells.size=i.size) (hb1:1≤i.bytes) (A:Option Addr) (n c:Nat) (olds:List Value) (hlo:olds.length=n*i.size)
 (holds:∀ad,A=some ad->∀j v,olds[j]? =some v->w.cell? (ad.add j)=some v) (hA:A=none->c=0∧n=0) (B:Addr) (m cx:Nat) (news:List Value) (hl:news.length=m*i.size) (hnews:∀j v,news[j]? =some v->w.cell? (B.add j)=some v) (hm:0<m) (hcap:c<n+m) (hbd:(n+m)*i.bytes≤140737488355328):
 ∃(cap:Nat) (cells:Array Value),(Builtin.append_ #[t,t] ty #[.slice A n c,.slice (some B) m cx]).run P w=.ok (.slice (some ⟨w.heap.size,0,none⟩) (n+m) cap) (w.drew.alloc (.cells cells e))∧n+m≤cap∧cap≤9223372036854775807∧cells.size=cap*i.size∧
  ∀(q:Nat) (v:Value),(olds++news)[q]? =some v->cells[q]? =some v:=by
 have hsmall:n+m≤140737488355328:=Nat.le_trans (Nat.le_mul_of_pos_right _ hb1) hbd
 let cap:=grownCap w (n+m) c e
 have hge:n+m≤cap:=grownCap_ge w _ c e
 have h63:cap≤9223372036854775807:=by
  have:=grownCap_le_maxLen w (n+m) c e (by unfold maxLen;omega)
  unfold maxLen at this
  show grownCap w (n+m) c e≤_
  omega
 let cells:Array Value:=olds.toArray++news.toArray++Builtin.zeroCells z.cells (cap-(n+m))
 refine⟨cap,cells,?_,hge,h63,?_,λq v hv=>?_⟩
 ·cases A with
  |none=>
   obtain⟨rfl,rfl⟩:=hA rfl
   have hvn:olds=[]:=List.eq_nil_of_length_eq_zero (by rw[hlo];omega)
   subst hvn
   have:=run_append_nil (P:=P) w t ty e i z ht hi hz0 B m cx news hl hnews hm (by omega) (by simp at hbd;omega)
   simpa[cells,cap]using this
  |some ad=>exact run_append_grow (P:=P) w t ty e i z ht hi hz0 ad n c olds hlo (holds ad rfl) B m cx news hl hnews hcap (by omega) (growslice_fits hcap hbd)
 ·simp only[cells,Array.size_append,List.size_toArray,size_zeroCells,hzs,hlo,hl,←Nat.add_mul]
  congr 1;omega
 ·have hlt:=(List.getElem?_eq_some_iff.1 hv).1
  have:cells.toList[q]? =some v:=by
   simp only[cells,Array.toList_append]
   rw[List.getElem?_append_left (by simpa using hlt)]
   exact hv
  simpa using this
theorem Adr {t e:TypeId} {s x:Operand} {c:Call} {i:TypeInfo} {zs:List Value} (hop:o.op=.call c) (hcal:c.callee=.builtin .append) (ha:c.args.toList=[s,x]) (hat:c.argTypes.toList=[t,t])
 (ht:P.underlying t=some (.slice e)) (hi:P.info? e=some i) (hz:Ey P e=some zs) (hzl:zs.length=i.size) (hk1:1≤i.size) (hb1:1≤i.bytes) {j g ky:Nat} {ys:List AV} {tg:Gl} (hs:ρ s=.ms j g) (hx:ρ x=.sl tg ky ys) (h:Yd i.size i.bytes j g ky ys S K):Fsq P o ρ S K:=by
 have hargs:c.args=#[s,x]:=by rw[←ha]
 have hats:c.argTypes=#[t,t]:=by rw[←hat]
 obtain⟨it,z,C0,hz0,hzc,ho⟩:=CX hz
 rw[hi]at C0;injection C0 with C0;subst C0
 have hzs:z.cells.size=i.size:=by rw[←hzl,hzc];simp
 have hrun:∀(a:Act) (w:World) (v:Value) (w':World),(Builtin.append_ #[t,t] o.type #[a.eval s,a.eval x]).run P w=.ok v w'->(execOp a.eval o).run P w=.ok (.value v) w':=by
  intro a w v w' hv
  simp[execOp,hop,resolve,hcal,hargs,hats,invoke,builtin,hv]
 unfold Yd at h
 split at h
 ·rename_i k m xs hS
  obtain⟨rfl,rfl,hky,hbd,hK⟩:=h
  refine⟨_,[j],[(j,_)],[],λT hT _ G a w hw hr Kc Q hk=>?_,by simp,(λq hq=>by simp at hq;subst hq;exact(List.getElem?_eq_some_iff.1 hS).1),hK⟩
  have hTj:T[j]? =some (.mrow i.size m xs):=(hT j (by simp)).trans hS
  have hlt:j<T.length:=(List.getElem?_eq_some_iff.1 hTj).1
  have r1:=hr s (by simp[hop,Op.operands,Call.operands,hargs])
  have r2:=hr x (by simp[hop,Op.operands,Call.operands,hargs])
  rw[hs]at r1
  rw[hx]at r2
  have r2':BE G (.sl tg i.size ys) (a.eval x):=by
   rcases hky with rfl|rfl
   ·exact r2
   ·exact r2.rek
  obtain⟨B,m2,cx,ex⟩:∃B m2 cx,a.eval x=.slice B m2 cx:=by generalize a.eval x=vx at r2';cases r2';exact⟨_,_,_,rfl⟩
  obtain⟨A,c',es,hh⟩:∃A c',a.eval s=.slice A m c'∧G.hist j m=some (.slice A m c'):=by generalize a.eval s=vx at r1;cases r1 with|ms h _=>exact⟨_,_,rfl,h⟩
  rw[ex]at r2'
  obtain⟨us,hm,huc,hul,hu1,hu2,huk,hu3,_⟩:=EZ r2' hk1
  subst hm
  obtain⟨_,hxl,A',cap',q1,q2,q3,q6,q4⟩:=hw.mrow j _ _ _ hTj
  rw[hh]at q1;injection q1 with q1;injection q1 with e1 _ e3;subst e1 e3
  obtain⟨hfl,hfg⟩:=Nr ys huk
  have hlen:(xs++E8 ys).length=(m+ys.length)*i.size:=by rw[List.length_append,hxl,hfl,Nat.add_mul]
  have hnewrep:∀(q:Nat) (x:AV) (v:Value),(E8 ys)[q]? =some x->us[q]? =some v->v.oneCell'=true∧BE G x v:=λq x v hx hv=>by
   obtain⟨i',j',y,rfl,h1,h2⟩:=hfg q x hx
   obtain⟨u,h3,h4⟩:=hu2 i' j' y x h1 h2
   rw[hv]at h3;injection h3 with h3;subst h3
   exact⟨hu1 v (List.mem_of_getElem? hv),h4⟩
  by_cases hy0:0<ys.length
  ·obtain⟨b2,o2,rfl,hu4⟩:=hu3 hy0
   have hnews:∀j u,us[j]? =some u->w.cell? ((⟨b2,o2,none⟩:Addr).add j)=some u:=λj u hu=>by rw[BS];exact hw.imm _ _ _ (hu4 j u hu)
   by_cases hroom:m+ys.length≤c'
   ·obtain⟨b,cur,t0,e1,g2,g3,g4,g5⟩:=q4 (by omega)
    subst e1
    have hb:blk G T j=some b:=by simp[blk,hTj,hh,show 0<c' by omega]
    have hfit:m*i.size+us.length≤cur.size:=by rw[hul,g3,←Nat.add_mul];exact Nat.mul_le_mul_right _ hroom
    have hrn:=Gt (P:=P) w t o.type e t0 i ht hi b m c' cur g2 ⟨b2,o2,none⟩ ys.length cx us hul hnews hu1 hroom hfit
    have hrn2:=hrun a w _ _ (by rw[es,ex];exact hrn)
    refine .inl ?_
    unfold Oper.wp
    rw[hrn2]
    have htn:=FX (cs':=(cur.toList.take (m*i.size)++us++cur.toList.drop (m*i.size+us.length)).toArray) g2
    have hleft:=Bf.mrowTo (n:=m+ys.length) (c:=c') (A:=some ⟨b,0,none⟩) (xs:=xs++E8 ys) hw (.inr ⟨m,xs,hTj,.inl (by omega)⟩) hk1 hlen hroom q6 (htn.own hb)
     (λ_=>⟨b,_,t0,rfl,htn.here,by simp;omega,λq x v hx hv=>by
       simp only[List.getElem?_toArray]at hv
       rw[List.getElem?_append]at hx
       split at hx
       ·rename_i hq
        rw[List.append_assoc,List.getElem?_append_left (by simp;omega),List.getElem?_take,if_pos (by omega)]at hv
        exact g4 q x v hx (by simpa using hv)
       ·rename_i hq
        have hq1:=(List.getElem?_eq_some_iff.1 hx).1
        have hq2:(List.take (m*i.size) cur.toList).length=m*i.size:=by simp;omega
        rw[List.append_assoc,List.getElem?_append_right (by omega),hq2,List.getElem?_append_left (by omega)]at hv
        rw[hxl]at hx
        exact hnewrep _ x v hx hv,.inr hb⟩)
    refine hk _ _ _ ?_ (by simpa[BG]using hleft)
    exact .ms (by simp[Gh.newHist]) λ_=>⟨b,rfl⟩
   ·have hold:∃olds:List Value,olds.length=m*i.size∧(∀ad,A=some ad->∀j v,olds[j]? =some v->w.cell? (ad.add j)=some v)∧(A=none->c'=0∧m=0)∧∀(q:Nat) (x:AV) (v:Value),xs[q]? =some x->olds[q]? =some v->v.oneCell'=true∧BE G x v:=by
     by_cases hc:0<c'
     ·obtain⟨b,cur,t0,e1,g2,g3,g4,g5⟩:=q4 hc
      subst e1
      have hmk:m*i.size≤c'*i.size:=Nat.mul_le_mul_right _ q3
      have hcl:(cur.toList.take (m*i.size)).length=m*i.size:=by simp;omega
      have hcg:∀(q:Nat) (v:Value),(cur.toList.take (m*i.size))[q]? =some v->cur[q]? =some v:=λq v hv=>by
       have:=(List.getElem?_eq_some_iff.1 hv).1
       rw[List.getElem?_take,if_pos (by omega)]at hv
       simpa using hv
      exact⟨cur.toList.take (m*i.size),hcl,λad had j v hv=>by injection had with had;subst had;rw[BS,Nat.zero_add,Ex g2];exact hcg j v hv,λhA=>(by cases hA),λq x v hx hv=>g4 q x v hx (hcg q v hv)⟩
     ·have hm0:m=0:=by omega
      exact⟨[],by simp[hm0],λ_ _ _ _ h=>by simp at h,λ_=>⟨by omega,hm0⟩,λq x v _ h=>by simp at h⟩
    obtain⟨olds,hol,ho1,ho2,ho3⟩:=hold
    obtain⟨cap,cells,hrn,hge,h63,hcs,hpre⟩:=La (P:=P) w (ty:=o.type) ht hi hz0 hzs hb1 A m c' olds hol ho1 ho2 ⟨b2,o2,none⟩ ys.length cx us hul hnews hy0 (by omega) hbd
    have hrn2:=hrun a w _ _ (by rw[es,ex];exact hrn)
    refine .inl ?_
    unfold Oper.wp
    rw[hrn2]
    have hmo:=DH.drew w (.cells cells e)
    have hleft:=Bf.mrowTo (n:=m+ys.length) (c:=cap) (A:=some ⟨w.heap.size,0,none⟩) (xs:=xs++E8 ys) hw (.inr ⟨m,xs,hTj,.inl (by omega)⟩) hk1 hlen hge h63 (hmo.kept _)
     (λ_=>⟨w.heap.size,cells,e,rfl,hmo.new,hcs,λq x v hx hv=>by
       have hq1:=(List.getElem?_eq_some_iff.1 hx).1
       have hql:q<(olds++us).length:=by rw[List.length_append,hol,hul,←Nat.add_mul];omega
       have hq2:=hpre q _ (List.getElem?_eq_getElem hql)
       rw[hv]at hq2;injection hq2 with hq2
       have hq3:(olds++us)[q]? =some v:=by rw[hq2];exact List.getElem?_eq_getElem hql
       rw[List.getElem?_append]at hx hq3
       rw[hxl]at hx
       rw[hol]at hq3
       split at hx
       ·rename_i hq;rw[if_pos hq]at hq3;exact ho3 q x v hx hq3
       ·rename_i hq;rw[if_neg hq]at hq3;exact hnewrep _ x v hx hq3,.inl (Nat.le_refl _)⟩)
    refine hk _ _ _ ?_ (by simpa[BG]using hleft)
    exact .ms (by simp[Gh.newHist]) λ_=>⟨_,rfl⟩
  ·have hyn:ys=[]:=List.eq_nil_of_length_eq_zero (by omega)
   subst hyn
   have hz:=DW (P:=P) w t o.type e i ht hi A B m c' cx q3
   have hrn:=hrun a w _ _ (by rw[es,ex];exact hz)
   refine .inl ?_
   unfold Oper.wp
   rw[hrn]
   refine hk _ w G (by rw[←es];simpa using r1) ?_
   have:T.set j (.mrow i.size m xs)=T:=by
    apply List.ext_getElem?
    intro q
    by_cases e:q=j
    ·subst e;rw[List.getElem?_set_self hlt,hTj]
    ·rw[List.getElem?_set_ne (Ne.symm e)]
   simpa[BG,this,E8]using Bf.refl hw
 ·exact h.elim
theorem Ads {t e:TypeId} {s x:Operand} {c:Call} {i:TypeInfo} {zs:List Value} (hop:o.op=.call c) (hcal:c.callee=.builtin .append) (ha:c.args.toList=[s,x]) (hat:c.argTypes.toList=[t,t])
 (ht:P.underlying t=some (.slice e)) (hi:P.info? e=some i) (hz:Ey P e=some zs) (hzl:zs.length=i.size) (hk1:1≤i.size) (hb1:1≤i.bytes) {ks ky:Nat} {ys:List AV} (hs:ρ s=.sl .full ks []) (hx:ρ x=.slc ky ys)
 (hky:ky=i.size∨ys=[]) (hbd:ys.length*i.bytes≤140737488355328) (hK:K (.ms S.length ys.length) [] [] [.mrow i.size ys.length (E8 ys)]):Fsq P o ρ S K:=by
 have hargs:c.args=#[s,x]:=by rw[←ha]
 have hats:c.argTypes=#[t,t]:=by rw[←hat]
 obtain⟨it,z,C0,hz0,hzc,ho⟩:=CX hz
 rw[hi]at C0;injection C0 with C0;subst C0
 have hzs:z.cells.size=i.size:=by rw[←hzl,hzc];simp
 have hrun:∀(a:Act) (w:World) (v:Value) (w':World),(Builtin.append_ #[t,t] o.type #[a.eval s,a.eval x]).run P w=.ok v w'->(execOp a.eval o).run P w=.ok (.value v) w':=by
  intro a w v w' hv
  simp[execOp,hop,resolve,hcal,hargs,hats,invoke,builtin,hv]
 refine⟨_,[],[],[_],λT _ hd G a w hw hr Kc Q hk=>?_,(λp hp=>by cases hp),(λi hi=>by simp at hi),hK⟩
 have hid:T[S.length]? =some .dead:=hd (S.length,.mrow i.size ys.length (E8 ys)) (by simp[BG])
 have r1:=hr s (by simp[hop,Op.operands,Call.operands,hargs])
 have r2:=hr x (by simp[hop,Op.operands,Call.operands,hargs])
 rw[hs]at r1
 rw[hx]at r2
 have r2':BE G (.sl .none i.size ys) (a.eval x):=by
  cases r2 with
  |slc r2=>
   rcases hky with rfl|rfl
   ·exact r2
   ·exact r2.rek
 obtain⟨B,m2,cx,ex⟩:∃B m2 cx,a.eval x=.slice B m2 cx:=by generalize a.eval x=vx at r2';cases r2';exact⟨_,_,_,rfl⟩
 obtain⟨A,es⟩:∃A,a.eval s=.slice A 0 0:=by
  generalize a.eval s=vx at r1
  cases r1 with
  | @sl _ _ _ A c' _ _ _ _ _ _ _ _ _ ht'=>
    have:c'=0:=ht'
    subst this;exact⟨A,rfl⟩
 rw[ex]at r2'
 obtain⟨us,hm,huc,hul,hu1,hu2,huk,hu3,_⟩:=EZ r2' hk1
 subst hm
 obtain⟨hfl,hfg⟩:=Nr ys huk
 have hnewrep:∀(q:Nat) (x:AV) (v:Value),(E8 ys)[q]? =some x->us[q]? =some v->v.oneCell'=true∧BE G x v:=λq x v hx hv=>by
  obtain⟨i',j',y,rfl,h1,h2⟩:=hfg q x hx
  obtain⟨u,h3,h4⟩:=hu2 i' j' y x h1 h2
  rw[hv]at h3;injection h3 with h3;subst h3
  exact⟨hu1 v (List.mem_of_getElem? hv),h4⟩
 by_cases hy0:0<ys.length
 ·obtain⟨b2,o2,rfl,hu4⟩:=hu3 hy0
  have hnews:∀j u,us[j]? =some u->w.cell? ((⟨b2,o2,none⟩:Addr).add j)=some u:=λj u hu=>by rw[BS];exact hw.imm _ _ _ (hu4 j u hu)
  obtain⟨cap,cells,hrn,hge,h63,hcs,hpre⟩:=La (P:=P) w (ty:=o.type) ht hi hz0 hzs hb1 A 0 0 [] (by simp) (λ_ _ _ _ h=>by simp at h) (λ_=>⟨rfl,rfl⟩) ⟨b2,o2,none⟩ ys.length cx us hul hnews hy0 (by omega) (by simpa using hbd)
  simp only[Nat.zero_add,List.nil_append]at hrn hge hpre
  have hrn2:=hrun a w _ _ (by rw[es,ex];exact hrn)
  refine .inl ?_
  unfold Oper.wp
  rw[hrn2]
  have hmo:=DH.drew w (.cells cells e)
  have hleft:=Bf.mrowTo (n:=ys.length) (c:=cap) (A:=some ⟨w.heap.size,0,none⟩) (xs:=E8 ys) hw (.inl hid) hk1 hfl hge h63 (hmo.kept _)
   (λ_=>⟨w.heap.size,cells,e,rfl,hmo.new,hcs,λq x v hx hv=>by
     have hq1:=(List.getElem?_eq_some_iff.1 hx).1
     have hql:q<us.length:=by rw[hul];omega
     have hq2:=hpre q _ (List.getElem?_eq_getElem hql)
     rw[hv]at hq2;injection hq2 with hq2
     exact hnewrep q x v hx (by rw[hq2];exact List.getElem?_eq_getElem hql),.inl (Nat.le_refl _)⟩)
  refine hk _ _ _ ?_ (by simpa[BG]using hleft)
  exact .ms (by simp[Gh.newHist]) λ_=>⟨_,rfl⟩
 ·have hyn:ys=[]:=List.eq_nil_of_length_eq_zero (by omega)
  subst hyn
  have hz:=DW (P:=P) w t o.type e i ht hi A B 0 0 cx (Nat.le_refl _)
  have hrn:=hrun a w _ _ (by rw[es,ex];exact hz)
  refine .inl ?_
  unfold Oper.wp
  rw[hrn]
  have hleft:=Bf.mrowTo (n:=0) (c:=0) (A:=A) (xs:=[]) (j:=S.length) (k:=i.size) hw (.inl hid) hk1 (by simp) (Nat.le_refl _) (by omega) (C7.refl _ w) (λh=>by omega)
  refine hk _ w _ ?_ (by simpa[BG,E8]using hleft)
  exact .ms (by simp[Gh.newHist]) λh=>by simp at h
theorem Ai7 {t e:TypeId} {s x:Operand} {c:Call} {i:TypeInfo} {zs:List Value} (hop:o.op=.call c) (hcal:c.callee=.builtin .append) (ha:c.args.toList=[s,x]) (hat:c.argTypes.toList=[t,t])
 (ht:P.underlying t=some (.slice e)) (hi:P.info? e=some i) (hz:Ey P e=some zs) (hzl:zs.length=i.size) (hk1:1≤i.size) (hb1:1≤i.bytes) (h:QL i.size i.bytes (ρ s) (ρ x) S K):Fsq P o ρ S K:=by
 have hargs:c.args=#[s,x]:=by rw[←ha]
 have hats:c.argTypes=#[t,t]:=by rw[←hat]
 obtain⟨it,z,C0,hz0,hzc,ho⟩:=CX hz
 rw[hi]at C0;injection C0 with C0;subst C0
 have hzs:z.cells.size=i.size:=by rw[←hzl,hzc];simp
 generalize hK':i.size=k at*
 have hrun:∀(a:Act) (w:World) (v:Value) (w':World),(Builtin.append_ #[t,t] o.type #[a.eval s,a.eval x]).run P w=.ok v w'->(execOp a.eval o).run P w=.ok (.value v) w':=by
  intro a w v w' hv
  simp[execOp,hop,resolve,hcal,hargs,hats,invoke,builtin,hv]
 unfold QL at h
 split at h
 ·rename_i j g tg ky ys hs hx
  exact Adr hop hcal ha hat ht hi hz (by omega) (by omega) hb1 hs hx (by rw[hK'];exact h)
 ·rename_i tg ks xs ky ys hs hx
  obtain⟨rfl,rfl,hky,hbd,hK⟩:=h
  exact Ads hop hcal ha hat ht hi hz (by omega) (by omega) hb1 hs hx (by rw[hK'];exact hky) hbd (by rw[hK'];exact hK)
 ·rename_i tg ks xs tg2 ky ys hs hx
  obtain⟨hks,hky,hbd,h⟩:=h
  have hsmall:xs.length+ys.length≤140737488355328:=Nat.le_trans (Nat.le_mul_of_pos_right _ hb1) hbd
  have hboth:∀(G:Gh) (a:Act),(∀x∈o.op.operands,BE G (ρ x) (a.eval x))->(∃A n c',a.eval s=.slice A n c'∧BE G (.sl tg k xs) (.slice A n c'))∧∃B m c',a.eval x=.slice B m c'∧BE G (.sl tg2 k ys) (.slice B m c'):=by
   intro G a hr
   have r1:=hr s (by simp[hop,Op.operands,Call.operands,hargs])
   have r2:=hr x (by simp[hop,Op.operands,Call.operands,hargs])
   rw[hs]at r1
   rw[hx]at r2
   have r1':BE G (.sl tg k xs) (a.eval s):=by
    rcases hks with rfl|rfl
    ·exact r1
    ·exact r1.rek
   have r2':BE G (.sl tg2 k ys) (a.eval x):=by
    rcases hky with rfl|rfl
    ·exact r2
    ·exact r2.rek
   generalize a.eval s=u1 at r1'
   generalize a.eval x=u2 at r2'
   refine⟨?_,?_⟩
   ·cases r1' with
    | @sl _ _ _ A c' _ _ vs q1 q2 q3 q4 q5 q6 q7=>exact⟨A,_,c',rfl,.sl vs q1 q2 q3 q4 q5 q6 q7⟩
   ·cases r2' with
    | @sl _ _ _ A c' _ _ vs q1 q2 q3 q4 q5 q6 q7=>exact⟨A,_,c',rfl,.sl vs q1 q2 q3 q4 q5 q6 q7⟩
  have grown:∀(G:Gh) (a:Act) (w:World) (T:List Ad) (id:Nat) (A B:Option Addr) (cs cx:Nat),Wd G T w->a.eval s=.slice A xs.length cs->a.eval x=.slice B ys.length cx->BE G (.sl tg k xs) (.slice A xs.length cs)->BE G (.sl tg2 k ys) (.slice B ys.length cx)->
   0<ys.length->cs<xs.length+ys.length->(A=none->cs=0)->(T[id]? =some .dead∨∃m,m<xs.length+ys.length∧T[id]? =some (.row k m))->
   ∃v' w' G',(execOp a.eval o).run P w=.ok (.value v') w'∧BE G' (.sl (.row id) k (xs++ys)) v'∧Bf G T w G' (T.set id (.row k (xs.length+ys.length))) w':=by
   intro G a w T id A B cs cx hw es ex r1 r2 hy0 hcap hA0 hid
   obtain⟨vs,_,hvc,hvl,hv1,hv2,hvk,hv3,_⟩:=EZ r1 hk1
   obtain⟨us,_,huc,hul,hu1,hu2,huk,hu3,_⟩:=EZ r2 hk1
   obtain⟨b2,o2,rfl,hu4⟩:=hu3 hy0
   have hnews:∀j u,us[j]? =some u->w.cell? ((⟨b2,o2,none⟩:Addr).add j)=some u:=λj u hu=>by rw[BS];exact hw.imm _ _ _ (hu4 j u hu)
   let cap:=grownCap w (xs.length+ys.length) cs e
   have hge:xs.length+ys.length≤cap:=grownCap_ge w _ cs e
   let cells:Array Value:=vs.toArray++us.toArray++Builtin.zeroCells z.cells (cap-(xs.length+ys.length))
   have hrun2:(Builtin.append_ #[t,t] o.type #[a.eval s,a.eval x]).run P w=.ok (.slice (some ⟨w.heap.size,0,none⟩) (xs.length+ys.length) cap) (w.drew.alloc (.cells cells e)):=by
    rw[es,ex]
    cases A with
    |none=>
     have hcs:=hA0 rfl
     have hx0:xs.length=0:=by omega
     have hxn:xs=[]:=List.eq_nil_of_length_eq_zero hx0
     have hvn:vs=[]:=List.eq_nil_of_length_eq_zero (by rw[hvl,hx0];omega)
     subst hcs hxn hvn
     have:=run_append_nil (P:=P) w t o.type e i z ht hi hz0 ⟨b2,o2,none⟩ ys.length cx us (by rw[hul,hK']) hnews hy0 (by simp at hsmall;omega) (by simp at hbd;omega)
     simpa[cells,cap]using this
    |some ad=>
     have holds:∀j v,vs[j]? =some v->w.cell? (ad.add j)=some v:=λj v hv=>by
      have hx0:0<xs.length:=by
       rcases Nat.eq_zero_or_pos xs.length with h|h
       ·have:=(List.getElem?_eq_some_iff.1 hv).1;rw[hvl,h]at this;omega
       ·exact h
      obtain⟨b1,o1,e1,hv4⟩:=hv3 hx0
      injection e1 with e1;subst e1
      rw[BS];exact hw.imm _ _ _ (hv4 j v hv)
     exact run_append_grow (P:=P) w t o.type e i z ht hi hz0 ad xs.length cs vs (by rw[hvl,hK']) holds ⟨b2,o2,none⟩ ys.length cx us (by rw[hul,hK']) hnews hcap (by omega) (growslice_fits hcap hbd)
   have hlen:(vs++us).length=(xs.length+ys.length)*k:=by rw[List.length_append,hvl,hul,Nat.add_mul]
   have hcells:cells.size=cap*k:=by
    simp only[cells,Array.size_append,List.size_toArray,size_zeroCells,hzs,hvl,hul,←Nat.add_mul]
    congr 1;omega
   have hpre:∀(q:Nat) (v:Value),(vs++us)[q]? =some v->cells[q]? =some v:=by
    intro q v hv
    have hlt:=(List.getElem?_eq_some_iff.1 hv).1
    have:cells.toList[q]? =some v:=by
     simp only[cells,Array.toList_append]
     rw[List.getElem?_append_left (by simpa using hlt)]
     exact hv
    simpa using this
   have hleft:=Bf.rowNew (id:=id) (k:=k) (n:=xs.length+ys.length) (c:=cap) (vs:=vs++us) (t:=e) hw hid hk1 (DH.drew w (.cells cells e)) hge hcells hlen hpre
   refine⟨_,_,_,hrun a w _ _ hrun2,?_,hleft⟩
   have hap:=LG (G:=G) hvl hv2 hvk hu2 huk
   have:=Fc (G:=(G.newImm w.heap.size (vs++us)).newHist id (xs.length+ys.length) (.slice (some ⟨w.heap.size,0,none⟩) (xs.length+ys.length) cap)) (t:=.row id) (k:=k) (b:=w.heap.size) (c:=cap) (zs:=xs++ys) (vs:=vs++us)
    (by rw[hlen];simp) (by simpa using hge) (λu hu=>by rcases List.mem_append.1 hu with h|h;exact hv1 u h;exact hu1 u h) hap.1 (λq u hu=>by simpa[Gh.newImm,Gh.newHist]using hu) (λi j x y u h1 h2 h3=>(hap.2 i j x y u h1 h2 h3).mono hleft.le) (by simp[HD,Gh.newHist])
   simpa using this
  split at h
  ·
   refine⟨_,[],[],[.row k (xs.length+ys.length)],λT _ hd G a w hw hr Kc Q hk=>?_,(λp hp=>by cases hp),(λi hi=>by simp at hi),h⟩
   have hid:T[S.length]? =some .dead:=hd (S.length,.row k (xs.length+ys.length)) (by simp[BG])
   obtain⟨⟨A,n,c',es,r1⟩,B,m,cx,ex,r2⟩:=hboth G a hr
   obtain⟨vs,hn,hvc,hvl,hv1,hv2,hvk,hv3,htag⟩:=EZ r1 hk1
   have hm:m=ys.length:=(EZ r2 hk1).choose_spec.1
   subst hn hm
   have htag':c'=xs.length:=htag
   by_cases hy0:0<ys.length
   ·obtain⟨v',w',G',hrn,hrep,hleft⟩:=grown G a w T S.length A B c' cx hw es ex r1 r2 hy0 (by omega) (λhA=>by
     rcases Nat.eq_zero_or_pos xs.length with h|h
     ·omega
     ·obtain⟨_,_,e,_⟩:=hv3 h;rw[hA]at e;cases e) (.inl hid)
    refine .inl ?_
    unfold Oper.wp
    rw[hrn]
    exact hk v' w' G' hrep (by simpa[BG]using hleft)
   ·have hyn:ys=[]:=List.eq_nil_of_length_eq_zero (by omega)
    subst hyn
    have hz:=DW (P:=P) w t o.type e i ht hi A B xs.length c' cx hvc
    have hrn:=hrun a w _ _ (by rw[es,ex];exact hz)
    refine .inl ?_
    unfold Oper.wp
    rw[hrn]
    subst htag'
    obtain⟨hleft,hh⟩:=Bf.rowFull (id:=S.length) (k:=k) (n:=xs.length) (A:=A) hw hid hk1
    refine hk _ w _ ?_ (by simpa[BG]using hleft)
    have:=(r1.mono hleft.le).retag (t':=.row S.length) hh
    simpa using this
  ·
   rename_i j
   obtain⟨hSj,hK⟩:=h
   refine⟨_,[j],[(j,.row k (xs.length+ys.length))],[],λT hT _ G a w hw hr Kc Q hk=>?_,by simp,(λq hq=>by simp at hq;subst hq;exact(List.getElem?_eq_some_iff.1 hSj).1),hK⟩
   have hTj:T[j]? =some (.row k xs.length):=(hT j (by simp)).trans hSj
   have hlt:j<T.length:=(List.getElem?_eq_some_iff.1 hTj).1
   obtain⟨⟨A,n,c',es,r1⟩,B,m,cx,ex,r2⟩:=hboth G a hr
   obtain⟨vs,hn,hvc,hvl,hv1,hv2,hvk,hv3,htag⟩:=EZ r1 hk1
   obtain⟨us,hm,huc,hul,hu1,hu2,huk,hu3,_⟩:=EZ r2 hk1
   subst hn hm
   have htag':G.hist j xs.length=some (.slice A xs.length c'):=htag
   obtain⟨_,A',cap',q1,q2,q3,q4⟩:=hw.row j k _ hTj
   rw[htag']at q1;injection q1 with q1;injection q1 with e1 _ e3;subst e1 e3
   by_cases hy0:0<ys.length
   ·by_cases hroom:xs.length+ys.length≤c'
    ·obtain⟨b,cur,t0,e1,g2,g3,g4⟩:=q4 (by omega)
     subst e1
     obtain⟨b2,o2,rfl,hu4⟩:=hu3 hy0
     have hnews:∀j u,us[j]? =some u->w.cell? ((⟨b2,o2,none⟩:Addr).add j)=some u:=λj u hu=>by rw[BS];exact hw.imm _ _ _ (hu4 j u hu)
     have hfit:xs.length*k+us.length≤cur.size:=by rw[hul,g3,←Nat.add_mul];exact Nat.mul_le_mul_right _ hroom
     have hrn:=Gt (P:=P) w t o.type e t0 i ht hi b xs.length c' cur g2 ⟨b2,o2,none⟩ ys.length cx us (by rw[hul,hK']) hnews hu1 hroom (by rw[hK'];exact hfit)
     rw[hK']at hrn
     have hrn2:=hrun a w _ _ (by rw[es,ex];exact hrn)
     refine .inl ?_
     unfold Oper.wp
     rw[hrn2]
     have hcl:∀q,q<xs.length*k->cur[q]? =(cur.toList.take (xs.length*k)++us++cur.toList.drop (xs.length*k+us.length)).toArray[q]? :=λq hq=>by
      simp only[List.getElem?_toArray]
      rw[List.append_assoc,List.getElem?_append_left (by simp;omega),List.getElem?_take,if_pos hq];simp
     have hnw:∀(q:Nat) (v:Value),us[q]? =some v->(cur.toList.take (xs.length*k)++us++cur.toList.drop (xs.length*k+us.length)).toArray[xs.length*k+q]? =some v:=λq v hv=>by
      simp only[List.getElem?_toArray]
      have hq:=(List.getElem?_eq_some_iff.1 hv).1
      have hq2:(List.take (xs.length*k) cur.toList).length=xs.length*k:=by simp;omega
      rw[List.append_assoc,List.getElem?_append_right (by omega),hq2,List.getElem?_append_left (by omega)]
      rw[show xs.length*k+q-xs.length*k=q by omega];exact hv
     have hleft:=Bf.rowGrow (n':=xs.length+ys.length) (vs:=us) hw hTj htag' (by omega) hroom (FX (cs':=(cur.toList.take (xs.length*k)++us++cur.toList.drop (xs.length*k+us.length)).toArray) g2) (by simp;omega)
      (λq hq=>by rw[Ex g2];exact hcl q hq) (by rw[hul];congr 1;omega) hnw
     refine hk _ _ _ ?_ (by simpa[BG]using hleft)
     have hap:=LG (G:=G) hvl hv2 hvk hu2 huk
     have hlen:(vs++us).length=(xs.length+ys.length)*k:=by rw[List.length_append,hvl,hul,Nat.add_mul]
     have:=Fc (G:=(G.moreImm b (xs.length*k) us).newHist j (xs.length+ys.length) (.slice (some ⟨b,0,none⟩) (xs.length+ys.length) c')) (t:=.row j) (k:=k) (b:=b) (c:=c') (zs:=xs++ys) (vs:=vs++us)
      (by rw[hlen];simp) (by simpa using hroom) (λu hu=>by rcases List.mem_append.1 hu with h|h;exact hv1 u h;exact hu1 u h) hap.1 (λq u hu=>by
        rw[List.getElem?_append]at hu
        split at hu
        ·rename_i hq
         have hx0:0<xs.length:=by
          rcases Nat.eq_zero_or_pos xs.length with h|h
          ·rw[hvl,h]at hq;omega
          ·exact h
         obtain⟨b1,o1,e1,hv4⟩:=hv3 hx0
         injection e1 with e1;injection e1 with e1 e2;subst e1 e2
         have:=hv4 q u hu
         rw[Nat.zero_add]at this
         simpa[Gh.newHist,Gh.moreImm,show¬xs.length*k≤q by omega]using this
        ·rename_i hq
         simp only[Gh.newHist,Gh.moreImm]
         rw[if_pos ⟨trivial,by omega⟩,←hvl];exact hu) (λi j x y u h1 h2 h3=>(hap.2 i j x y u h1 h2 h3).mono hleft.le) (by simp[HD,Gh.newHist])
     simpa using this
    ·obtain⟨v',w',G',hrn,hrep,hleft⟩:=grown G a w T j A B c' cx hw es ex r1 r2 hy0 (by omega) (λhA=>by
      rcases Nat.lt_or_ge xs.length c' with h|h
      ·obtain⟨b,_,_,e,_⟩:=q4 h;rw[hA]at e;cases e
      ·rcases Nat.eq_zero_or_pos xs.length with h'|h'
       ·omega
       ·obtain⟨_,_,e,_⟩:=hv3 h';rw[hA]at e;cases e) (.inr ⟨_,by omega,hTj⟩)
     refine .inl ?_
     unfold Oper.wp
     rw[hrn]
     exact hk v' w' G' hrep (by simpa[BG]using hleft)
   ·have hyn:ys=[]:=List.eq_nil_of_length_eq_zero (by omega)
    subst hyn
    have hz:=DW (P:=P) w t o.type e i ht hi A B xs.length c' cx hvc
    have hrn:=hrun a w _ _ (by rw[es,ex];exact hz)
    refine .inl ?_
    unfold Oper.wp
    rw[hrn]
    refine hk _ w G (by simpa using r1) ?_
    have:T.set j (.row k xs.length)=T:=by
     apply List.ext_getElem?
     intro q
     by_cases e:q=j
     ·subst e;rw[List.getElem?_set_self hlt,hTj]
     ·rw[List.getElem?_set_ne (Ne.symm e)]
    simpa[BG,this]using Bf.refl hw
  ·exact h.elim
 ·exact h.elim
theorem Aiv {src dst e:TypeId} {x:Operand} (hop:o.op=.convert src dst x) (hs:P.underlying src=some .string) (hd:P.underlying dst=some (.slice e)) (he:P.underlying e=some (.int .u8)) (h:Wu (ρ x) K):Fsq P o ρ S K:=by
 unfold Wu at h
 split at h
 ·rename_i s hx
  obtain⟨_,hK⟩:=h
  refine⟨_,[],[],[],λT _ _ G a w hw hr Kc Q hk=>?_,(λp hp=>by cases hp),(λi hi=>by simp at hi),hK⟩
  have r:=hr x (by simp[hop,Op.operands])
  rw[hx]at r
  have ex:=A_ r
  have hrun:=run_bytes_of_string (P:=P) w src dst e s hs hd he
  have hrn:(execOp a.eval o).run P w=.ok (.value (.slice (some ⟨w.heap.size,0,none⟩) s.size (grownCap w s.size 0 e)))
   (w.drew.alloc (.cells (bytesRow s (grownCap w s.size 0 e)) e ((bytesRow s (grownCap w s.size 0 e)).size,(bytesRow s (grownCap w s.size 0 e)).size+1))):=by
   simp only[execOp,hop,ex,Sem.run_bind,hrun,Result.andThen_ok,Sem.run_pure]
  refine .inl ?_
  unfold Oper.wp
  rw[hrn]
  let vs:List Value:=s.data.toList.map λb=>.int .u8 b.toNat
  have hpre:∀(i:Nat) (v:Value),vs[i]? =some v->(bytesRow s (grownCap w s.size 0 e))[i]? =some v:=by
   intro i v hv
   have hlt:=(List.getElem?_eq_some_iff.1 hv).1
   simp only[bytesRow]
   rw[Array.getElem?_append_left (by simpa[vs]using hlt)]
   simpa[vs]using hv
  have hleft:=Bf.still_ (vs:=vs) hw (DH.drew w (.cells (bytesRow s (grownCap w s.size 0 e)) e ((bytesRow s (grownCap w s.size 0 e)).size,(bytesRow s (grownCap w s.size 0 e)).size+1))) hpre
  refine hk _ _ _ ?_ (by simpa[BG]using hleft)
  have hl:(s.data.toList.map λb=>AV.lit (.int .u8 b.toNat)).length=s.size:=by simp
  have:=Fc (G:=G.newImm w.heap.size vs) (t:=.none) (k:=1) (b:=w.heap.size) (c:=grownCap w s.size 0 e) (zs:=s.data.toList.map λb=>AV.lit (.int .u8 b.toNat)) (vs:=vs) (by simp[vs]) (by rw[hl];exact grownCap_ge w _ 0 e)
   (λu hu=>by simp only[vs,List.mem_map]at hu;obtain⟨b,_,rfl⟩:=hu;rfl) (λi x hx=>by obtain⟨b,_,rfl⟩:=Be hx;rfl) (λq u hu=>by simpa[Gh.newImm]using hu)
   (λi j x y u h1 h2 h3=>by
     obtain⟨b,hb,rfl⟩:=Be h1
     cases j with
     |zero=>
      simp[AV.cells]at h2;subst h2
      simp[vs]at h3
      have hb':s.data[i]? =some b:=by simpa using hb
      rw[hb']at h3;simp at h3;subst h3;exact .lit _
     |succ j=>simp[AV.cells]at h2) trivial
  rwa[hl]at this
 ·exact h.elim
theorem Adk {t e:TypeId} {l c:Operand} {i:TypeInfo} {zs:List Value} (hop:o.op=.makeSlice t l c) (ht:P.underlying t=some (.slice e)) (hi:P.info? e=some i) (hz:Ey P e=some zs) (hzl:zs.length=i.size) (hk1:1≤i.size)
 (h:Lj i.size i.bytes (ρ l) (ρ c) S.length K):Fsq P o ρ S K:=by
 unfold Lj at h
 split at h
 ·rename_i l' c' hl hc
  obtain⟨⟨hl0,hlc⟩,h0,hbd,h63,hK⟩:=h
  obtain⟨it,z,C0,hz0,hzc,ho⟩:=CX hz
  rw[hi]at C0;injection C0 with C0;subst C0
  refine⟨_,[],[],[.row i.size l'.toNat],λT _ hd G a w hw hr Kc Q hk=>?_,(λp hp=>by cases hp),(λi hi=>by simp at hi),hK⟩
  have hid:T[S.length]? =some .dead:=hd (S.length,.row i.size l'.toNat) (by simp[BG])
  have rl:=hr l (by simp[hop,Op.operands])
  have rc:=hr c (by simp[hop,Op.operands])
  rw[hl]at rl
  rw[hc]at rc
  have hwc:IntKind.i64.wrap c'=c':=IntWalk.i64_in _ (by omega)
  have hw0:IntKind.i64.wrap l'=l':=IntWalk.i64_in _ (by omega)
  have hzs:z.cells.size=i.size:=by rw[←hzl,hzc];simp
  have hcm:(i.bytes:Int)*c'≤140737488355328:=by rw[Int.mul_comm];exact hbd
  have h1:¬(281474976710656<(i.bytes:Int)*c'):=by omega
  have h2:¬c'<0:=by omega
  have h3:¬l'<0:=by omega
  have h4:¬l'>c':=by omega
  let cells:Array Value:=(Array.range (c'.toNat*i.size)).map (z.cells[· %z.cells.size]!)
  have hrn:(execOp a.eval o).run P w=.ok (.value (.slice (some ⟨w.heap.size,0,none⟩) l'.toNat c'.toNat)) (w.alloc (.cells cells e)):=by
   have hsz:=B2 (P:=P) (t:=e) (n:=i.size) (by simp[Fs,hi])
   by_cases hn:c'.toNat*i.size=0
   ·have hcell:cells=#[]:=by simp[cells,hn]
    simp[execOp,hop,Instr.makeSlice,A_ rl,A_ rc,run_underlying ht,asInt,asIntOf,typeInfo,hi,hwc,hw0,h1,h2,h3,h4,hlc,hsz,hn,newRow,hcell]
    have:Array.map (λ_:Nat=>(default:Value)) (Array.range 0)=#[]:=by apply Array.ext<;>simp
    rw[this]
   ·simp[execOp,hop,Instr.makeSlice,A_ rl,A_ rc,run_underlying ht,asInt,asIntOf,typeInfo,hi,hwc,hw0,h1,h2,h3,h4,hlc,hsz,hn,newRow,zeroValue,hz0,cells]
  refine .inl ?_
  unfold Oper.wp
  rw[hrn]
  have hcs:cells.size=c'.toNat*i.size:=by simp[cells]
  have hle:l'.toNat*i.size≤c'.toNat*i.size:=Nat.mul_le_mul_right _ (by omega)
  let vs:List Value:=cells.toList.take (l'.toNat*i.size)
  have hvl:vs.length=l'.toNat*i.size:=by simp only[vs,List.length_take,Array.length_toList,hcs];omega
  have hvc:∀(q:Nat) (v:Value),vs[q]? =some v->cells[q]? =some v:=λq v hv=>by
   simp only[vs,List.getElem?_take]at hv
   split at hv
   ·simpa using hv
   ·cases hv
  have hone:∀u∈vs,u.oneCell'=true:=λu hu=>by
   have h5:=List.mem_of_mem_take hu
   simp only[cells,Array.toList_map,List.mem_map]at h5
   obtain⟨q,hq,rfl⟩:=h5
   have hq':q%z.cells.size<z.cells.size:=Nat.mod_lt _ (by omega)
   have h6:z.cells[q%z.cells.size]! =z.cells[q%z.cells.size]:=by simp[hq']
   rw[h6]
   exact ho _ (by rw[hzc];exact Array.getElem_mem_toList hq')
  have hleft:=Bf.rowNew (id:=S.length) (k:=i.size) (n:=l'.toNat) (c:=c'.toNat) (vs:=vs) (t:=e) hw (.inl hid) hk1 (DH.alloc w (.cells cells e)) (by omega) hcs hvl hvc
  refine hk _ _ _ ?_ (by simpa[BG]using hleft)
  have:=Fc (G:=(G.newImm w.heap.size vs).newHist S.length l'.toNat (.slice (some ⟨w.heap.size,0,none⟩) l'.toNat c'.toNat)) (t:=.row S.length) (k:=i.size) (b:=w.heap.size) (c:=c'.toNat) (zs:=List.replicate l'.toNat (LZ i.size)) (vs:=vs) (by rw[hvl,List.length_replicate]) (by rw[List.length_replicate];omega) hone (λq x hx=>by
   have h7:=List.mem_of_getElem? hx
   rw[List.mem_replicate]at h7
   rw[h7.2,NS,List.length_replicate]) (λq u hu=>by simpa[Gh.newHist,Gh.newImm]using hu) (λq j x y u hx hy hu=>by
   have h7:=List.mem_of_getElem? hx
   rw[List.mem_replicate]at h7
   rw[h7.2,NS]at hy
   have h8:=List.mem_of_getElem? hy
   rw[List.mem_replicate]at h8
   rw[h8.2];exact .any _) (by simp[HD,Gh.newHist])
  simpa using this
 ·exact h.elim
theorem Adq {c:Call} {f:Operand} (hop:o.op=.call c) (hcal:c.callee=.value f) (h:Nf P (ρ f) (c.args.toList.map ρ) S K):Fsq P o ρ S K:=by
 unfold Nf at h
 split at h
 ·rename_i g first cap hf
  obtain⟨v,rd,upd,new,he,hu,hrl,hK⟩:=h
  refine⟨v,rd,upd,new,λT hT hd G a w hw hr Kc Q hk=>?_,hu,hrl,hK⟩
  obtain⟨⟨fn,hfn,hbody,hname⟩,hdoes⟩:=he T hT hu hd
  have rf:=hr f (by simp[hop,Op.operands,Call.operands,hcal])
  rw[hf]at rf
  generalize ef:a.eval f=vf at rf
  cases rf with
  | @fn _ _ _ fv cv q1 q2 q3 q4=>
    have hrn:(execOp a.eval o).run P w=.ok (.enter g (fv++c.args.map a.eval++cv)) w:=by
     have hb':¬fn.body.isNone=true:=by simp[hbody]
     have hname':¬fn.name= "runtime.NumGoroutine":=by simpa using hname
     simp[execOp,hop,resolve,hcal,ef,Deferred.ofValue,invoke,callFunc,hfn,hname']
     cases hbd:fn.body with
     |none=>simp[hbd]at hbody
     |some _=>simp
    refine .inl ?_
    unfold Oper.wp
    rw[hrn]
    refine(hdoes G w _ hw ?_).mono ?_
    ·simp only[Array.toList_append,Array.toList_map]
     refine Cn.append (Cn.append ⟨by simpa using q1,λj x v hx hv=>q3 j x v hx (by simpa using hv)⟩ ⟨by simp,λj x v hx hv=>?_⟩) ⟨by simpa using q2,λj x v hx hv=>q4 j x v hx (by simpa using hv)⟩
     obtain⟨y,hy,rfl⟩:=Be hx
     obtain⟨y',hy',rfl⟩:=Be hv
     rw[hy]at hy';injection hy' with e;subst e
     exact hr y (by simp[hop,Op.operands,Call.operands,hcal];right;exact Array.mem_of_getElem? (by simpa using hy))
    ·rintro e w' ⟨v',G',rfl,hv',hleft⟩
     exact hk v' w' G' hv' hleft
 ·rename_i q hf
  obtain⟨go,S',hy,hl,h0,hK⟩:=h
  refine⟨_,_,_,[],λT hT hd G a w hw hr Kc Q hk=>?_,λp hp=>(List.of_mem_zip hp).1,λi hi=>by simpa using hi,hK⟩
  have hTl:S.length≤T.length:=by
   have:=hT (S.length-1) (by simp;omega)
   have h1:S[S.length-1]? =some (S[S.length-1]'(by omega)):=by simp
   rw[h1]at this
   have:=(List.getElem?_eq_some_iff.1 this).1
   omega
  have hTe:T=S++T.drop S.length:=by
   apply List.ext_getElem?
   intro i
   by_cases hi:i<S.length
   ·rw[List.getElem?_append_left hi,hT i (by simpa using hi)]
   ·rw[List.getElem?_append_right (by omega),List.getElem?_drop];congr 1;omega
  generalize hR:T.drop S.length=R at hTe
  subst hTe
  have rf:=hr f (by simp[hop,Op.operands,Call.operands,hcal])
  rw[hf]at rf
  generalize ef:a.eval f=vf at rf
  cases rf with
  | @yv _ l hql=>
    obtain⟨fn,tmps,as,body,h1,h2⟩:=hy R G w l (c.args.map a.eval) hw hql ⟨by simp,λj x v hx hv=>by
     obtain⟨y,hy,rfl⟩:=Be hx
     simp only[Array.toList_map]at hv
     obtain⟨y',hy',rfl⟩:=Be hv
     rw[hy]at hy';injection hy' with e;subst e
     exact hr y (by simp[hop,Op.operands,Call.operands,hcal];right;exact Array.mem_of_getElem? (by simpa using hy))⟩
    refine .inr ⟨l,fn,tmps,as,body,?_,h2.mono ?_⟩
    ·simp[execOp,hop,resolve,hcal,ef,Deferred.ofValue,invoke,h1]
    ·rintro e w' ⟨G',rfl,hleft⟩
     refine⟨_,rfl,hk _ w' G' (.lit _) ?_⟩
     have e0:CA (S++R) ((List.range S.length).zip S'++BG S.length [])=S'++R:=by
      have hz:((List.range S.length).zip S').map (·.1)=List.range S.length:=by rw[List.map_fst_zip];simp[hl]
      apply List.ext_getElem?
      intro i
      simp only[BG,List.append_nil]
      by_cases hi:i<S.length
      ·rw[P4 _ _ (by rw[hz];exact List.nodup_range) i (S'[i]'(by omega)) ?_ (by simp;omega),List.getElem?_append_left (by omega)]
       ·simp
       ·refine List.mem_of_getElem? (i:=i) ?_
        rw[List.getElem?_zip_eq_some]
        exact⟨by simp[hi],by simp⟩
      ·rw[Dj _ _ _ (by rw[hz];simpa using hi),List.getElem?_append_right (by omega),List.getElem?_append_right (by omega),hl]
     rw[e0];exact hleft
 ·exact h.elim
theorem Sc {S S':List Ad} (hl:S'.length=S.length):CA S ((List.range S.length).zip S')++[]=S':=by
 have hz:((List.range S.length).zip S').map (·.1)=List.range S.length:=by rw[List.map_fst_zip];simp[hl]
 rw[List.append_nil]
 apply List.ext_getElem?
 intro i
 by_cases hi:i<S.length
 ·rw[P4 _ _ (by rw[hz];exact List.nodup_range) i (S'[i]'(by omega)) ?_ (by omega)]
  ·simp
  ·refine List.mem_of_getElem? (i:=i) ?_
   rw[List.getElem?_zip_eq_some]
   exact⟨by simp[hi],by simp⟩
 ·rw[Dj _ _ _ (by rw[hz];simpa using hi),List.getElem?_eq_none (by omega),List.getElem?_eq_none (by omega)]
def IM:List (Int×Int)->Int->Option Nat
 |[],_=>none
 |p::l,a=>if a==p.1 then some 0 else(IM l a).map (· +1)
theorem J_ (a:Int):∀(l:List (Int×Int)) (n j:Nat),Instr.findNow (.int .u32) (.int .u32 a) (GD n l) j=some ((IM l a).map λi=>(j+i,.int .i64 (FU l a)))
 |[],n,j=>rfl
 |p::l,n,j=>by
  have ih:=J_ a l (n+1) (j+1)
  simp only[GD,Instr.findNow,Instr.sameNow,if_true,IM,FU]
  cases h:a==p.1 with
  |true=>simp
  |false=>
   simp only[ih,Bool.false_eq_true,if_false,Option.map_map]
   congr 2
   funext i
   simp only[Function.comp]
   congr 1
   omega
theorem Pp {a:Int}:∀{l:List (Int×Int)},IM l a=none->FU l a=0
 |[],_=>rfl
 |p::l,h=>by
  simp only[IM]at h
  split at h
  ·cases h
  ·rename_i hn
   rw[FU,if_neg hn]
   exact Pp (by cases hl:IM l a<;>simp_all)
theorem Pl {a v:Int}:∀{l:List (Int×Int)} (n:Nat),IM l a=none->GD n (HI l a v)=GD n l++[{key:=.int .u32 a,val:=.int .i64 v,born:=n+l.length}]∧(HI l a v).length=l.length+1
 |[],n,_=>by simp[HI,GD]
 |p::l,n,h=>by
  simp only[IM]at h
  split at h
  ·cases h
  ·rename_i hn
   obtain⟨h1,h2⟩:=Pl (l:=l) (v:=v) (n+1) (by cases hl:IM l a<;>simp_all)
   rw[HI,if_neg hn]
   refine⟨?_,by simp[h2]⟩
   simp only[GD,h1,List.cons_append,List.length_cons]
   rw[show n+1+l.length=n+(l.length+1) by omega]
theorem Pk {a v:Int}:∀{l:List (Int×Int)} {i:Nat} (n:Nat),IM l a=some i->(GD n l).modify i (λe=>{e with key:=.int .u32 a,val:=.int .i64 v})=GD n (HI l a v)∧(HI l a v).length=l.length∧∃e,(GD n l)[i]? =some e∧e.key=.int .u32 a
 |[],i,n,h=>by simp[IM]at h
 |p::l,i,n,h=>by
  simp only[IM]at h
  split at h
  ·rename_i hp
   injection h with h;subst h
   rw[HI,if_pos hp]
   have hp':a=p.1:=by simpa using hp
   exact⟨by simp[GD],by simp,{key:=.int .u32 p.1,val:=.int .i64 p.2,born:=n},by simp[GD],by simp[hp']⟩
  ·rename_i hn
   cases hl:IM l a with
   |none=>simp[hl]at h
   |some k=>
    simp[hl]at h;subst h
    obtain⟨h1,h2,e,h3,h4⟩:=Pk (v:=v) (n+1) hl
    rw[HI,if_neg hn]
    exact⟨by simp[GD,h1],by simp[h2],e,by simpa[GD]using h3,h4⟩
theorem Zj {t:TypeId} (hop:o.op=.makeMap t none) (h:K (.mapr S.length) [] [] [.raw (.imap []) []]):Fsq P o ρ S K:=by
 refine⟨_,[],[],_,λT _ hd G a w hw hr K Q hk=>?_,(λp hp=>by cases hp),(λi hi=>by simp at hi),h⟩
 have hrun:(execOp a.eval o).run P w=.ok (.value (.map (some w.heap.size))) (w.alloc (.map #[] 0)):=by
  simp[execOp,hop,Instr.makeMap]
 refine .inl ?_
 unfold Oper.wp
 rw[hrun]
 have hid:T[S.length]? =some .dead:=hd (S.length,.raw (.imap []) []) (by simp[BG])
 have:=Bf.rawNew (o:=.imap []) hw hid (Cn.nil G) (DH.alloc w _)
 refine hk _ _ _ ?_ (by simpa[BG,E5.obj,GD]using this)
 exact .mapr (by simp[Gh.newLoc])
theorem Gs {kt:TypeId} {k:IntKind} (hk:P.underlying kt=some (.int k)) (b:Bool) (v:Value) (w:World):(Instr.checkKey b 10000 kt v).run P w=.ok () w:=by
 have:∀d,(Instr.checkKey b (d+1) kt v).run P w=.ok () w:=λd=>by simp[Instr.checkKey,run_underlying hk]
 exact this 9999
theorem Hz {kt:TypeId} (hk:P.underlying kt=some (.int .u32)) (a:Int) (l:List (Int×Int)) (w:World):(Instr.findKey kt (.int .u32 a) (GD 0 l)).run P w=.ok ((IM l a).map λi=>(i,.int .i64 (FU l a))) w:=by
 have:=J_ a l 0 0
 simp only[Nat.zero_add]at this
 simp[Instr.findKey,run_underlying hk,this]
theorem Hy {b:Nat} {es:Array MapEntry} {c:Nat} {w:World} (h:w.heap[b]? =some (.map es c)):(getObj b).run P w=.ok (.map es c) w:=by simp[getObj,Sem.run,h]
theorem Hx {b:Nat} {es:Array MapEntry} {c:Nat} (o':Obj) {w:World} (h:w.heap[b]? =some (.map es c)):(setObj b o').run P w=.ok () {w with heap:=w.heap.setIfInBounds b o'}:=by simp[setObj,Sem.run,h]
theorem K6 {w:World} {b:Nat} {o:Obj} (o':Obj) (h:w.heap[b]? =some o):Kr w {w with heap:=w.heap.setIfInBounds b o'} b o':=
 ⟨rfl,rfl,rfl,by simp,λi hi=>by simp[Array.getElem?_setIfInBounds_ne (Ne.symm hi)],by simp[(Array.getElem?_eq_some_iff.1 h).1]⟩
theorem Zi {t kt e:TypeId} {x k:Operand} (hop:o.op=.lookup t x k false) (ht:P.underlying t=some (.map kt e)) (hk:P.underlying kt=some (.int .u32)) (he:(P.info? e).bind (·.zero)=some (.int .i64 0)) (h:KL (ρ x) (ρ k) S K):Fsq P o ρ S K:=by
 unfold KL at h
 split at h
 ·rename_i i a hx hkey
  split at h
  ·rename_i l xs hS
   refine HN (i:=i) (λG ac w T hT hw hr=>⟨.int .i64 (FU l a),?_,.lit _⟩) (List.getElem?_eq_some_iff.1 hS).1 h
   obtain⟨b,vs,h1,h2,_⟩:=hw.raw i (.imap l) xs (hT.trans hS)
   have rx:=hr x (by simp[hop,Op.operands])
   have rk:=hr k (by simp[hop,Op.operands])
   rw[hx]at rx;rw[hkey]at rk
   have ek:=A_ rk
   generalize ex:ac.eval x=vx at rx
   cases rx with
   | @mapr _ b' hb'=>
     rw[h1]at hb';injection hb' with hb';subst hb'
     have h2':w.heap[b]? =some (.map (GD 0 l).toArray l.length):=h2
     have hz:(zeroValue e).run P w=.ok (.int .i64 0) w:=by
      cases hi:P.info? e with
      |none=>simp[hi]at he
      |some ii=>simp[hi]at he;simp[zeroValue,typeInfo,hi,he]
     simp only[execOp,hop,ex,ek,Instr.lookup,Sem.run_bind,run_underlying ht,Result.andThen,Sem.run_pure,Hy h2',Gs hk,Hz hk]
     cases hl:IM l a with
     |none=>simp[hz,Pp hl,Result.andThen]
     |some j=>simp[Result.andThen]
  ·exact h.elim
 ·exact h.elim
theorem Adj {t kt e:TypeId} {x k y:Operand} (hop:o.op=.mapUpdate t x k y) (ht:P.underlying t=some (.map kt e)) (hk:P.underlying kt=some (.int .u32)) (h:Pu (ρ x) (ρ k) (ρ y) S K):Fsq P o ρ S K:=by
 unfold Pu at h
 split at h
 ·rename_i i a u hx hkey hy
  split at h
  ·rename_i l xs hS
   refine⟨_,[i],[(i,_)],[],λT hT _ G ac w hw hr Kc Q hk'=>?_,by simp,(λj hj=>by simp at hj;subst hj;exact(List.getElem?_eq_some_iff.1 hS).1),h⟩
   have hTi:T[i]? =some (.raw (.imap l) xs):=(hT i (by simp)).trans hS
   obtain⟨b,vs,h1,h2,_⟩:=hw.raw i (.imap l) xs hTi
   have rx:=hr x (by simp[hop,Op.operands])
   have rk:=hr k (by simp[hop,Op.operands])
   have ry:=hr y (by simp[hop,Op.operands])
   rw[hx]at rx;rw[hkey]at rk;rw[hy]at ry
   have ek:=A_ rk
   have ey:=A_ ry
   generalize ex:ac.eval x=vx at rx
   cases rx with
   | @mapr _ b' hb'=>
     rw[h1]at hb';injection hb' with hb';subst hb'
     have h2':w.heap[b]? =some (.map (GD 0 l).toArray l.length):=h2
     have hrun:(execOp ac.eval o).run P w=.ok .skip {w with heap:=w.heap.setIfInBounds b ((E5.imap (HI l a u)).obj [])}:=by
      simp only[execOp,hop,ex,ek,ey,Instr.mapUpdate,Sem.run_bind,run_underlying ht,Result.andThen,Sem.run_pure,Hy h2',Gs hk,Hz hk]
      cases hl:IM l a with
      |none=>
       obtain⟨g1,g2⟩:=Pl (v:=u) 0 hl
       simp only[Nat.zero_add]at g1
       simp[Hx _ h2',Result.andThen,E5.obj,g1,g2]
      |some j=>
       obtain⟨g1,g2,en,g3,g4⟩:=Pk (v:=u) 0 hl
       have g5:(GD 0 l).toArray[j]? =some en:=by simpa using g3
       simp[Hx _ h2',Result.andThen,E5.obj,g2,g5,g4,Instr.keyThatStays,Instr.sameBits,←g1]
     refine .inl ?_
     unfold Oper.wp
     rw[hrun]
     have:=Bf.rawTo (o':=.imap (HI l a u)) (vs':=[]) hw hTi h1 (K6 _ h2) (Cn.nil G)
     exact hk' undef _ _ (.any _) (by simpa[BG]using this)
  ·exact h.elim
 ·exact h.elim
theorem XW {op:BinOp} {t t':TypeId} {x y:Operand} {neg:Bool} {d1 d2 d3} (hop:o.op=.binOp op t x y t') (ht:P.underlying t=some (.func d1 d2 d3)) (hn:op=if neg then .neq else .eql) (h:TE neg (ρ x) (ρ y) K):Fsq P o ρ S K:=by
 have heq1:∀(g:Fn) (u v:Array Value) (w:World),(Op.equal t (.func g u v) .nilFunc).run P w=.ok false w:=by
  intro g u v w
  have:∀d,(Op.equalIn (d+1) t (.func g u v) .nilFunc).run P w=.ok false w:=λd=>by simp[Op.equalIn,run_underlying ht]
  exact this 9999
 have heq2:∀(w:World),(Op.equal t .nilFunc .nilFunc).run P w=.ok true w:=by
  intro w
  have:∀d,(Op.equalIn (d+1) t .nilFunc .nilFunc).run P w=.ok true w:=λd=>by simp[Op.equalIn,run_underlying ht]
  exact this 9999
 unfold TE at h
 split at h
 ·rename_i f fs cs hx hy
  refine AS (λG a w T _ hr=>⟨_,?_,.lit _⟩) h
  have rx:=hr x (by simp[hop,Op.operands])
  have ry:=hr y (by simp[hop,Op.operands])
  rw[hx]at rx;rw[hy]at ry
  have e2:=A_ ry
  generalize e1:a.eval x=vx at rx
  cases rx
  cases neg<;>simp at hn<;>subst hn<;>simp[execOp,hop,e1,e2,eqGuard,binOp,heq1]
 ·rename_i hx hy
  refine AS (λG a w T _ hr=>⟨_,?_,.lit _⟩) h
  have rx:=hr x (by simp[hop,Op.operands])
  have ry:=hr y (by simp[hop,Op.operands])
  rw[hx]at rx;rw[hy]at ry
  have e1:=A_ rx
  have e2:=A_ ry
  cases neg<;>simp at hn<;>subst hn<;>simp[execOp,hop,e1,e2,eqGuard,binOp,heq2]
 ·exact h.elim
end
def IQ:Nat->Int->List Int
 |0,x=>[x]
 |n+1,x=>if x<128 then[x]else(128+x%128)::IQ n (x/128)
def vb (x:Int):List Int:=IQ 9 x
theorem Am0:∀(n m:Nat) (x:Int),0≤x->x<128^(n+1)->n≤m->IQ n x=IQ m x:=by
 intro n
 induction n with
 |zero=>
  intro m x h0 h1 _
  cases m with
  |zero=>rfl
  |succ m=>simp only[IQ];rw[if_pos (by omega)]
 |succ n ih=>
  intro m x h0 h1 hm
  obtain⟨k,rfl⟩:∃k,m=k+1:=⟨m-1,by omega⟩
  simp only[IQ]
  by_cases h:x<128
  ·rw[if_pos h,if_pos h]
  ·rw[if_neg h,if_neg h,ih k (x/128) (by omega) ?_ (by omega)]
   rw[Int.pow_succ]at h1
   omega
theorem Amh {x:Int} (h:x<128):vb x=[x]:=by unfold vb;simp only[IQ];rw[if_pos h]
theorem Ami {x:Int} (h:128≤x) (h1:x<18446744073709551616):vb x=(128+x%128)::vb (x/128):=by
 have e:vb x=(128+x%128)::IQ 8 (x/128):=by unfold vb;rw[show(9:Nat)=8+1 from rfl];simp only[IQ];rw[if_neg (by omega)]
 rw[e]
 unfold vb
 rw[Am0 8 9 (x/128) (by omega) (by omega) (by omega)]
theorem Amz:∀(n:Nat) (x:Int),0≤x->x<128^(n+1)->AY (IQ n x):=by
 intro n
 induction n with
 |zero=>intro x h0 h1 y hy;simp[IQ]at hy;omega
 |succ n ih=>
  intro x h0 h1 y hy
  simp only[IQ]at hy
  split at hy
  ·simp at hy;omega
  ·rcases List.mem_cons.1 hy with rfl|hy
   ·omega
   ·exact ih (x/128) (by omega) (by rw[Int.pow_succ]at h1;omega) y hy
theorem CD {x:Int} (h0:0≤x) (h1:x<18446744073709551616):AY (vb x):=Amz 9 x h0 (by omega)
theorem Aih:∀(n:Nat) (x:Int),1≤(IQ n x).length∧(IQ n x).length≤n+1:=by
 intro n
 induction n with
 |zero=>intro x;simp[IQ]
 |succ n ih=>
  intro x
  simp only[IQ]
  split
  ·simp
  ·have:=ih (x/128);simp;omega
theorem Bd (x:Int):1≤(vb x).length∧(vb x).length≤10:=Aih 9 x
theorem Acw:∀(n:Nat) (x y:Int),x≤y->(IQ n x).length≤(IQ n y).length:=by
 intro n
 induction n with
 |zero=>intro x y _;simp[IQ]
 |succ n ih=>
  intro x y h
  simp only[IQ]
  by_cases hy:y<128
  ·rw[if_pos hy,if_pos (by omega)];simp
  ·rw[if_neg hy]
   split
   ·simp
   ·have:=ih (x/128) (y/128) (by omega);simp;omega
theorem Aig {x y:Int} (h:x≤y):(vb x).length≤(vb y).length:=Acw 9 x y h
def B6:Int->List Int->Int×Int×Int
 |n,[]=>(1,n,0)
 |n,c::t=>if n=9∧1<c then(5,n,0)else if 0<n∧c=0 then(4,n,0)else if c<128 then(0,n+1,c)
  else((B6 (n+1) t).1,(B6 (n+1) t).2.1,if(B6 (n+1) t).1=0 then c%128+128*(B6 (n+1) t).2.2 else 0)
theorem Aid:∀(k:Nat) (x:Int) (n:Int) (b:List Int),0≤x->0≤n->n+k≤9->x<128^(k+1)->(n+k=9->x<2*128^k)->(0<n->0<x)->B6 n (IQ k x++b)=(0,n+(IQ k x).length,x):=by
 intro k
 induction k with
 |zero=>
  intro x n b h0 hn h9 hx h2 hp
  simp only[IQ,List.cons_append,List.nil_append,B6]
  rw[if_neg (by omega),if_neg (by omega),if_pos (by omega)]
  simp
 |succ k ih=>
  intro x n b h0 hn h9 hx h2 hp
  rw[Int.pow_succ]at hx
  simp only[IQ]
  by_cases h:x<128
  ·rw[if_pos h]
   simp only[List.cons_append,List.nil_append,B6]
   rw[if_neg (by omega),if_neg (by omega),if_pos h]
   simp
  ·rw[if_neg h]
   simp only[List.cons_append,B6]
   rw[if_neg (by omega),if_neg (by omega),if_neg (by omega)]
   rw[ih (x/128) (n+1) b (by omega) (by omega) (by omega) (by omega) (λe=>by have:=h2 (by omega);rw[Int.pow_succ]at this;omega) (λ_=>by omega)]
   simp only[if_true,List.length_cons,Prod.mk.injEq,true_and]
   refine⟨by omega,by omega⟩
theorem Amv {x:Int} (b:List Int) (h0:0≤x) (h1:x<18446744073709551616):B6 0 (vb x++b)=(0,((vb x).length:Int),x):=by
 have:=Aid 9 x 0 b h0 (by omega) (by omega) (by omega) (λ_=>by omega) (λh=>by omega)
 simpa[vb]using this
theorem Acv:∀(l:List Int) (n:Int) (k:Nat),AY l->0≤n->n+k=9->(B6 n l).1=0->
 IQ k (B6 n l).2.2=l.take ((B6 n l).2.1-n).toNat∧n<(B6 n l).2.1∧(B6 n l).2.1≤n+l.length∧0≤(B6 n l).2.2∧(B6 n l).2.2<2*128^k∧(0<n->0<(B6 n l).2.2):=by
 intro l
 induction l with
 |nil=>intro n k _ _ _ h;simp[B6]at h
 |cons c t ih=>
  intro n k hb hn hk h
  have hc:=hb c (List.mem_cons_self ..)
  simp only[B6]at h ⊢
  by_cases h1:n=9∧1<c
  ·rw[if_pos h1]at h;simp at h
  rw[if_neg h1]at h ⊢
  by_cases h2:0<n∧c=0
  ·rw[if_pos h2]at h;simp at h
  rw[if_neg h2]at h ⊢
  by_cases h3:c<128
  ·rw[if_pos h3]
   refine⟨?_,by simp only;omega,by simp;omega,by simp only;omega,?_,λh=>by simp only;omega⟩
   ·rw[show(n+1-n).toNat=1 from by omega]
    cases k with
    |zero=>simp[IQ]
    |succ k=>simp only[IQ];rw[if_pos h3];simp
   ·cases k with
    |zero=>simp only[Int.pow_zero];omega
    |succ k=>simp only;have:(0:Int)<128^k:=Int.pow_pos (by omega);rw[Int.pow_succ];omega
  ·rw[if_neg h3]at h ⊢
   simp only at h ⊢
   obtain⟨j,rfl⟩:∃j,k=j+1:=⟨k-1,by omega⟩
   obtain⟨e1,e2,e3,e4,e5,e6⟩:=ih (n+1) j (λx hx=>hb x (List.mem_cons_of_mem _ hx)) (by omega) (by omega) h
   rw[if_pos h]
   have e7:=e6 (by omega)
   refine⟨?_,by omega,by simp;omega,by omega,?_,λ_=>by omega⟩
   ·simp only[IQ]
    rw[if_neg (by omega)]
    rw[show(c%128+128*(B6 (n+1) t).2.2)/128=(B6 (n+1) t).2.2 from by omega,e1]
    rw[show((B6 (n+1) t).2.1-n).toNat=((B6 (n+1) t).2.1-(n+1)).toNat+1 from by omega,List.take_succ_cons]
    congr 1
    omega
   ·rw[Int.pow_succ];omega
theorem Mg {l:List Int} (hb:AY l) (h:(B6 0 l).1=0):vb (B6 0 l).2.2=l.take (B6 0 l).2.1.toNat∧1≤(B6 0 l).2.1∧(B6 0 l).2.1≤l.length∧0≤(B6 0 l).2.2∧(B6 0 l).2.2<18446744073709551616:=by
 obtain⟨e1,e2,e3,e4,e5,_⟩:=Acv l 0 9 hb (by omega) (by omega) h
 refine⟨by simpa[vb]using e1,by omega,by omega,e4,by omega⟩
theorem Kt:∀(l:List Int) (n:Int),0≤n->(B6 n l).1≠0->(B6 n l).2.2=0∧n≤(B6 n l).2.1∧(((B6 n l).1=1∧(B6 n l).2.1=n+l.length)∨(((B6 n l).1=4∨(B6 n l).1=5)∧(B6 n l).2.1<n+l.length)):=by
 intro l
 induction l with
 |nil=>intro n _ _;simp[B6]
 |cons c t ih=>
  intro n hn h
  simp only[B6]at h ⊢
  by_cases h1:n=9∧1<c
  ·rw[if_pos h1];simp;omega
  rw[if_neg h1]at h ⊢
  by_cases h2:0<n∧c=0
  ·rw[if_pos h2];simp;omega
  rw[if_neg h2]at h ⊢
  by_cases h3:c<128
  ·rw[if_pos h3]at h;simp at h
  rw[if_neg h3]at h ⊢
  simp only at h ⊢
  obtain⟨e1,e2,e3⟩:=ih (n+1) (by omega) h
  rw[if_neg h]
  refine⟨rfl,by omega,?_⟩
  rcases e3 with⟨a,b⟩|⟨a,b⟩
  ·left;exact⟨a,by simp;omega⟩
  ·right;exact⟨a,by simp;omega⟩
def BW (c a:Int):Int×Int:=if c=0 then(0,0)else(c,a)
structure RS where
 l:List Int
 at_:Int
 code:Int
 fat:Int
def RS.fail (s:RS) (c a:Int):RS:=if s.code=0 then{s with code:=(BW c a).1,fat:=(BW c a).2}else s
def RS.good (s:RS):Bool:=s.code==0
def RS.left (s:RS):Int:=s.l.length-s.at_
def RS.ok (s:RS):Prop:=0≤s.at_∧s.at_≤s.l.length∧s.l.length≤140737488355328
def RS.skip (s:RS) (n:Int):RS×Bool:=
 if s.code=0 then(if n<0 then(s.fail 17 s.at_,false)else if s.left<n then(s.fail 1 s.l.length,false)else({s with at_:=s.at_+n},true))else(s,false)
def RS.byte (s:RS):RS×Int:=if(s.skip 1).2=true then((s.skip 1).1,s.l.getD s.at_.toNat 0)else((s.skip 1).1,0)
def RS.take (s:RS) (n:Int):RS×List Int:=if(s.skip n).2=true then((s.skip n).1,(s.l.drop s.at_.toNat).take n.toNat)else((s.skip n).1,[])
def RS.new (l:List Int):RS:=⟨l,0,0,0⟩
theorem Gq {s:RS} {n:Int} (h:(s.skip n).2=true):s.code=0∧0≤n∧n≤s.left∧(s.skip n).1={s with at_:=s.at_+n}:=by
 unfold RS.skip at h ⊢
 by_cases h1:s.code=0
 ·rw[if_pos h1]at h ⊢
  by_cases h2:n<0
  ·rw[if_pos h2]at h;cases h
  ·rw[if_neg h2]at h ⊢
   by_cases h3:s.left<n
   ·rw[if_pos h3]at h;cases h
   ·rw[if_neg h3];exact⟨h1,by omega,by omega,rfl⟩
 ·rw[if_neg h1]at h;cases h
theorem Bl (s:RS) (c a:Int):(s.fail c a).l=s.l:=by unfold RS.fail;split<;>rfl
theorem Yo (s:RS) (c a:Int):(s.fail c a).at_=s.at_:=by unfold RS.fail;split<;>rfl
theorem RS.ok.fail {s:RS} (h:s.ok) (c a:Int):(s.fail c a).ok:=by unfold RS.ok;rw[Bl,Yo];exact h
theorem RS.ok.skip {s:RS} (h:s.ok) (n:Int):(s.skip n).1.ok∧(s.skip n).1.l=s.l:=by
 by_cases hy:(s.skip n).2=true
 ·obtain⟨h1,h2,h3,h4⟩:=Gq hy
  rw[h4]
  obtain⟨a,b,c⟩:=h
  unfold RS.left at h3
  exact⟨⟨by show 0≤s.at_+n;omega,by show s.at_+n≤s.l.length;omega,c⟩,rfl⟩
 ·unfold RS.skip at hy ⊢
  by_cases h1:s.code=0
  ·rw[if_pos h1]at hy ⊢
   by_cases h2:n<0
   ·rw[if_pos h2];exact⟨h.fail _ _,Bl _ _ _⟩
   ·rw[if_neg h2]at hy ⊢
    by_cases h3:s.left<n
    ·rw[if_pos h3];exact⟨h.fail _ _,Bl _ _ _⟩
    ·rw[if_neg h3]at hy;exact absurd rfl hy
  ·rw[if_neg h1];exact⟨h,rfl⟩
theorem RS.ok.byte {s:RS} (h:s.ok):s.byte.1.ok∧s.byte.1.l=s.l:=by
 unfold RS.byte;split<;>exact h.skip 1
theorem RS.ok.take {s:RS} (h:s.ok) (n:Int):(s.take n).1.ok∧(s.take n).1.l=s.l:=by
 unfold RS.take;split<;>exact h.skip n
theorem RS.ok.new {l:List Int} (h:l.length≤140737488355328):(RS.new l).ok:=⟨Int.le_refl _,by simp[RS.new],h⟩
theorem Yv {s:RS} (h:s.ok) (hb:AY s.l):0≤s.byte.2∧s.byte.2<256:=by
 unfold RS.byte
 split
 ·rename_i hy
  obtain⟨h1,h2,h3,h4⟩:=Gq hy
  obtain⟨a,b,c⟩:=h
  unfold RS.left at h3
  exact hb _ (CG _ _ (by omega))
 ·simp
theorem AY.drop {l:List Int} (h:AY l) (n:Nat):AY (l.drop n):=λx hx=>h x (List.mem_of_mem_drop hx)
theorem Aqe:∀a:Fin 256,a.val|||128=128+a.val%128:=by decide+kernel
def RS.adv (s:RS) (i:Int):RS:={s with at_:=s.at_+i}
def RS.rest (s:RS):List Int:=s.l.drop s.at_.toNat
def RS.vint (s:RS):RS×Int:=
 if s.code=0 then
  (if(B6 0 s.rest).1=0 then(s.adv (B6 0 s.rest).2.1,(B6 0 s.rest).2.2)
  else if(B6 0 s.rest).1=1 then({s with at_:=s.l.length,code:=1,fat:=s.l.length},0)
  else({s with at_:=s.at_+(B6 0 s.rest).2.1+1,code:=(B6 0 s.rest).1,fat:=s.at_+(B6 0 s.rest).2.1},0))
 else(s,0)
def Kk (i:Nat) (x:Int) (q:Int×Int×Int):Int×Int×Int:=(q.1,q.2.1,if q.1=0 then x+128^i*q.2.2 else 0)
def Kq (s:RS) (i:Nat) (x:Int):Prop:=B6 0 s.rest=Kk i x (B6 i (s.rest.drop i))
theorem YS (s:RS) (_hb:AY s.l):Kq s 0 0:=by
 unfold Kq
 rw[List.drop_zero]
 have e0:((0:Nat):Int)=0:=rfl
 rw[e0]
 have hf:=Kt s.rest 0 (Int.le_refl _)
 generalize B6 0 s.rest=q at*
 obtain⟨q1,q2,q3⟩:=q
 unfold Kk
 simp only[Int.pow_zero,Int.one_mul,Int.zero_add]at*
 by_cases h:q1=0
 ·rw[if_pos h]
 ·rw[if_neg h,(hf h).1]
theorem DP (s:RS) (h0:0≤s.at_) (h1:s.at_≤s.l.length):(s.rest.length:Int)=s.l.length-s.at_:=by
 unfold RS.rest;simp;omega
theorem Ag2 (s:RS) (i:Nat) (hc:s.code=0) (_h0:0≤s.at_) (_h1:s.at_≤s.l.length) (hi:s.at_+i=s.l.length):
 (s.adv i).byte=({s with at_:=s.l.length,code:=1,fat:=s.l.length},0):=by
 have e:(s.adv i).skip 1=({s with at_:=s.l.length,code:=1,fat:=s.l.length},false):=by
  unfold RS.skip RS.adv RS.left RS.fail
  simp only[hc,if_true]
  rw[if_neg (by omega),if_pos (by omega),hi]
  simp[BW]
 unfold RS.byte
 rw[e];simp
theorem Ag3 (s:RS) (hc:s.code≠0):(s.adv 0).byte=(s,0):=by
 have e0:s.adv 0=s:=by unfold RS.adv;simp
 rw[e0]
 have e:s.skip 1=(s,false):=by unfold RS.skip;rw[if_neg hc]
 unfold RS.byte
 rw[e];simp
theorem Ab6 (s:RS) (i:Nat) (c:Int) (t:List Int) (hc:s.code=0) (h0:0≤s.at_) (h1:s.at_≤s.l.length) (hd:s.rest.drop i=c::t):
 (s.adv i).byte=(s.adv (i+1),c)∧s.at_+i+1≤s.l.length:=by
 have hlen:i<s.rest.length:=by
  rcases Nat.lt_or_ge i s.rest.length with h|h
  ·exact h
  ·rw[List.drop_eq_nil_of_le h]at hd;cases hd
 have hl:=DP s h0 h1
 have e:(s.adv i).skip 1=(s.adv (i+1),true):=by
  unfold RS.skip RS.adv RS.left
  simp only[hc,if_true]
  rw[if_neg (by omega),if_neg (by omega)]
  simp[Int.add_assoc]
 unfold RS.byte
 rw[e]
 simp only[if_true]
 refine⟨?_,by omega⟩
 have:(s.adv i).l.getD (s.adv i).at_.toNat 0=c:=by
  unfold RS.adv RS.rest at*
  simp only
  rw[List.drop_drop]at hd
  have e2:(s.at_+(i:Int)).toNat=s.at_.toNat+i:=by omega
  rw[e2]
  have:=congrArg (λl=>l[0]?) hd
  simp at this
  simp[this]
 rw[this]
theorem Gm {s:RS} (hc:s.code≠0):s.vint=(s,0):=by unfold RS.vint;rw[if_neg hc]
theorem Acu {s:RS} {i:Nat} {x:Int} (hc:s.code=0) (hu:Kq s i x) (hd:s.rest.drop i=[]):s.vint=({s with at_:=s.l.length,code:=1,fat:=s.l.length},0):=by
 unfold Kq at hu
 rw[hd]at hu
 unfold RS.vint
 rw[if_pos hc,hu]
 simp[Kk,B6]
theorem YL {s:RS} {i:Nat} {x c:Int} {t:List Int} (hc:s.code=0) (hu:Kq s i x) (hd:s.rest.drop i=c::t) (h9:i=9) (h1:1<c):
 s.vint=((s.adv (i+1)).fail 5 (s.at_+i),0):=by
 have hq:B6 i (c::t)=(5,(i:Int),0):=by simp only[B6];rw[if_pos (by omega)]
 unfold Kq at hu
 rw[hd,hq]at hu
 unfold RS.vint
 rw[if_pos hc,hu]
 simp[Kk,RS.fail,RS.adv,hc,BW,Int.add_assoc]
theorem Acs {s:RS} {i:Nat} {x:Int} {t:List Int} (hc:s.code=0) (hu:Kq s i x) (hd:s.rest.drop i=0::t) (h9:0<i):
 s.vint=((s.adv (i+1)).fail 4 (s.at_+i),0):=by
 have hq:B6 i (0::t)=(4,(i:Int),0):=by unfold B6;rw[if_neg (by omega),if_pos ⟨by omega,rfl⟩]
 unfold Kq at hu
 rw[hd,hq]at hu
 unfold RS.vint
 rw[if_pos hc,hu]
 simp[Kk,RS.fail,RS.adv,hc,BW,Int.add_assoc]
theorem YM {s:RS} {i:Nat} {x c:Int} {t:List Int} (hc:s.code=0) (hu:Kq s i x) (hd:s.rest.drop i=c::t) (h9:¬(i=9∧1<c)) (h1:¬(0<i∧c=0)) (h2:c<128):
 s.vint=(s.adv (i+1),x+128^i*c):=by
 have hq:B6 i (c::t)=(0,(i:Int)+1,c):=by simp only[B6];rw[if_neg (by omega),if_neg (by omega),if_pos h2]
 unfold Kq at hu
 rw[hd,hq]at hu
 unfold RS.vint
 rw[if_pos hc,hu]
 simp[Kk,RS.adv,hc]
theorem YT {s:RS} {i:Nat} {x c:Int} {t:List Int} (hu:Kq s i x) (hd:s.rest.drop i=c::t) (h9:¬(i=9∧1<c)) (h1:¬(0<i∧c=0)) (h2:¬c<128):
 Kq s (i+1) (x+128^i*(c%128))∧s.rest.drop (i+1)=t:=by
 have e:s.rest.drop (i+1)=t:=by rw[←List.drop_drop,hd];rfl
 refine⟨?_,e⟩
 have hq:B6 i (c::t)=((B6 (i+1) t).1,(B6 (i+1) t).2.1,if(B6 (i+1) t).1=0 then c%128+128*(B6 (i+1) t).2.2 else 0):=by
  simp only[B6];rw[if_neg (by omega),if_neg (by omega),if_neg h2]
 unfold Kq at*
 rw[hd,hq]at hu
 rw[e,hu]
 have ei:((i+1:Nat):Int)=(i:Int)+1:=by omega
 rw[ei]
 generalize B6 ((i:Int)+1) t=q
 obtain⟨q1,q2,q3⟩:=q
 unfold Kk
 simp only
 by_cases h:q1=0
 ·rw[if_pos h,if_pos h,if_pos h,Int.pow_succ,Int.mul_add,Int.mul_assoc,Int.add_assoc]
 ·rw[if_neg h,if_neg h]
theorem X6 (i:Nat) (hi:i≤9) (x c:Int) (h0:0≤x) (h1:x<128^i) (c0:0≤c) (c1:c<128) (c2:i=9->c≤1):
 bits .or .u64 x (IntKind.u64.wrap (c*2^(7*i)))=x+128^i*c∧x+128^i*c<128^(i+1)∧0≤x+128^i*c:=by
 obtain⟨n,rfl⟩:=Int.eq_ofNat_of_zero_le c0
 obtain⟨m,rfl⟩:=Int.eq_ofNat_of_zero_le h0
 have hp:(2:Int)^(7*i)=128^i:=by rw[Int.pow_mul];rfl
 have hpos:(0:Int)<128^i:=Int.pow_pos (by omega)
 have hcast:((128^i:Nat):Int)=128^i:=by rw[Int.natCast_pow];rfl
 have h1':m<128^i:=by omega
 have hB:n*128^i<18446744073709551616:=by
  have:i=0∨i=1∨i=2∨i=3∨i=4∨i=5∨i=6∨i=7∨i=8∨i=9:=by omega
  rcases this with rfl|rfl|rfl|rfl|rfl|rfl|rfl|rfl|rfl|rfl<;>simp at c2 ⊢ <;>omega
 have hm:(m:Int)<18446744073709551616:=by
  have:i=0∨i=1∨i=2∨i=3∨i=4∨i=5∨i=6∨i=7∨i=8∨i=9:=by omega
  rcases this with rfl|rfl|rfl|rfl|rfl|rfl|rfl|rfl|rfl|rfl<;>simp at h1<;>omega
 have e0:(n:Int)*128^i=((n*128^i:Nat):Int):=by rw[Int.natCast_mul,hcast]
 have e1:IntKind.u64.wrap ((n:Int)*2^(7*i))=((n*128^i:Nat):Int):=by
  rw[hp,e0]
  simp[IntKind.wrap,IntKind.bits,IntKind.signed]
  omega
 rw[e1,u64_or_nat m _ (by omega) hB]
 have e2:m|||n*128^i=n*128^i+m:=by
  rw[Nat.or_comm]
  have q:(2:Nat)^(7*i)=128^i:=by rw[Nat.pow_mul]
  exact nat_join (7*i) _ _ (by rw[q];exact Nat.mul_mod_left _ _) (by rw[q];exact h1')
 rw[e2]
 have e3:((n*128^i+m:Nat):Int)=(m:Int)+128^i*(n:Int):=by
  rw[Int.natCast_add,←e0,Int.mul_comm,Int.add_comm]
 refine⟨e3,?_,?_⟩
 ·rw[Int.pow_succ]
  have:(128:Int)^i*n≤128^i*127:=Int.mul_le_mul_of_nonneg_left (by omega) (by omega)
  omega
 ·have:(0:Int)≤128^i*n:=Int.mul_nonneg (by omega) (by omega)
  omega
def RS.most (s:RS) (m:Int):RS×Int:=if m<s.vint.2 then(s.vint.1.fail 2 s.at_,0)else s.vint
def RS.int (s:RS) (m:Int):RS×Int:=if 0≤m then s.most m else(s.vint.1.fail 2 s.at_,0)
theorem Bk {s:RS} (hb:AY s.l):0≤s.vint.2∧s.vint.2<18446744073709551616:=by
 unfold RS.vint
 split
 ·split
  ·rename_i h1 h2
   have:=Mg (l:=s.rest) (hb.drop _) h2
   exact⟨this.2.2.2.1,this.2.2.2.2⟩
  ·split<;>simp
 ·simp
theorem Jg {s:RS} {m:Int} (hb:AY s.l) (h0:0≤m):0≤(s.most m).2∧(s.most m).2≤m:=by
 have:=Bk hb
 unfold RS.most
 split
 ·simp;exact h0
 ·omega
theorem BK (l:List Int):(RS.new l).rest=l:=by simp[RS.rest,RS.new]
structure WS where
 most:Int
 l:List Int
 code:Int
def WS.new (most:Int):WS:=⟨max most 0,[],0⟩
def WS.fail (s:WS) (c:Int):WS:=if s.code=0 then{s with code:=c}else s
def WS.put (s:WS) (m:List Int):WS:=if s.code=0 then(if s.most-s.l.length<m.length then{s with code:=2}else{s with l:=s.l++m})else s
theorem WS.put_ok {s:WS} {m:List Int} (h:s.code=0) (hm:s.l.length+m.length≤s.most):s.put m={s with l:=s.l++m}:=by
 unfold WS.put;rw[if_pos h,if_neg (by omega)]
theorem WS.put_bad {s:WS} {m:List Int} (h:s.code≠0):s.put m=s:=by
 unfold WS.put;rw[if_neg h]
theorem WS.new_is {n:Int} (h:0≤n):WS.new n=⟨n,[],0⟩:=by unfold WS.new;rw[show max n 0=n from by omega]
def WS.bytes (s:WS):List Int:=if s.code=0 then s.l else[]
def Aq:Nat->Int->List Int
 |0,_=>[]
 |n+1,x=>x%256::Aq n (x/256)
theorem Oh (n:Nat):∀x:Int,Aq (n+1) x=Aq n x++[x/256^n%256]:=by
 induction n with
 |zero=>intro x;simp[Aq]
 |succ n ih=>
  intro x
  have:=ih (x/256)
  rw[show Aq (n+1+1) x=x%256::Aq (n+1) (x/256)from rfl,this,show Aq (n+1) x=x%256::Aq n (x/256)from rfl]
  simp only[List.cons_append]
  congr 3
  rw[Int.ediv_ediv_of_nonneg (by omega),Int.pow_succ',]
theorem BD (n:Nat):∀x:Int,(Aq n x).length=n:=by
 induction n with
 |zero=>intro x;rfl
 |succ n ih=>intro x;simp[Aq,ih]
theorem DC (n:Nat):∀x:Int,AY (Aq n x):=by
 induction n with
 |zero=>intro x y hy;simp[Aq]at hy
 |succ n ih=>
  intro x y hy
  simp only[Aq,List.mem_cons]at hy
  rcases hy with rfl|hy
  ·omega
  ·exact ih _ y hy
def WS.ok (s:WS):Prop:=0≤s.most∧s.most<9223372036854775808∧s.l.length≤s.most
def WS.room (s:WS):Int:=s.most-s.l.length
theorem WS.ok.new {n:Int} (h:n<9223372036854775808):(WS.new n).ok:=by
 refine⟨?_,?_,?_⟩<;>simp[WS.new]<;>omega
theorem Jx (s:WS) (c:Int):(s.fail c).most=s.most∧(s.fail c).l=s.l:=by unfold WS.fail;split<;>exact⟨rfl,rfl⟩
theorem WS.ok.fail {s:WS} (h:s.ok) (c:Int):(s.fail c).ok:=by
 obtain⟨h1,h2⟩:=Jx s c
 unfold WS.ok;rw[h1,h2];exact h
theorem S5 (s:WS) (m:List Int):(s.put m).most=s.most:=by
 unfold WS.put;split
 ·split<;>rfl
 ·rfl
theorem WS.ok.put {s:WS} (h:s.ok) (m:List Int):(s.put m).ok:=by
 obtain⟨a,b,c⟩:=h
 unfold WS.put
 split
 ·split
  ·exact⟨a,b,c⟩
  ·exact⟨a,b,by simp;omega⟩
 ·exact⟨a,b,c⟩
def I1 (l:List Int):Int×Int×(Int×Int):=if(B6 0 l).1=0 then((B6 0 l).2.2,(B6 0 l).2.1,(0,0))else(0,0,((B6 0 l).1,(B6 0 l).2.1))
theorem R8 (n c:Int) (t:List Int):B6 n (c::t)=if n=9∧1<c then(5,n,0)else if 0<n∧c=0 then(4,n,0)else if c<128 then(0,n+1,c)
 else((B6 (n+1) t).1,(B6 (n+1) t).2.1,if(B6 (n+1) t).1=0 then c%128+128*(B6 (n+1) t).2.2 else 0):=rfl
def Dd (l:List Int):Nat->Int
 |0=>0
 |k+1=>Dd l k+128^k*(l.getD k 0%128)
theorem K5 (l:List Int):∀k,0≤Dd l k∧Dd l k<128^k:=by
 intro k
 induction k with
 |zero=>simp[Dd]
 |succ k ih=>
  have hp:(0:Int)<128^k:=Int.pow_pos (by omega)
  have h1:(0:Int)≤128^k*(l.getD k 0%128):=Int.mul_nonneg (by omega) (by omega)
  have h2:(128:Int)^k*(l.getD k 0%128)≤128^k*127:=Int.mul_le_mul_of_nonneg_left (by omega) (by omega)
  simp only[Dd,Int.pow_succ]
  omega
def F_ (l:List Int) (k:Nat):Prop:=B6 0 l=Kk k (Dd l k) (B6 k (l.drop k))
theorem Vb (l:List Int):F_ l 0:=by
 unfold F_
 rw[List.drop_zero]
 have e0:((0:Nat):Int)=0:=rfl
 rw[e0]
 have hf:=Kt l 0 (Int.le_refl _)
 generalize B6 0 l=q at*
 obtain⟨q1,q2,q3⟩:=q
 unfold Kk
 simp only[Dd,Int.pow_zero,Int.one_mul,Int.zero_add]at*
 by_cases h:q1=0
 ·rw[if_pos h]
 ·rw[if_neg h,(hf h).1]
theorem GR {l:List Int} {k:Nat} (h:k<l.length):l.drop k=l.getD k 0::l.drop (k+1):=by
 rw[List.drop_eq_getElem_cons h];simp[h]
theorem YP {l:List Int} {k:Nat} (hu:F_ l k) (h:k<l.length) (h9:k=9) (h1:1<l.getD k 0):I1 l=(0,0,(5,(k:Int))):=by
 unfold F_ at hu
 have hq:B6 k (l.drop k)=(5,(k:Int),0):=by rw[GR h];unfold B6;rw[if_pos ⟨by omega,h1⟩]
 rw[hq]at hu
 unfold I1
 rw[hu]
 simp[Kk]
theorem Acy {l:List Int} {k:Nat} (hu:F_ l k) (h:k<l.length) (h0:0<k) (h1:l.getD k 0=0):I1 l=(0,0,(4,(k:Int))):=by
 unfold F_ at hu
 have hq:B6 k (l.drop k)=(4,(k:Int),0):=by rw[GR h];unfold B6;rw[if_neg (by omega),if_pos ⟨by omega,h1⟩]
 rw[hq]at hu
 unfold I1
 rw[hu]
 simp[Kk]
theorem YQ {l:List Int} {k:Nat} (hu:F_ l k) (h:k<l.length) (h1:¬(k=9∧1<l.getD k 0)) (h2:¬(0<k∧l.getD k 0=0)) (h3:l.getD k 0<128) (h4:0≤l.getD k 0):
 I1 l=(Dd l (k+1),(k:Int)+1,(0,0)):=by
 unfold F_ at hu
 have hq:B6 k (l.drop k)=(0,(k:Int)+1,l.getD k 0):=by rw[GR h];unfold B6;rw[if_neg (by omega),if_neg (by omega),if_pos h3]
 rw[hq]at hu
 unfold I1
 rw[hu]
 have e:l.getD k 0%128=l.getD k 0:=by omega
 simp only[Kk,Dd,if_true,e]
theorem Acz {l:List Int} (hu:F_ l l.length):I1 l=(0,0,(1,(l.length:Int))):=by
 unfold F_ at hu
 rw[List.drop_length]at hu
 unfold I1
 rw[hu]
 simp[Kk,B6]
theorem Vc {l:List Int} {k:Nat} (hu:F_ l k) (h:k<l.length) (h1:¬(k=9∧1<l.getD k 0)) (h2:¬(0<k∧l.getD k 0=0)) (h3:¬l.getD k 0<128):F_ l (k+1):=by
 unfold F_ at*
 have hq:B6 k (l.drop k)=((B6 (k+1) (l.drop (k+1))).1,(B6 (k+1) (l.drop (k+1))).2.1,if(B6 (k+1) (l.drop (k+1))).1=0 then l.getD k 0%128+128*(B6 (k+1) (l.drop (k+1))).2.2 else 0):=by
  rw[GR h,R8,if_neg (by omega),if_neg (by omega),if_neg h3]
 rw[hq]at hu
 rw[hu]
 have ei:((k+1:Nat):Int)=(k:Int)+1:=by omega
 rw[ei]
 generalize B6 ((k:Int)+1) (l.drop (k+1))=q
 obtain⟨q1,q2,q3⟩:=q
 unfold Kk
 simp only[Dd]
 by_cases h:q1=0
 ·rw[if_pos h,if_pos h,if_pos h,Int.pow_succ,Int.mul_add,Int.mul_assoc,Int.add_assoc]
 ·rw[if_neg h,if_neg h]
theorem Anr (l:List Int) (k j:Nat) (x:Int) (h:Dd l k=128^(j+1)*x+Dd l (j+1)) (x0:0≤x) (hV:Dd l k<18446744073709551616):
 Dd l k=128^j*(128*x+l.getD j 0%128)+Dd l j∧128*x+l.getD j 0%128<18446744073709551616:=by
 have e:Dd l k=128^j*(128*x+l.getD j 0%128)+Dd l j:=by
  rw[h]
  simp only[Dd,Int.pow_succ,Int.mul_add,Int.mul_assoc]
  omega
 refine⟨e,?_⟩
 have hp:(1:Int)≤128^j:=Int.pow_pos (by omega)
 have hr:=(K5 l j).1
 have h3:0≤128*x+l.getD j 0%128:=by omega
 have:1*(128*x+l.getD j 0%128)≤128^j*(128*x+l.getD j 0%128):=Int.mul_le_mul_of_nonneg_right hp h3
 omega
theorem YO {l:List Int} {k:Nat} (h9:k≤9) (h1:¬(k=9∧1<l.getD k 0)) (h3:l.getD k 0<128) (h4:0≤l.getD k 0):Dd l (k+1)<18446744073709551616:=by
 have hr:=K5 l k
 simp only[Dd]
 have e:l.getD k 0%128=l.getD k 0:=by omega
 rw[e]
 generalize l.getD k 0=c at*
 have:k=0∨k=1∨k=2∨k=3∨k=4∨k=5∨k=6∨k=7∨k=8∨k=9:=by omega
 rcases this with rfl|rfl|rfl|rfl|rfl|rfl|rfl|rfl|rfl|rfl<;>simp at hr h1 ⊢ <;>omega
structure Av (s:RS):Prop where
 at0:0≤s.at_
 at1:s.at_≤s.l.length
 len:s.l.length≤140737488355328
 bys:AY s.l
theorem Av.ok {s:RS} (h:Av s):s.ok:=⟨h.at0,h.at1,h.len⟩
theorem RS.ok.rok {s:RS} (h:s.ok) (hb:AY s.l):Av s:=⟨h.1,h.2.1,h.2.2,hb⟩
theorem Av.new {l:List Int} (hb:AY l) (hn:l.length≤140737488355328):Av (RS.new l):=⟨by simp[RS.new],by simp[RS.new],hn,hb⟩
theorem Av.fail {s:RS} (h:Av s) (c a:Int):Av (s.fail c a):=by
 unfold RS.fail;split
 ·exact⟨h.at0,h.at1,h.len,h.bys⟩
 ·exact h
theorem Av.skip {s:RS} (h:Av s) (n:Int):Av (s.skip n).1:=(h.ok.skip n).1.rok (by rw[(h.ok.skip n).2];exact h.bys)
theorem Av.take {s:RS} (h:Av s) (n:Int):Av (s.take n).1:=(h.ok.take n).1.rok (by rw[(h.ok.take n).2];exact h.bys)
theorem IZ {s:RS} (h:Av s) (hc:s.code=0) {X N C Af:Int} (hq:I1 s.rest=(X,N,(C,Af))):
 (C=0->s.vint=(s.adv N,X)∧1≤N∧s.at_+N≤s.l.length∧0≤X∧X<18446744073709551616)∧(C=1->s.vint=({s with at_:=s.l.length,code:=1,fat:=s.l.length},0))∧
   (C≠0->C≠1->s.vint=({s with at_:=s.at_+Af+1,code:=C,fat:=s.at_+Af},0)∧0≤Af∧s.at_+Af+1≤s.l.length):=by
 have hrl:=DP s h.at0 h.at1
 have hb:AY s.rest:=h.bys.drop _
 unfold I1 at hq
 unfold RS.vint
 rw[if_pos hc]
 by_cases h0:(B6 0 s.rest).1=0
 ·have hk:=Mg hb h0
  rw[if_pos h0]at hq
  simp only[Prod.mk.injEq]at hq
  obtain⟨rfl,rfl,rfl,rfl⟩:=hq
  rw[if_pos h0]
  exact⟨λ_=>⟨rfl,by omega,by omega,by omega,by omega⟩,λh=>by omega,λh=>by omega⟩
 ·have hf:=Kt s.rest 0 (Int.le_refl _) h0
  rw[if_neg h0]at hq
  simp only[Prod.mk.injEq]at hq
  obtain⟨rfl,rfl,rfl,rfl⟩:=hq
  rw[if_neg h0]
  refine⟨λh=>by omega,λh=>by rw[if_pos h],λ_ h1=>?_⟩
  rw[if_neg h1]
  refine⟨rfl,by omega,by omega⟩
theorem Av.vint {s:RS} (h:Av s):Av s.vint.1∧s.vint.1.l=s.l:=by
 by_cases hc:s.code=0
 ·obtain⟨X,N,C,Af,hq⟩:∃X N C Af,I1 s.rest=(X,N,(C,Af)):=⟨_,_,_,_,rfl⟩
  obtain⟨p1,p2,p3⟩:=IZ h hc hq
  by_cases c0:C=0
  ·obtain⟨e,h1,h2,_⟩:=p1 c0
   rw[e]
   have:=h.at0
   exact⟨⟨by simp[RS.adv];omega,by simp[RS.adv];omega,h.len,h.bys⟩,rfl⟩
  by_cases c1:C=1
  ·rw[p2 c1];exact⟨⟨by simp,by simp,h.len,h.bys⟩,rfl⟩
  ·obtain⟨e,h1,h2⟩:=p3 c0 c1
   rw[e]
   have:=h.at0
   exact⟨⟨by simp;omega,by simp;omega,h.len,h.bys⟩,rfl⟩
 ·rw[Gm hc];exact⟨h,rfl⟩
theorem Av.most {s:RS} (h:Av s) (m:Int):Av (s.most m).1∧(s.most m).1.l=s.l:=by
 unfold RS.most
 split
 ·exact⟨h.vint.1.fail _ _,by rw[Bl];exact h.vint.2⟩
 ·exact h.vint
theorem Av.int {s:RS} (h:Av s) (m:Int):Av (s.int m).1∧(s.int m).1.l=s.l:=by
 unfold RS.int
 split
 ·exact h.most m
 ·exact⟨h.vint.1.fail _ _,by rw[Bl];exact h.vint.2⟩
theorem DO {s:RS} (h:AY s.l) (n:Int):AY (s.take n).2:=by
 unfold RS.take;split
 ·exactλx hx=>h x (List.mem_of_mem_drop (List.mem_of_mem_take hx))
 ·intro x hx;simp at hx
theorem Sm (s:RS) (n:Int):(s.take n).2.length≤s.l.length:=by
 unfold RS.take;split
 ·simp;omega
 ·simp
theorem Alm:∀(l m:List Int),AY l->AY m->(l.map λn=>UInt8.ofNat n.toNat)=(m.map λn=>UInt8.ofNat n.toNat)->l=m:=by
 intro l
 induction l with
 |nil=>intro m _ _ h;cases m with
  |nil=>rfl
  |cons=>simp at h
 |cons x l ih=>
  intro m hl hm h
  cases m with
  |nil=>simp at h
  |cons y m=>
   simp only[List.map_cons,List.cons.injEq]at h
   have hx:=hl x (List.mem_cons_self ..)
   have hy:=hm y (List.mem_cons_self ..)
   have e:=congrArg UInt8.toNat h.1
   simp only[UInt8.toNat_ofNat']at e
   rw[Nat.mod_eq_of_lt (by omega),Nat.mod_eq_of_lt (by omega)]at e
   rw[ih m (λz hz=>hl z (List.mem_cons_of_mem _ hz)) (λz hz=>hm z (List.mem_cons_of_mem _ hz)) h.2,show x=y from by omega]
def BJ (l m:List Int):Bool:=decide (l=m)
theorem O8 (l:List Int):BJ l l=true:=by simp[BJ]
theorem YJ {x:Int} (h0:0≤x) (h1:x<18446744073709551616):Cx .xor .u64 x 18446744073709551615=18446744073709551615-x:=by
 obtain⟨n,rfl⟩:=Int.eq_ofNat_of_zero_le h0
 show IntKind.u64.wrap ((BitVec.ofInt 64 (n:Int)^^^BitVec.ofInt 64 18446744073709551615).toNat:Int)=_
 have e:BitVec.ofInt 64 18446744073709551615=BitVec.allOnes 64:=by decide
 rw[e,BitVec.xor_allOnes,BitVec.toNat_not,ofInt_u64 n (by omega),IntKind.wrap_u64]
 omega
def I0 (l:List Int):List Int:=l.flatMap vb
theorem R9 (l:List Int) (x:Int):I0 (l++[x])=I0 l++vb x:=by simp[I0]
theorem P0 (l:List Int):(I0 l).length≤10*l.length:=by
 induction l with
 |nil=>simp[I0]
 |cons x l ih=>have:=(Bd x).2;simp[I0]at ih ⊢;omega
theorem Aif {l:List Int} (h:Fi l):AY (I0 l):=by
 intro y hy
 simp only[I0,List.mem_flatMap]at hy
 obtain⟨x,hx,hy⟩:=hy
 exact CD (h x hx).1 (h x hx).2 y hy
def WS.puts (s:WS) (l:List Int):WS:=l.foldl (λs x=>s.put (vb x)) s
theorem Pc (s:WS) (l:List Int) (x:Int):s.puts (l++[x])=(s.puts l).put (vb x):=by simp[WS.puts]
theorem Ei {s:RS} (h:Av s) (hc:s.vint.1.code=0):s.at_+1≤s.vint.1.at_∧s.vint.1.at_≤s.l.length:=by
 have h0:=h.vint.1.at1
 rw[h.vint.2]at h0
 refine⟨?_,h0⟩
 by_cases hc0:s.code=0
 ·obtain⟨X,N,C,Af,hq⟩:∃X N C Af,I1 s.rest=(X,N,(C,Af)):=⟨_,_,_,_,rfl⟩
  obtain⟨p1,p2,p3⟩:=IZ h hc0 hq
  by_cases c0:C=0
  ·obtain⟨e,h1,h2,_⟩:=p1 c0
   rw[e];show s.at_+1≤s.at_+N;omega
  ·by_cases c1:C=1
   ·rw[p2 c1]at hc;simp at hc
   ·obtain⟨e,_⟩:=p3 c0 c1
    rw[e]at hc;exact absurd hc c0
 ·rw[Gm hc0]at hc;exact absurd hc hc0
def RS.rnext (s:RS) (acc:List Int):RS×Int:=
 if acc.length=0 then s.vint
 else if s.vint.1.code=0∧18446744073709551616≤acc.getD (acc.length-1) 0+1+s.vint.2 then(s.vint.1.fail 13 s.at_,0)
 else(s.vint.1,acc.getD (acc.length-1) 0+1+s.vint.2)
def RS.rr (s:RS):Nat->List Int->RS×List Int
 |0,acc=>(s,acc)
 |n+1,acc=>if(s.rnext acc).1.code=0 then(s.rnext acc).1.rr n (acc++[(s.rnext acc).2])else((s.rnext acc).1,[])
theorem Aje {s:RS} {acc:List Int} {N:Nat} (h:acc.length<N) (hc:(s.rnext acc).1.code=0):s.rr (N-acc.length) acc=(s.rnext acc).1.rr (N-(acc++[(s.rnext acc).2]).length) (acc++[(s.rnext acc).2]):=by
 obtain⟨m,hm⟩:∃m,N-acc.length=m+1:=⟨N-acc.length-1,by omega⟩
 rw[hm,RS.rr,if_pos hc]
 congr 1
 simp;omega
theorem VB {s:RS} {acc:List Int} (h:acc.length=0):s.rnext acc=s.vint:=by unfold RS.rnext;rw[if_pos h]
theorem VC {s:RS} {acc:List Int} (h:0<acc.length) (ho:18446744073709551616≤acc.getD (acc.length-1) 0+1+s.vint.2):
 (s.rnext acc).1=s.vint.1.fail 13 s.at_∧¬(s.rnext acc).1.code=0:=by
 unfold RS.rnext
 rw[if_neg (by omega)]
 by_cases hc:s.vint.1.code=0
 ·rw[if_pos ⟨hc,ho⟩]
  refine⟨rfl,?_⟩
  unfold RS.fail;rw[if_pos hc];simp[BW]
 ·rw[if_neg (by intro h;exact hc h.1)]
  refine⟨?_,hc⟩
  unfold RS.fail;rw[if_neg hc]
theorem VD {s:RS} {acc:List Int} (h:0<acc.length) (ho:¬18446744073709551616≤acc.getD (acc.length-1) 0+1+s.vint.2):
 s.rnext acc=(s.vint.1,acc.getD (acc.length-1) 0+1+s.vint.2):=by
 unfold RS.rnext
 rw[if_neg (by omega),if_neg (by intro h;exact ho h.2)]
def ROn (s:RS) (N:Nat) (a:RS×List Int):Prop:=
 Av a.1∧a.1.l=s.l∧(a.2.length:Int)≤a.1.at_∧a.2.length≤N∧Fi a.2∧a.1.rr (N-a.2.length) a.2=s.rr N []
theorem ROn.start {s:RS} (h:Av s) (N:Nat):ROn s N (s,[]):=⟨h,rfl,by simpa using h.at0,by simp,by intro x hx;simp at hx,rfl⟩
theorem Fi.snoc {l:List Int} {x:Int} (h:Fi l) (h0:0≤x) (h1:x<18446744073709551616):Fi (l++[x]):=by
 intro y hy
 rcases List.mem_append.1 hy with hy|hy
 ·exact h y hy
 ·simp at hy;subst hy;exact⟨h0,h1⟩
theorem ROn.next {s t:RS} {N:Nat} {acc:List Int} (h:ROn s N (t,acc)) (hN:acc.length<N) (hc:(t.rnext acc).1.code=0):ROn s N ((t.rnext acc).1,acc++[(t.rnext acc).2]):=by
 obtain⟨h1,h2,h3,h4,h5,h6⟩:=h
 simp only at h1 h2 h3 h4 h5 h6
 have hx:=Bk (s:=t) h1.bys
 have key:(t.rnext acc).1=t.vint.1∧0≤(t.rnext acc).2∧(t.rnext acc).2<18446744073709551616:=by
  rcases Nat.eq_zero_or_pos acc.length with hz|hz
  ·rw[VB hz];exact⟨rfl,hx.1,hx.2⟩
  ·by_cases ho:18446744073709551616≤acc.getD (acc.length-1) 0+1+t.vint.2
   ·exact absurd hc (VC hz ho).2
   ·rw[VD hz ho]
    have hp:=h5 _ (CG acc (acc.length-1) (by omega))
    exact⟨rfl,by simp only;omega,by simp only;omega⟩
 have hadv:=Ei h1 (key.1▸hc)
 refine⟨?_,?_,?_,?_,h5.snoc key.2.1 key.2.2,?_⟩
 ·rw[key.1];exact h1.vint.1
 ·rw[key.1,h1.vint.2];exact h2
 ·rw[key.1];simp;omega
 ·simp;omega
 ·rw[←h6];exact(Aje hN hc).symm
theorem ROn.len {s t:RS} {N:Nat} {acc:List Int} (h:ROn s N (t,acc)):acc.length≤s.l.length:=by
 obtain⟨h1,h2,h3,_⟩:=h
 have:=h1.at1
 simp only at h2 h3 this
 rw[h2]at this
 omega
theorem MR {s:WS} (h:s.code=0) (l:List Int) (hm:(s.l.length:Int)+(I0 l).length≤s.most):s.puts l={s with l:=s.l++I0 l}:=by
 induction l generalizing s with
 |nil=>simp[WS.puts,I0]
 |cons x l ih=>
  have e:I0 (x::l)=vb x++I0 l:=by simp[I0]
  rw[e,List.length_append]at hm
  show(s.put (vb x)).puts l=_
  rw[WS.put_ok h (by omega),ih (s:={s with l:=s.l++vb x}) h (by simp only[List.length_append];omega),e]
  simp
theorem CJ {s:RS} (h:Av s) (hc:s.vint.1.code=0):s.l.take s.vint.1.at_.toNat=s.l.take s.at_.toNat++vb s.vint.2∧s.vint.1.l=s.l∧s.code=0:=by
 have hc0:s.code=0:=by
  by_cases hc0:s.code=0
  ·exact hc0
  ·rw[Gm hc0]at hc;exact absurd hc hc0
 refine⟨?_,h.vint.2,hc0⟩
 have h0:(B6 0 s.rest).1=0:=by
  by_cases h0:(B6 0 s.rest).1=0
  ·exact h0
  ·unfold RS.vint at hc
   rw[if_pos hc0,if_neg h0]at hc
   split at hc
   ·simp at hc
   ·exact absurd hc h0
 have hb:AY s.rest:=h.bys.drop _
 obtain⟨k1,k2,k3,k4,k5⟩:=Mg hb h0
 have e:s.vint=(s.adv (B6 0 s.rest).2.1,(B6 0 s.rest).2.2):=by unfold RS.vint;rw[if_pos hc0,if_pos h0]
 rw[e]
 show s.l.take (s.at_+(B6 0 s.rest).2.1).toNat=_++vb (B6 0 s.rest).2.2
 rw[k1]
 have ha:=h.at0
 rw[show(s.at_+(B6 0 s.rest).2.1).toNat=s.at_.toNat+(B6 0 s.rest).2.1.toNat from by omega]
 unfold RS.rest
 rw[List.take_add]
theorem Di {s:RS} {x:Int} {r:List Int} (hc:s.code=0) (h0:0≤x) (h1:x<18446744073709551616) (hr:s.rest=vb x++r):s.vint=(s.adv ((vb x).length:Int),x):=by
 unfold RS.vint
 rw[if_pos hc,hr,Amv r h0 h1]
 simp
theorem A5 {s:RS} (h0:0≤s.at_) (n:Nat):(s.adv (n:Int)).rest=s.rest.drop n:=by
 unfold RS.rest RS.adv
 simp only[List.drop_drop]
 congr 1
 omega
theorem BH (s:RS) (a b:Int):(s.adv a).adv b=s.adv (a+b):=by simp[RS.adv,Int.add_assoc]
theorem Amx (l:List Int):l.length≤(I0 l).length:=by
 induction l with
 |nil=>simp
 |cons x l ih=>have:=(Bd x).1;simp[I0]at ih ⊢;omega
structure Ef (β:Type) where
 f:RS->List β->RS×β
 enc:List β->β->List Int
 nx:List β->β->Prop
def Wf {β:Type} (nx:List β->β->Prop):List β->List β->Prop
 |_,[]=>True
 |acc,x::r=>nx acc x∧Wf nx (acc++[x]) r
def BR {β:Type} (enc:List β->β->List Int):List β->List β->List Int
 |_,[]=>[]
 |acc,x::r=>enc acc x++BR enc (acc++[x]) r
theorem Dx {β:Type} {nx:List β->β->Prop}:∀{r acc:List β} {x:β},Wf nx acc (r++[x])↔Wf nx acc r∧nx (acc++r) x:=by
 intro r
 induction r with
 |nil=>intro acc x;simp[Wf]
 |cons y r ih=>intro acc x;simp only[List.cons_append,Wf,ih,List.append_assoc,List.nil_append,and_assoc]
theorem GQ {β:Type} {enc:List β->β->List Int}:∀{r acc:List β} {x:β},BR enc acc (r++[x])=BR enc acc r++enc (acc++r) x:=by
 intro r
 induction r with
 |nil=>intro acc x;simp[BR]
 |cons y r ih=>intro acc x;simp only[List.cons_append,BR,ih,List.append_assoc,List.nil_append]
theorem Il {β:Type} {nx:List β->β->Prop}:∀{r acc:List β} (k:Nat),Wf nx acc r->Wf nx acc (r.take k):=by
 intro r
 induction r with
 |nil=>intro acc k h;simp[Wf]
 |cons y r ih=>
  intro acc k h
  cases k with
  |zero=>simp[Wf]
  |succ k=>exact⟨h.1,ih k h.2⟩
theorem EA {β:Type} {nx:List β->β->Prop}:∀{r acc:List β} (k:Nat) (h:k<r.length),Wf nx acc r->nx (acc++r.take k) r[k]:=by
 intro r
 induction r with
 |nil=>intro acc k h;simp at h
 |cons y r ih=>
  intro acc k h hw
  cases k with
  |zero=>simpa using hw.1
  |succ k=>
   have:=ih (acc:=acc++[y]) k (by simpa using h) hw.2
   simpa using this
theorem Amg {β:Type} {nx:List β->β->Prop}:∀{r acc:List β},(∀(k:Nat) (h:k<r.length),nx (acc++r.take k) r[k])->Wf nx acc r:=by
 intro r
 induction r with
 |nil=>intro acc h;trivial
 |cons y r ih=>
  intro acc h
  have h0:=h 0 (by simp)
  simp only[List.take_zero,List.append_nil,List.getElem_cons_zero]at h0
  refine⟨h0,ih λk hk=>?_⟩
  have:=h (k+1) (by simpa using hk)
  simpa using this
structure Ef.Ok {β:Type} (F:Ef β):Prop where
 keep:∀s acc,Av s->Wf F.nx [] acc->Av (F.f s acc).1∧(F.f s acc).1.l=s.l
 read:∀s acc,Av s->Wf F.nx [] acc->(F.f s acc).1.code=0->s.code=0∧F.nx acc (F.f s acc).2∧s.at_<(F.f s acc).1.at_∧s.l.take (F.f s acc).1.at_.toNat=s.l.take s.at_.toNat++F.enc acc (F.f s acc).2
 own:∀s acc x r,Av s->s.code=0->Wf F.nx [] acc->F.nx acc x->s.rest=F.enc acc x++r->F.f s acc=(s.adv ((F.enc acc x).length:Int),x)
 byt:∀acc x,Wf F.nx [] acc->F.nx acc x->AY (F.enc acc x)
section
variable {β:Type} {F:Ef β}
theorem Um (hF:F.Ok):∀{r acc:List β},Wf F.nx [] acc->Wf F.nx acc r->AY (BR F.enc acc r):=by
 intro r
 induction r with
 |nil=>intro acc _ _ y hy;simp[BR]at hy
 |cons y r ih=>
  intro acc ha h z hz
  rcases List.mem_append.1 hz with hz|hz
  ·exact hF.byt _ _ ha h.1 z hz
  ·exact ih (Dx.2 ⟨ha,by simpa using h.1⟩) h.2 z hz
def Ef.many (F:Ef β):Nat->RS->List β->RS×List β
 |0,s,acc=>(s,acc)
 |n+1,s,acc=>if(F.f s acc).1.code=0 then F.many n (F.f s acc).1 (acc++[(F.f s acc).2])else((F.f s acc).1,[])
theorem Z7 {s:RS} {acc:List β} {N:Nat} (h:acc.length<N) (hc:(F.f s acc).1.code=0):F.many (N-acc.length) s acc=F.many (N-(acc++[(F.f s acc).2]).length) (F.f s acc).1 (acc++[(F.f s acc).2]):=by
 obtain⟨m,hm⟩:∃m,N-acc.length=m+1:=⟨N-acc.length-1,by omega⟩
 rw[hm,Ef.many,if_pos hc]
 congr 1
 simp;omega
theorem FL {s:RS} {acc:List β} {N:Nat} (h:acc.length<N) (hc:¬(F.f s acc).1.code=0):F.many (N-acc.length) s acc=((F.f s acc).1,[]):=by
 obtain⟨m,hm⟩:∃m,N-acc.length=m+1:=⟨N-acc.length-1,by omega⟩
 rw[hm,Ef.many,if_neg hc]
theorem M3 {s:RS} {acc:List β} {N:Nat} (h:N≤acc.length):F.many (N-acc.length) s acc=(s,acc):=by
 rw[show N-acc.length=0 from by omega];rfl
structure Ef.On (F:Ef β) (s:RS) (N:Nat) (a:RS×List β):Prop where
 ok:Av a.1
 l:a.1.l=s.l
 adv:(a.2.length:Int)≤a.1.at_
 le:a.2.length≤N
 wf:Wf F.nx [] a.2
 res:F.many (N-a.2.length) a.1 a.2=F.many N s []
theorem Ef.On.start {s:RS} (h:Av s) (N:Nat):F.On s N (s,[]):=⟨h,rfl,by simpa using h.at0,by simp,trivial,rfl⟩
theorem Ef.On.next {s t:RS} {N:Nat} {acc:List β} (hF:F.Ok) (h:F.On s N (t,acc)) (hN:acc.length<N) (hc:(F.f t acc).1.code=0):F.On s N ((F.f t acc).1,acc++[(F.f t acc).2]):=by
 obtain⟨h1,h2,h3,h4,h5,h6⟩:=h
 simp only at h1 h2 h3 h4 h5 h6
 obtain⟨k1,k2⟩:=hF.keep t acc h1 h5
 obtain⟨r1,r2,r3,r4⟩:=hF.read t acc h1 h5 hc
 refine⟨k1,k2.trans h2,?_,?_,Dx.2 ⟨h5,by simpa using r2⟩,?_⟩
 ·simp;omega
 ·simp;omega
 ·rw[←h6];exact(Z7 hN hc).symm
theorem Ef.On.len {s t:RS} {N:Nat} {acc:List β} (h:F.On s N (t,acc)):acc.length≤s.l.length:=by
 have h1:=h.ok.at1
 have h2:=h.l
 have h3:=h.adv
 simp only at h1 h2 h3
 rw[h2]at h1
 omega
theorem Pj (hF:F.Ok):∀(N:Nat) (s:RS) (acc:List β),Av s->Wf F.nx [] acc->Av (F.many N s acc).1∧(F.many N s acc).1.l=s.l:=by
 intro N
 induction N with
 |zero=>intro s acc h _;exact⟨h,rfl⟩
 |succ N ih=>
  intro s acc h hw
  obtain⟨k1,k2⟩:=hF.keep s acc h hw
  simp only[Ef.many]
  split
  ·rename_i hc
   obtain⟨r1,r2,r3,r4⟩:=hF.read s acc h hw hc
   obtain⟨q1,q2⟩:=ih _ (acc++[(F.f s acc).2]) k1 (Dx.2 ⟨hw,by simpa using r2⟩)
   exact⟨q1,q2.trans k2⟩
  ·exact⟨k1,k2⟩
theorem Qw (hF:F.Ok):∀(N:Nat) (s:RS) (acc:List β),Av s->Wf F.nx [] acc->(F.many N s acc).1.code=0->
 ∃r,(F.many N s acc).2=acc++r∧r.length=N∧Wf F.nx [] (acc++r)∧s.l.take (F.many N s acc).1.at_.toNat=s.l.take s.at_.toNat++BR F.enc acc r∧s.code=0∧s.at_≤(F.many N s acc).1.at_:=by
 intro N
 induction N with
 |zero=>intro s acc h hw hc;exact⟨[],by simp[Ef.many],rfl,by simpa using hw,by simp[Ef.many,BR],hc,Int.le_refl _⟩
 |succ N ih=>
  intro s acc h hw hc
  obtain⟨k1,k2⟩:=hF.keep s acc h hw
  simp only[Ef.many]at hc ⊢
  by_cases hn:(F.f s acc).1.code=0
  ·rw[if_pos hn]at hc ⊢
   obtain⟨r1,r2,r3,r4⟩:=hF.read s acc h hw hn
   obtain⟨r,q1,q2,q3,q4,q5,q6⟩:=ih (F.f s acc).1 (acc++[(F.f s acc).2]) k1 (Dx.2 ⟨hw,by simpa using r2⟩) hc
   refine⟨(F.f s acc).2::r,by rw[q1];simp,by simp[q2],by simpa using q3,?_,r1,by omega⟩
   rw[k2]at q4
   rw[q4,r4,BR,List.append_assoc]
  ·rw[if_neg hn]at hc;exact absurd hc hn
theorem Ha:∀(N:Nat) (s:RS) (acc:List β),(s.code=0∨acc=[])->¬(F.many N s acc).1.code=0->(F.many N s acc).2=[]:=by
 intro N
 induction N with
 |zero=>intro s acc h hc;rcases h with h|h;exact absurd h hc;exact h
 |succ N ih=>
  intro s acc h hc
  simp only[Ef.many]at hc ⊢
  by_cases hn:(F.f s acc).1.code=0
  ·rw[if_pos hn]at hc ⊢;exact ih _ _ (.inl hn) hc
  ·rw[if_neg hn]
theorem Bv {s:RS} (h:Av s) {a r:List Int} (hr:s.rest=a++r):Av (s.adv (a.length:Int)):=by
 have:=DP s h.at0 h.at1
 rw[hr,List.length_append]at this
 have h0:=h.at0
 exact⟨by show 0≤s.at_+(a.length:Int);omega,by show s.at_+(a.length:Int)≤s.l.length;omega,h.len,h.bys⟩
theorem Tj (hF:F.Ok) {m:List Int}:∀(l acc:List β) (s:RS),Av s->s.code=0->Wf F.nx [] acc->Wf F.nx acc l->s.rest=BR F.enc acc l++m->F.many l.length s acc=(s.adv ((BR F.enc acc l).length:Int),acc++l):=by
 intro l
 induction l with
 |nil=>intro acc s _ _ _ _ _;simp[Ef.many,BR,RS.adv]
 |cons x l ih=>
  intro acc s hs hc hw hl hr
  simp only[BR,List.append_assoc]at hr
  have h1:=hF.own s acc x _ hs hc hw hl.1 hr
  have hs2:=Bv hs hr
  simp only[List.length_cons,Ef.many]
  rw[h1]
  have hc2:(s.adv ((F.enc acc x).length:Int)).code=0:=hc
  rw[if_pos hc2,ih (acc++[x]) _ hs2 hc2 (Dx.2 ⟨hw,by simpa using hl.1⟩) hl.2 (by rw[A5 hs.at0,hr,List.drop_left]),BH,BR,List.length_append]
  simp
theorem Ae9 (hF:F.Ok) (N:Nat) (s:RS) (h:Av s):(F.many N s []).2.length≤s.l.length:=by
 by_cases hc:(F.many N s []).1.code=0
 ·have gen:∀(N:Nat) (s:RS) (acc:List β),Av s->Wf F.nx [] acc->(acc.length:Int)≤s.at_->(F.many N s acc).1.code=0->(F.many N s acc).2.length≤s.l.length:=by
   intro N
   induction N with
   |zero=>intro s acc h _ ha _;have:=h.at1;simp only[Ef.many];omega
   |succ N ih=>
    intro s acc h hw ha hc
    obtain⟨k1,k2⟩:=hF.keep s acc h hw
    simp only[Ef.many]at hc ⊢
    by_cases hn:(F.f s acc).1.code=0
    ·rw[if_pos hn]at hc ⊢
     obtain⟨r1,r2,r3,r4⟩:=hF.read s acc h hw hn
     have:=ih _ (acc++[(F.f s acc).2]) k1 (Dx.2 ⟨hw,by simpa using r2⟩) (by simp;omega) hc
     rw[k2]at this;exact this
    ·rw[if_neg hn]at hc;exact absurd hc hn
  exact gen N s [] h trivial (by simpa using h.at0) hc
 ·rw[Ha N s [] (.inr rfl) hc];simp
end
def Ef.counted {β:Type} (F:Ef β) (m:Int) (s:RS):RS×List β:=F.many (s.int m).2.toNat (s.int m).1 []
theorem Z3 {s:RS} {m:Int} (h:(s.most m).1.code=0):s.vint.1.code=0∧s.vint.2≤m∧s.most m=s.vint:=by
 unfold RS.most at h ⊢
 by_cases hm:m<s.vint.2
 ·rw[if_pos hm]at h
  unfold RS.fail at h
  split at h
  ·simp[BW]at h
  ·contradiction
 ·rw[if_neg hm]at h ⊢;exact⟨h,by omega,rfl⟩
theorem TH {s:RS} {m:Int} (h:(s.int m).1.code=0):0≤m∧s.vint.1.code=0∧s.vint.2≤m∧s.int m=s.vint:=by
 unfold RS.int at h ⊢
 by_cases hm:0≤m
 ·rw[if_pos hm]at h ⊢;obtain⟨a,b,c⟩:=Z3 h;exact⟨hm,a,b,c⟩
 ·rw[if_neg hm]at h
  unfold RS.fail at h
  split at h
  ·simp[BW]at h
  ·contradiction
theorem D_ {s:RS} {m:Int} (hb:AY s.l):0≤(s.int m).2∧(s.int m).2≤max m 0:=by
 unfold RS.int
 split
 ·have:=Jg (m:=m) hb (by assumption);omega
 ·simp;omega
theorem YK {s:RS} (h:s.vint.1.code≠0):s.vint.2=0:=by
 unfold RS.vint at h ⊢
 split
 ·rename_i hc
  rw[if_pos hc]at h
  split
  ·rename_i h0;rw[if_pos h0]at h;exact absurd hc h
  ·split<;>rfl
 ·rfl
section
variable {β:Type} {F:Ef β}
theorem DF (hF:F.Ok) {s:RS} (h:Av s) (m:Int):Av (F.counted m s).1∧(F.counted m s).1.l=s.l:=by
 obtain⟨a,b⟩:=h.int m
 obtain⟨c,d⟩:=Pj hF (s.int m).2.toNat (s.int m).1 [] a trivial
 exact⟨c,d.trans b⟩
theorem Uy (m:Int) {s:RS} (hc:¬(F.counted m s).1.code=0):(F.counted m s).2=[]:=Ha _ _ _ (.inr rfl) hc
theorem Ux (hF:F.Ok) {s:RS} (h:Av s) (m:Int):(F.counted m s).2.length≤s.l.length:=by
 have:=Ae9 hF (s.int m).2.toNat (s.int m).1 (h.int m).1
 rw[(h.int m).2]at this
 exact this
theorem Hr (hF:F.Ok) {s:RS} (h:Av s) {m:Int} (hc:(F.counted m s).1.code=0):Wf F.nx [] (F.counted m s).2∧((F.counted m s).2.length:Int)≤m∧s.code=0∧
 s.l.take (F.counted m s).1.at_.toNat=s.l.take s.at_.toNat++vb (F.counted m s).2.length++BR F.enc [] (F.counted m s).2∧s.at_<(F.counted m s).1.at_:=by
 obtain⟨r,q1,q2,q3,q4,q5,q6⟩:=Qw hF (s.int m).2.toNat (s.int m).1 [] (h.int m).1 trivial hc
 obtain⟨i1,i2,i3,i4⟩:=TH q5
 have hv:=Bk (s:=s) h.bys
 unfold Ef.counted
 rw[q1]
 obtain⟨v1,v2,v3⟩:=CJ h i2
 have ha:=Ei h i2
 refine⟨q3,?_,v3,?_,?_⟩
 ·simp only[List.nil_append];rw[q2,i4];omega
 ·rw[(h.int m).2]at q4
  rw[q4]
  congr 1
  rw[i4,v1]
  congr 2
  simp only[List.nil_append]
  rw[q2,i4];omega
 ·rw[i4]at q6 ⊢;omega
theorem H9 (hF:F.Ok) {s:RS} (h:Av s) (hc:s.code=0) {l:List β} {m:Int} {r:List Int} (hm:(l.length:Int)≤m) (hl:Wf F.nx [] l) (hn:l.length<18446744073709551616) (hr:s.rest=vb l.length++(BR F.enc [] l++r)):
 F.counted m s=(s.adv (((vb l.length).length:Int)+(BR F.enc [] l).length),l):=by
 have hv:=Di hc (by omega:(0:Int)≤(l.length:Int)) (by omega) hr
 have hi:s.int m=(s.adv ((vb (l.length:Int)).length:Int),(l.length:Int)):=by
  unfold RS.int RS.most
  rw[if_pos (by omega),hv,if_neg (by simp only;omega)]
 have hs2:=Bv h hr
 unfold Ef.counted
 rw[hi]
 simp only[Int.toNat_natCast]
 rw[Tj hF l [] _ hs2 hc trivial hl (m:=r) (by rw[A5 h.at0,hr,List.drop_left]),BH]
 rfl
end
theorem DE {s:RS} (h:Av s) {m:Int} (hc:(s.int m).1.code=0):s.code=0∧0≤(s.int m).2∧(s.int m).2≤m∧s.at_<(s.int m).1.at_∧s.l.take (s.int m).1.at_.toNat=s.l.take s.at_.toNat++vb (s.int m).2:=by
 obtain⟨i1,i2,i3,i4⟩:=TH hc
 have hv:=Bk (s:=s) h.bys
 obtain⟨v1,v2,v3⟩:=CJ h i2
 have ha:=Ei h i2
 rw[i4]
 exact⟨v3,hv.1,i3,by omega,v1⟩
theorem Er {s:RS} {x m:Int} {r:List Int} (hc:s.code=0) (h0:0≤x) (h1:x≤m) (h2:x<18446744073709551616) (hr:s.rest=vb x++r):s.int m=(s.adv ((vb x).length:Int),x):=by
 have hv:=Di hc h0 h2 hr
 unfold RS.int RS.most
 rw[if_pos (by omega),hv,if_neg (by simp only;omega)]
theorem QN {s:RS} (h:Av s) {m:Int} (hc:(s.int m).1.code=0):s.at_+1≤(s.int m).1.at_:=by
 obtain⟨_,_,_,h4,_⟩:=DE h hc
 omega
def RS.blob (s:RS) (m:Int):RS×List Int:=(s.int m).1.take (s.int m).2
def Dv (b:List Int):List Int:=vb b.length++b
theorem RS.ok.blob {s:RS} (h:Av s) (m:Int):Av (s.blob m).1∧(s.blob m).1.l=s.l:=by
 obtain⟨a,b⟩:=h.int m
 exact⟨a.take _,((a.ok.take _).2).trans b⟩
theorem Kz {s:RS} {n:Int} (h:(s.take n).1.code=0):s.code=0∧0≤n∧n≤s.left∧s.take n=(s.adv n,(s.l.drop s.at_.toNat).take n.toNat):=by
 have hy:(s.skip n).2=true:=by
  cases hs:(s.skip n).2 with
  |true=>rfl
  |false=>
   exfalso
   unfold RS.take at h
   rw[hs]at h
   simp only[Bool.false_eq_true,if_false]at h
   unfold RS.skip at h hs
   by_cases hc:s.code=0
   ·rw[if_pos hc]at h hs
    by_cases h2:n<0
    ·rw[if_pos h2]at h;simp[RS.fail,hc,BW]at h
    ·rw[if_neg h2]at h hs
     by_cases h3:s.left<n
     ·rw[if_pos h3]at h;simp[RS.fail,hc,BW]at h
     ·rw[if_neg h3]at hs;simp at hs
   ·rw[if_neg hc]at h;exact hc h
 obtain⟨h1,h2,h3,h4⟩:=Gq hy
 refine⟨h1,h2,h3,?_⟩
 unfold RS.take
 rw[if_pos hy,h4]
 rfl
theorem C3 {s:RS} (h:Av s) (hc:s.code=0) {b r:List Int} (hr:s.rest=b++r):s.take (b.length:Int)=(s.adv (b.length:Int),b):=by
 have hl:=DP s h.at0 h.at1
 rw[hr,List.length_append]at hl
 have hs:s.skip (b.length:Int)=(s.adv (b.length:Int),true):=by
  unfold RS.skip RS.left
  rw[if_pos hc,if_neg (by omega),if_neg (by omega)]
  rfl
 unfold RS.take
 rw[hs]
 simp only[if_true]
 unfold RS.rest at hr
 rw[hr]
 simp
theorem JL {s:RS} {n:Int} (h:(s.take n).1.code≠0):(s.take n).2=[]:=by
 unfold RS.take at h ⊢
 split
 ·rename_i hy
  rw[if_pos hy]at h
  obtain⟨h1,_,_,h4⟩:=Gq hy
  rw[h4]at h
  exact absurd h1 h
 ·rfl
theorem KA {s:RS} {n:Int} (h:s.code≠0):s.take n=(s,[]):=by
 have:s.skip n=(s,false):=by unfold RS.skip;rw[if_neg h]
 unfold RS.take;rw[this];simp
theorem Bn {s:RS} (h:Av s) {n:Int} (hc:(s.take n).1.code=0):s.code=0∧0≤n∧((s.take n).2.length:Int)=n∧(s.take n).1.at_=s.at_+n∧s.l.take (s.take n).1.at_.toNat=s.l.take s.at_.toNat++(s.take n).2:=by
 obtain⟨h1,h2,h3,h4⟩:=Kz hc
 have h0:=h.at0
 unfold RS.left at h3
 rw[h4]
 refine⟨h1,h2,?_,rfl,?_⟩
 ·simp;omega
 ·show s.l.take (s.at_+n).toNat=_
  rw[show(s.at_+n).toNat=s.at_.toNat+n.toNat from by omega,List.take_add]
theorem Alp {s:RS} (h:Av s) {m:Int} (hc:(s.blob m).1.code=0):s.code=0∧((s.blob m).2.length:Int)≤m∧s.at_<(s.blob m).1.at_∧s.l.take (s.blob m).1.at_.toNat=s.l.take s.at_.toNat++Dv (s.blob m).2:=by
 unfold RS.blob at hc ⊢
 obtain⟨a,b⟩:=h.int m
 obtain⟨h1,h2,h3,h4,h5⟩:=Bn a hc
 obtain⟨i1,i2,i3,i4,i5⟩:=DE h h1
 refine⟨i1,by omega,by omega,?_⟩
 rw[b]at h5
 rw[h5,i5,List.append_assoc]
 unfold Dv
 rw[h3]
theorem UI {s:RS} (h:Av s) (hc:s.code=0) {b r:List Int} {m:Int} (hm:(b.length:Int)≤m) (hn:b.length<18446744073709551616) (hr:s.rest=Dv b++r):s.blob m=(s.adv ((Dv b).length:Int),b):=by
 unfold Dv at hr
 rw[List.append_assoc]at hr
 have hi:=Er hc (by omega) hm (by omega) hr
 have hs2:=Bv h hr
 unfold RS.blob
 rw[hi]
 simp only
 rw[C3 hs2 hc (r:=r) (by rw[A5 h.at0,hr,List.drop_left]),BH]
 unfold Dv
 rw[List.length_append]
 simp
theorem JB {s:RS} (h:Av s) (m:Int):(s.blob m).2.length≤s.l.length∧AY (s.blob m).2:=by
 obtain⟨a,b⟩:=h.int m
 unfold RS.blob
 refine⟨?_,DO a.bys _⟩
 have:=Sm (s.int m).1 (s.int m).2
 rw[b]at this;exact this
def Bw:List Int->Int
 |[]=>0
 |c::l=>c+256*Bw l
theorem E4:∀{l:List Int},AY l->0≤Bw l∧Bw l<256^l.length:=by
 intro l
 induction l with
 |nil=>intro _;simp[Bw]
 |cons c l ih=>
  intro h
  have hc:=h c (List.mem_cons_self ..)
  have:=ih λx hx=>h x (List.mem_cons_of_mem _ hx)
  simp only[Bw,List.length_cons,Int.pow_succ]
  omega
theorem WW (l:List Int) (c:Int):Bw (l++[c])=Bw l+256^l.length*c:=by
 induction l with
 |nil=>simp[Bw]
 |cons x l ih=>
  simp only[List.cons_append,Bw,ih,List.length_cons,Int.pow_succ,Int.mul_add]
  rw[Int.mul_comm (256^l.length) 256,Int.mul_assoc,Int.add_assoc]
theorem Iy (n:Nat):∀x:Int,0≤x->x<256^n->Bw (Aq n x)=x:=by
 induction n with
 |zero=>intro x h0 h1;simp[Aq,Bw]at*;omega
 |succ n ih=>
  intro x h0 h1
  rw[Int.pow_succ]at h1
  simp only[Aq,Bw]
  rw[ih (x/256) (by omega) (by omega)]
  omega
theorem It:∀{l:List Int},AY l->Aq l.length (Bw l)=l:=by
 intro l
 induction l with
 |nil=>intro _;rfl
 |cons c l ih=>
  intro h
  have hc:=h c (List.mem_cons_self ..)
  have:=ih λx hx=>h x (List.mem_cons_of_mem _ hx)
  simp only[List.length_cons,Aq,Bw]
  have e1:(c+256*Bw l)%256=c:=by omega
  have e2:(c+256*Bw l)/256=Bw l:=by omega
  rw[e1,e2,this]
structure WS.fine (s:WS):Prop where
 m0:0≤s.most
 m1:s.most≤140737488355328
 le:s.l.length≤s.most
theorem WS.fine.ok {s:WS} (h:s.fine):s.ok:=⟨h.m0,by have:=h.m1;omega,h.le⟩
theorem WS.fine.new {n:Int} (h:n≤140737488355328):(WS.new n).fine:=⟨by simp[WS.new];omega,by simp[WS.new];omega,by simp[WS.new];omega⟩
theorem WS.fine.put {s:WS} (h:s.fine) (m:List Int):(s.put m).fine:=⟨by rw[S5];exact h.m0,by rw[S5];exact h.m1,(h.ok.put m).2.2⟩
theorem WS.fine.fail {s:WS} (h:s.fine) (c:Int):(s.fail c).fine:=by
 obtain⟨a,b⟩:=Jx s c
 exact⟨by rw[a];exact h.m0,by rw[a];exact h.m1,by rw[a,b];exact h.le⟩
theorem WS.fine.puts {s:WS} (h:s.fine) (l:List Int):(s.puts l).fine:=by
 induction l generalizing s with
 |nil=>exact h
 |cons x l ih=>exact ih (s:=s.put (vb x)) (h.put _)
theorem WS.fine.room {s:WS} (h:s.fine) (k:Nat):(s.l.length:Int)+k≤s.most->s.l.length+k≤140737488355328:=λhk=>by have:=h.m1;omega
theorem WS.fine.len {s:WS} (h:s.fine):s.l.length≤140737488355328:=by have:=h.m1;have:=h.le;omega
theorem S4 (s:WS) (l m:List Int):s.puts (l++m)=(s.puts l).puts m:=by simp[WS.puts]
def RS.fixed (s:RS) (n:Int):RS×Int:=((s.take n).1,Bw (s.take n).2)
structure Tk where
 lit:List Int
 off:Int
 len:Int
deriving DecidableEq
def K7:Tk:=⟨[],0,0⟩
def Tk.run (t:Tk):Bool:=decide (t.off=0∧t.len=0∧1≤t.lit.length∧t.lit.length≤1048576)
def Tk.copy (t:Tk):Bool:=decide (t.lit.length=0∧1≤t.off∧t.off≤65536∧4≤t.len∧t.len≤1048576)
def Tk.right (t:Tk):Bool:=t.run||t.copy
def Tk.made (t:Tk):Int:=if t.run=true then t.lit.length else if t.copy=true then t.len else 0
structure Tk.ok (t:Tk):Prop where
 lit:AY t.lit
 off0: -9223372036854775808≤t.off
 off1:t.off<9223372036854775808
 len0: -9223372036854775808≤t.len
 len1:t.len<9223372036854775808
theorem De {t:Tk}:t.run=true↔t.off=0∧t.len=0∧1≤t.lit.length∧t.lit.length≤1048576:=by simp[Tk.run]
theorem Cw {t:Tk}:t.copy=true↔t.lit=[]∧1≤t.off∧t.off≤65536∧4≤t.len∧t.len≤1048576:=by simp[Tk.copy]
theorem Dy {t:Tk}:t.right=true↔t.run=true∨t.copy=true:=by simp[Tk.right]
theorem CF {t:Tk} (h:t.run=true):t.copy=false:=by
 cases hc:t.copy with
 |false=>rfl
 |true=>have h1:=De.1 h;have h2:=Cw.1 hc;omega
def EW (t:Tk):List Int:=if t.run=true then vb (2*t.lit.length-2)++t.lit else vb (2*t.len-7)++vb (t.off-1)
def RS.thead (s:RS):RS×Bool×Int:=
 if s.vint.1.code=0 then
  (if s.vint.2%2=1 then(if 1048572<s.vint.2/2 then(s.vint.1.fail 2 s.at_,false,0)else(s.vint.1,true,s.vint.2/2+4))
  else(if 1048575<s.vint.2/2 then(s.vint.1.fail 2 s.at_,false,0)else(s.vint.1,false,s.vint.2/2+1)))
 else(s.vint.1,false,0)
def RS.toff (s:RS):RS×Int:=
 if s.vint.1.code=0 then(if 65536≤s.vint.2 then(s.vint.1.fail 10 s.at_,0)else(s.vint.1,s.vint.2+1))else(s.vint.1,0)
def RS.token (s:RS):RS×Tk:=
 if s.thead.1.code=0 then
  (if s.thead.2.1=true then(if s.thead.1.toff.1.code=0 then(s.thead.1.toff.1,⟨[],s.thead.1.toff.2,s.thead.2.2⟩)else(s.thead.1.toff.1,K7))
  else(if(s.thead.1.take s.thead.2.2).1.code=0 then((s.thead.1.take s.thead.2.2).1,⟨(s.thead.1.take s.thead.2.2).2,0,0⟩)else((s.thead.1.take s.thead.2.2).1,K7)))
 else(s.thead.1,K7)
theorem EC {s:RS} (h:Av s):Av s.thead.1∧s.thead.1.l=s.l:=by
 obtain⟨a,b⟩:=h.vint
 unfold RS.thead
 repeat' split
 all_goals first|exact⟨a,b⟩|exact⟨a.fail _ _,by rw[Bl];exact b⟩
theorem O2 {s:RS} (h:Av s):Av s.toff.1∧s.toff.1.l=s.l:=by
 obtain⟨a,b⟩:=h.vint
 unfold RS.toff
 repeat' split
 all_goals first|exact⟨a,b⟩|exact⟨a.fail _ _,by rw[Bl];exact b⟩
theorem Ml {s:RS} (h:Av s):Av s.token.1∧s.token.1.l=s.l:=by
 obtain⟨a,b⟩:=EC h
 obtain⟨c,d⟩:=O2 a
 have e:=a.take s.thead.2.2
 have f:=(a.ok.take s.thead.2.2).2
 unfold RS.token
 repeat' split
 all_goals first|exact⟨a,b⟩|exact⟨c,d.trans b⟩|exact⟨e,f.trans b⟩
theorem IA {s:RS} {c a:Int} (h:s.code=0) (hc:c≠0):¬(s.fail c a).code=0:=by
 unfold RS.fail;rw[if_pos h];simp[BW,hc]
theorem JK {s:RS} (h:Av s) (hc:s.thead.1.code=0):s.vint.1.code=0∧s.thead.1=s.vint.1∧
 ((s.thead.2.1=true∧s.vint.2=2*s.thead.2.2-7∧4≤s.thead.2.2∧s.thead.2.2≤1048576)∨(s.thead.2.1=false∧s.vint.2=2*s.thead.2.2-2∧1≤s.thead.2.2∧s.thead.2.2≤1048576)):=by
 have hv:=Bk (s:=s) h.bys
 unfold RS.thead at hc ⊢
 by_cases h0:s.vint.1.code=0
 ·rw[if_pos h0]at hc ⊢
  by_cases h1:s.vint.2%2=1
  ·rw[if_pos h1]at hc ⊢
   by_cases h2:1048572<s.vint.2/2
   ·rw[if_pos h2]at hc;exact absurd hc (IA h0 (by decide))
   ·rw[if_neg h2];exact⟨h0,rfl,.inl ⟨rfl,by simp only;omega,by simp only;omega,by simp only;omega⟩⟩
  ·rw[if_neg h1]at hc ⊢
   by_cases h2:1048575<s.vint.2/2
   ·rw[if_pos h2]at hc;exact absurd hc (IA h0 (by decide))
   ·rw[if_neg h2];exact⟨h0,rfl,.inr ⟨rfl,by simp only;omega,by simp only;omega,by simp only;omega⟩⟩
 ·rw[if_neg h0]at hc;exact absurd hc h0
theorem Gn {s:RS} (hc:¬s.thead.1.code=0):s.thead.2=(false,0):=by
 unfold RS.thead at hc ⊢
 by_cases h0:s.vint.1.code=0
 ·rw[if_pos h0]at hc ⊢
  by_cases h1:s.vint.2%2=1
  ·rw[if_pos h1]at hc ⊢
   by_cases h2:1048572<s.vint.2/2
   ·rw[if_pos h2]
   ·rw[if_neg h2]at hc;exact absurd h0 hc
  ·rw[if_neg h1]at hc ⊢
   by_cases h2:1048575<s.vint.2/2
   ·rw[if_pos h2]
   ·rw[if_neg h2]at hc;exact absurd h0 hc
 ·rw[if_neg h0]
theorem P9 {s:RS} (hc:s.toff.1.code=0):s.vint.1.code=0∧s.toff.1=s.vint.1∧s.toff.2=s.vint.2+1∧s.vint.2<65536:=by
 unfold RS.toff at hc ⊢
 by_cases h0:s.vint.1.code=0
 ·rw[if_pos h0]at hc ⊢
  by_cases h2:65536≤s.vint.2
  ·rw[if_pos h2]at hc;exact absurd hc (IA h0 (by decide))
  ·rw[if_neg h2];exact⟨h0,rfl,rfl,by omega⟩
 ·rw[if_neg h0]at hc;exact absurd hc h0
theorem Ac7 {s:RS} (hc:¬s.toff.1.code=0):s.toff.2=0:=by
 unfold RS.toff at hc ⊢
 by_cases h0:s.vint.1.code=0
 ·rw[if_pos h0]at hc ⊢
  by_cases h2:65536≤s.vint.2
  ·rw[if_pos h2]
  ·rw[if_neg h2]at hc;exact absurd h0 hc
 ·rw[if_neg h0]
theorem HM {s:RS} (h:Av s) (hc:s.token.1.code=0):s.code=0∧s.token.2.right=true∧AY s.token.2.lit∧s.at_<s.token.1.at_∧s.l.take s.token.1.at_.toNat=s.l.take s.at_.toNat++EW s.token.2:=by
 unfold RS.token at hc ⊢
 by_cases h0:s.thead.1.code=0
 ·obtain⟨a,b⟩:=EC h
  obtain⟨k1,k2,k3⟩:=JK h h0
  obtain⟨v1,v2,v3⟩:=CJ h k1
  have ha:=Ei h k1
  rw[if_pos h0]at hc ⊢
  rcases k3 with⟨c1,c2,c3,c4⟩|⟨c1,c2,c3,c4⟩
  ·rw[if_pos c1]at hc ⊢
   by_cases h3:s.thead.1.toff.1.code=0
   ·rw[if_pos h3]at hc ⊢
    obtain⟨t1,t2,t3,t4⟩:=P9 h3
    obtain⟨w1,w2,w3⟩:=CJ a t1
    have hb:=Ei a t1
    have hr:=Bk (s:=s.thead.1) a.bys
    have hcp:(Tk.mk [] s.thead.1.toff.2 s.thead.2.2).copy=true:=Cw.2 ⟨rfl,by simp only;omega,by simp only;omega,c3,c4⟩
    have hrn:(Tk.mk [] s.thead.1.toff.2 s.thead.2.2).run=false:=by
     cases q:(Tk.mk [] s.thead.1.toff.2 s.thead.2.2).run with
     |false=>rfl
     |true=>rw[CF q]at hcp;cases hcp
    refine⟨v3,Dy.2 (.inr hcp),(λx hx=>by simp at hx),by simp only;rw[t2,k2]at*;omega,?_⟩
    simp only[EW,hrn,Bool.false_eq_true,if_false]
    rw[t2,←b,w1,b,t3,show s.thead.1.vint.2+1-1=s.thead.1.vint.2 from by omega,k2,v1,←c2,List.append_assoc]
   ·rw[if_neg h3]at hc;exact absurd hc h3
  ·rw[c1]at hc ⊢
   simp only[Bool.false_eq_true,if_false]at hc ⊢
   by_cases h3:(s.thead.1.take s.thead.2.2).1.code=0
   ·rw[if_pos h3]at hc ⊢
    obtain⟨t1,t2,t3,t4,t5⟩:=Bn a h3
    have hrn:(Tk.mk (s.thead.1.take s.thead.2.2).2 0 0).run=true:=De.2 ⟨rfl,rfl,by simp only;omega,by simp only;omega⟩
    refine⟨v3,Dy.2 (.inl hrn),DO a.bys _,by simp only;rw[t4,k2];omega,?_⟩
    simp only[EW,hrn,if_true]
    rw[←b,t5,b,t3,k2,v1,←c2,List.append_assoc]
   ·rw[if_neg h3]at hc;exact absurd hc h3
 ·rw[if_neg h0]at hc;exact absurd hc h0
theorem Y1 {s:RS} {t:Tk} {r:List Int} (h:Av s) (hc:s.code=0) (ht:t.right=true) (hr:s.rest=EW t++r):s.token=(s.adv ((EW t).length:Int),t):=by
 obtain⟨lit,off,len⟩:=t
 rcases Dy.1 ht with h1|h1
 ·obtain⟨a1,a2,a3,a4⟩:=De.1 h1
  simp only at a1 a2 a3 a4
  subst a1 a2
  have eB:EW ⟨lit,0,0⟩=vb (2*lit.length-2)++lit:=by simp[EW,h1]
  rw[eB,List.append_assoc]at hr
  have v:=Di hc (by omega) (by omega) hr
  have b:=Bv h hr
  have hh:s.thead=(s.adv ((vb (2*(lit.length:Int)-2)).length:Int),false,(lit.length:Int)):=by
   unfold RS.thead
   rw[v]
   simp only
   rw[if_pos (show(s.adv ((vb (2*(lit.length:Int)-2)).length:Int)).code=0 from hc),if_neg (by omega),if_neg (by omega)]
   simp only[Prod.mk.injEq,true_and]
   omega
  have tk:=C3 b (show(s.adv ((vb (2*(lit.length:Int)-2)).length:Int)).code=0 from hc) (b:=lit) (r:=r) (by rw[A5 h.at0,hr,List.drop_left])
  unfold RS.token
  rw[hh]
  simp only
  rw[tk]
  simp only[Bool.false_eq_true,if_false]
  have c2:((s.adv ((vb (2*(lit.length:Int)-2)).length:Int)).adv (lit.length:Int)).code=0:=hc
  have c3:(s.adv ((vb (2*(lit.length:Int)-2)).length:Int)).code=0:=hc
  rw[if_pos c3,if_pos c2,eB,BH,List.length_append]
  rfl
 ·obtain⟨a1,a2,a3,a4,a5⟩:=Cw.1 h1
  simp only at a1 a2 a3 a4 a5
  subst a1
  have hrn:(Tk.mk [] off len).run=false:=by
   cases q:(Tk.mk [] off len).run with
   |false=>rfl
   |true=>rw[CF q]at h1;cases h1
  have eB:EW ⟨[],off,len⟩=vb (2*len-7)++vb (off-1):=by simp[EW,hrn]
  rw[eB,List.append_assoc]at hr
  have v:=Di hc (by omega) (by omega) hr
  have b:=Bv h hr
  have c3:(s.adv ((vb (2*len-7)).length:Int)).code=0:=hc
  have hh:s.thead=(s.adv ((vb (2*len-7)).length:Int),true,len):=by
   unfold RS.thead
   rw[v]
   simp only
   rw[if_pos c3,if_pos (by omega),if_neg (by omega)]
   simp only[Prod.mk.injEq,true_and]
   omega
  have v2:=Di (x:=off-1) (r:=r) c3 (by omega) (by omega) (by rw[A5 h.at0,hr,List.drop_left])
  have c4:((s.adv ((vb (2*len-7)).length:Int)).adv ((vb (off-1)).length:Int)).code=0:=hc
  have ho:(s.adv ((vb (2*len-7)).length:Int)).toff=((s.adv ((vb (2*len-7)).length:Int)).adv ((vb (off-1)).length:Int),off):=by
   unfold RS.toff
   rw[v2]
   simp only
   rw[if_pos c4,if_neg (by omega)]
   simp only[Prod.mk.injEq,true_and]
   omega
  unfold RS.token
  rw[hh]
  simp only
  rw[ho]
  simp only[if_true]
  rw[if_pos c3,if_pos c4,eB,BH,List.length_append]
  rfl
section
variable {β:Type} {F:Ef β}
def Ef.all (F:Ef β):Nat->RS->List β->RS×List β
 |0,s,acc=>(s,acc)
 |n+1,s,acc=>if s.code=0∧0<s.left then(if(F.f s acc).1.code=0 then F.all n (F.f s acc).1 (acc++[(F.f s acc).2])else((F.f s acc).1,[]))else(s,acc)
theorem Yc {s:RS} (h:Av s):0≤s.left:=by have:=h.at1;unfold RS.left;omega
theorem NT {n:Nat} {s:RS} {acc:List β} (h:¬(s.code=0∧0<s.left)):F.all n s acc=(s,acc):=by
 cases n with
 |zero=>rfl
 |succ n=>rw[Ef.all,if_neg h]
theorem Ahs (hF:F.Ok):∀(n m:Nat) (s:RS) (acc:List β),Av s->Wf F.nx [] acc->s.left≤n->s.left≤m->F.all n s acc=F.all m s acc:=by
 intro n
 induction n with
 |zero=>intro m s acc h _ h1 h2;rw[NT (n:=m) (by omega)];rfl
 |succ n ih=>
  intro m s acc h hw h1 h2
  by_cases hc:s.code=0∧0<s.left
  ·obtain⟨k,rfl⟩:∃k,m=k+1:=⟨m-1,by omega⟩
   rw[Ef.all,Ef.all,if_pos hc,if_pos hc]
   by_cases hn:(F.f s acc).1.code=0
   ·rw[if_pos hn,if_pos hn]
    obtain⟨k1,k2⟩:=hF.keep s acc h hw
    obtain⟨r1,r2,r3,r4⟩:=hF.read s acc h hw hn
    have hl:(F.f s acc).1.left<s.left:=by unfold RS.left;rw[k2];omega
    exact ih k _ _ k1 (Dx.2 ⟨hw,by simpa using r2⟩) (by omega) (by omega)
   ·rw[if_neg hn,if_neg hn]
  ·rw[NT hc,NT hc]
def Ef.rest (F:Ef β) (s:RS) (acc:List β):RS×List β:=F.all s.left.toNat s acc
theorem Zy (hF:F.Ok) {s:RS} {acc:List β} (h:Av s) (hw:Wf F.nx [] acc) (hc:s.code=0) (hl:0<s.left) (hn:(F.f s acc).1.code=0):F.rest s acc=F.rest (F.f s acc).1 (acc++[(F.f s acc).2]):=by
 obtain⟨k1,k2⟩:=hF.keep s acc h hw
 obtain⟨r1,r2,r3,r4⟩:=hF.read s acc h hw hn
 have hl2:(F.f s acc).1.left<s.left:=by unfold RS.left;rw[k2];omega
 have hge:=Yc k1
 unfold Ef.rest
 obtain⟨k,hk⟩:∃k,s.left.toNat=k+1:=⟨s.left.toNat-1,by omega⟩
 rw[hk,Ef.all,if_pos ⟨hc,hl⟩,if_pos hn]
 exact Ahs hF _ _ _ _ k1 (Dx.2 ⟨hw,by simpa using r2⟩) (by omega) (by omega)
structure Ef.Al (F:Ef β) (s:RS) (a:RS×List β):Prop where
 ok:Av a.1
 l:a.1.l=s.l
 adv:(a.2.length:Int)≤a.1.at_
 code:a.1.code=0
 wf:Wf F.nx [] a.2
 res:F.rest a.1 a.2=F.rest s []
 byt:s.l.take a.1.at_.toNat=s.l.take s.at_.toNat++BR F.enc [] a.2
theorem Ef.Al.start {s:RS} (h:Av s) (hc:s.code=0):F.Al s (s,[]):=⟨h,rfl,by simpa using h.at0,hc,trivial,rfl,by simp[BR]⟩
theorem Ef.Al.next {s t:RS} {acc:List β} (hF:F.Ok) (h:F.Al s (t,acc)) (hl:0<t.left) (hc:(F.f t acc).1.code=0):F.Al s ((F.f t acc).1,acc++[(F.f t acc).2])∧(F.f t acc).1.left<t.left:=by
 obtain⟨h1,h2,h3,h4,h5,h6,h7⟩:=h
 simp only at h1 h2 h3 h4 h5 h6 h7
 obtain⟨k1,k2⟩:=hF.keep t acc h1 h5
 obtain⟨r1,r2,r3,r4⟩:=hF.read t acc h1 h5 hc
 refine⟨⟨k1,k2.trans h2,by simp;omega,hc,Dx.2 ⟨h5,by simpa using r2⟩,?_,?_⟩,by unfold RS.left;rw[k2];omega⟩
 ·rw[←h6];exact(Zy hF h1 h5 h4 hl hc).symm
 ·rw[h2]at r4
  rw[r4,h7,GQ]
  simp
theorem Ef.Al.len {s t:RS} {acc:List β} (h:F.Al s (t,acc)):acc.length≤s.l.length:=by
 have h1:=h.ok.at1
 have h2:=h.l
 have h3:=h.adv
 simp only at h1 h2 h3
 rw[h2]at h1
 omega
end
theorem Ac5 (t:Tk):0<(EW t).length:=by
 unfold EW
 split
 ·have:=(Bd (2*(t.lit.length:Int)-2)).1;simp;omega
 ·have:=(Bd (2*t.len-7)).1;simp;omega
theorem Ac6 {t:Tk} (h:t.right=true) (hb:AY t.lit):AY (EW t):=by
 intro y hy
 unfold EW at hy
 split at hy
 ·rename_i hr
  have:=De.1 hr
  rcases List.mem_append.1 hy with hy|hy
  ·exact CD (by omega) (by omega) y hy
  ·exact hb y hy
 ·rename_i hr
  rcases Dy.1 h with h|h
  ·exact absurd h hr
  ·have:=Cw.1 h
   rcases List.mem_append.1 hy with hy|hy
   ·exact CD (by omega) (by omega) y hy
   ·exact CD (by omega) (by omega) y hy
def EV (l:List Tk):List Int:=l.flatMap EW
def Cy (out:List Int) (off:Nat):Nat->List Int
 |0=>out
 |n+1=>Cy (out++[out.getD (out.length-off) 0]) off n
theorem K2 (off:Nat):∀(n:Nat) (out:List Int),(Cy out off n).length=out.length+n:=by
 intro n
 induction n with
 |zero=>intro out;rfl
 |succ n ih=>intro out;simp only[Cy,ih,List.length_append,List.length_singleton];omega
theorem Ach (off:Nat):∀(n:Nat) (out:List Int),AY out->AY (Cy out off n):=by
 intro n
 induction n with
 |zero=>intro out h;exact h
 |succ n ih=>
  intro out h
  refine ih _ λy hy=>?_
  rcases List.mem_append.1 hy with hy|hy
  ·exact h y hy
  ·simp only[List.mem_singleton]at hy
   subst hy
   rcases Nat.lt_or_ge (out.length-off) out.length with h1|h1
   ·exact h _ (CG _ _ h1)
   ·simp[List.getElem?_eq_none h1]
theorem JD (off:Nat):∀(n:Nat) (out:List Int),Cy out off (n+1)=Cy out off n++[(Cy out off n).getD ((Cy out off n).length-off) 0]:=by
 intro n
 induction n with
 |zero=>intro out;rfl
 |succ n ih=>intro out;rw[Cy,ih,←Cy]
def GM (out:List Int) (t:Tk):List Int:=Cy (out++t.lit) t.off.toNat t.len.toNat
theorem Nu (out:List Int) {t:Tk} (h:t.right=true):((GM out t).length:Int)=out.length+t.made:=by
 unfold GM
 rw[K2,List.length_append]
 unfold Tk.made
 rcases Dy.1 h with h|h
 ·rw[if_pos h];have:=De.1 h;omega
 ·have hn:t.run=false:=by
   cases q:t.run with
   |false=>rfl
   |true=>rw[CF q]at h;cases h
  have:=Cw.1 h
  rw[hn,if_neg (by simp),if_pos h,this.1]
  simp
  omega
theorem Tl {t:Tk} (h:t.right=true):1≤t.made∧t.made≤1048576:=by
 unfold Tk.made
 rcases Dy.1 h with h|h
 ·rw[if_pos h];have:=De.1 h;omega
 ·have hn:t.run=false:=by
   cases q:t.run with
   |false=>rfl
   |true=>rw[CF q]at h;cases h
  have:=Cw.1 h
  rw[hn,if_neg (by simp),if_pos h];omega
theorem Z8 {t:Tk} (h:t.right=false):t.made=0:=by
 have h1:t.run=false∧t.copy=false:=by simpa[Tk.right]using h
 unfold Tk.made;rw[h1.1,h1.2];simp
theorem Aj4 {t:Tk}:0≤t.made:=by
 cases h:t.right with
 |false=>rw[Z8 h];simp
 |true=>have:=Tl h;omega
def Gc (t:Tk) (made bound:Int):Int:=if t.right=false then 3 else if bound<made+t.made then 11 else if made<t.off then 10 else 0
def C1 (bound:Int):List Tk->Nat->List Int->List Int×(Int×Int)
 |[],_,out=>(out,(0,0))
 |t::l,i,out=>if Gc t out.length bound=0 then C1 bound l (i+1) (GM out t)else([],(Gc t out.length bound,(i:Int)))
theorem K4 {t:Tk} {made bound:Int} (h:Gc t made bound=0):t.right=true∧made+t.made≤bound∧t.off≤made:=by
 unfold Gc at h
 split at h
 ·simp at h
 ·rename_i h1
  split at h
  ·simp at h
  ·split at h
   ·simp at h
   ·exact⟨by simpa using h1,by omega,by omega⟩
end Go.Proofs.YtileggkdbaejoaaGreat
