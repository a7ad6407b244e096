/-
  The operations that this program's text has, told over abstract values and an abstract store; what each means. Over any program.
-/
import Derived.Test.YtgphhganepjaiaaAb3
namespace Go.Proofs.Ytgphhganepjaiaa

def AV.ofC1 : Value → AV
  | .slice none 0 0 => .sl .full 1 []
  | v => .lit v
def AV.ofC : Value → AV
  | .agg cs => if cs.all (·.oneCell') then .agg (cs.toList.map AV.ofC1) else .any
  | v => AV.ofC1 v
theorem rep_ofC1 (G : Gh) (v : Value) : Rep G (AV.ofC1 v) v := by
  unfold AV.ofC1
  split
  · have := Rep.sl (G := G) (t := .full) (k := 1) (xs := []) (A := none) (c := 0) (b := 0) (o := 0) (fun _ _ => undef) (by simp) (by simp) (by simp) (by simp) (by simp) (by simp) rfl
    simpa using this
  · exact .lit v
theorem rep_ofC (G : Gh) (v : Value) : Rep G (AV.ofC v) v := by
  unfold AV.ofC
  split
  · rename_i cs
    split
    · rename_i h
      refine .agg (by simp) (fun j v hv => ?_) (fun j x v hx hv => ?_)
      · rw [Array.all_eq_true] at h
        obtain ⟨hj, rfl⟩ := Array.getElem?_eq_some_iff.1 hv
        exact h j hj
      · obtain ⟨y, hy, rfl⟩ := map_get hx
        have : y = v := by simpa [hv] using hy.symm
        subst this; exact rep_ofC1 G y
    · exact .any _
  · exact rep_ofC1 G _

def ev (tm : List AV) : Operand → AV
  | .tmp t => tm.getD t .any
  | .const v => AV.ofC v
  | .global _ => .any
  | .func f => .fn f [] []

/-- The cells of a value that may be stored. -/
def AV.parts : AV → Option (List AV)
  | .agg xs => some xs
  | .any => none
  | .tup _ => none
  | x => if x.one then some [x] else none
theorem Rep.parts {G : Gh} {x : AV} {v : Value} (r : Rep G x v) {cs : List AV} (h : x.parts = some cs) : cs = x.cells ∧ RepL G cs v.cells.toList ∧ ∀ u ∈ v.cells.toList, u.oneCell' = true := by
  have one : ∀ {x : AV} {v : Value}, Rep G x v → x.one = true → v.oneCell' = true → RepL G [x] [v] ∧ ∀ u ∈ [v], u.oneCell' = true :=
    fun r _ hv => ⟨RepL.cons r (RepL.nil G), fun u hu => by simp at hu; subst hu; exact hv⟩
  cases r with
  | any => simp [AV.parts] at h
  | tup => simp [AV.parts] at h
  | agg h0 h2 h3 =>
    simp [AV.parts] at h
    subst h
    refine ⟨rfl, ⟨by simpa [Value.cells] using h0, fun j x v hx hv => h3 j x v hx (by simpa [Value.cells] using hv)⟩, fun u hu => ?_⟩
    obtain ⟨j, hj, rfl⟩ := List.getElem_of_mem hu
    refine h2 j _ (by simp [Value.cells])
  | lit v =>
    simp only [AV.parts] at h
    split at h
    · rename_i ho
      injection h with h; subst h
      have hv : v.oneCell' = true := ho
      cases v <;> first | (exact ⟨rfl, one (.lit _) ho hv⟩) | (simp [Value.oneCell'] at hv)
    · cases h
  | ref hl => simp [AV.parts, AV.one] at h; subst h; exact ⟨rfl, one (.ref hl) rfl rfl⟩
  | iptr vs h1 h2 h3 => simp [AV.parts, AV.one] at h; subst h; exact ⟨rfl, one (.iptr vs h1 h2 h3) rfl rfl⟩
  | sl vs hc hA hk h1 h2 h3 ht => simp [AV.parts, AV.one] at h; subst h; exact ⟨rfl, one (.sl vs hc hA hk h1 h2 h3 ht) rfl rfl⟩
  | fn hf hc h1 h2 => simp [AV.parts, AV.one] at h; subst h; exact ⟨rfl, one (.fn hf hc h1 h2) rfl rfl⟩

def splice : List AV → Nat → List AV → List AV
  | xs, _, [] => xs
  | xs, o, c :: cs => splice (xs.set o c) (o + 1) cs
def fillA : List AV → List (Nat × Nat × AV) → Option (List AV)
  | cells, [] => some cells
  | cells, (off, size, x) :: rest => match x.parts with
    | some cs => if cs.length = size ∧ off + size ≤ cells.length then fillA (splice cells off cs) rest else none
    | none => none

/-- An operation, its types looked up. -/
inductive I where
  | mov (x : Operand)
  | pick (c a b : Operand)
  | new (zs : List Value)
  | box (x : Operand)
  | build (zs : List Value) (parts : List (Nat × Nat × Operand))
  | bsl (k : Nat) (xs : List Operand)
  | load (n : Option Nat) (a : Operand)
  | store (n : Nat) (a x : Operand)
  | nilc (x : Operand)
  | bin (op : BinOp) (x y : Operand)
  | eqb (neg : Bool) (x y : Operand)
  | eqa (neg : Bool) (n : Nat) (x y : Operand)
  | eqp (neg : Bool) (x y : Operand)
  | un (op : UnOp) (x : Operand)
  | cvt (k : IntKind) (x : Operand)
  | b2s (x : Operand)
  | s2b (x : Operand)
  | slice (k : Nat) (x : Operand) (lo hi mx : Option Operand)
  | sstr (x : Operand) (lo hi : Option Operand)
  | fadr (off : Nat) (x : Operand)
  | fld (off : Nat) (n : Option Nat) (x : Operand)
  | iadr (k : Nat) (x ix : Operand)
  | aadr (len k : Nat) (x ix : Operand)
  | idx (len k : Nat) (n : Option Nat) (x ix : Operand)
  | sidx (x ix : Operand)
  | ext (x : Operand) (i : Nat)
  | mkf (f : FuncId) (first caps : List Operand)
  | call (f : Operand) (args : List Operand)
  | app (k bytes : Nat) (s x : Operand)
  | len (str : Bool) (x : Operand)
  | lenc (n : Nat)
  | mx (isMax : Bool) (x y : Operand)
  | mksl (k bytes : Nat) (l c : Operand)

abbrev KT := AV → List Nat → List (Nat × AObj) → List AObj → Prop
def newU (n : Nat) : List AObj → List (Nat × AObj)
  | [] => []
  | o :: os => (n, o) :: newU (n + 1) os

def bitsI (op : BinOp) (k : IntKind) (a b : Int) : Int :=
  match op with
  | .and => k.wrap (BitVec.ofInt k.bits a &&& BitVec.ofInt k.bits b).toNat
  | .or => k.wrap (BitVec.ofInt k.bits a ||| BitVec.ofInt k.bits b).toNat
  | .xor => k.wrap (BitVec.ofInt k.bits a ^^^ BitVec.ofInt k.bits b).toNat
  | _ => k.wrap (BitVec.ofInt k.bits a &&& ~~~BitVec.ofInt k.bits b).toNat
def kInt (op : BinOp) (k : IntKind) (a : Int) (k' : IntKind) (b : Int) (K : KT) : Prop :=
  match op with
  | .add => k = k' ∧ K (.lit (.int k (k.wrap (a + b)))) [] [] []
  | .sub => k = k' ∧ K (.lit (.int k (k.wrap (a - b)))) [] [] []
  | .mul => k = k' ∧ K (.lit (.int k (k.wrap (a * b)))) [] [] []
  | .quo => k = k' ∧ b ≠ 0 ∧ K (.lit (.int k (k.wrap (a.tdiv b)))) [] [] []
  | .rem => k = k' ∧ b ≠ 0 ∧ K (.lit (.int k (a.tmod b))) [] [] []
  | .and => k = k' ∧ K (.lit (.int k (bitsI .and k a b))) [] [] []
  | .or => k = k' ∧ K (.lit (.int k (bitsI .or k a b))) [] [] []
  | .xor => k = k' ∧ K (.lit (.int k (bitsI .xor k a b))) [] [] []
  | .andNot => k = k' ∧ K (.lit (.int k (bitsI .andNot k a b))) [] [] []
  | .shl => 0 ≤ b ∧ K (.lit (.int k (k.wrap (a * 2 ^ min b.toNat k.bits)))) [] [] []
  | .shr => 0 ≤ b ∧ K (.lit (.int k (a.fdiv (2 ^ min b.toNat k.bits)))) [] [] []
  | .eql => k = k' ∧ K (.lit (.bool (a == b))) [] [] []
  | .neq => k = k' ∧ K (.lit (.bool (a != b))) [] [] []
  | .lss => k = k' ∧ K (.lit (.bool (decide (a < b)))) [] [] []
  | .leq => k = k' ∧ K (.lit (.bool (decide (a ≤ b)))) [] [] []
  | .gtr => k = k' ∧ K (.lit (.bool (decide (b < a)))) [] [] []
  | .geq => k = k' ∧ K (.lit (.bool (decide (b ≤ a)))) [] [] []
def kStr (op : BinOp) (a b : ByteArray) (K : KT) : Prop :=
  match op with
  | .eql => K (.lit (.bool (a.toList == b.toList))) [] [] []
  | .neq => K (.lit (.bool (!(a.toList == b.toList)))) [] [] []
  | _ => False
def kBin (op : BinOp) (x y : AV) (K : KT) : Prop :=
  match x, y with
  | .lit (.int k a), .lit (.int k' b) => kInt op k a k' b K
  | .lit (.string a), .lit (.string b) => kStr op a b K
  | _, _ => False
def kPick (c x y : AV) (K : KT) : Prop :=
  match c with
  | .lit (.bool t) => K (bif t then x else y) [] [] []
  | _ => False
def kBox (x : AV) (n : Nat) (K : KT) : Prop :=
  match x.parts with
  | some cs => K (.ref n 0) [] [] [.cells cs]
  | none => False
def kBuild (cells : List AV) (parts : List (Nat × Nat × AV)) (K : KT) : Prop :=
  match fillA cells parts with
  | some cs => K (.agg cs) [] [] []
  | none => False
def okEl (k : Nat) (x : AV) : Bool := match x.parts with
  | some cs => cs.length == k
  | none => false
def kBsl (k : Nat) (xs : List AV) (K : KT) : Prop := xs.all (okEl k) = true ∧ K (.sl .full k xs) [] [] []
def kLoad (n : Option Nat) (a : AV) (S : List AObj) (K : KT) : Prop :=
  match a with
  | .iptr cs => match n with
    | none => match cs with
      | x :: _ => K x [] [] []
      | [] => False
    | some n => n ≤ cs.length ∧ K (.agg (cs.take n)) [] [] []
  | .ref i o => match S[i]? with
    | some (.cells xs) => match n with
      | none => match xs[o]? with
        | some x => K x [i] [] []
        | none => False
      | some n => o + n ≤ xs.length ∧ K (.agg ((xs.drop o).take n)) [i] [] []
    | _ => False
  | _ => False
def kStore (n : Nat) (a x : AV) (S : List AObj) (K : KT) : Prop :=
  match a with
  | .ref i o => match S[i]? with
    | some (.cells xs) => match x.parts with
      | some cs => cs.length = n ∧ o + n ≤ xs.length ∧ K .any [i] [(i, .cells (splice xs o cs))] []
      | none => False
    | _ => False
  | _ => False
def kNil (x : AV) (K : KT) : Prop :=
  match x with
  | .ref i o => K (.ref i o) [] [] []
  | .iptr cs => K (.iptr cs) [] [] []
  | _ => False
def kEqb (neg : Bool) (x y : AV) (K : KT) : Prop :=
  match x, y with
  | .lit (.bool a), .lit (.bool b) => K (.lit (.bool (if neg then !(a == b) else a == b))) [] [] []
  | _, _ => False
def cellsEq : List AV → List AV → Bool
  | .lit (.int _ a) :: xs, .lit (.int _ b) :: ys => (a == b) && cellsEq xs ys
  | _, _ => true
def eqOk : List AV → List AV → Bool
  | [], [] => true
  | .lit (.int k _) :: xs, .lit (.int k' _) :: ys => k == k' && eqOk xs ys
  | _, _ => false
def kEqa (neg : Bool) (n : Nat) (x y : AV) (K : KT) : Prop :=
  match x, y with
  | .agg xs, .agg ys => xs.length = n ∧ eqOk xs ys = true ∧ K (.lit (.bool (if neg then !(cellsEq xs ys) else cellsEq xs ys))) [] [] []
  | _, _ => False
def kEqp (neg : Bool) (x y : AV) (K : KT) : Prop :=
  match x, y with
  | .ref _ _, .lit (.pointer none) => K (.lit (.bool neg)) [] [] []
  | .lit (.pointer none), .lit (.pointer none) => K (.lit (.bool !neg)) [] [] []
  | _, _ => False
def kUn (op : UnOp) (x : AV) (K : KT) : Prop :=
  match op, x with
  | .neg, .lit (.int k n) => K (.lit (.int k (k.wrap (0 - n)))) [] [] []
  | .xor, .lit (.int k n) => K (.lit (.int k (bitsI .xor k (if k.signed then -1 else k.max) n))) [] [] []
  | .not, .lit (.bool b) => K (.lit (.bool !b)) [] [] []
  | _, _ => False
def kCvt (k : IntKind) (x : AV) (K : KT) : Prop :=
  match x with
  | .lit (.int _ n) => K (.lit (.int k (k.wrap n))) [] [] []
  | _ => False
def AV.isU8 : AV → Bool
  | .lit (.int .u8 _) => true
  | _ => false
def AV.byte : AV → UInt8
  | .lit (.int _ n) => UInt8.ofNat n.toNat
  | _ => 0
def bytesOf (xs : List AV) : ByteArray := ⟨(xs.map AV.byte).toArray⟩
def kB2s (x : AV) (K : KT) : Prop :=
  match x with
  | .sl _ k xs => (k = 1 ∨ xs = []) ∧ xs.all (·.isU8) = true ∧ K (.lit (.string (bytesOf xs))) [] [] []
  | _ => False
def kS2b (x : AV) (K : KT) : Prop :=
  match x with
  | .lit (.string s) => s.size ≤ 140737488355328 ∧ K (.sl .none 1 (s.data.toList.map fun b => .lit (.int .u8 b.toNat))) [] [] []
  | _ => False
def AV.i : AV → Option Int
  | .lit (.int _ n) => some n
  | _ => none
/-- A bound of a slice expression: where none is given, d. -/
def bnd (x : Option AV) (d : Int) : Option Int :=
  match x with
  | none => some d
  | some x => x.i
def sTag (t : Tag) (lo hi mx : Option AV) : Tag :=
  match lo, hi, mx with
  | none, none, none => t
  | some _, none, none => match t with
    | .full => .full
    | _ => .none
  | _, _, _ => .none
def kSlice (k : Nat) (x : AV) (lo hi mx : Option AV) (K : KT) : Prop :=
  match x with
  | .sl t ks xs => match bnd lo 0, bnd hi xs.length with
    | some l, some h => (ks = k ∨ xs = []) ∧ 0 ≤ l ∧ l ≤ h ∧ h ≤ xs.length ∧ match mx with
      | none => K (.sl (sTag t lo hi none) ks ((xs.drop l.toNat).take (h - l).toNat)) [] [] []
      | some m => (hi.isSome = true ∧ m.i = some h) ∧ K (.sl .full ks ((xs.drop l.toNat).take (h - l).toNat)) [] [] []
    | _, _ => False
  | _ => False
def kSstr (x : AV) (lo hi : Option AV) (K : KT) : Prop :=
  match x with
  | .lit (.string s) => match bnd lo 0, bnd hi s.size with
    | some l, some h => 0 ≤ l ∧ l ≤ h ∧ h ≤ s.size ∧ K (.lit (.string (s.extract l.toNat h.toNat))) [] [] []
    | _, _ => False
  | _ => False
def kFadr (off : Nat) (x : AV) (K : KT) : Prop :=
  match x with
  | .ref i o => K (.ref i (o + off)) [] [] []
  | .iptr cs => K (.iptr (cs.drop off)) [] [] []
  | _ => False
def kFld (off : Nat) (n : Option Nat) (x : AV) (K : KT) : Prop :=
  match x with
  | .agg xs => match n with
    | none => match xs[off]? with
      | some x => K x [] [] []
      | none => False
    | some n => off + n ≤ xs.length ∧ K (.agg ((xs.drop off).take n)) [] [] []
  | _ => False
def kIadr (k : Nat) (x ix : AV) (K : KT) : Prop :=
  match x, ix with
  | .sl _ ks xs, .lit (.int _ i) => ks = k ∧ 0 ≤ i ∧ i < xs.length ∧ K (.iptr (xs.getD i.toNat .any).cells) [] [] []
  | _, _ => False
def kAadr (len k : Nat) (x ix : AV) (K : KT) : Prop :=
  match x, ix with
  | .ref i o, .lit (.int _ n) => 0 ≤ n ∧ n < len ∧ K (.ref i (o + n.toNat * k)) [] [] []
  | _, _ => False
def kIdx (len k : Nat) (n : Option Nat) (x ix : AV) (K : KT) : Prop :=
  match x, ix with
  | .agg xs, .lit (.int _ i) => 0 ≤ i ∧ i < len ∧ kFld (i.toNat * k) n (.agg xs) K
  | _, _ => False
def kSidx (x ix : AV) (K : KT) : Prop :=
  match x, ix with
  | .lit (.string s), .lit (.int _ i) => 0 ≤ i ∧ i < s.size ∧ K (.lit (.int .u8 (s.data.toList.getD i.toNat 0).toNat)) [] [] []
  | _, _ => False
def kExt (x : AV) (i : Nat) (K : KT) : Prop :=
  match x with
  | .tup xs => match xs[i]? with
    | some x => K x [] [] []
    | none => False
  | _ => False
def kApp (k bytes : Nat) (s x : AV) (S : List AObj) (K : KT) : Prop :=
  match s, x with
  | .sl t ks xs, .sl _ ky ys => (ks = k ∨ xs = []) ∧ (ky = k ∨ ys = []) ∧ (xs.length + ys.length) * bytes ≤ 140737488355328 ∧ match t with
    | .full => K (.sl (.row S.length) k (xs ++ ys)) [] [] [.row k (xs.length + ys.length)]
    | .row j => S[j]? = some (.row k xs.length) ∧ K (.sl (.row j) k (xs ++ ys)) [j] [(j, .row k (xs.length + ys.length))] []
    | .none => False
  | _, _ => False
def kLen (str : Bool) (x : AV) (K : KT) : Prop :=
  match str, x with
  | false, .sl _ _ xs => K (.lit (.int .i64 xs.length)) [] [] []
  | true, .lit (.string s) => K (.lit (.int .i64 s.size)) [] [] []
  | _, _ => False
def kMx (isMax : Bool) (x y : AV) (K : KT) : Prop :=
  match x, y with
  | .lit (.int k a), .lit (.int _ b) => K (.lit (.int k (if isMax then (if b > a then b else a) else if b < a then b else a))) [] [] []
  | _, _ => False
def kMksl (k bytes : Nat) (l c : AV) (n : Nat) (K : KT) : Prop :=
  match l, c with
  | .lit (.int .i64 l), .lit (.int .i64 c) => l = 0 ∧ 0 ≤ c ∧ c * bytes ≤ 140737488355328 ∧ c < 9223372036854775808 ∧ K (.sl (.row n) k []) [] [] [.row k 0]
  | _, _ => False

def EffC (P : Program) (f : FuncId) (args : List AV) (S : List AObj) (v : AV) (rd : List Nat) (upd : List (Nat × AObj)) (new : List AObj) : Prop :=
  ∀ T, (∀ i ∈ rd, T[i]? = S[i]?) → (∀ p ∈ upd, p.1 ∈ rd) → (∀ p ∈ newU S.length new, T[p.1]? = some .dead) → Does P f args T v (updL T (upd ++ newU S.length new))
def CallK (P : Program) (f : FuncId) (args : List AV) (S : List AObj) (K : KT) : Prop := ∃ v rd upd new, EffC P f args S v rd upd new ∧ (∀ p ∈ upd, p.1 ∈ rd) ∧ (∀ i ∈ rd, i < S.length) ∧ K v rd upd new
def kCall (P : Program) (f : AV) (args : List AV) (S : List AObj) (K : KT) : Prop :=
  match f with
  | .fn f first cap => CallK P f (first ++ args ++ cap) S K
  | _ => False

def effK (P : Program) (i : I) (ρ : Operand → AV) (S : List AObj) (K : KT) : Prop :=
  match i with
  | .mov x => K (ρ x) [] [] []
  | .pick c a b => kPick (ρ c) (ρ a) (ρ b) K
  | .new zs => K (.ref S.length 0) [] [] [.cells (zs.map AV.ofC1)]
  | .box x => kBox (ρ x) S.length K
  | .build zs parts => kBuild (zs.map AV.ofC1) (parts.map fun (a, b, x) => (a, b, ρ x)) K
  | .bsl k xs => kBsl k (xs.map ρ) K
  | .load n a => kLoad n (ρ a) S K
  | .store n a x => kStore n (ρ a) (ρ x) S K
  | .nilc x => kNil (ρ x) K
  | .bin op x y => kBin op (ρ x) (ρ y) K
  | .eqb neg x y => kEqb neg (ρ x) (ρ y) K
  | .eqa neg n x y => kEqa neg n (ρ x) (ρ y) K
  | .eqp neg x y => kEqp neg (ρ x) (ρ y) K
  | .un op x => kUn op (ρ x) K
  | .cvt k x => kCvt k (ρ x) K
  | .b2s x => kB2s (ρ x) K
  | .s2b x => kS2b (ρ x) K
  | .slice k x lo hi mx => kSlice k (ρ x) (lo.map ρ) (hi.map ρ) (mx.map ρ) K
  | .sstr x lo hi => kSstr (ρ x) (lo.map ρ) (hi.map ρ) K
  | .fadr off x => kFadr off (ρ x) K
  | .fld off n x => kFld off n (ρ x) K
  | .iadr k x ix => kIadr k (ρ x) (ρ ix) K
  | .aadr len k x ix => kAadr len k (ρ x) (ρ ix) K
  | .idx len k n x ix => kIdx len k n (ρ x) (ρ ix) K
  | .sidx x ix => kSidx (ρ x) (ρ ix) K
  | .ext x i => kExt (ρ x) i K
  | .mkf f a b => K (.fn f (a.map ρ) (b.map ρ)) [] [] []
  | .call f args => kCall P (ρ f) (args.map ρ) S K
  | .app k bytes s x => kApp k bytes (ρ s) (ρ x) S K
  | .len s x => kLen s (ρ x) K
  | .lenc n => K (.lit (.int .i64 n)) [] [] []
  | .mx b x y => kMx b (ρ x) (ρ y) K
  | .mksl k bytes l c => kMksl k bytes (ρ l) (ρ c) S.length K

def szO (P : Program) (t : TypeId) : Option Nat := (P.info? t).map (·.size)
def aggO (P : Program) (t : TypeId) : Option (Option Nat) :=
  match P.underlying t with
  | none => none
  | some (.struct _) => (szO P t).map some
  | some (.array _ _) => (szO P t).map some
  | some _ => some none
def zeroO (P : Program) (t : TypeId) : Option (List Value) := ((P.info? t).bind (·.zero)).bind fun z => if z.cells.toList.all (·.oneCell') then some z.cells.toList else none
/-- How many cells a type has that is made of integers alone, one behind the other. -/
def flatI (P : Program) : Nat → TypeId → Option Nat
  | 0, _ => none
  | d + 1, t => match P.underlying t with
    | some (.int _) => some 1
    | some (.struct fs) => if P.stoodInHeld t then none else
      fs.toList.foldl (fun acc f => acc.bind fun off => match flatI P d f.type, aggO P f.type with
        | some s, some a => if f.name ≠ "_" ∧ f.offset = off ∧ szO P f.type = some s ∧ (a = none → s = 1) then some (off + s) else none
        | _, _ => none) (some 0)
    | some (.array n e) => match flatI P d e, aggO P e with
      | some s, some a => if szO P e = some s ∧ (a = none → s = 1) then some (n * s) else none
      | _, _ => none
    | _ => none
def optM {α β : Type} (f : α → Option β) : List α → Option (List β)
  | [] => some []
  | x :: xs => match f x, optM f xs with
    | some y, some ys => some (y :: ys)
    | _, _ => none

def compOp (P : Program) (o : Oper) : Option I :=
  match o.op with
  | .move x => some (.mov x)
  | .assign x => some (.mov x)
  | .pick c a b => some (.pick c a b)
  | .alloc e => (zeroO P e).map .new
  | .box _ x => some (.box x)
  | .build t parts => match P.underlying t, zeroO P t with
    | some (.struct fs), some z => if fs.all (fun f => (szO P f.type).isSome) then (optM (fun p : Nat × Operand => (fs[p.1]?).bind fun f => (szO P f.type).map fun s => (f.offset, s, p.2)) parts.toList).map (.build z) else none
    | some (.array _ e), some z => (szO P e).map fun s => .build z (parts.toList.map fun p => (p.1 * s, s, p.2))
    | _, _ => none
  | .buildSlice t n parts => match P.underlying t with
    | some (.slice e) => match szO P e, zeroO P e with
      | some s, some z => if z.length = s ∧ 1 ≤ s ∧ n * s ≤ 16777216 ∧ parts.toList.map (·.1) = List.range n then some (.bsl s (parts.toList.map (·.2))) else none
      | _, _ => none
    | _ => none
  | .load t a => (aggO P t).map fun n => .load n a
  | .store t a x => (szO P t).map fun n => .store n a x
  | .nilCheck x => some (.nilc x)
  | .binOp op t x y _ => match P.underlying t with
    | some (.int _) => some (.bin op x y)
    | some .string => some (.bin op x y)
    | some .bool => if op = .eql then some (.eqb false x y) else if op = .neq then some (.eqb true x y) else none
    | some (.pointer e) => if (szO P e).isSome then (if op = .eql then some (.eqp false x y) else if op = .neq then some (.eqp true x y) else none) else none
    | some (.struct _) => if P.eqGuardType P.depth t then none else match flatI P 9 t, aggO P t with
      | some n, some (some _) => if op = .eql then some (.eqa false n x y) else if op = .neq then some (.eqa true n x y) else none
      | _, _ => none
    | some (.array _ _) => if P.eqGuardType P.depth t then none else match flatI P 9 t, aggO P t with
      | some n, some (some _) => if op = .eql then some (.eqa false n x y) else if op = .neq then some (.eqa true n x y) else none
      | _, _ => none
    | _ => none
  | .unOp op _ x => some (.un op x)
  | .convert src dst x => match P.underlying src, P.underlying dst with
    | some (.int _), some (.int k) => some (.cvt k x)
    | some (.slice e), some .string => match P.underlying e with
      | some (.int .u8) => some (.b2s x)
      | _ => none
    | some .string, some (.slice e) => match P.underlying e with
      | some (.int .u8) => some (.s2b x)
      | _ => none
    | _, _ => none
  | .slice t x lo hi mx => match P.underlying t with
    | some (.slice e) => (szO P e).map fun s => .slice s x lo hi mx
    | some .string => if mx.isNone then some (.sstr x lo hi) else none
    | _ => none
  | .fieldAddr t x f => match P.underlying t with
    | some (.struct fs) => match fs[f]? with
      | some fd => match szO P fd.type with
        | some s => if 1 ≤ s then some (.fadr fd.offset x) else none
        | none => none
      | none => none
    | _ => none
  | .field t x f => match P.underlying t with
    | some (.struct fs) => match fs[f]? with
      | some fd => (aggO P fd.type).map fun n => .fld fd.offset n x
      | none => none
    | _ => none
  | .indexAddr t x ix => match P.underlying t with
    | some (.slice e) => (szO P e).map fun s => .iadr s x ix
    | some (.array n e) => (szO P e).map fun s => .aadr n s x ix
    | _ => none
  | .index t x ix => match P.underlying t with
    | some (.array n e) => match szO P e, aggO P e with
      | some s, some a => some (.idx n s a x ix)
      | _, _ => none
    | some .string => some (.sidx x ix)
    | _ => none
  | .extract x i => some (.ext x i)
  | .makeFunc (.func f) a b => some (.mkf f a.toList b.toList)
  | .makeSlice t l c => match P.underlying t with
    | some (.slice e) => match P.info? e, zeroO P e with
      | some i, some z => if z.length = i.size ∧ 1 ≤ i.size then some (.mksl i.size i.bytes l c) else none
      | _, _ => none
    | _ => none
  | .call c => match c.callee with
    | .value f => some (.call f c.args.toList)
    | .builtin .append => match c.argTypes.toList, c.args.toList with
      | [t, t'], [s, x] => match P.underlying t with
        | some (.slice e) => match P.info? e, zeroO P e with
          | some i, some z => if t = t' ∧ z.length = i.size ∧ 1 ≤ i.size ∧ 1 ≤ i.bytes then some (.app i.size i.bytes s x) else none
          | _, _ => none
        | _ => none
      | _, _ => none
    | .builtin .len => match c.argTypes.toList, c.args.toList with
      | [t], [x] => match P.underlying t with
        | some (.slice _) => some (.len false x)
        | some .string => some (.len true x)
        | some (.array n _) => some (.lenc n)
        | _ => none
      | _, _ => none
    | .builtin .max => match c.args.toList with
      | [x, y] => some (.mx true x y)
      | _ => none
    | .builtin .min => match c.args.toList with
      | [x, y] => some (.mx false x y)
      | _ => none
    | _ => none
  | _ => none

end Go.Proofs.Ytgphhganepjaiaa
