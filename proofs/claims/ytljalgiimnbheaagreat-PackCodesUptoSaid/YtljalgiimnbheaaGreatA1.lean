/- Helper: an evaluator of the model's code over plain values, proved sound for every program (part of the proof of PackCodesUptoSaid). No condition. -/
import Derived.Calls
import Derived.Below
import Derived.Laws.AppendOwn
import Derived.Laws.StructEq
import Derived.Laws.BytesString
import Derived.Laws.Slices
set_option linter.all false
section
namespace Go.AM

/-! ### Types of data -/
inductive Ty where
  | int (k : IntKind) | bool | str | unit
  | pair (a b : Ty)
  | arr (n : Nat) (t : Ty)
  | slice (t : Ty)
  | ptr (t : Ty)
  | nilI
  | alt (u : TypeId) (a r : Ty)
  | fn (a : Ty) (k : Nat) (b : Ty)
  | opq (n : Nat)
  deriving DecidableEq

@[reducible] def Den : Ty → Type
  | .int _ => Int
  | .bool => Bool
  | .str => ByteArray
  | .unit => Unit
  | .pair a b => Den a × Den b
  | .arr _ t => List (Den t)
  | .slice t => List (Den t)
  | .ptr t => Option (Den t)
  | .nilI => Unit
  | .alt _ a r => Den a ⊕ Den r
  | .fn a _ b => Option (Nat → Den a → Option (Den b))
  | .opq _ => Unit

def Ty.zero : (t : Ty) → Den t
  | .int _ => (0 : Int)
  | .bool => false
  | .str => (⟨#[]⟩ : ByteArray)
  | .unit => ()
  | .pair a b => (a.zero, b.zero)
  | .arr n t => List.replicate n t.zero
  | .slice _ => ([] : List _)
  | .ptr _ => none
  | .nilI => ()
  | .alt _ _ r => Sum.inr r.zero
  | .fn _ _ _ => none
  | .opq _ => ()

def Ty.size : Ty → Nat
  | .unit => 0
  | .pair a b => a.size + b.size
  | .arr n t => n * t.size
  | .opq n => n
  | _ => 1

/-- no slice, pointer, interface or function in it -/
def Ty.flat : Ty → Bool
  | .int _ | .bool | .str | .unit => true
  | .pair a b => a.flat && b.flat
  | .arr _ t => t.flat
  | _ => false

def Ty.len : Ty → Nat
  | .pair _ b => b.len + 1
  | _ => 0

def Ty.cmp : Ty → Bool
  | .unit | .pair _ _ => true
  | _ => false

def Ty.comp : Ty → Bool
  | .unit | .pair _ _ | .arr _ _ => true
  | _ => false

abbrev Id := Nat

inductive AV : Type where
  | v (t : Ty) (x : Den t)
  | lit (c : Value)
  | own (id : Id) (ver : Nat)
  | ref (id : Id) (ver : Nat) (path : List Nat)
  | agg (l : List AV)
  | tup (l : List AV)
  | fnc (f : FuncId)
  | undef

inductive Ob : Type where
  | box (t : Ty) (fs : List AV) (ver : Nat) (sh : Bool)
  | arr (e : TypeId) (t : Ty) (xs : List (Den t)) (ver : Nat) (sh : Bool)
  | iter (s : ByteArray) (pos : Nat) (ver : Nat)

abbrev Store := Id → Option Ob

/-! ### Trees of what may come -/
inductive T (α : Type) : Type 1 where
  | ret (a : α)
  | fail
  | of (o : Option α)
  | ite (c : Bool) (p q : T α)
  | opt {β : Type} (o : Option β) (k : β → T α)
  | sum {β γ : Type} (s : β ⊕ γ) (k : β → T α) (l : γ → T α)

def T.bind {α β : Type} : T α → (α → T β) → T β
  | .ret a, g => g a
  | .fail, _ => .fail
  | .of o, g => .opt o g
  | .ite c p q, g => .ite c (p.bind g) (q.bind g)
  | .opt o k, g => .opt o fun b => (k b).bind g
  | .sum s k l, g => .sum s (fun b => (k b).bind g) (fun b => (l b).bind g)

def T.eval {α : Type} : T α → Option α
  | .ret a => some a
  | .fail => none
  | .of o => o
  | .ite c p q => if c then p.eval else q.eval
  | .opt o k => o.bind fun b => (k b).eval
  | .sum s k l => match s with | .inl b => (k b).eval | .inr b => (l b).eval

inductive Pr (α : Type) : Type 1 where
  | ret (a : α)
  | fail
  | ite (c : Bool) (p q : Pr α)
  | opt {β : Type} (o : Option β) (k : β → Pr α)
  | get (i : Id) (k : Ob → Pr α)
  | next (i : Id) (k : Nat → Pr α)
  | put (i : Id) (b : Ob) (k : Pr α)

def Pr.bind {α β : Type} : Pr α → (α → Pr β) → Pr β
  | .ret a, g => g a
  | .fail, _ => .fail
  | .ite c p q, g => .ite c (p.bind g) (q.bind g)
  | .opt o k, g => .opt o fun b => (k b).bind g
  | .get i k, g => .get i fun b => (k b).bind g
  | .next i k, g => .next i fun b => (k b).bind g
  | .put i b k, g => .put i b (k.bind g)

def Ob.ver : Ob → Nat
  | .box _ _ n _ | .arr _ _ _ n _ | .iter _ _ n => n

def Store.set (σ : Store) (i : Id) (b : Ob) : Store := fun j => if j = i then some b else σ j

def Pr.run {α : Type} : Pr α → Store → T (α × Store × List Id × List Id)
  | .ret a, σ => .ret (a, σ, [], [])
  | .fail, _ => .fail
  | .ite c p q, σ => .ite c (p.run σ) (q.run σ)
  | .opt o k, σ => .opt o fun b => (k b).run σ
  | .get i k, σ => match σ i with
    | some b => ((k b).run σ).bind fun (a, σ', r, w) => .ret (a, σ', i :: r, w)
    | none => .fail
  | .next i k, σ => ((k (match σ i with | some b => b.ver + 1 | none => 0)).run σ).bind fun (a, σ', r, w) => .ret (a, σ', i :: r, w)
  | .put i b k, σ => (k.run (σ.set i b)).bind fun (a, σ', r, w) => .ret (a, σ', r, i :: w)

/-! ### What is known of the program -/
structure Sm where
  ins : Ty
  k : Nat
  outs : Ty
  fresh : List (Option TypeId) := []    -- results that are new arrays: their elements' types
  F : Nat → Den ins → Option (Den outs)

structure Env where
  ty : TypeId → Option Ty
  room : TypeId → Nat        -- of a slice type: how many elements fit
  el : TypeId → TypeId       -- of a slice type: its elements' type
  eq : TypeId → Bool         -- structs that are compared
  fn : FuncId → Option Sm
  inv : String → Option Sm
  n : Nat
  al : Id → Id := fun i => i   -- under which name a new object is kept
  clip : FuncId → Bool := fun _ => false   -- slices.Clip
  sh0 : Id → Bool := fun _ => false   -- variables that are shared from the first

/-! ### Values -/
def cast? {a b : Ty} (x : Den a) : Option (Den b) := if h : a = b then some (h ▸ x) else none

def litInt (k : IntKind) : Value → Option Int
  | .int k' n => if k = k' then some n else none
  | _ => none
def litBool : Value → Option Bool
  | .bool b => some b
  | _ => none
def litStr : Value → Option ByteArray
  | .string s => some s
  | _ => none
def nilSl : Value → Bool
  | .slice none 0 0 => true
  | _ => false
def nilPtr : Value → Bool
  | .pointer none => true
  | _ => false
def nilIf : Value → Bool
  | .nilIface => true
  | _ => false
def nilFn : Value → Bool
  | .nilFunc => true
  | _ => false
def litAs : (t : Ty) → Value → Option (Den t)
  | .int k, c => litInt k c
  | .bool, c => litBool c
  | .str, c => litStr c
  | .slice _, c => if nilSl c then some [] else none
  | .ptr _, c => if nilPtr c then some none else none
  | .nilI, c => if nilIf c then some () else none
  | .alt _ _ r, c => if nilIf c then (litAs r c).map .inr else none
  | .fn _ _ _, c => if nilFn c then some none else none
  | .unit, _ | .pair _ _, _ | .arr _ _, _ | .opq _, _ => none

def unpack : (t : Ty) → Den t → List AV
  | .pair a b, x => .v a x.1 :: unpack b x.2
  | _, _ => []

mutual
def AV.as (t : Ty) : AV → Option (Den t)
  | .v _ x => cast? x
  | .lit c => litAs t c
  | .agg l => aggAs t l
  | _ => none
def aggAs : (t : Ty) → List AV → Option (Den t)
  | .unit, [] => some ()
  | .pair a b, x :: l => (AV.as a x).bind fun y => (aggAs b l).map fun z => (y, z)
  | .arr 0 _, [] => some []
  | .arr (n + 1) t, x :: l => (AV.as t x).bind fun y => (aggAs (.arr n t) l).map fun z => (y :: z : List (Den t))
  | _, _ => none
end

def argsAs : (t : Ty) → List AV → Option (Den t)
  | .unit, [] => some ()
  | .pair a b, x :: l => (x.as a).bind fun y => (argsAs b l).map fun z => (y, z)
  | _, _ => none

def AV.asFn (E : Env) (a : Ty) (k : Nat) (b : Ty) (f : FuncId) (first caps : List AV) : Option (Nat → Den a → Option (Den b)) :=
  match E.fn f with
  | some S =>
    if h : S.outs = b then if S.k = k && !S.fresh.any (·.isSome) then
      some fun n x => (argsAs S.ins (first ++ unpack a x ++ caps)).bind fun y => h ▸ S.F n y
      else none
    else none
  | none => none

mutual
/-- an AV as data; 'm': what is owned is shared from then on; 'd': how deep -/
def AV.data (E : Env) (m : Bool) : (d : Nat) → (t : Ty) → AV → Pr (Den t)
  | 0, _, _ => .fail
  | d + 1, t, x => match x with
    | .v _ x => .opt (cast? x) .ret
    | .lit c => .opt (litAs t c) .ret
    | .own i n => .get i fun
      | .arr e t' xs n' sh => if n' = n then .opt (cast? (a := .slice t') (b := t) xs) fun y => if m && !sh then .put i (.arr e t' xs n' true) (.ret y) else .ret y else .fail
      | _ => .fail
    | .ref i n p => match t, p with
      | .ptr s, [] => .get i fun
        | .box t' fs n' sh => if n' = n && t' = s then
            (match s.cmp, fs with
             | false, [x] => AV.data E m d s x
             | true, fs => aggData E m d s fs
             | _, _ => .fail).bind fun y => if m && !sh then .put i (.box t' fs n' true) (.ret (some y)) else .ret (some y)
          else .fail
        | _ => .fail
      | _, _ => .fail
    | .agg l => aggData E m d t l
    | .fnc f => match t with
      | .fn a k b => .opt (AV.asFn E a k b f [] []) fun F => .ret (some F)
      | _ => .fail
    | _ => .fail
def aggData (E : Env) (m : Bool) : (d : Nat) → (t : Ty) → List AV → Pr (Den t)
  | 0, _, _ => .fail
  | d + 1, t, l => match t, l with
    | .unit, [] => .ret ()
    | .pair a b, x :: l => (AV.data E m d a x).bind fun y => (aggData E m d b l).bind fun z => .ret (y, z)
    | .arr 0 _, [] => .ret ([] : List _)
    | .arr (n + 1) t, x :: l => (AV.data E m d t x).bind fun y => (aggData E m d (.arr n t) l).bind fun z => .ret (y :: z : List (Den t))
    | _, _ => .fail
end
def deep : Nat := 40

/-- an index, of whatever kind of whole number -/
def AV.idx : AV → Option Int
  | .v (.int _) x => some x
  | .lit (.int _ n) => some n
  | _ => none

def at? {α : Type} (xs : List α) (i : Int) : Option α := if 0 ≤ i then xs[i.toNat]? else none

def zeroAV : Ty → AV
  | .slice _ => .lit (.slice none 0 0)
  | t => .v t t.zero
def zeros : Ty → List AV
  | .pair a b => zeroAV a :: zeros b
  | .arr n t => List.replicate n (zeroAV t)
  | _ => []
def nthTy : Ty → Nat → Option Ty
  | .pair a _, 0 => some a
  | .pair _ b, j + 1 => nthTy b j
  | _, _ => none

/-- a part of data -/
def subD : (t : Ty) → Den t → List Nat → Pr AV
  | t, x, [] => .ret (.v t x)
  | .pair a b, x, j :: p => match j with
    | 0 => subD a x.1 p
    | j + 1 => subD b x.2 (j :: p)
  | .arr _ t, xs, j :: p => .opt ((xs : List (Den t))[j]?) fun x => subD t x p
  | _, _, _ => .fail
def sub : AV → List Nat → Pr AV
  | x, [] => .ret x
  | .v t x, p => subD t x p
  | .agg l, [j] => match l[j]? with
    | some y => .ret y
    | none => .fail
  | _, _ => .fail

/-- data with another part -/
def setP : (t : Ty) → Den t → List Nat → AV → Pr (Den t)
  | t, _, [], y => .opt (y.as t) .ret
  | .pair a b, x, j :: p, y => match j with
    | 0 => (setP a x.1 p y).bind fun z => .ret (z, x.2)
    | j + 1 => (setP b x.2 (j :: p) y).bind fun z => .ret (x.1, z)
  | .arr _ t, xs, j :: p, y => .opt ((xs : List (Den t))[j]?) fun x => (setP t x p y).bind fun z => .ret (List.set xs j z)
  | _, _, _, _ => .fail

def tyT : Ty → List Nat → Option Ty
  | t, [] => some t
  | .pair a b, j :: p => match j with
    | 0 => tyT a p
    | j + 1 => tyT b (j :: p)
  | .arr _ t, _ :: p => tyT t p
  | _, _ => none
def tyP : Ob → List Nat → Option Ty
  | .box t _ _ _, p => tyT t p
  | .arr _ t _ _ _, _ :: p => tyT t p
  | _, _ => none

/-- does an AV serve for a variable of this type -/
def okF (a : Ty) : AV → Bool
  | .v t _ => t = a
  | .lit c => (litAs a c).isSome
  | .own _ _ => match a with | .slice _ => true | _ => false
  | .ref _ _ _ => match a with | .ptr _ => true | _ => false
  | .fnc _ => match a with | .fn _ _ _ => true | _ => false
  | _ => false
def norm (a : Ty) (x : AV) : Option AV :=
  match x with
  | .agg l => (AV.as a (.agg l)).map (.v a)
  | x => if okF a x then some x else none
def normL : Ty → List AV → Option (List AV)
  | .pair a b, x :: l => (norm a x).bind fun y => (normL b l).map fun l => y :: l
  | .unit, [] => some []
  | _, _ => none
/-- a variable's content -/
def fieldsN (t : Ty) (x : AV) : Option (List AV) :=
  if t.cmp then
    match x with
    | .agg l => normL t l
    | .v t' x => if t' = t then some (unpack t' x) else none
    | _ => none
  else (norm t x).map fun y => [y]

def Ty.dep : Ty → Nat
  | .pair a b => max (a.dep + 1) b.dep
  | _ => 1
def Ty.beq : (t : Ty) → Den t → Den t → Option Bool
  | .int _, x, y => some (x == y)
  | .bool, x, y => some (x == y)
  | .str, x, y => some (x == y)
  | .unit, _, _ => some true
  | .pair a b, x, y => (Ty.beq a x.1 y.1).bind fun c => (Ty.beq b x.2 y.2).map fun d => c && d
  | _, _, _ => none
def Ty.isOpq : Ty → Bool
  | .opq _ => true
  | _ => false
def Ty.plain : Ty → Bool
  | .opq _ | .nilI | .alt _ _ _ => false
  | _ => true
def Ty.ifc : Ty → Bool
  | .nilI => true
  | .alt _ _ r => r.ifc
  | _ => false
def Ty.isNil : (t : Ty) → Den t → Option Bool
  | .ptr _, x => some x.isNone
  | .nilI, _ => some true
  | .alt _ _ r, x => if r.ifc then some (match x with | .inl _ => false | .inr y => (Ty.isNil r y).getD false) else none
  | .fn _ _ _, x => some x.isNone
  | _, _ => none
def isAlt : (t : Ty) → TypeId → Den t → Bool
  | .alt u _ r, u', x => if u = u' then (match x with | .inl _ => true | .inr _ => false) else (match x with | .inl _ => false | .inr y => isAlt r u' y)
  | _, _, _ => false
def getAlt (a : Ty) : (t : Ty) → TypeId → Den t → Den a
  | .alt u b r, u', x => if u = u' then (match x with | .inl y => (cast? (a := b) (b := a) y).getD a.zero | .inr _ => a.zero) else (match x with | .inl _ => a.zero | .inr y => getAlt a r u' y)
  | _, _, _ => a.zero
def hasAlt (a : Ty) : Ty → TypeId → Bool
  | .alt u b r, u' => if u = u' then b = a else hasAlt a r u'
  | _, _ => false
def inj (a : Ty) : (t : Ty) → TypeId → Den a → Option (Den t)
  | .alt u b r, u', x => if u = u' then (cast? (a := a) (b := b) x).map .inl else (inj a r u' x).map .inr
  | _, _, _ => none

def bits (op : BinOp) (k : IntKind) (x y : Int) : Int :=
  let a := BitVec.ofInt k.bits x
  let b := BitVec.ofInt k.bits y
  k.wrap ((match op with | .and => a &&& b | .or => a ||| b | .xor => a ^^^ b | _ => a &&& ~~~b).toNat : Nat)
def shiftL (k : IntKind) (x y : Int) : Int := k.wrap (x * 2 ^ (min y.toNat k.bits))
def shiftR (k : IntKind) (x y : Int) : Int := x.fdiv (2 ^ (min y.toNat k.bits))
def strOf (xs : List Int) : ByteArray := ⟨(xs.map fun n => UInt8.ofNat n.toNat).toArray⟩
def bytesOf (s : ByteArray) : List Int := s.data.toList.map fun b => (b.toNat : Int)

def intBin (op : BinOp) (k : IntKind) (x y : Int) : Pr AV :=
  match op with
  | .add => .ret (.v (.int k) (k.wrap (x + y)))
  | .sub => .ret (.v (.int k) (k.wrap (x - y)))
  | .mul => .ret (.v (.int k) (k.wrap (x * y)))
  | .quo => .ite (y == 0) .fail (.ret (.v (.int k) (k.wrap (x.tdiv y))))
  | .rem => .ite (y == 0) .fail (.ret (.v (.int k) (x.tmod y)))
  | .and | .or | .xor | .andNot => .ret (.v (.int k) (bits op k x y))
  | .eql => .ret (.v .bool (x == y))
  | .neq => .ret (.v .bool (x != y))
  | .lss => .ret (.v .bool (decide (x < y)))
  | .leq => .ret (.v .bool (decide (x ≤ y)))
  | .gtr => .ret (.v .bool (decide (x > y)))
  | .geq => .ret (.v .bool (decide (x ≥ y)))
  | _ => .fail
def strBin (op : BinOp) (x y : ByteArray) : Pr AV :=
  match op with
  | .add => .ite (decide (x.size + y.size ≤ 9223372036854775807)) (.ret (.v .str (x ++ y))) .fail
  | .eql => .ret (.v .bool (x.toList == y.toList))
  | .neq => .ret (.v .bool (!(x.toList == y.toList)))
  | _ => .fail
def isNilLit : AV → Bool
  | .lit (.pointer none) | .lit .nilIface | .lit .nilFunc => true
  | _ => false

def eqBin (E : Env) (tx : TypeId) (t : Ty) (nil : Bool) (x y : AV) (pos : Bool) : Pr AV :=
  if nil then .opt (y.as t) fun _ => .opt (x.as t) fun a => .opt (Ty.isNil t a) fun c => .ret (.v .bool (if pos then c else !c))
  else if (t.cmp && !E.eq tx) || decide (9000 < t.dep) then .fail
  else .opt (x.as t) fun a => .opt (y.as t) fun b => .opt (Ty.beq t a b) fun c => .ret (.v .bool (if pos then c else !c))

def bin (E : Env) (op : BinOp) (tx : TypeId) (x y : AV) (yc : Bool) (ty : TypeId) : Pr AV :=
  match E.ty tx with
  | some (.int k) => .opt (x.as (.int k)) fun a =>
    (match op with
    | .shl => match E.ty ty with
      | some (.int k') => .opt (y.as (.int k')) fun b => .ite (decide (b < 0)) .fail (.ret (.v (.int k) (shiftL k a b)))
      | _ => .fail
    | .shr => match E.ty ty with
      | some (.int k') => .opt (y.as (.int k')) fun b => .ite (decide (b < 0)) .fail (.ret (.v (.int k) (shiftR k a b)))
      | _ => .fail
    | op => .opt (y.as (.int k)) fun b => intBin op k a b)
  | some .str => .opt (x.as .str) fun a => .opt (y.as .str) fun b => strBin op a b
  | some t => match op with
    | .eql => eqBin E tx t (yc && isNilLit y) x y true
    | .neq => eqBin E tx t (yc && isNilLit y) x y false
    | _ => .fail
  | none => .fail

def un (E : Env) (op : UnOp) (tx : TypeId) (x : AV) : Pr AV :=
  match op, E.ty tx with
  | .not, some .bool => .opt (x.as .bool) fun b => .ret (.v .bool (!b))
  | .neg, some (.int k) => .opt (x.as (.int k)) fun n => .ret (.v (.int k) (k.wrap (0 - n)))
  | .xor, some (.int k) => .opt (x.as (.int k)) fun n => .ret (.v (.int k) (bits .xor k (if k.signed then -1 else k.max) n))
  | _, _ => .fail

def conv (E : Env) (src dst : TypeId) (x : AV) (d : Id) : Pr AV :=
  match E.ty src, E.ty dst with
  | some (.int k), some (.int k') => .opt (x.as (.int k)) fun n => .ret (.v (.int k') (k'.wrap n))
  | some .str, some .str => .opt (x.as .str) fun s => .ret (.v .str s)
  | some (.slice (.int .u8)), some .str => (x.data E false deep (.slice (.int .u8))).bind fun xs => .ret (.v .str (strOf xs))
  | _, _ => .fail

def loadFs (fs : List AV) : List Nat → Pr AV
  | [] => .ret (.agg fs)
  | j :: p => match fs[j]? with
    | some x => sub x p
    | none => .fail
def load1 : List AV → List Nat → Pr AV
  | [x], p => sub x p
  | _, _ => .fail
def loadOb : Ob → List Nat → Pr AV
  | .box t fs _ _, p => if t.cmp then loadFs fs p else load1 fs p
  | .arr _ t xs _ _, j :: p => .opt (xs[j]?) fun x => subD t x p
  | _, _ => .fail

def store1 (t : Ty) : List AV → List Nat → AV → Pr (List AV)
  | [.v t' x], p, y => if t' = t then (setP t' x p y).bind fun z => .ret [.v t' z] else .fail
  | _, _, _ => .fail
/-- one field with another content: whole, or a part of it -/
def storeF (a : Ty) (x : AV) : List Nat → AV → Pr AV
  | [], y => .opt (norm a y) .ret
  | j :: p, y => match x with
    | .v a' x => if a' = a then (setP a' x (j :: p) y).bind fun z => .ret (.v a' z) else .fail
    | _ => .fail
def storeFs (t : Ty) (fs : List AV) : List Nat → AV → Pr (List AV)
  | [], y => .opt (fieldsN t y) .ret
  | j :: p, y => if t.cmp then
      .opt (nthTy t j) fun a => .opt fs[j]? fun x => (storeF a x p y).bind fun z => .ret (fs.set j z)
    else store1 t fs (j :: p) y
def storeOb : Ob → List Nat → AV → Pr Ob
  | .box t fs n false, p, y => (storeFs t fs p y).bind fun gs => .ret (.box t gs n false)
  | .arr e t xs n false, j :: p, y => .opt (xs[j]?) fun x => (setP t x p y).bind fun z => .ret (.arr e t (xs.set j z) n false)
  | _, _, _ => .fail

/-- a literal of a struct or an array: its parts, by their numbers -/
def fill (t : Ty) (l : List AV) : List (Nat × AV) → Option (List AV)
  | [] => some l
  | (j, y) :: r => match (match t with | .arr n a => if j < n then some a else none | t => nthTy t j) with
    | some a => (norm a y).bind fun z => fill t (l.set j z) r
    | none => none

def elems (E : Env) (t : Ty) : Nat → List (Nat × AV) → Pr (List (Den t))
  | _, [] => .ret []
  | k, (j, y) :: r => if j = k then (y.data E true deep t).bind fun x => (elems E t (k + 1) r).bind fun l => .ret (x :: l) else .fail

def slBound (lo : Option Int) (hi : Option Int) (n : Nat) : Pr (Nat × Nat) :=
  let h : Int := hi.getD n
  let l : Int := lo.getD 0
  .ite (decide (0 ≤ h) && decide (h ≤ n) && decide (0 ≤ l) && decide (l ≤ h)) (.ret (l.toNat, h.toNat)) .fail

def argsData (E : Env) (m : Bool) : (t : Ty) → List AV → Pr (Den t)
  | .unit, [] => .ret ()
  | .pair a b, x :: l => (x.data E m deep a).bind fun y => (argsData E m b l).bind fun z => .ret (y, z)
  | _, _ => .fail

def takeTy : Ty → Nat → Ty
  | .pair a b, n + 1 => .pair a (takeTy b n)
  | _, _ => .unit
def dropTy : Ty → Nat → Ty
  | .pair _ b, n + 1 => dropTy b n
  | t, _ => t

def resAV : Option TypeId → Id → (t : Ty) → Den t → Pr AV
  | some e, i, .slice t, xs => .next i fun n => .put i (.arr e t xs n false) (.ret (.own i n))
  | _, _, a, y => .ret (.v a y)

def resAVs : (k : Nat) → (t : Ty) → List (Option TypeId) → Id → Den t → Pr (List AV)
  | 1, a, fr, i, x => (resAV (fr.head?.join) i a x).bind fun y => .ret [y]
  | k + 2, .pair a b, fr, i, x =>
    (resAV (fr.head?.join) i a x.1).bind fun y => (resAVs (k + 1) b fr.tail (i + 1000) x.2).bind fun l => .ret (y :: l)
  | _, _, _, _, _ => .ret []

def tupOf : List AV → AV
  | [z] => z
  | l => .tup l
def callSm (E : Env) (S : Sm) (d : Id) (args : List AV) : Pr AV :=
  if (S.fresh.filter (·.isSome)).length ≤ 1 && !(S.outs.flat && S.fresh.any (·.isSome)) then
    (argsData E (!S.outs.flat) S.ins args).bind fun x => .opt (S.F E.n x) fun y => (resAVs S.k S.outs S.fresh d y).bind fun l => .ret (tupOf l)
  else .fail

def strTo : (s : Ty) → ByteArray → Option (List (Den s))
  | .int .u8, z => some (bytesOf z)
  | _, _ => none
def appended (E : Env) (s : Ty) (t u : TypeId) (y : AV) : Pr (List (Den s)) :=
  if u = t then y.data E true deep (.slice s) else
  if E.ty u = some .str then .opt (y.as .str) fun z => .opt (strTo s z) .ret else .fail

def builtin (E : Env) (b : Builtin) (ts : List TypeId) (d : Id) (args : List AV) : Pr AV :=
  match b, ts, args with
  | .len, [t], [x] => match E.ty t with
    | some (.slice s) => (x.data E false deep (.slice s)).bind fun xs => .ret (.v (.int .i64) (xs.length : Int))
    | some .str => .opt (x.as .str) fun s => .ret (.v (.int .i64) (s.size : Int))
    | some (.arr n _) => .ret (.v (.int .i64) (n : Int))
    | _ => .fail
  | .append, [t, u], [x, y] => match E.ty t with
    | some (.slice s) =>
      (appended E s t u y).bind fun (ys : List (Den s)) =>
      match x with
      | .lit (.slice none 0 0) => .ite (decide (ys.length ≤ E.room t)) (.next d fun n => .put d (.arr (E.el t) s ys n false) (.ret (.own d n))) .fail
      | .own i n => .get i fun
        | .arr e s' xs n' sh => if n' = n && e = E.el t then
            .opt (cast? (a := .slice s') (b := .slice s) xs) fun (xs : List (Den s)) =>
            .ite (decide (xs.length + ys.length ≤ E.room t)) (.put i (.arr e s (xs ++ ys) (n + 1) sh) (.ret (.own i (n + 1)))) .fail
          else .fail
        | _ => .fail
      | _ => .fail
    | _ => .fail
  | .min, [t, _], [x, y] => match E.ty t with
    | some (.int k) => .opt (x.as (.int k)) fun a => .opt (y.as (.int k)) fun b => .ret (.v (.int k) (if b < a then b else a))
    | _ => .fail
  | .max, [t, _], [x, y] => match E.ty t with
    | some (.int k) => .opt (x.as (.int k)) fun a => .opt (y.as (.int k)) fun b => .ret (.v (.int k) (if b > a then b else a))
    | _ => .fail
  | _, _, _ => .fail

/-- a row of one's own, clipped -/
def clipAV (args : List AV) : Pr AV := match args with
  | [.own i n] => .get i fun
    | .arr e t xs n' sh => if n' = n then .put i (.arr e t xs (n + 1) sh) (.ret (.own i (n + 1))) else .fail
    | _ => .fail
  | _ => .fail

def sameLit : AV → AV → Bool
  | .lit (.bool x), .lit (.bool y) => x == y
  | _, _ => false

/-! ### Operations -/
def tyGood : Option Ty → Bool
  | some t => !t.isOpq
  | none => false
def tyCmp : Option Ty → Bool
  | some t => t.cmp
  | none => false
def opd (f : List AV) : Operand → AV
  | .tmp t => f.getD t .undef
  | .const c => .lit c
  | .func g => .fnc g
  | .global _ => .undef

/-- the bounds of a slice, from their operands -/
def slB (f : List AV) (lo hi : Option Operand) (n : Nat) : Pr (Nat × Nat) := match lo, hi with
  | none, none => slBound none none n
  | some a, none => .opt ((opd f a).as (.int .i64)) fun a => slBound (some a) none n
  | none, some b => .opt ((opd f b).as (.int .i64)) fun b => slBound none (some b) n
  | some a, some b => .opt ((opd f a).as (.int .i64)) fun a => .opt ((opd f b).as (.int .i64)) fun b => slBound (some a) (some b) n

def sameOpd : Operand → Operand → Bool
  | .tmp a, .tmp b => a = b
  | .const (.int k x), .const (.int k' y) => k = k' && x = y
  | _, _ => false
def step (E : Env) (f : List AV) (o : Oper) : Pr AV :=
  let ρ := opd f
  let d : Id := E.al (o.dst.getD 0)
  match o.op with
  | .move x | .assign x => .ret (ρ x)
  | .pick c a b => .opt ((ρ c).as .bool) fun t => if sameLit (ρ a) (ρ b) then .ret (ρ a) else .ite t (.ret (ρ a)) (.ret (ρ b))
  | .alloc T => match E.ty T with
    | some t => .next d fun n => .put d (.box t (if t.cmp then zeros t else [zeroAV t]) n false) (.ret (.ref d n []))
    | none => .fail
  | .box T x => match E.ty T with
    | some t => .opt (fieldsN t (ρ x)) fun fs => .next d fun n => .put d (.box t fs n (E.sh0 d)) (.ret (.ref d n []))
    | none => .fail
  | .build T parts => match E.ty T with
    | some t => if t.comp then .opt (fill t (zeros t) (parts.toList.map fun (i, x) => (i, ρ x))) fun l => .ret (.agg l) else .fail
    | none => .fail
  | .buildSlice T len parts => match E.ty T with
    | some (.slice t) => if parts.size = len ∧ len * t.size ≤ 16777216 then (elems E t 0 (parts.toList.map fun (i, x) => (i, ρ x))).bind fun xs => .next d fun n => .put d (.arr (E.el T) t xs n false) (.ret (.own d n)) else .fail
    | _ => .fail
  | .load T a => match ρ a with
    | .v (.ptr t) x => if E.ty T = some t && !t.isOpq then .opt x fun y => .ret (.v t y) else .fail
    | .ref i n p => .get i fun b => if b.ver = n && tyP b p = E.ty T && tyGood (E.ty T) then loadOb b p else .fail
    | _ => .fail
  | .store T a x => match ρ a with
    | .ref i n p => .get i fun b => if b.ver = n && tyP b p = E.ty T && tyGood (E.ty T) then (storeOb b p (ρ x)).bind fun b' => .put i b' (.ret .undef) else .fail
    | _ => .fail
  | .nilCheck x => match ρ x with
    | .v (.ptr t) x => .opt x fun y => .ret (.v (.ptr t) (some y))
    | .v (.fn a k b) x => .opt x fun y => .ret (.v (.fn a k b) (some y))
    | .ref i n p => .get i fun b => if b.ver = n then .ret (.ref i n p) else .fail
    | .fnc f => .ret (.fnc f)
    | _ => .fail
  | .binOp op tx x y ty => bin E op tx (ρ x) (ρ y) (y matches .const _) ty
  | .unOp op tx x => un E op tx (ρ x)
  | .convert src dst x => conv E src dst (ρ x) d
  | .makeInterface T x => match E.ty T, E.ty o.type with
    | some a, some t => if a.plain then ((ρ x).data E true deep a).bind fun y => .opt (inj a t T y) fun z => .ret (.v t z) else .fail
    | _, _ => .fail
  | .fieldAddr T x j => match ρ x with
    | .v (.ptr t) x => if E.ty T = some t && t.cmp then .opt x fun y => (subD t y [j]).bind fun
      | .v u z => .ret (.v (.ptr u) (some z))
      | _ => .fail
      else .fail
    | .ref i n p => .get i fun b => if b.ver = n && tyP b p = E.ty T && (tyP b (p ++ [j])).isSome && tyCmp (E.ty T) then .ret (.ref i n (p ++ [j])) else .fail
    | _ => .fail
  | .field T x j => match E.ty T with
    | some t => if t.cmp then .opt ((ρ x).as t) fun y => (subD t y [j]).bind fun
      | .v u z => if u.isOpq then .fail else .ret (.v u z)
      | _ => .fail
      else .fail
    | none => .fail
  | .indexAddr T x i => .opt (ρ i).idx fun i => match E.ty T with
    | some (.slice t) => match ρ x with
      | .own id n => .get id fun
        | .arr _ t' xs n' _ => if n' = n && t' = t then .opt (at? xs i) fun _ => .ret (.ref id n [i.toNat]) else .fail
        | _ => .fail
      | y => .opt (y.as (.slice t)) fun xs => .opt (at? xs i) fun z => .ret (.v (.ptr t) (some z))
    | some (.arr m t) => match ρ x with
      | .ref id n p => .get id fun b => if b.ver = n && tyP b p = some (.arr m t) then .ite (decide (0 ≤ i) && decide (i < m)) (.ret (.ref id n (p ++ [i.toNat]))) .fail else .fail
      | .v (.ptr u) x => if u = .arr m t then .opt (cast? (a := .ptr u) (b := .ptr (.arr m t)) x) fun x => .opt x fun (xs : List (Den t)) => .opt (at? xs i) fun z => .ret (.v (.ptr t) (some z)) else .fail
      | _ => .fail
    | _ => .fail
  | .index T x i => match E.ty T with
    | some .str => .opt (ρ i).idx fun i => .opt ((ρ x).as .str) fun s => .opt (at? s.data.toList i) fun b => .ret (.v (.int .u8) (b.toNat : Int))
    | some (.arr m t) => if t.isOpq then .fail else .opt (ρ i).idx fun i => .opt ((ρ x).as (.arr m t)) fun xs => .opt (at? xs i) fun b => .ret (.v t b)
    | _ => .fail
  | .slice T x lo hi none => match E.ty T with
    | some .str => .opt ((ρ x).as .str) fun s => (slB f lo hi s.size).bind fun (l, h) => .ret (.v .str (s.extract l h))
    | some (.slice t) => ((ρ x).data E true deep (.slice t)).bind fun xs => (slB f lo hi xs.length).bind fun (l, h) => .ret (.v (.slice t) ((xs.take h).drop l))
    | _ => .fail
  | .makeSlice T l c => match E.ty T with
    | some (.slice t) => if sameOpd l c then .opt ((ρ l).as (.int .i64)) fun m =>
        .ite (decide (0 ≤ m) && decide (m ≤ E.room T)) (.next d fun n => .put d (.arr (E.el T) t (List.replicate m.toNat t.zero) n false) (.ret (.own d n))) .fail
      else .fail
    | _ => .fail
  | .typeAssert x tx u ok => match E.ty tx, E.ty u with
    | some t, some a => if hasAlt a t u && t.ifc && a.plain then ((ρ x).data E true deep t).bind fun y =>
        if ok then .ret (.tup [.v a (getAlt a t u y), .v .bool (isAlt t u y)]) else .ite (isAlt t u y) (.ret (.v a (getAlt a t u y))) .fail
      else .fail
    | _, _ => .fail
  | .range T x => match E.ty T with
    | some .str => .opt ((ρ x).as .str) fun s => .next d fun n => .put d (.iter s 0 n) (.ret (.ref d n []))
    | _ => .fail
  | .next it true => match ρ it with
    | .ref i n [] => .get i fun
      | .iter s pos n' => if n' = n then .ite (decide (pos < s.size)) (.put i (.iter s (pos + (Utf8.decode s pos).2) n) (.ret (.tup [.v .bool true, .v (.int .i64) (pos : Int), .v (.int .i32) ((Utf8.decode s pos).1 : Int)]))) (.ret (.tup [.v .bool false])) else .fail
      | _ => .fail
    | _ => .fail
  | .extract x i => match ρ x with
    | .tup l => .opt l[i]? .ret
    | _ => .fail
  | .makeFunc (.func g) first caps => match E.ty o.type, E.fn g with
    | some (.fn a k b), some S =>
      (argsData E true (takeTy S.ins first.size) (first.toList.map ρ)).bind fun xf =>
      (argsData E true (dropTy (dropTy S.ins first.size) a.len) (caps.toList.map ρ)).bind fun xc =>
      .opt (AV.asFn E a k b g (unpack _ xf) (unpack _ xc)) fun F => .ret (.v (.fn a k b) (some F))
    | _, _ => .fail
  | .call c => match c.callee with
    | .builtin b => builtin E b c.argTypes.toList d (c.args.toList.map ρ)
    | .value g => match ρ g with
      | .fnc g => if E.clip g then clipAV (c.args.toList.map ρ) else match E.fn g with
        | some S => callSm E S d (c.args.toList.map ρ)
        | none => .fail
      | .v (.fn a k b) F => .opt F fun F => callSm E ⟨a, k, b, [], F⟩ d (c.args.toList.map ρ)
      | _ => .fail
    | .invoke r m => match E.inv m with
      | some S => callSm E S d (ρ r :: c.args.toList.map ρ)
      | none => .fail
  | _ => .fail


/-! ### Regions -/
structure St where
  f : List AV
  o : Store

abbrev Trace := List (List Id × List Id)

def putD (f : List AV) (d : Option Tmp) (x : AV) : List AV := match d with | some t => f.set t x | none => f

def perform (E : Env) (o : Oper) (S : St) : T (St × List Id × List Id) :=
  ((step E S.f o).run S.o).bind fun (x, σ, r, w) => .ret (⟨putD S.f o.dst x, σ⟩, r, w)

/-- what stands where nothing was done -/
def skipAV : AV := .lit (.tuple #[])
/-- carried out where the guard wants it -/
def perform1 (E : Env) (ops : List Oper) (o : Oper) (S : St) : T (St × List Id × List Id) :=
  match o.guard with
  | none => perform E o S
  | some (j, want) =>
    match (ops[j]?).bind (·.dst) with
    | some t =>
      let go (b : Bool) (S' : St) : T (St × List Id × List Id) :=
        if b = want then perform E o S' else .ret (⟨putD S'.f o.dst skipAV, S'.o⟩, [], [])
      match S.f.getD t .undef with
      | .v .bool c => .ite c (go true ⟨S.f.set t (.v .bool true), S.o⟩) (go false ⟨S.f.set t (.v .bool false), S.o⟩)
      | .lit (.bool b) => go b S
      | .lit (.tuple _) => .ret (⟨putD S.f o.dst skipAV, S.o⟩, [], [])
      | _ => .fail
    | none => .fail

def regionT (E : Env) (ops : List Oper) : List Oper → St → T (St × Trace)
  | [], S => .ret (S, [])
  | o :: rest, S => (perform1 E ops o S).bind fun (S', e) => (regionT E ops rest S').bind fun (S'', tr) => .ret (S'', e :: tr)

/-- what each operation waits for -/
def befores : List Oper → List (List Nat) → List (List Nat)
  | [], acc => acc
  | o :: rest, acc => befores rest (acc ++ [(o.after.toList.filterMap fun e => if Region.binds .any e then some e.on else none).flatMap fun i => i :: acc.getD i []])

def names (ops : List Oper) (o : Oper) : List Tmp :=
  (o.op.operands.toList.filterMap fun | .tmp t => some t | _ => none) ++ (match o.guard with | some (g, _) => ((ops[g]?).bind (·.dst)).toList | none => [])
def tmpsApart (ops : List Oper) (x y : Oper) : Bool :=
  (match x.dst with | some d => !(names ops y).contains d && y.dst != some d | none => true) &&
  (match y.dst with | some d => !(names ops x).contains d | none => true)
def disjoint (a b : List Id) : Bool := a.all fun i => !b.contains i
def free (ops : List Oper) (x y : Oper) (ex ey : List Id × List Id) : Bool :=
  tmpsApart ops x y && disjoint ex.2 ey.1 && disjoint ex.2 ey.2 && disjoint ey.2 ex.1
def pairsOk (ops : List Oper) (bs : List (List Nat)) (tr : Trace) : Bool :=
  (List.range ops.length).all fun j => (List.range j).all fun i =>
    (bs.getD j []).contains i || (match ops[i]?, ops[j]?, tr[i]?, tr[j]? with | some x, some y, some ex, some ey => free ops x y ex ey | _, _, _, _ => false)

/-- none waits for a later one -/
def fwdFrom : List Oper → Nat → Bool
  | [], _ => true
  | o :: rest, k => (o.after.toList.all fun e => !Region.binds .any e || decide (e.on < k)) && fwdFrom rest (k + 1)
def region (E : Env) (ops : List Oper) (draw : Bool) (S : St) : T St :=
  (regionT E ops ops S).bind fun (S', tr) => if draw then (if fwdFrom ops 0 && pairsOk ops (befores ops []) tr then .ret S' else .fail) else .ret S'

/-! ### Control -/
inductive Ex where
  | normal | exit (id : Nat) | ret
  deriving DecidableEq

inductive SK where
  | d (t : Ty)
  | c (a : AV)
inductive OKd where
  | box (t : Ty) (fs : List SK) (sh : Bool)
  | arr (e : TypeId) (t : Ty) (sh : Bool)
  | iter

structure Tpl where
  n : Nat
  slots : List (Nat × SK)
  objs : List (Id × OKd)

def skTy : SK → Ty → Ty
  | .d t, r => .pair t r
  | .c _, r => r
def slotsTy : List (Nat × SK) → Ty
  | [] => .unit
  | (_, k) :: r => skTy k (slotsTy r)
def fsTy : List SK → Ty
  | [] => .unit
  | k :: r => skTy k (fsTy r)
def obTy : OKd → Ty
  | .box _ fs _ => fsTy fs
  | .arr _ t _ => .slice t
  | .iter => .pair .str (.pair (.int .i64) .unit)
def objsTy : List (Id × OKd) → Ty
  | [] => .unit
  | (_, k) :: r => .pair (obTy k) (objsTy r)
def Tpl.ty (p : Tpl) : Ty := .pair (slotsTy p.slots) (objsTy p.objs)

def mkSlots : (l : List (Nat × SK)) → Den (slotsTy l) → List AV → List AV
  | [], _, f => f
  | (i, .d t) :: r, x, f => mkSlots r x.2 (f.set i (.v t x.1))
  | (i, .c a) :: r, x, f => mkSlots r x (f.set i a)
def mkFs : (l : List SK) → Den (fsTy l) → List AV
  | [], _ => []
  | .d t :: r, x => .v t x.1 :: mkFs r x.2
  | .c a :: r, x => a :: mkFs r x
def mkOb : (k : OKd) → Den (obTy k) → Ob
  | .box t fs sh, x => .box t (mkFs fs x) 0 sh
  | .arr e t sh, x => .arr e t x 0 sh
  | .iter, x => .iter x.1 (Int.toNat x.2.1) 0
def mkObjs : (l : List (Id × OKd)) → Den (objsTy l) → Store
  | [], _ => fun _ => none
  | (i, k) :: r, x => fun j => if j = i then some (mkOb k x.1) else mkObjs r x.2 j
def Tpl.mk' (p : Tpl) (x : Den p.ty) : St := ⟨mkSlots p.slots x.1 (List.replicate p.n .undef), mkObjs p.objs x.2⟩

/-- does an AV serve where a template has 'a' -/
def serves (S : St) (a x : AV) : Bool :=
  match a, x with
  | .own i _, .own j n => i = j && (match S.o j with | some b => b.ver = n | none => false)
  | .own i _, .lit (.slice none 0 0) => (match S.o i with | some _ => false | none => true)
  | .ref i _ p, .ref j n q => i = j && p = q && (match S.o j with | some b => b.ver = n | none => false)
  | .undef, _ => true
  | _, _ => false
def asK (E : Env) (t : Ty) (x : AV) : Option (Den t) :=
  match t, x with
  | .fn a k b, .fnc f => (AV.asFn E a k b f [] []).map some
  | t, x => x.as t
def exSlots (E : Env) (S : St) : (l : List (Nat × SK)) → Option (Den (slotsTy l))
  | [] => some ()
  | (i, .d t) :: r => (asK E t (S.f.getD i .undef)).bind fun x => (exSlots E S r).map fun y => (x, y)
  | (i, .c a) :: r => if serves S a (S.f.getD i .undef) then exSlots E S r else none
def exFs (E : Env) (S : St) : (l : List SK) → List AV → Option (Den (fsTy l))
  | [], [] => some ()
  | .d t :: r, x :: l => (asK E t x).bind fun x => (exFs E S r l).map fun y => (x, y)
  | .c a :: r, x :: l => if serves S a x then exFs E S r l else none
  | _, _ => none
def exOb (E : Env) (S : St) : (k : OKd) → Option Ob → Option (Den (obTy k))
  | .box t fs sh, some (.box t' gs _ sh') => if t = t' && (sh || !sh') then exFs E S fs gs else none
  | .arr e t sh, some (.arr e' _ xs _ sh') => if (sh || !sh') && e = e' then cast? (a := .slice _) xs else none
  | .arr _ _ _, none => some []
  | .iter, some (.iter s pos _) => some (s, ((pos : Nat) : Int), ())
  | _, _ => none
def exObjs (E : Env) (S : St) : (l : List (Id × OKd)) → Option (Den (objsTy l))
  | [] => some ()
  | (i, k) :: r => (exOb E S k (S.o i)).bind fun x => (exObjs E S r).map fun y => (x, y)
def findOb : List (Id × OKd) → Id → Option OKd
  | [], _ => none
  | (i, k) :: r, j => if j = i then some k else findOb r j
def OKd.isArr : OKd → Bool
  | .arr _ _ _ => true
  | _ => false
/-- does what a template fixes hold of its own objects -/
def okC (p : Tpl) : AV → Bool
  | .own i n => n == 0 && (match findOb p.objs i with | some k => k.isArr | none => false)
  | .ref i n _ => n == 0 && (findOb p.objs i).isSome
  | .undef => true
  | _ => false
def okK (a : Ty) : SK → Bool
  | .d t => t = a
  | .c x => okF a x
def okFs : Ty → List SK → Bool
  | .pair a b, k :: r => okK a k && okFs b r
  | .unit, [] => true
  | _, _ => false
def okB (t : Ty) (fs : List SK) : Bool :=
  if t.cmp then okFs t fs else match fs with | [k] => okK t k | _ => false
def okSK (p : Tpl) : SK → Bool
  | .d _ => true
  | .c a => okC p a
def okOb (p : Tpl) : OKd → Bool
  | .box t fs _ => okB t fs && fs.all (okSK p)
  | .arr _ t _ => decide (0 < t.size)
  | .iter => true
def Tpl.ok (p : Tpl) : Bool := (p.slots.all fun s => okSK p s.2) && (p.objs.all fun s => okOb p s.2)
def Tpl.ext (E : Env) (p : Tpl) (S : St) : Option (Den p.ty) :=
  if p.ok && S.f.length == p.n then (exSlots E S p.slots).bind fun x => (exObjs E S p.objs).map fun y => (x, y) else none

/-- how a loop may be left: by which way, and in what state -/
inductive Outs where
  | last (e : Ex) (p : Tpl)
  | cons (e : Ex) (p : Tpl) (r : Outs)
@[reducible] def Outs.D : Outs → Type
  | .last _ p => Den p.ty
  | .cons _ p r => Den p.ty ⊕ r.D
def Outs.run : (o : Outs) → o.D → T (Ex × St)
  | .last e p, x => .ret (e, p.mk' x)
  | .cons e p r, x => .sum x (fun x => .ret (e, p.mk' x)) (fun y => r.run y)
def Outs.ext (E : Env) : (o : Outs) → Ex → St → Option o.D
  | .last e p, e', S => if e = e' then p.ext E S else none
  | .cons e p r, e', S => if e = e' then (p.ext E S).map .inl else (r.ext E e' S).map .inr

structure Loop where
  head : Tpl
  outs : Outs
  L : Nat → Nat → Den head.ty → Option outs.D      -- n, rounds

def exec (E : Env) (Λ : Nat → Option Loop) : Code → Nat → St → T (Ex × St)
  | .skip, _, S => .ret (.normal, S)
  | .region _ ops draw, _, S => (region E ops.toList draw S).bind fun S => .ret (.normal, S)
  | .seq a b, k, S => (exec E Λ a k S).bind fun (e, S) => match e with
    | .normal => exec E Λ b k S
    | e => .ret (e, S)
  | .cond c a b, k, S => match c with
    | .tmp t => .opt ((S.f.getD t .undef).as .bool) fun c => .ite c (exec E Λ a k ⟨S.f.set t (.v .bool true), S.o⟩) (exec E Λ b k ⟨S.f.set t (.v .bool false), S.o⟩)
    | .const (.bool true) => exec E Λ a k S
    | .const (.bool false) => exec E Λ b k S
    | _ => .fail
  | .block id c, _, S => (exec E Λ c id S).bind fun (e, S) => match e with
    | .exit id' => if id' = id then .ret (.normal, S) else .ret (.exit id', S)
    | e => .ret (e, S)
  | .loop _, k, S => match Λ k with
    | some l => .opt (l.head.ext E S) fun x => .opt (l.L E.n E.n x) fun y => l.outs.run y
    | none => .fail
  | .exit id, _, S => .ret (.exit id, S)
  | .ret, _, S => .ret (.ret, S)
  | _, _, _ => .fail

/-- the loops in a piece of code, each with the block that it lies in -/
def loopsOf : Code → Nat → List (Nat × Code)
  | .seq a b, k => loopsOf a k ++ loopsOf b k
  | .cond _ a b, k => loopsOf a k ++ loopsOf b k
  | .block id c, _ => loopsOf c id
  | .loop c, k => (k, c) :: loopsOf c 0
  | _, _ => []
def loopAt (c : Code) (k : Nat) : Code := (((loopsOf c 0).find? fun p => p.1 == k).map (·.2)).getD .skip

/-- one round: what the rounds from here on come to -/
def round (E : Env) (Λ : Nat → Option Loop) (head : Tpl) (outs : Outs) (L : Den head.ty → Option outs.D) (body : Code) (x : Den head.ty) : T outs.D :=
  (exec E Λ body 0 (head.mk' x)).bind fun (e, S) => match e with
    | .normal => .opt (head.ext E S) fun y => .of (L y)
    | e => .of (outs.ext E e S)

/-- a loop by its template: so many rounds -/
def rounds (E : Env) (Λ : Nat → Option Loop) (head : Tpl) (outs : Outs) (body : Code) : Nat → Den head.ty → Option outs.D
  | 0, _ => none
  | m + 1, x => (round E Λ head outs (rounds E Λ head outs body m) body x).eval
def mkLoop (E : Nat → Env) (Λ : Nat → Option Loop) (head : Tpl) (outs : Outs) (body : Code) : Loop := ⟨head, outs, fun n m x => rounds (E n) Λ head outs body m x⟩
/-- the loops of a piece of code: the list has the inner ones behind the outer ones -/
def mkLoops (E : Nat → Env) (c : Code) : List (Nat × Tpl × Outs) → Nat → Option Loop
  | [], _ => none
  | (k, h, o) :: r, j => if j = k then some (mkLoop E (mkLoops E c r) h o (loopAt c k)) else mkLoops E c r j

/-! ### A function -/
def resGet (E : Env) (f : List AV) (a : Ty) (r : ResultVar) : Pr AV :=
  match r with
  | .tmp t => .ret (f.getD t .undef)
  | .cell t T => match f.getD t .undef with
    | .ref i n p => .get i fun ob => if ob.ver = n && tyP ob p = E.ty T && E.ty T = some a && !a.isOpq then loadOb ob p else .fail
    | _ => .fail
def freshD (e : TypeId) : (a : Ty) → AV → Pr (Den a)
  | .slice t, .own i n => .get i fun
    | .arr e' t' xs n' sh => if n' = n && e' = e && !sh then .opt (cast? (a := .slice t') (b := .slice t) xs) .ret else .fail
    | _ => .fail
  | .slice t, .lit c => if nilSl c && decide (0 < t.size) then .ret [] else .fail
  | _, _ => .fail
def resOf1 (E : Env) (f : List AV) (a : Ty) (fr : Option TypeId) (r : ResultVar) : Pr (Den a) :=
  (resGet E f a r).bind fun x => match fr with
    | none => x.data E true deep a
    | some e => freshD e a x
def resOf (E : Env) (f : List AV) : (k : Nat) → (t : Ty) → List (Option TypeId) → List ResultVar → Pr (Den t)
  | 0, .unit, _, [] => .ret ()
  | 1, a, fr, [r] => resOf1 E f a (fr.head?.join) r
  | k + 2, .pair a b, fr, r :: rs =>
    match fr.head?.join with
    | none => (resOf1 E f a none r).bind fun x => (resOf E f (k + 1) b fr.tail rs).bind fun y => .ret (x, y)
    | some e => (resOf E f (k + 1) b fr.tail rs).bind fun y => (resOf1 E f a (some e) r).bind fun x => .ret (x, y)
  | _, _, _, _ => .fail

def body (E : Env) (Λ : Nat → Option Loop) (ins : Ty) (k : Nat) (outs : Ty) (fresh : List (Option TypeId)) (fn : Func) (c : Code) (x : Den ins) : T (Den outs) :=
  let args := unpack ins x
  (exec E Λ c 0 ⟨args ++ List.replicate (fn.ntmps - args.length) .undef, fun _ => none⟩).bind fun (e, S) => match e with
    | .normal | .ret => if (fresh.filter (·.isSome)).length ≤ 1 then ((resOf E S.f k outs fresh fn.results.toList).run S.o).bind fun (y, _, _, _) => .ret y else .fail
    | _ => .fail
/-- a function's summary: what the evaluator makes of its body -/
def mkSm (E : Nat → Env) (ins : Ty) (k : Nat) (outs : Ty) (fresh : List (Option TypeId)) (fn : Func) (loops : List (Nat × Tpl × Outs)) : Sm :=
  { ins, k, outs, fresh, F := fun n x => (body (E n) (mkLoops E (fn.body.getD .skip) loops) ins k outs fresh fn (fn.body.getD .skip) x).eval }

/-- the tables of a program -/
structure Tabs where
  ty : TypeId → Option Ty
  room : TypeId → Nat
  el : TypeId → TypeId
  eq : TypeId → Bool
  clip : FuncId → Bool := fun _ => false
def lookF (l : List (FuncId × Sm)) (f : FuncId) : Option Sm := match l with
  | [] => none
  | (g, S) :: r => if f = g then some S else lookF r f
def lookM (l : List (String × Sm)) (m : String) : Option Sm := match l with
  | [] => none
  | (g, S) :: r => if m = g then some S else lookM r m
def env (Tb : Tabs) (fns : List (FuncId × Sm)) (ms : List (String × Sm)) (n : Nat) : Env := { ty := Tb.ty, room := Tb.room, el := Tb.el, eq := Tb.eq, fn := lookF fns, inv := lookM ms, n := n, clip := Tb.clip }
def lookA (l : List (Id × Id)) (i : Id) : Id := match l with
  | [] => i
  | (j, k) :: r => if i = j then k else lookA r i
def Env.alias (E : Env) (l : List (Id × Id)) (h : List Id := []) : Env := { E with al := lookA l, sh0 := fun i => h.contains i }
end Go.AM
end

section
namespace Go.AM

/-! ### Trees and programs over the store -/
theorem T.eval_bind {α β : Type} (t : T α) (g : α → T β) : (t.bind g).eval = t.eval.bind fun a => (g a).eval := by
  induction t with
  | ret a => rfl
  | fail => rfl
  | of o => rfl
  | ite c p q hp hq => cases c <;> simp [T.bind, T.eval, hp, hq]
  | opt o k h => cases o <;> simp [T.bind, T.eval, h]
  | sum s k l hk hl => cases s <;> simp [T.bind, T.eval, hk, hl]

def Pr.ex {α : Type} : Pr α → Store → Option (α × Store)
  | .ret a, σ => some (a, σ)
  | .fail, _ => none
  | .ite c p q, σ => if c then p.ex σ else q.ex σ
  | .opt o k, σ => o.bind fun b => (k b).ex σ
  | .get i k, σ => (σ i).bind fun b => (k b).ex σ
  | .next i k, σ => (k (match σ i with | some b => b.ver + 1 | none => 0)).ex σ
  | .put i b k, σ => k.ex (σ.set i b)

theorem Pr.ex_of_run {α : Type} (p : Pr α) : ∀ (σ : Store) {a : α} {σ' : Store} {r w : List Id}, (p.run σ).eval = some (a, σ', r, w) → p.ex σ = some (a, σ') := by
  induction p with
  | ret a => intro σ a' σ' r w h; simp [Pr.run, T.eval] at h; simp [Pr.ex, h]
  | fail => intro σ a σ' r w h; simp [Pr.run, T.eval] at h
  | ite c p q hp hq => intro σ a σ' r w h; cases c <;> simp [Pr.run, T.eval] at h <;> simp [Pr.ex] <;> first | exact hq _ h | exact hp _ h
  | opt o k ih => intro σ a σ' r w h; cases o <;> simp [Pr.run, T.eval] at h; simp [Pr.ex]; exact ih _ _ h
  | get i k ih =>
    intro σ a σ' r w h
    simp only [Pr.run] at h
    cases hb : σ i with
    | none => simp [hb, T.eval] at h
    | some b =>
      simp only [hb, T.eval_bind] at h
      obtain ⟨⟨a1, s1, r1, w1⟩, h1, h2⟩ := Option.bind_eq_some_iff.1 h
      simp [T.eval] at h2
      simp [Pr.ex, hb]
      obtain ⟨rfl, rfl, _, _⟩ := h2
      exact ih _ _ h1
  | next i k ih =>
    intro σ a σ' r w h
    simp only [Pr.run, T.eval_bind] at h
    obtain ⟨⟨a1, s1, r1, w1⟩, h1, h2⟩ := Option.bind_eq_some_iff.1 h
    simp [T.eval] at h2
    obtain ⟨rfl, rfl, _, _⟩ := h2
    exact ih _ _ h1
  | put i b k ih =>
    intro σ a σ' r w h
    simp only [Pr.run, T.eval_bind] at h
    obtain ⟨⟨a1, s1, r1, w1⟩, h1, h2⟩ := Option.bind_eq_some_iff.1 h
    simp [T.eval] at h2
    obtain ⟨rfl, rfl, _, _⟩ := h2
    exact ih _ h1

theorem Pr.ex_bind {α β : Type} (p : Pr α) (g : α → Pr β) : ∀ σ, (p.bind g).ex σ = (p.ex σ).bind fun (a, σ') => (g a).ex σ' := by
  induction p with
  | ret a => intro σ; rfl
  | fail => intro σ; rfl
  | ite c p q hp hq => intro σ; cases c <;> simp [Pr.bind, Pr.ex, hp, hq]
  | opt o k ih => intro σ; cases o <;> simp [Pr.bind, Pr.ex, ih]
  | get i k ih => intro σ; cases h : σ i <;> simp [Pr.bind, Pr.ex, h, ih]
  | next i k ih => intro σ; simp [Pr.bind, Pr.ex, ih]
  | put i b k ih => intro σ; simp [Pr.bind, Pr.ex, ih]

theorem Pr.ex_bind_some {α β : Type} {p : Pr α} {g : α → Pr β} {σ σ' : Store} {b : β} (h : (p.bind g).ex σ = some (b, σ')) : ∃ a σ1, p.ex σ = some (a, σ1) ∧ (g a).ex σ1 = some (b, σ') := by
  rw [Pr.ex_bind] at h
  obtain ⟨⟨a, σ1⟩, h1, h2⟩ := Option.bind_eq_some_iff.1 h
  exact ⟨a, σ1, h1, h2⟩

/-! ### Memory that stays -/
abbrev Un := Nat → Nat → Prop

structure Le (w : World) (X : Un) (w' : World) (X' : Un) : Prop where
  size : w.heap.size ≤ w'.heap.size
  cell : ∀ b o, b < w.heap.size → ¬ X b o → w'.cell? ⟨b, o, none⟩ = w.cell? ⟨b, o, none⟩
  av : ∀ b o, b < w.heap.size → X' b o → X b o

theorem Le.refl (w : World) (X : Un) : Le w X w X := ⟨Nat.le_refl _, fun _ _ _ _ => rfl, fun _ _ _ h => h⟩
theorem Le.trans {w w' w'' : World} {X X' X'' : Un} (h : Le w X w' X') (k : Le w' X' w'' X'') : Le w X w'' X'' :=
  ⟨Nat.le_trans h.size k.size, fun b o hb hx => (k.cell b o (Nat.lt_of_lt_of_le hb h.size) (fun hx' => hx (h.av b o hb hx'))).trans (h.cell b o hb hx),
    fun b o hb hx => h.av b o hb (k.av b o (Nat.lt_of_lt_of_le hb h.size) hx)⟩

def cellsAt (w : World) (X : Un) (b o : Nat) (cs : List Value) : Prop := ∀ i c, cs[i]? = some c → w.cell? ⟨b, o + i, none⟩ = some c ∧ ¬ X b (o + i)

theorem cellsAt.mono {w w' : World} {X X' : Un} {b o : Nat} {cs : List Value} (h : cellsAt w X b o cs) (hl : Le w X w' X') : cellsAt w' X' b o cs := by
  intro i c hc
  obtain ⟨h1, h2⟩ := h i c hc
  have hb : b < w.heap.size := World.block_lt_of_cell? w ⟨b, o + i, none⟩ h1
  exact ⟨(hl.cell b _ hb h2).trans h1, fun hx => h2 (hl.av b _ hb hx)⟩

/-! ### Values that read as data -/
def Fit (t : Ty) : Value → Prop
  | .agg _ => t.comp = true
  | .tuple _ => False
  | _ => t.comp = false

/-- values, cut into their cells -/
def Spl : Ty → List Value → List Value → Prop
  | .unit, vs, cs => vs = [] ∧ cs = []
  | .pair t r, vs, cs => ∃ v vs' cs', vs = v :: vs' ∧ cs = v.cells.toList ++ cs' ∧ Fit t v ∧ v.cells.size = t.size ∧ Spl r vs' cs'
  | _, _, _ => False
def RSpl : Nat → Ty → List Value → List Value → Prop
  | 1, b, vs, cs => ∃ v, vs = [v] ∧ Fit b v ∧ cs = v.cells.toList
  | k + 2, .pair t r, vs, cs => ∃ v vs' cs', vs = v :: vs' ∧ cs = v.cells.toList ++ cs' ∧ Fit t v ∧ v.cells.size = t.size ∧ RSpl (k + 1) r vs' cs'
  | 0, .unit, vs, cs => vs = [] ∧ cs = []
  | _, _, _, _ => False
def resVal : List Value → Value
  | [v] => v
  | vs => .tuple vs.toArray

section
variable (P : Program)

/-- a call that enters the function, or one that is answered at once -/
def Invokes (f : FuncId) (args : Array Value) (w : World) (R : Ending → World → Prop) : Prop :=
  ((callFunc f args).run P w = .ok (.enter f args) w ∧ Calls P f args w R) ∨ (∃ v w', (callFunc f args).run P w = .ok (.value v) w' ∧ R (.returned v) w')

def RD : (t : Ty) → World → Un → Den t → List Value → Prop
  | .int k, _, _, n, cs => cs = [.int k n]
  | .bool, _, _, b, cs => cs = [.bool b]
  | .str, _, _, s, cs => cs = [.string s]
  | .unit, _, _, _, cs => cs = []
  | .pair a b, w, X, x, cs => ∃ c1 c2, cs = c1 ++ c2 ∧ RD a w X x.1 c1 ∧ RD b w X x.2 c2
  | .arr n t, w, X, xs, cs => (xs : List (Den t)).length = n ∧ ∃ css : List (List Value), cs = css.flatten ∧ css.length = n ∧ ∀ (i : Nat) (x : Den t) (d : List Value), (xs : List (Den t))[i]? = some x → css[i]? = some d → RD t w X x d
  | .slice t, w, X, xs, cs => ∃ (A : Option Addr) (cap : Nat), cs = [.slice A (xs : List (Den t)).length cap] ∧ (xs : List (Den t)).length ≤ cap ∧
      ∀ (i : Nat) (x : Den t), (xs : List (Den t))[i]? = some x → ∃ (a : Addr) (d : List Value), A = some a ∧ a.spot = none ∧ d.length = t.size ∧ cellsAt w X a.block (a.off + i * t.size) d ∧ RD t w X x d
  | .ptr t, w, X, x, cs => match (x : Option (Den t)) with
    | none => cs = [.pointer none]
    | some x => ∃ (a : Addr) (d : List Value), cs = [.pointer (some a)] ∧ a.spot = none ∧ d.length = t.size ∧ cellsAt w X a.block a.off d ∧ RD t w X x d
  | .nilI, _, _, _, cs => cs = [.nilIface]
  | .alt u a r, w, X, x, cs => match (x : Den a ⊕ Den r) with
    | .inl y => ∃ v, cs = [.iface u v] ∧ Fit a v ∧ RD a w X y v.cells.toList
    | .inr y => cs.length = 1 ∧ (∀ v, cs ≠ [.iface u v]) ∧ RD r w X y cs
  | .fn a k b, w, X, F, cs => match (F : Option (Nat → Den a → Option (Den b))) with
    | none => cs = [.nilFunc]
    | some F => ∃ f first caps, cs = [.func (.func f) first caps] ∧
        ∀ (m : Nat) (x : Den a) (y : Den b) (w' : World) (X' : Un) (vs : List Value) (ds : List Value), Le w X w' X' → (∀ b o, X' b o → b < w'.heap.size) → Spl a vs ds → RD a w' X' x ds → F m x = some y →
          Invokes P f (first ++ vs.toArray ++ caps) w' fun e w'' => ∃ rs es, e = .returned (resVal rs) ∧ RowKit.Below w'.heap.size w' w'' ∧ RSpl k b rs es ∧ RD b w'' X' y es
  | .opq n, _, _, _, cs => cs.length = n ∧ ∀ c ∈ cs, c.oneCell' = true

def RV (t : Ty) (w : World) (X : Un) (x : Den t) (v : Value) : Prop := Fit t v ∧ RD P t w X x v.cells.toList

variable {P}

theorem RD.mono : (t : Ty) → ∀ {w w' : World} {X X' : Un} {x : Den t} {cs : List Value}, RD P t w X x cs → Le w X w' X' → RD P t w' X' x cs
  | .int _, _, _, _, _, _, _, h, _ => h
  | .bool, _, _, _, _, _, _, h, _ => h
  | .str, _, _, _, _, _, _, h, _ => h
  | .unit, _, _, _, _, _, _, h, _ => h
  | .pair a b, _, _, _, _, _, _, h, l => by
    obtain ⟨c1, c2, h1, h2, h3⟩ := h
    exact ⟨c1, c2, h1, RD.mono a h2 l, RD.mono b h3 l⟩
  | .arr n t, _, _, _, _, _, _, h, l => by
    obtain ⟨h0, css, h1, h2, h3⟩ := h
    exact ⟨h0, css, h1, h2, fun i x d hx hd => RD.mono t (h3 i x d hx hd) l⟩
  | .slice t, _, _, _, _, _, _, h, l => by
    obtain ⟨A, cap, h1, h2, h3⟩ := h
    refine ⟨A, cap, h1, h2, fun i x hx => ?_⟩
    obtain ⟨a, d, e1, e2, e3, e4, e5⟩ := h3 i x hx
    exact ⟨a, d, e1, e2, e3, e4.mono l, RD.mono t e5 l⟩
  | .ptr t, _, _, _, _, x, _, h, l => by
    cases x with
    | none => exact h
    | some x =>
      obtain ⟨a, d, e1, e2, e3, e4, e5⟩ := h
      exact ⟨a, d, e1, e2, e3, e4.mono l, RD.mono t e5 l⟩
  | .nilI, _, _, _, _, _, _, h, _ => h
  | .alt u a r, _, _, _, _, x, _, h, l => by
    cases x with
    | inl y => obtain ⟨v, h1, h2, h3⟩ := h; exact ⟨v, h1, h2, RD.mono a h3 l⟩
    | inr y => exact ⟨h.1, h.2.1, RD.mono r h.2.2 l⟩
  | .fn a k b, _, _, _, _, F, _, h, l => by
    cases F with
    | none => exact h
    | some F =>
      obtain ⟨f, first, caps, h1, h2⟩ := h
      exact ⟨f, first, caps, h1, fun m x y w' X' vs ds hl => h2 m x y w' X' vs ds (l.trans hl)⟩
  | .opq _, _, _, _, _, _, _, h, _ => h

/-- flat data: whatever the memory -/
theorem RD.flat : (t : Ty) → t.flat = true → ∀ {w w' : World} {X X' : Un} {x : Den t} {cs : List Value}, RD P t w X x cs → RD P t w' X' x cs
  | .int _, _, _, _, _, _, _, _, h => h
  | .bool, _, _, _, _, _, _, _, h => h
  | .str, _, _, _, _, _, _, _, h => h
  | .unit, _, _, _, _, _, _, _, h => h
  | .pair a b, hf, _, _, _, _, _, _, h => by
    simp [Ty.flat] at hf
    obtain ⟨c1, c2, h1, h2, h3⟩ := h
    exact ⟨c1, c2, h1, RD.flat a hf.1 h2, RD.flat b hf.2 h3⟩
  | .arr n t, hf, _, _, _, _, _, _, h => by
    simp [Ty.flat] at hf
    obtain ⟨h0, css, h1, h2, h3⟩ := h
    exact ⟨h0, css, h1, h2, fun i x d hx hd => RD.flat t hf (h3 i x d hx hd)⟩
  | .slice _, hf, _, _, _, _, _, _, _ => by simp [Ty.flat] at hf
  | .ptr _, hf, _, _, _, _, _, _, _ => by simp [Ty.flat] at hf
  | .nilI, hf, _, _, _, _, _, _, _ => by simp [Ty.flat] at hf
  | .alt _ _ _, hf, _, _, _, _, _, _, _ => by simp [Ty.flat] at hf
  | .fn _ _ _, hf, _, _, _, _, _, _, _ => by simp [Ty.flat] at hf
  | .opq _, hf, _, _, _, _, _, _, _ => by simp [Ty.flat] at hf

theorem sum_const {css : List (List Value)} {n : Nat} (h : ∀ d ∈ css, d.length = n) : css.flatten.length = css.length * n := by
  induction css with
  | nil => simp
  | cons d l ih =>
    simp only [List.flatten_cons, List.length_append, List.length_cons, Nat.add_mul, Nat.one_mul]
    rw [ih (fun d hd => h d (List.mem_cons_of_mem _ hd)), h d (List.mem_cons_self ..)]
    omega

theorem RD.length : (t : Ty) → ∀ {w : World} {X : Un} {x : Den t} {cs : List Value}, RD P t w X x cs → cs.length = t.size
  | .int _, _, _, _, _, h => by rw [h]; rfl
  | .bool, _, _, _, _, h => by rw [h]; rfl
  | .str, _, _, _, _, h => by rw [h]; rfl
  | .unit, _, _, _, _, h => by rw [h]; rfl
  | .pair a b, _, _, _, _, h => by
    obtain ⟨c1, c2, rfl, h2, h3⟩ := h
    rw [List.length_append, RD.length a h2, RD.length b h3]; rfl
  | .arr n t, _, _, xs, _, h => by
    obtain ⟨h0, css, rfl, h2, h3⟩ := h
    rw [sum_const (n := t.size)]
    · rw [h2]; rfl
    · intro d hd
      obtain ⟨i, hi, rfl⟩ := List.getElem_of_mem hd
      have hx : i < (xs : List (Den t)).length := by omega
      exact RD.length t (h3 i _ _ (List.getElem?_eq_getElem hx) (List.getElem?_eq_getElem hi))
  | .slice _, _, _, _, _, h => by obtain ⟨A, cap, rfl, _⟩ := h; rfl
  | .ptr _, _, _, x, _, h => by
    cases x with
    | none => rw [h]; rfl
    | some x => obtain ⟨a, d, rfl, _⟩ := h; rfl
  | .nilI, _, _, _, _, h => by rw [h]; rfl
  | .alt _ _ r, _, _, x, _, h => by
    cases x with
    | inl y => obtain ⟨v, rfl, _⟩ := h; rfl
    | inr y => exact h.1
  | .fn _ _ _, _, _, F, _, h => by
    cases F with
    | none => rw [h]; rfl
    | some F => obtain ⟨f, first, caps, rfl, _⟩ := h; rfl
  | .opq _, _, _, _, _, h => h.1

theorem RD.one : (t : Ty) → ∀ {w : World} {X : Un} {x : Den t} {cs : List Value}, RD P t w X x cs → ∀ c ∈ cs, c.oneCell' = true
  | .int _, _, _, _, _, h => by rw [h]; simp [Value.oneCell']
  | .bool, _, _, _, _, h => by rw [h]; simp [Value.oneCell']
  | .str, _, _, _, _, h => by rw [h]; simp [Value.oneCell']
  | .unit, _, _, _, _, h => by rw [h]; simp
  | .pair a b, _, _, _, _, h => by
    obtain ⟨c1, c2, rfl, h2, h3⟩ := h
    intro c hc
    rcases List.mem_append.1 hc with hc | hc
    · exact RD.one a h2 c hc
    · exact RD.one b h3 c hc
  | .arr n t, _, _, xs, _, h => by
    obtain ⟨h0, css, rfl, h2, h3⟩ := h
    intro c hc
    obtain ⟨d, hd, hc⟩ := List.mem_flatten.1 hc
    obtain ⟨i, hi, rfl⟩ := List.getElem_of_mem hd
    have hx : i < (xs : List (Den t)).length := by omega
    exact RD.one t (h3 i _ _ (List.getElem?_eq_getElem hx) (List.getElem?_eq_getElem hi)) c hc
  | .slice _, _, _, _, _, h => by obtain ⟨A, cap, rfl, _⟩ := h; simp [Value.oneCell']
  | .ptr _, _, _, x, _, h => by
    cases x with
    | none => rw [h]; simp [Value.oneCell']
    | some x => obtain ⟨a, d, rfl, _⟩ := h; simp [Value.oneCell']
  | .nilI, _, _, _, _, h => by rw [h]; simp [Value.oneCell']
  | .alt _ _ r, _, _, x, _, h => by
    cases x with
    | inl y => obtain ⟨v, rfl, _⟩ := h; simp [Value.oneCell']
    | inr y => exact RD.one r h.2.2
  | .fn _ _ _, _, _, F, _, h => by
    cases F with
    | none => rw [h]; simp [Value.oneCell']
    | some F => obtain ⟨f, first, caps, rfl, _⟩ := h; simp [Value.oneCell']
  | .opq _, _, _, _, _, h => h.2
end
end Go.AM
end

section
namespace Go.AM

def baseOf : Value → Option Nat
  | .pointer (some a) => some a.block
  | .slice (some a) _ _ => some a.block
  | _ => none

/-- a row of one's own, in a block that may be longer than its room -/
def _root_.Go.World.ownsC (w : World) (base : Nat) (e : TypeId) (size : Nat) (v : Value) (n : Nat) (xs : List Value) : Prop :=
  xs.length = n * size ∧
  ((v = .slice none 0 0 ∧ n = 0) ∨
   ∃ g cap cur, v = .slice (some ⟨g, 0, none⟩) n cap ∧ base ≤ g ∧ w.heap[g]? = some (.cells cur e (0, 0)) ∧ n ≤ cap ∧ cap ≤ maxLen ∧ cap * size ≤ cur.size ∧ cur.toList.take (n * size) = xs)
theorem _root_.Go.World.ownsRow.toC {w : World} {base : Nat} {e : TypeId} {size : Nat} {v : Value} {n : Nat} {xs : List Value} (h : w.ownsRow base e size v n xs) : w.ownsC base e size v n xs := by
  refine ⟨h.1, ?_⟩
  rcases h.2 with h | ⟨g, cap, cur, h1, h2, h3, h4, h5, h6, h7⟩
  · exact .inl h
  · exact .inr ⟨g, cap, cur, h1, h2, h3, h4, h5, Nat.le_of_eq h6.symm, h7⟩
theorem _root_.Go.World.ownsC_nil (w : World) (base : Nat) (e : TypeId) (size : Nat) : w.ownsC base e size (.slice none 0 0) 0 [] := ⟨by simp, .inl ⟨rfl, rfl⟩⟩
theorem _root_.Go.World.ownsC.lt {w : World} {base : Nat} {e : TypeId} {size : Nat} {v : Value} {n : Nat} {xs : List Value} (h : w.ownsC base e size v n xs) : ∀ k, v.ownBlock = some k → base ≤ k ∧ k < w.heap.size := by
  intro k hk
  rcases h.2 with ⟨rfl, _⟩ | ⟨g, cap, cur, rfl, hb, hg, _⟩
  · simp [Value.ownBlock] at hk
  · simp [Value.ownBlock] at hk
    subst hk
    exact ⟨hb, (Array.getElem?_eq_some_iff.1 hg).1⟩
theorem _root_.Go.World.ownsC.cells {w : World} {base : Nat} {e : TypeId} {size : Nat} {v : Value} {n : Nat} {xs : List Value} (h : w.ownsC base e size v n xs) {g : Nat} (hg : v.ownBlock = some g) : ∀ j u, xs[j]? = some u → w.cell? ((⟨g, 0, none⟩ : Addr).add j) = some u := by
  intro j u hu
  rcases h.2 with ⟨rfl, _⟩ | ⟨g', cap, cur, rfl, _, hgg, _, _, _, htake⟩
  · simp [Value.ownBlock] at hg
  · simp [Value.ownBlock] at hg
    subst hg
    have hadd : (⟨g', 0, none⟩ : Addr).add j = ⟨g', j, none⟩ := by unfold Addr.add; split <;> simp_all
    rw [hadd, cell_of_row w g' j cur e (0, 0) hgg]
    rw [← htake, List.getElem?_take] at hu
    split at hu
    · simpa using hu
    · cases hu

/-- where a part lies -/
def offT : Ty → List Nat → Option Nat
  | _, [] => some 0
  | .pair a b, j :: p => match j with
    | 0 => offT a p
    | j + 1 => (offT b (j :: p)).map (a.size + ·)
  | .arr n t, j :: p => if j < n then (offT t p).map (j * t.size + ·) else none
  | _, _ => none
def offP : Ob → List Nat → Option Nat
  | .box t _ _ _, p => offT t p
  | .arr _ t xs _ _, j :: p => if j < xs.length then (offT t p).map (j * t.size + ·) else none
  | .iter _ _ _, [] => some 0
  | _, _ => none

/-- which cells of its block may still change -/
def Ob.un : Ob → Nat → Prop
  | .box _ _ _ sh, _ => sh = false
  | .arr _ t xs _ sh, o => sh = true → xs.length * t.size ≤ o
  | .iter _ _ _, _ => True

def unst (X0 : Un) (o : Store) (γ : Id → Value) : Un := fun b k => X0 b k ∨ ∃ i ob, o i = some ob ∧ baseOf (γ i) = some b ∧ ob.un k

section
variable (P : Program) (w : World) (X : Un) (o : Store) (γ : Id → Value)

mutual
/-- an AV as cells -/
def VC : AV → List Value → Prop
  | .v t x, cs => RD P t w X x cs
  | .lit c, cs => cs = c.cells.toList
  | .own i n, cs => ∃ ob val, o i = some ob ∧ (n ≤ ob.ver ∧ val.oneCell' = true) ∧ cs = [val] ∧ (n = ob.ver → val = γ i ∧ ∃ e t xs k sh, ob = .arr e t xs k sh)
  | .ref i n p, cs => ∃ ob val, o i = some ob ∧ (n ≤ ob.ver ∧ val.oneCell' = true) ∧ cs = [val] ∧ (n = ob.ver → ∃ b off, baseOf (γ i) = some b ∧ offP ob p = some off ∧ val = .pointer (some ⟨b, off, none⟩))
  | .fnc f, cs => cs = [.func (.func f) #[] #[]]
  | .agg l, cs => VCs l cs
  | .tup _, _ => False
  | .undef, _ => False
def VCs : List AV → List Value → Prop
  | [], cs => cs = []
  | x :: l, cs => ∃ c1 c2, cs = c1 ++ c2 ∧ VC x c1 ∧ VCs l c2
end

def VR1 : AV → Value → Prop
  | .v t x, v => RV P t w X x v
  | .lit c, v => v = c
  | .agg l, v => ∃ cs, v = .agg cs ∧ VCs P w X o γ l cs.toList
  | .tup _, _ => False
  | .undef, _ => True
  | x, v => VC P w X o γ x [v]
def VR : AV → Value → Prop
  | .tup l, v => ∃ vs, v = .tuple vs ∧ vs.size = l.length ∧ ∀ (i : Nat) (x : AV) (u : Value), l[i]? = some x → vs[i]? = some u → VR1 P w X o γ x u
  | x, v => VR1 P w X o γ x v

/-- an object as what lies in memory -/
def OR : Ob → Value → Prop
  | .box t fs _ _, v => ∃ b cells T, v = .pointer (some ⟨b, 0, none⟩) ∧ w.heap[b]? = some (.cells cells T (0, 0)) ∧ fs.length = (if t.cmp then t.len else 1) ∧
      (∀ (i : Nat) (x : AV) (a : Ty), fs[i]? = some x → (if t.cmp then nthTy t i else some t) = some a → okF a x = true) ∧ VCs P w X o γ fs cells.toList
  | .arr e t xs _ _, v => ∃ (cells : List Value) (css : List (List Value)), w.ownsC 0 e t.size v xs.length cells ∧ 0 < t.size ∧ cells = css.flatten ∧ css.length = xs.length ∧
      ∀ (i : Nat) (x : Den t) (d : List Value), xs[i]? = some x → css[i]? = some d → RD P t w X x d
  | .iter s pos _, v => ∃ b, v = .pointer (some ⟨b, 0, none⟩) ∧ w.heap[b]? = some (.stringIter s pos)
end

structure Rel (P : Program) (IoS : Nat → Prop) (w0 : World) (X0 : Un) (γ : Id → Value) (S : St) (a : Act) (w : World) : Prop where
  len : a.tmps.size = S.f.length
  defers : a.defers = []
  os : w.os = w0.os
  tape : w.tape = w0.tape
  output : w.output = w0.output
  size : w0.heap.size ≤ w.heap.size
  old : ∀ b, b < w0.heap.size → ¬ IoS b → w.heap[b]? = w0.heap[b]?
  x0 : ∀ b k, X0 b k → b < w0.heap.size ∧ ¬ IoS b
  vals : ∀ (i : Nat) (x : AV) (v : Value), S.f[i]? = some x → a.tmps[i]? = some v → VR P w (unst X0 S.o γ) S.o γ x v
  obs : ∀ i ob, S.o i = some ob → OR P w (unst X0 S.o γ) S.o γ ob (γ i)
  sep : ∀ i j ob ob' b, S.o i = some ob → S.o j = some ob' → baseOf (γ i) = some b → baseOf (γ j) = some b → i = j
  own : ∀ i ob b, S.o i = some ob → baseOf (γ i) = some b → (w0.heap.size ≤ b ∨ IoS b) ∧ b < w.heap.size

/-- what may become of the store and the memory, for what holds of all else -/
structure Ext (w : World) (X : Un) (o : Store) (γ : Id → Value) (w' : World) (X' : Un) (o' : Store) (γ' : Id → Value) : Prop where
  le : Le w X w' X'
  ob : ∀ i ob, o i = some ob → ∃ ob', o' i = some ob' ∧ ob.ver ≤ ob'.ver ∧ (ob'.ver = ob.ver → γ' i = γ i ∧ (∀ p, offP ob p ≠ none → offP ob' p = offP ob p) ∧ ((∃ e t xs k sh, ob = .arr e t xs k sh) → ∃ e t xs k sh, ob' = .arr e t xs k sh))

section
variable {P : Program} {w w' : World} {X X' : Un} {o o' : Store} {γ γ' : Id → Value}

mutual
theorem VC.mono : (x : AV) → ∀ {cs : List Value}, VC P w X o γ x cs → Ext w X o γ w' X' o' γ' → VC P w' X' o' γ' x cs
  | .v t x, _, h, e => RD.mono t h e.le
  | .lit c, _, h, _ => h
  | .own i n, _, h, e => by
    obtain ⟨ob, val, h1, h2, h3, h4⟩ := h
    obtain ⟨ob', g1, g2, g3⟩ := e.ob i ob h1
    refine ⟨ob', val, g1, ⟨Nat.le_trans h2.1 g2, h2.2⟩, h3, fun hn => ?_⟩
    have hv : ob'.ver = ob.ver := by have := h2.1; omega
    obtain ⟨k1, k2⟩ := h4 (by have := h2.1; omega)
    exact ⟨k1.trans (g3 hv).1.symm, (g3 hv).2.2 k2⟩
  | .ref i n p, _, h, e => by
    obtain ⟨ob, val, h1, h2, h3, h4⟩ := h
    obtain ⟨ob', g1, g2, g3⟩ := e.ob i ob h1
    refine ⟨ob', val, g1, ⟨Nat.le_trans h2.1 g2, h2.2⟩, h3, fun hn => ?_⟩
    have hv : ob'.ver = ob.ver := by have := h2.1; omega
    obtain ⟨b, off, k1, k2, k3⟩ := h4 (by have := h2.1; omega)
    exact ⟨b, off, by rw [(g3 hv).1]; exact k1, by rw [(g3 hv).2.1 p (by rw [k2]; simp)]; exact k2, k3⟩
  | .fnc f, _, h, _ => h
  | .agg l, _, h, e => VCs.mono l h e
  | .tup _, _, h, _ => h
  | .undef, _, h, _ => h
theorem VCs.mono : (l : List AV) → ∀ {cs : List Value}, VCs P w X o γ l cs → Ext w X o γ w' X' o' γ' → VCs P w' X' o' γ' l cs
  | [], _, h, _ => h
  | x :: l, _, h, e => by
    obtain ⟨c1, c2, h1, h2, h3⟩ := h
    exact ⟨c1, c2, h1, VC.mono x h2 e, VCs.mono l h3 e⟩
end

theorem VR1.mono {x : AV} {v : Value} (h : VR1 P w X o γ x v) (e : Ext w X o γ w' X' o' γ') : VR1 P w' X' o' γ' x v := by
  cases x with
  | v t x => exact ⟨h.1, RD.mono t h.2 e.le⟩
  | lit c => exact h
  | agg l => obtain ⟨cs, h1, h2⟩ := h; exact ⟨cs, h1, VCs.mono l h2 e⟩
  | tup l => exact h
  | undef => trivial
  | own i n => exact VC.mono (P := P) (.own i n) h e
  | ref i n p => exact VC.mono (P := P) (.ref i n p) h e
  | fnc f => exact h
theorem VR.mono {x : AV} {v : Value} (h : VR P w X o γ x v) (e : Ext w X o γ w' X' o' γ') : VR P w' X' o' γ' x v := by
  cases x with
  | tup l => obtain ⟨vs, h1, h3, h2⟩ := h; exact ⟨vs, h1, h3, fun i x u hx hu => (h2 i x u hx hu).mono e⟩
  | v t x => exact VR1.mono (P := P) (x := .v t x) h e
  | lit c => exact h
  | agg l => exact VR1.mono (P := P) (x := .agg l) h e
  | undef => trivial
  | own i n => exact VR1.mono (P := P) (x := .own i n) h e
  | ref i n p => exact VR1.mono (P := P) (x := .ref i n p) h e
  | fnc f => exact h

theorem VR.of1 {x : AV} {v : Value} (h : VR1 P w X o γ x v) : VR P w X o γ x v := by
  cases x <;> first | exact h | exact h.elim
theorem VR.to1 {x : AV} {v : Value} (h : VR P w X o γ x v) (hx : ∀ l, x ≠ .tup l) : VR1 P w X o γ x v := by
  cases x <;> first | exact h | exact absurd rfl (hx _)

/-- an object that isn't touched -/
theorem OR.mono {ob : Ob} {v : Value} (h : OR P w X o γ ob v) (e : Ext w X o γ w' X' o' γ') (hb : ∀ b, baseOf v = some b → w'.heap[b]? = w.heap[b]?) : OR P w' X' o' γ' ob v := by
  cases ob with
  | box t fs n sh =>
    obtain ⟨b, cells, T, rfl, h2, h3, h4, h5⟩ := h
    exact ⟨b, cells, T, rfl, (hb b rfl).trans h2, h3, h4, h5.mono _ e⟩
  | arr e' t xs n sh =>
    obtain ⟨cells, css, h1, h2, h3, h4, h5⟩ := h
    refine ⟨cells, css, ⟨h1.1, ?_⟩, h2, h3, h4, fun i x d hx hd => RD.mono t (h5 i x d hx hd) e.le⟩
    rcases h1.2 with hn | ⟨g, cap, cur, rfl, k1, k2, k3⟩
    · exact .inl hn
    · exact .inr ⟨g, cap, cur, rfl, k1, (hb g rfl).trans k2, k3⟩
  | iter s pos n =>
    obtain ⟨b, rfl, h2⟩ := h
    exact ⟨b, rfl, (hb b rfl).trans h2⟩
end
end Go.AM
end

section
namespace Go.AM
section
variable {P : Program} {IoS : Nat → Prop} {w0 : World} {X0 : Un} {γ : Id → Value} {S : St} {a : Act} {w : World}

theorem Store.set_get (σ : Store) (i : Id) (b : Ob) (j : Id) : σ.set i b j = if j = i then some b else σ j := rfl

theorem Act.tmps_put (a : Act) (d : Option Tmp) (v : Value) : (a.put d v).tmps = match d with | some t => a.tmps.setIfInBounds t v | none => a.tmps := by cases d <;> rfl
theorem Act.defers_put (a : Act) (d : Option Tmp) (v : Value) : (a.put d v).defers = a.defers := by cases d <;> rfl

/-- a value is laid into its slot -/
theorem Rel.put (h : Rel P IoS w0 X0 γ S a w) (d : Option Tmp) {x : AV} {v : Value} (hv : VR P w (unst X0 S.o γ) S.o γ x v) : Rel P IoS w0 X0 γ ⟨putD S.f d x, S.o⟩ (a.put d v) w where
  len := by cases d <;> simp [putD, Act.put, h.len]
  defers := by rw [Act.defers_put]; exact h.defers
  os := h.os
  tape := h.tape
  output := h.output
  size := h.size
  old := h.old
  x0 := h.x0
  vals := by
    intro i y u hy hu
    cases d with
    | none => exact h.vals i y u hy hu
    | some t =>
      simp only [putD, Act.put, List.getElem?_set, Array.getElem?_setIfInBounds] at hy hu
      by_cases ht : t = i
      · subst ht
        have hl := h.len
        by_cases hlt : t < S.f.length
        · have hlt' : t < a.tmps.size := by rw [hl]; exact hlt
          simp [hlt] at hy
          simp [hlt'] at hu
          rw [← hy, ← hu]
          exact hv
        · simp [hlt] at hy
      · simp [ht] at hy hu
        exact h.vals i y u hy hu
  obs := h.obs
  sep := h.sep
  own := h.own

theorem Rel.val (h : Rel P IoS w0 X0 γ S a w) (t : Nat) : VR P w (unst X0 S.o γ) S.o γ (S.f.getD t .undef) (a.tmps.getD t undef) := by
  have hl := h.len
  by_cases ht : t < S.f.length
  · have h1 : S.f[t]? = some (S.f.getD t .undef) := by simp [List.getD, ht]
    have h2 : a.tmps[t]? = some (a.tmps.getD t undef) := by simp [Array.getD, hl ▸ ht]
    exact h.vals t _ _ h1 h2
  · have h1 : S.f.getD t .undef = .undef := by simp [List.getD, Nat.not_lt.1 ht]
    rw [h1]
    trivial

theorem Rel.opd (h : Rel P IoS w0 X0 γ S a w) (x : Operand) : VR P w (unst X0 S.o γ) S.o γ (opd S.f x) (a.eval x) := by
  cases x with
  | tmp t => 
    have := h.val t
    simpa [AM.opd, Act.eval] using this
  | const c => rfl
  | global g => trivial
  | func f => exact rfl

/-- one object turns -/
structure Turn (P : Program) (X0 : Un) (γ : Id → Value) (o : Store) (w : World) (d : Id) (ob' : Ob) (v' : Value) (w' : World) : Prop where
  row : ∃ row, w.grownBy w' row ∧ (∀ b, row = some b → ∃ ob, o d = some ob ∧ baseOf (γ d) = some b)
  ver : ∀ ob, o d = some ob → ob.ver ≤ ob'.ver ∧ (ob'.ver = ob.ver → v' = γ d ∧ (∀ p, offP ob p ≠ none → offP ob' p = offP ob p) ∧ ((∃ e t xs k sh, ob = .arr e t xs k sh) → ∃ e t xs k sh, ob' = .arr e t xs k sh))
  base : ∀ b, baseOf v' = some b → ((∃ ob, o d = some ob ∧ baseOf (γ d) = some b) ∨ w.heap.size ≤ b) ∧ b < w'.heap.size
  un : ∀ b k, baseOf v' = some b → b < w.heap.size → ob'.un k → ∃ ob, o d = some ob ∧ baseOf (γ d) = some b ∧ ob.un k
  cell : ∀ ob b k, o d = some ob → baseOf (γ d) = some b → ¬ ob.un k → w'.cell? ⟨b, k, none⟩ = w.cell? ⟨b, k, none⟩

def upd1 (γ : Id → Value) (d : Id) (v : Value) : Id → Value := fun j => if j = d then v else γ j

theorem Rel.base_lt (h : Rel P IoS w0 X0 γ S a w) {i : Id} {ob : Ob} {b : Nat} (hi : S.o i = some ob) (hb : baseOf (γ i) = some b) : b < w.heap.size := (h.own i ob b hi hb).2

theorem Turn.ext {d : Id} {ob' : Ob} {v' : Value} {w' : World} (t : Turn P X0 γ S.o w d ob' v' w') (h : Rel P IoS w0 X0 γ S a w) :
    Ext w (unst X0 S.o γ) S.o γ w' (unst X0 (S.o.set d ob') (upd1 γ d v')) (S.o.set d ob') (upd1 γ d v') where
  le := by
    obtain ⟨row, hg, hrow⟩ := t.row
    refine ⟨hg.size, fun b k hb hx => ?_, fun b k hb hx => ?_⟩
    · by_cases hr : some b = row
      · obtain ⟨ob, h1, h2⟩ := hrow b hr.symm
        exact t.cell ob b k h1 h2 (fun hu => hx (.inr ⟨d, ob, h1, h2, hu⟩))
      · exact World.cell?_of_block (hg.block b hb hr)
    · rcases hx with hx | ⟨i, ob, hi, hbi, hu⟩
      · exact .inl hx
      · rw [Store.set_get] at hi
        by_cases e : i = d
        · subst e
          simp only [if_true, Option.some.injEq] at hi
          subst hi
          simp only [upd1, if_true] at hbi
          obtain ⟨ob, h1, h2, h3⟩ := t.un b k hbi hb hu
          exact .inr ⟨i, ob, h1, h2, h3⟩
        · rw [if_neg e] at hi
          simp only [upd1, if_neg e] at hbi
          exact .inr ⟨i, ob, hi, hbi, hu⟩
  ob := by
    intro i ob hi
    by_cases e : i = d
    · subst e
      obtain ⟨h1, h2⟩ := t.ver ob hi
      exact ⟨ob', by simp [Store.set_get], h1, fun hv => by simpa [upd1] using h2 hv⟩
    · exact ⟨ob, by simp [Store.set_get, e, hi], Nat.le_refl _, fun _ => ⟨by simp [upd1, e], fun _ _ => rfl, fun h => h⟩⟩

theorem Turn.rel {d : Id} {ob' : Ob} {v' : Value} {w' : World} (t : Turn P X0 γ S.o w d ob' v' w') (h : Rel P IoS w0 X0 γ S a w)
    (hob : OR P w' (unst X0 (S.o.set d ob') (upd1 γ d v')) (S.o.set d ob') (upd1 γ d v') ob' v') : Rel P IoS w0 X0 (upd1 γ d v') ⟨S.f, S.o.set d ob'⟩ a w' := by
  have he := t.ext h
  obtain ⟨row, hg, hrow⟩ := t.row
  have hblk : ∀ b, b < w.heap.size → (∀ ob, S.o d = some ob → baseOf (γ d) ≠ some b) → w'.heap[b]? = w.heap[b]? := fun b hb hn => hg.block b hb (fun e => by
    obtain ⟨ob, h1, h2⟩ := hrow b e.symm
    exact hn ob h1 h2)
  exact {
    len := h.len
    defers := h.defers
    os := hg.os.trans h.os
    tape := hg.tape.trans h.tape
    output := hg.output.trans h.output
    size := Nat.le_trans h.size hg.size
    old := fun b hb hio => by
      rw [hblk b (Nat.lt_of_lt_of_le hb h.size) (fun ob h1 h2 => ?_)]
      · exact h.old b hb hio
      · rcases (h.own d ob b h1 h2).1 with h3 | h3
        · omega
        · exact hio h3
    x0 := h.x0
    vals := fun i x v hx hv => (h.vals i x v hx hv).mono he
    obs := by
      intro i ob hi
      simp only [Store.set_get] at hi
      by_cases e : i = d
      · subst e
        simp only [if_true, Option.some.injEq] at hi
        subst hi
        simpa [upd1] using hob
      · rw [if_neg e] at hi
        have := (h.obs i ob hi).mono he (fun b hb => hblk b (h.base_lt hi hb) (fun ob' h1 h2 => e (h.sep i d ob ob' b hi h1 hb h2)))
        simpa [upd1, e] using this
    sep := by
      intro i j ob1 ob2 b hi hj hbi hbj
      simp only [Store.set_get] at hi hj
      by_cases ei : i = d <;> by_cases ej : j = d
      · rw [ei, ej]
      · rw [if_neg ej] at hj
        simp only [upd1, if_neg ej] at hbj
        simp only [upd1, if_pos ei] at hbi
        rcases (t.base b hbi).1 with ⟨ob, h1, h2⟩ | h3
        · have := h.sep d j ob ob2 b h1 hj h2 hbj
          rw [ei]; exact this
        · have := h.base_lt hj hbj; omega
      · rw [if_neg ei] at hi
        simp only [upd1, if_neg ei] at hbi
        simp only [upd1, if_pos ej] at hbj
        rcases (t.base b hbj).1 with ⟨ob, h1, h2⟩ | h3
        · have := h.sep i d ob1 ob b hi h1 hbi h2
          rw [ej]; exact this
        · have := h.base_lt hi hbi; omega
      · rw [if_neg ei] at hi
        rw [if_neg ej] at hj
        simp only [upd1, if_neg ei, if_neg ej] at hbi hbj
        exact h.sep i j ob1 ob2 b hi hj hbi hbj
    own := by
      intro i ob b hi hb
      simp only [Store.set_get] at hi
      by_cases e : i = d
      · subst e
        simp only [upd1, if_true] at hb
        obtain ⟨h1, h2⟩ := t.base b hb
        refine ⟨?_, h2⟩
        rcases h1 with ⟨ob0, h3, h4⟩ | h3
        · exact (h.own i ob0 b h3 h4).1
        · exact .inl (Nat.le_trans h.size h3)
      · rw [if_neg e] at hi
        simp only [upd1, if_neg e] at hb
        obtain ⟨h1, h2⟩ := h.own i ob b hi hb
        exact ⟨h1, Nat.lt_of_lt_of_le h2 hg.size⟩ }

/-- nothing of the store turns; the memory may grow -/
theorem Rel.world (h : Rel P IoS w0 X0 γ S a w) {w' : World} (hg : w.grownBy w' none) : Rel P IoS w0 X0 γ S a w' := by
  have he : Ext w (unst X0 S.o γ) S.o γ w' (unst X0 S.o γ) S.o γ :=
    ⟨⟨hg.size, fun b k hb _ => World.cell?_of_block (hg.block b hb (by simp)), fun _ _ _ hx => hx⟩, fun i ob hi => ⟨ob, hi, Nat.le_refl _, fun _ => ⟨rfl, fun _ _ => rfl, fun h => h⟩⟩⟩
  exact {
    len := h.len
    defers := h.defers
    os := hg.os.trans h.os
    tape := hg.tape.trans h.tape
    output := hg.output.trans h.output
    size := Nat.le_trans h.size hg.size
    old := fun b hb hio => (hg.block b (Nat.lt_of_lt_of_le hb h.size) (by simp)).trans (h.old b hb hio)
    x0 := h.x0
    vals := fun i x v hx hv => (h.vals i x v hx hv).mono he
    obs := fun i ob hi => (h.obs i ob hi).mono he (fun b hb => hg.block b (h.base_lt hi hb) (by simp))
    sep := h.sep
    own := fun i ob b hi hb => ⟨(h.own i ob b hi hb).1, Nat.lt_of_lt_of_le (h.own i ob b hi hb).2 hg.size⟩ }
theorem Ext.world (h : Rel P IoS w0 X0 γ S a w) {w' : World} (hg : w.grownBy w' none) : Ext w (unst X0 S.o γ) S.o γ w' (unst X0 S.o γ) S.o γ :=
  ⟨⟨hg.size, fun b k hb _ => World.cell?_of_block (hg.block b hb (by simp)), fun _ _ _ hx => hx⟩, fun i ob hi => ⟨ob, hi, Nat.le_refl _, fun _ => ⟨rfl, fun _ _ => rfl, fun h => h⟩⟩⟩
end
end Go.AM
end

section
namespace Go.AM

theorem cast?_some {a b : Ty} {x : Den a} {y : Den b} (h : cast? x = some y) : ∃ e : a = b, y = e ▸ x := by
  unfold cast? at h
  split at h
  · rename_i e; simp at h; exact ⟨e, h.symm⟩
  · cases h

section
variable {P : Program} {w : World} {X : Un} {o : Store} {γ : Id → Value}

theorem nilSl_eq {c : Value} (h : nilSl c = true) : c = .slice none 0 0 := by
  unfold nilSl at h
  split at h <;> simp_all
theorem nilPtr_eq {c : Value} (h : nilPtr c = true) : c = .pointer none := by
  unfold nilPtr at h
  split at h <;> simp_all
theorem nilIf_eq {c : Value} (h : nilIf c = true) : c = .nilIface := by
  unfold nilIf at h
  split at h <;> simp_all
theorem nilFn_eq {c : Value} (h : nilFn c = true) : c = .nilFunc := by
  unfold nilFn at h
  split at h <;> simp_all
theorem litInt_eq {k : IntKind} {c : Value} {n : Int} (h : litInt k c = some n) : c = .int k n := by
  unfold litInt at h
  split at h
  · split at h <;> simp_all
  · cases h
theorem litBool_eq {c : Value} {n : Bool} (h : litBool c = some n) : c = .bool n := by
  unfold litBool at h
  split at h <;> simp_all
theorem litStr_eq {c : Value} {n : ByteArray} (h : litStr c = some n) : c = .string n := by
  unfold litStr at h
  split at h <;> simp_all

theorem litAs_RV : (t : Ty) → ∀ {c : Value} {x : Den t}, litAs t c = some x → RV P t w X x c
  | .int k, c, x, h => by
    have e := litInt_eq (show litInt k c = some x from h)
    subst e; exact ⟨rfl, rfl⟩
  | .bool, c, x, h => by
    have e := litBool_eq (show litBool c = some x from h)
    subst e; exact ⟨rfl, rfl⟩
  | .str, c, x, h => by
    have e := litStr_eq (show litStr c = some x from h)
    subst e; exact ⟨rfl, rfl⟩
  | .unit, c, x, h => by cases h
  | .pair _ _, c, x, h => by cases h
  | .arr _ _, c, x, h => by cases h
  | .opq _, c, x, h => by cases h
  | .slice t, c, x, h => by
    have h' : (if nilSl c then some ([] : List (Den t)) else none) = some x := h
    split at h'
    · rename_i hc
      have e := nilSl_eq hc
      subst e
      simp only [Option.some.injEq] at h'
      subst h'
      exact ⟨rfl, none, 0, rfl, Nat.le_refl _, fun i x hx => by simp at hx⟩
    · cases h'
  | .ptr t, c, x, h => by
    have h' : (if nilPtr c then some (none : Option (Den t)) else none) = some x := h
    split at h'
    · rename_i hc
      have e := nilPtr_eq hc
      subst e
      simp only [Option.some.injEq] at h'
      subst h'
      exact ⟨rfl, rfl⟩
    · cases h'
  | .nilI, c, x, h => by
    have h' : (if nilIf c then some () else none) = some x := h
    split at h'
    · rename_i hc
      have e := nilIf_eq hc
      subst e
      exact ⟨rfl, rfl⟩
    · cases h'
  | .alt u a r, c, x, h => by
    have h' : (if nilIf c then (litAs r c).map Sum.inr else none) = some x := h
    split at h'
    · rename_i hc
      have e := nilIf_eq hc
      subst e
      obtain ⟨y, hy, e⟩ := Option.map_eq_some_iff.1 h'
      subst e
      exact ⟨rfl, rfl, by simp [Value.cells], (litAs_RV r hy).2⟩
    · cases h'
  | .fn a k b, c, x, h => by
    have h' : (if nilFn c then some (none : Option (Nat → Den a → Option (Den b))) else none) = some x := h
    split at h'
    · rename_i hc
      have e := nilFn_eq hc
      subst e
      simp only [Option.some.injEq] at h'
      subst h'
      exact ⟨rfl, rfl⟩
    · cases h'

theorem RD.arr_nil {t : Ty} : RD P (.arr 0 t) w X ([] : List (Den t)) [] := ⟨rfl, [], rfl, rfl, fun i x d hx => by simp at hx⟩
theorem RD.arr_cons {n : Nat} {t : Ty} {y : Den t} {z : List (Den t)} {c1 c2 : List Value} (h1 : RD P t w X y c1) (h2 : RD P (.arr n t) w X z c2) : RD P (.arr (n + 1) t) w X (y :: z : List (Den t)) (c1 ++ c2) := by
  obtain ⟨e, css, rfl, e2, h⟩ := h2
  refine ⟨by simp [e], c1 :: css, rfl, by simp [e2], fun i x d hx hd => ?_⟩
  cases i with
  | zero => simp at hx hd; subst hx; subst hd; exact h1
  | succ i => simp at hx hd; exact h i x d hx hd

theorem aggAs_comp {t : Ty} {l : List AV} {y : Den t} (h : aggAs t l = some y) : t.comp = true := by
  cases t <;> first | rfl | (cases l <;> cases h)

mutual
theorem as_VC : (x : AV) → ∀ {t : Ty} {y : Den t} {cs : List Value}, x.as t = some y → VC P w X o γ x cs → RD P t w X y cs
  | .v t' x, t, y, cs, h, hc => by
    obtain ⟨e, h'⟩ := cast?_some (show cast? x = some y from h)
    subst e; subst h'; exact hc
  | .lit c, t, y, cs, h, hc => by
    have := litAs_RV (P := P) (w := w) (X := X) t (show litAs t c = some y from h)
    have hc' : cs = c.cells.toList := hc
    rw [hc']; exact this.2
  | .agg l, t, y, cs, h, hc => aggAs_VCs l (show aggAs t l = some y from h) hc
  | .own _ _, _, _, _, h, _ => by cases h
  | .ref _ _ _, _, _, _, h, _ => by cases h
  | .tup _, _, _, _, h, _ => by cases h
  | .fnc _, _, _, _, h, _ => by cases h
  | .undef, _, _, _, h, _ => by cases h
theorem aggAs_VCs : (l : List AV) → ∀ {t : Ty} {y : Den t} {cs : List Value}, aggAs t l = some y → VCs P w X o γ l cs → RD P t w X y cs
  | [], t, y, cs, h, hc => by
    have hc' : cs = [] := hc
    subst hc'
    cases t with
    | unit => rfl
    | arr n t =>
      cases n with
      | zero =>
        have h' : some ([] : List (Den t)) = some y := h
        simp only [Option.some.injEq] at h'
        subst h'
        exact RD.arr_nil
      | succ n => cases h
    | _ => cases h
  | x :: l, t, y, cs, h, hc => by
    obtain ⟨c1, c2, rfl, h1, h2⟩ := hc
    cases t with
    | pair a b =>
      have h' : ((AV.as a x).bind fun y => (aggAs b l).map fun z => (y, z)) = some y := h
      obtain ⟨y1, e1, h'⟩ := Option.bind_eq_some_iff.1 h'
      obtain ⟨y2, e2, h'⟩ := Option.map_eq_some_iff.1 h'
      subst h'
      exact ⟨c1, c2, rfl, as_VC x e1 h1, aggAs_VCs l e2 h2⟩
    | arr n t =>
      cases n with
      | zero => cases h
      | succ n =>
        have h' : ((AV.as t x).bind fun y => (aggAs (.arr n t) l).map fun z => (y :: z : List (Den t))) = some y := h
        obtain ⟨y1, e1, h'⟩ := Option.bind_eq_some_iff.1 h'
        obtain ⟨y2, e2, h'⟩ := Option.map_eq_some_iff.1 h'
        subst h'
        exact RD.arr_cons (as_VC x e1 h1) (aggAs_VCs l e2 h2)
    | _ => cases h
end

theorem as_VR1 {x : AV} {t : Ty} {y : Den t} {v : Value} (h : x.as t = some y) (hv : VR1 P w X o γ x v) : RV P t w X y v := by
  cases x with
  | v t' x =>
    obtain ⟨e, h'⟩ := cast?_some (show cast? x = some y from h)
    subst e; subst h'; exact hv
  | lit c =>
    have hv' : v = c := hv
    subst hv'
    exact litAs_RV t h
  | agg l =>
    obtain ⟨cs, rfl, h2⟩ := hv
    exact ⟨aggAs_comp (show aggAs t l = some y from h), aggAs_VCs l h h2⟩
  | own _ _ => cases h
  | ref _ _ _ => cases h
  | tup _ => cases h
  | fnc _ => cases h
  | undef => cases h
theorem as_VR {x : AV} {t : Ty} {y : Den t} {v : Value} (h : x.as t = some y) (hv : VR P w X o γ x v) : RV P t w X y v := by
  cases x with
  | tup _ => cases h
  | v t' x => exact as_VR1 (o := o) (γ := γ) h hv
  | lit c => exact as_VR1 (o := o) (γ := γ) h hv
  | agg l => exact as_VR1 (o := o) (γ := γ) h hv
  | own _ _ => cases h
  | ref _ _ _ => cases h
  | fnc _ => cases h
  | undef => cases h

/-- data as the value of a slot -/
theorem idx_VR {x : AV} {i : Int} {v : Value} (h : x.idx = some i) (hv : VR P w X o γ x v) : ∃ k, v = .int k i := by
  cases x with
  | v t y =>
    cases t with
    | int k =>
      have e : (y : Int) = i := Option.some.inj h
      subst e
      have h1 : v.cells.toList = [Value.int k y] := hv.2
      have h2 : Fit (.int k) v := hv.1
      exact ⟨k, by cases v <;> simp_all [Fit, Value.cells, Ty.comp]⟩
    | _ => cases h
  | lit c =>
    cases c with
    | int k n =>
      have e : n = i := Option.some.inj h
      subst e
      exact ⟨k, hv⟩
    | _ => cases h
  | _ => cases h
theorem RV.int_inv {k : IntKind} {n : Int} {v : Value} (h : RV P (.int k) w X n v) : v = .int k n := by
  obtain ⟨h1, h2⟩ := h
  have h2' : v.cells.toList = [.int k n] := h2
  cases v <;> simp [Value.cells] at h2' <;> first | (obtain ⟨rfl, rfl⟩ := h2'; rfl) | (simp [Fit, Ty.comp] at h1)
theorem RV.bool_inv {b : Bool} {v : Value} (h : RV P .bool w X b v) : v = .bool b := by
  obtain ⟨h1, h2⟩ := h
  have h2' : v.cells.toList = [.bool b] := h2
  cases v <;> simp [Value.cells] at h2' <;> first | exact congrArg _ h2' | (simp [Fit, Ty.comp] at h1)
theorem RV.str_inv {s : ByteArray} {v : Value} (h : RV P .str w X s v) : v = .string s := by
  obtain ⟨h1, h2⟩ := h
  have h2' : v.cells.toList = [.string s] := h2
  cases v <;> simp [Value.cells] at h2' <;> first | exact congrArg _ h2' | (simp [Fit, Ty.comp] at h1)
/-- what is no struct and no array lies in one cell -/
theorem RV.one {t : Ty} {x : Den t} {v : Value} (ht : t.comp = false) (h : RV P t w X x v) : v.cells = #[v] ∧ RD P t w X x [v] := by
  obtain ⟨h1, h2⟩ := h
  cases v <;> simp only [Value.cells] at h2 ⊢ <;> first | exact ⟨trivial, h2⟩ | (simp [Fit, ht] at h1)
theorem RV.agg {t : Ty} {x : Den t} {v : Value} (ht : t.comp = true) (h : RV P t w X x v) : ∃ cs, v = .agg cs ∧ RD P t w X x cs.toList := by
  obtain ⟨h1, h2⟩ := h
  cases v <;> first | (simp [Fit, ht] at h1; done) | exact ⟨_, rfl, h2⟩

/-! ### Lists of values -/
def VRs (P : Program) (w : World) (X : Un) (o : Store) (γ : Id → Value) : List AV → List Value → Prop
  | [], vs => vs = []
  | x :: l, vs => ∃ v vs', vs = v :: vs' ∧ VR1 P w X o γ x v ∧ VRs P w X o γ l vs'

theorem VRs.append {l l' : List AV} {vs vs' : List Value} (h : VRs P w X o γ l vs) (h' : VRs P w X o γ l' vs') : VRs P w X o γ (l ++ l') (vs ++ vs') := by
  induction l generalizing vs with
  | nil => have : vs = [] := h; subst this; exact h'
  | cons x l ih => obtain ⟨v, vs1, rfl, h1, h2⟩ := h; exact ⟨v, vs1 ++ vs', rfl, h1, ih h2⟩

theorem VRs.mono {w' : World} {X' : Un} {o' : Store} {γ' : Id → Value} {l : List AV} {vs : List Value} (h : VRs P w X o γ l vs) (e : Ext w X o γ w' X' o' γ') : VRs P w' X' o' γ' l vs := by
  induction l generalizing vs with
  | nil => exact h
  | cons x l ih => obtain ⟨v, vs1, rfl, h1, h2⟩ := h; exact ⟨v, vs1, rfl, h1.mono e, ih h2⟩

theorem argsAs_args : (l : List AV) → ∀ {t : Ty} {y : Den t} {vs : List Value}, argsAs t l = some y → VRs P w X o γ l vs → ∃ ds, Spl t vs ds ∧ RD P t w X y ds
  | [], t, y, vs, h, hv => by
    have hv' : vs = [] := hv
    subst hv'
    cases t with
    | unit => exact ⟨[], ⟨rfl, rfl⟩, rfl⟩
    | _ => cases h
  | x :: l, t, y, vs, h, hv => by
    obtain ⟨v, vs', rfl, h1, h2⟩ := hv
    cases t with
    | pair a b =>
      have h' : ((AV.as a x).bind fun y => (argsAs b l).map fun z => (y, z)) = some y := h
      obtain ⟨y1, e1, h'⟩ := Option.bind_eq_some_iff.1 h'
      obtain ⟨y2, e2, h'⟩ := Option.map_eq_some_iff.1 h'
      subst h'
      have r1 := as_VR1 e1 h1
      obtain ⟨ds, s1, s2⟩ := argsAs_args l e2 h2
      exact ⟨v.cells.toList ++ ds, ⟨v, vs', ds, rfl, rfl, r1.1, by rw [← Array.length_toList]; exact RD.length a r1.2, s1⟩, ⟨_, _, rfl, r1.2, s2⟩⟩
    | _ => cases h

theorem unpack_args : (t : Ty) → ∀ {x : Den t} {vs ds : List Value}, Spl t vs ds → RD P t w X x ds → VRs P w X o γ (unpack t x) vs
  | .unit, _, _, _, h, _ => h.1
  | .pair a b, x, vs, ds, h, hr => by
    obtain ⟨v, vs', cs', rfl, rfl, h1, h2, h3⟩ := h
    obtain ⟨c1, c2, e, r1, r2⟩ := hr
    have hl : c1.length = v.cells.toList.length := by rw [RD.length a r1, Array.length_toList, h2]
    obtain ⟨rfl, rfl⟩ := List.append_inj e hl.symm
    exact ⟨v, vs', rfl, ⟨h1, r1⟩, unpack_args b h3 r2⟩
  | .int _, _, _, _, h, _ => h.elim
  | .bool, _, _, _, h, _ => h.elim
  | .str, _, _, _, h, _ => h.elim
  | .arr _ _, _, _, _, h, _ => h.elim
  | .slice _, _, _, _, h, _ => h.elim
  | .ptr _, _, _, _, h, _ => h.elim
  | .nilI, _, _, _, h, _ => h.elim
  | .alt _ _ _, _, _, _, h, _ => h.elim
  | .fn _ _ _, _, _, _, h, _ => h.elim
  | .opq _, _, _, _, h, _ => h.elim
end
end Go.AM
end

section
namespace Go.AM
open RowKit

def OwnV (P : Program) (w : World) (X : Un) (B : Nat) (e : TypeId) (t : Ty) (xs : List (Den t)) (v : Value) : Prop :=
  ∃ (cells : List Value) (css : List (List Value)), w.ownsC B e t.size v xs.length cells ∧ 0 < t.size ∧ cells = css.flatten ∧ css.length = xs.length ∧
    ∀ (i : Nat) (x : Den t) (d : List Value), xs[i]? = some x → css[i]? = some d → RD P t w X x d

def One (P : Program) (w : World) (X : Un) (B : Nat) : Option TypeId → (t : Ty) → Den t → Value → Prop
  | some e, .slice t, xs, v => OwnV P w X B e t xs v
  | _, t, y, v => RV P t w X y v
def ResR (P : Program) (w : World) (X : Un) (B : Nat) : Nat → (t : Ty) → List (Option TypeId) → Den t → List Value → Prop
  | 0, .unit, _, _, rs => rs = []
  | 1, t, fr, y, rs => ∃ v, rs = [v] ∧ One P w X B fr.head?.join t y v
  | k + 2, .pair a b, fr, y, rs => ∃ v rs', rs = v :: rs' ∧ One P w X B fr.head?.join a y.1 v ∧ ResR P w X B (k + 1) b fr.tail y.2 rs'
  | _, _, _, _, _ => False
def frV : List (Option TypeId) → List Value → List Value
  | some _ :: fr, v :: rs => v :: frV fr rs
  | none :: fr, _ :: rs => frV fr rs
  | _, _ => []
def Xr (X : Un) (fr : List (Option TypeId)) (rs : List Value) : Un := fun b k => X b k ∨ ∃ v, v ∈ frV fr rs ∧ baseOf v = some b

def SmOK (P : Program) (n : Nat) (f : FuncId) (S : Sm) : Prop :=
  ∀ (w : World) (X : Un) (x : Den S.ins) (y : Den S.outs) (vs ds : List Value), (∀ b k, X b k → b < w.heap.size) → Spl S.ins vs ds → RD P S.ins w X x ds → S.F n x = some y →
    Invokes P f vs.toArray w fun e w' => ∃ rs, e = .returned (resVal rs) ∧ Below w.heap.size w w' ∧
      (frV S.fresh rs).Pairwise (fun u v => ∀ b, baseOf u = some b → baseOf v ≠ some b) ∧ ResR P w' (Xr X S.fresh rs) w.heap.size S.k S.outs S.fresh y rs

theorem Invokes.mono {P : Program} {f : FuncId} {args : Array Value} {w : World} {R R' : Ending → World → Prop} (h : Invokes P f args w R) (hr : ∀ e w', R e w' → R' e w') : Invokes P f args w R' := by
  rcases h with ⟨h1, h2⟩ | ⟨v, w', h1, h2⟩
  · exact .inl ⟨h1, h2.mono hr⟩
  · exact .inr ⟨v, w', h1, hr _ _ h2⟩

theorem frV_none {fr : List (Option TypeId)} (h : fr.any (·.isSome) = false) (rs : List Value) : frV fr rs = [] := by
  induction fr generalizing rs with
  | nil => cases rs <;> rfl
  | cons x fr ih =>
    cases x with
    | some e => simp at h
    | none => cases rs with
      | nil => rfl
      | cons v rs => exact ih (by simpa using h) rs
theorem Xr_none {fr : List (Option TypeId)} (h : fr.any (·.isSome) = false) (X : Un) (rs : List Value) : Xr X fr rs = X := by
  funext b k
  simp [Xr, frV_none h]

theorem One_none {P : Program} {w : World} {X : Un} {B : Nat} {fr : List (Option TypeId)} (h : fr.any (·.isSome) = false) {t : Ty} {y : Den t} {v : Value} (ho : One P w X B fr.head?.join t y v) : RV P t w X y v := by
  have : fr.head?.join = none := by
    cases fr with
    | nil => rfl
    | cons x fr => cases x with
      | none => rfl
      | some e => simp at h
  rw [this] at ho
  exact ho

theorem ResR_plain {P : Program} {w : World} {X : Un} {B : Nat} : (k : Nat) → (t : Ty) → ∀ {fr : List (Option TypeId)} {y : Den t} {rs : List Value}, fr.any (·.isSome) = false → ResR P w X B k t fr y rs → ∃ es, RSpl k t rs es ∧ RD P t w X y es
  | 0, t, fr, y, rs, hf, h => by
    cases t with
    | unit => exact ⟨[], ⟨h, rfl⟩, rfl⟩
    | _ => exact h.elim
  | 1, t, fr, y, rs, hf, h => by
    obtain ⟨v, rfl, ho⟩ := h
    have hv := One_none hf ho
    exact ⟨v.cells.toList, ⟨v, rfl, hv.1, rfl⟩, hv.2⟩
  | k + 2, t, fr, y, rs, hf, h => by
    cases t with
    | pair a b =>
      obtain ⟨v, rs', rfl, ho, hr⟩ := h
      have hv := One_none hf ho
      have hf' : fr.tail.any (·.isSome) = false := by
        cases fr with
        | nil => rfl
        | cons z fr => simp only [List.any_cons, Bool.or_eq_false_iff] at hf; exact hf.2
      obtain ⟨es, h1, h2⟩ := ResR_plain (k + 1) b hf' hr
      exact ⟨v.cells.toList ++ es, ⟨v, rs', es, rfl, rfl, hv.1, by rw [← Array.length_toList]; exact RD.length a hv.2, h1⟩, ⟨_, _, rfl, hv.2, h2⟩⟩
    | _ => exact h.elim

theorem RSpl_cells {k : Nat} {t : Ty} {rs es : List Value} : RSpl k t rs es → True := fun _ => trivial

/-- of what is told by RSpl and RD: the results one by one -/
theorem ResR_of_plain {P : Program} {w : World} {X : Un} {B : Nat} : (k : Nat) → (t : Ty) → ∀ {y : Den t} {rs es : List Value}, RSpl k t rs es → RD P t w X y es → ResR P w X B k t [] y rs
  | 0, t, y, rs, es, h, hr => by
    cases t with
    | unit => exact h.1
    | _ => exact h.elim
  | 1, t, y, rs, es, h, hr => by
    obtain ⟨v, rfl, h1, rfl⟩ := h
    exact ⟨v, rfl, h1, hr⟩
  | k + 2, t, y, rs, es, h, hr => by
    cases t with
    | pair a b =>
      obtain ⟨v, rs', es', rfl, rfl, h1, h2, h3⟩ := h
      obtain ⟨c1, c2, e, r1, r2⟩ := hr
      have hl : c1.length = v.cells.toList.length := by rw [RD.length a r1, Array.length_toList, h2]
      obtain ⟨rfl, rfl⟩ := List.append_inj e hl.symm
      exact ⟨v, rs', rfl, ⟨h1, r1⟩, ResR_of_plain (k + 1) b h3 r2⟩
    | _ => exact h.elim

def FnOK (P : Program) (w : World) (X : Un) (a : Ty) (k : Nat) (b : Ty) (F : Nat → Den a → Option (Den b)) (v : Value) : Prop :=
  ∃ f first caps, v = .func (.func f) first caps ∧
    ∀ (m : Nat) (x : Den a) (y : Den b) (w' : World) (X' : Un) (vs : List Value) (ds : List Value), Le w X w' X' → (∀ b o, X' b o → b < w'.heap.size) → Spl a vs ds → RD P a w' X' x ds → F m x = some y →
      Invokes P f (first ++ vs.toArray ++ caps) w' fun e w'' => ∃ rs es, e = .returned (resVal rs) ∧ Below w'.heap.size w' w'' ∧ RSpl k b rs es ∧ RD P b w'' X' y es
theorem FnOK.RV {P : Program} {w : World} {X : Un} {a : Ty} {k : Nat} {b : Ty} {F : Nat → Den a → Option (Den b)} {v : Value} (h : FnOK P w X a k b F v) : RV P (.fn a k b) w X (some F) v := by
  obtain ⟨f, first, caps, rfl, h⟩ := h
  exact ⟨rfl, f, first, caps, rfl, h⟩

section
variable {P : Program} {IoS : Nat → Prop} {w0 : World} {X0 : Un} {γ : Id → Value} {S : St} {a : Act} {w : World} {o : Store}

theorem asFn_OK {E : Env} (hE : ∀ f S, E.fn f = some S → ∀ m, SmOK P m f S) {X : Un} {a : Ty} {k : Nat} {b : Ty} {f : FuncId} {tF tC : Ty} {xf : Den tF} {xc : Den tC} {F : Nat → Den a → Option (Den b)}
    (h : AV.asFn E a k b f (unpack tF xf) (unpack tC xc) = some F) {vf vc df dc : List Value} (sf : Spl tF vf df) (rf : RD P tF w X xf df) (sc : Spl tC vc dc) (rc : RD P tC w X xc dc) :
    FnOK P w X a k b F (.func (.func f) vf.toArray vc.toArray) := by
  unfold AV.asFn at h
  split at h
  · rename_i S hS
    split at h
    · rename_i hb
      subst hb
      split at h
      · rename_i hk
        simp only [Bool.and_eq_true, decide_eq_true_eq, Bool.not_eq_true'] at hk
        obtain ⟨hk, hfr⟩ := hk
        subst hk
        simp only [Option.some.injEq] at h
        subst h
        refine ⟨f, vf.toArray, vc.toArray, rfl, fun m x y w' X' vs ds hl hx hs hr hF => ?_⟩
        obtain ⟨z, hz, hF⟩ := Option.bind_eq_some_iff.1 hF
        have v1 : VRs P w' X' (fun _ => none) (fun _ => undef) (unpack tF xf) vf := unpack_args tF sf (rf.mono tF hl)
        have v2 : VRs P w' X' (fun _ => none) (fun _ => undef) (unpack a x) vs := unpack_args a hs hr
        have v3 : VRs P w' X' (fun _ => none) (fun _ => undef) (unpack tC xc) vc := unpack_args tC sc (rc.mono tC hl)
        obtain ⟨es, q1, q2⟩ := argsAs_args _ hz ((v1.append v2).append v3)
        have hc := hE f S hS m w' X' z y _ es hx q1 q2 hF
        simp only [← List.append_toArray] at hc
        refine hc.mono fun e w'' he => ?_
        obtain ⟨rs, g1, g2, _, g3⟩ := he
        rw [Xr_none hfr] at g3
        obtain ⟨es', k1, k2⟩ := ResR_plain _ _ hfr g3
        exact ⟨rs, es', g1, g2, k1, k2⟩
      · cases h
    · cases h
  · cases h
end
end Go.AM
end

section
namespace Go.AM
open RowKit

def Ob.shared : Ob → Ob
  | .box t fs n _ => .box t fs n true
  | .arr e t xs n _ => .arr e t xs n true
  | x => x

section
variable {P : Program} {IoS : Nat → Prop} {w0 : World} {X0 : Un} {γ : Id → Value} {S : St} {a : Act} {w : World}

theorem upd1_self (γ : Id → Value) (i : Id) : upd1 γ i (γ i) = γ := by
  funext j
  simp only [upd1]
  split
  · rename_i e; rw [e]
  · rfl

theorem Rel.notUn (h : Rel P IoS w0 X0 γ S a w) {i : Id} {ob : Ob} {b k : Nat} (hi : S.o i = some ob) (hb : baseOf (γ i) = some b) (hu : ¬ ob.un k) : ¬ unst X0 S.o γ b k := by
  rintro (hx | ⟨j, ob', hj, hb', hu'⟩)
  · obtain ⟨h1, h2⟩ := h.x0 b k hx
    rcases (h.own i ob b hi hb).1 with h3 | h3
    · omega
    · exact h2 h3
  · have e := h.sep i j ob ob' b hi hj hb hb'
    subst e
    rw [hi] at hj
    simp only [Option.some.injEq] at hj
    subst hj
    exact hu hu'
theorem Rel.notX0 (h : Rel P IoS w0 X0 γ S a w) {i : Id} {ob : Ob} {b k : Nat} (hi : S.o i = some ob) (hb : baseOf (γ i) = some b) : ¬ X0 b k := by
  intro hx
  obtain ⟨h1, h2⟩ := h.x0 b k hx
  rcases (h.own i ob b hi hb).1 with h3 | h3
  · omega
  · exact h2 h3

theorem shared_un {ob : Ob} {k : Nat} (h : ob.shared.un k) : ob.un k := by
  cases ob with
  | box t fs n sh => simp [Ob.shared, Ob.un] at h
  | arr e t xs n sh => intro _; exact h rfl
  | iter s p n => trivial

theorem grownBy_refl (w : World) (row : Option Nat) : w.grownBy w row := ⟨rfl, rfl, rfl, Nat.le_refl _, fun _ _ _ => rfl⟩

theorem Rel.shareT (h : Rel P IoS w0 X0 γ S a w) {i : Id} {ob : Ob} (hi : S.o i = some ob) : Turn P X0 γ S.o w i ob.shared (γ i) w where
  row := ⟨none, grownBy_refl w none, fun b hb => by cases hb⟩
  ver := by
    intro ob' h'
    rw [hi] at h'
    simp only [Option.some.injEq] at h'
    subst h'
    refine ⟨by cases ob <;> exact Nat.le_refl _, fun _ => ⟨rfl, fun p _ => ?_, ?_⟩⟩
    · cases ob <;> cases p <;> rfl
    · rintro ⟨e, t, xs, k, sh, rfl⟩; exact ⟨e, t, xs, k, true, rfl⟩
  base := fun b hb => ⟨.inl ⟨ob, hi, hb⟩, h.base_lt hi hb⟩
  un := fun b k hb _ hu => ⟨ob, hi, hb, shared_un hu⟩
  cell := fun _ _ _ _ _ _ => rfl

theorem Rel.shareE (h : Rel P IoS w0 X0 γ S a w) {i : Id} {ob : Ob} (hi : S.o i = some ob) :
    Ext w (unst X0 S.o γ) S.o γ w (unst X0 (S.o.set i ob.shared) γ) (S.o.set i ob.shared) γ := by
  have := (h.shareT hi).ext h
  rwa [upd1_self] at this
theorem Rel.share (h : Rel P IoS w0 X0 γ S a w) {i : Id} {ob : Ob} (hi : S.o i = some ob) : Rel P IoS w0 X0 γ ⟨S.f, S.o.set i ob.shared⟩ a w := by
  have hob : OR P w (unst X0 (S.o.set i ob.shared) γ) (S.o.set i ob.shared) γ ob.shared (γ i) := by
    have := (h.obs i ob hi).mono (h.shareE hi) (fun b _ => rfl)
    cases ob <;> exact this
  have := (h.shareT hi).rel h (by rw [upd1_self]; exact hob)
  rwa [upd1_self] at this

def Flags (σ σ' : Store) : Prop := ∀ j, σ' j = σ j ∨ ∃ ob, σ j = some ob ∧ σ' j = some ob.shared
theorem Flags.refl (σ : Store) : Flags σ σ := fun _ => .inl rfl
theorem shared_shared (ob : Ob) : ob.shared.shared = ob.shared := by cases ob <;> rfl
theorem Flags.trans {σ σ1 σ2 : Store} (h : Flags σ σ1) (k : Flags σ1 σ2) : Flags σ σ2 := by
  intro j
  rcases h j with h1 | ⟨ob, h1, h2⟩ <;> rcases k j with k1 | ⟨ob', k1, k2⟩
  · exact .inl (k1.trans h1)
  · exact .inr ⟨ob', h1 ▸ k1, k2⟩
  · exact .inr ⟨ob, h1, k1.trans h2⟩
  · rw [h2] at k1
    simp only [Option.some.injEq] at k1
    subst k1
    exact .inr ⟨ob, h1, by rw [k2, shared_shared]⟩
theorem Flags.set {σ : Store} {i : Id} {ob : Ob} (hi : σ i = some ob) : Flags σ (σ.set i ob.shared) := by
  intro j
  by_cases e : j = i
  · subst e; exact .inr ⟨ob, hi, by simp [Store.set_get]⟩
  · exact .inl (by simp [Store.set_get, e])

theorem Ext.trans {w1 w2 w3 : World} {X1 X2 X3 : Un} {o1 o2 o3 : Store} {γ1 γ2 γ3 : Id → Value} (h : Ext w1 X1 o1 γ1 w2 X2 o2 γ2) (k : Ext w2 X2 o2 γ2 w3 X3 o3 γ3) : Ext w1 X1 o1 γ1 w3 X3 o3 γ3 where
  le := h.le.trans k.le
  ob := by
    intro i ob hi
    obtain ⟨ob2, h1, h2, h3⟩ := h.ob i ob hi
    obtain ⟨ob3, k1, k2, k3⟩ := k.ob i ob2 h1
    refine ⟨ob3, k1, Nat.le_trans h2 k2, fun hv => ?_⟩
    have e1 : ob2.ver = ob.ver := by omega
    have e2 : ob3.ver = ob2.ver := by omega
    obtain ⟨a1, a2, a3⟩ := h3 e1
    obtain ⟨b1, b2, b3⟩ := k3 e2
    refine ⟨b1.trans a1, fun p hp => ?_, fun hx => b3 (a3 hx)⟩
    rw [b2 p (by rw [a2 p hp]; exact hp), a2 p hp]
theorem Ext.refl (w : World) (X : Un) (o : Store) (γ : Id → Value) : Ext w X o γ w X o γ := ⟨Le.refl _ _, fun i ob hi => ⟨ob, hi, Nat.le_refl _, fun _ => ⟨rfl, fun _ _ => rfl, fun h => h⟩⟩⟩

theorem flatten_at {css : List (List Value)} {n : Nat} (h : ∀ d ∈ css, d.length = n) : ∀ {j r : Nat} {d : List Value}, css[j]? = some d → r < n → css.flatten[j * n + r]? = d[r]? := by
  induction css with
  | nil => intro j r d hd; simp at hd
  | cons c l ih =>
    intro j r d hd hr
    have hc : c.length = n := h c (List.mem_cons_self ..)
    cases j with
    | zero =>
      simp at hd
      subst hd
      simp only [List.flatten_cons, Nat.zero_mul, Nat.zero_add]
      rw [List.getElem?_append_left (by omega)]
    | succ j =>
      simp at hd
      simp only [List.flatten_cons]
      rw [List.getElem?_append_right (by rw [hc, Nat.add_mul]; omega), hc]
      have : (j + 1) * n + r - n = j * n + r := by rw [Nat.add_mul]; omega
      rw [this]
      exact ih (fun d hd => h d (List.mem_cons_of_mem _ hd)) hd hr

theorem css_len {t : Ty} {xs : List (Den t)} {css : List (List Value)} {X : Un} (hl : css.length = xs.length) (h : ∀ (i : Nat) (x : Den t) (d : List Value), xs[i]? = some x → css[i]? = some d → RD P t w X x d) : ∀ d ∈ css, d.length = t.size := by
  intro d hd
  obtain ⟨i, hi, rfl⟩ := List.getElem_of_mem hd
  exact RD.length t (h i _ _ (List.getElem?_eq_getElem (by omega)) (List.getElem?_eq_getElem hi))

theorem Addr.add_plain (g j : Nat) : (⟨g, 0, none⟩ : Addr).add j = ⟨g, j, none⟩ := by unfold Addr.add; split <;> simp_all

/-- an owned row as data -/
theorem arr_RV {X Y : Un} {B : Nat} {e : TypeId} {t : Ty} {xs : List (Den t)} {v : Value} (h : OwnV P w X B e t xs v)
    (hY : ∀ b k, baseOf v = some b → k < xs.length * t.size → ¬ Y b k) (hle : Le w X w Y) : RV P (.slice t) w Y xs v := by
  obtain ⟨cells, css, h1, h2, rfl, h4, h5⟩ := h
  have hlen := css_len h4 h5
  rcases h1.2 with ⟨rfl, hn⟩ | ⟨g, cap, cur, rfl, k1, k2, k3, k4, k5, k6⟩
  · have hx : xs = [] := List.eq_nil_of_length_eq_zero hn
    subst hx
    exact ⟨rfl, none, 0, rfl, Nat.le_refl _, fun i x hx => by simp at hx⟩
  · refine ⟨rfl, some ⟨g, 0, none⟩, cap, rfl, k3, fun i x hx => ?_⟩
    have hi : i < css.length := by rw [h4]; exact (List.getElem?_eq_some_iff.1 hx).1
    have hd : css[i]? = some css[i] := List.getElem?_eq_getElem hi
    have hr := h5 i x css[i] hx hd
    refine ⟨⟨g, 0, none⟩, css[i], rfl, rfl, RD.length t hr, fun r c hc => ?_, hr.mono t hle⟩
    have hrl : r < t.size := by rw [← RD.length t hr]; exact (List.getElem?_eq_some_iff.1 hc).1
    have hf := flatten_at hlen hd hrl
    rw [hc] at hf
    have hcell := h1.cells (g := g) rfl (i * t.size + r) c hf
    rw [Addr.add_plain] at hcell
    simp only [Nat.zero_add]
    refine ⟨hcell, hY g _ rfl ?_⟩
    have : i + 1 ≤ xs.length := by omega
    have := Nat.mul_le_mul_right t.size this
    rw [Nat.add_mul] at this
    omega

/-- a box as data behind a pointer -/
theorem box_RV {X Y : Un} {t : Ty} {fs : List AV} {n : Nat} {sh : Bool} {v : Value} {o : Store} (h : OR P w X o γ (.box t fs n sh) v) {y : Den t}
    (hy : ∀ cs, VCs P w X o γ fs cs → RD P t w Y y cs) (hY : ∀ b k, baseOf v = some b → ¬ Y b k) : RV P (.ptr t) w Y (some y) v := by
  obtain ⟨b, cells, T, rfl, h2, h3, h4, h5⟩ := h
  have hr := hy _ h5
  refine ⟨rfl, ⟨b, 0, none⟩, cells.toList, rfl, rfl, RD.length t hr, fun r c hc => ?_, hr⟩
  simp only [Nat.zero_add]
  refine ⟨?_, hY b _ rfl⟩
  simp only [World.cell?, h2]
  simpa using hc
end
end Go.AM
end

section
set_option linter.unusedSectionVars false
namespace Go.AM
open RowKit

def Yof (m : Bool) (X0 : Un) (σ : Store) (γ : Id → Value) : Un := if m then unst X0 σ γ else X0

section
variable {P : Program} {IoS : Nat → Prop} {w0 : World} {X0 : Un} {γ : Id → Value} {a : Act} {w : World} {E : Env}

theorem Yof_le (m : Bool) (σ : Store) : Le w (unst X0 σ γ) w (Yof m X0 σ γ) := by
  cases m
  · exact ⟨Nat.le_refl _, fun _ _ _ _ => rfl, fun b k _ h => .inl h⟩
  · exact Le.refl _ _
theorem Yof_ext {m : Bool} {σ σ' : Store} (h : Ext w (unst X0 σ γ) σ γ w (unst X0 σ' γ) σ' γ) : Le w (Yof m X0 σ γ) w (Yof m X0 σ' γ) := by
  cases m
  · exact Le.refl _ _
  · exact h.le

structure DOut (P : Program) (IoS : Nat → Prop) (w0 : World) (X0 : Un) (γ : Id → Value) (a : Act) (w : World) (m : Bool) (S : St) (σ' : Store) : Prop where
  rel : Rel P IoS w0 X0 γ ⟨S.f, σ'⟩ a w
  ext : Ext w (unst X0 S.o γ) S.o γ w (unst X0 σ' γ) σ' γ
  flags : Flags S.o σ'
  same : m = false → σ' = S.o

theorem DOut.refl {m : Bool} {S : St} (h : Rel P IoS w0 X0 γ S a w) : DOut P IoS w0 X0 γ a w m S S.o := ⟨h, Ext.refl _ _ _ _, Flags.refl _, fun _ => rfl⟩
theorem DOut.trans {m : Bool} {S : St} {σ1 σ2 : Store} (h : DOut P IoS w0 X0 γ a w m S σ1) (k : DOut P IoS w0 X0 γ a w m ⟨S.f, σ1⟩ σ2) : DOut P IoS w0 X0 γ a w m S σ2 :=
  ⟨k.rel, h.ext.trans k.ext, h.flags.trans k.flags, fun e => (k.same e).trans (h.same e)⟩

theorem opt_ex {α β : Type} {x : Option β} {k : β → Pr α} {σ σ' : Store} {y : α} (h : (Pr.opt x k).ex σ = some (y, σ')) : ∃ z, x = some z ∧ (k z).ex σ = some (y, σ') := Option.bind_eq_some_iff.1 h
theorem ret_ex {α : Type} {x y : α} {σ σ' : Store} (h : (Pr.ret x).ex σ = some (y, σ')) : x = y ∧ σ = σ' := by
  have h' : some (x, σ) = some (y, σ') := h
  simp only [Option.some.injEq, Prod.mk.injEq] at h'
  exact h'
theorem get_ex {α : Type} {i : Id} {k : Ob → Pr α} {σ σ' : Store} {y : α} (h : (Pr.get i k).ex σ = some (y, σ')) : ∃ ob, σ i = some ob ∧ (k ob).ex σ = some (y, σ') := Option.bind_eq_some_iff.1 h

/-- sharing, where it is asked for -/
theorem DOut.share {m : Bool} {S : St} (h : Rel P IoS w0 X0 γ S a w) {i : Id} {ob : Ob} (hi : S.o i = some ob) : DOut P IoS w0 X0 γ a w true S (S.o.set i ob.shared) :=
  ⟨h.share hi, h.shareE hi, Flags.set hi, fun e => by cases e⟩

theorem notY {m : Bool} {S : St} (h : Rel P IoS w0 X0 γ S a w) {i : Id} {ob : Ob} {b k : Nat} (hi : S.o i = some ob) (hb : baseOf (γ i) = some b) (hu : m = true → ¬ ob.un k) : ¬ Yof m X0 S.o γ b k := by
  cases m
  · exact h.notX0 hi hb
  · exact h.notUn hi hb (hu rfl)

variable (hE : ∀ f S, E.fn f = some S → ∀ m, SmOK P m f S)
include hE
mutual
theorem data_ok (m : Bool) : (d : Nat) → ∀ {t : Ty} {x : AV} {S : St} {y : Den t} {σ' : Store}, Rel P IoS w0 X0 γ S a w → (x.data E m d t).ex S.o = some (y, σ') →
    DOut P IoS w0 X0 γ a w m S σ' ∧ (∀ cs, VC P w (unst X0 S.o γ) S.o γ x cs → RD P t w (Yof m X0 σ' γ) y cs) ∧ (∀ v, VR1 P w (unst X0 S.o γ) S.o γ x v → RV P t w (Yof m X0 σ' γ) y v)
  | 0, t, x, S, y, σ', hr, h => by cases h
  | d + 1, t, x, S, y, σ', hr, h => by
    cases x with
    | v t' x =>
      obtain ⟨z, hz, h⟩ := opt_ex (show (Pr.opt (cast? x) Pr.ret).ex S.o = some (y, σ') from h)
      obtain ⟨rfl, rfl⟩ := ret_ex h
      obtain ⟨e, h'⟩ := cast?_some hz
      subst e; subst h'
      exact ⟨DOut.refl hr, fun cs hc => RD.mono t' hc (Yof_le m _), fun v hv => ⟨hv.1, RD.mono t' hv.2 (Yof_le m _)⟩⟩
    | lit c =>
      obtain ⟨z, hz, h⟩ := opt_ex (show (Pr.opt (litAs t c) Pr.ret).ex S.o = some (y, σ') from h)
      obtain ⟨rfl, rfl⟩ := ret_ex h
      have hl := litAs_RV (P := P) (w := w) (X := Yof m X0 S.o γ) t hz
      exact ⟨DOut.refl hr, fun cs hc => by rw [show cs = c.cells.toList from hc]; exact hl.2, fun v hv => by rw [show v = c from hv]; exact hl⟩
    | own i n =>
      obtain ⟨ob, hi, g0⟩ := get_ex h
      clear h
      cases ob with
      | box t fs n' sh => cases g0
      | iter s p n' => cases g0
      | arr e t' xs n' sh =>
        replace g0 : (if n' = n then Pr.opt (cast? (a := .slice t') (b := t) xs) fun y => if m && !sh then .put i (.arr e t' xs n' true) (.ret y) else .ret y else .fail).ex S.o = some (y, σ') := g0
        split at g0
        · rename_i hn
          subst hn
          obtain ⟨z, hz, h⟩ := opt_ex g0
          clear g0
          obtain ⟨e', h'⟩ := cast?_some hz
          subst e'; subst h'
          have key : DOut P IoS w0 X0 γ a w m S σ' ∧ z = y ∧ RV P (.slice t') w (Yof m X0 σ' γ) z (γ i) := by
            cases hms : (m && !sh) with
            | false =>
              rw [hms] at h
              obtain ⟨rfl, rfl⟩ := ret_ex h
              refine ⟨DOut.refl hr, rfl, ?_⟩
              obtain ⟨cells, css, g⟩ := hr.obs i _ hi
              exact arr_RV ⟨cells, css, g⟩ (fun b k hb hk => notY (m := m) hr hi hb (fun e hu => by
                subst e
                have hs : sh = true := by simpa using hms
                have := hu hs
                omega)) (Yof_le m _)
            | true =>
              rw [hms] at h
              obtain ⟨rfl, _⟩ : m = true ∧ sh = false := by simpa using hms
              have h' : some (z, S.o.set i (.arr e t' z n' true)) = some (y, σ') := h
              simp only [Option.some.injEq, Prod.mk.injEq] at h'
              obtain ⟨rfl, rfl⟩ := h'
              have hs := DOut.share (m := true) hr hi
              refine ⟨hs, rfl, ?_⟩
              have hi' : (S.o.set i (.arr e t' z n' true)) i = some (.arr e t' z n' true) := by simp [Store.set_get]
              obtain ⟨cells, css, g⟩ := hs.rel.obs i _ hi'
              exact arr_RV ⟨cells, css, g⟩ (fun b k hb hk => hs.rel.notUn hi' hb (fun hu => by have := hu rfl; omega)) (Le.refl _ _)
          obtain ⟨k1, rfl, k2⟩ := key
          have leaf : ∀ v, VC P w (unst X0 S.o γ) S.o γ (.own i n') [v] → RV P (.slice t') w (Yof m X0 σ' γ) z v := by
            rintro v ⟨ob, val, g1, g2, g3, g4⟩
            rw [hi] at g1
            simp only [Option.some.injEq] at g1
            subst g1
            simp only [List.cons.injEq, and_true] at g3
            subst g3
            rw [(g4 rfl).1]
            exact k2
          refine ⟨k1, fun cs hc => ?_, fun v hv => leaf v hv⟩
          obtain ⟨ob, val, g1, g2, rfl, g4⟩ := hc
          exact ((leaf val ⟨ob, val, g1, g2, rfl, g4⟩).one rfl).2
        · cases g0
    | ref i n p =>
      cases t with
      | ptr s =>
        cases p with
        | cons j p => cases h
        | nil =>
          obtain ⟨ob, hi, g0⟩ := get_ex (show (Pr.get i _).ex S.o = some (y, σ') from h)
          clear h
          cases ob with
          | arr e t xs n' sh => cases g0
          | iter s p n' => cases g0
          | box t' fs n' sh =>
            simp only at g0
            split at g0
            · rename_i hn
              simp only [Bool.and_eq_true, decide_eq_true_eq] at hn
              obtain ⟨rfl, rfl⟩ := hn
              obtain ⟨y1, σ1, h1, h2⟩ := Pr.ex_bind_some g0
              clear g0
              have key : DOut P IoS w0 X0 γ a w m S σ1 ∧ ∀ cs, VCs P w (unst X0 S.o γ) S.o γ fs cs → RD P t' w (Yof m X0 σ1 γ) y1 cs := by
                split at h1
                · rename_i x1 e1
                  obtain ⟨k1, k2, _⟩ := data_ok m d hr h1
                  refine ⟨k1, fun cs hc => ?_⟩
                  obtain ⟨c1, c2, rfl, g1, g2⟩ := hc
                  have : c2 = [] := g2
                  subst this
                  rw [List.append_nil]
                  exact k2 c1 g1
                · obtain ⟨k1, k2⟩ := aggData_ok m d hr h1
                  exact ⟨k1, k2⟩
                · cases h1
              obtain ⟨k1, k2⟩ := key
              have hi1 : σ1 i = some (.box t' fs n' sh) ∨ σ1 i = some (.box t' fs n' true) := by
                rcases k1.flags i with g | ⟨ob, g1, g2⟩
                · exact .inl (g.trans hi)
                · rw [hi] at g1
                  simp only [Option.some.injEq] at g1
                  subst g1
                  exact .inr g2
              obtain ⟨sh1, hi1⟩ : ∃ sh1, σ1 i = some (.box t' fs n' sh1) := by rcases hi1 with g | g <;> exact ⟨_, g⟩
              have hboxE : ∀ cs, VCs P w (unst X0 σ1 γ) σ1 γ fs cs → True := fun _ _ => trivial
              have key2 : DOut P IoS w0 X0 γ a w m S σ' ∧ some y1 = y ∧ RV P (.ptr t') w (Yof m X0 σ' γ) (some y1) (γ i) := by
                cases hms : (m && !sh) with
                | false =>
                  rw [hms] at h2
                  obtain ⟨rfl, rfl⟩ := ret_ex h2
                  refine ⟨k1, rfl, ?_⟩
                  cases m with
                  | false =>
                    have hs := k1.same rfl
                    subst hs
                    exact box_RV (o := S.o) (hr.obs i _ hi) (fun cs hc => k2 cs hc) (fun b k hb => notY (m := false) hr hi hb (fun e => by cases e))
                  | true =>
                    have hs : sh = true := by simpa using hms
                    subst hs
                    have hi1' : σ1 i = some (.box t' fs n' true) := by
                      rcases k1.flags i with g | ⟨ob, g1, g2⟩
                      · exact g.trans hi
                      · rw [hi] at g1
                        simp only [Option.some.injEq] at g1
                        subst g1
                        exact g2
                    exact box_RV (o := S.o) (X := unst X0 S.o γ) (hr.obs i _ hi) (fun cs hc => k2 cs hc) (fun b k hb => k1.rel.notUn hi1' hb (by simp [Ob.un]))
                | true =>
                  rw [hms] at h2
                  obtain ⟨rfl, _⟩ : m = true ∧ sh = false := by simpa using hms
                  have h' : some (some y1, σ1.set i (.box t' fs n' true)) = some (y, σ') := h2
                  simp only [Option.some.injEq, Prod.mk.injEq] at h'
                  obtain ⟨rfl, rfl⟩ := h'
                  have hs := DOut.share (m := true) k1.rel hi1
                  refine ⟨k1.trans hs, rfl, ?_⟩
                  have hi2 : (σ1.set i (.box t' fs n' true)) i = some (.box t' fs n' true) := by simp [Store.set_get]
                  exact box_RV (o := S.o) (X := unst X0 S.o γ) (hr.obs i _ hi) (fun cs hc => RD.mono t' (k2 cs hc) (Yof_ext (m := true) hs.ext)) (fun b k hb => hs.rel.notUn hi2 hb (by simp [Ob.un]))
              obtain ⟨q1, rfl, q2⟩ := key2
              have leaf : ∀ v, VC P w (unst X0 S.o γ) S.o γ (.ref i n' []) [v] → RV P (.ptr t') w (Yof m X0 σ' γ) (some y1) v := by
                rintro v ⟨ob, val, g1, g2, g3, g4⟩
                rw [hi] at g1
                simp only [Option.some.injEq] at g1
                subst g1
                simp only [List.cons.injEq, and_true] at g3
                subst g3
                obtain ⟨b, off, j1, j2, rfl⟩ := g4 rfl
                obtain ⟨b', cells, T, e1, _⟩ := hr.obs i _ hi
                rw [e1] at j1 q2
                have hb : b' = b := by simpa [baseOf] using j1
                have ho : off = 0 := by
                  have : offT t' [] = some off := j2
                  cases t' <;> simpa [offT] using this.symm
                subst hb; subst ho
                exact q2
              refine ⟨q1, fun cs hc => ?_, fun v hv => leaf v hv⟩
              obtain ⟨ob, val, g1, g2, rfl, g4⟩ := hc
              exact ((leaf val ⟨ob, val, g1, g2, rfl, g4⟩).one rfl).2
            · cases g0
      | _ => cases h
    | agg l =>
      obtain ⟨k1, k2⟩ := aggData_ok m d hr (show (aggData E m d t l).ex S.o = some (y, σ') from h)
      refine ⟨k1, k2, fun v hv => ?_⟩
      obtain ⟨cs, rfl, hv⟩ := hv
      refine ⟨?_, k2 _ hv⟩
      cases d with
      | zero => cases h
      | succ d => cases t <;> first | rfl | (cases l <;> cases h)
    | tup l => cases h
    | undef => cases h
    | fnc f =>
      cases t with
      | fn a k b =>
        obtain ⟨F, hF, h⟩ := opt_ex (show (Pr.opt (AV.asFn E a k b f [] []) fun F => Pr.ret (some F)).ex S.o = some (y, σ') from h)
        obtain ⟨rfl, rfl⟩ := ret_ex h
        have hf := (asFn_OK (w := w) (X := Yof m X0 S.o γ) (tF := .unit) (tC := .unit) (xf := ()) (xc := ()) hE hF (vf := []) (vc := []) (df := []) (dc := []) ⟨rfl, rfl⟩ rfl ⟨rfl, rfl⟩ rfl).RV
        refine ⟨DOut.refl hr, fun cs hc => ?_, fun v hv => ?_⟩
        · rw [show cs = [.func (.func f) #[] #[]] from hc]
          exact (hf.one rfl).2
        · have hv' : [v] = [Value.func (.func f) #[] #[]] := hv
          simp only [List.cons.injEq, and_true] at hv'
          subst hv'
          exact hf
      | _ => cases h
theorem aggData_ok (m : Bool) : (d : Nat) → ∀ {t : Ty} {l : List AV} {S : St} {y : Den t} {σ' : Store}, Rel P IoS w0 X0 γ S a w → (aggData E m d t l).ex S.o = some (y, σ') →
    DOut P IoS w0 X0 γ a w m S σ' ∧ (∀ cs, VCs P w (unst X0 S.o γ) S.o γ l cs → RD P t w (Yof m X0 σ' γ) y cs)
  | 0, t, l, S, y, σ', hr, h => by cases h
  | d + 1, t, l, S, y, σ', hr, h => by
    cases l with
    | nil =>
      cases t with
      | unit =>
        obtain ⟨rfl, rfl⟩ := ret_ex (show (Pr.ret ()).ex S.o = some (y, σ') from h)
        exact ⟨DOut.refl hr, fun cs hc => hc⟩
      | arr n t =>
        cases n with
        | zero =>
          obtain ⟨rfl, rfl⟩ := ret_ex (show (Pr.ret ([] : List (Den t))).ex S.o = some (y, σ') from h)
          refine ⟨DOut.refl hr, fun cs hc => ?_⟩
          rw [show cs = [] from hc]
          exact RD.arr_nil
        | succ n => cases h
      | _ => cases h
    | cons x l =>
      cases t with
      | pair t1 t2 =>
        obtain ⟨y1, σ1, h1, h2⟩ := Pr.ex_bind_some (show ((AV.data E m d t1 x).bind fun y => (aggData E m d t2 l).bind fun z => .ret (y, z)).ex S.o = some (y, σ') from h)
        obtain ⟨y2, σ2, h4, h3⟩ := Pr.ex_bind_some h2
        obtain ⟨rfl, rfl⟩ := ret_ex h3
        obtain ⟨k1, k2, _⟩ := data_ok m d hr h1
        obtain ⟨q1, q2⟩ := aggData_ok (S := ⟨S.f, σ1⟩) m d k1.rel h4
        refine ⟨k1.trans q1, fun cs hc => ?_⟩
        obtain ⟨c1, c2, rfl, g1, g2⟩ := hc
        exact ⟨c1, c2, rfl, RD.mono t1 (k2 c1 g1) (Yof_ext q1.ext), q2 c2 (g2.mono _ k1.ext)⟩
      | arr n t =>
        cases n with
        | zero => cases h
        | succ n =>
          obtain ⟨y1, σ1, h1, h2⟩ := Pr.ex_bind_some (show ((AV.data E m d t x).bind fun y => (aggData E m d (.arr n t) l).bind fun z => .ret (y :: z : List (Den t))).ex S.o = some (y, σ') from h)
          obtain ⟨y2, σ2, h4, h3⟩ := Pr.ex_bind_some h2
          obtain ⟨rfl, rfl⟩ := ret_ex h3
          obtain ⟨k1, k2, _⟩ := data_ok m d hr h1
          obtain ⟨q1, q2⟩ := aggData_ok (S := ⟨S.f, σ1⟩) m d k1.rel h4
          refine ⟨k1.trans q1, fun cs hc => ?_⟩
          obtain ⟨c1, c2, rfl, g1, g2⟩ := hc
          exact RD.arr_cons (RD.mono t (k2 c1 g1) (Yof_ext q1.ext)) (q2 c2 (g2.mono _ k1.ext))
      | _ => cases h
end
end
end Go.AM
end

section
set_option linter.unusedSectionVars false
namespace Go.AM
open RowKit

def zc : Ty → List Value → Prop
  | .int k, cs => cs = [.int k 0]
  | .bool, cs => cs = [.bool false]
  | .str, cs => cs = [.string ⟨#[]⟩]
  | .unit, cs => cs = []
  | .pair a b, cs => ∃ c1 c2, cs = c1 ++ c2 ∧ zc a c1 ∧ zc b c2
  | .arr n t, cs => ∃ css : List (List Value), cs = css.flatten ∧ css.length = n ∧ ∀ d ∈ css, zc t d
  | .slice _, cs => cs = [.slice none 0 0]
  | .ptr _, cs => cs = [.pointer none]
  | .nilI, cs => cs = [.nilIface]
  | .alt _ _ r, cs => cs = [.nilIface] ∧ zc r cs
  | .fn _ _ _, cs => cs = [.nilFunc]
  | .opq n, cs => cs.length = n ∧ ∀ c ∈ cs, c.oneCell' = true

def TOK (P : Program) (T : TypeId) (t : Ty) : Prop := ∃ i z, P.info? T = some i ∧ i.size = t.size ∧ i.zero = some z ∧ Fit t z ∧ zc t z.cells.toList

mutual
def TyOK (P : Program) : Ty → TypeId → Prop
  | .int k, T => TOK P T (.int k) ∧ P.underlying T = some (.int k)
  | .bool, T => TOK P T .bool ∧ P.underlying T = some .bool
  | .str, T => TOK P T .str ∧ P.underlying T = some .string
  | .unit, T => TOK P T .unit ∧ P.stoodInHeld T = false ∧ ∃ fs, P.underlying T = some (.struct fs) ∧ fs.toList = []
  | .pair a b, T => TOK P T (.pair a b) ∧ P.stoodInHeld T = false ∧ ∃ fs f l, P.underlying T = some (.struct fs) ∧ fs.toList = f :: l ∧ (f.offset = 0 ∧ 0 < a.size ∧ f.name ≠ "_" ∧ TyOK P a f.type) ∧ FsOK P b l a.size
  | .arr n t, T => TOK P T (.arr n t) ∧ ∃ e, P.underlying T = some (.array n e) ∧ TyOK P t e
  | .slice t, T => TOK P T (.slice t) ∧ 0 < t.size ∧ ∃ e, P.underlying T = some (.slice e) ∧ TyOK P t e
  | .ptr t, T => TOK P T (.ptr t) ∧ ∃ e, P.underlying T = some (.pointer e)
  | .nilI, T => TOK P T .nilI ∧ ∃ ms, P.underlying T = some (.interface ms)
  | .alt u a r, T => TOK P T (.alt u a r) ∧ ∃ ms, P.underlying T = some (.interface ms)
  | .fn a k b, T => TOK P T (.fn a k b) ∧ ∃ x y z, P.underlying T = some (.func x y z)
  | .opq n, T => TOK P T (.opq n)
def FsOK (P : Program) : Ty → List Field → Nat → Prop
  | .unit, l, _ => l = []
  | .pair a b, l, k => ∃ f l', l = f :: l' ∧ (f.offset = k ∧ 0 < a.size ∧ f.name ≠ "_" ∧ TyOK P a f.type) ∧ FsOK P b l' (k + a.size)
  | _, _, _ => False
end

theorem TyOK.tok {P : Program} {t : Ty} {T : TypeId} (h : TyOK P t T) : TOK P T t := by
  cases t with
  | opq n => exact h
  | _ => exact h.1

/-- what is called, however it is found -/
def Inv (P : Program) (s : Sem Next) (w : World) (R : Ending → World → Prop) : Prop :=
  (∃ f args, s.run P w = .ok (.enter f args) w ∧ Calls P f args w R) ∨ (∃ v w', s.run P w = .ok (.value v) w' ∧ R (.returned v) w')
theorem Invokes.inv {P : Program} {f : FuncId} {args : Array Value} {w : World} {R : Ending → World → Prop} (h : Invokes P f args w R) : Inv P (callFunc f args) w R := by
  rcases h with ⟨h1, h2⟩ | h
  · exact .inl ⟨f, args, h1, h2⟩
  · exact .inr h

/-- what a summary tells of the outcome -/
def Told (P : Program) (w : World) (X : Un) (S : Sm) (y : Den S.outs) (e : Ending) (w' : World) : Prop :=
  ∃ rs, e = .returned (resVal rs) ∧ Below w.heap.size w w' ∧
    (frV S.fresh rs).Pairwise (fun u v => ∀ b, baseOf u = some b → baseOf v ≠ some b) ∧ ResR P w' (Xr X S.fresh rs) w.heap.size S.k S.outs S.fresh y rs
def MethOK (P : Program) (n : Nat) (m : String) (S : Sm) : Prop :=
  ∀ (w : World) (X : Un) (x : Den S.ins) (y : Den S.outs) (v : Value) (vs ds : List Value), (∀ b k, X b k → b < w.heap.size) → Spl S.ins (v :: vs) ds → RD P S.ins w X x ds → S.F n x = some y →
    Inv P (callMethod v m vs.toArray) w (Told P w X S y)

/-- what slices.Clip does -/
def ClipOK (P : Program) (f : FuncId) : Prop := ∀ (w : World) (A : Option Addr) (n cap : Nat), n ≤ cap → (A = none → n = 0) →
  Invokes P f #[.slice A n cap] w fun e w' => e = .returned (.slice A n n) ∧ w' = w

structure EnvOK (P : Program) (E : Env) : Prop where
  ty : ∀ T t, E.ty T = some t → TyOK P t T
  sl : ∀ T t, E.ty T = some (.slice t) → ∃ i, P.underlying T = some (.slice (E.el T)) ∧ P.info? (E.el T) = some i ∧ TOK P (E.el T) t ∧ (t = .int .u8 → i.bytes = 1) ∧ E.room T * i.bytes ≤ 140737488355328 ∧ E.room T ≤ maxLen
  fn : ∀ f S, E.fn f = some S → ∀ m, SmOK P m f S
  inv : ∀ m S, E.inv m = some S → ∀ n, MethOK P n m S
  eq : ∀ T, E.eq T = true → P.eqGuardType P.depth T = false
  clip : ∀ f, E.clip f = true → ClipOK P f

section
variable {P : Program}

theorem TyOK.run_info {t : Ty} {T : TypeId} (h : TyOK P t T) : ∃ i, P.info? T = some i ∧ i.size = t.size := by
  obtain ⟨i, z, h1, h2, _⟩ := h.tok
  exact ⟨i, h1, h2⟩
theorem TyOK.run_size {t : Ty} {T : TypeId} (h : TyOK P t T) (w : World) : (sizeOf T).run P w = .ok t.size w := by
  obtain ⟨i, h1, h2⟩ := h.run_info
  simp [sizeOf, typeInfo, h1, h2]
theorem TyOK.run_agg {t : Ty} {T : TypeId} (h : TyOK P t T) (hn : ∀ n, t ≠ .opq n) (w : World) : (isAgg T).run P w = .ok t.comp w := by
  cases t with
  | opq n => exact absurd rfl (hn n)
  | int k => simp [isAgg, run_underlying h.2, Ty.comp]
  | bool => simp [isAgg, run_underlying h.2, Ty.comp]
  | str => simp [isAgg, run_underlying h.2, Ty.comp]
  | unit => obtain ⟨_, fs, h1, h2⟩ := h.2; simp [isAgg, run_underlying h1, Ty.comp]
  | pair a b => obtain ⟨_, fs, f, l, h1, h2⟩ := h.2; simp [isAgg, run_underlying h1, Ty.comp]
  | arr n t => obtain ⟨e, h1, h2⟩ := h.2; simp [isAgg, run_underlying h1, Ty.comp]
  | slice t => obtain ⟨_, e, h1, h2⟩ := h.2; simp [isAgg, run_underlying h1, Ty.comp]
  | ptr t => obtain ⟨e, h1⟩ := h.2; simp [isAgg, run_underlying h1, Ty.comp]
  | nilI => obtain ⟨e, h1⟩ := h.2; simp [isAgg, run_underlying h1, Ty.comp]
  | alt u a r => obtain ⟨e, h1⟩ := h.2; simp [isAgg, run_underlying h1, Ty.comp]
  | fn a k b => obtain ⟨x, y, z, h1⟩ := h.2; simp [isAgg, run_underlying h1, Ty.comp]

theorem zc_RD : (t : Ty) → ∀ {w : World} {X : Un} {cs : List Value}, zc t cs → RD P t w X t.zero cs
  | .int _, _, _, _, h => h
  | .bool, _, _, _, h => h
  | .str, _, _, _, h => h
  | .unit, _, _, _, h => h
  | .pair a b, _, _, _, h => by
    obtain ⟨c1, c2, rfl, h1, h2⟩ := h
    exact ⟨c1, c2, rfl, zc_RD a h1, zc_RD b h2⟩
  | .arr n t, _, _, _, h => by
    obtain ⟨css, rfl, h1, h2⟩ := h
    refine ⟨by simp [Ty.zero], css, rfl, h1, fun i x d hx hd => ?_⟩
    have : x = t.zero := by
      have := List.getElem?_eq_some_iff.1 hx
      obtain ⟨hi, e⟩ := this
      simpa [Ty.zero] using e.symm
    subst this
    exact zc_RD t (h2 d (List.mem_of_getElem? hd))
  | .slice t, _, _, _, h => by
    rw [show _ = _ from h]
    exact ⟨none, 0, rfl, Nat.le_refl _, fun i x hx => by simp [Ty.zero] at hx⟩
  | .ptr t, _, _, _, h => h
  | .nilI, _, _, _, h => h
  | .alt u a r, _, _, cs, h => by
    obtain ⟨h1, h2⟩ := h
    refine ⟨by rw [h1]; rfl, fun v => by rw [h1]; simp, zc_RD r h2⟩
  | .fn _ _ _, _, _, _, h => h
  | .opq n, _, _, _, h => h
end

section
variable {P : Program} {IoS : Nat → Prop} {w0 : World} {X0 : Un} {γ : Id → Value} {S : St} {a : Act} {w : World} {E : Env} {o : Oper} {x : AV} {σ' : Store}

/-- what an operation does, told of both sides -/
def Sim (P : Program) (IoS : Nat → Prop) (w0 : World) (X0 : Un) (S : St) (a : Act) (w : World) (o : Oper) (x : AV) (σ' : Store) : Prop :=
  ∃ v w' γ', ((execOp a.eval o).run P w = .ok (.value v) w' ∨ (v = undef ∧ (execOp a.eval o).run P w = .ok .skip w')) ∧ Rel P IoS w0 X0 γ' ⟨S.f, σ'⟩ a w' ∧ VR P w' (unst X0 σ' γ') σ' γ' x v

theorem Sim.wp (h : Sim P IoS w0 X0 S a w o x σ') {Q : Exit → Act → World → Prop} : o.wp P a w (fun a' w' => ∃ γ', Rel P IoS w0 X0 γ' ⟨putD S.f o.dst x, σ'⟩ a' w') Q := by
  obtain ⟨v, w', γ', h1, h2, h3⟩ := h
  have h4 := h2.put o.dst h3
  unfold Oper.wp
  rcases h1 with h1 | ⟨rfl, h1⟩
  · rw [h1]; exact ⟨γ', h4⟩
  · rw [h1]; exact ⟨γ', h4⟩

/-- nothing but a value -/
theorem Sim.pure (hr : Rel P IoS w0 X0 γ S a w) {v : Value} (h1 : (execOp a.eval o).run P w = .ok (.value v) w) (h2 : VR P w (unst X0 S.o γ) S.o γ x v) : Sim P IoS w0 X0 S a w o x S.o :=
  ⟨v, w, γ, .inl h1, hr, h2⟩

theorem sim_move (hr : Rel P IoS w0 X0 γ S a w) {y : Operand} (ho : o.op = .move y ∨ o.op = .assign y) (h : (step E S.f o).ex S.o = some (x, σ')) : Sim P IoS w0 X0 S a w o x σ' := by
  rcases ho with ho | ho <;>
  · simp only [step, ho] at h
    obtain ⟨rfl, rfl⟩ := ret_ex h
    exact Sim.pure hr (by simp only [execOp, ho]; rfl) (hr.opd y)

theorem ite_ex {α : Type} {c : Bool} {p q : Pr α} {σ σ' : Store} {y : α} (h : (Pr.ite c p q).ex σ = some (y, σ')) : (c = true ∧ p.ex σ = some (y, σ')) ∨ (c = false ∧ q.ex σ = some (y, σ')) := by
  cases c
  · exact .inr ⟨rfl, h⟩
  · exact .inl ⟨rfl, h⟩

theorem sim_pick (hr : Rel P IoS w0 X0 γ S a w) {c y z : Operand} (ho : o.op = .pick c y z) (h : (step E S.f o).ex S.o = some (x, σ')) : Sim P IoS w0 X0 S a w o x σ' := by
  simp only [step, ho] at h
  obtain ⟨t, ht, h⟩ := opt_ex h
  have hc := RV.bool_inv (as_VR ht (hr.opd c))
  split at h
  · rename_i hs
    obtain ⟨rfl, rfl⟩ := ret_ex h
    have he : a.eval y = a.eval z := by
      have h1 := hr.opd y
      have h2 := hr.opd z
      unfold sameLit at hs
      split at hs
      · rename_i p q e1 e2
        rw [e1] at h1
        rw [e2] at h2
        have hpq : p = q := by simpa using hs
        subst hpq
        exact (show a.eval y = _ from h1).trans (show a.eval z = _ from h2).symm
      · cases hs
    cases t
    · exact Sim.pure hr (by simp [execOp, ho, hc, asBool, he]) (hr.opd y)
    · exact Sim.pure hr (by simp [execOp, ho, hc, asBool]) (hr.opd y)
  rcases ite_ex h with ⟨rfl, h⟩ | ⟨rfl, h⟩
  · obtain ⟨rfl, rfl⟩ := ret_ex h
    exact Sim.pure hr (by simp [execOp, ho, hc, asBool]) (hr.opd y)
  · obtain ⟨rfl, rfl⟩ := ret_ex h
    exact Sim.pure hr (by simp [execOp, ho, hc, asBool]) (hr.opd z)

theorem sim_extract (hr : Rel P IoS w0 X0 γ S a w) {y : Operand} {i : Nat} (ho : o.op = .extract y i) (h : (step E S.f o).ex S.o = some (x, σ')) : Sim P IoS w0 X0 S a w o x σ' := by
  simp only [step, ho] at h
  have hv := hr.opd y
  split at h
  · rename_i l hl
    rw [hl] at hv
    obtain ⟨vs, hvs, hlen, hv⟩ := hv
    obtain ⟨z, hz, h⟩ := opt_ex h
    obtain ⟨rfl, rfl⟩ := ret_ex h
    have hi : i < vs.size := by rw [hlen]; exact (List.getElem?_eq_some_iff.1 hz).1
    refine Sim.pure hr (v := vs[i]) ?_ (VR.of1 (hv i z vs[i] hz (Array.getElem?_eq_getElem hi)))
    simp [execOp, ho, hvs, Instr.extract, Array.getElem?_eq_getElem hi]
  · cases h
end
end Go.AM
end

section
set_option linter.unusedSectionVars false
namespace Go.AM
open RowKit

section
variable {P : Program} {w : World} {X : Un}

/-- a part of a struct or an array -/
theorem part_ok {a : Ty} {T : TypeId} (hT : TyOK P a T) (hn : ∀ n, a ≠ .opq n) {xs : Array Value} {pre c post : List Value} {off : Nat} {y : Den a} (he : xs.toList = pre ++ (c ++ post)) (hl : pre.length = off)
    (hr : RD P a w X y c) (w' : World) : ∃ v, (part T xs off).run P w' = .ok v w' ∧ RV P a w X y v ∧ v.cells.toList = c := by
  have hlen := RD.length a hr
  have hext : xs.extract off (off + a.size) = c.toArray := by
    apply Array.toList_inj.1
    rw [Array.toList_extract, he]
    simp [List.extract, ← hl, ← hlen]
  cases hc : a.comp with
  | true =>
    refine ⟨.agg c.toArray, ?_, ⟨hc, by simpa [Value.cells] using hr⟩, by simp [Value.cells]⟩
    simp [part, hT.run_agg hn, hc, hT.run_size, hext]
  | false =>
    have h1 : a.size = 1 := by
      cases a <;> simp [Ty.comp] at hc <;> first | rfl | exact absurd rfl (hn _)
    rw [h1] at hlen
    obtain ⟨v, rfl⟩ := List.length_eq_one_iff.1 hlen
    have hone := RD.one a hr v (List.mem_cons_self ..)
    have hx : xs[off]? = some v := by
      rw [← Array.getElem?_toList, he, List.getElem?_append_right (by omega), hl]
      simp
    have hcell : v.cells = #[v] := by cases v <;> first | rfl | simp [Value.oneCell'] at hone
    refine ⟨v, ?_, ⟨?_, by rw [hcell]; exact hr⟩, by rw [hcell]⟩
    · simp [part, hT.run_agg hn, hc, hx]
    · cases v <;> first | exact hc | simp [Value.oneCell'] at hone

theorem beq_dep_pos (t : Ty) : 1 ≤ t.dep := by
  induction t with
  | pair a b ha hb => simp only [Ty.dep]; omega
  | _ => exact Nat.le_refl _

theorem fields_eq : (b : Ty) → ∀ {l : List Field} {k : Nat} {x y : Den b} {c : Bool} {xs ys : Array Value} {p q cx cy : List Value} (d : Nat) (w' : World),
    (∀ (a : Ty) (T : TypeId) (u v : Value) (x y : Den a) (c : Bool) (w' : World), a.dep < b.dep → TyOK P a T → RV P a w X x u → RV P a w X y v → Ty.beq a x y = some c → (Op.equalIn d T u v).run P w' = .ok c w') →
    FsOK P b l k → xs.toList = p ++ cx → ys.toList = q ++ cy → p.length = k → q.length = k → RD P b w X x cx → RD P b w X y cy → Ty.beq b x y = some c → (Op.eqFields d xs ys l).run P w' = .ok c w'
  | .unit, l, k, x, y, c, xs, ys, p, q, cx, cy, d, w', ih, hf, ex, ey, hp, hq, rx, ry, hb => by
    have : l = [] := hf
    subst this
    have h' : some true = some c := hb
    simp only [Option.some.injEq] at h'
    subst h'
    simp [Op.eqFields]
  | .pair a b, l, k, x, y, c, xs, ys, p, q, cx, cy, d, w', ih, hf, ex, ey, hp, hq, rx, ry, hb => by
    obtain ⟨f, l', rfl, ⟨h1, h2, h3, h4⟩, h5⟩ := hf
    obtain ⟨c1, c2, rfl, r1, r2⟩ := rx
    obtain ⟨e1, e2, rfl, s1, s2⟩ := ry
    have hb' : ((Ty.beq a x.1 y.1).bind fun c => (Ty.beq b x.2 y.2).map fun d => c && d) = some c := hb
    obtain ⟨k1, g1, hb'⟩ := Option.bind_eq_some_iff.1 hb'
    obtain ⟨k2, g2, rfl⟩ := Option.map_eq_some_iff.1 hb'
    have hn : ∀ n, a ≠ .opq n := by rintro n rfl; cases g1
    obtain ⟨u, hu, ru, _⟩ := part_ok h4 hn ex (hp.trans h1.symm) r1 w'
    obtain ⟨v, hv, rv, _⟩ := part_ok h4 hn ey (hq.trans h1.symm) s1 w'
    have he := ih a f.type u v x.1 y.1 k1 w' (by simp only [Ty.dep]; omega) h4 ru rv g1
    have hrest := fields_eq b d w' (fun a' T u v x y c w' hd => ih a' T u v x y c w' (by simp only [Ty.dep]; omega)) h5 (by rw [ex, List.append_assoc]) (by rw [ey, List.append_assoc])
      (by rw [List.length_append, hp, RD.length a r1]) (by rw [List.length_append, hq, RD.length a s1]) r2 s2 g2
    simp only [Op.eqFields, if_pos h3, Sem.run_bind, hu, hv, he, Result.andThen_ok]
    cases k1
    · simp
    · simpa using hrest
  | .int _, _, _, _, _, _, _, _, _, _, _, _, _, _, _, hf, _, _, _, _, _, _, _ => hf.elim
  | .bool, _, _, _, _, _, _, _, _, _, _, _, _, _, _, hf, _, _, _, _, _, _, _ => hf.elim
  | .str, _, _, _, _, _, _, _, _, _, _, _, _, _, _, hf, _, _, _, _, _, _, _ => hf.elim
  | .arr _ _, _, _, _, _, _, _, _, _, _, _, _, _, _, _, hf, _, _, _, _, _, _, _ => hf.elim
  | .slice _, _, _, _, _, _, _, _, _, _, _, _, _, _, _, hf, _, _, _, _, _, _, _ => hf.elim
  | .ptr _, _, _, _, _, _, _, _, _, _, _, _, _, _, _, hf, _, _, _, _, _, _, _ => hf.elim
  | .nilI, _, _, _, _, _, _, _, _, _, _, _, _, _, _, hf, _, _, _, _, _, _, _ => hf.elim
  | .alt _ _ _, _, _, _, _, _, _, _, _, _, _, _, _, _, _, hf, _, _, _, _, _, _, _ => hf.elim
  | .fn _ _ _, _, _, _, _, _, _, _, _, _, _, _, _, _, _, hf, _, _, _, _, _, _, _ => hf.elim
  | .opq _, _, _, _, _, _, _, _, _, _, _, _, _, _, _, hf, _, _, _, _, _, _, _ => hf.elim

theorem equal_ok : (n : Nat) → ∀ (d : Nat) (a : Ty) (T : TypeId) (u v : Value) (x y : Den a) (c : Bool) (w' : World), a.dep ≤ n → n ≤ d → TyOK P a T → RV P a w X x u → RV P a w X y v → Ty.beq a x y = some c → (Op.equalIn d T u v).run P w' = .ok c w'
  | 0, d, a, T, u, v, x, y, c, w', hd, _, _, _, _, _ => by have := beq_dep_pos a; omega
  | n + 1, d, a, T, u, v, x, y, c, w', hd, hn, hT, ru, rv, hb => by
    obtain ⟨d, rfl⟩ : ∃ k, d = k + 1 := ⟨d - 1, by omega⟩
    cases a with
    | int k =>
      have h' : some ((x : Int) == y) = some c := hb
      simp only [Option.some.injEq] at h'
      subst h'
      rw [RV.int_inv ru, RV.int_inv rv]
      exact run_equalIn_int w' d T k k x y hT.2
    | bool =>
      have h' : some ((x : Bool) == y) = some c := hb
      simp only [Option.some.injEq] at h'
      subst h'
      rw [RV.bool_inv ru, RV.bool_inv rv]
      exact run_equalIn_bool w' d T x y hT.2
    | str =>
      have h' : some ((x : ByteArray) == y) = some c := hb
      simp only [Option.some.injEq] at h'
      subst h'
      rw [RV.str_inv ru, RV.str_inv rv]
      simp [Op.equalIn, run_underlying hT.2]
    | unit =>
      have h' : some true = some c := hb
      simp only [Option.some.injEq] at h'
      subst h'
      obtain ⟨_, hs, fs, h1, h2⟩ := hT
      obtain ⟨cu, rfl, qu⟩ := RV.agg rfl ru
      obtain ⟨cv, rfl, qv⟩ := RV.agg rfl rv
      have hf : P.fieldsOf T = fs := by simp [Program.fieldsOf, h1]
      rw [run_equalIn_struct (P := P) w' d T cu cv (by rw [hf]; exact h1) hs, hf, h2]
      simp [Op.eqFields]
    | pair a b =>
      obtain ⟨_, hs, fs, f, l, h1, h2, h3, h4⟩ := hT
      obtain ⟨cu, rfl, qu⟩ := RV.agg rfl ru
      obtain ⟨cv, rfl, qv⟩ := RV.agg rfl rv
      have hf : P.fieldsOf T = fs := by simp [Program.fieldsOf, h1]
      rw [run_equalIn_struct (P := P) w' d T cu cv (by rw [hf]; exact h1) hs, hf, h2]
      refine fields_eq (.pair a b) (l := f :: l) (k := 0) (p := []) (q := []) d w' (fun a' T u v x y c w' hd' hT' r1 r2 hb' => equal_ok n d a' T u v x y c w' (by omega) (by omega) hT' r1 r2 hb') ⟨f, l, rfl, h3, by simpa using h4⟩ (List.nil_append _).symm (List.nil_append _).symm rfl rfl qu qv hb
    | _ => cases hb
end
end Go.AM
end

section
set_option linter.unusedSectionVars false
namespace Go.AM
open RowKit

section
variable {P : Program} {w : World} {X : Un} {E : Env}

theorem ifc_some : (t : Ty) → t.ifc = true → ∀ {x : Den t} {u : Value}, RD P t w X x [u] → (Ty.isNil t x = some true ∧ u = .nilIface) ∨ (Ty.isNil t x = some false ∧ ∃ T v, u = .iface T v)
  | .nilI, _, x, u, h => by
    have h' : [u] = [Value.nilIface] := h
    simp only [List.cons.injEq, and_true] at h'
    exact .inl ⟨rfl, h'⟩
  | .alt T a r, hi, x, u, h => by
    have hi' : r.ifc = true := hi
    cases x with
    | inl y =>
      obtain ⟨v, h1, _⟩ := h
      simp only [List.cons.injEq, and_true] at h1
      exact .inr ⟨by simp [Ty.isNil, hi'], T, v, h1⟩
    | inr y =>
      rcases ifc_some r hi' h.2.2 with ⟨h1, h2⟩ | ⟨h1, h2⟩
      · exact .inl ⟨by simp [Ty.isNil, hi', h1], h2⟩
      · exact .inr ⟨by simp [Ty.isNil, hi', h1], h2⟩
  | .int _, h, _, _, _ => by cases h
  | .bool, h, _, _, _ => by cases h
  | .str, h, _, _, _ => by cases h
  | .unit, h, _, _, _ => by cases h
  | .pair _ _, h, _, _, _ => by cases h
  | .arr _ _, h, _, _, _ => by cases h
  | .slice _, h, _, _, _ => by cases h
  | .ptr _, h, _, _, _ => by cases h
  | .fn _ _ _, h, _, _, _ => by cases h
  | .opq _, h, _, _, _ => by cases h

theorem RV_int {k : IntKind} {n : Int} : RV P (.int k) w X n (.int k n) := ⟨rfl, rfl⟩
theorem RV_bool {b : Bool} : RV P .bool w X b (.bool b) := ⟨rfl, rfl⟩
theorem RV_str {b : ByteArray} : RV P .str w X b (.string b) := ⟨rfl, rfl⟩
def numeric : Value → Bool
  | .int _ _ | .float _ _ | .complex _ _ _ | .string _ => true
  | _ => false
theorem binOp_eql {t : TypeId} {u v : Value} (h : numeric u = false) : (binOp .eql t u v).run P w = ((Op.equalIn 10000 t u v).run P w).andThen fun b w' => .ok (.bool b) w' := by
  cases u <;> simp [numeric] at h <;> (simp [binOp, Op.equal, Op.maxDepth])
theorem binOp_neq {t : TypeId} {u v : Value} (h : numeric u = false) : (binOp .neq t u v).run P w = ((Op.equalIn 10000 t u v).run P w).andThen fun b w' => .ok (.bool (!b)) w' := by
  cases u <;> simp [numeric] at h <;> (simp [binOp, Op.equal, Op.maxDepth])
theorem eqPtrNil {t : TypeId} {e : TypeId} (hU : P.underlying t = some (.pointer e)) (d : Nat) (A : Option Addr) : (Op.equalIn (d + 1) t (.pointer A) (.pointer none)).run P w = .ok A.isNone w := by
  cases A <;> simp [Op.equalIn, run_underlying hU]
theorem eqFnNil {t : TypeId} {e1 e2 e3} (hU : P.underlying t = some (.func e1 e2 e3)) (d : Nat) : (Op.equalIn (d + 1) t .nilFunc .nilFunc).run P w = .ok true w := by
  simp [Op.equalIn, run_underlying hU]
theorem eqFnSome {t : TypeId} {e1 e2 e3} (hU : P.underlying t = some (.func e1 e2 e3)) (d : Nat) {f first caps} : (Op.equalIn (d + 1) t (.func f first caps) .nilFunc).run P w = .ok false w := by
  simp [Op.equalIn, run_underlying hU]
theorem eqIfNil {t : TypeId} {e} (hU : P.underlying t = some (.interface e)) (d : Nat) : (Op.equalIn (d + 1) t .nilIface .nilIface).run P w = .ok true w := by
  simp [Op.equalIn, run_underlying hU]
theorem eqIfSome {t : TypeId} {e} (hU : P.underlying t = some (.interface e)) (d : Nat) {T v} : (Op.equalIn (d + 1) t (.iface T v) .nilIface).run P w = .ok false w := by
  simp [Op.equalIn, run_underlying hU]
def binSem (op : BinOp) (tx : TypeId) (ox oy : Operand) (u v : Value) : Sem Value := do
  eqGuard op tx ox oy u v
  binOp op tx u v

theorem guard_plain {op : BinOp} {tx : TypeId} {ox oy : Operand} {u v : Value} (h : ¬ (u = .nilIface ∧ v = .nilIface)) (h' : ∀ a b, ¬ (u = .agg a ∧ v = .agg b)) : (eqGuard op tx ox oy u v).run P w = .ok () w := by
  unfold eqGuard
  cases op <;> simp <;> (split <;> simp_all)

theorem binSem_plain {op : BinOp} {tx : TypeId} {ox oy : Operand} {u v z : Value} (hg : (eqGuard op tx ox oy u v).run P w = .ok () w) (hb : (binOp op tx u v).run P w = .ok z w) : (binSem op tx ox oy u v).run P w = .ok z w := by
  simp only [binSem, Sem.run_bind, hg, Result.andThen_ok, hb]
theorem binSem_eq {op : BinOp} {pos c : Bool} {tx : TypeId} {ox oy : Operand} {u v : Value} (hop : op = (if pos then .eql else .neq)) (hn : numeric u = false) (hg : (eqGuard op tx ox oy u v).run P w = .ok () w)
    (he : (Op.equalIn 10000 tx u v).run P w = .ok c w) : (binSem op tx ox oy u v).run P w = .ok (.bool (if pos then c else !c)) w := by
  refine binSem_plain hg ?_
  subst hop
  cases pos
  · simp only [Bool.false_eq_true, if_false]; rw [binOp_neq hn, he]; rfl
  · simp only [if_true]; rw [binOp_eql hn, he]; rfl
theorem guard_int {op : BinOp} {tx : TypeId} {ox oy : Operand} {k k' : IntKind} {a b : Int} : (eqGuard op tx ox oy (.int k a) (.int k' b)).run P w = .ok () w := guard_plain (by simp) (by simp)
theorem guard_str {op : BinOp} {tx : TypeId} {ox oy : Operand} {a b : ByteArray} : (eqGuard op tx ox oy (.string a) (.string b)).run P w = .ok () w := guard_plain (by simp) (by simp)
theorem guard_nil {op : BinOp} {tx : TypeId} {ox oy : Operand} (h : (oy matches .const _) = true) : (eqGuard op tx ox oy .nilIface .nilIface).run P w = .ok () w := by
  cases oy <;> first | (cases h; done) | (cases op <;> simp [eqGuard])
theorem int_bin {op : BinOp} {tx : TypeId} {ox oy : Operand} {k : IntKind} {a b : Int} {σ σ' : Store} {r : AV} {o : Store} {γ : Id → Value} (h : (intBin op k a b).ex σ = some (r, σ')) :
    σ = σ' ∧ ∃ z, (binSem op tx ox oy (.int k a) (.int k b)).run P w = .ok z w ∧ VR1 P w X o γ r z := by
  cases op <;> simp only [intBin] at h
  case quo =>
    rcases ite_ex h with ⟨_, h⟩ | ⟨hc, h⟩
    · cases h
    · obtain ⟨rfl, rfl⟩ := ret_ex h
      have : b ≠ 0 := by simpa using hc
      exact ⟨rfl, _, binSem_plain guard_int (by simp only [binOp, ne_eq, not_true_eq_false, if_false, Op.intDiv, this]; rfl), RV_int⟩
  case rem =>
    rcases ite_ex h with ⟨_, h⟩ | ⟨hc, h⟩
    · cases h
    · obtain ⟨rfl, rfl⟩ := ret_ex h
      have : b ≠ 0 := by simpa using hc
      exact ⟨rfl, _, binSem_plain guard_int (by simp only [binOp, ne_eq, not_true_eq_false, if_false, Op.intDiv, this]; rfl), RV_int⟩
  all_goals first
    | (cases h; done)
    | (obtain ⟨rfl, rfl⟩ := ret_ex h
       exact ⟨rfl, _, binSem_plain guard_int (by simp only [binOp, ne_eq, not_true_eq_false, if_false, Op.intArith, Op.intBits, Op.intCmp]; rfl), by first | exact RV_int | exact RV_bool⟩)

theorem str_bin {op : BinOp} {tx : TypeId} {ox oy : Operand} {a b : ByteArray} {σ σ' : Store} {r : AV} {o : Store} {γ : Id → Value} (h : (strBin op a b).ex σ = some (r, σ')) :
    σ = σ' ∧ ∃ z, (binSem op tx ox oy (.string a) (.string b)).run P w = .ok z w ∧ VR1 P w X o γ r z := by
  cases op <;> simp only [strBin] at h
  case add =>
    rcases ite_ex h with ⟨hc, h⟩ | ⟨hc, h⟩
    · obtain ⟨rfl, rfl⟩ := ret_ex h
      have hc' : a.size + b.size ≤ 9223372036854775807 := by simpa using hc
      have : ¬ ((a.size + b.size : Nat) : Int) > IntKind.i64.max := by
        have : IntKind.i64.max = 9223372036854775807 := by decide
        rw [this]; omega
      refine ⟨rfl, .string (a ++ b), binSem_plain guard_str ?_, RV_str⟩
      simp only [binOp, Op.stringOp]
      rw [if_neg this]
      rfl
    · cases h
  all_goals first
    | (cases h; done)
    | (obtain ⟨rfl, rfl⟩ := ret_ex h
       exact ⟨rfl, _, binSem_plain guard_str (by simp only [binOp, Op.stringOp]; rfl), by first | exact RV_str | exact RV_bool⟩)

theorem dep_le {t : Ty} (h : ¬ 9000 < t.dep) : t.dep ≤ 9000 := by omega

theorem eq_bin (hE : EnvOK P E) {op : BinOp} {tx : TypeId} {t : Ty} {ox oy : Operand} {x y : AV} {u v : Value} {nil pos : Bool} {σ σ' : Store} {r : AV} {o : Store} {γ : Id → Value} (hT : E.ty tx = some t)
    (ht : ∀ k, t ≠ .int k) (ht' : t ≠ .str)
    (hx : VR P w X o γ x u) (hy : VR P w X o γ y v) (hop : op = (if pos then .eql else .neq)) (hnil : nil = true → isNilLit y = true ∧ (oy matches .const _) = true) (h : (eqBin E tx t nil x y pos).ex σ = some (r, σ')) :
    σ = σ' ∧ ∃ z, (binSem op tx ox oy u v).run P w = .ok z w ∧ VR1 P w X o γ r z := by
  have hTy := hE.ty tx t hT
  unfold eqBin at h
  split at h
  · rename_i hn
    obtain ⟨hn1, hn2⟩ := hnil hn
    obtain ⟨b, hb, h⟩ := opt_ex h
    obtain ⟨a, ha, h⟩ := opt_ex h
    obtain ⟨c, hc, h⟩ := opt_ex h
    obtain ⟨rfl, rfl⟩ := ret_ex h
    have ru := as_VR ha hx
    have rv := as_VR hb hy
    obtain ⟨l, rfl⟩ : ∃ l, y = .lit l := by
      cases y <;> first | exact ⟨_, rfl⟩ | simp [isNilLit] at hn1
    have hl : litAs t l = some b := hb
    have hv : v = l := hy
    subst hv
    refine ⟨rfl, .bool (if pos then c else !c), ?_, RV_bool⟩
    cases t with
    | ptr s =>
      have hl' : (if nilPtr v then some (none : Option (Den s)) else none) = some b := hl
      split at hl'
      · rename_i hp
        have := nilPtr_eq hp
        subst this
        obtain ⟨_, e, hU⟩ := hTy
        have hc' : some ((a : Option (Den s)).isNone) = some c := hc
        simp only [Option.some.injEq] at hc'
        subst hc'
        cases a with
        | none =>
          have : u = .pointer none := by
            have := (RV.one rfl ru).2
            have h' : [u] = [Value.pointer none] := this
            simpa using h'
          subst this
          exact binSem_eq hop rfl (guard_plain (by simp) (by simp)) (eqPtrNil hU _ _)
        | some z =>
          obtain ⟨A, d, h1, _⟩ := (RV.one rfl ru).2
          simp only [List.cons.injEq, and_true] at h1
          subst h1
          exact binSem_eq hop rfl (guard_plain (by simp) (by simp)) (eqPtrNil hU _ _)
      · cases hl'
    | nilI =>
      have hl' : (if nilIf v then some () else none) = some b := hl
      split at hl'
      · rename_i hp
        have := nilIf_eq hp
        subst this
        obtain ⟨_, e, hU⟩ := hTy
        have hc' : some true = some c := hc
        simp only [Option.some.injEq] at hc'
        subst hc'
        have : u = .nilIface := by
          have := (RV.one rfl ru).2
          have h' : [u] = [Value.nilIface] := this
          simpa using h'
        subst this
        exact binSem_eq hop rfl (guard_nil hn2) (eqIfNil hU _)
      · cases hl'
    | alt T a' r' =>
      have hl' : (if nilIf v then (litAs r' v).map Sum.inr else none) = some b := hl
      split at hl'
      · rename_i hp
        have := nilIf_eq hp
        subst this
        obtain ⟨_, e, hU⟩ := hTy
        have hi : (Ty.alt T a' r').ifc = true := by
          cases hr : r'.ifc with
          | true => exact hr
          | false => simp [Ty.isNil, hr] at hc
        rcases ifc_some (.alt T a' r') hi (RV.one rfl ru).2 with ⟨h1, rfl⟩ | ⟨h1, T', v', rfl⟩
        · rw [hc] at h1
          simp only [Option.some.injEq] at h1
          subst h1
          exact binSem_eq hop rfl (guard_nil hn2) (eqIfNil hU _)
        · rw [hc] at h1
          simp only [Option.some.injEq] at h1
          subst h1
          exact binSem_eq hop rfl (guard_plain (by simp) (by simp)) (eqIfSome hU _)
      · cases hl'
    | fn a' k' b' =>
      have hl' : (if nilFn v then some (none : Option (Nat → Den a' → Option (Den b'))) else none) = some b := hl
      split at hl'
      · rename_i hp
        have := nilFn_eq hp
        subst this
        obtain ⟨_, e1, e2, e3, hU⟩ := hTy
        have hc' : some ((a : Option (Nat → Den a' → Option (Den b'))).isNone) = some c := hc
        simp only [Option.some.injEq] at hc'
        subst hc'
        cases a with
        | none =>
          have : u = .nilFunc := by
            have := (RV.one rfl ru).2
            have h' : [u] = [Value.nilFunc] := this
            simpa using h'
          subst this
          exact binSem_eq hop rfl (guard_plain (by simp) (by simp)) (eqFnNil hU _)
        | some z =>
          obtain ⟨f, first, caps, h1, _⟩ := (RV.one rfl ru).2
          simp only [List.cons.injEq, and_true] at h1
          subst h1
          exact binSem_eq hop rfl (guard_plain (by simp) (by simp)) (eqFnSome hU _)
      · cases hl'
    | _ => cases hc
  · split at h
    · cases h
    · rename_i hg
      simp only [Bool.or_eq_true, Bool.and_eq_true, Bool.not_eq_true', decide_eq_true_eq, not_or, not_and, Bool.not_eq_false] at hg
      obtain ⟨a, ha, h⟩ := opt_ex h
      obtain ⟨b, hb, h⟩ := opt_ex h
      obtain ⟨c, hc, h⟩ := opt_ex h
      obtain ⟨rfl, rfl⟩ := ret_ex h
      have ru := as_VR ha hx
      have rv := as_VR hb hy
      have he := equal_ok (P := P) (w := w) (X := X) 9000 10000 t tx u v a b c w (dep_le hg.2) (by decide) hTy ru rv hc
      refine ⟨rfl, .bool (if pos then c else !c), ?_, RV_bool⟩
      cases hcm : t.cmp with
      | true =>
        have hcomp : t.comp = true := by cases t <;> simp [Ty.cmp] at hcm <;> rfl
        obtain ⟨cu, rfl, _⟩ := RV.agg hcomp ru
        obtain ⟨cv, rfl, _⟩ := RV.agg hcomp rv
        have hgt := hE.eq tx (hg.1 hcm)
        exact binSem_eq hop rfl (run_eqGuard_agg w _ _ _ _ _ _ hgt) he
      | false =>
        cases t with
        | bool =>
          have e1 := RV.bool_inv ru
          have e2 := RV.bool_inv rv
          subst e1; subst e2
          exact binSem_eq hop rfl (guard_plain (by simp) (by simp)) he
        | int k => exact absurd rfl (ht k)
        | str => exact absurd rfl ht'
        | unit => cases hcm
        | pair _ _ => cases hcm
        | _ => cases hc

theorem bin_ok (hE : EnvOK P E) {op : BinOp} {tx ty : TypeId} {ox oy : Operand} {x y : AV} {u v : Value} {yc : Bool} {σ σ' : Store} {r : AV} {o : Store} {γ : Id → Value}
    (hx : VR P w X o γ x u) (hy : VR P w X o γ y v) (hyc : yc = (oy matches .const _)) (h : (bin E op tx x y yc ty).ex σ = some (r, σ')) :
    σ = σ' ∧ ∃ z, (binSem op tx ox oy u v).run P w = .ok z w ∧ VR1 P w X o γ r z := by
  unfold bin at h
  split at h
  · rename_i k hT
    obtain ⟨a, ha, h⟩ := opt_ex h
    have e1 := RV.int_inv (as_VR ha hx)
    subst e1
    split at h
    · split at h
      · obtain ⟨b, hb, h⟩ := opt_ex h
        have e2 := RV.int_inv (as_VR hb hy)
        subst e2
        rcases ite_ex h with ⟨_, h⟩ | ⟨hc, h⟩
        · cases h
        · obtain ⟨rfl, rfl⟩ := ret_ex h
          have : ¬ b < 0 := by simpa using hc
          exact ⟨rfl, _, binSem_plain guard_int (by simp only [binOp, Op.shift, this, if_false]; rfl), RV_int⟩
      · cases h
    · split at h
      · obtain ⟨b, hb, h⟩ := opt_ex h
        have e2 := RV.int_inv (as_VR hb hy)
        subst e2
        rcases ite_ex h with ⟨_, h⟩ | ⟨hc, h⟩
        · cases h
        · obtain ⟨rfl, rfl⟩ := ret_ex h
          have : ¬ b < 0 := by simpa using hc
          exact ⟨rfl, _, binSem_plain guard_int (by simp only [binOp, Op.shift, this, if_false]; rfl), RV_int⟩
      · cases h
    · obtain ⟨b, hb, h⟩ := opt_ex h
      have e2 := RV.int_inv (as_VR hb hy)
      subst e2
      exact int_bin h
  · obtain ⟨a, ha, h⟩ := opt_ex h
    obtain ⟨b, hb, h⟩ := opt_ex h
    have e1 := RV.str_inv (as_VR ha hx)
    have e2 := RV.str_inv (as_VR hb hy)
    subst e1; subst e2
    exact str_bin h
  · rename_i t hti hts hT
    have ht : ∀ k, t ≠ .int k := by rintro k rfl; exact hti k rfl
    have hs : t ≠ .str := by rintro rfl; exact hts rfl
    split at h
    · exact eq_bin hE hT ht hs hx hy rfl (by rw [hyc]; simp only [Bool.and_eq_true]; exact fun h => ⟨h.2, h.1⟩) h
    · exact eq_bin hE hT ht hs hx hy rfl (by rw [hyc]; simp only [Bool.and_eq_true]; exact fun h => ⟨h.2, h.1⟩) h
    · cases h
  · cases h

end
section
variable {P : Program} {IoS : Nat → Prop} {w0 : World} {X0 : Un} {γ : Id → Value} {S : St} {a : Act} {w : World} {E : Env} {o : Oper} {x : AV} {σ' : Store}

theorem sim_bin (hE : EnvOK P E) (hr : Rel P IoS w0 X0 γ S a w) {op : BinOp} {tx ty : TypeId} {ox oy : Operand} (ho : o.op = .binOp op tx ox oy ty) (h : (step E S.f o).ex S.o = some (x, σ')) : Sim P IoS w0 X0 S a w o x σ' := by
  simp only [step, ho] at h
  obtain ⟨rfl, z, hz, hv⟩ := bin_ok (ox := ox) (oy := oy) hE (hr.opd ox) (hr.opd oy) rfl h
  refine Sim.pure hr (v := z) ?_ (VR.of1 hv)
  have hz' : (binSem op tx ox oy (a.eval ox) (a.eval oy)).run P w = .ok z w := hz
  simp only [binSem] at hz'
  simp only [execOp, ho, Sem.run_bind] at hz' ⊢
  rw [hz']
  rfl

theorem sim_un (hE : EnvOK P E) (hr : Rel P IoS w0 X0 γ S a w) {op : UnOp} {tx : TypeId} {ox : Operand} (ho : o.op = .unOp op tx ox) (h : (step E S.f o).ex S.o = some (x, σ')) : Sim P IoS w0 X0 S a w o x σ' := by
  simp only [step, ho] at h
  unfold un at h
  split at h
  · obtain ⟨b, hb, h⟩ := opt_ex h
    obtain ⟨rfl, rfl⟩ := ret_ex h
    have e := RV.bool_inv (as_VR hb (hr.opd ox))
    exact Sim.pure hr (v := .bool (!b)) (by simp [execOp, ho, e, Op.unary]) RV_bool
  · obtain ⟨b, hb, h⟩ := opt_ex h
    obtain ⟨rfl, rfl⟩ := ret_ex h
    have e := RV.int_inv (as_VR hb (hr.opd ox))
    exact Sim.pure hr (by simp only [execOp, ho, e, Op.unary, Op.intArith]; rfl) RV_int
  · obtain ⟨b, hb, h⟩ := opt_ex h
    obtain ⟨rfl, rfl⟩ := ret_ex h
    have e := RV.int_inv (as_VR hb (hr.opd ox))
    exact Sim.pure hr (by simp only [execOp, ho, e, Op.unary, Op.intBits]; rfl) RV_int
  · cases h
end
end Go.AM
end

section
set_option linter.unusedSectionVars false
namespace Go.AM
open RowKit

section
variable {P : Program} {w : World} {X : Un} {E : Env}

theorem cellsAt.append {b o : Nat} {c1 c2 : List Value} (h1 : cellsAt w X b o c1) (h2 : cellsAt w X b (o + c1.length) c2) : cellsAt w X b o (c1 ++ c2) := by
  intro i c hc
  by_cases hi : i < c1.length
  · rw [List.getElem?_append_left hi] at hc
    exact h1 i c hc
  · rw [List.getElem?_append_right (by omega)] at hc
    have := h2 (i - c1.length) c hc
    have e : o + c1.length + (i - c1.length) = o + i := by omega
    rwa [e] at this

/-- the cells of a slice that isn't empty -/
theorem slice_cells {t : Ty} {xs : List (Den t)} {v : Value} (h : RV P (.slice t) w X xs v) :
    ∃ A cap, v = .slice A xs.length cap ∧ xs.length ≤ cap ∧ (xs = [] ∨ ∃ (a : Addr) (css : List (List Value)), A = some a ∧ a.spot = none ∧ css.length = xs.length ∧ (∀ d ∈ css, d.length = t.size) ∧ cellsAt w X a.block a.off css.flatten ∧
      ∀ (i : Nat) (x : Den t) (d : List Value), xs[i]? = some x → css[i]? = some d → RD P t w X x d) := by
  obtain ⟨A, cap, h1, h2, h3⟩ := (RV.one rfl h).2
  simp only [List.cons.injEq, and_true] at h1
  refine ⟨A, cap, h1, h2, ?_⟩
  clear h h1 h2
  cases xs with
  | nil => exact .inl rfl
  | cons x0 l0 =>
    refine .inr ?_
    obtain ⟨a, d0, rfl, hs, _⟩ := h3 0 x0 rfl
    have key : ∀ (n : Nat) (l : List (Den t)), n + l.length = (x0 :: l0).length → (∀ i x, l[i]? = some x → (x0 :: l0)[n + i]? = some x) →
        ∃ css : List (List Value), css.length = l.length ∧ (∀ d ∈ css, d.length = t.size) ∧ cellsAt w X a.block (a.off + n * t.size) css.flatten ∧ ∀ (i : Nat) (x : Den t) (d : List Value), l[i]? = some x → css[i]? = some d → RD P t w X x d := by
      intro n l
      induction l generalizing n with
      | nil => exact fun _ _ => ⟨[], rfl, by simp, fun i c hc => by simp at hc, fun i x d hx => by simp at hx⟩
      | cons y l ih =>
        intro hn hl
        obtain ⟨css, k1, k2, k3, k4⟩ := ih (n + 1) (by simp only [List.length_cons] at hn ⊢; omega) (fun i x hx => by
          have := hl (i + 1) x (by simpa using hx)
          have e : n + 1 + i = n + (i + 1) := by omega
          rw [e]; exact this)
        obtain ⟨a', d, e1, e2, e3, e4, e5⟩ := h3 n y (hl 0 y rfl)
        simp only [Option.some.injEq] at e1
        subst e1
        refine ⟨d :: css, by simp [k1], ?_, ?_, ?_⟩
        · intro d' hd'
          rcases List.mem_cons.1 hd' with rfl | hd'
          · exact e3
          · exact k2 d' hd'
        · simp only [List.flatten_cons]
          refine e4.append ?_
          have : a.off + n * t.size + d.length = a.off + (n + 1) * t.size := by rw [e3, Nat.add_mul]; omega
          rw [this]; exact k3
        · intro i x d' hx hd'
          cases i with
          | zero => simp at hx hd'; subst hx; subst hd'; exact e5
          | succ i => simp at hx hd'; exact k4 i x d' hx hd'
    obtain ⟨css, k1, k2, k3, k4⟩ := key 0 (x0 :: l0) (by simp) (fun i x hx => by simpa using hx)
    exact ⟨a, css, rfl, hs, k1, k2, by simpa using k3, k4⟩

theorem Addr.add_of {a : Addr} (h : a.spot = none) (j : Nat) : a.add j = ⟨a.block, a.off + j, none⟩ := by
  obtain ⟨b, o, s⟩ := a
  subst h
  unfold Addr.add
  split <;> simp_all

theorem cellsAt.run {a : Addr} (h : a.spot = none) {cs : List Value} (hc : cellsAt w X a.block a.off cs) : ∀ j v, cs[j]? = some v → w.cell? (a.add j) = some v := by
  intro j v hv
  rw [Addr.add_of h]
  exact (hc j v hv).1

theorem foldl_push (ns : List Int) : ∀ s : ByteArray, ns.foldl (fun r n => r.push (UInt8.ofNat n.toNat)) s = s ++ strOf ns := by
  induction ns with
  | nil => intro s; simp [strOf, ByteArray.ext_iff]
  | cons n l ih =>
    intro s
    simp only [List.foldl_cons]
    rw [ih]
    simp [strOf, ByteArray.ext_iff, ByteArray.push]

theorem int_css {k : IntKind} {xs : List Int} {css : List (List Value)} (hl : css.length = xs.length) (h : ∀ (i : Nat) (x : Int) (d : List Value), xs[i]? = some x → css[i]? = some d → RD P (.int k) w X x d) :
    css.flatten = xs.map (Value.int k) := by
  induction css generalizing xs with
  | nil => cases xs <;> simp at hl ⊢
  | cons d css ih =>
    cases xs with
    | nil => simp at hl
    | cons x xs =>
      have h0 : d = [Value.int k x] := h 0 x d rfl rfl
      simp only [List.flatten_cons, h0, List.map_cons, List.cons_append, List.nil_append]
      rw [ih (by simpa using hl) (fun i x d hx hd => h (i + 1) x d (by simpa using hx) (by simpa using hd))]

/-- bytes as a string -/
theorem bytes_str {xs : List Int} {v : Value} (h : RV P (.slice (.int .u8)) w X xs v) {src dst e : TypeId} (hs : P.underlying src = some (.slice e)) (he : P.underlying e = some (.int .u8)) (hd : P.underlying dst = some .string) :
    (convert src dst v).run P w = .ok (.string (strOf xs)) w := by
  obtain ⟨A, cap, rfl, h2, h3⟩ := slice_cells h
  rw [run_convert_bytes_string w src dst e _ _ _ hs he hd]
  have h0 : strOf [] = ByteArray.empty := rfl
  rcases h3 with rfl | ⟨a, css, rfl, hsp, k1, k2, k3, k4⟩
  · cases A with
    | none => simp [Conv.bytesToString, h0]
    | some a =>
      have := run_bytesToString (P := P) w a 0 cap [] (by
        have := run_loadCells_list (P := P) w a [] (by simp)
        simpa using this)
      simpa [h0] using this
  · have hf := int_css (xs := xs) k1 k4
    have hl := run_loadCells_list (P := P) w a css.flatten (cellsAt.run hsp k3)
    rw [hf] at hl
    simp only [List.length_map] at hl
    have := run_bytesToString (P := P) w a xs.length cap xs hl
    rw [foldl_push] at this
    simpa [ByteArray.ext_iff] using this
end
end Go.AM
end

section
set_option linter.unusedSectionVars false
namespace Go.AM
open RowKit

section
variable {P : Program} {w : World} {X : Un} {E : Env}

theorem inj_ok {a : Ty} : (t : Ty) → ∀ {T : TypeId} {y : Den a} {z : Den t} {v : Value}, inj a t T y = some z → RV P a w X y v → RD P t w X z [.iface T v]
  | .alt u b r, T, y, z, v, h, hr => by
    have h' : (if u = T then (cast? (a := a) (b := b) y).map Sum.inl else (inj a r T y).map Sum.inr) = some z := h
    split at h'
    · rename_i e
      subst e
      obtain ⟨q, hq, rfl⟩ := Option.map_eq_some_iff.1 h'
      obtain ⟨e, hq'⟩ := cast?_some hq
      subst e; subst hq'
      exact ⟨v, rfl, hr.1, hr.2⟩
    · rename_i e
      obtain ⟨q, hq, rfl⟩ := Option.map_eq_some_iff.1 h'
      exact ⟨rfl, fun v' hv' => by simp at hv'; exact e hv'.1.symm, inj_ok r hq hr⟩
  | .int _, _, _, _, _, h, _ => by cases h
  | .bool, _, _, _, _, h, _ => by cases h
  | .str, _, _, _, _, h, _ => by cases h
  | .unit, _, _, _, _, h, _ => by cases h
  | .pair _ _, _, _, _, _, h, _ => by cases h
  | .arr _ _, _, _, _, _, h, _ => by cases h
  | .slice _, _, _, _, _, h, _ => by cases h
  | .ptr _, _, _, _, _, h, _ => by cases h
  | .nilI, _, _, _, _, h, _ => by cases h
  | .fn _ _ _, _, _, _, _, h, _ => by cases h
  | .opq _, _, _, _, _, h, _ => by cases h

theorem inj_comp {a : Ty} {t : Ty} {T : TypeId} {y : Den a} {z : Den t} (h : inj a t T y = some z) : t.comp = false := by
  cases t <;> first | rfl | (cases h; done)

theorem alt_inv {a : Ty} : (t : Ty) → t.ifc = true → ∀ {T : TypeId} {y : Den t} {v : Value}, hasAlt a t T = true → RD P t w X y [v] →
    (isAlt t T y = true ∧ ∃ v', v = .iface T v' ∧ RV P a w X (getAlt a t T y) v') ∨ (isAlt t T y = false ∧ getAlt a t T y = a.zero ∧ (v = .nilIface ∨ ∃ T' v', v = .iface T' v' ∧ T' ≠ T))
  | .nilI, _, T, y, v, h, _ => by cases h
  | .alt u b r, hi, T, y, v, h, hr => by
    have hi' : r.ifc = true := hi
    by_cases e : u = T
    · subst e
      have hb : b = a := by simpa [hasAlt] using h
      subst hb
      cases y with
      | inl y =>
        obtain ⟨v', h1, h2⟩ := hr
        simp only [List.cons.injEq, and_true] at h1
        refine .inl ⟨by simp [isAlt], v', h1, ?_⟩
        have : getAlt b (.alt u b r) u (Sum.inl y) = y := by simp [getAlt, cast?]
        rw [this]
        exact h2
      | inr y =>
        refine .inr ⟨by simp [isAlt], by simp [getAlt], ?_⟩
        rcases ifc_some r hi' hr.2.2 with ⟨_, h2⟩ | ⟨_, T', v', rfl⟩
        · exact .inl h2
        · refine .inr ⟨T', v', rfl, fun e => ?_⟩
          subst e
          exact hr.2.1 v' rfl
    · have h' : hasAlt a r T = true := by simpa [hasAlt, e] using h
      cases y with
      | inl y =>
        obtain ⟨v', h1, h2⟩ := hr
        simp only [List.cons.injEq, and_true] at h1
        exact .inr ⟨by simp [isAlt, e], by simp [getAlt, e], .inr ⟨u, v', h1, e⟩⟩
      | inr y =>
        rcases alt_inv r hi' h' hr.2.2 with ⟨h1, h2⟩ | ⟨h1, h2, h3⟩
        · exact .inl ⟨by simp [isAlt, e, h1], by simpa [getAlt, e] using h2⟩
        · exact .inr ⟨by simp [isAlt, e, h1], by simp [getAlt, e, h2], h3⟩
  | .int _, h, _, _, _, _, _ => by cases h
  | .bool, h, _, _, _, _, _ => by cases h
  | .str, h, _, _, _, _, _ => by cases h
  | .unit, h, _, _, _, _, _ => by cases h
  | .pair _ _, h, _, _, _, _, _ => by cases h
  | .arr _ _, h, _, _, _, _, _ => by cases h
  | .slice _, h, _, _, _, _, _ => by cases h
  | .ptr _, h, _, _, _, _, _ => by cases h
  | .fn _ _ _, h, _, _, _, _, _ => by cases h
  | .opq _, h, _, _, _, _, _ => by cases h

theorem TyOK.known {t : Ty} {T : TypeId} (h : TyOK P t T) (hp : t.plain = true) : ∃ d, P.underlying T = some d ∧ ∀ ms, d ≠ .interface ms := by
  cases t with
  | int k => exact ⟨_, h.2, by simp⟩
  | bool => exact ⟨_, h.2, by simp⟩
  | str => exact ⟨_, h.2, by simp⟩
  | unit => obtain ⟨_, _, fs, h1, _⟩ := h; exact ⟨_, h1, by simp⟩
  | pair a b => obtain ⟨_, _, fs, f, l, h1, _⟩ := h; exact ⟨_, h1, by simp⟩
  | arr n t => obtain ⟨_, e, h1, _⟩ := h; exact ⟨_, h1, by simp⟩
  | slice t => obtain ⟨_, _, e, h1, _⟩ := h; exact ⟨_, h1, by simp⟩
  | ptr t => obtain ⟨_, e, h1⟩ := h; exact ⟨_, h1, by simp⟩
  | nilI => cases hp
  | alt u a r => cases hp
  | fn a k b => obtain ⟨_, x, y, z, h1⟩ := h; exact ⟨_, h1, by simp⟩
  | opq n => cases hp

theorem TyOK.zeroV {t : Ty} {T : TypeId} (h : TyOK P t T) : ∃ z, (∀ w' : World, (zeroValue T).run P w' = .ok z w') ∧ ∀ (w' : World) (Y : Un), RV P t w' Y t.zero z := by
  obtain ⟨i, z, h1, _, h3, h4, h5⟩ := h.tok
  exact ⟨z, fun w' => by simp [zeroValue, typeInfo, h1, h3], fun w' Y => ⟨h4, zc_RD t h5⟩⟩

/-- a part by its number -/
theorem fs_part : (b : Ty) → ∀ {l : List Field} {k j : Nat} {x : Den b} {u : Ty} {z : Den u} {σ σ' : Store} {cs : List Value}, FsOK P b l k → (subD b x [j]).ex σ = some (.v u z, σ') → RD P b w X x cs →
    σ = σ' ∧ ∃ f pre c post, l[j]? = some f ∧ (TyOK P u f.type ∧ 0 < u.size) ∧ cs = pre ++ (c ++ post) ∧ k + pre.length = f.offset ∧ RD P u w X z c
  | .unit, l, k, j, x, u, z, σ, σ', cs, hf, h, hr => by cases h
  | .pair a b, l, k, j, x, u, z, σ, σ', cs, hf, h, hr => by
    obtain ⟨f, l', rfl, ⟨h1, h2, h3, h4⟩, h5⟩ := hf
    obtain ⟨c1, c2, rfl, r1, r2⟩ := hr
    cases j with
    | zero =>
      obtain ⟨e1, e2⟩ := ret_ex (show (Pr.ret (AV.v a x.1)).ex σ = some (.v u z, σ') by cases a <;> exact h)
      cases e1
      exact ⟨e2, f, [], c1, c2, rfl, ⟨h4, h2⟩, rfl, h1.symm, r1⟩
    | succ j =>
      obtain ⟨g1, f', pre, c, post, g2, g3, rfl, g5, g6⟩ := fs_part b h5 (show (subD b x.2 [j]).ex σ = some (.v u z, σ') from h) r2
      exact ⟨g1, f', c1 ++ pre, c, post, g2, g3, by simp, by rw [List.length_append, RD.length a r1]; omega, g6⟩
  | .int _, _, _, _, _, _, _, _, _, _, h, _, _ => h.elim
  | .bool, _, _, _, _, _, _, _, _, _, h, _, _ => h.elim
  | .str, _, _, _, _, _, _, _, _, _, h, _, _ => h.elim
  | .arr _ _, _, _, _, _, _, _, _, _, _, h, _, _ => h.elim
  | .slice _, _, _, _, _, _, _, _, _, _, h, _, _ => h.elim
  | .ptr _, _, _, _, _, _, _, _, _, _, h, _, _ => h.elim
  | .nilI, _, _, _, _, _, _, _, _, _, h, _, _ => h.elim
  | .alt _ _ _, _, _, _, _, _, _, _, _, _, h, _, _ => h.elim
  | .fn _ _ _, _, _, _, _, _, _, _, _, _, h, _, _ => h.elim
  | .opq _, _, _, _, _, _, _, _, _, _, h, _, _ => h.elim

/-- the fields of a struct -/
theorem TyOK.fields {t : Ty} {T : TypeId} (h : TyOK P t T) (hc : t.cmp = true) : ∃ fs, P.underlying T = some (.struct fs) ∧ FsOK P t fs.toList 0 := by
  cases t with
  | unit => obtain ⟨_, _, fs, h1, h2⟩ := h; exact ⟨fs, h1, h2⟩
  | pair a b =>
    obtain ⟨_, _, fs, f, l, h1, h2, h3, h4⟩ := h
    exact ⟨fs, h1, f, l, h2, h3, by simpa using h4⟩
  | _ => cases hc

theorem arr_part {n : Nat} {t : Ty} {xs : List (Den t)} {cs : List Value} {j : Nat} {x : Den t} (h : RD P (.arr n t) w X xs cs) (hx : xs[j]? = some x) :
    ∃ pre c post, cs = pre ++ (c ++ post) ∧ pre.length = j * t.size ∧ RD P t w X x c := by
  obtain ⟨h0, css, rfl, h1, h2⟩ := h
  have hlen := css_len (h1.trans h0.symm) h2
  have hj : j < css.length := by rw [h1, ← h0]; exact (List.getElem?_eq_some_iff.1 hx).1
  refine ⟨(css.take j).flatten, css[j], (css.drop (j + 1)).flatten, ?_, ?_, h2 j x _ hx (List.getElem?_eq_getElem hj)⟩
  · have e : css = css.take j ++ css[j] :: css.drop (j + 1) := by rw [← List.drop_eq_getElem_cons hj, List.take_append_drop]
    have := congrArg List.flatten e
    simpa only [List.flatten_append, List.flatten_cons] using this
  · rw [sum_const (n := t.size) (fun d hd => hlen d (List.mem_of_mem_take hd))]
    rw [List.length_take, Nat.min_eq_left (by omega)]

/-- bounds of a slice -/
theorem bounds_ok {lo hi : Option Int} {n cap l h : Nat} {isS : Bool} {σ σ' : Store} (hr : (slBound lo hi n).ex σ = some ((l, h), σ')) (hc : n ≤ cap) :
    σ = σ' ∧ l ≤ h ∧ h ≤ n ∧ (Instr.sliceBounds isS n cap (lo.map (Value.int .i64)) (hi.map (Value.int .i64)) none).run P w = .ok (l, h, cap) w := by
  unfold slBound at hr
  rcases ite_ex hr with ⟨hc', hr⟩ | ⟨_, hr⟩
  · obtain ⟨e1, e2⟩ := ret_ex hr
    simp only [Bool.and_eq_true, decide_eq_true_eq, Prod.mk.injEq] at hc' e1
    obtain ⟨⟨⟨c1, c2⟩, c3⟩, c4⟩ := hc'
    obtain ⟨rfl, rfl⟩ := e1
    refine ⟨e2, by omega, by omega, ?_⟩
    cases hi with
    | none =>
      simp only [Option.getD_none] at c1 c2 c3 c4
      cases lo with
      | none => simp [Instr.sliceBounds]
      | some a =>
        simp only [Option.getD_some] at c3 c4
        simp [Instr.sliceBounds, run_sliceBound_if, c3, c4]
    | some b =>
      simp only [Option.getD_some] at c1 c2 c3 c4
      have hb : b ≤ (cap : Int) := by omega
      have hbn : ((b.toNat : Nat) : Int) = b := Int.toNat_of_nonneg c1
      cases lo with
      | none => simp [Instr.sliceBounds, run_sliceBound_if, c1, hb]
      | some a =>
        simp only [Option.getD_some] at c3 c4
        simp [Instr.sliceBounds, run_sliceBound_if, c1, hb, c3, hbn, c4]
  · cases hr
end

section
variable {P : Program} {IoS : Nat → Prop} {w0 : World} {X0 : Un} {γ : Id → Value} {S : St} {a : Act} {w : World} {E : Env} {o : Oper} {x : AV} {σ' : Store}

theorem data_VR (hE : EnvOK P E) (hr : Rel P IoS w0 X0 γ S a w) {m : Bool} {d : Nat} {t : Ty} {x : AV} {y : Den t} (h : (x.data E m d t).ex S.o = some (y, σ')) {v : Value} (hv : VR P w (unst X0 S.o γ) S.o γ x v) :
    DOut P IoS w0 X0 γ a w m S σ' ∧ RV P t w (Yof m X0 σ' γ) y v := by
  obtain ⟨k1, _, k3⟩ := data_ok hE.fn m d hr h
  refine ⟨k1, k3 v (hv.to1 fun l hl => ?_)⟩
  subst hl
  cases d <;> cases h

/-- a value, and what is told of by it has been shared -/
theorem Sim.shared {S : St} (hd : DOut P IoS w0 X0 γ a w true S σ') {v : Value} (h1 : (execOp a.eval o).run P w = .ok (.value v) w) (h2 : VR P w (unst X0 σ' γ) σ' γ x v) : Sim P IoS w0 X0 S a w o x σ' :=
  ⟨v, w, γ, .inl h1, hd.rel, h2⟩

theorem sim_conv (hE : EnvOK P E) (hr : Rel P IoS w0 X0 γ S a w) {src dst : TypeId} {ox : Operand} (ho : o.op = .convert src dst ox) (h : (step E S.f o).ex S.o = some (x, σ')) : Sim P IoS w0 X0 S a w o x σ' := by
  simp only [step, ho] at h
  unfold conv at h
  split at h
  · rename_i k k' h1 h2
    obtain ⟨b, hb, h⟩ := opt_ex h
    obtain ⟨rfl, rfl⟩ := ret_ex h
    have e := RV.int_inv (as_VR hb (hr.opd ox))
    have u1 := (hE.ty _ _ h1).2
    have u2 := (hE.ty _ _ h2).2
    exact Sim.pure hr (by simp [execOp, ho, e, convert, run_underlying u1, run_underlying u2, Conv.intToInt]) RV_int
  · rename_i h1 h2
    obtain ⟨b, hb, h⟩ := opt_ex h
    obtain ⟨rfl, rfl⟩ := ret_ex h
    have e := RV.str_inv (as_VR hb (hr.opd ox))
    have u1 := (hE.ty _ _ h1).2
    have u2 := (hE.ty _ _ h2).2
    exact Sim.pure hr (by simp [execOp, ho, e, convert, run_underlying u1, run_underlying u2]) RV_str
  · rename_i h1 h2
    obtain ⟨xs, σ1, h3, h4⟩ := Pr.ex_bind_some h
    obtain ⟨rfl, rfl⟩ := ret_ex h4
    obtain ⟨hd, hv⟩ := data_VR hE hr h3 (hr.opd ox)
    have hs := hd.same rfl
    subst hs
    obtain ⟨_, _, e, u1, u3⟩ := hE.ty _ _ h1
    have u2 := (hE.ty _ _ h2).2
    have := bytes_str hv (src := src) (dst := dst) u1 u3.2 u2
    exact Sim.pure hr (v := .string (strOf xs)) (by simp [execOp, ho, this]) RV_str
  · cases h

theorem sim_mkIface (hE : EnvOK P E) (hr : Rel P IoS w0 X0 γ S a w) {T : TypeId} {ox : Operand} (ho : o.op = .makeInterface T ox) (h : (step E S.f o).ex S.o = some (x, σ')) : Sim P IoS w0 X0 S a w o x σ' := by
  simp only [step, ho] at h
  split at h
  · rename_i t1 t2 h1 h2
    split at h
    · rename_i hp
      obtain ⟨y, σ1, h3, h4⟩ := Pr.ex_bind_some h
      obtain ⟨z, hz, h4⟩ := opt_ex h4
      obtain ⟨rfl, rfl⟩ := ret_ex h4
      obtain ⟨hd, hv⟩ := data_VR hE hr h3 (hr.opd ox)
      obtain ⟨d, u1, u2⟩ := (hE.ty _ _ h1).known hp
      refine Sim.shared hd (v := .iface T (a.eval ox)) ?_ ⟨?_, inj_ok t2 hz hv⟩
      · simp only [execOp, ho, Instr.makeInterface, Sem.run_bind, run_underlying u1, Result.andThen_ok]
        first
        | rfl
        | (split
           · rename_i ms
             exact absurd rfl (u2 ms)
           · rfl)
      · exact inj_comp hz
    · cases h
  · cases h

theorem sim_nilCheck (hr : Rel P IoS w0 X0 γ S a w) {ox : Operand} (ho : o.op = .nilCheck ox) (h : (step E S.f o).ex S.o = some (x, σ')) : Sim P IoS w0 X0 S a w o x σ' := by
  simp only [step, ho] at h
  have hv := hr.opd ox
  split at h
  · rename_i t y hx
    rw [hx] at hv
    obtain ⟨z, hz, h⟩ := opt_ex h
    obtain ⟨rfl, rfl⟩ := ret_ex h
    subst hz
    have hv' : RV P (.ptr t) w (unst X0 S.o γ) (some z) (a.eval ox) := hv
    obtain ⟨A, d, h1, _⟩ := (RV.one rfl hv').2
    simp only [List.cons.injEq, and_true] at h1
    exact Sim.pure hr (v := a.eval ox) (by simp [execOp, ho, h1]) hv
  · rename_i t k b y hx
    rw [hx] at hv
    obtain ⟨z, hz, h⟩ := opt_ex h
    obtain ⟨rfl, rfl⟩ := ret_ex h
    subst hz
    have hv' : RV P (.fn t k b) w (unst X0 S.o γ) (some z) (a.eval ox) := hv
    obtain ⟨f, first, caps, h1, _⟩ := (RV.one rfl hv').2
    simp only [List.cons.injEq, and_true] at h1
    exact Sim.pure hr (v := a.eval ox) (by simp [execOp, ho, h1]) hv
  · rename_i i n p hx
    rw [hx] at hv
    obtain ⟨ob, hi, h⟩ := get_ex h
    split at h
    · rename_i hn
      obtain ⟨rfl, rfl⟩ := ret_ex h
      obtain ⟨ob', val, g1, g2, g3, g4⟩ := hv
      rw [hi] at g1
      simp only [Option.some.injEq] at g1
      subst g1
      simp only [List.cons.injEq, and_true] at g3
      obtain ⟨b, off, j1, j2, j3⟩ := g4 hn.symm
      subst j3
      exact Sim.pure hr (v := a.eval ox) (by simp [execOp, ho, g3]) (hx ▸ hr.opd ox)
    · cases h
  · rename_i f hx
    rw [hx] at hv
    obtain ⟨rfl, rfl⟩ := ret_ex h
    have hv' : [a.eval ox] = [Value.func (.func f) #[] #[]] := hv
    simp only [List.cons.injEq, and_true] at hv'
    exact Sim.pure hr (v := a.eval ox) (by simp [execOp, ho, hv']) (hx ▸ hr.opd ox)
  · cases h

theorem opq_of {u : Ty} (h : ¬ u.isOpq = true) : ∀ n, u ≠ .opq n := by rintro n rfl; exact h rfl

theorem sim_field (hE : EnvOK P E) (hr : Rel P IoS w0 X0 γ S a w) {T : TypeId} {ox : Operand} {j : Nat} (ho : o.op = .field T ox j) (h : (step E S.f o).ex S.o = some (x, σ')) : Sim P IoS w0 X0 S a w o x σ' := by
  simp only [step, ho] at h
  split at h
  · rename_i t h1
    split at h
    · rename_i hc
      obtain ⟨y, hy, h⟩ := opt_ex h
      obtain ⟨q, σ1, h3, h4⟩ := Pr.ex_bind_some h
      have hv := as_VR hy (hr.opd ox)
      split at h4
      · rename_i u z
        split at h4
        · cases h4
        · rename_i hq
          obtain ⟨rfl, rfl⟩ := ret_ex h4
          obtain ⟨fs, u1, u2⟩ := (hE.ty _ _ h1).fields hc
          have hcomp : t.comp = true := by cases t <;> simp [Ty.cmp] at hc <;> rfl
          obtain ⟨cs, hcs, hrd⟩ := RV.agg hcomp hv
          obtain ⟨rfl, f, pre, c, post, g1, g2, g3, g4, g5⟩ := fs_part t u2 h3 hrd
          obtain ⟨v, hv1, hv2, _⟩ := part_ok g2.1 (opq_of hq) g3 (by simpa using g4) g5 w
          have g1' : fs[j]? = some f := by simpa using g1
          refine Sim.pure hr (v := v) ?_ hv2
          simp [execOp, ho, hcs, Instr.field, run_underlying u1, g1', asAgg, hv1]
      · cases h4
    · cases h
  · cases h

theorem at?_some {α : Type} {xs : List α} {i : Int} {x : α} (h : at? xs i = some x) : 0 ≤ i ∧ i < xs.length ∧ xs[i.toNat]? = some x := by
  unfold at? at h
  split at h
  · rename_i hi
    have := (List.getElem?_eq_some_iff.1 h).1
    exact ⟨hi, by omega, h⟩
  · cases h

theorem sim_index (hE : EnvOK P E) (hr : Rel P IoS w0 X0 γ S a w) {T : TypeId} {ox oi : Operand} (ho : o.op = .index T ox oi) (h : (step E S.f o).ex S.o = some (x, σ')) : Sim P IoS w0 X0 S a w o x σ' := by
  simp only [step, ho] at h
  split at h
  · rename_i h1
    obtain ⟨i, hi, h⟩ := opt_ex h
    obtain ⟨s, hs, h⟩ := opt_ex h
    obtain ⟨b, hb, h⟩ := opt_ex h
    obtain ⟨rfl, rfl⟩ := ret_ex h
    obtain ⟨ik, ei⟩ := idx_VR hi (hr.opd oi)
    have es := RV.str_inv (as_VR hs (hr.opd ox))
    obtain ⟨b1, b2, b3⟩ := at?_some hb
    have hsz : i.toNat < s.size := by
      have h2 := (List.getElem?_eq_some_iff.1 b3).1
      have e2 : s.data.toList.length = s.size := by rw [Array.length_toList]; rfl
      omega
    have hg : s[i.toNat]? = some b := by
      rw [getElem?_pos s i.toNat hsz]
      obtain ⟨q1, q2⟩ := List.getElem?_eq_some_iff.1 b3
      have q3 : s[i.toNat] = s.data.toList[i.toNat] := by
        have : s[i.toNat] = s.data[i.toNat]'hsz := rfl
        rw [this]; simp
      rw [q3, q2]
    refine Sim.pure hr (v := .int .u8 b.toNat) ?_ RV_int
    simp [execOp, ho, ei, es, Instr.index, asIntOf, run_underlying (hE.ty _ _ h1).2, b1, hg]
  · rename_i m t h1
    split at h
    · cases h
    · rename_i hq
      obtain ⟨i, hi, h⟩ := opt_ex h
      obtain ⟨xs, hs, h⟩ := opt_ex h
      obtain ⟨b, hb, h⟩ := opt_ex h
      obtain ⟨rfl, rfl⟩ := ret_ex h
      obtain ⟨ik, ei⟩ := idx_VR hi (hr.opd oi)
      obtain ⟨cs, hcs, hrd⟩ := RV.agg rfl (as_VR hs (hr.opd ox))
      obtain ⟨b1, b2, b3⟩ := at?_some hb
      obtain ⟨_, e, u1, u2⟩ := hE.ty _ _ h1
      obtain ⟨pre, c, post, g1, g2, g3⟩ := arr_part hrd b3
      obtain ⟨v, hv1, hv2, _⟩ := part_ok u2 (opq_of hq) g1 g2 g3 w
      have hm : (xs : List (Den t)).length = m := hrd.1
      refine Sim.pure hr (v := v) ?_ hv2
      have b2' : i < (m : Int) := by rw [← hm]; exact b2
      simp [execOp, ho, ei, hcs, Instr.index, asIntOf, run_underlying u1, b1, b2', u2.run_size, hv1]
  · cases h

theorem sim_typeAssert (hE : EnvOK P E) (hr : Rel P IoS w0 X0 γ S a w) {tx u : TypeId} {ok : Bool} {ox : Operand} (ho : o.op = .typeAssert ox tx u ok) (h : (step E S.f o).ex S.o = some (x, σ')) : Sim P IoS w0 X0 S a w o x σ' := by
  simp only [step, ho] at h
  split at h
  · rename_i t b h1 h2
    split at h
    · rename_i hc
      simp only [Bool.and_eq_true] at hc
      obtain ⟨⟨hc1, hc2⟩, hc3⟩ := hc
      obtain ⟨y, σ1, h3, h4⟩ := Pr.ex_bind_some h
      obtain ⟨hd, hv⟩ := data_VR hE hr h3 (hr.opd ox)
      have hcomp : t.comp = false := by cases t <;> first | rfl | (cases hc2; done)
      have hone := (RV.one hcomp hv).2
      obtain ⟨d, u1, u2⟩ := (hE.ty _ _ h2).known hc3
      obtain ⟨z, hz1, hz2⟩ := (hE.ty _ _ h2).zeroV
      rcases alt_inv t hc2 hc1 hone with ⟨g1, v', g2, g3⟩ | ⟨g1, g2, g3⟩
      · have hrun : (Instr.typeAssert (a.eval ox) tx u ok).run P w = .ok (if ok then .tuple #[v', .bool true] else v') w := by
          rw [g2]
          simp only [Instr.typeAssert, Sem.run_bind, run_underlying u1, Result.andThen_ok]
          split <;> simp_all
        cases ok with
        | true =>
          obtain ⟨rfl, rfl⟩ := ret_ex h4
          refine Sim.shared hd (v := .tuple #[v', .bool true]) (by simp [execOp, ho, hrun]) ⟨#[v', .bool true], rfl, rfl, ?_⟩
          intro i x' u' hx hu
          match i with
          | 0 => simp at hx hu; subst hx; subst hu; exact g3
          | 1 => simp at hx hu; subst hx; subst hu; rw [g1]; exact RV_bool
          | i + 2 => simp at hx
        | false =>
          rcases ite_ex h4 with ⟨_, h4⟩ | ⟨_, h4⟩
          · obtain ⟨rfl, rfl⟩ := ret_ex h4
            exact Sim.shared hd (v := v') (by simp [execOp, ho, hrun]) g3
          · cases h4
      · cases ok with
        | true =>
          obtain ⟨rfl, rfl⟩ := ret_ex h4
          have hrun : (Instr.typeAssert (a.eval ox) tx u true).run P w = .ok (.tuple #[z, .bool false]) w := by
            rcases g3 with g3 | ⟨T', v', g3, g4⟩ <;> rw [g3] <;> simp only [Instr.typeAssert, Sem.run_bind, run_underlying u1, Result.andThen_ok]
            · split <;> simp_all
            · split <;> simp_all
          refine Sim.shared hd (v := .tuple #[z, .bool false]) (by simp [execOp, ho, hrun]) ⟨#[z, .bool false], rfl, rfl, ?_⟩
          intro i x' u' hx hu
          match i with
          | 0 => simp at hx hu; subst hx; subst hu; rw [g2]; exact hz2 _ _
          | 1 => simp at hx hu; subst hx; subst hu; rw [g1]; exact RV_bool
          | i + 2 => simp at hx
        | false =>
          rcases ite_ex h4 with ⟨h5, h4⟩ | ⟨_, h4⟩
          · rw [g1] at h5; cases h5
          · cases h4
    · cases h
  · cases h
end
end Go.AM
end
