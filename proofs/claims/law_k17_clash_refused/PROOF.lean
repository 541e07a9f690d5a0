import PyProof.Rows.All
import Wide.All
import OpenK.AllK
import Wide.FinOn
import HandS.ForMost
import HandS.ForExc
import HandS.Wide
import HandS.IsInst
import HandS.HeadHook1
import HandS.WideBits
import HandS.TupAny
import HandS.TupLe
import HandS.More
import HandS.SortInts
import HandS.Strs
import KE.KSortedM
import HandS.Iter
import HandS.Rev
import HandS.Style
import HandS.ExcIs
import HandS.TryOnly
import HandS.Defaults
import HandS.New0
import PyProof.ListNew
import KE.KStateDown
import HandS.Ends
import HandS.Words
import HandS.WordsExc
import HandS.Head0
import HandS.Head1
import HandS.Head2
import HandS.HeadEnd
import HandS.HeadHook2
import PyProof.Rows.BitMore
import KE.BitLaws
import KE.OsArith
import PySem.Challenge.RW_meterhouse_k17_clash_refused
set_option Elab.async false
set_option linter.all false
set_option maxRecDepth 100000
/-! ZA: a plain model of the part of Python that the program and the laws use: data, a heap of lists, dicts, instances; expressions and statements as data; what they do, as total functions. -/
namespace Z
open PySem

/-- data: tuples by what they hold; lists, dicts, instances by their places -/
inductive D where
  | non | bl (b : Bool) | int (i : Int) | str (s : Str) | tup (xs : List D) | ref (a : Nat) | exc (c : String) (a : Nat)

inductive O where
  | lst (xs : List D)
  | fz (xs : List D)
  | dic (kvs : List (L2.Key × D))
  | dit (kvs : List (List L2.Key × D))
  | ins (c : String) (fs : List (String × D))
  | fzd (kvs : List (L2.Key × D))
  | fzt (kvs : List (List L2.Key × D))

structure Hm where
  get : Nat → Option O
  next : Nat

def Hm.put (h : Hm) (a : Nat) (o : O) : Hm := ⟨fun b => if b = a then some o else h.get b, h.next⟩
def Hm.new (h : Hm) (o : O) : Hm := ⟨fun b => if b = h.next then some o else h.get b, h.next + 1⟩

abbrev Env := List (Option D)
abbrev Res (α : Type) := Option (Except String α × Hm)
@[simp] theorem put_get (h : Hm) (a b : Nat) (o : O) : (h.put a o).get b = if b = a then some o else h.get b := rfl
@[simp] theorem put_next (h : Hm) (a : Nat) (o : O) : (h.put a o).next = h.next := rfl
@[simp] theorem new_get (h : Hm) (b : Nat) (o : O) : (h.new o).get b = if b = h.next then some o else h.get b := rfl
@[simp] theorem new_next (h : Hm) (o : O) : (h.new o).next = h.next + 1 := rfl

def bnd {α β : Type} (m : Res α) (f : α → Hm → Res β) : Res β := match m with
  | none => none
  | some (.error k, h) => some (.error k, h)
  | some (.ok a, h) => f a h
@[simp] theorem bnd_none {α β : Type} (f : α → Hm → Res β) : bnd none f = none := rfl
@[simp] theorem bnd_error {α β : Type} (k : String) (h : Hm) (f : α → Hm → Res β) : bnd (some (.error k, h)) f = some (.error k, h) := rfl
@[simp] theorem bnd_ok {α β : Type} (a : α) (h : Hm) (f : α → Hm → Res β) : bnd (some (.ok a, h)) f = f a h := rfl

/-! ### syntax -/
inductive Bop where | add | sub | mul | fdiv | mod | pow | shl | shr | band | bor | bxor
inductive Cop where | eq | ne | lt | le | gt | ge | isN | notN | inn | nin
inductive Bi where | len | int | str | list | tuple | dict | min2 | max2 | sum | sorted | divmod | abs | any
inductive Bm where | append | pop | get | get2 | dpop | join | split | partition | index | insert | clear | find | isdigit
inductive Tn where | int | bool | str | tuple | list | dict
inductive Cst where | non | bl (b : Bool) | int (i : Int) | str (s : String)
inductive Tg where | name (i : Nat) | tup (is : List Nat)
inductive ItK where | seq | range1 | range2 | range3 | rev | enum | zip | keys | vals | items

def Cst.d : Cst → D
  | .non => .non
  | .bl b => .bl b
  | .int i => .int i
  | .str s => .str (Str.ofString s)

mutual
inductive E where
  | var (i : Nat)
  | con (c : Cst)
  | glo (x : String)
  | bin (o : Bop) (a b : E)
  | neg (a : E)
  | cmp (o : Cop) (a b : E)
  | chn (o o' : Cop) (a b c : E)
  | and (a b : E)
  | or (a b : E)
  | not (a : E)
  | ife (c : T) (a b : E)
  | idx (a b : E)
  | dgt (a b : E)
  | slc (a : E) (lo hi : Eo)
  | att (a : E) (f : String)
  | tup (es : Es)
  | lst (es : Es)
  | dict (es : Es)
  | call (f : String) (es : Es) (ds : List Cst)
  | meth (o : E) (m : String) (es : Es) (ds : List Cst)
  | new (c : String) (es : Es)
  | bi (b : Bi) (es : Es)
  | bm (b : Bm) (o : E) (es : Es)
  | isi (a : E) (t : Tn)
  | isi2 (a : E) (t u : Tn)
  | gix (x : String) (e : E)
  | comp (elt : E) (own : List Nat) (g : Tg) (k : ItK) (es : Es) (tst : T)
  | fst (es : Es)
  | rsl (a : E)
  | dictT
  | dgtT (a : E) (es : Es)
  | getT (a : E) (es : Es) (d : Cst)
  | lck (i : Nat) (e : E)
  | new0 (c : String)
  | isc (a : E) (c : String)
  | isx (i : Nat) (c : String)
  | isxB (i : Nat) (c : String)
inductive Es where
  | nil
  | cons (e : E) (es : Es)
inductive Eo where
  | none
  | some (e : E)
inductive T where
  | yes
  | cmp (o : Cop) (a b : E)
  | chn (o o' : Cop) (a b c : E)
  | and (a b : T)
  | or (a b : T)
  | not (a : T)
  | tru (a : E)
end

inductive S where
  | skip
  | seq (a b : S)
  | asg (i : Nat) (e : E)
  | unp (is : List Nat) (e : E)
  | sfld (o : E) (f : String) (e : E)
  | sidx (o i e : E)
  | dput (o i e : E)
  | aug (i : Nat) (o : Bop) (e : E)
  | augf (o : E) (f : String) (op : Bop) (e : E)
  | augi (o i : E) (op : Bop) (e : E)
  | ite (c : T) (a b : S)
  | for_ (g : Tg) (k : ItK) (es : Es) (body : S)
  | wh (c : T) (body : S)
  | ret (e : E)
  | drop (e : E)
  | rai (c : String)
  | try_ (body : S) (c : String) (x : Option Nat) (suite : S)
  | dputT (o : E) (es : Es) (e : E)
  | lck (i : Nat) (s : S)
  | par (i j : Nat) (es : Es)
end Z

set_option maxRecDepth 100000
/-! ZB: what the model's expressions and statements do. -/
namespace Z
open PySem

def lim : Nat := 1000000
def big (i : Int) : Prop := -(2 ^ 250) < i ∧ i < 2 ^ 250
def w64 (i : Int) : Prop := -(2 ^ 64) < i ∧ i < 2 ^ 64
instance (i : Int) : Decidable (big i) := inferInstanceAs (Decidable (_ ∧ _))
instance (i : Int) : Decidable (w64 i) := inferInstanceAs (Decidable (_ ∧ _))
def mulOk (i j : Int) : Prop := w64 i ∨ w64 j ∨ (big i ∧ big j)
instance (i j : Int) : Decidable (mulOk i j) := inferInstanceAs (Decidable (_ ∨ _))
def rng62 (i : Int) : Prop := -(2 ^ 62) ≤ i ∧ i < 2 ^ 62
instance (i : Int) : Decidable (rng62 i) := inferInstanceAs (Decidable (_ ∧ _))

/-! ### lists by places -/
def atD {α : Type} (xs : List α) (i : Int) : Option α := if 0 ≤ i then xs[i.toNat]? else if -(xs.length : Int) ≤ i then xs[(i + xs.length).toNat]? else none
def ixD (n : Nat) (i : Int) : Option Nat := if 0 ≤ i then (if i < n then some i.toNat else none) else if -(n : Int) ≤ i then some (i + n).toNat else none
def sI (n d : Nat) : Option Int → Nat
  | none => d
  | some v => if v < 0 then (v + (n : Int)).toNat else min v.toNat n
def cut {α : Type} (xs : List α) (lo hi : Option Int) : List α := (xs.drop (sI xs.length 0 lo)).take (sI xs.length xs.length hi - sI xs.length 0 lo)
def cutT (z : Str) (lo hi : Option Int) : Str := ⟨((z.cps.toList.drop (sI z.length 0 lo)).take (sI z.length z.length hi - sI z.length 0 lo)).toArray⟩

/-! ### dicts -/
section
variable {κ α : Type} [DecidableEq κ]
def kget (kvs : List (κ × α)) (k : κ) : Option α := (kvs.find? fun kv => decide (kv.1 = k)).map (·.2)
def kput (kvs : List (κ × α)) (k : κ) (v : α) : List (κ × α) :=
  if (kvs.any fun kv => decide (kv.1 = k)) = true then kvs.map (fun kv => if kv.1 = k then (kv.1, v) else kv) else kvs ++ [(k, v)]
def kdrop (kvs : List (κ × α)) (k : κ) : List (κ × α) := kvs.filter fun kv => decide (kv.1 ≠ k)
def kmerge (kvs more : List (κ × α)) : List (κ × α) := more.foldl (fun acc kv => kput acc kv.1 kv.2) kvs
end
def key? : D → Option L2.Key
  | .int i => some (.inl i)
  | .str s => some (.inr s)
  | _ => none
def keys? : List D → Option (List L2.Key)
  | [] => some []
  | d :: ds => match key? d, keys? ds with
    | some k, some ks => some (k :: ks)
    | _, _ => none
def keyD : L2.Key → D
  | .inl i => .int i
  | .inr s => .str s
def dget (h : Hm) (a : Nat) (k : D) : Option (Option D) := match h.get a with
  | some (.dic kvs) => (key? k).map fun q => kget kvs q
  | some (.fzd kvs) => (key? k).map fun q => kget kvs q
  | _ => none
/-- at a tuple as key -/
def dgetT (h : Hm) (a : Nat) (ks : List D) : Option (Option D) := match h.get a with
  | some (.dit kvs) => (keys? ks).map fun q => kget kvs q
  | some (.fzt kvs) => (keys? ks).map fun q => kget kvs q
  | _ => none
def dputT (h : Hm) (a : Nat) (ks : List D) (v : D) : Option Hm := match h.get a with
  | some (.dit kvs) => if kvs.length < lim then (keys? ks).map fun q => h.put a (.dit (kput kvs q v)) else none
  | _ => none
/-- a dict, locked; is it still -/
def lckO : O → Option O
  | .dic kvs => some (.fzd kvs)
  | .dit kvs => some (.fzt kvs)
  | _ => none
def frzO : Option O → Bool
  | some (.fzd _) => true
  | some (.fzt _) => true
  | _ => false
def dput (h : Hm) (a : Nat) (k v : D) : Option Hm := match h.get a with
  | some (.dic kvs) => if kvs.length < lim then (key? k).map fun q => h.put a (.dic (kput kvs q v)) else none
  | _ => none

/-! ### deep values and == -/
def mapO {α β : Type} (f : α → Option β) : List α → Option (List β)
  | [] => some []
  | x :: xs => match f x, mapO f xs with
    | some y, some ys => some (y :: ys)
    | _, _ => none
def dat (h : Hm) : Nat → D → Option PyData
  | _, .non => some .none
  | _, .bl b => some (.bool b)
  | _, .int i => some (.int i)
  | _, .str s => some (.str s)
  | n + 1, .tup xs => (mapO (dat h n) xs).map .tuple
  | n + 1, .ref a => (match h.get a with
    | some (.lst xs) => (mapO (dat h n) xs).map .list
    | some (.fz xs) => (mapO (dat h n) xs).map .list
    | _ => none)
  | _, _ => none
def deep : Nat := 30
def eqD (x y : D) (h : Hm) : Option Bool := match x, y with
  | .int i, .int j => some (decide (i = j))
  | .str s, .str t => some (decide (s = t))
  | .bl a, .bl b => some (decide (a = b))
  | .non, .non => some true
  | .int _, .str _ => some false
  | .str _, .int _ => some false
  | x, y => match dat h deep x, dat h deep y with
    | some d, some e => if (SeqAt.shaped d && SeqAt.shaped e) = true then some (PyData.eqv d e) else none
    | _, _ => none
def flatD : D → Bool
  | .non => true
  | .bl _ => true
  | .int _ => true
  | .str _ => true
  | _ => false
def eqF : D → D → Bool
  | .non, .non => true
  | .bl a, .bl b => a == b
  | .bl a, .int b => (if a then 1 else 0) == b
  | .int a, .bl b => a == (if b then 1 else 0)
  | .int a, .int b => a == b
  | .str a, .str b => a == b
  | _, _ => false
def inL (x : D) (xs : List D) : Option Bool := if flatD x = true ∧ xs.all flatD = true then some (xs.any fun y => eqF y x) else none
def inS (s z : Str) : Bool := if s.cps.size = 1 then decide (s.cps.getD 0 0 ∈ z.cps.toList) else !(Builtin.Str.occurrences z s 0 z.length 1).isEmpty
def inD (x y : D) (h : Hm) : Option Bool := match y with
  | .str z => (match x with
    | .str s => some (inS s z)
    | _ => none)
  | .tup xs => inL x xs
  | .ref a => (match h.get a with
    | some (.lst xs) => inL x xs
    | some (.fz xs) => inL x xs
    | some (.dic _) => (dget h a x).map Option.isSome
    | some (.fzd _) => (dget h a x).map Option.isSome
    | _ => none)
  | _ => none
def cmpD (o : Cop) (x y : D) (h : Hm) : Option Bool := match o with
  | .eq => eqD x y h
  | .ne => (eqD x y h).map fun b => !b
  | .lt => (match x, y with
    | .int i, .int j => some (decide (i < j))
    | _, _ => none)
  | .le => (match x, y with
    | .int i, .int j => some (decide (i ≤ j))
    | _, _ => none)
  | .gt => (match x, y with
    | .int i, .int j => some (decide (j < i))
    | _, _ => none)
  | .ge => (match x, y with
    | .int i, .int j => some (decide (j ≤ i))
    | _, _ => none)
  | .isN => (match x, y with
    | .bl a, .bl b => some (decide (a = b))
    | .non, .non => some true
    | _, .non => some false
    | _, _ => none)
  | .notN => (match x, y with
    | .bl a, .bl b => some (!decide (a = b))
    | .non, .non => some false
    | _, .non => some true
    | _, _ => none)
  | .inn => inD x y h
  | .nin => (inD x y h).map fun b => !b

/-! ### operators -/
def ok {α : Type} (x : α) (h : Hm) : Res α := some (.ok x, h)
/-- a text, k times -/
def repS (s : Str) (k : Int) : Str := ⟨List.foldl (fun a b => a ++ b) #[] (List.replicate k.toNat s.cps)⟩
def binD (o : Bop) (x y : D) (h : Hm) : Res D := match o with
  | .add => (match x, y with
    | .int i, .int j => ok (.int (i + j)) h
    | .str s, .str t => if s.length + t.length ≤ lim then ok (.str (s ++ t)) h else none
    | .tup (x :: xs), .tup ys => if xs.length + ys.length < lim then ok (.tup (x :: xs ++ ys)) h else none
    | .ref a, .ref b => (match h.get a, h.get b with
      | some (.lst xs), some (.lst ys) => if xs.length + ys.length ≤ lim then ok (.ref h.next) (h.new (.lst (xs ++ ys))) else none
      | _, _ => none)
    | _, _ => none)
  | .sub => (match x, y with
    | .int i, .int j => ok (.int (i - j)) h
    | _, _ => none)
  | .mul => (match x, y with
    | .int i, .int j => if mulOk i j then ok (.int (i * j)) h else none
    | .str s, .int k => if s.length = 1 ∧ 2 ≤ k ∧ k ≤ 10000 then ok (.str (repS s k)) h else none
    | .ref a, .int k => (match h.get a with
      | some (.lst xs) => if rng62 k ∧ xs.length * k.toNat ≤ lim then ok (.ref h.next) (h.new (.lst (List.replicate k.toNat xs).flatten)) else none
      | _ => none)
    | _, _ => none)
  | .fdiv => (match x, y with
    | .int i, .int j => if 0 < j ∧ j < 2 ^ 250 then ok (.int (i / j)) h else none
    | _, _ => none)
  | .mod => (match x, y with
    | .int i, .int j => if 0 < j then ok (.int (i % j)) h else none
    | _, _ => none)
  | .pow => (match x, y with
    | .int i, .int j => if 0 ≤ j ∧ j ≤ 1000000 ∧ w64 i then ok (.int (i ^ j.toNat)) h else none
    | _, _ => none)
  | .shl => (match x, y with
    | .int i, .int j => if 0 ≤ j ∧ j ≤ 1000000 ∧ w64 i then ok (.int (i * 2 ^ j.toNat)) h else none
    | _, _ => none)
  | .shr => (match x, y with
    | .int i, .int j => if 0 ≤ j then ok (.int (i / 2 ^ j.toNat)) h else none
    | _, _ => none)
  | .band => (match x, y with
    | .int i, .int j => ok (.int (Builtin.bitAnd i j)) h
    | _, _ => none)
  | .bor => (match x, y with
    | .int i, .int j => ok (.int (Builtin.bitOr i j)) h
    | _, _ => none)
  | .bxor => (match x, y with
    | .int i, .int j => ok (.int (Builtin.bitXor i j)) h
    | _, _ => none)
def negD (x : D) (h : Hm) : Res D := match x with
  | .int i => ok (.int (-i)) h
  | _ => none
def idxD (x y : D) (h : Hm) : Option D := match y with
  | .int i => (match x with
    | .tup xs => atD xs i
    | .ref a => (match h.get a with
      | some (.lst xs) => atD xs i
      | some (.fz xs) => atD xs i
      | _ => none)
    | .str z => if z.length ≤ lim then (atD z.cps.toList i).map fun c => .str ⟨#[c]⟩ else none
    | _ => none)
  | _ => none
def slcD (x : D) (lo hi : Option Int) (h : Hm) : Res D := match x with
  | .tup xs => ok (.tup (cut xs lo hi)) h
  | .ref a => (match h.get a with
    | some (.lst xs) => ok (.ref h.next) (h.new (.lst (cut xs lo hi)))
    | some (.fz xs) => ok (.ref h.next) (h.new (.lst (cut xs lo hi)))
    | _ => none)
  | .str z => if z.length ≤ lim then ok (.str (cutT z lo hi)) h else none
  | _ => none
def truD (x : D) (h : Hm) : Option Bool := match x with
  | .non => some false
  | .bl b => some b
  | .int i => some (i != 0)
  | .str s => if s.length ≤ lim then some ((s.length : Int) != 0) else none
  | .tup xs => some (!xs.isEmpty)
  | .ref a => (match h.get a with
    | some (.lst xs) => some (!xs.isEmpty)
    | some (.fz xs) => some (!xs.isEmpty)
    | some (.dic kvs) => some (!kvs.isEmpty)
    | _ => none)
  | _ => none

/-! ### built-in functions and methods -/
def ints? : List D → Option (List Int)
  | [] => some []
  | .int i :: ds => (ints? ds).map fun r => i :: r
  | _ => none
def bls? : List D → Option (List Bool)
  | [] => some []
  | .bl i :: ds => (bls? ds).map fun r => i :: r
  | _ => none
def strs? : List D → Option (List Str)
  | [] => some []
  | .str i :: ds => (strs? ds).map fun r => i :: r
  | _ => none
def insI (x : Int) : List Int → List Int
  | [] => [x]
  | y :: ys => if x ≤ y then x :: y :: ys else y :: insI x ys
def srt : List Int → List Int
  | [] => []
  | x :: xs => insI x (srt xs)
def seqOf (x : D) (h : Hm) : Option (List D) := match x with
  | .tup xs => some xs
  | .ref a => (match h.get a with
    | some (.lst xs) => some xs
    | some (.fz xs) => some xs
    | _ => none)
  | _ => none
/-- the items of a list that is no tuple -/
def lstOf (x : D) (h : Hm) : Option (List D) := match x with
  | .ref a => (match h.get a with
    | some (.lst xs) => some xs
    | some (.fz xs) => some xs
    | _ => none)
  | _ => none
def biD (b : Bi) (vs : List D) (h : Hm) : Res D := match b with
  | .len => (match vs with
    | [.str s] => if s.length ≤ lim then ok (.int s.length) h else none
    | [.tup xs] => ok (.int xs.length) h
    | [.ref a] => (match h.get a with
      | some (.lst xs) => ok (.int xs.length) h
      | some (.fz xs) => ok (.int xs.length) h
      | some (.dic kvs) => ok (.int kvs.length) h
      | _ => none)
    | _ => none)
  | .int => (match vs with
    | [.int i] => ok (.int i) h
    | [.bl b] => ok (.int (if b then 1 else 0)) h
    | [.str s] => if s.length ≤ 640 then (match intText? s with
      | some n => ok (.int n) h
      | none => none) else none
    | _ => none)
  | .str => (match vs with
    | [.int i] => if -(2 ^ 250) < i ∧ i < 2 ^ 250 then ok (.str (Str.ofString (toString i))) h else none
    | _ => none)
  | .list => (match vs with
    | [x] => (match seqOf x h with
      | some xs => ok (.ref h.next) (h.new (.lst xs))
      | none => (match x with
        | .ref a => (match h.get a with
          | some (.dic kvs) => ok (.ref h.next) (h.new (.lst (kvs.map fun kv => keyD kv.1)))
          | _ => none)
        | _ => none))
    | _ => none)
  | .tuple => (match vs with
    | [x] => (match seqOf x h with
      | some xs => ok (.tup xs) h
      | none => none)
    | _ => none)
  | .dict => (match vs with
    | [.ref a] => (match h.get a with
      | some (.dic kvs) => ok (.ref h.next) (h.new (.dic kvs))
      | _ => none)
    | _ => none)
  | .min2 => (match vs with
    | [.int i, .int j] => ok (.int (if j < i then j else i)) h
    | _ => none)
  | .max2 => (match vs with
    | [.int i, .int j] => ok (.int (if j > i then j else i)) h
    | _ => none)
  | .sum => (match vs with
    | [x] => (match lstOf x h with
      | some xs => (match ints? xs with
        | some ns => ok (.int ns.sum) h
        | none => none)
      | none => none)
    | _ => none)
  | .sorted => (match vs with
    | [x] => (match lstOf x h with
      | some xs => (match ints? xs with
        | some ns => ok (.ref h.next) (h.new (.lst ((srt ns).map .int)))
        | none => none)
      | none => (match x with
        | .ref a => (match h.get a with
          | some (.dic kvs) => (match ints? (kvs.map fun kv => keyD kv.1) with
            | some ns => if ns.length < 64 then ok (.ref h.next) (h.new (.lst ((srt ns).map .int))) else none
            | none => none)
          | _ => none)
        | _ => none))
    | _ => none)
  | .divmod => (match vs with
    | [.int i, .int j] => if 0 < j ∧ -(2 ^ 250) < i ∧ i < 2 ^ 250 then ok (.tup [.int (i / j), .int (i % j)]) h else none
    | _ => none)
  | .abs => (match vs with
    | [.int i] => ok (.int (if i < 0 then -i else i)) h
    | _ => none)
  | .any => (match vs with
    | [x] => (match lstOf x h with
      | some xs => (match bls? xs with
        | some bs => ok (.bl (bs.any id)) h
        | none => none)
      | none => none)
    | _ => none)
/-- the first place of a flat thing -/
def whereL (x : D) : List D → Option Nat
  | [] => none
  | y :: ys => if eqF y x = true then some 0 else (whereL x ys).map (· + 1)
/-- the first place of a text in a tuple of texts -/
def gixD (x y : D) (h : Hm) : Res D := match x, y with
  | .tup xs, .str z => (match strs? xs with
    | some ys => (match ys.findIdx? fun s => decide (s = z) with
      | some j => ok (.int j) h
      | none => none)
    | none => none)
  | _, _ => none
/-- what kind of thing a method asks of its receiver -/
def rcv (b : Bm) (x : D) (h : Hm) : Bool := match b with
  | .append => (lstOf x h).isSome
  | .pop => (lstOf x h).isSome
  | .insert => (lstOf x h).isSome
  | .clear => (lstOf x h).isSome
  | .index => (lstOf x h).isSome
  | .get => isDic x h
  | .get2 => isDic x h
  | .dpop => isDic x h
  | _ => (match x with
    | .str _ => true
    | _ => false)
where isDic (x : D) (h : Hm) : Bool := match x with
  | .ref a => (match h.get a with
    | some (.dic _) => true
    | some (.fzd _) => true
    | _ => false)
  | _ => false
def bmD (b : Bm) (x : D) (vs : List D) (h : Hm) : Res D := match b with
  | .append => (match x, vs with
    | .ref a, [v] => (match h.get a with
      | some (.lst xs) => if xs.length < lim then ok .non (h.put a (.lst (xs ++ [v]))) else none
      | _ => none)
    | _, _ => none)
  | .pop => (match x, vs with
    | .ref a, [] => (match h.get a with
      | some (.lst xs) => (match xs.getLast? with
        | some y => ok y (h.put a (.lst xs.dropLast))
        | none => none)
      | _ => none)
    | _, _ => none)
  | .get => (match x, vs with
    | .ref a, [k] => (match dget h a k with
      | some (some v) => ok v h
      | some none => ok .non h
      | none => none)
    | _, _ => none)
  | .get2 => (match x, vs with
    | .ref a, [k, y] => (match dget h a k with
      | some (some v) => ok v h
      | some none => ok y h
      | none => none)
    | _, _ => none)
  | .dpop => (match x, vs with
    | .ref a, [k] => (match h.get a with
      | some (.dic kvs) => (match key? k with
        | some q => (match kget kvs q with
          | some v => ok v (h.put a (.dic (kdrop kvs q)))
          | none => none)
        | none => none)
      | _ => none)
    | _, _ => none)
  | .join => (match x, vs with
    | .str z, [y] => (match seqOf y h with
      | some xs => (match strs? xs with
        | some ys => if (ys.map (·.length)).sum + ys.length * z.length ≤ 16777216 then ok (.str (PySem.Txt.join z ys)) h else none
        | none => none)
      | none => none)
    | _, _ => none)
  | .split => (match x, vs with
    | .str z, [.str y] => if (y.length == 0) = false ∧ z.length ≤ lim then ok (.ref h.next) (h.new (.lst ((PySem.Txt.split z y).map .str))) else none
    | _, _ => none)
  | .partition => (match x, vs with
    | .str z, [.str y] => if (y.length == 0) = false ∧ z.length ≤ lim then
        ok (.tup [.str (PySem.Txt.partition z y).1, .str (PySem.Txt.partition z y).2.1, .str (PySem.Txt.partition z y).2.2]) h else none
    | _, _ => none)
  | .index => (match vs with
    | [y] => (match lstOf x h with
      | some xs => if flatD y = true ∧ xs.all flatD = true then (match whereL y xs with
        | some j => ok (.int j) h
        | none => none) else none
      | none => none)
    | _ => none)
  | .insert => (match x, vs with
    | .ref a, [.int i, v] => (match h.get a with
      | some (.lst xs) => if xs.length < lim ∧ 0 ≤ i ∧ i < 2 ^ 62 then ok .non (h.put a (.lst (xs.take i.toNat ++ [v] ++ xs.drop i.toNat))) else none
      | _ => none)
    | _, _ => none)
  | .clear => (match x, vs with
    | .ref a, [] => (match h.get a with
      | some (.lst xs) => ok .non (h.put a (.lst []))
      | _ => none)
    | _, _ => none)
  | .find => (match x, vs with
    | .str z, [.str y] => ok (.int (PySem.Txt.find z y)) h
    | _, _ => none)
  | .isdigit => (match x, vs with
    | .str z, [] => ok (.bl (PySem.Txt.isdigit z)) h
    | _, _ => none)
end Z

set_option maxRecDepth 100000
/-! ZC: the runs: expressions, tests, statements, defs. -/
namespace Z
open PySem

/-- a def: parameters, names in all, body -/
structure Fn where
  np : Nat
  ns : Nat
  body : S
/-- a program: its defs (methods by "Class.name"), its constants, which def a class's method is, which names are an instance's own, which class takes which exception; how often a while may turn -/
structure Prog where
  fn : String → Option Fn
  glob : String → Option D
  mt : String → String → Option String
  fld : String → String → Bool
  exm : String → String → Option Bool
  lf : Nat
  sub : String → String → Option Bool := fun _ _ => none
  exs : String → String → Option Bool := fun _ _ => none
  exb : String → String → Option Bool := fun _ _ => none
  xk : Option (String × Nat) := none

inductive Fl where | nx | rt (d : D) | ex (k : String)
abbrev Out := Option (Fl × Env × Hm)

def stays (gd : List (Nat × O)) (h : Hm) : Prop := ∀ p ∈ gd, h.get p.1 = some p.2
def setN (env : Env) : List Nat → List D → Option Env
  | [], [] => some env
  | i :: is, d :: ds => setN (env.set i (some d)) is ds
  | _, _ => none
def asgT (g : Tg) (x : D) (env : Env) : Option Env := match g with
  | .name i => some (env.set i (some x))
  | .tup is => (match x with
    | .tup xs => setN env is xs
    | _ => none)
def wipeE (env : Env) : List Nat → Env
  | [] => env
  | v :: vs => (wipeE env vs).set v none
/-- what is walked: the items, and what must stay so -/
def walk (k : ItK) (vs : List D) (h : Hm) : Option (List D × List (Nat × O)) := match k with
  | .seq => (match vs with
    | [.tup xs] => some (xs, [])
    | [.str z] => some (z.cps.toList.map fun c => .str ⟨#[c]⟩, [])
    | [.ref a] => (match h.get a with
      | some (.lst xs) => some (xs, [(a, .lst xs)])
      | some (.fz xs) => some (xs, [(a, .fz xs)])
      | _ => none)
    | _ => none)
  | .range1 => (match vs with
    | [.int n] => if rng62 n then some ((List.range n.toNat).map fun (i : Nat) => .int (i : Int), []) else none
    | _ => none)
  | .range2 => (match vs with
    | [.int m, .int n] => if rng62 m ∧ rng62 n then some ((List.range (n - m).toNat).map fun (i : Nat) => .int (m + (i : Int)), []) else none
    | _ => none)
  | .range3 => (match vs with
    | [.int m, .int n, .int c] => if (c = 2 ∨ c = 7) ∧ rng62 m ∧ rng62 n then some ((List.range (if m < n then (n - m - 1) / c + 1 else 0).toNat).map fun (i : Nat) => .int (m + (i : Int) * c), []) else none
    | _ => none)
  | .rev => (match vs with
    | [.tup xs] => some (xs.reverse, [])
    | [.ref a] => (match h.get a with
      | some (.lst xs) => some (xs.reverse, [(a, .lst xs)])
      | some (.fz xs) => some (xs.reverse, [(a, .fz xs)])
      | _ => none)
    | _ => none)
  | .keys => (match vs with
    | [.ref a] => (match h.get a with
      | some (.fzd kvs) => some (kvs.map fun kv => keyD kv.1, [])
      | some (.fzt kvs) => some (kvs.map fun kv => .tup (kv.1.map keyD), [])
      | _ => none)
    | _ => none)
  | .vals => (match vs with
    | [.ref a] => (match h.get a with
      | some (.fzd kvs) => some (kvs.map fun kv => kv.2, [])
      | _ => none)
    | _ => none)
  | .items => (match vs with
    | [.ref a] => (match h.get a with
      | some (.fzd kvs) => some (kvs.map fun kv => .tup [keyD kv.1, kv.2], [])
      | _ => none)
    | _ => none)
  | .zip => (match vs with
    | [.ref a, .ref b] => (match h.get a, h.get b with
      | some (.lst xs), some (.lst ys) => some ((xs.zip ys).map fun p => .tup [p.1, p.2], [(a, .lst xs), (b, .lst ys)])
      | _, _ => none)
    | _ => none)
  | _ => none

/-- an error in a comprehension is not followed -/
def bndN {α β : Type} (m : Res α) (f : α → Hm → Res β) : Res β := match m with
  | some (.ok a, h) => f a h
  | _ => none
@[simp] theorem bndN_none {α β : Type} (f : α → Hm → Res β) : bndN none f = none := rfl
@[simp] theorem bndN_error {α β : Type} (k : String) (h : Hm) (f : α → Hm → Res β) : bndN (some (.error k, h)) f = none := rfl
@[simp] theorem bndN_ok {α β : Type} (a : α) (h : Hm) (f : α → Hm → Res β) : bndN (some (.ok a, h)) f = f a h := rfl

open Classical in
noncomputable def compL (fe : Env → Hm → Res D) (ft : Env → Hm → Res Bool) (g : Tg) (gd : List (Nat × O)) (a : Nat) (env : Env) : List D → Hm → Res D
  | [], h => if stays gd h then ok (.ref a) h else none
  | x :: xs, h => if stays gd h then (match asgT g x env with
    | none => none
    | some env1 => bndN (ft env1 h) fun b h2 => if b = true then bndN (fe env1 h2) fun y h3 => (match h3.get a with
      | some (.lst acc) => if acc.length < lim then compL fe ft g gd a env xs (h3.put a (.lst (acc ++ [y]))) else none
      | _ => none) else compL fe ft g gd a env xs h2) else none

def liftO {α : Type} (o : Option α) (h : Hm) : Res α := match o with
  | some x => ok x h
  | none => none
abbrev Cl := String → List D → Hm → Res D

/-- a thing's type by name -/
def tyN (x : D) (h : Hm) : Option String := match x with
  | .non => some "NoneType"
  | .bl _ => some "bool"
  | .int _ => some "int"
  | .str _ => some "str"
  | .tup _ => some "tuple"
  | .ref a => (match h.get a with
    | some (.lst _) => some "list"
    | some (.fz _) => some "list"
    | some (.dic _) => some "dict"
    | _ => none)
  | .exc _ _ => none
def Tn.nm : Tn → String
  | .int => "int"
  | .bool => "bool"
  | .str => "str"
  | .tuple => "tuple"
  | .list => "list"
  | .dict => "dict"
def isTn (a : String) (t : Tn) : Bool := a == t.nm || (a == "bool" && t.nm == "int")
def Tg.in_ (g : Tg) (own : List Nat) : Bool := match g with
  | .name i => own.contains i
  | .tup is => is.all own.contains
mutual
noncomputable def ev (P : Prog) (cl : Cl) : E → Env → Hm → Res D
  | .var i, env, h => (match env[i]? with
    | some (some d) => ok d h
    | _ => none)
  | .con c, _, h => ok c.d h
  | .glo x, _, h => liftO (P.glob x) h
  | .bin o a b, env, h => bnd (ev P cl a env h) fun x h1 => bnd (ev P cl b env h1) fun y h2 => binD o x y h2
  | .neg a, env, h => bnd (ev P cl a env h) negD
  | .cmp o a b, env, h => bnd (ev P cl a env h) fun x h1 => bnd (ev P cl b env h1) fun y h2 => liftO ((cmpD o x y h2).map .bl) h2
  | .chn o o' a b c, env, h => bnd (ev P cl a env h) fun x h1 => bnd (ev P cl b env h1) fun y h2 => (match cmpD o x y h2 with
    | some true => bnd (ev P cl c env h2) fun z h3 => liftO ((cmpD o' y z h3).map .bl) h3
    | some false => ok (.bl false) h2
    | none => none)
  | .and a b, env, h => bnd (ev P cl a env h) fun x h1 => (match x with
    | .bl true => ev P cl b env h1
    | .bl false => ok (.bl false) h1
    | _ => none)
  | .or a b, env, h => bnd (ev P cl a env h) fun x h1 => (match x with
    | .bl true => ok (.bl true) h1
    | .bl false => ev P cl b env h1
    | _ => none)
  | .not a, env, h => bnd (ev P cl a env h) fun x h1 => (match x with
    | .bl b => ok (.bl (!b)) h1
    | _ => none)
  | .ife c a b, env, h => bnd (evT P cl c env h) fun k h1 => if k = true then ev P cl a env h1 else ev P cl b env h1
  | .idx a b, env, h => bnd (ev P cl a env h) fun x h1 => bnd (ev P cl b env h1) fun y h2 => liftO (idxD x y h2) h2
  | .dgt a b, env, h => bnd (ev P cl a env h) fun x h1 => bnd (ev P cl b env h1) fun y h2 => (match x with
    | .ref p => (match dget h2 p y with
      | some (some v) => ok v h2
      | _ => none)
    | _ => none)
  | .slc a lo hi, env, h => bnd (ev P cl a env h) fun x h1 => bnd (evO P cl lo env h1) fun l h2 => bnd (evO P cl hi env h2) fun u h3 => slcD x l u h3
  | .att a f, env, h => bnd (ev P cl a env h) fun x h1 => (match x with
    | .ref p => (match h1.get p with
      | some (.ins c fs) => if P.fld c f = true then liftO (fs.lookup f) h1 else none
      | _ => none)
    | _ => none)
  | .tup es, env, h => bnd (evs P cl es env h) fun vs h1 => if vs.length ≤ lim then ok (.tup vs) h1 else none
  | .lst es, env, h => bnd (evs P cl es env h) fun vs h1 => if vs.length ≤ lim then ok (.ref h1.next) (h1.new (.lst vs)) else none
  | .dict es, env, h => (match es with
    | .nil => ok (.ref h.next) (h.new (.dic []))
    | _ => none)
  | .call f es ds, env, h => bnd (evs P cl es env h) fun vs h1 => cl f (vs ++ ds.map Cst.d) h1
  | .meth o m es ds, env, h => bnd (ev P cl o env h) fun x h1 => (match x with
    | .ref p => (match h1.get p with
      | some (.ins c fs) => (match P.mt c m, fs.lookup m with
        | some f, none => bnd (evs P cl es env h1) fun vs h2 => cl f (.ref p :: (vs ++ ds.map Cst.d)) h2
        | _, _ => none)
      | _ => none)
    | _ => none)
  | .new c es, env, h => bnd (evs P cl es env h) fun vs h1 => (match P.mt c "__init__" with
    | some f => bnd (cl f (.ref h1.next :: vs) (h1.new (.ins c []))) fun x h2 => (match x with
      | .non => ok (.ref h1.next) h2
      | _ => none)
    | none => none)
  | .bi b es, env, h => bnd (evs P cl es env h) fun vs h1 => biD b vs h1
  | .bm b o es, env, h => bnd (ev P cl o env h) fun x h1 => if rcv b x h1 = true then bnd (evs P cl es env h1) fun vs h2 => bmD b x vs h2 else none
  | .gix x e, env, h => (match P.glob x with
    | some (.tup xs) => bnd (ev P cl e env h) fun y h1 => gixD (.tup xs) y h1
    | _ => none)
  | .isi a t, env, h => bnd (ev P cl a env h) fun x h1 => liftO ((tyN x h1).map fun n => .bl (isTn n t)) h1
  | .isi2 a t u, env, h => bnd (ev P cl a env h) fun x h1 => liftO ((tyN x h1).map fun n => .bl (isTn n t || isTn n u)) h1
  | .comp elt own g k es tst, env, h => bnd (evs P cl es env h) fun vs h1 => (match walk k vs h1 with
    | some (items, gd) => if g.in_ own = true then compL (fun e1 h2 => ev P cl elt e1 h2) (fun e1 h2 => evT P cl tst e1 h2) g gd h1.next (wipeE env own) items (h1.new (.lst [])) else none
    | none => none)
  | .fst _, _, _ => none
  | .rsl a, env, h => bnd (ev P cl a env h) fun x h1 => (match lstOf x h1 with
    | some xs => ok (.ref h1.next) (h1.new (.lst xs.reverse))
    | none => none)
  | .dictT, _, h => ok (.ref h.next) (h.new (.dit []))
  | .dgtT a es, env, h => bnd (ev P cl a env h) fun x h1 => bnd (evs P cl es env h1) fun ks h2 => (match x with
    | .ref p => if ks.length ≤ lim then (match dgetT h2 p ks with
      | some (some v) => ok v h2
      | _ => none) else none
    | _ => none)
  | .getT a es d, env, h => bnd (ev P cl a env h) fun x h1 => (match x with
    | .ref p => (match dgetT h1 p [] with
      | some _ => bnd (evs P cl es env h1) fun ks h2 => if ks.length ≤ lim then (match dgetT h2 p ks with
        | some (some v) => ok v h2
        | some none => ok d.d h2
        | none => none) else none
      | none => none)
    | _ => none)
  | .lck i e, env, h => (match env[i]? with
    | some (some (.ref a)) => (match h.get a with
      | some o => (match lckO o with
        | some o' => bndN (ev P cl e env (h.put a o')) fun x h2 => if frzO (h2.get a) = true then ok x (h2.put a o) else none
        | none => none)
      | none => none)
    | _ => none)
  | .new0 c, _, h => ok (.ref h.next) (h.new (.ins c []))
  | .isx i c, env, h => (match env[i]? with
    | some (some (.exc k a)) => if P.xk = some (k, a) then liftO ((P.exs k c).map .bl) h else none
    | _ => none)
  | .isxB i c, env, h => (match env[i]? with
    | some (some (.exc k a)) => if P.xk = some (k, a) then liftO ((P.exb k c).map .bl) h else none
    | _ => none)
  | .isc a c, env, h => bnd (ev P cl a env h) fun x h1 => (match x with
    | .ref p => (match h1.get p with
      | some (.ins c1 fs) => liftO ((P.sub c1 c).map .bl) h1
      | _ => none)
    | _ => none)
noncomputable def evs (P : Prog) (cl : Cl) : Es → Env → Hm → Res (List D)
  | .nil, _, h => ok [] h
  | .cons e es, env, h => bnd (ev P cl e env h) fun x h1 => bnd (evs P cl es env h1) fun xs h2 => ok (x :: xs) h2
noncomputable def evO (P : Prog) (cl : Cl) : Eo → Env → Hm → Res (Option Int)
  | .none, _, h => ok none h
  | .some e, env, h => bnd (ev P cl e env h) fun x h1 => (match x with
    | .int i => ok (some i) h1
    | _ => none)
noncomputable def evT (P : Prog) (cl : Cl) : T → Env → Hm → Res Bool
  | .yes, _, h => ok true h
  | .cmp o a b, env, h => bnd (ev P cl a env h) fun x h1 => bnd (ev P cl b env h1) fun y h2 => liftO (cmpD o x y h2) h2
  | .chn o o' a b c, env, h => bnd (ev P cl a env h) fun x h1 => bnd (ev P cl b env h1) fun y h2 => (match cmpD o x y h2 with
    | some true => bnd (ev P cl c env h2) fun z h3 => liftO (cmpD o' y z h3) h3
    | some false => ok false h2
    | none => none)
  | .and a b, env, h => bnd (evT P cl a env h) fun k h1 => if k = true then evT P cl b env h1 else ok false h1
  | .or a b, env, h => bnd (evT P cl a env h) fun k h1 => if k = true then ok true h1 else evT P cl b env h1
  | .not a, env, h => bnd (evT P cl a env h) fun k h1 => ok (!k) h1
  | .tru a, env, h => bnd (ev P cl a env h) fun x h1 => liftO (truD x h1) h1
end

/-- an expression's end as a statement's -/
def toS {α : Type} (m : Res α) (env : Env) (f : α → Hm → Out) : Out := match m with
  | none => none
  | some (.error k, h) => some (.ex k, env, h)
  | some (.ok a, h) => f a h
@[simp] theorem toS_none {α : Type} (env : Env) (f : α → Hm → Out) : toS none env f = none := rfl
@[simp] theorem toS_error {α : Type} (k : String) (h : Hm) (env : Env) (f : α → Hm → Out) : toS (some (.error k, h)) env f = some (.ex k, env, h) := rfl
@[simp] theorem toS_ok {α : Type} (a : α) (h : Hm) (env : Env) (f : α → Hm → Out) : toS (some (.ok a, h)) env f = f a h := rfl
def nxt (env : Env) (h : Hm) : Out := some (.nx, env, h)
def thenS (m : Out) (f : Env → Hm → Out) : Out := match m with
  | some (.nx, env, h) => f env h
  | r => r
@[simp] theorem thenS_nx (env : Env) (h : Hm) (f : Env → Hm → Out) : thenS (some (.nx, env, h)) f = f env h := rfl
@[simp] theorem thenS_rt (d : D) (env : Env) (h : Hm) (f : Env → Hm → Out) : thenS (some (.rt d, env, h)) f = some (.rt d, env, h) := rfl
@[simp] theorem thenS_ex (k : String) (env : Env) (h : Hm) (f : Env → Hm → Out) : thenS (some (.ex k, env, h)) f = some (.ex k, env, h) := rfl
@[simp] theorem thenS_none (f : Env → Hm → Out) : thenS none f = none := rfl

open Classical in
noncomputable def forL (fb : Env → Hm → Out) (g : Tg) (gd : List (Nat × O)) : List D → Env → Hm → Out
  | [], env, h => if stays gd h then nxt env h else none
  | x :: xs, env, h => if stays gd h then (match asgT g x env with
    | none => none
    | some env1 => thenS (fb env1 h) fun env2 h2 => forL fb g gd xs env2 h2) else none
def whl (ft : Env → Hm → Res Bool) (fb : Env → Hm → Out) : Nat → Env → Hm → Out
  | 0, _, _ => none
  | n + 1, env, h => toS (ft env h) env fun b h1 => if b = true then thenS (fb env h1) fun env2 h2 => whl ft fb n env2 h2 else nxt env h1
def setF (fs : List (String × D)) (f : String) (v : D) : List (String × D) := match fs with
  | [] => [(f, v)]
  | (g, x) :: r => if g = f then (g, v) :: r else (g, x) :: setF r f v

/-- what a suite leaves: the name of the error is empty -/
def emptied (i : Nat) (m : Out) : Out := match m with
  | some (.nx, env, h) => some (.nx, env.set i none, h)
  | some (.rt d, env, h) => some (.rt d, env.set i none, h)
  | _ => none
open Classical in
/-- one answer, whatever the error's place is -/
noncomputable def oneA (m : Nat → Out) : Out := if h : ∃ r, ∀ a, m a = some r then some (choose h) else none
theorem oneA_ok {m : Nat → Out} {r : Fl × Env × Hm} (h : ∀ a, m a = some r) : oneA m = some r := by
  have hh : ∃ r, ∀ a, m a = some r := ⟨r, h⟩
  unfold oneA
  rw [dif_pos hh]
  exact ((Classical.choose_spec hh) 0).symm.trans (h 0)
theorem oneA_of {m : Nat → Out} {r : Fl × Env × Hm} (e : oneA m = some r) (a : Nat) : m a = some r := by
  unfold oneA at e
  split at e
  · rename_i hh
    rw [← e]
    exact Classical.choose_spec hh a
  · cases e
/-- op= of two whole numbers -/
def augD (o : Bop) (x y : D) : Option D := match o, x, y with
  | .add, .int i, .int j => some (.int (i + j))
  | .sub, .int i, .int j => some (.int (i - j))
  | _, _, _ => none
noncomputable def ex (P : Prog) (cl : Cl) : S → Env → Hm → Out
  | .skip, env, h => nxt env h
  | .seq a b, env, h => thenS (ex P cl a env h) fun env1 h1 => ex P cl b env1 h1
  | .asg i e, env, h => toS (ev P cl e env h) env fun x h1 => nxt (env.set i (some x)) h1
  | .unp is e, env, h => toS (ev P cl e env h) env fun x h1 => (match seqOf x h1 with
    | some xs => (match setN env is xs with
      | some env1 => nxt env1 h1
      | none => none)
    | none => none)
  | .sfld o f e, env, h => toS (ev P cl e env h) env fun x h1 => toS (ev P cl o env h1) env fun y h2 => (match y with
    | .ref p => (match h2.get p with
      | some (.ins c fs) => if P.fld c f = true ∧ fs.length < 1000 then nxt env (h2.put p (.ins c (setF fs f x))) else none
      | _ => none)
    | _ => none)
  | .sidx o i e, env, h => toS (ev P cl e env h) env fun x h1 => toS (ev P cl o env h1) env fun y h2 => toS (ev P cl i env h2) env fun z h3 => (match y, z with
    | .ref p, .int k => (match h3.get p with
      | some (.lst xs) => (match ixD xs.length k with
        | some j => nxt env (h3.put p (.lst (xs.set j x)))
        | none => none)
      | _ => none)
    | _, _ => none)
  | .dput o i e, env, h => toS (ev P cl e env h) env fun x h1 => toS (ev P cl o env h1) env fun y h2 => toS (ev P cl i env h2) env fun z h3 => (match y with
    | .ref p => (match dput h3 p z x with
      | some h4 => nxt env h4
      | none => none)
    | _ => none)
  | .aug i o e, env, h => (match env[i]? with
    | some (some x) => toS (ev P cl e env h) env fun y h1 => (match augD o x y with
      | some z => nxt (env.set i (some z)) h1
      | none => none)
    | _ => none)
  | .augf o f op e, env, h => toS (ev P cl o env h) env fun y h1 => (match y with
    | .ref p => (match h1.get p with
      | some (.ins c fs) => if P.fld c f = true then (match fs.lookup f with
        | some x => toS (ev P cl e env h1) env fun v h2 => (match augD op x v with
          | some z => (match h2.get p with
            | some (.ins c' fs') => if c' = c ∧ fs'.length < 1000 then nxt env (h2.put p (.ins c (setF fs' f z))) else none
            | _ => none)
          | none => none)
        | none => none) else none
      | _ => none)
    | _ => none)
  | .augi _ _ _ _, _, _ => none
  | .ite c a b, env, h => toS (evT P cl c env h) env fun k h1 => if k = true then ex P cl a env h1 else ex P cl b env h1
  | .for_ g k es body, env, h => toS (evs P cl es env h) env fun vs h1 => (match walk k vs h1 with
    | some (items, gd) => forL (fun e1 h2 => ex P cl body e1 h2) g gd items env h1
    | none => none)
  | .wh c body, env, h => whl (fun e1 h1 => evT P cl c e1 h1) (fun e1 h1 => ex P cl body e1 h1) P.lf env h
  | .ret e, env, h => toS (ev P cl e env h) env fun x h1 => some (.rt x, env, h1)
  | .drop e, env, h => toS (ev P cl e env h) env fun _ h1 => nxt env h1
  | .rai c, env, h => some (.ex c, env, h)
  | .try_ b c x s, env, h => (match ex P cl b env h with
    | some (.ex k, env2, h2) => (match P.exm k c with
      | some true => (match x with
        | none => (match ex P cl s env2 h2 with
          | some (.ex _, _, _) => none
          | r => r)
        | some i => oneA fun a => emptied i (ex { P with xk := some (k, a) } cl s (env2.set i (some (.exc k a))) h2))
      | some false => some (.ex k, env2, h2)
      | none => none)
    | r => r)
  | .dputT o es e, env, h => toS (ev P cl e env h) env fun x h1 => toS (ev P cl o env h1) env fun y h2 => toS (evs P cl es env h2) env fun ks h3 => (match y with
    | .ref p => if ks.length ≤ lim then (match dputT h3 p ks x with
      | some h4 => nxt env h4
      | none => none) else none
    | _ => none)
  | .par i j es, env, h => toS (evs P cl es env h) env fun vs h1 => (match vs with
    | [x, y] => nxt ((env.set i (some x)).set j (some y)) h1
    | _ => none)
  | .lck i s, env, h => (match env[i]? with
    | some (some (.ref a)) => (match h.get a with
      | some o => (match lckO o with
        | some o' => (match ex P cl s env (h.put a o') with
          | some (.nx, env2, h2) => if frzO (h2.get a) = true then some (.nx, env2, h2.put a o) else none
          | some (.rt d, env2, h2) => if frzO (h2.get a) = true then some (.rt d, env2, h2.put a o) else none
          | _ => none)
        | none => none)
      | none => none)
    | _ => none)

def start (n : Nat) (ds : List D) : Env := ds.map some ++ List.replicate (n - ds.length) none
def endF (o : Out) : Res D := match o with
  | none => none
  | some (.nx, _, h) => some (.ok .non, h)
  | some (.rt d, _, h) => some (.ok d, h)
  | some (.ex k, _, h) => some (.error k, h)
noncomputable def callF (P : Prog) : Nat → Cl
  | 0 => fun _ _ _ => none
  | n + 1 => fun f ds h => match P.fn f with
    | none => none
    | some F => if ds.length = F.np then endF (ex P (callF P n) F.body (start F.ns ds) h) else none
end Z

set_option maxRecDepth 100000
/-! ZD: how the layer's heap bears the model's. -/
namespace Z
open PySem L2

abbrev Rho := Nat → Addr
def rn (r : Rho) (n : Nat) (p : Addr) : Rho := fun a => if a = n then p else r a
def ca (K : PySem.W.Frag) (c : String) : Addr := He.ga K (Str.ofString c)

mutual
inductive RepV (K : PySem.W.Frag) (r : Rho) (n : Nat) (H : Hp) : V → D → Prop
  | non : RepV K r n H .non .non
  | bl (b : Bool) : RepV K r n H (.bl b) (.bl b)
  | int (i : Int) : RepV K r n H (.int i) (.int i)
  | str (s : Str) : RepV K r n H (.str s) (.str s)
  | tup {a : Addr} {vs : List V} {ds : List D} (h : SqT K H a vs) (q : RepL K r n H vs ds) : RepV K r n H (.ref a) (.tup ds)
  | ref {a : Nat} (h : a < n) : RepV K r n H (.ref (r a)) (.ref a)
  | exc (k : String) (a : Addr) : RepV K r n H (.ref a) (.exc k a)
inductive RepL (K : PySem.W.Frag) (r : Rho) (n : Nat) (H : Hp) : List V → List D → Prop
  | nil : RepL K r n H [] []
  | cons {v : V} {vs : List V} {d : D} {ds : List D} : RepV K r n H v d → RepL K r n H vs ds → RepL K r n H (v :: vs) (d :: ds)
end

/-- behind: more places, the old ones as they were, tuples stay -/
structure Ext0 (K : PySem.W.Frag) (r : Rho) (n : Nat) (H : Hp) (r' : Rho) (n' : Nat) (H' : Hp) : Prop where
  le : n ≤ n'
  at_ : ∀ a, a < n → r' a = r a
  tup : ∀ a vs, SqT K H a vs → SqT K H' a vs
/-- .. and what is locked stays -/
structure Ext (K : PySem.W.Frag) (r : Rho) (n : Nat) (H : Hp) (r' : Rho) (n' : Nat) (H' : Hp) : Prop extends Ext0 K r n H r' n' H' where
  frz : ∀ a ob u, H a = some (.frz ob u) → H' a = some (.frz ob u)
section
variable {K : PySem.W.Frag} {r r' r2 : Rho} {n n' n2 : Nat} {H H' H2 : Hp}
theorem Ext.refl : Ext K r n H r n H := ⟨⟨Nat.le_refl _, fun _ _ => rfl, fun _ _ h => h⟩, fun _ _ _ h => h⟩
theorem Ext.trans (a : Ext K r n H r' n' H') (b : Ext K r' n' H' r2 n2 H2) : Ext K r n H r2 n2 H2 :=
  ⟨⟨Nat.le_trans a.le b.le, fun x h => (b.at_ x (Nat.lt_of_lt_of_le h a.le)).trans (a.at_ x h), fun x vs h => b.tup x vs (a.tup x vs h)⟩, fun x ob u h => b.frz x ob u (a.frz x ob u h)⟩
mutual
theorem RepV.ext0 (e : Ext0 K r n H r' n' H') : ∀ {d : D} {v : V}, RepV K r n H v d → RepV K r' n' H' v d
  | _, _, .non => .non
  | _, _, .bl b => .bl b
  | _, _, .int b => .int b
  | _, _, .str b => .str b
  | _, _, .tup h q => .tup (e.tup _ _ h) (RepL.ext0 e q)
  | _, _, .ref (a := a) h => by
    rw [← e.at_ a h]
    exact .ref (Nat.lt_of_lt_of_le h e.le)
  | _, _, .exc k a => .exc k a
theorem RepL.ext0 (e : Ext0 K r n H r' n' H') : ∀ {ds : List D} {vs : List V}, RepL K r n H vs ds → RepL K r' n' H' vs ds
  | _, _, .nil => .nil
  | _, _, .cons a b => .cons (RepV.ext0 e a) (RepL.ext0 e b)
end
theorem RepV.ext (e : Ext K r n H r' n' H') {d : D} {v : V} (q : RepV K r n H v d) : RepV K r' n' H' v d := RepV.ext0 e.toExt0 q
theorem RepL.ext (e : Ext K r n H r' n' H') {ds : List D} {vs : List V} (q : RepL K r n H vs ds) : RepL K r' n' H' vs ds := RepL.ext0 e.toExt0 q
theorem RepL.len : ∀ {ds : List D} {vs : List V}, RepL K r n H vs ds → vs.length = ds.length
  | _, _, .nil => rfl
  | _, _, .cons a b => congrArg Nat.succ (RepL.len b)
theorem RepL.get : ∀ {ds : List D} {vs : List V} {i : Nat} {d : D}, RepL K r n H vs ds → ds[i]? = some d → ∃ v, vs[i]? = some v ∧ RepV K r n H v d
  | _, _, _, _, .nil, h => by simp at h
  | _, _, 0, _, .cons a b, h => by simp at h; subst h; exact ⟨_, rfl, a⟩
  | _, _, i + 1, _, .cons a b, h => by
    obtain ⟨v, e, q⟩ := RepL.get (i := i) b (by simpa using h)
    exact ⟨v, by simpa using e, q⟩
theorem RepL.app : ∀ {ds es : List D} {vs us : List V}, RepL K r n H vs ds → RepL K r n H us es → RepL K r n H (vs ++ us) (ds ++ es)
  | _, _, _, _, .nil, q => q
  | _, _, _, _, .cons a b, q => .cons a (RepL.app b q)
theorem RepL.set {v : V} {d : D} (q : RepV K r n H v d) : ∀ {ds : List D} {vs : List V} (i : Nat), RepL K r n H vs ds → RepL K r n H (vs.set i v) (ds.set i d)
  | _, _, _, .nil => .nil
  | _, _, 0, .cons a b => .cons q b
  | _, _, i + 1, .cons a b => .cons a (RepL.set q i b)
theorem RepL.take : ∀ {ds : List D} {vs : List V} (i : Nat), RepL K r n H vs ds → RepL K r n H (vs.take i) (ds.take i)
  | _, _, _, .nil => by simp; exact .nil
  | _, _, 0, .cons a b => .nil
  | _, _, i + 1, .cons a b => .cons a (RepL.take i b)
theorem RepL.drop : ∀ {ds : List D} {vs : List V} (i : Nat), RepL K r n H vs ds → RepL K r n H (vs.drop i) (ds.drop i)
  | _, _, _, .nil => by simp; exact .nil
  | _, _, 0, .cons a b => .cons a b
  | _, _, i + 1, .cons a b => RepL.drop i b
theorem RepL.rep {ds : List D} {vs : List V} (q : RepL K r n H vs ds) : ∀ k : Nat, RepL K r n H (List.replicate k vs).flatten (List.replicate k ds).flatten
  | 0 => .nil
  | k + 1 => by
    rw [List.replicate_succ, List.replicate_succ, List.flatten_cons, List.flatten_cons]
    exact q.app (RepL.rep q k)
theorem RepL.rev : ∀ {ds : List D} {vs : List V}, RepL K r n H vs ds → RepL K r n H vs.reverse ds.reverse
  | _, _, .nil => .nil
  | _, _, .cons a b => by
    rw [List.reverse_cons, List.reverse_cons]
    exact (RepL.rev b).app (.cons a .nil)
theorem RepL.append1 {ds : List D} {vs : List V} {v : V} {d : D} (q : RepL K r n H vs ds) (a : RepV K r n H v d) : RepL K r n H (vs ++ [v]) (ds ++ [d]) := q.app (.cons a .nil)
theorem RepL.ints : ∀ {ds : List D} {vs : List V} {ns : List Int}, RepL K r n H vs ds → ints? ds = some ns → vs = ns.map V.int
  | _, _, _, .nil, e => by cases e; rfl
  | _, _, _, .cons (.int i) b, e => by
    unfold ints? at e
    obtain ⟨ms, e1, rfl⟩ := Option.map_eq_some_iff.mp e
    rw [RepL.ints b e1]
    rfl
  | _, _, _, .cons .non b, e => by cases e
  | _, _, _, .cons (.bl _) b, e => by cases e
  | _, _, _, .cons (.str _) b, e => by cases e
  | _, _, _, .cons (.tup _ _) b, e => by cases e
  | _, _, _, .cons (.ref _) b, e => by cases e
theorem RepL.bls : ∀ {ds : List D} {vs : List V} {ns : List Bool}, RepL K r n H vs ds → bls? ds = some ns → vs = ns.map V.bl
  | _, _, _, .nil, e => by cases e; rfl
  | _, _, _, .cons (.bl i) b, e => by
    unfold bls? at e
    obtain ⟨ms, e1, rfl⟩ := Option.map_eq_some_iff.mp e
    rw [RepL.bls b e1]
    rfl
  | _, _, _, .cons .non b, e => by cases e
  | _, _, _, .cons (.int _) b, e => by cases e
  | _, _, _, .cons (.str _) b, e => by cases e
  | _, _, _, .cons (.tup _ _) b, e => by cases e
  | _, _, _, .cons (.ref _) b, e => by cases e
theorem RepL.strs : ∀ {ds : List D} {vs : List V} {ns : List Str}, RepL K r n H vs ds → strs? ds = some ns → vs = ns.map V.str
  | _, _, _, .nil, e => by cases e; rfl
  | _, _, _, .cons (.str i) b, e => by
    unfold strs? at e
    obtain ⟨ms, e1, rfl⟩ := Option.map_eq_some_iff.mp e
    rw [RepL.strs b e1]
    rfl
  | _, _, _, .cons .non b, e => by cases e
  | _, _, _, .cons (.int _) b, e => by cases e
  | _, _, _, .cons (.bl _) b, e => by cases e
  | _, _, _, .cons (.tup _ _) b, e => by cases e
  | _, _, _, .cons (.ref _) b, e => by cases e
theorem repInts : ∀ ns : List Int, RepL K r n H (ns.map V.int) (ns.map D.int)
  | [] => .nil
  | i :: ns => .cons (.int i) (repInts ns)
theorem repStrs : ∀ ns : List Str, RepL K r n H (ns.map V.str) (ns.map D.str)
  | [] => .nil
  | i :: ns => .cons (.str i) (repStrs ns)
end

/-! ### objects -/
/-- a dict's pairs -/
def RepK {κ : Type} (K : PySem.W.Frag) (r : Rho) (n : Nat) (H : Hp) (ws : List (κ × V)) (kvs : List (κ × D)) : Prop := ws.map (·.1) = kvs.map (·.1) ∧ RepL K r n H (ws.map (·.2)) (kvs.map (·.2))
/-- an instance's attributes -/
def RepF (K : PySem.W.Frag) (r : Rho) (n : Nat) (H : Hp) (ws : List (Str × V)) (fs : List (String × D)) : Prop := ws.map (·.1) = fs.map (fun f => Str.ofString f.1) ∧ RepL K r n H (ws.map (·.2)) (fs.map (·.2))
/-- a list that is never written -/
def SqF (K : PySem.W.Frag) (H : Hp) (a : Addr) (xs : List V) : Prop :=
  (∃ ob, H a = some (.frz ob (.lst xs))) ∨
    ∃ (o : Obj) (its : Array Value) (n : Nat), K.lookup a = some o ∧ o.cls = .type "list" ∧ o.dict = none ∧ o.data = .seq its n ∧ its.size ≤ sizeLine ∧ Vals xs its.toList
theorem SqF.l {K : PySem.W.Frag} {H : Hp} {a : Addr} {xs : List V} (h : SqF K H a xs) : SqL K H a xs := by
  rcases h with h | h
  · exact .inl (.inr h)
  · exact .inr h
def RepO (K : PySem.W.Frag) (r : Rho) (n : Nat) (H : Hp) (p : Addr) : O → Prop
  | .lst xs => ∃ vs, H p = some (.lst vs) ∧ RepL K r n H vs xs
  | .fz xs => ∃ vs, SqF K H p vs ∧ RepL K r n H vs xs
  | .dic kvs => ∃ ws, H p = some (.dK ws) ∧ RepK K r n H ws kvs
  | .dit kvs => ∃ ws, H p = some (.dT ws) ∧ RepK K r n H ws kvs
  | .ins c fs => ∃ dx ws, H p = some (.ins (ca K c) dx ws) ∧ RepF K r n H ws fs
  | .fzd kvs => ∃ ob ws, H p = some (.frz ob (.dK ws)) ∧ RepK K r n H ws kvs
  | .fzt kvs => ∃ ob ws, H p = some (.frz ob (.dT ws)) ∧ RepK K r n H ws kvs
/-- objects that may be written -/
def mutO : O → Bool
  | .fz _ => false
  | .fzd _ => false
  | .fzt _ => false
  | _ => true
/-- objects that have a cell of their own -/
def ownO : O → Bool
  | .fz _ => false
  | _ => true
theorem own_of {o : O} (m : mutO o = true) : ownO o = true := by cases o <;> first | rfl | cases m
/-- what stands for such in the layer -/
def mutH : HO → Bool
  | .lst _ => true
  | .dK _ => true
  | .dT _ => true
  | .ins _ _ _ => true
  | _ => false
structure Sim (K : PySem.W.Frag) (r : Rho) (h : Hm) (H : Hp) : Prop where
  obj : ∀ a o, h.get a = some o → a < h.next ∧ RepO K r h.next H (r a) o
  inj : ∀ a b oa ob, h.get a = some oa → h.get b = some ob → ownO oa = true → ownO ob = true → r a = r b → a = b
section
variable {K : PySem.W.Frag} {r r' : Rho} {n n' : Nat} {h h' : Hm} {H H' : Hp} {p : Addr} {o : O}
theorem RepO.mut (q : RepO K r n H p o) (m : mutO o = true) : ∃ u, H p = some u ∧ mutH u = true := by
  cases o with
  | lst xs => obtain ⟨vs, e, _⟩ := q; exact ⟨_, e, rfl⟩
  | fz xs => cases m
  | dic kvs => obtain ⟨vs, e, _⟩ := q; exact ⟨_, e, rfl⟩
  | dit kvs => obtain ⟨vs, e, _⟩ := q; exact ⟨_, e, rfl⟩
  | ins c fs => obtain ⟨dx, vs, e, _⟩ := q; exact ⟨_, e, rfl⟩
  | fzd kvs => cases m
  | fzt kvs => cases m
theorem RepO.own (q : RepO K r n H p o) (m : ownO o = true) : ∃ u, H p = some u := by
  cases o with
  | lst xs => obtain ⟨vs, e, _⟩ := q; exact ⟨_, e⟩
  | fz xs => cases m
  | dic kvs => obtain ⟨vs, e, _⟩ := q; exact ⟨_, e⟩
  | dit kvs => obtain ⟨vs, e, _⟩ := q; exact ⟨_, e⟩
  | ins c fs => obtain ⟨dx, vs, e, _⟩ := q; exact ⟨_, e⟩
  | fzd kvs => obtain ⟨dx, vs, e, _⟩ := q; exact ⟨_, e⟩
  | fzt kvs => obtain ⟨dx, vs, e, _⟩ := q; exact ⟨_, e⟩
theorem RepK.ext0 {κ : Type} {ws : List (κ × V)} {kvs : List (κ × D)} (e : Ext0 K r n H r' n' H') (q : RepK K r n H ws kvs) : RepK K r' n' H' ws kvs := ⟨q.1, q.2.ext0 e⟩
theorem RepF.ext0 {ws : List (Str × V)} {kvs : List (String × D)} (e : Ext0 K r n H r' n' H') (q : RepF K r n H ws kvs) : RepF K r' n' H' ws kvs := ⟨q.1, q.2.ext0 e⟩
theorem RepK.ext {κ : Type} {ws : List (κ × V)} {kvs : List (κ × D)} (e : Ext K r n H r' n' H') (q : RepK K r n H ws kvs) : RepK K r' n' H' ws kvs := ⟨q.1, q.2.ext e⟩
theorem RepF.ext {ws : List (Str × V)} {kvs : List (String × D)} (e : Ext K r n H r' n' H') (q : RepF K r n H ws kvs) : RepF K r' n' H' ws kvs := ⟨q.1, q.2.ext e⟩
/-- kept by what keeps its own cell -/
theorem RepO.keep (e : Ext0 K r n H r' n' H') (q : RepO K r n H p o) (k : ownO o = true → H' p = H p) (kf : ∀ vs, SqF K H p vs → SqF K H' p vs) : RepO K r' n' H' p o := by
  cases o with
  | lst xs => obtain ⟨vs, a, b⟩ := q; exact ⟨vs, (k rfl).trans a, b.ext0 e⟩
  | fz xs =>
    obtain ⟨vs, a, b⟩ := q
    exact ⟨vs, kf vs a, b.ext0 e⟩
  | dic kvs => obtain ⟨vs, a, b⟩ := q; exact ⟨vs, (k rfl).trans a, RepK.ext0 e b⟩
  | dit kvs => obtain ⟨vs, a, b⟩ := q; exact ⟨vs, (k rfl).trans a, RepK.ext0 e b⟩
  | ins c fs => obtain ⟨dx, vs, a, b⟩ := q; exact ⟨dx, vs, (k rfl).trans a, RepF.ext0 e b⟩
  | fzd kvs => obtain ⟨dx, vs, a, b⟩ := q; exact ⟨dx, vs, (k rfl).trans a, RepK.ext0 e b⟩
  | fzt kvs => obtain ⟨dx, vs, a, b⟩ := q; exact ⟨dx, vs, (k rfl).trans a, RepK.ext0 e b⟩
/-- a cell that may be laid or written -/
def Free (H : Hp) (q : Addr) : Prop := H q = none ∨ ∃ v, H q = some v ∧ mutH v = true
theorem Free.rd {q a : Addr} {u : HO} {x : HO} (f : Free H q) (h : Rd H a x) (nx : mutH x = false) : Rd (upd H q u) a x := by
  have ne : a ≠ q := by
    rintro rfl
    rcases f with f | ⟨v, f, m⟩
    · rcases h with h | ⟨ob, h⟩ <;> rw [f] at h <;> cases h
    · rcases h with h | ⟨ob, h⟩
      · rw [f] at h; cases h; rw [m] at nx; cases nx
      · rw [f] at h; cases h; cases m
  rcases h with h | ⟨ob, h⟩
  · exact .inl (by rw [upd_ne ne]; exact h)
  · exact .inr ⟨ob, by rw [upd_ne ne]; exact h⟩
theorem Free.sqt {q a : Addr} {u : HO} {xs : List V} (f : Free H q) (h : SqT K H a xs) : SqT K (upd H q u) a xs := by
  rcases h with h | h
  · exact .inl (f.rd h rfl)
  · exact .inr h
theorem Free.sqf {q a : Addr} {u : HO} {xs : List V} (f : Free H q) (h : SqF K H a xs) : SqF K (upd H q u) a xs := by
  rcases h with ⟨ob, h⟩ | h
  · have ne : a ≠ q := by
      rintro rfl
      rcases f with f | ⟨v, f, m⟩
      · rw [f] at h; cases h
      · rw [f] at h; cases h; cases m
    exact .inl ⟨ob, by rw [upd_ne ne]; exact h⟩
  · exact .inr h
theorem Free.frz {q a : Addr} {ob : Obj} {u x : HO} (f : Free H q) (h : H a = some (.frz ob x)) : upd H q u a = some (.frz ob x) := by
  have ne : a ≠ q := by
    rintro rfl
    rcases f with f | ⟨v, f, m⟩
    · rw [f] at h; cases h
    · rw [f] at h; cases h; cases m
  rw [upd_ne ne]; exact h
theorem Free.ext {q : Addr} {u : HO} (f : Free H q) : Ext K r n H r n (upd H q u) := ⟨⟨Nat.le_refl _, fun _ _ => rfl, fun _ _ h => f.sqt h⟩, fun _ _ _ h => f.frz h⟩
theorem Free.extN {q : Addr} {u : HO} (f : Free H q) : Ext K r n H (rn r n q) (n + 1) (upd H q u) :=
  ⟨⟨Nat.le_succ _, fun a ha => by unfold rn; rw [if_neg (by omega)], fun _ _ h => f.sqt h⟩, fun _ _ _ h => f.frz h⟩
theorem rn_at {q : Addr} : rn r n q n = q := by unfold rn; rw [if_pos rfl]
theorem rn_old {q : Addr} {a : Nat} (ha : a < n) : rn r n q a = r a := by unfold rn; rw [if_neg (by omega)]
theorem Sim.ne (S : Sim K r h H) {a : Nat} {oa : O} {q : Addr} (ha : h.get a = some oa) (m : ownO oa = true) (hq : H q = none) : r a ≠ q := by
  obtain ⟨u, e⟩ := (S.obj a oa ha).2.own m
  rintro rfl
  rw [hq] at e
  cases e
/-- a thing that the model does not see is laid -/
theorem Sim.grow (S : Sim K r h H) {q : Addr} {u : HO} (hq : H q = none) : Sim K r h (upd H q u) := by
  refine ⟨fun a o ha => ⟨(S.obj a o ha).1, ?_⟩, S.inj⟩
  exact RepO.keep (Free.ext (.inl hq)).toExt0 (S.obj a o ha).2 (fun m => upd_ne (S.ne ha m hq)) fun vs h => Free.sqf (.inl hq) h
/-- a new object -/
theorem Sim.new (S : Sim K r h H) {q : Addr} {u : HO} {o : O} (hq : H q = none) (m : mutO o = true) (w : RepO K (rn r h.next q) (h.next + 1) (upd H q u) q o) : Sim K (rn r h.next q) (h.new o) (upd H q u) := by
  have old : ∀ a oa, h.get a = some oa → a < h.next := fun a oa ha => (S.obj a oa ha).1
  refine ⟨fun a oa ha => ?_, fun a b oa ob ha hb ma mb e => ?_⟩
  · rw [new_get] at ha
    by_cases ea : a = h.next
    · subst ea
      rw [if_pos rfl] at ha
      cases ha
      rw [rn_at]
      exact ⟨Nat.lt_succ_self _, w⟩
    · rw [if_neg ea] at ha
      have la := old a oa ha
      rw [rn_old la]
      exact ⟨Nat.lt_succ_of_lt la, RepO.keep (Free.extN (.inl hq)).toExt0 (S.obj a oa ha).2 (fun m => upd_ne (S.ne ha m hq)) fun vs h => Free.sqf (.inl hq) h⟩
  · rw [new_get] at ha hb
    by_cases ea : a = h.next
    · by_cases eb : b = h.next
      · rw [ea, eb]
      · rw [if_neg eb] at hb
        subst ea
        rw [rn_at, rn_old (old b ob hb)] at e
        exact absurd e.symm (S.ne hb mb hq)
    · rw [if_neg ea] at ha
      by_cases eb : b = h.next
      · subst eb
        rw [rn_at, rn_old (old a oa ha)] at e
        exact absurd e (S.ne ha ma hq)
      · rw [if_neg eb] at hb
        rw [rn_old (old a oa ha), rn_old (old b ob hb)] at e
        exact S.inj a b oa ob ha hb ma mb e
theorem Sim.free (S : Sim K r h H) {a : Nat} {o0 : O} (ha : h.get a = some o0) (m0 : mutO o0 = true) : Free H (r a) := .inr ((S.obj a o0 ha).2.mut m0)
/-- an object is written -/
theorem Sim.put (S : Sim K r h H) {a : Nat} {o0 o : O} {u : HO} (ha : h.get a = some o0) (m0 : mutO o0 = true) (m : ownO o = true) (w : RepO K r h.next (upd H (r a) u) (r a) o) : Sim K r (h.put a o) (upd H (r a) u) := by
  have f := S.free ha m0
  have m0 := own_of m0
  refine ⟨fun b ob hb => ?_, fun b c ob oc hb hc mb mc e => ?_⟩
  · rw [put_get] at hb
    by_cases eb : b = a
    · subst eb
      rw [if_pos rfl] at hb
      cases hb
      exact ⟨(S.obj b o0 ha).1, w⟩
    · rw [if_neg eb] at hb
      exact ⟨(S.obj b ob hb).1, RepO.keep f.ext.toExt0 (S.obj b ob hb).2 (fun mb => upd_ne fun e => eb (S.inj b a ob o0 hb ha mb m0 e)) fun vs h => f.sqf h⟩
  · rw [put_get] at hb hc
    by_cases eb : b = a
    · by_cases ec : c = a
      · rw [eb, ec]
      · rw [if_neg ec] at hc
        subst eb
        exact S.inj b c o0 oc ha hc m0 mc e
    · rw [if_neg eb] at hb
      by_cases ec : c = a
      · subst ec
        exact S.inj b c ob o0 hb ha mb m0 e
      · rw [if_neg ec] at hc
        exact S.inj b c ob oc hb hc mb mc e
end

/-! ### what is locked -/
section
variable {K : PySem.W.Frag} {r r' r2 : Rho} {n n' n2 : Nat} {h h2 : Hm} {H H2 : Hp} {p d : Addr} {o o1 : O} {ob : Obj} {u : HO}
/-- what such a thing is in the layer -/
def dctH : HO → Bool
  | .dK _ => true
  | .dT _ => true
  | _ => false
theorem dct_mut (m : dctH u = true) : mutH u = true ∧ Mut (some u) := by cases u <;> first | exact ⟨rfl, trivial⟩ | cases m
/-- a locked thing's cell may be opened -/
theorem open0 (hd : H d = some (.frz ob u)) (m : dctH u = true) : Ext0 K r n H r n (upd H d u) := by
  refine ⟨Nat.le_refl _, fun _ _ => rfl, fun a vs h => ?_⟩
  rcases h with h | h
  · have ne : a ≠ d := by
      rintro rfl
      rcases h with h | ⟨o', h⟩
      · rw [hd] at h; cases h
      · rw [hd] at h; cases h; cases m
    refine .inl ?_
    rcases h with h | ⟨o', h⟩
    · exact .inl (by rw [upd_ne ne]; exact h)
    · exact .inr ⟨o', by rw [upd_ne ne]; exact h⟩
  · exact .inr h
/-- .. once what ran within has ended -/
theorem Ext.open (x : Ext K r n (upd H d (.frz ob u)) r2 n2 H2) (hd : H d = some u) (m : dctH u = true) : Ext K r n H r2 n2 (upd H2 d u) := by
  have f : Free H d := .inr ⟨u, hd, (dct_mut m).1⟩
  have h2 : H2 d = some (.frz ob u) := x.frz d ob u upd_same
  refine ⟨⟨x.le, x.at_, fun a vs h => (open0 (r := r) (n := n) h2 m).tup a vs (x.tup a vs (f.sqt h))⟩, fun a o' v h => ?_⟩
  have ne : a ≠ d := by
    rintro rfl
    rw [hd] at h; cases h; cases m
  rw [upd_ne ne]
  exact x.frz a o' v (by rw [upd_ne ne]; exact h)
theorem Sim.open (S : Sim K r h H) {a : Nat} (ha : h.get a = some o1) (f1 : frzO (some o1) = true) (m : ownO o = true) (hd : H (r a) = some (.frz ob u)) (mu : dctH u = true) (w : RepO K r h.next (upd H (r a) u) (r a) o) : Sim K r (h.put a o) (upd H (r a) u) := by
  have m0 : ownO o1 = true := by cases o1 <;> first | rfl | cases f1
  refine ⟨fun b ob2 hb => ?_, fun b c ob2 oc hb hc mb mc e => ?_⟩
  · rw [put_get] at hb
    by_cases eb : b = a
    · subst eb
      rw [if_pos rfl] at hb
      cases hb
      exact ⟨(S.obj b o1 ha).1, w⟩
    · rw [if_neg eb] at hb
      refine ⟨(S.obj b ob2 hb).1, RepO.keep (open0 hd mu) (S.obj b ob2 hb).2 (fun mb => upd_ne fun e => eb (S.inj b a ob2 o1 hb ha mb m0 e)) fun vs h => ?_⟩
      rcases h with ⟨o', h⟩ | h
      · have ne : r b ≠ r a := by
          intro e
          rw [e, hd] at h; cases h; cases mu
        exact .inl ⟨o', by rw [upd_ne ne]; exact h⟩
      · exact .inr h
  · rw [put_get] at hb hc
    by_cases eb : b = a
    · by_cases ec : c = a
      · rw [eb, ec]
      · rw [if_neg ec] at hc
        subst eb
        exact S.inj b c o1 oc ha hc m0 mc e
    · rw [if_neg eb] at hb
      by_cases ec : c = a
      · subst ec
        exact S.inj b c ob2 o1 hb ha mb m0 e
      · rw [if_neg ec] at hc
        exact S.inj b c ob2 oc hb hc mb mc e
/-- locking: what stands there; while it is locked; how it opens -/
theorem Sim.lock (S : Sim K r h H) {a : Nat} {o' : O} (ha : h.get a = some o) (e : lckO o = some o') : ∃ u, H (r a) = some u ∧ dctH u = true ∧ ∀ ob, Sim K r (h.put a o') (upd H (r a) (.frz ob u)) ∧
    ∀ r2 h2 H2, Sim K r2 h2 H2 → Ext K r h.next (upd H (r a) (.frz ob u)) r2 h2.next H2 → frzO (h2.get a) = true →
      r2 a = r a ∧ H2 (r a) = some (.frz ob u) ∧ Sim K r2 (h2.put a o) (upd H2 (r a) u) ∧ Ext K r h.next H r2 h2.next (upd H2 (r a) u) ∧ Ext0 K r2 h2.next H2 r2 h2.next (upd H2 (r a) u) := by
  obtain ⟨la, w⟩ := S.obj a o ha
  cases o with
  | dic kvs =>
    cases e
    obtain ⟨ws, h1, q⟩ := w
    refine ⟨_, h1, rfl, fun ob => ?_⟩
    have f : Free H (r a) := S.free ha rfl
    refine ⟨S.put ha rfl rfl ⟨ob, ws, upd_same, RepK.ext f.ext q⟩, fun r2 h2 H2 S2 x f2 => ?_⟩
    have er : r2 a = r a := x.at_ a la
    have hd : H2 (r a) = some (.frz ob (.dK ws)) := x.frz _ _ _ upd_same
    obtain ⟨o2, ho2⟩ : ∃ o2, h2.get a = some o2 := by
      cases q2 : h2.get a with
      | none => rw [q2] at f2; cases f2
      | some o2 => exact ⟨o2, rfl⟩
    rw [ho2] at f2
    have x2 := x.open h1 rfl
    refine ⟨er, hd, ?_, x2, open0 hd rfl⟩
    have S3 := S2.open (o := .dic kvs) (u := .dK ws) (ob := ob) ho2 f2 rfl (by rw [er]; exact hd) rfl (by rw [er]; exact ⟨ws, upd_same, RepK.ext x2 q⟩)
    rw [er] at S3
    exact S3
  | dit kvs =>
    cases e
    obtain ⟨ws, h1, q⟩ := w
    refine ⟨_, h1, rfl, fun ob => ?_⟩
    have f : Free H (r a) := S.free ha rfl
    refine ⟨S.put ha rfl rfl ⟨ob, ws, upd_same, RepK.ext f.ext q⟩, fun r2 h2 H2 S2 x f2 => ?_⟩
    have er : r2 a = r a := x.at_ a la
    have hd : H2 (r a) = some (.frz ob (.dT ws)) := x.frz _ _ _ upd_same
    obtain ⟨o2, ho2⟩ : ∃ o2, h2.get a = some o2 := by
      cases q2 : h2.get a with
      | none => rw [q2] at f2; cases f2
      | some o2 => exact ⟨o2, rfl⟩
    rw [ho2] at f2
    have x2 := x.open h1 rfl
    refine ⟨er, hd, ?_, x2, open0 hd rfl⟩
    have S3 := S2.open (o := .dit kvs) (u := .dT ws) (ob := ob) ho2 f2 rfl (by rw [er]; exact hd) rfl (by rw [er]; exact ⟨ws, upd_same, RepK.ext x2 q⟩)
    rw [er] at S3
    exact S3
  | _ => cases e
end

/-! ### a frame's names -/
structure EnvR (K : PySem.W.Frag) (r : Rho) (n : Nat) (H : Hp) (σ : L2.St) (env : Env) : Prop where
  len : σ.length = env.length
  at_ : ∀ (i : Nat) (d : D), env[i]? = some (some d) → ∃ v : V, σ[i]? = some (some v) ∧ RepV K r n H v d
section
variable {K : PySem.W.Frag} {r r' : Rho} {n n' : Nat} {H H' : Hp} {σ : L2.St} {env : Env}
theorem EnvR.ext0 (e : Ext0 K r n H r' n' H') (q : EnvR K r n H σ env) : EnvR K r' n' H' σ env := ⟨q.len, fun i d h => let ⟨v, a, b⟩ := q.at_ i d h; ⟨v, a, b.ext0 e⟩⟩
theorem EnvR.ext (e : Ext K r n H r' n' H') (q : EnvR K r n H σ env) : EnvR K r' n' H' σ env := ⟨q.len, fun i d h => let ⟨v, a, b⟩ := q.at_ i d h; ⟨v, a, b.ext e⟩⟩
theorem EnvR.set (q : EnvR K r n H σ env) {v : V} {d : D} (i : Nat) (a : RepV K r n H v d) : EnvR K r n H (σ.set i (some v)) (env.set i (some d)) := by
  refine ⟨by rw [List.length_set, List.length_set]; exact q.len, fun j e h => ?_⟩
  by_cases hj : i = j
  · subst hj
    rw [List.getElem?_set_self'] at h ⊢
    cases hs : env[i]? with
    | none => rw [hs] at h; cases h
    | some x =>
      have hl : i < env.length := (List.getElem?_eq_some_iff.mp hs).1
      rw [hs] at h
      cases h
      have hl2 : i < σ.length := by rw [q.len]; exact hl
      rw [List.getElem?_eq_getElem hl2]
      exact ⟨v, rfl, a⟩
  · rw [List.getElem?_set_ne hj] at h ⊢
    exact q.at_ j e h
theorem EnvR.unset (q : EnvR K r n H σ env) (i : Nat) : EnvR K r n H (σ.set i none) (env.set i none) := by
  refine ⟨by rw [List.length_set, List.length_set]; exact q.len, fun j e h => ?_⟩
  by_cases hj : i = j
  · subst hj
    rw [List.getElem?_set_self'] at h
    cases hs : env[i]? with
    | none => rw [hs] at h; cases h
    | some x => rw [hs] at h; cases h
  · rw [List.getElem?_set_ne hj] at h ⊢
    exact q.at_ j e h
theorem EnvR.wipe (q : EnvR K r n H σ env) : ∀ vs : List Nat, EnvR K r n H (wipe σ vs) (wipeE env vs)
  | [] => q
  | v :: vs => EnvR.unset (EnvR.wipe q vs) v
theorem EnvR.start {vs : List V} {ds : List D} (q : RepL K r n H vs ds) {N : List Str} {ns : Nat} (hN : N.length = ns) : EnvR K r n H (L2.start N vs) (start ns ds) := by
  have hl := q.len
  refine ⟨?_, fun i d h => ?_⟩
  · unfold L2.start Z.start
    simp only [List.length_append, List.length_map, List.length_replicate, hl, hN]
  · unfold Z.start at h
    unfold L2.start
    by_cases hi : i < ds.length
    · rw [List.getElem?_append_left (by simpa using hi), List.getElem?_map] at h
      obtain ⟨x, hx, e⟩ := Option.map_eq_some_iff.mp h
      cases e
      obtain ⟨v, hv, rv⟩ := q.get hx
      refine ⟨v, ?_, rv⟩
      rw [List.getElem?_append_left (by simpa [hl] using hi), List.getElem?_map, hv]
      rfl
    · rw [List.getElem?_append_right (by simpa using hi), List.getElem?_replicate] at h
      split at h <;> cases h
end
end Z

set_option maxRecDepth 100000
set_option maxHeartbeats 1000000
/-! ZE: operators: what the layer asks of them, and that the model's answers suffice. -/
namespace Z
open PySem L2

/-- what is wished behind: of a value, of an error -/
def PG {α β : Type} (K : PySem.W.Frag) (W : XK) (r : Rho) (h : Hm) (H : Hp) (R : Rho → Nat → Hp → β → α → Prop) (Q : β → Hp → Prop) : Except String α → Hm → Prop
  | .ok d, h' => ∀ v r' H', Sim K r' h' H' → Ext K r h.next H r' h'.next H' → R r' h'.next H' v d → Q v H'
  | .error k, h' => ∀ r' H', Sim K r' h' H' → Ext K r h.next H r' h'.next H' → W (.ref (ca K k)) none H'
section
variable {α β : Type} {K : PySem.W.Frag} {W : XK} {r r1 : Rho} {h h1 h' : Hm} {H H1 : Hp} {R : Rho → Nat → Hp → β → α → Prop} {Q : β → Hp → Prop} {res : Except String α}
theorem PG.later (p : PG K W r h H R Q res h') (e : Ext K r h.next H r1 h1.next H1) : PG K W r1 h1 H1 R Q res h' := by
  cases res with
  | ok d => exact fun v r' H' S x q => p v r' H' S (e.trans x) q
  | error k => exact fun r' H' S x => p r' H' S (e.trans x)
end

theorem lim_le {n : Nat} (h : n ≤ lim) : n ≤ sizeLine := Nat.le_trans h (by rw [sizeLine_eq]; decide)
theorem lim_lt {n : Nat} (h : n < lim) : n < sizeLine := Nat.lt_of_lt_of_le h (by rw [sizeLine_eq]; decide)

/-! ### binary operators -/
theorem rep_size (a : Array Nat) : ∀ (n : Nat) (acc : Array Nat), (List.foldl (fun a b => a ++ b) acc (List.replicate n a)).size = acc.size + n * a.size
  | 0, acc => by simp
  | n + 1, acc => by
    rw [List.replicate_succ, List.foldl_cons, rep_size a n, Array.size_append, Nat.succ_mul]
    omega
abbrev rMulS : R2 := fun x y H Q => ∃ s k, x = V.str s ∧ y = V.int k ∧ s.length = 1 ∧ 2 ≤ k ∧ k ≤ 10000 ∧ Q (V.str (repS s k)) H
theorem op_mul_str {X : Cx} : OpR X (binaryOp .Mult) rMulS := by
  intro pins s σ H x y v u Q I rx ry h
  obtain ⟨z, k, rfl, rfl, h1, h2, h3, q⟩ := h
  obtain ⟨t, rfl⟩ := rx
  obtain ⟨t', rfl⟩ := ry
  refine P.mul_str ?_ ?_ ?_ ?_
  · simp; omega
  · intro _ _ hc
    rw [h1] at hc
    have : (2 ^ 63 - 1) / k ≥ 1 := Int.le_ediv_of_mul_le (by omega) (by omega)
    omega
  · intro _ _
    unfold Builtin.Str.tooLong
    rw [h1, sizeLine_eq]
    simp
    omega
  · rw [if_neg (by omega), if_neg (by rw [h1]; simp; omega), Made.post]
    refine ⟨?_, Exists.intro (V.str _) (Exists.intro H ⟨Inv.tok I _, ⟨Exists.intro _ rfl, q⟩⟩)⟩
    show (List.foldl (fun a b => a ++ b) #[] (List.replicate k.toNat z.cps)).size ≤ sizeLine
    have h4 : z.cps.size = 1 := h1
    rw [rep_size, h4, sizeLine_eq]
    simp
    omega
abbrev rCatS : R2 := fun x y H Q => ∃ i j, x = .str i ∧ y = .str j ∧ i.length + j.length ≤ sizeLine ∧ Q (.str (i ++ j)) H
def rB (K : PySem.W.Frag) : Bop → R2
  | .add => fun x y H Q => rI0 (fun i j => .int (i + j)) x y H Q ∨ (rCatS x y H Q ∨ (rCatT K x y H Q ∨ rCat x y H Q))
  | .sub => rI0 fun i j => .int (i - j)
  | .mul => fun x y H Q => rI CMul (fun i j => .int (i * j)) x y H Q ∨ (rI CMulX (fun i j => .int (i * j)) x y H Q ∨ (rRep x y H Q ∨ rMulS x y H Q))
  | .fdiv => rI CDivW fun i j => .int (i / j)
  | .mod => rI (fun _ j => 0 < j) fun i j => .int (i % j)
  | .pow => rI CPow fun i j => .int (i ^ j.toNat)
  | .shl => rI CPow fun i j => .int (i * 2 ^ j.toNat)
  | .shr => rI (fun _ j => 0 ≤ j) fun i j => .int (i / 2 ^ j.toNat)
  | .band => rI0 fun i j => .int (Builtin.bitAnd i j)
  | .bor => rI0 fun i j => .int (Builtin.bitOr i j)
  | .bxor => rI0 fun i j => .int (Builtin.bitXor i j)
def oB : Bop → Operator
  | .add => .Add | .sub => .Sub | .mul => .Mult | .fdiv => .FloorDiv | .mod => .Mod | .pow => .Pow | .shl => .LShift | .shr => .RShift
  | .band => .BitAnd | .bor => .BitOr | .bxor => .BitXor
section
variable {X : Cx}
theorem z_add : OpR X (binaryOp .Add) (rB X.K .add) := op_add.or (op_add_str.or (op_catT.or op_cat))
theorem z_sub : OpR X (binaryOp .Sub) (rB X.K .sub) := op_sub
theorem z_mul : OpR X (binaryOp .Mult) (rB X.K .mul) := op_mul.or (op_mulX.or (op_rep.or op_mul_str))
theorem z_fdiv : OpR X (binaryOp .FloorDiv) (rB X.K .fdiv) := op_fdivW
theorem z_mod : OpR X (binaryOp .Mod) (rB X.K .mod) := op_mod
theorem z_pow : OpR X (binaryOp .Pow) (rB X.K .pow) := op_pow
theorem z_shl : OpR X (binaryOp .LShift) (rB X.K .shl) := op_shl
theorem z_shr : OpR X (binaryOp .RShift) (rB X.K .shr) := op_shr
theorem z_band : OpR X (binaryOp .BitAnd) (rB X.K .band) := op_and
theorem z_bor : OpR X (binaryOp .BitOr) (rB X.K .bor) := op_or
theorem z_bxor : OpR X (binaryOp .BitXor) (rB X.K .bxor) := op_xor
end
theorem natAbs_big {i : Int} (h : big i) : i.natAbs < 2 ^ 250 := by
  obtain ⟨h1, h2⟩ := h
  omega
section
variable {K : PySem.W.Frag} {W : XK} {r : Rho} {h h' : Hm} {H : Hp} {Q : VK} {res : Except String D} {v w : V} {x y : D}
/-- a new list -/
theorem s_newlist (S : Sim K r h H) {vs : List V} {xs : List D} (q : RepL K r h.next H vs xs) (p : PG K W r h H (RepV K) Q (.ok (.ref h.next)) (h.new (.lst xs))) : ∀ a, H a = none → Q (.ref a) (upd H a (.lst vs)) := by
  intro a ha
  have x1 := (Free.extN (K := K) (r := r) (n := h.next) (u := .lst vs) (.inl ha))
  have S1 : Sim K (rn r h.next a) (h.new (.lst xs)) (upd H a (.lst vs)) := S.new ha rfl ⟨vs, upd_same, q.ext x1⟩
  have e : V.ref a = .ref (rn r h.next a h.next) := by rw [rn_at]
  exact p _ _ _ S1 x1 (by rw [e]; exact .ref (Nat.lt_succ_self _))
theorem s_newtup (S : Sim K r h H) {vs : List V} {xs : List D} (q : RepL K r h.next H vs xs) (p : PG K W r h H (RepV K) Q (.ok (.tup xs)) h) : ∀ a, H a = none → Q (.ref a) (upd H a (.tup vs)) := by
  intro a ha
  have x1 := (Free.ext (K := K) (r := r) (n := h.next) (u := .tup vs) (.inl ha))
  exact p _ _ _ (S.grow ha) x1 (.tup (.inl (.inl upd_same)) (q.ext x1))
theorem repL_ne {n : Nat} {vs : List V} {x : D} {xs : List D} (q : RepL K r n H vs (x :: xs)) : vs ≠ [] := by
  cases q with
  | cons a b => exact List.cons_ne_nil _ _
/-- same heap, a plain answer -/
theorem s_plain (S : Sim K r h H) {u : V} {d : D} (q : RepV K r h.next H u d) (p : PG K W r h H (RepV K) Q (.ok d) h) : Q u H := p u r H S Ext.refl q
theorem s_bin {o : Bop} (S : Sim K r h H) (rv : RepV K r h.next H v x) (rw_ : RepV K r h.next H w y) (e : binD o x y h = some (res, h')) (p : PG K W r h H (RepV K) Q res h') : rB K o v w H Q := by
  cases o with
  | add =>
    cases rv with
    | int i =>
      cases rw_ with
      | int j => cases e; exact .inl ⟨_, _, rfl, rfl, s_plain S (.int _) p⟩
      | _ => cases e
    | str s =>
      cases rw_ with
      | str t =>
        simp only [binD] at e
        split at e
        · rename_i hl
          cases e
          exact .inr (.inl ⟨_, _, rfl, rfl, lim_le hl, s_plain S (.str _) p⟩)
        · cases e
      | _ => cases e
    | @tup a vs ds hT q =>
      cases rw_ with
      | @tup b us es hU q2 =>
        cases ds with
        | nil => cases e
        | cons d ds =>
          simp only [binD] at e
          split at e
          · rename_i hl
            cases e
            refine .inr (.inr (.inl ⟨a, b, vs, us, rfl, rfl, hT, hU, repL_ne q, ?_, fun eu => ?_, fun _ => ?_⟩))
            · rw [q.len, q2.len, List.length_cons]
              exact lim_le (by omega)
            · subst eu
              cases q2
              simp only [List.append_nil] at p
              exact s_plain S (.tup hT q) p
            · exact s_newtup S (q.app q2) p
          · cases e
      | _ => cases ds <;> cases e
    | @ref a la =>
      cases rw_ with
      | @ref b lb =>
        simp only [binD] at e
        split at e
        · rename_i xs ys ha hb
          split at e
          · rename_i hl
            cases e
            obtain ⟨vs, e1, q1⟩ := (S.obj a _ ha).2
            obtain ⟨us, e2, q2⟩ := (S.obj b _ hb).2
            refine .inr (.inr (.inr ⟨_, _, vs, us, rfl, rfl, e1, e2, ?_, s_newlist S (q1.app q2) p⟩))
            rw [q1.len, q2.len]
            exact lim_le hl
          · cases e
        · cases e
      | _ => cases e
    | _ => cases e
  | sub =>
    cases rv with
    | int i =>
      cases rw_ with
      | int j => cases e; exact ⟨_, _, rfl, rfl, s_plain S (.int _) p⟩
      | _ => cases e
    | _ => cases e
  | mul =>
    cases rv with
    | int i =>
      cases rw_ with
      | int j =>
        simp only [binD] at e
        split at e
        · rename_i hl
          cases e
          rcases hl with hl | hl | hl
          · exact .inl ⟨_, _, rfl, rfl, .inl hl, s_plain S (.int _) p⟩
          · exact .inl ⟨_, _, rfl, rfl, .inr hl, s_plain S (.int _) p⟩
          · exact .inr (.inl ⟨_, _, rfl, rfl, mulx_ok (natAbs_big hl.1) (natAbs_big hl.2) (by decide), s_plain S (.int _) p⟩)
        · cases e
      | _ => cases e
    | str s =>
      cases rw_ with
      | int k =>
        simp only [binD] at e
        split at e
        · rename_i hl
          cases e
          exact .inr (.inr (.inr ⟨_, _, rfl, rfl, hl.1, hl.2.1, hl.2.2, s_plain S (.str _) p⟩))
        · cases e
      | _ => cases e
    | @ref a la =>
      cases rw_ with
      | int k =>
        simp only [binD] at e
        split at e
        · rename_i xs ha
          split at e
          · rename_i hl
            cases e
            obtain ⟨vs, e1, q1⟩ := (S.obj a _ ha).2
            obtain ⟨⟨h1, h2⟩, h3⟩ := hl
            refine .inr (.inr (.inl ⟨_, k, vs, rfl, rfl, e1, by omega, by omega, ?_, s_newlist S (q1.rep _) p⟩))
            rw [q1.len]
            exact lim_le h3
          · cases e
        · cases e
      | _ => cases e
    | _ => cases e
  | fdiv =>
    cases rv with
    | int i =>
      cases rw_ with
      | int j =>
        simp only [binD] at e
        split at e
        · rename_i hl
          cases e
          exact ⟨_, _, rfl, rfl, wide_div hl.1 (b := 250) (by omega) (by decide) (by decide), s_plain S (.int _) p⟩
        · cases e
      | _ => cases e
    | _ => cases e
  | mod =>
    cases rv with
    | int i =>
      cases rw_ with
      | int j =>
        simp only [binD] at e
        split at e
        · rename_i hl
          cases e
          exact ⟨_, _, rfl, rfl, hl, s_plain S (.int _) p⟩
        · cases e
      | _ => cases e
    | _ => cases e
  | pow =>
    cases rv with
    | int i =>
      cases rw_ with
      | int j =>
        simp only [binD] at e
        split at e
        · rename_i hl
          cases e
          obtain ⟨h1, h2, h3, h4⟩ := hl
          exact ⟨_, _, rfl, rfl, ⟨h1, h2, by omega⟩, s_plain S (.int _) p⟩
        · cases e
      | _ => cases e
    | _ => cases e
  | shl =>
    cases rv with
    | int i =>
      cases rw_ with
      | int j =>
        simp only [binD] at e
        split at e
        · rename_i hl
          cases e
          obtain ⟨h1, h2, h3, h4⟩ := hl
          exact ⟨_, _, rfl, rfl, ⟨h1, h2, by omega⟩, s_plain S (.int _) p⟩
        · cases e
      | _ => cases e
    | _ => cases e
  | shr =>
    cases rv with
    | int i =>
      cases rw_ with
      | int j =>
        simp only [binD] at e
        split at e
        · rename_i hl
          cases e
          exact ⟨_, _, rfl, rfl, hl, s_plain S (.int _) p⟩
        · cases e
      | _ => cases e
    | _ => cases e
  | band =>
    cases rv with
    | int i =>
      cases rw_ with
      | int j => cases e; exact ⟨_, _, rfl, rfl, s_plain S (.int _) p⟩
      | _ => cases e
    | _ => cases e
  | bor =>
    cases rv with
    | int i =>
      cases rw_ with
      | int j => cases e; exact ⟨_, _, rfl, rfl, s_plain S (.int _) p⟩
      | _ => cases e
    | _ => cases e
  | bxor =>
    cases rv with
    | int i =>
      cases rw_ with
      | int j => cases e; exact ⟨_, _, rfl, rfl, s_plain S (.int _) p⟩
      | _ => cases e
    | _ => cases e
end
end Z

set_option maxRecDepth 100000
set_option maxHeartbeats 1000000
/-! ZF: comparisons, items, slices, truth. -/
namespace Z
open PySem L2

/-! ### comparisons -/
abbrev rSgn (b : Bool) : R2 := fun x y H Q => ∃ (c : Nat) (z : Str), x = .str ⟨#[c]⟩ ∧ y = .str z ∧ Q (.bl (if b = true then !decide (c ∈ z.cps.toList) else decide (c ∈ z.cps.toList))) H
abbrev rSub (b : Bool) : R2 := fun x y H Q => ∃ i j, x = .str i ∧ y = .str j ∧ Q (.bl (if b = true then !(!(Builtin.Str.occurrences j i 0 j.length 1).isEmpty) else !(Builtin.Str.occurrences j i 0 j.length 1).isEmpty)) H
abbrev rKey (b : Bool) : R2 := fun x y H Q => ∃ a o, y = .ref a ∧ DGet H a x o ∧ Q (.bl (if b = true then !o.isSome else o.isSome)) H
def rCm (K : PySem.W.Frag) : Cop → R2
  | .eq => fun x y H Q => rEq x y H Q ∨ rEqD K x y H Q
  | .ne => fun x y H Q => rNe x y H Q ∨ rNeD K x y H Q
  | .lt => rI0 fun i j => .bl (decide (i < j))
  | .le => rI0 fun i j => .bl (decide (i ≤ j))
  | .gt => rI0 fun i j => .bl (decide (j < i))
  | .ge => rI0 fun i j => .bl (decide (j ≤ i))
  | .isN => fun x y H Q => (y = .non ∧ Q (.bl (decide (x = .non))) H) ∨ (∃ a b, x = .bl a ∧ y = .bl b ∧ Q (.bl (decide (a = b))) H)
  | .notN => fun x y H Q => (y = .non ∧ Q (.bl (!decide (x = .non))) H) ∨ (∃ a b, x = .bl a ∧ y = .bl b ∧ Q (.bl (!decide (a = b))) H)
  | .inn => fun x y H Q => rSgn false x y H Q ∨ (rSub false x y H Q ∨ (rIn K false x y H Q ∨ rKey false x y H Q))
  | .nin => fun x y H Q => rSgn true x y H Q ∨ (rSub true x y H Q ∨ (rIn K true x y H Q ∨ rKey true x y H Q))
section
variable {X : Cx}
theorem op_key (hu : X.A.units + 64 < cLine) : OpR X (compareOp .In) (rKey false) := by
  intro pins s σ H x y v u Q I rx ry h
  obtain ⟨a, o, e, g, q⟩ := h
  subst e
  obtain rfl : u = Value.ref a := ry
  exact d_in (by omega) I g rx fun s3 I3 => ⟨.bl o.isSome, H, I3, rfl, q⟩
theorem op_nkey (hu : X.A.units + 64 < cLine) : OpR X (compareOp .NotIn) (rKey true) := by
  intro pins s σ H x y v u Q I rx ry h
  obtain ⟨a, o, e, g, q⟩ := h
  subst e
  obtain rfl : u = Value.ref a := ry
  exact d_notIn (by omega) I g rx fun s3 I3 => ⟨.bl (!o.isSome), H, I3, rfl, q⟩
theorem z_eq (hu : X.A.units + 64 < cLine) : OpR X (compareOp .Eq) (rCm X.K .eq) := op_eq.or (op_eqD hu)
theorem z_ne (hu : X.A.units + 64 < cLine) : OpR X (compareOp .NotEq) (rCm X.K .ne) := op_ne.or (op_neD hu)
theorem z_lt (hu : X.A.units + 64 < cLine) : OpR X (compareOp .Lt) (rCm X.K .lt) := op_lt
theorem z_le (hu : X.A.units + 64 < cLine) : OpR X (compareOp .LtE) (rCm X.K .le) := op_le
theorem z_gt (hu : X.A.units + 64 < cLine) : OpR X (compareOp .Gt) (rCm X.K .gt) := op_gt
theorem z_ge (hu : X.A.units + 64 < cLine) : OpR X (compareOp .GtE) (rCm X.K .ge) := op_ge
theorem z_isN (hu : X.A.units + 64 < cLine) : OpR X (compareOp .Is) (rCm X.K .isN) := op_isN.or op_is_bl
theorem z_notN (hu : X.A.units + 64 < cLine) : OpR X (compareOp .IsNot) (rCm X.K .notN) := op_notN.or op_isnot_bl
theorem z_in (hu : X.A.units + 64 < cLine) : OpR X (compareOp .In) (rCm X.K .inn) := by
  refine OpR.or (r := rSgn false) ?_ (OpR.or (r := rSub false) ?_ (op_in_seq.or (op_key hu)))
  · exact op_in_sign
  · exact op_in_str
theorem z_nin (hu : X.A.units + 64 < cLine) : OpR X (compareOp .NotIn) (rCm X.K .nin) := by
  refine OpR.or (r := rSgn true) ?_ (OpR.or (r := rSub true) ?_ (op_notIn_seq.or (op_nkey hu)))
  · exact op_notIn_sign
  · exact op_notin_str
end

section
variable {K : PySem.W.Frag} {W : XK} {r : Rho} {h h' : Hm} {H : Hp} {Q : VK} {res : Except String D} {v w : V} {x y : D}
theorem mapO_dp {f : D → Option PyData} (hf : ∀ d v pd, RepV K r h.next H v d → f d = some pd → Dp K H v pd) : ∀ {ds : List D} {vs : List V} {ps : List PyData}, RepL K r h.next H vs ds → mapO f ds = some ps → DpAll K H vs ps
  | _, _, _, .nil, e => by cases e; exact .nil
  | d :: ds, _, _, .cons a b, e => by
    unfold mapO at e
    cases e1 : f d with
    | none => rw [e1] at e; cases e
    | some y =>
      cases e2 : mapO f ds with
      | none => rw [e1, e2] at e; cases e
      | some ys =>
        rw [e1, e2] at e
        cases e
        exact .cons (hf _ _ _ a e1) (mapO_dp hf b e2)
theorem dat_dp (S : Sim K r h H) : ∀ (n : Nat) (d : D) (v : V) (pd : PyData), RepV K r h.next H v d → dat h n d = some pd → Dp K H v pd
  | 0, _, _, _, .non, e => by cases e; exact .non
  | 0, _, _, _, .bl b, e => by cases e; exact .bl b
  | 0, _, _, _, .int b, e => by cases e; exact .int b
  | 0, _, _, _, .str b, e => by cases e; exact .str b
  | 0, _, _, _, .tup _ _, e => by cases e
  | 0, _, _, _, .ref _, e => by cases e
  | n + 1, _, _, _, .non, e => by cases e; exact .non
  | n + 1, _, _, _, .bl b, e => by cases e; exact .bl b
  | n + 1, _, _, _, .int b, e => by cases e; exact .int b
  | n + 1, _, _, _, .str b, e => by cases e; exact .str b
  | n + 1, _, _, _, .tup hT q, e => by
    unfold dat at e
    obtain ⟨ps, e1, e2⟩ := Option.map_eq_some_iff.mp e
    subst e2
    exact .tup hT (mapO_dp (dat_dp S n) q e1)
  | n + 1, _, _, _, .ref (a := a) la, e => by
    unfold dat at e
    split at e
    · rename_i xs ha
      obtain ⟨ps, e1, e2⟩ := Option.map_eq_some_iff.mp e
      subst e2
      obtain ⟨vs, h1, q⟩ := (S.obj a _ ha).2
      exact .lst (.inl (.inl h1)) (mapO_dp (dat_dp S n) q e1)
    · rename_i xs ha
      obtain ⟨ps, e1, e2⟩ := Option.map_eq_some_iff.mp e
      subst e2
      obtain ⟨vs, h1, q⟩ := (S.obj a _ ha).2
      exact .lst h1.l (mapO_dp (dat_dp S n) q e1)
    · cases e
/-- == by either rule -/
theorem s_eqD {b : Bool} (S : Sim K r h H) (rv : RepV K r h.next H v x) (rw_ : RepV K r h.next H w y) (e : eqD x y h = some b) :
    (scal v w = true ∧ decide (v = w) = b) ∨ ∃ d c, Dp K H v d ∧ Dp K H w c ∧ SeqAt.shaped d = true ∧ SeqAt.shaped c = true ∧ PyData.eqv d c = b := by
  have deepP : ∀ {x y : D}, RepV K r h.next H v x → RepV K r h.next H w y → (match dat h deep x, dat h deep y with
    | some d, some e => if (SeqAt.shaped d && SeqAt.shaped e) = true then some (PyData.eqv d e) else none
    | _, _ => none) = some b → ∃ d c, Dp K H v d ∧ Dp K H w c ∧ SeqAt.shaped d = true ∧ SeqAt.shaped c = true ∧ PyData.eqv d c = b := by
    intro x y rv rw_ e
    split at e
    · rename_i d c e1 e2
      split at e
      · rename_i hs
        cases e
        obtain ⟨s1, s2⟩ := Bool.and_eq_true_iff.mp hs
        exact ⟨d, c, dat_dp S _ _ _ _ rv e1, dat_dp S _ _ _ _ rw_ e2, s1, s2, rfl⟩
      · cases e
    · cases e
  cases rv with
  | int i =>
    cases rw_ with
    | int j =>
      cases e
      refine .inl ⟨rfl, ?_⟩
      by_cases hij : i = j
      · subst hij; simp
      · simp [hij]
    | str t => cases e; exact .inl ⟨rfl, by simp⟩
    | non => exact .inr (deepP (.int i) .non e)
    | bl c => exact .inr (deepP (.int i) (.bl c) e)
    | tup a c => exact .inr (deepP (.int i) (.tup a c) e)
    | ref a => exact .inr (deepP (.int i) (.ref a) e)
    | exc k a => exact .inr (deepP (.int i) (.exc k a) e)
  | str s =>
    cases rw_ with
    | str t =>
      cases e
      refine .inl ⟨rfl, ?_⟩
      by_cases hij : s = t
      · subst hij; simp
      · simp [hij]
    | int t => cases e; exact .inl ⟨rfl, by simp⟩
    | non => exact .inr (deepP (.str s) .non e)
    | bl c => exact .inr (deepP (.str s) (.bl c) e)
    | tup a c => exact .inr (deepP (.str s) (.tup a c) e)
    | ref a => exact .inr (deepP (.str s) (.ref a) e)
    | exc k a => exact .inr (deepP (.str s) (.exc k a) e)
  | bl s =>
    cases rw_ with
    | bl t =>
      cases e
      refine .inl ⟨rfl, ?_⟩
      by_cases hij : s = t
      · subst hij; simp
      · simp [hij]
    | int c => exact .inr (deepP (.bl s) (.int c) e)
    | non => exact .inr (deepP (.bl s) .non e)
    | str c => exact .inr (deepP (.bl s) (.str c) e)
    | tup a c => exact .inr (deepP (.bl s) (.tup a c) e)
    | ref a => exact .inr (deepP (.bl s) (.ref a) e)
    | exc k a => exact .inr (deepP (.bl s) (.exc k a) e)
  | non =>
    cases rw_ with
    | non => cases e; exact .inl ⟨rfl, by simp⟩
    | int c => exact .inr (deepP .non (.int c) e)
    | bl c => exact .inr (deepP .non (.bl c) e)
    | str c => exact .inr (deepP .non (.str c) e)
    | tup a c => exact .inr (deepP .non (.tup a c) e)
    | ref a => exact .inr (deepP .non (.ref a) e)
    | exc k a => exact .inr (deepP .non (.exc k a) e)
  | tup a c => cases rw_ <;> exact .inr (deepP (.tup a c) (by constructor <;> assumption) e)
  | ref a => cases rw_ <;> exact .inr (deepP (.ref a) (by constructor <;> assumption) e)
  | exc k a =>
    cases rw_ with
    | non => exact .inr (deepP (.exc k a) .non e)
    | int c => exact .inr (deepP (.exc k a) (.int c) e)
    | bl c => exact .inr (deepP (.exc k a) (.bl c) e)
    | str c => exact .inr (deepP (.exc k a) (.str c) e)
    | tup x y => exact .inr (deepP (.exc k a) (.tup x y) e)
    | ref x => exact .inr (deepP (.exc k a) (.ref x) e)
    | exc x y => exact .inr (deepP (.exc k a) (.exc x y) e)
/-! ### membership -/
theorem flat_of (rv : RepV K r h.next H v x) (f : flatD x = true) : flatV v = true := by
  cases rv <;> first | rfl | cases f
theorem flatL_of : ∀ {ds : List D} {vs : List V}, RepL K r h.next H vs ds → ds.all flatD = true → vs.all flatV = true
  | _, _, .nil, _ => rfl
  | _, _, .cons a b, f => by
    rw [List.all_cons, Bool.and_eq_true_iff] at f
    rw [List.all_cons, flat_of a f.1, flatL_of b f.2]
    rfl
theorem eqF_of (rv : RepV K r h.next H v x) (rw_ : RepV K r h.next H w y) (f : flatD x = true) (g : flatD y = true) : eqV v w = eqF x y := by
  cases rv with
  | tup a b => cases f
  | ref a => cases f
  | _ => cases rw_ <;> first | rfl | cases g
theorem inL_of (rv : RepV K r h.next H v x) (f : flatD x = true) : ∀ {ds : List D} {vs : List V}, RepL K r h.next H vs ds → ds.all flatD = true → inV v vs = ds.any fun y => eqF y x
  | _, _, .nil, _ => rfl
  | _, _, .cons a b, g => by
    rw [List.all_cons, Bool.and_eq_true_iff] at g
    have ih := inL_of rv f b g.2
    unfold inV at ih ⊢
    rw [List.any_cons, List.any_cons, ih, eqF_of a rv g.1 f]
theorem key_of (rv : RepV K r h.next H v x) {k : Key} (e : key? x = some k) : v = kV k := by
  cases rv with
  | int i => cases e; rfl
  | str s => cases e; rfl
  | _ => cases e
theorem keys_of : ∀ {ds : List D} {vs : List V} {ks : List Key}, RepL K r h.next H vs ds → keys? ds = some ks → vs = ks.map kV
  | _, _, _, .nil, e => by cases e; rfl
  | d :: ds, _, _, .cons a b, e => by
    unfold keys? at e
    cases e1 : key? d with
    | none => rw [e1] at e; cases e
    | some y =>
      cases e2 : keys? ds with
      | none => rw [e1, e2] at e; cases e
      | some ys =>
        rw [e1, e2] at e
        cases e
        rw [key_of a e1, keys_of b e2]
        rfl
theorem repKey (k : Key) : RepV K r h.next H (kV k) (keyD k) := by
  cases k with
  | inl i => exact .int i
  | inr s => exact .str s
theorem repKeyL : ∀ ks : List Key, RepL K r h.next H (ks.map kV) (ks.map keyD)
  | [] => .nil
  | k :: ks => .cons (repKey k) (repKeyL ks)
theorem repKeys {ws : List (Key × V)} {kvs : List (Key × D)} (q : RepK K r h.next H ws kvs) : RepL K r h.next H (ws.map fun kv => kV kv.1) (kvs.map fun kv => keyD kv.1) := by
  have e1 : (ws.map fun kv => kV kv.1) = (ws.map (·.1)).map kV := by rw [List.map_map]; rfl
  have e2 : (kvs.map fun kv => keyD kv.1) = (kvs.map (·.1)).map keyD := by rw [List.map_map]; rfl
  rw [e1, e2, q.1]
  exact repKeyL _
end
section
variable {κ : Type} [DecidableEq κ] {K : PySem.W.Frag} {r : Rho} {n : Nat} {H : Hp}
/-- what stands at a key -/
theorem repK_get (k : κ) : ∀ {kvs : List (κ × D)} {ws : List (κ × V)}, RepK K r n H ws kvs →
    (∀ d, kget kvs k = some d → ∃ u, valV ws k = some u ∧ RepV K r n H u d) ∧ (kget kvs k = none → valV ws k = none)
  | [], [], _ => ⟨fun d e => (by cases e), fun _ => rfl⟩
  | [], w :: ws, q => nomatch q.1
  | p :: kvs, [], q => nomatch q.1
  | p :: kvs, w :: ws, q => by
    obtain ⟨q1, q2⟩ := q
    simp only [List.map_cons, List.cons.injEq] at q1
    simp only [List.map_cons] at q2
    cases q2 with
    | cons a b =>
      by_cases hk : p.1 = k
      · have hw : w.1 = k := q1.1.trans hk
        rw [valV_pos hw]
        have e : kget (p :: kvs) k = some p.2 := by simp [kget, List.find?_cons, hk]
        rw [e]
        exact ⟨fun d z => by cases z; exact ⟨_, rfl, a⟩, fun z => by cases z⟩
      · have hw : ¬ w.1 = k := fun z => hk (q1.1.symm.trans z)
        rw [valV_neg hw]
        have e : kget (p :: kvs) k = kget kvs k := by simp [kget, List.find?_cons, hk]
        rw [e]
        exact repK_get k ⟨q1.2, b⟩
end
section
variable {K : PySem.W.Frag} {W : XK} {r : Rho} {h h' : Hm} {H : Hp} {Q : VK} {res : Except String D} {v w : V} {x y : D}
theorem dget_of (S : Sim K r h H) {a : Nat} {o : Option D} (rv : RepV K r h.next H v x) (e : dget h a x = some o) :
    ∃ u, DGet H (r a) v u ∧ (∀ d, o = some d → ∃ z, u = some z ∧ RepV K r h.next H z d) ∧ (o = none → u = none) := by
  unfold dget at e
  split at e
  · rename_i kvs ha
    obtain ⟨k, e1, e2⟩ := Option.map_eq_some_iff.mp e
    obtain ⟨ws, h1, q⟩ := (S.obj a _ ha).2
    obtain ⟨g1, g2⟩ := repK_get k q
    rw [key_of rv e1]
    refine ⟨_, DGet.k h1, fun d z => ?_, fun z => ?_⟩
    · rw [z] at e2
      exact g1 d e2
    · rw [z] at e2
      exact g2 e2
  · rename_i kvs ha
    obtain ⟨k, e1, e2⟩ := Option.map_eq_some_iff.mp e
    obtain ⟨ob, ws, h1, q⟩ := (S.obj a _ ha).2
    obtain ⟨g1, g2⟩ := repK_get k q
    rw [key_of rv e1]
    refine ⟨_, Or.inl ⟨ws, k, .inr ⟨ob, h1⟩, rfl, rfl⟩, fun d z => ?_, fun z => ?_⟩
    · rw [z] at e2
      exact g1 d e2
    · rw [z] at e2
      exact g2 e2
  · cases e
theorem s_in {b : Bool} (S : Sim K r h H) (rv : RepV K r h.next H v x) (rw_ : RepV K r h.next H w y) (e : inD x y h = some b) (g : Bool) (p : Q (.bl (if g = true then !b else b)) H) :
    rSgn g v w H Q ∨ (rSub g v w H Q ∨ (rIn K g v w H Q ∨ rKey g v w H Q)) := by
  cases rw_ with
  | str z =>
    cases rv with
    | str s =>
      simp only [inD, Option.some.injEq] at e
      unfold inS at e
      split at e
      · rename_i h1
        refine .inl ⟨s.cps.getD 0 0, z, ?_, rfl, ?_⟩
        · have e1 : s.cps = #[s.cps.getD 0 0] := by
            apply Array.ext
            · simpa using h1
            · intro i hi1 hi2
              have : i = 0 := by simp at hi2; exact hi2
              subst this
              simp [Array.getD, hi1]
          obtain ⟨c⟩ := s
          simp only at e1 ⊢
          exact congrArg (fun c => V.str ⟨c⟩) e1
        · subst e
          exact p
      · refine .inr (.inl ⟨s, z, rfl, rfl, ?_⟩)
        subst e
        exact p
    | _ => cases e
  | @tup a vs ds hT q =>
    simp only [inD, inL] at e
    split at e
    · rename_i hf
      cases e
      refine .inr (.inr (.inl ⟨a, vs, rfl, .inr hT, flat_of rv hf.1, flatL_of q hf.2, ?_⟩))
      rw [inL_of rv hf.1 q hf.2]
      exact p
    · cases e
  | @ref a la =>
    simp only [inD] at e
    split at e
    · rename_i xs ha
      obtain ⟨vs, h1, q⟩ := (S.obj a _ ha).2
      simp only [inL] at e
      split at e
      · rename_i hf
        cases e
        refine .inr (.inr (.inl ⟨_, vs, rfl, .inl (.inl (.inl h1)), flat_of rv hf.1, flatL_of q hf.2, ?_⟩))
        rw [inL_of rv hf.1 q hf.2]
        exact p
      · cases e
    · rename_i xs ha
      obtain ⟨vs, h1, q⟩ := (S.obj a _ ha).2
      simp only [inL] at e
      split at e
      · rename_i hf
        cases e
        refine .inr (.inr (.inl ⟨_, vs, rfl, .inl h1.l, flat_of rv hf.1, flatL_of q hf.2, ?_⟩))
        rw [inL_of rv hf.1 q hf.2]
        exact p
      · cases e
    · rename_i kvs ha
      obtain ⟨o, e1, e2⟩ := Option.map_eq_some_iff.mp e
      obtain ⟨u, d1, d2, d3⟩ := dget_of S rv e1
      refine .inr (.inr (.inr ⟨_, u, rfl, d1, ?_⟩))
      have e3 : u.isSome = b := by
        rw [← e2]
        cases o with
        | none =>
          rw [d3 rfl]
          rfl
        | some d =>
          obtain ⟨z, ez, _⟩ := d2 d rfl
          rw [ez]
          rfl
      rw [e3]
      exact p
    · rename_i kvs ha
      obtain ⟨o, e1, e2⟩ := Option.map_eq_some_iff.mp e
      obtain ⟨u, d1, d2, d3⟩ := dget_of S rv e1
      refine .inr (.inr (.inr ⟨_, u, rfl, d1, ?_⟩))
      have e3 : u.isSome = b := by
        rw [← e2]
        cases o with
        | none =>
          rw [d3 rfl]
          rfl
        | some d =>
          obtain ⟨z, ez, _⟩ := d2 d rfl
          rw [ez]
          rfl
      rw [e3]
      exact p
    · cases e
  | _ => cases e
theorem s_cmp {o : Cop} {b : Bool} (S : Sim K r h H) (rv : RepV K r h.next H v x) (rw_ : RepV K r h.next H w y) (e : cmpD o x y h = some b) (p : Q (.bl b) H) : rCm K o v w H Q := by
  cases o with
  | eq =>
    rcases s_eqD S rv rw_ e with ⟨h1, h2⟩ | ⟨d, c, h1, h2, h3, h4, h5⟩
    · exact .inl ⟨h1, by rw [h2]; exact p⟩
    · exact .inr ⟨d, c, h1, h2, h3, h4, by rw [h5]; exact p⟩
  | ne =>
    obtain ⟨k, e1, e2⟩ := Option.map_eq_some_iff.mp (show (eqD x y h).map (fun b => !b) = some b from e)
    subst e2
    rcases s_eqD S rv rw_ e1 with ⟨h1, h2⟩ | ⟨d, c, h1, h2, h3, h4, h5⟩
    · exact .inl ⟨h1, by rw [h2]; exact p⟩
    · exact .inr ⟨d, c, h1, h2, h3, h4, by rw [h5]; exact p⟩
  | lt =>
    cases rv with
    | int i =>
      cases rw_ with
      | int j => cases e; exact ⟨_, _, rfl, rfl, p⟩
      | _ => cases e
    | _ => cases e
  | le =>
    cases rv with
    | int i =>
      cases rw_ with
      | int j => cases e; exact ⟨_, _, rfl, rfl, p⟩
      | _ => cases e
    | _ => cases e
  | gt =>
    cases rv with
    | int i =>
      cases rw_ with
      | int j => cases e; exact ⟨_, _, rfl, rfl, p⟩
      | _ => cases e
    | _ => cases e
  | ge =>
    cases rv with
    | int i =>
      cases rw_ with
      | int j => cases e; exact ⟨_, _, rfl, rfl, p⟩
      | _ => cases e
    | _ => cases e
  | isN =>
    cases rw_ with
    | non => cases rv <;> (cases e; exact .inl ⟨rfl, by simpa using p⟩)
    | bl b => cases rv <;> (cases e; try exact .inr ⟨_, _, rfl, rfl, p⟩)
    | _ => cases rv <;> cases e
  | notN =>
    cases rw_ with
    | non => cases rv <;> (cases e; exact .inl ⟨rfl, by simpa using p⟩)
    | bl b => cases rv <;> (cases e; try exact .inr ⟨_, _, rfl, rfl, p⟩)
    | _ => cases rv <;> cases e
  | inn => exact s_in S rv rw_ e false p
  | nin =>
    obtain ⟨k, e1, e2⟩ := Option.map_eq_some_iff.mp (show (inD x y h).map (fun b => !b) = some b from e)
    subst e2
    exact s_in S rv rw_ e1 true p

/-! ### items -/
theorem atD_of {xs : List D} {vs : List V} {i : Int} {d : D} (q : RepL K r h.next H vs xs) (e : atD xs i = some d) : ∃ u, atI vs i = some u ∧ RepV K r h.next H u d := by
  have hl := q.len
  unfold atD at e
  unfold L2.atI L2.ixN
  by_cases h0 : 0 ≤ i
  · rw [if_pos h0] at e ⊢
    have hi : i.toNat < xs.length := (List.getElem?_eq_some_iff.mp e).1
    rw [if_pos (show i < (vs.length : Int) by omega)]
    exact q.get e
  · rw [if_neg h0] at e ⊢
    by_cases h1 : -(xs.length : Int) ≤ i
    · rw [if_pos h1] at e
      rw [if_pos (show -(vs.length : Int) ≤ i by omega), hl]
      exact q.get e
    · rw [if_neg h1] at e
      cases e
theorem atS_of {xs : List Nat} {i : Int} {c : Nat} (e : atD xs i = some c) : atI xs i = some c := by
  unfold atD at e
  unfold L2.atI L2.ixN
  by_cases h0 : 0 ≤ i
  · rw [if_pos h0] at e ⊢
    have hi : i.toNat < xs.length := (List.getElem?_eq_some_iff.mp e).1
    rw [if_pos (show i < (xs.length : Int) by omega)]
    exact e
  · rw [if_neg h0] at e ⊢
    by_cases h1 : -(xs.length : Int) ≤ i
    · rw [if_pos h1] at e
      rw [if_pos h1]
      exact e
    · rw [if_neg h1] at e
      cases e
theorem s_idx {d : D} (S : Sim K r h H) (rv : RepV K r h.next H v x) (rw_ : RepV K r h.next H w y) (e : idxD x y h = some d) (p : PG K W r h H (RepV K) Q (.ok d) h) : rIx K v w H Q := by
  cases rw_ with
  | int i =>
    cases rv with
    | @tup a vs ds hT q =>
      obtain ⟨u, e1, q1⟩ := atD_of q e
      exact .inr (.inl ⟨a, vs, i, u, rfl, rfl, hT, e1, s_plain S q1 p⟩)
    | @ref a la =>
      simp only [idxD] at e
      split at e
      · rename_i xs ha
        obtain ⟨vs, h1, q⟩ := (S.obj a _ ha).2
        obtain ⟨u, e1, q1⟩ := atD_of q e
        exact .inl ⟨_, vs, i, u, rfl, rfl, .inl (.inl h1), e1, s_plain S q1 p⟩
      · rename_i xs ha
        obtain ⟨vs, h1, q⟩ := (S.obj a _ ha).2
        obtain ⟨u, e1, q1⟩ := atD_of q e
        exact .inl ⟨_, vs, i, u, rfl, rfl, h1.l, e1, s_plain S q1 p⟩
      · cases e
    | str z =>
      simp only [idxD] at e
      split at e
      · rename_i hl
        obtain ⟨c, e1, e2⟩ := Option.map_eq_some_iff.mp e
        subst e2
        exact .inr (.inr ⟨z, i, c, rfl, rfl, lim_le hl, atS_of e1, s_plain S (.str _) p⟩)
      · cases e
    | _ => cases e
  | _ => cases rv <;> cases e

/-! ### slices -/
theorem sI_eq : sI = HT.sIx := by
  funext n d o
  cases o <;> rfl
theorem cut_of {xs : List D} {vs : List V} (lo hi : Option Int) (q : RepL K r h.next H vs xs) : RepL K r h.next H (cutV vs lo hi) (cut xs lo hi) := by
  unfold cutV cut
  rw [sI_eq, q.len]
  exact (q.drop _).take _
theorem cut_all {xs : List D} {lo hi : Option Int} (e : HT.sIx xs.length 0 lo = 0 ∧ HT.sIx xs.length xs.length hi = xs.length) : cut xs lo hi = xs := by
  unfold cut
  rw [sI_eq, e.1, e.2]
  simp
def rSlZ (K : PySem.W.Frag) : V → Option Int → Option Int → Hp → VK → Prop := fun x lo hi H Q => rSlL K x lo hi H Q ∨ (rSlA K x lo hi H Q ∨ rSlS x lo hi H Q)
theorem z_slice {X : Cx} : SlR X (rSlZ X.K) := sl_list.or (sl_tupA.or sl_str)
theorem s_slc {lo hi : Option Int} (S : Sim K r h H) (rv : RepV K r h.next H v x) (e : slcD x lo hi h = some (res, h')) (p : PG K W r h H (RepV K) Q res h') : rSlZ K v lo hi H Q := by
  cases rv with
  | @tup a vs ds hT q =>
    cases e
    refine .inr (.inl ⟨a, vs, rfl, hT, fun al => ?_, fun _ => s_newtup S (cut_of lo hi q) p⟩)
    rw [q.len] at al
    rw [cut_all al] at p
    exact s_plain S (.tup hT q) p
  | @ref a la =>
    simp only [slcD] at e
    split at e
    · rename_i xs ha
      obtain ⟨vs, h1, q⟩ := (S.obj a _ ha).2
      cases e
      exact .inl ⟨_, vs, rfl, .inl (.inl h1), s_newlist S (cut_of lo hi q) p⟩
    · rename_i xs ha
      obtain ⟨vs, h1, q⟩ := (S.obj a _ ha).2
      cases e
      exact .inl ⟨_, vs, rfl, h1.l, s_newlist S (cut_of lo hi q) p⟩
    · cases e
  | str z =>
    simp only [slcD] at e
    split at e
    · rename_i hl
      cases e
      refine .inr (.inr ⟨z, rfl, lim_le hl, ?_⟩)
      have e1 : cutS z lo hi = cutT z lo hi := by
        unfold cutS cutT
        rw [sI_eq]
      rw [e1]
      exact s_plain S (.str _) p
    · cases e
  | _ => cases e

/-! ### truth -/
theorem s_tru {b : Bool} (S : Sim K r h H) (rv : RepV K r h.next H v x) (e : truD x h = some b) : TruV K v H b := by
  cases rv with
  | non => cases e; rfl
  | bl c => cases e; rfl
  | int i => cases e; rfl
  | exc k a => cases e
  | str s =>
    simp only [truD] at e
    split at e
    · rename_i hl
      cases e
      exact ⟨lim_le hl, rfl⟩
    · cases e
  | @tup a vs ds hT q =>
    cases e
    refine .inr (.inl ⟨vs, hT, ?_⟩)
    cases q <;> rfl
  | @ref a la =>
    simp only [truD] at e
    split at e
    · rename_i xs ha
      obtain ⟨vs, h1, q⟩ := (S.obj a _ ha).2
      cases e
      refine .inl ⟨vs, .inl (.inl h1), ?_⟩
      cases q <;> rfl
    · rename_i xs ha
      obtain ⟨vs, h1, q⟩ := (S.obj a _ ha).2
      cases e
      refine .inl ⟨vs, h1.l, ?_⟩
      cases q <;> rfl
    · rename_i kvs ha
      obtain ⟨ws, h1, q⟩ := (S.obj a _ ha).2
      cases e
      refine .inr (.inr ⟨ws, h1, ?_⟩)
      have el : ws.length = kvs.length := by simpa using congrArg List.length q.1
      cases ws <;> cases kvs <;> first | rfl | cases el
    · cases e
end
end Z

set_option maxRecDepth 100000
set_option maxHeartbeats 1000000
/-! ZG: built-in functions and methods. -/
namespace Z
open PySem L2

abbrev rLenD : List V → Hp → VK → Prop := fun xs H Q => ∃ a kvs, xs = [V.ref a] ∧ H a = some (.dK kvs) ∧ Q (.int kvs.length) H
abbrev rLenA (K : PySem.W.Frag) : List V → Hp → VK → Prop := fun xs H Q => ∃ x n, xs = [x] ∧ LenV K x H n ∧ Q (.int n) H
abbrev rInt1 : List V → Hp → VK → Prop := fun xs H Q => (∃ i, xs = [.int i] ∧ Q (.int i) H) ∨ ∃ k, xs = [.bl k] ∧ Q (.int (if k then 1 else 0)) H
abbrev rIntS : List V → Hp → VK → Prop := fun xs H Q => ∃ a n, xs = [.str a] ∧ PySem.intText? a = some n ∧ a.length ≤ 640 ∧ Q (.int n) H
abbrev rStrI : List V → Hp → VK → Prop := fun xs H Q => ∃ i, xs = [.int i] ∧ i.natAbs.log2 < 1920 ∧ Q (.str (toString i)) H
abbrev rListA (K : PySem.W.Frag) : List V → Hp → VK → Prop := fun xs H Q => ∃ p ys, xs = [.ref p] ∧ (SqL K H p ys ∨ SqT K H p ys) ∧ ∀ l, H l = none → Q (.ref l) (upd H l (.lst ys))
abbrev rTupleA (K : PySem.W.Frag) : List V → Hp → VK → Prop := fun xs H Q => ∃ p ys, xs = [.ref p] ∧ ((SqL K H p ys ∧ ∀ l, H l = none → Q (.ref l) (upd H l (.tup ys))) ∨ (SqT K H p ys ∧ Q (.ref p) H))
abbrev rDictA : List V → Hp → VK → Prop := fun xs H Q => ∃ (a : Addr) (kvs : List (Key × V)), xs = [.ref a] ∧ Rd H a (.dK kvs) ∧ ∀ p, H p = none → Q (.ref p) (upd H p (.dK kvs))
abbrev rMin2 : List V → Hp → VK → Prop := fun xs H Q => ∃ i j, xs = [.int i, .int j] ∧ Q (.int (if j < i then j else i)) H
abbrev rMax2 : List V → Hp → VK → Prop := fun xs H Q => ∃ i j, xs = [.int i, .int j] ∧ Q (.int (if j > i then j else i)) H
abbrev rSrtD : List V → Hp → VK → Prop := fun xs H Q => ∃ (a : Addr) (kvs : List (Key × V)) (ks : List Int), xs = [.ref a] ∧ Rd H a (.dK kvs) ∧ kvs.map (·.1) = ks.map Sum.inl ∧ ks.length < 64 ∧
    ∀ (ys : List Int) (p : Addr), ys.Perm ks → ys.Pairwise (· ≤ ·) → H p = none → Q (.ref p) (upd H p (.lst (ys.map V.int)))
abbrev rDivmod : List V → Hp → VK → Prop := fun xs H Q => ∃ i j, xs = [.int i, .int j] ∧ CDivP i j ∧ ∀ p, H p = none → Q (.ref p) (upd H p (.tup [.int (i / j), .int (i % j)]))
abbrev rAbs : List V → Hp → VK → Prop := fun xs H Q => ∃ i, xs = [.int i] ∧ Q (.int (if i < 0 then -i else i)) H
def rListDk : List V → Hp → VK → Prop := fun xs H Q => ∃ (a : Addr) (kvs : List (Key × V)), xs = [.ref a] ∧ Rd H a (.dK kvs) ∧ ∀ p, H p = none → Q (.ref p) (upd H p (.lst (kvs.map fun kv => kV kv.1)))
def rBi (K : PySem.W.Frag) : Bi → List V → Hp → VK → Prop
  | .len => fun xs H Q => rLenA K xs H Q ∨ rLenD xs H Q
  | .int => fun xs H Q => rInt1 xs H Q ∨ rIntS xs H Q
  | .str => rStrI
  | .list => fun xs H Q => rListA K xs H Q ∨ rListDk xs H Q
  | .tuple => rTupleA K
  | .dict => rDictA
  | .min2 => rMin2
  | .max2 => rMax2
  | .sum => rSum K
  | .sorted => fun xs H Q => rSortedI K xs H Q ∨ rSrtD xs H Q
  | .divmod => rDivmod
  | .abs => rAbs
  | .any => rAny K
section
variable {X : Cx}
theorem z_len : CallR X (.builtin "len") (rBi X.K .len) := CallR.or (r := rLenA X.K) (r' := rLenD) call_len call_lenD
theorem z_int : CallR X (.type "int") (rBi X.K .int) := CallR.or (r := rInt1) (r' := rIntS) call_int1 call_int_str
theorem z_str : CallR X (.type "str") (rBi X.K .str) := call_str_int
theorem z_list (hc : X.calm = true) : CallR X (.type "list") (rBi X.K .list) := CallR.or (r := rListA X.K) (r' := rListDk) call_list_of (call_listD hc)
theorem z_tuple : CallR X (.type "tuple") (rBi X.K .tuple) := call_tuple_of
theorem z_dict : CallR X (.type "dict") (rBi X.K .dict) := call_dictD
theorem z_min2 (hc : X.calm = true) : CallR X (.builtin "min") (rBi X.K .min2) := call_min2 hc
theorem z_max2 (hc : X.calm = true) : CallR X (.builtin "max") (rBi X.K .max2) := call_max2 hc
theorem z_sum (hc : X.calm = true) : CallR X (.builtin "sum") (rBi X.K .sum) := cr_sum hc
theorem z_any (hc : X.calm = true) : CallR X (.builtin "any") (rBi X.K .any) := cr_any hc
theorem z_sorted (hc : X.calm = true) : CallR X (.builtin "sorted") (rBi X.K .sorted) := CallR.or (r := rSortedI X.K) (r' := rSrtD) cr_sortedI (call_sortedDI hc)
theorem z_divmod : CallR X (.builtin "divmod") (rBi X.K .divmod) := call_divmodW
theorem z_abs : CallR X (.builtin "abs") (rBi X.K .abs) := call_abs
end

/-! ### sorting -/
theorem insI_perm (x : Int) : ∀ l : List Int, (insI x l).Perm (x :: l)
  | [] => .refl _
  | y :: ys => by
    unfold insI
    split
    · exact .refl _
    · exact ((insI_perm x ys).cons y).trans (.swap x y ys)
theorem srt_perm : ∀ l : List Int, (srt l).Perm l
  | [] => .refl _
  | x :: xs => (insI_perm x _).trans ((srt_perm xs).cons x)
theorem insI_sorted (x : Int) : ∀ l : List Int, l.Pairwise (· ≤ ·) → (insI x l).Pairwise (· ≤ ·)
  | [], _ => by simp [insI]
  | y :: ys, h => by
    unfold insI
    have h1 := List.pairwise_cons.mp h
    split
    · rename_i hxy
      refine List.pairwise_cons.mpr ⟨fun z hz => ?_, h⟩
      rcases List.mem_cons.mp hz with rfl | hz
      · exact hxy
      · exact Int.le_trans hxy (h1.1 z hz)
    · rename_i hxy
      refine List.pairwise_cons.mpr ⟨fun z hz => ?_, insI_sorted x ys h1.2⟩
      rcases List.mem_cons.mp ((insI_perm x ys).mem_iff.mp hz) with rfl | hz
      · omega
      · exact h1.1 z hz
theorem srt_sorted : ∀ l : List Int, (srt l).Pairwise (· ≤ ·)
  | [] => .nil
  | x :: xs => insI_sorted x _ (srt_sorted xs)

section
variable {K : PySem.W.Frag} {W : XK} {r : Rho} {h h' : Hm} {H : Hp} {Q : VK} {res : Except String D} {v w : V} {x y : D} {vs : List V} {ds : List D}
theorem s_newdict (S : Sim K r h H) {ws : List (Key × V)} {kvs : List (Key × D)} (q : RepK K r h.next H ws kvs) (p : PG K W r h H (RepV K) Q (.ok (.ref h.next)) (h.new (.dic kvs))) : ∀ a, H a = none → Q (.ref a) (upd H a (.dK ws)) := by
  intro a ha
  have x1 := (Free.extN (K := K) (r := r) (n := h.next) (u := .dK ws) (.inl ha))
  have S1 : Sim K (rn r h.next a) (h.new (.dic kvs)) (upd H a (.dK ws)) := S.new ha rfl ⟨ws, upd_same, RepK.ext x1 q⟩
  have e : V.ref a = .ref (rn r h.next a h.next) := by rw [rn_at]
  exact p _ _ _ S1 x1 (by rw [e]; exact .ref (Nat.lt_succ_self _))
theorem seqOf_of (S : Sim K r h H) (rv : RepV K r h.next H v x) {xs : List D} (e : seqOf x h = some xs) : ∃ p vs, v = .ref p ∧ (SqL K H p vs ∨ SqT K H p vs) ∧ RepL K r h.next H vs xs := by
  cases rv with
  | tup hT q => cases e; exact ⟨_, _, rfl, .inr hT, q⟩
  | @ref a la =>
    simp only [seqOf] at e
    split at e
    · rename_i ys ha
      cases e
      obtain ⟨vs, h1, q⟩ := (S.obj a _ ha).2
      exact ⟨_, vs, rfl, .inl (.inl (.inl h1)), q⟩
    · rename_i ys ha
      cases e
      obtain ⟨vs, h1, q⟩ := (S.obj a _ ha).2
      exact ⟨_, vs, rfl, .inl h1.l, q⟩
    · cases e
  | _ => cases e
theorem lstOf_of (S : Sim K r h H) (rv : RepV K r h.next H v x) {xs : List D} (e : lstOf x h = some xs) : ∃ p vs, v = .ref p ∧ SqL K H p vs ∧ RepL K r h.next H vs xs := by
  cases rv with
  | @ref a la =>
    simp only [lstOf] at e
    split at e
    · rename_i ys ha
      cases e
      obtain ⟨vs, h1, q⟩ := (S.obj a _ ha).2
      exact ⟨_, vs, rfl, .inl (.inl h1), q⟩
    · rename_i ys ha
      cases e
      obtain ⟨vs, h1, q⟩ := (S.obj a _ ha).2
      exact ⟨_, vs, rfl, h1.l, q⟩
    · cases e
  | _ => cases e
theorem one_of {d : D} (q : RepL K r h.next H vs [d]) : ∃ v, vs = [v] ∧ RepV K r h.next H v d := by
  cases q with
  | cons a b => cases b; exact ⟨_, rfl, a⟩
theorem two_of {d e : D} (q : RepL K r h.next H vs [d, e]) : ∃ v w, vs = [v, w] ∧ RepV K r h.next H v d ∧ RepV K r h.next H w e := by
  cases q with
  | cons a b =>
    obtain ⟨w, rfl, c⟩ := one_of b
    exact ⟨_, w, rfl, a, c⟩
theorem s_bi {b : Bi} (S : Sim K r h H) (q : RepL K r h.next H vs ds) (e : biD b ds h = some (res, h')) (p : PG K W r h H (RepV K) Q res h') : rBi K b vs H Q := by
  cases b with
  | len =>
    simp only [biD] at e
    split at e
    · obtain ⟨v, rfl, a⟩ := one_of q
      cases a
      split at e
      · rename_i hl
        cases e
        exact .inl ⟨_, _, rfl, ⟨lim_le hl, rfl⟩, s_plain S (.int _) p⟩
      · cases e
    · obtain ⟨v, rfl, a⟩ := one_of q
      cases a with
      | tup hT q1 =>
        cases e
        refine .inl ⟨_, _, rfl, .inr ⟨_, hT, rfl⟩, ?_⟩
        rw [q1.len]
        exact s_plain S (.int _) p
    · rename_i a0
      obtain ⟨v, rfl, a⟩ := one_of q
      cases a with
      | ref la =>
        split at e
        · rename_i xs ha
          cases e
          obtain ⟨vs, h1, q⟩ := (S.obj a0 _ ha).2
          refine .inl ⟨_, _, rfl, .inl ⟨_, .inl (.inl h1), rfl⟩, ?_⟩
          rw [q.len]
          exact s_plain S (.int _) p
        · rename_i xs ha
          cases e
          obtain ⟨vs, h1, q⟩ := (S.obj a0 _ ha).2
          refine .inl ⟨_, _, rfl, .inl ⟨_, h1.l, rfl⟩, ?_⟩
          rw [q.len]
          exact s_plain S (.int _) p
        · rename_i kvs ha
          cases e
          obtain ⟨ws, h1, q⟩ := (S.obj a0 _ ha).2
          refine .inr ⟨_, ws, rfl, h1, ?_⟩
          have el : ws.length = kvs.length := by simpa using congrArg List.length q.1
          rw [el]
          exact s_plain S (.int _) p
        · cases e
    · cases e
  | int =>
    simp only [biD] at e
    split at e
    · obtain ⟨v, rfl, a⟩ := one_of q
      cases a
      cases e
      exact .inl (.inl ⟨_, rfl, s_plain S (.int _) p⟩)
    · obtain ⟨v, rfl, a⟩ := one_of q
      cases a
      cases e
      exact .inl (.inr ⟨_, rfl, s_plain S (.int _) p⟩)
    · obtain ⟨v, rfl, a⟩ := one_of q
      cases a
      split at e
      · rename_i hl
        split at e
        · rename_i n hn
          cases e
          exact .inr ⟨_, n, rfl, hn, hl, s_plain S (.int _) p⟩
        · cases e
      · cases e
    · cases e
  | str =>
    simp only [biD] at e
    split at e
    · obtain ⟨v, rfl, a⟩ := one_of q
      cases a
      split at e
      · rename_i i hl
        cases e
        refine ⟨i, rfl, ?_, s_plain S (.str _) p⟩
        exact Nat.lt_of_lt_of_le (PySem.Flt.log2_lt_of (show 0 < 250 by decide) (natAbs_big hl)) (by decide)
      · cases e
    · cases e
  | list =>
    simp only [biD] at e
    split at e
    · obtain ⟨v, rfl, a⟩ := one_of q
      split at e
      · rename_i xs hx
        cases e
        obtain ⟨pp, us, e1, e2, e3⟩ := seqOf_of S a hx
        subst e1
        exact .inl ⟨pp, us, rfl, e2, s_newlist S e3 p⟩
      · split at e
        · rename_i a0 _
          cases a with
          | ref la =>
            split at e
            · rename_i kvs ha
              cases e
              obtain ⟨ws, h1, q2⟩ := (S.obj a0 _ ha).2
              exact .inr ⟨_, ws, rfl, .inl h1, s_newlist S (repKeys q2) p⟩
            · cases e
        · cases e
    · cases e
  | tuple =>
    simp only [biD] at e
    split at e
    · obtain ⟨v, rfl, a⟩ := one_of q
      split at e
      · rename_i xs hx
        cases e
        obtain ⟨pp, us, e1, e2, e3⟩ := seqOf_of S a hx
        subst e1
        refine ⟨pp, us, rfl, ?_⟩
        rcases e2 with e2 | e2
        · exact .inl ⟨e2, s_newtup S e3 p⟩
        · exact .inr ⟨e2, s_plain S (.tup e2 e3) p⟩
      · cases e
    · cases e
  | dict =>
    simp only [biD] at e
    split at e
    · rename_i a0
      obtain ⟨v, rfl, a⟩ := one_of q
      cases a with
      | ref la =>
        split at e
        · rename_i kvs ha
          cases e
          obtain ⟨ws, h1, q⟩ := (S.obj a0 _ ha).2
          exact ⟨_, ws, rfl, .inl h1, s_newdict S q p⟩
        · cases e
    · cases e
  | min2 =>
    simp only [biD] at e
    split at e
    · obtain ⟨v, w, rfl, a, b⟩ := two_of q
      cases a
      cases b
      cases e
      exact ⟨_, _, rfl, s_plain S (.int _) p⟩
    · cases e
  | max2 =>
    simp only [biD] at e
    split at e
    · obtain ⟨v, w, rfl, a, b⟩ := two_of q
      cases a
      cases b
      cases e
      exact ⟨_, _, rfl, s_plain S (.int _) p⟩
    · cases e
  | sum =>
    simp only [biD] at e
    split at e
    · obtain ⟨v, rfl, a⟩ := one_of q
      split at e
      · rename_i xs hx
        split at e
        · rename_i ns hn
          cases e
          obtain ⟨pp, us, e1, e2, e3⟩ := lstOf_of S a hx
          subst e1
          rw [e3.ints hn] at e2
          exact ⟨pp, ns, rfl, e2, s_plain S (.int _) p⟩
        · cases e
      · cases e
    · cases e
  | any =>
    simp only [biD] at e
    split at e
    · obtain ⟨v, rfl, a⟩ := one_of q
      split at e
      · rename_i xs hx
        split at e
        · rename_i ns hn
          cases e
          obtain ⟨pp, us, e1, e2, e3⟩ := lstOf_of S a hx
          subst e1
          rw [e3.bls hn] at e2
          exact ⟨pp, ns, rfl, e2, s_plain S (.bl _) p⟩
        · cases e
      · cases e
    · cases e
  | sorted =>
    simp only [biD] at e
    split at e
    · obtain ⟨v, rfl, a⟩ := one_of q
      split at e
      · rename_i xs hx
        split at e
        · rename_i ns hn
          cases e
          obtain ⟨pp, us, e1, e2, e3⟩ := lstOf_of S a hx
          subst e1
          rw [e3.ints hn] at e2
          refine .inl ⟨pp, ns, rfl, e2, fun ns' l hp hs hl => ?_⟩
          have en : ns' = srt ns := PySem.W.ksm_same (hp.trans (srt_perm ns).symm) hs (srt_sorted ns)
          subst en
          exact s_newlist S (repInts _) p l hl
        · cases e
      · split at e
        · rename_i a0 n0
          cases a with
          | ref la =>
            split at e
            · rename_i kvs ha
              split at e
              · rename_i ns hn
                split at e
                · rename_i h64
                  cases e
                  obtain ⟨ws, h1, q1⟩ := (S.obj a0 _ ha).2
                  refine .inr ⟨_, ws, ns, rfl, .inl h1, ?_, h64, fun ns' l hp hs hl => ?_⟩
                  · rw [q1.1]
                    clear q1 h1 ha p h64 q
                    induction kvs generalizing ns with
                    | nil => cases hn; rfl
                    | cons kv kvs ih =>
                      obtain ⟨k, d⟩ := kv
                      cases k with
                      | inl i =>
                        simp only [List.map_cons, keyD, ints?] at hn
                        obtain ⟨ms, e1, rfl⟩ := Option.map_eq_some_iff.mp hn
                        rw [List.map_cons, List.map_cons, ih _ e1]
                      | inr s => cases hn
                  · have en : ns' = srt ns := PySem.W.ksm_same (hp.trans (srt_perm ns).symm) hs (srt_sorted ns)
                    subst en
                    exact s_newlist S (repInts _) p l hl
                · cases e
              · cases e
            · cases e
        · cases e
    · cases e
  | divmod =>
    simp only [biD] at e
    split at e
    · obtain ⟨v, w, rfl, a, b⟩ := two_of q
      cases a
      cases b
      split at e
      · rename_i i j hl
        cases e
        refine ⟨i, j, rfl, divp_ok hl.1 ?_, s_newtup S (.cons (.int _) (.cons (.int _) .nil)) p⟩
        have h1 : i.natAbs < 2 ^ 250 := natAbs_big hl.2
        have h2 := PySem.Flt.log2_lt_of (show 0 < 250 by decide) h1
        have h3 : Builtin.Int.intBits i ≤ i.natAbs.log2 + 1 := by
          unfold Builtin.Int.intBits
          split <;> omega
        omega
      · cases e
    · cases e
  | abs =>
    simp only [biD] at e
    split at e
    · obtain ⟨v, rfl, a⟩ := one_of q
      cases a
      cases e
      exact ⟨_, rfl, s_plain S (.int _) p⟩
    · cases e
end
end Z

set_option maxRecDepth 100000
set_option maxHeartbeats 1000000
/-! ZH: methods of built-in types. -/
namespace Z
open PySem L2

theorem pe_imp {X : Cx} {e : Expr} {t t' : TE} (h : PE X e t) (i : ∀ σ H Q, t' σ H Q → t σ H Q) : PE X e t' := ⟨fun pins s σ H Q I q => h.run pins s σ H Q I (i σ H Q q)⟩

def tyB (K : PySem.W.Frag) (b : Bm) (x : V) (H : Hp) : Prop := match b with
  | .append => tyV K "list" x H
  | .pop => tyV K "list" x H
  | .insert => tyV K "list" x H
  | .clear => tyV K "list" x H
  | .index => tyV K "list" x H
  | .get => ∃ a, x = .ref a ∧ IsD H a
  | .get2 => ∃ a, x = .ref a ∧ IsD H a
  | .dpop => ∃ a, x = .ref a ∧ IsD H a
  | _ => ∃ a, x = .str a
def rM (K : PySem.W.Frag) : Bm → V → List V → Hp → VK → Prop
  | .append => rAppend
  | .pop => rPop
  | .insert => fun x vs H Q => ∃ (l : Addr) (xs : List V) (i : Int) (y : V), x = .ref l ∧ vs = [.int i, y] ∧ H l = some (.lst xs) ∧ xs.length < sizeLine ∧ 0 ≤ i ∧ i < 2 ^ 63 ∧
    Q .non (upd H l (.lst (xs.take i.toNat ++ [y] ++ xs.drop i.toNat)))
  | .clear => rClear
  | .index => rIndex K
  | .get => fun x xs H Q => ∃ a k o, x = .ref a ∧ xs = [k] ∧ DGet H a k o ∧ Q (o.getD .non) H
  | .get2 => fun x xs H Q => ∃ a k z o, x = .ref a ∧ xs = [k, z] ∧ DGet H a k o ∧ Q (o.getD z) H
  | .dpop => fun x xs H Q => ∃ a kvs k v, x = .ref a ∧ xs = [kV k] ∧ H a = some (.dK kvs) ∧ valV kvs k = some v ∧ Q v (upd H a (.dK (dropK kvs k)))
  | .join => fun x xs H Q => ∃ a p, ∃ ys : List Str, x = .str a ∧ xs = [.ref p] ∧ (SqL K H p (ys.map V.str) ∨ SqT K H p (ys.map V.str)) ∧
      (ys.map (·.length)).sum + ys.length * a.length ≤ 16777216 ∧ Q (.str (Txt.join a ys)) H
  | .split => fun x xs H Q => ∃ a b, x = .str a ∧ xs = [.str b] ∧ (b.length == 0) = false ∧ a.length + 2 ≤ sizeLine ∧ rNewStrs (Txt.split a b) H Q
  | .partition => fun x xs H Q => ∃ a b, x = .str a ∧ xs = [.str b] ∧ (b.length == 0) = false ∧ a.length ≤ sizeLine ∧
      ∀ p, H p = none → Q (.ref p) (upd H p (.tup [.str (Txt.partition a b).1, .str (Txt.partition a b).2.1, .str (Txt.partition a b).2.2]))
  | .find => fun x xs H Q => ∃ a b, x = .str a ∧ xs = [.str b] ∧ Q (.int (Txt.find a b)) H
  | .isdigit => fun x xs H Q => ∃ a, x = .str a ∧ xs = [] ∧ True ∧ Q (.bl (Txt.isdigit a)) H
def tBmZ (K : PySem.W.Frag) (b : Bm) (to : TE) (t : TA) : TE := fun σ H Q => to σ H fun x H1 => tyB K b x H1 ∧ t σ H1 fun xs H2 => rM K b x xs H2 Q
section
variable {X : Cx} {o e f : Expr} {es : List Expr} {to te tf : TE} {t : TA} {apos cpos : Pos}
theorem zm_append (ho : PE X o to) (ha : PA X (e :: es) t)
    (hbase : attributeBase o "append" X.env (eval o X.env) = eval o X.env := by rfl)
    (hfew : ((backTo cpos (starEach (e :: es) X.env)).all (fun x => !x.1) && (backToKw cpos (keywordEach [] X.env)).all (fun x => x.1.isSome) && decide ((e :: es).length + ([] : List Keyword).length + (if ([] : List Keyword).isEmpty then 0 else 1) < 30)) = true := by rfl)
    (hline : (apos.endLine == cpos.line) = true := by rfl) (hs : starEach (e :: es) X.env = (false, eval e X.env) :: starEach es X.env := by rfl) (hplain : (backTo cpos (starEach es X.env)).any (·.1) = false := by rfl) :
    PE X (.Call (.Attribute o "append" apos) (e :: es) [] cpos) (tBmZ X.K .append to t) :=
  pe_bm PySem.F.plainAttrs_list PySem.F.slot_list_append PySem.F.type_list_append mt_append ho ha hbase hfew hline hs hplain
theorem zm_insert (ho : PE X o to) (ha : PA X (e :: es) t)
    (hbase : attributeBase o "insert" X.env (eval o X.env) = eval o X.env := by rfl)
    (hfew : ((backTo cpos (starEach (e :: es) X.env)).all (fun x => !x.1) && (backToKw cpos (keywordEach [] X.env)).all (fun x => x.1.isSome) && decide ((e :: es).length + ([] : List Keyword).length + (if ([] : List Keyword).isEmpty then 0 else 1) < 30)) = true := by rfl)
    (hline : (apos.endLine == cpos.line) = true := by rfl) (hs : starEach (e :: es) X.env = (false, eval e X.env) :: starEach es X.env := by rfl) (hplain : (backTo cpos (starEach es X.env)).any (·.1) = false := by rfl) :
    PE X (.Call (.Attribute o "insert" apos) (e :: es) [] cpos) (tBmZ X.K .insert to t) :=
  pe_bm PySem.F.plainAttrs_list PySem.F.slot_list_insert PySem.F.type_list_insert mt_insert ho ha hbase hfew hline hs hplain
theorem zm_index (ho : PE X o to) (ha : PA X (e :: es) t)
    (hbase : attributeBase o "index" X.env (eval o X.env) = eval o X.env := by rfl)
    (hfew : ((backTo cpos (starEach (e :: es) X.env)).all (fun x => !x.1) && (backToKw cpos (keywordEach [] X.env)).all (fun x => x.1.isSome) && decide ((e :: es).length + ([] : List Keyword).length + (if ([] : List Keyword).isEmpty then 0 else 1) < 30)) = true := by rfl)
    (hline : (apos.endLine == cpos.line) = true := by rfl) (hs : starEach (e :: es) X.env = (false, eval e X.env) :: starEach es X.env := by rfl) (hplain : (backTo cpos (starEach es X.env)).any (·.1) = false := by rfl) :
    PE X (.Call (.Attribute o "index" apos) (e :: es) [] cpos) (tBmZ X.K .index to t) :=
  pe_bm PySem.F.plainAttrs_list PySem.F.slot_list_index PySem.F.type_list_index mt_index ho ha hbase hfew hline hs hplain
theorem zm_pop (ho : PE X o to) (hbase : attributeBase o "pop" X.env (eval o X.env) = eval o X.env := by rfl) (hline : (apos.endLine == cpos.line) = true := by rfl) :
    PE X (.Call (.Attribute o "pop" apos) [] [] cpos) (tBmZ X.K .pop to tNil) :=
  pe_bm0 PySem.F.plainAttrs_list PySem.F.slot_list_pop PySem.F.type_list_pop mt_pop ho hbase hline
theorem zm_clear (ho : PE X o to) (hbase : attributeBase o "clear" X.env (eval o X.env) = eval o X.env := by rfl) (hline : (apos.endLine == cpos.line) = true := by rfl) :
    PE X (.Call (.Attribute o "clear" apos) [] [] cpos) (tBmZ X.K .clear to tNil) :=
  pe_bm0 PySem.F.plainAttrs_list PySem.F.slot_list_clear PySem.F.type_list_clear mt_clear ho hbase hline
theorem zm_join (ho : PE X o to) (he : PE X e te) (hs : starEach [e] X.env = [(false, eval e X.env)] := by rfl) (hbase : attributeBase o "join" X.env (eval o X.env) = eval o X.env := by rfl) (hline : (apos.endLine == cpos.line) = true := by rfl) :
    PE X (.Call (.Attribute o "join" apos) [e] [] cpos) (tBmZ X.K .join to (tCons te tNil)) := pe_join ho he hs hbase hline
theorem zm_split (ho : PE X o to) (he : PE X e te) (hs : starEach [e] X.env = [(false, eval e X.env)] := by rfl) (hbase : attributeBase o "split" X.env (eval o X.env) = eval o X.env := by rfl) (hline : (apos.endLine == cpos.line) = true := by rfl) :
    PE X (.Call (.Attribute o "split" apos) [e] [] cpos) (tBmZ X.K .split to (tCons te tNil)) := pe_split ho he hs hbase hline
theorem zm_partition (ho : PE X o to) (he : PE X e te) (hs : starEach [e] X.env = [(false, eval e X.env)] := by rfl) (hbase : attributeBase o "partition" X.env (eval o X.env) = eval o X.env := by rfl) (hline : (apos.endLine == cpos.line) = true := by rfl) :
    PE X (.Call (.Attribute o "partition" apos) [e] [] cpos) (tBmZ X.K .partition to (tCons te tNil)) := pe_partition ho he hs hbase hline
theorem zm_find (ho : PE X o to) (he : PE X e te) (hs : starEach [e] X.env = [(false, eval e X.env)] := by rfl) (hbase : attributeBase o "find" X.env (eval o X.env) = eval o X.env := by rfl) (hline : (apos.endLine == cpos.line) = true := by rfl) :
    PE X (.Call (.Attribute o "find" apos) [e] [] cpos) (tBmZ X.K .find to (tCons te tNil)) := pe_m1 F.slot_str_find F.type_str_find mt_find ho he hs hbase hline
theorem zm_isdigit (ho : PE X o to) (hbase : attributeBase o "isdigit" X.env (eval o X.env) = eval o X.env := by rfl) (hline : (apos.endLine == cpos.line) = true := by rfl) :
    PE X (.Call (.Attribute o "isdigit" apos) [] [] cpos) (tBmZ X.K .isdigit to tNil) := pe_m0 F.slot_str_isdigit F.type_str_isdigit mt_isdigit ho hbase hline
/-- the reading made monotone -/
def up (t : TE) : TE := fun σ H Q => ∃ R : VK, t σ H R ∧ ∀ x H', R x H' → Q x H'
theorem pe_up {X : Cx} {e : Expr} {t : TE} (h : PE X e t) : PE X e (up t) := by
  refine ⟨fun pins s σ H Q I q => ?_⟩
  obtain ⟨R, q, m⟩ := q
  exact thn (h.run pins s σ H R I q) fun u s1 ⟨x, H1, I1, r1, q1⟩ => ⟨x, H1, I1, r1, m x H1 q1⟩
theorem zm_get (hu : X.A.units + 64 < cLine) (ho : PE X o to) (he : PE X e te) (m : M1 X o "get" apos e cpos := by exact ⟨rfl, rfl, rfl, rfl⟩) : PE X (.Call (.Attribute o "get" apos) [e] [] cpos) (tBmZ X.K .get to (tCons te tNil)) := by
  refine pe_imp (pe_dget1 (by omega) (pe_up ho) (pe_up he) m) fun σ H Q h => ?_
  refine ⟨_, h, fun x H1 q => ?_⟩
  obtain ⟨⟨a, ex, d⟩, q⟩ := q
  refine ⟨a, ex, d, _, q, fun y H2 w => ?_⟩
  obtain ⟨a', k, o, e1, e2, g, w⟩ := w
  subst ex
  cases e1
  cases e2
  exact ⟨o, g, w⟩
theorem zm_get2 (hu : X.A.units + 64 < cLine) (ho : PE X o to) (he : PE X e te) (hf : PE X f tf) (m : M2 X o "get" apos e f cpos := by exact ⟨rfl, rfl, rfl, rfl⟩) : PE X (.Call (.Attribute o "get" apos) [e, f] [] cpos) (tBmZ X.K .get2 to (tCons te (tCons tf tNil))) := by
  refine pe_imp (pe_dget2 (by omega) (pe_up ho) (pe_up he) (pe_up hf) m) fun σ H Q h => ?_
  refine ⟨_, h, fun x H1 q => ?_⟩
  obtain ⟨⟨a, ex, d⟩, q⟩ := q
  refine ⟨a, ex, d, _, q, fun y H2 w => ?_⟩
  refine ⟨_, w, fun z H3 w => ?_⟩
  obtain ⟨a', k, z', o, e1, e2, g, w⟩ := w
  subst ex
  cases e1
  cases e2
  exact ⟨o, g, w⟩
theorem zm_dpop (ho : PE X o to) (he : PE X e te) (m : M1 X o "pop" apos e cpos := by exact ⟨rfl, rfl, rfl, rfl⟩) : PE X (.Call (.Attribute o "pop" apos) [e] [] cpos) (tBmZ X.K .dpop to (tCons te tNil)) := by
  refine pe_imp (pe_dpop1 (pe_up ho) (pe_up he) m) fun σ H Q h => ?_
  refine ⟨_, h, fun x H1 q => ?_⟩
  obtain ⟨⟨a, ex, d⟩, q⟩ := q
  refine ⟨a, ex, d, _, q, fun y H2 w => ?_⟩
  obtain ⟨a', kvs, k, v, e1, e2, g, hv, w⟩ := w
  subst ex
  cases e1
  cases e2
  exact ⟨kvs, k, v, g, rfl, hv, w⟩
end

section
variable {κ : Type} [DecidableEq κ] {K : PySem.W.Frag} {r : Rho} {n : Nat} {H : Hp}
theorem repK_drop (k : κ) : ∀ {kvs : List (κ × D)} {ws : List (κ × V)}, RepK K r n H ws kvs → RepK K r n H (dropK ws k) (kdrop kvs k)
  | [], [], _ => ⟨rfl, .nil⟩
  | [], w :: ws, q => nomatch q.1
  | p :: kvs, [], q => nomatch q.1
  | p :: kvs, w :: ws, q => by
    obtain ⟨q1, q2⟩ := q
    simp only [List.map_cons, List.cons.injEq] at q1
    simp only [List.map_cons] at q2
    cases q2 with
    | cons a b =>
      have ih := repK_drop k (kvs := kvs) (ws := ws) ⟨q1.2, b⟩
      unfold dropK kdrop at ih ⊢
      by_cases hk : p.1 = k
      · have hw : w.1 = k := q1.1.trans hk
        rw [List.filter_cons_of_neg (by simp [hk, hw]), List.filter_cons_of_neg (by simp [hk, hw])]
        exact ih
      · have hw : ¬ w.1 = k := fun z => hk (q1.1.symm.trans z)
        rw [List.filter_cons_of_pos (by simp [hk, hw]), List.filter_cons_of_pos (by simp [hk, hw])]
        refine ⟨?_, ?_⟩
        · simp only [List.map_cons, q1.1, ih.1]
        · simp only [List.map_cons]
          exact .cons a ih.2
theorem any_key (k : κ) : ∀ {kvs : List (κ × D)} {ws : List (κ × V)}, ws.map (·.1) = kvs.map (·.1) → (ws.any fun kv => decide (kv.1 = k)) = kvs.any fun kv => decide (kv.1 = k)
  | [], [], _ => rfl
  | [], w :: ws, q => nomatch q
  | p :: kvs, [], q => nomatch q
  | p :: kvs, w :: ws, q => by
    simp only [List.map_cons, List.cons.injEq] at q
    rw [List.any_cons, List.any_cons, any_key k q.2, q.1]
theorem repK_map {v : V} {d : D} (k : κ) (a : RepV K r n H v d) : ∀ {kvs : List (κ × D)} {ws : List (κ × V)}, RepK K r n H ws kvs →
    RepK K r n H (ws.map (fun kv => if kv.1 = k then (kv.1, v) else kv)) (kvs.map (fun kv => if kv.1 = k then (kv.1, d) else kv))
  | [], [], _ => ⟨rfl, .nil⟩
  | [], w :: ws, q => nomatch q.1
  | p :: kvs, [], q => nomatch q.1
  | p :: kvs, w :: ws, q => by
    obtain ⟨q1, q2⟩ := q
    simp only [List.map_cons, List.cons.injEq] at q1
    simp only [List.map_cons] at q2
    cases q2 with
    | cons b c =>
      have ih := repK_map k a (kvs := kvs) (ws := ws) ⟨q1.2, c⟩
      by_cases hk : p.1 = k
      · have hw : w.1 = k := q1.1.trans hk
        refine ⟨?_, ?_⟩
        · simp only [List.map_cons, if_pos hk, if_pos hw, q1.1]
          exact congrArg _ ih.1
        · simp only [List.map_cons, if_pos hk, if_pos hw]
          exact .cons a ih.2
      · have hw : ¬ w.1 = k := fun z => hk (q1.1.symm.trans z)
        refine ⟨?_, ?_⟩
        · simp only [List.map_cons, if_neg hk, if_neg hw, q1.1]
          exact congrArg _ ih.1
        · simp only [List.map_cons, if_neg hk, if_neg hw]
          exact .cons b ih.2
theorem repK_put {v : V} {d : D} (k : κ) (a : RepV K r n H v d) {kvs : List (κ × D)} {ws : List (κ × V)} (q : RepK K r n H ws kvs) : RepK K r n H (putK ws k v) (kput kvs k d) := by
  unfold putK kput
  rw [any_key k q.1]
  split
  · exact repK_map k a q
  · refine ⟨?_, ?_⟩
    · rw [List.map_append, List.map_append, q.1]
      rfl
    · rw [List.map_append, List.map_append]
      exact q.2.append1 a
end

section
variable {K : PySem.W.Frag} {W : XK} {r : Rho} {h h' : Hm} {H : Hp} {Q : VK} {res : Except String D} {v w : V} {x y : D} {vs : List V} {ds : List D}
theorem s_rcv {b : Bm} (S : Sim K r h H) (rv : RepV K r h.next H v x) (e : rcv b x h = true) : tyB K b v H := by
  have lst : (lstOf x h).isSome = true → tyV K "list" v H := fun e => by
    obtain ⟨xs, e1⟩ := Option.isSome_iff_exists.mp e
    obtain ⟨p, us, ev, e2, _⟩ := lstOf_of S rv e1
    subst ev
    exact .inl ⟨rfl, us, e2⟩
  have dic : rcv.isDic x h = true → ∃ a, v = .ref a ∧ IsD H a := fun e => by
    unfold rcv.isDic at e
    cases rv with
    | @ref a la =>
      simp only at e
      split at e
      · rename_i kvs ha
        obtain ⟨ws, h1, _⟩ := (S.obj a _ ha).2
        exact ⟨_, rfl, .inl ⟨ws, .inl h1⟩⟩
      · rename_i kvs ha
        obtain ⟨ob, ws, h1, _⟩ := (S.obj a _ ha).2
        exact ⟨_, rfl, .inl ⟨ws, .inr ⟨ob, h1⟩⟩⟩
      · cases e
    | _ => cases e
  cases b with
  | append => exact lst e
  | pop => exact lst e
  | insert => exact lst e
  | clear => exact lst e
  | index => exact lst e
  | get => exact dic e
  | get2 => exact dic e
  | dpop => exact dic e
  | _ => cases rv <;> first | exact ⟨_, rfl⟩ | cases e
/-- an object that stands is written -/
theorem s_put {a : Nat} {o0 o : O} {u : HO} {d : D} {z : V} (S : Sim K r h H) (ha : h.get a = some o0) (m0 : mutO o0 = true) (q : RepV K r h.next H z d) (p : PG K W r h H (RepV K) Q (.ok d) (h.put a o)) (m : mutO o = true)
    (w : ∀ H', Ext K r h.next H r h.next H' → H' (r a) = some u → RepO K r h.next H' (r a) o) : Q z (upd H (r a) u) := by
  have x := (S.free ha m0).ext (K := K) (r := r) (n := h.next) (u := u)
  have S1 : Sim K r (h.put a o) (upd H (r a) u) := S.put ha m0 (own_of m) (w _ x upd_same)
  exact p z r _ S1 x (q.ext x)
theorem s_bm {b : Bm} (S : Sim K r h H) (rv : RepV K r h.next H v x) (q : RepL K r h.next H vs ds) (e : bmD b x ds h = some (res, h')) (p : PG K W r h H (RepV K) Q res h') : rM K b v vs H Q := by
  cases b with
  | append =>
    simp only [bmD] at e
    split at e
    · rename_i a d
      obtain ⟨w, rfl, q1⟩ := one_of q
      split at e
      · rename_i xs ha
        split at e
        · rename_i hl
          cases e
          obtain ⟨us, h1, q2⟩ := (S.obj a _ ha).2
          cases rv
          refine ⟨_, us, w, rfl, rfl, h1, by rw [q2.len]; exact lim_lt hl, ?_⟩
          exact s_put S ha rfl .non p rfl fun H' x h2 => ⟨_, h2, (q2.ext x).append1 (q1.ext x)⟩
        · cases e
      · cases e
    · cases e
  | pop =>
    simp only [bmD] at e
    split at e
    · rename_i a
      split at e
      · rename_i xs ha
        split at e
        · rename_i y hy
          cases e
          obtain ⟨us, h1, q2⟩ := (S.obj a _ ha).2
          cases q
          cases rv
          have hy2 : xs[xs.length - 1]? = some y := by rw [← List.getLast?_eq_getElem?]; exact hy
          obtain ⟨u, e1, q3⟩ := q2.get hy2
          rw [← q2.len] at e1
          refine ⟨_, us, u, rfl, rfl, h1, e1, ?_⟩
          refine s_put S ha rfl q3 p rfl fun H' x h2 => ⟨_, h2, ?_⟩
          rw [List.dropLast_eq_take, List.dropLast_eq_take, q2.len]
          exact (q2.ext x).take _
        · cases e
      · cases e
    · cases e
  | get =>
    simp only [bmD] at e
    split at e
    · rename_i a k
      obtain ⟨w, rfl, q1⟩ := one_of q
      cases rv
      split at e
      · rename_i d hd
        cases e
        obtain ⟨u, g, g1, g2⟩ := dget_of S q1 hd
        obtain ⟨z, ez, qz⟩ := g1 _ rfl
        subst ez
        exact ⟨_, w, _, rfl, rfl, g, s_plain S qz p⟩
      · rename_i hd
        cases e
        obtain ⟨u, g, g1, g2⟩ := dget_of S q1 hd
        rw [g2 rfl] at g
        exact ⟨_, w, _, rfl, rfl, g, s_plain S .non p⟩
      · cases e
    · cases e
  | get2 =>
    simp only [bmD] at e
    split at e
    · rename_i a k y
      obtain ⟨w, z0, rfl, q1, q2⟩ := two_of q
      cases rv
      split at e
      · rename_i d hd
        cases e
        obtain ⟨u, g, g1, g2⟩ := dget_of S q1 hd
        obtain ⟨z, ez, qz⟩ := g1 _ rfl
        subst ez
        exact ⟨_, w, z0, _, rfl, rfl, g, s_plain S qz p⟩
      · rename_i hd
        cases e
        obtain ⟨u, g, g1, g2⟩ := dget_of S q1 hd
        rw [g2 rfl] at g
        exact ⟨_, w, z0, _, rfl, rfl, g, s_plain S q2 p⟩
      · cases e
    · cases e
  | dpop =>
    simp only [bmD] at e
    split at e
    · rename_i a k
      obtain ⟨w, rfl, q1⟩ := one_of q
      split at e
      · rename_i kvs ha
        split at e
        · rename_i kq hk
          split at e
          · rename_i d hd
            cases e
            obtain ⟨ws, h1, q2⟩ := (S.obj a _ ha).2
            cases rv
            obtain ⟨z, e1, q3⟩ := (repK_get kq q2).1 _ hd
            rw [key_of q1 hk]
            refine ⟨_, ws, kq, z, rfl, rfl, h1, e1, ?_⟩
            exact s_put S ha rfl q3 p rfl fun H' x h2 => ⟨_, h2, RepK.ext x (repK_drop kq q2)⟩
          · cases e
        · cases e
      · cases e
    · cases e
  | join =>
    simp only [bmD] at e
    split at e
    · rename_i z y
      obtain ⟨w, rfl, q1⟩ := one_of q
      cases rv
      split at e
      · rename_i xs hx
        split at e
        · rename_i ys hy
          split at e
          · rename_i hl
            cases e
            obtain ⟨pp, us, e1, e2, e3⟩ := seqOf_of S q1 hx
            subst e1
            rw [e3.strs hy] at e2
            exact ⟨z, pp, ys, rfl, rfl, e2, hl, s_plain S (.str _) p⟩
          · cases e
        · cases e
      · cases e
    · cases e
  | split =>
    simp only [bmD] at e
    split at e
    · rename_i z y
      obtain ⟨w, rfl, q1⟩ := one_of q
      cases rv
      cases q1
      split at e
      · rename_i hl
        cases e
        refine ⟨z, y, rfl, rfl, hl.1, ?_, s_newlist S (repStrs _) p⟩
        have := hl.2
        unfold lim at this
        rw [sizeLine_eq]
        omega
      · cases e
    · cases e
  | partition =>
    simp only [bmD] at e
    split at e
    · rename_i z y
      obtain ⟨w, rfl, q1⟩ := one_of q
      cases rv
      cases q1
      split at e
      · rename_i hl
        cases e
        exact ⟨z, y, rfl, rfl, hl.1, lim_le hl.2, s_newtup S (.cons (.str _) (.cons (.str _) (.cons (.str _) .nil))) p⟩
      · cases e
    · cases e
  | index =>
    simp only [bmD] at e
    split at e
    · rename_i y
      obtain ⟨w, rfl, q1⟩ := one_of q
      split at e
      · rename_i xs hx
        split at e
        · rename_i hf
          split at e
          · rename_i j hj
            cases e
            obtain ⟨pp, us, e1, e2, e3⟩ := lstOf_of S rv hx
            subst e1
            have key : ∀ (xs : List D) (us : List V) (j : Nat), RepL K r h.next H us xs → xs.all flatD = true → whereL y xs = some j →
                ∃ z, us[j]? = some z ∧ eqV z w = true ∧ ∀ (m : Nat) (z' : V), m < j → us[m]? = some z' → eqV z' w = false := by
              intro xs
              induction xs with
              | nil => intro us j _ _ e; cases e
              | cons x xs ih =>
                intro us j q f e
                cases q with
                | cons a b =>
                  rw [List.all_cons, Bool.and_eq_true_iff] at f
                  unfold whereL at e
                  by_cases hx : eqF x y = true
                  · rw [if_pos hx] at e
                    cases e
                    exact ⟨_, rfl, by rw [eqF_of a q1 f.1 hf.1]; exact hx, fun m _ hm => absurd hm (Nat.not_lt_zero _)⟩
                  · rw [if_neg hx] at e
                    obtain ⟨i, e1, e2⟩ := Option.map_eq_some_iff.mp e
                    subst e2
                    obtain ⟨z, k1, k2, k3⟩ := ih _ i b f.2 e1
                    refine ⟨z, k1, k2, fun m z' hm hz => ?_⟩
                    cases m with
                    | zero =>
                      cases hz
                      rw [eqF_of a q1 f.1 hf.1]
                      exact Bool.eq_false_iff.mpr hx
                    | succ m => exact k3 m z' (by omega) hz
            obtain ⟨z, k1, k2, k3⟩ := key xs us j e3 hf.2 hj
            exact ⟨pp, us, w, j, z, rfl, rfl, e2, flat_of q1 hf.1, flatL_of e3 hf.2, k1, k2, k3, s_plain S (.int _) p⟩
          · cases e
        · cases e
      · cases e
    · cases e
  | insert =>
    simp only [bmD] at e
    split at e
    · rename_i a i d
      obtain ⟨w0, w, rfl, q0, q1⟩ := two_of q
      split at e
      · rename_i xs ha
        split at e
        · rename_i hl
          cases e
          obtain ⟨us, h1, q2⟩ := (S.obj a _ ha).2
          cases rv
          cases q0
          refine ⟨_, us, i, w, rfl, rfl, h1, by rw [q2.len]; exact lim_lt hl.1, hl.2.1, by omega, ?_⟩
          exact s_put S ha rfl .non p rfl fun H' x h2 => ⟨_, h2, (((q2.ext x).take _).append1 (q1.ext x)).app ((q2.ext x).drop _)⟩
        · cases e
      · cases e
    · cases e
  | clear =>
    simp only [bmD] at e
    split at e
    · rename_i a
      split at e
      · rename_i xs ha
        cases e
        obtain ⟨us, h1, q2⟩ := (S.obj a _ ha).2
        cases rv
        cases q
        exact ⟨_, us, rfl, rfl, h1, s_put S ha rfl .non p rfl fun H' x h2 => ⟨_, h2, .nil⟩⟩
      · cases e
    · cases e
  | find =>
    simp only [bmD] at e
    split at e
    · obtain ⟨w, rfl, q1⟩ := one_of q
      cases rv
      cases q1
      cases e
      exact ⟨_, _, rfl, rfl, s_plain S (.int _) p⟩
    · cases e
  | isdigit =>
    simp only [bmD] at e
    split at e
    · cases q
      cases rv
      cases e
      exact ⟨_, rfl, rfl, trivial, s_plain S (.bl _) p⟩
    · cases e
end
end Z

set_option maxRecDepth 100000
set_option maxHeartbeats 1000000
/-! ZI: what is walked, targets, attributes by names, types. -/
namespace Z
open PySem L2

/-! ### names -/
theorem ofString_inj {a b : String} (h : Str.ofString a = Str.ofString b) : a = b := by
  rw [Str.ofString_eq_toList, Str.ofString_eq_toList] at h
  have h1 : a.toList.map Char.toNat = b.toList.map Char.toNat := by
    have := congrArg (fun s : Str => s.cps.toList) h
    simpa using this
  have h2 : a.toList = b.toList := (List.map_inj_right (f := Char.toNat) fun x y e => Char.toNat_inj.mp e).mp h1
  rw [← String.ofList_toList (s := a), h2, String.ofList_toList]
theorem strEq (a b : String) : (Str.ofString a = Str.ofString b) = (a = b) := propext ⟨ofString_inj, fun e => e ▸ rfl⟩

section
variable {K : PySem.W.Frag} {r : Rho} {n : Nat} {H : Hp}
theorem repF_get {f : String} {d : D} : ∀ {fs : List (String × D)} {ws : List (Str × V)}, RepF K r n H ws fs → fs.lookup f = some d → ∃ v, ws.lookup (Str.ofString f) = some v ∧ RepV K r n H v d
  | [], [], _, e => by cases e
  | [], w :: ws, q, _ => nomatch q.1
  | p :: fs, [], q, _ => nomatch q.1
  | (g, d0) :: fs, (gw, v0) :: ws, q, e => by
    obtain ⟨q1, q2⟩ := q
    simp only [List.map_cons, List.cons.injEq] at q1
    simp only [List.map_cons] at q2
    cases q2 with
    | cons a b =>
      rw [q1.1]
      by_cases hg : f = g
      · subst hg
        simp only [List.lookup_cons, beq_self_eq_true] at e ⊢
        cases e
        exact ⟨_, rfl, a⟩
      · have h1 : (f == g) = false := beq_eq_false_iff_ne.mpr hg
        have h2 : (Str.ofString f == Str.ofString g) = false := beq_eq_false_iff_ne.mpr fun z => hg (ofString_inj z)
        simp only [List.lookup_cons, h1, h2] at e ⊢
        exact repF_get ⟨q1.2, b⟩ e
theorem repF_none {f : String} : ∀ {fs : List (String × D)} {ws : List (Str × V)}, RepF K r n H ws fs → fs.lookup f = none → ws.lookup (Str.ofString f) = none
  | [], [], _, e => rfl
  | [], w :: ws, q, _ => nomatch q.1
  | p :: fs, [], q, _ => nomatch q.1
  | (g, d0) :: fs, (gw, v0) :: ws, q, e => by
    obtain ⟨q1, q2⟩ := q
    simp only [List.map_cons, List.cons.injEq] at q1
    simp only [List.map_cons] at q2
    cases q2 with
    | cons a b =>
      rw [q1.1]
      by_cases hg : f = g
      · subst hg
        simp only [List.lookup_cons, beq_self_eq_true] at e
        cases e
      · have h1 : (f == g) = false := beq_eq_false_iff_ne.mpr hg
        have h2 : (Str.ofString f == Str.ofString g) = false := beq_eq_false_iff_ne.mpr fun z => hg (ofString_inj z)
        simp only [List.lookup_cons, h1, h2] at e ⊢
        exact repF_none ⟨q1.2, b⟩ e
theorem repF_put {f : String} {d : D} {v : V} (a : RepV K r n H v d) : ∀ {fs : List (String × D)} {ws : List (Str × V)}, RepF K r n H ws fs → RepF K r n H (putF (Str.ofString f) v ws) (setF fs f d)
  | [], [], _ => ⟨rfl, .cons a .nil⟩
  | [], w :: ws, q => nomatch q.1
  | p :: fs, [], q => nomatch q.1
  | (g, d0) :: fs, (gw, v0) :: ws, q => by
    obtain ⟨q1, q2⟩ := q
    simp only [List.map_cons, List.cons.injEq] at q1
    simp only [List.map_cons] at q2
    cases q2 with
    | cons b c =>
      obtain ⟨rfl, q1⟩ := q1
      unfold putF setF
      by_cases hg : g = f
      · subst hg
        rw [if_pos rfl, if_pos rfl]
        exact ⟨by simp only [List.map_cons, q1], .cons a c⟩
      · rw [if_neg hg, if_neg fun z => hg (ofString_inj z)]
        have ih := repF_put (f := f) a (fs := fs) (ws := ws) ⟨q1, c⟩
        exact ⟨by simp only [List.map_cons, ih.1], .cons b ih.2⟩
theorem repF_len {fs : List (String × D)} {ws : List (Str × V)} (q : RepF K r n H ws fs) : ws.length = fs.length := by simpa using congrArg List.length q.1
end

/-! ### targets -/
def gsR : List Nat → TGs
  | [] => gNil
  | i :: is => gCons (gName i) (gsR is)
def rdG (K : PySem.W.Frag) : Tg → TG
  | .name i => gName i
  | .tup is => gTup K is.length (gsR is)
def Tg.is (g : Tg) : List Nat := match g with
  | .name i => [i]
  | .tup is => is
/-- the names of is are all that differs -/
def Apart (is : List Nat) (σ σ' : L2.St) : Prop := ∀ vs, (∀ i ∈ is, i ∈ vs) → wipe σ' vs = wipe σ vs
theorem wipe_comm_set (σ : L2.St) (x : Option V) (j : Nat) : ∀ vs : List Nat, j ∉ vs → wipe (σ.set j x) vs = (wipe σ vs).set j x
  | [], _ => rfl
  | v :: vs, h => by
    show (wipe (σ.set j x) vs).set v none = ((wipe σ vs).set v none).set j x
    rw [wipe_comm_set σ x j vs fun z => h (List.mem_cons_of_mem _ z), List.set_comm _ _ fun e => h (by rw [e]; exact List.mem_cons_self)]
theorem wipe_set {σ : L2.St} {j : Nat} {x : Option V} : ∀ {vs : List Nat}, j ∈ vs → wipe (σ.set j x) vs = wipe σ vs
  | v :: vs, h => by
    show (wipe (σ.set j x) vs).set v none = (wipe σ vs).set v none
    by_cases hj : j ∈ vs
    · rw [wipe_set hj]
    · have : j = v := by
        rcases List.mem_cons.mp h with e | e
        · exact e
        · exact absurd e hj
      subst this
      rw [wipe_comm_set σ x j vs hj, List.set_set]
theorem wipe_none {σ : L2.St} {j : Nat} : ∀ {vs : List Nat}, j ∈ vs → (wipe σ vs).set j none = wipe σ vs
  | v :: vs, h => by
    show ((wipe σ vs).set v none).set j none = (wipe σ vs).set v none
    by_cases hj : j = v
    · subst hj; rw [List.set_set]
    · rcases List.mem_cons.mp h with e | e
      · exact absurd e hj
      · rw [List.set_comm _ _ (Ne.symm hj), wipe_none e]
theorem wipe_sub {σ : L2.St} : ∀ {us vs : List Nat}, (∀ i ∈ us, i ∈ vs) → wipe (wipe σ vs) us = wipe σ vs
  | [], _, _ => rfl
  | u :: us, vs, h => by
    show (wipe (wipe σ vs) us).set u none = wipe σ vs
    rw [wipe_sub fun i hi => h i (List.mem_cons_of_mem _ hi), wipe_none (h u List.mem_cons_self)]
theorem wipe_wipe {σ : L2.St} {vs : List Nat} : wipe (wipe σ vs) vs = wipe σ vs := wipe_sub fun _ h => h

section
variable {K : PySem.W.Frag} {r : Rho} {n : Nat} {H : Hp} {σ : L2.St} {env env1 : Env}
theorem s_gs : ∀ {is : List Nat} {vs : List V} {ds : List D} {σ : L2.St} {env : Env} {Q : L2.St → Hp → Prop}, RepL K r n H vs ds → EnvR K r n H σ env → setN env is ds = some env1 →
    (∀ σ1, EnvR K r n H σ1 env1 → Apart is σ σ1 → Q σ1 H) → gsR is vs σ H Q
  | [], _, _, σ, env, Q, .nil, e, h, k => by cases h; exact ⟨rfl, k σ e fun _ _ => rfl⟩
  | [], _, _, σ, env, Q, .cons a b, e, h, k => by cases h
  | i :: is, _, _, σ, env, Q, .nil, e, h, k => by cases h
  | i :: is, _, _, σ, env, Q, .cons (v := v) (vs := vs) a b, e, h, k => by
    refine ⟨v, vs, rfl, ?_⟩
    refine s_gs b (e.set i a) h fun σ1 e1 ap => k σ1 e1 fun ws hw => ?_
    rw [ap ws fun j hj => hw j (List.mem_cons_of_mem _ hj), wipe_set (hw i List.mem_cons_self)]
theorem gsR_len : ∀ (is : List Nat) (ds : List D) (env : Env), setN env is ds = some env1 → ds.length = is.length
  | [], [], _, _ => rfl
  | [], _ :: _, _, h => by cases h
  | _ :: _, [], _, h => by cases h
  | i :: is, d :: ds, _, h => congrArg Nat.succ (gsR_len is ds _ h)
theorem s_g {g : Tg} {v : V} {d : D} {Q : L2.St → Hp → Prop} (a : RepV K r n H v d) (e : EnvR K r n H σ env) (h : asgT g d env = some env1)
    (k : ∀ σ1, EnvR K r n H σ1 env1 → Apart g.is σ σ1 → Q σ1 H) : rdG K g v σ H Q := by
  cases g with
  | name i =>
    cases h
    exact k _ (e.set i a) fun vs hv => wipe_set (hv i List.mem_cons_self)
  | tup is =>
    cases a with
    | @tup p vs ds hT q =>
      have hl := gsR_len is ds env h
      exact ⟨p, vs, rfl, hT, by rw [q.len]; exact hl, s_gs q e h k⟩
    | _ => cases h
end

/-! ### types -/
theorem kitAll (a b : String) (ha : a ∈ ["NoneType", "bool", "int", "str", "tuple", "list", "dict"]) (hb : b ∈ ["int", "bool", "str", "tuple", "list", "dict"]) : kitB a b = some (a == b || (a == "bool" && b == "int")) := by
  have h : (["NoneType", "bool", "int", "str", "tuple", "list", "dict"].all fun a => ["int", "bool", "str", "tuple", "list", "dict"].all fun b => decide (kitB a b = some (a == b || (a == "bool" && b == "int")))) = true := by decide +kernel
  exact of_decide_eq_true (List.all_eq_true.mp (List.all_eq_true.mp h a ha) b hb)
theorem nm_mem (t : Tn) : t.nm ∈ ["int", "bool", "str", "tuple", "list", "dict"] := by cases t <;> decide
theorem ty_of {K : PySem.W.Frag} {r : Rho} {h : Hm} {H : Hp} {v : V} {x : D} {a : String} (S : Sim K r h H) (rv : RepV K r h.next H v x) (e : tyN x h = some a) : TyX K H v (.type a) ∧ a ∈ ["NoneType", "bool", "int", "str", "tuple", "list", "dict"] := by
  cases rv with
  | non => cases e; exact ⟨.base .non, by decide⟩
  | exc k a => cases e
  | bl b => cases e; exact ⟨.base (.bl b), by decide⟩
  | int b => cases e; exact ⟨.base (.int b), by decide⟩
  | str b => cases e; exact ⟨.base (.str b), by decide⟩
  | tup hT q =>
    cases e
    refine ⟨?_, by decide⟩
    rcases hT with (hT | ⟨o, hT⟩) | ⟨o, its, n, h1, h2, _⟩
    · exact .base (.tup hT)
    · exact .fTuple hT
    · exact .kTuple h1 h2
  | @ref p lp =>
    simp only [tyN] at e
    split at e
    · rename_i xs hp
      cases e
      obtain ⟨vs, h1, _⟩ := (S.obj p _ hp).2
      exact ⟨.base (.lst h1), by decide⟩
    · rename_i xs hp
      cases e
      obtain ⟨vs, h1, _⟩ := (S.obj p _ hp).2
      refine ⟨?_, by decide⟩
      rcases h1 with ⟨o, h1⟩ | ⟨o, its, n, h1, h2, _⟩
      · exact .base (.frz h1)
      · exact .kList h1 h2
    · rename_i xs hp
      cases e
      obtain ⟨vs, h1, _⟩ := (S.obj p _ hp).2
      exact ⟨.base (.dK h1), by decide⟩
    · cases e

/-! ### what is walked -/
/-- what a walked thing asks, by values -/
def rIt (K : PySem.W.Frag) : ItK → List V → Hp → (It → Hp → Prop) → Prop
  | .seq => fun vs H R => ∃ x, vs = [x] ∧ ((∃ a, x = .ref a ∧ (∃ xs, SqL K H a xs) ∧ R (Itl K a) H) ∨ (∃ a, x = .ref a ∧ (∃ xs, SqT K H a xs) ∧ R (Itt K a) H) ∨ ∃ z, x = .str z ∧ R (Its z) H)
  | .range1 => fun vs H R => ∃ j : Int, vs = [.int j] ∧ -(2 ^ 62) ≤ j ∧ j < 2 ^ 62 ∧ R (Itr 0 j.toNat) H
  | .range2 => fun vs H R => ∃ i j : Int, vs = [.int i, .int j] ∧ (-(2 ^ 62) ≤ i ∧ i < 2 ^ 62 ∧ -(2 ^ 62) ≤ j ∧ j < 2 ^ 62) ∧ R (Itr i (j - i).toNat) H
  | .range3 => fun vs H R => ∃ (i j c : Int) (n : Nat), vs = [.int i, .int j, .int c] ∧ RgC i j c n ∧ R (Itc i c n) H
  | .rev => fun vs H R => match vs with
    | [v] => ∃ (a : Addr) (xs : List V), v = .ref a ∧ ((SqL K H a xs ∧ R (Itv K a xs.length) H) ∨ (SqT K H a xs ∧ R (RT.ItvT K a xs.length) H))
    | _ => False
  | .keys => fun vs H R => match vs with
    | [v] => ∃ (d : Addr) (o : Obj), v = .ref d ∧ ((∃ kvs, H d = some (.frz o (.dK kvs)) ∧ R (Itk d o kvs) H) ∨ ∃ kvs, H d = some (.frz o (.dT kvs)) ∧ R (Itkt d o kvs) H)
    | _ => False
  | .vals => fun vs H R => match vs with
    | [v] => ∃ (d : Addr) (o : Obj) (kvs : List (Key × V)), v = .ref d ∧ H d = some (.frz o (.dK kvs)) ∧ R (Itd d o kvs) H
    | _ => False
  | .items => fun vs H R => match vs with
    | [v] => ∃ (d : Addr) (o : Obj) (kvs : List (Key × V)), v = .ref d ∧ H d = some (.frz o (.dK kvs)) ∧ R (Iti d o kvs) H
    | _ => False
  | .zip => fun vs H R => ∃ a b xs ys, vs = [.ref a, .ref b] ∧ SqL K H a xs ∧ SqL K H b ys ∧ R (Itz K a b) H
  | _ => fun _ _ _ => False
def rdI (K : PySem.W.Frag) (k : ItK) (ta : TA) : TI := fun σ H R => ta σ H fun vs H1 => rIt K k vs H1 R
theorem pi_at {X : Cx} {tg : Expr} {pins : List (Addr × Obj)} {σ : L2.St} {H : Hp} {s : Shared} {R : It → Hp → Prop} {v : Value} {x : V} (I : Inv X pins σ H s) (rv : RelV x v)
    (q : (∃ a, x = .ref a ∧ (∃ xs, SqL X.K H a xs) ∧ R (Itl X.K a) H) ∨ (∃ a, x = .ref a ∧ (∃ xs, SqT X.K H a xs) ∧ R (Itt X.K a) H) ∨ ∃ z, x = .str z ∧ R (Its z) H) :
    wpAny (model X.prog X.w) X.A (pyIter v) (PIE X pins σ tg R) X.xe s := by
  rcases q with ⟨a, rfl, ⟨xs, hq⟩, q⟩ | ⟨a, rfl, ⟨xs, hq⟩, q⟩ | ⟨z, rfl, q⟩
  · cases rv
    obtain ⟨its, _, pl, _⟩ := I.list hq
    refine wpAny_pyIter_list pl.isList ⟨s.heap.objs.size, [s.heap.objs.size], _, _, H, rfl, I.kept (t' := s.toks) (fun b o e => Heap.get?_push_of_some _ e), turn_list a _, ⟨_, Heap.get?_push_size _ rfl, rfl, rfl⟩, fun b hb => ?_, q⟩
    cases List.mem_singleton.mp hb
    exact I.fpOk (Nat.le_refl _) (I.hok.fresh (Nat.le_refl _))
  · cases rv
    obtain ⟨its, _, pl, _⟩ := I.tuple hq
    refine wpAny_pyIter_tuple (items := its.toArray) pl ⟨s.heap.objs.size, [s.heap.objs.size], _, _, H, rfl, I.kept (t' := s.toks) (fun b o e => Heap.get?_push_of_some _ e), turn_tuple a _, ⟨_, Heap.get?_push_size _ rfl, rfl, rfl⟩, fun b hb => ?_, q⟩
    cases List.mem_singleton.mp hb
    exact I.fpOk (Nat.le_refl _) (I.hok.fresh (Nat.le_refl _))
  · obtain ⟨t, rfl⟩ := rv
    cases hw : z.cps.all (· < 128)
    · exact wpAny_pyIter_wide hw (pi_one (tk := s.toks) I _ (turn_str _ z t "str_iterator" (.inr rfl)) ⟨_, Heap.get?_push_size _ rfl, rfl, rfl⟩ q)
    · exact wpAny_pyIter_ascii hw (pi_one (tk := s.toks) I _ (turn_str _ z t "str_ascii_iterator" (.inl rfl)) ⟨_, Heap.get?_push_size _ rfl, rfl, rfl⟩ q)
theorem zi_seq {X : Cx} {tg e : Expr} {te : TE} (he : PE X e te) : PI X tg e (rdI X.K .seq (tCons te tNil)) := by
  refine ⟨fun pins s σ H R I h => thn (he.run pins s σ H _ I h) fun v s1 ⟨x, H1, I1, r1, q1⟩ => ?_⟩
  obtain ⟨y, e1, q⟩ := q1
  cases e1
  exact pi_at I1 r1 q
theorem zi_range1 {X : Cx} {tg a : Expr} {ta : TA} {p pos : Pos} (hg : Gl X "range") (hm : X.mg "range" = none) (ha : PA X [a] ta) (hs : starEach [a] X.env = [(false, eval a X.env)] := by rfl) : PI X tg (.Call (.Name "range" p) [a] [] pos) (rdI X.K .range1 ta) := pi_range1 hg hm ha hs
theorem zi_range2 {X : Cx} {tg a b : Expr} {ta : TA} {p pos : Pos} (hg : Gl X "range") (hm : X.mg "range" = none) (ha : PA X [a, b] ta) (hs : starEach [a, b] X.env = [(false, eval a X.env), (false, eval b X.env)] := by rfl) (hs2 : starEach [b] X.env = [(false, eval b X.env)] := by rfl) :
    PI X tg (.Call (.Name "range" p) [a, b] [] pos) (rdI X.K .range2 ta) := pi_range2 hg hm ha hs hs2
theorem zi_range3 {X : Cx} {tg a b c : Expr} {ta : TA} {p pos : Pos} (hg : Gl X "range") (hm : X.mg "range" = none) (ha : PA X [a, b, c] ta) (hs : starEach [a, b, c] X.env = (false, eval a X.env) :: starEach [b, c] X.env := by rfl) (hpl : (backTo pos (starEach [b, c] X.env)).any (·.1) = false := by rfl) :
    PI X tg (.Call (.Name "range" p) [a, b, c] [] pos) (rdI X.K .range3 ta) := pi_range3 hg hm ha hs hpl
theorem zi_rev {X : Cx} {tg e : Expr} {te : TE} {p pos : Pos} (hg : Gl X "reversed") (hm : X.mg "reversed" = none) (he : PE X e te) (hs : starEach [e] X.env = (false, eval e X.env) :: starEach [] X.env := by rfl) : PI X tg (.Call (.Name "reversed" p) [e] [] pos) (rdI X.K .rev (tCons te tNil)) := RT.pi_revA hg hm he hs
theorem zi_keys {X : Cx} {tg e : Expr} {te : TE} (he : PE X e te) : PI X tg e (rdI X.K .keys (tCons te tNil)) := pi_keys he
theorem zi_vals {X : Cx} {tg e : Expr} {te : TE} {apos cpos : Pos} (he : PE X e te) (hbase : attributeBase e "values" X.env (eval e X.env) = eval e X.env := by rfl) (hline : (apos.endLine == cpos.line) = true := by rfl) :
    PI X tg (.Call (.Attribute e "values" apos) [] [] cpos) (rdI X.K .vals (tCons te tNil)) := pi_values he hbase hline
theorem zi_items {X : Cx} {e : Expr} {te : TE} {apos cpos tpos : Pos} {elts : List Expr} {kk : Nat} (he : PE X e te) (hbase : attributeBase e "items" X.env (eval e X.env) = eval e X.env := by rfl) (hline : (apos.endLine == cpos.line) = true := by rfl) :
    PI X (.Tuple elts kk tpos) (.Call (.Attribute e "items" apos) [] [] cpos) (rdI X.K .items (tCons te tNil)) := pi_items he hbase hline
theorem zi_zip {X : Cx} {e e2 : Expr} {ta : TA} {p pos tpos : Pos} {elts : List Expr} {kk : Nat} (hg : Gl X "zip") (hm : X.mg "zip" = none) (ha : PA X [e, e2] ta)
    (hs : starEach [e, e2] X.env = (false, eval e X.env) :: starEach [e2] X.env := by rfl) (hpl : (backTo pos (starEach [e2] X.env)).any (·.1) = false := by rfl) :
    PI X (.Tuple elts kk tpos) (.Call (.Name "zip" p) [e, e2] [] pos) (rdI X.K .zip ta) := pi_zip hg hm ha hs hpl
theorem small_c {a b c : Int} (hc : c = 2 ∨ c = 7) (ha : -(2 ^ 62) ≤ a) (ha' : a < 2 ^ 62) (hb : -(2 ^ 62) ≤ b) (hb' : b < 2 ^ 62) : Builtin.Range.small a b c = true := by
  unfold Builtin.Range.small Builtin.Range.rangeSize
  rcases hc with rfl | rfl
  · simp only [Builtin.Range.rangeFitsLong, Bool.and_eq_true, Bool.or_eq_true, decide_eq_true_eq, beq_iff_eq, show (2 : Int) > 0 by decide, if_true]
    split <;> omega
  · simp only [Builtin.Range.rangeFitsLong, Bool.and_eq_true, Bool.or_eq_true, decide_eq_true_eq, beq_iff_eq, show (7 : Int) > 0 by decide, if_true]
    split <;> omega
theorem rgc {a b c : Int} (hc : c = 2 ∨ c = 7) (ha : -(2 ^ 62) ≤ a) (ha' : a < 2 ^ 62) (hb : -(2 ^ 62) ≤ b) (hb' : b < 2 ^ 62) : RgC a b c (if a < b then (b - a - 1) / c + 1 else 0).toNat := by
  refine ⟨by omega, by omega, small_c hc ha ha' hb hb', ?_⟩
  unfold Builtin.Range.rangeSize
  rcases hc with rfl | rfl
  · rw [if_pos (by decide)]; split <;> omega
  · rw [if_pos (by decide)]; split <;> omega
theorem three_of {K : PySem.W.Frag} {r : Rho} {n : Nat} {H : Hp} {vs : List V} {a b c : D} (q : RepL K r n H vs [a, b, c]) : ∃ x y z, vs = [x, y, z] ∧ RepV K r n H x a ∧ RepV K r n H y b ∧ RepV K r n H z c := by
  cases q with
  | cons a q =>
    cases q with
    | cons b q =>
      cases q with
      | cons c q =>
        cases q
        exact ⟨_, _, _, rfl, a, b, c⟩
/-- an iterator gives just these -/
def Gives (K : PySem.W.Frag) (J : It) (items : List D) (gd : List (Nat × O)) (r1 : Rho) (n1 : Nat) (H1 : Hp) : Prop :=
  ∀ r h H, Sim K r h H → Ext K r1 n1 H1 r h.next H → stays gd h → ∀ i, (∀ d, items[i]? = some d → J.go i H ∧ ∀ x H', J.yld i H x H' → Sim K r h H' ∧ Ext K r h.next H r h.next H' ∧ RepV K r h.next H' x d) ∧ (items.length ≤ i → J.stop i H)
theorem gives_lst {K : PySem.W.Frag} {r1 : Rho} {h1 : Hm} {H1 : Hp} {a : Nat} {xs : List D} {o : O} (la : a < h1.next) (ho : o = .lst xs ∨ o = .fz xs) : Gives K (Itl K (r1 a)) xs [(a, o)] r1 h1.next H1 := by
  intro r h H S x st i
  have ha : h.get a = some o := st (a, o) (List.mem_singleton.mpr rfl)
  have er : r a = r1 a := x.at_ a la
  obtain ⟨vs, hs, q⟩ : ∃ vs, SqL K H (r1 a) vs ∧ RepL K r h.next H vs xs := by
    rcases ho with rfl | rfl
    · obtain ⟨vs, e1, q⟩ := (S.obj a _ ha).2
      rw [er] at e1
      exact ⟨vs, .inl (.inl e1), q⟩
    · obtain ⟨vs, e1, q⟩ := (S.obj a _ ha).2
      rw [er] at e1
      exact ⟨vs, e1.l, q⟩
  refine ⟨fun d hd => ?_, fun hl => ⟨vs, hs, by rw [q.len]; exact hl⟩⟩
  obtain ⟨v, ev, qv⟩ := q.get hd
  refine ⟨⟨vs, v, hs, ev⟩, fun y H' w => ?_⟩
  obtain ⟨rfl, w⟩ := w
  have := w vs hs
  rw [ev] at this
  cases this
  exact ⟨S, Ext.refl, qv⟩
theorem gives_tup {K : PySem.W.Frag} {r1 : Rho} {n1 : Nat} {H1 : Hp} {a : Addr} {xs : List D} {vs : List V} (hT : SqT K H1 a vs) (q1 : RepL K r1 n1 H1 vs xs) : Gives K (Itt K a) xs [] r1 n1 H1 := by
  intro r h H S x _ i
  have hs := x.tup _ _ hT
  have q := q1.ext x
  refine ⟨fun d hd => ?_, fun hl => ⟨vs, hs, by rw [q.len]; exact hl⟩⟩
  obtain ⟨v, ev, qv⟩ := q.get hd
  refine ⟨⟨vs, v, hs, ev⟩, fun y H' w => ?_⟩
  obtain ⟨rfl, w⟩ := w
  have := w vs hs
  rw [ev] at this
  cases this
  exact ⟨S, Ext.refl, qv⟩
theorem gives_rng {K : PySem.W.Frag} {r1 : Rho} {n1 : Nat} {H1 : Hp} {lo : Int} {m : Nat} {f : Nat → D} (hf : ∀ i : Nat, f i = .int (lo + i)) : Gives K (Itr lo m) ((List.range m).map f) [] r1 n1 H1 := by
  intro r h H S x _ i
  refine ⟨fun d hd => ?_, fun hl => (show m ≤ i by simpa using hl)⟩
  have hi : i < m := by simpa using (List.getElem?_eq_some_iff.mp hd).1
  rw [List.getElem?_map, List.getElem?_range hi] at hd
  cases hd
  refine ⟨hi, fun y H' w => ?_⟩
  obtain ⟨rfl, rfl⟩ := w
  rw [hf]
  exact ⟨S, Ext.refl, .int _⟩
theorem gives_rngC {K : PySem.W.Frag} {r1 : Rho} {n1 : Nat} {H1 : Hp} {lo c : Int} {m : Nat} : Gives K (Itc lo c m) ((List.range m).map fun (i : Nat) => .int (lo + (i : Int) * c)) [] r1 n1 H1 := by
  intro r h H S x _ i
  refine ⟨fun d hd => ?_, fun hl => (show m ≤ i by simpa using hl)⟩
  have hi : i < m := by simpa using (List.getElem?_eq_some_iff.mp hd).1
  rw [List.getElem?_map, List.getElem?_range hi] at hd
  cases hd
  refine ⟨hi, fun y H' w => ?_⟩
  obtain ⟨rfl, rfl⟩ := w
  exact ⟨S, Ext.refl, .int _⟩
theorem rev_at {α : Type} {xs : List α} {i : Nat} (hi : i < xs.length) : xs.reverse[i]? = xs[xs.length - 1 - i]? := List.getElem?_reverse hi
theorem gives_rev {K : PySem.W.Frag} {r1 : Rho} {h1 : Hm} {H1 : Hp} {a : Nat} {xs : List D} {o : O} {n : Nat} (la : a < h1.next) (ho : o = .lst xs ∨ o = .fz xs) (hn : n = xs.length) : Gives K (Itv K (r1 a) n) xs.reverse [(a, o)] r1 h1.next H1 := by
  intro r h H S x st i
  have ha : h.get a = some o := st (a, o) (List.mem_singleton.mpr rfl)
  have er : r a = r1 a := x.at_ a la
  obtain ⟨vs, hs, q⟩ : ∃ vs, SqL K H (r1 a) vs ∧ RepL K r h.next H vs xs := by
    rcases ho with rfl | rfl
    · obtain ⟨vs, e1, q⟩ := (S.obj a _ ha).2
      rw [er] at e1
      exact ⟨vs, .inl (.inl e1), q⟩
    · obtain ⟨vs, e1, q⟩ := (S.obj a _ ha).2
      rw [er] at e1
      exact ⟨vs, e1.l, q⟩
  refine ⟨fun d hd => ?_, fun hl => (show n ≤ i by rw [hn]; simpa using hl)⟩
  have hi : i < xs.length := by simpa using (List.getElem?_eq_some_iff.mp hd).1
  rw [rev_at hi] at hd
  obtain ⟨v, ev, qv⟩ := q.get hd
  refine ⟨⟨by omega, vs, v, hs, by rw [hn]; exact ev⟩, fun y H' w => ?_⟩
  obtain ⟨rfl, w⟩ := w
  have := w vs hs
  rw [hn, ev] at this
  cases this
  exact ⟨S, Ext.refl, qv⟩
theorem gives_revT {K : PySem.W.Frag} {r1 : Rho} {n1 : Nat} {H1 : Hp} {a : Addr} {xs : List D} {vs : List V} {n : Nat} (hT : SqT K H1 a vs) (q1 : RepL K r1 n1 H1 vs xs) (hn : n = xs.length) : Gives K (RT.ItvT K a n) xs.reverse [] r1 n1 H1 := by
  intro r h H S x _ i
  have hs := x.tup _ _ hT
  have q := q1.ext x
  refine ⟨fun d hd => ?_, fun hl => (show n ≤ i by rw [hn]; simpa using hl)⟩
  have hi : i < xs.length := by simpa using (List.getElem?_eq_some_iff.mp hd).1
  rw [rev_at hi] at hd
  obtain ⟨v, ev, qv⟩ := q.get hd
  refine ⟨⟨by omega, vs, v, hs, by rw [hn]; exact ev⟩, fun y H' w => ?_⟩
  obtain ⟨rfl, w⟩ := w
  have := w vs hs
  rw [hn, ev] at this
  cases this
  exact ⟨S, Ext.refl, qv⟩
theorem gives_str {K : PySem.W.Frag} {r1 : Rho} {n1 : Nat} {H1 : Hp} {z : Str} : Gives K (Its z) (z.cps.toList.map fun c => .str ⟨#[c]⟩) [] r1 n1 H1 := by
  intro r h H S x _ i
  refine ⟨fun d hd => ?_, fun hl => (show z.cps.size ≤ i by simpa using hl)⟩
  rw [List.getElem?_map] at hd
  obtain ⟨c, hc, e⟩ := Option.map_eq_some_iff.mp hd
  subst e
  have hc2 : z.cps[i]? = some c := by rw [← Array.getElem?_toList]; exact hc
  refine ⟨(Array.getElem?_eq_some_iff.mp hc2).1, fun y H' w => ?_⟩
  obtain ⟨rfl, c', e, rfl⟩ := w
  rw [hc2] at e
  cases e
  exact ⟨S, Ext.refl, .str _⟩
theorem gives_keys {K : PySem.W.Frag} {r1 : Rho} {n1 : Nat} {H1 : Hp} {d : Addr} {ob : Obj} {ws : List (Key × V)} {kvs : List (Key × D)} (hd : H1 d = some (.frz ob (.dK ws))) (q1 : RepK K r1 n1 H1 ws kvs) :
    Gives K (Itk d ob ws) (kvs.map fun kv => keyD kv.1) [] r1 n1 H1 := by
  intro r h H S x _ i
  have hd' := x.frz _ _ _ hd
  have q := RepK.ext x q1
  have el : ws.length = kvs.length := by simpa using congrArg List.length q.1
  refine ⟨fun y hy => ?_, fun hl => ⟨hd', by rw [el]; simpa using hl⟩⟩
  obtain ⟨v, ev, qv⟩ := (repKeys q).get hy
  rw [List.getElem?_map] at ev
  obtain ⟨kw, e1, e2⟩ := Option.map_eq_some_iff.mp ev
  refine ⟨⟨hd', (List.getElem?_eq_some_iff.mp e1).1⟩, fun z H' w => ?_⟩
  obtain ⟨rfl, k, v', e3, rfl⟩ := w
  rw [e1] at e3
  cases e3
  subst e2
  exact ⟨S, Ext.refl, qv⟩
theorem gives_keysT {K : PySem.W.Frag} {r1 : Rho} {n1 : Nat} {H1 : Hp} {d : Addr} {ob : Obj} {ws : List (List Key × V)} {kvs : List (List Key × D)} (hd : H1 d = some (.frz ob (.dT ws))) (q1 : RepK K r1 n1 H1 ws kvs) :
    Gives K (Itkt d ob ws) (kvs.map fun kv => .tup (kv.1.map keyD)) [] r1 n1 H1 := by
  intro r h H S x _ i
  have hd' := x.frz _ _ _ hd
  have el : ws.length = kvs.length := by simpa using congrArg List.length q1.1
  refine ⟨fun y hy => ?_, fun hl => ⟨hd', by rw [el]; simpa using hl⟩⟩
  rw [List.getElem?_map] at hy
  obtain ⟨kv, e1, e2⟩ := Option.map_eq_some_iff.mp hy
  have hi : i < kvs.length := (List.getElem?_eq_some_iff.mp e1).1
  have e5 : (ws.map (·.1))[i]? = some kv.1 := by rw [q1.1, List.getElem?_map, e1]; rfl
  refine ⟨⟨hd', by rw [el]; exact hi⟩, fun z H' w => ?_⟩
  obtain ⟨rfl, k, v', q, e3, rfl, e4⟩ := w
  rw [List.getElem?_map, e3] at e5
  cases e5
  subst e2
  exact ⟨S, Ext.refl, .tup (.inl (.inl e4)) (repKeyL _)⟩
theorem gives_vals {K : PySem.W.Frag} {r1 : Rho} {n1 : Nat} {H1 : Hp} {d : Addr} {ob : Obj} {ws : List (Key × V)} {kvs : List (Key × D)} (hd : H1 d = some (.frz ob (.dK ws))) (q1 : RepK K r1 n1 H1 ws kvs) :
    Gives K (Itd d ob ws) (kvs.map fun kv => kv.2) [] r1 n1 H1 := by
  intro r h H S x _ i
  have hd' := x.frz _ _ _ hd
  have q := RepK.ext x q1
  have el : ws.length = kvs.length := by simpa using congrArg List.length q.1
  refine ⟨fun y hy => ?_, fun hl => ⟨hd', by rw [el]; simpa using hl⟩⟩
  obtain ⟨v, ev, qv⟩ := q.2.get hy
  rw [List.getElem?_map] at ev
  obtain ⟨kw, e1, e2⟩ := Option.map_eq_some_iff.mp ev
  refine ⟨⟨hd', (List.getElem?_eq_some_iff.mp e1).1⟩, fun z H' w => ?_⟩
  obtain ⟨rfl, k, e3⟩ := w
  rw [e1] at e3
  cases e3
  subst e2
  exact ⟨S, Ext.refl, qv⟩
theorem gives_items {K : PySem.W.Frag} {r1 : Rho} {n1 : Nat} {H1 : Hp} {d : Addr} {ob : Obj} {ws : List (Key × V)} {kvs : List (Key × D)} (hd : H1 d = some (.frz ob (.dK ws))) (q1 : RepK K r1 n1 H1 ws kvs) :
    Gives K (Iti d ob ws) (kvs.map fun kv => .tup [keyD kv.1, kv.2]) [] r1 n1 H1 := by
  intro r h H S x _ i
  have hd' := x.frz _ _ _ hd
  have q := RepK.ext x q1
  have el : ws.length = kvs.length := by simpa using congrArg List.length q.1
  refine ⟨fun y hy => ?_, fun hl => ⟨hd', by rw [el]; simpa using hl⟩⟩
  rw [List.getElem?_map] at hy
  obtain ⟨kv, e1, e2⟩ := Option.map_eq_some_iff.mp hy
  have e6 : (kvs.map fun kv => kv.2)[i]? = some kv.2 := by rw [List.getElem?_map, e1]; rfl
  obtain ⟨v, ev, qv⟩ := q.2.get e6
  rw [List.getElem?_map] at ev
  obtain ⟨kw, e3, e4⟩ := Option.map_eq_some_iff.mp ev
  have e5 : (ws.map (·.1))[i]? = some kv.1 := by rw [q.1, List.getElem?_map, e1]; rfl
  rw [List.getElem?_map, e3] at e5
  refine ⟨⟨hd', (List.getElem?_eq_some_iff.mp e3).1⟩, fun z H' w => ?_⟩
  obtain ⟨T, k, v', e7, rfl, hT, rfl⟩ := w
  rw [e3] at e7
  cases e7
  cases e5
  subst e2 e4
  have xx := (Free.ext (K := K) (r := r) (n := h.next) (u := .tup [kV kv.1, v']) (.inl hT))
  exact ⟨S.grow hT, xx, .tup (.inl (.inl upd_same)) (.cons (repKey _) (.cons (qv.ext xx) .nil))⟩
theorem gives_zip {K : PySem.W.Frag} {r1 : Rho} {h1 : Hm} {H1 : Hp} {a b : Nat} {xs ys : List D} (la : a < h1.next) (lb : b < h1.next) :
    Gives K (Itz K (r1 a) (r1 b)) ((xs.zip ys).map fun p => D.tup [p.1, p.2]) [(a, .lst xs), (b, .lst ys)] r1 h1.next H1 := by
  intro r h H S x st i
  have ha : h.get a = some (.lst xs) := st (a, .lst xs) (by simp)
  have hb : h.get b = some (.lst ys) := st (b, .lst ys) (by simp)
  have era : r a = r1 a := x.at_ a la
  have erb : r b = r1 b := x.at_ b lb
  obtain ⟨vs, e1, q1⟩ := (S.obj a _ ha).2
  obtain ⟨ws, e2, q2⟩ := (S.obj b _ hb).2
  rw [era] at e1
  rw [erb] at e2
  have s1 : SqL K H (r1 a) vs := .inl (.inl e1)
  have s2 : SqL K H (r1 b) ws := .inl (.inl e2)
  refine ⟨fun d hd => ?_, fun hl => ⟨vs, ws, s1, s2, ?_⟩⟩
  · rw [List.getElem?_map] at hd
    obtain ⟨⟨dx, dy⟩, e3, e4⟩ := Option.map_eq_some_iff.mp hd
    rw [List.getElem?_zip_eq_some] at e3
    obtain ⟨vx, f1, g1⟩ := q1.get e3.1
    obtain ⟨vy, f2, g2⟩ := q2.get e3.2
    refine ⟨⟨vs, ws, vx, vy, s1, s2, f1, f2⟩, fun z H' w => ?_⟩
    obtain ⟨T, x', y', rfl, hT, rfl, w1, w2⟩ := w
    have i1 := w1 vs s1
    have i2 := w2 ws s2
    rw [f1] at i1
    rw [f2] at i2
    cases i1
    cases i2
    subst e4
    have xx := (Free.ext (K := K) (r := r) (n := h.next) (u := .tup [vx, vy]) (.inl hT))
    exact ⟨S.grow hT, xx, .tup (.inl (.inl upd_same)) (.cons (g1.ext xx) (.cons (g2.ext xx) .nil))⟩
  · have hl' : (xs.zip ys).length ≤ i := by simpa using hl
    rw [List.length_zip] at hl'
    rw [q1.len, q2.len]
    omega
theorem s_walk {K : PySem.W.Frag} {r : Rho} {h : Hm} {H : Hp} {k : ItK} {vs : List V} {ds items : List D} {gd : List (Nat × O)} {R : It → Hp → Prop} (S : Sim K r h H) (q : RepL K r h.next H vs ds) (e : walk k ds h = some (items, gd))
    (p : ∀ J, Gives K J items gd r h.next H → R J H) : rIt K k vs H R := by
  cases k with
  | seq =>
    simp only [walk] at e
    split at e
    · obtain ⟨v, rfl, a⟩ := one_of q
      cases e
      cases a with
      | tup hT q1 => exact ⟨_, rfl, .inr (.inl ⟨_, rfl, ⟨_, hT⟩, p _ (gives_tup hT q1)⟩)⟩
    · obtain ⟨v, rfl, a⟩ := one_of q
      cases e
      cases a with
      | str z =>
        exact ⟨_, rfl, .inr (.inr ⟨_, rfl, p _ gives_str⟩)⟩
    · rename_i a0
      obtain ⟨v, rfl, a⟩ := one_of q
      cases a with
      | ref la =>
        split at e
        · rename_i xs ha
          cases e
          obtain ⟨us, h1, _⟩ := (S.obj a0 _ ha).2
          exact ⟨_, rfl, .inl ⟨_, rfl, ⟨us, .inl (.inl h1)⟩, p _ (gives_lst (h1 := h) la (.inl rfl))⟩⟩
        · rename_i xs ha
          cases e
          obtain ⟨us, h1, _⟩ := (S.obj a0 _ ha).2
          exact ⟨_, rfl, .inl ⟨_, rfl, ⟨us, h1.l⟩, p _ (gives_lst (h1 := h) la (.inr rfl))⟩⟩
        · cases e
    · cases e
  | range1 =>
    simp only [walk] at e
    split at e
    · obtain ⟨v, rfl, a⟩ := one_of q
      cases a
      split at e
      · rename_i hn
        cases e
        exact ⟨_, rfl, hn.1, hn.2, p _ (gives_rng fun i => by simp)⟩
      · cases e
    · cases e
  | range2 =>
    simp only [walk] at e
    split at e
    · obtain ⟨v, w, rfl, a, b⟩ := two_of q
      cases a
      cases b
      split at e
      · rename_i hn
        cases e
        exact ⟨_, _, rfl, ⟨hn.1.1, hn.1.2, hn.2.1, hn.2.2⟩, p _ (gives_rng fun i => rfl)⟩
      · cases e
    · cases e
  | range3 =>
    simp only [walk] at e
    split at e
    · obtain ⟨v, w, u, rfl, a, b, c⟩ := three_of q
      cases a
      cases b
      cases c
      split at e
      · rename_i hn
        cases e
        exact ⟨_, _, _, _, rfl, rgc hn.1 hn.2.1.1 hn.2.1.2 hn.2.2.1 hn.2.2.2, p _ gives_rngC⟩
      · cases e
    · cases e
  | rev =>
    simp only [walk] at e
    split at e
    · obtain ⟨v, rfl, a⟩ := one_of q
      cases e
      cases a with
      | tup hT q1 => exact ⟨_, _, rfl, .inr ⟨hT, p _ (gives_revT hT q1 q1.len)⟩⟩
    · rename_i a0
      obtain ⟨v, rfl, a⟩ := one_of q
      cases a with
      | ref la =>
        split at e
        · rename_i xs ha
          cases e
          obtain ⟨us, h1, q1⟩ := (S.obj a0 _ ha).2
          exact ⟨_, us, rfl, .inl ⟨.inl (.inl h1), p _ (gives_rev (h1 := h) la (.inl rfl) q1.len)⟩⟩
        · rename_i xs ha
          cases e
          obtain ⟨us, h1, q1⟩ := (S.obj a0 _ ha).2
          exact ⟨_, us, rfl, .inl ⟨h1.l, p _ (gives_rev (h1 := h) la (.inr rfl) q1.len)⟩⟩
        · cases e
    · cases e
  | keys =>
    simp only [walk] at e
    split at e
    · rename_i a0
      obtain ⟨v, rfl, a⟩ := one_of q
      cases a with
      | ref la =>
        split at e
        · rename_i kvs ha
          cases e
          obtain ⟨ob, ws, h1, q1⟩ := (S.obj a0 _ ha).2
          exact ⟨_, ob, rfl, .inl ⟨ws, h1, p _ (gives_keys h1 q1)⟩⟩
        · rename_i kvs ha
          cases e
          obtain ⟨ob, ws, h1, q1⟩ := (S.obj a0 _ ha).2
          exact ⟨_, ob, rfl, .inr ⟨ws, h1, p _ (gives_keysT h1 q1)⟩⟩
        · cases e
    · cases e
  | vals =>
    simp only [walk] at e
    split at e
    · rename_i a0
      obtain ⟨v, rfl, a⟩ := one_of q
      cases a with
      | ref la =>
        split at e
        · rename_i kvs ha
          cases e
          obtain ⟨ob, ws, h1, q1⟩ := (S.obj a0 _ ha).2
          exact ⟨_, ob, ws, rfl, h1, p _ (gives_vals h1 q1)⟩
        · cases e
    · cases e
  | items =>
    simp only [walk] at e
    split at e
    · rename_i a0
      obtain ⟨v, rfl, a⟩ := one_of q
      cases a with
      | ref la =>
        split at e
        · rename_i kvs ha
          cases e
          obtain ⟨ob, ws, h1, q1⟩ := (S.obj a0 _ ha).2
          exact ⟨_, ob, ws, rfl, h1, p _ (gives_items h1 q1)⟩
        · cases e
    · cases e
  | zip =>
    simp only [walk] at e
    split at e
    · rename_i a0 b0
      obtain ⟨v, w, rfl, a, b⟩ := two_of q
      cases a with
      | ref la =>
        cases b with
        | ref lb =>
          split at e
          · rename_i xs ys ha hb
            cases e
            obtain ⟨us, h1, _⟩ := (S.obj a0 _ ha).2
            obtain ⟨ws, h2, _⟩ := (S.obj b0 _ hb).2
            exact ⟨_, _, us, ws, rfl, .inl (.inl h1), .inl (.inl h2), p _ (gives_zip (h1 := h) la lb)⟩
          · cases e
    · cases e
  | _ => cases e
end Z

set_option maxRecDepth 100000
set_option maxHeartbeats 2000000
/-! ZJ: expressions: their readings in the layer, and that the model's answers suffice. -/
namespace Z
open PySem L2

def cV : Cst → V
  | .non => .non
  | .bl b => .bl b
  | .int i => .int i
  | .str s => .str (Str.ofString s)
/-- what a reading leans on: the written part, the program, the defs' promises, the constants, what is wished of an error -/
structure RC where
  K : PySem.W.Frag
  P : Prog
  sp : String → Sp
  gv : String → V
  W : WX
  xa : Addr := 0
  xc : Value := .none
  xd : Option Addr := none
abbrev RC.with (c : RC) (W : WX) : RC := { c with W := W }
abbrev noW : WX := fun _ _ _ _ => False
abbrev RC.wt (c : RC) (σ : L2.St) : XK := fun cls d H => c.W cls d σ H
def rTix (K : PySem.W.Frag) : V → List V → Hp → VK → Prop := fun x xs H Q => ∃ p, ∃ ys : List Str, ∃ z j, x = .ref p ∧ xs = [.str z] ∧ SqT K H p (ys.map V.str) ∧ ys[j]? = some z ∧ (∀ m, m < j → ys[m]? ≠ some z) ∧ Q (.int (j : Nat)) H
def rIsi2 (K : PySem.W.Frag) (t u : Tn) (a : TE) : TE := tCB (rIsiT K) (tCons a (tCons (tTup (tCons (tC (.ty t.nm)) (tCons (tC (.ty u.nm)) tNil))) tNil))
mutual
def rdE (c : RC) : E → TE
  | .var i => tVar i
  | .con k => tC (cV k)
  | .glo x => tC (c.gv x)
  | .bin o a b => tOp (rB c.K o) (rdE c a) (rdE c b)
  | .neg a => tUn (rU fun i => .int (-i)) (rdE c a)
  | .cmp o a b => tOp (rCm c.K o) (rdE c a) (rdE c b)
  | .chn o o' a b d => tChain (rCm c.K o) (rCm c.K o') (rdE c a) (rdE c b) (rdE c d)
  | .and a b => tAndV (rdE c a) (rdE c b)
  | .or a b => tOrV (rdE c a) (rdE c b)
  | .not a => tNotV (rdE c a)
  | .ife t a b => tIf (rdT c t) (rdE c a) (rdE c b)
  | .idx a b => tOp (rIx c.K) (rdE c a) (rdE c b)
  | .dgt a b => tDGet (rdE c a) (rdE c b)
  | .slc a lo hi => tSl (rSlZ c.K) (rdE c a) (rdO c lo) (rdO c hi)
  | .att a f => tFld c.K (rdE c a) (Str.ofString f)
  | .tup es => tTup (rdA c es)
  | .lst es => tLst (rdA c es)
  | .dict es => (match es with
    | .nil => tDNewK
    | _ => fun _ _ _ => False)
  | .call f es ds => fun σ H Q => rdA c es σ H fun vs H1 => c.sp f (vs ++ ds.map cV) H1 Q (c.wt σ)
  | .meth o m es ds => fun σ H Q => rdE c o σ H fun x H1 => ∃ a dx fs cn f, x = .ref a ∧ H1 a = some (.ins (ca c.K cn) dx fs) ∧ c.P.mt cn m = some f ∧ fs.lookup (Str.ofString m) = none ∧
      rdA c es σ H1 fun vs H2 => c.sp f (x :: (vs ++ ds.map cV)) H2 Q (c.wt σ)
  | .new cn es => fun σ H Q => rdA c es σ H fun vs H1 => ∀ x dx, H1 x = none → H1 dx = none → dx ≠ x → ∃ f, c.P.mt cn "__init__" = some f ∧
      c.sp f (.ref x :: vs) (upd (upd H1 dx (.own x)) x (.ins (ca c.K cn) dx [])) (fun v H2 => v = .non ∧ Q (.ref x) H2) (c.wt σ)
  | .bi b es => tCB (rBi c.K b) (rdA c es)
  | .bm b o es => tBmZ c.K b (rdE c o) (rdA c es)
  | .gix x e => fun σ H Q => tyV c.K "tuple" (c.gv x) H ∧ rdE c e σ H fun y H2 => rTix c.K (c.gv x) [y] H2 Q
  | .isi a t => tCB (rIsi c.K) (tCons (rdE c a) (tCons (tC (.ty t.nm)) tNil))
  | .isi2 a t u => rIsi2 c.K t u (rdE c a)
  | .comp elt own g k es tst => tLc (rdI c.K k (rdA c es)) (rdG c.K g) (rdT (c.with noW) tst) (rdE (c.with noW) elt) own
  | .fst _ => fun _ _ _ => False
  | .rsl a => tRevL c.K (rdE c a)
  | .dictT => tDNewT
  | .dgtT a es => tDGet (rdE c a) (tTup (rdA c es))
  | .getT a es d => tDGet2 (rdE c a) (tTup (rdA c es)) (tC (cV d))
  | .lck _ e => tLockE (rdE c e)
  | .isx i cn => fun σ H Q => ∃ D, c.xc = .ref D ∧ c.xd = none ∧ ExcC c.K D ∧ σ[i]? = some (some (.ref c.xa)) ∧ ∃ b, PySem.W.kitOne c.K (.ref D) (.ref (ca c.K cn)) = some b ∧ Q (.bl b) H
  | .isxB i cn => fun σ H Q => ∃ D, c.xc = .ref D ∧ c.xd = none ∧ ExcC c.K D ∧ σ[i]? = some (some (.ref c.xa)) ∧ ∃ b, PySem.W.kitOne c.K (.ref D) (.type cn) = some b ∧ Q (.bl b) H
  | .isc a cn => tCB (rIsi c.K) (tCons (rdE c a) (tCons (tC (.ref (ca c.K cn))) tNil))
  | .new0 cn => fun σ H Q => ∀ x dx, H x = none → H dx = none → dx ≠ x → Q (.ref x) (upd (upd H dx (.own x)) x (.ins (ca c.K cn) dx []))
def rdA (c : RC) : Es → TA
  | .nil => tNil
  | .cons e es => tCons (rdE c e) (rdA c es)
def rdO (c : RC) : Eo → TO
  | .none => tNoPart
  | .some e => tPart (rdE c e)
def rdT (c : RC) : T → TT
  | .yes => fun _ H Q => Q true H
  | .cmp o a b => tTest (tOp (rCm c.K o) (rdE c a) (rdE c b))
  | .chn o o' a b d => tTest (tChain (rCm c.K o) (rCm c.K o') (rdE c a) (rdE c b) (rdE c d))
  | .and a b => tAnd (rdT c a) (rdT c b)
  | .or a b => tOr (rdT c a) (rdT c b)
  | .not a => tNot (rdT c a)
  | .tru a => fun σ H Q => rdE c a σ H fun x H' => ∃ k, TruV c.K x H' k ∧ Q k H'
end

/-- isinstance of an own class's thing and an own class -/
structure IsC (K : PySem.W.Frag) (C C' : Addr) (b : Bool) : Prop where
  cl : Cls K C
  ha : PySem.W.findIn K (.ref C) "__class__" = some (some (.builtin "object.__class__"))
  hn : PySem.W.specialIn K (.builtin "object.__class__") "__get__" = some (some (.builtin "getset_descriptor.__get__"))
  htk : PySem.W.takesIn K (.builtin "object.__class__") = some true
  hm : PySem.W.mroIn K C (.type "object") = some true
  one : PySem.W.kitOne K (.ref C) (.ref C') = some b
/-- what the readings' soundness leans on -/
structure RCok (c : RC) (cl : Cl) : Prop where
  sp : ∀ f ds h res h', cl f ds h = some (res, h') → ∀ r H vs Q E, Sim c.K r h H → RepL c.K r h.next H vs ds → PG c.K E r h H (RepV c.K) Q res h' → c.sp f vs H Q E
  gv : ∀ x d, c.P.glob x = some d → ∀ r n H, RepV c.K r n H (c.gv x) d
  gt : ∀ x xs, c.P.glob x = some (.tup xs) → ∀ H, tyV c.K "tuple" (c.gv x) H
  fld : ∀ cn f, c.P.fld cn f = true → Cls c.K (ca c.K cn) ∧ NoAttr c.K (ca c.K cn) (Str.ofString f)
  sub : ∀ cn cm b, c.P.sub cn cm = some b → IsC c.K (ca c.K cn) (ca c.K cm) b
  exm : ∀ k cm b, c.P.exm k cm = some b → PySem.W.exmOne c.K (.ref (ca c.K k)) (.ref (ca c.K cm)) = some b
  exs : ∀ k cm b, c.P.exs k cm = some b → ExcC c.K (ca c.K k) ∧ PySem.W.kitOne c.K (.ref (ca c.K k)) (.ref (ca c.K cm)) = some b
  exb : ∀ k cm b, c.P.exb k cm = some b → ExcC c.K (ca c.K k) ∧ PySem.W.kitOne c.K (.ref (ca c.K k)) (.type cm) = some b
  xk : ∀ k a, c.P.xk = some (k, a) → c.xa = a ∧ c.xc = .ref (ca c.K k) ∧ c.xd = none
theorem RCok.with {c : RC} {cl : Cl} (k : RCok c cl) (W : WX) : RCok (c.with W) cl := ⟨k.sp, k.gv, k.gt, k.fld, k.sub, k.exm, k.exs, k.exb, k.xk⟩
/-- within a suite: the error of class k is at a -/
abbrev RC.exc (c : RC) (k : String) (a : Addr) (cls : Value) (d : Option Addr) : RC := { c with W := noW, P := { c.P with xk := some (k, a) }, xa := a, xc := cls, xd := d }
theorem RCok.exc {c : RC} {cl : Cl} (k : RCok c cl) (kk : String) (a : Addr) : RCok (c.exc kk a (.ref (ca c.K kk)) none) cl :=
  ⟨k.sp, k.gv, k.gt, k.fld, k.sub, k.exm, k.exs, k.exb, fun k' a' e => by
    have e' := Option.some.inj e
    injection e' with e1 e2
    subst e1 e2
    exact ⟨rfl, rfl, rfl⟩⟩

/-- a bind that came to an end -/
theorem bnd_cases {α β : Type} {m : Res α} {f : α → Hm → Res β} {res : Except String β} {h' : Hm} (e : bnd m f = some (res, h')) :
    (∃ x h1, m = some (.ok x, h1) ∧ f x h1 = some (res, h')) ∨ ∃ k, m = some (.error k, h') ∧ res = .error k := by
  match m, e with
  | some (.ok x, h1), e => exact .inl ⟨x, h1, rfl, e⟩
  | some (.error k, h1), e => cases e; exact .inr ⟨k, rfl, rfl⟩
theorem bndN_cases {α β : Type} {m : Res α} {f : α → Hm → Res β} {res : Except String β} {h' : Hm} (e : bndN m f = some (res, h')) : ∃ x h1, m = some (.ok x, h1) ∧ f x h1 = some (res, h') := by
  match m, e with
  | some (.ok x, h1), e => exact ⟨x, h1, rfl, e⟩
theorem liftO_cases {α : Type} {o : Option α} {h h' : Hm} {res : Except String α} (e : liftO o h = some (res, h')) : ∃ x, o = some x ∧ res = .ok x ∧ h' = h := by
  cases o with
  | none => cases e
  | some x => cases e; exact ⟨x, rfl, rfl, rfl⟩

def SE (cl : Cl) (e : E) : Prop := ∀ (c : RC), RCok c cl → ∀ env h res h', ev c.P cl e env h = some (res, h') → ∀ r σ H Q, Sim c.K r h H → EnvR c.K r h.next H σ env → PG c.K (c.wt σ) r h H (RepV c.K) Q res h' → rdE c e σ H Q
def SA (cl : Cl) (e : Es) : Prop := ∀ (c : RC), RCok c cl → ∀ env h res h', evs c.P cl e env h = some (res, h') → ∀ r σ H Q, Sim c.K r h H → EnvR c.K r h.next H σ env → PG c.K (c.wt σ) r h H (RepL c.K) Q res h' → rdA c e σ H Q
def SO (cl : Cl) (e : Eo) : Prop := ∀ (c : RC), RCok c cl → ∀ env h res h', evO c.P cl e env h = some (res, h') → ∀ r σ H Q, Sim c.K r h H → EnvR c.K r h.next H σ env → PG c.K (c.wt σ) r h H (fun _ _ _ x y => x = y) Q res h' → rdO c e σ H Q
def ST (cl : Cl) (e : T) : Prop := ∀ (c : RC), RCok c cl → ∀ env h res h', evT c.P cl e env h = some (res, h') → ∀ r σ H Q, Sim c.K r h H → EnvR c.K r h.next H σ env → PG c.K (c.wt σ) r h H (fun _ _ _ x y => x = y) Q res h' → rdT c e σ H Q

section
variable {cl : Cl} {c : RC} {a b : E} {env : Env} {h h' : Hm} {r : Rho} {σ : L2.St} {H : Hp}
/-- one operand, then f -/
theorem s1 {β : Type} (ha : SE cl a) (k : RCok c cl) {f : D → Hm → Res β} {res : Except String β} (e : bnd (ev c.P cl a env h) f = some (res, h')) (S : Sim c.K r h H) (en : EnvR c.K r h.next H σ env)
    {B : Type} {R : Rho → Nat → Hp → B → β → Prop} {Q0 : B → Hp → Prop} (p : PG c.K (c.wt σ) r h H R Q0 res h') {Q : VK}
    (w : ∀ x h1 v r1 H1, f x h1 = some (res, h') → Sim c.K r1 h1 H1 → Ext c.K r h.next H r1 h1.next H1 → RepV c.K r1 h1.next H1 v x → EnvR c.K r1 h1.next H1 σ env → PG c.K (c.wt σ) r1 h1 H1 R Q0 res h' → Q v H1) : rdE c a σ H Q := by
  rcases bnd_cases e with ⟨x, h1, e1, e2⟩ | ⟨kk, e1, e2⟩
  · exact ha c k env h _ h1 e1 r σ H Q S en fun v r1 H1 S1 x1 q1 => w x h1 v r1 H1 e2 S1 x1 q1 (en.ext x1) (p.later x1)
  · subst e2
    exact ha c k env h _ h' e1 r σ H Q S en p
theorem s1T {β : Type} {t : T} (ha : ST cl t) (k : RCok c cl) {f : Bool → Hm → Res β} {res : Except String β} (e : bnd (evT c.P cl t env h) f = some (res, h')) (S : Sim c.K r h H) (en : EnvR c.K r h.next H σ env)
    {B : Type} {R : Rho → Nat → Hp → B → β → Prop} {Q0 : B → Hp → Prop} (p : PG c.K (c.wt σ) r h H R Q0 res h') {Q : Bool → Hp → Prop}
    (w : ∀ x h1 r1 H1, f x h1 = some (res, h') → Sim c.K r1 h1 H1 → Ext c.K r h.next H r1 h1.next H1 → EnvR c.K r1 h1.next H1 σ env → PG c.K (c.wt σ) r1 h1 H1 R Q0 res h' → Q x H1) : rdT c t σ H Q := by
  rcases bnd_cases e with ⟨x, h1, e1, e2⟩ | ⟨kk, e1, e2⟩
  · refine ha c k env h _ h1 e1 r σ H Q S en fun v r1 H1 S1 x1 q1 => ?_
    subst q1
    exact w v h1 r1 H1 e2 S1 x1 (en.ext x1) (p.later x1)
  · subst e2
    exact ha c k env h _ h' e1 r σ H Q S en p
theorem s1O {β : Type} {t : Eo} (ha : SO cl t) (k : RCok c cl) {f : Option Int → Hm → Res β} {res : Except String β} (e : bnd (evO c.P cl t env h) f = some (res, h')) (S : Sim c.K r h H) (en : EnvR c.K r h.next H σ env)
    {B : Type} {R : Rho → Nat → Hp → B → β → Prop} {Q0 : B → Hp → Prop} (p : PG c.K (c.wt σ) r h H R Q0 res h') {Q : Option Int → Hp → Prop}
    (w : ∀ x h1 r1 H1, f x h1 = some (res, h') → Sim c.K r1 h1 H1 → Ext c.K r h.next H r1 h1.next H1 → EnvR c.K r1 h1.next H1 σ env → PG c.K (c.wt σ) r1 h1 H1 R Q0 res h' → Q x H1) : rdO c t σ H Q := by
  rcases bnd_cases e with ⟨x, h1, e1, e2⟩ | ⟨kk, e1, e2⟩
  · refine ha c k env h _ h1 e1 r σ H Q S en fun v r1 H1 S1 x1 q1 => ?_
    subst q1
    exact w v h1 r1 H1 e2 S1 x1 (en.ext x1) (p.later x1)
  · subst e2
    exact ha c k env h _ h' e1 r σ H Q S en p
theorem s1A {β : Type} {t : Es} (ha : SA cl t) (k : RCok c cl) {f : List D → Hm → Res β} {res : Except String β} (e : bnd (evs c.P cl t env h) f = some (res, h')) (S : Sim c.K r h H) (en : EnvR c.K r h.next H σ env)
    {B : Type} {R : Rho → Nat → Hp → B → β → Prop} {Q0 : B → Hp → Prop} (p : PG c.K (c.wt σ) r h H R Q0 res h') {Q : List V → Hp → Prop}
    (w : ∀ x h1 v r1 H1, f x h1 = some (res, h') → Sim c.K r1 h1 H1 → Ext c.K r h.next H r1 h1.next H1 → RepL c.K r1 h1.next H1 v x → EnvR c.K r1 h1.next H1 σ env → PG c.K (c.wt σ) r1 h1 H1 R Q0 res h' → Q v H1) : rdA c t σ H Q := by
  rcases bnd_cases e with ⟨x, h1, e1, e2⟩ | ⟨kk, e1, e2⟩
  · exact ha c k env h _ h1 e1 r σ H Q S en fun v r1 H1 S1 x1 q1 => w x h1 v r1 H1 e2 S1 x1 q1 (en.ext x1) (p.later x1)
  · subst e2
    exact ha c k env h _ h' e1 r σ H Q S en p
theorem repCst (K : PySem.W.Frag) (r : Rho) (n : Nat) (H : Hp) (k : Cst) : RepV K r n H (cV k) k.d := by
  cases k with
  | non => exact .non
  | bl b => exact .bl b
  | int i => exact .int i
  | str s => exact .str _
theorem repCsts (K : PySem.W.Frag) (r : Rho) (n : Nat) (H : Hp) : ∀ ds : List Cst, RepL K r n H (ds.map cV) (ds.map Cst.d)
  | [] => .nil
  | k :: ks => .cons (repCst K r n H k) (repCsts K r n H ks)

theorem dgetT_of {K : PySem.W.Frag} {r : Rho} {h : Hm} {H : Hp} (S : Sim K r h H) {a : Nat} {o : Option D} {us : List V} {ks : List D} (q : RepL K r h.next H us ks) (e : dgetT h a ks = some o) {b : Addr} (hb : H b = some (.tup us)) :
    ∃ u, DGet H (r a) (.ref b) u ∧ (∀ d, o = some d → ∃ z, u = some z ∧ RepV K r h.next H z d) ∧ (o = none → u = none) := by
  unfold dgetT at e
  split at e
  · rename_i kvs ha
    obtain ⟨k, e1, e2⟩ := Option.map_eq_some_iff.mp e
    obtain ⟨ws, h1, q1⟩ := (S.obj a _ ha).2
    obtain ⟨g1, g2⟩ := repK_get k q1
    rw [keys_of q e1] at hb
    refine ⟨_, DGet.t h1 hb, fun d z => ?_, fun z => ?_⟩
    · rw [z] at e2
      exact g1 d e2
    · rw [z] at e2
      exact g2 e2
  · rename_i kvs ha
    obtain ⟨k, e1, e2⟩ := Option.map_eq_some_iff.mp e
    obtain ⟨ob, ws, h1, q1⟩ := (S.obj a _ ha).2
    obtain ⟨g1, g2⟩ := repK_get k q1
    rw [keys_of q e1] at hb
    refine ⟨_, Or.inr ⟨ws, k, b, .inr ⟨ob, h1⟩, rfl, hb, rfl⟩, fun d z => ?_, fun z => ?_⟩
    · rw [z] at e2
      exact g1 d e2
    · rw [z] at e2
      exact g2 e2
  · cases e
theorem isD_of {K : PySem.W.Frag} {r : Rho} {h : Hm} {H : Hp} (S : Sim K r h H) {a : Nat} {ks : List D} {o : Option D} (e : dgetT h a ks = some o) : IsD H (r a) := by
  unfold dgetT at e
  split at e
  · rename_i kvs ha
    obtain ⟨ws, h1, _⟩ := (S.obj a _ ha).2
    exact .inr ⟨ws, .inl h1⟩
  · rename_i kvs ha
    obtain ⟨ob, ws, h1, _⟩ := (S.obj a _ ha).2
    exact .inr ⟨ws, .inr ⟨ob, h1⟩⟩
  · cases e

/-- a comprehension's turns -/
theorem s_comp {elt : E} {tst : T} {g : Tg} {gd : List (Nat × O)} {own : List Nat} {items : List D} {a0 : Nat} (hE : SE cl elt) (hT : ST cl tst) (k : RCok c cl) {J : It} {r1 : Rho} {n1 : Nat} {H1 : Hp} (G : Gives c.K J items gd r1 n1 H1)
    (hg : ∀ i ∈ g.is, i ∈ own) {r0 : Rho} {h0 : Hm} {H0 : Hp} (S0 : Sim c.K r0 h0 H0) (x0 : Ext c.K r1 n1 H1 r0 h0.next H0) (la : a0 < h0.next) (en : EnvR c.K r0 h0.next H0 σ env) {res : Except String D} {Q : VK} {W : XK}
    (e : compL (fun e1 h2 => ev c.P cl elt e1 h2) (fun e1 h2 => evT c.P cl tst e1 h2) g gd a0 (wipeE env own) items h0 = some (res, h')) (p : PG c.K W r0 h0 H0 (RepV c.K) Q res h') :
    ∃ W : Nat → Nat → Hp → Prop, (∃ m, W 0 m H0) ∧ ∀ i m H, W i m H → (J.stop i H ∧ Q (.ref (r0 a0)) H) ∨ (J.go i H ∧ ∃ Nx : Hp → Prop, (∀ H', Nx H' → ∃ m', m' < m ∧ W (i + 1) m' H') ∧
      ∀ x H', J.yld i H x H' → rdG c.K g x (wipe σ own) H' fun σ2 H2 => wipe σ2 own = wipe σ own ∧ rdT (c.with noW) tst σ2 H2 fun b H3 =>
        if b = true then rdE (c.with noW) elt σ2 H3 fun y H4 => ∃ acc, H4 (r0 a0) = some (.lst acc) ∧ acc.length < sizeLine ∧ Nx (upd H4 (r0 a0) (.lst (acc ++ [y]))) else Nx H3) := by
  refine ⟨fun i m H => m = items.length - i ∧ i ≤ items.length ∧ ∃ r h, Sim c.K r h H ∧ Ext c.K r0 h0.next H0 r h.next H ∧
    compL (fun e1 h2 => ev c.P cl elt e1 h2) (fun e1 h2 => evT c.P cl tst e1 h2) g gd a0 (wipeE env own) (items.drop i) h = some (res, h'), ⟨_, rfl, Nat.zero_le _, r0, h0, S0, Ext.refl, e⟩, ?_⟩
  rintro i m H ⟨rfl, hi, r, h, S, x, e⟩
  have k' : RCok (c.with noW) cl := k.with noW
  cases hd : items[i]? with
  | none =>
    have hl : items.length ≤ i := List.getElem?_eq_none_iff.mp hd
    rw [List.drop_of_length_le hl] at e
    unfold compL at e
    split at e
    · rename_i st
      cases e
      refine .inl ⟨((G r _ H S (x0.trans x) st i).2 hl), ?_⟩
      rw [← x.at_ a0 la]
      exact p _ r H S x (.ref (Nat.lt_of_lt_of_le la x.le))
    · cases e
  | some d =>
    have hil : i < items.length := (List.getElem?_eq_some_iff.mp hd).1
    have ed : items.drop i = d :: items.drop (i + 1) := by
      rw [List.drop_eq_getElem_cons hil]
      congr 1
      rw [List.getElem?_eq_getElem hil] at hd
      exact Option.some.inj hd
    rw [ed] at e
    unfold compL at e
    split at e
    · rename_i st
      obtain ⟨g1, g2⟩ := (G r h H S (x0.trans x) st i).1 d hd
      refine .inr ⟨g1, fun H' => ∃ r h, Sim c.K r h H' ∧ Ext c.K r0 h0.next H0 r h.next H' ∧
        compL (fun e1 h2 => ev c.P cl elt e1 h2) (fun e1 h2 => evT c.P cl tst e1 h2) g gd a0 (wipeE env own) (items.drop (i + 1)) h = some (res, h'), ?_, ?_⟩
      · rintro H' ⟨r2, h2, S2, x2, e2⟩
        exact ⟨_, by omega, rfl, hil, r2, h2, S2, x2, e2⟩
      · intro y H' yl
        obtain ⟨S', x', q'⟩ := g2 y H' yl
        split at e
        · cases e
        · rename_i env1 he1
          have en' : EnvR c.K r h.next H' (wipe σ own) (wipeE env own) := ((en.ext x).ext x').wipe own
          refine s_g q' en' he1 fun σ2 en2 ap => ⟨(ap own hg).trans wipe_wipe, ?_⟩
          obtain ⟨b, h2, e1, e2⟩ := bndN_cases e
          refine hT (c.with noW) k' env1 h _ h2 e1 r σ2 H' _ S' en2 ?_
          intro b' r2 H2 S2 x2 eb
          subst eb
          split at e2
          · rename_i hb
            subst hb
            rw [if_pos rfl]
            obtain ⟨z, h3, e3, e4⟩ := bndN_cases e2
            refine hE (c.with noW) k' env1 h2 _ h3 e3 r2 σ2 H2 _ S2 (en2.ext x2) ?_
            intro v r3 H3 S3 x3 q3
            split at e4
            · rename_i acc ha
              split at e4
              · rename_i hl
                obtain ⟨vs, h1, q4⟩ := (S3.obj a0 _ ha).2
                have xx := ((x.trans x').trans x2).trans x3
                have er : r3 a0 = r0 a0 := xx.at_ a0 la
                rw [er] at h1
                refine ⟨vs, h1, by rw [q4.len]; exact lim_lt hl, r3, _, ?_, ?_, e4⟩
                · rw [← er]
                  exact S3.put ha rfl rfl ⟨_, upd_same, (q4.ext (S3.free ha rfl).ext).append1 (q3.ext (S3.free ha rfl).ext)⟩
                · refine xx.trans ?_
                  rw [← er]
                  exact (S3.free ha rfl).ext
              · cases e4
            · cases e4
          · rename_i hb
            rw [if_neg hb]
            exact ⟨r2, h2, S2, (x.trans x').trans x2, e2⟩
    · cases e
end

mutual
theorem sE (cl : Cl) : ∀ e : E, SE cl e
  | .var i => by
    intro c k env h res h' e r σ H Q S en p
    simp only [ev] at e
    split at e
    · rename_i d hd
      cases e
      obtain ⟨v, e1, q⟩ := en.at_ i d hd
      exact ⟨v, e1, s_plain S q p⟩
    · cases e
  | .con kk => by
    intro c k env h res h' e r σ H Q S en p
    simp only [ev] at e
    cases e
    exact s_plain S (repCst _ _ _ _ kk) p
  | .glo x => by
    intro c k env h res h' e r σ H Q S en p
    simp only [ev] at e
    obtain ⟨d, e1, e2, e3⟩ := liftO_cases e
    subst e2 e3
    exact s_plain S (k.gv x d e1 _ _ _) p
  | .bin o a b => by
    intro c k env h res h' e r σ H Q S en p
    simp only [ev] at e
    exact s1 (sE cl a) k e S en p fun x h1 v r1 H1 e1 S1 x1 q1 en1 p1 => s1 (sE cl b) k e1 S1 en1 p1 fun y h2 w r2 H2 e2 S2 x2 q2 en2 p2 => s_bin S2 (q1.ext x2) q2 e2 p2
  | .neg a => by
    intro c k env h res h' e r σ H Q S en p
    simp only [ev] at e
    refine s1 (sE cl a) k e S en p fun x h1 v r1 H1 e1 S1 x1 q1 en1 p1 => ?_
    cases q1 with
    | int i => cases e1; exact ⟨i, rfl, s_plain S1 (.int _) p1⟩
    | _ => cases e1
  | .cmp o a b => by
    intro c k env h res h' e r σ H Q S en p
    simp only [ev] at e
    refine s1 (sE cl a) k e S en p fun x h1 v r1 H1 e1 S1 x1 q1 en1 p1 => s1 (sE cl b) k e1 S1 en1 p1 fun y h2 w r2 H2 e2 S2 x2 q2 en2 p2 => ?_
    obtain ⟨d, e3, e4, e5⟩ := liftO_cases e2
    obtain ⟨bb, e6, e7⟩ := Option.map_eq_some_iff.mp e3
    subst e4 e5 e7
    exact s_cmp S2 (q1.ext x2) q2 e6 (s_plain S2 (.bl _) p2)
  | .chn o o' a b d => by
    intro c k env h res h' e r σ H Q S en p
    simp only [ev] at e
    refine s1 (sE cl a) k e S en p fun x h1 v r1 H1 e1 S1 x1 q1 en1 p1 => s1 (sE cl b) k e1 S1 en1 p1 fun y h2 w r2 H2 e2 S2 x2 q2 en2 p2 => ?_
    split at e2
    · rename_i hc
      refine s_cmp S2 (q1.ext x2) q2 hc ⟨true, rfl, ?_⟩
      rw [if_pos rfl]
      refine s1 (sE cl d) k e2 S2 en2 p2 fun z h3 u r3 H3 e3 S3 x3 q3 en3 p3 => ?_
      obtain ⟨d, e4, e5, e6⟩ := liftO_cases e3
      obtain ⟨bb, e7, e8⟩ := Option.map_eq_some_iff.mp e4
      subst e5 e6 e8
      exact s_cmp S3 (q2.ext x3) q3 e7 (s_plain S3 (.bl _) p3)
    · rename_i hc
      cases e2
      refine s_cmp S2 (q1.ext x2) q2 hc ⟨false, rfl, ?_⟩
      rw [if_neg Bool.false_ne_true]
      exact s_plain S2 (.bl _) p2
    · cases e2
  | .and a b => by
    intro c k env h res h' e r σ H Q S en p
    simp only [ev] at e
    refine s1 (sE cl a) k e S en p fun x h1 v r1 H1 e1 S1 x1 q1 en1 p1 => ?_
    cases q1 with
    | bl bb =>
      refine ⟨bb, rfl, ?_⟩
      cases bb with
      | true => rw [if_pos rfl]; exact sE cl b c k env h1 _ h' e1 r1 σ H1 Q S1 en1 p1
      | false =>
        rw [if_neg Bool.false_ne_true]
        cases e1
        exact s_plain S1 (.bl _) p1
    | _ => cases e1
  | .or a b => by
    intro c k env h res h' e r σ H Q S en p
    simp only [ev] at e
    refine s1 (sE cl a) k e S en p fun x h1 v r1 H1 e1 S1 x1 q1 en1 p1 => ?_
    cases q1 with
    | bl bb =>
      refine ⟨bb, rfl, ?_⟩
      cases bb with
      | true =>
        rw [if_pos rfl]
        cases e1
        exact s_plain S1 (.bl _) p1
      | false => rw [if_neg Bool.false_ne_true]; exact sE cl b c k env h1 _ h' e1 r1 σ H1 Q S1 en1 p1
    | _ => cases e1
  | .not a => by
    intro c k env h res h' e r σ H Q S en p
    simp only [ev] at e
    refine s1 (sE cl a) k e S en p fun x h1 v r1 H1 e1 S1 x1 q1 en1 p1 => ?_
    cases q1 with
    | bl bb => cases e1; exact ⟨bb, rfl, s_plain S1 (.bl _) p1⟩
    | _ => cases e1
  | .ife t a b => by
    intro c k env h res h' e r σ H Q S en p
    simp only [ev] at e
    refine s1T (sT cl t) k e S en p fun x h1 r1 H1 e1 S1 x1 en1 p1 => ?_
    cases x with
    | true => rw [if_pos rfl] at e1 ⊢; exact sE cl a c k env h1 _ h' e1 r1 σ H1 Q S1 en1 p1
    | false => rw [if_neg Bool.false_ne_true] at e1 ⊢; exact sE cl b c k env h1 _ h' e1 r1 σ H1 Q S1 en1 p1
  | .idx a b => by
    intro c k env h res h' e r σ H Q S en p
    simp only [ev] at e
    refine s1 (sE cl a) k e S en p fun x h1 v r1 H1 e1 S1 x1 q1 en1 p1 => s1 (sE cl b) k e1 S1 en1 p1 fun y h2 w r2 H2 e2 S2 x2 q2 en2 p2 => ?_
    obtain ⟨d, e3, e4, e5⟩ := liftO_cases e2
    subst e4 e5
    exact s_idx S2 (q1.ext x2) q2 e3 p2
  | .dgt a b => by
    intro c k env h res h' e r σ H Q S en p
    simp only [ev] at e
    refine s1 (sE cl a) k e S en p fun x h1 v r1 H1 e1 S1 x1 q1 en1 p1 => s1 (sE cl b) k e1 S1 en1 p1 fun y h2 w r2 H2 e2 S2 x2 q2 en2 p2 => ?_
    have q1' := q1.ext x2
    cases q1' with
    | @ref a la =>
      simp only at e2
      split at e2
      · rename_i d hd
        cases e2
        obtain ⟨u, g, g1, _⟩ := dget_of S2 q2 hd
        obtain ⟨z, ez, qz⟩ := g1 _ rfl
        subst ez
        exact ⟨_, z, rfl, g, s_plain S2 qz p2⟩
      · cases e2
    | _ => cases e2
  | .slc a lo hi => by
    intro c k env h res h' e r σ H Q S en p
    simp only [ev] at e
    exact s1 (sE cl a) k e S en p fun x h1 v r1 H1 e1 S1 x1 q1 en1 p1 => s1O (sO cl lo) k e1 S1 en1 p1 fun l h2 r2 H2 e2 S2 x2 en2 p2 =>
      s1O (sO cl hi) k e2 S2 en2 p2 fun u h3 r3 H3 e3 S3 x3 en3 p3 => s_slc S3 (q1.ext (x2.trans x3)) e3 p3
  | .att a f => by
    intro c k env h res h' e r σ H Q S en p
    simp only [ev] at e
    refine s1 (sE cl a) k e S en p fun x h1 v r1 H1 e1 S1 x1 q1 en1 p1 => ?_
    cases q1 with
    | @ref a la =>
      simp only at e1
      split at e1
      · rename_i cn fs ha
        split at e1
        · rename_i hf
          obtain ⟨d, e3, e4, e5⟩ := liftO_cases e1
          subst e4 e5
          obtain ⟨dx, ws, h1, q2⟩ := (S1.obj a _ ha).2
          obtain ⟨u, e6, q3⟩ := repF_get q2 e3
          obtain ⟨c1, c2⟩ := k.fld cn f hf
          exact ⟨_, _, dx, ws, u, rfl, h1, c1, c2, e6, s_plain S1 q3 p1⟩
        · cases e1
      · cases e1
    | _ => cases e1
  | .tup es => by
    intro c k env h res h' e r σ H Q S en p
    simp only [ev] at e
    refine s1A (sA cl es) k e S en p fun x h1 v r1 H1 e1 S1 x1 q1 en1 p1 => ?_
    split at e1
    · rename_i hl
      cases e1
      exact ⟨by rw [q1.len]; exact lim_le hl, s_newtup S1 q1 p1⟩
    · cases e1
  | .lst es => by
    intro c k env h res h' e r σ H Q S en p
    simp only [ev] at e
    refine s1A (sA cl es) k e S en p fun x h1 v r1 H1 e1 S1 x1 q1 en1 p1 => ?_
    split at e1
    · rename_i hl
      cases e1
      exact ⟨by rw [q1.len]; exact lim_le hl, s_newlist S1 q1 p1⟩
    · cases e1
  | .dict .nil => by
    intro c k env h res h' e r σ H Q S en p
    simp only [ev] at e
    cases e
    exact s_newdict S (ws := []) (kvs := []) ⟨rfl, .nil⟩ p
  | .dict (.cons a b) => by
    intro c k env h res h' e r σ H Q S en p
    simp only [ev] at e
    cases e
  | .call f es ds => by
    intro c k env h res h' e r σ H Q S en p
    simp only [ev] at e
    exact s1A (sA cl es) k e S en p fun x h1 v r1 H1 e1 S1 x1 q1 en1 p1 => k.sp f _ h1 res h' e1 r1 H1 _ Q _ S1 (q1.app (repCsts _ _ _ _ ds)) p1
  | .meth o m es ds => by
    intro c k env h res h' e r σ H Q S en p
    simp only [ev] at e
    refine s1 (sE cl o) k e S en p fun x h1 v r1 H1 e1 S1 x1 q1 en1 p1 => ?_
    cases q1 with
    | @ref a la =>
      simp only at e1
      split at e1
      · rename_i cn fs ha
        split at e1
        · rename_i f hm hl
          obtain ⟨dx, ws, h1, q2⟩ := (S1.obj a _ ha).2
          refine ⟨_, dx, ws, cn, f, rfl, h1, hm, repF_none q2 hl, ?_⟩
          refine s1A (sA cl es) k e1 S1 en1 p1 fun vs h2 us r2 H2 e2 S2 x2 q3 en2 p2 => ?_
          exact k.sp f _ h2 res h' e2 r2 H2 _ Q _ S2 (.cons (RepV.ext x2 (.ref la)) (q3.app (repCsts _ _ _ _ ds))) p2
        · cases e1
      · cases e1
    | _ => cases e1
  | .new cn es => by
    intro c k env h res h' e r σ H Q S en p
    simp only [ev] at e
    refine s1A (sA cl es) k e S en p fun ds h1 vs r1 H1 e1 S1 x1 q1 en1 p1 => ?_
    intro x dx nx ndx ne
    split at e1
    · rename_i f hm
      refine ⟨f, hm, ?_⟩
      have nx' : upd H1 dx (.own x) x = none := by rw [upd_ne ne.symm]; exact nx
      have xa := (Free.ext (K := c.K) (r := r1) (n := h1.next) (u := .own x) (.inl ndx))
      have xb := (Free.extN (K := c.K) (r := r1) (n := h1.next) (u := .ins (ca c.K cn) dx []) (.inl nx'))
      have S2 : Sim c.K (rn r1 h1.next x) (h1.new (.ins cn [])) (upd (upd H1 dx (.own x)) x (.ins (ca c.K cn) dx [])) := (S1.grow ndx).new nx' rfl ⟨dx, [], upd_same, rfl, .nil⟩
      have xx := xa.trans xb
      have ev0 : V.ref x = .ref (rn r1 h1.next x h1.next) := by rw [rn_at]
      rcases bnd_cases e1 with ⟨d, h2, e2, e3⟩ | ⟨kk, e2, e3⟩
      · refine k.sp f _ _ _ h2 e2 _ _ _ _ _ S2 (.cons (by rw [ev0]; exact .ref (Nat.lt_succ_self _)) (q1.ext xx)) ?_
        intro v r3 H3 S3 x3 q3
        cases q3 with
        | non =>
          cases e3
          refine ⟨rfl, p1 (.ref x) r3 H3 S3 (xx.trans x3) ?_⟩
          rw [ev0, ← x3.at_ h1.next (Nat.lt_succ_self _)]
          exact .ref (Nat.lt_of_lt_of_le (Nat.lt_succ_self _) x3.le)
        | _ => cases e3
      · subst e3
        refine k.sp f _ _ _ h' e2 _ _ _ _ _ S2 (.cons (by rw [ev0]; exact .ref (Nat.lt_succ_self _)) (q1.ext xx)) ?_
        exact fun r3 H3 S3 x3 => p1 r3 H3 S3 (xx.trans x3)
    · cases e1
  | .bi b es => by
    intro c k env h res h' e r σ H Q S en p
    simp only [ev] at e
    exact s1A (sA cl es) k e S en p fun x h1 v r1 H1 e1 S1 x1 q1 en1 p1 => s_bi S1 q1 e1 p1
  | .bm b o es => by
    intro c k env h res h' e r σ H Q S en p
    simp only [ev] at e
    refine s1 (sE cl o) k e S en p fun x h1 v r1 H1 e1 S1 x1 q1 en1 p1 => ?_
    split at e1
    · rename_i hr
      exact ⟨s_rcv S1 q1 hr, s1A (sA cl es) k e1 S1 en1 p1 fun vs h2 us r2 H2 e2 S2 x2 q2 en2 p2 => s_bm S2 (q1.ext x2) q2 e2 p2⟩
    · cases e1
  | .gix x a => by
    intro c k env h res h' e r σ H Q S en p
    simp only [ev] at e
    split at e
    · rename_i xs hx
      refine ⟨k.gt x xs hx H, ?_⟩
      refine s1 (sE cl a) k e S en p fun y h1 v r1 H1 e1 S1 x1 q1 en1 p1 => ?_
      unfold gixD at e1
      split at e1
      · rename_i ys z ey
        cases ey
        split at e1
        · rename_i zs hz
          split at e1
          · rename_i j hj
            cases e1
            cases q1
            have qg := k.gv x _ hx r1 h'.next H1
            generalize hgv : c.gv x = gvx at qg
            cases qg with
            | @tup pp vs ds hT q2 =>
              rw [q2.strs hz] at hT
              obtain ⟨f1, f2, f3⟩ := List.findIdx?_eq_some_iff_getElem.mp hj
              refine ⟨pp, zs, z, j, rfl, rfl, hT, ?_, fun m hm => ?_, s_plain S1 (.int _) p1⟩
              · rw [List.getElem?_eq_getElem f1]
                exact congrArg some (of_decide_eq_true f2)
              · intro hh
                have hml : m < zs.length := by omega
                have := f3 m hm
                rw [List.getElem?_eq_getElem hml] at hh
                simp only [Option.some.injEq] at hh
                simp [hh] at this
          · cases e1
        · cases e1
      · cases e1
    · cases e
  | .isi a t => by
    intro c k env h res h' e r σ H Q S en p
    simp only [ev] at e
    refine s1 (sE cl a) k e S en p fun x h1 v r1 H1 e1 S1 x1 q1 en1 p1 => ?_
    obtain ⟨d, e3, e4, e5⟩ := liftO_cases e1
    obtain ⟨n, e6, e7⟩ := Option.map_eq_some_iff.mp e3
    subst e4 e5 e7
    obtain ⟨t1, t2⟩ := ty_of S1 q1 e6
    exact ⟨v, .ty t.nm, _, .type t.nm, isTn n t, rfl, .ty _, t1, kit_ty (kitAll n t.nm t2 (nm_mem t)), s_plain S1 (.bl _) p1⟩
  | .isi2 a t u => by
    intro c k env h res h' e r σ H Q S en p
    simp only [ev] at e
    refine s1 (sE cl a) k e S en p fun x h1 v r1 H1 e1 S1 x1 q1 en1 p1 => ?_
    obtain ⟨d, e3, e4, e5⟩ := liftO_cases e1
    obtain ⟨n, e6, e7⟩ := Option.map_eq_some_iff.mp e3
    subst e4 e5 e7
    refine ⟨by show 2 ≤ sizeLine; rw [sizeLine_eq]; decide, fun q nq => ?_⟩
    have xq := (Free.ext (K := c.K) (r := r1) (n := h'.next) (u := .tup [.ty t.nm, .ty u.nm]) (.inl nq))
    have S2 := S1.grow (u := .tup [.ty t.nm, .ty u.nm]) nq
    obtain ⟨t1, t2⟩ := ty_of S2 (q1.ext xq) e6
    show rIsiT c.K [v, .ref q] _ Q
    refine ⟨v, q, _, _, [.type t.nm, .type u.nm], isTn n t || isTn n u, rfl, upd_same, .cons (.ty _) (.cons (.ty _) .nil), t1, ?_, p1 _ r1 _ S2 xq (.bl _)⟩
    refine kitAny_cons (kit_ty (kitAll n t.nm t2 (nm_mem t))) (fun h1 => kitAny_cons (kit_ty (kitAll n u.nm t2 (nm_mem u))) (fun h2 => ?_) fun h2 => ?_) fun h1 => ?_
    · rw [kitAny_nil]
      unfold isTn
      rw [h1, h2]
      rfl
    · unfold isTn
      rw [h1, h2]
      rfl
    · unfold isTn
      rw [h1]
      rfl
  | .comp elt own g kk es tst => by
    intro c k env h res h' e r σ H Q S en p
    simp only [ev] at e
    refine s1A (sA cl es) k e S en p fun ds h1 vs r1 H1 e1 S1 x1 q1 en1 p1 => ?_
    split at e1
    · rename_i items gd hw
      split at e1
      · rename_i hg
        refine s_walk S1 q1 hw fun J G => ?_
        intro a ha
        have xn := (Free.extN (K := c.K) (r := r1) (n := h1.next) (u := .lst []) (.inl ha))
        have S2 : Sim c.K (rn r1 h1.next a) (h1.new (.lst [])) (upd H1 a (.lst [])) := S1.new ha rfl ⟨[], upd_same, .nil⟩
        have hg2 : ∀ i ∈ g.is, i ∈ own := by
          cases g with
          | name i =>
            intro j hj
            cases List.mem_singleton.mp hj
            exact List.contains_iff_mem.mp hg
          | tup is => exact fun j hj => List.contains_iff_mem.mp (List.all_eq_true.mp hg j hj)
        have key := s_comp (sE cl elt) (sT cl tst) k G hg2 S2 xn (Nat.lt_succ_self _) (en1.ext xn) e1 (p1.later xn)
        rw [rn_at] at key
        exact key
      · cases e1
    · cases e1
  | .fst _ => by
    intro c k env h res h' e r σ H Q S en p
    simp only [ev] at e
    cases e
  | .rsl a => by
    intro c k env h res h' e r σ H Q S en p
    simp only [ev] at e
    refine s1 (sE cl a) k e S en p fun x h1 v r1 H1 e1 S1 x1 q1 en1 p1 => ?_
    split at e1
    · rename_i xs hx
      cases e1
      obtain ⟨pp, us, ev, e2, e3⟩ := lstOf_of S1 q1 hx
      subst ev
      exact ⟨pp, us, rfl, e2, s_newlist S1 (RepL.rev e3) p1⟩
    · cases e1
  | .dictT => by
    intro c k env h res h' e r σ H Q S en p
    simp only [ev] at e
    cases e
    intro a ha
    have x1 := (Free.extN (K := c.K) (r := r) (n := h.next) (u := .dT []) (.inl ha))
    have S1 : Sim c.K (rn r h.next a) (h.new (.dit [])) (upd H a (.dT [])) := S.new ha rfl ⟨[], upd_same, rfl, .nil⟩
    have q := p (.ref (rn r h.next a h.next)) _ _ S1 x1 (.ref (Nat.lt_succ_self _))
    rw [rn_at] at q
    exact q
  | .dgtT a es => by
    intro c k env h res h' e r σ H Q S en p
    simp only [ev] at e
    refine s1 (sE cl a) k e S en p fun x h1 v r1 H1 e1 S1 x1 q1 en1 p1 => s1A (sA cl es) k e1 S1 en1 p1 fun ks h2 us r2 H2 e2 S2 x2 q2 en2 p2 => ?_
    have q1' := q1.ext x2
    cases q1' with
    | @ref a la =>
      simp only at e2
      split at e2
      · rename_i hl
        split at e2
        · rename_i d hd
          cases e2
          refine ⟨by rw [q2.len]; exact lim_le hl, fun q nq => ?_⟩
          have xq := (Free.ext (K := c.K) (r := r2) (n := h'.next) (u := .tup us) (.inl nq))
          have S3 := S2.grow (u := .tup us) nq
          obtain ⟨u, g, g1, _⟩ := dgetT_of S3 (q2.ext xq) hd (b := q) upd_same
          obtain ⟨z, ez, qz⟩ := g1 _ rfl
          subst ez
          exact ⟨_, z, rfl, g, p2 z r2 _ S3 xq qz⟩
        · cases e2
      · cases e2
    | _ => cases e2
  | .getT a es d => by
    intro c k env h res h' e r σ H Q S en p
    simp only [ev] at e
    refine s1 (sE cl a) k e S en p fun x h1 v r1 H1 e1 S1 x1 q1 en1 p1 => ?_
    cases q1 with
    | @ref a la =>
      simp only at e1
      split at e1
      · rename_i o0 h0
        refine ⟨_, rfl, isD_of S1 h0, ?_⟩
        refine s1A (sA cl es) k e1 S1 en1 p1 fun ks h2 us r2 H2 e2 S2 x2 q2 en2 p2 => ?_
        have er : r2 a = r1 a := x2.at_ a la
        split at e2
        · rename_i hl
          split at e2
          · rename_i d hd
            cases e2
            refine ⟨by rw [q2.len]; exact lim_le hl, fun q nq => ?_⟩
            have xq := (Free.ext (K := c.K) (r := r2) (n := h'.next) (u := .tup us) (.inl nq))
            have S3 := S2.grow (u := .tup us) nq
            obtain ⟨u, g, g1, _⟩ := dgetT_of S3 (q2.ext xq) hd (b := q) upd_same
            obtain ⟨z, ez, qz⟩ := g1 _ rfl
            subst ez
            rw [er] at g
            exact ⟨_, g, p2 z r2 _ S3 xq qz⟩
          · rename_i hd
            cases e2
            refine ⟨by rw [q2.len]; exact lim_le hl, fun q nq => ?_⟩
            have xq := (Free.ext (K := c.K) (r := r2) (n := h'.next) (u := .tup us) (.inl nq))
            have S3 := S2.grow (u := .tup us) nq
            obtain ⟨u, g, _, g2⟩ := dgetT_of S3 (q2.ext xq) hd (b := q) upd_same
            rw [g2 rfl, er] at g
            exact ⟨_, g, p2 _ r2 _ S3 xq (repCst _ _ _ _ d)⟩
          · cases e2
        · cases e2
      · cases e1
    | _ => cases e1
  | .lck i a => by
    intro c k env h res h' e r σ H Q S en p
    simp only [ev] at e
    split at e
    · rename_i a0 ha0
      split at e
      · rename_i o ho
        split at e
        · rename_i o' hl
          obtain ⟨x, h2, e1, e2⟩ := bndN_cases e
          split at e2
          · rename_i hf
            cases e2
            obtain ⟨u, h1, m, L⟩ := S.lock ho hl
            refine ⟨r a0, u, h1, (dct_mut m).2, fun od => ?_⟩
            obtain ⟨S1, L2⟩ := L od
            have f : Free H (r a0) := S.free ho (by cases o <;> first | rfl | cases hl)
            refine sE cl a c k env _ _ h2 e1 r σ _ _ S1 (en.ext f.ext) ?_
            intro v r2 H2 S2 x2 q2
            obtain ⟨er, hd, S3, x3, x4⟩ := L2 r2 h2 H2 S2 x2 hf
            exact ⟨hd, p v r2 _ S3 x3 (q2.ext0 x4)⟩
          · cases e2
        · cases e
      · cases e
    · cases e
  | .isx i cm => by
    intro c k env h res h' e r σ H Q S en p
    simp only [ev] at e
    split at e
    · rename_i kk a he
      split at e
      · rename_i hx
        obtain ⟨d, e3, e4, e5⟩ := liftO_cases e
        obtain ⟨b, e6, e7⟩ := Option.map_eq_some_iff.mp e3
        subst e4 e5 e7
        obtain ⟨x1, x2, x3⟩ := k.xk _ _ hx
        obtain ⟨C, ko⟩ := k.exs _ _ _ e6
        obtain ⟨v, hv, rv⟩ := en.at_ _ _ he
        cases rv
        exact ⟨_, x2, x3, C, by rw [x1]; exact hv, b, ko, s_plain S (.bl _) p⟩
      · cases e
    · cases e
  | .isxB i cm => by
    intro c k env h res h' e r σ H Q S en p
    simp only [ev] at e
    split at e
    · rename_i kk a he
      split at e
      · rename_i hx
        obtain ⟨d, e3, e4, e5⟩ := liftO_cases e
        obtain ⟨b, e6, e7⟩ := Option.map_eq_some_iff.mp e3
        subst e4 e5 e7
        obtain ⟨x1, x2, x3⟩ := k.xk _ _ hx
        obtain ⟨C, ko⟩ := k.exb _ _ _ e6
        obtain ⟨v, hv, rv⟩ := en.at_ _ _ he
        cases rv
        exact ⟨_, x2, x3, C, by rw [x1]; exact hv, b, ko, s_plain S (.bl _) p⟩
      · cases e
    · cases e
  | .isc a cm => by
    intro c k env h res h' e r σ H Q S en p
    simp only [ev] at e
    refine s1 (sE cl a) k e S en p fun x h1 v r1 H1 e1 S1 x1 q1 en1 p1 => ?_
    split at e1
    · rename_i pp
      split at e1
      · rename_i c1 fs hp
        obtain ⟨d, e3, e4, e5⟩ := liftO_cases e1
        obtain ⟨b, e6, e7⟩ := Option.map_eq_some_iff.mp e3
        subst e4 e5 e7
        have J := k.sub _ _ _ e6
        cases q1 with
        | @ref _ lp =>
          obtain ⟨dx, ws, ho, _⟩ := (S1.obj pp _ hp).2
          exact ⟨_, .ref (ca c.K cm), _, .ref (ca c.K cm), b, rfl, .own _, .base (.ins ho J.cl J.ha J.hn J.htk J.hm), J.one, s_plain S1 (.bl _) p1⟩
      · cases e1
    · cases e1
  | .new0 cn => by
    intro c k env h res h' e r σ H Q S en p
    simp only [ev] at e
    cases e
    intro x dx nx ndx ne
    have nx' : upd H dx (.own x) x = none := by rw [upd_ne ne.symm]; exact nx
    have xa := (Free.ext (K := c.K) (r := r) (n := h.next) (u := .own x) (.inl ndx))
    have xb := (Free.extN (K := c.K) (r := r) (n := h.next) (u := .ins (ca c.K cn) dx []) (.inl nx'))
    have S2 : Sim c.K (rn r h.next x) (h.new (.ins cn [])) (upd (upd H dx (.own x)) x (.ins (ca c.K cn) dx [])) := (S.grow ndx).new nx' rfl ⟨dx, [], upd_same, rfl, .nil⟩
    have q := p (.ref (rn r h.next x h.next)) _ _ S2 (xa.trans xb) (.ref (Nat.lt_succ_self _))
    rw [rn_at] at q
    exact q
theorem sA (cl : Cl) : ∀ e : Es, SA cl e
  | .nil => by
    intro c k env h res h' e r σ H Q S en p
    simp only [evs] at e
    cases e
    exact p [] r H S Ext.refl .nil
  | .cons a es => by
    intro c k env h res h' e r σ H Q S en p
    simp only [evs] at e
    refine s1 (sE cl a) k e S en p fun x h1 v r1 H1 e1 S1 x1 q1 en1 p1 => s1A (sA cl es) k e1 S1 en1 p1 fun xs h2 vs r2 H2 e2 S2 x2 q2 en2 p2 => ?_
    cases e2
    exact p2 _ r2 H2 S2 Ext.refl (.cons (q1.ext x2) q2)
theorem sO (cl : Cl) : ∀ e : Eo, SO cl e
  | .none => by
    intro c k env h res h' e r σ H Q S en p
    simp only [evO] at e
    cases e
    exact p none r H S Ext.refl rfl
  | .some a => by
    intro c k env h res h' e r σ H Q S en p
    simp only [evO] at e
    refine s1 (sE cl a) k e S en p fun x h1 v r1 H1 e1 S1 x1 q1 en1 p1 => ?_
    cases q1 with
    | int i => cases e1; exact ⟨i, rfl, p1 _ r1 H1 S1 Ext.refl rfl⟩
    | _ => cases e1
theorem sT (cl : Cl) : ∀ e : T, ST cl e
  | .yes => by
    intro c k env h res h' e r σ H Q S en p
    simp only [evT] at e
    cases e
    exact p true r H S Ext.refl rfl
  | .cmp o a b => by
    intro c k env h res h' e r σ H Q S en p
    simp only [evT] at e
    refine s1 (sE cl a) k e S en p fun x h1 v r1 H1 e1 S1 x1 q1 en1 p1 => s1 (sE cl b) k e1 S1 en1 p1 fun y h2 w r2 H2 e2 S2 x2 q2 en2 p2 => ?_
    obtain ⟨d, e3, e4, e5⟩ := liftO_cases e2
    subst e4 e5
    exact s_cmp S2 (q1.ext x2) q2 e3 ⟨d, rfl, p2 d r2 H2 S2 Ext.refl rfl⟩
  | .chn o o' a b d => by
    intro c k env h res h' e r σ H Q S en p
    simp only [evT] at e
    refine s1 (sE cl a) k e S en p fun x h1 v r1 H1 e1 S1 x1 q1 en1 p1 => s1 (sE cl b) k e1 S1 en1 p1 fun y h2 w r2 H2 e2 S2 x2 q2 en2 p2 => ?_
    split at e2
    · rename_i hc
      refine s_cmp S2 (q1.ext x2) q2 hc ⟨true, rfl, ?_⟩
      rw [if_pos rfl]
      refine s1 (sE cl d) k e2 S2 en2 p2 fun z h3 u r3 H3 e3 S3 x3 q3 en3 p3 => ?_
      obtain ⟨d, e4, e5, e6⟩ := liftO_cases e3
      subst e5 e6
      exact s_cmp S3 (q2.ext x3) q3 e4 ⟨d, rfl, p3 d r3 H3 S3 Ext.refl rfl⟩
    · rename_i hc
      cases e2
      refine s_cmp S2 (q1.ext x2) q2 hc ⟨false, rfl, ?_⟩
      rw [if_neg Bool.false_ne_true]
      exact ⟨false, rfl, p2 false r2 H2 S2 Ext.refl rfl⟩
    · cases e2
  | .and a b => by
    intro c k env h res h' e r σ H Q S en p
    simp only [evT] at e
    refine s1T (sT cl a) k e S en p fun x h1 r1 H1 e1 S1 x1 en1 p1 => ?_
    cases x with
    | true => rw [if_pos rfl] at e1 ⊢; exact sT cl b c k env h1 _ h' e1 r1 σ H1 Q S1 en1 p1
    | false =>
      rw [if_neg Bool.false_ne_true] at e1 ⊢
      cases e1
      exact p1 _ r1 H1 S1 Ext.refl rfl
  | .or a b => by
    intro c k env h res h' e r σ H Q S en p
    simp only [evT] at e
    refine s1T (sT cl a) k e S en p fun x h1 r1 H1 e1 S1 x1 en1 p1 => ?_
    cases x with
    | true =>
      rw [if_pos rfl] at e1 ⊢
      cases e1
      exact p1 _ r1 H1 S1 Ext.refl rfl
    | false => rw [if_neg Bool.false_ne_true] at e1 ⊢; exact sT cl b c k env h1 _ h' e1 r1 σ H1 Q S1 en1 p1
  | .not a => by
    intro c k env h res h' e r σ H Q S en p
    simp only [evT] at e
    refine s1T (sT cl a) k e S en p fun x h1 r1 H1 e1 S1 x1 en1 p1 => ?_
    cases e1
    exact p1 _ r1 H1 S1 Ext.refl rfl
  | .tru a => by
    intro c k env h res h' e r σ H Q S en p
    simp only [evT] at e
    refine s1 (sE cl a) k e S en p fun x h1 v r1 H1 e1 S1 x1 q1 en1 p1 => ?_
    obtain ⟨d, e3, e4, e5⟩ := liftO_cases e1
    subst e4 e5
    exact ⟨d, s_tru S1 q1 e3, p1 d r1 H1 S1 Ext.refl rfl⟩
end
end Z

set_option maxRecDepth 100000
set_option maxHeartbeats 2000000
/-! ZK: statements: their readings, and that the model's runs suffice. -/
namespace Z
open PySem L2

/-- a, b, .. = a tuple, or a list -/
def gSeq (K : PySem.W.Frag) (is : List Nat) : TG := fun v σ H Q => gTup K is.length (gsR is) v σ H Q ∨ gLst K is.length (gsR is) v σ H Q
theorem zg_seq {X : Cx} {es : List Expr} {k : Nat} {is : List Nat} {pos : Pos} (hc : X.calm = true) (h : PGs X es (gsR is))
    (hn : (assignEach es X.env).length = is.length := by rfl) (hst : (assignEach es X.env).findIdx? (·.1) = none := by rfl) : L2.PG X (.Tuple es k pos) (gSeq X.K is) := by
  refine ⟨fun pins s σ H v u Q I r hw => ?_⟩
  rcases hw with hw | hw
  · exact (pg_tup hc h hn hst).run pins s σ H v u Q I r hw
  · exact (pg_lst hc h hn hst).run pins s σ H v u Q I r hw
def rAug : Bop → V → V → Hp → VK → Prop
  | .add => fun x y H Q => ∃ i j, x = .int i ∧ y = .int j ∧ Q (.int (i + j)) H
  | .sub => fun x y H Q => ∃ i j, x = .int i ∧ y = .int j ∧ Q (.int (i - j)) H
  | _ => fun _ _ _ _ => False
def rdS (c : RC) : S → TS
  | .skip => tNext
  | .seq a b => tSeq (rdS c a) (rdS c b)
  | .asg i e => tAsg (rdE c e) (gName i)
  | .unp is e => tAsg (rdE c e) (gSeq c.K is)
  | .sfld o f e => sFld c.K (rdE c o) (rdE c e) (Str.ofString f)
  | .sidx o i e => tAsg (rdE c e) (gSub (rdE c o) (rdE c i) rSetL)
  | .dput o i e => sDPut (rdE c o) (rdE c i) (rdE c e)
  | .aug i o e => tAug i (rdE c e) (rAug o)
  | .augf o f op e => sFldAug c.K (rdE c o) (rdE c e) (rAug op) (Str.ofString f)
  | .augi _ _ _ _ => fun _ _ _ => False
  | .ite t a b => tIfS (rdT c t) (rdS c a) (rdS c b)
  | .for_ g k es body => tFor (rdI c.K k (rdA c es)) (rdG c.K g) (rdS c body)
  | .wh t body => tWhile (rdT c t) (rdS c body)
  | .ret e => tRet (rdE c e)
  | .drop e => tDrop (rdE c e)
  | .rai cn => fun _ σ H => c.W (.ref (ca c.K cn)) none σ H
  | .try_ b cn x s => (match x with
    | none => fun D σ H => rdS (c.with (wOnly c.K (.ref (ca c.K cn)) (fun _ _ _ => rdS (c.with noW) s) c.W D)) b D σ H
    | some i => fun D σ H => rdS (c.with (wAs c.K (.ref (ca c.K cn)) i (fun a cls d D σ H => ∃ k, cls = .ref (ca c.K k) ∧ rdS (c.exc k a cls d) s D σ H) c.W D)) b D σ H)
  | .dputT o es e => sDPut (rdE c o) (tTup (rdA c es)) (rdE c e)
  | .lck _ s => tLock (rdS c s)
  | .par i j es => tPar i j (rdA c es)

/-- what is wished behind a statement -/
def PS' (c : RC) (r : Rho) (h : Hm) (H : Hp) (D : Ends) (env' : Env) (h' : Hm) : Fl → Prop
  | .nx => ∀ σ' r' H', Sim c.K r' h' H' → Ext c.K r h.next H r' h'.next H' → EnvR c.K r' h'.next H' σ' env' → D.nx σ' H'
  | .rt d => ∀ v r' H', Sim c.K r' h' H' → Ext c.K r h.next H r' h'.next H' → RepV c.K r' h'.next H' v d → D.rt v H'
  | .ex k => ∀ σ' r' H', Sim c.K r' h' H' → Ext c.K r h.next H r' h'.next H' → EnvR c.K r' h'.next H' σ' env' → c.W (.ref (ca c.K k)) none σ' H'
section
variable {cl : Cl} {c : RC} {env env' : Env} {h h' h1 : Hm} {r r1 : Rho} {σ : L2.St} {H H1 : Hp} {D : Ends} {fl : Fl}
theorem PS'.later (p : PS' c r h H D env' h' fl) (e : Ext c.K r h.next H r1 h1.next H1) : PS' c r1 h1 H1 D env' h' fl := by
  cases fl with
  | nx => exact fun σ' r' H' S x q => p σ' r' H' S (e.trans x) q
  | rt d => exact fun v r' H' S x q => p v r' H' S (e.trans x) q
  | ex k => exact fun σ' r' H' S x q => p σ' r' H' S (e.trans x) q
def SS (cl : Cl) (s : Z.S) : Prop := ∀ (c : RC), RCok c cl → ∀ env h fl env' h', ex c.P cl s env h = some (fl, env', h') → ∀ r σ H D, Sim c.K r h H → EnvR c.K r h.next H σ env → PS' c r h H D env' h' fl → rdS c s D σ H
theorem toS_cases {α : Type} {m : Res α} {f : α → Hm → Out} (e : toS m env f = some (fl, env', h')) : (∃ x h1, m = some (.ok x, h1) ∧ f x h1 = some (fl, env', h')) ∨ ∃ k, m = some (.error k, h') ∧ fl = .ex k ∧ env' = env := by
  match m, e with
  | some (.ok x, h1), e => exact .inl ⟨x, h1, rfl, e⟩
  | some (.error k, h1), e => cases e; exact .inr ⟨k, rfl, rfl, rfl⟩
/-- an expression, then f -/
theorem t1 {a : E} (k : RCok c cl) {f : Z.D → Hm → Out} (e : toS (ev c.P cl a env h) env f = some (fl, env', h')) (S : Sim c.K r h H) (en : EnvR c.K r h.next H σ env) (p : PS' c r h H D env' h' fl) {Q : VK}
    (w : ∀ x h1 v r1 H1, f x h1 = some (fl, env', h') → Sim c.K r1 h1 H1 → Ext c.K r h.next H r1 h1.next H1 → RepV c.K r1 h1.next H1 v x → EnvR c.K r1 h1.next H1 σ env → PS' c r1 h1 H1 D env' h' fl → Q v H1) : rdE c a σ H Q := by
  rcases toS_cases e with ⟨x, h1, e1, e2⟩ | ⟨kk, e1, e2, e3⟩
  · exact sE cl a c k env h _ h1 e1 r σ H Q S en fun v r1 H1 S1 x1 q1 => w x h1 v r1 H1 e2 S1 x1 q1 (en.ext x1) (p.later x1)
  · subst e2 e3
    exact sE cl a c k env' h _ h' e1 r σ H Q S en fun r' H' S' x' => p σ r' H' S' x' (en.ext x')
theorem t1T {a : T} (k : RCok c cl) {f : Bool → Hm → Out} (e : toS (evT c.P cl a env h) env f = some (fl, env', h')) (S : Sim c.K r h H) (en : EnvR c.K r h.next H σ env) (p : PS' c r h H D env' h' fl) {Q : Bool → Hp → Prop}
    (w : ∀ x h1 r1 H1, f x h1 = some (fl, env', h') → Sim c.K r1 h1 H1 → Ext c.K r h.next H r1 h1.next H1 → EnvR c.K r1 h1.next H1 σ env → PS' c r1 h1 H1 D env' h' fl → Q x H1) : rdT c a σ H Q := by
  rcases toS_cases e with ⟨x, h1, e1, e2⟩ | ⟨kk, e1, e2, e3⟩
  · refine sT cl a c k env h _ h1 e1 r σ H Q S en fun v r1 H1 S1 x1 q1 => ?_
    subst q1
    exact w v h1 r1 H1 e2 S1 x1 (en.ext x1) (p.later x1)
  · subst e2 e3
    exact sT cl a c k env' h _ h' e1 r σ H Q S en fun r' H' S' x' => p σ r' H' S' x' (en.ext x')
theorem t1A {a : Es} (k : RCok c cl) {f : List Z.D → Hm → Out} (e : toS (evs c.P cl a env h) env f = some (fl, env', h')) (S : Sim c.K r h H) (en : EnvR c.K r h.next H σ env) (p : PS' c r h H D env' h' fl) {Q : List V → Hp → Prop}
    (w : ∀ x h1 v r1 H1, f x h1 = some (fl, env', h') → Sim c.K r1 h1 H1 → Ext c.K r h.next H r1 h1.next H1 → RepL c.K r1 h1.next H1 v x → EnvR c.K r1 h1.next H1 σ env → PS' c r1 h1 H1 D env' h' fl → Q v H1) : rdA c a σ H Q := by
  rcases toS_cases e with ⟨x, h1, e1, e2⟩ | ⟨kk, e1, e2, e3⟩
  · exact sA cl a c k env h _ h1 e1 r σ H Q S en fun v r1 H1 S1 x1 q1 => w x h1 v r1 H1 e2 S1 x1 q1 (en.ext x1) (p.later x1)
  · subst e2 e3
    exact sA cl a c k env' h _ h' e1 r σ H Q S en fun r' H' S' x' => p σ r' H' S' x' (en.ext x')
theorem s_aug {o : Bop} {x y z : Z.D} {v w : V} {n : Nat} {Q : VK} (e : augD o x y = some z) (qx : RepV c.K r n H v x) (qy : RepV c.K r n H w y) (p : ∀ u, RepV c.K r n H u z → Q u H) : rAug o v w H Q := by
  cases qx with
  | int i =>
    cases qy with
    | int j => cases o <;> first | (cases e; exact ⟨i, j, rfl, rfl, p _ (.int _)⟩) | cases e
    | _ => cases o <;> cases e
  | _ => cases qy <;> cases o <;> cases e
/-- a for's turns -/
theorem s_for {body : Z.S} {g : Tg} {gd : List (Nat × O)} {items : List Z.D} (hB : SS cl body) (k : RCok c cl) {J : It} {n1 : Nat} (G : Gives c.K J items gd r1 n1 H1) {r0 : Rho} {h0 : Hm} {H0 : Hp} {env0 : Env} {σ0 : L2.St} (S0 : Sim c.K r0 h0 H0)
    (x0 : Ext c.K r1 n1 H1 r0 h0.next H0) (en : EnvR c.K r0 h0.next H0 σ0 env0) (e : forL (fun e1 h2 => ex c.P cl body e1 h2) g gd items env0 h0 = some (fl, env', h')) (p : PS' c r0 h0 H0 D env' h' fl) :
    ∃ W : Nat → Nat → L2.St → Hp → Prop, (∃ m, W 0 m σ0 H0) ∧ ∀ i m σ H, W i m σ H → (J.stop i H ∧ D.nx σ H) ∨ (J.go i H ∧ ∃ N : L2.St → Hp → Prop, (∀ σ' H', N σ' H' → ∃ m', m' < m ∧ W (i + 1) m' σ' H') ∧
      ∀ x H', J.yld i H x H' → rdG c.K g x σ H' fun σ2 H2 => rdS c body { D with nx := N, ct := N, bk := D.nx } σ2 H2) := by
  refine ⟨fun i m σ H => m = items.length - i ∧ i ≤ items.length ∧ ∃ r h env, Sim c.K r h H ∧ Ext c.K r0 h0.next H0 r h.next H ∧ EnvR c.K r h.next H σ env ∧
    forL (fun e1 h2 => ex c.P cl body e1 h2) g gd (items.drop i) env h = some (fl, env', h'), ⟨_, rfl, Nat.zero_le _, r0, h0, env0, S0, Ext.refl, en, e⟩, ?_⟩
  rintro i m σ H ⟨rfl, hi, r, h, env, S, x, en, e⟩
  cases hd : items[i]? with
  | none =>
    have hl : items.length ≤ i := List.getElem?_eq_none_iff.mp hd
    rw [List.drop_of_length_le hl] at e
    unfold forL at e
    split at e
    · rename_i st
      cases e
      exact .inl ⟨((G r _ H S (x0.trans x) st i).2 hl), p σ r H S x en⟩
    · cases e
  | some d =>
    have hil : i < items.length := (List.getElem?_eq_some_iff.mp hd).1
    have ed : items.drop i = d :: items.drop (i + 1) := by
      rw [List.drop_eq_getElem_cons hil]
      congr 1
      rw [List.getElem?_eq_getElem hil] at hd
      exact Option.some.inj hd
    rw [ed] at e
    unfold forL at e
    split at e
    · rename_i st
      obtain ⟨g1, g2⟩ := (G r h H S (x0.trans x) st i).1 d hd
      refine .inr ⟨g1, fun σ' H' => ∃ r h env, Sim c.K r h H' ∧ Ext c.K r0 h0.next H0 r h.next H' ∧ EnvR c.K r h.next H' σ' env ∧
        forL (fun e1 h2 => ex c.P cl body e1 h2) g gd (items.drop (i + 1)) env h = some (fl, env', h'), ?_, ?_⟩
      · rintro σ' H' ⟨r2, h2, env2, S2, x2, en2, e2⟩
        exact ⟨_, by omega, rfl, hil, r2, h2, env2, S2, x2, en2, e2⟩
      · intro y H' yl
        obtain ⟨S', x', q'⟩ := g2 y H' yl
        split at e
        · cases e
        · rename_i env1 he1
          refine s_g q' (en.ext x') he1 fun σ2 en2 _ => ?_
          have xx := x.trans x'
          cases hx : ex c.P cl body env1 h with
          | none => rw [hx] at e; cases e
          | some o =>
            obtain ⟨fl2, env2, h2⟩ := o
            rw [hx] at e
            refine hB c k env1 h fl2 env2 h2 hx r σ2 H' _ S' en2 ?_
            cases fl2 with
            | nx => exact fun σ3 r3 H3 S3 x3 en3 => ⟨r3, h2, env2, S3, xx.trans x3, en3, e⟩
            | rt d =>
              cases e
              exact fun v r3 H3 S3 x3 q3 => p v r3 H3 S3 (xx.trans x3) q3
            | ex kk =>
              cases e
              exact fun σ3 r3 H3 S3 x3 en3 => p σ3 r3 H3 S3 (xx.trans x3) en3
    · cases e
theorem s_wh {t : T} {body : Z.S} (hB : SS cl body) (k : RCok c cl) {n0 : Nat} (S : Sim c.K r h H) (en : EnvR c.K r h.next H σ env)
    (e : whl (fun e1 h1 => evT c.P cl t e1 h1) (fun e1 h1 => ex c.P cl body e1 h1) n0 env h = some (fl, env', h')) (p : PS' c r h H D env' h' fl) : tWhile (rdT c t) (rdS c body) D σ H := by
  refine ⟨fun m σ1 H1 => ∃ r1 h1 env1, Sim c.K r1 h1 H1 ∧ Ext c.K r h.next H r1 h1.next H1 ∧ EnvR c.K r1 h1.next H1 σ1 env1 ∧ whl (fun e1 h1 => evT c.P cl t e1 h1) (fun e1 h1 => ex c.P cl body e1 h1) m env1 h1 = some (fl, env', h'),
    ⟨n0, r, h, env, S, Ext.refl, en, e⟩, ?_⟩
  rintro m σ1 H1 ⟨r1, h1, env1, S1, x1, en1, e1⟩
  cases m with
  | zero => cases e1
  | succ m =>
    unfold whl at e1
    refine t1T k e1 S1 en1 (p.later x1) fun b h2 r2 H2 e2 S2 x2 en2 p2 => ?_
    cases b with
    | false =>
      rw [if_neg Bool.false_ne_true] at e2 ⊢
      cases e2
      exact p2 σ1 r2 H2 S2 Ext.refl en2
    | true =>
      rw [if_pos rfl] at e2 ⊢
      refine ⟨fun σ' H' => ∃ r1 h1 env1, Sim c.K r1 h1 H' ∧ Ext c.K r h.next H r1 h1.next H' ∧ EnvR c.K r1 h1.next H' σ' env1 ∧ whl (fun e1 h1 => evT c.P cl t e1 h1) (fun e1 h1 => ex c.P cl body e1 h1) m env1 h1 = some (fl, env', h'),
        fun σ' H' q => ⟨m, Nat.lt_succ_self _, q⟩, ?_⟩
      have xx := x1.trans x2
      cases hx : ex c.P cl body env1 h2 with
      | none => rw [hx] at e2; cases e2
      | some o =>
        obtain ⟨fl2, env2, h3⟩ := o
        rw [hx] at e2
        refine hB c k env1 h2 fl2 env2 h3 hx r2 σ1 H2 _ S2 en2 ?_
        cases fl2 with
        | nx => exact fun σ3 r3 H3 S3 x3 en3 => ⟨r3, h3, env2, S3, xx.trans x3, en3, e2⟩
        | rt d =>
          cases e2
          exact fun v r3 H3 S3 x3 q3 => p v r3 H3 S3 (xx.trans x3) q3
        | ex kk =>
          cases e2
          exact fun σ3 r3 H3 S3 x3 en3 => p σ3 r3 H3 S3 (xx.trans x3) en3
theorem ixD_of {n m : Nat} {k : Int} {j : Nat} (e : ixD n k = some j) (hn : m = n) : ixN m k = some j := by
  subst hn
  exact e
theorem dput_of {a : Nat} {x : Z.D} {z y : Z.D} {v w : V} (S : Sim c.K r h H) (qk : RepV c.K r h.next H v z) (qv : RepV c.K r h.next H w x) (e : dput h a z x = some h1) :
    ∃ H1, DPut H (r a) v w H1 ∧ Sim c.K r h1 H1 ∧ Ext c.K r h.next H r h1.next H1 := by
  unfold dput at e
  split at e
  · rename_i kvs ha
    split at e
    · rename_i hl
      obtain ⟨q, e1, e2⟩ := Option.map_eq_some_iff.mp e
      subst e2
      obtain ⟨ws, g1, g2⟩ := (S.obj a _ ha).2
      have el : ws.length = kvs.length := by simpa using congrArg List.length g2.1
      rw [key_of qk e1]
      have xx := (S.free ha rfl).ext (K := c.K) (r := r) (n := h.next) (u := .dK (putK ws q w))
      exact ⟨_, DPut.k g1 (by rw [el]; exact lim_lt hl), S.put ha rfl rfl ⟨_, upd_same, RepK.ext xx (repK_put q qv g2)⟩, xx⟩
    · cases e
  · cases e
end

section
variable {cl : Cl} {c : RC} {h h1 : Hm} {r : Rho} {H : Hp}
theorem dputT_of {a : Nat} {x : Z.D} {ks : List Z.D} {us : List V} {w : V} {b : Addr} (S : Sim c.K r h H) (qk : RepL c.K r h.next H us ks) (hb : H b = some (.tup us)) (qv : RepV c.K r h.next H w x) (e : dputT h a ks x = some h1) :
    ∃ H1, DPut H (r a) (.ref b) w H1 ∧ Sim c.K r h1 H1 ∧ Ext c.K r h.next H r h1.next H1 := by
  unfold dputT at e
  split at e
  · rename_i kvs ha
    split at e
    · rename_i hl
      obtain ⟨q, e1, e2⟩ := Option.map_eq_some_iff.mp e
      subst e2
      obtain ⟨ws, g1, g2⟩ := (S.obj a _ ha).2
      have el : ws.length = kvs.length := by simpa using congrArg List.length g2.1
      rw [keys_of qk e1] at hb
      have xx := (S.free ha rfl).ext (K := c.K) (r := r) (n := h.next) (u := .dT (putK ws q w))
      exact ⟨_, DPut.t g1 hb (by rw [el]; exact lim_lt hl), S.put ha rfl rfl ⟨_, upd_same, RepK.ext xx (repK_put q qv g2)⟩, xx⟩
    · cases e
  · cases e
end

theorem sS (cl : Cl) : ∀ s : Z.S, SS cl s
  | .skip => by
    intro c k env h fl env' h' e r σ H D S en p
    simp only [ex] at e
    cases e
    exact p σ r H S Ext.refl en
  | .seq a b => by
    intro c k env h fl env' h' e r σ H D S en p
    simp only [ex] at e
    cases hx : ex c.P cl a env h with
    | none => rw [hx] at e; cases e
    | some o =>
      obtain ⟨fl2, env2, h2⟩ := o
      rw [hx] at e
      refine sS cl a c k env h fl2 env2 h2 hx r σ H _ S en ?_
      cases fl2 with
      | nx => exact fun σ3 r3 H3 S3 x3 en3 => sS cl b c k env2 h2 fl env' h' e r3 σ3 H3 D S3 en3 (p.later x3)
      | rt d => cases e; exact p
      | ex kk => cases e; exact p
  | .asg i a => by
    intro c k env h fl env' h' e r σ H D S en p
    simp only [ex] at e
    refine t1 k e S en p fun x h1 v r1 H1 e1 S1 x1 q1 en1 p1 => ?_
    cases e1
    exact p1 _ r1 H1 S1 Ext.refl (en1.set i q1)
  | .unp is a => by
    intro c k env h fl env' h' e r σ H D S en p
    simp only [ex] at e
    refine t1 k e S en p fun x h1 v r1 H1 e1 S1 x1 q1 en1 p1 => ?_
    split at e1
    · rename_i xs hs
      split at e1
      · rename_i env1 he
        cases e1
        obtain ⟨pp, us, ev, e2, e3⟩ := seqOf_of S1 q1 hs
        subst ev
        have hl := gsR_len is xs env he
        have fin : gsR is us σ H1 D.nx := s_gs e3 en1 he fun σ1 en2 _ => p1 σ1 r1 H1 S1 Ext.refl en2
        rcases e2 with e2 | e2
        · exact .inr ⟨pp, us, rfl, e2, by rw [e3.len]; exact hl, fin⟩
        · exact .inl ⟨pp, us, rfl, e2, by rw [e3.len]; exact hl, fin⟩
      · cases e1
    · cases e1
  | .sfld o f a => by
    intro c k env h fl env' h' e r σ H D S en p
    simp only [ex] at e
    refine t1 k e S en p fun x h1 v r1 H1 e1 S1 x1 q1 en1 p1 => t1 k e1 S1 en1 p1 fun y h2 w r2 H2 e2 S2 x2 q2 en2 p2 => ?_
    cases q2 with
    | @ref a la =>
      simp only at e2
      split at e2
      · rename_i cn fs ha
        split at e2
        · rename_i hf
          cases e2
          obtain ⟨dx, ws, g1, g2⟩ := (S2.obj a _ ha).2
          obtain ⟨c1, c2⟩ := k.fld cn f hf.1
          have xx := (S2.free ha rfl).ext (K := c.K) (r := r2) (n := h2.next) (u := .ins (ca c.K cn) dx (putF (Str.ofString f) v ws))
          refine ⟨_, _, dx, ws, rfl, g1, c1, c2, by rw [repF_len g2]; exact hf.2, ?_⟩
          exact p2 σ r2 _ (S2.put ha rfl rfl ⟨dx, _, upd_same, RepF.ext xx (repF_put (q1.ext x2) g2)⟩) xx (en2.ext xx)
        · cases e2
      · cases e2
    | _ => cases e2
  | .sidx o i a => by
    intro c k env h fl env' h' e r σ H D S en p
    simp only [ex] at e
    refine t1 k e S en p fun x h1 v r1 H1 e1 S1 x1 q1 en1 p1 => t1 k e1 S1 en1 p1 fun y h2 w r2 H2 e2 S2 x2 q2 en2 p2 => t1 k e2 S2 en2 p2 fun z h3 u r3 H3 e3 S3 x3 q3 en3 p3 => ?_
    have q2' := q2.ext x3
    cases q2' with
    | @ref a la =>
      cases q3 with
      | int kk =>
        simp only at e3
        split at e3
        · rename_i xs ha
          split at e3
          · rename_i j hj
            cases e3
            obtain ⟨vs, g1, g2⟩ := (S3.obj a _ ha).2
            have xx := (S3.free ha rfl).ext (K := c.K) (r := r3) (n := h3.next) (u := .lst (vs.set j v))
            refine ⟨_, vs, kk, j, rfl, rfl, g1, ixD_of hj g2.len, ?_⟩
            exact p3 σ r3 _ (S3.put ha rfl rfl ⟨_, upd_same, (g2.ext xx).set (q1.ext ((x2.trans x3).trans xx)) j⟩) xx (en3.ext xx)
          · cases e3
        · cases e3
      | _ => cases e3
    | _ => cases q3 <;> cases e3
  | .dput o i a => by
    intro c k env h fl env' h' e r σ H D S en p
    simp only [ex] at e
    refine t1 k e S en p fun x h1 v r1 H1 e1 S1 x1 q1 en1 p1 => t1 k e1 S1 en1 p1 fun y h2 w r2 H2 e2 S2 x2 q2 en2 p2 => t1 k e2 S2 en2 p2 fun z h3 u r3 H3 e3 S3 x3 q3 en3 p3 => ?_
    have q2' := q2.ext x3
    cases q2' with
    | @ref a la =>
      simp only at e3
      split at e3
      · rename_i h4 hp
        cases e3
        obtain ⟨H4, g1, g2, g3⟩ := dput_of (y := z) S3 q3 (q1.ext (x2.trans x3)) hp
        exact ⟨_, H4, rfl, g1, p3 σ r3 H4 g2 g3 (en3.ext g3)⟩
      · cases e3
    | _ => cases e3
  | .aug i o a => by
    intro c k env h fl env' h' e r σ H D S en p
    simp only [ex] at e
    split at e
    · rename_i d hd
      obtain ⟨v, e1, q⟩ := en.at_ i d hd
      refine ⟨v, e1, ?_⟩
      refine t1 k e S en p fun x h1 w r1 H1 e1 S1 x1 q1 en1 p1 => ?_
      split at e1
      · rename_i z hz
        cases e1
        exact s_aug hz (q.ext x1) q1 fun u qu => p1 _ r1 H1 S1 Ext.refl (en1.set i qu)
      · cases e1
    · cases e
  | .augf o f op a => by
    intro c k env h fl env' h' e r σ H D S en p
    simp only [ex] at e
    refine t1 k e S en p fun x h1 v r1 H1 e1 S1 x1 q1 en1 p1 => ?_
    cases q1 with
    | @ref a la =>
      simp only at e1
      split at e1
      · rename_i cn fs ha
        split at e1
        · rename_i hf
          split at e1
          · rename_i d hd
            obtain ⟨dx, ws, g1, g2⟩ := (S1.obj a _ ha).2
            obtain ⟨c1, c2⟩ := k.fld cn f hf
            obtain ⟨u, g3, g4⟩ := repF_get g2 hd
            refine ⟨_, _, dx, ws, u, rfl, g1, c1, c2, g3, ?_⟩
            refine t1 k e1 S1 en1 p1 fun y h2 w r2 H2 e2 S2 x2 q2 en2 p2 => ?_
            split at e2
            · rename_i z hz
              split at e2
              · rename_i cn' fs' ha'
                split at e2
                · rename_i hc
                  obtain ⟨rfl, hl⟩ := hc
                  cases e2
                  obtain ⟨dx', ws', g5, g6⟩ := (S2.obj a _ ha').2
                  refine s_aug hz (g4.ext x2) q2 fun u2 qu => ?_
                  have xx := (S2.free ha' rfl).ext (K := c.K) (r := r2) (n := h2.next) (u := .ins (ca c.K cn') dx' (putF (Str.ofString f) u2 ws'))
                  have er : r2 a = r1 a := x2.at_ a la
                  rw [← er]
                  refine ⟨dx', ws', g5, by rw [repF_len g6]; exact hl, ?_⟩
                  exact p2 σ r2 _ (S2.put ha' rfl rfl ⟨dx', _, upd_same, RepF.ext xx (repF_put qu g6)⟩) xx (en2.ext xx)
                · cases e2
              · cases e2
            · cases e2
          · cases e1
        · cases e1
      · cases e1
    | _ => cases e1
  | .augi _ _ _ _ => by
    intro c k env h fl env' h' e r σ H D S en p
    simp only [ex] at e
    cases e
  | .ite t a b => by
    intro c k env h fl env' h' e r σ H D S en p
    simp only [ex] at e
    refine t1T k e S en p fun x h1 r1 H1 e1 S1 x1 en1 p1 => ?_
    cases x with
    | true => rw [if_pos rfl] at e1 ⊢; exact sS cl a c k env h1 fl env' h' e1 r1 σ H1 D S1 en1 p1
    | false => rw [if_neg Bool.false_ne_true] at e1 ⊢; exact sS cl b c k env h1 fl env' h' e1 r1 σ H1 D S1 en1 p1
  | .for_ g kk es body => by
    intro c k env h fl env' h' e r σ H D S en p
    simp only [ex] at e
    refine t1A k e S en p fun ds h1 vs r1 H1 e1 S1 x1 q1 en1 p1 => ?_
    split at e1
    · rename_i items gd hw
      exact s_walk S1 q1 hw fun J G => s_for (sS cl body) k G S1 Ext.refl en1 e1 p1
    · cases e1
  | .wh t body => by
    intro c k env h fl env' h' e r σ H D S en p
    simp only [ex] at e
    exact s_wh (sS cl body) k S en e p
  | .ret a => by
    intro c k env h fl env' h' e r σ H D S en p
    simp only [ex] at e
    refine t1 k e S en p fun x h1 v r1 H1 e1 S1 x1 q1 en1 p1 => ?_
    cases e1
    exact p1 v r1 H1 S1 Ext.refl q1
  | .drop a => by
    intro c k env h fl env' h' e r σ H D S en p
    simp only [ex] at e
    refine t1 k e S en p fun x h1 v r1 H1 e1 S1 x1 q1 en1 p1 => ?_
    cases e1
    exact p1 σ r1 H1 S1 Ext.refl en1
  | .rai cn => by
    intro c k env h fl env' h' e r σ H D S en p
    simp only [ex] at e
    cases e
    exact p σ r H S Ext.refl en
  | .try_ b cn none s => by
    intro c k env h fl env' h' e r σ H D S en p
    simp only [ex] at e
    cases e0 : ex c.P cl b env h with
    | none => rw [e0] at e; cases e
    | some o =>
      obtain ⟨fl0, env2, h2⟩ := o
      rw [e0] at e
      show rdS (c.with (wOnly c.K (.ref (ca c.K cn)) (fun _ _ _ => rdS (c.with noW) s) c.W D)) b D σ H
      refine sS cl b (c.with (wOnly c.K (.ref (ca c.K cn)) (fun _ _ _ => rdS (c.with noW) s) c.W D)) (k.with _) env h fl0 env2 h2 e0 r σ H D S en ?_
      cases fl0 with
      | nx => cases e; exact p
      | rt d => cases e; exact p
      | ex kk =>
        dsimp only at e
        cases eb : c.P.exm kk cn with
        | none => rw [eb] at e; cases e
        | some bb =>
          rw [eb] at e
          have eo := k.exm _ _ _ eb
          intro σ' r' H' S' x' en'
          cases bb with
          | false =>
            cases e
            exact ⟨false, eo, (fun z => nomatch z), fun _ => p σ' r' H' S' x' en'⟩
          | true =>
            refine ⟨true, eo, fun _ a na => ?_, fun z => nomatch z⟩
            dsimp only at e
            cases e1 : ex c.P cl s env2 h2 with
            | none => rw [e1] at e; cases e
            | some o1 =>
              obtain ⟨fl1, env3, h3⟩ := o1
              rw [e1] at e
              have p' := p.later x'
              cases fl1 with
              | nx =>
                cases e
                exact sS cl s (c.with noW) (k.with _) env2 h2 .nx _ _ e1 r' σ' H' D S' en' p'
              | rt d =>
                cases e
                exact sS cl s (c.with noW) (k.with _) env2 h2 (.rt d) _ _ e1 r' σ' H' D S' en' p'
              | ex k2 => cases e
  | .try_ b cn (some i) s => by
    intro c k env h fl env' h' e r σ H D S en p
    simp only [ex] at e
    cases e0 : ex c.P cl b env h with
    | none => rw [e0] at e; cases e
    | some o =>
      obtain ⟨fl0, env2, h2⟩ := o
      rw [e0] at e
      show rdS (c.with (wAs c.K (.ref (ca c.K cn)) i (fun a cls d D σ H => ∃ k, cls = .ref (ca c.K k) ∧ rdS (c.exc k a cls d) s D σ H) c.W D)) b D σ H
      refine sS cl b (c.with (wAs c.K (.ref (ca c.K cn)) i (fun a cls d D σ H => ∃ k, cls = .ref (ca c.K k) ∧ rdS (c.exc k a cls d) s D σ H) c.W D)) (k.with _) env h fl0 env2 h2 e0 r σ H D S en ?_
      cases fl0 with
      | nx => cases e; exact p
      | rt d => cases e; exact p
      | ex kk =>
        dsimp only at e
        cases eb : c.P.exm kk cn with
        | none => rw [eb] at e; cases e
        | some bb =>
          rw [eb] at e
          have eo := k.exm _ _ _ eb
          intro σ' r' H' S' x' en'
          cases bb with
          | false =>
            cases e
            exact ⟨false, eo, (fun z => nomatch z), fun _ => p σ' r' H' S' x' en'⟩
          | true =>
            refine ⟨true, eo, fun _ a na => ⟨kk, rfl, ?_⟩, fun z => nomatch z⟩
            have ea := oneA_of e a
            unfold emptied at ea
            have p' := p.later x'
            cases e1 : ex { c.P with xk := some (kk, a) } cl s (env2.set i (some (.exc kk a))) h2 with
            | none => rw [e1] at ea; cases ea
            | some o1 =>
              obtain ⟨fl1, env3, h3⟩ := o1
              rw [e1] at ea
              cases fl1 with
              | nx =>
                cases ea
                exact sS cl s (c.exc kk a (.ref (ca c.K kk)) none) (k.exc kk a) (env2.set i (some (.exc kk a))) h2 .nx _ _ e1 r' (σ'.set i (some (.ref a))) H' _ S' (en'.set i (.exc kk a)) fun σ6 r6 H6 S6 x6 en6 => p' _ r6 H6 S6 x6 (en6.unset i)
              | rt d =>
                cases ea
                exact sS cl s (c.exc kk a (.ref (ca c.K kk)) none) (k.exc kk a) (env2.set i (some (.exc kk a))) h2 (.rt d) _ _ e1 r' (σ'.set i (some (.ref a))) H' _ S' (en'.set i (.exc kk a)) p'
              | ex k2 => cases ea
  | .par i j es => by
    intro c k env h fl env' h' e r σ H D S en p
    simp only [ex] at e
    refine t1A k e S en p fun vs h1 us r1 H1 e1 S1 x1 q1 en1 p1 => ?_
    split at e1
    · rename_i x y
      obtain ⟨v, w, rfl, qv, qw⟩ := two_of q1
      cases e1
      exact ⟨v, w, rfl, p1 _ r1 H1 S1 Ext.refl ((en1.set i qv).set j qw)⟩
    · cases e1
  | .dputT o es a => by
    intro c k env h fl env' h' e r σ H D S en p
    simp only [ex] at e
    refine t1 k e S en p fun x h1 v r1 H1 e1 S1 x1 q1 en1 p1 => t1 k e1 S1 en1 p1 fun y h2 w r2 H2 e2 S2 x2 q2 en2 p2 => t1A k e2 S2 en2 p2 fun ks h3 us r3 H3 e3 S3 x3 q3 en3 p3 => ?_
    have q2' := q2.ext x3
    cases q2' with
    | @ref a0 la =>
      simp only at e3
      split at e3
      · rename_i hl
        split at e3
        · rename_i h4 hp
          cases e3
          refine ⟨by rw [q3.len]; exact lim_le hl, fun q nq => ?_⟩
          have xq := (Free.ext (K := c.K) (r := r3) (n := h3.next) (u := .tup us) (.inl nq))
          have S4 := S3.grow (u := .tup us) nq
          obtain ⟨H5, g, S5, x5⟩ := dputT_of (b := q) S4 (q3.ext xq) upd_same ((q1.ext (x2.trans x3)).ext xq) hp
          exact ⟨_, H5, rfl, g, p3 σ r3 H5 S5 (xq.trans x5) (en3.ext (xq.trans x5))⟩
        · cases e3
      · cases e3
    | _ => cases e3
  | .lck i b => by
    intro c k env h fl env' h' e r σ H D S en p
    simp only [ex] at e
    split at e
    · rename_i a0 ha0
      split at e
      · rename_i o ho
        split at e
        · rename_i o' hl
          have f : Free H (r a0) := S.free ho (by cases o <;> first | rfl | cases hl)
          obtain ⟨u, h1, m, L⟩ := S.lock ho hl
          refine ⟨r a0, u, h1, (dct_mut m).2, fun od => ?_⟩
          obtain ⟨S1, L2⟩ := L od
          split at e
          · rename_i env2 h2 e1
            split at e
            · rename_i hf
              cases e
              refine sS cl b c k env _ _ _ _ e1 r σ _ _ S1 (en.ext f.ext) ?_
              intro σ' r2 H2 S2 x2 en2
              obtain ⟨er, hd, S3, x3, x4⟩ := L2 r2 h2 H2 S2 x2 hf
              exact ⟨hd, p σ' r2 _ S3 x3 (en2.ext0 x4)⟩
            · cases e
          · rename_i d env2 h2 e1
            split at e
            · rename_i hf
              cases e
              refine sS cl b c k env _ _ _ _ e1 r σ _ _ S1 (en.ext f.ext) ?_
              intro v r2 H2 S2 x2 q2
              obtain ⟨er, hd, S3, x3, x4⟩ := L2 r2 h2 H2 S2 x2 hf
              exact ⟨hd, p v r2 _ S3 x3 (q2.ext0 x4)⟩
            · cases e
          · cases e
        · cases e
      · cases e
    · cases e

/-! ### defs -/
/-- a def's promise: what n calls deep its run gives -/
def spR (P : Prog) (K : PySem.W.Frag) (n : Nat) (f : String) : Sp := fun vs H Q E => ∃ F r h ds res h', P.fn f = some F ∧ ds.length = F.np ∧ Sim K r h H ∧ RepL K r h.next H vs ds ∧ callF P n f ds h = some (res, h') ∧ PG K E r h H (RepV K) Q res h'
theorem spR_len {P : Prog} {K : PySem.W.Frag} {n : Nat} {f : String} {F : Fn} {vs : List V} {H : Hp} {Q : VK} {E : XK} (hf : P.fn f = some F) (h : spR P K n f vs H Q E) : vs.length = F.np := by
  obtain ⟨F', r, h, ds, res, h', e1, e2, _, q, _⟩ := h
  rw [hf] at e1
  cases e1
  rw [q.len, e2]
theorem callF_np {P : Prog} {n : Nat} {f : String} {ds : List D} {h h' : Hm} {res : Except String D} (e : callF P n f ds h = some (res, h')) : ∃ F, P.fn f = some F ∧ ds.length = F.np := by
  cases n with
  | zero => cases e
  | succ n =>
    simp only [callF] at e
    split at e
    · cases e
    · rename_i F hF
      split at e
      · rename_i hl
        exact ⟨F, hF, hl⟩
      · cases e
/-- the constants and the attributes, as the written part has them -/
structure Facts (P : Prog) (K : PySem.W.Frag) (gv : String → V) : Prop where
  con : ∀ x d, P.glob x = some d → ∀ r n H, RepV K r n H (gv x) d
  tup : ∀ x xs, P.glob x = some (.tup xs) → ∀ H, tyV K "tuple" (gv x) H
  fld : ∀ cn f, P.fld cn f = true → Cls K (ca K cn) ∧ NoAttr K (ca K cn) (Str.ofString f)
  sub : ∀ cn cm b, P.sub cn cm = some b → IsC K (ca K cn) (ca K cm) b
  exm : ∀ k cm b, P.exm k cm = some b → PySem.W.exmOne K (.ref (ca K k)) (.ref (ca K cm)) = some b
  exs : ∀ k cm b, P.exs k cm = some b → ExcC K (ca K k) ∧ PySem.W.kitOne K (.ref (ca K k)) (.ref (ca K cm)) = some b
  exb : ∀ k cm b, P.exb k cm = some b → ExcC K (ca K k) ∧ PySem.W.kitOne K (.ref (ca K k)) (.type cm) = some b
  nox : P.xk = none
def rc (P : Prog) (K : PySem.W.Frag) (gv : String → V) (n : Nat) (W : WX) : RC := { K := K, P := P, sp := spR P K n, gv := gv, W := W }
theorem rc_ok {P : Prog} {K : PySem.W.Frag} {gv : String → V} (F : Facts P K gv) (n : Nat) (W : WX) : RCok (rc P K gv n W) (callF P n) :=
  ⟨fun f ds h res h' e r H vs Q E S q p => by
    obtain ⟨F, h1, h2⟩ := callF_np e
    exact ⟨F, r, h, ds, res, h', h1, h2, S, q, e, p⟩, F.con, F.tup, F.fld, F.sub, F.exm, F.exs, F.exb, fun k a e => by rw [show (rc P K gv n W).P.xk = P.xk from rfl, F.nox] at e; cases e⟩
/-- a def's body, read -/
theorem body_ok {P : Prog} {K : PySem.W.Frag} {gv : String → V} (Fa : Facts P K gv) {n : Nat} {f : String} {F : Fn} (hf : P.fn f = some F) {N : List Str} (hN : N.length = F.ns) {vs : List V} {H : Hp} {Q : VK} {E : XK} (h : spR P K (n + 1) f vs H Q E) :
    rdS (rc P K gv n fun cls d _ H => E cls d H) F.body { nx := fun _ H' => Q .non H', rt := Q } (L2.start N vs) H := by
  obtain ⟨F', r, h, ds, res, h', e1, e2, S, q, e, p⟩ := h
  rw [hf] at e1
  cases e1
  simp only [callF, hf, if_pos e2] at e
  cases hx : ex P (callF P n) F.body (start F.ns ds) h with
  | none => rw [hx] at e; cases e
  | some o =>
    obtain ⟨fl, env', h2⟩ := o
    rw [hx] at e
    refine sS (callF P n) F.body _ (rc_ok Fa n _) _ h fl env' h2 hx r _ H _ S (EnvR.start q hN) ?_
    cases fl with
    | nx =>
      cases e
      exact fun σ' r' H' S' x' _ => p .non r' H' S' x' .non
    | rt d =>
      cases e
      exact p
    | ex kk =>
      cases e
      exact fun σ' r' H' S' x' _ => p r' H' S' x'
end Z

set_option maxRecDepth 100000
set_option maxHeartbeats 2000000
/-! ZL: rules in the form in which bodies are read. -/
namespace Z
open PySem PySem.Spec PyProof.Rows L2

/-! ### calls of own defs -/
/-- no error leaves, and none comes -/
theorem zpL {X : Cx} : ∀ σ, PassesAt (L2.CX X.prog X.w) X σ (fun cls d H => noW cls d σ H) := fun σ pins H s e s' _ h => by
  obtain ⟨_, _, _, _, _, _, _, _, _, _, _, _, z⟩ := h
  exact z.elim
theorem zpD {P : Program} {w : World} {K : PySem.W.Frag} {mg : Str → Option Value} {base : Heap} {N : List Str} {qual : Str} {scope : Scope} {f : Addr} {cd : Value} {A : Around} {outer : List PySem.Env} {s : Shared} {H : Hp} {E : XK} :
    ∀ σ, PassesAt (L2.CX P w) (cxOf (L2.CX P w) P w K mg base N qual scope f cd A outer s H E) σ (fun cls d H' => (fun (cls : Value) (d : Option Addr) (_ : L2.St) (H : Hp) => E cls d H) cls d σ H') :=
  fun σ => passAt (X := cxOf (L2.CX P w) P w K mg base N qual scope f cd A outer s H E) (takes_of rfl rfl rfl rfl) σ
theorem zoD {P : Program} {w : World} {K : PySem.W.Frag} {mg : Str → Option Value} {base : Heap} {N : List Str} {qual : Str} {scope : Scope} {f : Addr} {cd : Value} {A : Around} {outer : List PySem.Env} {s : Shared} {H : Hp} {E : XK} {X : Cx}
    (hX : X = cxOf (L2.CX P w) P w K mg base N qual scope f cd A outer s H E := by rfl) : PassesOwn (model X.prog X.w) X.A X.env X.xe := by
  subst hX
  exact passes_of rfl
section
variable {X : Cx} {CX : CXT} {k : Nat} {f : Addr} {fd : FuncData} {ps : List Str} {dvs : List V} {sp : Sp} {E : L2.St → XK} {x m : Str} {p pos apos : Pos} {e o : Expr} {es : List Expr} {ta : TE} {t : TA}
/-- a def of the program, as calls need it -/
structure Cal (P : Program) (w : World) (K : PySem.W.Frag) (mg : Str → Option Value) (base : Heap) (CX : CXT) (k : Nat) (f : Addr) (ps : List Str) (dvs : List V) (sp : Sp) : Prop where
  ex : ∃ fd ds, FnOk P w K mg base CX k f fd ps sp ∧ Vals dvs ds ∧ Binds K fd ps ds
  kp : PySem.W.keepIn K (.ref f) = true
theorem run_z {pins : List (Addr × Obj)} {σ : L2.St} {H : Hp} {s : Shared} {Q : VK} {us : List Value} {vs : List V} (C : Cal X.prog X.w X.K X.mg X.base CX k f ps dvs sp) (hr : Room k X.A) (hx : PassesAt CX X σ (E σ)) (I : Inv X pins σ H s) (r : Vals vs us) (h : sp (vs ++ dvs) H Q (E σ)) :
    wpAny (model X.prog X.w) X.A (call (.ref f) us) (EP X pins σ Q) X.xe s := by
  obtain ⟨fd, ds, F, hd, hb⟩ := C.ex
  have r2 : Vals (vs ++ dvs) (us ++ ds) := Vals.append r hd
  have len : (us ++ ds).length = ps.length := r2.length.symm.trans (F.len _ _ _ _ h)
  have run := F.run X.A X.stack s H ⟨us, []⟩ (us ++ ds) (vs ++ dvs) Q (E σ) hr I.env0 (hb s us I.kIn len) r2 h
  refine wpAny_call (codeAny_mono run fun res s' hq => ?_)
  match res, hq with
  | .error e, hq => exact hx pins H s e s' I hq
  | .ok (.ret u), hq => exact I.after hq
theorem zcall (C : Cal X.prog X.w X.K X.mg X.base CX k f ps dvs sp) (hr : Room k X.A) (hg : Gl X x) (hm : X.mg x = some (.ref f)) (hx : ∀ σ, PassesAt CX X σ (E σ)) (ha : PA X (e :: es) t) (hdb : (x == ("__debug__" : Str)) = false := by decide)
    (he : starEach (e :: es) X.env = (false, eval e X.env) :: starEach es X.env := by rfl) (hpl : (backTo pos (starEach es X.env)).any (·.1) = false := by rfl) :
    PE X (.Call (.Name x p) (e :: es) [] pos) (fun σ H Q => t σ H fun vs H1 => sp (vs ++ dvs) H1 Q (E σ)) :=
  ⟨fun pins s σ H Q I h => wpAny_Call_Name_kw (ld_glob I hg hm (PySem.W.callWith_K (h₀ := X.base) I.ok.mod.kin C.kp
    (thn (ha.run pos pins s σ H _ I h) fun us s1 ⟨vs, H1, I1, r, q⟩ => ⟨I1.kIn, run_z C hr (hx σ) I1 r q⟩) he hpl) hdb)⟩
theorem zcall0 (C : Cal X.prog X.w X.K X.mg X.base CX k f ps dvs sp) (hr : Room k X.A) (hg : Gl X x) (hm : X.mg x = some (.ref f)) (hx : ∀ σ, PassesAt CX X σ (E σ)) (hdb : (x == ("__debug__" : Str)) = false := by decide) :
    PE X (.Call (.Name x p) [] [] pos) (fun σ H Q => tNil σ H fun vs H1 => sp (vs ++ dvs) H1 Q (E σ)) :=
  ⟨fun pins s σ H Q I h => wpAny_Call_Name_kw (ld_glob I hg hm (PySem.W.callWith_K0 I.kIn C.kp (run_z (us := []) (vs := []) C hr (hx σ) I .nil h)) hdb)⟩
/-- a method's name: every class that the program has it in -/
structure Mets (Pg : Program) (w : World) (K : PySem.W.Frag) (mg : Str → Option Value) (base : Heap) (CX : CXT) (k : Nat) (P : Prog) (m : String) (dvs : List V) (sp : String → Sp) : Prop where
  ex : ∀ cn f, P.mt cn m = some f → Cls K (ca K cn) ∧ ∃ g ps, Meth K (ca K cn) (Str.ofString m) g ∧ Cal Pg w K mg base CX k g ps dvs (sp f)
/-- a class that is made -/
structure Mkr (Pg : Program) (w : World) (K : PySem.W.Frag) (mg : Str → Option Value) (base : Heap) (CX : CXT) (k : Nat) (P : Prog) (cn : String) (sp : String → Sp) : Prop where
  ex : ∃ f g ps, P.mt cn "__init__" = some f ∧ Mk K (ca K cn) g ∧ Cal Pg w K mg base CX k g ps [] (sp f)
theorem zmeth {P : Prog} {m : String} {sp : String → Sp} {pl : Sem Bool} (ho : PE X o ta) (M : Mets X.prog X.w X.K X.mg X.base CX k P m dvs sp) (hr : Room k X.A) (hx : ∀ σ, PassesAt CX X σ (E σ)) (ha : PA X (e :: es) t)
    (hst : starEach (e :: es) X.env = (false, eval e X.env) :: starEach es X.env := by rfl) (hpl : (backTo pos (starEach es X.env)).any (·.1) = false := by rfl)
    (ht : eval (.Call (.Attribute o (Str.ofString m) apos) (e :: es) [] pos) X.env = (do
      let ov ← eval o X.env
      standAt apos.atName
      let (f, first) ← holding [ov] (getMethod ov (Str.ofString m) pl)
      callWith pos f first (backTo pos (starEach (e :: es) X.env)) (backToKw pos (keywordEach [] X.env))) := by rfl) :
    PE X (.Call (.Attribute o (Str.ofString m) apos) (e :: es) [] pos) (fun σ H Q => ta σ H fun x H1 => ∃ a dx fs cn f, x = .ref a ∧ H1 a = some (.ins (ca X.K cn) dx fs) ∧ P.mt cn m = some f ∧ fs.lookup (Str.ofString m) = none ∧
      t σ H1 fun vs H2 => sp f (x :: (vs ++ dvs)) H2 Q (E σ)) := by
  refine ⟨fun pins s σ H Q I h => PySem.W.methodCall_KW (pl := pl) (thn (ho.run pins s σ H _ I h) fun u s1 ⟨x, H1, I1, rx, q⟩ => ?_) ht⟩
  obtain ⟨a, dx, fs, cn, f, ex, ea, em, l, q⟩ := q
  subst ex
  cases (show u = Value.ref a from rx)
  obtain ⟨c, g, ps, hm, C⟩ := M.ex cn f em
  refine getmeth_ok I1 ea c hm l (PySem.W.callWith_K (first := [.ref a]) (h₀ := X.base) I.ok.mod.kin hm.kp (thn (ha.run pos pins s1 σ H1 _ I1 q) fun us s2 ⟨vs, H2, I2, r, q2⟩ => ⟨I2.kIn, ?_⟩) hst hpl)
  exact run_z (us := .ref a :: us) (vs := .ref a :: vs) C hr (hx σ) I2 (.cons rfl r) q2
theorem zmeth0 {P : Prog} {m : String} {sp : String → Sp} {pl : Sem Bool} (ho : PE X o ta) (M : Mets X.prog X.w X.K X.mg X.base CX k P m dvs sp) (hr : Room k X.A) (hx : ∀ σ, PassesAt CX X σ (E σ))
    (ht : eval (.Call (.Attribute o (Str.ofString m) apos) [] [] pos) X.env = (do
      let ov ← eval o X.env
      standAt apos.atName
      let (f, first) ← holding [ov] (getMethod ov (Str.ofString m) pl)
      callWith pos f first (backTo pos (starEach [] X.env)) (backToKw pos (keywordEach [] X.env))) := by rfl) :
    PE X (.Call (.Attribute o (Str.ofString m) apos) [] [] pos) (fun σ H Q => ta σ H fun x H1 => ∃ a dx fs cn f, x = .ref a ∧ H1 a = some (.ins (ca X.K cn) dx fs) ∧ P.mt cn m = some f ∧ fs.lookup (Str.ofString m) = none ∧
      tNil σ H1 fun vs H2 => sp f (x :: (vs ++ dvs)) H2 Q (E σ)) := by
  refine ⟨fun pins s σ H Q I h => PySem.W.methodCall_KW (pl := pl) (thn (ho.run pins s σ H _ I h) fun u s1 ⟨x, H1, I1, rx, q⟩ => ?_) ht⟩
  obtain ⟨a, dx, fs, cn, f, ex, ea, em, l, q⟩ := q
  subst ex
  cases (show u = Value.ref a from rx)
  obtain ⟨c, g, ps, hm, C⟩ := M.ex cn f em
  exact getmeth_ok I1 ea c hm l (PySem.W.callWith_K0 (first := [.ref a]) I1.kIn hm.kp (run_z (us := [.ref a]) (vs := [.ref a]) C hr (hx σ) I1 (.cons rfl .nil) q))
theorem run_mk {P : Prog} {cn : String} {sp : String → Sp} {pins : List (Addr × Obj)} {σ : L2.St} {H : Hp} {s : Shared} {Q : VK} {us : List Value} {vs : List V} (M : Mkr X.prog X.w X.K X.mg X.base CX k P cn sp) (hr : Room (k + 1) X.A) (hx : PassesAt CX X σ (E σ)) (I : Inv X pins σ H s) (r : Vals vs us)
    (h : ∀ x dx, H x = none → H dx = none → dx ≠ x → ∃ f, P.mt cn "__init__" = some f ∧ sp f (.ref x :: vs) (upd (upd H dx (.own x)) x (.ins (ca X.K cn) dx [])) (fun v H2 => v = .non ∧ Q (.ref x) H2) (E σ)) :
    wpAny (model X.prog X.w) X.A (call (.ref (ca X.K cn)) us) (EP X pins σ Q) X.xe s := by
  obtain ⟨f, g, ps, hf, M, C⟩ := M.ex
  obtain ⟨fd, ds, F, hd, hb⟩ := C.ex
  obtain ⟨f', hf', hq⟩ := h (s.heap.objs.size + 1) s.heap.objs.size (I.hok.fresh (Nat.le_succ _)) (I.hok.fresh (Nat.le_refl _)) (Nat.ne_of_lt (Nat.lt_succ_self _))
  rw [hf] at hf'
  cases hf'
  have I2 := Inv.made (C := ca X.K cn) I
  cases hd
  have r2 : Vals (V.ref (s.heap.objs.size + 1) :: vs) (Value.ref (s.heap.objs.size + 1) :: us) := .cons rfl r
  have hl : (Value.ref (s.heap.objs.size + 1) :: us ++ []).length = ps.length := by
    have e := r2.length
    rw [F.len _ _ _ _ hq] at e
    rw [List.append_nil]
    exact e.symm
  have hbb := hb _ (Value.ref (s.heap.objs.size + 1) :: us) I2.kIn hl
  rw [List.append_nil] at hbb
  refine wpAny_call (make_map (f := g) I.kIn M.makes M.init (beq_iff_eq.mp M.fn) (codeAny_mono (F.run _ X.stack _ _ ⟨Value.ref (s.heap.objs.size + 1) :: us, []⟩ (Value.ref (s.heap.objs.size + 1) :: us) _ _ (E σ) (hr.make (ca X.K cn) us [])
    (I2.env0.make (ca X.K cn) us []) hbb r2 hq) fun r s' hq' => ?_))
  cases r with
  | error e => exact hx pins _ _ e s' I2 hq'
  | ok fl =>
    cases fl with
    | ret u =>
      obtain ⟨v, H', I3, rv, ev, q3⟩ := I2.after hq'
      subst ev
      exact ⟨rv, ⟨V.ref (s.heap.objs.size + 1), H', I3, rfl, q3⟩⟩
    | next => exact False.elim hq'
    | brk => exact False.elim hq'
    | cont => exact False.elim hq'
theorem zmake {P : Prog} {cn : String} {sp : String → Sp} (M : Mkr X.prog X.w X.K X.mg X.base CX k P cn sp) (hr : Room (k + 1) X.A) (hg : Gl X x) (hm : X.mg x = some (.ref (ca X.K cn))) (hx : ∀ σ, PassesAt CX X σ (E σ)) (ha : PA X (e :: es) t) (hdb : (x == ("__debug__" : Str)) = false := by decide)
    (he : starEach (e :: es) X.env = (false, eval e X.env) :: starEach es X.env := by rfl) (hpl : (backTo pos (starEach es X.env)).any (·.1) = false := by rfl) :
    PE X (.Call (.Name x p) (e :: es) [] pos) (fun σ H Q => t σ H fun vs H1 => ∀ x dx, H1 x = none → H1 dx = none → dx ≠ x → ∃ f, P.mt cn "__init__" = some f ∧ sp f (.ref x :: vs) (upd (upd H1 dx (.own x)) x (.ins (ca X.K cn) dx [])) (fun v H2 => v = .non ∧ Q (.ref x) H2) (E σ)) := by
  refine ⟨fun pins s σ H Q I h => wpAny_Call_Name_kw (ld_glob I hg hm ?_ hdb)⟩
  obtain ⟨_, _, _, _, M1, _⟩ := M.ex
  exact PySem.W.callWith_K (h₀ := X.base) I.ok.mod.kin M1.kp (thn (ha.run pos pins s σ H _ I h) fun us s1 ⟨vs, H1, I1, r, q⟩ => ⟨I1.kIn, run_mk M hr (hx σ) I1 r q⟩) he hpl
theorem zmake0 {P : Prog} {cn : String} {sp : String → Sp} (M : Mkr X.prog X.w X.K X.mg X.base CX k P cn sp) (hr : Room (k + 1) X.A) (hg : Gl X x) (hm : X.mg x = some (.ref (ca X.K cn))) (hx : ∀ σ, PassesAt CX X σ (E σ)) (hdb : (x == ("__debug__" : Str)) = false := by decide) :
    PE X (.Call (.Name x p) [] [] pos) (fun σ H Q => tNil σ H fun vs H1 => ∀ x dx, H1 x = none → H1 dx = none → dx ≠ x → ∃ f, P.mt cn "__init__" = some f ∧ sp f (.ref x :: vs) (upd (upd H1 dx (.own x)) x (.ins (ca X.K cn) dx [])) (fun v H2 => v = .non ∧ Q (.ref x) H2) (E σ)) := by
  refine ⟨fun pins s σ H Q I h => wpAny_Call_Name_kw (ld_glob I hg hm ?_ hdb)⟩
  obtain ⟨_, _, _, _, M1, _⟩ := M.ex
  exact PySem.W.callWith_K0 I.kIn M1.kp (run_mk (us := []) (vs := []) M hr (hx σ) I .nil h)
end

/-! ### a class without own __init__ -/
section
variable {X : Cx} {C : Addr} {x : Str} {p pos : Pos}
structure Mk0 (K : PySem.W.Frag) (C : Addr) : Prop where
  makes : PySem.W.makesIn K C = true
  init : PySem.W.findIn K (.ref C) "__init__" = some (some (.builtin "object.__init__"))
  kp : PySem.W.keepIn K (.ref C) = true
  top : PySem.W.mroIn K C (.type "object") = some true
def mk0B (K : PySem.W.Frag) (x : Str) : Bool := PySem.W.makesIn K (He.ga K x) && (He.eqO (PySem.W.findIn K (.ref (He.ga K x)) "__init__") (some (some (.builtin "object.__init__"))) && (PySem.W.keepIn K (.ref (He.ga K x)) && decide (PySem.W.mroIn K (He.ga K x) (.type "object") = some true)))
theorem mk0_ok {K : PySem.W.Frag} {x : Str} (h : mk0B K x = true) : Mk0 K (He.ga K x) := by
  obtain ⟨h1, h⟩ := He.ba h
  obtain ⟨h2, h⟩ := He.ba h
  obtain ⟨h3, h4⟩ := He.ba h
  exact ⟨h1, He.eqO_ok h2, h3, of_decide_eq_true h4⟩
theorem run_mk0 {pins : List (Addr × Obj)} {σ : L2.St} {H : Hp} {s : Shared} {Q : VK} (M : Mk0 X.K C) (I : Inv X pins σ H s)
    (h : ∀ x dx, H x = none → H dx = none → dx ≠ x → Q (.ref x) (upd (upd H dx (.own x)) x (.ins C dx []))) :
    wpAny (model X.prog X.w) X.A (call (.ref C) []) (EP X pins σ Q) X.xe s := by
  have q := h (s.heap.objs.size + 1) s.heap.objs.size (I.hok.fresh (Nat.le_succ _)) (I.hok.fresh (Nat.le_refl _)) (Nat.ne_of_lt (Nat.lt_succ_self _))
  have I2 := Inv.made (C := C) I
  obtain ⟨_, _, _, ho, _⟩ := I2.hok _ _ upd_same
  have t1 : PySem.W.Looks (model X.prog X.w) ((s.heap.push PySem.W.emptyDict).push (PySem.W.instObj C s.heap.objs.size)) (typeOf (.ref (s.heap.objs.size + 1))) (.ref C) := NwA.type_at ho rfl
  have t2 : PySem.W.Looks (model X.prog X.w) ((s.heap.push PySem.W.emptyDict).push (PySem.W.instObj C s.heap.objs.size)) (isInstance (.ref (s.heap.objs.size + 1)) (.type "object")) true := t1.andThen (PySem.W.looks_mroIn I2.kIn M.top)
  refine wpAny_call (make_map0 I.kIn M.makes M.init (fun self => PySem.W.Looks.of_pure (PySem.W.oi_bind _)) (codeAny_call_builtin PySem.W.oi_plain PySem.W.entry_oi (@PySem.W.check_slot (model X.prog X.w) _ _ _ "object.__init__" "object" "__init__" (.ref (s.heap.objs.size + 1)) [] [] _ PySem.W.oi_kind PySem.W.oi_split t2 (NwA.oi_args_any (.ref (s.heap.objs.size + 1)) [] []) ?_)))
  rw [PySem.W.oi_run]
  exact wpAny_pure (And.intro rfl ⟨V.ref (s.heap.objs.size + 1), _, I2, rfl, q⟩)
theorem zmk0 (M : Mk0 X.K C) (hg : Gl X x) (hm : X.mg x = some (.ref C)) (hdb : (x == ("__debug__" : Str)) = false := by decide) :
    PE X (.Call (.Name x p) [] [] pos) (fun σ H Q => ∀ x dx, H x = none → H dx = none → dx ≠ x → Q (.ref x) (upd (upd H dx (.own x)) x (.ins C dx []))) := by
  refine ⟨fun pins s σ H Q I h => wpAny_Call_Name_kw (ld_glob I hg hm ?_ hdb)⟩
  exact PySem.W.callWith_K0 I.kIn M.kp (run_mk0 M I h)
def iscB (K : PySem.W.Frag) (x y : Str) (b : Bool) : Bool := (He.Fa.cls x).ok K && (He.eqO (PySem.W.findIn K (.ref (He.ga K x)) "__class__") (some (some (.builtin "object.__class__"))) && (He.eqO (PySem.W.specialIn K (.builtin "object.__class__") "__get__") (some (some (.builtin "getset_descriptor.__get__"))) &&
  (decide (PySem.W.takesIn K (.builtin "object.__class__") = some true) && (decide (PySem.W.mroIn K (He.ga K x) (.type "object") = some true) && decide (PySem.W.kitOne K (.ref (He.ga K x)) (.ref (He.ga K y)) = some b)))))
theorem isc_ok {K : PySem.W.Frag} {x y : Str} {b : Bool} (h : iscB K x y b = true) : IsC K (He.ga K x) (He.ga K y) b := by
  obtain ⟨h1, h⟩ := He.ba h
  obtain ⟨h2, h⟩ := He.ba h
  obtain ⟨h3, h⟩ := He.ba h
  obtain ⟨h4, h⟩ := He.ba h
  obtain ⟨h5, h6⟩ := He.ba h
  exact ⟨He.cls_ok h1, He.eqO_ok h2, He.eqO_ok h3, of_decide_eq_true h4, of_decide_eq_true h5, of_decide_eq_true h6⟩
end

/-! ### list(reversed(list)) -/
open RT
section
variable {prog : Program} {w : World} {A : Around} {s : Shared} {R : Result → Shared → Prop}
theorem extend_rev {it l S : Addr} {items : Array Value} (res : Value) (hh : A.handled = none) (hit : s.heap.IsRevIter it l ((items.size : Int) - 1)) (hl : s.heap.IsList l items) (hne : l ≠ it) (hSi : S ≠ it) (hSl : S ≠ l) (hn : items.size ≤ sizeLine) {c₀ : Nat}
    (hS : s.heap.get? S = some { cls := .type "list", data := .seq #[] c₀ })
    (hR : ∀ (h' : Heap) (tk : Nat) (acc : Array Value) (c' : Nat), (∀ b o, b ≠ it → b ≠ S → s.heap.get? b = some o → h'.get? b = some o) → h'.get? S = some { cls := .type "list", dict := none, data := .seq acc c', slots := #[] } → ItemsOf (fun i v => items[items.size - 1 - i]? = some v) acc items.size → R (.ok (.ret res)) { s with heap := h', toks := tk }) :
    wpAny (model prog w) A.in1 (Builtin.List.listExtendWith (.ref S) (.ref it) res)
      (fun fin s' => match fin with | .done f => R (.ok f) s' | .again c' => c'.quiet = true ∧ codeAny (model prog w) A c' R s') (fun e s' => R (.error e) s') s := by
  have W := (Walks.listRev (prog := prog) (w := w) (A := A.in1) hh it l hne items).toS
  have hSf : S ∉ [it, l] := by simp only [List.mem_cons, List.not_mem_nil, or_false, not_or]; exact ⟨hSi, hSl⟩
  have hT : s.TypeIs (.ref it) "list_reverseiterator" := Heap.IsRevIter.typeIs (s := s) hit
  have h1 : Builtin.List.listSameRef (.ref S) (.ref it) = false := by simp [Builtin.List.listSameRef, hSi]
  unfold Builtin.List.listExtendWith
  refine wpAny_bind (wpAny_typeOf hT ?_)
  rw [if_neg (by rw [h1]; decide)]
  refine wpAny_bind (wpAny_pyIter_revIter (s := s) hit ?_)
  refine wpAny_bind (wpAny_holding ?_)
  unfold Builtin.List.listLengthHint
  refine wpAny_bind (wpAny_specialOf hT nolen_lri ?_)
  show wpAny _ A.in1 (specialOf (Value.ref it) (Str.ofString "__length_hint__") >>= _) _ _ _
  refine wpAny_bind (wpAny_specialOf hT hint_lri ?_)
  generalize hid : ("list_reverseiterator.__length_hint__" : String) = id0
  wp_delta
  rw [show splitId id0 = some ("list_reverseiterator", "__length_hint__") from by subst hid; decide +kernel]
  subst hid
  refine wpAny_bind (wpAny_isInstance (b := true) hT (by rw [isSubtype_type]; kernel_rfl) ?_)
  refine wpAny_pure ?_
  rw [if_neg (by decide)]
  have e0 : ((items.size : Nat) : Int) - 1 - ((0 : Nat) : Int) = (items.size : Int) - 1 := by omega
  refine wpAny_pure ⟨plainId_quiet F.plain_extend_loop _, codeAny_extend_loopS W hn _ hSf _ items.size 0 _ _ _ rfl (Nat.zero_le _) ⟨Nat.zero_le _, by rw [e0]; exact hit, hl⟩ hS (ItemsOf.nil _) fun s' acc' c' hm hS' hacc => ?_⟩
  have e := Moved.eq_with hm
  rw [e]
  refine hR s'.heap s'.toks acc' c' (fun b o hb hb2 e => hm.heap b o (fun hmem => ?_) e) hS' hacc
  rcases List.mem_cons.mp hmem with e' | hmem
  · exact hb2 e'
  · exact hb (List.mem_singleton.mp hmem)
theorem list_init_rev {it l S : Addr} {items : Array Value} (hh : A.handled = none) (hit : s.heap.IsRevIter it l ((items.size : Int) - 1)) (hl : s.heap.IsList l items) (hne : l ≠ it) (hSi : S ≠ it) (hSl : S ≠ l) (hn : items.size ≤ sizeLine)
    (hS : s.heap.get? S = some { cls := .type "list", data := .seq #[] })
    (hR : ∀ (h' : Heap) (tk : Nat) (acc : Array Value) (c' : Nat), (∀ b o, b ≠ it → b ≠ S → s.heap.get? b = some o → h'.get? b = some o) → h'.get? S = some { cls := .type "list", dict := none, data := .seq acc c', slots := #[] } → ItemsOf (fun i v => items[items.size - 1 - i]? = some v) acc items.size → R (.ok (.ret .none)) { s with heap := h', toks := tk }) :
    wpAny (model prog w) A.in1 (Builtin.«list.__init__» ⟨[.ref S, .ref it], []⟩)
      (fun fin s' => match fin with | .done f => R (.ok f) s' | .again c' => c'.quiet = true ∧ codeAny (model prog w) A c' R s') (fun e s' => R (.error e) s') s := by
  show wpAny _ A.in1 (do let old ← Builtin.List.listItems (.ref S); Builtin.List.listUpdate (.ref S) (fun _ => #[]); letGo old.toList.reverse; Builtin.List.listExtendWith (.ref S) (.ref it) .none) _ _ s
  refine wpAny_bind ?_
  unfold Builtin.List.listItems
  refine wpAny_bind (wpAny_seqItems hS rfl (wpAny_pure ?_))
  show wpAny _ A.in1 (updateSeq S (fun _ => #[]) >>= fun _ => letGo (#[] : Array Value).toList.reverse >>= fun _ => Builtin.List.listExtendWith (.ref S) (.ref it) .none) _ _ s
  refine wpAny_bind (wpAny_updateSeq hS rfl ?_)
  have hS₂ := Heap.get?_update_self (Obj.mapSeq (fun _ => (#[] : Array Value))) hS rfl
  have oth : ∀ b o, b ≠ S → s.heap.get? b = some o → (s.heap.update S (Obj.mapSeq (fun _ => (#[] : Array Value)))).get? b = some o :=
    fun b o hb e => (Heap.get?_update_other _ _ (Ne.symm hb)).trans e
  refine wpAny_bind (wpAny_letGo ?_)
  obtain ⟨ol, hol, hr⟩ := id hl
  refine extend_rev (s := { s with heap := s.heap.update S (Obj.mapSeq (fun _ => (#[] : Array Value))) }) .none hh (hit.at fun o e => oth it o (Ne.symm hSi) e) ⟨ol, oth l ol (Ne.symm hSl) hol, hr⟩ hne hSi hSl hn hS₂ fun h' tk acc c' hk hS' hacc => ?_
  exact hR h' tk acc c' (fun b o hb hb2 e => hk b o hb hb2 (oth b o hb2 e)) hS' hacc
theorem call_list_rev {E : Value → Shared → Prop} {it l : Addr} {items : Array Value} {Q : Value → Shared → Prop} (hh : A.handled = none) (hit : s.heap.IsRevIter it l ((items.size : Int) - 1)) (hl : s.heap.IsList l items) (hne : l ≠ it) (hn : items.size ≤ sizeLine)
    (hQ : ∀ (h' : Heap) (tk : Nat) (acc : Array Value) (c' : Nat), (∀ b o, b ≠ it → s.heap.get? b = some o → h'.get? b = some o) → h'.get? s.heap.objs.size = some { cls := .type "list", dict := none, data := .seq acc c', slots := #[] } → ItemsOf (fun i v => items[items.size - 1 - i]? = some v) acc items.size →
      Q (.ref s.heap.objs.size) { s with heap := h', toks := tk }) :
    wpAny (model prog w) A (call (.type "list") [.ref it]) Q E s := by
  obtain ⟨oi, hoi, _⟩ := id hit
  obtain ⟨ol, hol, hr⟩ := id hl
  have hSi : s.heap.objs.size ≠ it := Nat.ne_of_gt (Heap.lt_size hoi)
  have hSl : s.heap.objs.size ≠ l := Nat.ne_of_gt (Heap.lt_size hol)
  refine callType_codes (Q₁ := fun obj s₁ => obj = .ref s.heap.objs.size ∧ s₁ = { s with heap := s.heap.push { cls := .type "list", data := .seq #[] } }) F.called_list (F.typeCall_list_1 _) F.entry_list_init
    (code_list_new _ ⟨rfl, rfl⟩) fun obj s₁ h₁ => ?_
  obtain ⟨rfl, rfl⟩ := h₁
  have hS : (s.heap.push { cls := .type "list", data := .seq #[] }).get? s.heap.objs.size = some { cls := .type "list", data := .seq #[] } := Heap.get?_push_size _ rfl
  refine ⟨⟨_, hS, rfl⟩, F.args_list_init_2 _ _, list_init_rev (s := { s with heap := s.heap.push { cls := .type "list", data := .seq #[] } }) hh (hit.at fun o e => Heap.get?_push_of_some _ e) ⟨ol, Heap.get?_push_of_some _ hol, hr⟩ hne hSi hSl hn hS fun h' tk acc c' hk hS' hacc => ?_⟩
  exact ⟨rfl, hQ h' tk acc c' (fun b o hb e => hk b o hb (Nat.ne_of_lt (Heap.lt_size e)) (Heap.get?_push_of_some _ e)) hS' hacc⟩
end
section
variable {X : Cx}
theorem pe_lstRev {e : Expr} {te : TE} {p p2 pos pos2 : Pos} (hc : X.calm = true) (hg : Gl X "list") (hm : X.mg "list" = none) (hg2 : Gl X "reversed") (hm2 : X.mg "reversed" = none) (he : PE X e te)
    (hs : starEach [e] X.env = (false, eval e X.env) :: starEach [] X.env := by rfl)
    (hs2 : starEach [.Call (.Name "reversed" p2) [e] [] pos2] X.env = (false, eval (.Call (.Name "reversed" p2) [e] [] pos2) X.env) :: starEach [] X.env := by rfl) :
    PE X (.Call (.Name "list" p) [.Call (.Name "reversed" p2) [e] [] pos2] [] pos) (tRevL X.K te) := by
  refine ⟨fun pins s σ H Q I h => ?_⟩
  refine Call_ (ld_blt I hg hm boot_list (PyProof.Rows.callWith_type1 (args_cons (Call_ (ld_blt I hg2 hm2 PyProof.Rows.boot_reversed (PyProof.Rows.callWith_type1 (args_cons (thn (he.run pins s σ H _ I h) fun u s1 ⟨v, H1, I1, r1, q1⟩ => args_nil ?_) hs) hs rfl))) hs2) hs2 rfl))
  obtain ⟨a, xs, ev, hq, q⟩ := q1
  subst ev
  obtain rfl : u = Value.ref a := r1
  obtain ⟨its, rv, p', hz⟩ := I1.list hq
  refine call_reversed_list p'.isList (args_nil ?_)
  have k0 : ∀ b o, s1.heap.get? b = some o → (s1.heap.push (revObj a ((its.toArray.size : Int) - 1))).get? b = some o := fun b o e => Heap.get?_push_of_some _ e
  have I2 : Inv X pins σ H1 { s1 with heap := s1.heap.push (revObj a ((its.toArray.size : Int) - 1)) } := I1.kept (t' := s1.toks) k0
  obtain ⟨f0, f1, f2, f3, f4, f5⟩ := I1.fpOk (H' := H1) (b := s1.heap.objs.size) (Nat.le_refl _) (I1.hok.fresh (Nat.le_refl _))
  have hl := p'.isList
  obtain ⟨ol, hol, _⟩ := id hl
  have hne : a ≠ s1.heap.objs.size := Nat.ne_of_lt (Heap.lt_size hol)
  have hn : its.toArray.size ≤ sizeLine := by rw [List.size_toArray, ← rv.length]; exact hz
  refine call_list_rev (s := { s1 with heap := s1.heap.push (revObj a ((its.toArray.size : Int) - 1)) }) (I1.ok.hd hc) ⟨_, Heap.get?_push_size _ rfl, rfl, rfl⟩ (hl.push _) hne hn fun h' tk acc c' hk hS hi => ?_
  have hi' : ObjOk X.prog X.w (upd H1 (s1.heap.push (revObj a ((its.toArray.size : Int) - 1))).objs.size (.lst xs.reverse)) h' (s1.heap.push (revObj a ((its.toArray.size : Int) - 1))).objs.size (.lst xs.reverse) :=
    ⟨by rw [List.length_reverse]; exact hz, acc.toList, c', vals_rev rv hi, by rw [Array.toArray_toList]; exact hS⟩
  have I3 := Inv.turnedNew (t' := tk) (ch := [s1.heap.objs.size]) I2 (fun b o hb e => hk b o (by simpa using hb) e) (fun b hb => by
    have hb' : b = s1.heap.objs.size := by simpa using hb
    rw [hb']
    exact I1.fpOk (H' := H1) (Nat.le_refl _) (I1.hok.fresh (Nat.le_refl _))) (Nat.le_refl _) hi'
  exact ⟨.ref _, _, I3, rfl, q _ (I2.hok.fresh (Nat.le_refl _))⟩
end
theorem ztry {X : Cx} {c : RC} {b s : S} {cn : String} {xn : Str} {body suite : List Stmt} {b₀ : Stmt} {np pos pos' : Pos} (hK : c.K = X.K) (tk : Takes X c.W) (hg : Gl X xn) (hm : X.mg xn = some (.ref (ca X.K cn)))
    (hb : ∀ (W : WX) (pn : List (Addr × Obj)) (xe : Value → Shared → Prop), Takes (X.tr pn xe) W → PassesOwn (model X.prog X.w) X.A X.env xe → PSs (X.tr pn xe) body (rdS (c.with W) b))
    (hsu : ∀ (a : Addr) (oe : Obj) (pn : List (Addr × Obj)), PSs (X.suite a ((a, oe) :: pn)) (b₀ :: suite) (rdS (c.with noW) s))
    (hs : X.stack = X.env :: X.outer := by rfl) (hf : X.env.frame = some X.env.locals := by rfl) (hd : (xn == ("__debug__" : Str)) = false := by decide) :
    PS X (.Try body [.ExceptHandler (some (.Name xn np)) none (b₀ :: suite) pos'] [] [] pos) (rdS c (.try_ b cn none s)) := by
  have h := ps_try_only (X := X) (tb := fun W => rdS (c.with W) b) (ts := fun _ _ _ => rdS (c.with noW) s) (pos := pos) (pos' := pos') (np := np) hs hf ⟨hg, hd, .inl hm⟩ tk hb (fun a oe cls d pn _ _ => hsu a oe pn)
  rw [← hK] at h
  exact h

theorem ztryAs {X : Cx} {c : RC} {b s : S} {cn : String} {i : Nat} {xn n : Str} {body suite : List Stmt} {b₀ : Stmt} {np pos pos' : Pos} (hK : c.K = X.K) (tk : Takes X c.W) (hN : X.N.Nodup) (hg : Gl X xn) (hm : X.mg xn = some (.ref (ca X.K cn)))
    (hb : ∀ (W : WX) (pn : List (Addr × Obj)) (xe : Value → Shared → Prop), Takes (X.tr pn xe) W → PassesOwn (model X.prog X.w) X.A X.env xe → PSs (X.tr pn xe) body (rdS (c.with W) b))
    (hsu : ∀ (a : Addr) (oe : Obj) (cls : Value) (d : Option Addr) (pn : List (Addr × Obj)) (kk : String), Zc cls d oe → (∃ vs, oe.data = .fields vs) → PSs (X.suite a ((a, oe) :: pn)) (b₀ :: suite) (rdS (c.exc kk a cls d) s))
    (hi : X.N[i]? = some n := by rfl) (hln : X.env.kindOf n = some .local := by rfl) (hs : X.stack = X.env :: X.outer := by rfl) (hf : X.env.frame = some X.env.locals := by rfl) (hd : (xn == ("__debug__" : Str)) = false := by decide) :
    PS X (.Try body [.ExceptHandler (some (.Name xn np)) (some n) (b₀ :: suite) pos'] [] [] pos) (rdS c (.try_ b cn (some i) s)) := by
  have h := ps_try_as (X := X) (i := i) (tb := fun W => rdS (c.with W) b) (ts := fun a cls d D σ H => ∃ k, cls = .ref (ca X.K k) ∧ rdS (c.exc k a cls d) s D σ H) (pos := pos) (pos' := pos') (np := np) hs hf hN hi hln ⟨hg, hd, .inl hm⟩ tk hb
    (fun a oe cls d pn hz hf => ⟨fun pins st σ H D I h => by obtain ⟨k, _, h⟩ := h; exact (hsu a oe cls d pn k hz hf).run pins st σ H D I h⟩)
  rw [← hK] at h
  exact h
def excB (K : PySem.W.Frag) (x : Str) : Bool := He.eqO (PySem.W.findIn K (.ref (He.ga K x)) "__getattribute__") (some (some (.builtin "BaseException.__getattribute__"))) && (He.eqO (PySem.W.findIn K (.ref (He.ga K x)) "__getattr__") (some none) && (decide (PySem.W.subIn K (.ref (He.ga K x)) (.type "BaseException") = some true) && (PySem.W.hasDictIn K (He.ga K x) &&
  (He.eqO (PySem.W.findIn K (.ref (He.ga K x)) "__class__") (some (some (.builtin "object.__class__"))) && (He.eqO (PySem.W.specialIn K (.builtin "object.__class__") "__get__") (some (some (.builtin "getset_descriptor.__get__"))) && (decide (PySem.W.takesIn K (.builtin "object.__class__") = some true) && decide (PySem.W.mroIn K (He.ga K x) (.type "object") = some true)))))))
theorem excC_ok {K : PySem.W.Frag} {x : Str} (h : excB K x = true) : ExcC K (He.ga K x) := by
  obtain ⟨h1, h⟩ := He.ba h
  obtain ⟨h2, h⟩ := He.ba h
  obtain ⟨h3, h⟩ := He.ba h
  obtain ⟨h4, h⟩ := He.ba h
  obtain ⟨h5, h⟩ := He.ba h
  obtain ⟨h6, h⟩ := He.ba h
  obtain ⟨h7, h8⟩ := He.ba h
  exact ⟨He.eqO_ok h1, He.eqO_ok h2, of_decide_eq_true h3, h4, He.eqO_ok h5, He.eqO_ok h6, of_decide_eq_true h7, of_decide_eq_true h8⟩

/-! ### constants, a tuple's index -/
section
variable {X : Cx} {v : V} {x : Str}
/-- a name of the module that stands for v -/
def Says (mg : Str → Option Value) (x : Str) (v : V) : Prop := ∃ u, mg x = some u ∧ RelV v u
theorem zglo {pos : Pos} (c : Says X.mg x v) (hg : Gl X x := by rfl) (hd : (x == ("__debug__" : Str)) = false := by decide) : PE X (.Name x pos) (tC v) := by
  obtain ⟨u, hm, r⟩ := c
  exact pe_glob hg hm r hd
theorem zgix {e : Expr} {te : TE} {apos cpos pos : Pos} (c : Says X.mg x v) (ha : PE X e te) (hg : Gl X x := by rfl) (hd : (x == ("__debug__" : Str)) = false := by decide)
    (he : starEach [e] X.env = (false, eval e X.env) :: starEach [] X.env := by rfl)
    (hbase : attributeBase (.Name x pos) "index" X.env (eval (.Name x pos) X.env) = eval (.Name x pos) X.env := by rfl)
    (hfew : ((backTo cpos (starEach [e] X.env)).all (fun x => !x.1) && (backToKw cpos (keywordEach [] X.env)).all (fun x => x.1.isSome) && decide ([e].length + ([] : List Keyword).length + (if ([] : List Keyword).isEmpty then 0 else 1) < 30)) = true := by rfl)
    (hline : (apos.endLine == cpos.line) = true := by rfl) (hplain : (backTo cpos (starEach [] X.env)).any (·.1) = false := by rfl) :
    PE X (.Call (.Attribute (.Name x pos) "index" apos) [e] [] cpos) (fun σ H Q => tyV X.K "tuple" v H ∧ te σ H fun y H2 => rTix X.K v [y] H2 Q) :=
  pe_imp (pe_bm PySem.F.plainAttrs_tuple PySem.F.slot_tuple_index PySem.F.type_tuple_index mt_tup_index (zglo c hg hd) (pa_cons ha pa_nil he) hbase hfew hline he hplain) fun _ _ _ h => h
end

/-! ### built-ins by name -/
section
variable {X : Cx} {e e' : Expr} {t : TA} {p pos : Pos}
theorem zb_len (hg : Gl X "len") (hm : X.mg "len" = none) (ha : PA X [e] t) (he : starEach [e] X.env = (false, eval e X.env) :: starEach [] X.env := by rfl) : PE X (.Call (.Name "len" p) [e] [] pos) (tCB (rBi X.K .len) t) :=
  pe_callB z_len hg hm (by decide +kernel) ha (he := he)
theorem zb_int (hg : Gl X "int") (hm : X.mg "int" = none) (ha : PA X [e] t) (he : starEach [e] X.env = (false, eval e X.env) :: starEach [] X.env := by rfl) : PE X (.Call (.Name "int" p) [e] [] pos) (tCB (rBi X.K .int) t) :=
  pe_callTy z_int hg hm (by decide +kernel) ha (he := he)
theorem zb_str (hg : Gl X "str") (hm : X.mg "str" = none) (ha : PA X [e] t) (he : starEach [e] X.env = (false, eval e X.env) :: starEach [] X.env := by rfl) : PE X (.Call (.Name "str" p) [e] [] pos) (tCB (rBi X.K .str) t) :=
  pe_callTy z_str hg hm (by decide +kernel) ha (he := he)
theorem zb_list (hc : X.calm = true) (hg : Gl X "list") (hm : X.mg "list" = none) (ha : PA X [e] t) (he : starEach [e] X.env = (false, eval e X.env) :: starEach [] X.env := by rfl) : PE X (.Call (.Name "list" p) [e] [] pos) (tCB (rBi X.K .list) t) :=
  pe_callTy (z_list hc) hg hm (by decide +kernel) ha (he := he)
theorem zb_tuple (hg : Gl X "tuple") (hm : X.mg "tuple" = none) (ha : PA X [e] t) (he : starEach [e] X.env = (false, eval e X.env) :: starEach [] X.env := by rfl) : PE X (.Call (.Name "tuple" p) [e] [] pos) (tCB (rBi X.K .tuple) t) :=
  pe_callTy z_tuple hg hm (by decide +kernel) ha (he := he)
theorem zb_dict (hg : Gl X "dict") (hm : X.mg "dict" = none) (ha : PA X [e] t) (he : starEach [e] X.env = (false, eval e X.env) :: starEach [] X.env := by rfl) : PE X (.Call (.Name "dict" p) [e] [] pos) (tCB (rBi X.K .dict) t) :=
  pe_callTy z_dict hg hm (by decide +kernel) ha (he := he)
theorem zb_sum (hc : X.calm = true) (hg : Gl X "sum") (hm : X.mg "sum" = none) (ha : PA X [e] t) (he : starEach [e] X.env = (false, eval e X.env) :: starEach [] X.env := by rfl) : PE X (.Call (.Name "sum" p) [e] [] pos) (tCB (rBi X.K .sum) t) :=
  pe_callB (z_sum hc) hg hm (by decide +kernel) ha (he := he)
theorem zb_any (hc : X.calm = true) (hg : Gl X "any") (hm : X.mg "any" = none) (ha : PA X [e] t) (he : starEach [e] X.env = (false, eval e X.env) :: starEach [] X.env := by rfl) : PE X (.Call (.Name "any" p) [e] [] pos) (tCB (rBi X.K .any) t) :=
  pe_callB (z_any hc) hg hm (by decide +kernel) ha (he := he)
theorem zb_sorted (hc : X.calm = true) (hg : Gl X "sorted") (hm : X.mg "sorted" = none) (ha : PA X [e] t) (he : starEach [e] X.env = (false, eval e X.env) :: starEach [] X.env := by rfl) : PE X (.Call (.Name "sorted" p) [e] [] pos) (tCB (rBi X.K .sorted) t) :=
  pe_callB (z_sorted hc) hg hm (by decide +kernel) ha (he := he)
theorem zb_abs (hg : Gl X "abs") (hm : X.mg "abs" = none) (ha : PA X [e] t) (he : starEach [e] X.env = (false, eval e X.env) :: starEach [] X.env := by rfl) : PE X (.Call (.Name "abs" p) [e] [] pos) (tCB (rBi X.K .abs) t) :=
  pe_callB z_abs hg hm (by decide +kernel) ha (he := he)
theorem zb_min2 (hc : X.calm = true) (hg : Gl X "min") (hm : X.mg "min" = none) (ha : PA X [e, e'] t) (he : starEach [e, e'] X.env = (false, eval e X.env) :: starEach [e'] X.env := by rfl) (hpl : (backTo pos (starEach [e'] X.env)).any (·.1) = false := by rfl) :
    PE X (.Call (.Name "min" p) [e, e'] [] pos) (tCB (rBi X.K .min2) t) := pe_callB (z_min2 hc) hg hm (by decide +kernel) ha (he := he) (hpl := hpl)
theorem zb_max2 (hc : X.calm = true) (hg : Gl X "max") (hm : X.mg "max" = none) (ha : PA X [e, e'] t) (he : starEach [e, e'] X.env = (false, eval e X.env) :: starEach [e'] X.env := by rfl) (hpl : (backTo pos (starEach [e'] X.env)).any (·.1) = false := by rfl) :
    PE X (.Call (.Name "max" p) [e, e'] [] pos) (tCB (rBi X.K .max2) t) := pe_callB (z_max2 hc) hg hm (by decide +kernel) ha (he := he) (hpl := hpl)
theorem zb_divmod (hg : Gl X "divmod") (hm : X.mg "divmod" = none) (ha : PA X [e, e'] t) (he : starEach [e, e'] X.env = (false, eval e X.env) :: starEach [e'] X.env := by rfl) (hpl : (backTo pos (starEach [e'] X.env)).any (·.1) = false := by rfl) :
    PE X (.Call (.Name "divmod" p) [e, e'] [] pos) (tCB (rBi X.K .divmod) t) := pe_callB z_divmod hg hm (by decide +kernel) ha (he := he) (hpl := hpl)
theorem zty (t : Tn) {p : Pos} (hg : Gl X (Str.ofString t.nm)) (hm : X.mg (Str.ofString t.nm) = none) : PE X (.Name (Str.ofString t.nm) p) (tC (.ty t.nm)) := by
  refine pe_bltn (u := .type t.nm) hg hm ?_ rfl ?_ ?_
  · cases t <;> decide +kernel
  · cases t <;> decide
  · cases t <;> decide
theorem zisi {ta : TE} {x : Str} {q : Pos} (t : Tn) (hx : x = Str.ofString t.nm) (hg : Gl X "isinstance") (hm : X.mg "isinstance" = none) (hg2 : Gl X x) (hm2 : X.mg x = none) (ha : PE X e ta)
    (he : starEach [e, .Name x q] X.env = (false, eval e X.env) :: starEach [.Name x q] X.env := by rfl) (he2 : starEach [.Name x q] X.env = (false, eval (.Name x q) X.env) :: starEach [] X.env := by rfl) (hpl : (backTo pos (starEach [.Name x q] X.env)).any (·.1) = false := by rfl) :
    PE X (.Call (.Name "isinstance" p) [e, .Name x q] [] pos) (tCB (rIsi X.K) (tCons ta (tCons (tC (.ty t.nm)) tNil))) := by
  subst hx
  exact pe_callB call_isi hg hm (by decide +kernel) (pa_cons ha (pa_cons (zty t hg2 hm2) pa_nil he2) he) (he := he) (hpl := hpl)
theorem zisc {ta : TE} {x : Str} {q : Pos} {C : Addr} (hg : Gl X "isinstance") (hm : X.mg "isinstance" = none) (hg2 : Gl X x) (hm2 : X.mg x = some (.ref C)) (ha : PE X e ta)
    (hd : (x == ("__debug__" : Str)) = false := by decide) (he : starEach [e, .Name x q] X.env = (false, eval e X.env) :: starEach [.Name x q] X.env := by rfl) (he2 : starEach [.Name x q] X.env = (false, eval (.Name x q) X.env) :: starEach [] X.env := by rfl) (hpl : (backTo pos (starEach [.Name x q] X.env)).any (·.1) = false := by rfl) :
    PE X (.Call (.Name "isinstance" p) [e, .Name x q] [] pos) (tCB (rIsi X.K) (tCons ta (tCons (tC (.ref C)) tNil))) :=
  pe_callB call_isi hg hm (by decide +kernel) (pa_cons ha (pa_cons (zglo ⟨_, hm2, rfl⟩ hg2 hd) pa_nil he2) he) (he := he) (hpl := hpl)
theorem zisi2 {ta : TE} {x y : Str} {q1 q2 q3 : Pos} {kk : Nat} (t u : Tn) (hx : x = Str.ofString t.nm) (hy : y = Str.ofString u.nm) (hg : Gl X "isinstance") (hm : X.mg "isinstance" = none) (hg2 : Gl X x) (hm2 : X.mg x = none) (hg3 : Gl X y) (hm3 : X.mg y = none) (ha : PE X e ta)
    (he : starEach [e, .Tuple [.Name x q1, .Name y q2] kk q3] X.env = (false, eval e X.env) :: starEach [.Tuple [.Name x q1, .Name y q2] kk q3] X.env := by rfl)
    (he2 : starEach [.Tuple [.Name x q1, .Name y q2] kk q3] X.env = (false, eval (.Tuple [.Name x q1, .Name y q2] kk q3) X.env) :: starEach [] X.env := by rfl) (hpl : (backTo pos (starEach [.Tuple [.Name x q1, .Name y q2] kk q3] X.env)).any (·.1) = false := by rfl)
    (ht : starEach [.Name x q1, .Name y q2] X.env = (false, eval (.Name x q1) X.env) :: starEach [.Name y q2] X.env := by rfl) (ht2 : starEach [.Name y q2] X.env = (false, eval (.Name y q2) X.env) :: starEach [] X.env := by rfl) :
    PE X (.Call (.Name "isinstance" p) [e, .Tuple [.Name x q1, .Name y q2] kk q3] [] pos) (rIsi2 X.K t u ta) := by
  subst hx hy
  exact pe_callB call_isiT hg hm (by decide +kernel) (pa_cons ha (pa_cons (pe_tup (pa_cons (zty t hg2 hm2) (pa_cons (zty u hg3 hm3) pa_nil ht2) ht)) pa_nil he2) he) (he := he) (hpl := hpl)
end

/-! ### what is being handled -/
section
variable {X : Cx} {c : RC} {kk cn : String} {i : Nat} {xc : Str} {a : Addr} {oe : Obj} {cls : Value} {d : Option Addr} {pn : List (Addr × Obj)} {p q pos : Pos} {e : Expr}
theorem zisx (hK : c.K = X.K) (hz : Zc cls d oe) (hf : ∃ vs, oe.data = .fields vs) (hg : Gl X "isinstance") (hm : X.mg "isinstance" = none) (hg2 : Gl X xc) (hm2 : X.mg xc = some (.ref (ca X.K cn))) (he : PE (X.suite a ((a, oe) :: pn)) e (tVar i))
    (hd : (xc == ("__debug__" : Str)) = false := by decide) (he1 : starEach [e, .Name xc q] X.env = (false, eval e X.env) :: starEach [.Name xc q] X.env := by rfl) (he2 : starEach [.Name xc q] X.env = (false, eval (.Name xc q) X.env) :: starEach [] X.env := by rfl) (hpl : (backTo pos (starEach [.Name xc q] X.env)).any (·.1) = false := by rfl) :
    PE (X.suite a ((a, oe) :: pn)) (.Call (.Name "isinstance" p) [e, .Name xc q] [] pos) (rdE (c.exc kk a cls d) (.isx i cn)) := by
  refine ⟨fun pins s σ H Q I h => ?_⟩
  obtain ⟨D, e1, e2, C, e3, b, kb, qq⟩ := h
  have e1' : cls = .ref D := e1
  have e2' : d = none := e2
  subst e1' e2'
  have C' : ExcC X.K D := by rw [← hK]; exact C
  have kb' : PySem.W.kitOne X.K (.ref D) (.ref (ca X.K cn)) = some b := by rw [← hK]; exact kb
  have pe := pe_callB (X := X.suite a ((a, oe) :: pn)) (pos := pos) (p := p) (call_isE (pn := pn) C' hz hf) hg hm (by decide +kernel) (pa_cons he (pa_cons (zglo (X := X.suite a ((a, oe) :: pn)) (pos := q) (v := .ref (ca X.K cn)) ⟨_, hm2, rfl⟩ hg2 hd) pa_nil he2) he1) (he := he1) (hpl := hpl)
  exact pe.run pins s σ H Q I ⟨.ref a, e3, .ref (ca X.K cn), .ref (ca X.K cn), b, rfl, fun u r => r, kb', qq⟩
theorem zisxB (hK : c.K = X.K) (hz : Zc cls d oe) (hf : ∃ vs, oe.data = .fields vs) (hg : Gl X "isinstance") (hm : X.mg "isinstance" = none) (hxc : xc = Str.ofString cn) (hg2 : Gl X xc) (hm2 : X.mg xc = none) (hbt : bootBuiltins xc = some (.type cn)) (hnn : (xc == ("__name__" : Str)) = false) (he : PE (X.suite a ((a, oe) :: pn)) e (tVar i))
    (hd : (xc == ("__debug__" : Str)) = false := by decide) (he1 : starEach [e, .Name xc q] X.env = (false, eval e X.env) :: starEach [.Name xc q] X.env := by rfl) (he2 : starEach [.Name xc q] X.env = (false, eval (.Name xc q) X.env) :: starEach [] X.env := by rfl) (hpl : (backTo pos (starEach [.Name xc q] X.env)).any (·.1) = false := by rfl) :
    PE (X.suite a ((a, oe) :: pn)) (.Call (.Name "isinstance" p) [e, .Name xc q] [] pos) (rdE (c.exc kk a cls d) (.isxB i cn)) := by
  refine ⟨fun pins s σ H Q I h => ?_⟩
  obtain ⟨D, e1, e2, C, e3, b, kb, qq⟩ := h
  have e1' : cls = .ref D := e1
  have e2' : d = none := e2
  subst e1' e2'
  have C' : ExcC X.K D := by rw [← hK]; exact C
  have kb' : PySem.W.kitOne X.K (.ref D) (.type cn) = some b := by rw [← hK]; exact kb
  have pt : PE (X.suite a ((a, oe) :: pn)) (.Name xc q) (tC (.ty cn)) := pe_bltn (u := .type cn) hg2 hm2 hbt rfl (by intro z; rw [z] at hnn; exact absurd hnn (by decide)) hd
  have pe := pe_callB (X := X.suite a ((a, oe) :: pn)) (pos := pos) (p := p) (call_isE (pn := pn) C' hz hf) hg hm (by decide +kernel) (pa_cons he (pa_cons pt pa_nil he2) he1) (he := he1) (hpl := hpl)
  exact pe.run pins s σ H Q I ⟨.ref a, e3, .ty cn, .type cn, b, rfl, fun u r => r, kb', qq⟩
end

/-! ### names, targets, statements -/
section
variable {X : Cx} {pos : Pos}
theorem znm (i : Nat) {x : Str} (hN : X.N.Nodup) (hi : X.N[i]? = some x := by rfl) (hx : Loc X.env.scope x := by first | exact Or.inl rfl | exact Or.inr rfl) (hf : X.fn x = true ∨ X.env.scope.names.lookup x = some .local := by first | exact Or.inl rfl | exact Or.inr rfl) : L2.PG X (.Name x pos) (gName i) := pg_name hN hi hx hf
theorem zset (i : Nat) {x : Str} {e : Expr} {te : TE} {pos' : Pos} (hN : X.N.Nodup) (he : PE X e te) (hi : X.N[i]? = some x := by rfl) (hx : Loc X.env.scope x := by first | exact Or.inl rfl | exact Or.inr rfl)
    (hs : swapsWith e (some (.Name x pos')) pos.line X.env = pure false := by rfl) (hf : X.fn x = true ∨ X.env.scope.names.lookup x = some .local := by first | exact Or.inl rfl | exact Or.inr rfl) : PS X (.Assign [.Name x pos'] e pos) (tAsg te (gName i)) := ps_set hN hi hx he hs hf
theorem z_iadd : PIp X .Add (rAug .add) := ip_add
theorem z_isub : PIp X .Sub (rAug .sub) := ip_sub
theorem z_fadd : InOp X .Add (rAug .add) := in_add
theorem z_fsub : InOp X .Sub (rAug .sub) := in_sub
theorem ztru {a : Expr} {ta : TE} (ha : PE X a ta) (he : ∀ whole, isTrue a X.env whole = (do let v ← whole; standAt a.pos; holding [v] (truthy v)) := by intro _; rfl) : PT X a (fun σ H Q => ta σ H fun x H' => ∃ k, TruV X.K x H' k ∧ Q k H') := pt_truth ha he
end
theorem fn_zero {P : Program} {w : World} {K : PySem.W.Frag} {mg : Str → Option Value} {base : Heap} {CX : CXT} {k : Nat} {f : Addr} {fd : FuncData} {ps : List Str} {PR : Prog} {nm : String} : FnOk P w K mg base CX k f fd ps (spR PR K 0 nm) :=
  ⟨fun vs H Q E h => (by obtain ⟨_, _, _, _, _, _, _, _, _, _, z, _⟩ := h; cases z), fun A outer s H args us vs Q E _ _ _ _ h => (by obtain ⟨_, _, _, _, _, _, _, _, _, _, z, _⟩ := h; cases z)⟩
theorem lt1_of {u : Nat} (h : u + 64 < cLine) : u + 1 < cLine := by omega
end Z

set_option maxRecDepth 100000
set_option maxHeartbeats 2000000
/-! ZM: what the head tells, the law's end. -/
namespace Z
open PySem PySem.Spec PyProof.Rows L2

/-! ### a tuple of the top -/
def tupZ (K : PySem.W.Frag) (x : Str) (vs : List V) : Bool := match K.lookup (He.ga K x) with
  | some ⟨.type c, none, .seq its _, _⟩ => decide (c = "tuple") && (decide (its.size ≤ sizeLine) && He.relAll vs its.toList)
  | _ => false
theorem tupZ_ok {K : PySem.W.Frag} {x : Str} {vs : List V} (h : tupZ K x vs = true) (H : Hp) : SqT K H (He.ga K x) vs ∧ tyV K "tuple" (.ref (He.ga K x)) H := by
  unfold tupZ at h
  cases q : K.lookup (He.ga K x) with
  | none => rw [q] at h; cases h
  | some o =>
    obtain ⟨oc, od, dt, osl⟩ := o
    rw [q] at h
    cases oc with
    | type c =>
      cases od with
      | none =>
        cases dt with
        | seq its n =>
          obtain ⟨h1, h2⟩ := He.ba (show (decide (c = "tuple") && (decide (its.size ≤ sizeLine) && He.relAll vs its.toList)) = true from h)
          obtain ⟨h3, h4⟩ := He.ba h2
          have e := congrArg Value.type (of_decide_eq_true h1)
          exact ⟨.inr ⟨_, its, n, q, e, rfl, of_decide_eq_true h3, He.relAll_ok h4⟩, .inr (.inl ⟨rfl, _, q, e, rfl⟩)⟩
        | _ => cases h
      | some a => cases dt <;> cases h
    | _ => cases od <;> cases dt <;> cases h

/-! ### the Hook -/
abbrev AlZ : Type := He.AlD × Bool
def obsZ (n : Nat) (fa : List He.Fa) (fn : List He.DefD) (ex : PySem.W.Frag → Bool) (g : Addr → Option Obj) : AlZ := (He.obsD fa fn (He.frG g (He.asD g n)), ex (He.frG g (He.asD g n)))
structure SaysZ (fa : List He.Fa) (fn : List He.DefD) (ex : PySem.W.Frag → Bool) (K : PySem.W.Frag) : Prop where
  d : He.SaysD fa fn K
  more : ex K = true
def hookZ (n : Nat) (fa : List He.Fa) (fn : List He.DefD) (ex : PySem.W.Frag → Bool) : PySem.W.Hook where
  α := AlZ
  obs := fun s => obsZ n fa fn ex s.heap.get?
  val := fun _ => (He.valD fn, true)
  says := fun _ h => ∃ K : PySem.W.Frag, K.In h ∧ SaysZ fa fn ex K
  of := fun _ _ e => ⟨_, He.frG_in, ⟨congrArg (fun z : AlZ => z.1) e, congrArg (fun z : AlZ => z.2) e⟩⟩
  keeps := fun _ _ _ ⟨K, hK, c⟩ k => ⟨K, PySem.W.Frag.In.keeps hK k, c⟩
theorem obsZ_eq {n : Nat} {fa : List He.Fa} {fn : List He.DefD} {ex : PySem.W.Frag → Bool} {g : Addr → Option Obj} {s : Shared} (h : ∀ a, g a = s.heap.get? a) : obsZ n fa fn ex g = (hookZ n fa fn ex).obs s := by
  have e : g = s.heap.get? := funext h
  rw [e] <;> rfl
section
variable {K : PySem.W.Frag} {h : Heap} {mg : Str → Option Value}
theorem says_int (X : K.In h) (G : h.Ns mainGlobals mg) {x : Str} {i : Int} (c : (He.Fa.int x i).ok K = true) : Says mg x (.int i) := by
  obtain ⟨t, e⟩ := He.int_ok X G c
  exact ⟨_, e, t, rfl⟩
theorem says_str (X : K.In h) (G : h.Ns mainGlobals mg) {x z : Str} (c : (He.Fa.str x z).ok K = true) : Says mg x (.str z) := by
  obtain ⟨t, e⟩ := He.str_ok X G c
  exact ⟨_, e, t, rfl⟩
theorem says_glo (X : K.In h) (G : h.Ns mainGlobals mg) {x : Str} (c : (He.Fa.glo x).ok K = true) : Says mg x (.ref (He.ga K x)) := ⟨_, He.glo_ok X G c, rfl⟩
end

/-! ### calls -/
section
variable {P : Program} {w : World} {K : PySem.W.Frag} {mg : Str → Option Value} {base : Heap} {CX : CXT} {k : Nat} {f : Addr} {ps : List Str} {dvs : List V} {sp : Sp} {x qual : Str} {params : Arguments} {body : List Stmt} {scope : Scope} {kws : List (Str × V)} {fd : FuncData}
theorem cal_of (F : FunD K x qual params body scope [] kws f fd) (ok : FnOk P w K mg base CX k f fd ps sp)
    (h : ∀ (kV doc pm : Value) (an : Option Addr) (cdv ct : Value) (us : List Value), us.length = ps.length → bindArgs (PySem.W.fnOf x qual params body scope .none kV doc pm an cdv ct) ⟨us, []⟩ = pure (ps.zip us)) : Cal P w K mg base CX k f ps [] sp :=
  ⟨⟨fd, [], ok, .nil, F.bindsN h⟩, F.kp⟩
theorem cal_dfl (n j : Nat) (F : FunD K x qual params body scope dvs kws f fd) (ok : FnOk P w K mg base CX k f fd ps sp) (hd : dvs ≠ []) (hn : n + (dvs.length - j) = ps.length)
    (h : ∀ (T : Addr) (kV doc pm : Value) (an : Option Addr) (cdv ct : Value) (us its : List Value), us.length = n → its.length = dvs.length →
      ∃ k, bindArgs (PySem.W.fnOf x qual params body scope (.ref T) kV doc pm an cdv ct) ⟨us, []⟩ = seqItems? (.ref T) >>= k ∧ k (some its.toArray) = pure (ps.zip (us ++ its.drop j))) : Cal P w K mg base CX k f ps (dvs.drop j) sp := by
  obtain ⟨ds, h1, h2⟩ := F.binds1 n j hd hn h
  exact ⟨⟨fd, ds, ok, h1, h2⟩, F.kp⟩
theorem cal_zero {PR : Prog} {nm : String} {fd : FuncData} (hd : Vals dvs []) (hb : Binds K fd ps []) (kp : PySem.W.keepIn K (.ref f) = true) : Cal P w K mg base CX k f ps dvs (spR PR K 0 nm) :=
  ⟨⟨fd, [], fn_zero, hd, hb⟩, kp⟩
end

/-! ### the law's end -/
theorem ok0 {P : Program} {w : World} {K : PySem.W.Frag} {mg : Str → Option Value} {base : Heap} {k : Nat} {f : Addr} {fd : FuncData} {ps : List Str} {sp : Sp} (F : FnOk P w K mg base (L2.CX P w) k f fd ps sp) : FnOk P w K mg base CX0 k f fd ps (fun vs H Q _ => sp vs H Q fun _ _ _ => False) :=
  ⟨fun vs H Q _ h => F.len vs H Q _ h, fun A outer s H args us vs Q E hr he hb hv hs => codeAny_mono (F.run A outer s H args us vs Q _ hr he hb hv hs) fun res s' hq => by
    match res, hq with
    | .error e, hq =>
      obtain ⟨_, _, _, _, _, _, _, _, _, _, _, _, z⟩ := hq
      exact z
    | .ok (.ret u), hq => exact hq⟩
def h0 (ns : List Int) : Hm := ⟨fun b => if b = 0 then some (.fz (ns.map D.int)) else none, 1⟩
theorem sim0 {K : PySem.W.Frag} {H : Hp} {a : Addr} {ns : List Int} (hO : Only H) (h : SqL K H a (ns.map V.int)) : Sim K (fun _ => a) (h0 ns) H := by
  have hf : SqF K H a (ns.map V.int) := by
    rcases h with (h | h) | h
    · rcases hO a with q | ⟨o, xs, q⟩
      · rw [q] at h; cases h
      · rw [q] at h; cases h
    · exact .inl h
    · exact .inr h
  refine ⟨fun b o hb => ?_, fun b c ob oc hb hc mb mc e => ?_⟩
  · simp only [h0] at hb
    split at hb
    · rename_i e
      cases hb
      subst e
      exact ⟨Nat.lt_succ_self 0, _, hf, repInts ns⟩
    · cases hb
  · simp only [h0] at hb hc
    split at hb
    · cases hb; cases mb
    · cases hb
theorem law_sp {P : Prog} {K : PySem.W.Frag} {N n : Nat} {F : Fn} (hf : P.fn "law" = some F) (hn : F.np = 1)
    (sol : ∀ ns : List Int, ns.length ≤ n → ∃ h', callF P N "law" [.ref 0] (h0 ns) = some (.ok (.bl true), h')) (H : Hp) (a : Addr) (ns : List Int) (hl : ns.length ≤ n) (hO : Only H) (hS : SqL K H a (ns.map V.int)) :
    spR P K N "law" [.ref a] H (fun v _ => v = .bl true) fun _ _ _ => False := by
  obtain ⟨h', e⟩ := sol ns hl
  refine ⟨F, fun _ => a, h0 ns, [.ref 0], _, h', hf, hn.symm, sim0 hO hS, .cons (.ref (r := fun _ => a) (Nat.lt_succ_self 0)) .nil, e, ?_⟩
  intro v r' H' S x q
  cases q
  rfl
end Z

set_option maxRecDepth 100000
set_option maxHeartbeats 2000000
/-! ZN: the model's steps as rules for simp; loops. -/
namespace Z
open PySem
section
variable {P : Prog} {cl : Cl} {env : Env} {h h' : Hm}
theorem callF_eq {n : Nat} {f : String} {F : Fn} {ds : List D} (hf : P.fn f = some F) (hl : ds.length = F.np) : callF P (n + 1) f ds h = endF (ex P (callF P n) F.body (start F.ns ds) h) := by
  simp only [callF, hf, if_pos hl]
@[simp] theorem ofS_eq (a b : String) : (Str.ofString a = Str.ofString b) ↔ a = b := ⟨fun e => ofString_inj e, fun e => by rw [e]⟩
@[simp] theorem ok_def {α : Type} (x : α) (h : Hm) : ok x h = some (.ok x, h) := id rfl
@[simp] theorem nxt_def (env : Env) (h : Hm) : nxt env h = some (.nx, env, h) := id rfl
@[simp] theorem liftO_some {α : Type} (x : α) (h : Hm) : liftO (some x) h = some (.ok x, h) := id rfl
@[simp] theorem liftO_none {α : Type} (h : Hm) : liftO (none : Option α) h = none := id rfl
@[simp] theorem endF_nx : endF (some (.nx, env, h)) = some (.ok .non, h) := id rfl
@[simp] theorem endF_rt (d : D) : endF (some (.rt d, env, h)) = some (.ok d, h) := id rfl
@[simp] theorem endF_ex (k : String) : endF (some (.ex k, env, h)) = some (.error k, h) := id rfl
@[simp] theorem start_def (n : Nat) (ds : List D) : start n ds = ds.map some ++ List.replicate (n - ds.length) none := id rfl
@[simp] theorem cd_non : Cst.d .non = .non := id rfl
@[simp] theorem cd_bl (b : Bool) : Cst.d (.bl b) = .bl b := id rfl
@[simp] theorem cd_int (b : Int) : Cst.d (.int b) = .int b := id rfl
@[simp] theorem cd_str (b : String) : Cst.d (.str b) = .str (Str.ofString b) := id rfl
end
/-! the same with hidden continuations: simp does not look into them -/
set_option checkBinderAnnotations false
def bndI {α β : Type} (m : Res α) [f : α → Hm → Res β] : Res β := bnd m f
def toSI {α : Type} (m : Res α) (env : Env) [f : α → Hm → Out] : Out := toS m env f
def thenSI (m : Out) [f : Env → Hm → Out] : Out := thenS m f
def optB {β : Type} (m : Option Bool) [a : Option β] [b : Option β] : Option β := match m with
  | some true => a
  | some false => b
  | none => none
def someI {α β : Type} (m : Option α) [f : α → Option β] : Option β := match m with
  | some x => f x
  | none => none
def insB {β : Type} (m : Option O) [f : String → List (String × D) → Option β] : Option β := match m with
  | some (.ins c fs) => f c fs
  | _ => none
def lstI {β : Type} (m : Option O) [f : List D → Option β] : Option β := match m with
  | some (.lst xs) => f xs
  | _ => none
def tupI {β : Type} (m : Option D) [f : List D → Option β] : Option β := match m with
  | some (.tup xs) => f xs
  | _ => none
def mtI {β : Type} (m : Option String) (o : Option D) [f : String → Option β] : Option β := match m, o with
  | some g, none => f g
  | _, _ => none
def walkI {β : Type} (m : Option (List D × List (Nat × O))) [f : List D → List (Nat × O) → Option β] : Option β := match m with
  | some (items, gd) => f items gd
  | none => none
def dgtO (m : Option (Option D)) (h : Hm) : Res D := match m with
  | some (some v) => ok v h
  | _ => none
def getV (env : Env) (i : Nat) (h : Hm) : Res D := match env[i]? with
  | some (some d) => ok d h
  | _ => none
section
variable {α β : Type} {h : Hm} {env : Env}
@[simp] theorem bndI_ok (a : α) (f : α → Hm → Res β) : @bndI α β (some (.ok a, h)) f = f a h := id rfl
@[simp] theorem bndI_er (k : String) (f : α → Hm → Res β) : @bndI α β (some (.error k, h)) f = some (.error k, h) := id rfl
@[simp] theorem bndI_no (f : α → Hm → Res β) : @bndI α β none f = none := id rfl
@[simp] theorem bndI_if (c : Prop) [Decidable c] (a b : Res α) (f : α → Hm → Res β) : @bndI α β (if c then a else b) f = if c then @bndI α β a f else @bndI α β b f := by split <;> rfl
@[simp] theorem toSI_ok (a : α) (f : α → Hm → Out) : @toSI α (some (.ok a, h)) env f = f a h := id rfl
@[simp] theorem toSI_er (k : String) (f : α → Hm → Out) : @toSI α (some (.error k, h)) env f = some (.ex k, env, h) := id rfl
@[simp] theorem toSI_no (f : α → Hm → Out) : @toSI α none env f = none := id rfl
@[simp] theorem toSI_if (c : Prop) [Decidable c] (a b : Res α) (f : α → Hm → Out) : @toSI α (if c then a else b) env f = if c then @toSI α a env f else @toSI α b env f := by split <;> rfl
@[simp] theorem thenSI_nx (f : Env → Hm → Out) : @thenSI (some (.nx, env, h)) f = f env h := id rfl
@[simp] theorem thenSI_rt (d : D) (f : Env → Hm → Out) : @thenSI (some (.rt d, env, h)) f = some (.rt d, env, h) := id rfl
@[simp] theorem thenSI_ex (k : String) (f : Env → Hm → Out) : @thenSI (some (.ex k, env, h)) f = some (.ex k, env, h) := id rfl
@[simp] theorem thenSI_no (f : Env → Hm → Out) : @thenSI none f = none := id rfl
@[simp] theorem thenSI_if (c : Prop) [Decidable c] (a b : Out) (f : Env → Hm → Out) : @thenSI (if c then a else b) f = if c then @thenSI a f else @thenSI b f := by split <;> rfl
@[simp] theorem endF_if (c : Prop) [Decidable c] (a b : Out) : endF (if c then a else b) = if c then endF a else endF b := by split <;> rfl
@[simp] theorem optB_t (a b : Option β) : @optB β (some true) a b = a := id rfl
@[simp] theorem optB_f (a b : Option β) : @optB β (some false) a b = b := id rfl
@[simp] theorem optB_d (c : Prop) [Decidable c] (a b : Option β) : @optB β (some (decide c)) a b = if c then a else b := by by_cases hc : c <;> simp [hc]
@[simp] theorem someI_some (x : α) (f : α → Option β) : @someI α β (some x) f = f x := id rfl
@[simp] theorem someI_none (f : α → Option β) : @someI α β none f = none := id rfl
@[simp] theorem insB_ins (c : String) (fs : List (String × D)) (f : String → List (String × D) → Option β) : @insB β (some (.ins c fs)) f = f c fs := id rfl
@[simp] theorem lstI_lst (xs : List D) (f : List D → Option β) : @lstI β (some (.lst xs)) f = f xs := id rfl
@[simp] theorem tupI_tup (xs : List D) (f : List D → Option β) : @tupI β (some (.tup xs)) f = f xs := id rfl
@[simp] theorem mtI_some (g : String) (f : String → Option β) : @mtI β (some g) none f = f g := id rfl
@[simp] theorem walkI_some (items : List D) (gd : List (Nat × O)) (f : List D → List (Nat × O) → Option β) : @walkI β (some (items, gd)) f = f items gd := id rfl
@[simp] theorem dgtO_some (v : D) : dgtO (some (some v)) h = some (.ok v, h) := id rfl
@[simp] theorem getV_zero (d : D) (env : Env) : getV (some d :: env) 0 h = some (.ok d, h) := id rfl
@[simp] theorem getV_succ (x : Option D) (env : Env) (i : Nat) : getV (x :: env) (i + 1) h = getV env i h := id rfl
end
section
variable {P : Prog} {cl : Cl} {env : Env} {h h' : Hm}
/-! expressions -/
@[simp] theorem ev_var (i : Nat) : ev P cl (.var i) env h = getV env i h := by (try simp only [ev, bndI, insB, mtI, someI, tupI, walkI, optB, lstI, dgtO, getV]) <;> (first | done | rfl)
@[simp] theorem ev_con (c : Cst) : ev P cl (.con c) env h = ok c.d h := by (try simp only [ev, bndI, insB, mtI, someI, tupI, walkI, optB, lstI, dgtO, getV]) <;> (first | done | rfl)
@[simp] theorem ev_glo (x : String) : ev P cl (.glo x) env h = liftO (P.glob x) h := by (try simp only [ev, bndI, insB, mtI, someI, tupI, walkI, optB, lstI, dgtO, getV]) <;> (first | done | rfl)
@[simp] theorem ev_bin (o : Bop) (a b : E) : ev P cl (.bin o a b) env h = @bndI _ _ (ev P cl a env h) fun x h1 => @bndI _ _ (ev P cl b env h1) fun y h2 => binD o x y h2 := by (try simp only [ev, bndI, insB, mtI, someI, tupI, walkI, optB, lstI, dgtO, getV]) <;> (first | done | rfl)
@[simp] theorem ev_neg (a : E) : ev P cl (.neg a) env h = @bndI _ _ (ev P cl a env h) negD := by (try simp only [ev, bndI, insB, mtI, someI, tupI, walkI, optB, lstI, dgtO, getV]) <;> (first | done | rfl)
@[simp] theorem ev_cmp (o : Cop) (a b : E) : ev P cl (.cmp o a b) env h = @bndI _ _ (ev P cl a env h) fun x h1 => @bndI _ _ (ev P cl b env h1) fun y h2 => liftO ((cmpD o x y h2).map .bl) h2 := by (try simp only [ev, bndI, insB, mtI, someI, tupI, walkI, optB, lstI, dgtO, getV]) <;> (first | done | rfl)
@[simp] theorem ev_chn (o o' : Cop) (a b c : E) : ev P cl (.chn o o' a b c) env h = @bndI _ _ (ev P cl a env h) fun x h1 => @bndI _ _ (ev P cl b env h1) fun y h2 => @optB _ (cmpD o x y h2) (@bndI _ _ (ev P cl c env h2) fun z h3 => liftO ((cmpD o' y z h3).map .bl) h3) (ok (.bl false) h2) := by (try simp only [ev, bndI, insB, mtI, someI, tupI, walkI, optB, lstI, dgtO, getV]) <;> (first | done | rfl)
@[simp] theorem ev_and (a b : E) : ev P cl (.and a b) env h = @bndI _ _ (ev P cl a env h) fun x h1 => (match x with
    | .bl true => ev P cl b env h1
    | .bl false => ok (.bl false) h1
    | _ => none) := by (try simp only [ev, bndI, insB, mtI, someI, tupI, walkI, optB, lstI, dgtO, getV]) <;> (first | done | rfl)
@[simp] theorem ev_or (a b : E) : ev P cl (.or a b) env h = @bndI _ _ (ev P cl a env h) fun x h1 => (match x with
    | .bl true => ok (.bl true) h1
    | .bl false => ev P cl b env h1
    | _ => none) := by (try simp only [ev, bndI, insB, mtI, someI, tupI, walkI, optB, lstI, dgtO, getV]) <;> (first | done | rfl)
@[simp] theorem ev_not (a : E) : ev P cl (.not a) env h = @bndI _ _ (ev P cl a env h) fun x h1 => (match x with
    | .bl b => ok (.bl (!b)) h1
    | _ => none) := by (try simp only [ev, bndI, insB, mtI, someI, tupI, walkI, optB, lstI, dgtO, getV]) <;> (first | done | rfl)
@[simp] theorem ev_ife (c : T) (a b : E) : ev P cl (.ife c a b) env h = @bndI _ _ (evT P cl c env h) fun k h1 => if k = true then ev P cl a env h1 else ev P cl b env h1 := by (try simp only [ev, bndI, insB, mtI, someI, tupI, walkI, optB, lstI, dgtO, getV]) <;> (first | done | rfl)
@[simp] theorem ev_idx (a b : E) : ev P cl (.idx a b) env h = @bndI _ _ (ev P cl a env h) fun x h1 => @bndI _ _ (ev P cl b env h1) fun y h2 => liftO (idxD x y h2) h2 := by (try simp only [ev, bndI, insB, mtI, someI, tupI, walkI, optB, lstI, dgtO, getV]) <;> (first | done | rfl)
@[simp] theorem ev_dgt (a b : E) : ev P cl (.dgt a b) env h = @bndI _ _ (ev P cl a env h) fun x h1 => @bndI _ _ (ev P cl b env h1) fun y h2 => (match x with
    | .ref p => dgtO (dget h2 p y) h2
    | _ => none) := by (try simp only [ev, bndI, insB, mtI, someI, tupI, walkI, optB, lstI, dgtO, getV]) <;> (first | done | rfl)
@[simp] theorem ev_slc (a : E) (lo hi : Eo) : ev P cl (.slc a lo hi) env h = @bndI _ _ (ev P cl a env h) fun x h1 => @bndI _ _ (evO P cl lo env h1) fun l h2 => @bndI _ _ (evO P cl hi env h2) fun u h3 => slcD x l u h3 := by (try simp only [ev, bndI, insB, mtI, someI, tupI, walkI, optB, lstI, dgtO, getV]) <;> (first | done | rfl)
@[simp] theorem ev_att (a : E) (f : String) : ev P cl (.att a f) env h = @bndI _ _ (ev P cl a env h) fun x h1 => (match x with
    | .ref p => @insB _ (h1.get p) fun c fs => if P.fld c f = true then liftO (fs.lookup f) h1 else none
    | _ => none) := by (try simp only [ev, bndI, insB, mtI, someI, tupI, walkI, optB, lstI, dgtO, getV]) <;> (first | done | rfl)
@[simp] theorem ev_tup (es : Es) : ev P cl (.tup es) env h = @bndI _ _ (evs P cl es env h) fun vs h1 => if vs.length ≤ 1000000 then ok (.tup vs) h1 else none := by (try simp only [ev, bndI, insB, mtI, someI, tupI, walkI, optB, lstI, dgtO, getV]) <;> (first | done | rfl)
@[simp] theorem ev_lst (es : Es) : ev P cl (.lst es) env h = @bndI _ _ (evs P cl es env h) fun vs h1 => if vs.length ≤ 1000000 then ok (.ref h1.next) (h1.new (.lst vs)) else none := by (try simp only [ev, bndI, insB, mtI, someI, tupI, walkI, optB, lstI, dgtO, getV]) <;> (first | done | rfl)
@[simp] theorem ev_dict0 : ev P cl (.dict .nil) env h = ok (.ref h.next) (h.new (.dic [])) := by (try simp only [ev, bndI, insB, mtI, someI, tupI, walkI, optB, lstI, dgtO, getV]) <;> (first | done | rfl)
@[simp] theorem ev_call (f : String) (es : Es) (ds : List Cst) : ev P cl (.call f es ds) env h = @bndI _ _ (evs P cl es env h) fun vs h1 => cl f (vs ++ ds.map Cst.d) h1 := by (try simp only [ev, bndI, insB, mtI, someI, tupI, walkI, optB, lstI, dgtO, getV]) <;> (first | done | rfl)
@[simp] theorem ev_meth (o : E) (m : String) (es : Es) (ds : List Cst) : ev P cl (.meth o m es ds) env h = @bndI _ _ (ev P cl o env h) fun x h1 => (match x with
    | .ref p => @insB _ (h1.get p) fun c fs => @mtI _ (P.mt c m) (fs.lookup m) fun f => @bndI _ _ (evs P cl es env h1) fun vs h2 => cl f (.ref p :: (vs ++ ds.map Cst.d)) h2
    | _ => none) := by (try simp only [ev, bndI, insB, mtI, someI, tupI, walkI, optB, lstI, dgtO, getV]) <;> (first | done | rfl)
@[simp] theorem ev_new (c : String) (es : Es) : ev P cl (.new c es) env h = @bndI _ _ (evs P cl es env h) fun vs h1 => @someI _ _ (P.mt c "__init__") fun f => @bndI _ _ (cl f (.ref h1.next :: vs) (h1.new (.ins c []))) fun x h2 => (match x with
      | .non => ok (.ref h1.next) h2
      | _ => none) := by
  rw [ev]
  refine congrArg (bnd _) (funext fun vs => funext fun h1 => ?_)
  cases P.mt c "__init__" <;> rfl
@[simp] theorem ev_bi (b : Bi) (es : Es) : ev P cl (.bi b es) env h = @bndI _ _ (evs P cl es env h) fun vs h1 => biD b vs h1 := by (try simp only [ev, bndI, insB, mtI, someI, tupI, walkI, optB, lstI, dgtO, getV]) <;> (first | done | rfl)
@[simp] theorem ev_bm (b : Bm) (o : E) (es : Es) : ev P cl (.bm b o es) env h = @bndI _ _ (ev P cl o env h) fun x h1 => if rcv b x h1 = true then @bndI _ _ (evs P cl es env h1) fun vs h2 => bmD b x vs h2 else none := by (try simp only [ev, bndI, insB, mtI, someI, tupI, walkI, optB, lstI, dgtO, getV]) <;> (first | done | rfl)
@[simp] theorem ev_gix (x : String) (e : E) : ev P cl (.gix x e) env h = @tupI _ (P.glob x) fun xs => @bndI _ _ (ev P cl e env h) fun y h1 => gixD (.tup xs) y h1 := by (try simp only [ev, bndI, insB, mtI, someI, tupI, walkI, optB, lstI, dgtO, getV]) <;> (first | done | rfl)
@[simp] theorem ev_isi (a : E) (t : Tn) : ev P cl (.isi a t) env h = @bndI _ _ (ev P cl a env h) fun x h1 => liftO ((tyN x h1).map fun n => .bl (isTn n t)) h1 := by (try simp only [ev, bndI, insB, mtI, someI, tupI, walkI, optB, lstI, dgtO, getV]) <;> (first | done | rfl)
@[simp] theorem ev_isi2 (a : E) (t u : Tn) : ev P cl (.isi2 a t u) env h = @bndI _ _ (ev P cl a env h) fun x h1 => liftO ((tyN x h1).map fun n => .bl (isTn n t || isTn n u)) h1 := by (try simp only [ev, bndI, insB, mtI, someI, tupI, walkI, optB, lstI, dgtO, getV]) <;> (first | done | rfl)
@[simp] theorem ev_comp (elt : E) (own : List Nat) (g : Tg) (k : ItK) (es : Es) (tst : T) : ev P cl (.comp elt own g k es tst) env h = @bndI _ _ (evs P cl es env h) fun vs h1 => @walkI _ (walk k vs h1) fun items gd => if g.in_ own = true then compL (fun e1 h2 => ev P cl elt e1 h2) (fun e1 h2 => evT P cl tst e1 h2) g gd h1.next (wipeE env own) items (h1.new (.lst [])) else none := by (try simp only [ev, bndI, insB, mtI, someI, tupI, walkI, optB, lstI, dgtO, getV]) <;> (first | done | rfl)
@[simp] theorem evs_nil : evs P cl .nil env h = ok [] h := by (try simp only [evs]) <;> rfl
@[simp] theorem evs_cons (e : E) (es : Es) : evs P cl (.cons e es) env h = @bndI _ _ (ev P cl e env h) fun x h1 => @bndI _ _ (evs P cl es env h1) fun xs h2 => ok (x :: xs) h2 := by (try simp only [evs]) <;> rfl
@[simp] theorem evO_none : evO P cl .none env h = ok none h := by (try simp only [evO]) <;> rfl
@[simp] theorem evO_some (e : E) : evO P cl (.some e) env h = @bndI _ _ (ev P cl e env h) fun x h1 => (match x with
    | .int i => ok (some i) h1
    | _ => none) := by (try simp only [evO]) <;> rfl
@[simp] theorem evT_yes : evT P cl .yes env h = ok true h := by (try simp only [evT, bndI, optB]) <;> (first | done | rfl)
@[simp] theorem evT_cmp (o : Cop) (a b : E) : evT P cl (.cmp o a b) env h = @bndI _ _ (ev P cl a env h) fun x h1 => @bndI _ _ (ev P cl b env h1) fun y h2 => liftO (cmpD o x y h2) h2 := by (try simp only [evT, bndI, optB]) <;> (first | done | rfl)
@[simp] theorem evT_chn (o o' : Cop) (a b c : E) : evT P cl (.chn o o' a b c) env h = @bndI _ _ (ev P cl a env h) fun x h1 => @bndI _ _ (ev P cl b env h1) fun y h2 => @optB _ (cmpD o x y h2) (@bndI _ _ (ev P cl c env h2) fun z h3 => liftO (cmpD o' y z h3) h3) (ok false h2) := by (try simp only [evT, bndI, optB]) <;> (first | done | rfl)
@[simp] theorem evT_and (a b : T) : evT P cl (.and a b) env h = @bndI _ _ (evT P cl a env h) fun k h1 => if k = true then evT P cl b env h1 else ok false h1 := by (try simp only [evT, bndI, optB]) <;> (first | done | rfl)
@[simp] theorem evT_or (a b : T) : evT P cl (.or a b) env h = @bndI _ _ (evT P cl a env h) fun k h1 => if k = true then ok true h1 else evT P cl b env h1 := by (try simp only [evT, bndI, optB]) <;> (first | done | rfl)
@[simp] theorem evT_not (a : T) : evT P cl (.not a) env h = @bndI _ _ (evT P cl a env h) fun k h1 => ok (!k) h1 := by (try simp only [evT, bndI, optB]) <;> (first | done | rfl)
@[simp] theorem evT_tru (a : E) : evT P cl (.tru a) env h = @bndI _ _ (ev P cl a env h) fun x h1 => liftO (truD x h1) h1 := by (try simp only [evT, bndI, optB]) <;> (first | done | rfl)
/-! statements -/
@[simp] theorem ex_skip : ex P cl .skip env h = nxt env h := by (try simp only [ex, toSI, thenSI, insB, someI, walkI, lstI, getV]) <;> (first | done | rfl)
@[simp] theorem ex_seq (a b : S) : ex P cl (.seq a b) env h = @thenSI (ex P cl a env h) fun env1 h1 => ex P cl b env1 h1 := by (try simp only [ex, toSI, thenSI, insB, someI, walkI, lstI, getV]) <;> (first | done | rfl)
@[simp] theorem ex_asg (i : Nat) (e : E) : ex P cl (.asg i e) env h = @toSI _ (ev P cl e env h) env fun x h1 => nxt (env.set i (some x)) h1 := by (try simp only [ex, toSI, thenSI, insB, someI, walkI, lstI, getV]) <;> (first | done | rfl)
@[simp] theorem ex_unp (is : List Nat) (e : E) : ex P cl (.unp is e) env h = @toSI _ (ev P cl e env h) env fun x h1 => @someI _ _ (seqOf x h1) fun xs => @someI _ _ (setN env is xs) fun env1 => nxt env1 h1 := by
  rw [ex]
  refine congrArg (toS _ _) (funext fun x => funext fun h1 => ?_)
  cases seqOf x h1 with
  | none => rfl
  | some xs => dsimp only [someI]; cases e : setN env is xs <;> simp only [e] <;> rfl
@[simp] theorem ex_sfld (o : E) (f : String) (e : E) : ex P cl (.sfld o f e) env h = @toSI _ (ev P cl e env h) env fun x h1 => @toSI _ (ev P cl o env h1) env fun y h2 => (match y with
    | .ref p => @insB _ (h2.get p) fun c fs => if P.fld c f = true ∧ fs.length < 1000 then nxt env (h2.put p (.ins c (setF fs f x))) else none
    | _ => none) := by (try simp only [ex, toSI, thenSI, insB, someI, walkI, lstI, getV]) <;> (first | done | rfl)
@[simp] theorem ex_sidx (o i e : E) : ex P cl (.sidx o i e) env h = @toSI _ (ev P cl e env h) env fun x h1 => @toSI _ (ev P cl o env h1) env fun y h2 => @toSI _ (ev P cl i env h2) env fun z h3 => (match y, z with
    | .ref p, .int k => @lstI _ (h3.get p) fun xs => @someI _ _ (ixD xs.length k) fun j => nxt env (h3.put p (.lst (xs.set j x)))
    | _, _ => none) := by
  rw [ex]
  refine congrArg (toS _ _) (funext fun x => funext fun h1 => congrArg (toS _ _) (funext fun y => funext fun h2 => congrArg (toS _ _) (funext fun z => funext fun h3 => ?_)))
  cases y <;> try rfl
  cases z <;> try rfl
  rename_i p k
  dsimp only
  cases e1 : h3.get p with
  | none => rfl
  | some o =>
    cases o <;> try rfl
    rename_i xs
    dsimp only [someI, lstI]
    cases e : ixD xs.length k <;> simp only [e] <;> rfl
@[simp] theorem ex_dput (o i e : E) : ex P cl (.dput o i e) env h = @toSI _ (ev P cl e env h) env fun x h1 => @toSI _ (ev P cl o env h1) env fun y h2 => @toSI _ (ev P cl i env h2) env fun z h3 => (match y with
    | .ref p => @someI _ _ (dput h3 p z x) fun h4 => nxt env h4
    | _ => none) := by
  rw [ex]
  refine congrArg (toS _ _) (funext fun x => funext fun h1 => congrArg (toS _ _) (funext fun y => funext fun h2 => congrArg (toS _ _) (funext fun z => funext fun h3 => ?_)))
  cases y <;> try rfl
  rename_i p
  dsimp only [someI]
  cases e : dput h3 p z x <;> simp only [e] <;> rfl
@[simp] theorem ex_aug (i : Nat) (o : Bop) (e : E) : ex P cl (.aug i o e) env h = @toSI _ (getV env i h) env fun x _ => @toSI _ (ev P cl e env h) env fun y h1 => @someI _ _ (augD o x y) fun z => nxt (env.set i (some z)) h1 := by
  rw [ex]
  unfold getV
  cases e1 : env[i]? with
  | none => simp only [e1] <;> rfl
  | some v =>
    cases v with
    | none => simp only [e1] <;> rfl
    | some x =>
      simp only [e1]
      show _ = toS (ev P cl e env h) env _
      refine congrArg (toS _ _) (funext fun y => funext fun h1 => ?_)
      cases e2 : augD o x y <;> simp only [e2] <;> rfl
@[simp] theorem ex_augf (o : E) (f : String) (op : Bop) (e : E) : ex P cl (.augf o f op e) env h = @toSI _ (ev P cl o env h) env fun y h1 => (match y with
    | .ref p => @insB _ (h1.get p) fun c fs => if P.fld c f = true then @someI _ _ (fs.lookup f) fun x => @toSI _ (ev P cl e env h1) env fun v h2 => @someI _ _ (augD op x v) fun z => @insB _ (h2.get p) fun c' fs' => if c' = c ∧ fs'.length < 1000 then nxt env (h2.put p (.ins c (setF fs' f z))) else none else none
    | _ => none) := by
  rw [ex]
  refine congrArg (toS _ _) (funext fun y => funext fun h1 => ?_)
  cases y <;> try rfl
  rename_i p
  dsimp only
  cases e1 : h1.get p with
  | none => rfl
  | some ob =>
    cases ob <;> try rfl
    rename_i c fs
    show (if _ then _ else _) = if _ then _ else _
    by_cases hf : P.fld c f = true
    · rw [if_pos hf, if_pos hf]
      cases e2 : fs.lookup f with
      | none => simp only [e2] <;> rfl
      | some x =>
        simp only [e2]
        show _ = toS (ev P cl e env h1) env _
        refine congrArg (toS _ _) (funext fun v => funext fun h2 => ?_)
        cases e3 : augD op x v <;> simp only [e3] <;> rfl
    · rw [if_neg hf, if_neg hf]
@[simp] theorem ex_ite (c : T) (a b : S) : ex P cl (.ite c a b) env h = @toSI _ (evT P cl c env h) env fun k h1 => if k = true then ex P cl a env h1 else ex P cl b env h1 := by (try simp only [ex, toSI, thenSI, insB, someI, walkI, lstI, getV]) <;> (first | done | rfl)
@[simp] theorem ex_for (g : Tg) (k : ItK) (es : Es) (body : S) : ex P cl (.for_ g k es body) env h = @toSI _ (evs P cl es env h) env fun vs h1 => @walkI _ (walk k vs h1) fun items gd => forL (fun e1 h2 => ex P cl body e1 h2) g gd items env h1 := by (try simp only [ex, toSI, thenSI, insB, someI, walkI, lstI, getV]) <;> (first | done | rfl)
@[simp] theorem ex_wh (c : T) (body : S) : ex P cl (.wh c body) env h = whl (fun e1 h1 => evT P cl c e1 h1) (fun e1 h1 => ex P cl body e1 h1) P.lf env h := by (try simp only [ex, toSI, thenSI, insB, someI, walkI, lstI, getV]) <;> (first | done | rfl)
@[simp] theorem ex_ret (e : E) : ex P cl (.ret e) env h = @toSI _ (ev P cl e env h) env fun x h1 => some (.rt x, env, h1) := by (try simp only [ex, toSI, thenSI, insB, someI, walkI, lstI, getV]) <;> (first | done | rfl)
@[simp] theorem ex_drop (e : E) : ex P cl (.drop e) env h = @toSI _ (ev P cl e env h) env fun _ h1 => nxt env h1 := by (try simp only [ex, toSI, thenSI, insB, someI, walkI, lstI, getV]) <;> (first | done | rfl)
@[simp] theorem ex_rai (c : String) : ex P cl (.rai c) env h = some (.ex c, env, h) := by (try simp only [ex, toSI, thenSI, insB, someI, walkI, lstI, getV]) <;> (first | done | rfl)
end


/-! ### operators, built-ins -/
section
variable {h : Hm} {i j : Int}
@[simp] theorem b_add : binD .add (.int i) (.int j) h = some (.ok (.int (i + j)), h) := id rfl
@[simp] theorem b_sub : binD .sub (.int i) (.int j) h = some (.ok (.int (i - j)), h) := id rfl
@[simp] theorem b_mul (c : (-(2 ^ 64) < i ∧ i < 2 ^ 64) ∨ (-(2 ^ 64) < j ∧ j < 2 ^ 64) ∨ ((-(2 ^ 250) < i ∧ i < 2 ^ 250) ∧ -(2 ^ 250) < j ∧ j < 2 ^ 250)) : binD .mul (.int i) (.int j) h = some (.ok (.int (i * j)), h) := if_pos c
@[simp] theorem b_fdiv (c : 0 < j ∧ j < 2 ^ 250) : binD .fdiv (.int i) (.int j) h = some (.ok (.int (i / j)), h) := if_pos c
@[simp] theorem b_mod (c : 0 < j) : binD .mod (.int i) (.int j) h = some (.ok (.int (i % j)), h) := if_pos c
@[simp] theorem b_pow2 : binD .pow (.int 2) (.int 64) h = some (.ok (.int 18446744073709551616), h) := by
  have c : 0 ≤ (64 : Int) ∧ (64 : Int) ≤ 1000000 ∧ w64 2 := by unfold w64; omega
  simp only [binD]
  rw [if_pos c]
  rfl
@[simp] theorem b_shl (c : 0 ≤ j ∧ j ≤ 1000000 ∧ -(2 ^ 64) < i ∧ i < 2 ^ 64) : binD .shl (.int i) (.int j) h = some (.ok (.int (i * 2 ^ j.toNat)), h) := if_pos ⟨c.1, c.2.1, c.2.2⟩
@[simp] theorem b_shr (c : 0 ≤ j) : binD .shr (.int i) (.int j) h = some (.ok (.int (i / 2 ^ j.toNat)), h) := if_pos c
@[simp] theorem b_band : binD .band (.int i) (.int j) h = some (.ok (.int (Builtin.bitAnd i j)), h) := id rfl
@[simp] theorem b_bor : binD .bor (.int i) (.int j) h = some (.ok (.int (Builtin.bitOr i j)), h) := id rfl
@[simp] theorem b_bxor : binD .bxor (.int i) (.int j) h = some (.ok (.int (Builtin.bitXor i j)), h) := id rfl
@[simp] theorem n_int : negD (.int i) h = some (.ok (.int (-i)), h) := id rfl
theorem b_addL {a b : Nat} {xs ys : List D} (ha : h.get a = some (.lst xs)) (hb : h.get b = some (.lst ys)) (c : xs.length + ys.length ≤ 1000000) : binD .add (.ref a) (.ref b) h = some (.ok (.ref h.next), h.new (.lst (xs ++ ys))) := by
  simp only [binD, ha, hb]
  exact if_pos c
@[simp] theorem c_eqI : cmpD .eq (.int i) (.int j) h = some (decide (i = j)) := id rfl
@[simp] theorem c_eqS (s t : Str) : cmpD .eq (.str s) (.str t) h = some (decide (s = t)) := id rfl
@[simp] theorem c_neI : cmpD .ne (.int i) (.int j) h = some (!decide (i = j)) := id rfl
@[simp] theorem c_neS (s t : Str) : cmpD .ne (.str s) (.str t) h = some (!decide (s = t)) := id rfl
@[simp] theorem c_lt : cmpD .lt (.int i) (.int j) h = some (decide (i < j)) := id rfl
@[simp] theorem c_le : cmpD .le (.int i) (.int j) h = some (decide (i ≤ j)) := id rfl
@[simp] theorem c_gt : cmpD .gt (.int i) (.int j) h = some (decide (j < i)) := id rfl
@[simp] theorem c_ge : cmpD .ge (.int i) (.int j) h = some (decide (j ≤ i)) := id rfl
@[simp] theorem bi_divmod (c : 0 < j ∧ -(2 ^ 250) < i ∧ i < 2 ^ 250) : biD .divmod [.int i, .int j] h = some (.ok (.tup [.int (i / j), .int (i % j)]), h) := if_pos c
@[simp] theorem bi_int : biD .int [.int i] h = some (.ok (.int i), h) := id rfl
@[simp] theorem bi_intB (b : Bool) : biD .int [.bl b] h = some (.ok (.int (if b then 1 else 0)), h) := id rfl
@[simp] theorem bi_lenT (xs : List D) : biD .len [.tup xs] h = some (.ok (.int xs.length), h) := id rfl
theorem bi_lenL {a : Nat} {xs : List D} (e : h.get a = some (.lst xs)) : biD .len [.ref a] h = some (.ok (.int xs.length), h) := by simp only [biD, e]; rfl
theorem bi_lenF {a : Nat} {xs : List D} (e : h.get a = some (.fz xs)) : biD .len [.ref a] h = some (.ok (.int xs.length), h) := by simp only [biD, e]; rfl
@[simp] theorem bi_min : biD .min2 [.int i, .int j] h = some (.ok (.int (if j < i then j else i)), h) := id rfl
@[simp] theorem bi_max : biD .max2 [.int i, .int j] h = some (.ok (.int (if j > i then j else i)), h) := id rfl
@[simp] theorem bi_abs : biD .abs [.int i] h = some (.ok (.int (if i < 0 then -i else i)), h) := id rfl
@[simp] theorem tr_b (b : Bool) : truD (.bl b) h = some b := id rfl
@[simp] theorem tr_i : truD (.int i) h = some (i != 0) := id rfl
@[simp] theorem ty_i : tyN (.int i) h = some "int" := id rfl
@[simp] theorem ty_b (b : Bool) : tyN (.bl b) h = some "bool" := id rfl
@[simp] theorem ty_s (b : Str) : tyN (.str b) h = some "str" := id rfl
@[simp] theorem ty_n : tyN .non h = some "NoneType" := id rfl
@[simp] theorem ty_t (xs : List D) : tyN (.tup xs) h = some "tuple" := id rfl
theorem ty_l {a : Nat} {xs : List D} (e : h.get a = some (.lst xs)) : tyN (.ref a) h = some "list" := by simp only [tyN, e]
@[simp] theorem isTn_ii : isTn "int" .int = true := by decide
@[simp] theorem isTn_ib : isTn "int" .bool = false := by decide
@[simp] theorem isTn_bi : isTn "bool" .int = true := by decide
@[simp] theorem isTn_bb : isTn "bool" .bool = true := by decide
@[simp] theorem isTn_ss : isTn "str" .str = true := by decide
@[simp] theorem isTn_tt : isTn "tuple" .tuple = true := by decide
@[simp] theorem isTn_ll : isTn "list" .list = true := by decide
@[simp] theorem ix_tup (xs : List D) : idxD (.tup xs) (.int i) h = atD xs i := id rfl
theorem ix_lst {a : Nat} {xs : List D} (e : h.get a = some (.lst xs)) : idxD (.ref a) (.int i) h = atD xs i := by simp only [idxD, e]
theorem ix_fz {a : Nat} {xs : List D} (e : h.get a = some (.fz xs)) : idxD (.ref a) (.int i) h = atD xs i := by simp only [idxD, e]
@[simp] theorem atD_0 {α : Type} (x : α) (xs : List α) : atD (x :: xs) 0 = some x := id rfl
@[simp] theorem atD_1 {α : Type} (x y : α) (xs : List α) : atD (x :: y :: xs) 1 = some y := id rfl
@[simp] theorem atD_2 {α : Type} (x y z : α) (xs : List α) : atD (x :: y :: z :: xs) 2 = some z := id rfl
@[simp] theorem atD_3 {α : Type} (x y z u : α) (xs : List α) : atD (x :: y :: z :: u :: xs) 3 = some u := id rfl
@[simp] theorem atD_4 {α : Type} (x y z u v : α) (xs : List α) : atD (x :: y :: z :: u :: v :: xs) 4 = some v := id rfl
theorem atD_nat {α : Type} (xs : List α) (k : Nat) : atD xs (k : Int) = xs[k]? := by unfold atD; rw [if_pos (Int.natCast_nonneg k)]; rfl
end

/-! ### heaps that only grow -/
structure Gro (h h' : Hm) : Prop where
  le : h.next ≤ h'.next
  at_ : ∀ a, a < h.next → h'.get a = h.get a
theorem Gro.refl {h : Hm} : Gro h h := ⟨Nat.le_refl _, fun _ _ => rfl⟩
theorem Gro.trans {h h' h'' : Hm} (a : Gro h h') (b : Gro h' h'') : Gro h h'' := ⟨Nat.le_trans a.le b.le, fun x hx => (b.at_ x (Nat.lt_of_lt_of_le hx a.le)).trans (a.at_ x hx)⟩
theorem Gro.new {h : Hm} {o : O} : Gro h (h.new o) := ⟨Nat.le_succ _, fun a ha => by rw [new_get, if_neg (Nat.ne_of_lt ha)]⟩
theorem Gro.put {h h' : Hm} {a : Nat} {o : O} (g : Gro h h') (ha : h.next ≤ a) : Gro h (h'.put a o) := ⟨g.le, fun b hb => by rw [put_get, if_neg (by omega)]; exact g.at_ b hb⟩

/-! ### loops -/
theorem stays_nil (h : Hm) : stays [] h := fun _ hp => by cases hp
theorem stays_one {a : Nat} {o : O} {h : Hm} (e : h.get a = some o) : stays [(a, o)] h := fun p hp => by
  cases hp with
  | head => exact e
  | tail _ z => cases z
/-- a for that runs through: what holds ahead of each turn -/
theorem forL_thru {fb : Env → Hm → Out} {g : Tg} {gd : List (Nat × O)} (I : List D → Env → Hm → Prop) (hs : ∀ xs env h, I xs env h → stays gd h)
    (step : ∀ x xs env h, I (x :: xs) env h → ∃ env1 env2 h2, asgT g x env = some env1 ∧ fb env1 h = some (.nx, env2, h2) ∧ I xs env2 h2) :
    ∀ xs env h, I xs env h → ∃ env' h', forL fb g gd xs env h = some (.nx, env', h') ∧ I [] env' h'
  | [], env, h, i => by
    refine ⟨env, h, ?_, i⟩
    unfold forL
    rw [if_pos (hs _ _ _ i)]
    rfl
  | x :: xs, env, h, i => by
    obtain ⟨env1, env2, h2, e1, e2, i2⟩ := step x xs env h i
    obtain ⟨env', h', e3, i3⟩ := forL_thru I hs step xs env2 h2 i2
    refine ⟨env', h', ?_, i3⟩
    unfold forL
    rw [if_pos (hs _ _ _ i), e1]
    simp only [e2, thenS_nx]
    exact e3
/-- a list comprehension without a test; the elements lay nothing into what was there -/
theorem compL_thru {fe : Env → Hm → Res D} {ft : Env → Hm → Res Bool} {g : Tg} {gd : List (Nat × O)} {a : Nat} {env : Env} (I : List D → List D → Hm → Prop) (hs : ∀ xs acc h, I xs acc h → stays gd h ∧ h.get a = some (.lst acc))
    (step : ∀ x xs acc h, I (x :: xs) acc h → ∃ env1 h1 y h2, asgT g x env = some env1 ∧ ft env1 h = some (.ok true, h1) ∧ fe env1 h1 = some (.ok y, h2) ∧ h2.get a = some (.lst acc) ∧ acc.length < lim ∧ I xs (acc ++ [y]) (h2.put a (.lst (acc ++ [y])))) :
    ∀ xs acc h, I xs acc h → ∃ ys h', compL fe ft g gd a env xs h = some (.ok (.ref a), h') ∧ I [] ys h'
  | [], acc, h, i => by
    refine ⟨acc, h, ?_, i⟩
    unfold compL
    rw [if_pos (hs _ _ _ i).1]
    rfl
  | x :: xs, acc, h, i => by
    obtain ⟨env1, h1, y, h2, e1, e2, e3, e4, e5, i2⟩ := step x xs acc h i
    obtain ⟨ys, h', e6, i3⟩ := compL_thru I hs step xs _ _ i2
    refine ⟨ys, h', ?_, i3⟩
    unfold compL
    rw [if_pos (hs _ _ _ i).1, e1]
    simp only [e2, e3, bndN_ok, if_true, e4, e5]
    exact e6

/-! ### loops, turn by turn -/
set_option checkBinderAnnotations false in
def bndNI {α β : Type} (m : Res α) [f : α → Hm → Res β] : Res β := bndN m f
@[simp] theorem bndNI_ok {α β : Type} (a : α) (h : Hm) (f : α → Hm → Res β) : @bndNI α β (some (.ok a, h)) f = f a h := id rfl
theorem forL_nil {fb : Env → Hm → Out} {g : Tg} {gd : List (Nat × O)} {env : Env} {h : Hm} (hs : stays gd h) : forL fb g gd [] env h = some (.nx, env, h) := by
  unfold forL; rw [if_pos hs]; rfl
theorem forL_cons {fb : Env → Hm → Out} {g : Tg} {gd : List (Nat × O)} {x : D} {xs : List D} {env : Env} {h : Hm} (hs : stays gd h) :
    forL fb g gd (x :: xs) env h = @someI _ _ (asgT g x env) fun env1 => @thenSI (fb env1 h) fun env2 h2 => forL fb g gd xs env2 h2 := by
  rw [forL, if_pos hs]
  cases asgT g x env <;> rfl
theorem compL_nil {fe : Env → Hm → Res D} {ft : Env → Hm → Res Bool} {g : Tg} {gd : List (Nat × O)} {a : Nat} {env : Env} {h : Hm} (hs : stays gd h) : compL fe ft g gd a env [] h = some (.ok (.ref a), h) := by
  unfold compL; rw [if_pos hs]; rfl
theorem put_self {h : Hm} {a : Nat} {o : O} (e : h.get a = some o) : h.put a o = h := by
  obtain ⟨g, n⟩ := h
  show (⟨_, _⟩ : Hm) = _
  congr 1
  funext b
  by_cases hb : b = a
  · subst hb; rw [if_pos rfl]; exact e.symm
  · rw [if_neg hb]
@[simp] theorem put_put {h : Hm} {a : Nat} {o o' : O} : (h.put a o).put a o' = h.put a o' := by
  show (⟨_, _⟩ : Hm) = ⟨_, _⟩
  congr 1
  funext b
  by_cases hb : b = a
  · rw [if_pos hb, if_pos hb]
  · rw [if_neg hb, if_neg hb]; show (if b = a then _ else _) = _; rw [if_neg hb]
@[simp] theorem new_put {h : Hm} {o o' : O} : (h.new o).put h.next o' = h.new o' := by
  show (⟨_, _⟩ : Hm) = ⟨_, _⟩
  congr 1
  funext b
  by_cases hb : b = h.next
  · rw [if_pos hb, if_pos hb]
  · rw [if_neg hb, if_neg hb]; show (if b = h.next then _ else _) = _; rw [if_neg hb]
theorem compL_pure {fe : Env → Hm → Res D} {ft : Env → Hm → Res Bool} {g : Tg} {gd : List (Nat × O)} {a : Nat} {env : Env} (F : D → D) (hgd : ∀ h : Hm, stays gd h → ∀ o, stays gd (h.put a o)) : ∀ (xs : List D) (acc : List D) (h : Hm),
    (∀ x ∈ xs, ∃ env1, asgT g x env = some env1 ∧ ∀ h, ft env1 h = some (.ok true, h) ∧ (stays gd h → fe env1 h = some (.ok (F x), h))) → stays gd h → h.get a = some (.lst acc) → acc.length + xs.length ≤ 1000000 →
    compL fe ft g gd a env xs h = some (.ok (.ref a), h.put a (.lst (acc ++ xs.map F)))
  | [], acc, h, hx, hs, ha, hl => by rw [compL_nil hs, List.map_nil, List.append_nil, put_self ha]
  | x :: xs, acc, h, hx, hs, ha, hl => by
    obtain ⟨env1, e1, e2⟩ := hx x (List.mem_cons_self ..)
    unfold compL
    rw [if_pos hs, e1]
    have hlt : acc.length < lim := by unfold lim; rw [List.length_cons] at hl; omega
    simp only [(e2 h).1, (e2 h).2 hs, bndN_ok, if_true, ha, hlt]
    rw [compL_pure F hgd xs (acc ++ [F x]) _ (fun y hy => hx y (List.mem_cons_of_mem _ hy)) (hgd h hs _) (by rw [put_get, if_pos rfl]) (by rw [List.length_append]; rw [List.length_cons] at hl; simp; omega), put_put, List.append_assoc]
    rfl
theorem comp_pure {fe : Env → Hm → Res D} {ft : Env → Hm → Res Bool} {g : Tg} {gd : List (Nat × O)} {env : Env} {h : Hm} {xs : List D} (F : D → D) (hgd : ∀ p ∈ gd, p.1 < h.next) (hs : stays gd h) (hl : xs.length ≤ 1000000)
    (hx : ∀ x ∈ xs, ∃ env1, asgT g x env = some env1 ∧ ∀ h, ft env1 h = some (.ok true, h) ∧ (stays gd h → fe env1 h = some (.ok (F x), h))) :
    compL fe ft g gd h.next env xs (h.new (.lst [])) = some (.ok (.ref h.next), h.new (.lst (xs.map F))) := by
  rw [compL_pure F (fun h1 s1 o p hp => by rw [put_get, if_neg (Nat.ne_of_lt (hgd p hp))]; exact s1 p hp) xs [] _ hx (fun p hp => by rw [new_get, if_neg (Nat.ne_of_lt (hgd p hp))]; exact hs p hp) (by rw [new_get, if_pos rfl]) (by simpa using hl), new_put]
  rfl
@[simp] theorem asgT_name (i : Nat) (x : D) (env : Env) : asgT (.name i) x env = some (env.set i (some x)) := id rfl
@[simp] theorem walk_tup (xs : List D) (h : Hm) : walk .seq [.tup xs] h = some (xs, []) := id rfl
theorem walk_lst {a : Nat} {xs : List D} {h : Hm} (e : h.get a = some (.lst xs)) : walk .seq [.ref a] h = some (xs, [(a, .lst xs)]) := by simp only [walk, e]
theorem walk_fz {a : Nat} {xs : List D} {h : Hm} (e : h.get a = some (.fz xs)) : walk .seq [.ref a] h = some (xs, [(a, .fz xs)]) := by simp only [walk, e]
@[simp] theorem walk_r1 {n : Int} (c : -(2 ^ 62) ≤ n ∧ n < 2 ^ 62) {h : Hm} : walk .range1 [.int n] h = some ((List.range n.toNat).map fun (i : Nat) => .int (i : Int), []) := if_pos c
@[simp] theorem walk_r2 {m n : Int} (c : (-(2 ^ 62) ≤ m ∧ m < 2 ^ 62) ∧ (-(2 ^ 62) ≤ n ∧ n < 2 ^ 62)) {h : Hm} : walk .range2 [.int m, .int n] h = some ((List.range (n - m).toNat).map fun (i : Nat) => .int (m + (i : Int)), []) := if_pos c
@[simp] theorem wipe_nil (env : Env) : wipeE env [] = env := id rfl
@[simp] theorem wipe_cons (env : Env) (v : Nat) (vs : List Nat) : wipeE env (v :: vs) = (wipeE env vs).set v none := id rfl
@[simp] theorem in_name (i : Nat) (own : List Nat) : (Tg.name i).in_ own = own.contains i := id rfl
/-- a for whose turns change nothing but the loop's names -/
theorem forL_quiet {fb : Env → Hm → Out} {g : Tg} {gd : List (Nat × O)} (E : Env → Prop) (G : Hm → Prop) (hs : ∀ h, G h → stays gd h) :
    ∀ (xs : List D), (∀ x ∈ xs, ∀ env h, E env → G h → ∃ env1 env2 h2, asgT g x env = some env1 ∧ fb env1 h = some (.nx, env2, h2) ∧ E env2 ∧ G h2) → ∀ env h, E env → G h → ∃ env' h', forL fb g gd xs env h = some (.nx, env', h') ∧ E env' ∧ G h' := fun xs step env h e gh => by
  obtain ⟨env', h', e1, i1, i2⟩ := forL_thru (fb := fb) (g := g) (gd := gd) (fun ys env h => (∀ y ∈ ys, y ∈ xs) ∧ E env ∧ G h) (fun _ _ h i => hs h i.2.2)
    (fun y ys env h i => by
      obtain ⟨env1, env2, h2, a1, a2, a3, a4⟩ := step y (i.1 y (List.mem_cons_self ..)) env h i.2.1 i.2.2
      exact ⟨env1, env2, h2, a1, a2, fun z hz => i.1 z (List.mem_cons_of_mem _ hz), a3, a4⟩) xs env h ⟨fun _ hy => hy, e, gh⟩
  exact ⟨env', h', e1, i2⟩
theorem slc_fz {a : Nat} {xs : List D} {lo hi : Option Int} {h : Hm} (e : h.get a = some (.fz xs)) : slcD (.ref a) lo hi h = some (.ok (.ref h.next), h.new (.lst (cut xs lo hi))) := by simp only [slcD, e]; rfl
theorem slc_lst {a : Nat} {xs : List D} {lo hi : Option Int} {h : Hm} (e : h.get a = some (.lst xs)) : slcD (.ref a) lo hi h = some (.ok (.ref h.next), h.new (.lst (cut xs lo hi))) := by simp only [slcD, e]; rfl
@[simp] theorem h0_get (ns : List Int) : (h0 ns).get 0 = some (.fz (ns.map D.int)) := id rfl
@[simp] theorem h0_next (ns : List Int) : (h0 ns).next = 1 := id rfl
/-- the first ones -/
theorem cut_to {α : Type} (xs : List α) (k : Nat) : cut xs none (some (k : Int)) = xs.take k := by
  unfold cut sI
  dsimp only
  rw [if_neg (by omega), Int.toNat_natCast, List.drop_zero, Nat.sub_zero]
  by_cases hk : k ≤ xs.length
  · rw [Nat.min_eq_left hk]
  · rw [Nat.min_eq_right (by omega), List.take_of_length_le (Nat.le_refl _), List.take_of_length_le (by omega)]
theorem cut_whole {α : Type} (xs : List α) (k : Nat) (hk : xs.length ≤ k) : cut xs none (some (k : Int)) = xs := by rw [cut_to, List.take_of_length_le hk]

/-! ### by what stands in the heap -/
@[simp] theorem lim_eq : lim = 1000000 := id rfl
section
variable {a : Nat} {h : Hm} {xs : List D} {v x : D} {i : Int}
def walkO (o : Option O) (a : Nat) : Option (List D × List (Nat × O)) := match o with
  | some (.lst xs) => some (xs, [(a, .lst xs)])
  | some (.fz xs) => some (xs, [(a, .fz xs)])
  | _ => none
@[simp] theorem walk_ref : walk .seq [.ref a] h = walkO (h.get a) a := id rfl
@[simp] theorem walkO_l : walkO (some (.lst xs)) a = some (xs, [(a, .lst xs)]) := id rfl
@[simp] theorem walkO_f : walkO (some (.fz xs)) a = some (xs, [(a, .fz xs)]) := id rfl
def seqO (o : Option O) : Option (List D) := match o with
  | some (.lst xs) => some xs
  | some (.fz xs) => some xs
  | _ => none
@[simp] theorem seqO_l : seqO (some (.lst xs)) = some xs := id rfl
@[simp] theorem seqO_f : seqO (some (.fz xs)) = some xs := id rfl
@[simp] theorem seqOf_ref : seqOf (.ref a) h = seqO (h.get a) := id rfl
@[simp] theorem seqOf_tup : seqOf (.tup xs) h = some xs := id rfl
@[simp] theorem lstOf_ref : lstOf (.ref a) h = seqO (h.get a) := id rfl
def atO (o : Option (List D)) (i : Int) : Option D := match o with
  | some xs => atD xs i
  | none => none
@[simp] theorem atO_s : atO (some xs) i = atD xs i := id rfl
@[simp] theorem idx_ref : idxD (.ref a) (.int i) h = atO (seqO (h.get a)) i := by
  cases e : h.get a with
  | none => simp only [idxD, e]; rfl
  | some o => cases o <;> (simp only [idxD, e]; rfl)
def slcO (o : Option (List D)) (lo hi : Option Int) (h : Hm) : Res D := match o with
  | some xs => some (.ok (.ref h.next), h.new (.lst (cut xs lo hi)))
  | none => none
@[simp] theorem slcO_s {lo hi : Option Int} : slcO (some xs) lo hi h = some (.ok (.ref h.next), h.new (.lst (cut xs lo hi))) := id rfl
@[simp] theorem slc_ref {lo hi : Option Int} : slcD (.ref a) lo hi h = slcO (seqO (h.get a)) lo hi h := by
  cases e : h.get a with
  | none => simp only [slcD, e]; rfl
  | some o => cases o <;> (simp only [slcD, e]; rfl)
@[simp] theorem slc_tup {lo hi : Option Int} : slcD (.tup xs) lo hi h = some (.ok (.tup (cut xs lo hi)), h) := id rfl
def lenO (o : Option O) (h : Hm) : Res D := match o with
  | some (.lst xs) => ok (.int xs.length) h
  | some (.fz xs) => ok (.int xs.length) h
  | some (.dic kvs) => ok (.int kvs.length) h
  | _ => none
@[simp] theorem lenO_l : lenO (some (.lst xs)) h = some (.ok (.int xs.length), h) := id rfl
@[simp] theorem lenO_f : lenO (some (.fz xs)) h = some (.ok (.int xs.length), h) := id rfl
@[simp] theorem len_ref : biD .len [.ref a] h = lenO (h.get a) h := id rfl
def addO (o o' : Option O) (h : Hm) : Res D := match o, o' with
  | some (.lst xs), some (.lst ys) => if xs.length + ys.length ≤ 1000000 then some (.ok (.ref h.next), h.new (.lst (xs ++ ys))) else none
  | _, _ => none
@[simp] theorem addO_l {ys : List D} (c : xs.length + ys.length ≤ 1000000) : addO (some (.lst xs)) (some (.lst ys)) h = some (.ok (.ref h.next), h.new (.lst (xs ++ ys))) := if_pos c
@[simp] theorem add_ref {b : Nat} : binD .add (.ref a) (.ref b) h = addO (h.get a) (h.get b) h := by
  cases e : h.get a with
  | none => simp only [binD, e]; rfl
  | some o => cases o <;> (simp only [binD, e]; rfl)
def appO (o : Option O) (a : Nat) (v : D) (h : Hm) : Res D := match o with
  | some (.lst xs) => if xs.length < 1000000 then some (.ok .non, h.put a (.lst (xs ++ [v]))) else none
  | _ => none
@[simp] theorem appO_l (c : xs.length < 1000000) : appO (some (.lst xs)) a v h = some (.ok .non, h.put a (.lst (xs ++ [v]))) := if_pos c
@[simp] theorem app_ref : bmD .append (.ref a) [v] h = appO (h.get a) a v h := by
  cases e : h.get a with
  | none => simp only [bmD, e]; rfl
  | some o => cases o <;> (simp only [bmD, e]; rfl)
@[simp] theorem rcv_app : rcv .append x h = (lstOf x h).isSome := id rfl
@[simp] theorem rcv_pop : rcv .pop x h = (lstOf x h).isSome := id rfl
def popO (o : Option O) (a : Nat) (h : Hm) : Res D := match o with
  | some (.lst xs) => (match xs.getLast? with
    | some y => some (.ok y, h.put a (.lst xs.dropLast))
    | none => none)
  | _ => none
@[simp] theorem popO_l {y : D} : popO (some (.lst (xs ++ [y]))) a h = some (.ok y, h.put a (.lst xs)) := by
  simp [popO]
@[simp] theorem pop_ref : bmD .pop (.ref a) [] h = popO (h.get a) a h := by
  cases e : h.get a with
  | none => simp only [bmD, e]; rfl
  | some o => cases o <;> (simp only [bmD, e]; rfl)
def tyO (o : Option O) : Option String := match o with
  | some (.lst _) => some "list"
  | some (.fz _) => some "list"
  | some (.dic _) => some "dict"
  | _ => none
@[simp] theorem tyO_l : tyO (some (.lst xs)) = some "list" := id rfl
@[simp] theorem tyO_f : tyO (some (.fz xs)) = some "list" := id rfl
@[simp] theorem ty_ref : tyN (.ref a) h = tyO (h.get a) := id rfl
def truO (o : Option O) : Option Bool := match o with
  | some (.lst xs) => some (!xs.isEmpty)
  | some (.fz xs) => some (!xs.isEmpty)
  | some (.dic kvs) => some (!kvs.isEmpty)
  | _ => none
@[simp] theorem truO_l : truO (some (.lst xs)) = some (!xs.isEmpty) := id rfl
@[simp] theorem tru_ref : truD (.ref a) h = truO (h.get a) := id rfl
@[simp] theorem tru_tup : truD (.tup xs) h = some (!xs.isEmpty) := id rfl
/-- what list(x) holds -/
def seqK (x : D) (h : Hm) : Option (List D) := match seqOf x h with
  | some xs => some xs
  | none => (match x with
    | .ref a => (match h.get a with
      | some (.dic kvs) => some (kvs.map fun kv => keyD kv.1)
      | _ => none)
    | _ => none)
def seqKO (o : Option O) : Option (List D) := match o with
  | some (.lst xs) => some xs
  | some (.fz xs) => some xs
  | some (.dic kvs) => some (kvs.map fun kv => keyD kv.1)
  | _ => none
@[simp] theorem seqKO_l {xs : List D} : seqKO (some (.lst xs)) = some xs := id rfl
@[simp] theorem seqKO_f {xs : List D} : seqKO (some (.fz xs)) = some xs := id rfl
@[simp] theorem seqKO_d {kvs : List (L2.Key × D)} : seqKO (some (.dic kvs)) = some (kvs.map fun kv => keyD kv.1) := id rfl
@[simp] theorem seqK_tup {xs : List D} : seqK (.tup xs) h = some xs := id rfl
@[simp] theorem seqK_ref {a : Nat} : seqK (.ref a) h = seqKO (h.get a) := by
  cases e : h.get a with
  | none => simp only [seqK, seqOf, e]; rfl
  | some o => cases o <;> (simp only [seqK, seqOf, e]; rfl)
@[simp] theorem bi_list : biD .list [x] h = @someI _ _ (seqK x h) fun xs => some (.ok (.ref h.next), h.new (.lst xs)) := by
  unfold seqK
  simp only [biD]
  cases e : seqOf x h with
  | some xs => rfl
  | none =>
    cases x with
    | ref a =>
      dsimp only
      cases e2 : h.get a with
      | none => rfl
      | some o => cases o <;> rfl
    | _ => rfl
@[simp] theorem bi_tuple : biD .tuple [x] h = @someI _ _ (seqOf x h) fun xs => some (.ok (.tup xs), h) := by
  cases e : seqOf x h <;> (simp only [biD, e]; rfl)
end
@[simp] theorem stays_nl (h : Hm) : stays [] h ↔ True := ⟨fun _ => trivial, fun _ => stays_nil h⟩
@[simp] theorem stays_cons (a : Nat) (o : O) (r : List (Nat × O)) (h : Hm) : stays ((a, o) :: r) h ↔ h.get a = some o ∧ stays r h :=
  ⟨fun s => ⟨s _ (List.mem_cons_self ..), fun p hp => s p (List.mem_cons_of_mem _ hp)⟩, fun s p hp => by
    cases hp with
    | head => exact s.1
    | tail _ z => exact s.2 p z⟩

/-! ### normal forms of heaps, unrolled loops -/
section
variable {h : Hm} {a : Nat} {o o' : O}
@[simp high] theorem new_get_lt (c : a < h.next) : (h.new o).get a = h.get a := by rw [new_get, if_neg (Nat.ne_of_lt c)]
@[simp high] theorem put_get_ne {b : Nat} (c : a ≠ b) : (h.put b o).get a = h.get a := by rw [put_get, if_neg c]
@[simp] theorem new_put_eq (c : a = h.next) : (h.new o).put a o' = h.new o' := by rw [c, new_put]
@[simp] theorem new_put_lt (c : a < h.next) : (h.new o).put a o' = (h.put a o').new o := by
  show (⟨_, _⟩ : Hm) = ⟨_, _⟩
  congr 1
  funext b
  show (if b = a then _ else if b = h.next then _ else _) = if b = h.next then _ else if b = a then _ else _
  by_cases hb : b = a
  · rw [if_pos hb, if_neg (by omega), if_pos hb]
  · rw [if_neg hb, if_neg hb]
@[simp] theorem new2_put {o1 o2 : O} : ((h.new o1).new o2).put (h.next + 1) o = (h.new o1).new o := new_put
@[simp] theorem new3_put {o1 o2 o3 : O} : (((h.new o1).new o2).new o3).put (h.next + 1 + 1) o = ((h.new o1).new o2).new o := new_put
@[simp] theorem new4_put {o1 o2 o3 o4 : O} : ((((h.new o1).new o2).new o3).new o4).put (h.next + 1 + 1 + 1) o = (((h.new o1).new o2).new o3).new o := new_put
theorem gro_new {h' : Hm} (g : Gro h h') : Gro h (h'.new o) := g.trans .new
end
theorem compL_cons {fe : Env → Hm → Res D} {ft : Env → Hm → Res Bool} {g : Tg} {gd : List (Nat × O)} {a : Nat} {env : Env} {x : D} {xs : List D} {h : Hm} (hs : stays gd h) :
    compL fe ft g gd a env (x :: xs) h = @someI _ _ (asgT g x env) fun env1 => @bndNI _ _ (ft env1 h) fun b h2 => if b = true then @bndNI _ _ (fe env1 h2) fun y h3 => @lstI _ (h3.get a) fun acc => if acc.length < 1000000 then compL fe ft g gd a env xs (h3.put a (.lst (acc ++ [y]))) else none else compL fe ft g gd a env xs h2 := by
  rw [compL, if_pos hs]
  cases asgT g x env with
  | none => rfl
  | some env1 =>
    refine congrArg (bndN (ft env1 h)) (funext fun b => funext fun h2 => ?_)
    by_cases hb : b = true
    · rw [if_pos hb, if_pos hb]
      refine congrArg (bndN (fe env1 h2)) (funext fun y => funext fun h3 => ?_)
      cases e : h3.get a with
      | none => rfl
      | some o => cases o <;> rfl
    · rw [if_neg hb, if_neg hb]

/-! ### comprehensions by a function -/
theorem compL_mapA {α : Type} {fe : Env → Hm → Res D} {ft : Env → Hm → Res Bool} {g : Tg} {gd : List (Nat × O)} {a : Nat} {env : Env} (A G : α → D) (hgd : ∀ h : Hm, stays gd h → ∀ o, stays gd (h.put a o)) : ∀ (cs : List α) (acc : List D) (h : Hm),
    (∀ c ∈ cs, ∃ env1, asgT g (A c) env = some env1 ∧ ∀ h, ft env1 h = some (.ok true, h) ∧ (stays gd h → fe env1 h = some (.ok (G c), h))) → stays gd h → h.get a = some (.lst acc) → acc.length + cs.length ≤ 1000000 →
    compL fe ft g gd a env (cs.map A) h = some (.ok (.ref a), h.put a (.lst (acc ++ cs.map G)))
  | [], acc, h, hx, hs, ha, hl => by rw [List.map_nil, compL_nil hs, List.map_nil, List.append_nil, put_self ha]
  | x :: xs, acc, h, hx, hs, ha, hl => by
    obtain ⟨env1, e1, e2⟩ := hx x (List.mem_cons_self ..)
    rw [List.map_cons]
    unfold compL
    rw [if_pos hs, e1]
    have hlt : acc.length < lim := by unfold lim; rw [List.length_cons] at hl; omega
    simp only [(e2 h).1, (e2 h).2 hs, bndN_ok, if_true, ha, hlt]
    rw [compL_mapA A G hgd xs (acc ++ [G x]) _ (fun y hy => hx y (List.mem_cons_of_mem _ hy)) (hgd h hs _) (by rw [put_get, if_pos rfl]) (by rw [List.length_append]; rw [List.length_cons] at hl; simp; omega), put_put, List.append_assoc]
    rfl
theorem compL_map {α : Type} {fe : Env → Hm → Res D} {ft : Env → Hm → Res Bool} {g : Tg} {gd : List (Nat × O)} {a : Nat} {env : Env} {cs : List α} {h : Hm} (A G : α → D) (hgd : ∀ p ∈ gd, p.1 ≠ a)
    (hx : ∀ c ∈ cs, ∃ env1, asgT g (A c) env = some env1 ∧ ∀ h, ft env1 h = some (.ok true, h) ∧ (stays gd h → fe env1 h = some (.ok (G c), h))) (hs : stays gd h) (ha : h.get a = some (.lst [])) (hl : cs.length ≤ 1000000) :
    compL fe ft g gd a env (cs.map A) h = some (.ok (.ref a), h.put a (.lst (cs.map G))) := by
  rw [compL_mapA A G (fun h1 s1 o p hp => by rw [put_get, if_neg (hgd p hp)]; exact s1 p hp) cs [] h hx hs ha (by simpa using hl)]
  rfl
theorem atD_succ {α : Type} (xs : List α) (k : Nat) : atD xs ((k : Int) + 1) = xs[k + 1]? := atD_nat xs (k + 1)

/-- a for whose turns keep E of the names, G of the heap; what comes behind it -/
theorem quiet {fb : Env → Hm → Out} {g : Tg} {gd : List (Nat × O)} {xs : List D} {env : Env} {h : Hm} {k : Env → Hm → Out} (P : Res D → Prop) (E : Env → Prop) (G : Hm → Prop) (e0 : E env) (g0 : G h) (hs : ∀ h, G h → stays gd h)
    (step : ∀ x ∈ xs, ∀ env h, E env → G h → ∃ env1 env2 h2, asgT g x env = some env1 ∧ fb env1 h = some (.nx, env2, h2) ∧ E env2 ∧ G h2)
    (post : ∀ env' h', E env' → G h' → P (endF (k env' h'))) : P (endF (@thenSI (forL fb g gd xs env h) k)) := by
  obtain ⟨env', h', e1, e2, e3⟩ := forL_quiet E G hs xs step env h e0 g0
  rw [e1]
  exact post env' h' e2 e3
theorem Gro.get {h h' : Hm} (g : Gro h h') {a : Nat} {o : Option O} (e : h.get a = o) (l : a < h.next) : h'.get a = o := (g.at_ a l).trans e
end Z

set_option maxRecDepth 100000
set_option maxHeartbeats 2000000
/-! ZO: loops by a state. -/
namespace Z
open PySem
theorem forL_run {α σ : Type} {fb : Env → Hm → Out} {g : Tg} {gd : List (Nat × O)} (A : α → D) (S : σ → Env) (H : σ → Hm) (f : σ → α → σ) (I : σ → Prop) (hs : ∀ s, I s → stays gd (H s)) : ∀ {cs : List α},
    (∀ s, I s → ∀ c ∈ cs, I (f s c) ∧ ∃ env1, asgT g (A c) (S s) = some env1 ∧ fb env1 (H s) = some (.nx, S (f s c), H (f s c))) → ∀ {s : σ}, I s → forL fb g gd (cs.map A) (S s) (H s) = some (.nx, S (cs.foldl f s), H (cs.foldl f s))
  | [], _, s, i => forL_nil (hs s i)
  | c :: cs, step, s, i => by
    obtain ⟨i2, env1, e1, e2⟩ := step s i c (List.mem_cons_self ..)
    rw [List.map_cons, forL_cons (hs s i), e1, someI_some, e2, thenSI_nx]
    exact forL_run A S H f I hs (fun s i c hc => step s i c (List.mem_cons_of_mem _ hc)) i2
/-- the same, the start by equations -/
theorem forL_go {α σ : Type} {fb : Env → Hm → Out} {g : Tg} {gd : List (Nat × O)} {cs : List α} {env : Env} {h : Hm} (A : α → D) (S : σ → Env) (H : σ → Hm) (f : σ → α → σ) (I : σ → Prop) (s : σ) (eS : S s = env) (eH : H s = h) (i : I s) (hs : ∀ s, I s → stays gd (H s))
    (step : ∀ s, I s → ∀ c ∈ cs, I (f s c) ∧ ∃ env1, asgT g (A c) (S s) = some env1 ∧ fb env1 (H s) = some (.nx, S (f s c), H (f s c))) : forL fb g gd (cs.map A) env h = some (.nx, S (cs.foldl f s), H (cs.foldl f s)) := by
  subst eS eH
  exact forL_run A S H f I hs step i
/-- a loop by what was done so far -/
theorem forL_pre {α : Type} {fb : Env → Hm → Out} {g : Tg} {gd : List (Nat × O)} {cs : List α} {env : Env} {h : Hm} (A : α → D) (S : List α → Env) (H : List α → Hm) (eS : S [] = env) (eH : H [] = h) (hs : ∀ done rest, cs = done ++ rest → stays gd (H done))
    (step : ∀ done c rest, cs = done ++ c :: rest → ∃ env1, asgT g (A c) (S done) = some env1 ∧ fb env1 (H done) = some (.nx, S (done ++ [c]), H (done ++ [c]))) : forL fb g gd (cs.map A) env h = some (.nx, S cs, H cs) := by
  have key : ∀ (rest done : List α), cs = done ++ rest → forL fb g gd (rest.map A) (S done) (H done) = some (.nx, S cs, H cs) := fun rest => by
    induction rest with
    | nil =>
      intro done e
      rw [List.append_nil] at e
      subst e
      exact forL_nil (hs _ [] (by rw [List.append_nil]))
    | cons c rest ih =>
      intro done e
      obtain ⟨env1, e1, e2⟩ := step done c rest e
      rw [List.map_cons, forL_cons (hs done _ e), e1, someI_some, e2, thenSI_nx]
      exact ih (done ++ [c]) (by rw [e, List.append_assoc]; rfl)
  rw [← eS, ← eH]
  exact key cs [] rfl
/-- a loop's name behind it -/
def lastV {α : Type} (A : α → D) (l : Option D) (done : List α) : Option D := match done.getLast? with
  | some c => some (A c)
  | none => l
@[simp] theorem lastV_snoc {α : Type} (A : α → D) (l : Option D) (done : List α) (c : α) : lastV A l (done ++ [c]) = some (A c) := by unfold lastV; simp
@[simp] theorem lastV_nil {α : Type} (A : α → D) (l : Option D) : lastV A l [] = l := id rfl
theorem forL_inv {α σ : Type} {fb : Env → Hm → Out} {g : Tg} {gd : List (Nat × O)} (A : α → D) (S : σ → Env) (H : σ → Hm) (f : σ → α → σ) (I : σ → Prop) : ∀ {cs : List α}, (∀ s, I s → ∀ c ∈ cs, I (f s c)) → ∀ {s : σ}, I s → I (cs.foldl f s)
  | [], _, _, i => i
  | c :: cs, step, s, i => forL_inv (fb := fb) (g := g) (gd := gd) A S H f I (fun s i c hc => step s i c (List.mem_cons_of_mem _ hc)) (step s i c (List.mem_cons_self ..))
theorem foldl_fst {α β γ : Type} (f : β → α → β) (k : β → γ → α → γ) : ∀ (cs : List α) (b : β) (c : γ), (cs.foldl (fun (s : β × γ) x => (f s.1 x, k s.1 s.2 x)) (b, c)).1 = cs.foldl f b
  | [], _, _ => rfl
  | x :: xs, b, c => foldl_fst f k xs (f b x) (k b c x)
section
variable {h : Hm} {i j : Int}
@[simp] theorem b_pow (c : 0 ≤ j ∧ j ≤ 1000000 ∧ -(2 ^ 64) < i ∧ i < 2 ^ 64) : binD .pow (.int i) (.int j) h = some (.ok (.int (i ^ j.toNat)), h) := if_pos ⟨c.1, c.2.1, c.2.2⟩
end
/-- the script's cell, or 0 -/
def cell (ns : List Int) (k : Nat) : Int := (ns[k]?).getD 0
theorem at_script (ns : List Int) (k : Nat) (hk : k < ns.length) : atD (ns.map D.int) (k : Int) = some (.int (cell ns k)) := by
  rw [atD_nat, List.getElem?_map]
  unfold cell
  rw [List.getElem?_eq_getElem hk]
  rfl
theorem cell_out (ns : List Int) (k : Nat) (hk : ¬ k < ns.length) : cell ns k = 0 := by
  unfold cell
  rw [List.getElem?_eq_none (by omega)]
  rfl

@[simp] theorem atD_lit {α : Type} (xs : List α) (k : Nat) : atD xs (no_index (@OfNat.ofNat Int k _)) = xs[k]? := atD_nat xs k
section
variable {h : Hm} {x : D} {xs : List D}
@[simp] theorem in_tup : cmpD .inn x (.tup xs) h = inL x xs := id rfl
@[simp] theorem nin_tup : cmpD .nin x (.tup xs) h = (inL x xs).map fun b => !b := id rfl
def inO (x : D) (o : Option (List D)) : Option Bool := match o with
  | some xs => inL x xs
  | none => none
@[simp] theorem inO_s : inO x (some xs) = inL x xs := id rfl
@[simp] theorem aug_add (i j : Int) : augD .add (.int i) (.int j) = some (.int (i + j)) := id rfl
@[simp] theorem aug_sub (i j : Int) : augD .sub (.int i) (.int j) = some (.int (i - j)) := id rfl
@[simp] theorem c_eqB (a b : Bool) : cmpD .eq (.bl a) (.bl b) h = some (decide (a = b)) := id rfl
@[simp] theorem c_neB (a b : Bool) : cmpD .ne (.bl a) (.bl b) h = some (!decide (a = b)) := id rfl
@[simp] theorem c_isNN : cmpD .isN .non .non h = some true := id rfl
@[simp] theorem c_notNN : cmpD .notN .non .non h = some false := id rfl
@[simp] theorem c_isNi (i : Int) : cmpD .isN (.int i) .non h = some false := id rfl
@[simp] theorem c_notNi (i : Int) : cmpD .notN (.int i) .non h = some true := id rfl
@[simp] theorem c_isNr (i : Nat) : cmpD .isN (.ref i) .non h = some false := id rfl
@[simp] theorem c_notNr (i : Nat) : cmpD .notN (.ref i) .non h = some true := id rfl
@[simp] theorem c_isNs (i : Str) : cmpD .isN (.str i) .non h = some false := id rfl
@[simp] theorem c_notNs (i : Str) : cmpD .notN (.str i) .non h = some true := id rfl
@[simp] theorem c_isNt (i : List D) : cmpD .isN (.tup i) .non h = some false := id rfl
@[simp] theorem c_notNt (i : List D) : cmpD .notN (.tup i) .non h = some true := id rfl
@[simp] theorem flat_i (i : Int) : flatD (.int i) = true := id rfl
@[simp] theorem flat_s (i : Str) : flatD (.str i) = true := id rfl
@[simp] theorem flat_b (i : Bool) : flatD (.bl i) = true := id rfl
@[simp] theorem flat_n : flatD .non = true := id rfl
@[simp] theorem eqF_s (a b : Str) : eqF (.str a) (.str b) = decide (a = b) := by show (a == b) = _; rw [Bool.eq_iff_iff, beq_iff_eq, decide_eq_true_eq]
@[simp] theorem eqF_i (a b : Int) : eqF (.int a) (.int b) = decide (a = b) := by show (a == b) = _; rw [Bool.eq_iff_iff, beq_iff_eq, decide_eq_true_eq]
theorem inL_flat (hx : flatD x = true) (hs : xs.all flatD = true) : inL x xs = some (xs.any fun y => eqF y x) := if_pos ⟨hx, hs⟩
@[simp] theorem inL_s (s : Str) : inL (.str s) xs = if xs.all flatD = true then some (xs.any fun y => eqF y (.str s)) else none := by
  unfold inL
  by_cases hs : xs.all flatD = true
  · rw [if_pos hs, if_pos ⟨rfl, hs⟩]
  · rw [if_neg hs, if_neg fun z => hs z.2]
@[simp] theorem inL_i (s : Int) : inL (.int s) xs = if xs.all flatD = true then some (xs.any fun y => eqF y (.int s)) else none := by
  unfold inL
  by_cases hs : xs.all flatD = true
  · rw [if_pos hs, if_pos ⟨rfl, hs⟩]
  · rw [if_neg hs, if_neg fun z => hs z.2]
end
/-! ### == of data -/
def eqPP (p q : Option PyData) : Option Bool := match p, q with
  | some d, some e => if (SeqAt.shaped d && SeqAt.shaped e) = true then some (PyData.eqv d e) else none
  | _, _ => none
def datO (f : D → Option PyData) (o : Option O) : Option PyData := match o with
  | some (.lst xs) => (mapO f xs).map .list
  | some (.fz xs) => (mapO f xs).map .list
  | _ => none
section
variable {h : Hm} {n : Nat}
@[simp] theorem eq_rr (a b : Nat) : cmpD .eq (.ref a) (.ref b) h = eqPP (dat h 30 (.ref a)) (dat h 30 (.ref b)) := id rfl
@[simp] theorem ne_rr (a b : Nat) : cmpD .ne (.ref a) (.ref b) h = (eqPP (dat h 30 (.ref a)) (dat h 30 (.ref b))).map fun b => !b := id rfl
@[simp] theorem eq_tt (a b : List D) : cmpD .eq (.tup a) (.tup b) h = eqPP (dat h 30 (.tup a)) (dat h 30 (.tup b)) := id rfl
@[simp] theorem ne_tt (a b : List D) : cmpD .ne (.tup a) (.tup b) h = (eqPP (dat h 30 (.tup a)) (dat h 30 (.tup b))).map fun b => !b := id rfl
@[simp] theorem dat_ref (a : Nat) : dat h (n + 1) (.ref a) = datO (dat h n) (h.get a) := by
  rw [dat]
  cases h.get a with
  | none => rfl
  | some o => cases o <;> rfl
@[simp] theorem dat_tup (xs : List D) : dat h (n + 1) (.tup xs) = (mapO (dat h n) xs).map .tuple := by rw [dat]
@[simp] theorem dat_int (i : Int) : dat h n (.int i) = some (.int i) := by cases n <;> rw [dat]
@[simp] theorem dat_str (i : Str) : dat h n (.str i) = some (.str i) := by cases n <;> rw [dat]
@[simp] theorem dat_bl (i : Bool) : dat h n (.bl i) = some (.bool i) := by cases n <;> rw [dat]
@[simp] theorem dat_non : dat h n .non = some .none := by cases n <;> rw [dat]
@[simp] theorem datO_l (f : D → Option PyData) (xs : List D) : datO f (some (.lst xs)) = (mapO f xs).map .list := id rfl
@[simp] theorem datO_f (f : D → Option PyData) (xs : List D) : datO f (some (.fz xs)) = (mapO f xs).map .list := id rfl
@[simp] theorem mapO_nil {α β : Type} (f : α → Option β) : mapO f [] = some [] := id rfl
theorem mapO_cons {α β : Type} (f : α → Option β) (x : α) (xs : List α) {y : β} {ys : List β} (e : f x = some y) (e2 : mapO f xs = some ys) : mapO f (x :: xs) = some (y :: ys) := by simp only [mapO, e, e2]
theorem mapO_map {α β γ : Type} (f : β → Option γ) (A : α → β) (B : α → γ) : ∀ cs : List α, (∀ c ∈ cs, f (A c) = some (B c)) → mapO f (cs.map A) = some (cs.map B)
  | [], _ => rfl
  | c :: cs, hx => mapO_cons f _ _ (hx c (List.mem_cons_self ..)) (mapO_map f A B cs fun x h => hx x (List.mem_cons_of_mem _ h))
@[simp] theorem mapO_ints (us : List Int) : mapO (dat h n) (us.map D.int) = some (us.map PyData.int) := mapO_map _ _ _ us fun c _ => dat_int c
theorem lay_ints : ∀ us : List Int, PyData.canLayAll0 (us.map PyData.int) = true
  | [] => by simp only [List.map_nil, PyData.canLayAll0]
  | x :: xs => by simp only [List.map_cons, PyData.canLayAll0, PyData.canLay0, lay_ints xs, Bool.and_self]
theorem dep_ints : ∀ us : List Int, PyData.depthAll (us.map PyData.int) = 0
  | [] => by simp only [List.map_nil, PyData.depthAll]
  | x :: xs => by simp only [List.map_cons, PyData.depthAll, PyData.depth, dep_ints xs, Nat.max_self]
theorem sh_ints (us : List Int) : SeqAt.shaped (.list (us.map PyData.int)) = true := by
  simp only [SeqAt.shaped, PyData.canLay0, PyData.depth, lay_ints, dep_ints]
  rfl
@[simp] theorem eqPP_ints (us vs : List Int) : eqPP (some (.list (us.map .int))) (some (.list (vs.map .int))) = some (decide (us = vs)) := by
  simp only [eqPP, sh_ints, Bool.and_self, if_true, PyData.eqv, PySem.W.ked_eqvAll]
@[simp] theorem eqPP_nil : eqPP (some (.list [])) (some (.list [])) = some true := eqPP_ints [] []
@[simp] theorem eqPP_nilR (us : List Int) : eqPP (some (.list (us.map .int))) (some (.list [])) = some (decide (us = [])) := eqPP_ints us []
@[simp] theorem eqPP_nilL (us : List Int) : eqPP (some (.list [])) (some (.list (us.map .int))) = some (decide ([] = us)) := eqPP_ints [] us
end
theorem compL_i {α : Type} {fe : Env → Hm → Res D} {ft : Env → Hm → Res Bool} {g : Tg} {gd : List (Nat × O)} {a : Nat} {env : Env} {cs : List α} {h : Hm} (A : α → D) (f : α → Int) (hgd : ∀ p ∈ gd, p.1 ≠ a)
    (hx : ∀ c ∈ cs, ∃ env1, asgT g (A c) env = some env1 ∧ ∀ h, ft env1 h = some (.ok true, h) ∧ (stays gd h → fe env1 h = some (.ok (.int (f c)), h))) (hs : stays gd h) (ha : h.get a = some (.lst [])) (hl : cs.length ≤ 1000000) :
    compL fe ft g gd a env (cs.map A) h = some (.ok (.ref a), h.put a (.lst ((cs.map f).map D.int))) := by
  rw [compL_map A (fun c => .int (f c)) hgd hx hs ha hl, List.map_map]
  rfl
theorem cut_init {α : Type} (xs : List α) : cut xs none (some (-1)) = xs.dropLast := by
  unfold cut sI
  dsimp only
  rw [if_pos (by omega), List.drop_zero, Nat.sub_zero, List.dropLast_eq_take]
  congr 1
  omega

@[simp] theorem atD_last {α : Type} (xs : List α) (x : α) : atD (xs ++ [x]) (-1) = some x := by
  unfold atD
  rw [if_neg (by omega), if_pos (by rw [List.length_append]; simp; omega)]
  have e : ((-1 : Int) + ((xs ++ [x]).length : Int)).toNat = xs.length := by rw [List.length_append]; simp; omega
  rw [e]
  simp
@[simp] theorem walk_revR {a : Nat} {h : Hm} : walk .rev [.ref a] h = (walkO (h.get a) a).map fun p => (p.1.reverse, p.2) := by
  cases e : h.get a with
  | none => simp only [walk, e]; rfl
  | some o => cases o <;> (simp only [walk, e]; rfl)
@[simp] theorem walk_revT {xs : List D} {h : Hm} : walk .rev [.tup xs] h = some (xs.reverse, []) := id rfl
@[simp] theorem walk_r3 {i j c : Int} (z : (c = 2 ∨ c = 7) ∧ (-(2 ^ 62) ≤ i ∧ i < 2 ^ 62) ∧ (-(2 ^ 62) ≤ j ∧ j < 2 ^ 62)) {h : Hm} : walk .range3 [.int i, .int j, .int c] h = some ((List.range (if i < j then (j - i - 1) / c + 1 else 0).toNat).map fun (k : Nat) => .int (i + (k : Int) * c), []) := if_pos z
/-- a comprehension over a heap of which G is known -/
theorem compL_gA {α : Type} {fe : Env → Hm → Res D} {ft : Env → Hm → Res Bool} {g : Tg} {gd : List (Nat × O)} {a : Nat} {env : Env} (A F : α → D) (G : Hm → Prop) (hs : ∀ h, G h → stays gd h) (hp : ∀ h o, G h → G (h.put a o)) : ∀ (cs : List α) (acc : List D) (h : Hm),
    (∀ c ∈ cs, ∃ env1, asgT g (A c) env = some env1 ∧ ∀ h, G h → ft env1 h = some (.ok true, h) ∧ fe env1 h = some (.ok (F c), h)) → G h → h.get a = some (.lst acc) → acc.length + cs.length ≤ 1000000 →
    compL fe ft g gd a env (cs.map A) h = some (.ok (.ref a), h.put a (.lst (acc ++ cs.map F)))
  | [], acc, h, hx, g0, ha, hl => by rw [List.map_nil, compL_nil (hs h g0), List.map_nil, List.append_nil, put_self ha]
  | x :: xs, acc, h, hx, g0, ha, hl => by
    obtain ⟨env1, e1, e2⟩ := hx x (List.mem_cons_self ..)
    rw [List.map_cons]
    unfold compL
    rw [if_pos (hs h g0), e1]
    have hlt : acc.length < lim := by unfold lim; rw [List.length_cons] at hl; omega
    simp only [(e2 h g0).1, (e2 h g0).2, bndN_ok, if_true, ha, hlt]
    rw [compL_gA A F G hs hp xs (acc ++ [F x]) _ (fun y hy => hx y (List.mem_cons_of_mem _ hy)) (hp _ _ g0) (by rw [put_get, if_pos rfl]) (by rw [List.length_append]; rw [List.length_cons] at hl; simp; omega), put_put, List.append_assoc]
    rfl
theorem compL_g {α : Type} {fe : Env → Hm → Res D} {ft : Env → Hm → Res Bool} {g : Tg} {gd : List (Nat × O)} {a : Nat} {env : Env} {cs : List α} {h : Hm} (A : α → D) (f : α → Int) (G : Hm → Prop) (hs : ∀ h, G h → stays gd h) (hp : ∀ h o, G h → G (h.put a o))
    (hx : ∀ c ∈ cs, ∃ env1, asgT g (A c) env = some env1 ∧ ∀ h, G h → ft env1 h = some (.ok true, h) ∧ fe env1 h = some (.ok (.int (f c)), h)) (g0 : G h) (ha : h.get a = some (.lst [])) (hl : cs.length ≤ 1000000) :
    compL fe ft g gd a env (cs.map A) h = some (.ok (.ref a), h.put a (.lst ((cs.map f).map D.int))) := by
  rw [compL_gA A (fun c => .int (f c)) G hs hp cs [] h hx g0 ha (by simpa using hl), List.map_map]
  rfl
/-! ### while -/
theorem whl_inv {ft : Env → Hm → Res Bool} {fb : Env → Hm → Out} (I : Nat → Env → Hm → Prop) (e : Nat) (step : ∀ j env h, j < e → I j env h → ft env h = some (.ok true, h) ∧ ∃ env2 h2, fb env h = some (.nx, env2, h2) ∧ I (j + 1) env2 h2)
    (stop : ∀ env h, I e env h → ft env h = some (.ok false, h)) : ∀ (n j : Nat) env h, j ≤ e → e < n + j → I j env h → ∃ env' h', whl ft fb n env h = some (.nx, env', h') ∧ I e env' h'
  | 0, j, env, h, hj, hn, i => by omega
  | n + 1, j, env, h, hj, hn, i => by
    by_cases he : j = e
    · subst he
      refine ⟨env, h, ?_, i⟩
      rw [whl, stop env h i]
      rfl
    · obtain ⟨e1, env2, h2, e2, i2⟩ := step j env h (by omega) i
      obtain ⟨env', h', e3, i3⟩ := whl_inv I e step stop n (j + 1) env2 h2 (by omega) (by omega) i2
      refine ⟨env', h', ?_, i3⟩
      rw [whl, e1]
      simp only [toS_ok, if_true, e2, thenS_nx]
      exact e3
theorem whl_quiet {ft : Env → Hm → Res Bool} {fb : Env → Hm → Out} {n : Nat} {env : Env} {h : Hm} {k : Env → Hm → Out} (P : Res D → Prop) (I : Nat → Env → Hm → Prop) (e : Nat) (hn : e < n) (i0 : I 0 env h)
    (step : ∀ j env h, j < e → I j env h → ft env h = some (.ok true, h) ∧ ∃ env2 h2, fb env h = some (.nx, env2, h2) ∧ I (j + 1) env2 h2) (stop : ∀ env h, I e env h → ft env h = some (.ok false, h))
    (post : ∀ env' h', I e env' h' → P (endF (k env' h'))) : P (endF (@thenSI (whl ft fb n env h) k)) := by
  obtain ⟨env', h', e1, i1⟩ := whl_inv I e step stop n 0 env h (Nat.zero_le _) (by omega) i0
  rw [e1]
  exact post env' h' i1
/-- a for that changes nothing in the heap -/
theorem forL_still {fb : Env → Hm → Out} {g : Tg} {gd : List (Nat × O)} {xs : List D} {env : Env} {h : Hm} (E : Env → Prop) (e0 : E env) (hs : stays gd h) (step : ∀ c ∈ xs, ∀ env, E env → ∃ env1, asgT g c env = some env1 ∧ ∃ env2, fb env1 h = some (.nx, env2, h) ∧ E env2) :
    ∃ x, forL fb g gd xs env h = some (.nx, x, h) ∧ E x := by
  obtain ⟨x, h', e1, e2, rfl⟩ := forL_quiet E (fun h' => h' = h) (fun h' e => by rw [e]; exact hs) xs (fun c hc env h' e i => by
    subst i
    obtain ⟨env1, a1, env2, a2, a3⟩ := step c hc env e
    exact ⟨env1, env2, h', a1, a2, a3, rfl⟩) env h e0 rfl
  exact ⟨x, e1, e2⟩
theorem forL_stillE {fb : Env → Hm → Out} {g : Tg} {gd : List (Nat × O)} {xs : List D} {env : Env} {h : Hm} {E' : Env → Prop} (E : Env → Prop) (e0 : E env) (hs : stays gd h) (hE : ∀ x, E x → E' x) (step : ∀ c ∈ xs, ∀ env, E env → ∃ env1, asgT g c env = some env1 ∧ ∃ env2, fb env1 h = some (.nx, env2, h) ∧ E env2) :
    ∃ x, forL fb g gd xs env h = some (.nx, x, h) ∧ E' x := by
  obtain ⟨x, e1, e2⟩ := forL_still E e0 hs step
  exact ⟨x, e1, hE x e2⟩
theorem still {fb : Env → Hm → Out} {g : Tg} {gd : List (Nat × O)} {xs : List D} {env : Env} {h : Hm} {k : Env → Hm → Out} (P : Res D → Prop) (E : Env → Prop) (e0 : E env) (hs : stays gd h) (step : ∀ c ∈ xs, ∀ env, E env → ∃ env1, asgT g c env = some env1 ∧ ∃ env2, fb env1 h = some (.nx, env2, h) ∧ E env2)
    (post : ∀ env', E env' → P (endF (k env' h))) : P (endF (@thenSI (forL fb g gd xs env h) k)) := by
  obtain ⟨x, e1, e2⟩ := forL_still E e0 hs step
  rw [e1]
  exact post x e2
end Z

set_option maxRecDepth 100000
set_option maxHeartbeats 2000000
/-! ZP: loops by a relation between what was done, the names and the heap; loops that may be left. -/
namespace Z
open PySem
/-- the k-th number, 0 beyond -/
def gt (us : List Int) (k : Nat) : Int := us.getD k 0
theorem gt_map {α : Type} (f : α → Int) (xs : List α) (k : Nat) (hk : k < xs.length) : gt (xs.map f) k = f xs[k] := by
  unfold gt
  rw [List.getD_eq_getElem?_getD, List.getElem?_map, List.getElem?_eq_getElem hk]; rfl
theorem gt_range (f : Nat → Int) (n k : Nat) (hk : k < n) : gt ((List.range n).map f) k = f k := by
  rw [gt_map f _ k (by simpa using hk)]; simp
theorem at_gt (us : List Int) (k : Nat) (hk : k < us.length) : atD (us.map D.int) (k : Int) = some (.int (gt us k)) := by
  rw [atD_nat, List.getElem?_map, List.getElem?_eq_getElem hk, gt, List.getD_eq_getElem?_getD, List.getElem?_eq_getElem hk]; rfl
@[simp high] theorem at_gt_lit (us : List Int) (k : Nat) (hk : k < us.length) : atD (us.map D.int) (no_index (@OfNat.ofNat Int k _)) = some (.int (gt us k)) := at_gt us k hk
theorem cut_map {α β : Type} (f : α → β) (xs : List α) (lo hi : Option Int) : cut (xs.map f) lo hi = (cut xs lo hi).map f := by
  unfold cut
  rw [List.length_map, List.map_take, List.map_drop]
theorem cut_len {α : Type} (xs : List α) (lo hi : Option Int) : (cut xs lo hi).length ≤ xs.length := by
  unfold cut
  rw [List.length_take, List.length_drop]
  omega
theorem cut_from {α : Type} (xs : List α) (k : Nat) : cut xs (some (k : Int)) none = xs.drop k := by
  unfold cut sI
  dsimp only
  rw [if_neg (by omega), Int.toNat_natCast]
  by_cases hk : k ≤ xs.length
  · rw [Nat.min_eq_left hk, List.take_of_length_le (by rw [List.length_drop]; omega)]
  · rw [Nat.min_eq_right (by omega), Nat.sub_self, List.take_zero, List.drop_eq_nil_of_le (by omega)]
@[simp] theorem eqPP_self (d : PyData) (c : SeqAt.shaped d = true) : eqPP (some d) (some d) = some true := by
  have h1 : d.canLay0 = true := by
    unfold SeqAt.shaped at c
    exact (Bool.and_eq_true_iff.mp c).1
  simp only [eqPP, c, Bool.and_self, if_true, SeqAt.eqv_refl d h1]
@[simp] theorem sh_ints' (us : List Int) : SeqAt.shaped (.list (us.map PyData.int)) = true := sh_ints us
@[simp] theorem sh_paper (p : Int) (us ws : List Int) : SeqAt.shaped (.tuple [.int p, .list (us.map PyData.int), .list (ws.map PyData.int)]) = true := by
  simp only [SeqAt.shaped, PyData.canLay0, PyData.canLayAll0, PyData.depth, PyData.depthAll, lay_ints, dep_ints]
  rfl
theorem ixD_nat (n j : Nat) (hj : j < n) : ixD n (j : Int) = some j := by
  unfold ixD; rw [if_pos (by omega), if_pos (by omega)]; rfl
@[simp] theorem lookup_eq {v : D} (k : String) (r : List (String × D)) : List.lookup k ((k, v) :: r) = some v := by simp [List.lookup]
@[simp] theorem lookup_ne {v : D} {k k' : String} {r : List (String × D)} (e : (k == k') = false) : List.lookup k ((k', v) :: r) = List.lookup k r := by simp only [List.lookup, e]
@[simp] theorem setF_nil (f : String) (v : D) : setF [] f v = [(f, v)] := id rfl
@[simp] theorem setF_cons (f g : String) (v x : D) (r : List (String × D)) : setF ((g, x) :: r) f v = if g = f then (g, v) :: r else (g, x) :: setF r f v := id rfl
section
variable {α : Type} {fb : Env → Hm → Out} {g : Tg} {gd : List (Nat × O)} {cs : List α}
theorem forL_relA (A : α → D) (I : List α → Env → Hm → Prop) (hs : ∀ d env h, I d env h → stays gd h)
    (step : ∀ d c rest env h, cs = d ++ c :: rest → I d env h → ∃ env1, asgT g (A c) env = some env1 ∧ ∃ env2 h2, fb env1 h = some (.nx, env2, h2) ∧ I (d ++ [c]) env2 h2) :
    ∀ (rest d : List α) env h, cs = d ++ rest → I d env h → ∃ env' h', forL fb g gd (rest.map A) env h = some (.nx, env', h') ∧ I cs env' h'
  | [], d, env, h, e, i => by
    rw [List.append_nil] at e
    subst e
    exact ⟨env, h, forL_nil (hs _ _ _ i), i⟩
  | c :: rest, d, env, h, e, i => by
    obtain ⟨env1, e1, env2, h2, e2, i2⟩ := step d c rest env h e i
    obtain ⟨env', h', e3, i3⟩ := forL_relA A I hs step rest (d ++ [c]) env2 h2 (by rw [e, List.append_assoc]; rfl) i2
    refine ⟨env', h', ?_, i3⟩
    rw [List.map_cons, forL_cons (hs _ _ _ i), e1, someI_some, e2, thenSI_nx]
    exact e3
theorem forL_rel (A : α → D) (I : List α → Env → Hm → Prop) {env : Env} {h : Hm} (i0 : I [] env h) (hs : ∀ d env h, I d env h → stays gd h)
    (step : ∀ d c rest env h, cs = d ++ c :: rest → I d env h → ∃ env1, asgT g (A c) env = some env1 ∧ ∃ env2 h2, fb env1 h = some (.nx, env2, h2) ∧ I (d ++ [c]) env2 h2) :
    ∃ env' h', forL fb g gd (cs.map A) env h = some (.nx, env', h') ∧ I cs env' h' := forL_relA A I hs step cs [] env h rfl i0
/-- behind a loop: Q of the rest -/
theorem relO (Q : Out → Prop) (A : α → D) (I : List α → Env → Hm → Prop) {env : Env} {h : Hm} {k : Env → Hm → Out} (i0 : I [] env h) (hs : ∀ d env h, I d env h → stays gd h)
    (step : ∀ d c rest env h, cs = d ++ c :: rest → I d env h → ∃ env1, asgT g (A c) env = some env1 ∧ ∃ env2 h2, fb env1 h = some (.nx, env2, h2) ∧ I (d ++ [c]) env2 h2)
    (post : ∀ env' h', I cs env' h' → Q (k env' h')) : Q (@thenSI (forL fb g gd (cs.map A) env h) k) := by
  obtain ⟨env', h', e1, i1⟩ := forL_rel A I i0 hs step
  rw [e1]
  exact post env' h' i1
theorem rel (P : Res D → Prop) (A : α → D) (I : List α → Env → Hm → Prop) {env : Env} {h : Hm} {k : Env → Hm → Out} (i0 : I [] env h) (hs : ∀ d env h, I d env h → stays gd h)
    (step : ∀ d c rest env h, cs = d ++ c :: rest → I d env h → ∃ env1, asgT g (A c) env = some env1 ∧ ∃ env2 h2, fb env1 h = some (.nx, env2, h2) ∧ I (d ++ [c]) env2 h2)
    (post : ∀ env' h', I cs env' h' → P (endF (k env' h'))) : P (endF (@thenSI (forL fb g gd (cs.map A) env h) k)) :=
  relO (fun o => P (endF o)) A I i0 hs step post
theorem relE (P : Res D → Prop) (A : α → D) (I : List α → Env → Hm → Prop) {env : Env} {h : Hm} (i0 : I [] env h) (hs : ∀ d env h, I d env h → stays gd h)
    (step : ∀ d c rest env h, cs = d ++ c :: rest → I d env h → ∃ env1, asgT g (A c) env = some env1 ∧ ∃ env2 h2, fb env1 h = some (.nx, env2, h2) ∧ I (d ++ [c]) env2 h2)
    (post : ∀ env' h', I cs env' h' → P (some (.ok .non, h'))) : P (endF (forL fb g gd (cs.map A) env h)) := by
  obtain ⟨env', h', e1, i1⟩ := forL_rel A I i0 hs step
  rw [e1]
  exact post env' h' i1
/-- a loop that may be left by a return -/
theorem relXA (Q : Out → Prop) (A : α → D) (I : List α → Env → Hm → Prop) {k : Env → Hm → Out} (hs : ∀ d env h, I d env h → stays gd h)
    (step : ∀ d c rest env h, cs = d ++ c :: rest → I d env h → ∃ env1, asgT g (A c) env = some env1 ∧ ((∃ env2 h2, fb env1 h = some (.nx, env2, h2) ∧ I (d ++ [c]) env2 h2) ∨ (∃ r env2 h2, fb env1 h = some (.rt r, env2, h2) ∧ Q (some (.rt r, env2, h2)))))
    (post : ∀ env' h', I cs env' h' → Q (k env' h')) : ∀ (rest d : List α) env h, cs = d ++ rest → I d env h → Q (@thenSI (forL fb g gd (rest.map A) env h) k)
  | [], d, env, h, e, i => by
    rw [List.append_nil] at e
    subst e
    rw [List.map_nil, forL_nil (hs _ _ _ i)]
    exact post env h i
  | c :: rest, d, env, h, e, i => by
    obtain ⟨env1, e1, st⟩ := step d c rest env h e i
    rw [List.map_cons, forL_cons (hs _ _ _ i), e1, someI_some]
    rcases st with ⟨env2, h2, e2, i2⟩ | ⟨r, env2, h2, e2, q⟩
    · rw [e2, thenSI_nx]
      exact relXA Q A I hs step post rest (d ++ [c]) env2 h2 (by rw [e, List.append_assoc]; rfl) i2
    · rw [e2, thenSI_rt, thenSI_rt]
      exact q
theorem relX (Q : Out → Prop) (A : α → D) (I : List α → Env → Hm → Prop) {env : Env} {h : Hm} {k : Env → Hm → Out} (i0 : I [] env h) (hs : ∀ d env h, I d env h → stays gd h)
    (step : ∀ d c rest env h, cs = d ++ c :: rest → I d env h → ∃ env1, asgT g (A c) env = some env1 ∧ ((∃ env2 h2, fb env1 h = some (.nx, env2, h2) ∧ I (d ++ [c]) env2 h2) ∨ (∃ r env2 h2, fb env1 h = some (.rt r, env2, h2) ∧ Q (some (.rt r, env2, h2)))))
    (post : ∀ env' h', I cs env' h' → Q (k env' h')) : Q (@thenSI (forL fb g gd (cs.map A) env h) k) := relXA Q A I hs step post cs [] env h rfl i0
/-- a loop that only reads: left at the first c with p c, else through -/
theorem findO (Q : Out → Prop) (A : α → D) (p : α → Bool) (E : Env → Prop) {env : Env} {h : Hm} {k : Env → Hm → Out} (e0 : E env) (hs : stays gd h)
    (go : ∀ c ∈ cs, p c = false → ∀ env, E env → ∃ env1, asgT g (A c) env = some env1 ∧ ∃ env2, fb env1 h = some (.nx, env2, h) ∧ E env2)
    (out : ∀ c ∈ cs, p c = true → ∀ env, E env → ∃ env1, asgT g (A c) env = some env1 ∧ ∃ r env2, fb env1 h = some (.rt r, env2, h) ∧ Q (some (.rt r, env2, h)))
    (post : (∀ c ∈ cs, p c = false) → ∀ env', E env' → Q (k env' h)) : Q (@thenSI (forL fb g gd (cs.map A) env h) k) := by
  refine relX Q A (fun d env h' => E env ∧ h' = h ∧ ∀ c ∈ d, p c = false) ⟨e0, rfl, fun c hc => by cases hc⟩ (fun d env h' i => i.2.1 ▸ hs) ?_ ?_
  · rintro d c rest env h' e ⟨i1, rfl, i3⟩
    have hc : c ∈ cs := by rw [e]; simp
    cases hp : p c with
    | false =>
      obtain ⟨env1, e1, env2, e2, e3⟩ := go c hc hp env i1
      refine ⟨env1, e1, Or.inl ⟨env2, h', e2, e3, rfl, fun z hz => ?_⟩⟩
      rcases List.mem_append.mp hz with hz | hz
      · exact i3 z hz
      · rw [List.mem_singleton.mp hz]; exact hp
    | true =>
      obtain ⟨env1, e1, r, env2, e2, q⟩ := out c hc hp env i1
      exact ⟨env1, e1, Or.inr ⟨r, env2, h', e2, q⟩⟩
  · rintro env' h' ⟨i1, rfl, i3⟩
    exact post i3 env' i1
/-- a loop that only reads, in the midst of a body -/
theorem stillO (Q : Out → Prop) {xs : List D} (E : Env → Prop) {env : Env} {h : Hm} {k : Env → Hm → Out} (e0 : E env) (hs : stays gd h) (step : ∀ c ∈ xs, ∀ env, E env → ∃ env1, asgT g c env = some env1 ∧ ∃ env2, fb env1 h = some (.nx, env2, h) ∧ E env2)
    (post : ∀ env', E env' → Q (k env' h)) : Q (@thenSI (forL fb g gd xs env h) k) := by
  obtain ⟨x, e1, e2⟩ := forL_still E e0 hs step
  rw [e1]
  exact post x e2
/-- a loop whose turns keep E of the names and let the heap grow -/
theorem growO (Q : Out → Prop) (A : α → D) (E : Env → Prop) {env : Env} {h : Hm} {k : Env → Hm → Out} (e0 : E env) (hs : ∀ h', Gro h h' → stays gd h')
    (step : ∀ c ∈ cs, ∀ env h', E env → Gro h h' → ∃ env1, asgT g (A c) env = some env1 ∧ ∃ env2 h2, fb env1 h' = some (.nx, env2, h2) ∧ E env2 ∧ Gro h h2)
    (post : ∀ env' h', E env' → Gro h h' → Q (k env' h')) : Q (@thenSI (forL fb g gd (cs.map A) env h) k) :=
  relO Q A (fun d env h' => E env ∧ Gro h h') ⟨e0, Gro.refl⟩ (fun d env h' i => hs h' i.2) (fun d c rest env h' e i => step c (by rw [e]; simp) env h' i.1 i.2) (fun env' h' i => post env' h' i.1 i.2)
end
/-! ### calls and comprehensions that let the heap grow -/
theorem callS {r : Res D} {v : D} {R : Hm → Prop} {env : Env} {f : D → Hm → Out} {k : Env → Hm → Out} (P : Res D → Prop) (e : ∃ g, r = some (.ok v, g) ∧ R g) (post : ∀ g, R g → P (endF (@thenSI (f v g) k))) : P (endF (@thenSI (@toSI _ r env f) k)) := by
  obtain ⟨g, rfl, h⟩ := e
  exact post g h
theorem compL_groA {α : Type} {fe : Env → Hm → Res D} {ft : Env → Hm → Res Bool} {g : Tg} {gd : List (Nat × O)} {env : Env} {h : Hm} (A F : α → D) (hgd : ∀ h', Gro h h' → stays gd h') : ∀ (cs : List α) (acc : List D) (h1 : Hm),
    (∀ c ∈ cs, ∃ env1, asgT g (A c) env = some env1 ∧ ∀ h', Gro h h' → h.next < h'.next → ft env1 h' = some (.ok true, h') ∧ ∃ h'', fe env1 h' = some (.ok (F c), h'') ∧ Gro h' h'') → Gro h h1 → h.next < h1.next → h1.get h.next = some (.lst acc) → acc.length + cs.length ≤ 1000000 →
    ∃ h', compL fe ft g gd h.next env (cs.map A) h1 = some (.ok (.ref h.next), h') ∧ Gro h h' ∧ h.next < h'.next ∧ h'.get h.next = some (.lst (acc ++ cs.map F))
  | [], acc, h1, hx, g1, n1, ha, hl => ⟨h1, by rw [List.map_nil, compL_nil (hgd h1 g1)], g1, n1, by rw [List.map_nil, List.append_nil]; exact ha⟩
  | x :: xs, acc, h1, hx, g1, n1, ha, hl => by
    obtain ⟨env1, e1, e2⟩ := hx x (List.mem_cons_self ..)
    obtain ⟨e3, h2, e4, g2⟩ := e2 h1 g1 n1
    have hlt : acc.length < lim := by unfold lim; rw [List.length_cons] at hl; omega
    have ha2 : h2.get h.next = some (.lst acc) := (g2.at_ _ n1).trans ha
    have hle := g2.le
    obtain ⟨h', i1, i2, i3, i4⟩ := compL_groA A F hgd xs (acc ++ [F x]) (h2.put h.next (.lst (acc ++ [F x]))) (fun y hy => hx y (List.mem_cons_of_mem _ hy)) ((g1.trans g2).put (Nat.le_refl _)) (by rw [put_next]; omega) (by rw [put_get, if_pos rfl]) (by rw [List.length_append]; rw [List.length_cons] at hl; simp; omega)
    refine ⟨h', ?_, i2, i3, by rw [i4, List.map_cons, List.append_assoc]; rfl⟩
    rw [List.map_cons]
    unfold compL
    rw [if_pos (hgd h1 g1), e1]
    simp only [e3, e4, bndN_ok, if_true, ha2, hlt]
    exact i1
theorem compL_gro {α : Type} {fe : Env → Hm → Res D} {ft : Env → Hm → Res Bool} {g : Tg} {gd : List (Nat × O)} {env : Env} {h : Hm} {cs : List α} (A F : α → D) (hgd : ∀ h', Gro h h' → stays gd h')
    (hx : ∀ c ∈ cs, ∃ env1, asgT g (A c) env = some env1 ∧ ∀ h', Gro h h' → h.next < h'.next → ft env1 h' = some (.ok true, h') ∧ ∃ h'', fe env1 h' = some (.ok (F c), h'') ∧ Gro h' h'') (hl : cs.length ≤ 1000000) :
    ∃ h', compL fe ft g gd h.next env (cs.map A) (h.new (.lst [])) = some (.ok (.ref h.next), h') ∧ Gro h h' ∧ h.next < h'.next ∧ h'.get h.next = some (.lst (cs.map F)) :=
  compL_groA A F hgd cs [] _ hx .new (Nat.lt_succ_self _) (by rw [new_get, if_pos rfl]) (by simpa using hl)
/-! ### insert; rows of a program -/
section
variable {h : Hm} {a : Nat} {xs : List D} {v x : D} {i : Int}
def insO (o : Option O) (a : Nat) (i : Int) (v : D) (h : Hm) : Res D := match o with
  | some (.lst xs) => if xs.length < 1000000 ∧ 0 ≤ i ∧ i < 2 ^ 62 then some (.ok .non, h.put a (.lst (xs.take i.toNat ++ [v] ++ xs.drop i.toNat))) else none
  | _ => none
@[simp] theorem insO_l (c : xs.length < 1000000 ∧ 0 ≤ i ∧ i < 2 ^ 62) : insO (some (.lst xs)) a i v h = some (.ok .non, h.put a (.lst (xs.take i.toNat ++ [v] ++ xs.drop i.toNat))) := if_pos c
@[simp] theorem ins_ref : bmD .insert (.ref a) [.int i, v] h = insO (h.get a) a i v h := by
  cases e : h.get a with
  | none => simp only [bmD, e]; rfl
  | some o => cases o <;> (simp only [bmD, e]; rfl)
@[simp] theorem rcv_ins : rcv .insert x h = (lstOf x h).isSome := id rfl
@[simp] theorem rcv_clear : rcv .clear x h = (lstOf x h).isSome := id rfl
def clrO (o : Option O) (a : Nat) (h : Hm) : Res D := match o with
  | some (.lst _) => some (.ok .non, h.put a (.lst []))
  | _ => none
@[simp] theorem clrO_l : clrO (some (.lst xs)) a h = some (.ok .non, h.put a (.lst [])) := id rfl
@[simp] theorem clr_ref : bmD .clear (.ref a) [] h = clrO (h.get a) a h := by
  cases e : h.get a with
  | none => simp only [bmD, e]; rfl
  | some o => cases o <;> (simp only [bmD, e]; rfl)
end
/-- a row: its word, its number -/
abbrev Rw := String × Option Int
def rwD (r : Rw) : D := .tup (.str (Str.ofString r.1) :: (match r.2 with
  | none => []
  | some v => [.int v]))
def rwP (r : Rw) : PyData := .tuple (.str (Str.ofString r.1) :: (match r.2 with
  | none => []
  | some v => [.int v]))
@[simp] theorem dat_rw (h : Hm) (n : Nat) (r : Rw) : dat h (n + 1) (rwD r) = some (rwP r) := by
  obtain ⟨w, x⟩ := r
  cases x <;> (unfold rwD rwP; simp [mapO])
@[simp] theorem mapO_rows (h : Hm) (n : Nat) (rs : List Rw) : mapO (dat h (n + 1)) (rs.map rwD) = some (rs.map rwP) := mapO_map _ _ _ rs fun c _ => dat_rw h n c
def okW (r : Rw) : Bool := PyData.strOk (Str.ofString r.1)
theorem lay_rows : ∀ rs : List Rw, rs.all okW = true → PyData.canLayAll0 (rs.map rwP) = true
  | [], _ => by simp only [List.map_nil, PyData.canLayAll0]
  | r :: rs, h => by
    rw [List.all_cons, Bool.and_eq_true] at h
    have h1 := h.1
    obtain ⟨w, x⟩ := r
    unfold okW at h1
    cases x <;> simp [rwP, PyData.canLayAll0, PyData.canLay0, lay_rows rs h.2, h1]
theorem dep_rows : ∀ rs : List Rw, PyData.depthAll (rs.map rwP) ≤ 1
  | [] => by simp only [List.map_nil, PyData.depthAll]; decide
  | r :: rs => by
    have := dep_rows rs
    obtain ⟨w, x⟩ := r
    cases x <;> (simp [rwP, PyData.depthAll, PyData.depth]; omega)
@[simp] theorem sh_rows (rs : List Rw) (h : rs.all okW = true) : SeqAt.shaped (.list (rs.map rwP)) = true := by
  have := dep_rows rs
  simp [SeqAt.shaped, PyData.canLay0, PyData.depth, lay_rows rs h]
  omega
/-! ### parts of a body -/
def S.hd : S → S
  | .seq a _ => a
  | s => s
def S.tl : S → S
  | .seq _ b => b
  | s => s
def S.from : S → Nat → S
  | s, 0 => s
  | s, n + 1 => s.tl.from n
theorem seq_nx {P : Prog} {cl : Cl} {a b : S} {env env1 : Env} {h h1 : Hm} (e : ex P cl a env h = some (.nx, env1, h1)) : ex P cl (.seq a b) env h = ex P cl b env1 h1 := by rw [ex, e, thenS_nx]
theorem callS2 {r : Res D} {v : D} {R : Hm → Prop} {env : Env} {f : D → Hm → Out} {k k2 : Env → Hm → Out} (P : Res D → Prop) (e : ∃ g, r = some (.ok v, g) ∧ R g) (post : ∀ g, R g → P (endF (@thenSI (@thenSI (f v g) k) k2))) : P (endF (@thenSI (@thenSI (@toSI _ r env f) k) k2)) := by
  obtain ⟨g, rfl, h⟩ := e
  exact post g h
/-- a comprehension with a test, the heap growing -/
theorem compL_grfA {α : Type} {fe : Env → Hm → Res D} {ft : Env → Hm → Res Bool} {g : Tg} {gd : List (Nat × O)} {env : Env} {h : Hm} (A F : α → D) (p : α → Bool) (hgd : ∀ h', Gro h h' → stays gd h') : ∀ (cs : List α) (acc : List D) (h1 : Hm),
    (∀ c ∈ cs, ∃ env1, asgT g (A c) env = some env1 ∧ ∀ h', Gro h h' → h.next < h'.next → ∃ h2, ft env1 h' = some (.ok (p c), h2) ∧ Gro h' h2 ∧ (p c = true → ∃ h'', fe env1 h2 = some (.ok (F c), h'') ∧ Gro h2 h'')) → Gro h h1 → h.next < h1.next → h1.get h.next = some (.lst acc) → acc.length + cs.length ≤ 1000000 →
    ∃ h', compL fe ft g gd h.next env (cs.map A) h1 = some (.ok (.ref h.next), h') ∧ Gro h h' ∧ h.next < h'.next ∧ h'.get h.next = some (.lst (acc ++ (cs.filter p).map F))
  | [], acc, h1, hx, g1, n1, ha, hl => ⟨h1, by rw [List.map_nil, compL_nil (hgd h1 g1)], g1, n1, by rw [List.filter_nil, List.map_nil, List.append_nil]; exact ha⟩
  | x :: xs, acc, h1, hx, g1, n1, ha, hl => by
    obtain ⟨env1, e1, e2⟩ := hx x (List.mem_cons_self ..)
    obtain ⟨h2, e3, g2, e4⟩ := e2 h1 g1 n1
    have hle := g2.le
    have ha2 : h2.get h.next = some (.lst acc) := (g2.at_ _ n1).trans ha
    rw [List.length_cons] at hl
    cases hp : p x with
    | false =>
      obtain ⟨h', i1, i2, i3, i4⟩ := compL_grfA A F p hgd xs acc h2 (fun y hy => hx y (List.mem_cons_of_mem _ hy)) (g1.trans g2) (by omega) ha2 (by omega)
      refine ⟨h', ?_, i2, i3, by rw [i4, List.filter_cons, hp]; rfl⟩
      rw [List.map_cons]
      unfold compL
      rw [if_pos (hgd h1 g1), e1]
      simp only [e3, hp, bndN_ok]
      exact i1
    | true =>
      obtain ⟨h3, e5, g3⟩ := e4 hp
      have hle3 := g3.le
      have hlt : acc.length < lim := by unfold lim; omega
      have ha3 : h3.get h.next = some (.lst acc) := (g3.at_ _ (by omega)).trans ha2
      obtain ⟨h', i1, i2, i3, i4⟩ := compL_grfA A F p hgd xs (acc ++ [F x]) (h3.put h.next (.lst (acc ++ [F x]))) (fun y hy => hx y (List.mem_cons_of_mem _ hy)) (((g1.trans g2).trans g3).put (Nat.le_refl _)) (by rw [put_next]; omega) (by rw [put_get, if_pos rfl]) (by rw [List.length_append]; simp; omega)
      refine ⟨h', ?_, i2, i3, by rw [i4, List.filter_cons, hp, if_pos rfl, List.map_cons, List.append_assoc]; rfl⟩
      rw [List.map_cons]
      unfold compL
      rw [if_pos (hgd h1 g1), e1]
      simp only [e3, hp, e5, bndN_ok, if_true, ha3, hlt]
      exact i1
theorem compL_grf {α : Type} {fe : Env → Hm → Res D} {ft : Env → Hm → Res Bool} {g : Tg} {gd : List (Nat × O)} {env : Env} {h : Hm} {cs : List α} (A F : α → D) (p : α → Bool) (hgd : ∀ h', Gro h h' → stays gd h')
    (hx : ∀ c ∈ cs, ∃ env1, asgT g (A c) env = some env1 ∧ ∀ h', Gro h h' → h.next < h'.next → ∃ h2, ft env1 h' = some (.ok (p c), h2) ∧ Gro h' h2 ∧ (p c = true → ∃ h'', fe env1 h2 = some (.ok (F c), h'') ∧ Gro h2 h'')) (hl : cs.length ≤ 1000000) :
    ∃ h', compL fe ft g gd h.next env (cs.map A) (h.new (.lst [])) = some (.ok (.ref h.next), h') ∧ Gro h h' ∧ h.next < h'.next ∧ h'.get h.next = some (.lst ((cs.filter p).map F)) :=
  compL_grfA A F p hgd cs [] _ hx .new (Nat.lt_succ_self _) (by rw [new_get, if_pos rfl]) (by simpa using hl)
@[simp] theorem gro_refl_s {h : Hm} : Gro h h := .refl
@[simp] theorem gro_new_s {h h' : Hm} {o : O} (g : Gro h h') : Gro h (h'.new o) := g.trans .new
@[simp] theorem c_isB (a b : Bool) {h : Hm} : cmpD .isN (.bl a) (.bl b) h = some (decide (a = b)) := id rfl
@[simp] theorem c_notB (a b : Bool) {h : Hm} : cmpD .notN (.bl a) (.bl b) h = some (!decide (a = b)) := id rfl
/-! ### dicts -/
section
variable {h : Hm} {a : Nat} {xs : List D} {v x : D} {i : Int} {kvs : List (L2.Key × D)} {q : L2.Key}
def dgO (o : Option O) (k : D) : Option (Option D) := match o with
  | some (.dic kvs) => (key? k).map fun q => kget kvs q
  | some (.fzd kvs) => (key? k).map fun q => kget kvs q
  | _ => none
@[simp] theorem dgO_d (k : D) : dgO (some (.dic kvs)) k = (key? k).map fun q => kget kvs q := id rfl
@[simp] theorem dgO_z (k : D) : dgO (some (.fzd kvs)) k = (key? k).map fun q => kget kvs q := id rfl
@[simp] theorem dget_eq (k : D) : dget h a k = dgO (h.get a) k := by
  unfold dget dgO
  cases h.get a with
  | none => rfl
  | some o => cases o <;> rfl
@[simp] theorem key_i : key? (.int i) = some (.inl i) := id rfl
@[simp] theorem key_s (s : Str) : key? (.str s) = some (.inr s) := id rfl
def dpO (o : Option O) (h : Hm) (a : Nat) (k v : D) : Option Hm := match o with
  | some (.dic kvs) => if kvs.length < 1000000 then (key? k).map fun q => h.put a (.dic (kput kvs q v)) else none
  | _ => none
@[simp] theorem dpO_d (k v : D) (c : kvs.length < 1000000) : dpO (some (.dic kvs)) h a k v = (key? k).map fun q => h.put a (.dic (kput kvs q v)) := if_pos c
@[simp] theorem dput_eq (k v : D) : dput h a k v = dpO (h.get a) h a k v := by
  unfold dput dpO
  cases h.get a with
  | none => rfl
  | some o => cases o <;> rfl
def inRO (x : D) (o : Option O) : Option Bool := match o with
  | some (.lst xs) => inL x xs
  | some (.fz xs) => inL x xs
  | some (.dic kvs) => ((key? x).map fun q => kget kvs q).map Option.isSome
  | some (.fzd kvs) => ((key? x).map fun q => kget kvs q).map Option.isSome
  | _ => none
@[simp] theorem inRO_l : inRO x (some (.lst xs)) = inL x xs := id rfl
@[simp] theorem inRO_f : inRO x (some (.fz xs)) = inL x xs := id rfl
@[simp] theorem inRO_d : inRO x (some (.dic kvs)) = ((key? x).map fun q => kget kvs q).map Option.isSome := id rfl
@[simp] theorem in_ref : cmpD .inn x (.ref a) h = inRO x (h.get a) := by
  show inD x (.ref a) h = _
  unfold inD inRO
  dsimp only
  cases e : h.get a with
  | none => rfl
  | some o => cases o <;> (try rfl) <;> (simp only [dget_eq, e]; rfl)
@[simp] theorem nin_ref : cmpD .nin x (.ref a) h = (inRO x (h.get a)).map fun b => !b := by
  show (inD x (.ref a) h).map _ = _
  rw [← in_ref (h := h)]; rfl
def isDO (o : Option O) : Bool := match o with
  | some (.dic _) => true
  | some (.fzd _) => true
  | _ => false
@[simp] theorem isDO_z : isDO (some (.fzd kvs)) = true := id rfl
@[simp] theorem isDO_d : isDO (some (.dic kvs)) = true := id rfl
@[simp] theorem rcv_get : rcv .get (.ref a) h = isDO (h.get a) := by
  first
  | (simp only [rcv, rcv.isDic, isDO]; done)
  | (simp only [rcv, rcv.isDic, isDO]
     cases h.get a with
     | none => rfl
     | some o => cases o <;> rfl)
@[simp] theorem rcv_get2 : rcv .get2 (.ref a) h = isDO (h.get a) := rcv_get (a := a) (h := h)
@[simp] theorem rcv_dpop : rcv .dpop (.ref a) h = isDO (h.get a) := rcv_get (a := a) (h := h)
def getO (m : Option (Option D)) (d : D) (h : Hm) : Res D := match m with
  | some (some v) => some (.ok v, h)
  | some none => some (.ok d, h)
  | none => none
@[simp] theorem getO_s (m : Option D) (d : D) : getO (some m) d h = some (.ok (m.getD d), h) := by cases m <;> rfl
@[simp] theorem bm_get (k : D) : bmD .get (.ref a) [k] h = getO (dget h a k) .non h := by
  simp only [bmD]
  rcases dget h a k with _ | _ | _ <;> rfl
@[simp] theorem bm_get2 (k d : D) : bmD .get2 (.ref a) [k, d] h = getO (dget h a k) d h := by
  simp only [bmD]
  rcases dget h a k with _ | _ | _ <;> rfl
def dpopO (o : Option O) (a : Nat) (k : D) (h : Hm) : Res D := match o with
  | some (.dic kvs) => (match key? k with
    | some q => (match kget kvs q with
      | some v => some (.ok v, h.put a (.dic (kdrop kvs q)))
      | none => none)
    | none => none)
  | _ => none
@[simp] theorem dpopO_i (e : kget kvs (.inl i) = some v) : dpopO (some (.dic kvs)) a (.int i) h = some (.ok v, h.put a (.dic (kdrop kvs (.inl i)))) := by
  simp only [dpopO, key?, e]
@[simp] theorem bm_dpop (k : D) : bmD .dpop (.ref a) [k] h = dpopO (h.get a) a k h := by
  cases e : h.get a with
  | none => simp only [bmD, e]; rfl
  | some o => cases o <;> (simp only [bmD, e]; rfl)
@[simp] theorem lenO_d : lenO (some (.dic kvs)) h = some (.ok (.int kvs.length), h) := id rfl
@[simp] theorem truO_d : truO (some (.dic kvs)) = some (!kvs.isEmpty) := id rfl
end
section
variable {κ α : Type} [DecidableEq κ] {kvs : List (κ × α)}
@[simp] theorem kget_nil (k : κ) : kget ([] : List (κ × α)) k = none := id rfl
theorem kget_cons (p : κ × α) (k : κ) : kget (p :: kvs) k = if p.1 = k then some p.2 else kget kvs k := by
  unfold kget
  rw [List.find?_cons]
  by_cases h : p.1 = k
  · rw [if_pos h]; simp [h]
  · rw [if_neg h]; simp [h]
theorem kget_any : ∀ (kvs : List (κ × α)) (k : κ), (kvs.any fun kv => decide (kv.1 = k)) = (kget kvs k).isSome
  | [], k => rfl
  | p :: r, k => by
    rw [List.any_cons, kget_any r k, kget_cons]
    by_cases hp : p.1 = k
    · rw [if_pos hp, decide_eq_true hp]; rfl
    · rw [if_neg hp, decide_eq_false hp]; rfl
theorem kget_map (k : κ) (v : α) (k' : κ) : ∀ kvs : List (κ × α), kget (kvs.map fun kv => if kv.1 = k then (kv.1, v) else kv) k' = if k = k' ∧ (kget kvs k').isSome = true then some v else kget kvs k'
  | [] => by simp
  | p :: r => by
    rw [List.map_cons, kget_cons, kget_cons, kget_map k v k' r]
    by_cases hp : p.1 = k
    · rw [if_pos hp]
      dsimp only
      by_cases hk : k = k'
      · rw [if_pos (hp.trans hk), if_pos (hp.trans hk), if_pos ⟨hk, rfl⟩]
      · rw [if_neg (fun z => hk (hp.symm.trans z)), if_neg (fun z => hk (hp.symm.trans z)), if_neg (fun z => hk z.1)]
    · rw [if_neg hp]
      by_cases hk : p.1 = k'
      · rw [if_pos hk, if_pos hk, if_neg (fun z => hp (hk.trans z.1.symm))]
      · rw [if_neg hk, if_neg hk]
theorem kget_snoc (k : κ) (v : α) (k' : κ) : ∀ kvs : List (κ × α), kget (kvs ++ [(k, v)]) k' = if (kget kvs k').isSome = true then kget kvs k' else if k = k' then some v else none
  | [] => by rw [List.nil_append, kget_cons]; simp
  | p :: r => by
    rw [List.cons_append, kget_cons, kget_cons, kget_snoc k v k' r]
    by_cases hp : p.1 = k'
    · rw [if_pos hp, if_pos hp]; rfl
    · rw [if_neg hp, if_neg hp]
theorem kget_kput (kvs : List (κ × α)) (k k' : κ) (v : α) : kget (kput kvs k v) k' = if k = k' then some v else kget kvs k' := by
  unfold kput
  rw [kget_any]
  by_cases hs : (kget kvs k).isSome = true
  · rw [if_pos hs, kget_map]
    by_cases hk : k = k'
    · subst hk; rw [if_pos ⟨rfl, hs⟩, if_pos rfl]
    · rw [if_neg (fun z => hk z.1), if_neg hk]
  · rw [if_neg hs, kget_snoc]
    by_cases hk : k = k'
    · subst hk; rw [if_neg hs, if_pos rfl, if_pos rfl]
    · rw [if_neg hk, if_neg hk]
      by_cases h2 : (kget kvs k').isSome = true
      · rw [if_pos h2]
      · rw [if_neg h2]
        cases e : kget kvs k' with
        | none => rfl
        | some v => rw [e] at h2; exact absurd rfl h2
theorem kget_kdrop (k k' : κ) : ∀ kvs : List (κ × α), kget (kdrop kvs k) k' = if k = k' then none else kget kvs k'
  | [] => by simp [kdrop]
  | p :: r => by
    have ih := kget_kdrop k k' r
    unfold kdrop at ih ⊢
    rw [List.filter_cons]
    by_cases hp : p.1 = k
    · rw [if_neg (by simpa using hp), ih, kget_cons]
      by_cases hk : k = k'
      · rw [if_pos hk, if_pos hk]
      · rw [if_neg hk, if_neg hk, if_neg (fun z => hk (hp.symm.trans z))]
    · rw [if_pos (by simpa using hp), kget_cons, kget_cons, ih]
      by_cases hk : k = k'
      · subst hk; rw [if_neg hp, if_pos rfl, if_pos rfl]
      · rw [if_neg hk, if_neg hk]
theorem kput_len (kvs : List (κ × α)) (k : κ) (v : α) : (kput kvs k v).length ≤ kvs.length + 1 := by
  unfold kput
  split <;> simp
theorem kdrop_len (kvs : List (κ × α)) (k : κ) : (kdrop kvs k).length ≤ kvs.length := List.length_filter_le ..
end
/-! ### texts -/
section
variable {h : Hm} {s z : Str} {i k : Int}
@[simp] theorem len_str (c : s.length ≤ 1000000) : biD .len [.str s] h = some (.ok (.int s.length), h) := if_pos c
@[simp] theorem b_addS {t : Str} (c : s.length + t.length ≤ 1000000) : binD .add (.str s) (.str t) h = some (.ok (.str (s ++ t)), h) := if_pos c
@[simp] theorem b_mulS (c : s.length = 1 ∧ 2 ≤ k ∧ k ≤ 10000) : binD .mul (.str s) (.int k) h = some (.ok (.str (repS s k)), h) := if_pos c
@[simp] theorem slc_str {lo hi : Option Int} (c : z.length ≤ 1000000) : slcD (.str z) lo hi h = some (.ok (.str (cutT z lo hi)), h) := if_pos c
theorem idx_str (c : z.length ≤ 1000000) {x : Nat} (e : atD z.cps.toList i = some x) : idxD (.str z) (.int i) h = some (.str ⟨#[x]⟩) := by
  show (if z.length ≤ 1000000 then (atD z.cps.toList i).map _ else none) = _
  rw [if_pos c, e]; rfl
@[simp] theorem bi_str (c : -(2 ^ 250) < i ∧ i < 2 ^ 250) : biD .str [.int i] h = some (.ok (.str (Str.ofString (toString i))), h) := if_pos c
theorem bi_intS {n : Int} (c : s.length ≤ 640) (e : intText? s = some n) : biD .int [.str s] h = some (.ok (.int n), h) := by
  simp only [biD, e]
  exact if_pos c
@[simp] theorem walk_str : walk .seq [.str z] h = some (z.cps.toList.map fun c => .str ⟨#[c]⟩, []) := id rfl
@[simp] theorem find_str {y : Str} : bmD .find (.str z) [.str y] h = some (.ok (.int (PySem.Txt.find z y)), h) := id rfl
@[simp] theorem rcv_find : rcv .find (.str z) h = true := id rfl
end
theorem str_app_len (s t : Str) : (s ++ t).length = s.length + t.length := by
  show (s.cps ++ t.cps).size = _
  rw [Array.size_append]; rfl
theorem cutT_len (z : Str) (lo hi : Option Int) : (cutT z lo hi).length ≤ z.length := by
  unfold cutT Str.length
  simp
  omega
theorem num_len (i : Int) (h : i.natAbs < 2 ^ 250) : (Str.ofString (toString i)).length ≤ 1921 := by
  refine PyProof.Rows.int_text_len_1921 ?_
  by_cases h0 : i.natAbs = 0
  · rw [h0]; decide
  · have := (Nat.log2_lt h0 (k := 250)).mpr h
    omega
theorem ints_map : ∀ us : List Int, ints? (us.map D.int) = some us
  | [] => rfl
  | x :: xs => by simp only [List.map_cons, ints?, ints_map xs, Option.map_some]
theorem bi_sum {a : Nat} {us : List Int} {h : Hm} (e : h.get a = some (.lst (us.map D.int))) : biD .sum [.ref a] h = some (.ok (.int us.sum), h) := by
  simp only [biD, lstOf, e, ints_map]; rfl
theorem concat_cases {α : Type} (xs : List α) (h : xs ≠ []) : ∃ ys y, xs = ys ++ [y] := ⟨xs.dropLast, xs.getLast h, (List.dropLast_concat_getLast h).symm⟩
theorem range_at {α : Type} (f : Nat → α) (n i : Nat) (hi : i < n) : atD ((List.range n).map f) (i : Int) = some (f i) := by
  rw [atD_nat, List.getElem?_map, List.getElem?_range hi]; rfl
theorem range_last {α : Type} (f : Nat → α) (n : Nat) : atD ((List.range (n + 1)).map f) (-1) = some (f n) := by
  rw [List.range_succ, List.map_append]; exact atD_last _ _
def repO (o : Option O) (k : Int) (h : Hm) : Res D := match o with
  | some (.lst xs) => if rng62 k ∧ xs.length * k.toNat ≤ 1000000 then some (.ok (.ref h.next), h.new (.lst (List.replicate k.toNat xs).flatten)) else none
  | _ => none
@[simp] theorem repO_l {xs : List D} {k : Int} {h : Hm} (c : (-(2 ^ 62) ≤ k ∧ k < 2 ^ 62) ∧ xs.length * k.toNat ≤ 1000000) : repO (some (.lst xs)) k h = some (.ok (.ref h.next), h.new (.lst (List.replicate k.toNat xs).flatten)) := if_pos c
@[simp] theorem rep_ref {a : Nat} {k : Int} {h : Hm} : binD .mul (.ref a) (.int k) h = repO (h.get a) k h := by
  cases e : h.get a with
  | none => simp only [binD, e]; rfl
  | some o => cases o <;> (simp only [binD, e]; rfl)
theorem ex_for_eq {P : Prog} {cl : Cl} {g : Tg} {k : ItK} {es : Es} {body : S} {env : Env} {h h1 : Hm} {vs items : List D} {gd : List (Nat × O)} (he : evs P cl es env h = some (.ok vs, h1)) (hw : walk k vs h1 = some (items, gd)) :
    ex P cl (.for_ g k es body) env h = forL (fun e1 h2 => ex P cl body e1 h2) g gd items env h1 := by rw [ex_for, he, toSI_ok, hw, walkI_some]
theorem strs_map : ∀ us : List Str, strs? (us.map D.str) = some us
  | [] => rfl
  | x :: xs => by simp only [List.map_cons, strs?, strs_map xs, Option.map_some]
theorem bm_join {z : Str} {a : Nat} {ys : List Str} {h : Hm} (e : h.get a = some (.lst (ys.map D.str))) (c : (ys.map (·.length)).sum + ys.length * z.length ≤ 16777216) : bmD .join (.str z) [.ref a] h = some (.ok (.str (PySem.Txt.join z ys)), h) := by
  simp only [bmD, seqOf, e, strs_map]
  exact if_pos c
@[simp] theorem rcv_join {z : Str} {h : Hm} : rcv .join (.str z) h = true := id rfl
@[simp] theorem rcv_split {z : Str} {h : Hm} : rcv .split (.str z) h = true := id rfl
@[simp] theorem rcv_part {z : Str} {h : Hm} : rcv .partition (.str z) h = true := id rfl
theorem bm_split {z y : Str} {h : Hm} (c : (y.length == 0) = false ∧ z.length ≤ 1000000) : bmD .split (.str z) [.str y] h = some (.ok (.ref h.next), h.new (.lst ((PySem.Txt.split z y).map .str))) := if_pos c
theorem bm_part {z y : Str} {h : Hm} (c : (y.length == 0) = false ∧ z.length ≤ 1000000) : bmD .partition (.str z) [.str y] h = some (.ok (.tup [.str (PySem.Txt.partition z y).1, .str (PySem.Txt.partition z y).2.1, .str (PySem.Txt.partition z y).2.2]), h) := if_pos c
@[simp] theorem isTn_sb : isTn "str" .bool = false := by decide
@[simp] theorem isTn_si : isTn "str" .int = false := by decide
@[simp] theorem isTn_is : isTn "int" .str = false := by decide
theorem join_le (y : Str) (ps : List Str) : (Txt.join y ps).length ≤ (ps.map (·.length)).sum + ps.length * y.length := by
  cases ps with
  | nil => exact Nat.zero_le _
  | cons a l =>
    have key : ∀ (l : List Str) (acc : Array Nat), (List.foldl (fun acc (p : Str) => acc ++ y.cps ++ p.cps) acc l).size = acc.size + (l.map (·.length)).sum + l.length * y.length := by
      intro l
      induction l with
      | nil => intro acc; simp
      | cons p r ih =>
        intro acc
        rw [List.foldl_cons, ih, Array.size_append, Array.size_append, List.map_cons, List.sum_cons, List.length_cons, Nat.succ_mul]
        show acc.size + y.length + p.length + _ + _ = _
        omega
    have := key l a.cps
    show (List.foldl (fun acc (p : Str) => acc ++ y.cps ++ p.cps) a.cps l).size ≤ _
    rw [this, List.map_cons, List.sum_cons, List.length_cons, Nat.succ_mul]
    show a.length + _ + _ ≤ _
    omega
/-! ### comprehensions whose elements are known as data -/
theorem mapO_snoc {α β : Type} (f : α → Option β) (x : α) (y : β) : ∀ (xs : List α) (ys : List β), mapO f xs = some ys → f x = some y → mapO f (xs ++ [x]) = some (ys ++ [y])
  | [], ys, e, h => by cases e; exact mapO_cons f x [] h rfl
  | z :: xs, ys, e, h => by
    simp only [mapO] at e
    cases e1 : f z with
    | none => rw [e1] at e; cases e
    | some u =>
      cases e2 : mapO f xs with
      | none => rw [e1, e2] at e; cases e
      | some us =>
        rw [e1, e2] at e
        cases e
        exact mapO_cons f z (xs ++ [x]) e1 (mapO_snoc f x y xs us e2 h)
theorem compL_datA {α : Type} {fe : Env → Hm → Res D} {ft : Env → Hm → Res Bool} {g : Tg} {gd : List (Nat × O)} {env : Env} {h : Hm} (A : α → D) (pd : α → PyData) (nn : Nat) (hgd : ∀ h', Gro h h' → stays gd h') : ∀ (cs : List α) (acc : List D) (pacc : List PyData) (h1 : Hm),
    (∀ c ∈ cs, ∃ env1, asgT g (A c) env = some env1 ∧ ∀ h', Gro h h' → h.next < h'.next → ft env1 h' = some (.ok true, h') ∧ ∃ e h'', fe env1 h' = some (.ok e, h'') ∧ Gro h' h'' ∧ ∀ h3, (∀ b, h'.next ≤ b → b < h''.next → h3.get b = h''.get b) → dat h3 nn e = some (pd c)) →
    Gro h h1 → h.next < h1.next → h1.get h.next = some (.lst acc) → (∀ h3, (∀ b, h.next < b → b < h1.next → h3.get b = h1.get b) → mapO (dat h3 nn) acc = some pacc) → acc.length + cs.length ≤ 1000000 →
    ∃ h' es, compL fe ft g gd h.next env (cs.map A) h1 = some (.ok (.ref h.next), h') ∧ Gro h h' ∧ h.next < h'.next ∧ h'.get h.next = some (.lst es) ∧ ∀ h3, (∀ b, h.next < b → b < h'.next → h3.get b = h'.get b) → mapO (dat h3 nn) es = some (pacc ++ cs.map pd)
  | [], acc, pacc, h1, hx, g1, n1, ha, hp, hl => ⟨h1, acc, by rw [List.map_nil, compL_nil (hgd h1 g1)], g1, n1, ha, fun h3 hh => by rw [List.map_nil, List.append_nil]; exact hp h3 hh⟩
  | x :: xs, acc, pacc, h1, hx, g1, n1, ha, hp, hl => by
    obtain ⟨env1, e1, e2⟩ := hx x (List.mem_cons_self ..)
    obtain ⟨e3, el, h2, e4, g2, hd⟩ := e2 h1 g1 n1
    have hlt : acc.length < lim := by unfold lim; rw [List.length_cons] at hl; omega
    have ha2 : h2.get h.next = some (.lst acc) := (g2.at_ _ n1).trans ha
    have hle := g2.le
    obtain ⟨h', es, i1, i2, i3, i4, i5⟩ := compL_datA A pd nn hgd xs (acc ++ [el]) (pacc ++ [pd x]) (h2.put h.next (.lst (acc ++ [el]))) (fun y hy => hx y (List.mem_cons_of_mem _ hy)) ((g1.trans g2).put (Nat.le_refl _)) (by rw [put_next]; omega) (by rw [put_get, if_pos rfl])
      (fun h3 hh => by
        refine mapO_snoc _ _ _ _ _ (hp h3 fun b hb hb2 => ?_) (hd h3 fun b hb hb2 => ?_)
        · rw [hh b hb (by rw [put_next]; omega), put_get_ne (by omega)]; exact g2.at_ b hb2
        · rw [hh b (by omega) (by rw [put_next]; exact hb2), put_get_ne (by omega)])
      (by rw [List.length_append]; rw [List.length_cons] at hl; simp; omega)
    refine ⟨h', es, ?_, i2, i3, i4, fun h3 hh => by rw [i5 h3 hh, List.map_cons, List.append_assoc]; rfl⟩
    rw [List.map_cons]
    unfold compL
    rw [if_pos (hgd h1 g1), e1]
    simp only [e3, e4, bndN_ok, if_true, ha2, hlt]
    exact i1
theorem compL_dat {α : Type} {fe : Env → Hm → Res D} {ft : Env → Hm → Res Bool} {g : Tg} {gd : List (Nat × O)} {env : Env} {h : Hm} {cs : List α} (A : α → D) (pd : α → PyData) (nn : Nat) (hgd : ∀ h', Gro h h' → stays gd h')
    (hx : ∀ c ∈ cs, ∃ env1, asgT g (A c) env = some env1 ∧ ∀ h', Gro h h' → h.next < h'.next → ft env1 h' = some (.ok true, h') ∧ ∃ e h'', fe env1 h' = some (.ok e, h'') ∧ Gro h' h'' ∧ ∀ h3, (∀ b, h'.next ≤ b → b < h''.next → h3.get b = h''.get b) → dat h3 nn e = some (pd c)) (hl : cs.length ≤ 1000000) :
    ∃ h' es, compL fe ft g gd h.next env (cs.map A) (h.new (.lst [])) = some (.ok (.ref h.next), h') ∧ Gro h h' ∧ h.next < h'.next ∧ h'.get h.next = some (.lst es) ∧ ∀ h3, (∀ b, h.next < b → b < h'.next → h3.get b = h'.get b) → mapO (dat h3 nn) es = some (cs.map pd) :=
  compL_datA A pd nn hgd cs [] [] _ hx .new (Nat.lt_succ_self _) (by rw [new_get, if_pos rfl]) (fun _ _ => rfl) (by simpa using hl)
end Z

set_option maxRecDepth 100000
set_option maxHeartbeats 2000000
/-! ZQ: simp rules for walks of dicts, tuple keys, [::-1], C() of a class without __init__, isinstance of own classes. -/
namespace Z
open PySem
set_option checkBinderAnnotations false
section
variable {P : Prog} {cl : Cl} {env : Env} {h : Hm} {β : Type} {a : Nat} {kvs : List (L2.Key × D)} {kts : List (List L2.Key × D)} {xs : List D}
def lckG (m : Option O) [f : O → O → Option β] : Option β := match m with
  | some o => (match lckO o with
    | some o' => f o o'
    | none => none)
  | none => none
def lckI (m : Option (Option D)) (h : Hm) [f : Nat → O → O → Option β] : Option β := match m with
  | some (some (.ref a)) => @lckG β (h.get a) (f a)
  | _ => none
@[simp] theorem lckI_ref (f : Nat → O → O → Option β) : @lckI β (some (some (.ref a))) h f = @lckG β (h.get a) (f a) := id rfl
@[simp] theorem lckG_d (f : O → O → Option β) : @lckG β (some (.dic kvs)) f = f (.dic kvs) (.fzd kvs) := id rfl
@[simp] theorem lckG_t (f : O → O → Option β) : @lckG β (some (.dit kts)) f = f (.dit kts) (.fzt kts) := id rfl
@[simp] theorem frzO_d : frzO (some (.fzd kvs)) = true := id rfl
@[simp] theorem frzO_t : frzO (some (.fzt kts)) = true := id rfl
@[simp] theorem ev_lck (i : Nat) (e : E) : ev P cl (.lck i e) env h = @lckI _ env[i]? h fun a o o' => @bndNI _ _ (ev P cl e env (h.put a o')) fun x h2 => if frzO (h2.get a) = true then ok x (h2.put a o) else none := by
  rw [ev]; unfold lckI lckG bndNI
  cases env[i]? with
  | none => rfl
  | some m =>
    cases m with
    | none => rfl
    | some d => cases d <;> rfl
def lckS (m : Out) (a : Nat) (o : O) : Out := match m with
  | some (.nx, env2, h2) => if frzO (h2.get a) = true then some (.nx, env2, h2.put a o) else none
  | some (.rt d, env2, h2) => if frzO (h2.get a) = true then some (.rt d, env2, h2.put a o) else none
  | _ => none
@[simp] theorem lckS_nx {h2 : Hm} {env2 : Env} {o : O} (c : frzO (h2.get a) = true) : lckS (some (.nx, env2, h2)) a o = some (.nx, env2, h2.put a o) := if_pos c
@[simp] theorem lckS_rt {h2 : Hm} {env2 : Env} {o : O} {d : D} (c : frzO (h2.get a) = true) : lckS (some (.rt d, env2, h2)) a o = some (.rt d, env2, h2.put a o) := if_pos c
@[simp] theorem ex_lck (i : Nat) (s : S) : ex P cl (.lck i s) env h = @lckI _ env[i]? h fun a o o' => lckS (ex P cl s env (h.put a o')) a o := by
  have key : ∀ m : Option (Option D), (match m with
    | some (some (.ref a)) => (match h.get a with
      | some o => (match lckO o with
        | some o' => lckS (ex P cl s env (h.put a o')) a o
        | none => none)
      | none => none)
    | _ => none) = @lckI _ m h fun a o o' => lckS (ex P cl s env (h.put a o')) a o := fun m => by
    cases m with
    | none => rfl
    | some m => cases m with
      | none => rfl
      | some d => cases d <;> rfl
  rw [← key, ex]
  cases env[i]? with
  | none => rfl
  | some m =>
    cases m with
    | none => rfl
    | some d =>
      cases d with
      | ref a =>
        cases h.get a with
        | none => rfl
        | some o =>
          dsimp only
          cases lckO o with
          | none => rfl
          | some o' =>
            try dsimp only
            unfold lckS
            cases ex P cl s env (h.put a o') with
            | none => rfl
            | some r =>
              obtain ⟨fl, _, _⟩ := r
              cases fl <;> rfl
      | _ => rfl
theorem ex_lck_nx {i : Nat} {s : S} {o o' : O} {env2 : Env} {h2 : Hm} (he : env[i]? = some (some (.ref a))) (ho : h.get a = some o) (hl : lckO o = some o') (e : ex P cl s env (h.put a o') = some (.nx, env2, h2)) (hf : frzO (h2.get a) = true) :
    ex P cl (.lck i s) env h = some (.nx, env2, h2.put a o) := by
  rw [ex_lck, he, lckI_ref, ho]
  unfold lckG
  simp only [hl, e]
  exact if_pos hf
@[simp] theorem ev_rsl (e : E) : ev P cl (.rsl e) env h = @bndI _ _ (ev P cl e env h) fun x h1 => @someI _ _ (lstOf x h1) fun xs => ok (.ref h1.next) (h1.new (.lst xs.reverse)) := by
  rw [ev]
  refine congrArg (bnd _) (funext fun x => funext fun h1 => ?_)
  cases lstOf x h1 <;> rfl
@[simp] theorem ev_dictT : ev P cl .dictT env h = ok (.ref h.next) (h.new (.dit [])) := by rw [ev]
@[simp] theorem ev_dgtT (e : E) (es : Es) : ev P cl (.dgtT e es) env h = @bndI _ _ (ev P cl e env h) fun x h1 => @bndI _ _ (evs P cl es env h1) fun ks h2 => (match x with
    | .ref p => if ks.length ≤ 1000000 then dgtO (dgetT h2 p ks) h2 else none
    | _ => none) := by rw [ev] <;> rfl
def gotO (m : Option (Option D)) (d : D) (h : Hm) : Res D := match m with
  | some (some v) => ok v h
  | some none => ok d h
  | none => none
@[simp] theorem gotO_s (m : Option D) (d : D) : gotO (some m) d h = some (.ok (m.getD d), h) := by cases m <;> rfl
def isTO (o : Option O) : Bool := match o with
  | some (.dit _) => true
  | some (.fzt _) => true
  | _ => false
@[simp] theorem isTO_d : isTO (some (.dit kts)) = true := id rfl
@[simp] theorem isTO_z : isTO (some (.fzt kts)) = true := id rfl
@[simp] theorem ev_getT (e : E) (es : Es) (d : Cst) : ev P cl (.getT e es d) env h = @bndI _ _ (ev P cl e env h) fun x h1 => (match x with
    | .ref p => if isTO (h1.get p) = true then @bndI _ _ (evs P cl es env h1) fun ks h2 => if ks.length ≤ 1000000 then gotO (dgetT h2 p ks) d.d h2 else none else none
    | _ => none) := by
  rw [ev]
  refine congrArg (bnd _) (funext fun x => funext fun h1 => ?_)
  cases x with
  | ref p =>
    dsimp only [dgetT]
    cases h1.get p with
    | none => rfl
    | some o => cases o <;> rfl
  | _ => rfl
def dtO (o : Option O) (ks : List D) : Option (Option D) := match o with
  | some (.dit kvs) => (keys? ks).map fun q => kget kvs q
  | some (.fzt kvs) => (keys? ks).map fun q => kget kvs q
  | _ => none
@[simp] theorem dtO_d (ks : List D) : dtO (some (.dit kts)) ks = (keys? ks).map fun q => kget kts q := id rfl
@[simp] theorem dtO_z (ks : List D) : dtO (some (.fzt kts)) ks = (keys? ks).map fun q => kget kts q := id rfl
@[simp] theorem dgetT_eq (ks : List D) : dgetT h a ks = dtO (h.get a) ks := by
  unfold dgetT dtO
  cases h.get a with
  | none => rfl
  | some o => cases o <;> rfl
@[simp] theorem keys_nil : keys? [] = some [] := id rfl
@[simp] theorem keys_ii (i j : Int) : keys? [.int i, .int j] = some [.inl i, .inl j] := id rfl
def dptO (o : Option O) (h : Hm) (a : Nat) (ks : List D) (v : D) : Option Hm := match o with
  | some (.dit kvs) => if kvs.length < 1000000 then (keys? ks).map fun q => h.put a (.dit (kput kvs q v)) else none
  | _ => none
@[simp] theorem dptO_d (ks : List D) (v : D) (c : kts.length < 1000000) : dptO (some (.dit kts)) h a ks v = (keys? ks).map fun q => h.put a (.dit (kput kts q v)) := if_pos c
@[simp] theorem dputT_eq (ks : List D) (v : D) : dputT h a ks v = dptO (h.get a) h a ks v := by
  unfold dputT dptO
  cases h.get a with
  | none => rfl
  | some o => cases o <;> rfl
@[simp] theorem ex_dputT (o : E) (es : Es) (e : E) : ex P cl (.dputT o es e) env h = @toSI _ (ev P cl e env h) env fun x h1 => @toSI _ (ev P cl o env h1) env fun y h2 => @toSI _ (evs P cl es env h2) env fun ks h3 => (match y with
    | .ref p => if ks.length ≤ 1000000 then @someI _ _ (dputT h3 p ks x) fun h4 => nxt env h4 else none
    | _ => none) := by
  rw [ex]
  refine congrArg (toS _ _) (funext fun x => funext fun h1 => ?_)
  refine congrArg (toS _ _) (funext fun y => funext fun h2 => ?_)
  refine congrArg (toS _ _) (funext fun ks => funext fun h3 => ?_)
  cases y with
  | ref p =>
    show (if ks.length ≤ lim then _ else none) = if ks.length ≤ lim then _ else none
    cases dputT h3 p ks x <;> rfl
  | _ => rfl
@[simp] theorem ev_new0 (c : String) : ev P cl (.new0 c) env h = ok (.ref h.next) (h.new (.ins c [])) := by rw [ev]
@[simp] theorem ev_isc (e : E) (c : String) : ev P cl (.isc e c) env h = @bndI _ _ (ev P cl e env h) fun x h1 => (match x with
    | .ref p => @insB _ (h1.get p) fun c1 _ => liftO ((P.sub c1 c).map .bl) h1
    | _ => none) := by rw [ev] <;> rfl
def wkO (o : Option O) : Option (List D × List (Nat × O)) := match o with
  | some (.fzd kvs) => some (kvs.map fun kv => keyD kv.1, [])
  | some (.fzt kvs) => some (kvs.map fun kv => .tup (kv.1.map keyD), [])
  | _ => none
@[simp] theorem wkO_d : wkO (some (.fzd kvs)) = some (kvs.map fun kv => keyD kv.1, []) := id rfl
@[simp] theorem wkO_t : wkO (some (.fzt kts)) = some (kts.map fun kv => .tup (kv.1.map keyD), []) := id rfl
@[simp] theorem walk_keys : walk .keys [.ref a] h = wkO (h.get a) := by
  cases e : h.get a with
  | none => simp only [walk, e]; rfl
  | some o => cases o <;> (simp only [walk, e]; rfl)
def wiO (o : Option O) : Option (List D × List (Nat × O)) := match o with
  | some (.fzd kvs) => some (kvs.map fun kv => .tup [keyD kv.1, kv.2], [])
  | _ => none
@[simp] theorem wiO_d : wiO (some (.fzd kvs)) = some (kvs.map fun kv => .tup [keyD kv.1, kv.2], []) := id rfl
@[simp] theorem walk_items : walk .items [.ref a] h = wiO (h.get a) := by
  cases e : h.get a with
  | none => simp only [walk, e]; rfl
  | some o => cases o <;> (simp only [walk, e]; rfl)
def wvO (o : Option O) : Option (List D × List (Nat × O)) := match o with
  | some (.fzd kvs) => some (kvs.map fun kv => kv.2, [])
  | _ => none
@[simp] theorem wvO_d : wvO (some (.fzd kvs)) = some (kvs.map fun kv => kv.2, []) := id rfl
@[simp] theorem walk_vals : walk .vals [.ref a] h = wvO (h.get a) := by
  cases e : h.get a with
  | none => simp only [walk, e]; rfl
  | some o => cases o <;> (simp only [walk, e]; rfl)
@[simp] theorem inRO_z (x : D) : inRO x (some (.fzd kvs)) = ((key? x).map fun q => kget kvs q).map Option.isSome := id rfl
@[simp] theorem keyD_l (i : Int) : keyD (.inl i) = .int i := id rfl
@[simp] theorem keyD_r (i : Str) : keyD (.inr i) = .str i := id rfl
end
/-- a comprehension with a test that changes nothing -/
theorem compL_filA {α : Type} {fe : Env → Hm → Res D} {ft : Env → Hm → Res Bool} {g : Tg} {gd : List (Nat × O)} {a : Nat} {env : Env} (A F : α → D) (p : α → Bool) (G : Hm → Prop) (hs : ∀ h, G h → stays gd h) (hp : ∀ h o, G h → G (h.put a o)) : ∀ (cs : List α) (acc : List D) (h : Hm),
    (∀ x ∈ cs, ∃ env1, asgT g (A x) env = some env1 ∧ ∀ h, G h → ft env1 h = some (.ok (p x), h) ∧ (p x = true → fe env1 h = some (.ok (F x), h))) → G h → h.get a = some (.lst acc) → acc.length + cs.length ≤ 1000000 →
    compL fe ft g gd a env (cs.map A) h = some (.ok (.ref a), h.put a (.lst (acc ++ (cs.filter p).map F)))
  | [], acc, h, hx, g0, ha, hl => by rw [List.map_nil, compL_nil (hs h g0), List.filter_nil, List.map_nil, List.append_nil, put_self ha]
  | x :: xs, acc, h, hx, g0, ha, hl => by
    obtain ⟨env1, e1, e2⟩ := hx x (List.mem_cons_self ..)
    obtain ⟨e3, e4⟩ := e2 h g0
    rw [List.length_cons] at hl
    rw [List.map_cons]
    unfold compL
    rw [if_pos (hs h g0), e1]
    cases hb : p x with
    | false =>
      rw [List.filter_cons, hb]
      simp only [e3, hb, bndN_ok]
      exact compL_filA A F p G hs hp xs acc h (fun y hy => hx y (List.mem_cons_of_mem _ hy)) g0 ha (by omega)
    | true =>
      have hlt : acc.length < lim := by unfold lim; omega
      rw [List.filter_cons, hb, if_pos rfl, List.map_cons]
      simp only [e3, hb, e4 hb, bndN_ok, if_true, ha, hlt]
      rw [compL_filA A F p G hs hp xs (acc ++ [F x]) _ (fun y hy => hx y (List.mem_cons_of_mem _ hy)) (hp _ _ g0) (by rw [put_get, if_pos rfl]) (by rw [List.length_append]; simp; omega), put_put, List.append_assoc]
      rfl
theorem compL_fil {α : Type} {fe : Env → Hm → Res D} {ft : Env → Hm → Res Bool} {g : Tg} {gd : List (Nat × O)} {env : Env} {h : Hm} {cs : List α} {a : Nat} (A F : α → D) (p : α → Bool) (G : Hm → Prop) (ea : a = h.next) (hs : ∀ h, G h → stays gd h) (hp : ∀ h' o, G h' → G (h'.put a o))
    (hx : ∀ x ∈ cs, ∃ env1, asgT g (A x) env = some env1 ∧ ∀ h, G h → ft env1 h = some (.ok (p x), h) ∧ (p x = true → fe env1 h = some (.ok (F x), h))) (g0 : G (h.new (.lst []))) (hl : cs.length ≤ 1000000) :
    compL fe ft g gd a env (cs.map A) (h.new (.lst [])) = some (.ok (.ref a), h.new (.lst ((cs.filter p).map F))) := by
  subst ea
  rw [compL_filA A F p G hs hp cs [] _ hx g0 (by rw [new_get, if_pos rfl]) (by simpa using hl), new_put]; rfl
theorem asgS {r : Res D} {v : D} {R : Hm → Prop} {env : Env} {f : D → Hm → Out} (e : ∃ g, r = some (.ok v, g) ∧ R g) : ∃ g, @toSI _ r env f = f v g ∧ R g := by
  obtain ⟨g, rfl, h⟩ := e
  exact ⟨g, rfl, h⟩
/-- a loop's body -/
def S.bd : S → S
  | .for_ _ _ _ b => b
  | .wh _ b => b
  | .lck _ (.for_ _ _ _ b) => b
  | s => s
def dicO (o : Option O) (h : Hm) : Res D := match o with
  | some (.dic kvs) => ok (.ref h.next) (h.new (.dic kvs))
  | _ => none
@[simp] theorem dicO_d {kvs : List (L2.Key × D)} {h : Hm} : dicO (some (.dic kvs)) h = some (.ok (.ref h.next), h.new (.dic kvs)) := id rfl
@[simp] theorem bi_dict {a : Nat} {h : Hm} : biD .dict [.ref a] h = dicO (h.get a) h := by
  cases e : h.get a with
  | none => simp only [biD, e]; rfl
  | some o => cases o <;> (simp only [biD, e]; rfl)
@[simp] theorem in_tupT (is own : List Nat) : Tg.in_ (.tup is) own = is.all own.contains := id rfl
section
variable {P : Prog} {cl : Cl} {env : Env} {h : Hm}
@[simp] theorem ex_par (i j : Nat) (es : Es) : ex P cl (.par i j es) env h = @toSI _ (evs P cl es env h) env fun vs h1 => (match vs with
    | [x, y] => nxt ((env.set i (some x)).set j (some y)) h1
    | _ => none) := by rw [ex]; rfl
/-- a try whose body comes to its end -/
theorem ex_try_nx {b s : S} {c : String} {x : Option Nat} {env2 : Env} {h2 : Hm} (e : ex P cl b env h = some (.nx, env2, h2)) : ex P cl (.try_ b c x s) env h = some (.nx, env2, h2) := by rw [ex, e]
/-- a try whose body's error is caught -/
theorem ex_try_ex {b s : S} {c k : String} {env2 env3 : Env} {h2 h3 : Hm} (e : ex P cl b env h = some (.ex k, env2, h2)) (hk : P.exm k c = some true) (e2 : ex P cl s env2 h2 = some (.nx, env3, h3)) : ex P cl (.try_ b c none s) env h = some (.nx, env3, h3) := by
  rw [ex, e]
  simp only [hk, e2]
def walkZ (o o' : Option O) (a b : Nat) : Option (List D × List (Nat × O)) := match o, o' with
  | some (.lst xs), some (.lst ys) => some ((xs.zip ys).map fun p => .tup [p.1, p.2], [(a, .lst xs), (b, .lst ys)])
  | _, _ => none
@[simp] theorem walkZ_l {xs ys : List D} {a b : Nat} : walkZ (some (.lst xs)) (some (.lst ys)) a b = some ((xs.zip ys).map fun p => .tup [p.1, p.2], [(a, .lst xs), (b, .lst ys)]) := id rfl
@[simp] theorem walk_zip {a b : Nat} : walk .zip [.ref a, .ref b] h = walkZ (h.get a) (h.get b) a b := by
  cases e : h.get a with
  | none => simp only [walk, e]; rfl
  | some o =>
    cases e2 : h.get b with
    | none => simp only [walk, e, e2]; cases o <;> rfl
    | some o2 => simp only [walk, e, e2]; cases o <;> cases o2 <;> rfl
end
/-- a loop that only reads, left at the first c with p c -/
theorem findF {α : Type} {fb : Env → Hm → Out} {g : Tg} {gd : List (Nat × O)} {cs : List α} (Q : Out → Prop) (A : α → D) (p : α → Bool) (E : Env → Prop) {env : Env} {h : Hm} {k : Env → Hm → Out} (e0 : E env) (hs : stays gd h)
    (go : ∀ c ∈ cs, p c = false → ∀ env, E env → ∃ env1, asgT g (A c) env = some env1 ∧ ∃ env2, fb env1 h = some (.nx, env2, h) ∧ E env2)
    (out : ∀ c, cs.find? p = some c → ∀ env, E env → ∃ env1, asgT g (A c) env = some env1 ∧ ∃ r env2, fb env1 h = some (.rt r, env2, h) ∧ Q (some (.rt r, env2, h)))
    (post : cs.find? p = none → ∀ env', E env' → Q (k env' h)) : Q (@thenSI (forL fb g gd (cs.map A) env h) k) := by
  refine relX Q A (fun d env h' => E env ∧ h' = h ∧ ∀ c ∈ d, p c = false) ⟨e0, rfl, fun c hc => by cases hc⟩ (fun d env h' i => i.2.1 ▸ hs) ?_ ?_
  · rintro d c rest env h' e ⟨i1, rfl, i3⟩
    have hc : c ∈ cs := by rw [e]; simp
    cases hp : p c with
    | false =>
      obtain ⟨env1, e1, env2, e2, e3⟩ := go c hc hp env i1
      refine ⟨env1, e1, Or.inl ⟨env2, h', e2, e3, rfl, fun z hz => ?_⟩⟩
      rcases List.mem_append.mp hz with hz | hz
      · exact i3 z hz
      · rw [List.mem_singleton.mp hz]; exact hp
    | true =>
      have hf : cs.find? p = some c := by
        have hn : d.find? p = none := List.find?_eq_none.mpr fun x hx => by rw [i3 x hx]; exact Bool.false_ne_true
        rw [e, List.find?_append, hn, List.find?_cons, hp]; rfl
      obtain ⟨env1, e1, r, env2, e2, q⟩ := out c hf env i1
      exact ⟨env1, e1, Or.inr ⟨r, env2, h', e2, q⟩⟩
  · rintro env' h' ⟨i1, rfl, i3⟩
    exact post (List.find?_eq_none.mpr fun x hx => by rw [i3 x hx]; exact Bool.false_ne_true) env' i1
/-- pairs of numbers -/
def prD (q : Int × Int) : D := .tup [.int q.1, .int q.2]
def prP (q : Int × Int) : PyData := .tuple [.int q.1, .int q.2]
theorem sh_pr (q : Int × Int) : SeqAt.shaped (prP q) = true := by simp [SeqAt.shaped, prP, PyData.canLay0, PyData.canLayAll0, PyData.depth, PyData.depthAll]
theorem dat_pr (h : Hm) (n : Nat) (q : Int × Int) : dat h (n + 1) (prD q) = some (prP q) := by unfold prD prP; rw [dat_tup]; simp [mapO]
theorem eqv_pr (q r : Int × Int) : PyData.eqv (prP q) (prP r) = decide (q = r) := by
  obtain ⟨a, b⟩ := q
  obtain ⟨c, d⟩ := r
  have := PySem.W.ked_eqvAll [a, b] [c, d]
  unfold prP
  rw [PyData.eqv]
  exact this.trans (by simp)
theorem ne_pr (q r : Int × Int) (h : Hm) : cmpD .ne (prD q) (prD r) h = some (!decide (q = r)) := by
  have e : cmpD .ne (prD q) (prD r) h = (eqPP (dat h 30 (prD q)) (dat h 30 (prD r))).map fun b => !b := rfl
  rw [e, dat_pr, dat_pr]
  simp only [eqPP, sh_pr, Bool.and_self, if_true, eqv_pr, Option.map_some]
theorem eq_pr (q r : Int × Int) (h : Hm) : cmpD .eq (prD q) (prD r) h = some (decide (q = r)) := by
  have e : cmpD .eq (prD q) (prD r) h = eqPP (dat h 30 (prD q)) (dat h 30 (prD r)) := rfl
  rw [e, dat_pr, dat_pr]
  simp only [eqPP, sh_pr, Bool.and_self, if_true, eqv_pr]
section
variable {P : Prog} {cl : Cl} {env : Env} {h : Hm}
@[simp] theorem ev_isx (i : Nat) (c : String) : ev P cl (.isx i c) env h = (match env[i]? with
    | some (some (.exc k a)) => if P.xk = some (k, a) then liftO ((P.exs k c).map .bl) h else none
    | _ => none) := by rw [ev] <;> rfl
@[simp] theorem ev_isxB (i : Nat) (c : String) : ev P cl (.isxB i c) env h = (match env[i]? with
    | some (some (.exc k a)) => if P.xk = some (k, a) then liftO ((P.exb k c).map .bl) h else none
    | _ => none) := by rw [ev] <;> rfl
/-- a try whose body's error is caught by name -/
theorem ex_try_as {b s : S} {c k : String} {i : Nat} {env2 env3 : Env} {h2 h3 : Hm} (e : ex P cl b env h = some (.ex k, env2, h2)) (hk : P.exm k c = some true)
    (e2 : ∀ a, ∃ env4, ex { P with xk := some (k, a) } cl s (env2.set i (some (.exc k a))) h2 = some (.nx, env4, h3) ∧ env4.set i none = env3) : ex P cl (.try_ b c (some i) s) env h = some (.nx, env3, h3) := by
  rw [ex, e]
  simp only [hk]
  refine oneA_ok fun a => ?_
  obtain ⟨env4, e4, e5⟩ := e2 a
  rw [e4, ← e5]; rfl
end
end Z

set_option maxRecDepth 100000
set_option maxHeartbeats 0
namespace Z
namespace K17
open PySem PySem.Spec PyProof.Rows L2
/-! ### the text as data (printed by gen.py) -/
def top (i : Nat) : Stmt := PySem.Challenge.pw_meterhouse_k17_clash_refused.main.body.getD i (.Pass ⟨0, 0, 0, 0⟩)
-- mix ['one', 'other']
def F_mix : Fn := ⟨2, 2,
  .ret (.bin .mod (.bin .add (.bin .add (.bin .mul (.con (.int 998244353)) (.var 0)) (.bin .mul (.con (.int 1000000007)) (.var 1))) (.con (.int 97))) (.glo "MIX"))⟩
-- stamp ['numbers', 'found', 'number']
def F_stamp : Fn := ⟨1, 3,
  .seq (.asg 1 (.con (.int 1))) (.seq (.for_ (.name 2) .seq (.cons (.var 0) .nil) (.asg 1 (.call "mix" (.cons (.var 1) (.cons (.var 2) (.nil))) []))) (.ret (.call "mix" (.cons (.var 1) (.cons (.bi .len (.cons (.var 0) (.nil))) (.nil))) [])))⟩
-- pair_at ['place', 'leaf', 'aside']
def F_pair_at : Fn := ⟨3, 3,
  .seq (.ite (.cmp .eq (.bin .mod (.var 0) (.con (.int 2))) (.con (.int 0))) (.ret (.tup (.cons (.var 1) (.cons (.var 2) (.nil))))) (.skip)) (.ret (.tup (.cons (.var 2) (.cons (.var 1) (.nil)))))⟩
-- climbed ['place', 'leaf', 'way', 'found', 'aside', 'pair']
def F_climbed : Fn := ⟨3, 6,
  .seq (.asg 3 (.lst (.nil))) (.seq (.for_ (.name 4) .seq (.cons (.var 2) .nil) (.seq (.asg 5 (.call "pair_at" (.cons (.var 0) (.cons (.var 1) (.cons (.var 4) (.nil)))) [])) (.seq (.drop (.bm .append (.var 3) (.cons (.var 5) (.nil)))) (.seq (.asg 1 (.call "mix" (.cons (.idx (.var 5) (.con (.int 0))) (.cons (.idx (.var 5) (.con (.int 1))) (.nil))) [])) (.asg 0 (.bin .fdiv (.var 0) (.con (.int 2)))))))) (.ret (.var 3)))⟩
-- risen ['place', 'leaf', 'way', 'aside', 'pair']
def F_risen : Fn := ⟨3, 5,
  .seq (.for_ (.name 3) .seq (.cons (.var 2) .nil) (.seq (.asg 4 (.call "pair_at" (.cons (.var 0) (.cons (.var 1) (.cons (.var 3) (.nil)))) [])) (.seq (.asg 1 (.call "mix" (.cons (.idx (.var 4) (.con (.int 0))) (.cons (.idx (.var 4) (.con (.int 1))) (.nil))) [])) (.asg 0 (.bin .fdiv (.var 0) (.con (.int 2))))))) (.ret (.var 1))⟩
-- fits ['place', 'way', 'aside']
def F_fits : Fn := ⟨2, 3,
  .seq (.ite (.cmp .lt (.var 0) (.con (.int 0))) (.ret (.con (.bl false))) (.skip)) (.seq (.for_ (.name 2) .seq (.cons (.var 1) .nil) (.asg 0 (.bin .fdiv (.var 0) (.con (.int 2))))) (.ret (.cmp .eq (.var 0) (.con (.int 0)))))⟩
-- top_of ['paper']
def F_top_of : Fn := ⟨1, 1,
  .ret (.call "risen" (.cons (.idx (.var 0) (.con (.int 0))) (.cons (.call "stamp" (.cons (.idx (.var 0) (.con (.int 1))) (.nil)) []) (.cons (.idx (.var 0) (.con (.int 2))) (.nil)))) [])⟩
-- folded ['numbers', 'found', 'last', 'number']
def F_folded : Fn := ⟨1, 4,
  .seq (.asg 1 (.lst (.nil))) (.seq (.asg 2 (.con (.int 1))) (.seq (.for_ (.name 3) .seq (.cons (.var 0) .nil) (.seq (.drop (.bm .append (.var 1) (.cons (.tup (.cons (.var 2) (.cons (.var 3) (.nil)))) (.nil)))) (.asg 2 (.call "mix" (.cons (.var 2) (.cons (.var 3) (.nil))) [])))) (.seq (.drop (.bm .append (.var 1) (.cons (.tup (.cons (.var 2) (.cons (.bi .len (.cons (.var 0) (.nil))) (.nil)))) (.nil)))) (.ret (.var 1)))))⟩
-- pairs_down ['paper', 'upwards']
def F_pairs_down : Fn := ⟨1, 2,
  .seq (.asg 1 (.bin .add (.call "folded" (.cons (.idx (.var 0) (.con (.int 1))) (.nil)) []) (.call "climbed" (.cons (.idx (.var 0) (.con (.int 0))) (.cons (.call "stamp" (.cons (.idx (.var 0) (.con (.int 1))) (.nil)) []) (.cons (.idx (.var 0) (.con (.int 2))) (.nil)))) []))) (.ret (.rsl (.var 1)))⟩
-- clash ['one', 'other', 'mine', 'yours']
def F_clash : Fn := ⟨2, 4,
  .seq (.ite (.or (.cmp .ne (.idx (.var 0) (.con (.int 0))) (.idx (.var 1) (.con (.int 0)))) (.or (.cmp .ne (.bi .len (.cons (.idx (.var 0) (.con (.int 2))) (.nil))) (.bi .len (.cons (.idx (.var 1) (.con (.int 2))) (.nil)))) (.cmp .eq (.idx (.var 0) (.con (.int 1))) (.idx (.var 1) (.con (.int 1)))))) (.rai "NoClash") (.skip)) (.seq (.ite (.or (.not (.tru (.call "fits" (.cons (.idx (.var 0) (.con (.int 0))) (.cons (.idx (.var 0) (.con (.int 2))) (.nil))) []))) (.cmp .ne (.call "top_of" (.cons (.var 0) (.nil)) []) (.call "top_of" (.cons (.var 1) (.nil)) []))) (.rai "NoClash") (.skip)) (.seq (.for_ (.tup [2, 3]) .zip (.cons (.call "pairs_down" (.cons (.var 0) (.nil)) []) (.cons (.call "pairs_down" (.cons (.var 1) (.nil)) []) (.nil))) (.ite (.cmp .ne (.var 2) (.var 3)) (.ret (.tup (.cons (.var 2) (.cons (.var 3) (.nil))))) (.skip))) (.rai "NoClash")))⟩
-- _law_cell_at ['_law_script', '_law_k']
def F_l_cell_at : Fn := ⟨2, 2,
  .seq (.ite (.cmp .lt (.var 1) (.bi .len (.cons (.var 0) (.nil)))) (.ret (.idx (.var 0) (.var 1))) (.skip)) (.ret (.con (.int 0)))⟩
-- _law_mix ['_law_one', '_law_other']
def F_l_mix : Fn := ⟨2, 2,
  .ret (.bin .mod (.bin .add (.bin .add (.bin .mul (.con (.int 998244353)) (.var 0)) (.bin .mul (.con (.int 1000000007)) (.var 1))) (.con (.int 97))) (.con (.int 2305843009213693951)))⟩
-- _law_top ['_law_paper', '_law_last', '_law_number', '_law_place', '_law_aside']
def F_l_top : Fn := ⟨1, 5,
  .seq (.asg 1 (.con (.int 1))) (.seq (.for_ (.name 2) .seq (.cons (.bin .add (.idx (.var 0) (.con (.int 1))) (.lst (.cons (.bi .len (.cons (.idx (.var 0) (.con (.int 1))) (.nil))) (.nil)))) .nil) (.asg 1 (.call "_law_mix" (.cons (.var 1) (.cons (.var 2) (.nil))) []))) (.seq (.asg 3 (.idx (.var 0) (.con (.int 0)))) (.seq (.for_ (.name 4) .seq (.cons (.idx (.var 0) (.con (.int 2))) .nil) (.seq (.ite (.cmp .eq (.bin .mod (.var 3) (.con (.int 2))) (.con (.int 0))) (.asg 1 (.call "_law_mix" (.cons (.var 1) (.cons (.var 4) (.nil))) [])) (.asg 1 (.call "_law_mix" (.cons (.var 4) (.cons (.var 1) (.nil))) []))) (.asg 3 (.bin .fdiv (.var 3) (.con (.int 2)))))) (.ret (.var 1)))))⟩
-- _law_told ['_law_one', '_law_other']
def F_l_told : Fn := ⟨2, 2,
  .seq (.ite (.or (.cmp .ne (.idx (.var 0) (.con (.int 0))) (.idx (.var 1) (.con (.int 0)))) (.or (.cmp .ne (.bi .len (.cons (.idx (.var 0) (.con (.int 2))) (.nil))) (.bi .len (.cons (.idx (.var 1) (.con (.int 2))) (.nil)))) (.cmp .eq (.idx (.var 0) (.con (.int 1))) (.idx (.var 1) (.con (.int 1)))))) (.ret (.con (.bl false))) (.skip)) (.seq (.ite (.or (.cmp .lt (.idx (.var 0) (.con (.int 0))) (.con (.int 0))) (.cmp .ne (.bin .shr (.idx (.var 0) (.con (.int 0))) (.bi .len (.cons (.idx (.var 0) (.con (.int 2))) (.nil)))) (.con (.int 0)))) (.ret (.con (.bl false))) (.skip)) (.ret (.cmp .eq (.call "_law_top" (.cons (.var 0) (.nil)) []) (.call "_law_top" (.cons (.var 1) (.nil)) []))))⟩
-- _law_found ['_law_one', '_law_other', '_law_found_here']
def F_l_found : Fn := ⟨2, 3,
  .seq (.asg 2 (.con .non)) (.seq (.try_ (.asg 2 (.call "clash" (.cons (.var 0) (.cons (.var 1) (.nil))) [])) "NoClash" none (.asg 2 (.con (.str "refused")))) (.ret (.var 2)))⟩
-- _law_refused_by_any ['_law_one', '_law_other', '_law_kinds', 'e']
def F_l_refused_by_any : Fn := ⟨2, 4,
  .seq (.asg 2 (.lst (.nil))) (.seq (.try_ (.drop (.call "clash" (.cons (.var 0) (.cons (.var 1) (.nil))) [])) "HouseError" (some 3) (.seq (.asg 2 (.lst (.cons (.isxB 3 "ValueError") (.cons (.isx 3 "NoClash") (.cons (.isx 3 "NoPaper") (.cons (.isx 3 "NoRow") (.nil))))))) (.seq (.asg 2 (.bin .add (.var 2) (.lst (.cons (.isx 3 "NoCode") (.cons (.isx 3 "NoSlot") (.cons (.isx 3 "Taken") (.cons (.isx 3 "TooMuch") (.nil)))))))) (.seq (.asg 2 (.bin .add (.var 2) (.lst (.cons (.isx 3 "NoNumber") (.cons (.isx 3 "NoAccount") (.cons (.isx 3 "NoLimit") (.nil))))))) (.asg 2 (.bin .add (.var 2) (.lst (.cons (.isx 3 "PoorPurse") (.cons (.isx 3 "PoorCoin") (.nil)))))))))) (.ret (.cmp .eq (.var 2) (.bin .add (.lst (.cons (.con (.bl true)) (.cons (.con (.bl true)) (.nil)))) (.bin .mul (.lst (.cons (.con (.bl false)) (.nil))) (.con (.int 11)))))))⟩
-- _law_inverse ['_law_number', '_law_rest', '_law_other', '_law_back', '_law_mine', '_law_times', '_law_left', '_law_later']
def F_l_inverse : Fn := ⟨1, 8,
  .seq (.asg 1 (.con (.int 2305843009213693951))) (.seq (.asg 2 (.var 0)) (.seq (.asg 3 (.con (.int 0))) (.seq (.asg 4 (.con (.int 1))) (.seq (.wh (.cmp .gt (.var 2) (.con (.int 0))) (.seq (.unp [5, 6] (.bi .divmod (.cons (.var 1) (.cons (.var 2) (.nil))))) (.seq (.asg 1 (.var 2)) (.seq (.asg 2 (.var 6)) (.seq (.asg 7 (.bin .sub (.var 3) (.bin .mul (.var 5) (.var 4)))) (.seq (.asg 3 (.var 4)) (.asg 4 (.var 7)))))))) (.ret (.bin .mod (.var 3) (.con (.int 2305843009213693951))))))))⟩
-- _law_solved ['_law_number', '_law_due', '_law_last', '_law_end', '_law_other']
def F_l_solved : Fn := ⟨2, 5,
  .seq (.asg 2 (.call "_law_mix" (.cons (.con (.int 1)) (.cons (.var 0) (.nil))) [])) (.seq (.asg 3 (.bin .mod (.bin .mul (.bin .sub (.bin .sub (.var 1) (.con (.int 97))) (.bin .mul (.con (.int 2)) (.con (.int 1000000007)))) (.call "_law_inverse" (.cons (.con (.int 998244353)) (.nil)) [])) (.con (.int 2305843009213693951)))) (.seq (.asg 4 (.bin .mod (.bin .mul (.bin .sub (.bin .sub (.var 3) (.con (.int 97))) (.bin .mul (.con (.int 998244353)) (.var 2))) (.call "_law_inverse" (.cons (.con (.int 1000000007)) (.nil)) [])) (.con (.int 2305843009213693951)))) (.ret (.lst (.cons (.var 0) (.cons (.var 4) (.nil)))))))⟩
-- _law_raised ['_law_numbers', '_law_spot', '_law_step', '_law_found_here', '_law_at']
def F_l_raised : Fn := ⟨3, 5,
  .seq (.asg 3 (.bi .list (.cons (.var 0) (.nil)))) (.seq (.ite (.cmp .gt (.bi .len (.cons (.var 3) (.nil))) (.con (.int 0))) (.seq (.asg 4 (.bin .mod (.var 1) (.bi .len (.cons (.var 3) (.nil))))) (.sidx (.var 3) (.var 4) (.bin .add (.idx (.var 3) (.var 4)) (.var 2)))) (.skip)) (.ret (.var 3)))⟩
-- _law_spoilt ['_law_one', '_law_other', '_law_kind', '_law_spot', '_law_prime', '_law_place', '_law_numbers', '_law_way', '_law_far', '_law_low']
def F_l_spoilt : Fn := ⟨4, 10,
  .seq (.asg 4 (.con (.int 2305843009213693951))) (.seq (.unp [5, 6, 7] (.var 1)) (.seq (.ite (.cmp .eq (.var 2) (.con (.int 0))) (.ret (.lst (.cons (.var 0) (.cons (.tup (.cons (.bin .add (.bin .add (.var 5) (.con (.int 1))) (.bin .mod (.var 3) (.con (.int 3)))) (.cons (.bi .list (.cons (.var 6) (.nil))) (.cons (.bi .list (.cons (.var 7) (.nil))) (.nil))))) (.nil))))) (.skip)) (.seq (.ite (.cmp .eq (.var 2) (.con (.int 1))) (.ret (.lst (.cons (.var 0) (.cons (.tup (.cons (.var 5) (.cons (.bi .list (.cons (.var 6) (.nil))) (.cons (.bin .add (.var 7) (.lst (.cons (.var 3) (.nil)))) (.nil))))) (.nil))))) (.skip)) (.seq (.ite (.cmp .eq (.var 2) (.con (.int 2))) (.ret (.lst (.cons (.var 0) (.cons (.tup (.cons (.var 5) (.cons (.bi .list (.cons (.idx (.var 0) (.con (.int 1))) (.nil))) (.cons (.call "_law_raised" (.cons (.var 7) (.cons (.var 3) (.cons (.var 4) (.nil)))) []) (.nil))))) (.nil))))) (.skip)) (.seq (.ite (.cmp .eq (.var 2) (.con (.int 3))) (.seq (.asg 8 (.bin .add (.var 5) (.bin .mul (.bin .shl (.con (.int 1)) (.bi .len (.cons (.var 7) (.nil)))) (.bin .add (.con (.int 1)) (.bin .mod (.var 3) (.con (.int 9))))))) (.ret (.lst (.cons (.tup (.cons (.var 8) (.cons (.bi .list (.cons (.idx (.var 0) (.con (.int 1))) (.nil))) (.cons (.bi .list (.cons (.idx (.var 0) (.con (.int 2))) (.nil))) (.nil))))) (.cons (.tup (.cons (.var 8) (.cons (.bi .list (.cons (.var 6) (.nil))) (.cons (.bi .list (.cons (.var 7) (.nil))) (.nil))))) (.nil)))))) (.skip)) (.seq (.ite (.cmp .eq (.var 2) (.con (.int 4))) (.seq (.asg 9 (.bin .sub (.bin .sub (.con (.int 0)) (.con (.int 1))) (.bin .mod (.var 3) (.con (.int 9))))) (.ret (.lst (.cons (.tup (.cons (.var 9) (.cons (.bi .list (.cons (.idx (.var 0) (.con (.int 1))) (.nil))) (.cons (.bi .list (.cons (.idx (.var 0) (.con (.int 2))) (.nil))) (.nil))))) (.cons (.tup (.cons (.var 9) (.cons (.bi .list (.cons (.var 6) (.nil))) (.cons (.bi .list (.cons (.var 7) (.nil))) (.nil))))) (.nil)))))) (.skip)) (.seq (.ite (.cmp .eq (.var 2) (.con (.int 5))) (.ret (.lst (.cons (.var 0) (.cons (.tup (.cons (.var 5) (.cons (.call "_law_raised" (.cons (.var 6) (.cons (.bin .fdiv (.var 3) (.con (.int 7))) (.cons (.con (.int 1)) (.nil)))) []) (.cons (.bi .list (.cons (.var 7) (.nil))) (.nil))))) (.nil))))) (.skip)) (.seq (.ite (.cmp .eq (.var 2) (.con (.int 6))) (.ret (.lst (.cons (.var 0) (.cons (.tup (.cons (.var 5) (.cons (.bin .add (.var 6) (.lst (.cons (.var 3) (.nil)))) (.cons (.bi .list (.cons (.var 7) (.nil))) (.nil))))) (.nil))))) (.skip)) (.seq (.ite (.cmp .eq (.var 2) (.con (.int 8))) (.seq (.asg 9 (.tup (.cons (.con (.int 0)) (.cons (.bi .list (.cons (.idx (.var 0) (.con (.int 1))) (.nil))) (.cons (.bi .list (.cons (.idx (.var 0) (.con (.int 2))) (.nil))) (.nil)))))) (.ret (.lst (.cons (.var 9) (.cons (.tup (.cons (.con (.int 0)) (.cons (.call "_law_solved" (.cons (.var 3) (.cons (.call "_law_top" (.cons (.var 9) (.nil)) []) (.nil))) []) (.cons (.lst (.nil)) (.nil))))) (.nil)))))) (.skip)) (.ret (.lst (.cons (.var 0) (.cons (.tup (.cons (.var 5) (.cons (.slc (.var 6) .none (.some (.neg (.con (.int 1))))) (.cons (.bi .list (.cons (.var 7) (.nil))) (.nil))))) (.nil))))))))))))))⟩
-- law ['_law_script', '_law_cells', '_law_cut', '_law_spot', '_law_numbers', '_law_one', '_law_other', '_law_kind', '_law_pair', '_law_found_here', '_law_cell']
def F_law : Fn := ⟨1, 11,
  .seq (.asg 1 (.comp (.bin .mod (.var 10) (.bin .mul (.con (.int 7)) (.con (.int 2305843009213693951)))) [10] (.name 10) .seq (.cons (.slc (.var 0) (.some (.con (.int 2))) (.some (.con (.int 92)))) .nil) (.yes))) (.seq (.asg 2 (.bi .min2 (.cons (.bin .mod (.call "_law_cell_at" (.cons (.var 0) (.cons (.con (.int 0)) (.nil))) []) (.bin .add (.bi .len (.cons (.var 1) (.nil))) (.con (.int 1)))) (.cons (.con (.int 59)) (.nil))))) (.seq (.asg 3 (.bin .mod (.call "_law_cell_at" (.cons (.var 0) (.cons (.con (.int 1)) (.nil))) []) (.bin .pow (.con (.int 10)) (.con (.int 6))))) (.seq (.asg 4 (.bin .add (.slc (.var 1) (.some (.var 2)) .none) (.lst (.cons (.var 3) (.nil))))) (.seq (.asg 5 (.tup (.cons (.bin .mod (.call "_law_cell_at" (.cons (.var 0) (.cons (.con (.int 1)) (.nil))) []) (.bin .shl (.con (.int 1)) (.var 2))) (.cons (.var 4) (.cons (.slc (.var 1) .none (.some (.var 2))) (.nil)))))) (.seq (.asg 6 (.tup (.cons (.idx (.var 5) (.con (.int 0))) (.cons (.call "_law_raised" (.cons (.var 4) (.cons (.var 3) (.cons (.con (.int 2305843009213693951)) (.nil)))) []) (.cons (.bi .list (.cons (.idx (.var 5) (.con (.int 2))) (.nil))) (.nil)))))) (.seq (.for_ (.name 7) .range1 (.cons (.con (.int 9)) (.nil)) (.seq (.asg 8 (.call "_law_spoilt" (.cons (.var 5) (.cons (.var 6) (.cons (.var 7) (.cons (.var 3) (.nil))))) [])) (.seq (.ite (.cmp .eq (.bin .mod (.bin .add (.var 3) (.var 7)) (.con (.int 2))) (.con (.int 1))) (.asg 8 (.lst (.cons (.idx (.var 8) (.con (.int 1))) (.cons (.idx (.var 8) (.con (.int 0))) (.nil))))) (.skip)) (.seq (.asg 9 (.call "_law_found" (.cons (.idx (.var 8) (.con (.int 0))) (.cons (.idx (.var 8) (.con (.int 1))) (.nil))) [])) (.seq (.ite (.tru (.call "_law_told" (.cons (.idx (.var 8) (.con (.int 0))) (.cons (.idx (.var 8) (.con (.int 1))) (.nil))) [])) (.ite (.not (.tru (.isi (.var 9) .tuple))) (.ret (.con (.bl false))) (.skip)) (.ite (.or (.cmp .ne (.var 9) (.con (.str "refused"))) (.not (.tru (.call "_law_refused_by_any" (.cons (.idx (.var 8) (.con (.int 0))) (.cons (.idx (.var 8) (.con (.int 1))) (.nil))) [])))) (.ret (.con (.bl false))) (.skip))) (.ite (.not (.tru (.isi (.call "_law_found" (.cons (.var 5) (.cons (.var 6) (.nil))) []) .tuple))) (.ret (.con (.bl false))) (.skip))))))) (.ret (.con (.bl true)))))))))⟩
/-! ### the program -/
def PR : Prog where
  fn := fun x => match x with | "mix" => some F_mix | "stamp" => some F_stamp | "pair_at" => some F_pair_at | "climbed" => some F_climbed | "risen" => some F_risen | "fits" => some F_fits | "top_of" => some F_top_of | "folded" => some F_folded | "pairs_down" => some F_pairs_down | "clash" => some F_clash | "_law_cell_at" => some F_l_cell_at | "_law_mix" => some F_l_mix | "_law_top" => some F_l_top | "_law_told" => some F_l_told | "_law_found" => some F_l_found | "_law_refused_by_any" => some F_l_refused_by_any | "_law_inverse" => some F_l_inverse | "_law_solved" => some F_l_solved | "_law_raised" => some F_l_raised | "_law_spoilt" => some F_l_spoilt | "law" => some F_law | _ => none
  glob := fun x => match x with | "MIX" => some (.int 2305843009213693951) | _ => none
  mt := fun x y => none
  fld := fun x y => false
  exm := fun x y => match x, y with | "NoClash", "HouseError" => some true | "NoClash", "NoClash" => some true | _, _ => none
  lf := 1000000
  exs := fun x y => match x, y with | "NoClash", "NoAccount" => some false | "NoClash", "NoClash" => some true | "NoClash", "NoCode" => some false | "NoClash", "NoLimit" => some false | "NoClash", "NoNumber" => some false | "NoClash", "NoPaper" => some false | "NoClash", "NoRow" => some false | "NoClash", "NoSlot" => some false | "NoClash", "PoorCoin" => some false | "NoClash", "PoorPurse" => some false | "NoClash", "Taken" => some false | "NoClash", "TooMuch" => some false | _, _ => none
  exb := fun x y => match x, y with | "NoClash", "ValueError" => some true | _, _ => none
theorem fn_mix : PR.fn "mix" = some F_mix := by first | rfl | simp [PR]
theorem fn_stamp : PR.fn "stamp" = some F_stamp := by first | rfl | simp [PR]
theorem fn_pair_at : PR.fn "pair_at" = some F_pair_at := by first | rfl | simp [PR]
theorem fn_climbed : PR.fn "climbed" = some F_climbed := by first | rfl | simp [PR]
theorem fn_risen : PR.fn "risen" = some F_risen := by first | rfl | simp [PR]
theorem fn_fits : PR.fn "fits" = some F_fits := by first | rfl | simp [PR]
theorem fn_top_of : PR.fn "top_of" = some F_top_of := by first | rfl | simp [PR]
theorem fn_folded : PR.fn "folded" = some F_folded := by first | rfl | simp [PR]
theorem fn_pairs_down : PR.fn "pairs_down" = some F_pairs_down := by first | rfl | simp [PR]
theorem fn_clash : PR.fn "clash" = some F_clash := by first | rfl | simp [PR]
theorem fn_l_cell_at : PR.fn "_law_cell_at" = some F_l_cell_at := by first | rfl | simp [PR]
theorem fn_l_mix : PR.fn "_law_mix" = some F_l_mix := by first | rfl | simp [PR]
theorem fn_l_top : PR.fn "_law_top" = some F_l_top := by first | rfl | simp [PR]
theorem fn_l_told : PR.fn "_law_told" = some F_l_told := by first | rfl | simp [PR]
theorem fn_l_found : PR.fn "_law_found" = some F_l_found := by first | rfl | simp [PR]
theorem fn_l_refused_by_any : PR.fn "_law_refused_by_any" = some F_l_refused_by_any := by first | rfl | simp [PR]
theorem fn_l_inverse : PR.fn "_law_inverse" = some F_l_inverse := by first | rfl | simp [PR]
theorem fn_l_solved : PR.fn "_law_solved" = some F_l_solved := by first | rfl | simp [PR]
theorem fn_l_raised : PR.fn "_law_raised" = some F_l_raised := by first | rfl | simp [PR]
theorem fn_l_spoilt : PR.fn "_law_spoilt" = some F_l_spoilt := by first | rfl | simp [PR]
theorem fn_law : PR.fn "law" = some F_law := by first | rfl | simp [PR]
@[simp] theorem gl_MIX : PR.glob "MIX" = some (.int 2305843009213693951) := by first | rfl | simp [PR]
@[simp] theorem es_NoClash_NoAccount : PR.exs "NoClash" "NoAccount" = some false := by first | rfl | simp [PR]
@[simp] theorem es_NoClash_NoClash : PR.exs "NoClash" "NoClash" = some true := by first | rfl | simp [PR]
@[simp] theorem es_NoClash_NoCode : PR.exs "NoClash" "NoCode" = some false := by first | rfl | simp [PR]
@[simp] theorem es_NoClash_NoLimit : PR.exs "NoClash" "NoLimit" = some false := by first | rfl | simp [PR]
@[simp] theorem es_NoClash_NoNumber : PR.exs "NoClash" "NoNumber" = some false := by first | rfl | simp [PR]
@[simp] theorem es_NoClash_NoPaper : PR.exs "NoClash" "NoPaper" = some false := by first | rfl | simp [PR]
@[simp] theorem es_NoClash_NoRow : PR.exs "NoClash" "NoRow" = some false := by first | rfl | simp [PR]
@[simp] theorem es_NoClash_NoSlot : PR.exs "NoClash" "NoSlot" = some false := by first | rfl | simp [PR]
@[simp] theorem es_NoClash_PoorCoin : PR.exs "NoClash" "PoorCoin" = some false := by first | rfl | simp [PR]
@[simp] theorem es_NoClash_PoorPurse : PR.exs "NoClash" "PoorPurse" = some false := by first | rfl | simp [PR]
@[simp] theorem es_NoClash_Taken : PR.exs "NoClash" "Taken" = some false := by first | rfl | simp [PR]
@[simp] theorem es_NoClash_TooMuch : PR.exs "NoClash" "TooMuch" = some false := by first | rfl | simp [PR]
@[simp] theorem eb_NoClash_ValueError : PR.exb "NoClash" "ValueError" = some true := by first | rfl | simp [PR]
@[simp] theorem em_NoClash_HouseError : PR.exm "NoClash" "HouseError" = some true := by first | rfl | simp [PR]
@[simp] theorem em_NoClash_NoClash : PR.exm "NoClash" "NoClash" = some true := by first | rfl | simp [PR]
def gv (K : PySem.W.Frag) (x : String) : V := match x with | "MIX" => (.int 2305843009213693951) | _ => .non
/-! ### where the defs stand -/
abbrev st_mix : Stmt := top 16
theorem sc_mix : FnScope ["one", "other"] ["one", "other"] (defScope st_mix) := ⟨rfl, rfl, rfl, by decide +kernel, rfl, by decide +kernel, by decide +kernel⟩
def df_mix : He.DefD := ⟨("mix", none), "mix", "mix", defArgs st_mix, defBody st_mix, defScope st_mix, [], []⟩
abbrev FN_mix (K : PySem.W.Frag) (fd : FuncData) : Prop := FunD K "mix" "mix" (defArgs st_mix) (defBody st_mix) (defScope st_mix) [] [] (He.fAd K ("mix", none)) fd
abbrev st_stamp : Stmt := top 17
theorem sc_stamp : FnScope ["numbers", "found", "number"] ["numbers"] (defScope st_stamp) := ⟨rfl, rfl, rfl, by decide +kernel, rfl, by decide +kernel, by decide +kernel⟩
def df_stamp : He.DefD := ⟨("stamp", none), "stamp", "stamp", defArgs st_stamp, defBody st_stamp, defScope st_stamp, [], []⟩
abbrev FN_stamp (K : PySem.W.Frag) (fd : FuncData) : Prop := FunD K "stamp" "stamp" (defArgs st_stamp) (defBody st_stamp) (defScope st_stamp) [] [] (He.fAd K ("stamp", none)) fd
abbrev st_pair_at : Stmt := top 19
theorem sc_pair_at : FnScope ["place", "leaf", "aside"] ["place", "leaf", "aside"] (defScope st_pair_at) := ⟨rfl, rfl, rfl, by decide +kernel, rfl, by decide +kernel, by decide +kernel⟩
def df_pair_at : He.DefD := ⟨("pair_at", none), "pair_at", "pair_at", defArgs st_pair_at, defBody st_pair_at, defScope st_pair_at, [], []⟩
abbrev FN_pair_at (K : PySem.W.Frag) (fd : FuncData) : Prop := FunD K "pair_at" "pair_at" (defArgs st_pair_at) (defBody st_pair_at) (defScope st_pair_at) [] [] (He.fAd K ("pair_at", none)) fd
abbrev st_climbed : Stmt := top 20
theorem sc_climbed : FnScope ["place", "leaf", "way", "found", "aside", "pair"] ["place", "leaf", "way"] (defScope st_climbed) := ⟨rfl, rfl, rfl, by decide +kernel, rfl, by decide +kernel, by decide +kernel⟩
def df_climbed : He.DefD := ⟨("climbed", none), "climbed", "climbed", defArgs st_climbed, defBody st_climbed, defScope st_climbed, [], []⟩
abbrev FN_climbed (K : PySem.W.Frag) (fd : FuncData) : Prop := FunD K "climbed" "climbed" (defArgs st_climbed) (defBody st_climbed) (defScope st_climbed) [] [] (He.fAd K ("climbed", none)) fd
abbrev st_risen : Stmt := top 21
theorem sc_risen : FnScope ["place", "leaf", "way", "aside", "pair"] ["place", "leaf", "way"] (defScope st_risen) := ⟨rfl, rfl, rfl, by decide +kernel, rfl, by decide +kernel, by decide +kernel⟩
def df_risen : He.DefD := ⟨("risen", none), "risen", "risen", defArgs st_risen, defBody st_risen, defScope st_risen, [], []⟩
abbrev FN_risen (K : PySem.W.Frag) (fd : FuncData) : Prop := FunD K "risen" "risen" (defArgs st_risen) (defBody st_risen) (defScope st_risen) [] [] (He.fAd K ("risen", none)) fd
abbrev st_fits : Stmt := top 22
theorem sc_fits : FnScope ["place", "way", "aside"] ["place", "way"] (defScope st_fits) := ⟨rfl, rfl, rfl, by decide +kernel, rfl, by decide +kernel, by decide +kernel⟩
def df_fits : He.DefD := ⟨("fits", none), "fits", "fits", defArgs st_fits, defBody st_fits, defScope st_fits, [], []⟩
abbrev FN_fits (K : PySem.W.Frag) (fd : FuncData) : Prop := FunD K "fits" "fits" (defArgs st_fits) (defBody st_fits) (defScope st_fits) [] [] (He.fAd K ("fits", none)) fd
abbrev st_top_of : Stmt := top 23
theorem sc_top_of : FnScope ["paper"] ["paper"] (defScope st_top_of) := ⟨rfl, rfl, rfl, by decide +kernel, rfl, by decide +kernel, by decide +kernel⟩
def df_top_of : He.DefD := ⟨("top_of", none), "top_of", "top_of", defArgs st_top_of, defBody st_top_of, defScope st_top_of, [], []⟩
abbrev FN_top_of (K : PySem.W.Frag) (fd : FuncData) : Prop := FunD K "top_of" "top_of" (defArgs st_top_of) (defBody st_top_of) (defScope st_top_of) [] [] (He.fAd K ("top_of", none)) fd
abbrev st_folded : Stmt := top 24
theorem sc_folded : FnScope ["numbers", "found", "last", "number"] ["numbers"] (defScope st_folded) := ⟨rfl, rfl, rfl, by decide +kernel, rfl, by decide +kernel, by decide +kernel⟩
def df_folded : He.DefD := ⟨("folded", none), "folded", "folded", defArgs st_folded, defBody st_folded, defScope st_folded, [], []⟩
abbrev FN_folded (K : PySem.W.Frag) (fd : FuncData) : Prop := FunD K "folded" "folded" (defArgs st_folded) (defBody st_folded) (defScope st_folded) [] [] (He.fAd K ("folded", none)) fd
abbrev st_pairs_down : Stmt := top 25
theorem sc_pairs_down : FnScope ["paper", "upwards"] ["paper"] (defScope st_pairs_down) := ⟨rfl, rfl, rfl, by decide +kernel, rfl, by decide +kernel, by decide +kernel⟩
def df_pairs_down : He.DefD := ⟨("pairs_down", none), "pairs_down", "pairs_down", defArgs st_pairs_down, defBody st_pairs_down, defScope st_pairs_down, [], []⟩
abbrev FN_pairs_down (K : PySem.W.Frag) (fd : FuncData) : Prop := FunD K "pairs_down" "pairs_down" (defArgs st_pairs_down) (defBody st_pairs_down) (defScope st_pairs_down) [] [] (He.fAd K ("pairs_down", none)) fd
abbrev st_clash : Stmt := top 26
theorem sc_clash : FnScope ["one", "other", "mine", "yours"] ["one", "other"] (defScope st_clash) := ⟨rfl, rfl, rfl, by decide +kernel, rfl, by decide +kernel, by decide +kernel⟩
def df_clash : He.DefD := ⟨("clash", none), "clash", "clash", defArgs st_clash, defBody st_clash, defScope st_clash, [], []⟩
abbrev FN_clash (K : PySem.W.Frag) (fd : FuncData) : Prop := FunD K "clash" "clash" (defArgs st_clash) (defBody st_clash) (defScope st_clash) [] [] (He.fAd K ("clash", none)) fd
abbrev st_l_cell_at : Stmt := top 28
theorem sc_l_cell_at : FnScope ["_law_script", "_law_k"] ["_law_script", "_law_k"] (defScope st_l_cell_at) := ⟨rfl, rfl, rfl, by decide +kernel, rfl, by decide +kernel, by decide +kernel⟩
def df_l_cell_at : He.DefD := ⟨("_law_cell_at", none), "_law_cell_at", "_law_cell_at", defArgs st_l_cell_at, defBody st_l_cell_at, defScope st_l_cell_at, [], []⟩
abbrev FN_l_cell_at (K : PySem.W.Frag) (fd : FuncData) : Prop := FunD K "_law_cell_at" "_law_cell_at" (defArgs st_l_cell_at) (defBody st_l_cell_at) (defScope st_l_cell_at) [] [] (He.fAd K ("_law_cell_at", none)) fd
abbrev st_l_mix : Stmt := top 29
theorem sc_l_mix : FnScope ["_law_one", "_law_other"] ["_law_one", "_law_other"] (defScope st_l_mix) := ⟨rfl, rfl, rfl, by decide +kernel, rfl, by decide +kernel, by decide +kernel⟩
def df_l_mix : He.DefD := ⟨("_law_mix", none), "_law_mix", "_law_mix", defArgs st_l_mix, defBody st_l_mix, defScope st_l_mix, [], []⟩
abbrev FN_l_mix (K : PySem.W.Frag) (fd : FuncData) : Prop := FunD K "_law_mix" "_law_mix" (defArgs st_l_mix) (defBody st_l_mix) (defScope st_l_mix) [] [] (He.fAd K ("_law_mix", none)) fd
abbrev st_l_top : Stmt := top 30
theorem sc_l_top : FnScope ["_law_paper", "_law_last", "_law_number", "_law_place", "_law_aside"] ["_law_paper"] (defScope st_l_top) := ⟨rfl, rfl, rfl, by decide +kernel, rfl, by decide +kernel, by decide +kernel⟩
def df_l_top : He.DefD := ⟨("_law_top", none), "_law_top", "_law_top", defArgs st_l_top, defBody st_l_top, defScope st_l_top, [], []⟩
abbrev FN_l_top (K : PySem.W.Frag) (fd : FuncData) : Prop := FunD K "_law_top" "_law_top" (defArgs st_l_top) (defBody st_l_top) (defScope st_l_top) [] [] (He.fAd K ("_law_top", none)) fd
abbrev st_l_told : Stmt := top 31
theorem sc_l_told : FnScope ["_law_one", "_law_other"] ["_law_one", "_law_other"] (defScope st_l_told) := ⟨rfl, rfl, rfl, by decide +kernel, rfl, by decide +kernel, by decide +kernel⟩
def df_l_told : He.DefD := ⟨("_law_told", none), "_law_told", "_law_told", defArgs st_l_told, defBody st_l_told, defScope st_l_told, [], []⟩
abbrev FN_l_told (K : PySem.W.Frag) (fd : FuncData) : Prop := FunD K "_law_told" "_law_told" (defArgs st_l_told) (defBody st_l_told) (defScope st_l_told) [] [] (He.fAd K ("_law_told", none)) fd
abbrev st_l_found : Stmt := top 32
theorem sc_l_found : FnScope ["_law_one", "_law_other", "_law_found_here"] ["_law_one", "_law_other"] (defScope st_l_found) := ⟨rfl, rfl, rfl, by decide +kernel, rfl, by decide +kernel, by decide +kernel⟩
def df_l_found : He.DefD := ⟨("_law_found", none), "_law_found", "_law_found", defArgs st_l_found, defBody st_l_found, defScope st_l_found, [], []⟩
abbrev FN_l_found (K : PySem.W.Frag) (fd : FuncData) : Prop := FunD K "_law_found" "_law_found" (defArgs st_l_found) (defBody st_l_found) (defScope st_l_found) [] [] (He.fAd K ("_law_found", none)) fd
abbrev st_l_refused_by_any : Stmt := top 33
theorem sc_l_refused_by_any : FnScope ["_law_one", "_law_other", "_law_kinds", "e"] ["_law_one", "_law_other"] (defScope st_l_refused_by_any) := ⟨rfl, rfl, rfl, by decide +kernel, rfl, by decide +kernel, by decide +kernel⟩
def df_l_refused_by_any : He.DefD := ⟨("_law_refused_by_any", none), "_law_refused_by_any", "_law_refused_by_any", defArgs st_l_refused_by_any, defBody st_l_refused_by_any, defScope st_l_refused_by_any, [], []⟩
abbrev FN_l_refused_by_any (K : PySem.W.Frag) (fd : FuncData) : Prop := FunD K "_law_refused_by_any" "_law_refused_by_any" (defArgs st_l_refused_by_any) (defBody st_l_refused_by_any) (defScope st_l_refused_by_any) [] [] (He.fAd K ("_law_refused_by_any", none)) fd
abbrev st_l_inverse : Stmt := top 34
theorem sc_l_inverse : FnScope ["_law_number", "_law_rest", "_law_other", "_law_back", "_law_mine", "_law_times", "_law_left", "_law_later"] ["_law_number"] (defScope st_l_inverse) := ⟨rfl, rfl, rfl, by decide +kernel, rfl, by decide +kernel, by decide +kernel⟩
def df_l_inverse : He.DefD := ⟨("_law_inverse", none), "_law_inverse", "_law_inverse", defArgs st_l_inverse, defBody st_l_inverse, defScope st_l_inverse, [], []⟩
abbrev FN_l_inverse (K : PySem.W.Frag) (fd : FuncData) : Prop := FunD K "_law_inverse" "_law_inverse" (defArgs st_l_inverse) (defBody st_l_inverse) (defScope st_l_inverse) [] [] (He.fAd K ("_law_inverse", none)) fd
abbrev st_l_solved : Stmt := top 35
theorem sc_l_solved : FnScope ["_law_number", "_law_due", "_law_last", "_law_end", "_law_other"] ["_law_number", "_law_due"] (defScope st_l_solved) := ⟨rfl, rfl, rfl, by decide +kernel, rfl, by decide +kernel, by decide +kernel⟩
def df_l_solved : He.DefD := ⟨("_law_solved", none), "_law_solved", "_law_solved", defArgs st_l_solved, defBody st_l_solved, defScope st_l_solved, [], []⟩
abbrev FN_l_solved (K : PySem.W.Frag) (fd : FuncData) : Prop := FunD K "_law_solved" "_law_solved" (defArgs st_l_solved) (defBody st_l_solved) (defScope st_l_solved) [] [] (He.fAd K ("_law_solved", none)) fd
abbrev st_l_raised : Stmt := top 36
theorem sc_l_raised : FnScope ["_law_numbers", "_law_spot", "_law_step", "_law_found_here", "_law_at"] ["_law_numbers", "_law_spot", "_law_step"] (defScope st_l_raised) := ⟨rfl, rfl, rfl, by decide +kernel, rfl, by decide +kernel, by decide +kernel⟩
def df_l_raised : He.DefD := ⟨("_law_raised", none), "_law_raised", "_law_raised", defArgs st_l_raised, defBody st_l_raised, defScope st_l_raised, [], []⟩
abbrev FN_l_raised (K : PySem.W.Frag) (fd : FuncData) : Prop := FunD K "_law_raised" "_law_raised" (defArgs st_l_raised) (defBody st_l_raised) (defScope st_l_raised) [] [] (He.fAd K ("_law_raised", none)) fd
abbrev st_l_spoilt : Stmt := top 37
theorem sc_l_spoilt : FnScope ["_law_one", "_law_other", "_law_kind", "_law_spot", "_law_prime", "_law_place", "_law_numbers", "_law_way", "_law_far", "_law_low"] ["_law_one", "_law_other", "_law_kind", "_law_spot"] (defScope st_l_spoilt) := ⟨rfl, rfl, rfl, by decide +kernel, rfl, by decide +kernel, by decide +kernel⟩
def df_l_spoilt : He.DefD := ⟨("_law_spoilt", none), "_law_spoilt", "_law_spoilt", defArgs st_l_spoilt, defBody st_l_spoilt, defScope st_l_spoilt, [], []⟩
abbrev FN_l_spoilt (K : PySem.W.Frag) (fd : FuncData) : Prop := FunD K "_law_spoilt" "_law_spoilt" (defArgs st_l_spoilt) (defBody st_l_spoilt) (defScope st_l_spoilt) [] [] (He.fAd K ("_law_spoilt", none)) fd
abbrev st_law : Stmt := top 38
theorem sc_law : FnScope ["_law_script", "_law_cells", "_law_cut", "_law_spot", "_law_numbers", "_law_one", "_law_other", "_law_kind", "_law_pair", "_law_found_here", "_law_cell"] ["_law_script"] (defScope st_law) := ⟨rfl, rfl, rfl, by decide +kernel, rfl, by decide +kernel, by decide +kernel⟩
def df_law : He.DefD := ⟨("law", none), "law", "law", defArgs st_law, defBody st_law, defScope st_law, [], []⟩
abbrev FN_law (K : PySem.W.Frag) (fd : FuncData) : Prop := FunD K "law" "law" (defArgs st_law) (defBody st_law) (defScope st_law) [] [] (He.fAd K ("law", none)) fd
def dfs : List He.DefD := [df_mix, df_stamp, df_pair_at, df_climbed, df_risen, df_fits, df_top_of, df_folded, df_pairs_down, df_clash, df_l_cell_at, df_l_mix, df_l_top, df_l_told, df_l_found, df_l_refused_by_any, df_l_inverse, df_l_solved, df_l_raised, df_l_spoilt, df_law]
def fas : List He.Fa := [.free "ValueError", .free "divmod", .free "isinstance", .free "len", .free "list", .free "min", .free "range", .free "reversed", .free "tuple", .free "zip", .glo "mix", .glo "stamp", .glo "pair_at", .glo "climbed", .glo "risen", .glo "fits", .glo "top_of", .glo "folded", .glo "pairs_down", .glo "clash", .glo "_law_cell_at", .glo "_law_mix", .glo "_law_top", .glo "_law_told", .glo "_law_found", .glo "_law_refused_by_any", .glo "_law_inverse", .glo "_law_solved", .glo "_law_raised", .glo "_law_spoilt", .glo "law", .glo "HouseError", .glo "NoAccount", .glo "NoClash", .glo "NoCode", .glo "NoLimit", .glo "NoNumber", .glo "NoPaper", .glo "NoRow", .glo "NoSlot", .glo "PoorCoin", .glo "PoorPurse", .glo "Taken", .glo "TooMuch", .int "MIX" 2305843009213693951, .exc "NoClash"]
def exb (K : PySem.W.Frag) : Bool := decide (PySem.W.exmOne K (.ref (ca K "NoClash")) (.ref (ca K "HouseError")) = some true) && decide (PySem.W.exmOne K (.ref (ca K "NoClash")) (.ref (ca K "NoClash")) = some true) && excB K "NoClash" && decide (PySem.W.kitOne K (.ref (ca K "NoClash")) (.ref (ca K "NoAccount")) = some false) && decide (PySem.W.kitOne K (.ref (ca K "NoClash")) (.ref (ca K "NoClash")) = some true) && decide (PySem.W.kitOne K (.ref (ca K "NoClash")) (.ref (ca K "NoCode")) = some false) && decide (PySem.W.kitOne K (.ref (ca K "NoClash")) (.ref (ca K "NoLimit")) = some false) && decide (PySem.W.kitOne K (.ref (ca K "NoClash")) (.ref (ca K "NoNumber")) = some false) && decide (PySem.W.kitOne K (.ref (ca K "NoClash")) (.ref (ca K "NoPaper")) = some false) && decide (PySem.W.kitOne K (.ref (ca K "NoClash")) (.ref (ca K "NoRow")) = some false) && decide (PySem.W.kitOne K (.ref (ca K "NoClash")) (.ref (ca K "NoSlot")) = some false) && decide (PySem.W.kitOne K (.ref (ca K "NoClash")) (.ref (ca K "PoorCoin")) = some false) && decide (PySem.W.kitOne K (.ref (ca K "NoClash")) (.ref (ca K "PoorPurse")) = some false) && decide (PySem.W.kitOne K (.ref (ca K "NoClash")) (.ref (ca K "Taken")) = some false) && decide (PySem.W.kitOne K (.ref (ca K "NoClash")) (.ref (ca K "TooMuch")) = some false) && decide (PySem.W.kitOne K (.ref (ca K "NoClash")) (.type "ValueError") = some true)
structure HF (K : PySem.W.Frag) (mg : Str → Option Value) : Prop where
  b_ValueError : mg "ValueError" = none
  b_divmod : mg "divmod" = none
  b_isinstance : mg "isinstance" = none
  b_len : mg "len" = none
  b_list : mg "list" = none
  b_min : mg "min" = none
  b_range : mg "range" = none
  b_reversed : mg "reversed" = none
  b_tuple : mg "tuple" = none
  b_zip : mg "zip" = none
  g_mix : mg "mix" = some (.ref (He.fAd K ("mix", none)))
  g_stamp : mg "stamp" = some (.ref (He.fAd K ("stamp", none)))
  g_pair_at : mg "pair_at" = some (.ref (He.fAd K ("pair_at", none)))
  g_climbed : mg "climbed" = some (.ref (He.fAd K ("climbed", none)))
  g_risen : mg "risen" = some (.ref (He.fAd K ("risen", none)))
  g_fits : mg "fits" = some (.ref (He.fAd K ("fits", none)))
  g_top_of : mg "top_of" = some (.ref (He.fAd K ("top_of", none)))
  g_folded : mg "folded" = some (.ref (He.fAd K ("folded", none)))
  g_pairs_down : mg "pairs_down" = some (.ref (He.fAd K ("pairs_down", none)))
  g_clash : mg "clash" = some (.ref (He.fAd K ("clash", none)))
  g__law_cell_at : mg "_law_cell_at" = some (.ref (He.fAd K ("_law_cell_at", none)))
  g__law_mix : mg "_law_mix" = some (.ref (He.fAd K ("_law_mix", none)))
  g__law_top : mg "_law_top" = some (.ref (He.fAd K ("_law_top", none)))
  g__law_told : mg "_law_told" = some (.ref (He.fAd K ("_law_told", none)))
  g__law_found : mg "_law_found" = some (.ref (He.fAd K ("_law_found", none)))
  g__law_refused_by_any : mg "_law_refused_by_any" = some (.ref (He.fAd K ("_law_refused_by_any", none)))
  g__law_inverse : mg "_law_inverse" = some (.ref (He.fAd K ("_law_inverse", none)))
  g__law_solved : mg "_law_solved" = some (.ref (He.fAd K ("_law_solved", none)))
  g__law_raised : mg "_law_raised" = some (.ref (He.fAd K ("_law_raised", none)))
  g__law_spoilt : mg "_law_spoilt" = some (.ref (He.fAd K ("_law_spoilt", none)))
  g_law : mg "law" = some (.ref (He.fAd K ("law", none)))
  g_HouseError : mg "HouseError" = some (.ref (ca K "HouseError"))
  g_NoAccount : mg "NoAccount" = some (.ref (ca K "NoAccount"))
  g_NoClash : mg "NoClash" = some (.ref (ca K "NoClash"))
  g_NoCode : mg "NoCode" = some (.ref (ca K "NoCode"))
  g_NoLimit : mg "NoLimit" = some (.ref (ca K "NoLimit"))
  g_NoNumber : mg "NoNumber" = some (.ref (ca K "NoNumber"))
  g_NoPaper : mg "NoPaper" = some (.ref (ca K "NoPaper"))
  g_NoRow : mg "NoRow" = some (.ref (ca K "NoRow"))
  g_NoSlot : mg "NoSlot" = some (.ref (ca K "NoSlot"))
  g_PoorCoin : mg "PoorCoin" = some (.ref (ca K "PoorCoin"))
  g_PoorPurse : mg "PoorPurse" = some (.ref (ca K "PoorPurse"))
  g_Taken : mg "Taken" = some (.ref (ca K "Taken"))
  g_TooMuch : mg "TooMuch" = some (.ref (ca K "TooMuch"))
  k_MIX : Says mg "MIX" (gv K "MIX")
  x_NoClash : (He.Fa.exc "NoClash").ok K = true
  e_NoClash_HouseError : PySem.W.exmOne K (.ref (ca K "NoClash")) (.ref (ca K "HouseError")) = some true
  e_NoClash_NoClash : PySem.W.exmOne K (.ref (ca K "NoClash")) (.ref (ca K "NoClash")) = some true
  xc_NoClash : ExcC K (ca K "NoClash")
  s_NoClash_NoAccount : PySem.W.kitOne K (.ref (ca K "NoClash")) (.ref (ca K "NoAccount")) = some false
  s_NoClash_NoClash : PySem.W.kitOne K (.ref (ca K "NoClash")) (.ref (ca K "NoClash")) = some true
  s_NoClash_NoCode : PySem.W.kitOne K (.ref (ca K "NoClash")) (.ref (ca K "NoCode")) = some false
  s_NoClash_NoLimit : PySem.W.kitOne K (.ref (ca K "NoClash")) (.ref (ca K "NoLimit")) = some false
  s_NoClash_NoNumber : PySem.W.kitOne K (.ref (ca K "NoClash")) (.ref (ca K "NoNumber")) = some false
  s_NoClash_NoPaper : PySem.W.kitOne K (.ref (ca K "NoClash")) (.ref (ca K "NoPaper")) = some false
  s_NoClash_NoRow : PySem.W.kitOne K (.ref (ca K "NoClash")) (.ref (ca K "NoRow")) = some false
  s_NoClash_NoSlot : PySem.W.kitOne K (.ref (ca K "NoClash")) (.ref (ca K "NoSlot")) = some false
  s_NoClash_PoorCoin : PySem.W.kitOne K (.ref (ca K "NoClash")) (.ref (ca K "PoorCoin")) = some false
  s_NoClash_PoorPurse : PySem.W.kitOne K (.ref (ca K "NoClash")) (.ref (ca K "PoorPurse")) = some false
  s_NoClash_Taken : PySem.W.kitOne K (.ref (ca K "NoClash")) (.ref (ca K "Taken")) = some false
  s_NoClash_TooMuch : PySem.W.kitOne K (.ref (ca K "NoClash")) (.ref (ca K "TooMuch")) = some false
  sb_NoClash_ValueError : PySem.W.kitOne K (.ref (ca K "NoClash")) (.type "ValueError") = some true
  d_mix : ∃ fd, FN_mix K fd
  d_stamp : ∃ fd, FN_stamp K fd
  d_pair_at : ∃ fd, FN_pair_at K fd
  d_climbed : ∃ fd, FN_climbed K fd
  d_risen : ∃ fd, FN_risen K fd
  d_fits : ∃ fd, FN_fits K fd
  d_top_of : ∃ fd, FN_top_of K fd
  d_folded : ∃ fd, FN_folded K fd
  d_pairs_down : ∃ fd, FN_pairs_down K fd
  d_clash : ∃ fd, FN_clash K fd
  d_l_cell_at : ∃ fd, FN_l_cell_at K fd
  d_l_mix : ∃ fd, FN_l_mix K fd
  d_l_top : ∃ fd, FN_l_top K fd
  d_l_told : ∃ fd, FN_l_told K fd
  d_l_found : ∃ fd, FN_l_found K fd
  d_l_refused_by_any : ∃ fd, FN_l_refused_by_any K fd
  d_l_inverse : ∃ fd, FN_l_inverse K fd
  d_l_solved : ∃ fd, FN_l_solved K fd
  d_l_raised : ∃ fd, FN_l_raised K fd
  d_l_spoilt : ∃ fd, FN_l_spoilt K fd
  d_law : ∃ fd, FN_law K fd
theorem hf_of {K : PySem.W.Frag} {h : Heap} {mg : Str → Option Value} (X : K.In h) (G : h.Ns mainGlobals mg) (c : SaysZ fas dfs exb K) : HF K mg :=
  ⟨He.free_ok X G (c.d.fact 0 (f := .free "ValueError") rfl),
   He.free_ok X G (c.d.fact 1 (f := .free "divmod") rfl),
   He.free_ok X G (c.d.fact 2 (f := .free "isinstance") rfl),
   He.free_ok X G (c.d.fact 3 (f := .free "len") rfl),
   He.free_ok X G (c.d.fact 4 (f := .free "list") rfl),
   He.free_ok X G (c.d.fact 5 (f := .free "min") rfl),
   He.free_ok X G (c.d.fact 6 (f := .free "range") rfl),
   He.free_ok X G (c.d.fact 7 (f := .free "reversed") rfl),
   He.free_ok X G (c.d.fact 8 (f := .free "tuple") rfl),
   He.free_ok X G (c.d.fact 9 (f := .free "zip") rfl),
   He.glo_ok X G (c.d.fact 10 (f := .glo "mix") rfl),
   He.glo_ok X G (c.d.fact 11 (f := .glo "stamp") rfl),
   He.glo_ok X G (c.d.fact 12 (f := .glo "pair_at") rfl),
   He.glo_ok X G (c.d.fact 13 (f := .glo "climbed") rfl),
   He.glo_ok X G (c.d.fact 14 (f := .glo "risen") rfl),
   He.glo_ok X G (c.d.fact 15 (f := .glo "fits") rfl),
   He.glo_ok X G (c.d.fact 16 (f := .glo "top_of") rfl),
   He.glo_ok X G (c.d.fact 17 (f := .glo "folded") rfl),
   He.glo_ok X G (c.d.fact 18 (f := .glo "pairs_down") rfl),
   He.glo_ok X G (c.d.fact 19 (f := .glo "clash") rfl),
   He.glo_ok X G (c.d.fact 20 (f := .glo "_law_cell_at") rfl),
   He.glo_ok X G (c.d.fact 21 (f := .glo "_law_mix") rfl),
   He.glo_ok X G (c.d.fact 22 (f := .glo "_law_top") rfl),
   He.glo_ok X G (c.d.fact 23 (f := .glo "_law_told") rfl),
   He.glo_ok X G (c.d.fact 24 (f := .glo "_law_found") rfl),
   He.glo_ok X G (c.d.fact 25 (f := .glo "_law_refused_by_any") rfl),
   He.glo_ok X G (c.d.fact 26 (f := .glo "_law_inverse") rfl),
   He.glo_ok X G (c.d.fact 27 (f := .glo "_law_solved") rfl),
   He.glo_ok X G (c.d.fact 28 (f := .glo "_law_raised") rfl),
   He.glo_ok X G (c.d.fact 29 (f := .glo "_law_spoilt") rfl),
   He.glo_ok X G (c.d.fact 30 (f := .glo "law") rfl),
   He.glo_ok X G (c.d.fact 31 (f := .glo "HouseError") rfl),
   He.glo_ok X G (c.d.fact 32 (f := .glo "NoAccount") rfl),
   He.glo_ok X G (c.d.fact 33 (f := .glo "NoClash") rfl),
   He.glo_ok X G (c.d.fact 34 (f := .glo "NoCode") rfl),
   He.glo_ok X G (c.d.fact 35 (f := .glo "NoLimit") rfl),
   He.glo_ok X G (c.d.fact 36 (f := .glo "NoNumber") rfl),
   He.glo_ok X G (c.d.fact 37 (f := .glo "NoPaper") rfl),
   He.glo_ok X G (c.d.fact 38 (f := .glo "NoRow") rfl),
   He.glo_ok X G (c.d.fact 39 (f := .glo "NoSlot") rfl),
   He.glo_ok X G (c.d.fact 40 (f := .glo "PoorCoin") rfl),
   He.glo_ok X G (c.d.fact 41 (f := .glo "PoorPurse") rfl),
   He.glo_ok X G (c.d.fact 42 (f := .glo "Taken") rfl),
   He.glo_ok X G (c.d.fact 43 (f := .glo "TooMuch") rfl),
   says_int X G (c.d.fact 44 (f := .int "MIX" 2305843009213693951) rfl),
   c.d.fact 45 (f := .exc "NoClash") rfl,
   of_decide_eq_true ((He.ba (He.ba (He.ba (He.ba (He.ba (He.ba (He.ba (He.ba (He.ba (He.ba (He.ba (He.ba (He.ba (He.ba (He.ba c.more).1).1).1).1).1).1).1).1).1).1).1).1).1).1).1),
   of_decide_eq_true ((He.ba (He.ba (He.ba (He.ba (He.ba (He.ba (He.ba (He.ba (He.ba (He.ba (He.ba (He.ba (He.ba (He.ba (He.ba c.more).1).1).1).1).1).1).1).1).1).1).1).1).1).1).2),
   excC_ok ((He.ba (He.ba (He.ba (He.ba (He.ba (He.ba (He.ba (He.ba (He.ba (He.ba (He.ba (He.ba (He.ba (He.ba c.more).1).1).1).1).1).1).1).1).1).1).1).1).1).2),
   of_decide_eq_true ((He.ba (He.ba (He.ba (He.ba (He.ba (He.ba (He.ba (He.ba (He.ba (He.ba (He.ba (He.ba (He.ba c.more).1).1).1).1).1).1).1).1).1).1).1).1).2),
   of_decide_eq_true ((He.ba (He.ba (He.ba (He.ba (He.ba (He.ba (He.ba (He.ba (He.ba (He.ba (He.ba (He.ba c.more).1).1).1).1).1).1).1).1).1).1).1).2),
   of_decide_eq_true ((He.ba (He.ba (He.ba (He.ba (He.ba (He.ba (He.ba (He.ba (He.ba (He.ba (He.ba c.more).1).1).1).1).1).1).1).1).1).1).2),
   of_decide_eq_true ((He.ba (He.ba (He.ba (He.ba (He.ba (He.ba (He.ba (He.ba (He.ba (He.ba c.more).1).1).1).1).1).1).1).1).1).2),
   of_decide_eq_true ((He.ba (He.ba (He.ba (He.ba (He.ba (He.ba (He.ba (He.ba (He.ba c.more).1).1).1).1).1).1).1).1).2),
   of_decide_eq_true ((He.ba (He.ba (He.ba (He.ba (He.ba (He.ba (He.ba (He.ba c.more).1).1).1).1).1).1).1).2),
   of_decide_eq_true ((He.ba (He.ba (He.ba (He.ba (He.ba (He.ba (He.ba c.more).1).1).1).1).1).1).2),
   of_decide_eq_true ((He.ba (He.ba (He.ba (He.ba (He.ba (He.ba c.more).1).1).1).1).1).2),
   of_decide_eq_true ((He.ba (He.ba (He.ba (He.ba (He.ba c.more).1).1).1).1).2),
   of_decide_eq_true ((He.ba (He.ba (He.ba (He.ba c.more).1).1).1).2),
   of_decide_eq_true ((He.ba (He.ba (He.ba c.more).1).1).2),
   of_decide_eq_true ((He.ba (He.ba c.more).1).2),
   of_decide_eq_true ((He.ba c.more).2),
   c.d.def_ 0 (d := df_mix) rfl,
   c.d.def_ 1 (d := df_stamp) rfl,
   c.d.def_ 2 (d := df_pair_at) rfl,
   c.d.def_ 3 (d := df_climbed) rfl,
   c.d.def_ 4 (d := df_risen) rfl,
   c.d.def_ 5 (d := df_fits) rfl,
   c.d.def_ 6 (d := df_top_of) rfl,
   c.d.def_ 7 (d := df_folded) rfl,
   c.d.def_ 8 (d := df_pairs_down) rfl,
   c.d.def_ 9 (d := df_clash) rfl,
   c.d.def_ 10 (d := df_l_cell_at) rfl,
   c.d.def_ 11 (d := df_l_mix) rfl,
   c.d.def_ 12 (d := df_l_top) rfl,
   c.d.def_ 13 (d := df_l_told) rfl,
   c.d.def_ 14 (d := df_l_found) rfl,
   c.d.def_ 15 (d := df_l_refused_by_any) rfl,
   c.d.def_ 16 (d := df_l_inverse) rfl,
   c.d.def_ 17 (d := df_l_solved) rfl,
   c.d.def_ 18 (d := df_l_raised) rfl,
   c.d.def_ 19 (d := df_l_spoilt) rfl,
   c.d.def_ 20 (d := df_law) rfl⟩
theorem facts {K : PySem.W.Frag} {mg : Str → Option Value} (T : HF K mg) : Facts PR K (gv K) where
  con := by
    intro x d h r n H
    simp only [PR] at h
    split at h
    · cases h; exact .int _
    · cases h
  tup := by
    intro x xs h H
    simp only [PR] at h
    split at h
    · cases h
    · cases h
  fld := fun _ _ h => nomatch h
  sub := fun _ _ _ h => nomatch h
  exm := by
    intro k cm b h
    simp only [PR] at h
    split at h
    · cases h; exact T.e_NoClash_HouseError
    · cases h; exact T.e_NoClash_NoClash
    · cases h
  exs := by
    intro k cm b h
    simp only [PR] at h
    split at h
    · cases h; exact ⟨T.xc_NoClash, T.s_NoClash_NoAccount⟩
    · cases h; exact ⟨T.xc_NoClash, T.s_NoClash_NoClash⟩
    · cases h; exact ⟨T.xc_NoClash, T.s_NoClash_NoCode⟩
    · cases h; exact ⟨T.xc_NoClash, T.s_NoClash_NoLimit⟩
    · cases h; exact ⟨T.xc_NoClash, T.s_NoClash_NoNumber⟩
    · cases h; exact ⟨T.xc_NoClash, T.s_NoClash_NoPaper⟩
    · cases h; exact ⟨T.xc_NoClash, T.s_NoClash_NoRow⟩
    · cases h; exact ⟨T.xc_NoClash, T.s_NoClash_NoSlot⟩
    · cases h; exact ⟨T.xc_NoClash, T.s_NoClash_PoorCoin⟩
    · cases h; exact ⟨T.xc_NoClash, T.s_NoClash_PoorPurse⟩
    · cases h; exact ⟨T.xc_NoClash, T.s_NoClash_Taken⟩
    · cases h; exact ⟨T.xc_NoClash, T.s_NoClash_TooMuch⟩
    · cases h
  exb := by
    intro k cm b h
    simp only [PR] at h
    split at h
    · cases h; exact ⟨T.xc_NoClash, T.sb_NoClash_ValueError⟩
    · cases h
  nox := rfl
/-! ### each def, n calls deep -/
structure AL (P : Program) (w : World) (K : PySem.W.Frag) (mg : Str → Option Value) (base : Heap) (n : Nat) : Prop where
  mix : Cal P w K mg base (L2.CX P w) (2 * n) (He.fAd K ("mix", none)) ["one", "other"] [] (spR PR K n "mix")
  stamp : Cal P w K mg base (L2.CX P w) (2 * n) (He.fAd K ("stamp", none)) ["numbers"] [] (spR PR K n "stamp")
  pair_at : Cal P w K mg base (L2.CX P w) (2 * n) (He.fAd K ("pair_at", none)) ["place", "leaf", "aside"] [] (spR PR K n "pair_at")
  climbed : Cal P w K mg base (L2.CX P w) (2 * n) (He.fAd K ("climbed", none)) ["place", "leaf", "way"] [] (spR PR K n "climbed")
  risen : Cal P w K mg base (L2.CX P w) (2 * n) (He.fAd K ("risen", none)) ["place", "leaf", "way"] [] (spR PR K n "risen")
  fits : Cal P w K mg base (L2.CX P w) (2 * n) (He.fAd K ("fits", none)) ["place", "way"] [] (spR PR K n "fits")
  top_of : Cal P w K mg base (L2.CX P w) (2 * n) (He.fAd K ("top_of", none)) ["paper"] [] (spR PR K n "top_of")
  folded : Cal P w K mg base (L2.CX P w) (2 * n) (He.fAd K ("folded", none)) ["numbers"] [] (spR PR K n "folded")
  pairs_down : Cal P w K mg base (L2.CX P w) (2 * n) (He.fAd K ("pairs_down", none)) ["paper"] [] (spR PR K n "pairs_down")
  clash : Cal P w K mg base (L2.CX P w) (2 * n) (He.fAd K ("clash", none)) ["one", "other"] [] (spR PR K n "clash")
  l_cell_at : Cal P w K mg base (L2.CX P w) (2 * n) (He.fAd K ("_law_cell_at", none)) ["_law_script", "_law_k"] [] (spR PR K n "_law_cell_at")
  l_mix : Cal P w K mg base (L2.CX P w) (2 * n) (He.fAd K ("_law_mix", none)) ["_law_one", "_law_other"] [] (spR PR K n "_law_mix")
  l_top : Cal P w K mg base (L2.CX P w) (2 * n) (He.fAd K ("_law_top", none)) ["_law_paper"] [] (spR PR K n "_law_top")
  l_told : Cal P w K mg base (L2.CX P w) (2 * n) (He.fAd K ("_law_told", none)) ["_law_one", "_law_other"] [] (spR PR K n "_law_told")
  l_found : Cal P w K mg base (L2.CX P w) (2 * n) (He.fAd K ("_law_found", none)) ["_law_one", "_law_other"] [] (spR PR K n "_law_found")
  l_refused_by_any : Cal P w K mg base (L2.CX P w) (2 * n) (He.fAd K ("_law_refused_by_any", none)) ["_law_one", "_law_other"] [] (spR PR K n "_law_refused_by_any")
  l_inverse : Cal P w K mg base (L2.CX P w) (2 * n) (He.fAd K ("_law_inverse", none)) ["_law_number"] [] (spR PR K n "_law_inverse")
  l_solved : Cal P w K mg base (L2.CX P w) (2 * n) (He.fAd K ("_law_solved", none)) ["_law_number", "_law_due"] [] (spR PR K n "_law_solved")
  l_raised : Cal P w K mg base (L2.CX P w) (2 * n) (He.fAd K ("_law_raised", none)) ["_law_numbers", "_law_spot", "_law_step"] [] (spR PR K n "_law_raised")
  l_spoilt : Cal P w K mg base (L2.CX P w) (2 * n) (He.fAd K ("_law_spoilt", none)) ["_law_one", "_law_other", "_law_kind", "_law_spot"] [] (spR PR K n "_law_spoilt")
  law : Cal P w K mg base (L2.CX P w) (2 * n) (He.fAd K ("law", none)) ["_law_script"] [] (spR PR K n "law")
theorem cal_mix {P : Program} {w : World} {K : PySem.W.Frag} {mg : Str → Option Value} {base : Heap} (T : HF K mg) {k : Nat} {sp : Sp} (h : ∀ fd, FN_mix K fd → FnOk P w K mg base (L2.CX P w) k (He.fAd K ("mix", none)) fd ["one", "other"] sp) : Cal P w K mg base (L2.CX P w) (k) (He.fAd K ("mix", none)) ["one", "other"] [] (sp) := by
  obtain ⟨fd, F⟩ := T.d_mix
  exact cal_of F (h fd F) (fun _ _ _ _ _ _ us hl => match us, hl with | [_, _], _ => rfl)
theorem cal_stamp {P : Program} {w : World} {K : PySem.W.Frag} {mg : Str → Option Value} {base : Heap} (T : HF K mg) {k : Nat} {sp : Sp} (h : ∀ fd, FN_stamp K fd → FnOk P w K mg base (L2.CX P w) k (He.fAd K ("stamp", none)) fd ["numbers"] sp) : Cal P w K mg base (L2.CX P w) (k) (He.fAd K ("stamp", none)) ["numbers"] [] (sp) := by
  obtain ⟨fd, F⟩ := T.d_stamp
  exact cal_of F (h fd F) (fun _ _ _ _ _ _ us hl => match us, hl with | [_], _ => rfl)
theorem cal_pair_at {P : Program} {w : World} {K : PySem.W.Frag} {mg : Str → Option Value} {base : Heap} (T : HF K mg) {k : Nat} {sp : Sp} (h : ∀ fd, FN_pair_at K fd → FnOk P w K mg base (L2.CX P w) k (He.fAd K ("pair_at", none)) fd ["place", "leaf", "aside"] sp) : Cal P w K mg base (L2.CX P w) (k) (He.fAd K ("pair_at", none)) ["place", "leaf", "aside"] [] (sp) := by
  obtain ⟨fd, F⟩ := T.d_pair_at
  exact cal_of F (h fd F) (fun _ _ _ _ _ _ us hl => match us, hl with | [_, _, _], _ => rfl)
theorem cal_climbed {P : Program} {w : World} {K : PySem.W.Frag} {mg : Str → Option Value} {base : Heap} (T : HF K mg) {k : Nat} {sp : Sp} (h : ∀ fd, FN_climbed K fd → FnOk P w K mg base (L2.CX P w) k (He.fAd K ("climbed", none)) fd ["place", "leaf", "way"] sp) : Cal P w K mg base (L2.CX P w) (k) (He.fAd K ("climbed", none)) ["place", "leaf", "way"] [] (sp) := by
  obtain ⟨fd, F⟩ := T.d_climbed
  exact cal_of F (h fd F) (fun _ _ _ _ _ _ us hl => match us, hl with | [_, _, _], _ => rfl)
theorem cal_risen {P : Program} {w : World} {K : PySem.W.Frag} {mg : Str → Option Value} {base : Heap} (T : HF K mg) {k : Nat} {sp : Sp} (h : ∀ fd, FN_risen K fd → FnOk P w K mg base (L2.CX P w) k (He.fAd K ("risen", none)) fd ["place", "leaf", "way"] sp) : Cal P w K mg base (L2.CX P w) (k) (He.fAd K ("risen", none)) ["place", "leaf", "way"] [] (sp) := by
  obtain ⟨fd, F⟩ := T.d_risen
  exact cal_of F (h fd F) (fun _ _ _ _ _ _ us hl => match us, hl with | [_, _, _], _ => rfl)
theorem cal_fits {P : Program} {w : World} {K : PySem.W.Frag} {mg : Str → Option Value} {base : Heap} (T : HF K mg) {k : Nat} {sp : Sp} (h : ∀ fd, FN_fits K fd → FnOk P w K mg base (L2.CX P w) k (He.fAd K ("fits", none)) fd ["place", "way"] sp) : Cal P w K mg base (L2.CX P w) (k) (He.fAd K ("fits", none)) ["place", "way"] [] (sp) := by
  obtain ⟨fd, F⟩ := T.d_fits
  exact cal_of F (h fd F) (fun _ _ _ _ _ _ us hl => match us, hl with | [_, _], _ => rfl)
theorem cal_top_of {P : Program} {w : World} {K : PySem.W.Frag} {mg : Str → Option Value} {base : Heap} (T : HF K mg) {k : Nat} {sp : Sp} (h : ∀ fd, FN_top_of K fd → FnOk P w K mg base (L2.CX P w) k (He.fAd K ("top_of", none)) fd ["paper"] sp) : Cal P w K mg base (L2.CX P w) (k) (He.fAd K ("top_of", none)) ["paper"] [] (sp) := by
  obtain ⟨fd, F⟩ := T.d_top_of
  exact cal_of F (h fd F) (fun _ _ _ _ _ _ us hl => match us, hl with | [_], _ => rfl)
theorem cal_folded {P : Program} {w : World} {K : PySem.W.Frag} {mg : Str → Option Value} {base : Heap} (T : HF K mg) {k : Nat} {sp : Sp} (h : ∀ fd, FN_folded K fd → FnOk P w K mg base (L2.CX P w) k (He.fAd K ("folded", none)) fd ["numbers"] sp) : Cal P w K mg base (L2.CX P w) (k) (He.fAd K ("folded", none)) ["numbers"] [] (sp) := by
  obtain ⟨fd, F⟩ := T.d_folded
  exact cal_of F (h fd F) (fun _ _ _ _ _ _ us hl => match us, hl with | [_], _ => rfl)
theorem cal_pairs_down {P : Program} {w : World} {K : PySem.W.Frag} {mg : Str → Option Value} {base : Heap} (T : HF K mg) {k : Nat} {sp : Sp} (h : ∀ fd, FN_pairs_down K fd → FnOk P w K mg base (L2.CX P w) k (He.fAd K ("pairs_down", none)) fd ["paper"] sp) : Cal P w K mg base (L2.CX P w) (k) (He.fAd K ("pairs_down", none)) ["paper"] [] (sp) := by
  obtain ⟨fd, F⟩ := T.d_pairs_down
  exact cal_of F (h fd F) (fun _ _ _ _ _ _ us hl => match us, hl with | [_], _ => rfl)
theorem cal_clash {P : Program} {w : World} {K : PySem.W.Frag} {mg : Str → Option Value} {base : Heap} (T : HF K mg) {k : Nat} {sp : Sp} (h : ∀ fd, FN_clash K fd → FnOk P w K mg base (L2.CX P w) k (He.fAd K ("clash", none)) fd ["one", "other"] sp) : Cal P w K mg base (L2.CX P w) (k) (He.fAd K ("clash", none)) ["one", "other"] [] (sp) := by
  obtain ⟨fd, F⟩ := T.d_clash
  exact cal_of F (h fd F) (fun _ _ _ _ _ _ us hl => match us, hl with | [_, _], _ => rfl)
theorem cal_l_cell_at {P : Program} {w : World} {K : PySem.W.Frag} {mg : Str → Option Value} {base : Heap} (T : HF K mg) {k : Nat} {sp : Sp} (h : ∀ fd, FN_l_cell_at K fd → FnOk P w K mg base (L2.CX P w) k (He.fAd K ("_law_cell_at", none)) fd ["_law_script", "_law_k"] sp) : Cal P w K mg base (L2.CX P w) (k) (He.fAd K ("_law_cell_at", none)) ["_law_script", "_law_k"] [] (sp) := by
  obtain ⟨fd, F⟩ := T.d_l_cell_at
  exact cal_of F (h fd F) (fun _ _ _ _ _ _ us hl => match us, hl with | [_, _], _ => rfl)
theorem cal_l_mix {P : Program} {w : World} {K : PySem.W.Frag} {mg : Str → Option Value} {base : Heap} (T : HF K mg) {k : Nat} {sp : Sp} (h : ∀ fd, FN_l_mix K fd → FnOk P w K mg base (L2.CX P w) k (He.fAd K ("_law_mix", none)) fd ["_law_one", "_law_other"] sp) : Cal P w K mg base (L2.CX P w) (k) (He.fAd K ("_law_mix", none)) ["_law_one", "_law_other"] [] (sp) := by
  obtain ⟨fd, F⟩ := T.d_l_mix
  exact cal_of F (h fd F) (fun _ _ _ _ _ _ us hl => match us, hl with | [_, _], _ => rfl)
theorem cal_l_top {P : Program} {w : World} {K : PySem.W.Frag} {mg : Str → Option Value} {base : Heap} (T : HF K mg) {k : Nat} {sp : Sp} (h : ∀ fd, FN_l_top K fd → FnOk P w K mg base (L2.CX P w) k (He.fAd K ("_law_top", none)) fd ["_law_paper"] sp) : Cal P w K mg base (L2.CX P w) (k) (He.fAd K ("_law_top", none)) ["_law_paper"] [] (sp) := by
  obtain ⟨fd, F⟩ := T.d_l_top
  exact cal_of F (h fd F) (fun _ _ _ _ _ _ us hl => match us, hl with | [_], _ => rfl)
theorem cal_l_told {P : Program} {w : World} {K : PySem.W.Frag} {mg : Str → Option Value} {base : Heap} (T : HF K mg) {k : Nat} {sp : Sp} (h : ∀ fd, FN_l_told K fd → FnOk P w K mg base (L2.CX P w) k (He.fAd K ("_law_told", none)) fd ["_law_one", "_law_other"] sp) : Cal P w K mg base (L2.CX P w) (k) (He.fAd K ("_law_told", none)) ["_law_one", "_law_other"] [] (sp) := by
  obtain ⟨fd, F⟩ := T.d_l_told
  exact cal_of F (h fd F) (fun _ _ _ _ _ _ us hl => match us, hl with | [_, _], _ => rfl)
theorem cal_l_found {P : Program} {w : World} {K : PySem.W.Frag} {mg : Str → Option Value} {base : Heap} (T : HF K mg) {k : Nat} {sp : Sp} (h : ∀ fd, FN_l_found K fd → FnOk P w K mg base (L2.CX P w) k (He.fAd K ("_law_found", none)) fd ["_law_one", "_law_other"] sp) : Cal P w K mg base (L2.CX P w) (k) (He.fAd K ("_law_found", none)) ["_law_one", "_law_other"] [] (sp) := by
  obtain ⟨fd, F⟩ := T.d_l_found
  exact cal_of F (h fd F) (fun _ _ _ _ _ _ us hl => match us, hl with | [_, _], _ => rfl)
theorem cal_l_refused_by_any {P : Program} {w : World} {K : PySem.W.Frag} {mg : Str → Option Value} {base : Heap} (T : HF K mg) {k : Nat} {sp : Sp} (h : ∀ fd, FN_l_refused_by_any K fd → FnOk P w K mg base (L2.CX P w) k (He.fAd K ("_law_refused_by_any", none)) fd ["_law_one", "_law_other"] sp) : Cal P w K mg base (L2.CX P w) (k) (He.fAd K ("_law_refused_by_any", none)) ["_law_one", "_law_other"] [] (sp) := by
  obtain ⟨fd, F⟩ := T.d_l_refused_by_any
  exact cal_of F (h fd F) (fun _ _ _ _ _ _ us hl => match us, hl with | [_, _], _ => rfl)
theorem cal_l_inverse {P : Program} {w : World} {K : PySem.W.Frag} {mg : Str → Option Value} {base : Heap} (T : HF K mg) {k : Nat} {sp : Sp} (h : ∀ fd, FN_l_inverse K fd → FnOk P w K mg base (L2.CX P w) k (He.fAd K ("_law_inverse", none)) fd ["_law_number"] sp) : Cal P w K mg base (L2.CX P w) (k) (He.fAd K ("_law_inverse", none)) ["_law_number"] [] (sp) := by
  obtain ⟨fd, F⟩ := T.d_l_inverse
  exact cal_of F (h fd F) (fun _ _ _ _ _ _ us hl => match us, hl with | [_], _ => rfl)
theorem cal_l_solved {P : Program} {w : World} {K : PySem.W.Frag} {mg : Str → Option Value} {base : Heap} (T : HF K mg) {k : Nat} {sp : Sp} (h : ∀ fd, FN_l_solved K fd → FnOk P w K mg base (L2.CX P w) k (He.fAd K ("_law_solved", none)) fd ["_law_number", "_law_due"] sp) : Cal P w K mg base (L2.CX P w) (k) (He.fAd K ("_law_solved", none)) ["_law_number", "_law_due"] [] (sp) := by
  obtain ⟨fd, F⟩ := T.d_l_solved
  exact cal_of F (h fd F) (fun _ _ _ _ _ _ us hl => match us, hl with | [_, _], _ => rfl)
theorem cal_l_raised {P : Program} {w : World} {K : PySem.W.Frag} {mg : Str → Option Value} {base : Heap} (T : HF K mg) {k : Nat} {sp : Sp} (h : ∀ fd, FN_l_raised K fd → FnOk P w K mg base (L2.CX P w) k (He.fAd K ("_law_raised", none)) fd ["_law_numbers", "_law_spot", "_law_step"] sp) : Cal P w K mg base (L2.CX P w) (k) (He.fAd K ("_law_raised", none)) ["_law_numbers", "_law_spot", "_law_step"] [] (sp) := by
  obtain ⟨fd, F⟩ := T.d_l_raised
  exact cal_of F (h fd F) (fun _ _ _ _ _ _ us hl => match us, hl with | [_, _, _], _ => rfl)
theorem cal_l_spoilt {P : Program} {w : World} {K : PySem.W.Frag} {mg : Str → Option Value} {base : Heap} (T : HF K mg) {k : Nat} {sp : Sp} (h : ∀ fd, FN_l_spoilt K fd → FnOk P w K mg base (L2.CX P w) k (He.fAd K ("_law_spoilt", none)) fd ["_law_one", "_law_other", "_law_kind", "_law_spot"] sp) : Cal P w K mg base (L2.CX P w) (k) (He.fAd K ("_law_spoilt", none)) ["_law_one", "_law_other", "_law_kind", "_law_spot"] [] (sp) := by
  obtain ⟨fd, F⟩ := T.d_l_spoilt
  exact cal_of F (h fd F) (fun _ _ _ _ _ _ us hl => match us, hl with | [_, _, _, _], _ => rfl)
theorem cal_law {P : Program} {w : World} {K : PySem.W.Frag} {mg : Str → Option Value} {base : Heap} (T : HF K mg) {k : Nat} {sp : Sp} (h : ∀ fd, FN_law K fd → FnOk P w K mg base (L2.CX P w) k (He.fAd K ("law", none)) fd ["_law_script"] sp) : Cal P w K mg base (L2.CX P w) (k) (He.fAd K ("law", none)) ["_law_script"] [] (sp) := by
  obtain ⟨fd, F⟩ := T.d_law
  exact cal_of F (h fd F) (fun _ _ _ _ _ _ us hl => match us, hl with | [_], _ => rfl)
theorem ok_mix {P : Program} {w : World} {K : PySem.W.Frag} {mg : Str → Option Value} {base : Heap} {n : Nat} (T : HF K mg) (A : AL P w K mg base n) {fd : FuncData} (F : FN_mix K fd) : FnOk P w K mg base (L2.CX P w) (2 * (n + 1)) (He.fAd K ("mix", none)) fd ["one", "other"] (spR PR K (n + 1) "mix") :=
  F.ok (k := 2 * n + 1) sc_mix (fun _ _ _ _ h => spR_len fn_mix h) fun cdv A0 outer s H vs Q E hr1 h => by
    have hr : Room (2 * n) (A0.deeper (envOfC "mix" (defScope st_mix) s.heap.objs.size (He.fAd K ("mix", none)) cdv)) := hr1.mono (Nat.le_succ _)
    have hu := hr.units
    have nd := sc_mix.nd
    have zo : PassesOwn (model P w) (cxOf (L2.CX P w) P w K mg base ["one", "other"] "mix" (defScope st_mix) (He.fAd K ("mix", none)) cdv A0 outer s H E).A (cxOf (L2.CX P w) P w K mg base ["one", "other"] "mix" (defScope st_mix) (He.fAd K ("mix", none)) cdv A0 outer s H E).env (cxOf (L2.CX P w) P w K mg base ["one", "other"] "mix" (defScope st_mix) (He.fAd K ("mix", none)) cdv A0 outer s H E).xe := passes_of rfl
    have zt : Takes (cxOf (L2.CX P w) P w K mg base ["one", "other"] "mix" (defScope st_mix) (He.fAd K ("mix", none)) cdv A0 outer s H E) (fun cls d _ H => E cls d H) := takes_of rfl rfl rfl rfl
    exact ⟨rdS (rc PR K (gv K) n fun cls d _ H => E cls d H) F_mix.body, (pss_one (ps_ret (pe_op z_mod (pe_op z_add (pe_op z_add (pe_op z_mul (pe_int) (pv 0)) (pe_op z_mul (pe_int) (pv 1))) (pe_int)) (zglo T.k_MIX)))), body_ok (facts T) fn_mix rfl h⟩
theorem ok_stamp {P : Program} {w : World} {K : PySem.W.Frag} {mg : Str → Option Value} {base : Heap} {n : Nat} (T : HF K mg) (A : AL P w K mg base n) {fd : FuncData} (F : FN_stamp K fd) : FnOk P w K mg base (L2.CX P w) (2 * (n + 1)) (He.fAd K ("stamp", none)) fd ["numbers"] (spR PR K (n + 1) "stamp") :=
  F.ok (k := 2 * n + 1) sc_stamp (fun _ _ _ _ h => spR_len fn_stamp h) fun cdv A0 outer s H vs Q E hr1 h => by
    have hr : Room (2 * n) (A0.deeper (envOfC "stamp" (defScope st_stamp) s.heap.objs.size (He.fAd K ("stamp", none)) cdv)) := hr1.mono (Nat.le_succ _)
    have hu := hr.units
    have nd := sc_stamp.nd
    have zo : PassesOwn (model P w) (cxOf (L2.CX P w) P w K mg base ["numbers", "found", "number"] "stamp" (defScope st_stamp) (He.fAd K ("stamp", none)) cdv A0 outer s H E).A (cxOf (L2.CX P w) P w K mg base ["numbers", "found", "number"] "stamp" (defScope st_stamp) (He.fAd K ("stamp", none)) cdv A0 outer s H E).env (cxOf (L2.CX P w) P w K mg base ["numbers", "found", "number"] "stamp" (defScope st_stamp) (He.fAd K ("stamp", none)) cdv A0 outer s H E).xe := passes_of rfl
    have zt : Takes (cxOf (L2.CX P w) P w K mg base ["numbers", "found", "number"] "stamp" (defScope st_stamp) (He.fAd K ("stamp", none)) cdv A0 outer s H E) (fun cls d _ H => E cls d H) := takes_of rfl rfl rfl rfl
    exact ⟨rdS (rc PR K (gv K) n fun cls d _ H => E cls d H) F_stamp.body, (pss_cons (zset 1 nd (pe_int)) (pss_cons (ps_for zo rfl (zi_seq (pv 0)) (znm 2 nd) (pss_one (zset 1 nd (zcall (A.mix) hr rfl T.g_mix zpD (pa_cons (pv 1) (pa_cons (pv 2) (pa_nil))))))) (pss_one (ps_ret (zcall (A.mix) hr rfl T.g_mix zpD (pa_cons (pv 1) (pa_cons (zb_len rfl T.b_len (pa_cons (pv 0) (pa_nil))) (pa_nil)))))))), body_ok (facts T) fn_stamp rfl h⟩
theorem ok_pair_at {P : Program} {w : World} {K : PySem.W.Frag} {mg : Str → Option Value} {base : Heap} {n : Nat} (T : HF K mg) (A : AL P w K mg base n) {fd : FuncData} (F : FN_pair_at K fd) : FnOk P w K mg base (L2.CX P w) (2 * (n + 1)) (He.fAd K ("pair_at", none)) fd ["place", "leaf", "aside"] (spR PR K (n + 1) "pair_at") :=
  F.ok (k := 2 * n + 1) sc_pair_at (fun _ _ _ _ h => spR_len fn_pair_at h) fun cdv A0 outer s H vs Q E hr1 h => by
    have hr : Room (2 * n) (A0.deeper (envOfC "pair_at" (defScope st_pair_at) s.heap.objs.size (He.fAd K ("pair_at", none)) cdv)) := hr1.mono (Nat.le_succ _)
    have hu := hr.units
    have nd := sc_pair_at.nd
    have zo : PassesOwn (model P w) (cxOf (L2.CX P w) P w K mg base ["place", "leaf", "aside"] "pair_at" (defScope st_pair_at) (He.fAd K ("pair_at", none)) cdv A0 outer s H E).A (cxOf (L2.CX P w) P w K mg base ["place", "leaf", "aside"] "pair_at" (defScope st_pair_at) (He.fAd K ("pair_at", none)) cdv A0 outer s H E).env (cxOf (L2.CX P w) P w K mg base ["place", "leaf", "aside"] "pair_at" (defScope st_pair_at) (He.fAd K ("pair_at", none)) cdv A0 outer s H E).xe := passes_of rfl
    have zt : Takes (cxOf (L2.CX P w) P w K mg base ["place", "leaf", "aside"] "pair_at" (defScope st_pair_at) (He.fAd K ("pair_at", none)) cdv A0 outer s H E) (fun cls d _ H => E cls d H) := takes_of rfl rfl rfl rfl
    exact ⟨rdS (rc PR K (gv K) n fun cls d _ H => E cls d H) F_pair_at.body, (pss_cons (ps_if (pt_cmpR (z_eq hu) (pe_op z_mod (pv 0) (pe_int)) (pe_int) (nomark _)) (pss_one (ps_ret (pe_tup (pa_cons (pv 1) (pa_cons (pv 2) (pa_nil)))))) (pss_nil)) (pss_one (ps_ret (pe_tup (pa_cons (pv 2) (pa_cons (pv 1) (pa_nil))))))), body_ok (facts T) fn_pair_at rfl h⟩
theorem ok_climbed {P : Program} {w : World} {K : PySem.W.Frag} {mg : Str → Option Value} {base : Heap} {n : Nat} (T : HF K mg) (A : AL P w K mg base n) {fd : FuncData} (F : FN_climbed K fd) : FnOk P w K mg base (L2.CX P w) (2 * (n + 1)) (He.fAd K ("climbed", none)) fd ["place", "leaf", "way"] (spR PR K (n + 1) "climbed") :=
  F.ok (k := 2 * n + 1) sc_climbed (fun _ _ _ _ h => spR_len fn_climbed h) fun cdv A0 outer s H vs Q E hr1 h => by
    have hr : Room (2 * n) (A0.deeper (envOfC "climbed" (defScope st_climbed) s.heap.objs.size (He.fAd K ("climbed", none)) cdv)) := hr1.mono (Nat.le_succ _)
    have hu := hr.units
    have nd := sc_climbed.nd
    have zo : PassesOwn (model P w) (cxOf (L2.CX P w) P w K mg base ["place", "leaf", "way", "found", "aside", "pair"] "climbed" (defScope st_climbed) (He.fAd K ("climbed", none)) cdv A0 outer s H E).A (cxOf (L2.CX P w) P w K mg base ["place", "leaf", "way", "found", "aside", "pair"] "climbed" (defScope st_climbed) (He.fAd K ("climbed", none)) cdv A0 outer s H E).env (cxOf (L2.CX P w) P w K mg base ["place", "leaf", "way", "found", "aside", "pair"] "climbed" (defScope st_climbed) (He.fAd K ("climbed", none)) cdv A0 outer s H E).xe := passes_of rfl
    have zt : Takes (cxOf (L2.CX P w) P w K mg base ["place", "leaf", "way", "found", "aside", "pair"] "climbed" (defScope st_climbed) (He.fAd K ("climbed", none)) cdv A0 outer s H E) (fun cls d _ H => E cls d H) := takes_of rfl rfl rfl rfl
    exact ⟨rdS (rc PR K (gv K) n fun cls d _ H => E cls d H) F_climbed.body, (pss_cons (zset 3 nd (pe_lst (pa_nil))) (pss_cons (ps_for zo rfl (zi_seq (pv 2)) (znm 4 nd) (pss_cons (zset 5 nd (zcall (A.pair_at) hr rfl T.g_pair_at zpD (pa_cons (pv 0) (pa_cons (pv 1) (pa_cons (pv 4) (pa_nil)))))) (pss_cons (ps_expr (zm_append (pv 3) (pa_cons (pv 5) (pa_nil)))) (pss_cons (zset 1 nd (zcall (A.mix) hr rfl T.g_mix zpD (pa_cons (pe_ix ix_seq (pv 5) (pe_int) (fun _ _ => rfl)) (pa_cons (pe_ix ix_seq (pv 5) (pe_int) (fun _ _ => rfl)) (pa_nil))))) (pss_one (zset 0 nd (pe_op z_fdiv (pv 0) (pe_int)))))))) (pss_one (ps_ret (pv 3))))), body_ok (facts T) fn_climbed rfl h⟩
theorem ok_risen {P : Program} {w : World} {K : PySem.W.Frag} {mg : Str → Option Value} {base : Heap} {n : Nat} (T : HF K mg) (A : AL P w K mg base n) {fd : FuncData} (F : FN_risen K fd) : FnOk P w K mg base (L2.CX P w) (2 * (n + 1)) (He.fAd K ("risen", none)) fd ["place", "leaf", "way"] (spR PR K (n + 1) "risen") :=
  F.ok (k := 2 * n + 1) sc_risen (fun _ _ _ _ h => spR_len fn_risen h) fun cdv A0 outer s H vs Q E hr1 h => by
    have hr : Room (2 * n) (A0.deeper (envOfC "risen" (defScope st_risen) s.heap.objs.size (He.fAd K ("risen", none)) cdv)) := hr1.mono (Nat.le_succ _)
    have hu := hr.units
    have nd := sc_risen.nd
    have zo : PassesOwn (model P w) (cxOf (L2.CX P w) P w K mg base ["place", "leaf", "way", "aside", "pair"] "risen" (defScope st_risen) (He.fAd K ("risen", none)) cdv A0 outer s H E).A (cxOf (L2.CX P w) P w K mg base ["place", "leaf", "way", "aside", "pair"] "risen" (defScope st_risen) (He.fAd K ("risen", none)) cdv A0 outer s H E).env (cxOf (L2.CX P w) P w K mg base ["place", "leaf", "way", "aside", "pair"] "risen" (defScope st_risen) (He.fAd K ("risen", none)) cdv A0 outer s H E).xe := passes_of rfl
    have zt : Takes (cxOf (L2.CX P w) P w K mg base ["place", "leaf", "way", "aside", "pair"] "risen" (defScope st_risen) (He.fAd K ("risen", none)) cdv A0 outer s H E) (fun cls d _ H => E cls d H) := takes_of rfl rfl rfl rfl
    exact ⟨rdS (rc PR K (gv K) n fun cls d _ H => E cls d H) F_risen.body, (pss_cons (ps_for zo rfl (zi_seq (pv 2)) (znm 3 nd) (pss_cons (zset 4 nd (zcall (A.pair_at) hr rfl T.g_pair_at zpD (pa_cons (pv 0) (pa_cons (pv 1) (pa_cons (pv 3) (pa_nil)))))) (pss_cons (zset 1 nd (zcall (A.mix) hr rfl T.g_mix zpD (pa_cons (pe_ix ix_seq (pv 4) (pe_int) (fun _ _ => rfl)) (pa_cons (pe_ix ix_seq (pv 4) (pe_int) (fun _ _ => rfl)) (pa_nil))))) (pss_one (zset 0 nd (pe_op z_fdiv (pv 0) (pe_int))))))) (pss_one (ps_ret (pv 1)))), body_ok (facts T) fn_risen rfl h⟩
theorem ok_fits {P : Program} {w : World} {K : PySem.W.Frag} {mg : Str → Option Value} {base : Heap} {n : Nat} (T : HF K mg) (A : AL P w K mg base n) {fd : FuncData} (F : FN_fits K fd) : FnOk P w K mg base (L2.CX P w) (2 * (n + 1)) (He.fAd K ("fits", none)) fd ["place", "way"] (spR PR K (n + 1) "fits") :=
  F.ok (k := 2 * n + 1) sc_fits (fun _ _ _ _ h => spR_len fn_fits h) fun cdv A0 outer s H vs Q E hr1 h => by
    have hr : Room (2 * n) (A0.deeper (envOfC "fits" (defScope st_fits) s.heap.objs.size (He.fAd K ("fits", none)) cdv)) := hr1.mono (Nat.le_succ _)
    have hu := hr.units
    have nd := sc_fits.nd
    have zo : PassesOwn (model P w) (cxOf (L2.CX P w) P w K mg base ["place", "way", "aside"] "fits" (defScope st_fits) (He.fAd K ("fits", none)) cdv A0 outer s H E).A (cxOf (L2.CX P w) P w K mg base ["place", "way", "aside"] "fits" (defScope st_fits) (He.fAd K ("fits", none)) cdv A0 outer s H E).env (cxOf (L2.CX P w) P w K mg base ["place", "way", "aside"] "fits" (defScope st_fits) (He.fAd K ("fits", none)) cdv A0 outer s H E).xe := passes_of rfl
    have zt : Takes (cxOf (L2.CX P w) P w K mg base ["place", "way", "aside"] "fits" (defScope st_fits) (He.fAd K ("fits", none)) cdv A0 outer s H E) (fun cls d _ H => E cls d H) := takes_of rfl rfl rfl rfl
    exact ⟨rdS (rc PR K (gv K) n fun cls d _ H => E cls d H) F_fits.body, (pss_cons (ps_if (pt_cmpR (z_lt hu) (pv 0) (pe_int) (nomark _)) (pss_one (ps_ret (pe_bl))) (pss_nil)) (pss_cons (ps_for zo rfl (zi_seq (pv 1)) (znm 2 nd) (pss_one (zset 0 nd (pe_op z_fdiv (pv 0) (pe_int))))) (pss_one (ps_ret (pe_cmpR (z_eq hu) (pv 0) (pe_int) (nomark _)))))), body_ok (facts T) fn_fits rfl h⟩
theorem ok_top_of {P : Program} {w : World} {K : PySem.W.Frag} {mg : Str → Option Value} {base : Heap} {n : Nat} (T : HF K mg) (A : AL P w K mg base n) {fd : FuncData} (F : FN_top_of K fd) : FnOk P w K mg base (L2.CX P w) (2 * (n + 1)) (He.fAd K ("top_of", none)) fd ["paper"] (spR PR K (n + 1) "top_of") :=
  F.ok (k := 2 * n + 1) sc_top_of (fun _ _ _ _ h => spR_len fn_top_of h) fun cdv A0 outer s H vs Q E hr1 h => by
    have hr : Room (2 * n) (A0.deeper (envOfC "top_of" (defScope st_top_of) s.heap.objs.size (He.fAd K ("top_of", none)) cdv)) := hr1.mono (Nat.le_succ _)
    have hu := hr.units
    have nd := sc_top_of.nd
    have zo : PassesOwn (model P w) (cxOf (L2.CX P w) P w K mg base ["paper"] "top_of" (defScope st_top_of) (He.fAd K ("top_of", none)) cdv A0 outer s H E).A (cxOf (L2.CX P w) P w K mg base ["paper"] "top_of" (defScope st_top_of) (He.fAd K ("top_of", none)) cdv A0 outer s H E).env (cxOf (L2.CX P w) P w K mg base ["paper"] "top_of" (defScope st_top_of) (He.fAd K ("top_of", none)) cdv A0 outer s H E).xe := passes_of rfl
    have zt : Takes (cxOf (L2.CX P w) P w K mg base ["paper"] "top_of" (defScope st_top_of) (He.fAd K ("top_of", none)) cdv A0 outer s H E) (fun cls d _ H => E cls d H) := takes_of rfl rfl rfl rfl
    exact ⟨rdS (rc PR K (gv K) n fun cls d _ H => E cls d H) F_top_of.body, (pss_one (ps_ret (zcall (A.risen) hr rfl T.g_risen zpD (pa_cons (pe_ix ix_seq (pv 0) (pe_int) (fun _ _ => rfl)) (pa_cons (zcall (A.stamp) hr rfl T.g_stamp zpD (pa_cons (pe_ix ix_seq (pv 0) (pe_int) (fun _ _ => rfl)) (pa_nil))) (pa_cons (pe_ix ix_seq (pv 0) (pe_int) (fun _ _ => rfl)) (pa_nil))))))), body_ok (facts T) fn_top_of rfl h⟩
theorem ok_folded {P : Program} {w : World} {K : PySem.W.Frag} {mg : Str → Option Value} {base : Heap} {n : Nat} (T : HF K mg) (A : AL P w K mg base n) {fd : FuncData} (F : FN_folded K fd) : FnOk P w K mg base (L2.CX P w) (2 * (n + 1)) (He.fAd K ("folded", none)) fd ["numbers"] (spR PR K (n + 1) "folded") :=
  F.ok (k := 2 * n + 1) sc_folded (fun _ _ _ _ h => spR_len fn_folded h) fun cdv A0 outer s H vs Q E hr1 h => by
    have hr : Room (2 * n) (A0.deeper (envOfC "folded" (defScope st_folded) s.heap.objs.size (He.fAd K ("folded", none)) cdv)) := hr1.mono (Nat.le_succ _)
    have hu := hr.units
    have nd := sc_folded.nd
    have zo : PassesOwn (model P w) (cxOf (L2.CX P w) P w K mg base ["numbers", "found", "last", "number"] "folded" (defScope st_folded) (He.fAd K ("folded", none)) cdv A0 outer s H E).A (cxOf (L2.CX P w) P w K mg base ["numbers", "found", "last", "number"] "folded" (defScope st_folded) (He.fAd K ("folded", none)) cdv A0 outer s H E).env (cxOf (L2.CX P w) P w K mg base ["numbers", "found", "last", "number"] "folded" (defScope st_folded) (He.fAd K ("folded", none)) cdv A0 outer s H E).xe := passes_of rfl
    have zt : Takes (cxOf (L2.CX P w) P w K mg base ["numbers", "found", "last", "number"] "folded" (defScope st_folded) (He.fAd K ("folded", none)) cdv A0 outer s H E) (fun cls d _ H => E cls d H) := takes_of rfl rfl rfl rfl
    exact ⟨rdS (rc PR K (gv K) n fun cls d _ H => E cls d H) F_folded.body, (pss_cons (zset 1 nd (pe_lst (pa_nil))) (pss_cons (zset 2 nd (pe_int)) (pss_cons (ps_for zo rfl (zi_seq (pv 0)) (znm 3 nd) (pss_cons (ps_expr (zm_append (pv 1) (pa_cons (pe_tup (pa_cons (pv 2) (pa_cons (pv 3) (pa_nil)))) (pa_nil)))) (pss_one (zset 2 nd (zcall (A.mix) hr rfl T.g_mix zpD (pa_cons (pv 2) (pa_cons (pv 3) (pa_nil)))))))) (pss_cons (ps_expr (zm_append (pv 1) (pa_cons (pe_tup (pa_cons (pv 2) (pa_cons (zb_len rfl T.b_len (pa_cons (pv 0) (pa_nil))) (pa_nil)))) (pa_nil)))) (pss_one (ps_ret (pv 1))))))), body_ok (facts T) fn_folded rfl h⟩
theorem ok_pairs_down {P : Program} {w : World} {K : PySem.W.Frag} {mg : Str → Option Value} {base : Heap} {n : Nat} (T : HF K mg) (A : AL P w K mg base n) {fd : FuncData} (F : FN_pairs_down K fd) : FnOk P w K mg base (L2.CX P w) (2 * (n + 1)) (He.fAd K ("pairs_down", none)) fd ["paper"] (spR PR K (n + 1) "pairs_down") :=
  F.ok (k := 2 * n + 1) sc_pairs_down (fun _ _ _ _ h => spR_len fn_pairs_down h) fun cdv A0 outer s H vs Q E hr1 h => by
    have hr : Room (2 * n) (A0.deeper (envOfC "pairs_down" (defScope st_pairs_down) s.heap.objs.size (He.fAd K ("pairs_down", none)) cdv)) := hr1.mono (Nat.le_succ _)
    have hu := hr.units
    have nd := sc_pairs_down.nd
    have zo : PassesOwn (model P w) (cxOf (L2.CX P w) P w K mg base ["paper", "upwards"] "pairs_down" (defScope st_pairs_down) (He.fAd K ("pairs_down", none)) cdv A0 outer s H E).A (cxOf (L2.CX P w) P w K mg base ["paper", "upwards"] "pairs_down" (defScope st_pairs_down) (He.fAd K ("pairs_down", none)) cdv A0 outer s H E).env (cxOf (L2.CX P w) P w K mg base ["paper", "upwards"] "pairs_down" (defScope st_pairs_down) (He.fAd K ("pairs_down", none)) cdv A0 outer s H E).xe := passes_of rfl
    have zt : Takes (cxOf (L2.CX P w) P w K mg base ["paper", "upwards"] "pairs_down" (defScope st_pairs_down) (He.fAd K ("pairs_down", none)) cdv A0 outer s H E) (fun cls d _ H => E cls d H) := takes_of rfl rfl rfl rfl
    exact ⟨rdS (rc PR K (gv K) n fun cls d _ H => E cls d H) F_pairs_down.body, (pss_cons (zset 1 nd (pe_op z_add (zcall (A.folded) hr rfl T.g_folded zpD (pa_cons (pe_ix ix_seq (pv 0) (pe_int) (fun _ _ => rfl)) (pa_nil))) (zcall (A.climbed) hr rfl T.g_climbed zpD (pa_cons (pe_ix ix_seq (pv 0) (pe_int) (fun _ _ => rfl)) (pa_cons (zcall (A.stamp) hr rfl T.g_stamp zpD (pa_cons (pe_ix ix_seq (pv 0) (pe_int) (fun _ _ => rfl)) (pa_nil))) (pa_cons (pe_ix ix_seq (pv 0) (pe_int) (fun _ _ => rfl)) (pa_nil))))))) (pss_one (ps_ret (pe_lstRev rfl rfl T.b_list rfl T.b_reversed (pv 1))))), body_ok (facts T) fn_pairs_down rfl h⟩
theorem ok_clash {P : Program} {w : World} {K : PySem.W.Frag} {mg : Str → Option Value} {base : Heap} {n : Nat} (T : HF K mg) (A : AL P w K mg base n) {fd : FuncData} (F : FN_clash K fd) : FnOk P w K mg base (L2.CX P w) (2 * (n + 1)) (He.fAd K ("clash", none)) fd ["one", "other"] (spR PR K (n + 1) "clash") :=
  F.ok (k := 2 * n + 1) sc_clash (fun _ _ _ _ h => spR_len fn_clash h) fun cdv A0 outer s H vs Q E hr1 h => by
    have hr : Room (2 * n) (A0.deeper (envOfC "clash" (defScope st_clash) s.heap.objs.size (He.fAd K ("clash", none)) cdv)) := hr1.mono (Nat.le_succ _)
    have hu := hr.units
    have nd := sc_clash.nd
    have zo : PassesOwn (model P w) (cxOf (L2.CX P w) P w K mg base ["one", "other", "mine", "yours"] "clash" (defScope st_clash) (He.fAd K ("clash", none)) cdv A0 outer s H E).A (cxOf (L2.CX P w) P w K mg base ["one", "other", "mine", "yours"] "clash" (defScope st_clash) (He.fAd K ("clash", none)) cdv A0 outer s H E).env (cxOf (L2.CX P w) P w K mg base ["one", "other", "mine", "yours"] "clash" (defScope st_clash) (He.fAd K ("clash", none)) cdv A0 outer s H E).xe := passes_of rfl
    have zt : Takes (cxOf (L2.CX P w) P w K mg base ["one", "other", "mine", "yours"] "clash" (defScope st_clash) (He.fAd K ("clash", none)) cdv A0 outer s H E) (fun cls d _ H => E cls d H) := takes_of rfl rfl rfl rfl
    exact ⟨rdS (rc PR K (gv K) n fun cls d _ H => E cls d H) F_clash.body, (pss_cons (ps_if (PW.pt (pw_or (pt_cmpR (z_ne hu) (pe_ix ix_seq (pv 0) (pe_int) (fun _ _ => rfl)) (pe_ix ix_seq (pv 1) (pe_int) (fun _ _ => rfl)) (nomark _)) (pw_or (pt_cmpR (z_ne hu) (zb_len rfl T.b_len (pa_cons (pe_ix ix_seq (pv 0) (pe_int) (fun _ _ => rfl)) (pa_nil))) (zb_len rfl T.b_len (pa_cons (pe_ix ix_seq (pv 1) (pe_int) (fun _ _ => rfl)) (pa_nil))) (nomark _)) (pw_or1 (pt_cmpR (z_eq hu) (pe_ix ix_seq (pv 0) (pe_int) (fun _ _ => rfl)) (pe_ix ix_seq (pv 1) (pe_int) (fun _ _ => rfl)) (nomark _)))))) (pss_one (ps_raise rfl zt (pmk_own PySem.F.excBase_ValueError (He.exc_ok T.x_NoClash).1 T.g_NoClash (He.exc_ok T.x_NoClash).2.1 (raises_own (He.exc_ok T.x_NoClash).2.2.1 (He.exc_ok T.x_NoClash).2.2.2) rfl))) (pss_nil)) (pss_cons (ps_if (PW.pt (pw_or (pt_not (ztru (zcall (A.fits) hr rfl T.g_fits zpD (pa_cons (pe_ix ix_seq (pv 0) (pe_int) (fun _ _ => rfl)) (pa_cons (pe_ix ix_seq (pv 0) (pe_int) (fun _ _ => rfl)) (pa_nil)))))) (pw_or1 (pt_cmpR (z_ne hu) (zcall (A.top_of) hr rfl T.g_top_of zpD (pa_cons (pv 0) (pa_nil))) (zcall (A.top_of) hr rfl T.g_top_of zpD (pa_cons (pv 1) (pa_nil))) (nomark _))))) (pss_one (ps_raise rfl zt (pmk_own PySem.F.excBase_ValueError (He.exc_ok T.x_NoClash).1 T.g_NoClash (He.exc_ok T.x_NoClash).2.1 (raises_own (He.exc_ok T.x_NoClash).2.2.1 (He.exc_ok T.x_NoClash).2.2.2) rfl))) (pss_nil)) (pss_cons (ps_for zo rfl (zi_zip rfl T.b_zip (pa_cons (zcall (A.pairs_down) hr rfl T.g_pairs_down zpD (pa_cons (pv 0) (pa_nil))) (pa_cons (zcall (A.pairs_down) hr rfl T.g_pairs_down zpD (pa_cons (pv 1) (pa_nil))) (pa_nil)))) (pg_tup rfl (pgs_cons (znm 2 nd) (pgs_cons (znm 3 nd) (pgs_nil)))) (pss_one (ps_if (pt_cmpR (z_ne hu) (pv 2) (pv 3) (nomark _)) (pss_one (ps_ret (pe_tup (pa_cons (pv 2) (pa_cons (pv 3) (pa_nil)))))) (pss_nil)))) (pss_one (ps_raise rfl zt (pmk_own PySem.F.excBase_ValueError (He.exc_ok T.x_NoClash).1 T.g_NoClash (He.exc_ok T.x_NoClash).2.1 (raises_own (He.exc_ok T.x_NoClash).2.2.1 (He.exc_ok T.x_NoClash).2.2.2) rfl)))))), body_ok (facts T) fn_clash rfl h⟩
theorem ok_l_cell_at {P : Program} {w : World} {K : PySem.W.Frag} {mg : Str → Option Value} {base : Heap} {n : Nat} (T : HF K mg) (A : AL P w K mg base n) {fd : FuncData} (F : FN_l_cell_at K fd) : FnOk P w K mg base (L2.CX P w) (2 * (n + 1)) (He.fAd K ("_law_cell_at", none)) fd ["_law_script", "_law_k"] (spR PR K (n + 1) "_law_cell_at") :=
  F.ok (k := 2 * n + 1) sc_l_cell_at (fun _ _ _ _ h => spR_len fn_l_cell_at h) fun cdv A0 outer s H vs Q E hr1 h => by
    have hr : Room (2 * n) (A0.deeper (envOfC "_law_cell_at" (defScope st_l_cell_at) s.heap.objs.size (He.fAd K ("_law_cell_at", none)) cdv)) := hr1.mono (Nat.le_succ _)
    have hu := hr.units
    have nd := sc_l_cell_at.nd
    have zo : PassesOwn (model P w) (cxOf (L2.CX P w) P w K mg base ["_law_script", "_law_k"] "_law_cell_at" (defScope st_l_cell_at) (He.fAd K ("_law_cell_at", none)) cdv A0 outer s H E).A (cxOf (L2.CX P w) P w K mg base ["_law_script", "_law_k"] "_law_cell_at" (defScope st_l_cell_at) (He.fAd K ("_law_cell_at", none)) cdv A0 outer s H E).env (cxOf (L2.CX P w) P w K mg base ["_law_script", "_law_k"] "_law_cell_at" (defScope st_l_cell_at) (He.fAd K ("_law_cell_at", none)) cdv A0 outer s H E).xe := passes_of rfl
    have zt : Takes (cxOf (L2.CX P w) P w K mg base ["_law_script", "_law_k"] "_law_cell_at" (defScope st_l_cell_at) (He.fAd K ("_law_cell_at", none)) cdv A0 outer s H E) (fun cls d _ H => E cls d H) := takes_of rfl rfl rfl rfl
    exact ⟨rdS (rc PR K (gv K) n fun cls d _ H => E cls d H) F_l_cell_at.body, (pss_cons (ps_if (pt_cmpR (z_lt hu) (pv 1) (zb_len rfl T.b_len (pa_cons (pv 0) (pa_nil))) (nomark _)) (pss_one (ps_ret (pe_ix ix_seq (pv 0) (pv 1) (fun _ _ => rfl)))) (pss_nil)) (pss_one (ps_ret (pe_int)))), body_ok (facts T) fn_l_cell_at rfl h⟩
theorem ok_l_mix {P : Program} {w : World} {K : PySem.W.Frag} {mg : Str → Option Value} {base : Heap} {n : Nat} (T : HF K mg) (A : AL P w K mg base n) {fd : FuncData} (F : FN_l_mix K fd) : FnOk P w K mg base (L2.CX P w) (2 * (n + 1)) (He.fAd K ("_law_mix", none)) fd ["_law_one", "_law_other"] (spR PR K (n + 1) "_law_mix") :=
  F.ok (k := 2 * n + 1) sc_l_mix (fun _ _ _ _ h => spR_len fn_l_mix h) fun cdv A0 outer s H vs Q E hr1 h => by
    have hr : Room (2 * n) (A0.deeper (envOfC "_law_mix" (defScope st_l_mix) s.heap.objs.size (He.fAd K ("_law_mix", none)) cdv)) := hr1.mono (Nat.le_succ _)
    have hu := hr.units
    have nd := sc_l_mix.nd
    have zo : PassesOwn (model P w) (cxOf (L2.CX P w) P w K mg base ["_law_one", "_law_other"] "_law_mix" (defScope st_l_mix) (He.fAd K ("_law_mix", none)) cdv A0 outer s H E).A (cxOf (L2.CX P w) P w K mg base ["_law_one", "_law_other"] "_law_mix" (defScope st_l_mix) (He.fAd K ("_law_mix", none)) cdv A0 outer s H E).env (cxOf (L2.CX P w) P w K mg base ["_law_one", "_law_other"] "_law_mix" (defScope st_l_mix) (He.fAd K ("_law_mix", none)) cdv A0 outer s H E).xe := passes_of rfl
    have zt : Takes (cxOf (L2.CX P w) P w K mg base ["_law_one", "_law_other"] "_law_mix" (defScope st_l_mix) (He.fAd K ("_law_mix", none)) cdv A0 outer s H E) (fun cls d _ H => E cls d H) := takes_of rfl rfl rfl rfl
    exact ⟨rdS (rc PR K (gv K) n fun cls d _ H => E cls d H) F_l_mix.body, (pss_one (ps_ret (pe_op z_mod (pe_op z_add (pe_op z_add (pe_op z_mul (pe_int) (pv 0)) (pe_op z_mul (pe_int) (pv 1))) (pe_int)) (pe_int)))), body_ok (facts T) fn_l_mix rfl h⟩
theorem ok_l_top {P : Program} {w : World} {K : PySem.W.Frag} {mg : Str → Option Value} {base : Heap} {n : Nat} (T : HF K mg) (A : AL P w K mg base n) {fd : FuncData} (F : FN_l_top K fd) : FnOk P w K mg base (L2.CX P w) (2 * (n + 1)) (He.fAd K ("_law_top", none)) fd ["_law_paper"] (spR PR K (n + 1) "_law_top") :=
  F.ok (k := 2 * n + 1) sc_l_top (fun _ _ _ _ h => spR_len fn_l_top h) fun cdv A0 outer s H vs Q E hr1 h => by
    have hr : Room (2 * n) (A0.deeper (envOfC "_law_top" (defScope st_l_top) s.heap.objs.size (He.fAd K ("_law_top", none)) cdv)) := hr1.mono (Nat.le_succ _)
    have hu := hr.units
    have nd := sc_l_top.nd
    have zo : PassesOwn (model P w) (cxOf (L2.CX P w) P w K mg base ["_law_paper", "_law_last", "_law_number", "_law_place", "_law_aside"] "_law_top" (defScope st_l_top) (He.fAd K ("_law_top", none)) cdv A0 outer s H E).A (cxOf (L2.CX P w) P w K mg base ["_law_paper", "_law_last", "_law_number", "_law_place", "_law_aside"] "_law_top" (defScope st_l_top) (He.fAd K ("_law_top", none)) cdv A0 outer s H E).env (cxOf (L2.CX P w) P w K mg base ["_law_paper", "_law_last", "_law_number", "_law_place", "_law_aside"] "_law_top" (defScope st_l_top) (He.fAd K ("_law_top", none)) cdv A0 outer s H E).xe := passes_of rfl
    have zt : Takes (cxOf (L2.CX P w) P w K mg base ["_law_paper", "_law_last", "_law_number", "_law_place", "_law_aside"] "_law_top" (defScope st_l_top) (He.fAd K ("_law_top", none)) cdv A0 outer s H E) (fun cls d _ H => E cls d H) := takes_of rfl rfl rfl rfl
    exact ⟨rdS (rc PR K (gv K) n fun cls d _ H => E cls d H) F_l_top.body, (pss_cons (zset 1 nd (pe_int)) (pss_cons (ps_for zo rfl (zi_seq (pe_op z_add (pe_ix ix_seq (pv 0) (pe_int) (fun _ _ => rfl)) (pe_lst (pa_cons (zb_len rfl T.b_len (pa_cons (pe_ix ix_seq (pv 0) (pe_int) (fun _ _ => rfl)) (pa_nil))) (pa_nil))))) (znm 2 nd) (pss_one (zset 1 nd (zcall (A.l_mix) hr rfl T.g__law_mix zpD (pa_cons (pv 1) (pa_cons (pv 2) (pa_nil))))))) (pss_cons (zset 3 nd (pe_ix ix_seq (pv 0) (pe_int) (fun _ _ => rfl))) (pss_cons (ps_for zo rfl (zi_seq (pe_ix ix_seq (pv 0) (pe_int) (fun _ _ => rfl))) (znm 4 nd) (pss_cons (ps_if (pt_cmpR (z_eq hu) (pe_op z_mod (pv 3) (pe_int)) (pe_int) (nomark _)) (pss_one (zset 1 nd (zcall (A.l_mix) hr rfl T.g__law_mix zpD (pa_cons (pv 1) (pa_cons (pv 4) (pa_nil)))))) (pss_one (zset 1 nd (zcall (A.l_mix) hr rfl T.g__law_mix zpD (pa_cons (pv 4) (pa_cons (pv 1) (pa_nil))))))) (pss_one (zset 3 nd (pe_op z_fdiv (pv 3) (pe_int)))))) (pss_one (ps_ret (pv 1))))))), body_ok (facts T) fn_l_top rfl h⟩
theorem ok_l_told {P : Program} {w : World} {K : PySem.W.Frag} {mg : Str → Option Value} {base : Heap} {n : Nat} (T : HF K mg) (A : AL P w K mg base n) {fd : FuncData} (F : FN_l_told K fd) : FnOk P w K mg base (L2.CX P w) (2 * (n + 1)) (He.fAd K ("_law_told", none)) fd ["_law_one", "_law_other"] (spR PR K (n + 1) "_law_told") :=
  F.ok (k := 2 * n + 1) sc_l_told (fun _ _ _ _ h => spR_len fn_l_told h) fun cdv A0 outer s H vs Q E hr1 h => by
    have hr : Room (2 * n) (A0.deeper (envOfC "_law_told" (defScope st_l_told) s.heap.objs.size (He.fAd K ("_law_told", none)) cdv)) := hr1.mono (Nat.le_succ _)
    have hu := hr.units
    have nd := sc_l_told.nd
    have zo : PassesOwn (model P w) (cxOf (L2.CX P w) P w K mg base ["_law_one", "_law_other"] "_law_told" (defScope st_l_told) (He.fAd K ("_law_told", none)) cdv A0 outer s H E).A (cxOf (L2.CX P w) P w K mg base ["_law_one", "_law_other"] "_law_told" (defScope st_l_told) (He.fAd K ("_law_told", none)) cdv A0 outer s H E).env (cxOf (L2.CX P w) P w K mg base ["_law_one", "_law_other"] "_law_told" (defScope st_l_told) (He.fAd K ("_law_told", none)) cdv A0 outer s H E).xe := passes_of rfl
    have zt : Takes (cxOf (L2.CX P w) P w K mg base ["_law_one", "_law_other"] "_law_told" (defScope st_l_told) (He.fAd K ("_law_told", none)) cdv A0 outer s H E) (fun cls d _ H => E cls d H) := takes_of rfl rfl rfl rfl
    exact ⟨rdS (rc PR K (gv K) n fun cls d _ H => E cls d H) F_l_told.body, (pss_cons (ps_if (PW.pt (pw_or (pt_cmpR (z_ne hu) (pe_ix ix_seq (pv 0) (pe_int) (fun _ _ => rfl)) (pe_ix ix_seq (pv 1) (pe_int) (fun _ _ => rfl)) (nomark _)) (pw_or (pt_cmpR (z_ne hu) (zb_len rfl T.b_len (pa_cons (pe_ix ix_seq (pv 0) (pe_int) (fun _ _ => rfl)) (pa_nil))) (zb_len rfl T.b_len (pa_cons (pe_ix ix_seq (pv 1) (pe_int) (fun _ _ => rfl)) (pa_nil))) (nomark _)) (pw_or1 (pt_cmpR (z_eq hu) (pe_ix ix_seq (pv 0) (pe_int) (fun _ _ => rfl)) (pe_ix ix_seq (pv 1) (pe_int) (fun _ _ => rfl)) (nomark _)))))) (pss_one (ps_ret (pe_bl))) (pss_nil)) (pss_cons (ps_if (PW.pt (pw_or (pt_cmpR (z_lt hu) (pe_ix ix_seq (pv 0) (pe_int) (fun _ _ => rfl)) (pe_int) (nomark _)) (pw_or1 (pt_cmpR (z_ne hu) (pe_op z_shr (pe_ix ix_seq (pv 0) (pe_int) (fun _ _ => rfl)) (zb_len rfl T.b_len (pa_cons (pe_ix ix_seq (pv 0) (pe_int) (fun _ _ => rfl)) (pa_nil)))) (pe_int) (nomark _))))) (pss_one (ps_ret (pe_bl))) (pss_nil)) (pss_one (ps_ret (pe_cmpR (z_eq hu) (zcall (A.l_top) hr rfl T.g__law_top zpD (pa_cons (pv 0) (pa_nil))) (zcall (A.l_top) hr rfl T.g__law_top zpD (pa_cons (pv 1) (pa_nil))) (nomark _)))))), body_ok (facts T) fn_l_told rfl h⟩
theorem ok_l_found {P : Program} {w : World} {K : PySem.W.Frag} {mg : Str → Option Value} {base : Heap} {n : Nat} (T : HF K mg) (A : AL P w K mg base n) {fd : FuncData} (F : FN_l_found K fd) : FnOk P w K mg base (L2.CX P w) (2 * (n + 1)) (He.fAd K ("_law_found", none)) fd ["_law_one", "_law_other"] (spR PR K (n + 1) "_law_found") :=
  F.ok (k := 2 * n + 1) sc_l_found (fun _ _ _ _ h => spR_len fn_l_found h) fun cdv A0 outer s H vs Q E hr1 h => by
    have hr : Room (2 * n) (A0.deeper (envOfC "_law_found" (defScope st_l_found) s.heap.objs.size (He.fAd K ("_law_found", none)) cdv)) := hr1.mono (Nat.le_succ _)
    have hu := hr.units
    have nd := sc_l_found.nd
    have zo : PassesOwn (model P w) (cxOf (L2.CX P w) P w K mg base ["_law_one", "_law_other", "_law_found_here"] "_law_found" (defScope st_l_found) (He.fAd K ("_law_found", none)) cdv A0 outer s H E).A (cxOf (L2.CX P w) P w K mg base ["_law_one", "_law_other", "_law_found_here"] "_law_found" (defScope st_l_found) (He.fAd K ("_law_found", none)) cdv A0 outer s H E).env (cxOf (L2.CX P w) P w K mg base ["_law_one", "_law_other", "_law_found_here"] "_law_found" (defScope st_l_found) (He.fAd K ("_law_found", none)) cdv A0 outer s H E).xe := passes_of rfl
    have zt : Takes (cxOf (L2.CX P w) P w K mg base ["_law_one", "_law_other", "_law_found_here"] "_law_found" (defScope st_l_found) (He.fAd K ("_law_found", none)) cdv A0 outer s H E) (fun cls d _ H => E cls d H) := takes_of rfl rfl rfl rfl
    exact ⟨rdS (rc PR K (gv K) n fun cls d _ H => E cls d H) F_l_found.body, (pss_cons (zset 2 nd (pe_non)) (pss_cons (ztry rfl zt rfl T.g_NoClash (fun W pn xe zt zo => pss_one (zset 2 nd (zcall (A.clash) hr rfl T.g_clash (fun σ => passAt zt σ) (pa_cons (pv 0) (pa_cons (pv 1) (pa_nil)))))) (fun a oe pn => pss_one (zset 2 nd (pe_str)))) (pss_one (ps_ret (pv 2))))), body_ok (facts T) fn_l_found rfl h⟩
theorem ok_l_refused_by_any {P : Program} {w : World} {K : PySem.W.Frag} {mg : Str → Option Value} {base : Heap} {n : Nat} (T : HF K mg) (A : AL P w K mg base n) {fd : FuncData} (F : FN_l_refused_by_any K fd) : FnOk P w K mg base (L2.CX P w) (2 * (n + 1)) (He.fAd K ("_law_refused_by_any", none)) fd ["_law_one", "_law_other"] (spR PR K (n + 1) "_law_refused_by_any") :=
  F.ok (k := 2 * n + 1) sc_l_refused_by_any (fun _ _ _ _ h => spR_len fn_l_refused_by_any h) fun cdv A0 outer s H vs Q E hr1 h => by
    have hr : Room (2 * n) (A0.deeper (envOfC "_law_refused_by_any" (defScope st_l_refused_by_any) s.heap.objs.size (He.fAd K ("_law_refused_by_any", none)) cdv)) := hr1.mono (Nat.le_succ _)
    have hu := hr.units
    have nd := sc_l_refused_by_any.nd
    have zo : PassesOwn (model P w) (cxOf (L2.CX P w) P w K mg base ["_law_one", "_law_other", "_law_kinds", "e"] "_law_refused_by_any" (defScope st_l_refused_by_any) (He.fAd K ("_law_refused_by_any", none)) cdv A0 outer s H E).A (cxOf (L2.CX P w) P w K mg base ["_law_one", "_law_other", "_law_kinds", "e"] "_law_refused_by_any" (defScope st_l_refused_by_any) (He.fAd K ("_law_refused_by_any", none)) cdv A0 outer s H E).env (cxOf (L2.CX P w) P w K mg base ["_law_one", "_law_other", "_law_kinds", "e"] "_law_refused_by_any" (defScope st_l_refused_by_any) (He.fAd K ("_law_refused_by_any", none)) cdv A0 outer s H E).xe := passes_of rfl
    have zt : Takes (cxOf (L2.CX P w) P w K mg base ["_law_one", "_law_other", "_law_kinds", "e"] "_law_refused_by_any" (defScope st_l_refused_by_any) (He.fAd K ("_law_refused_by_any", none)) cdv A0 outer s H E) (fun cls d _ H => E cls d H) := takes_of rfl rfl rfl rfl
    exact ⟨rdS (rc PR K (gv K) n fun cls d _ H => E cls d H) F_l_refused_by_any.body, (pss_cons (zset 2 nd (pe_lst (pa_nil))) (pss_cons (ztryAs (i := 3) rfl zt nd rfl T.g_HouseError (fun W pn xe zt zo => pss_one (ps_expr (zcall (A.clash) hr rfl T.g_clash (fun σ => passAt zt σ) (pa_cons (pv 0) (pa_cons (pv 1) (pa_nil)))))) (fun a oe cls d pn kk hz hf => pss_cons (zset 2 nd (pe_lst (pa_cons (zisxB rfl hz hf rfl T.b_isinstance rfl rfl T.b_ValueError (by decide +kernel) (by decide) (pv 3)) (pa_cons (zisx rfl hz hf rfl T.b_isinstance rfl T.g_NoClash (pv 3)) (pa_cons (zisx rfl hz hf rfl T.b_isinstance rfl T.g_NoPaper (pv 3)) (pa_cons (zisx rfl hz hf rfl T.b_isinstance rfl T.g_NoRow (pv 3)) (pa_nil))))))) (pss_cons (zset 2 nd (pe_op z_add (pv 2) (pe_lst (pa_cons (zisx rfl hz hf rfl T.b_isinstance rfl T.g_NoCode (pv 3)) (pa_cons (zisx rfl hz hf rfl T.b_isinstance rfl T.g_NoSlot (pv 3)) (pa_cons (zisx rfl hz hf rfl T.b_isinstance rfl T.g_Taken (pv 3)) (pa_cons (zisx rfl hz hf rfl T.b_isinstance rfl T.g_TooMuch (pv 3)) (pa_nil)))))))) (pss_cons (zset 2 nd (pe_op z_add (pv 2) (pe_lst (pa_cons (zisx rfl hz hf rfl T.b_isinstance rfl T.g_NoNumber (pv 3)) (pa_cons (zisx rfl hz hf rfl T.b_isinstance rfl T.g_NoAccount (pv 3)) (pa_cons (zisx rfl hz hf rfl T.b_isinstance rfl T.g_NoLimit (pv 3)) (pa_nil))))))) (pss_one (zset 2 nd (pe_op z_add (pv 2) (pe_lst (pa_cons (zisx rfl hz hf rfl T.b_isinstance rfl T.g_PoorPurse (pv 3)) (pa_cons (zisx rfl hz hf rfl T.b_isinstance rfl T.g_PoorCoin (pv 3)) (pa_nil))))))))))) (pss_one (ps_ret (pe_cmpR (z_eq hu) (pv 2) (pe_op z_add (pe_lst (pa_cons (pe_bl) (pa_cons (pe_bl) (pa_nil)))) (pe_op z_mul (pe_lst (pa_cons (pe_bl) (pa_nil))) (pe_int))) (nomark _)))))), body_ok (facts T) fn_l_refused_by_any rfl h⟩
theorem ok_l_inverse {P : Program} {w : World} {K : PySem.W.Frag} {mg : Str → Option Value} {base : Heap} {n : Nat} (T : HF K mg) (A : AL P w K mg base n) {fd : FuncData} (F : FN_l_inverse K fd) : FnOk P w K mg base (L2.CX P w) (2 * (n + 1)) (He.fAd K ("_law_inverse", none)) fd ["_law_number"] (spR PR K (n + 1) "_law_inverse") :=
  F.ok (k := 2 * n + 1) sc_l_inverse (fun _ _ _ _ h => spR_len fn_l_inverse h) fun cdv A0 outer s H vs Q E hr1 h => by
    have hr : Room (2 * n) (A0.deeper (envOfC "_law_inverse" (defScope st_l_inverse) s.heap.objs.size (He.fAd K ("_law_inverse", none)) cdv)) := hr1.mono (Nat.le_succ _)
    have hu := hr.units
    have nd := sc_l_inverse.nd
    have zo : PassesOwn (model P w) (cxOf (L2.CX P w) P w K mg base ["_law_number", "_law_rest", "_law_other", "_law_back", "_law_mine", "_law_times", "_law_left", "_law_later"] "_law_inverse" (defScope st_l_inverse) (He.fAd K ("_law_inverse", none)) cdv A0 outer s H E).A (cxOf (L2.CX P w) P w K mg base ["_law_number", "_law_rest", "_law_other", "_law_back", "_law_mine", "_law_times", "_law_left", "_law_later"] "_law_inverse" (defScope st_l_inverse) (He.fAd K ("_law_inverse", none)) cdv A0 outer s H E).env (cxOf (L2.CX P w) P w K mg base ["_law_number", "_law_rest", "_law_other", "_law_back", "_law_mine", "_law_times", "_law_left", "_law_later"] "_law_inverse" (defScope st_l_inverse) (He.fAd K ("_law_inverse", none)) cdv A0 outer s H E).xe := passes_of rfl
    have zt : Takes (cxOf (L2.CX P w) P w K mg base ["_law_number", "_law_rest", "_law_other", "_law_back", "_law_mine", "_law_times", "_law_left", "_law_later"] "_law_inverse" (defScope st_l_inverse) (He.fAd K ("_law_inverse", none)) cdv A0 outer s H E) (fun cls d _ H => E cls d H) := takes_of rfl rfl rfl rfl
    exact ⟨rdS (rc PR K (gv K) n fun cls d _ H => E cls d H) F_l_inverse.body, (pss_cons (zset 1 nd (pe_int)) (pss_cons (zset 2 nd (pv 0)) (pss_cons (zset 3 nd (pe_int)) (pss_cons (zset 4 nd (pe_int)) (pss_cons (ps_while zo (pt_cmpR (z_gt hu) (pv 2) (pe_int) (nomark _)) (pss_cons (ps_asg (zb_divmod rfl T.b_divmod (pa_cons (pv 1) (pa_cons (pv 2) (pa_nil)))) (zg_seq (is := [5, 6]) rfl (pgs_cons (znm 5 nd) (pgs_cons (znm 6 nd) (pgs_nil))))) (pss_cons (zset 1 nd (pv 2)) (pss_cons (zset 2 nd (pv 6)) (pss_cons (zset 7 nd (pe_op z_sub (pv 3) (pe_op z_mul (pv 5) (pv 4)))) (pss_cons (zset 3 nd (pv 4)) (pss_one (zset 4 nd (pv 7))))))))) (pss_one (ps_ret (pe_op z_mod (pv 3) (pe_int))))))))), body_ok (facts T) fn_l_inverse rfl h⟩
theorem ok_l_solved {P : Program} {w : World} {K : PySem.W.Frag} {mg : Str → Option Value} {base : Heap} {n : Nat} (T : HF K mg) (A : AL P w K mg base n) {fd : FuncData} (F : FN_l_solved K fd) : FnOk P w K mg base (L2.CX P w) (2 * (n + 1)) (He.fAd K ("_law_solved", none)) fd ["_law_number", "_law_due"] (spR PR K (n + 1) "_law_solved") :=
  F.ok (k := 2 * n + 1) sc_l_solved (fun _ _ _ _ h => spR_len fn_l_solved h) fun cdv A0 outer s H vs Q E hr1 h => by
    have hr : Room (2 * n) (A0.deeper (envOfC "_law_solved" (defScope st_l_solved) s.heap.objs.size (He.fAd K ("_law_solved", none)) cdv)) := hr1.mono (Nat.le_succ _)
    have hu := hr.units
    have nd := sc_l_solved.nd
    have zo : PassesOwn (model P w) (cxOf (L2.CX P w) P w K mg base ["_law_number", "_law_due", "_law_last", "_law_end", "_law_other"] "_law_solved" (defScope st_l_solved) (He.fAd K ("_law_solved", none)) cdv A0 outer s H E).A (cxOf (L2.CX P w) P w K mg base ["_law_number", "_law_due", "_law_last", "_law_end", "_law_other"] "_law_solved" (defScope st_l_solved) (He.fAd K ("_law_solved", none)) cdv A0 outer s H E).env (cxOf (L2.CX P w) P w K mg base ["_law_number", "_law_due", "_law_last", "_law_end", "_law_other"] "_law_solved" (defScope st_l_solved) (He.fAd K ("_law_solved", none)) cdv A0 outer s H E).xe := passes_of rfl
    have zt : Takes (cxOf (L2.CX P w) P w K mg base ["_law_number", "_law_due", "_law_last", "_law_end", "_law_other"] "_law_solved" (defScope st_l_solved) (He.fAd K ("_law_solved", none)) cdv A0 outer s H E) (fun cls d _ H => E cls d H) := takes_of rfl rfl rfl rfl
    exact ⟨rdS (rc PR K (gv K) n fun cls d _ H => E cls d H) F_l_solved.body, (pss_cons (zset 2 nd (zcall (A.l_mix) hr rfl T.g__law_mix zpD (pa_cons (pe_int) (pa_cons (pv 0) (pa_nil))))) (pss_cons (zset 3 nd (pe_op z_mod (pe_op z_mul (pe_op z_sub (pe_op z_sub (pv 1) (pe_int)) (pe_op z_mul (pe_int) (pe_int))) (zcall (A.l_inverse) hr rfl T.g__law_inverse zpD (pa_cons (pe_int) (pa_nil)))) (pe_int))) (pss_cons (zset 4 nd (pe_op z_mod (pe_op z_mul (pe_op z_sub (pe_op z_sub (pv 3) (pe_int)) (pe_op z_mul (pe_int) (pv 2))) (zcall (A.l_inverse) hr rfl T.g__law_inverse zpD (pa_cons (pe_int) (pa_nil)))) (pe_int))) (pss_one (ps_ret (pe_lst (pa_cons (pv 0) (pa_cons (pv 4) (pa_nil))))))))), body_ok (facts T) fn_l_solved rfl h⟩
theorem ok_l_raised {P : Program} {w : World} {K : PySem.W.Frag} {mg : Str → Option Value} {base : Heap} {n : Nat} (T : HF K mg) (A : AL P w K mg base n) {fd : FuncData} (F : FN_l_raised K fd) : FnOk P w K mg base (L2.CX P w) (2 * (n + 1)) (He.fAd K ("_law_raised", none)) fd ["_law_numbers", "_law_spot", "_law_step"] (spR PR K (n + 1) "_law_raised") :=
  F.ok (k := 2 * n + 1) sc_l_raised (fun _ _ _ _ h => spR_len fn_l_raised h) fun cdv A0 outer s H vs Q E hr1 h => by
    have hr : Room (2 * n) (A0.deeper (envOfC "_law_raised" (defScope st_l_raised) s.heap.objs.size (He.fAd K ("_law_raised", none)) cdv)) := hr1.mono (Nat.le_succ _)
    have hu := hr.units
    have nd := sc_l_raised.nd
    have zo : PassesOwn (model P w) (cxOf (L2.CX P w) P w K mg base ["_law_numbers", "_law_spot", "_law_step", "_law_found_here", "_law_at"] "_law_raised" (defScope st_l_raised) (He.fAd K ("_law_raised", none)) cdv A0 outer s H E).A (cxOf (L2.CX P w) P w K mg base ["_law_numbers", "_law_spot", "_law_step", "_law_found_here", "_law_at"] "_law_raised" (defScope st_l_raised) (He.fAd K ("_law_raised", none)) cdv A0 outer s H E).env (cxOf (L2.CX P w) P w K mg base ["_law_numbers", "_law_spot", "_law_step", "_law_found_here", "_law_at"] "_law_raised" (defScope st_l_raised) (He.fAd K ("_law_raised", none)) cdv A0 outer s H E).xe := passes_of rfl
    have zt : Takes (cxOf (L2.CX P w) P w K mg base ["_law_numbers", "_law_spot", "_law_step", "_law_found_here", "_law_at"] "_law_raised" (defScope st_l_raised) (He.fAd K ("_law_raised", none)) cdv A0 outer s H E) (fun cls d _ H => E cls d H) := takes_of rfl rfl rfl rfl
    exact ⟨rdS (rc PR K (gv K) n fun cls d _ H => E cls d H) F_l_raised.body, (pss_cons (zset 3 nd (zb_list rfl rfl T.b_list (pa_cons (pv 0) (pa_nil)))) (pss_cons (ps_if (pt_cmpR (z_gt hu) (zb_len rfl T.b_len (pa_cons (pv 3) (pa_nil))) (pe_int) (nomark _)) (pss_cons (zset 4 nd (pe_op z_mod (pv 1) (zb_len rfl T.b_len (pa_cons (pv 3) (pa_nil))))) (pss_one (ps_asg (pe_op z_add (pe_ix ix_seq (pv 3) (pv 4) (fun _ _ => rfl)) (pv 2)) (pg_sub (pv 3) (pv 4) set_list)))) (pss_nil)) (pss_one (ps_ret (pv 3))))), body_ok (facts T) fn_l_raised rfl h⟩
theorem ok_l_spoilt {P : Program} {w : World} {K : PySem.W.Frag} {mg : Str → Option Value} {base : Heap} {n : Nat} (T : HF K mg) (A : AL P w K mg base n) {fd : FuncData} (F : FN_l_spoilt K fd) : FnOk P w K mg base (L2.CX P w) (2 * (n + 1)) (He.fAd K ("_law_spoilt", none)) fd ["_law_one", "_law_other", "_law_kind", "_law_spot"] (spR PR K (n + 1) "_law_spoilt") :=
  F.ok (k := 2 * n + 1) sc_l_spoilt (fun _ _ _ _ h => spR_len fn_l_spoilt h) fun cdv A0 outer s H vs Q E hr1 h => by
    have hr : Room (2 * n) (A0.deeper (envOfC "_law_spoilt" (defScope st_l_spoilt) s.heap.objs.size (He.fAd K ("_law_spoilt", none)) cdv)) := hr1.mono (Nat.le_succ _)
    have hu := hr.units
    have nd := sc_l_spoilt.nd
    have zo : PassesOwn (model P w) (cxOf (L2.CX P w) P w K mg base ["_law_one", "_law_other", "_law_kind", "_law_spot", "_law_prime", "_law_place", "_law_numbers", "_law_way", "_law_far", "_law_low"] "_law_spoilt" (defScope st_l_spoilt) (He.fAd K ("_law_spoilt", none)) cdv A0 outer s H E).A (cxOf (L2.CX P w) P w K mg base ["_law_one", "_law_other", "_law_kind", "_law_spot", "_law_prime", "_law_place", "_law_numbers", "_law_way", "_law_far", "_law_low"] "_law_spoilt" (defScope st_l_spoilt) (He.fAd K ("_law_spoilt", none)) cdv A0 outer s H E).env (cxOf (L2.CX P w) P w K mg base ["_law_one", "_law_other", "_law_kind", "_law_spot", "_law_prime", "_law_place", "_law_numbers", "_law_way", "_law_far", "_law_low"] "_law_spoilt" (defScope st_l_spoilt) (He.fAd K ("_law_spoilt", none)) cdv A0 outer s H E).xe := passes_of rfl
    have zt : Takes (cxOf (L2.CX P w) P w K mg base ["_law_one", "_law_other", "_law_kind", "_law_spot", "_law_prime", "_law_place", "_law_numbers", "_law_way", "_law_far", "_law_low"] "_law_spoilt" (defScope st_l_spoilt) (He.fAd K ("_law_spoilt", none)) cdv A0 outer s H E) (fun cls d _ H => E cls d H) := takes_of rfl rfl rfl rfl
    exact ⟨rdS (rc PR K (gv K) n fun cls d _ H => E cls d H) F_l_spoilt.body, (pss_cons (zset 4 nd (pe_int)) (pss_cons (ps_asg (pv 1) (zg_seq (is := [5, 6, 7]) rfl (pgs_cons (znm 5 nd) (pgs_cons (znm 6 nd) (pgs_cons (znm 7 nd) (pgs_nil)))))) (pss_cons (ps_if (pt_cmpR (z_eq hu) (pv 2) (pe_int) (nomark _)) (pss_one (ps_ret (pe_lst (pa_cons (pv 0) (pa_cons (pe_tup (pa_cons (pe_op z_add (pe_op z_add (pv 5) (pe_int)) (pe_op z_mod (pv 3) (pe_int))) (pa_cons (zb_list rfl rfl T.b_list (pa_cons (pv 6) (pa_nil))) (pa_cons (zb_list rfl rfl T.b_list (pa_cons (pv 7) (pa_nil))) (pa_nil))))) (pa_nil)))))) (pss_nil)) (pss_cons (ps_if (pt_cmpR (z_eq hu) (pv 2) (pe_int) (nomark _)) (pss_one (ps_ret (pe_lst (pa_cons (pv 0) (pa_cons (pe_tup (pa_cons (pv 5) (pa_cons (zb_list rfl rfl T.b_list (pa_cons (pv 6) (pa_nil))) (pa_cons (pe_op z_add (pv 7) (pe_lst (pa_cons (pv 3) (pa_nil)))) (pa_nil))))) (pa_nil)))))) (pss_nil)) (pss_cons (ps_if (pt_cmpR (z_eq hu) (pv 2) (pe_int) (nomark _)) (pss_one (ps_ret (pe_lst (pa_cons (pv 0) (pa_cons (pe_tup (pa_cons (pv 5) (pa_cons (zb_list rfl rfl T.b_list (pa_cons (pe_ix ix_seq (pv 0) (pe_int) (fun _ _ => rfl)) (pa_nil))) (pa_cons (zcall (A.l_raised) hr rfl T.g__law_raised zpD (pa_cons (pv 7) (pa_cons (pv 3) (pa_cons (pv 4) (pa_nil))))) (pa_nil))))) (pa_nil)))))) (pss_nil)) (pss_cons (ps_if (pt_cmpR (z_eq hu) (pv 2) (pe_int) (nomark _)) (pss_cons (zset 8 nd (pe_op z_add (pv 5) (pe_op z_mul (pe_op z_shl (pe_int) (zb_len rfl T.b_len (pa_cons (pv 7) (pa_nil)))) (pe_op z_add (pe_int) (pe_op z_mod (pv 3) (pe_int)))))) (pss_one (ps_ret (pe_lst (pa_cons (pe_tup (pa_cons (pv 8) (pa_cons (zb_list rfl rfl T.b_list (pa_cons (pe_ix ix_seq (pv 0) (pe_int) (fun _ _ => rfl)) (pa_nil))) (pa_cons (zb_list rfl rfl T.b_list (pa_cons (pe_ix ix_seq (pv 0) (pe_int) (fun _ _ => rfl)) (pa_nil))) (pa_nil))))) (pa_cons (pe_tup (pa_cons (pv 8) (pa_cons (zb_list rfl rfl T.b_list (pa_cons (pv 6) (pa_nil))) (pa_cons (zb_list rfl rfl T.b_list (pa_cons (pv 7) (pa_nil))) (pa_nil))))) (pa_nil))))))) (pss_nil)) (pss_cons (ps_if (pt_cmpR (z_eq hu) (pv 2) (pe_int) (nomark _)) (pss_cons (zset 9 nd (pe_op z_sub (pe_op z_sub (pe_int) (pe_int)) (pe_op z_mod (pv 3) (pe_int)))) (pss_one (ps_ret (pe_lst (pa_cons (pe_tup (pa_cons (pv 9) (pa_cons (zb_list rfl rfl T.b_list (pa_cons (pe_ix ix_seq (pv 0) (pe_int) (fun _ _ => rfl)) (pa_nil))) (pa_cons (zb_list rfl rfl T.b_list (pa_cons (pe_ix ix_seq (pv 0) (pe_int) (fun _ _ => rfl)) (pa_nil))) (pa_nil))))) (pa_cons (pe_tup (pa_cons (pv 9) (pa_cons (zb_list rfl rfl T.b_list (pa_cons (pv 6) (pa_nil))) (pa_cons (zb_list rfl rfl T.b_list (pa_cons (pv 7) (pa_nil))) (pa_nil))))) (pa_nil))))))) (pss_nil)) (pss_cons (ps_if (pt_cmpR (z_eq hu) (pv 2) (pe_int) (nomark _)) (pss_one (ps_ret (pe_lst (pa_cons (pv 0) (pa_cons (pe_tup (pa_cons (pv 5) (pa_cons (zcall (A.l_raised) hr rfl T.g__law_raised zpD (pa_cons (pv 6) (pa_cons (pe_op z_fdiv (pv 3) (pe_int)) (pa_cons (pe_int) (pa_nil))))) (pa_cons (zb_list rfl rfl T.b_list (pa_cons (pv 7) (pa_nil))) (pa_nil))))) (pa_nil)))))) (pss_nil)) (pss_cons (ps_if (pt_cmpR (z_eq hu) (pv 2) (pe_int) (nomark _)) (pss_one (ps_ret (pe_lst (pa_cons (pv 0) (pa_cons (pe_tup (pa_cons (pv 5) (pa_cons (pe_op z_add (pv 6) (pe_lst (pa_cons (pv 3) (pa_nil)))) (pa_cons (zb_list rfl rfl T.b_list (pa_cons (pv 7) (pa_nil))) (pa_nil))))) (pa_nil)))))) (pss_nil)) (pss_cons (ps_if (pt_cmpR (z_eq hu) (pv 2) (pe_int) (nomark _)) (pss_cons (zset 9 nd (pe_tup (pa_cons (pe_int) (pa_cons (zb_list rfl rfl T.b_list (pa_cons (pe_ix ix_seq (pv 0) (pe_int) (fun _ _ => rfl)) (pa_nil))) (pa_cons (zb_list rfl rfl T.b_list (pa_cons (pe_ix ix_seq (pv 0) (pe_int) (fun _ _ => rfl)) (pa_nil))) (pa_nil)))))) (pss_one (ps_ret (pe_lst (pa_cons (pv 9) (pa_cons (pe_tup (pa_cons (pe_int) (pa_cons (zcall (A.l_solved) hr rfl T.g__law_solved zpD (pa_cons (pv 3) (pa_cons (zcall (A.l_top) hr rfl T.g__law_top zpD (pa_cons (pv 9) (pa_nil))) (pa_nil)))) (pa_cons (pe_lst (pa_nil)) (pa_nil))))) (pa_nil))))))) (pss_nil)) (pss_one (ps_ret (pe_lst (pa_cons (pv 0) (pa_cons (pe_tup (pa_cons (pv 5) (pa_cons (pe_slice z_slice (pv 6) po_none (po_some (pe_un un_neg (pe_int)))) (pa_cons (zb_list rfl rfl T.b_list (pa_cons (pv 7) (pa_nil))) (pa_nil))))) (pa_nil)))))))))))))))), body_ok (facts T) fn_l_spoilt rfl h⟩
theorem ok_law {P : Program} {w : World} {K : PySem.W.Frag} {mg : Str → Option Value} {base : Heap} {n : Nat} (T : HF K mg) (A : AL P w K mg base n) {fd : FuncData} (F : FN_law K fd) : FnOk P w K mg base (L2.CX P w) (2 * (n + 1)) (He.fAd K ("law", none)) fd ["_law_script"] (spR PR K (n + 1) "law") :=
  F.ok (k := 2 * n + 1) sc_law (fun _ _ _ _ h => spR_len fn_law h) fun cdv A0 outer s H vs Q E hr1 h => by
    have hr : Room (2 * n) (A0.deeper (envOfC "law" (defScope st_law) s.heap.objs.size (He.fAd K ("law", none)) cdv)) := hr1.mono (Nat.le_succ _)
    have hu := hr.units
    have nd := sc_law.nd
    have zo : PassesOwn (model P w) (cxOf (L2.CX P w) P w K mg base ["_law_script", "_law_cells", "_law_cut", "_law_spot", "_law_numbers", "_law_one", "_law_other", "_law_kind", "_law_pair", "_law_found_here", "_law_cell"] "law" (defScope st_law) (He.fAd K ("law", none)) cdv A0 outer s H E).A (cxOf (L2.CX P w) P w K mg base ["_law_script", "_law_cells", "_law_cut", "_law_spot", "_law_numbers", "_law_one", "_law_other", "_law_kind", "_law_pair", "_law_found_here", "_law_cell"] "law" (defScope st_law) (He.fAd K ("law", none)) cdv A0 outer s H E).env (cxOf (L2.CX P w) P w K mg base ["_law_script", "_law_cells", "_law_cut", "_law_spot", "_law_numbers", "_law_one", "_law_other", "_law_kind", "_law_pair", "_law_found_here", "_law_cell"] "law" (defScope st_law) (He.fAd K ("law", none)) cdv A0 outer s H E).xe := passes_of rfl
    have zt : Takes (cxOf (L2.CX P w) P w K mg base ["_law_script", "_law_cells", "_law_cut", "_law_spot", "_law_numbers", "_law_one", "_law_other", "_law_kind", "_law_pair", "_law_found_here", "_law_cell"] "law" (defScope st_law) (He.fAd K ("law", none)) cdv A0 outer s H E) (fun cls d _ H => E cls d H) := takes_of rfl rfl rfl rfl
    exact ⟨rdS (rc PR K (gv K) n fun cls d _ H => E cls d H) F_law.body, (pss_cons (ps_setLc (i := 1) (own := [("_law_cell", 10)]) rfl nd rfl rfl (sw_true rfl rfl rfl (by decide +kernel)) (zi_seq (pe_slice z_slice (pv 0) (po_some (pe_int)) (po_some (pe_int)))) (blkOk_by (own := [("_law_cell", 10)]) (by kernel_rfl)) (fun _ _ _ _ _ => znm 10 nd) (fun _ _ _ _ _ => pts_nil) (fun _ _ _ _ _ => pe_op z_mod (pv 10) (pe_op z_mul (pe_int) (pe_int)))) (pss_cons (zset 2 nd (zb_min2 rfl rfl T.b_min (pa_cons (pe_op z_mod (zcall (A.l_cell_at) hr rfl T.g__law_cell_at zpD (pa_cons (pv 0) (pa_cons (pe_int) (pa_nil)))) (pe_op z_add (zb_len rfl T.b_len (pa_cons (pv 1) (pa_nil))) (pe_int))) (pa_cons (pe_int) (pa_nil))))) (pss_cons (zset 3 nd (pe_op z_mod (zcall (A.l_cell_at) hr rfl T.g__law_cell_at zpD (pa_cons (pv 0) (pa_cons (pe_int) (pa_nil)))) (pe_op z_pow (pe_int) (pe_int)))) (pss_cons (zset 4 nd (pe_op z_add (pe_slice z_slice (pv 1) (po_some (pv 2)) po_none) (pe_lst (pa_cons (pv 3) (pa_nil))))) (pss_cons (zset 5 nd (pe_tup (pa_cons (pe_op z_mod (zcall (A.l_cell_at) hr rfl T.g__law_cell_at zpD (pa_cons (pv 0) (pa_cons (pe_int) (pa_nil)))) (pe_op z_shl (pe_int) (pv 2))) (pa_cons (pv 4) (pa_cons (pe_slice z_slice (pv 1) po_none (po_some (pv 2))) (pa_nil)))))) (pss_cons (zset 6 nd (pe_tup (pa_cons (pe_ix ix_seq (pv 5) (pe_int) (fun _ _ => rfl)) (pa_cons (zcall (A.l_raised) hr rfl T.g__law_raised zpD (pa_cons (pv 4) (pa_cons (pv 3) (pa_cons (pe_int) (pa_nil))))) (pa_cons (zb_list rfl rfl T.b_list (pa_cons (pe_ix ix_seq (pv 5) (pe_int) (fun _ _ => rfl)) (pa_nil))) (pa_nil)))))) (pss_cons (ps_for zo rfl (zi_range1 rfl T.b_range (pa_cons (pe_int) (pa_nil))) (znm 7 nd) (pss_cons (zset 8 nd (zcall (A.l_spoilt) hr rfl T.g__law_spoilt zpD (pa_cons (pv 5) (pa_cons (pv 6) (pa_cons (pv 7) (pa_cons (pv 3) (pa_nil))))))) (pss_cons (ps_if (pt_cmpR (z_eq hu) (pe_op z_mod (pe_op z_add (pv 3) (pv 7)) (pe_int)) (pe_int) (nomark _)) (pss_one (zset 8 nd (pe_lst (pa_cons (pe_ix ix_seq (pv 8) (pe_int) (fun _ _ => rfl)) (pa_cons (pe_ix ix_seq (pv 8) (pe_int) (fun _ _ => rfl)) (pa_nil)))))) (pss_nil)) (pss_cons (zset 9 nd (zcall (A.l_found) hr rfl T.g__law_found zpD (pa_cons (pe_ix ix_seq (pv 8) (pe_int) (fun _ _ => rfl)) (pa_cons (pe_ix ix_seq (pv 8) (pe_int) (fun _ _ => rfl)) (pa_nil))))) (pss_cons (ps_if (ztru (zcall (A.l_told) hr rfl T.g__law_told zpD (pa_cons (pe_ix ix_seq (pv 8) (pe_int) (fun _ _ => rfl)) (pa_cons (pe_ix ix_seq (pv 8) (pe_int) (fun _ _ => rfl)) (pa_nil))))) (pss_one (ps_if (pt_not (ztru (zisi .tuple rfl rfl T.b_isinstance rfl T.b_tuple (pv 9)))) (pss_one (ps_ret (pe_bl))) (pss_nil))) (pss_one (ps_if (PW.pt (pw_or (pt_cmpR (z_ne hu) (pv 9) (pe_str) (nomark _)) (pw_or1 (pt_not (ztru (zcall (A.l_refused_by_any) hr rfl T.g__law_refused_by_any zpD (pa_cons (pe_ix ix_seq (pv 8) (pe_int) (fun _ _ => rfl)) (pa_cons (pe_ix ix_seq (pv 8) (pe_int) (fun _ _ => rfl)) (pa_nil))))))))) (pss_one (ps_ret (pe_bl))) (pss_nil)))) (pss_one (ps_if (pt_not (ztru (zisi .tuple rfl rfl T.b_isinstance rfl T.b_tuple (zcall (A.l_found) hr rfl T.g__law_found zpD (pa_cons (pv 5) (pa_cons (pv 6) (pa_nil))))))) (pss_one (ps_ret (pe_bl))) (pss_nil)))))))) (pss_one (ps_ret (pe_bl)))))))))), body_ok (facts T) fn_law rfl h⟩
theorem al_zero {P : Program} {w : World} {K : PySem.W.Frag} {mg : Str → Option Value} {base : Heap} (T : HF K mg) : AL P w K mg base 0 :=
  ⟨cal_mix T fun _ _ => fn_zero,
   cal_stamp T fun _ _ => fn_zero,
   cal_pair_at T fun _ _ => fn_zero,
   cal_climbed T fun _ _ => fn_zero,
   cal_risen T fun _ _ => fn_zero,
   cal_fits T fun _ _ => fn_zero,
   cal_top_of T fun _ _ => fn_zero,
   cal_folded T fun _ _ => fn_zero,
   cal_pairs_down T fun _ _ => fn_zero,
   cal_clash T fun _ _ => fn_zero,
   cal_l_cell_at T fun _ _ => fn_zero,
   cal_l_mix T fun _ _ => fn_zero,
   cal_l_top T fun _ _ => fn_zero,
   cal_l_told T fun _ _ => fn_zero,
   cal_l_found T fun _ _ => fn_zero,
   cal_l_refused_by_any T fun _ _ => fn_zero,
   cal_l_inverse T fun _ _ => fn_zero,
   cal_l_solved T fun _ _ => fn_zero,
   cal_l_raised T fun _ _ => fn_zero,
   cal_l_spoilt T fun _ _ => fn_zero,
   cal_law T fun _ _ => fn_zero⟩
theorem al_succ {P : Program} {w : World} {K : PySem.W.Frag} {mg : Str → Option Value} {base : Heap} {n : Nat} (T : HF K mg) (A : AL P w K mg base n) : AL P w K mg base (n + 1) :=
  ⟨cal_mix T fun _ F => ok_mix T A F,
   cal_stamp T fun _ F => ok_stamp T A F,
   cal_pair_at T fun _ F => ok_pair_at T A F,
   cal_climbed T fun _ F => ok_climbed T A F,
   cal_risen T fun _ F => ok_risen T A F,
   cal_fits T fun _ F => ok_fits T A F,
   cal_top_of T fun _ F => ok_top_of T A F,
   cal_folded T fun _ F => ok_folded T A F,
   cal_pairs_down T fun _ F => ok_pairs_down T A F,
   cal_clash T fun _ F => ok_clash T A F,
   cal_l_cell_at T fun _ F => ok_l_cell_at T A F,
   cal_l_mix T fun _ F => ok_l_mix T A F,
   cal_l_top T fun _ F => ok_l_top T A F,
   cal_l_told T fun _ F => ok_l_told T A F,
   cal_l_found T fun _ F => ok_l_found T A F,
   cal_l_refused_by_any T fun _ F => ok_l_refused_by_any T A F,
   cal_l_inverse T fun _ F => ok_l_inverse T A F,
   cal_l_solved T fun _ F => ok_l_solved T A F,
   cal_l_raised T fun _ F => ok_l_raised T A F,
   cal_l_spoilt T fun _ F => ok_l_spoilt T A F,
   cal_law T fun _ F => ok_law T A F⟩
theorem al_all {P : Program} {w : World} {K : PySem.W.Frag} {mg : Str → Option Value} {base : Heap} (T : HF K mg) : ∀ n, AL P w K mg base n
  | 0 => al_zero T
  | n + 1 => al_succ T (al_all T n)
/-! ### the head -/
abbrev R : PySem.W.OpenRow := PySem.W.OpenLaw.row PySem.Challenge.rw_meterhouse_k17_clash_refused
abbrev hk : PySem.W.Hook := hookZ 4 fas dfs exb
def ob (s : PySem.W.SharedT) : AlZ := obsZ 4 fas dfs exb (HandSHeadRun.getT s)
theorem ob_eq (s : PySem.W.SharedT) : ob s = hk.obs s.abs := obsZ_eq (HandSHeadRun.getT_eq s)
theorem run (w : World) : HandSHeadRun.RunEq R (PySem.W.view R.prog [38]) hk ob 40000 ("HouseError" :: "NoCode" :: "NoClash" :: "NoSlot" :: "Taken" :: "NoNumber" :: "TooMuch" :: "NoAccount" :: "NoLimit" :: "PoorPurse" :: "PoorCoin" :: "NoPaper" :: "NoRow" :: "MIX" :: "mix" :: "stamp" :: "pair_at" :: "climbed" :: "risen" :: "fits" :: "top_of" :: "folded" :: "pairs_down" :: "clash" :: "_law_cell_at" :: "_law_mix" :: "_law_top" :: "_law_told" :: "_law_found" :: "_law_refused_by_any" :: "_law_inverse" :: "_law_solved" :: "_law_raised" :: "_law_spoilt" :: []) w := by
  intro os
  kernel_rfl
end K17
end Z
open PySem PySem.W PySem.Calls PyProof.Rows
theorem Z.K17.holds_of (N : Nat) (hN : Nat.ble N 100 = true) (sol : ∀ ns : List Int, ns.length ≤ 63 → ∃ h', Z.callF Z.K17.PR (N + 1) "law" [.ref 0] (Z.h0 ns) = some (.ok (.bl true), h')) : PySem.Challenge.rw_meterhouse_k17_clash_refused.Holds := by
  w_on; o_law
  refine HandSHeadRun.head_any (r := OpenLaw.row PySem.Challenge.rw_meterhouse_k17_clash_refused) (q := view (OpenLaw.row PySem.Challenge.rw_meterhouse_k17_clash_refused).prog [38]) (H := Z.K17.hk) (ob := Z.K17.ob) (M := 40000) (loose := ("HouseError" :: "NoCode" :: "NoClash" :: "NoSlot" :: "Taken" :: "NoNumber" :: "TooMuch" :: "NoAccount" :: "NoLimit" :: "PoorPurse" :: "PoorCoin" :: "NoPaper" :: "NoRow" :: "MIX" :: "mix" :: "stamp" :: "pair_at" :: "climbed" :: "risen" :: "fits" :: "top_of" :: "folded" :: "pairs_down" :: "clash" :: "_law_cell_at" :: "_law_mix" :: "_law_top" :: "_law_told" :: "_law_found" :: "_law_refused_by_any" :: "_law_inverse" :: "_law_solved" :: "_law_raised" :: "_law_spoilt" :: [])) (d := HandSHeadRun.topDef (OpenLaw.row PySem.Challenge.rw_meterhouse_k17_clash_refused).prog 38) (kwd := []) Z.K17.ob_eq
    (by kernel_rfl) (fun s => by kernel_rfl) Z.K17.run (by kernel_rfl) (by kernel_rfl) (by kernel_rfl) (by rfl) (by first | assumption | decide +kernel) (by decide +kernel) ⟨rfl, rfl, rfl, rfl, rfl, by decide +kernel⟩ ?hw ?hc
  case hw => w_witness2
  case hc =>
    refine L2.walk_ofE (l := PySem.Challenge.rw_meterhouse_k17_clash_refused) (n := 63) (k := 2 * (N + 1)) (x := "_law_script") (CX := L2.CX0) rfl (by decide) (by kernel_rfl) (L2.Room.mono (k := 202) ⟨rfl, by decide, by decide⟩ (by have := Nat.le_of_ble_eq_true hN; omega)) ?F (fun _ _ _ _ z => z)
    intro w mg fa h Y G hmg0
    obtain ⟨K, KX, c⟩ := Y
    have hmg : mg ("law" : PySem.Str) = some (.ref fa) := by
      have e : (HandSHeadRun.topDef (OpenLaw.row PySem.Challenge.rw_meterhouse_k17_clash_refused).prog 38).name = ("law" : PySem.Str) := by kernel_rfl
      rw [← e]
      exact hmg0
    have T := Z.K17.hf_of KX G c
    obtain ⟨fd, F⟩ := T.d_law
    have e := hmg.symm.trans T.g_law
    cases e
    have b := L2.FunD.bindsA (ps := ["_law_script"]) F fun _ _ _ _ _ _ us hl => match us, hl with | [_], _ => rfl
    exact ⟨K, fd, fun vs H Q _ => Z.spR Z.K17.PR K (N + 1) "law" vs H Q fun _ _ _ => False, KX, fun s v => b s [v] rfl, fun H a ns hl hO hS => Z.law_sp (n := 63) Z.K17.fn_law rfl sol H a ns hl hO hS, fun base hb hn => Z.ok0 (Z.K17.ok_law T (Z.K17.al_all T N) F)⟩

set_option maxRecDepth 100000
set_option maxHeartbeats 4000000
namespace Z
namespace K17
open PySem
local macro_rules
  | `(tactic| trivial) => `(tactic| first | omega | (simp only [new_next, put_next, h0_next, List.length_map, List.length_append, List.length_cons, List.length_nil, List.length_range] <;> omega))

def mx (a b : Int) : Int := (998244353 * a + 1000000007 * b + 97) % 2305843009213693951
theorem c_mix (n : Nat) (a b : Int) (h : Hm) : callF PR (n + 1) "mix" [.int a, .int b] h = some (.ok (.int (mx a b)), h) := by
  rw [callF_eq fn_mix rfl]
  simp (maxSteps := 1000000) (disch := first | omega | (simp only [new_next, put_next, h0_next, List.length_map, List.length_append, List.length_cons, List.length_nil, List.length_range] <;> omega) | assumption | (simp <;> fail) | omega) [F_mix, mx]
theorem c_lmix (n : Nat) (a b : Int) (h : Hm) : callF PR (n + 1) "_law_mix" [.int a, .int b] h = some (.ok (.int (mx a b)), h) := by
  rw [callF_eq fn_l_mix rfl]
  simp (maxSteps := 1000000) (disch := first | omega | (simp only [new_next, put_next, h0_next, List.length_map, List.length_append, List.length_cons, List.length_nil, List.length_range] <;> omega) | assumption | (simp <;> fail) | omega) [F_l_mix, mx]

theorem c_cell_at (n : Nat) (ns : List Int) (k : Nat) (h : Hm) (e : h.get 0 = some (.fz (ns.map D.int))) : callF PR (n + 1) "_law_cell_at" [.ref 0, .int (k : Int)] h = some (.ok (.int (cell ns k)), h) := by
  rw [callF_eq fn_l_cell_at rfl]
  by_cases hk : k < ns.length
  · simp (maxSteps := 1000000) (disch := first | omega | (simp only [new_next, put_next, h0_next, List.length_map, List.length_append, List.length_cons, List.length_nil, List.length_range] <;> omega) | assumption | (simp <;> fail) | omega) [F_l_cell_at, e, hk, at_script]
  · simp (maxSteps := 1000000) (disch := first | omega | (simp only [new_next, put_next, h0_next, List.length_map, List.length_append, List.length_cons, List.length_nil, List.length_range] <;> omega) | assumption | (simp <;> fail) | omega) [F_l_cell_at, e, hk, cell_out]
theorem c_cell_lit (n : Nat) (ns : List Int) (k : Nat) (h : Hm) (e : h.get 0 = some (.fz (ns.map D.int))) : callF PR (n + 1) "_law_cell_at" [.ref 0, .int (no_index (@OfNat.ofNat Int k _))] h = some (.ok (.int (cell ns k)), h) := c_cell_at n ns k h e

structure RS where
  p : Int
  l : Int
def RS.turn (s : RS) (a : Int) : RS := ⟨s.p / 2, if s.p % 2 = 0 then mx s.l a else mx a s.l⟩
/-- a leaf's rise by a way: the place and the leaf behind it -/
def rs (p l : Int) (w : List Int) : RS := w.foldl RS.turn ⟨p, l⟩
theorem rs_snoc (p l : Int) (w : List Int) (c : Int) : rs p l (w ++ [c]) = (rs p l w).turn c := by unfold rs; rw [List.foldl_append]; rfl
def rise (p l : Int) (w : List Int) : Int := (rs p l w).l
theorem c_pair (n : Nat) (p l a : Int) (h : Hm) : callF PR (n + 1) "pair_at" [.int p, .int l, .int a] h = some (.ok (.tup (if p % 2 = 0 then [.int l, .int a] else [.int a, .int l])), h) := by
  rw [callF_eq fn_pair_at rfl]
  by_cases e : p % 2 = 0 <;> simp (maxSteps := 1000000) (disch := first | omega | (simp only [new_next, put_next, h0_next, List.length_map, List.length_append, List.length_cons, List.length_nil, List.length_range] <;> omega) | assumption | (simp <;> fail) | omega) [F_pair_at, e]
theorem c_risen (n a : Nat) (p l : Int) (w : List Int) (h : Hm) (e : h.get a = some (.lst (w.map D.int))) : callF PR (n + 2) "risen" [.int p, .int l, .ref a] h = some (.ok (.int (rise p l w)), h) := by
  rw [callF_eq fn_risen rfl]
  simp (maxSteps := 1000000) (disch := first | omega | (simp only [new_next, put_next, h0_next, List.length_map, List.length_append, List.length_cons, List.length_nil, List.length_range] <;> omega) | assumption | (simp <;> fail) | omega) [F_risen, e]
  refine rel (fun r => r = some (.ok (.int (rise p l w)), h)) D.int (fun d env h' => h' = h ∧ ∃ v3 v4, env = [some (.int (rs p l d).p), some (.int (rs p l d).l), some (.ref a), v3, v4]) ⟨rfl, _, _, rfl⟩ (fun d env h' i => by rw [i.1]; simp (maxSteps := 1000000) (disch := first | omega | (simp only [new_next, put_next, h0_next, List.length_map, List.length_append, List.length_cons, List.length_nil, List.length_range] <;> omega) | assumption | (simp <;> fail) | omega) [e]) ?_ ?_
  · rintro d c rest env h' hd ⟨rfl, v3, v4, rfl⟩
    refine ⟨_, rfl, [some (.int (rs p l (d ++ [c])).p), some (.int (rs p l (d ++ [c])).l), some (.ref a), some (.int c), some (.tup (if (rs p l d).p % 2 = 0 then [.int (rs p l d).l, .int c] else [.int c, .int (rs p l d).l]))], h', ?_, rfl, _, _, rfl⟩
    by_cases hp : (rs p l d).p % 2 = 0 <;> simp (maxSteps := 1000000) (disch := first | omega | (simp only [new_next, put_next, h0_next, List.length_map, List.length_append, List.length_cons, List.length_nil, List.length_range] <;> omega) | assumption | (simp <;> fail) | omega) [rs_snoc, RS.turn, c_pair, c_mix, hp]
  · rintro env h' ⟨rfl, v3, v4, rfl⟩
    simp (maxSteps := 1000000) (disch := first | omega | (simp only [new_next, put_next, h0_next, List.length_map, List.length_append, List.length_cons, List.length_nil, List.length_range] <;> omega) | assumption | (simp <;> fail) | omega) [rise]

/-- the stamp of numbers -/
def st (us : List Int) : Int := mx (us.foldl mx 1) us.length
theorem c_stamp (n : Nat) (a : Nat) (us : List Int) (h : Hm) (ha : h.get a = some (.lst (us.map D.int))) : callF PR (n + 2) "stamp" [.ref a] h = some (.ok (.int (st us)), h) := by
  rw [callF_eq fn_stamp rfl]
  simp (maxSteps := 1000000) (disch := first | omega | (simp only [new_next, put_next, h0_next, List.length_map, List.length_append, List.length_cons, List.length_nil, List.length_range] <;> omega) | assumption | (simp <;> fail) | omega) [F_stamp, ha]
  rw [forL_run D.int (fun s : Int × Option D => [some (.ref a), some (.int s.1), s.2]) (fun _ => h) (fun s c => (mx s.1 c, some (.int c))) (fun _ => True) (s := (1, none)) ?_ ?_ trivial]
  · rw [foldl_fst (γ := Option D) mx (fun _ _ c => some (D.int c))]
    simp (maxSteps := 1000000) (disch := first | omega | (simp only [new_next, put_next, h0_next, List.length_map, List.length_append, List.length_cons, List.length_nil, List.length_range] <;> omega) | assumption | (simp <;> fail) | omega) [ha, c_mix, st]
  · intro s _; simp (maxSteps := 1000000) (disch := first | omega | (simp only [new_next, put_next, h0_next, List.length_map, List.length_append, List.length_cons, List.length_nil, List.length_range] <;> omega) | assumption | (simp <;> fail) | omega) [ha]
  · intro s _ c hc
    exact ⟨trivial, _, rfl, by simp (maxSteps := 1000000) (disch := first | omega | (simp only [new_next, put_next, h0_next, List.length_map, List.length_append, List.length_cons, List.length_nil, List.length_range] <;> omega) | assumption | (simp <;> fail) | omega) [c_mix]⟩

/-- halved by each thing of the way -/
def hv (p : Int) (w : List Int) : Int := w.foldl (fun q _ => q / 2) p
theorem hv_snoc (p : Int) (w : List Int) (c : Int) : hv p (w ++ [c]) = hv p w / 2 := by unfold hv; rw [List.foldl_append]; rfl
theorem hv_eq : ∀ (w : List Int) (p : Int), hv p w = p / 2 ^ w.length
  | [], p => by simp [hv]
  | c :: w, p => by
    show hv (p / 2) w = _
    rw [hv_eq w, List.length_cons, Int.pow_succ, Int.mul_comm, Int.ediv_ediv_of_nonneg (by decide)]
def ft (p : Int) (w : List Int) : Bool := decide (0 ≤ p ∧ p / 2 ^ w.length = 0)
theorem c_fits (n a : Nat) (p : Int) (w : List Int) (h : Hm) (e : h.get a = some (.lst (w.map D.int))) : callF PR (n + 1) "fits" [.int p, .ref a] h = some (.ok (.bl (ft p w)), h) := by
  rw [callF_eq fn_fits rfl]
  by_cases hp : p < 0
  · have h1 : ft p w = false := by unfold ft; rw [decide_eq_false_iff_not]; omega
    simp (maxSteps := 1000000) (disch := first | omega | (simp only [new_next, put_next, h0_next, List.length_map, List.length_append, List.length_cons, List.length_nil, List.length_range] <;> omega) | assumption | (simp <;> fail) | omega) [F_fits, hp, h1]
  · simp (maxSteps := 1000000) (disch := first | omega | (simp only [new_next, put_next, h0_next, List.length_map, List.length_append, List.length_cons, List.length_nil, List.length_range] <;> omega) | assumption | (simp <;> fail) | omega) [F_fits, hp, e]
    refine rel (fun r => r = some (.ok (.bl (ft p w)), h)) D.int (fun d env h' => h' = h ∧ ∃ v2, env = [some (.int (hv p d)), some (.ref a), v2]) ⟨rfl, _, rfl⟩ (fun d env h' i => by rw [i.1]; simp (maxSteps := 1000000) (disch := first | omega | (simp only [new_next, put_next, h0_next, List.length_map, List.length_append, List.length_cons, List.length_nil, List.length_range] <;> omega) | assumption | (simp <;> fail) | omega) [e]) ?_ ?_
    · rintro d c rest env h' hd ⟨rfl, v2, rfl⟩
      refine ⟨_, rfl, _, _, ?_, rfl, some (.int c), rfl⟩
      simp (maxSteps := 1000000) (disch := first | omega | (simp only [new_next, put_next, h0_next, List.length_map, List.length_append, List.length_cons, List.length_nil, List.length_range] <;> omega) | assumption | (simp <;> fail) | omega) [hv_snoc]
    · rintro env h' ⟨rfl, v2, rfl⟩
      have h1 : 0 ≤ p := by omega
      simp (maxSteps := 1000000) (disch := first | omega | (simp only [new_next, put_next, h0_next, List.length_map, List.length_append, List.length_cons, List.length_nil, List.length_range] <;> omega) | assumption | (simp <;> fail) | omega) [ft, hv_eq, h1]

/-! pairs of a paper, from the ground up -/
def fol : Int → List Int → List (Int × Int)
  | _, [] => []
  | l, x :: xs => (l, x) :: fol (mx l x) xs
def mp (q : Int × Int) : Int := mx q.1 q.2
def pr (p l a : Int) : Int × Int := if p % 2 = 0 then (l, a) else (a, l)
def cli : Int → Int → List Int → List (Int × Int)
  | _, _, [] => []
  | p, l, a :: w => pr p l a :: cli (p / 2) (mp (pr p l a)) w
theorem fol_snoc : ∀ (xs : List Int) (l x : Int), fol l (xs ++ [x]) = fol l xs ++ [(xs.foldl mx l, x)]
  | [], l, x => rfl
  | y :: xs, l, x => by
    show (l, y) :: fol (mx l y) (xs ++ [x]) = _
    rw [fol_snoc xs]; rfl
theorem fol_len : ∀ (xs : List Int) (l : Int), (fol l xs).length = xs.length
  | [], l => rfl
  | y :: xs, l => by show (fol (mx l y) xs).length + 1 = _; rw [fol_len xs]; rfl
theorem mp_pr (p l a : Int) : mp (pr p l a) = if p % 2 = 0 then mx l a else mx a l := by unfold mp pr; split <;> rfl
theorem cli_snoc : ∀ (w : List Int) (p l a : Int), cli p l (w ++ [a]) = cli p l w ++ [pr (rs p l w).p (rs p l w).l a]
  | [], p, l, a => rfl
  | y :: w, p, l, a => by
    show pr p l y :: cli (p / 2) (mp (pr p l y)) (w ++ [a]) = _
    rw [cli_snoc w]
    have : rs p l (y :: w) = rs (p / 2) (mp (pr p l y)) w := by
      unfold rs
      rw [List.foldl_cons]
      congr 1
      unfold RS.turn
      rw [mp_pr]
    rw [this]; rfl
theorem cli_len : ∀ (w : List Int) (p l : Int), (cli p l w).length = w.length
  | [], _, _ => rfl
  | y :: w, p, l => by show (cli _ _ w).length + 1 = _; rw [cli_len w]; rfl
def ups (p : Int) (us w : List Int) : List (Int × Int) := fol 1 (us ++ [(us.length : Int)]) ++ cli p (st us) w
def unl (q : (Int × Int) × (Int × Int)) : Bool := !decide (q.1 = q.2)
theorem rs_p (w w' : List Int) (h : w.length = w'.length) (p l l' : Int) : (rs p l w).p = (rs p l' w').p := by
  induction w generalizing w' p l l' with
  | nil =>
    cases w' with
    | nil => rfl
    | cons a w' => simp at h
  | cons a w ih =>
    cases w' with
    | nil => simp at h
    | cons a' w' =>
      simp only [List.length_cons, Nat.add_right_cancel_iff] at h
      exact ih w' h (p / 2) _ _
/-- what the search for unlike pairs finds -/
def Good (xs ys : List (Int × Int)) : Prop := ∃ q, (xs.zip ys).find? unl = some q ∧ q.1 ≠ q.2 ∧ mp q.1 = mp q.2
theorem good_step {x y : Int × Int} {xs ys : List (Int × Int)} (hm : mp x = mp y) (h : x = y → Good xs ys) : Good (x :: xs) (y :: ys) := by
  by_cases e : x = y
  · obtain ⟨q, h1, h2⟩ := h e
    refine ⟨q, ?_, h2⟩
    rw [List.zip_cons_cons, List.find?_cons]
    have : unl (x, y) = false := by unfold unl; simp [e]
    rw [this]; exact h1
  · refine ⟨(x, y), ?_, e, hm⟩
    rw [List.zip_cons_cons, List.find?_cons]
    have : unl (x, y) = true := by unfold unl; simp [e]
    rw [this]
theorem rev_snoc {α : Type} (xs : List α) (a : α) : (xs ++ [a]).reverse = a :: xs.reverse := by simp
theorem good_fol : ∀ (n : Nat) (us vs : List Int), us.length = n → vs.length = n → us.foldl mx 1 = vs.foldl mx 1 → us ≠ vs → Good (fol 1 us).reverse (fol 1 vs).reverse
  | 0, us, vs, hu, hv, _, ne => by
    rw [List.length_eq_zero_iff] at hu hv
    exact absurd (hu.trans hv.symm) ne
  | n + 1, us, vs, hu, hv, he, ne => by
    obtain ⟨us', x, rfl⟩ := concat_cases us (fun z => by rw [z] at hu; simp at hu)
    obtain ⟨vs', y, rfl⟩ := concat_cases vs (fun z => by rw [z] at hv; simp at hv)
    rw [List.length_append, List.length_singleton] at hu hv
    rw [fol_snoc, fol_snoc, rev_snoc, rev_snoc]
    rw [List.foldl_append, List.foldl_append] at he
    refine good_step he fun e => ?_
    injection e with e1 e2
    exact good_fol n us' vs' (by omega) (by omega) e1 fun z => ne (by rw [z, e2])
theorem good_ups : ∀ (n : Nat) (us vs w w' : List Int) (p : Int), w.length = n → w'.length = n → rise p (st us) w = rise p (st vs) w' → us ≠ vs → Good (ups p us w).reverse (ups p vs w').reverse
  | 0, us, vs, w, w', p, hw, hw', he, ne => by
    rw [List.length_eq_zero_iff] at hw hw'
    subst hw hw'
    unfold ups
    show Good (fol 1 (us ++ [(us.length : Int)]) ++ []).reverse (fol 1 (vs ++ [(vs.length : Int)]) ++ []).reverse
    rw [List.append_nil, List.append_nil, fol_snoc, fol_snoc, rev_snoc, rev_snoc]
    refine good_step he fun e => ?_
    injection e with e1 e2
    exact good_fol us.length us vs rfl (by omega) e1 ne
  | n + 1, us, vs, w, w', p, hw, hw', he, ne => by
    obtain ⟨w1, a, rfl⟩ := concat_cases w (fun z => by rw [z] at hw; simp at hw)
    obtain ⟨w2, b, rfl⟩ := concat_cases w' (fun z => by rw [z] at hw'; simp at hw')
    rw [List.length_append, List.length_singleton] at hw hw'
    unfold ups
    rw [cli_snoc, cli_snoc, ← List.append_assoc, ← List.append_assoc, rev_snoc, rev_snoc]
    have hp := rs_p w1 w2 (by omega) p (st us) (st vs)
    have h1 : rise p (st us) (w1 ++ [a]) = mp (pr (rs p (st us) w1).p (rs p (st us) w1).l a) := by unfold rise; rw [rs_snoc, mp_pr]; rfl
    have h2 : rise p (st vs) (w2 ++ [b]) = mp (pr (rs p (st vs) w2).p (rs p (st vs) w2).l b) := by unfold rise; rw [rs_snoc, mp_pr]; rfl
    rw [h1, h2] at he
    refine good_step he fun e => ?_
    have el : (rs p (st us) w1).l = (rs p (st vs) w2).l := by
      rw [hp] at e
      unfold pr at e
      split at e
      · injection e with e1 e2
      · injection e with e1 e2
    exact good_ups n us vs w1 w2 p (by omega) (by omega) el ne
theorem c_folded (n a : Nat) (us : List Int) (h : Hm) (ha : h.get a = some (.lst (us.map D.int))) (la : a < h.next) (hl : us.length < 1000) : callF PR (n + 2) "folded" [.ref a] h = some (.ok (.ref h.next), h.new (.lst ((fol 1 (us ++ [(us.length : Int)])).map prD))) := by
  rw [callF_eq fn_folded rfl]
  simp (maxSteps := 1000000) (disch := first | omega | (simp only [new_next, put_next, h0_next, List.length_map, List.length_append, List.length_cons, List.length_nil, List.length_range] <;> omega) | assumption | (simp <;> fail) | omega) [F_folded, ha]
  refine rel (fun r => r = some (.ok (.ref h.next), h.new (.lst ((fol 1 (us ++ [(us.length : Int)])).map prD)))) D.int (fun d env g => g = h.new (.lst ((fol 1 d).map prD)) ∧ ∃ v3, env = [some (.ref a), some (.ref h.next), some (.int (d.foldl mx 1)), v3]) ⟨rfl, _, rfl⟩ (fun d env g i => ?_) ?_ ?_
  · rw [i.1]; simp (maxSteps := 1000000) (disch := first | omega | (simp only [new_next, put_next, h0_next, List.length_map, List.length_append, List.length_cons, List.length_nil, List.length_range] <;> omega) | assumption | (simp <;> fail) | omega) [ha]
  · rintro d x rest env g hd ⟨rfl, v3, rfl⟩
    have dl : d.length < 1000 := by have := congrArg List.length hd; simp only [List.length_append, List.length_cons] at this; omega
    have ll : ((fol 1 d).map prD).length < 1000000 := by rw [List.length_map, fol_len]; omega
    refine ⟨_, rfl, [some (.ref a), some (.ref h.next), some (.int ((d ++ [x]).foldl mx 1)), some (.int x)], _, ?_, rfl, _, rfl⟩
    rw [fol_snoc, List.map_append, List.foldl_append]
    generalize (fol 1 d).map prD = L at ll
    simp (maxSteps := 1000000) (disch := first | omega | (simp only [new_next, put_next, h0_next, List.length_map, List.length_append, List.length_cons, List.length_nil, List.length_range] <;> omega) | assumption | (simp <;> fail) | omega) [c_mix, prD]
  · rintro env g ⟨rfl, v3, rfl⟩
    have ll : ((fol 1 us).map prD).length < 1000000 := by rw [List.length_map, fol_len]; omega
    rw [fol_snoc, List.map_append]
    generalize (fol 1 us).map prD = L at ll
    simp (maxSteps := 1000000) (disch := first | omega | (simp only [new_next, put_next, h0_next, List.length_map, List.length_append, List.length_cons, List.length_nil, List.length_range] <;> omega) | assumption | (simp <;> fail) | omega) [ha, prD]
theorem c_climbed (n a : Nat) (p l : Int) (w : List Int) (h : Hm) (ha : h.get a = some (.lst (w.map D.int))) (la : a < h.next) (hl : w.length < 1000) : callF PR (n + 2) "climbed" [.int p, .int l, .ref a] h = some (.ok (.ref h.next), h.new (.lst ((cli p l w).map prD))) := by
  rw [callF_eq fn_climbed rfl]
  simp (maxSteps := 1000000) (disch := first | omega | (simp only [new_next, put_next, h0_next, List.length_map, List.length_append, List.length_cons, List.length_nil, List.length_range] <;> omega) | assumption | (simp <;> fail) | omega) [F_climbed, ha]
  refine rel (fun r => r = some (.ok (.ref h.next), h.new (.lst ((cli p l w).map prD)))) D.int (fun d env g => g = h.new (.lst ((cli p l d).map prD)) ∧ ∃ v4 v5, env = [some (.int (rs p l d).p), some (.int (rs p l d).l), some (.ref a), some (.ref h.next), v4, v5]) ⟨rfl, _, _, rfl⟩ (fun d env g i => ?_) ?_ ?_
  · rw [i.1]; simp (maxSteps := 1000000) (disch := first | omega | (simp only [new_next, put_next, h0_next, List.length_map, List.length_append, List.length_cons, List.length_nil, List.length_range] <;> omega) | assumption | (simp <;> fail) | omega) [ha]
  · rintro d x rest env g hd ⟨rfl, v4, v5, rfl⟩
    have dl : d.length < 1000 := by have := congrArg List.length hd; simp only [List.length_append, List.length_cons] at this; omega
    have ll : ((cli p l d).map prD).length < 1000000 := by rw [List.length_map, cli_len]; omega
    rw [cli_snoc, List.map_append, rs_snoc]
    obtain ⟨pp, hpp⟩ : ∃ pp, (rs p l d).p = pp := ⟨_, rfl⟩
    obtain ⟨lp, hlp⟩ : ∃ lp, (rs p l d).l = lp := ⟨_, rfl⟩
    unfold RS.turn
    rw [hpp, hlp]
    generalize (cli p l d).map prD = L at ll
    by_cases hp : pp % 2 = 0
    · refine ⟨_, rfl, [some (.int (pp / 2)), some (.int (mx lp x)), some (.ref a), some (.ref h.next), some (.int x), some (.tup [.int lp, .int x])], _, ?_, rfl, _, _, by rw [if_pos hp]⟩
      simp (maxSteps := 1000000) (disch := first | omega | (simp only [new_next, put_next, h0_next, List.length_map, List.length_append, List.length_cons, List.length_nil, List.length_range] <;> omega) | assumption | (simp <;> fail) | omega) [c_pair, c_mix, prD, pr, hp]
    · refine ⟨_, rfl, [some (.int (pp / 2)), some (.int (mx x lp)), some (.ref a), some (.ref h.next), some (.int x), some (.tup [.int x, .int lp])], _, ?_, rfl, _, _, by rw [if_neg hp]⟩
      simp (maxSteps := 1000000) (disch := first | omega | (simp only [new_next, put_next, h0_next, List.length_map, List.length_append, List.length_cons, List.length_nil, List.length_range] <;> omega) | assumption | (simp <;> fail) | omega) [c_pair, c_mix, prD, pr, hp]
  · rintro env g ⟨rfl, v4, v5, rfl⟩
    simp (maxSteps := 1000000) (disch := first | omega | (simp only [new_next, put_next, h0_next, List.length_map, List.length_append, List.length_cons, List.length_nil, List.length_range] <;> omega) | assumption | (simp <;> fail) | omega) []
theorem ups_len (p : Int) (us w : List Int) : (ups p us w).length = us.length + 1 + w.length := by unfold ups; rw [List.length_append, fol_len, cli_len]; simp
theorem c_down (n a b : Nat) (p : Int) (us w : List Int) (h : Hm) (ha : h.get a = some (.lst (us.map D.int))) (hb : h.get b = some (.lst (w.map D.int))) (la : a < h.next) (lb : b < h.next) (hl : us.length < 1000) (hl2 : w.length < 1000) :
    ∃ g r, callF PR (n + 4) "pairs_down" [.tup [.int p, .ref a, .ref b]] h = some (.ok (.ref r), g) ∧ Gro h g ∧ h.next ≤ r ∧ r < g.next ∧ g.get r = some (.lst ((ups p us w).reverse.map prD)) := by
  rw [callF_eq fn_pairs_down rfl]
  have e1 := c_folded (n + 1) a us h ha la hl
  obtain ⟨F1, hF1⟩ : ∃ F1, (fol 1 (us ++ [(us.length : Int)])).map prD = F1 := ⟨_, rfl⟩
  rw [hF1] at e1
  obtain ⟨g1, hg1⟩ : ∃ g1, h.new (.lst F1) = g1 := ⟨_, rfl⟩
  rw [hg1] at e1
  have gr1 : Gro h g1 := by rw [← hg1]; exact .new
  have n1 : g1.next = h.next + 1 := by rw [← hg1]; rfl
  have q1 : g1.get h.next = some (.lst F1) := by rw [← hg1, new_get, if_pos rfl]
  have e2 := c_stamp (n + 1) a us g1 (gr1.get ha la)
  have e3 := c_climbed (n + 1) b p (st us) w g1 (gr1.get hb lb) (by omega) hl2
  obtain ⟨F2, hF2⟩ : ∃ F2, (cli p (st us) w).map prD = F2 := ⟨_, rfl⟩
  rw [hF2] at e3
  obtain ⟨g2, hg2⟩ : ∃ g2, g1.new (.lst F2) = g2 := ⟨_, rfl⟩
  rw [hg2] at e3
  have gr2 : Gro g1 g2 := by rw [← hg2]; exact .new
  have n2 : g2.next = g1.next + 1 := by rw [← hg2]; rfl
  have q2 : g2.get g1.next = some (.lst F2) := by rw [← hg2, new_get, if_pos rfl]
  have q1' := gr2.get q1 (by omega)
  have fl : F1.length + F2.length ≤ 1000000 := by rw [← hF1, ← hF2, List.length_map, List.length_map, fol_len, cli_len]; simp; omega
  have hu : (ups p us w).reverse.map prD = (F1 ++ F2).reverse := by rw [List.map_reverse]; unfold ups; rw [List.map_append, hF1, hF2]
  rw [hu]
  refine ⟨(g2.new (.lst (F1 ++ F2))).new (.lst (F1 ++ F2).reverse), g2.next + 1, ?_, (gr1.trans gr2).trans (Gro.new.trans .new), by omega, by simp only [new_next]; omega, by rw [new_get, if_pos (by rfl)]⟩
  simp (maxSteps := 1000000) (disch := first | omega | (simp only [new_next, put_next, h0_next, List.length_map, List.length_append, List.length_cons, List.length_nil, List.length_range] <;> omega) | assumption | (simp (disch := omega) <;> assumption) | omega) [F_pairs_down, -List.reverse_append, e1, e2, e3, q1', q2, fl]
theorem zip_prs (xs ys : List (Int × Int)) : ((xs.map prD).zip (ys.map prD)).map (fun p => D.tup [p.1, p.2]) = (xs.zip ys).map fun q => D.tup [prD q.1, prD q.2] := by
  rw [List.zip_map, List.map_map]; rfl

theorem c_top (n a b : Nat) (p : Int) (us w : List Int) (h : Hm) (ea : h.get a = some (.lst (us.map D.int))) (eb : h.get b = some (.lst (w.map D.int))) : callF PR (n + 3) "top_of" [.tup [.int p, .ref a, .ref b]] h = some (.ok (.int (rise p (st us) w)), h) := by
  rw [callF_eq fn_top_of rfl]
  have i1 := c_stamp n a us h ea
  have i2 := c_risen n b p (st us) w h eb
  simp (maxSteps := 1000000) (disch := first | omega | (simp only [new_next, put_next, h0_next, List.length_map, List.length_append, List.length_cons, List.length_nil, List.length_range] <;> omega) | assumption | (simp <;> fail) | omega) [F_top_of, i1, i2]
theorem c_clash (n a b c d : Nat) (p : Int) (us vs w w' : List Int) (h : Hm) (ha : h.get a = some (.lst (us.map D.int))) (hb : h.get b = some (.lst (w.map D.int))) (hc : h.get c = some (.lst (vs.map D.int))) (hd : h.get d = some (.lst (w'.map D.int))) (hw : w.length = w'.length)
    (la : a < h.next) (lb : b < h.next) (lc : c < h.next) (ld : d < h.next) (hf : ft p w = true) (ht : rise p (st us) w = rise p (st vs) w') (ne : us ≠ vs) (ul : us.length < 1000) (vl : vs.length < 1000) (wl : w.length < 1000) {q : (Int × Int) × (Int × Int)} (hq : ((ups p us w).reverse.zip (ups p vs w').reverse).find? unl = some q) :
    ∃ g, callF PR (n + 5) "clash" [.tup [.int p, .ref a, .ref b], .tup [.int p, .ref c, .ref d]] h = some (.ok (.tup [prD q.1, prD q.2]), g) ∧ Gro h g := by
  rw [callF_eq fn_clash rfl]
  have h1 := c_fits (n + 3) b p w h hb
  rw [hf] at h1
  have t1 := c_top (n + 1) a b p us w h ha hb
  have t2 := c_top (n + 1) c d p vs w' h hc hd
  rw [← ht] at t2
  obtain ⟨g1, r1, e1, gr1, p1, q1, w1⟩ := c_down n a b p us w h ha hb la lb ul wl
  have le1 := gr1.le
  obtain ⟨g2, r2, e2, gr2, p2, q2, w2⟩ := c_down n c d p vs w' g1 (gr1.get hc lc) (gr1.get hd ld) (by omega) (by omega) vl (by omega)
  have w1' := gr2.get w1 q1
  have zp := zip_prs (ups p us w).reverse (ups p vs w').reverse
  simp (maxSteps := 1000000) (disch := first | omega | (simp only [new_next, put_next, h0_next, List.length_map, List.length_append, List.length_cons, List.length_nil, List.length_range] <;> omega) | assumption | (simp (disch := omega) <;> assumption) | omega) [F_clash, -List.map_reverse, ha, hb, hc, hd, hw, ne, h1, t1, t2, e1, e2, w1', w2, zp]
  refine findF (fun o => ∃ g, endF o = some (.ok (.tup [prD q.1, prD q.2]), g) ∧ Gro h g) (fun q : (Int × Int) × (Int × Int) => D.tup [prD q.1, prD q.2]) unl (fun env => ∃ v2 v3, env = [some (.tup [.int p, .ref a, .ref b]), some (.tup [.int p, .ref c, .ref d]), v2, v3]) ⟨_, _, rfl⟩ (by simp (maxSteps := 1000000) (disch := first | omega | (simp only [new_next, put_next, h0_next, List.length_map, List.length_append, List.length_cons, List.length_nil, List.length_range] <;> omega) | assumption | (simp (disch := omega) <;> assumption) | omega) [-List.map_reverse, w1', w2]) ?_ ?_ ?_
  · rintro z hz hu env ⟨v2, v3, rfl⟩
    have n1 := ne_pr z.1 z.2 g2
    unfold unl at hu
    rw [hu] at n1
    refine ⟨_, rfl, [some (.tup [.int p, .ref a, .ref b]), some (.tup [.int p, .ref c, .ref d]), some (prD z.1), some (prD z.2)], ?_, _, _, rfl⟩
    simp (maxSteps := 1000000) (disch := first | omega | (simp only [new_next, put_next, h0_next, List.length_map, List.length_append, List.length_cons, List.length_nil, List.length_range] <;> omega) | assumption | (simp (disch := omega) <;> assumption) | omega) [-ne_tt, n1]
  · rintro z hz env ⟨v2, v3, rfl⟩
    have hu := List.find?_some hz
    have hzq : z = q := by rw [hq] at hz; exact (Option.some.inj hz).symm
    have n1 := ne_pr z.1 z.2 g2
    unfold unl at hu
    rw [hu] at n1
    refine ⟨_, rfl, .tup [prD z.1, prD z.2], [some (.tup [.int p, .ref a, .ref b]), some (.tup [.int p, .ref c, .ref d]), some (prD z.1), some (prD z.2)], ?_, g2, by rw [hzq]; exact endF_rt .., gr1.trans gr2⟩
    simp (maxSteps := 1000000) (disch := first | omega | (simp only [new_next, put_next, h0_next, List.length_map, List.length_append, List.length_cons, List.length_nil, List.length_range] <;> omega) | assumption | (simp (disch := omega) <;> assumption) | omega) [-ne_tt, n1]
  · rintro hz
    rw [hq] at hz
    cases hz
def tld (p : Int) (us w : List Int) (p' : Int) (vs w' : List Int) : Bool := decide (p = p' ∧ w.length = w'.length ∧ us ≠ vs ∧ ft p w = true ∧ rise p (st us) w = rise p' (st vs) w')
theorem c_clash_bad (n a b c d : Nat) (p p' : Int) (us vs w w' : List Int) (h : Hm) (ha : h.get a = some (.lst (us.map D.int))) (hb : h.get b = some (.lst (w.map D.int))) (hc : h.get c = some (.lst (vs.map D.int))) (hd : h.get d = some (.lst (w'.map D.int))) (ht : tld p us w p' vs w' = false) :
    callF PR (n + 5) "clash" [.tup [.int p, .ref a, .ref b], .tup [.int p', .ref c, .ref d]] h = some (.error "NoClash", h) := by
  rw [callF_eq fn_clash rfl]
  unfold tld at ht
  rw [decide_eq_false_iff_not] at ht
  by_cases h1 : p = p'
  · subst h1
    by_cases h2 : w.length = w'.length
    · by_cases h3 : us = vs
      · subst h3
        simp (maxSteps := 1000000) (disch := first | omega | (simp only [new_next, put_next, h0_next, List.length_map, List.length_append, List.length_cons, List.length_nil, List.length_range] <;> omega) | assumption | (simp <;> fail) | omega) [F_clash, ha, hb, hc, hd, h2]
      · have f1 := c_fits (n + 3) b p w h hb
        have t1 := c_top (n + 1) a b p us w h ha hb
        have t2 := c_top (n + 1) c d p vs w' h hc hd
        by_cases h4 : ft p w = true
        · rw [h4] at f1
          have h5 : ¬ rise p (st us) w = rise p (st vs) w' := fun e => ht ⟨rfl, h2, h3, h4, e⟩
          simp (maxSteps := 1000000) (disch := first | omega | (simp only [new_next, put_next, h0_next, List.length_map, List.length_append, List.length_cons, List.length_nil, List.length_range] <;> omega) | assumption | (simp (disch := omega) <;> assumption) | omega) [F_clash, ha, hb, hc, hd, h2, h3, f1, t1, t2, h5]
        · rw [Bool.not_eq_true] at h4
          rw [h4] at f1
          simp (maxSteps := 1000000) (disch := first | omega | (simp only [new_next, put_next, h0_next, List.length_map, List.length_append, List.length_cons, List.length_nil, List.length_range] <;> omega) | assumption | (simp (disch := omega) <;> assumption) | omega) [F_clash, ha, hb, hc, hd, h2, h3, f1]
    · have h2' : ¬ (w.length : Int) = w'.length := by omega
      simp (maxSteps := 1000000) (disch := first | omega | (simp only [new_next, put_next, h0_next, List.length_map, List.length_append, List.length_cons, List.length_nil, List.length_range] <;> omega) | assumption | (simp <;> fail) | omega) [F_clash, ha, hb, hc, hd, h2, h2']
  · simp (maxSteps := 1000000) (disch := first | omega | (simp only [new_next, put_next, h0_next, List.length_map, List.length_append, List.length_cons, List.length_nil, List.length_range] <;> omega) | assumption | (simp <;> fail) | omega) [F_clash, h1]
theorem c_found_no (n a b c d : Nat) (p p' : Int) (us vs w w' : List Int) (h : Hm) (ha : h.get a = some (.lst (us.map D.int))) (hb : h.get b = some (.lst (w.map D.int))) (hc : h.get c = some (.lst (vs.map D.int))) (hd : h.get d = some (.lst (w'.map D.int))) (ht : tld p us w p' vs w' = false) :
    callF PR (n + 6) "_law_found" [.tup [.int p, .ref a, .ref b], .tup [.int p', .ref c, .ref d]] h = some (.ok (.str "refused"), h) := by
  rw [callF_eq fn_l_found rfl]
  have cn := c_clash_bad n a b c d p p' us vs w w' h ha hb hc hd ht
  obtain ⟨X, hX⟩ : ∃ X : D, .tup [.int p, .ref a, .ref b] = X := ⟨_, rfl⟩
  obtain ⟨Y, hY⟩ : ∃ Y : D, .tup [.int p', .ref c, .ref d] = Y := ⟨_, rfl⟩
  rw [hX, hY] at cn ⊢
  have t : ex PR (callF PR (n + 5)) (F_l_found.body.from 1).hd [some X, some Y, some .non] h = some (.nx, [some X, some Y, some (.str "refused")], h) := by
    have eb : ex PR (callF PR (n + 5)) (.asg 2 (.call "clash" (.cons (.var 0) (.cons (.var 1) (.nil))) [])) [some X, some Y, some .non] h = some (.ex "NoClash", [some X, some Y, some .non], h) := by simp (maxSteps := 1000000) (disch := first | omega | (simp only [new_next, put_next, h0_next, List.length_map, List.length_append, List.length_cons, List.length_nil, List.length_range] <;> omega) | assumption | (simp <;> fail) | omega) [cn]
    have es : ex PR (callF PR (n + 5)) (.asg 2 (.con (.str "refused"))) [some X, some Y, some .non] h = some (.nx, [some X, some Y, some (.str "refused")], h) := by simp (maxSteps := 1000000) (disch := first | omega | (simp only [new_next, put_next, h0_next, List.length_map, List.length_append, List.length_cons, List.length_nil, List.length_range] <;> omega) | assumption | (simp <;> fail) | omega) []
    exact ex_try_ex eb em_NoClash_NoClash es
  have hb : F_l_found.body = .seq F_l_found.body.hd (.seq (F_l_found.body.from 1).hd (F_l_found.body.from 2)) := rfl
  rw [hb]
  have t0 : ex PR (callF PR (n + 5)) F_l_found.body.hd (start F_l_found.ns [X, Y]) h = some (.nx, [some X, some Y, some .non], h) := by simp (maxSteps := 1000000) (disch := first | omega | (simp only [new_next, put_next, h0_next, List.length_map, List.length_append, List.length_cons, List.length_nil, List.length_range] <;> omega) | assumption | (simp <;> fail) | omega) [F_l_found, Z.S.hd]
  rw [seq_nx t0, seq_nx t]
  simp (maxSteps := 1000000) (disch := first | omega | (simp only [new_next, put_next, h0_next, List.length_map, List.length_append, List.length_cons, List.length_nil, List.length_range] <;> omega) | assumption | (simp <;> fail) | omega) [F_l_found, Z.S.from, Z.S.tl]
theorem c_found_ok (n a b c d : Nat) (p p' : Int) (us vs w w' : List Int) (h : Hm) (ha : h.get a = some (.lst (us.map D.int))) (hb : h.get b = some (.lst (w.map D.int))) (hc : h.get c = some (.lst (vs.map D.int))) (hd : h.get d = some (.lst (w'.map D.int)))
    (la : a < h.next) (lb : b < h.next) (lc : c < h.next) (ld : d < h.next) (ul : us.length < 1000) (vl : vs.length < 1000) (wl : w.length < 1000) (ht : tld p us w p' vs w' = true) :
    ∃ g q, callF PR (n + 6) "_law_found" [.tup [.int p, .ref a, .ref b], .tup [.int p', .ref c, .ref d]] h = some (.ok (.tup q), g) ∧ Gro h g := by
  rw [callF_eq fn_l_found rfl]
  unfold tld at ht
  rw [decide_eq_true_eq] at ht
  obtain ⟨rfl, hw, ne, hf, hr⟩ := ht
  obtain ⟨q, hq, _, _⟩ := good_ups w.length us vs w w' p rfl hw.symm hr ne
  obtain ⟨g, e, gr⟩ := c_clash n a b c d p us vs w w' h ha hb hc hd hw la lb lc ld hf hr ne ul vl wl hq
  obtain ⟨X, hX⟩ : ∃ X : D, .tup [.int p, .ref a, .ref b] = X := ⟨_, rfl⟩
  obtain ⟨Y, hY⟩ : ∃ Y : D, .tup [.int p, .ref c, .ref d] = Y := ⟨_, rfl⟩
  obtain ⟨Q, hQ⟩ : ∃ Q : List D, [prD q.1, prD q.2] = Q := ⟨_, rfl⟩
  rw [hX, hY, hQ] at e
  rw [hX, hY]
  have t : ex PR (callF PR (n + 5)) (F_l_found.body.from 1).hd [some X, some Y, some .non] h = some (.nx, [some X, some Y, some (.tup Q)], g) := by
    have eb : ex PR (callF PR (n + 5)) (.asg 2 (.call "clash" (.cons (.var 0) (.cons (.var 1) (.nil))) [])) [some X, some Y, some .non] h = some (.nx, [some X, some Y, some (.tup Q)], g) := by simp (maxSteps := 1000000) (disch := first | omega | (simp only [new_next, put_next, h0_next, List.length_map, List.length_append, List.length_cons, List.length_nil, List.length_range] <;> omega) | assumption | (simp <;> fail) | omega) [e]
    exact ex_try_nx eb
  have hb : F_l_found.body = .seq F_l_found.body.hd (.seq (F_l_found.body.from 1).hd (F_l_found.body.from 2)) := rfl
  rw [hb]
  have t0 : ex PR (callF PR (n + 5)) F_l_found.body.hd (start F_l_found.ns [X, Y]) h = some (.nx, [some X, some Y, some .non], h) := by simp (maxSteps := 1000000) (disch := first | omega | (simp only [new_next, put_next, h0_next, List.length_map, List.length_append, List.length_cons, List.length_nil, List.length_range] <;> omega) | assumption | (simp <;> fail) | omega) [F_l_found, Z.S.hd]
  rw [seq_nx t0, seq_nx t]
  refine ⟨g, Q, ?_, gr⟩
  simp (maxSteps := 1000000) (disch := first | omega | (simp only [new_next, put_next, h0_next, List.length_map, List.length_append, List.length_cons, List.length_nil, List.length_range] <;> omega) | assumption | (simp <;> fail) | omega) [F_l_found, Z.S.from, Z.S.tl]
theorem c_refused (n a b c d : Nat) (p p' : Int) (us vs w w' : List Int) (h : Hm) (ha : h.get a = some (.lst (us.map D.int))) (hb : h.get b = some (.lst (w.map D.int))) (hc : h.get c = some (.lst (vs.map D.int))) (hd : h.get d = some (.lst (w'.map D.int))) (la : a < h.next) (lb : b < h.next) (lc : c < h.next) (ld : d < h.next) (ht : tld p us w p' vs w' = false) :
    ∃ g, callF PR (n + 6) "_law_refused_by_any" [.tup [.int p, .ref a, .ref b], .tup [.int p', .ref c, .ref d]] h = some (.ok (.bl true), g) ∧ Gro h g := by
  rw [callF_eq fn_l_refused_by_any rfl]
  obtain ⟨h1, hh1⟩ : ∃ h1, h.new (.lst []) = h1 := ⟨_, rfl⟩
  have gr1 : Gro h h1 := by rw [← hh1]; exact .new
  have cn := c_clash_bad n a b c d p p' us vs w w' h1 (gr1.get ha la) (gr1.get hb lb) (gr1.get hc lc) (gr1.get hd ld) ht
  obtain ⟨X, hX⟩ : ∃ X : D, .tup [.int p, .ref a, .ref b] = X := ⟨_, rfl⟩
  obtain ⟨Y, hY⟩ : ∃ Y : D, .tup [.int p', .ref c, .ref d] = Y := ⟨_, rfl⟩
  rw [hX, hY] at cn ⊢
  have hb : F_l_refused_by_any.body = .seq F_l_refused_by_any.body.hd (.seq (F_l_refused_by_any.body.from 1).hd (F_l_refused_by_any.body.from 2)) := rfl
  rw [hb]
  have t0 : ex PR (callF PR (n + 5)) F_l_refused_by_any.body.hd (start F_l_refused_by_any.ns [X, Y]) h = some (.nx, [some X, some Y, some (.ref h.next), none], h1) := by simp (maxSteps := 1000000) (disch := first | omega | (simp only [new_next, put_next, h0_next, List.length_map, List.length_append, List.length_cons, List.length_nil, List.length_range] <;> omega) | assumption | (simp <;> fail) | omega) [F_l_refused_by_any, Z.S.hd, hh1]
  rw [seq_nx t0]
  have t1 : ∃ h2 k, ex PR (callF PR (n + 5)) (F_l_refused_by_any.body.from 1).hd [some X, some Y, some (.ref h.next), none] h1 = some (.nx, [some X, some Y, some (.ref k), none], h2) ∧ Gro h1 h2 ∧ k < h2.next ∧ h2.get k = some (.lst [.bl true, .bl true, .bl false, .bl false, .bl false, .bl false, .bl false, .bl false, .bl false, .bl false, .bl false, .bl false, .bl false]) := by
    refine ⟨((((((h1.new (.lst [.bl true, .bl true, .bl false, .bl false])).new (.lst [.bl false, .bl false, .bl false, .bl false])).new (.lst [.bl true, .bl true, .bl false, .bl false, .bl false, .bl false, .bl false, .bl false])).new (.lst [.bl false, .bl false, .bl false])).new (.lst [.bl true, .bl true, .bl false, .bl false, .bl false, .bl false, .bl false, .bl false, .bl false, .bl false, .bl false])).new (.lst [.bl false, .bl false])).new (.lst [.bl true, .bl true, .bl false, .bl false, .bl false, .bl false, .bl false, .bl false, .bl false, .bl false, .bl false, .bl false, .bl false]), h1.next + 6, ?_, (((((Gro.new.trans .new).trans .new).trans .new).trans .new).trans .new).trans .new, by simp only [new_next]; omega, by rw [new_get, if_pos (by rfl)]⟩
    have eb : ex PR (callF PR (n + 5)) (.drop (.call "clash" (.cons (.var 0) (.cons (.var 1) (.nil))) [])) [some X, some Y, some (.ref h.next), none] h1 = some (.ex "NoClash", [some X, some Y, some (.ref h.next), none], h1) := by simp (maxSteps := 1000000) (disch := first | omega | (simp only [new_next, put_next, h0_next, List.length_map, List.length_append, List.length_cons, List.length_nil, List.length_range] <;> omega) | assumption | (simp <;> fail) | omega) [cn]
    refine ex_try_as eb em_NoClash_HouseError fun k => ⟨[some X, some Y, some (.ref (h1.next + 6)), some (.exc "NoClash" k)], ?_, rfl⟩
    simp (maxSteps := 1000000) (disch := first | omega | (simp only [new_next, put_next, h0_next, List.length_map, List.length_append, List.length_cons, List.length_nil, List.length_range] <;> omega) | assumption | (simp <;> fail) | omega) []
  obtain ⟨h2, k, e2, gr2, lk, q2⟩ := t1
  rw [seq_nx e2]
  have db : ∀ H : Hm, mapO (dat H 29) [.bl true, .bl true, .bl false, .bl false, .bl false, .bl false, .bl false, .bl false, .bl false, .bl false, .bl false, .bl false, .bl false] = some [.bool true, .bool true, .bool false, .bool false, .bool false, .bool false, .bool false, .bool false, .bool false, .bool false, .bool false, .bool false, .bool false] := fun H => rfl
  have ep : eqPP (some (PyData.list [.bool true, .bool true, .bool false, .bool false, .bool false, .bool false, .bool false, .bool false, .bool false, .bool false, .bool false, .bool false, .bool false])) (some (PyData.list [.bool true, .bool true, .bool false, .bool false, .bool false, .bool false, .bool false, .bool false, .bool false, .bool false, .bool false, .bool false, .bool false])) = some true := eqPP_self _ (by decide +kernel)
  refine ⟨(((h2.new (.lst [.bl true, .bl true])).new (.lst [.bl false])).new (.lst [.bl false, .bl false, .bl false, .bl false, .bl false, .bl false, .bl false, .bl false, .bl false, .bl false, .bl false])).new (.lst [.bl true, .bl true, .bl false, .bl false, .bl false, .bl false, .bl false, .bl false, .bl false, .bl false, .bl false, .bl false, .bl false]), ?_, (gr1.trans gr2).trans (((Gro.new.trans .new).trans .new).trans .new)⟩
  simp (maxSteps := 1000000) (disch := first | omega | (simp only [new_next, put_next, h0_next, List.length_map, List.length_append, List.length_cons, List.length_nil, List.length_range] <;> omega) | assumption | (simp <;> fail) | omega) [F_l_refused_by_any, Z.S.from, Z.S.tl, q2]
  rw [db, Option.map_some, ep]
  rfl
/-! the law's inverses -/
structure Eg where
  r : Int
  o : Int
  b : Int
  m : Int
def Eg.turn (s : Eg) : Eg := ⟨s.o, s.r % s.o, s.m, s.b - s.r / s.o * s.m⟩
def eg (x : Int) : Nat → Eg
  | 0 => ⟨2305843009213693951, x, 0, 1⟩
  | n + 1 => (eg x n).turn
def egOk (s : Eg) : Bool := decide (0 < s.o ∧ 0 ≤ s.r ∧ s.r < 18446744073709551616 ∧ -18446744073709551616 < s.m ∧ s.m < 18446744073709551616)
theorem c_inv (n : Nat) (x y : Int) (e : Nat) (he : e < 1000000) (h : Hm) (hx : (List.range e).all (fun j => egOk (eg x j)) = true) (h0 : (eg x e).o = 0) (hy : (eg x e).b % 2305843009213693951 = y) : callF PR (n + 1) "_law_inverse" [.int x] h = some (.ok (.int y), h) := by
  rw [callF_eq fn_l_inverse rfl]
  have lf : PR.lf = 1000000 := rfl
  have loop : ∃ env' g, whl (fun e1 h1 => evT PR (callF PR n) (.cmp .gt (.var 2) (.con (.int 0))) e1 h1) (fun e1 h1 => ex PR (callF PR n) ((F_l_inverse.body.from 4).hd.bd) e1 h1) 1000000 [some (.int x), some (.int (eg x 0).r), some (.int (eg x 0).o), some (.int (eg x 0).b), some (.int (eg x 0).m), none, none, none] h = some (.nx, env', g) ∧ g = h ∧ ∃ v5 v6 v7, env' = [some (.int x), some (.int (eg x e).r), some (.int (eg x e).o), some (.int (eg x e).b), some (.int (eg x e).m), v5, v6, v7] := by
    refine whl_inv (fun j env g => g = h ∧ ∃ v5 v6 v7, env = [some (.int x), some (.int (eg x j).r), some (.int (eg x j).o), some (.int (eg x j).b), some (.int (eg x j).m), v5, v6, v7]) e ?_ ?_ 1000000 0 _ h (Nat.zero_le _) (by omega) ⟨rfl, _, _, _, rfl⟩
    · rintro j env g hj ⟨rfl, v5, v6, v7, rfl⟩
      have ok := List.all_eq_true.mp hx j (List.mem_range.mpr hj)
      unfold egOk at ok
      rw [decide_eq_true_eq] at ok
      obtain ⟨o1, o2, o3, o4, o5⟩ := ok
      obtain ⟨s, hs⟩ : ∃ s, eg x j = s := ⟨_, rfl⟩
      have ht : eg x (j + 1) = s.turn := by show (eg x j).turn = _; rw [hs]
      rw [hs] at o1 o2 o3 o4 o5 ⊢
      rw [ht]
      obtain ⟨r, o, b, m⟩ := s
      dsimp only at o1 o2 o3 o4 o5 ⊢
      refine ⟨by simp (maxSteps := 1000000) (disch := first | omega | (simp only [new_next, put_next, h0_next, List.length_map, List.length_append, List.length_cons, List.length_nil, List.length_range] <;> omega) | assumption | (simp (disch := omega) <;> assumption) | omega) [o1], [some (.int x), some (.int o), some (.int (r % o)), some (.int m), some (.int (b - r / o * m)), some (.int (r / o)), some (.int (r % o)), some (.int (b - r / o * m))], g, ?_, rfl, _, _, _, rfl⟩
      have dm : ∀ g : Hm, biD .divmod [.int r, .int o] g = some (.ok (.tup [.int (r / o), .int (r % o)]), g) := fun g => if_pos ⟨o1, by omega, by omega⟩
      simp (maxSteps := 1000000) (disch := first | omega | (simp only [new_next, put_next, h0_next, List.length_map, List.length_append, List.length_cons, List.length_nil, List.length_range] <;> omega) | assumption | (simp (disch := omega) <;> assumption) | omega) [F_l_inverse, Z.S.from, Z.S.tl, Z.S.hd, Z.S.bd, dm, setN]
    · rintro env g ⟨rfl, v5, v6, v7, rfl⟩
      rw [h0]
      simp (maxSteps := 1000000) (disch := first | omega | (simp only [new_next, put_next, h0_next, List.length_map, List.length_append, List.length_cons, List.length_nil, List.length_range] <;> omega) | assumption | (simp (disch := omega) <;> assumption) | omega) []
  obtain ⟨env', g, e1, rfl, v5, v6, v7, rfl⟩ := loop
  have hb : F_l_inverse.body = .seq F_l_inverse.body.hd (.seq F_l_inverse.body.tl.hd (.seq (F_l_inverse.body.from 2).hd (.seq (F_l_inverse.body.from 3).hd (.seq (F_l_inverse.body.from 4).hd (F_l_inverse.body.from 5))))) := rfl
  rw [hb]
  have t0 : ex PR (callF PR n) F_l_inverse.body.hd (start F_l_inverse.ns [.int x]) g = some (.nx, [some (.int x), some (.int 2305843009213693951), none, none, none, none, none, none], g) := by simp (maxSteps := 1000000) (disch := first | omega | (simp only [new_next, put_next, h0_next, List.length_map, List.length_append, List.length_cons, List.length_nil, List.length_range] <;> omega) | assumption | (simp <;> fail) | omega) [F_l_inverse, Z.S.hd]
  rw [seq_nx t0]
  have t1 : ex PR (callF PR n) F_l_inverse.body.tl.hd [some (.int x), some (.int 2305843009213693951), none, none, none, none, none, none] g = some (.nx, [some (.int x), some (.int 2305843009213693951), some (.int x), none, none, none, none, none], g) := by simp (maxSteps := 1000000) (disch := first | omega | (simp only [new_next, put_next, h0_next, List.length_map, List.length_append, List.length_cons, List.length_nil, List.length_range] <;> omega) | assumption | (simp <;> fail) | omega) [F_l_inverse, Z.S.hd, Z.S.tl]
  rw [seq_nx t1]
  have t2 : ex PR (callF PR n) (F_l_inverse.body.from 2).hd [some (.int x), some (.int 2305843009213693951), some (.int x), none, none, none, none, none] g = some (.nx, [some (.int x), some (.int 2305843009213693951), some (.int x), some (.int 0), none, none, none, none], g) := by simp (maxSteps := 1000000) (disch := first | omega | (simp only [new_next, put_next, h0_next, List.length_map, List.length_append, List.length_cons, List.length_nil, List.length_range] <;> omega) | assumption | (simp <;> fail) | omega) [F_l_inverse, Z.S.hd, Z.S.tl, Z.S.from]
  rw [seq_nx t2]
  have t3 : ex PR (callF PR n) (F_l_inverse.body.from 3).hd [some (.int x), some (.int 2305843009213693951), some (.int x), some (.int 0), none, none, none, none] g = some (.nx, [some (.int x), some (.int 2305843009213693951), some (.int x), some (.int 0), some (.int 1), none, none, none], g) := by simp (maxSteps := 1000000) (disch := first | omega | (simp only [new_next, put_next, h0_next, List.length_map, List.length_append, List.length_cons, List.length_nil, List.length_range] <;> omega) | assumption | (simp <;> fail) | omega) [F_l_inverse, Z.S.hd, Z.S.tl, Z.S.from]
  rw [seq_nx t3]
  have t4 : ex PR (callF PR n) (F_l_inverse.body.from 4).hd [some (.int x), some (.int 2305843009213693951), some (.int x), some (.int 0), some (.int 1), none, none, none] g = some (.nx, [some (.int x), some (.int (eg x e).r), some (.int (eg x e).o), some (.int (eg x e).b), some (.int (eg x e).m), v5, v6, v7], g) := e1
  rw [seq_nx t4]
  simp (maxSteps := 1000000) (disch := first | omega | (simp only [new_next, put_next, h0_next, List.length_map, List.length_append, List.length_cons, List.length_nil, List.length_range] <;> omega) | assumption | (simp (disch := omega) <;> assumption) | omega) [F_l_inverse, Z.S.tl, Z.S.from, hy]
theorem c_inv1 (n : Nat) (h : Hm) : callF PR (n + 1) "_law_inverse" [.int 998244353] h = some (.ok (.int 1862692870359572359), h) := c_inv n 998244353 _ 20 (by decide) h (by decide +kernel) (by decide +kernel) (by decide +kernel)
theorem c_inv2 (n : Nat) (h : Hm) : callF PR (n + 1) "_law_inverse" [.int 1000000007] h = some (.ok (.int 162220979843304191), h) := c_inv n 1000000007 _ 17 (by decide) h (by decide +kernel) (by decide +kernel) (by decide +kernel)
theorem mx_r (a x : Int) : mx a (x + 2305843009213693951) = mx a x := by unfold mx; omega
theorem mx_l (a x : Int) : mx (a + 2305843009213693951) x = mx a x := by unfold mx; omega
theorem foldl_same {α β : Type} (f : β → α → β) (d : α → α) (hd : ∀ b x, f b (d x) = f b x) : ∀ (us : List α) (i : Nat) (l : β) (hi : i < us.length), (us.set i (d us[i])).foldl f l = us.foldl f l
  | x :: us, 0, l, _ => by
    show us.foldl f (f l (d x)) = _
    rw [hd]; rfl
  | x :: us, i + 1, l, hi => foldl_same f d hd us i (f l x) (by simpa using hi)
theorem cut_to {α : Type} (xs : List α) (k : Nat) : cut xs none (some (k : Int)) = xs.take k := by
  unfold cut sI
  dsimp only
  rw [if_neg (by omega), Int.toNat_natCast, List.drop_zero, Nat.sub_zero]
  by_cases hk : k ≤ xs.length
  · rw [Nat.min_eq_left hk]
  · rw [Nat.min_eq_right (by omega), List.take_of_length_le (Nat.le_refl _), List.take_of_length_le (by omega)]
--CUT
theorem c_ltop (n a b : Nat) (p : Int) (us w : List Int) (h : Hm) (ha : h.get a = some (.lst (us.map D.int))) (hb : h.get b = some (.lst (w.map D.int))) (la : a < h.next) (lb : b < h.next) (hl : us.length < 1000) :
    ∃ g, callF PR (n + 2) "_law_top" [.tup [.int p, .ref a, .ref b]] h = some (.ok (.int (rise p (st us) w)), g) ∧ Gro h g := by
  rw [callF_eq fn_l_top rfl]
  have na : ¬ a = h.next := by omega
  have nb : ¬ b = h.next := by omega
  obtain ⟨us2, hus2⟩ : ∃ us2, us ++ [(us.length : Int)] = us2 := ⟨_, rfl⟩
  have hm : us.map D.int ++ [D.int (us.length : Int)] = us2.map D.int := by rw [← hus2, List.map_append]; rfl
  have hst : us2.foldl mx 1 = st us := by rw [← hus2, List.foldl_append]; rfl
  obtain ⟨h1, hh1⟩ : ∃ h1, (h.new (.lst [.int (us.length : Int)])).new (.lst (us2.map D.int)) = h1 := ⟨_, rfl⟩
  have gr : Gro h h1 := by rw [← hh1]; exact Gro.new.trans .new
  have w1 : h1.get (h.next + 1) = some (.lst (us2.map D.int)) := by rw [← hh1, new_get, if_pos (by rfl)]
  have hb1 := gr.get hb lb
  simp (maxSteps := 1000000) (disch := first | omega | (simp only [new_next, put_next, h0_next, List.length_map, List.length_append, List.length_cons, List.length_nil, List.length_range] <;> omega) | assumption | (simp (disch := omega) <;> assumption) | omega) [F_l_top, ha, na, hm, hh1, w1]
  refine rel (fun r => ∃ g, r = some (.ok (.int (rise p (st us) w)), g) ∧ Gro h g) D.int (fun d env g => g = h1 ∧ ∃ v2, env = [some (.tup [.int p, .ref a, .ref b]), some (.int (d.foldl mx 1)), v2, none, none]) ⟨rfl, _, rfl⟩ (fun d env g i => ?_) ?_ ?_
  · rw [i.1]; simp (maxSteps := 1000000) (disch := first | omega | (simp only [new_next, put_next, h0_next, List.length_map, List.length_append, List.length_cons, List.length_nil, List.length_range] <;> omega) | assumption | (simp <;> fail) | omega) [w1]
  · rintro d x rest env g hd ⟨rfl, v2, rfl⟩
    refine ⟨_, rfl, [some (.tup [.int p, .ref a, .ref b]), some (.int ((d ++ [x]).foldl mx 1)), some (.int x), none, none], _, ?_, rfl, _, rfl⟩
    rw [List.foldl_append]
    simp (maxSteps := 1000000) (disch := first | omega | (simp only [new_next, put_next, h0_next, List.length_map, List.length_append, List.length_cons, List.length_nil, List.length_range] <;> omega) | assumption | (simp <;> fail) | omega) [c_lmix]
  · rintro env g ⟨rfl, v2, rfl⟩
    rw [hst]
    simp (maxSteps := 1000000) (disch := first | omega | (simp only [new_next, put_next, h0_next, List.length_map, List.length_append, List.length_cons, List.length_nil, List.length_range] <;> omega) | assumption | (simp (disch := omega) <;> assumption) | omega) [hb1]
    refine rel (fun r => ∃ g, r = some (.ok (.int (rise p (st us) w)), g) ∧ Gro h g) D.int (fun d env g' => g' = g ∧ ∃ v4, env = [some (.tup [.int p, .ref a, .ref b]), some (.int (rs p (st us) d).l), v2, some (.int (rs p (st us) d).p), v4]) ⟨rfl, _, rfl⟩ (fun d env g i => ?_) ?_ ?_
    · rw [i.1]; simp (maxSteps := 1000000) (disch := first | omega | (simp only [new_next, put_next, h0_next, List.length_map, List.length_append, List.length_cons, List.length_nil, List.length_range] <;> omega) | assumption | (simp (disch := omega) <;> assumption) | omega) [hb1]
    · rintro d x rest env g hd ⟨rfl, v4, rfl⟩
      rw [rs_snoc]
      unfold RS.turn
      obtain ⟨pp, hpp⟩ : ∃ pp, (rs p (st us) d).p = pp := ⟨_, rfl⟩
      obtain ⟨lp, hlp⟩ : ∃ lp, (rs p (st us) d).l = lp := ⟨_, rfl⟩
      rw [hpp, hlp]
      by_cases hp : pp % 2 = 0
      · refine ⟨_, rfl, [some (.tup [.int p, .ref a, .ref b]), some (.int (mx lp x)), v2, some (.int (pp / 2)), some (.int x)], _, ?_, rfl, _, by rw [if_pos hp]⟩
        simp (maxSteps := 1000000) (disch := first | omega | (simp only [new_next, put_next, h0_next, List.length_map, List.length_append, List.length_cons, List.length_nil, List.length_range] <;> omega) | assumption | (simp <;> fail) | omega) [c_lmix, hp]
      · refine ⟨_, rfl, [some (.tup [.int p, .ref a, .ref b]), some (.int (mx x lp)), v2, some (.int (pp / 2)), some (.int x)], _, ?_, rfl, _, by rw [if_neg hp]⟩
        simp (maxSteps := 1000000) (disch := first | omega | (simp only [new_next, put_next, h0_next, List.length_map, List.length_append, List.length_cons, List.length_nil, List.length_range] <;> omega) | assumption | (simp <;> fail) | omega) [c_lmix, hp]
    · rintro env g' ⟨rfl, v4, rfl⟩
      exact ⟨g', by simp (maxSteps := 1000000) (disch := first | omega | (simp only [new_next, put_next, h0_next, List.length_map, List.length_append, List.length_cons, List.length_nil, List.length_range] <;> omega) | assumption | (simp <;> fail) | omega) [rise], gr⟩
theorem c_told (n a b c d : Nat) (p p' : Int) (us vs w w' : List Int) (h : Hm) (ha : h.get a = some (.lst (us.map D.int))) (hb : h.get b = some (.lst (w.map D.int))) (hc : h.get c = some (.lst (vs.map D.int))) (hd : h.get d = some (.lst (w'.map D.int)))
    (la : a < h.next) (lb : b < h.next) (lc : c < h.next) (ld : d < h.next) (ul : us.length < 1000) (vl : vs.length < 1000) :
    ∃ g, callF PR (n + 3) "_law_told" [.tup [.int p, .ref a, .ref b], .tup [.int p', .ref c, .ref d]] h = some (.ok (.bl (tld p us w p' vs w')), g) ∧ Gro h g := by
  rw [callF_eq fn_l_told rfl]
  by_cases h1 : p = p'
  · subst h1
    by_cases h2 : w.length = w'.length
    · by_cases h3 : us = vs
      · have tf : tld p us w p vs w' = false := by unfold tld; rw [decide_eq_false_iff_not]; exact fun z => z.2.2.1 h3
        subst h3
        rw [tf]
        exact ⟨h, by simp (maxSteps := 1000000) (disch := first | omega | (simp only [new_next, put_next, h0_next, List.length_map, List.length_append, List.length_cons, List.length_nil, List.length_range] <;> omega) | assumption | (simp <;> fail) | omega) [F_l_told, ha, hb, hc, hd, h2], .refl⟩
      · by_cases h4 : p < 0
        · have tf : tld p us w p vs w' = false := by
            unfold tld; rw [decide_eq_false_iff_not]
            rintro ⟨_, _, _, z, _⟩
            unfold ft at z
            rw [decide_eq_true_eq] at z
            omega
          rw [tf]
          exact ⟨h, by simp (maxSteps := 1000000) (disch := first | omega | (simp only [new_next, put_next, h0_next, List.length_map, List.length_append, List.length_cons, List.length_nil, List.length_range] <;> omega) | assumption | (simp <;> fail) | omega) [F_l_told, ha, hb, hc, hd, h2, h3, h4], .refl⟩
        · by_cases h5 : p / 2 ^ w.length = 0
          · obtain ⟨g1, e1, gr1⟩ := c_ltop n a b p us w h ha hb la lb ul
            have le1 := gr1.le
            obtain ⟨g2, e2, gr2⟩ := c_ltop n c d p vs w' g1 (gr1.get hc lc) (gr1.get hd ld) (by omega) (by omega) vl
            have tf : tld p us w p vs w' = decide (rise p (st us) w = rise p (st vs) w') := by
              unfold tld ft
              rw [decide_eq_decide]
              exact ⟨fun z => z.2.2.2.2, fun z => ⟨rfl, h2, h3, by rw [decide_eq_true_eq]; exact ⟨by omega, h5⟩, z⟩⟩
            rw [tf]
            have h5' : p / 2 ^ w'.length = 0 := by rw [← h2]; exact h5
            exact ⟨g2, by simp (maxSteps := 1000000) (disch := first | omega | (simp only [new_next, put_next, h0_next, List.length_map, List.length_append, List.length_cons, List.length_nil, List.length_range] <;> omega) | assumption | (simp <;> fail) | omega) [F_l_told, ha, hb, hc, hd, h2, h3, h4, h5, h5', e1, e2], gr1.trans gr2⟩
          · have tf : tld p us w p vs w' = false := by
              unfold tld; rw [decide_eq_false_iff_not]
              rintro ⟨_, _, _, z, _⟩
              unfold ft at z
              rw [decide_eq_true_eq] at z
              exact h5 z.2
            rw [tf]
            have h5' : ¬ p / 2 ^ w'.length = 0 := by rw [← h2]; exact h5
            exact ⟨h, by simp (maxSteps := 1000000) (disch := first | omega | (simp only [new_next, put_next, h0_next, List.length_map, List.length_append, List.length_cons, List.length_nil, List.length_range] <;> omega) | assumption | (simp <;> fail) | omega) [F_l_told, ha, hb, hc, hd, h2, h3, h4, h5, h5'], .refl⟩
    · have tf : tld p us w p vs w' = false := by unfold tld; rw [decide_eq_false_iff_not]; exact fun z => h2 z.2.1
      rw [tf]
      have h2' : ¬ (w.length : Int) = w'.length := by omega
      exact ⟨h, by simp (maxSteps := 1000000) (disch := first | omega | (simp only [new_next, put_next, h0_next, List.length_map, List.length_append, List.length_cons, List.length_nil, List.length_range] <;> omega) | assumption | (simp <;> fail) | omega) [F_l_told, ha, hb, hc, hd, h2, h2'], .refl⟩
  · have tf : tld p us w p' vs w' = false := by unfold tld; rw [decide_eq_false_iff_not]; exact fun z => h1 z.1
    rw [tf]
    exact ⟨h, by simp (maxSteps := 1000000) (disch := first | omega | (simp only [new_next, put_next, h0_next, List.length_map, List.length_append, List.length_cons, List.length_nil, List.length_range] <;> omega) | assumption | (simp <;> fail) | omega) [F_l_told, h1], .refl⟩
theorem c_solved (n : Nat) (x due : Int) (h : Hm) : ∃ y, callF PR (n + 2) "_law_solved" [.int x, .int due] h = some (.ok (.ref h.next), h.new (.lst (([x, y] : List Int).map D.int))) := by
  rw [callF_eq fn_l_solved rfl]
  have i1 := c_inv1 n h
  have i2 := c_inv2 n h
  have e1 := c_lmix n 1 x h
  exact ⟨((due - 97 - 2000000014) * 1862692870359572359 % 2305843009213693951 - 97 - 998244353 * mx 1 x) * 162220979843304191 % 2305843009213693951, by simp (maxSteps := 1000000) (disch := first | omega | (simp only [new_next, put_next, h0_next, List.length_map, List.length_append, List.length_cons, List.length_nil, List.length_range] <;> omega) | assumption | (simp <;> fail) | omega) [F_l_solved, e1, i1, i2]⟩
def rz (us : List Int) (s t : Int) : List Int := if us.length = 0 then us else us.set (s % us.length).toNat (gt us (s % us.length).toNat + t)
theorem rz_len (us : List Int) (s t : Int) : (rz us s t).length = us.length := by unfold rz; split <;> simp
theorem rz_at (us : List Int) (s t : Int) (h : us.length ≠ 0) : ∃ (i : Nat) (hi : i < us.length), s % (us.length : Int) = (i : Int) ∧ rz us s t = us.set i (us[i] + t) := by
  obtain ⟨j, hj⟩ : ∃ j : Nat, s % us.length = (j : Int) := ⟨(s % us.length).toNat, by have := Int.emod_nonneg s (show (us.length : Int) ≠ 0 by omega); omega⟩
  have hjl : j < us.length := by have := Int.emod_lt_of_pos s (show (0 : Int) < us.length by omega); omega
  refine ⟨j, hjl, hj, ?_⟩
  unfold rz
  rw [if_neg h, hj, Int.toNat_natCast]
  congr 2
  unfold gt
  rw [List.getD_eq_getElem?_getD, List.getElem?_eq_getElem hjl]; rfl
theorem st_rz (us : List Int) (s : Int) : st (rz us s 2305843009213693951) = st us := by
  by_cases h : us.length = 0
  · unfold rz; rw [if_pos h]
  · obtain ⟨i, hi, _, e⟩ := rz_at us s 2305843009213693951 h
    unfold st
    rw [rz_len, e, foldl_same mx (fun x => x + 2305843009213693951) (fun b x => mx_r b x) us i 1 hi]
theorem rz_ne (us : List Int) (s : Int) (h : us.length ≠ 0) : us ≠ rz us s 2305843009213693951 := by
  obtain ⟨i, hi, _, e⟩ := rz_at us s 2305843009213693951 h
  rw [e]
  intro z
  have : us[i]? = (us.set i (us[i] + 2305843009213693951))[i]? := by rw [← z]
  rw [List.getElem?_set_self hi, List.getElem?_eq_getElem hi] at this
  have := Option.some.inj this
  omega
theorem c_raised (n a : Nat) (spot t : Int) (us : List Int) (h : Hm) (la : a < h.next) (ea : h.get a = some (.lst (us.map D.int))) :
    callF PR (n + 1) "_law_raised" [.ref a, .int spot, .int t] h = some (.ok (.ref h.next), h.new (.lst ((rz us spot t).map D.int))) := by
  rw [callF_eq fn_l_raised rfl]
  by_cases h1 : us.length = 0
  · have h2 : ¬ 0 < us.length := by omega
    have h3 : ¬ (0 : Int) < us.length := by omega
    simp (maxSteps := 1000000) (disch := first | omega | (simp only [new_next, put_next, h0_next, List.length_map, List.length_append, List.length_cons, List.length_nil, List.length_range] <;> omega) | assumption | (simp <;> fail) | omega) [F_l_raised, ea, h1, h2, h3, rz]
  · have h2 : 0 < us.length := by omega
    have h3 : (0 : Int) < us.length := by omega
    obtain ⟨j, hj⟩ : ∃ j : Nat, spot % us.length = (j : Int) := ⟨(spot % us.length).toNat, by have := Int.emod_nonneg spot (show (us.length : Int) ≠ 0 by omega); omega⟩
    have hjl : j < us.length := by have := Int.emod_lt_of_pos spot h3; omega
    have a1 := at_gt us j hjl
    have i1 := ixD_nat us.length j hjl
    simp (maxSteps := 1000000) (disch := first | omega | (simp only [new_next, put_next, h0_next, List.length_map, List.length_append, List.length_cons, List.length_nil, List.length_range] <;> omega) | assumption | (simp <;> fail) | omega) [F_l_raised, ea, h1, h2, h3, hj, rz, a1, i1, List.map_set]
/-- a paper that stands on the heap -/
def Pa (h : Hm) (X : D) : Prop := ∃ (p : Int) (a b : Nat) (us w : List Int), X = .tup [.int p, .ref a, .ref b] ∧ h.get a = some (.lst (us.map D.int)) ∧ h.get b = some (.lst (w.map D.int)) ∧ a < h.next ∧ b < h.next ∧ us.length < 1000 ∧ w.length < 1000
theorem Pa.gro {h g : Hm} {X : D} (i : Pa h X) (gr : Gro h g) : Pa g X := by
  obtain ⟨p, a, b, us, w, e, ha, hb, la, lb, x⟩ := i
  have := gr.le
  exact ⟨p, a, b, us, w, e, gr.get ha la, gr.get hb lb, by omega, by omega, x⟩
theorem Pa.of {g : Hm} {q : Int} {a b : Nat} {us w : List Int} (ha : g.get a = some (.lst (us.map D.int))) (hb : g.get b = some (.lst (w.map D.int))) (la : a < g.next) (lb : b < g.next) (hx : us.length < 1000) (hy : w.length < 1000) : Pa g (.tup [.int q, .ref a, .ref b]) := ⟨q, a, b, us, w, rfl, ha, hb, la, lb, hx, hy⟩
def SP (h g : Hm) (r : Nat) : Prop := Gro h g ∧ r < g.next ∧ ∃ X Y, g.get r = some (.lst [X, Y]) ∧ Pa g X ∧ Pa g Y
theorem SP.mk {h g : Hm} {X Y : D} (gr : Gro h g) (i : Pa g X) (j : Pa g Y) : SP h (g.new (.lst [X, Y])) g.next :=
  ⟨gr.trans .new, Nat.lt_succ_self _, X, Y, by rw [new_get, if_pos rfl], i.gro .new, j.gro .new⟩
/-- three rows put at the heap's end -/
theorem c_spoilt (n a b c d : Nat) (p k s : Int) (us vs w w' : List Int) (h : Hm) (ha : h.get a = some (.lst (us.map D.int))) (hb : h.get b = some (.lst (w.map D.int))) (hc : h.get c = some (.lst (vs.map D.int))) (hd : h.get d = some (.lst (w'.map D.int)))
    (la : a < h.next) (lb : b < h.next) (lc : c < h.next) (ld : d < h.next) (ul : us.length < 900) (vl : vs.length < 900) (wl : w.length < 900) (wl' : w'.length < 900) :
    ∃ g r, callF PR (n + 3) "_law_spoilt" [.tup [.int p, .ref a, .ref b], .tup [.int p, .ref c, .ref d], .int k, .int s] h = some (.ok (.ref r), g) ∧ SP h g r := by
  rw [callF_eq fn_l_spoilt rfl]
  have na : ∀ j, ¬ a = h.next + j := fun j => by omega
  have nb : ∀ j, ¬ b = h.next + j := fun j => by omega
  have nc : ∀ j, ¬ c = h.next + j := fun j => by omega
  have nd : ∀ j, ¬ d = h.next + j := fun j => by omega
  have na0 : ¬ a = h.next := by omega
  have nb0 : ¬ b = h.next := by omega
  have nc0 : ¬ c = h.next := by omega
  have nd0 : ¬ d = h.next := by omega
  have PX : Pa h (.tup [.int p, .ref a, .ref b]) := ⟨p, a, b, us, w, rfl, ha, hb, la, lb, by omega, by omega⟩
  -- two rows put at the heap's end make a paper
  have two : ∀ (H : Hm) (q : Int) (xs ys : List Int), xs.length < 1000 → ys.length < 1000 → Pa ((H.new (.lst (xs.map D.int))).new (.lst (ys.map D.int))) (.tup [.int q, .ref H.next, .ref (H.next + 1)]) := fun H q xs ys hx hy =>
    ⟨q, _, _, xs, ys, rfl, by rw [new_get, if_neg (by simp only [new_next]; omega), new_get, if_pos rfl], by rw [new_get, if_pos (by rfl)], by simp only [new_next]; omega, by simp only [new_next]; omega, hx, hy⟩
  by_cases k0 : k = 0
  · subst k0
    refine ⟨_, _, ?_, SP.mk (Gro.new.trans .new) (PX.gro (Gro.new.trans .new)) (two h (p + 1 + s % 3) vs w' (by omega) (by omega))⟩
    simp (maxSteps := 1000000) (disch := first | omega | (simp only [new_next, put_next, h0_next, List.length_map, List.length_append, List.length_cons, List.length_nil, List.length_range] <;> omega) | assumption | (simp (disch := omega) <;> assumption) | omega) [F_l_spoilt, setN, hc, hd, nd 0]
  by_cases k1 : k = 1
  · subst k1
    have om : w'.map D.int ++ [D.int s] = (w' ++ [s]).map D.int := by rw [List.map_append]; rfl
    have ol : (w' ++ [s]).length < 1000 := by simp; omega
    generalize w' ++ [s] = ws at om ol
    have gr : Gro h (((h.new (.lst (vs.map D.int))).new (.lst [.int s])).new (.lst (ws.map D.int))) := (Gro.new.trans .new).trans .new
    refine ⟨_, _, ?_, SP.mk gr (PX.gro gr) (Pa.of (q := p) (a := h.next) (b := h.next + 2) (us := vs) (w := ws) (by simp (maxSteps := 1000000) (disch := first | omega | (simp only [new_next, put_next, h0_next, List.length_map, List.length_append, List.length_cons, List.length_nil, List.length_range] <;> omega) | assumption | (simp <;> fail) | omega) []) (by simp (maxSteps := 1000000) (disch := first | omega | (simp only [new_next, put_next, h0_next, List.length_map, List.length_append, List.length_cons, List.length_nil, List.length_range] <;> omega) | assumption | (simp <;> fail) | omega) []) (by simp only [new_next]; omega) (by simp only [new_next]; omega) (by omega) (by omega))⟩
    simp (maxSteps := 1000000) (disch := first | omega | (simp only [new_next, put_next, h0_next, List.length_map, List.length_append, List.length_cons, List.length_nil, List.length_range] <;> omega) | assumption | (simp (disch := omega) <;> assumption) | omega) [F_l_spoilt, setN, hc, hd, nd 0, nd 1, om]
  by_cases k2 : k = 2
  · subst k2
    have r1 := c_raised (n + 1) d s 2305843009213693951 w' (h.new (.lst (us.map D.int))) (by simp only [new_next]; omega) (by simp (maxSteps := 1000000) (disch := first | omega | (simp only [new_next, put_next, h0_next, List.length_map, List.length_append, List.length_cons, List.length_nil, List.length_range] <;> omega) | assumption | (simp (disch := omega) <;> assumption) | omega) [nd 0, hd])
    have rl := rz_len w' s 2305843009213693951
    generalize rz w' s 2305843009213693951 = ws at r1 rl
    refine ⟨_, _, ?_, SP.mk (Gro.new.trans .new) (PX.gro (Gro.new.trans .new)) (two h p us ws (by omega) (by omega))⟩
    simp (maxSteps := 1000000) (disch := first | omega | (simp only [new_next, put_next, h0_next, List.length_map, List.length_append, List.length_cons, List.length_nil, List.length_range] <;> omega) | assumption | (simp (disch := omega) <;> assumption) | omega) [F_l_spoilt, setN, ha, r1]
  by_cases k3 : k = 3
  · subst k3
    have gr : Gro h ((((h.new (.lst (us.map D.int))).new (.lst (w.map D.int))).new (.lst (vs.map D.int))).new (.lst (w'.map D.int))) := ((Gro.new.trans .new).trans .new).trans .new
    obtain ⟨f, hf⟩ : ∃ f, p + 2 ^ w'.length * (1 + s % 9) = f := ⟨_, rfl⟩
    refine ⟨_, _, ?_, SP.mk gr ((two h f us w (by omega) (by omega)).gro (Gro.new.trans .new)) (two _ f vs w' (by omega) (by omega))⟩
    simp (maxSteps := 1000000) (disch := first | omega | (simp only [new_next, put_next, h0_next, List.length_map, List.length_append, List.length_cons, List.length_nil, List.length_range] <;> omega) | assumption | (simp (disch := omega) <;> assumption) | omega) [F_l_spoilt, setN, ha, hb, hc, hd, nb 0, nc 0, nc 1, nd 0, nd 1, nd 2, hf]
  by_cases k4 : k = 4
  · subst k4
    have gr : Gro h ((((h.new (.lst (us.map D.int))).new (.lst (w.map D.int))).new (.lst (vs.map D.int))).new (.lst (w'.map D.int))) := ((Gro.new.trans .new).trans .new).trans .new
    obtain ⟨f, hf⟩ : ∃ f : Int, -1 - s % 9 = f := ⟨_, rfl⟩
    refine ⟨_, _, ?_, SP.mk gr ((two h f us w (by omega) (by omega)).gro (Gro.new.trans .new)) (two _ f vs w' (by omega) (by omega))⟩
    simp (maxSteps := 1000000) (disch := first | omega | (simp only [new_next, put_next, h0_next, List.length_map, List.length_append, List.length_cons, List.length_nil, List.length_range] <;> omega) | assumption | (simp (disch := omega) <;> assumption) | omega) [F_l_spoilt, setN, ha, hb, hc, hd, nb 0, nc 0, nc 1, nd 0, nd 1, nd 2, hf]
  by_cases k5 : k = 5
  · subst k5
    have r1 := c_raised (n + 1) c (s / 7) 1 vs h lc hc
    have rl := rz_len vs (s / 7) 1
    generalize rz vs (s / 7) 1 = ws at r1 rl
    refine ⟨_, _, ?_, SP.mk (Gro.new.trans .new) (PX.gro (Gro.new.trans .new)) (two h p ws w' (by omega) (by omega))⟩
    simp (maxSteps := 1000000) (disch := first | omega | (simp only [new_next, put_next, h0_next, List.length_map, List.length_append, List.length_cons, List.length_nil, List.length_range] <;> omega) | assumption | (simp (disch := omega) <;> assumption) | omega) [F_l_spoilt, setN, hd, r1, nd 0]
  by_cases k6 : k = 6
  · subst k6
    have om : vs.map D.int ++ [D.int s] = (vs ++ [s]).map D.int := by rw [List.map_append]; rfl
    have ol : (vs ++ [s]).length < 1000 := by simp; omega
    generalize vs ++ [s] = ws at om ol
    have gr : Gro h (((h.new (.lst [.int s])).new (.lst (ws.map D.int))).new (.lst (w'.map D.int))) := (Gro.new.trans .new).trans .new
    refine ⟨_, _, ?_, SP.mk gr (PX.gro gr) (Pa.of (q := p) (a := h.next + 1) (b := h.next + 2) (us := ws) (w := w') (by simp (maxSteps := 1000000) (disch := first | omega | (simp only [new_next, put_next, h0_next, List.length_map, List.length_append, List.length_cons, List.length_nil, List.length_range] <;> omega) | assumption | (simp <;> fail) | omega) []) (by simp (maxSteps := 1000000) (disch := first | omega | (simp only [new_next, put_next, h0_next, List.length_map, List.length_append, List.length_cons, List.length_nil, List.length_range] <;> omega) | assumption | (simp <;> fail) | omega) []) (by simp only [new_next]; omega) (by simp only [new_next]; omega) (by omega) (by omega))⟩
    simp (maxSteps := 1000000) (disch := first | omega | (simp only [new_next, put_next, h0_next, List.length_map, List.length_append, List.length_cons, List.length_nil, List.length_range] <;> omega) | assumption | (simp (disch := omega) <;> assumption) | omega) [F_l_spoilt, setN, hc, hd, nc0, nd0, nd 0, nd 1, om]
  by_cases k8 : k = 8
  · subst k8
    obtain ⟨h1, hh1⟩ : ∃ h1, (h.new (.lst (us.map D.int))).new (.lst (w.map D.int)) = h1 := ⟨_, rfl⟩
    have gr1 : Gro h h1 := by rw [← hh1]; exact Gro.new.trans .new
    have P1 := two h 0 us w (by omega) (by omega)
    rw [hh1] at P1
    have n1 : h1.next = h.next + 2 := by rw [← hh1]; rfl
    obtain ⟨g, e, gr⟩ := c_ltop n h.next (h.next + 1) 0 us w h1 (by rw [← hh1]; simp (maxSteps := 1000000) (disch := first | omega | (simp only [new_next, put_next, h0_next, List.length_map, List.length_append, List.length_cons, List.length_nil, List.length_range] <;> omega) | assumption | (simp <;> fail) | omega) []) (by rw [← hh1]; simp (maxSteps := 1000000) (disch := first | omega | (simp only [new_next, put_next, h0_next, List.length_map, List.length_append, List.length_cons, List.length_nil, List.length_range] <;> omega) | assumption | (simp <;> fail) | omega) []) (by omega) (by omega) (by omega)
    obtain ⟨t, ht⟩ : ∃ t, rise 0 (st us) w = t := ⟨_, rfl⟩
    rw [ht] at e
    obtain ⟨y, e2⟩ := c_solved n s t g
    refine ⟨_, _, ?_, SP.mk (((gr1.trans gr).trans .new).trans .new) (P1.gro ((gr.trans .new).trans .new)) (two g 0 [s, y] [] (by simp) (by simp))⟩
    simp (maxSteps := 1000000) (disch := first | omega | (simp only [new_next, put_next, h0_next, List.length_map, List.length_append, List.length_cons, List.length_nil, List.length_range] <;> omega) | assumption | (simp (disch := omega) <;> assumption) | omega) [F_l_spoilt, setN, ha, hb, nb 0, hh1, e, e2]
  obtain ⟨x3, hx3, l3⟩ : ∃ x3 : List Int, cut (vs.map D.int) none (some (-1)) = x3.map D.int ∧ x3.length ≤ vs.length := ⟨vs.dropLast, (cut_init (vs.map D.int)).trans (List.map_dropLast ..).symm, by rw [List.length_dropLast]; omega⟩
  refine ⟨_, _, ?_, SP.mk (Gro.new.trans .new) (PX.gro (Gro.new.trans .new)) (two h p x3 w' (by omega) (by omega))⟩
  simp (maxSteps := 1000000) (disch := first | omega | (simp only [new_next, put_next, h0_next, List.length_map, List.length_append, List.length_cons, List.length_nil, List.length_range] <;> omega) | assumption | (simp (disch := omega) <;> assumption) | omega) [F_l_spoilt, setN, k0, k1, k2, k3, k4, k5, k6, k8, hc, hd, nd 0, hx3]
/-- the law's loop -/
abbrev EK (v1 v2 v3 v4 X Y : D) (v7 v8 v9 v10 : Option D) : List (Option D) := [some (.ref 0), some v1, some v2, some v3, some v4, some X, some Y, v7, v8, v9, v10]
abbrev BD : S := (F_law.body.from 6).hd.bd
theorem c_judged (P Q : D) (h : Hm) (r : Nat) (iP : Pa h P) (iQ : Pa h Q) (rr : h.get r = some (.lst [P, Q])) (lr : r < h.next) (v1 v2 v3 v4 X Y : D) (v7 v9 v10 : Option D) :
    ∃ f g g', ex PR (callF PR 6) (BD.from 2).hd (EK v1 v2 v3 v4 X Y v7 (some (.ref r)) v9 v10) h = some (.nx, EK v1 v2 v3 v4 X Y v7 (some (.ref r)) (some f) v10, g) ∧
      ex PR (callF PR 6) (BD.from 3).hd (EK v1 v2 v3 v4 X Y v7 (some (.ref r)) (some f) v10) g = some (.nx, EK v1 v2 v3 v4 X Y v7 (some (.ref r)) (some f) v10, g') ∧ Gro h g' := by
  obtain ⟨p, a, b, us, w, rfl, ha, hb, la, lb, ul, wl⟩ := iP
  obtain ⟨p', c, d, vs, w', rfl, hc, hd, lc, ld, vl, wl'⟩ := iQ
  cases ht : tld p us w p' vs w' with
  | false =>
    have e1 := c_found_no 0 a b c d p p' us vs w w' h ha hb hc hd ht
    obtain ⟨g2, e2, gr2⟩ := c_told 3 a b c d p p' us vs w w' h ha hb hc hd la lb lc ld ul vl
    rw [ht] at e2
    have le2 := gr2.le
    obtain ⟨g3, e3, gr3⟩ := c_refused 0 a b c d p p' us vs w w' g2 (gr2.get ha la) (gr2.get hb lb) (gr2.get hc lc) (gr2.get hd ld) (by omega) (by omega) (by omega) (by omega) ht
    have rr2 := gr2.get rr lr
    have rr3 := gr3.get rr2 (by omega)
    obtain ⟨P, hP⟩ : ∃ P : D, .tup [.int p, .ref a, .ref b] = P := ⟨_, rfl⟩
    obtain ⟨Q, hQ⟩ : ∃ Q : D, .tup [.int p', .ref c, .ref d] = Q := ⟨_, rfl⟩
    rw [hP, hQ] at *
    exact ⟨.str "refused", h, g3, by simp (maxSteps := 1000000) (disch := first | omega | (simp only [new_next, put_next, h0_next, List.length_map, List.length_append, List.length_cons, List.length_nil, List.length_range] <;> omega) | assumption | (simp <;> fail) | omega) [BD, F_law, Z.S.hd, Z.S.tl, Z.S.from, Z.S.bd, rr, e1], by simp (maxSteps := 1000000) (disch := first | omega | (simp only [new_next, put_next, h0_next, List.length_map, List.length_append, List.length_cons, List.length_nil, List.length_range] <;> omega) | assumption | (simp <;> fail) | omega) [BD, F_law, Z.S.hd, Z.S.tl, Z.S.from, Z.S.bd, rr, rr2, rr3, e2, e3], gr2.trans gr3⟩
  | true =>
    obtain ⟨g1, q, e1, gr1⟩ := c_found_ok 0 a b c d p p' us vs w w' h ha hb hc hd la lb lc ld ul vl wl ht
    have le1 := gr1.le
    obtain ⟨g2, e2, gr2⟩ := c_told 3 a b c d p p' us vs w w' g1 (gr1.get ha la) (gr1.get hb lb) (gr1.get hc lc) (gr1.get hd ld) (by omega) (by omega) (by omega) (by omega) ul vl
    rw [ht] at e2
    have rr1 := gr1.get rr lr
    have rr2 := gr2.get rr1 (by omega)
    obtain ⟨P, hP⟩ : ∃ P : D, .tup [.int p, .ref a, .ref b] = P := ⟨_, rfl⟩
    obtain ⟨Q, hQ⟩ : ∃ Q : D, .tup [.int p', .ref c, .ref d] = Q := ⟨_, rfl⟩
    rw [hP, hQ] at *
    exact ⟨.tup q, g1, g2, by simp (maxSteps := 1000000) (disch := first | omega | (simp only [new_next, put_next, h0_next, List.length_map, List.length_append, List.length_cons, List.length_nil, List.length_range] <;> omega) | assumption | (simp <;> fail) | omega) [BD, F_law, Z.S.hd, Z.S.tl, Z.S.from, Z.S.bd, rr, e1], by simp (maxSteps := 1000000) (disch := first | omega | (simp only [new_next, put_next, h0_next, List.length_map, List.length_append, List.length_cons, List.length_nil, List.length_range] <;> omega) | assumption | (simp <;> fail) | omega) [BD, F_law, Z.S.hd, Z.S.tl, Z.S.from, Z.S.bd, rr, rr1, rr2, e2], gr1.trans gr2⟩
theorem c_turn (p : Int) (a b c d : Nat) (us vs w w' : List Int) (s k : Int) (h : Hm) (ha : h.get a = some (.lst (us.map D.int))) (hb : h.get b = some (.lst (w.map D.int))) (hc : h.get c = some (.lst (vs.map D.int))) (hd : h.get d = some (.lst (w'.map D.int)))
    (la : a < h.next) (lb : b < h.next) (lc : c < h.next) (ld : d < h.next) (ul : us.length < 900) (vl : vs.length < 900) (wl : w.length < 900) (wl' : w'.length < 900) (ht : tld p us w p vs w' = true) (v1 v2 v4 : D) (v8 v9 v10 : Option D) :
    ∃ v8' v9' g, ex PR (callF PR 6) BD (EK v1 v2 (.int s) v4 (.tup [.int p, .ref a, .ref b]) (.tup [.int p, .ref c, .ref d]) (some (.int k)) v8 v9 v10) h = some (.nx, EK v1 v2 (.int s) v4 (.tup [.int p, .ref a, .ref b]) (.tup [.int p, .ref c, .ref d]) (some (.int k)) v8' v9' v10, g) ∧ Gro h g := by
  have hbd : BD = .seq BD.hd (.seq BD.tl.hd (.seq (BD.from 2).hd (.seq (BD.from 3).hd (BD.from 4)))) := rfl
  rw [hbd]
  obtain ⟨g1, r, e1, gr1, lr, P, Q, rr, iP, iQ⟩ := c_spoilt 3 a b c d p k s us vs w w' h ha hb hc hd la lb lc ld ul vl wl wl'
  obtain ⟨X, hX⟩ : ∃ X : D, .tup [.int p, .ref a, .ref b] = X := ⟨_, rfl⟩
  obtain ⟨Y, hY⟩ : ∃ Y : D, .tup [.int p, .ref c, .ref d] = Y := ⟨_, rfl⟩
  have last : ∀ g, Gro h g → ∀ v8 v9, ∃ g', ex PR (callF PR 6) (BD.from 4) (EK v1 v2 (.int s) v4 X Y (some (.int k)) v8 v9 v10) g = some (.nx, EK v1 v2 (.int s) v4 X Y (some (.int k)) v8 v9 v10, g') ∧ Gro h g' := by
    intro g gr v8 v9
    have le := gr.le
    obtain ⟨g', q, e, gr'⟩ := c_found_ok 0 a b c d p p us vs w w' g (gr.get ha la) (gr.get hb lb) (gr.get hc lc) (gr.get hd ld) (by omega) (by omega) (by omega) (by omega) (by omega) (by omega) (by omega) ht
    rw [hX, hY] at e
    exact ⟨g', by simp (maxSteps := 1000000) (disch := first | omega | (simp only [new_next, put_next, h0_next, List.length_map, List.length_append, List.length_cons, List.length_nil, List.length_range] <;> omega) | assumption | (simp <;> fail) | omega) [BD, F_law, Z.S.hd, Z.S.tl, Z.S.from, Z.S.bd, e], gr.trans gr'⟩
  rw [hX, hY] at e1 ⊢
  have t0 : ex PR (callF PR 6) BD.hd (EK v1 v2 (.int s) v4 X Y (some (.int k)) v8 v9 v10) h = some (.nx, EK v1 v2 (.int s) v4 X Y (some (.int k)) (some (.ref r)) v9 v10, g1) := by
    simp (maxSteps := 1000000) (disch := first | omega | (simp only [new_next, put_next, h0_next, List.length_map, List.length_append, List.length_cons, List.length_nil, List.length_range] <;> omega) | assumption | (simp <;> fail) | omega) [BD, F_law, Z.S.hd, Z.S.tl, Z.S.from, Z.S.bd, e1]
  rw [seq_nx t0]
  have le1 := gr1.le
  by_cases hk : (s + k) % 2 = 1
  · have t1 : ex PR (callF PR 6) BD.tl.hd (EK v1 v2 (.int s) v4 X Y (some (.int k)) (some (.ref r)) v9 v10) g1 = some (.nx, EK v1 v2 (.int s) v4 X Y (some (.int k)) (some (.ref g1.next)) v9 v10, g1.new (.lst [Q, P])) := by
      simp (maxSteps := 1000000) (disch := first | omega | (simp only [new_next, put_next, h0_next, List.length_map, List.length_append, List.length_cons, List.length_nil, List.length_range] <;> omega) | assumption | (simp <;> fail) | omega) [BD, F_law, Z.S.hd, Z.S.tl, Z.S.from, Z.S.bd, rr, hk]
    rw [seq_nx t1]
    have sp := SP.mk (h := h) gr1 iQ iP
    obtain ⟨f, g2, g3, e2, e3, gr3⟩ := c_judged Q P (g1.new (.lst [Q, P])) g1.next (iQ.gro .new) (iP.gro .new) (by rw [new_get, if_pos rfl]) (Nat.lt_succ_self _) v1 v2 (.int s) v4 X Y (some (.int k)) v9 v10
    rw [seq_nx e2, seq_nx e3]
    obtain ⟨g4, e4, gr4⟩ := last g3 (sp.1.trans gr3) (some (.ref g1.next)) (some f)
    exact ⟨_, _, g4, e4, gr4⟩
  · have t1 : ex PR (callF PR 6) BD.tl.hd (EK v1 v2 (.int s) v4 X Y (some (.int k)) (some (.ref r)) v9 v10) g1 = some (.nx, EK v1 v2 (.int s) v4 X Y (some (.int k)) (some (.ref r)) v9 v10, g1) := by
      simp (maxSteps := 1000000) (disch := first | omega | (simp only [new_next, put_next, h0_next, List.length_map, List.length_append, List.length_cons, List.length_nil, List.length_range] <;> omega) | assumption | (simp <;> fail) | omega) [BD, F_law, Z.S.hd, Z.S.tl, Z.S.from, Z.S.bd, hk]
    rw [seq_nx t1]
    obtain ⟨f, g2, g3, e2, e3, gr3⟩ := c_judged P Q g1 r iP iQ rr lr v1 v2 (.int s) v4 X Y (some (.int k)) v9 v10
    rw [seq_nx e2, seq_nx e3]
    obtain ⟨g4, e4, gr4⟩ := last g3 (gr1.trans gr3) (some (.ref r)) (some f)
    exact ⟨_, _, g4, e4, gr4⟩
theorem law_ok (ns : List Int) (hl : ns.length ≤ 63) : ∃ h', callF PR (6 + 1) "law" [.ref 0] (h0 ns) = some (.ok (.bl true), h') := by
  rw [callF_eq fn_law rfl]
  have hb : F_law.body = .seq F_law.body.hd (.seq F_law.body.tl.hd (.seq (F_law.body.from 2).hd (.seq (F_law.body.from 3).hd (.seq (F_law.body.from 4).hd (.seq (F_law.body.from 5).hd (.seq (F_law.body.from 6).hd (F_law.body.from 7))))))) := rfl
  rw [hb]
  have hcl := cut_len ns (some 2) (some 92)
  have hcm := cut_map D.int ns (some 2) (some 92)
  generalize cut ns (some 2) (some 92) = vs at hcl hcm
  obtain ⟨us, hus⟩ : ∃ us : List Int, vs.map (fun c => c % 16140901064495857657) = us := ⟨_, rfl⟩
  have hul : us.length = vs.length := by rw [← hus, List.length_map]
  obtain ⟨h1, hh1⟩ : ∃ h1, ((h0 ns).new (.lst (vs.map D.int))).new (.lst (us.map D.int)) = h1 := ⟨_, rfl⟩
  have n1 : h1.next = 3 := by rw [← hh1]; rfl
  have t0 : ex PR (callF PR 6) F_law.body.hd (start F_law.ns [.ref 0]) (h0 ns) = some (.nx, [some (.ref 0), some (.ref 2), none, none, none, none, none, none, none, none, none], h1) := by
    simp (maxSteps := 1000000) (disch := first | omega | (simp only [new_next, put_next, h0_next, List.length_map, List.length_append, List.length_cons, List.length_nil, List.length_range] <;> omega) | assumption | (simp <;> fail) | omega) [F_law, Z.S.hd, hcm]
    rw [compL_i D.int (fun c => c % 16140901064495857657) (by simp) (fun c _ => ⟨_, rfl, fun h => ⟨rfl, fun _ => by simp (maxSteps := 1000000) (disch := first | omega | (simp only [new_next, put_next, h0_next, List.length_map, List.length_append, List.length_cons, List.length_nil, List.length_range] <;> omega) | assumption | (simp <;> fail) | omega) []⟩⟩) (by simp) (by simp) (by omega)]
    simp (maxSteps := 1000000) (disch := first | omega | (simp only [new_next, put_next, h0_next, List.length_map, List.length_append, List.length_cons, List.length_nil, List.length_range] <;> omega) | assumption | (simp <;> fail) | omega) [hus, hh1]
  rw [seq_nx t0]
  have z1 : h1.get 0 = some (.fz (ns.map D.int)) := by rw [← hh1]; rfl
  have u1 : h1.get 2 = some (.lst (us.map D.int)) := by rw [← hh1]; rfl
  have zc := fun k h e => c_cell_lit 5 ns k h e
  obtain ⟨c, hc60, hc⟩ : ∃ c : Nat, c ≤ 59 ∧ (if 59 < cell ns 0 % ((us.length : Int) + 1) then 59 else cell ns 0 % ((us.length : Int) + 1)) = (c : Int) := by
    have := Int.emod_nonneg (cell ns 0) (show ((us.length : Int) + 1) ≠ 0 by omega)
    split
    · exact ⟨59, by omega, rfl⟩
    · exact ⟨(cell ns 0 % ((us.length : Int) + 1)).toNat, by omega, by omega⟩
  have hcu : c ≤ us.length := by
    have := Int.emod_lt_of_pos (cell ns 0) (show 0 < ((us.length : Int) + 1) by omega)
    split at hc <;> omega
  have t1 : ex PR (callF PR 6) F_law.body.tl.hd [some (.ref 0), some (.ref 2), none, none, none, none, none, none, none, none, none] h1 = some (.nx, [some (.ref 0), some (.ref 2), some (.int (c : Int)), none, none, none, none, none, none, none, none], h1) := by
    simp (maxSteps := 1000000) (disch := first | omega | (simp only [new_next, put_next, h0_next, List.length_map, List.length_append, List.length_cons, List.length_nil, List.length_range] <;> omega) | assumption | (simp <;> fail) | omega) [F_law, Z.S.hd, Z.S.tl, zc, z1, u1, hc]
  rw [seq_nx t1]
  obtain ⟨s, hs⟩ : ∃ s : Int, cell ns 1 % 1000000 = s := ⟨_, rfl⟩
  have t2 : ex PR (callF PR 6) (F_law.body.from 2).hd [some (.ref 0), some (.ref 2), some (.int (c : Int)), none, none, none, none, none, none, none, none] h1 = some (.nx, [some (.ref 0), some (.ref 2), some (.int (c : Int)), some (.int s), none, none, none, none, none, none, none], h1) := by
    simp (maxSteps := 1000000) (disch := first | omega | (simp only [new_next, put_next, h0_next, List.length_map, List.length_append, List.length_cons, List.length_nil, List.length_range] <;> omega) | assumption | (simp <;> fail) | omega) [F_law, Z.S.hd, Z.S.tl, Z.S.from, zc, z1, hs]
  rw [seq_nx t2]
  have k1 : cut (us.map D.int) none (some (c : Int)) = (us.take c).map D.int := by rw [cut_to, List.map_take]
  have k2 : cut (us.map D.int) (some (c : Int)) none = (us.drop c).map D.int := by rw [cut_from, List.map_drop]
  have l1 : (us.take c).length = c := by rw [List.length_take]; omega
  have l2 : (us.drop c).length ≤ 63 := by rw [List.length_drop]; omega
  generalize us.take c = ws at k1 l1
  generalize us.drop c = xs at k2 l2
  obtain ⟨m, hm⟩ : ∃ m : Int, 2 ^ c = m := ⟨_, rfl⟩
  have hm0 : 0 < m := by rw [← hm]; exact Int.pow_pos (by decide)
  obtain ⟨p, hp⟩ : ∃ p : Int, cell ns 1 % m = p := ⟨_, rfl⟩
  have p0 : 0 ≤ p := by rw [← hp]; exact Int.emod_nonneg _ (by omega)
  have p1 : p < m := by rw [← hp]; exact Int.emod_lt_of_pos _ hm0
  obtain ⟨ys, hys, yl⟩ : ∃ ys : List Int, xs.map D.int ++ [D.int s] = ys.map D.int ∧ ys.length = xs.length + 1 := ⟨xs ++ [s], by rw [List.map_append]; rfl, by simp⟩
  obtain ⟨h2, hh2⟩ : ∃ h2, ((h1.new (.lst (xs.map D.int))).new (.lst [.int s])).new (.lst (ys.map D.int)) = h2 := ⟨_, rfl⟩
  have n2 : h2.next = 6 := by rw [← hh2]; show h1.next + 1 + 1 + 1 = 6; omega
  have gr2 : Gro h1 h2 := by rw [← hh2]; exact (Gro.new.trans .new).trans .new
  have y5 : h2.get 5 = some (.lst (ys.map D.int)) := by rw [← hh2, new_get, if_pos (by simp only [new_next]; omega)]
  have t3 : ex PR (callF PR 6) (F_law.body.from 3).hd [some (.ref 0), some (.ref 2), some (.int (c : Int)), some (.int s), none, none, none, none, none, none, none] h1 = some (.nx, [some (.ref 0), some (.ref 2), some (.int (c : Int)), some (.int s), some (.ref 5), none, none, none, none, none, none], h2) := by
    simp (maxSteps := 1000000) (disch := first | omega | (simp only [new_next, put_next, h0_next, List.length_map, List.length_append, List.length_cons, List.length_nil, List.length_range] <;> omega) | assumption | (simp <;> fail) | omega) [F_law, Z.S.hd, Z.S.tl, Z.S.from, u1, k2, n1, hys, hh2]
  rw [seq_nx t3]
  have z2 := gr2.get z1 (by omega)
  have u2 := gr2.get u1 (by omega)
  obtain ⟨h3, hh3⟩ : ∃ h3, h2.new (.lst (ws.map D.int)) = h3 := ⟨_, rfl⟩
  have n3 : h3.next = 7 := by rw [← hh3]; show h2.next + 1 = 7; omega
  have gr3 : Gro h2 h3 := by rw [← hh3]; exact Gro.new
  have y6 : h3.get 6 = some (.lst (ws.map D.int)) := by rw [← hh3, new_get, if_pos (by omega)]
  have t4 : ex PR (callF PR 6) (F_law.body.from 4).hd [some (.ref 0), some (.ref 2), some (.int (c : Int)), some (.int s), some (.ref 5), none, none, none, none, none, none] h2 = some (.nx, [some (.ref 0), some (.ref 2), some (.int (c : Int)), some (.int s), some (.ref 5), some (.tup [.int p, .ref 5, .ref 6]), none, none, none, none, none], h3) := by
    simp (maxSteps := 1000000) (disch := first | omega | (simp only [new_next, put_next, h0_next, List.length_map, List.length_append, List.length_cons, List.length_nil, List.length_range] <;> omega) | assumption | (simp <;> fail) | omega) [F_law, Z.S.hd, Z.S.tl, Z.S.from, zc, z2, u2, hm, hp, k1, n2, hh3]
  rw [seq_nx t4]
  have y5' := gr3.get y5 (by omega)
  have r1 := c_raised 5 5 s 2305843009213693951 ys h3 (by omega) y5'
  have rl := rz_len ys s 2305843009213693951
  have rst := st_rz ys s
  have rne := rz_ne ys s (by omega)
  generalize rz ys s 2305843009213693951 = zs at r1 rl rst rne
  obtain ⟨h4, hh4⟩ : ∃ h4, (h3.new (.lst (zs.map D.int))).new (.lst (ws.map D.int)) = h4 := ⟨_, rfl⟩
  have n4 : h4.next = 9 := by rw [← hh4]; show h3.next + 1 + 1 = 9; omega
  have gr4 : Gro h3 h4 := by rw [← hh4]; exact Gro.new.trans .new
  have y7 : h4.get 7 = some (.lst (zs.map D.int)) := by rw [← hh4, new_get_lt (by simp only [new_next]; omega), new_get, if_pos (by omega)]
  have y8 : h4.get 8 = some (.lst (ws.map D.int)) := by rw [← hh4, new_get, if_pos (by simp only [new_next]; omega)]
  rw [n3] at r1
  have t5 : ex PR (callF PR 6) (F_law.body.from 5).hd [some (.ref 0), some (.ref 2), some (.int (c : Int)), some (.int s), some (.ref 5), some (.tup [.int p, .ref 5, .ref 6]), none, none, none, none, none] h3 = some (.nx, EK (.ref 2) (.int (c : Int)) (.int s) (.ref 5) (.tup [.int p, .ref 5, .ref 6]) (.tup [.int p, .ref 7, .ref 8]) none none none none, h4) := by
    simp (maxSteps := 1000000) (disch := first | omega | (simp only [new_next, put_next, h0_next, List.length_map, List.length_append, List.length_cons, List.length_nil, List.length_range] <;> omega) | assumption | (simp <;> fail) | omega) [F_law, Z.S.hd, Z.S.tl, Z.S.from, r1, y6, n3, hh4]
  rw [seq_nx t5]
  have hfw : ft p ws = true := by
    unfold ft
    rw [decide_eq_true_eq, l1, hm]
    exact ⟨p0, Int.ediv_eq_zero_of_lt p0 p1⟩
  have ht : tld p ys ws p zs ws = true := by
    unfold tld
    rw [decide_eq_true_eq]
    exact ⟨rfl, rfl, rne, hfw, by rw [rst]⟩
  have a5 := gr4.get y5' (by omega)
  have a6 := gr4.get y6 (by omega)
  have t6 : ∃ v7 v8 v9 v10 g, ex PR (callF PR 6) (F_law.body.from 6).hd (EK (.ref 2) (.int (c : Int)) (.int s) (.ref 5) (.tup [.int p, .ref 5, .ref 6]) (.tup [.int p, .ref 7, .ref 8]) none none none none) h4 = some (.nx, EK (.ref 2) (.int (c : Int)) (.int s) (.ref 5) (.tup [.int p, .ref 5, .ref 6]) (.tup [.int p, .ref 7, .ref 8]) v7 v8 v9 v10, g) := by
    have hf : (F_law.body.from 6).hd = .for_ (.name 7) .range1 (.cons (.con (.int 9)) .nil) BD := rfl
    rw [hf, ex_for_eq (vs := [.int 9]) (h1 := h4) (items := (List.range 9).map fun (i : Nat) => D.int (i : Int)) (gd := []) (by simp (maxSteps := 1000000) (disch := first | omega | (simp only [new_next, put_next, h0_next, List.length_map, List.length_append, List.length_cons, List.length_nil, List.length_range] <;> omega) | assumption | (simp <;> fail) | omega) []) rfl]
    obtain ⟨env', g, e, gr, v7, v8, v9, v10, rfl⟩ := forL_rel (fb := fun e1 h2 => ex PR (callF PR 6) BD e1 h2) (g := .name 7) (gd := []) (cs := List.range 9) (fun (i : Nat) => D.int (i : Int)) (fun d env g => Gro h4 g ∧ ∃ v7 v8 v9 v10, env = EK (.ref 2) (.int (c : Int)) (.int s) (.ref 5) (.tup [.int p, .ref 5, .ref 6]) (.tup [.int p, .ref 7, .ref 8]) v7 v8 v9 v10) (env := EK (.ref 2) (.int (c : Int)) (.int s) (.ref 5) (.tup [.int p, .ref 5, .ref 6]) (.tup [.int p, .ref 7, .ref 8]) none none none none) (h := h4) ⟨.refl, _, _, _, _, rfl⟩ (fun _ _ _ _ => stays_nil _) (by
      rintro d k rest env g hd ⟨gr, v7, v8, v9, v10, rfl⟩
      have le := gr.le
      obtain ⟨v8', v9', g', e, gr'⟩ := c_turn p 5 6 7 8 ys zs ws ws s k g (gr.get a5 (by omega)) (gr.get a6 (by omega)) (gr.get y7 (by omega)) (gr.get y8 (by omega)) (by omega) (by omega) (by omega) (by omega) (by omega) (by omega) (by omega) (by omega) ht (.ref 2) (.int (c : Int)) (.ref 5) v8 v9 v10
      exact ⟨_, rfl, _, g', e, gr.trans gr', _, _, _, _, rfl⟩)
    exact ⟨_, _, _, _, g, e⟩
  obtain ⟨v7, v8, v9, v10, g, e6⟩ := t6
  rw [seq_nx e6]
  exact ⟨g, by simp (maxSteps := 1000000) (disch := first | omega | (simp only [new_next, put_next, h0_next, List.length_map, List.length_append, List.length_cons, List.length_nil, List.length_range] <;> omega) | assumption | (simp <;> fail) | omega) [F_law, Z.S.hd, Z.S.tl, Z.S.from]⟩
end K17
end Z

theorem PySem.Challenge.cw_meterhouse_k17_clash_refused_holds : PySem.Challenge.rw_meterhouse_k17_clash_refused.Holds := by
  exact Z.K17.holds_of 6 (by decide) fun ns hl => Z.K17.law_ok ns hl
